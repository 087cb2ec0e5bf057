/- Part 5 of a proof of what the last text states; no condition. -/
import Derived.Test.YthekamjhgabkjaaGreatAe4
set_option maxRecDepth 100000
set_option maxHeartbeats 4000000
set_option linter.defProp false
set_option linter.unusedVariables false
set_option linter.unusedSimpArgs false
namespace Go.Proofs.YthekamjhgabkjaaGreat
open Go Go.RowKit
section
open T
def Ir {t:P}(ok:fS t){w:World}{b:Nat}{D:Nat->Prop}(st:GY w D b (num t e0 0).2 t.text (td (num t e0 0).1))(hD:∀g,D g->g≠b/\g< w.heap.size){R:Value->Bool->Sb}
  (hR1:oN (num t e0 0).1=none->∀w',Kr b w w'->R (.slice none 0 0) false w') (hR2:∀l,oN (num t e0 0).1=some l->∀v w',Kr b w w'->Own w.heap.size w' v l->R v true w'):Sc 59 #[ptr b] w (aw [.v,.b] R):=by
 have su:=ok.su;have hszt:=ok.size;have hsh:=(fg su.ae).2.2;generalize hu:(num t e0 0).1=u at*;have hsz:u.size<=60:=by omega
 refine iX (ptr b) w R ?_;intro b2 w3 hb2 ξ;have x3:Ex w w3:=ξ▸Ex.alloc _ _;have s3:w3.heap.size=w.heap.size+1:=by rw [ξ,size_alloc]
 have hb:=st.mc.lt;obtain⟨vl,hcl0,hl0⟩:=st.l;obtain⟨bl,vo,vt,ts,rfl,k2,k3,k4,k5,k6,k7,k8,k9⟩:=qe su hl0;obtain⟨at_,capt,hvt⟩:=k7.slice;have r3:sj b b2 (num t e0 0).2 (60* ([]:List U).length) w w3 [] (λg=>g=b2):=by
  refine⟨Km.ex x3 hb,⟨by omega,rfl,λg e=>by omega,λj=>by rw [ξ,hb2];exact aU _ _ _ _,by rw [ξ,hb2];exact aa rfl,.slice none 0 0,by rw [ξ,hb2];exact aa rfl,Own.nil _ _,λg hg=>by cases hg⟩,⟨_,st.mc.ex x3,OB _,by simp⟩,hb⟩
 have cb2:∀{w':World},Km b w w'->w'.cell? ⟨b,2,none⟩=some (ptr bl):=λk=>(k.ce 2 (by omega)).trans hcl0
 have cbl:∀{w':World},Km b w w'->∀{j:Nat} {x:Value},w.cell? ⟨bl,j,none⟩=some x->w'.cell? ⟨bl,j,none⟩=some x:=λk j x hx=>by rw [Ow (w:=w) (k.kp.block bl k3 (hD bl k2).1)];exact hx
 have hlw:∀{w':World},Km b w w'->az D w' (td u) (ptr bl):=λk=>az.kp hl0 k.kp λg hg=>(hD g hg).1
 have ο:∀{w':World},Km b w w'->∀i (hi:i< ts.length),∃bt ot Z,vt= .slice (some ⟨bt,ot,none⟩) ts.length Z/\w'.cell? ⟨bt,ot+i,none⟩=some ts[i]:=λk i hi=>by
  rcases k7 with⟨_,h0⟩ | ⟨bt,ot,Z,e,hbD,hb',G⟩
  ·rw [h0]at hi;simp at hi
  ·exact⟨bt,ot,Z,e,by rw [Ow (w:=w) (k.kp.block bt hb' (hD bt hbD).1)];exact G i _ (Ox hi)⟩
 have tth:∀{w':World},Km b w w'->∀i (h:i< u.ths.length) (h':i< ts.length),ah D w' (tl [u.ths[i]]) [ts[i]]:=λk i h h'=>ah.kp k.kp (λg hg=>(hD g hg).1) (k9 i h h')
 have hthl:u.ths.length<=60:=by
  have:∀u:U,u.ths.length<=u.size:=by
   intro u
   induction u with
   | par p q _ ih=>simp only [T.ths,Ov,T.size];omega
   | res x p ih=>simp only [T.ths,T.size];omega
   | _=>simp [T.ths,T.size]
  have :=this u;omega
 have hol:∀i (h:i< u.ths.length),(offs u.ths[i]).length<=60:=λi h=>by
  have h1:=fX u.ths[i];have h2:=bY u _ (Oz h);omega
 have hE2:∀i c d p k,k< u.ths.length->(E2 u i c d p k).length<=60:=λi c d p k hk=>by
  unfold E2;split
  ·simp
  ·rw [aR hk];have h1:=gA (f:=E3 u i k c d p) (c:=1) (l:=offs u.ths[k]) λx _=>by
    cases x with
    | rcv e' x q s=>unfold E3;simp only;split<;>simp
    | _=>simp [E3]
   have :=hol k hk;omega
 have hE2s:∀i c d p k,k<=u.ths.length->((List.range k).flatMap (E2 u i c d p)).length<=3600:=λi c d p k hk=>by
  have h1:=gA (f:=E2 u i c d p) (c:=60) (l:=List.range k) λx hx=>hE2 i c d p x (by have :=PH.1 hx;omega)
  rw [Ql]at h1;omega
 have hE1:∀i o,(E1 u i o).length<=3600:=λi o=>by
  cases o with
  | tau p=>simp [E1]
  | rcv=>simp [E1]
  | snd c d p=>exact hE2s i c d p _ (OB _)
 have hE1s:∀i j (h:i< u.ths.length),(((offs u.ths[i]).take j).flatMap (E1 u i)).length<=216000:=λi j h=>by
  have h1:=gA (f:=E1 u i) (c:=3600) (l:=(offs u.ths[i]).take j) λx _=>hE1 i x
  rw [Pd]at h1;have :=hol i h;omega
 have hE0:∀i,i< u.ths.length->(E0 u i).length<=216000:=λi h=>by
  have :=hE1s i (offs u.ths[i]).length h;rw [O4]at this;unfold E0;rw [aR h];exact this
 have hE0s:∀i,i<=u.ths.length->((List.range i).flatMap (E0 u)).length<=12960000:=λi hi=>by
  have h1:=gA (f:=E0 u) (c:=216000) (l:=List.range i) λx hx=>hE0 x (by have :=PH.1 hx;omega)
  rw [Ql]at h1;omega
 refine⟨b,0,rfl,ptr bl,cb2 r3.km,bl,0,rfl,vt,cbl r3.km k5,at_,_,capt,hvt,λx w'=>∃(i:Nat) (M:Nat->Prop),x=i/\i<=ts.length/\sj b b2 (num t e0 0).2 (60* ((List.range i).flatMap (E0 u)).length) w w' ((List.range i).flatMap (E0 u)) M,λx _=>(ts.length - x).toNat,⟨0,_,rfl,Pn _,by simpa using r3⟩,λx w16 hI=>?_⟩;obtain⟨i,M,rfl,hi,J⟩:=hI;refine⟨λhlt=>?_,λhge=>?_⟩;rotate_left
 ·have hil:i=u.ths.length:=by simp only [OF]at hge;omega
  rw [hil]at J;have hlen:=hE0s u.ths.length (OB _);have e:(List.range u.ths.length).flatMap (E0 u)=eQ u:=rfl;rw [e]at J hlen;have hol2:(outs (eQ u)).length=(eQ u).length:=by unfold outs;simp
  refine CR J.rs (by omega) (λε=>hR1 ?_ w16 J.km.kp) λε v' w' k s hv=>hR2 _ ?_ v' w' ?_ s
  ·unfold oN;rw [OP];intro h;rw [h]at ε;cases ε
  ·unfold oN;rw [O'];cases h:jo (eQ u)with
   | true=>rfl
   | false=>rw [h]at ε;cases ε
  ·exact Kp.trans J.km.kp k λg hg hM=>by have :=(J.rs.mr g hM).1;omega
 have hil:i< ts.length:=by simp only [OK]at hlt;omega
 have β:i< u.ths.length:=by omega
 obtain⟨bt,ot,Z,hvt',hct⟩:=ο J.km i hil;have ς:=su.th _ (Oz β);have hsi:=bY u _ (Oz β);have s16:=J.km.size;refine⟨bt,ot,_,Z,hvt',by omega,by omega,ts[i],by rw [OG,O8];exact hct,pE ς.1 ς.2.1 ς.2.2 (su.smp _ (Oz β)) (by omega) (λg hg=>by have :=(hD g hg).2;omega) (tth J.km i β hil) λv22 w23 xs x23 υ hm23=>?_⟩;have ek:(List.range (i+1)).flatMap (E0 u)=(List.range i).flatMap (E0 u)++E0 u i:=by rw [Qw,Pt];simp
 have eE0:E0 u i=(offs u.ths[i]).flatMap (E1 u i):=by unfold E0;rw [aR β]
 have holi:=hol i β;have hE1i:=λj=>hE1s i j β
 have hofm:∀o∈offs u.ths[i],o∈offs u.ths[i]:=λ _ h=>h
 generalize hos:offs u.ths[i]=os at*;have φ:∃a cap,v22= .slice a os.length cap:=by
  rcases υ.cell with⟨h1,h2,_⟩ | ⟨g,cap,h1,_⟩
  ·exact⟨none,0,by rw [h1,h2]⟩
  ·exact⟨_,cap,h1⟩
 obtain⟨av,cav,φ⟩:=φ;have r23:=J.ex x23;have s23:=x23.size;have hacci:=hE0s i (by omega);generalize hA:(List.range i).flatMap (E0 u)=A at*;refine⟨av,_,cav,φ,λx w'=>∃(j:Nat) (M':Nat->Prop),x=j/\j<=os.length/\sj b b2 (num t e0 0).2 (60* (A++(os.take j).flatMap (E1 u i)).length) w w' (A++(os.take j).flatMap (E1 u i)) M'/\Rel b w23 M w' M',λx _=>(os.length - x).toNat,⟨0,M,rfl,Pn _,by simpa using r23,Rel.refl b w23 M⟩,λx w30 hI=>?_⟩;obtain⟨j,M',rfl,hj,μ,γ⟩:=hI;refine⟨λhlt2=>?_,λhge2=>?_⟩;rotate_left
 ·have χ:j=os.length:=by simp only [OF]at hge2;omega
  rw [χ,O4,<-eE0,<-ek]at μ;exact⟨by omega,⟨i+1,M',by omega,by omega,μ⟩,tN (by omega)⟩
 have χ:j< os.length:=by simp only [OK]at hlt2;omega
 have hDM:∀g,D g->¬(g=b\/M g):=λg hg e=>e.elim (hD g hg).1 λhM=>by have :=(hD g hg).2;have :=(J.rs.mr g hM).1;omega
 have hMv:∀g,v22.ownBlock=some g->¬(g=b\/M g):=λg hg e=>by
  have h1:=υ.block g hg;exact e.elim (λe=>by omega) λhM=>by have :=(J.rs.mr g hM).2;omega
 have ho30:=υ.kp γ.1 hMv;have hm30:=OffsM.kp γ.1 hDM hm23;obtain⟨g,cap,cs,hvg,α,G⟩:=tJ ho30 hm30 χ;obtain⟨kk,a1,b1,vr,s1,rfl,hone⟩:=α.any;have s30:=γ.1.size;refine⟨g,0,_,cap,hvg,by omega,by omega,kk,a1,b1,vr,s1,⟨G 0 _ rfl _ (by omega) (by omega),G 1 _ rfl _ (by omega) (by omega),G 2 _ rfl _ (by omega) (by omega),G 3 _ rfl _ (by omega) (by omega),G 4 _ rfl _ (by omega) (by omega),trivial⟩,λb40 w41 hb40 hw41=>?_⟩;obtain⟨box1,nt⟩:=zD (cs:=bR kk a1 b1 vr s1) rfl hb40 hw41;refine⟨⟨rfl,pH hone,box1⟩,λι hw42=>?_⟩;obtain⟨ψ,l42,ζ⟩:=nt ι hw42;have s42:=ψ.size;have κ:=μ.ex ψ;have htk:(os.take (j+1)).flatMap (E1 u i)=(os.take j).flatMap (E1 u i)++E1 u i os[j]:=by rw [OC χ,Pt];simp
 have hE1j:=hE1i j;have nb40:∀g,w30.heap.size<=g->¬(g=b\/M' g):=λg hg e=>e.elim (λe=>by have :=μ.km.size;omega) λhM=>by have :=(μ.rs.mr g hM).2;omega
 have η:=nb40 b40 (by omega);have δ:os[j]∈os:=Oz χ;have rel42:=γ.ex ψ;have next:∀w' M2,sj b b2 (num t e0 0).2 (60* (A++(os.take j).flatMap (E1 u i)++E1 u i os[j]).length) w w' (A++(os.take j).flatMap (E1 u i)++E1 u i os[j]) M2->Rel b ι M' w' M2->bG ((j:Int)+1)/\(∃(j2:Nat) (M3:Nat->Prop),(j:Int)+1=j2/\j2<=os.length/\sj b b2 (num t e0 0).2 (60* (A++(os.take j2).flatMap (E1 u i)).length) w w' (A++(os.take j2).flatMap (E1 u i)) M3/\Rel b w23 M w' M3)/\((os.length:Int) - ((j:Int)+1)).toNat< ((os.length:Int) - j).toNat:=by
  intro w' M2 r rel;refine⟨by omega,⟨j+1,M2,by omega,by omega,?_,rel42.trans rel⟩,by omega⟩;rw [htk,<-Pe];exact r
 have hvr:∀p,(os[j]= .tau p\/(∃c d,os[j]= .snd c d p))->az D ι (td p) vr:=λp hp=>by
  rcases hp with hp | ⟨c,d,hp⟩
  ·rw [hp]at α;obtain⟨_,_,vr',_,e1,h1⟩:=α;simp only [bR,Po]at e1;rw [e1.2.2.2.1];exact az.ex h1 ψ
  ·rw [hp]at α;obtain⟨vr',_,e1,h1⟩:=α;simp only [bR,Po]at e1;rw [e1.2.2.2.1];exact az.ex h1 ψ
 cases θ:os[j]with
 | tau p=>
  have hk:kk=126:=by
   rw [θ]at α;obtain⟨_,_,_,_,e1,_⟩:=α;simp only [bR,Po,PF]at e1;exact OU.1 (by have e2:=e1.1.2;have e3:(126:UInt8).toNat=126:=rfl;omega)
  subst hk;rw [θ]at next δ;refine⟨λw'=>∃M2,sj b b2 (num t e0 0).2 (60* (A++(os.take j).flatMap (E1 u i)++E1 u i (.tau p)).length) w w' (A++(os.take j).flatMap (E1 u i)++E1 u i (.tau p)) M2/\Rel b ι M' w' M2,⟨126,ζ 0 (by omega),df (by decide) ?_⟩,λν hJ=>?_⟩
  ·refine Ls ok su hsz κ (cb2 κ.km) (hlw κ.km) hD β (by rw [hos];exact δ) (ζ 3 (by omega)) l42 (λhM=>η (.inr hM)) (hvr p (.inl θ)) (by rw [Oy];omega) λw3 M3 r3 k3 hM3=>⟨M3,?_,⟨Kp.mono (λ _ h=> .inr h) k3,hM3⟩⟩
   exact r3.mono (by simp only [Oy];omega)
  ·obtain⟨M2,r70,ω⟩:=hJ;refine⟨126,?_,λ _=>next ν M2 r70 ω,λh=>absurd h (by decide)⟩;rw [Ow (w:=ι) (ω.1.block b40 l42 η)];exact ζ 0 (by omega)
 | rcv a x q s=>
  have hk:kk=63:=by
   rw [θ]at α;obtain⟨_,e1,_⟩:=α;simp only [bR,Po,PF]at e1;exact OU.1 (by have e2:=e1.1.2;have e3:(63:UInt8).toNat=63:=rfl;omega)
  subst hk;rw [θ]at next;refine⟨λw'=>w'=ι,⟨63,ζ 0 (by omega),aW (by decide) rfl⟩,λν hJ=>?_⟩;subst hJ;refine⟨63,ζ 0 (by omega),λ _=>next ν M' ?_ (Rel.refl _ _ _),λh=>absurd h (by decide)⟩;have e:E1 u i (.rcv a x q s)=[]:=rfl;rw [e,O5];exact κ
 | snd c d p=>
  have hk:kk=33/\a1=c/\b1=d:=by
   rw [θ]at α;obtain⟨_,_,e1,_⟩:=α;simp only [bR,Po,PF]at e1;have e3:(33:UInt8).toNat=33:=rfl;exact⟨OU.1 (by have e2:=e1.1.2;omega),by have :=e1.2.1.2;omega,by have :=e1.2.2.1.2;omega⟩
  obtain⟨rfl,rfl,rfl⟩:=hk;rw [θ]at next δ;refine⟨λw'=>w'=ι,⟨33,ζ 0 (by omega),aW (by decide) rfl⟩,λν hJ=>?_⟩;subst hJ;refine⟨33,ζ 0 (by omega),λh=>absurd h (by decide),λ _=>?_⟩;refine⟨b,0,rfl,ptr bl,cb2 κ.km,bl,0,rfl,vt,cbl κ.km k5,at_,_,capt,hvt,λx w'=>∃(k:Nat) (M2:Nat->Prop),x=k/\k<=ts.length/\sj b b2 (num t e0 0).2 (60* (A++(os.take j).flatMap (E1 u i)++(List.range k).flatMap (E2 u i a1 b1 p)).length) w w' (A++(os.take j).flatMap (E1 u i)++(List.range k).flatMap (E2 u i a1 b1 p)) M2/\Rel b ν M' w' M2,λx _=>(ts.length - x).toNat,⟨0,M',rfl,Pn _,by simpa using κ,Rel.refl _ _ _⟩,λx w84 hI=>?_⟩;obtain⟨k,M2,rfl,hk,r84,H⟩:=hI;refine⟨λhlt3=>?_,λhge3=>?_⟩;rotate_left
  ·have hkl:k=u.ths.length:=by simp only [OF]at hge3;omega
   rw [hkl]at r84;exact next w84 M2 r84 H
  have hkl:k< ts.length:=by simp only [OK]at hlt3;omega
  have hku:k< u.ths.length:=by omega
  obtain⟨bt2,ot2,capt2,hvt2,hct2⟩:=ο r84.km k hkl;have hE2k:=hE2s i a1 b1 p k (by omega);have s84:=H.1.size;have hDM':∀g,D g->¬(g=b\/M' g):=λg hg e=>e.elim (hD g hg).1 λhM=>by have :=(hD g hg).2;have :=(μ.rs.mr g hM).1;omega
  refine⟨bt2,ot2,_,capt2,hvt2,by omega,by omega,ts[k],by rw [OG,O8];exact hct2,?_⟩;refine LY (D:=D) hu.symm rfl ok su hsz hcl0 hl0 hD β hku (by rw [hos];exact δ) r84 (by simp only [Oy];omega) (λjj hjj=>by rw [Ow (w:=ν) (H.1.block b40 l42 η)];exact ζ jj hjj) (by omega) (λhM=>(H.2 b40 hM).elim (λh=>η (.inr h)) λh=>by omega) (λe=>η (.inl e)) (az.kp (hvr p (.inr ⟨_,_,θ⟩)) H.1 hDM') (tth r84.km k hku hkl) λw3 M3 r3 rel3=>⟨by omega,⟨k+1,M3,by omega,by omega,?_,H.trans rel3⟩,tN (by omega)⟩
  have e5:(List.range (k+1)).flatMap (E2 u i a1 b1 p)=(List.range k).flatMap (E2 u i a1 b1 p)++E2 u i a1 b1 p k:=by rw [Qw,Pt];simp
  rw [e5,<-Pe];exact r3
end
section
open T Classical
def Gz {f:Tx}{ps:List P}{v:Value}{w:World}{u:U}(hs:Strs w v (ps.map T.text))(hl:dk (ps.map T.text)<=1000000000)(d:gB 0 (resL f (parL ps)) σ0 u){R:aD->Bool->Sb}
  (h:∀w',Ex w w'->(∀s,cL u=some s->R s true w')/\(cL u=none->R [] false w')):Sc 110 #[.string (ak f),v] w (aw [.s,.b] R):=by
 refine vG f v w R ?_;dsimp only [go_sem];dsimp only [go_sem,Nat.reduceAdd];obtain⟨a,cap,hv⟩:=hs.slice;have J:=d.den.len;have G:=mY (parL ps) f;rw [G,dT]at J;have δ:ps≠[]->joinS 38 (ps.map T.text)=(parL ps).text:=λH=>(mO H).symm
 have ε:ps=[]->(parL ps).text=[48]:=λe=>by rw [e];rfl
 refine⟨a,_,cap,hv,λZ=>?_,λZ=>?_⟩
 ·have H:ps≠[]:=by
   intro e;simp [e]at Z
  refine qp hs (by simpa using H) (by omega) ?_;rw [δ H];revert G J;generalize (parL ps).text=body;intro J G;refine⟨by omega,λs i w'=>w'=w/\∃m:Nat,i=(m:Int) - 1/\m<=f.length/\s=wrap (f.drop m) body,λ _ i _=>(i+1).toNat,⟨rfl,f.length,rfl,OB _,by rw [Qd];rfl⟩,λs i w' hI=>?_⟩;obtain⟨rfl,m,rfl,hm,rfl⟩:=hI;refine⟨λZ=>?_,λZ=>?_⟩
  ·obtain⟨m,rfl⟩:∃k,m=k+1:=⟨m - 1,by simp at Z;omega⟩
   have α:m< f.length:=by omega
   have e:(((m+1:Nat):Int) - 1)=(m:Int):=by omega
   have β:=mz α body;have γ:=dT (f.drop (m+1)) body;rw [P7]at γ;rw [e,ub α];refine⟨by omega,⟨by omega,by omega,by omega⟩,by simp,by simp,by simp only [Oy,Ov,ON];omega,by omega,⟨rfl,m,rfl,by omega,?_⟩,by show((m:Int) - 1+1).toNat< ((m:Int)+1).toNat;omega⟩;rw [β];rfl
  ·have:m=0:=by simp at Z;omega
   subst this;rw [Qk,<-G];exact zd d h
 ·have H:ps=[]:=by
   cases ps with
   | nil=>rfl
   | cons=>simp at Z
  rw [<-ε H];revert G J;generalize (parL ps).text=body;intro J G;refine⟨by omega,λs i w'=>w'=w/\∃m:Nat,i=(m:Int) - 1/\m<=f.length/\s=wrap (f.drop m) body,λ _ i _=>(i+1).toNat,⟨rfl,f.length,rfl,OB _,by rw [Qd];rfl⟩,λs i w' hI=>?_⟩;obtain⟨rfl,m,rfl,hm,rfl⟩:=hI;refine⟨λZ=>?_,λZ=>?_⟩
  ·obtain⟨m,rfl⟩:∃k,m=k+1:=⟨m - 1,by simp at Z;omega⟩
   have α:m< f.length:=by omega
   have e:(((m+1:Nat):Int) - 1)=(m:Int):=by omega
   have β:=mz α body;have γ:=dT (f.drop (m+1)) body;rw [P7]at γ;rw [e,ub α];refine⟨by omega,⟨by omega,by omega,by omega⟩,by simp,by simp,by simp only [Oy,Ov,ON];omega,by omega,⟨rfl,m,rfl,by omega,?_⟩,by show((m:Int) - 1+1).toNat< ((m:Int)+1).toNat;omega⟩;rw [β];rfl
  ·have:m=0:=by simp at Z;omega
   subst this;rw [Qk,<-G];exact zd d h
def cV (e B:Nat)(w:World)(v:Value)(n:Nat)(xs:List Value):Prop:=w.ownsRow B e 5 v n xs
section
variable {e B:Nat} {w w':World} {v:Value} {n:Nat} {xs:List Value}
def cV.nil (e B:Nat)(w:World):cV e B w (.slice none 0 0) 0 []:=RA _ _ _ _
def cV.block (h:cV e B w v n xs):∀b,v.ownBlock=some b->B<=b/\b< w.heap.size:=QX h
def cV.mono {G:Nat}(h:cV e B w v n xs)(hb:G<=B):cV e G w v n xs:=Q4 h hb
def cV.kp {S:Nat->Prop}(h:cV e B w v n xs)(k:Kp w w' S)(H:∀g,v.ownBlock=some g->¬S g):cV e B w' v n xs:=by
 refine⟨h.1,?_⟩;rcases h.2 with J | ⟨g,cap,cur,rfl,hb,G,rest⟩
 ·exact .inl J
 ·exact .inr ⟨g,cap,cur,rfl,hb,by rw [k.block g (Ph.1 G).1 (H g rfl)];exact G,rest⟩
def cV.ex (h:cV e B w v n xs)(x:Ex w w'):cV e B w' v n xs:=h.kp (Kp.ab x λ _=>False) λ _ _ h=>h
def cV.cell (h:cV e B w v n xs):(v= .slice none 0 0/\n=0/\xs=[])\/∃g cap,v= .slice (some ⟨g,0,none⟩) n cap/\g< w.heap.size/\∀j u,xs[j]?=some u->w.cell? ⟨g,0+j,none⟩=some u:=by
 have G:=h.1;rcases h.2 with⟨Z,H⟩ | ⟨g,cap,cur,rfl,hb,J,h1,h2,h3,h4⟩
 ·left;refine⟨Z,H,Pa (by rw [G,H])⟩
 ·refine .inr ⟨g,cap,rfl,(Ph.1 J).1,λj u hu=>?_⟩;have hj:j< xs.length:=(Px.1 hu).1;unfold World.cell?;simp only [J,O6];rw [<-h4,PS (by rw [<-G];exact hj),PO]at hu;exact hu
def cV.src (h:cV e B w v n xs)(ha:xs.all oneV=true):fp w v n 5 xs:=by
 refine⟨h.1,ha,?_⟩;rcases h.cell with⟨rfl,rfl,_⟩ | ⟨g,cap,rfl,_,G⟩
 ·exact .inl ⟨rfl,rfl⟩
 ·exact .inr ⟨g,0,cap,rfl,G⟩
def cV.one {b:Nat}{cs:List Value}(G:cs.length=5)(hB:B<=w.heap.size)(hb:b=w.heap.size)(h:w'=w.alloc (.cells cs.toArray e)):cV e B w' (.slice (some ⟨b,0,none⟩) 1 1) 1 cs:=by
 subst hb h;refine⟨by rw [G],.inr ⟨_,1,cs.toArray,rfl,hB,?_,by simp,by unfold maxLen;omega,by simp [G],Rm (by simp [G])⟩⟩;unfold World.alloc;simp
def cV.push {x:Value}{m by_:Nat}{J:List Value}(h:cV e B w v n xs)(hB:B<=w.heap.size)(hx:fp w x m 5 J)(Z:by_<=48)(hl:n+m<=1099511627776){K:Value->Sb}
  (hK:∀G w',cV e B w' G (n+m) (xs++J)->w.grownBy w' v.ownBlock->(∀b,G.ownBlock=some b->v.ownBlock=some b\/w.heap.size<=b)->K G w'):
  ∃(base n' m':Nat) (H news:List Value),World.ownsRow w base e 5 v n' H/\base<=Array.size (World.heap w)/\fp w x m' 5 news/\(n'+m'<=maxLen/\(n'+m')* by_<=140737488355328)/\
   ∀(G:Value) (w':World),World.ownsRow w' base e 5 G (n'+m') (H++news)->World.grownBy w w' (Value.ownBlock v)->(∀b:Nat,Value.ownBlock G=some b->Value.ownBlock v=some b\/Array.size (World.heap w)<=b)->K G w':=
 ⟨B,n,m,xs,J,h,hB,hx,⟨by unfold maxLen;omega,by have :=Rl (OB (n+m)) Z;omega⟩,λG w' ho hg hw=>hK G w' ho hg hw⟩
def cV.set {g cap j:Nat}{x:Value}(h:cV e B w (.slice (some ⟨g,0,none⟩) n cap) n xs)(hw:w'=w.setCell ⟨g,j,none⟩ x)(hj:j< xs.length):cV e B w' (.slice (some ⟨g,0,none⟩) n cap) n (xs.set j x):=by
 subst hw;rcases h.2 with⟨H,_⟩ | ⟨g',G,cur,J,hb,Z,h1,h2,h3,h4⟩
 ·cases H
 ·cases J;have hl:=h.1;have e:(w.setCell ⟨g,j,none⟩ x).heap[g]?=some (.cells (cur.setIfInBounds j x) e (0,0)):=by
   rw [Sort.setCell_eq];simp [Sort.mapBlock,Qh,Z,Sort.onCells]
  refine⟨by rw [PW];exact hl,.inr ⟨g,cap,_,by simp,hb,e,by simpa using h1,h2,by simpa using h3,?_⟩⟩;rw [Array.toList_setIfInBounds,List.take_set,h4]
def cV.fr (h:cV e B w v n xs){g:Nat}(H:v.ownBlock=some g)(j:Nat):w.frozen? ⟨g,j,none⟩=false:=by
 rcases h.2 with⟨rfl,Z⟩ | ⟨J,cap,cur,rfl,hb,G,_⟩
 ·cases H
 ·have e:J=g:=Pr H;subst e;unfold World.frozen?;simp only [G];simp
end
def dY (k a b:UInt8)(s:Tx)(q:Bool):List Value:=[.int .u8 k.toNat,.int .u8 a.toNat,.int .u8 b.toNat,.string (ak s),.bool q]
def xe:Off UInt8->List Value->Prop
 | .tau p,cs=>∃a b s,cs=dY 126 a b p.text s
 | .snd a b p,cs=>∃s,cs=dY 33 a b p.text s
 | .rcv a x q s,cs=>cs=dY 63 a x q.text s
def fZ:List (Off UInt8)->List Value->Prop
 | [],xs=>xs=[]
 | o::os,xs=>∃cs G,xs=cs++G/\xe o cs/\fZ os G
def xe.any {o:Off UInt8}{cs:List Value}(h:xe o cs):∃(k a b:UInt8) (s:Tx) (q:Bool),cs=dY k a b s q:=by
 cases o with
 | tau p=>obtain⟨a,b,s,h⟩:=h;exact⟨_,_,_,_,_,h⟩
 | snd a b p=>obtain⟨s,h⟩:=h;exact⟨_,_,_,_,_,h⟩
 | rcv a b p s=>exact⟨_,_,_,_,_,h⟩
def fZ.app:∀{os G:List (Off UInt8)} {xs H:List Value},fZ os xs->fZ G H->fZ (os++G) (xs++H)
 | [],_,xs,H,h,k=>by cases h;exact k
 | o::os,_,xs,H,⟨cs,zs,J,Z,h3⟩,k=>⟨cs,zs++H,by rw [J,Pe],Z,h3.app k⟩
def fZ.len:∀{os:List (Off UInt8)} {xs:List Value},fZ os xs->xs.length=os.length* 5/\xs.all oneV=true
 | [],xs,h=>by cases h;exact⟨rfl,rfl⟩
 | o::os,xs,⟨cs,zs,G,H,J⟩=>by
  obtain⟨h4,h5⟩:=J.len;obtain⟨k,a,b,s,q,e⟩:=H.any;subst G e;exact⟨by simp [dY,h4];omega,by rw [QP,h5];rfl⟩
def fZ.at:∀{os:List (Off UInt8)} {xs:List Value},fZ os xs->∀{i:Nat} (hi:i< os.length),∃cs,xe os[i] cs/\∀j,j< 5->xs[i* 5+j]?=cs[j]?
 | o::os,xs,⟨cs,zs,H,G,Z⟩,0,_=>⟨cs,G,λj hj=>by
   obtain⟨k,a,b,s,q,e⟩:=G.any;have hl:cs.length=5:=by rw [e];rfl
   rw [H,List.getElem?_append_left (by omega)];congr 1;omega⟩
 | o::os,xs,⟨cs,zs,H,G,Z⟩,i+1,hi=>by
   obtain⟨J,k1,k2⟩:=Z.at (i:=i) (by simpa using hi);refine⟨J,k1,λj hj=>?_⟩;obtain⟨k,a,b,s,q,e⟩:=G.any;have hl:cs.length=5:=by rw [e];rfl
   rw [H,List.getElem?_append_right (by omega),<-k2 j hj];congr 1;omega
def fZ.one {o:Off UInt8}{cs:List Value}(h:xe o cs):fZ [o] cs:=⟨cs,[],by simp,h,rfl⟩
abbrev tO:Nat:=122
def jU:∀(n:Nat) {t:P},t.size<=n->Ok t->t.smp=true->t.size<=1000000->∀{w:World} {R:Value->Sb},(∀v w' xs,Ex w w'->cV tO w.heap.size w' v (offs t).length xs->fZ (offs t) xs->R v w')->Sc 109 #[.string (ak t.text)] w (aw [.v] R):=by
 intro n
 induction n with
 | zero=>intro t h;have :=aX t;omega
 | succ n ih=>
  intro t hn ok hs hsz w R h;refine rO _ w R ?_;dsimp only [go_sem];dsimp only [go_sem,Nat.reduceAdd];refine aT ok ?_;have none_:offs t=[]->R (.slice none 0 0) w:=λe=>by
   have :=h (.slice none 0 0) w [] (Ex.refl w);rw [e]at this;exact this (cV.nil _ _ _) rfl
  cases t with
  | nil=>repeat' first | exact none_ rfl | refine aW (by simp [T.kind]) ?_
  | par p q=>repeat' first | exact none_ rfl | refine aW (by simp [T.kind]) ?_
  | res x p=>repeat' first | exact none_ rfl | refine aW (by simp [T.kind]) ?_
  | mat a b p=>repeat' first | exact none_ rfl | refine aW (by simp [T.kind]) ?_
  | snd a b p=>
   refine df rfl (df rfl ⟨λ _=>True,λw5 η=>⟨trivial,⟨by omega,by simp [T.text];omega⟩,⟨by omega,by simp [T.text];omega⟩,⟨by omega,by simp [T.text];omega⟩,aT ok ⟨trivial,λb8 w9 J G=>⟨trivial,?_⟩⟩⟩⟩);have x5:Ex w w5:=η▸Ex.drew w;exact h _ w9 _ (Ex.trans x5 (G▸Ex.alloc w5 _)) (cV.one (cs:=dY 33 a b p.text false) rfl x5.size J G) (fZ.one ⟨false,rfl⟩)
  | rcv a b p=>
   refine aW (by simp [T.kind]) (df rfl ⟨λ _=>True,λw5 η=>⟨trivial,⟨by omega,by simp [T.text];omega⟩,⟨by omega,by simp [T.text];omega⟩,⟨by omega,by simp [T.text];omega⟩,aT ok ⟨trivial,λb8 w9 J G=>⟨trivial,?_⟩⟩⟩⟩);have x5:Ex w w5:=η▸Ex.drew w;exact h _ w9 _ (Ex.trans x5 (G▸Ex.alloc w5 _)) (cV.one (cs:=dY 63 a b p.text false) rfl x5.size J G) (fZ.one rfl)
  | tau p=>
   refine aW (by simp [T.kind]) (aW (by simp [T.kind]) (df rfl ⟨⟨by omega,by simp [T.text];omega⟩,λb8 w9 J G=>?_⟩));exact h _ w9 _ (G▸Ex.alloc w _) (cV.one (cs:=dY 126 0 0 p.text false) rfl (OB _) J G) (fZ.one ⟨0,0,false,rfl⟩)
  | sum p q=>
   have hs:(p.gp&&q.gp&&(p.smp&&q.smp))=true:=hs;simp only [OA]at hs;have θ:=ok.parts p (by simp [T.parts]);have φ:=ok.parts q (by simp [T.parts]);have e:(T.sum p q).size=p.size+q.size+1:=by simp only [T.size]
   refine aW (by simp [T.kind]) (aW (by simp [T.kind]) (aW (by simp [T.kind]) (df rfl (de ok λv1 w1 x1 ν=>⟨λw'=>Ex w1 w',λχ ε=>⟨ε▸Ex.drew w1,?_⟩⟩))));have H:Ex w1 χ:=ε▸Ex.drew w1;refine ν.G3 (i:=0) (x:=p.text) (by omega) rfl (Q:=λn=>_) (ν.G3 (i:=1) (x:=q.text) (by omega) rfl (Q:=λn=>_) ?_);have Z:=Ex.trans x1 H;refine ih (by omega) θ hs.2.1 (by omega) λv26 w27 xs α β ξ=>⟨Ex.trans H α,ih (by omega) φ hs.2.2 (by omega) λv28 ψ ys γ ο ζ=>⟨Ex.trans H (Ex.trans α γ),?_⟩⟩
   have δ:=Ex.trans Z (Ex.trans α γ);have l1:=fX p;have l2:=fX q;refine cV.push ((β.ex γ).mono Z.size) δ.size (ο.src ζ.len.2) (by omega) (by omega) λv35 ς ho hg hn=>?_
   have ω:Below w.heap.size ψ ς:=Below.grown (R8 _ _) hg δ.size λk hk=>by have :=(β.block k hk).1;have :=Z.size;omega
   refine⟨Below.trans (Ex.trans H (Ex.trans α γ)) ?_,h _ ς _ (Ex.below δ ω) (by rw [show(offs (T.sum p q)).length=(offs p).length+(offs q).length from Oy];exact ho) (ξ.app ζ)⟩;exact Below.grown (R8 _ _) hg (Ex.trans H (Ex.trans α γ)).size λk hk=>by have :=(β.block k hk).1;have :=H.size;omega
  | rep p=>
   have ι:(p.isR&&p.smp)=true:=hs;simp only [OA]at ι;have θ:=ok.parts p (by simp [T.parts]);refine aW (by simp [T.kind]) (aW (by simp [T.kind]) (aW (by simp [T.kind]) (aW (by simp [T.kind]) (df rfl ⟨⟨by omega,by simp [T.text];omega⟩,?_⟩))));have e:(T.rep p).size=p.size+1:=by simp only [T.size]
   refine ih (t:=p) (by omega) θ ι.2 (by omega) λv w1 xs x1 ho hm=>?_
   cases p<;>try (simp [T.isR]at ι;done)
   rename_i a b q;obtain⟨cs,ys,rfl,κ,rfl⟩:=hm;have κ:cs=dY 63 a b q.text false:=κ;subst κ;have hl1:(offs (T.rcv a b q)).length=1:=rfl;rw [hl1]at ho;rcases ho.cell with⟨_,h0,_⟩ | ⟨g,cap,rfl,hg,hc⟩
   ·cases h0
   have hfr:=ho.fr (g:=g) rfl;have hgb:=(ho.block g rfl).1;refine⟨_,_,cap,rfl,λx w'=>(x=0/\w'=w1)\/(x=1/\w'=w1.setCell ⟨g,4,none⟩ (.bool true)),λx _=>(1 - x).toNat,.inl ⟨rfl,rfl⟩,λx w' hI=>⟨λμ=>?_,λμ=>?_⟩⟩
   ·rcases hI with⟨rfl,rfl⟩ | ⟨rfl,_⟩
    ·have c4:w'.cell? ⟨g,4,none⟩=some (.bool false):=hc 4 _ rfl;refine⟨g,0,_,cap,rfl,by omega,by omega,⟨⟨_,c4⟩,hfr 4⟩,λw51 υ=>⟨by omega,.inr ⟨rfl,υ⟩,by show((1:Int) - (0+1)).toNat< ((1:Int) - 0).toNat;decide⟩⟩
    ·simp at μ
   ·rcases hI with⟨rfl,_⟩ | ⟨_,rfl⟩
    ·simp at μ
    ·exact h _ _ _ (Ex.own x1 hgb _) (ho.set rfl (by simp [dY])) (fZ.one rfl)
structure JO (B b r:Nat)(fs:Tx)(w:World)(all:List Tx)(n:Nat)(mm:Value->Option Value)(L:Nat->Prop):Prop where
 lb:B<=b
 lt:b< w.heap.size
 lr:B<=r
 br:b≠r
 f:∀j,w.frozen? ⟨b,j,none⟩=false
 c0:w.cell? ⟨b,0,none⟩=some (.string (ak fs))
 c2:w.cell? ⟨b,2,none⟩=some (.map (some r))
 mp:IsMap w r .string mm
 ml:∀g,L g->B<=g/\g< w.heap.size/\g≠b/\g≠r
 sl:∃v,w.cell? ⟨b,1,none⟩=some v/\Own B w v all/\∀g,v.ownBlock=some g->g≠b/\g≠r/\¬L g
 nx:∀j (h:j< all.length),j< n->∃v l,mm (.string (ak all[j]))=some v/\N9 all[j]=some l/\Strs w v l/\∀g,v.ownBlock=some g->L g
section
variable {B b r n:Nat} {fs:Tx} {w w':World} {all:List Tx} {mm:Value->Option Value} {L:Nat->Prop}
def JO.ex (h:JO B b r fs w all n mm L)(x:Ex w w'):JO B b r fs w' all n mm L:=by
 obtain⟨v,H,J,Z⟩:=h.sl;have s:=x.size;refine⟨h.lb,by have :=h.lt;omega,h.lr,h.br,λj=>by rw [Qr x h.lt];exact h.f j,by rw [x.cell (a:=⟨b,0,none⟩) h.lt];exact h.c0,by rw [x.cell (a:=⟨b,2,none⟩) h.lt];exact h.c2,jl h.mp (x.block r (jt h.mp)),λg G=>⟨(h.ml g G).1,by have :=(h.ml g G).2.1;omega,(h.ml g G).2.2⟩,⟨v,by rw [x.cell (a:=⟨b,1,none⟩) h.lt];exact H,J.ex x,Z⟩,λj hj hn=>?_⟩;obtain⟨v',l,h4,h5,h6,h7⟩:=h.nx j hj hn;exact⟨v',l,h4,h5,h6.ex x,h7⟩
def Kp.Ma (k:dO w w' r):Kp w w' λg=>g=r:=⟨k.os,k.tape,k.output,Nat.le_of_eq k.size.symm,λg _ G=>k.block g G⟩
def uc {v:Value}{g off m cap:Nat}(h:v= .slice (some ⟨g,off,none⟩) m cap):v.ownBlock=some g:=by rw [h];rfl
def JO.aI (h:JO B b r fs w all n mm L)(hB:B<=w.heap.size){w1:World}(x:Ex w w1)(hn:n< all.length){v:Value}{l:List Tx}(hl:N9 all[n]=some l)(hm:IsMap w' r .string (gF mm (.string (ak all[n])) v))(k:dO w1 w' r)(hs:Strs w1 v l)(J:∀g,v.ownBlock=some g->w.heap.size<=g):
  JO B b r fs w' all (n+1) (gF mm (.string (ak all[n])) v) λg=>L g\/v.ownBlock=some g:=by
 have H:=h.ex x;have η:=h.lt;have hr:=jt h.mp;have kp:=Kp.Ma k;have eb:=k.block b h.br;have β:∀g,v.ownBlock=some g->g< w1.heap.size:=λg G=>by
  rcases hs with⟨e,_⟩ | ⟨b',off,cap,e,h2,_⟩
  ·rw [e]at G;cases G
  ·rw [e]at G;cases G;exact h2
 obtain⟨vo,k1,k2,k3⟩:=H.sl;obtain⟨γ,δ,ε,θ⟩:=h.sl;have ζ:vo=γ:=by
  have :=x.cell (a:=⟨b,1,none⟩) h.lt;rw [k1,δ]at this;exact Pr this
 subst ζ;refine⟨h.lb,by have :=k.size;have :=H.lt;omega,h.lr,h.br,λj=>by rw [O7 (w:=w1) eb];exact H.f j,by rw [Ow (w:=w1) eb];exact H.c0,by rw [Ow (w:=w1) eb];exact H.c2,hm,λg G=>?_,⟨vo,by rw [Ow (w:=w1) eb];exact k1,k2.kp kp λg G=>(k3 g G).2.1,λg G=>⟨(k3 g G).1,(k3 g G).2.1,λe=>e.elim (k3 g G).2.2 λe=>?_⟩⟩,λj hj ι=>?_⟩
 ·rcases G with G | G
  ·have :=H.ml g G;exact⟨this.1,by have :=k.size;omega,this.2.2⟩
  ·have h2:=J g G;have h3:=β g G;exact⟨by omega,by have :=k.size;omega,by omega,by omega⟩
 ·have h2:=J g e;have h3:=ε.block g G;omega
 ·have Z:∀{v':Value} {l':List Tx},Strs w1 v' l'->(∀g,v'.ownBlock=some g->g≠r)->Strs w' v' l':=λhs J=>hs.kp kp λb' off n' cap e e'=>J b' (uc e) e'
  by_cases e:all[j]=all[n]
  ·refine⟨v,l,by rw [e];unfold gF;simp,by rw [e];exact hl,Z hs λg G=>by have :=J g G;omega,λg G=> .inr G⟩
  ·have α:j< n:=by
    have:j≠n:=λe'=>e (by subst e';rfl)
    omega
   obtain⟨v',l',h4,h5,h6,h7⟩:=H.nx j hj α;refine⟨v',l',?_,h5,Z h6 λg G=>(H.ml g (h7 g G)).2.2.2,λg G=> .inl (h7 g G)⟩;unfold gF;rw [OP]
   ·exact h4
   ·intro e';exact e (m9 (Value.string.inj e'))
def JO.app (h:JO B b r fs w all n mm L)(hn:n<=all.length)(hB:B<=w.heap.size){v:Value}(hv:w.cell? ⟨b,1,none⟩=some v){s:Tx}{w1 H:World}(x:Ex w w1){v':Value}(ho:Own B H v' (all++[s]))(J:w1.grownBy H v.ownBlock)(γ:∀g,v'.ownBlock=some g->v.ownBlock=some g\/w1.heap.size<=g):
  ((∃u,H.cell? ⟨b,1,none⟩=some u)/\H.frozen? ⟨b,1,none⟩=false)/\∀w',w'=H.setCell ⟨b,1,none⟩ v'->JO B b r fs w' (all++[s]) n mm L/\Below B w w':=by
 have G:=h.ex x;obtain⟨vo,k1,k2,k3⟩:=G.sl;have δ:vo=v:=by
  have :=x.cell (a:=⟨b,1,none⟩) h.lt;rw [k1,hv]at this;exact Pr this
 subst δ;have k:Kp w1 H λg=>vo.ownBlock=some g:=Kp.aP J λ _ h=>h
 have s1:=x.size;have ε:=G.lt;have e2:=k.block b ε λe=>(k3 b e).1 rfl
 have c1:H.cell? ⟨b,1,none⟩=some vo:=by rw [Ow (w:=w1) e2];exact k1
 have f2:∀j,H.frozen? ⟨b,j,none⟩=false:=λj=>by rw [O7 (w:=w1) e2];exact G.f j
 refine⟨⟨⟨_,c1⟩,f2 1⟩,λw' Z=>?_⟩;have kr:Kr b H w':=Z▸Kr.set H 1 _;have sk:=k.size;have sr:=kr.size;have ζ:=jt G.mp;have α:∀g,v'.ownBlock=some g->g≠b/\g≠r/\¬L g:=λg J=>(γ g J).elim (k3 g) λe=>⟨by omega,by omega,λhL=>by have :=(G.ml g hL).2.1;omega⟩
 have η:∀{g},g≠b->g< w1.heap.size->vo.ownBlock≠some g->w'.heap[g]?=w1.heap[g]?:=λ{g} h3 h4 h5=>(kr.block g (by omega) h3).trans (k.block g h4 h5)
 refine⟨⟨h.lb,by omega,h.lr,h.br,λj=>by rw [Z,OS];exact f2 j,?_,?_,jl G.mp (η h.br.symm ζ λe=>(k3 r e).2.1 rfl),λg J=>⟨(G.ml g J).1,by have :=(G.ml g J).2.1;omega,(G.ml g J).2.2⟩,⟨v',by rw [Z];exact OQ _ _ _ c1,ho.kp kr λg J=>(α g J).1,α⟩,λj hj θ=>?_⟩,?_⟩
 ·rw [Z,OD _ _ _ _ (by simp),Ow (w:=w1) e2];exact G.c0
 ·rw [Z,OD _ _ _ _ (by simp),Ow (w:=w1) e2];exact G.c2
 ·have β:j< all.length:=by omega
  rw [List.getElem_append_left β];obtain⟨v2,l2,h4,h5,h6,h7⟩:=G.nx j β θ;have kk:Kp w1 w' λg=>vo.ownBlock=some g\/g=b:=Kp.trans (Kp.mono (λ _ h=> .inl h) k) kr λ _ _ h=> .inr h
  exact⟨v2,l2,h4,h5,h6.kp kk λb' off n' cap e e'=>e'.elim (λe'=>(k3 b' e').2.2 (h7 b' (uc e))) λe'=>(G.ml b' (h7 b' (uc e))).2.2.1 e',h7⟩
 ·have b1:Below B w w1:=Below.mono x hB;have b2:Below B w1 H:=Kp.below k (by omega) λg J e=>by have :=(k2.block g e).1;omega
  have b3:Below B H w':=Kp.below kr (by omega) λg J e=>by have :=h.lb;omega
  exact Below.trans (Below.trans b1 b2) b3
end
def Gr (w0:World)(o0:Value)(w:World)(o:Value):Prop:=Kp w0 w (λg=>o0.ownBlock=some g)/\∀g,o.ownBlock=some g->o0.ownBlock=some g\/w0.heap.size<=g
def Gr.refl (w:World)(o:Value):Gr w o w o:=⟨Kp.ab (Ex.refl w) _,λ _ h=> .inl h⟩
def Gr.size {w0 w:World}{o0 o:Value}(h:Gr w0 o0 w o):w0.heap.size<=w.heap.size:=h.1.size
def Gr.trans {a b c:World}{G H J:Value}(h:Gr a G b H)(k:Gr b H c J):Gr a G c J:=
 ⟨Kp.trans h.1 k.1 λg Z e=>(h.2 g e).resolve_right λe'=>by omega,λg Z=>(k.2 g Z).elim (λe=>h.2 g e) λe=> .inr (Pq h.1.size e)⟩
def Gr.ex {w0 w w':World}{o0 o:Value}(h:Gr w0 o0 w o)(x:Ex w w'):Gr w0 o0 w' o:=h.trans ⟨Kp.ab x _,λ _ e=> .inl e⟩
def Gr.grown {w0 w w':World}{o0 o G:Value}(h:Gr w0 o0 w o)(H:w.grownBy w' o.ownBlock)(J:∀g,G.ownBlock=some g->o.ownBlock=some g\/w.heap.size<=g):Gr w0 o0 w' G:=
 h.trans ⟨Kp.aP H λ _ e=>e,J⟩
def Gr.nil {w0 w:World}{o0 o:Value}(h:Gr w0 o0 w o)(G:o0.ownBlock=none):Ex w0 w:=by
 obtain⟨k,_⟩:=h;exact⟨k.os,k.tape,k.output,k.size,λg H=>k.block g H (by rw [G];simp)⟩
structure oD (B:Nat)(w0:World)(o0:Value)(fine:Bool)(out:Value)(w:World)(acc:List U):Prop where
 gr:Gr w0 o0 w out
 ow:Own B w out (outs acc)
 fi:fine=jo acc
 hB:B<=w0.heap.size
section
variable {B:Nat} {w0 w w':World} {o0 out:Value} {fine:Bool} {acc:List U}
def oD.ex (h:oD B w0 o0 fine out w acc)(x:Ex w w'):oD B w0 o0 fine out w' acc:=⟨h.gr.ex x,h.ow.ex x,h.fi,h.hB⟩
def oD.start (h:oD B w0 o0 fine out w acc):oD B w out fine out w acc:=⟨Gr.refl _ _,h.ow,h.fi,Pq h.hB h.gr.size⟩
def oD.back {w1:World}{H J:Value}{f2:Bool}{G:List U}(h:oD B w0 o0 fine H w1 acc)(k:oD B w1 H f2 J w G):oD B w0 o0 f2 J w G:=⟨h.gr.trans k.gr,k.ow,k.fi,h.hB⟩
def oD.lt (h:oD B w0 o0 fine out w acc):∀g,out.ownBlock=some g->g< w.heap.size:=λg G=>(h.ow.block g G).2
def u0 (l:List U):(outs l).length=l.length:=by unfold outs;simp
def K9 (h:oD B w0 o0 fine out w acc)(hl:acc.length<=1000000000){vv:U}{s:aD}{q:Bool}(hs:s=(cL vv).getD [])(hq:q=(cL vv).isSome){K:Bool->Value->Sb}(hK:∀fn v' w',oD B w0 o0 fn v' w' (acc++[vv])->K fn v' w'):
  ∃J:Bool->aD->Sb,((fine=true->J q s w)/\(fine=false->J false s w))/\∀(fn:Bool) (nx:aD) (α:World),J fn nx α->∀(θ:Nat) (H:World),θ=Array.size (World.heap α)->H=World.alloc α (Obj.cells #[(Value.string (ak nx))] 9)->
   ∃(G δ ε:Nat) (ζ Z:List Value),World.ownsRow H G 9 1 out δ ζ/\G<=Array.size (World.heap H)/\fp H (Value.slice (some ⟨θ,0,none⟩) 1 1) ε 1 Z/\(δ+ε<=maxLen/\(δ+ε)* 16<=140737488355328)/\
   ∀(β:Value) (γ:World),World.ownsRow γ G 9 1 β (δ+ε) (ζ++Z)->World.grownBy H γ (Value.ownBlock out)->(∀b:Nat,Value.ownBlock β=some b->Value.ownBlock out=some b\/Array.size (World.heap H)<=b)->K fn β γ:=by
 have e2:jo (acc++[vv])=(fine&&q):=by
  rw [xL,hq,h.fi];simp [jo]
 refine⟨λfn nx w'=>fn=jo (acc++[vv])/\nx=s/\w'=w,⟨λhf=>⟨by rw [e2,hf,Qa],rfl,rfl⟩,λhf=>⟨by rw [e2,hf,RE],rfl,rfl⟩⟩,λfn nx α hJ θ H κ η=>?_⟩;obtain⟨μ,rfl,rfl⟩:=hJ;have ι:Ex α H:=η▸Ex.alloc α _;refine Own.push (h.ow.ex ι) (Pq h.hB (Pq h.gr.size ι.size)) (Strs.one κ η) (by rw [u0];simp only [Ov,ON];omega) λβ γ ν ho hg hn=>hK fn β γ ⟨(h.gr.ex ι).grown hg hn,?_,μ,h.hB⟩
 rw [AD,show outs [vv]=[nx] by rw [hs];rfl];exact ho
end
def Hx {f:Tx}{ps:List P}{v:Value}{w:World}{u:U}(G:Strs w v (ps.map T.text))(H:dk (ps.map T.text)<=1000000000)(d:gB 0 (resL f (parL ps)) σ0 u){R:aD->Bool->Sb}
  (h:∀s q w',Ex w w'->s=(cL u).getD []->q=(cL u).isSome->R s q w'):Sc 110 #[.string (ak f),v] w (aw [.s,.b] R):=
 Gz G H d λw' x=>⟨λs e=>h s true w' x (by rw [e];rfl) (by rw [e];rfl),λe=>h [] false w' x (by rw [e];rfl) (by rw [e];rfl)⟩
def ED {c:Nat}:∀{l:List Tx},(∀s∈l,s.length<=c)->dk l<=l.length* (c+3)
 | [],_=>by simp [dk]
 | s::l,h=>by
  have H:=h s (by simp);have J:=ED (c:=c) (l:=l) λx G=>h x (by simp [G])
  rw [eI,Ov,Nat.succ_mul];omega
def lF {X:Type}(l:List X)(i j:Nat):(wo l i j).length<=l.length:=by
 unfold wo;rw [OM];exact Pq (P' _ _) (by simp)
def zn {X Y:Type}(f:X->Y)(l:List X)(i j:Nat):wo (l.map f) i j=(wo l i j).map f:=by
 rw [tf,tf,Ai]
def lens {u:U}(ζ:u.size<=60):u.ths.length<=60/\(∀i (h:i< u.ths.length),(offs u.ths[i]).length<=60)/\(∀i k c d p (l:List (Off Nat)),l.length<=60->(l.flatMap (E3 u i k c d p)).length<=60)/\(∀i c d p k,k<=u.ths.length->((List.range k).flatMap (E2 u i c d p)).length<=3600)/\
  (∀i j (h:i< u.ths.length),(((offs u.ths[i]).take j).flatMap (E1 u i)).length<=216000)/\∀i,i<=u.ths.length->((List.range i).flatMap (E0 u)).length<=12960000:=by
 have α:u.ths.length<=60:=by have :=pU u;omega
 have J:∀i (h:i< u.ths.length),(offs u.ths[i]).length<=60:=λi h=>by
  have Z:=fX u.ths[i];have h2:=bY u _ (Oz h);omega
 have β:∀i k c d p (l:List (Off Nat)),l.length<=60->(l.flatMap (E3 u i k c d p)).length<=60:=λi k c d p l hl=>by
  have Z:=gA (f:=E3 u i k c d p) (c:=1) (l:=l) λx _=>by
   cases x with
   | rcv e' x q s=>unfold E3;simp only;split<;>simp
   | _=>simp [E3]
  omega
 have δ:∀i c d p k,k< u.ths.length->(E2 u i c d p k).length<=60:=λi c d p k hk=>by
  unfold E2;split
  ·simp
  ·rw [aR hk];exact β i k c d p _ (J k hk)
 have G:∀i c d p k,k<=u.ths.length->((List.range k).flatMap (E2 u i c d p)).length<=3600:=λi c d p k hk=>by
  have Z:=gA (f:=E2 u i c d p) (c:=60) (l:=List.range k) λx hx=>δ i c d p x (by have :=PH.1 hx;omega)
  rw [Ql]at Z;omega
 have ε:∀i o,(E1 u i o).length<=3600:=λi o=>by
  cases o with
  | tau p=>simp [E1]
  | rcv=>simp [E1]
  | snd c d p=>exact G i c d p _ (OB _)
 have H:∀i j (h:i< u.ths.length),(((offs u.ths[i]).take j).flatMap (E1 u i)).length<=216000:=λi j h=>by
  have Z:=gA (f:=E1 u i) (c:=3600) (l:=(offs u.ths[i]).take j) λx _=>ε i x
  rw [Pd]at Z;have :=J i h;omega
 refine⟨α,J,β,G,H,λi hi=>?_⟩;have Z:=gA (f:=E0 u) (c:=216000) (l:=List.range i) λx hx=>by
  have hx:=PH.1 hx;have γ:x< u.ths.length:=by omega
  have :=H x (offs u.ths[x]).length γ;rw [O4]at this;unfold E0;rw [aR γ];exact this
 rw [Ql]at Z;omega
abbrev tS:Nat:=9
def Gc (w:World)(v src:Value)(K:Value->Sb):Prop:=
 ∃(base n m:Nat) (xs news:List Value),World.ownsRow w base tS 1 v n xs/\base<=Array.size (World.heap w)/\fp w src m 1 news/\(n+m<=maxLen/\(n+m)* 16<=140737488355328)/\
  ∀(G:Value) (w':World),World.ownsRow w' base tS 1 G (n+m) (xs++news)->World.grownBy w w' (Value.ownBlock v)->(∀b:Nat,Value.ownBlock G=some b->Value.ownBlock v=some b\/Array.size (World.heap w)<=b)->K G w'
def sC {B:Nat}{w:World}{v x:Value}{l m:List Tx}(h:Own B w v l)(hB:B<=w.heap.size)(H:Strs w x m)(J:l.length+m.length<=1099511627776){K:Value->Sb}(Z:∀G w',Below B w w'->Own B w' G (l++m)->K G w'):Gc w v x K:=
 Own.push h hB H J λG w' b o _ _=>Z G w' b o
def Js (w:World)(out:Value)(fine:Bool)(s:aD)(q:Bool)(K:Bool->Value->Sb):Prop:=
 ∃J:Bool->aD->Sb,((fine=true->J q s w)/\(fine=false->J false s w))/\∀(fn:Bool) (nx:aD) (G:World),J fn nx G->∀(H:Nat) (Z:World),H=Array.size (World.heap G)->Z=World.alloc G (Obj.cells #[(Value.string (ak nx))] tS)->Gc Z out (Value.slice (some ⟨H,0,none⟩) 1 1) (K fn)
def Iu {ps:List P}(h:∀q∈ps,q.aJ<=300)(G:ps.length<=63):dk (ps.map T.text)<=1000000000:=by
 have H:=ED (c:=300) (l:=ps.map T.text) λs J=>by
  obtain⟨q,Z,rfl⟩:=Pf.1 J;rw [aQ];exact h q Z
 rw [OM]at H;have :=Rl G (OB 303);omega
def wi {t:P}(ok:fS t):t.ths.length<=60/\∀q∈t.ths,q.size<=60/\q.aJ<=300:=by
 have J:=ok.size;have H:∀t:P,t.ths.length<=t.size/\∀q∈t.ths,q.size<=t.size:=by
  intro t
  induction t with
  | nil=>simp [T.ths]
  | par p q _ G=>
   refine⟨by have :=G.1;simp only [T.ths,Ov,T.size];omega,λr hr=>?_⟩;rcases OY.1 hr with rfl | hr
   ·simp only [T.size];omega
   ·have :=G.2 r hr;simp only [T.size];omega
  | res x p G=>exact⟨by have :=G.1;simp only [T.ths,T.size];omega,λr hr=>by have :=G.2 r hr;simp only [T.size];omega⟩
  | _=>simp [T.ths,T.size]
 refine⟨by have :=(H t).1;omega,λq Z=>?_⟩;have h2:=(H t).2 q Z;have h3:=ch q;omega
def Ih {w w':World}{b:Nat}{x y:Tx}(hb:b=w.heap.size)(h:w'=w.alloc (.cells #[.string (ak x),.string (ak y)] tS)):Strs w' (.slice (some ⟨b,0,none⟩) 2 2) [x,y]:=by
 subst hb h;refine .inr ⟨_,0,2,rfl,by rw [size_alloc];omega,λi z G=>?_⟩;rw [O6];refine aa ?_
 match i,G with
 | 0,G=>simp at G|-;exact G▸rfl
 | 1,G=>simp at G|-;exact G▸rfl
 | i+2,G=>simp at G
section
variable {t:P} {u:U} {w:World} {v5 out:Value} {b1 b2 B:Nat} {fine:Bool} {acc:List U}
def L7 (ok:fS t)(su:SU t u){i:Nat}(hi:i< t.ths.length)(hi':i< u.ths.length){p:P}{p':U}(ho:Off.tau p∈offs t.ths[i])(ho':Off.tau p'∈offs u.ths[i])(hae:kL UInt8.toNat (λz=>(asg u.frL t.frL ρ0 z).toNat) (.tau p) (.tau p'))
  (hv:Strs w v5 (t.ths.map T.text)) (hb:b1< w.heap.size) (hc:w.cell? ⟨b1,3,none⟩=some (.string (ak p.text))) (hI:oD B w out fine out w acc) (hl:acc.length<=1000000000) {J:Bool->Value->Sb} (hJ:∀fn v' w',oD B w out fn v' w' (acc++[Ax u i p'])->J fn v' w'):
  ∃G:Sb,∀H:World,H=World.drew w->G H/\∃ι:aD,(∀w',G w'->World.cell? w' ⟨b1,3,none⟩=some (Value.string (ak ι)))/\
   (Sc 111 #[v5,(Value.int IntKind.i64 i),(Value.int IntKind.i64 i)] H (aw [.v] fun(v49:Value) (β:World)=>G β/\∀(κ:Nat) (δ:World),κ=Array.size (World.heap β)->δ=World.alloc β (Obj.cells #[(Value.string (ak ι))] tS)->G δ/\Gc δ v49 (Value.slice (some ⟨κ,0,none⟩) 1 1) λς μ=>G μ/\Sc 110 #[(Value.string (ak t.frL)),ς] μ (aw [.s,.b] fun(s60:aD) (q61:Bool) (υ:World)=>G υ/\Js υ out fine s60 q61 J)))/\
   (∀(ν:Nat) (ε:World),ν=Array.size (World.heap H)->ε=World.alloc H (Obj.cells #[(Value.string (ak ι))] tS)->G ε/\Sc 111 #[v5,(Value.int IntKind.i64 i),(Value.int IntKind.i64 i)] ε (aw [.v] fun(φ:Value) (ξ:World)=>G ξ/\Gc ξ φ (Value.slice (some ⟨ν,0,none⟩) 1 1) λv85 ο=>G ο/\Sc 110 #[(Value.string (ak t.frL)),v85] ο (aw [.s,.b] fun(s87:aD) (q88:Bool) (χ:World)=>G χ/\Js χ out fine s87 q88 J))):=by
 obtain⟨hn,ψ⟩:=wi ok;have ω:=Oz hi;have hpl:p.aJ<=300:=by
  have h1:=(aC (su.smpP _ ω) _ ho).1.size;have h2:=(ψ _ ω).1;have h3:=ch p;simp only [Off.tm,T.size]at h1;omega
 have hwl:=lF t.ths i i;have hbound:dk ((wo t.ths i i++[p]).map T.text)<=1000000000:=by
  refine Iu (λq hq=>?_) (by rw [Oy,PM];omega);rcases OH.1 hq with hq | hq
  ·exact(ψ _ (ct hq)).2
  ·cases OL.1 hq;exact hpl
 have den:=(Ej ok su hi hi' ho ho' hae).1;have e:wo (t.ths.map T.text) i i++[p.text]=(wo t.ths i i++[p]).map T.text:=by rw [zn,Pm];rfl
 have hlw:(wo (t.ths.map T.text) i i).length+[p.text].length<=1099511627776:=by
  have :=lF (t.ths.map T.text) i i;rw [OM]at this;simp only [Ov,ON];omega
 have mk:∀{v':Value} {w':World},Ex w w'->Strs w' v' ((wo t.ths i i++[p]).map T.text)->Sc 110 #[(Value.string (ak t.frL)),v'] w' (aw [.s,.b] fun(s:aD) (q:Bool) (w2:World)=>Ex w w2/\Js w2 out fine s q J):=λx hs=>
  Hx hs hbound den λs q w2 x2 h1 h2=>⟨Ex.trans x x2,K9 (hI.ex (Ex.trans x x2)) hl h1 h2 hJ⟩
 refine⟨λw'=>Ex w w',λH hw47=>?_⟩;have γ:Ex w H:=hw47▸Ex.drew w;refine⟨γ,p.text,λw' x=>by rw [x.cell (a:=⟨b1,3,none⟩) hb];exact hc,?_,λν ε hb76 η=>?_⟩
 ·refine eH (hv.ex γ) (by rw [OM];omega) λv49 β x50 o50=>⟨Ex.trans γ x50,λκ δ hb51 θ=>?_⟩
  have x52:Ex β δ:=θ▸Ex.alloc β _;have Z:=Ex.trans x50 x52;refine⟨Ex.trans γ Z,sC (o50.ex x52) Z.size (Strs.one hb51 θ) hlw λς μ b59 o59=>?_⟩;have x59:=Ex.trans γ (Ex.below Z b59);exact⟨x59,mk x59 (e▸o59.strs)⟩
 ·have x77:Ex H ε:=η▸Ex.alloc H _;have α:=Ex.trans γ x77;refine⟨α,eH (hv.ex α) (by rw [OM];omega) λφ ξ ζ o79=>⟨Ex.trans α ζ,sC o79 ζ.size ((Strs.one hb76 η).ex ζ) hlw λv85 ο b86 o86=>?_⟩⟩;have x86:=Ex.trans α (Ex.below ζ b86);exact⟨x86,mk x86 (e▸o86.strs)⟩
def Ky (ok:fS t)(su:SU t u){i k:Nat}(hi:i< t.ths.length)(hi':i< u.ths.length)(hk:k< t.ths.length)(ω:k< u.ths.length)(hik:i≠k){a b:UInt8}{p:P}{c d:Nat}{p':U}(ho:Off.snd a b p∈offs t.ths[i])(ho':Off.snd c d p'∈offs u.ths[i])
  (hae:kL UInt8.toNat (λz=>(asg u.frL t.frL ρ0 z).toNat) (.snd a b p) (.snd c d p')) {e x:UInt8} {q:P} {s:Bool} {e' x':Nat} {q':U} {s':Bool} (hr:Off.rcv e x q s∈offs t.ths[k]) (hr':Off.rcv e' x' q' s'∈offs u.ths[k])
  (har:kL UInt8.toNat (λz=>(asg u.frL t.frL ρ0 z).toNat) (.rcv e x q s) (.rcv e' x' q' s'))
  (hv:Strs w v5 (t.ths.map T.text)) (hb:b1< w.heap.size) (hb2:b2< w.heap.size) (hc2:w.cell? ⟨b1,2,none⟩=some (.int .u8 b.toNat)) (hc3:w.cell? ⟨b1,3,none⟩=some (.string (ak p.text))) (hd2:w.cell? ⟨b2,2,none⟩=some (.int .u8 x.toNat)) (hd3:w.cell? ⟨b2,3,none⟩=some (.string (ak q.text))) (hd4:w.cell? ⟨b2,4,none⟩=some (.bool s))
  (hI:oD B w out fine out w acc) (hl:acc.length<=1000000000) {J:Bool->Value->Sb} (hJ:∀fn v' w',oD B w out fn v' w' (acc++[Gq u i k p' (q'.map (Ff (NN u) q' x' d)) s'])->J fn v' w'):
  ∃G:Sb,∀δ:World,δ=World.drew w->G δ/\∃s149:aD,(∀w',G w'->World.cell? w' ⟨b1,3,none⟩=some (Value.string (ak s149)))/\∃s150:aD,(∀w',G w'->World.cell? w' ⟨b2,3,none⟩=some (Value.string (ak s150)))/\∃c151:UInt8,(∀w',G w'->World.cell? w' ⟨b2,2,none⟩=some (Value.int IntKind.u8 (UInt8.toNat c151)))/\∃c152:UInt8,(∀w',G w'->World.cell? w' ⟨b1,2,none⟩=some (Value.int IntKind.u8 (UInt8.toNat c152)))/\
   Sc 111 #[v5,(Value.int IntKind.i64 i),(Value.int IntKind.i64 k)] δ (aw [.v] fun(v153:Value) (μ:World)=>G μ/\Sc 112 #[(Value.string (ak s150)),(Value.int IntKind.u8 (UInt8.toNat c151)),(Value.int IntKind.u8 (UInt8.toNat c152))] μ (aw [.s] fun(s155:aD) (β:World)=>G β/\∀(ι:Nat) (γ:World),ι=Array.size (World.heap β)->γ=World.alloc β (Obj.cells #[(Value.string (ak s149)),(Value.string (ak s155))] tS)->G γ/\Gc γ v153 (Value.slice (some ⟨ι,0,none⟩) 2 2) λv164 H=>G H/\
    ∃ν:Value->Sb,(∃ξ:Bool,World.cell? H ⟨b2,4,none⟩=some (Value.bool ξ)/\(ξ=true->∀(ο:Nat) (κ:World),ο=Array.size (World.heap H)->κ=World.alloc H (Obj.cells #[(Value.string (ak t.ths[k].text))] tS)->Gc κ v164 (Value.slice (some ⟨ο,0,none⟩) 1 1) ν)/\(ξ=false->ν (v164) H))/\
    ∀(ε:Value) (ς:World),ν ε ς->Sc 110 #[(Value.string (ak t.frL)),ε] ς (aw [.s,.b] fun(s179:aD) (q180:Bool) (w181:World)=>Js w181 out fine s179 q180 J))):=by
 obtain⟨hn,hts⟩:=wi ok;have hmP:=Oz hi;have hmK:=Oz hk;have hmU:=Oz ω;obtain⟨sP,_⟩:=aC (su.smpP _ hmP) _ ho;obtain⟨sK,_⟩:=aC (su.smpP _ hmK) _ hr;have hpl:p.aJ<=300:=by
  have h1:=sP.size;have h2:=(hts _ hmP).1;have h3:=ch p;simp only [Off.tm,T.size]at h1;omega
 have hqs:q.size<=60:=by
  have h1:=sK.size;have h2:=(hts _ hmK).1;simp only [Off.tm,T.size]at h1;omega
 obtain⟨hq1,hq2,hq3⟩:=M0 ok su hk hr;have alb:=(sP.al _ (su.al _ hmP)).2.1;have hwl:=lF t.ths i k;have ew:wo (t.ths.map T.text) i k=(wo t.ths i k).map T.text:=zn _ _ _ _;have uqr:=su.gH ω (aC (su.smp _ hmU) _ hr').1 (ck _ hr');have hss:s=s':=har.2.2;have umc:Gq u i k p' (q'.map (Ff (NN u) q' x' d)) s'=resL u.frL (parL (bL u.ths i k p' (q'.map (Ff (NN u) q' x' d)) s' u.ths[k])):=by unfold Gq;rw [aR ω]
 refine⟨λw'=>Ex w w',λδ hw148=>?_⟩;have Z:Ex w δ:=hw148▸Ex.drew w;refine⟨Z,p.text,λw' x=>by rw [x.cell (a:=⟨b1,3,none⟩) hb];exact hc3,q.text,λw' x=>by rw [x.cell (a:=⟨b2,3,none⟩) hb2];exact hd3,x,λw' x=>by rw [x.cell (a:=⟨b2,2,none⟩) hb2];exact hd2,b,λw' x=>by rw [x.cell (a:=⟨b1,2,none⟩) hb];exact hc2,?_⟩;refine eH (hv.ex Z) (by rw [OM];omega) λv153 μ υ o154=>⟨Ex.trans Z υ,?_⟩
 refine dz q.size (OB _) hq1 hq2 hq3 (fT alb) (oM alb 0) λr β φ hr2=>⟨Ex.trans (Ex.trans Z υ) φ,λι γ hb157 χ=>?_⟩
 have x158:Ex β γ:=χ▸Ex.alloc β _;have α:=Ex.trans υ (Ex.trans φ x158);have x0158:=Ex.trans Z α;have hrl:r.aJ<=300:=by
  have h1:=(ju hr2.shp).2.2;have h2:=ch q;omega
 have den:=(Cp ok su hi hi' hk ω hik ho ho' hae hr hr' har (fI (NN u) d uqr.du) su.bound (by unfold NN;omega) hr2).1;rw [<-umc]at den;have hlw:(wo (t.ths.map T.text) i k).length<=60:=by
  have :=lF (t.ths.map T.text) i k;rw [OM]at this;omega
 have two:Strs γ (.slice (some ⟨ι,0,none⟩) 2 2) [p.text,r.text]:=Ih hb157 χ;refine⟨x0158,sC (o154.ex (Ex.trans φ x158)) α.size two (by simp only [Ov,ON];omega) λv164 H b165 o165=>?_⟩;have ζ:=Ex.below α b165;have θ:=Ex.trans Z ζ;refine⟨θ,λv' w'=>Ex w w'/\Strs w' v' ((bL t.ths i k p r s t.ths[k]).map T.text),⟨s,by rw [θ.cell (a:=⟨b2,4,none⟩) hb2];exact hd4,λhs ο κ hb168 ψ=>?_,λhs=>⟨θ,?_⟩⟩,λv177 ς hJ178=>?_⟩
 ·have x169:Ex H κ:=ψ▸Ex.alloc H _;have η:=Ex.trans ζ x169;refine sC (o165.ex x169) η.size (Strs.one hb168 ψ) (by simp only [Oy,Ov,ON];omega) λv175 w176 b176 o176=>⟨Ex.trans Z (Ex.below η b176),?_⟩
  have h:=o176.strs;rw [ew]at h;unfold bL;rw [hs];simpa using h
 ·have h:=o165.strs;rw [ew]at h;unfold bL;rw [hs];simpa using h
 ·obtain⟨x178,hs178⟩:=hJ178;refine Hx hs178 (Iu (λz hz=>?_) ?_) den λsx qx w2 x2 h1 h2=>K9 (hI.ex (Ex.trans x178 x2)) hl h1 h2 hJ
  ·unfold bL at hz;rcases OH.1 hz with hz | hz
   ·rcases OH.1 hz with hz | hz
    ·exact(hts _ (ct hz)).2
    ·rcases OY.1 hz with rfl | hz
     ·exact hpl
     ·cases OL.1 hz;exact hrl
   ·cases s
    ·cases hz
    ·cases OL.1 hz;exact(hts _ hmK).2
  ·unfold bL;simp only [Oy,Ov,ON];split<;>simp only [Ov,ON]<;>omega
end
def pJ {e B:Nat}{w:World}{v:Value}{os:List (Off UInt8)}{xs:List Value}(G:cV e B w v os.length xs)(hm:fZ os xs){j:Nat}(H:j< os.length):∃(g cap:Nat) (cs:List Value),v= .slice (some ⟨g,0,none⟩) os.length cap/\xe os[j] cs/\∀i u,cs[i]?=some u->∀off,off=j* 5+i->i< 5->w.cell? ⟨g,off,none⟩=some u:=by
 obtain⟨cs,J,Z⟩:=hm.at H;rcases G.cell with⟨_,h0,_⟩ | ⟨g,cap,rfl,_,hc⟩
 ·omega
 ·refine⟨g,cap,cs,rfl,J,λi u hu off he hi=>?_⟩;have :=hc (j* 5+i) u (by rw [Z i hi];exact hu);rw [he];rwa [O6]at this
def Ji {w w1:World}{g e:Nat}{cs:List Value}{c0:Array Value}(α:cs.length=5)(h0:c0.size=5)(hg:g=w.heap.size)(G:w1=w.alloc (.cells c0 e)):
  (∀j,j< 5->(∃u,w1.cell? ⟨g,0+j,none⟩=some u)/\w1.frozen? ⟨g,0+j,none⟩=false)/\∀H,H=World.setCells w1 g 0 cs->Ex w H/\g< H.heap.size/\∀j,j< 5->H.cell? ⟨g,j,none⟩=cs[j]?:=by
 have hc:∀j,j< 5->∃u,w1.cell? ⟨g,0+j,none⟩=some u:=λj J=>by
  rw [G,hg];have:∃u,c0[0+j]?=some u:=by
   rw [O6];exact⟨_,Q8 (by omega)⟩
  obtain⟨u,hu⟩:=this;exact⟨u,aa hu⟩
 refine⟨λj J=>⟨hc j J,by rw [G,hg];exact aU _ _ _ _⟩,λH Z=>?_⟩;obtain⟨k,_,_,sc⟩:=bg (b:=g) cs w1 0;rw [<-Z]at k sc;have x1:Ex w w1:=G▸Ex.alloc _ _;have s1:w1.heap.size=w.heap.size+1:=by rw [G,size_alloc]
 have s2:=k.size;refine⟨Ex.below x1 (Kp.below k x1.size λb hb e=>by omega),by omega,λj J=>?_⟩;have :=sc j (λi hi=>hc i (by omega)) (by omega)
 rwa [O6]at this
def qj {k a b:UInt8}{s:Tx}{q:Bool}:(dY k a b s q).all oneV=true:=rfl
def Gr.cell {w0 w:World}{o0 o:Value}(h:Gr w0 o0 w o){a:Addr}(ha:a.block< w0.heap.size)(G:o0.ownBlock≠some a.block):w.cell? a=w0.cell? a:=by
 cases a with
 | mk b i t=>exact Ow (w:=w0) (h.1.block b ha G)
def Gr.strs {w0 w:World}{o0 o v:Value}{l:List Tx}(h:Gr w0 o0 w o)(H:Strs w0 v l)(G:∀g,v.ownBlock=some g->o0.ownBlock≠some g):Strs w v l:=
 H.kp h.1 λb off n cap e J=>G b (uc e) J
def cV.gr {e B:Nat}{w0 w:World}{o0 o v:Value}{n:Nat}{xs:List Value}(h:cV e B w0 v n xs)(k:Gr w0 o0 w o)(G:∀g,v.ownBlock=some g->o0.ownBlock≠some g):cV e B w v n xs:=
 h.kp k.1 G
def cV.slice {e B:Nat}{w:World}{v:Value}{n:Nat}{xs:List Value}(h:cV e B w v n xs):∃a cap,v= .slice a n cap:=by
 rcases h.cell with⟨G,H,_⟩ | ⟨g,cap,G,_⟩
 ·exact⟨none,0,by rw [G,H]⟩
 ·exact⟨_,cap,G⟩
def Im {t:P}(ok:fS t){w:World}{R:Value->Bool->Sb}(hR1:oN (num t e0 0).1=none->∀w',Ex w w'->R (.slice none 0 0) false w')(hR2:∀l,oN (num t e0 0).1=some l->∀v w',Ex w w'->Own w.heap.size w' v l->R v true w'):
  Sc 56 #[.string (ak t.text)] w (aw [.v,.b] R):=by
 have su:=ok.su;have hszt:=ok.size;have hsh:=(fg su.ae).2.2;generalize hu:(num t e0 0).1=u at*;have hsz:u.size<=60:=by omega
 obtain⟨hthl,hol,hE3,hE2s,hE1s,hE0s⟩:=lens hsz;obtain⟨hn,hts⟩:=wi ok;have hlen:=su.two.len;have okt:Ok t:=Bg ok.al ok.good;have okth:∀q∈t.ths,Ok q:=λq hq=>⟨(su.al q hq).wf,by rw [aQ];have :=(hts q hq).2;omega⟩
 refine vE t.text w R ?_;refine mB okt (mh okt ok.nr λv5 w6 x6 o5=>?_);have hv5:=o5.strs;obtain⟨a,cap,hv⟩:=hv5.slice;rw [OM]at hv;refine⟨a,_,cap,hv,λfine out x w'=>∃i:Nat,x=i/\i<=t.ths.length/\oD w6.heap.size w6 (.slice none 0 0) fine out w' ((List.range i).flatMap (E0 u)),λ _ _ x _=>(t.ths.length - x).toNat,⟨0,rfl,Pn _,⟨Gr.refl _ _,Own.nil _ _,rfl,OB _⟩⟩,λfine1 out1 x w15 hI=>?_⟩;obtain⟨i,rfl,hi,δ⟩:=hI;have x15:Ex w6 w15:=δ.gr.nil rfl;refine⟨λhlt=>?_,λhge=>?_⟩;rotate_left
 ·have hil:i=u.ths.length:=by simp only [OF]at hge;omega
  rw [hil]at δ;have e:(List.range u.ths.length).flatMap (E0 u)=eQ u:=rfl;have hl:=hE0s _ (OB _);rw [e]at δ hl;refine⟨λhf=>hR1 ?_ w15 (Ex.trans x6 x15),λhf=>uj δ.ow.strs (by rw [u0];omega) λv2 w2 x2 o2=>hR2 _ ?_ v2 w2 (Ex.trans (Ex.trans x6 x15) x2) (o2.mono (Ex.trans x6 x15).size)⟩
  ·unfold oN;rw [OP];intro h;rw [<-δ.fi]at h;rw [h]at hf;cases hf
  ·unfold oN;rw [O'];rw [<-δ.fi];simpa using hf
 have hi':i< t.ths.length:=by simp only [OK]at hlt;omega
 have ν:i< u.ths.length:=by omega
 have hmi:=Oz hi';have two1:=ia (su.two.get hi' ν);have hlo:=two1.len;have hacc1:=hE0s i (by omega);have ek:(List.range (i+1)).flatMap (E0 u)=(List.range i).flatMap (E0 u)++E0 u i:=by rw [Qw,Pt];simp
 have eE0:E0 u i=(offs u.ths[i]).flatMap (E1 u i):=by unfold E0;rw [aR ν]
 refine hv5.get x15 (i:=i) (x:=t.ths[i].text) (by omega) (by simp [hi']) (Q:=λn=>_) (jU _ (OB _) (okth _ hmi) (su.smpP _ hmi) (by have :=(hts _ hmi).1;omega) λv21 w22 xs x22 o21 m21=>?_);have h22:=(δ.ex x22).start;have n21:∀g,v21.ownBlock=some g->out1.ownBlock≠some g:=λg hg e=>by
  have h1:=(o21.block g hg).1;have h2:=δ.lt g e;omega
 obtain⟨a23,cap23,hv21⟩:=o21.slice;have hm1:=@tN t.ths.length i (by omega);generalize hA:(List.range i).flatMap (E0 u)=A at*;have hol1:=hol i ν;have hE1i:=λj=>hE1s i j ν
 refine⟨a23,_,cap23,hv21,λfine out x w'=>∃j:Nat,x=j/\j<=(offs t.ths[i]).length/\oD w6.heap.size w22 out1 fine out w' (A++((offs u.ths[i]).take j).flatMap (E1 u i)),λ _ _ x _=>((offs t.ths[i]).length - x).toNat,⟨0,rfl,Pn _,by simpa using h22⟩,λfine2 ξ x w31 hI=>?_⟩;obtain⟨j,rfl,hj,ο⟩:=hI;refine⟨λhlt2=>?_,λhge2=>?_⟩;rotate_left
 ·have hjl:j=(offs u.ths[i]).length:=by simp only [OF]at hge2;omega
  rw [hjl,O4,<-eE0,<-ek]at ο;exact⟨by omega,⟨i+1,by omega,by omega,(δ.ex x22).back ο⟩,hm1⟩
 have hjP:j< (offs t.ths[i]).length:=by simp only [OK]at hlt2;omega
 have hjU:j< (offs u.ths[i]).length:=by omega
 have hm2:(((offs t.ths[i]).length:Int) - ((j:Int)+1)).toNat< (((offs t.ths[i]).length:Int) - j).toNat:=by omega
 have hae:=two1.get hjP hjU;have hmP:=Oz hjP;have hmU:=Oz hjU;obtain⟨g,capg,cs,hvg,α,ε⟩:=pJ (o21.gr ο.gr n21) m21 hjP;obtain⟨kk,ca,cb,cs3,cq,rfl⟩:=α.any;have etk:((offs u.ths[i]).take (j+1)).flatMap (E1 u i)=((offs u.ths[i]).take j).flatMap (E1 u i)++E1 u i (offs u.ths[i])[j]:=by rw [OC hjU,Pt];simp
 have hacc2:(A++((offs u.ths[i]).take j).flatMap (E1 u i)).length<=13000000+216000:=by
  rw [Oy];have :=hE1i j;omega
 rw [hv21]at hvg;refine⟨g,0,_,capg,hv21.trans hvg,by omega,by omega,kk,ca,cb,cs3,cq,⟨ε 0 _ rfl _ (by omega) (by omega),ε 1 _ rfl _ (by omega) (by omega),ε 2 _ rfl _ (by omega) (by omega),ε 3 _ rfl _ (by omega) (by omega),ε 4 _ rfl _ (by omega) (by omega),trivial⟩,λζ w42 hb41 hw42=>?_⟩;obtain⟨box1,nt⟩:=Ji (cs:=dY kk ca cb cs3 cq) rfl rfl hb41 hw42;refine⟨⟨rfl,qj,box1⟩,λw43 hw43=>?_⟩;obtain⟨x43,l43,ς⟩:=nt w43 hw43;have h43:=(ο.ex x43).start;have hnb:ξ.ownBlock≠some ζ:=λe=>by have :=ο.lt _ e;omega
 have x643:Ex w6 w43:=Ex.trans ((δ.gr.ex x22).trans ο.gr |>.nil rfl) x43;have hacc2':=hacc2;generalize hA2:A++((offs u.ths[i]).take j).flatMap (E1 u i)=A2 at*;have υ:∀{fn:Bool} {o:Value} {w':World},oD w6.heap.size w43 ξ fn o w' (A2++E1 u i (offs u.ths[i])[j])->bG ((j:Int)+1)/\(∃j':Nat,(j:Int)+1=j'/\j'<=(offs t.ths[i]).length/\oD w6.heap.size w22 out1 fn o w' (A++((offs u.ths[i]).take j').flatMap (E1 u i)))/\(((offs t.ths[i]).length:Int) - ((j:Int)+1)).toNat< (((offs t.ths[i]).length:Int) - j).toNat:=λ{fn o w'} h=>by
  refine⟨by omega,⟨j+1,by omega,by omega,(ο.ex x43).back ?_⟩,hm2⟩;rw [etk,<-Pe,hA2];exact h
 generalize (offs t.ths[i])[j]=oP at*;generalize (offs u.ths[i])[j]=oU at*;cases oP<;>cases oU<;>try exact hae.elim
 ·
  rename_i p Z;obtain⟨_,_,_,α⟩:=α;unfold dY at α;simp only [Po,PF,Qv,Qz,Qe]at α;have e1:kk=126:=OU.1 (by omega);have e2:cs3=p.text:=m9 α.2.2.2.1;subst e1 e2;refine⟨λfn o w'=>oD w6.heap.size w43 ξ fn o w' (A2++[Ax u i Z]),⟨126,ς 0 (by omega),df rfl ?_⟩,λfn o w' h=>⟨126,?_,λ _=>υ h,(λh=>by cases h)⟩⟩
  ·exact L7 ok su hi' ν hmP hmU hae (hv5.ex x643) l43 (ς 3 (by omega)) h43 (by omega) λfn v' w' h=>h
  ·rw [h.gr.cell (a:=⟨ζ,0,none⟩) l43 hnb];exact ς 0 (by omega)
 ·
  rename_i ca' cb' p c d Z;obtain⟨_,α⟩:=α;unfold dY at α;simp only [Po,PF,Qv,Qz,Qe]at α;have e1:kk=33:=OU.1 (by omega);have e2:cs3=p.text:=m9 α.2.2.2.1;have e3:ca=ca':=OU.1 (by omega);have e4:cb=cb':=OU.1 (by omega);subst e1 e2 e3 e4;refine⟨λfn o w'=>oD w6.heap.size w43 ξ fn o w' A2,⟨33,ς 0 (by omega),aW (by decide) h43⟩,λfine3 θ ι H=>⟨33,?_,(λh=>by cases h),λ _=>?_⟩⟩
  ·rw [H.gr.cell (a:=⟨ζ,0,none⟩) l43 hnb];exact ς 0 (by omega)
  have r105:=H.start;have g105:Gr w6 (.slice none 0 0) ι θ:=(((δ.gr.ex x22).trans ο.gr).ex x43).trans H.gr;have s43:=H.gr.size;have hnb3:θ.ownBlock≠some ζ:=λe=>(H.gr.2 _ e).elim hnb λe=>by omega
  have c105:∀j,j< 5->ι.cell? ⟨ζ,j,none⟩=(dY 33 ca cb p.text cq)[j]?:=λj hj=>by rw [H.gr.cell (a:=⟨ζ,j,none⟩) l43 hnb];exact ς j hj
  have hm3:∀k:Nat,k< t.ths.length->((t.ths.length:Int) - ((k:Int)+1)).toNat< ((t.ths.length:Int) - k).toNat:=λk hk=>by omega
  refine⟨a,_,cap,hv,λfine out x w'=>∃k:Nat,x=k/\k<=t.ths.length/\oD w6.heap.size ι θ fine out w' (A2++(List.range k).flatMap (E2 u i c d Z)),λ _ _ x _=>(t.ths.length - x).toNat,⟨0,rfl,Pn _,by simpa using r105⟩,λfine4 ψ x w115 hI=>?_⟩;obtain⟨k,rfl,hk,β⟩:=hI;have g115:=g105.trans β.gr;have x115:=g115.nil rfl;refine⟨λhlt3=>?_,λhge3=>?_⟩;rotate_left
  ·have hkl:k=u.ths.length:=by simp only [OF]at hge3;omega
   rw [hkl]at β;exact υ (H.back β)
  have hkP:k< t.ths.length:=by simp only [OK]at hlt3;omega
  have hkU:k< u.ths.length:=by omega
  have ek2:(List.range (k+1)).flatMap (E2 u i c d Z)=(List.range k).flatMap (E2 u i c d Z)++E2 u i c d Z k:=by rw [Qw,Pt];simp
  refine hv5.get x115 (i:=k) (x:=t.ths[k].text) (by omega) (by simp [hkP]) (Q:=λn=>_) ⟨λheq=>?_,λhne=>?_⟩
  ·have heq:i=k:=by simp only [OK]at heq;omega
   refine⟨by omega,⟨k+1,by omega,by omega,?_⟩,hm3 k hkP⟩;rw [ek2,show E2 u i c d Z k=[] by unfold E2;rw [O' heq],O5];exact β
  have hik:i≠k:=by simp only [OF]at hne;omega
  have hmk:=Oz hkP;have eE2:E2 u i c d Z k=(offs u.ths[k]).flatMap (E3 u i k c d Z):=by unfold E2;rw [OP hik,aR hkU]
  have two2:=ia (su.two.get hkP hkU);have hlo2:=two2.len;refine jU _ (OB _) (okth _ hmk) (su.smpP _ hmk) (by have :=(hts _ hmk).1;omega) λv121 w122 xs2 x122 o121 m121=>?_
  have h122:=(β.ex x122).start;have n121:∀g,v121.ownBlock=some g->ψ.ownBlock≠some g:=λg hg e=>by
   have h1:=(o121.block g hg).1;have h2:=β.lt g e;omega
  obtain⟨a123,cap123,φ⟩:=o121.slice;have hacc3:(A2++(List.range k).flatMap (E2 u i c d Z)).length<=13300000:=by
   have :=hE2s i c d Z k (by omega);rw [Oy];omega
  have hm3k:=hm3 k hkP;have hnext3:∀{fn:Bool} {o:Value} {w':World},oD w6.heap.size w122 ψ fn o w' ((A2++(List.range k).flatMap (E2 u i c d Z))++E2 u i c d Z k)->bG ((k:Int)+1)/\(∃k':Nat,(k:Int)+1=k'/\k'<=t.ths.length/\oD w6.heap.size ι θ fn o w' (A2++(List.range k').flatMap (E2 u i c d Z)))/\((t.ths.length:Int) - ((k:Int)+1)).toNat< ((t.ths.length:Int) - k).toNat:=λ{fn o w'} h=>by
   refine⟨by omega,⟨k+1,by omega,by omega,(β.ex x122).back ?_⟩,hm3k⟩;rw [ek2,<-Pe];exact h
  generalize hA3:A2++(List.range k).flatMap (E2 u i c d Z)=A3 at*;refine⟨a123,_,cap123,φ,λfine out x w'=>∃l:Nat,x=l/\l<=(offs t.ths[k]).length/\oD w6.heap.size w122 ψ fine out w' (A3++((offs u.ths[k]).take l).flatMap (E3 u i k c d Z)),λ _ _ x _=>((offs t.ths[k]).length - x).toNat,⟨0,rfl,Pn _,by simpa using h122⟩,λfine5 out5 x w131 hI=>?_⟩;obtain⟨l,rfl,hl,κ⟩:=hI;refine⟨λhlt4=>?_,λhge4=>?_⟩;rotate_left
  ·have hll:l=(offs u.ths[k]).length:=by simp only [OF]at hge4;omega
   rw [hll,O4,<-eE2]at κ;exact hnext3 κ
  have hlP:l< (offs t.ths[k]).length:=by simp only [OK]at hlt4;omega
  have hlU:l< (offs u.ths[k]).length:=by omega
  have hm4:(((offs t.ths[k]).length:Int) - ((l:Int)+1)).toNat< (((offs t.ths[k]).length:Int) - l).toNat:=by omega
  have har:=two2.get hlP hlU;have hrP:=Oz hlP;have hrU:=Oz hlU;obtain⟨g2,capg2,cs2,hvg2,G,J⟩:=pJ (o121.gr κ.gr n121) m121 hlP;obtain⟨kk2,ce,cx,cs4,cq2,rfl⟩:=G.any;have etk2:((offs u.ths[k]).take (l+1)).flatMap (E3 u i k c d Z)=((offs u.ths[k]).take l).flatMap (E3 u i k c d Z)++E3 u i k c d Z (offs u.ths[k])[l]:=by rw [OC hlU,Pt];simp
  have hol2:=hol k hkU;have hacc4:(A3++((offs u.ths[k]).take l).flatMap (E3 u i k c d Z)).length<=13400000:=by
   have :=hE3 i k c d Z ((offs u.ths[k]).take l) (by rw [Pd];omega);rw [Oy];omega
  rw [φ]at hvg2;refine⟨g2,0,_,capg2,φ.trans hvg2,by omega,by omega,kk2,ce,cx,cs4,cq2,⟨J 0 _ rfl _ (by omega) (by omega),J 1 _ rfl _ (by omega) (by omega),J 2 _ rfl _ (by omega) (by omega),J 3 _ rfl _ (by omega) (by omega),J 4 _ rfl _ (by omega) (by omega),trivial⟩,λb141 w142 hb141 hw142=>?_⟩;obtain⟨box3,box4⟩:=Ji (cs:=dY kk2 ce cx cs4 cq2) rfl rfl hb141 hw142;refine⟨⟨rfl,qj,box3⟩,λμ hw143=>?_⟩;obtain⟨x143,l143,η⟩:=box4 μ hw143;have ω:=(κ.ex x143).start;have g143:Gr ι θ μ out5:=((β.gr.ex x122).trans κ.gr).ex x143;have x6143:Ex w6 μ:=(g105.trans g143).nil rfl;have χ:∀j,j< 5->μ.cell? ⟨ζ,j,none⟩=(dY 33 ca cb p.text cq)[j]?:=λj hj=>by rw [g143.cell (a:=⟨ζ,j,none⟩) (by show ζ< _;omega) hnb3];exact c105 j hj
  have hb143:ζ< μ.heap.size:=by have :=g143.size;omega
  generalize hA4:A3++((offs u.ths[k]).take l).flatMap (E3 u i k c d Z)=A4 at*;have γ:∀{fn:Bool} {o:Value} {w':World},oD w6.heap.size μ out5 fn o w' (A4++E3 u i k c d Z (offs u.ths[k])[l])->bG ((l:Int)+1)/\(∃l':Nat,(l:Int)+1=l'/\l'<=(offs t.ths[k]).length/\oD w6.heap.size w122 ψ fn o w' (A3++((offs u.ths[k]).take l').flatMap (E3 u i k c d Z)))/\(((offs t.ths[k]).length:Int) - ((l:Int)+1)).toNat< (((offs t.ths[k]).length:Int) - l).toNat:=λ{fn o w'} h=>by
   refine⟨by omega,⟨l+1,by omega,by omega,(κ.ex x143).back ?_⟩,hm4⟩;rw [etk2,<-Pe,hA4];exact h
  have frc:∃q∈u.ths,q.Fr c:=⟨_,Oz ν,(aC (su.smp _ (Oz ν)) _ hmU).1.fr c (.inl rfl)⟩
  generalize (offs t.ths[k])[l]=rP at*;generalize (offs u.ths[k])[l]=rU at*;cases rP<;>cases rU<;>try exact har.elim
  ·obtain⟨_,_,_,G⟩:=G;unfold dY at G;simp only [Po,PF,Qv,Qz,Qe]at G;have e1:kk2=126:=OU.1 (by omega);subst e1;exact⟨126,η 0 (by omega),(λh=>by cases h),λ _=>γ (by simpa [E3]using ω)⟩
  ·obtain⟨_,G⟩:=G;unfold dY at G;simp only [Po,PF,Qv,Qz,Qe]at G;have e1:kk2=33:=OU.1 (by omega);subst e1;exact⟨33,η 0 (by omega),(λh=>by cases h),λ _=>γ (by simpa [E3]using ω)⟩
  ·rename_i e x q s e' x' q' s';unfold xe dY at G;simp only [Po,PF,Qv,RM,Qz,Qe]at G;have e1:kk2=63:=OU.1 (by omega);have e2:cs4=q.text:=m9 G.2.2.2.1;have e3:ce=e:=OU.1 (by omega);have e4:cx=x:=OU.1 (by omega);have e5:cq2=s:=G.2.2.2.2;subst e1 e2 e3 e4 e5;have fre:∃q∈u.ths,q.Fr e':=⟨_,Oz hkU,(aC (su.smp _ (Oz hkU)) _ hrU).1.fr e' (.inl rfl)⟩
   have hae1:ca=asg u.frL t.frL ρ0 c:=OU.1 hae.1;have har1:ce=asg u.frL t.frL ρ0 e':=OU.1 har.1;refine⟨63,η 0 (by omega),λ _=>⟨ce,η 1 (by omega),ca,χ 1 (by omega),λhne=>γ ?_,λheq=>?_⟩,(λh=>by cases h)⟩
   ·have hne:ce≠ca:=by simpa using hne
    have:¬e'=c:=λh=>hne (by rw [har1,hae1,h])
    rw [show E3 u i k c d Z (.rcv e' x' q' s')=[] by unfold E3;simp only;rw [OP this],O5];exact ω
   ·have heq:ce=ca:=by simpa using heq
    have hec:e'=c:=su.inj fre frc (by rw [<-har1,<-hae1,heq]);refine Ky ok su hi' ν hkP hkU hik hmP hmU hae hrP hrU har (hv5.ex x6143) hb143 l143 (χ 2 (by omega)) (χ 3 (by omega)) (η 2 (by omega)) (η 3 (by omega)) (η 4 (by omega)) ω (by omega) λfn v' w' h=>γ ?_
    rw [show E3 u i k c d Z (.rcv e' x' q' s')=[Gq u i k Z (q'.map (Ff (NN u) q' x' d)) s'] by unfold E3;simp only;rw [O' hec]];exact h
 ·
  rename_i ca' cb' p s c d Z s';unfold xe dY at α;simp only [Po,PF,Qv,Qz,Qe]at α;have e1:kk=63:=OU.1 (by omega);subst e1;refine⟨λfn o w'=>oD w6.heap.size w43 ξ fn o w' A2,⟨63,ς 0 (by omega),aW (by decide) h43⟩,λfine3 θ ι H=>⟨63,?_,λ _=>υ ?_,(λh=>by cases h)⟩⟩
  ·rw [H.gr.cell (a:=⟨ζ,0,none⟩) l43 hnb];exact ς 0 (by omega)
  ·simpa [E1]using H
end
attribute [go_sem] Tryz.f15
def px (G:Value)(b2:Value)(w:World)(R:Bool->Sb)(h:vc aB (a6 [(4,[(5,.i)])] [] [(6,true,.lt 0 (.lt 1 (.lt 2 (.lt 3 (.lt 4 (.lt 5 (.lt 6 (.lt 7 (.lt 8 .done)))))))))]) (ai Tryz.f15) (aj 0 [.v G,.v b2]) w (fin aB [.tmp 4 .b] R)):
  Sc 15 #[G,b2] w (aw [.b] R):=
 bn Tryz.func15 (by kernel_rfl) h
attribute [go_sem] Tryz.f47
def qL (G:Int)(w:World)(R:aD->Sb)(h:vc aB (a6 [(4,[(0,.i),(3,.s)])] [] []) (ai Tryz.f47) (aj 0 [.i G]) w (fin aB [.tmp 2 .s] R)):
  Sc 47 #[(.int .i64 G)] w (aw [.s] R):=
 bn Tryz.func47 (by kernel_rfl) h
attribute [go_sem] Tryz.f16
def nc (G:Value)(H:Int)(w:World)(R:Int->Sb)(h:vc aB (a6 [(2,[(1,.i),(5,.i)])] [] []) (ai Tryz.f16) (aj 0 [.v G,.i H]) w (fin aB [.tmp 4 .i] R)):
  Sc 16 #[G,(.int .i64 H)] w (aw [.i] R):=
 bn Tryz.func16 (by kernel_rfl) h
attribute [go_sem] Tryz.f17
def nH (G:Value)(H:Int)(w:World)(R:Int->Sb)(h:vc aB (a6 [(2,[(1,.i),(5,.i)])] [] [(4,true,.lt 0 (.lt 1 (.lt 2 (.lt 3 (.lt 4 (.one .g 5 (.lt 6 .done)))))))]) (ai Tryz.f17) (aj 0 [.v G,.i H]) w (fin aB [.tmp 4 .i] R)):
  Sc 17 #[G,(.int .i64 H)] w (aw [.i] R):=
 bn Tryz.func17 (by kernel_rfl) h
section
open T Classical
def Eg {w:World}{v v':Value}{l l':List Tx}(h:Strs w v l)(h':Strs w v' l')(hl:l.length<=1000000000000){R:Bool->Sb}(hR:∀w',Ex w w'->R (decide (l=l')) w'):
  Sc 15 #[v,v'] w (aw [.b] R):=by
 refine px v v' w R ?_;dsimp only [go_sem];dsimp only [go_sem,Nat.reduceAdd];obtain⟨a,c,hv⟩:=h.slice;obtain⟨a',c',α⟩:=h'.slice;refine⟨a,_,c,hv,a',_,c',α,λH=>?_,λhe=>?_⟩
 ·have H:l.length≠l'.length:=by
   have:¬((l.length:Int)=l'.length):=by simpa using H
   omega
  have :=hR w (Ex.refl w)
  rwa [P9 λe=>H (by rw [e])]at this
 have he:l.length=l'.length:=by
  have:(l.length:Int)=l'.length:=by simpa using he
  omega
 refine⟨λi w'=>∃j:Nat,i=j/\j<=l.length/\Ex w w'/\l.take j=l'.take j,λi _=>(l.length - i).toNat,⟨0,rfl,Pn _,Ex.refl w,rfl⟩,λi w' hI=>?_⟩;obtain⟨j,rfl,hj,x,ht⟩:=hI;refine⟨a,_,c,hv,λβ=>?_,λγ=>?_⟩
 ·have Z:=oL β;have G:j< l'.length:=by omega
  obtain⟨b1,o1,c1,e1,e2,e3⟩:=(h.ex x).at Z;obtain⟨b2,o2,c2,f1,f2,f3⟩:=(h'.ex x).at G;refine⟨λw2=>Ex w' w2,λw2 J=>⟨J▸Ex.drew w',b1,o1,_,c1,e1,by omega,by omega,l[j],λw3 x3=>?_,b2,o2,_,c2,f1,by omega,by omega,l'[j],λw3 x3=>?_,λhn=>?_,λhy=>?_⟩⟩
  ·rw [x3.cell (a:=⟨b1,_,none⟩) e2,O8,OG];exact e3
  ·rw [x3.cell (a:=⟨b2,_,none⟩) f2,O8,OG];exact f3
  ·have hn:l[j]≠l'[j]:=by simpa using hn
   have :=hR w2 (Ex.trans x (J▸Ex.drew w'))
   rwa [P9 λe=>hn (by subst e;rfl)]at this
  ·have hy:l[j]=l'[j]:=by simpa using hy
   refine⟨by omega,⟨j+1,by omega,by omega,Ex.trans x (J▸Ex.drew w'),by rw [OC Z,OC G,ht,hy]⟩,tN (by omega)⟩
 ·have e:=oE γ (by omega);subst e;rw [O4,he,O4]at ht;have :=hR w' x
  rwa [P2 ht]at this
def dg (k:Nat)(o:Tx):Tx:=if h:k=0 then o else dg (k / 10) (UInt8.ofNat (Int.toNat ((48+((k:Int) % 10)) % 256))::o)
termination_by k
decreasing_by omega
def mt (k:Nat):Tx:=if k=0 then [109,48]else 109::dg k []
def vY {k:Nat}(hk:k<=1099511627776){w:World}{R:aD->Sb}(hR:∀w',Ex w w'->R (mt k) w'):
  Sc 47 #[.int .i64 k] w (aw [.s] R):=by
 refine qL k w R ?_;dsimp only [go_sem];dsimp only [go_sem,Nat.reduceAdd];refine⟨λh=>?_,λh=>?_⟩
 ·have h:k=0:=by simp only [OK]at h;omega
  have :=hR w (Ex.refl w);unfold mt at this
  rwa [O' h]at this
 have h:k≠0:=by simp only [OF]at h;omega
 refine⟨λx o w'=>∃n:Nat,x=n/\Ex w w'/\dg n o=dg k []/\o.length+n<=k,λx _ _=>x.toNat,⟨k,rfl,Ex.refl w,rfl,by simp⟩,λx o w' Z=>?_⟩;obtain⟨n,rfl,x,hd,hl⟩:=Z;refine⟨λG=>?_,λG=>?_⟩
 ·have G:n≠0:=by simp only [OK]at G;omega
  refine⟨⟨by omega,by omega⟩,by omega,λb w8 hb H=>?_⟩;refine⟨b,0,1,1,[UInt8.ofNat (Int.toNat ((48+((n:Int) % 10)) % 256))],rfl,rfl,λj x J=>?_,by simp only [PM];omega,⟨by omega,by omega,by omega⟩,⟨n / 10,by omega,Ex.trans x (H▸Ex.alloc w' _),?_,by simp only [Oy,PM];omega⟩,by show((n:Int) / 10).toNat< (n:Int).toNat;omega⟩
  ·cases j with
   | zero=>
    have J:UInt8.ofNat (Int.toNat ((48+((n:Int) % 10)) % 256))=x:=by simpa using J
    rw [H,hb,<-J];exact aa rfl
   | succ j=>simp at J
  ·rw [<-hd]
   conv=>rhs;rw [dg]
   rw [dif_neg G];rfl
 ·have G:n=0:=by simp only [OF]at G;omega
  subst G;rw [dg,dif_pos rfl]at hd;refine⟨by simp only [PM];omega,?_⟩;have :=hR w' x;unfold mt at this;rw [OP h,<-hd]at this;exact this
def Dw (n:Nat):List Tx:=(List.range n).map λi=>mt (i+1)
def mP (n:Nat):(Dw n).length=n:=by simp [Dw]
def IJ (n:Nat):Dw (n+1)=Dw n++[mt (n+1)]:=by simp [Dw,Qw]
def J0 {l:List Tx}{i:Nat}(h:i< l.length):(Dw i++l.drop i).set i (mt (i+1))=Dw (i+1)++l.drop (i+1):=by
 rw [List.set_append_right _ _ (by rw [mP];exact OB _),mP,R6,Ps h,List.set_cons_zero,IJ,Pe];rfl
def EN {B:Nat}{w w':World}{g cap n j:Nat}{l:List Tx}{x:Tx}(h:Own B w (.slice (some ⟨g,0,none⟩) n cap) l)(hw:w'=w.setCell ⟨g,j,none⟩ (.string (ak x)))(H:j< l.length):Own B w' (.slice (some ⟨g,0,none⟩) n cap) (l.set j x):=by
 have J:aM 9 B w (.slice (some ⟨g,0,none⟩) n cap) (l.map sv):=by unfold aM;rw [OM];exact h
 have G:=J.set hw (by rw [OM];exact H);unfold aM at G;rw [PW,OM]at G;unfold Own;rw [PW,Rp];exact G
def Ez {B:Nat}{w:World}{v:Value}{l:List Tx}(h:Own B w v l)(hl:l.length<=1000000000000){R:Int->Sb}(hR:∀w',Kp w w' (λg=>v.ownBlock=some g)->Own B w' v (Dw l.length)->R (l.length+1:Nat) w'):
  Sc 16 #[v,.int .i64 1] w (aw [.i] R):=by
 refine nc v 1 w R ?_;dsimp only [go_sem];dsimp only [go_sem,Nat.reduceAdd];obtain⟨a,c,hv⟩:=h.strs.slice;refine⟨λk i w'=>∃j:Nat,i=j/\k=j+1/\j<=l.length/\Kp w w' (λg=>v.ownBlock=some g)/\Own B w' v (Dw j++l.drop j),λ _ i _=>(l.length - i).toNat,⟨0,rfl,rfl,Pn _,Kp.ab (Ex.refl w) _,by simpa [Dw]using h⟩,λk i w' hI=>?_⟩;obtain⟨j,rfl,rfl,hj,kp,Z⟩:=hI;refine⟨a,_,c,hv,λα=>?_,λβ=>?_⟩
 ·have γ:=oL α;refine vY (k:=j+1) (by omega) λw2 x2=>?_
  have G:=Z.ex x2;have hlen:(Dw j++l.drop j).length=l.length:=by rw [Oy,mP,P7];omega
  rcases G.2 with⟨_,hn⟩ | ⟨g,cap,cur,H,hb,hg,_⟩
  ·omega
  have δ:v.ownBlock=some g:=uc H;obtain⟨b1,o1,c1,e1,e2,e3⟩:=G.strs.at (i:=j) (by omega);have e:=H.symm.trans e1;simp only [Value.slice.injEq,PJ,Addr.mk.injEq]at e;obtain⟨⟨rfl,rfl,_⟩,_,_⟩:=e;have ej:0+(j:Int).toNat* 1=j:=by omega
  refine⟨g,0,_,_,H,by omega,by omega,?_⟩;dsimp only;rw [ej];rw [O6]at e3;refine⟨⟨⟨_,e3⟩,?_⟩,λw3 J=>⟨by omega,by omega,⟨j+1,by omega,by omega,by omega,?_,?_⟩,by omega⟩⟩
  ·unfold World.frozen?;simp only [hg];simp
  ·rw [J];exact(kp.trans (Kp.ab x2 λg=>v.ownBlock=some g) λ _ _ h=>h).set δ _
  ·rw [H]at G|-;have :=EN G J (by omega)
   rwa [J0 γ]at this
 ·have e:=oE β (by omega);subst e;rw [Qd,O5]at Z;exact hR w' kp Z
def DU {w:World}{v:Value}{n:Nat}(h:Strs w v (Dw n))(hl:n<=1000000000000){R:Int->Sb}(hR:∀w',Ex w w'->R (n+1:Nat) w'):
  Sc 17 #[v,.int .i64 1] w (aw [.i] R):=by
 refine nH v 1 w R ?_;dsimp only [go_sem];dsimp only [go_sem,Nat.reduceAdd];obtain⟨a,c,hv⟩:=h.slice;rw [mP]at hv;refine⟨λk i w'=>∃j:Nat,i=j/\k=j+1/\j<=n/\Ex w w',λ _ i _=>(n - i).toNat,⟨0,rfl,rfl,Pn _,Ex.refl w⟩,λk i w' hI=>?_⟩;obtain⟨j,rfl,rfl,hj,x⟩:=hI;refine⟨a,_,c,hv,λJ=>?_,λZ=>?_⟩
 ·have α:=oL J;have β:j< (Dw n).length:=by rw [mP];exact α
  obtain⟨b1,o1,c1,e1,e2,e3⟩:=(h.ex x).at β;have em:(Dw n)[j]=mt (j+1):=by simp [Dw]
  rw [em]at e3;refine⟨λw2=>Ex w' w2,λw2 G=>⟨G▸Ex.drew w',b1,o1,_,c1,e1,by omega,by rw [mP];omega,mt (j+1),λw3 H=>?_,?_⟩⟩
  ·rw [H.cell (a:=⟨b1,_,none⟩) e2,O8,OG];exact e3
  have x2:Ex w' w2:=G▸Ex.drew w';refine vY (k:=j+1) (by omega) λw3 H=>⟨Ex.trans x2 H,λhn=>by simp at hn,λ _=>⟨by omega,by omega,⟨j+1,by omega,by omega,by omega,Ex.trans x (Ex.trans x2 H)⟩,tN (by omega)⟩⟩
 ·have e:=oE Z (by omega);subst e;exact hR w' x
end
attribute [go_sem] Tryz.f20
def qc (G:Value)(H:Int)(w:World)(R:Int->Sb)(h:vc aB (a6 [(5,[(1,.i),(5,.i)])] [] []) (ai Tryz.f20) (aj 0 [.v G,.i H]) w (fin aB [.tmp 4 .i] R)):
  Sc 20 #[G,(.int .i64 H)] w (aw [.i] R):=
 bn Tryz.func20 (by kernel_rfl) h
attribute [go_sem] Tryz.f22
def po (G:Value)(w:World)(R:Value->Sb)(h:vc aB (a6 [(3,[(4,.i)])] [] []) (ai Tryz.f22) (aj 0 [.v G]) w (fin aB [.tmp 2 .v] R)):
  Sc 22 #[G] w (aw [.v] R):=
 bn Tryz.func22 (by kernel_rfl) h
section
open T Classical
def zv (w:World)(v:Value)(l:List Tx):Prop:=
 (∃a cap,v= .slice a l.length cap)/\∀i (h:i< l.length),∃b off cap,v= .slice (some ⟨b,off,none⟩) l.length cap/\b< w.heap.size/\w.cell? ⟨b,off+i,none⟩=some (.string (ak l[i]))/\l[i].length<=maxLen
def zv.ex {w w':World}{v:Value}{l:List Tx}(h:zv w v l)(x:Ex w w'):zv w' v l:=⟨h.1,λi hi=>by
 obtain⟨b,off,cap,G,H,J,h4⟩:=h.2 i hi;have :=x.size;exact⟨b,off,cap,G,by omega,by rw [x.cell (a:=⟨b,_,none⟩) H];exact J,h4⟩⟩
def Nt {w:World}{v:Value}{l:List Tx}(h:zv w v l)(hl:l.length<=maxLen){R:Int->Sb}(hR:∀n:Int,(n< 0\/(l.length<=1048576/\∀x∈l,x.length<=1048576))->R n w):
  Sc 20 #[v,.int .i64 1048576] w (aw [.i] R):=by
 refine qc v 1048576 w R ?_;dsimp only [go_sem];dsimp only [go_sem,Nat.reduceAdd];obtain⟨a,c,hv⟩:=h.1;unfold maxLen at hl;refine⟨a,_,c,hv,by omega,λhn=>hR _ (.inl (by omega)),λJ=>?_⟩;have J:l.length<=1048576:=by simp only [OF]at J;omega
 refine⟨λk i w'=>w'=w/\(0<=k/\k<=1048576)/\∃j:Nat,i=j/\j<=l.length/\∀x∈l.take j,x.length<=1048576,λ _ i _=>(l.length - i).toNat,⟨rfl,⟨by omega,by omega⟩,0,rfl,Pn _,by simp⟩,λk i w' hI=>?_⟩;obtain⟨rfl,⟨β,γ⟩,j,rfl,hj,hx⟩:=hI;refine⟨a,_,c,hv,λZ=>?_,λα=>hR _ (.inr ⟨J,by rwa [oE α hj,O4]at hx⟩)⟩;have G:=oL Z;obtain⟨b,off,cap,h1,h2,h3,h4⟩:=h.2 j G;unfold maxLen at h4;refine⟨b,off,_,cap,h1,by omega,by omega,l[j],by rw [OG,O8];exact h3,by omega,λhn=>hR _ (.inl (by omega)),λhq=>⟨by omega,⟨rfl,⟨?_,by omega⟩,j+1,by omega,by omega,λx H=>?_⟩,tN (by omega)⟩⟩
 ·simp only [OF]at hq;omega
 ·simp only [OF]at hq;rw [OC G]at H;rcases OH.1 H with h | h
  ·exact hx x h
  ·cases OL.1 h;omega
def DT {w:World}{v:Value}{l:List Tx}(h:zv w v l)(hl:l.length<=1048576){R:Value->Sb}(hR:∀v' w',Ex w w'->Own w.heap.size w' v' l->R v' w'):
  Sc 22 #[v] w (aw [.v] R):=by
 refine po v w R ?_;dsimp only [go_sem];dsimp only [go_sem,Nat.reduceAdd];obtain⟨a,c,hv⟩:=h.1;refine⟨a,_,c,hv,⟨by omega,rfl,by omega⟩,λb w6 hb G=>?_⟩;have x6:Ex w w6:=G▸Ex.alloc w _;have o6:Own w.heap.size w6 (.slice (some ⟨b,0,none⟩) l.length l.length) (List.replicate l.length []):=by
  subst hb G;refine⟨by simp,.inr ⟨_,l.length,(List.replicate l.length (.string ⟨#[]⟩)).toArray,by simp,OB _,?_,by simp,by unfold maxLen;omega,by simp,by simp [sv,ak]⟩⟩;unfold World.alloc;simp
 refine⟨λi w'=>∃j:Nat,i=j/\j<=l.length/\Ex w w'/\Own w.heap.size w' (.slice (some ⟨b,0,none⟩) l.length l.length) (l.take j++List.replicate (l.length - j) []),λi _=>(l.length - i).toNat,⟨0,rfl,Pn _,x6,by simpa using o6⟩,λi w' hI=>?_⟩;obtain⟨j,rfl,hj,x,H⟩:=hI;have el:((l.length:Int)).toNat=l.length:=OG _;refine⟨a,_,c,hv,λα=>?_,λβ=>?_⟩
 ·have J:=oL α;obtain⟨b1,off,cap,h1,h2,h3,_⟩:=(h.ex x).2 j J;refine⟨b1,off,_,cap,h1,by omega,by omega,l[j],by rw [OG,O8];exact h3,b,0,_,_,rfl,by omega,by omega,?_⟩;dsimp only;rw [show 0+(j:Int).toNat* 1=j by omega];have hlen:(l.take j++List.replicate (l.length - j) []).length=l.length:=by rw [Oy,Pd,List.length_replicate];omega
  obtain⟨b2,o2,c2,e1,e2,e3⟩:=H.strs.at (i:=j) (by omega);simp only [Value.slice.injEq,PJ,Addr.mk.injEq]at e1;obtain⟨⟨rfl,rfl,_⟩,_,_⟩:=e1;rw [O6]at e3;have hf:w'.frozen? ⟨b,j,none⟩=false:=by
   rcases H.2 with⟨e,_⟩ | ⟨g,_,cur,e,_,hg,_⟩
   ·cases e
   ·simp only [Value.slice.injEq,PJ,Addr.mk.injEq]at e;obtain⟨⟨rfl,_⟩,_,_⟩:=e;unfold World.frozen?;simp only [hg];simp
  refine⟨⟨⟨_,e3⟩,hf⟩,λw3 Z=>⟨by omega,⟨j+1,by omega,by omega,?_,?_⟩,tN (by omega)⟩⟩
  ·rw [Z];exact Ex.own x (by omega) _
  ·have :=EN H Z (by omega);have e:(l.take j++List.replicate (l.length - j) []).set j l[j]=l.take (j+1)++List.replicate (l.length - (j+1)) []:=by
    rw [List.set_append_right _ _ (by rw [Pd];omega),Pd,Qx (by omega),R6,show l.length - j=(l.length - (j+1))+1 by omega,List.replicate_succ,List.set_cons_zero,OC J,Pe];rfl
   rwa [e]at this
 ·have e:=oE β (by omega);subst e;rw [O4,R6,List.replicate_zero,O5]at H;rw [el];exact hR _ w' x H
end
attribute [go_sem] Tryz.f45
def sL (s1:aD)(w:World)(R:Bool->Sb)(h:vc aB (a6 [] [] []) (ai Tryz.f45) (aj 0 [.s s1]) w (fin aB [.tmp 2 .b] R)):
  Sc 45 #[(.string (ak s1))] w (aw [.b] R):=
 bn Tryz.func45 (by kernel_rfl) h
attribute [go_sem] Tryz.f123
def uU (G:Int)(w:World)(R:aD->Sb)(h:vc aB (a6 [] [] []) (ai Tryz.f123) (aj 0 [.i G]) w (fin aB [.tmp 2 .s] R)):
  Sc 123 #[(.int .i64 G)] w (aw [.s] R):=
 bn Tryz.func123 (by kernel_rfl) h
attribute [go_sem] Tryz.f81
def vC (n1:aD)(w:World)(R:UInt32->Sb)(h:vc aB (a6 [] [] []) (ai Tryz.f81) (aj 0 [.s n1]) w (fin aB [.tmp 2 .w] R)):
  Sc 81 #[(.string (ak n1))] w (aw [.w] R):=
 bn Tryz.func81 (by kernel_rfl) h
attribute [go_sem] Tryz.f146
def pd (t1:Value)(w:World)(R:UInt32->Sb)(h:vc aB (a6 [(3,[(3,.w),(11,.i)])] [(9,[(3,.w)])] [(12,true,.lt 0 (.lt 1 (.lt 2 (.lt 3 (.lt 4 (.lt 6 (.lt 7 (.lt 8 (.lt 9 (.one .g 5 (.one .g 10 (.lt 11 (.lt 12 (.lt 13 .done))))))))))))))]) (ai Tryz.f146) (aj 0 [.v t1]) w (fin aB [.tmp 2 .w] R)):
  Sc 146 #[t1] w (aw [.w] R):=
 bn Tryz.func146 (by kernel_rfl) h
attribute [go_sem] Tryz.f122
def pZ (s1:Value)(G:aD)(H:aD)(J:Bool)(w:World)(R:Sb)(h:vc aB (a6 [] [] []) (ai Tryz.f122) (aj 0 [.v s1,.s G,.s H,.b J]) w (fin aB [] R)):
  Sc 122 #[s1,(.string (ak G)),(.string (ak H)),(.bool J)] w (aw [] R):=
 bn Tryz.func122 (by kernel_rfl) h
attribute [go_sem] Tryz.f149
def kh (s1:Value)(w:World)(R:Value->Sb)(h:vc aB (a6 [] [] []) (ai Tryz.f149) (aj 0 [.v s1]) w (fin aB [.tmp 2 .v] R)):
  Sc 149 #[s1] w (aw [.v] R):=
 bn Tryz.func149 (by kernel_rfl) h
def kU (s1:Value)(o2:Value)(n3:UInt8)(a4:Bool)(w:World)(R:Sb)(h:bT s1 λb5 o6=>dP w b5 (o6+2) λv7=>bT v7 λb8 o9=>dP w b8 (o9+1) λv10=>kZ v10 λl12=>yC 0 w λI14 m15 H υ=>bZ (decide (H< (l12:Int))) (jQ v10 H λb18 o19=>dP υ b18 (o19+H.toNat* 1) λv22=>lg 113 #[v22] υ λv23 w24=>kZ v23 λl26=>yC 0 w24 λφ β G J=>bZ (decide (G< (l26:Int))) (jQ v23 G λε ζ=>∃c36:UInt8,∃n37:Int,∃n38:Int,∃v39:Value,∃q40:Bool,(World.cell? J ⟨ε,(ζ+G.toNat* 5),none⟩=some (.int .u8 c36.toNat)/\World.cell? J ⟨ε,((ζ+G.toNat* 5)+1),none⟩=some (.int .i64 n37)/\World.cell? J ⟨ε,(((ζ+G.toNat* 5)+1)+1),none⟩=some (.int .i64 n38)/\World.cell? J ⟨ε,((((ζ+G.toNat* 5)+1)+1)+1),none⟩=some v39/\World.cell? J ⟨ε,(((((ζ+G.toNat* 5)+1)+1)+1)+1),none⟩=some (.bool q40)/\True)/\db J (.cells #[(.int .u8 0),(.int .i64 0),(.int .i64 0),(.pointer none),(.bool false)] 134) λZ w42=>Lg w42 Z 0 5 [(.int .u8 c36.toNat),(.int .i64 n37),(.int .i64 n38),v39,(.bool q40)] λη=>rG η Z 0 λc44=>Gp (!decide (c44=33)) (Gd η Z 1 λn45=>Er 147 #[s1,(.int .i64 n45)] η λq46 χ=>bZ q46 (bG (G+1)/\φ (G+1) χ/\β (G+1) χ< β G J) (Gd χ Z 2 λn48=>Er 147 #[s1,(.int .i64 n48)] χ λq49 θ=>bZ (!q49) (∃J51:aD->Bool->Sb,(jf θ λα w53=>bT s1 λb54 o55=>fq α b54 (o55+2) λv56=>bT v56 λb57 o58=>fq α b57 (o58+0) λv59=>fq α Z 3 λψ=>(db w53 (.cells #[(.int .i64 H)] 3) λb61 w62=>α w62/\oneV ψ=true/\db w62 (.cells #[ψ] 59) λb63 w64=>α w64/\qu 114 #[s1,(.slice (some ⟨b61,0,none⟩) 1 1),v59,(.slice (some ⟨b63,0,none⟩) 1 1)] w64 λs65 q66 w67=>α w67/\J51 s65 q66 w67)/\(oneV ψ=true/\db w53 (.cells #[ψ] 59) λb68 w69=>α w69/\db w69 (.cells #[(.int .i64 H)] 3) λb70 w71=>α w71/\qu 114 #[s1,(.slice (some ⟨b70,0,none⟩) 1 1),v59,(.slice (some ⟨b68,0,none⟩) 1 1)] w71 λs72 q73 w74=>α w74/\J51 s72 q73 w74))/\∀(t75:aD) (o76:Bool) (w77:World),J51 t75 o76 w77->jf w77 λι w79=>uX ι Z 1 λn80=>uX ι Z 2 λn81=>KF 123 #[(.int .i64 n80)] w79 λs82 w83=>ι w83/\(s82.length+List.length [33]<=4611686018427387904)/\KF 123 #[(.int .i64 n81)] w83 λs84 w85=>ι w85/\(List.length (s82++[33])+s84.length<=4611686018427387904)/\fC 122 #[o2,(.string (ak ((s82++[33])++s84))),(.string (ak t75)),(.bool o76)] w85 λw86=>ι w86/\bG (G+1)/\φ (G+1) w86/\β (G+1) w86< β G J) (bZ (!a4) (bT o2 λb87 o88=>nj θ b87 (o88+2) (.bool true) λw90=>R w90) (bT s1 λb91 o92=>dP θ b91 (o92+2) λv93=>bT v93 λb94 o95=>dP θ b94 (o95+1) λv96=>lg 149 #[v96] θ λv97 w98=>bG (H+1)/\lg 148 #[v97,(.int .i64 H),(.int .i64 (H+1))] w98 λv99 w100=>oneV v99=true/\db w100 (.cells #[(.slice none 0 0),v99] 129) λκ μ=>bT s1 λb103 o104=>dP μ b103 (o104+2) λv105=>bT v105 λb106 o107=>dP μ b106 (o107+0) λv108=>lg 151 #[v108] μ λv109 w110=>lg 150 #[v109,(Value.func (Fn.func 152) #[] #[(.pointer (some ⟨Z,0,none⟩))])] w110 λω w112=>oneV ω=true/\nj w112 κ 0 ω λw114=>dP w114 Z 3 λv115=>fC 153 #[(.pointer (some ⟨κ,0,none⟩)),v115] w114 λw116=>jf w116 λγ w118=>bT s1 λb119 o120=>uX γ Z 2 λn121=>db w118 (Obj.map #[] 0) λb122 ν=>γ ν/\∃(δ:Nat) (m125:Value->Option Value),(Value.map (some b122))= .map (some δ)/\IsMap ν δ (.int .i64) m125/\∀ξ:World,IsMap ξ δ (.int .i64) (gF m125 (.int .i64 n121) (.int .i64 (UInt8.toNat (n3 - 97:UInt8):Int)))->dO ν ξ δ->lg 154 #[(.pointer (some ⟨b119,(o120+0),none⟩)),(.pointer (some ⟨κ,0,none⟩)),(.map (some b122))] ξ λv127 w128=>γ w128/\qu 117 #[v127] w128 λs129 q130 ο=>γ ο/\Gd ο Z 1 λn132=>KF 123 #[(.int .i64 n132)] ο λς w134=>(ς.length+List.length [33,35]<=4611686018427387904)/\(0<=(UInt8.toNat n3:Int)/\(UInt8.toNat n3:Int)< 128)/\(List.length (ς++[33,35])+List.length [UInt8.ofNat (Int.toNat (UInt8.toNat n3:Int))]<=4611686018427387904)/\fC 122 #[o2,(.string (ak ((ς++[33,35])++[UInt8.ofNat (Int.toNat (UInt8.toNat n3:Int))]))),(.string (ak s129)),(.bool q130)] w134 λw135=>bG (G+1)/\φ (G+1) w135/\β (G+1) w135< β G J)))) (bG (G+1)/\φ (G+1) η/\β (G+1) η< β G J)) (bG (H+1)/\I14 (H+1) J/\m15 (H+1) J< m15 H υ)) (R υ)):
  Sc 82 #[s1,o2,(.int .u8 n3.toNat),(.bool a4)] w (aw [] R):=
 Iz (a6 [(1,[(25,.i)]),(4,[(33,.i)])] [(9,[(12,.s),(13,.b)])] [(8,true,.lt 0 (.lt 1 (.lt 3 (.lt 4 (.lt 5 (.lt 6 (.lt 7 (.lt 8 (.lt 9 (.lt 10 (.lt 11 (.br .g 2 (.one .g 12 (.one .g 13 (.lt 14 (.lt 15 (.lt 16 (.lt 17 (.lt 18 .done))))))) (.one .g 12 (.one .g 2 (.one .g 13 (.lt 14 (.lt 15 (.lt 16 (.lt 17 (.lt 18 .done)))))))))))))))))))),(9,true,.lt 0 (.lt 1 (.lt 2 (.lt 5 (.lt 6 (.lt 9 (.lt 10 (.one .g 3 (.lt 4 (.one .g 7 (.lt 8 (.one .g 11 .done)))))))))))),(15,true,.lt 0 (.lt 1 (.lt 2 (.lt 3 (.lt 5 (.lt 6 (.lt 7 (.lt 8 (.lt 9 (.one .g 4 (.one .n 10 (.lt 11 (.one .g 12 (.one .g 13 (.lt 14 (.lt 15 (.lt 16 (.lt 17 (.lt 18 .done)))))))))))))))))))]) [] [.v s1,.v o2,.c n3,.b a4] Tryz.func82 (by kernel_rfl) h
attribute [go_sem] Tryz.f191
def jZ (n1:Int)(c2:Value)(c3:Value)(c4:Value)(w:World)(R:aD->Bool->Sb)(h:vc aB (a6 [] [] [(1,true,.lt 0 (.lt 1 (.lt 2 (.lt 3 (.lt 4 (.lt 5 (.lt 6 (.lt 7 (.lt 8 (.lt 9 (.lt 10 (.lt 11 (.one .g 12 (.one .g 13 (.one .g 14 (.lt 15 (.lt 16 (.lt 17 (.lt 18 .done)))))))))))))))))))]) (ai Tryz.f191) (aj 0 [.i n1,.v c2,.v c3,.v c4]) w (fin aB [.tmp 5 .s,.tmp 6 .b] R)):
  Sc 191 #[(.int .i64 n1),c2,c3,c4] w (aw [.s,.b] R):=
 bn Tryz.func191 (by kernel_rfl) h
def lk (s1:Value)(w:World)(R:Value->Sb)(h:oneV s1=true/\db w (.cells #[s1] 45) λb2 w3=>db w3 (.cells #[] 149) λb4 w5=>dP w5 b2 0 λv6=>bT v6 λb7 o8=>dP w5 b7 (o8+2) λv9=>bT v9 λb10 ω=>dP w5 b10 (ω+1) λv12=>kZ v12 λl14=>zb ((.slice (some ⟨b4,0,none⟩) 0 0)) 0 w5 λI16 μ ι α ζ=>bZ (decide (α< (l14:Int))) (jQ v12 α λb21 o22=>dP ζ b21 (o22+α.toNat* 1) λv25=>lg 113 #[v25] ζ λv26 w27=>kZ v26 λl29=>zb ι 0 w27 λη m32 H G J=>bZ (decide (G< (l29:Int))) (jQ v26 G λδ ε=>∃ν:UInt8,∃n41:Int,∃n42:Int,∃ξ:Value,∃ο:Bool,(World.cell? J ⟨δ,(ε+G.toNat* 5),none⟩=some (.int .u8 ν.toNat)/\World.cell? J ⟨δ,((ε+G.toNat* 5)+1),none⟩=some (.int .i64 n41)/\World.cell? J ⟨δ,(((ε+G.toNat* 5)+1)+1),none⟩=some (.int .i64 n42)/\World.cell? J ⟨δ,((((ε+G.toNat* 5)+1)+1)+1),none⟩=some ξ/\World.cell? J ⟨δ,(((((ε+G.toNat* 5)+1)+1)+1)+1),none⟩=some (.bool ο)/\True)/\db J (.cells #[(.int .u8 0),(.int .i64 0),(.int .i64 0),(.pointer none),(.bool false)] 134) λZ w46=>Lg w46 Z 0 5 [(.int .u8 ν.toNat),(.int .i64 n41),(.int .i64 n42),ξ,(.bool ο)] λβ=>rG β Z 0 λc48=>Gp (!decide (c48=63)) (dP β b2 0 λv49=>Gd β Z 1 λn50=>Er 147 #[v49,(.int .i64 n50)] β λq51 κ=>bZ q51 (bG (G+1)/\η H (G+1) κ/\m32 H (G+1) κ< m32 H G J) (db κ (.cells #[(.int .i64 α)] 3) λς w54=>db w54 (.cells #[(.slice none 0 0)] 126) λγ w56=>oneV (.slice (some ⟨ς,0,none⟩) 1 1)=true/\nj w56 γ 0 (.slice (some ⟨ς,0,none⟩) 1 1) λθ=>NG θ Z 4 λq59=>bZ q59 (oneV (.slice none 0 0)=true/\nj θ γ 0 (.slice none 0 0) λυ=>Gd υ Z 1 λn62=>oneV (Value.func (Fn.func 191) #[] #[(.pointer (some ⟨b2,0,none⟩)),(.pointer (some ⟨γ,0,none⟩)),(.pointer (some ⟨Z,0,none⟩))])=true/\db υ (.cells #[(.int .i64 n62),(Value.func (Fn.func 191) #[] #[(.pointer (some ⟨b2,0,none⟩)),(.pointer (some ⟨γ,0,none⟩)),(.pointer (some ⟨Z,0,none⟩))])] 149) λb63 w64=>nV 149 2 16 w64 H (.slice (some ⟨b63,0,none⟩) 1 1) λv70 φ=>bG (G+1)/\η v70 (G+1) φ/\m32 v70 (G+1) φ< m32 H G J) (Gd θ Z 1 λn72=>oneV (Value.func (Fn.func 191) #[] #[(.pointer (some ⟨b2,0,none⟩)),(.pointer (some ⟨γ,0,none⟩)),(.pointer (some ⟨Z,0,none⟩))])=true/\db θ (.cells #[(.int .i64 n72),(Value.func (Fn.func 191) #[] #[(.pointer (some ⟨b2,0,none⟩)),(.pointer (some ⟨γ,0,none⟩)),(.pointer (some ⟨Z,0,none⟩))])] 149) λb73 w74=>nV 149 2 16 w74 H (.slice (some ⟨b73,0,none⟩) 1 1) λχ ψ=>bG (G+1)/\η χ (G+1) ψ/\m32 χ (G+1) ψ< m32 H G J))) (bG (G+1)/\η H (G+1) β/\m32 H (G+1) β< m32 H G J)) (bG (α+1)/\I16 H (α+1) J/\μ H (α+1) J< μ ι α ζ)) (R ι ζ)):
  Sc 121 #[s1] w (aw [.v] R):=
 Iz (a6 [(3,[(3,.v),(18,.i)]),(6,[(3,.v),(26,.i)])] [] []) [.tmp 2 .v] [.v s1] Tryz.func121 (by kernel_rfl) h
attribute [go_sem] Tryz.f67
def ld (s1:Value)(G:Value)(H:UInt8)(w:World)(R:Sb)(h:vc aB (a6 [(1,[(13,.i)])] [] []) (ai Tryz.f67) (aj 0 [.v s1,.v G,.c H]) w (fin aB [] R)):
  Sc 67 #[s1,G,(.int .u8 H.toNat)] w (aw [] R):=
 bn Tryz.func67 (by kernel_rfl) h
attribute [go_sem] Tryz.f199
attribute [go_sem] Tryz.f46
def oB (s1:Value)(G:aD)(w:World)(R:Value->Bool->Sb)(h:vc aB (a6 [(14,[(72,.i)])] [(12,[]),(13,[(8,.v)])] []) (ai Tryz.f46) (aj 0 [.v s1,.s G]) w (fin aB [.tmp 4 .v,.tmp 5 .b] R)):
  Sc 46 #[s1,(.string (ak G))] w (aw [.v,.b] R):=
 bn Tryz.func46 (by kernel_rfl) h
attribute [go_sem] Tryz.f14
attribute [go_sem] Tryz.f54
def kR (G:aD)(w:World)(R:Bool->Sb)(h:vc aB (a6 [] [] []) (ai Tryz.f54) (aj 0 [.s G]) w (fin aB [.tmp 2 .b] R)):
  Sc 54 #[(.string (ak G))] w (aw [.b] R):=
 bn Tryz.func54 (by kernel_rfl) h
attribute [go_sem] Tryz.f23
def np (G:aD)(H:Value)(w:World)(R:Value->Bool->Sb)(h:vc aB (a6 [(6,[(8,.v),(39,.i)]),(10,[(47,.i)])] [] []) (ai Tryz.f23) (aj 0 [.s G,.v H]) w (fin aB [.tmp 4 .v,.tmp 5 .b] R)):
  Sc 23 #[(.string (ak G)),H] w (aw [.v,.b] R):=
 bn Tryz.func23 (by kernel_rfl) h
attribute [go_sem] Tryz.f3
attribute [go_sem] Tryz.f5
def iy (G:aD)(a2:Value)(w:World)(R:Bool->Sb)(h:vc aB (a6 [] [] []) (ai Tryz.f5) (aj 0 [.s G,.v a2]) w (fin aB [.tmp 4 .b] R)):
  Sc 5 #[(.string (ak G)),a2] w (aw [.b] R):=
 bn Tryz.func5 (by kernel_rfl) h
section
open T Classical
def ρZ (d:Nat):Rh:=λz=>if z=d then 90 else ρ0 z
structure Nv (O:List Nat)(F:List UInt8)(d:Nat)(p:P)(q:U):Prop where
 ae:AE UInt8.toNat p (λz=>(asg O F (ρZ d) z).toNat) q
 wf:p.wf=true
 eb:Eb 0 p
 fr:∀z,q.Fr z->z∈O\/z=d\/(z< 26/\ρ0 z∉F)
def HC (k:Nat):okn k 90:= .inl (by show(90:UInt8).toNat< _;have:(90:UInt8).toNat=90:=rfl;omega)
def DL {p:P}(H:∀z,p.Fr z->lt z=true\/z=90):∀{l:List UInt8} {k:Nat},Eb k p->(∀c∈l,lt c=true)->Eb k (resL l p)
 | [],_,G,_=>G
 | c::l,k,G,h=>by
  refine⟨⟨nZ (h c (by simp)),λz J _=>?_⟩,DL H (G.mono (by omega)) λx Z=>h x (OJ _ Z)⟩;rcases H z (cy.1 J).2 with e | rfl
  ·exact oM e k
  ·exact HC k
structure LF (d:Nat)(W:P)(V:U):Prop where
 ae:AE UInt8.toNat W (λz=>(ρZ d z).toNat) V
 wf:W.wf=true
 eb:Eb 0 W
 bd:W.pm<=64
 len:W.aJ<=1000000000
 fr:∀z,V.Fr z->z=d\/z< 26
 uq:Uq V
 bv:∀x∈BV V,26<=x
 lb:∀f:Nat->Nat,Lb 0 (V.map f)
def p8 {A B:Type}(f:A->B)(p:T A):∀l:List A,(resL l p).map f=resL (l.map f) (p.map f)
 | []=>rfl
 | c::l=>by simp only [resL,O3,T.map,p8 f p l]
def qf {A B:Type}(f:A->B):∀l:List (T A),(parL l).map f=parL (l.map (T.map f))
 | []=>rfl
 | [p]=>rfl
 | p::q::l=>by simp only [parL,O3,T.map];rw [qf f (q::l)];rfl
def Ci {O:List Nat}{F:List UInt8}{d:Nat}(hd:26<=d)(η:d∉O)(hl:O.length=F.length)(hF:F.Nodup)(H:∀c∈F,lt c=true)(ho:∀x∈O,26<=x){ps:List P}{us:List U}(h:eg (Nv O F d) ps us)(nd:(O++us.flatMap BV).Nodup)(bv:∀x∈us.flatMap BV,26<=x)(θ:d∉us.flatMap BV)
  (hb:∀p∈ps,F.length+p.rd+p.ow<=59) (ι:F.length+(parL ps).ow<=64) (ξ:(parL ps).aJ<=900000000) (ο:F.length<=300):LF d (resL F (parL ps)) (resL O (parL us)):=by
 have κ:lt 90=false:=by decide
 have α:∀z,(resL O (parL us)).Fr z->z=d\/(z< 26/\ρ0 z∉F):=λz J=>by
  obtain⟨h1,h2⟩:=cy.1 J;obtain⟨q,hq,β⟩:=eK.1 h2;obtain⟨p,Z,γ⟩:=h.sO hq;exact(γ.fr z β).resolve_left h1
 have ε:AE UInt8.toNat (parL ps) (λz=>(asg O F (ρZ d) z).toNat) (parL us):=AE.LU (h.mono λp q k=>k.ae);have nF:∀z,z=d\/(z< 26/\ρ0 z∉F)->ρZ d z∉F:=λz J hm=>by
  unfold ρZ at hm;rcases J with rfl | ⟨h1,h2⟩
  ·rw [O' rfl]at hm;have :=H _ hm;rw [κ]at this;cases this
  ·rw [OP (by omega)]at hm;exact h2 hm
 have ae:AE UInt8.toNat (resL F (parL ps)) (λz=>(ρZ d z).toNat) (resL O (parL us)):=AE.D6 O F (ρZ d) hl hF (λz J G=>nF z (α z (cy.2 ⟨G,J⟩))) ε;have μ:∀c,(parL ps).Fr c->lt c=true\/c=90:=λc hc=>by
  obtain⟨z,J,e⟩:=ε.free c hc;have e:=OU.1 e;obtain⟨q,hq,β⟩:=eK.1 J;obtain⟨p,Z,γ⟩:=h.sO hq;by_cases G:z∈O
  ·left;rw [<-e];exact H _ (dC O F _ z G hl)
  ·rw [<-e,bB _ _ _ _ G];unfold ρZ;rcases(γ.fr z β).resolve_left G with rfl | ⟨h1,_⟩
   ·right;exact O' rfl
   ·left;rw [OP (by omega)];exact El h1
 have δ:BV (resL O (parL us))=O++us.flatMap BV:=by rw [cQ,cP]
 have ζ:∀x∈BV (resL O (parL us)),26<=x:=λx hx=>by
  rw [δ]at hx;exact(OH.1 hx).elim (ho x) (bv x)
 have ν:Uq (resL O (parL us)):=⟨by rw [δ];exact nd,λx hx hf=>by
  have h1:=ζ x hx;rcases α x hf with rfl | h2
  ·rw [δ]at hx;exact(OH.1 hx).elim η θ
  ·omega⟩
 obtain⟨k1,k2,k3,k4⟩:=tX (parL ps) F;refine⟨ae,ze (Au λp Z=>by obtain⟨q,_,k⟩:=h.Jq Z;exact k.wf) H,DL μ (zu λp Z=>by obtain⟨q,_,k⟩:=h.Jq Z;exact k.eb) H,by have :=zc (R:=64 - F.length) (l:=ps) λp Z=>(by have :=hb p Z;omega);rw [zE];omega,by rw [k4];omega,λz J=>(α z J).imp id And.left,ν,ζ,λf=>?_⟩;rw [p8,qf];refine En (by rw [<-qf,<-p8,zU,qs ae,k2];exact ι) λx hx=>?_
 obtain⟨q,hq,rfl⟩:=Pf.1 hx;obtain⟨p,Z,k⟩:=h.sO hq;have :=hb p Z;rw [C5,zU,Et k.ae,qs k.ae];omega
def LF.ok {d:Nat}{W:P}{V:U}(h:LF d W V):Ok W/\Eb 0 W/\0+W.bd<=64:=⟨⟨h.wf,by rw [aQ];have :=h.len;omega⟩,h.eb,by have :=T.vL W;have :=h.bd;omega⟩
def wk.uq {N d c:Nat}{q:U}{f:Nat->Nat}(J:wk N q d c f)(hq:Uq q)(hN:∀z,q.Fr z->z<=N)(hc:c<=N):Uq (q.map f):=by
 have hm:∀z∈BV (q.map f),N< z:=λz G=>by
  rw [dy]at G;obtain⟨y,hy,rfl⟩:=Pf.1 G;exact J.fb y hy
 refine⟨?_,λz G Z=>?_⟩
 ·rw [dy];have:∀l:List Nat,l.Nodup->(∀z∈l,z∈BV q)->(l.map f).Nodup:=by
   intro l
   induction l with
   | nil=>intro _ _;exact P3
   | cons y l ih=>
    intro H hm;have H:=PB.1 H;refine PB.2 ⟨λh=>?_,ih H.2 λz G=>hm z (OJ _ G)⟩;obtain⟨z,G,e⟩:=Pf.1 h;exact H.1 (J.fi z (hm z (OJ _ G)) y (hm y (Pb ..)) e▸G)
  exact this _ hq.nd λ _ h=>h
 ·have h1:=hm z G;rcases J.fr hq z Z with rfl | ⟨_,h2⟩
  ·omega
  ·have :=hN z h2;omega
def LF.den {d N c:Nat}{W W2:P}{V:U}{f:Nat->Nat}(h:LF d W V)(hc:c< 26)(α:d∉BV V)(hf:wk N V d c f)(hN:∀z,V.Fr z->z<=N)(hB:∀z∈BV V,z<=N)(ε:25<=N)(hr:dq 0 W 90 (ρ0 c) W2):gB 0 W2 σ0 (V.map f):=by
 have β:=AE.renamed hr.ok (u:=V) (ρ:=UInt8.toNat) (λx _ e=>OU.1 e) h.ae;have γ:AE UInt8.toNat W2 (aI σ0 d (σ0 c)) V:=β.congr (λ _ _=>rfl) λz H=>by
  by_cases e:z=d
  ·subst e;have:(ρZ z z).toNat=(90:UInt8).toNat:=by unfold ρZ;rw [O' rfl]
   rw [this,O' rfl,cE];exact dA hc
  ·have δ:z< 26:=(h.fr z H).resolve_left e;have G:(ρZ d z).toNat=σ0 z:=by unfold ρZ;rw [OP e];exact dA δ
   have h2:(90:UInt8).toNat=90:=rfl;rw [G,h2,bE _ _ e,OP];unfold σ0;omega
 have ae:=γ.trans (hf.ae h.uq α hN (by omega) hB σ0);have J:=hf.uq h.uq hN (by omega);obtain⟨g1,g2,g3⟩:=ju hr.shp;have Z:∀z,(V.map f).Fr z->z< 26:=λz H=>by
  rcases hf.fr h.uq z H with rfl | ⟨G,h2⟩
  ·exact hc
  ·exact(h.fr z h2).resolve_left G
 refine⟨⟨hr.wf,by rw [aQ,g3];have :=h.len;omega,⟨hr.eb,by rw [T.um hr.shp];have :=h.bd;omega⟩,ae,λy z _ _ e=>by unfold σ0 at e;omega,J⟩,λz H hG=>?_,⟨J,λy hy=>Z y (bj hy),λx hx=>?_⟩,λ _ _=>rfl,h.lb f⟩
 ·obtain⟨y,hy,e⟩:=ae.free z H;have G:=Z y hy;have:z=ρ0 y:=OU.1 (by rw [dA G];exact e.symm);exact absurd hG (dW (nZ (this▸El G)))
 ·rw [dy]at hx;obtain⟨y,hy,rfl⟩:=Pf.1 hx;have :=hf.fb y hy;omega
def gB.Oe {W G:P}{u:U}{old nw:UInt8}(h:gB 0 W σ0 u)(J:¬W.Fr old)(hr:dq 0 W old nw G):gB 0 G σ0 u:=by
 have k:=hr.ok UInt8.toNat;have H:AE UInt8.toNat W UInt8.toNat G:=k.congr (λx Z=>bE _ _ λe=>J (e▸Z)) λ _ _=>rfl
 obtain⟨g1,g2,g3⟩:=ju hr.shp;have ae:=H.symm.trans h.den.ae;have b:=h.den.bd.le;have l:=h.den.len;rw [aQ]at l;refine⟨⟨hr.wf,by rw [aQ,g3];exact l,⟨hr.eb,by rw [T.um hr.shp];exact b⟩,ae,h.den.inj,h.den.uq⟩,λz hz hG=>?_,h.nu,h.σ,h.lb⟩;obtain⟨y,hy,e⟩:=H.symm.free z hz;exact h.gf z (OU.1 e▸hy) hG
end
section
open T
def no {X:Type}[DecidableEq X](l:List X)(x:X):List X:=l.filter λy=>decide (y≠x)
def KT {X:Type}[DecidableEq X]{l:List X}{x:X}(h:x∉l):no l x=l:=Qq.2 λy G=>by simp;rintro rfl;exact h G
def fJ {X:Type}[DecidableEq X]{l:List X}{x y:X}:y∈no l x↔y∈l/\y≠x:=by unfold no;simp
def rm {X:Type}[DecidableEq X](l:List X)(x:X):(no l x).Sublist l:=List.filter_sublist
def CH:∀(O:List Nat) (F:List UInt8) (ρ:Rh) (d:Nat),O.Nodup->F.Nodup->O.length=F.length->d∈O->
  (no O d).length=(no F (asg O F ρ d)).length/\∀z,z≠d->asg (no O d) (no F (asg O F ρ d)) ρ z=asg O F ρ z
 | [],_,_,_,_,_,_,h=>by cases h
 | _::_,[],_,_,_,_,h,_=>by cases h
 | x::π,c::l,ρ,d,hO,hF,hl,hd=>by
  have G:=PB.1 hO;have H:=PB.1 hF;have J:π.length=l.length:=by simpa using hl
  by_cases e:x=d
  ·subst e;have e1:asg (x::π) (c::l) ρ x=c:=by rw [asg,bB _ _ _ _ G.1];exact O' rfl
   have e2:no (x::π) x=π:=by unfold no;rw [Qt (by simp)];exact KT G.1
   have e3:no (c::l) c=l:=by unfold no;rw [Qt (by simp)];exact KT H.1
   rw [e1,e2,e3];refine⟨J,λz hz=>?_⟩;rw [asg];exact fu π l _ _ z (by unfold aI;rw [OP hz])
  ·have Z:d∈π:=(OY.1 hd).resolve_left λh=>e h.symm
   have hb:asg (x::π) (c::l) ρ d∈l:=by rw [asg];exact dC π l _ d Z J
   have α:c≠asg (x::π) (c::l) ρ d:=λh=>H.1 (h▸hb)
   have e2:no (x::π) d=x::no π d:=by unfold no;exact QO (by simpa using e)
   have e3:no (c::l) (asg (x::π) (c::l) ρ d)=c::no l (asg (x::π) (c::l) ρ d):=by unfold no;exact QO (by simpa using α)
   have eb:asg (x::π) (c::l) ρ d=asg π l (aI ρ x c) d:=by rw [asg]
   obtain⟨k1,k2⟩:=CH π l (aI ρ x c) d G.2 H.2 J Z;rw [e2,e3,eb];refine⟨by simp only [Ov];omega,λz hz=>?_⟩;rw [asg,k2 z hz,asg]
section
variable {t:P} {u:U}
def Le.out {O:List Nat}{F:List UInt8}{d:Nat}{p r:P}{q:U}(hO:O.Nodup)(hF:F.Nodup)(J:O.length=F.length)(hd:d∈O)(k:Le O F p q)(hr:dq 0 p (asg O F ρ0 d) 90 r):Nv (no O d) (no F (asg O F ρ0 d)) d r q:=by
 have α:=AE.renamed hr.ok (u:=q) (ρ:=UInt8.toNat) (λx _ e=>OU.1 e) k.ae;have eb:asg O F (ρZ d) d=asg O F ρ0 d:=yG O F _ _ d hd J;have hs:∀z,z≠d->asg (no O d) (no F (asg O F ρ0 d)) (ρZ d) z=asg O F ρ0 z:=λz H=>by
  have Z:=(CH O F (ρZ d) d hO hF J hd).2 z H;rw [eb]at Z;rw [Z];exact fu O F _ _ z (OP H)
 refine⟨α.congr (λ _ _=>rfl) λz H=>?_,hr.wf,hr.eb,λz H=>?_⟩
 ·by_cases e:z=d
  ·subst e;rw [O' rfl,bB _ _ _ _ λh=>(fJ.1 h).2 rfl];unfold ρZ;rw [O' rfl]
  ·rw [OP,hs z e];intro h;have h:=OU.1 h;by_cases G:z∈O
   ·exact e (tE O F ρ0 z d G hd J hF h)
   ·rw [bB _ _ _ _ G]at h;exact((k.fr z H).resolve_left G).2 (h▸dC O F ρ0 d hd J)
 ·by_cases e:z=d
  ·exact .inr (.inl e)
  ·rcases k.fr z H with h | ⟨Z,h2⟩
   ·exact .inl (fJ.2 ⟨h,e⟩)
   ·exact .inr (.inr ⟨Z,λh=>h2 (fJ.1 h).1⟩)
def Le.N3 {O:List Nat}{F:List UInt8}{d:Nat}{p:P}{q:U}(k:Le O F p q)(hd:26<=d)(G:d∉O):Nv O F d p q:=by
 refine⟨k.ae.congr (λ _ _=>rfl) λz H=>?_,k.wf,k.eb,λz H=>(k.fr z H).imp id .inr⟩;have e:z≠d:=λe=>(k.fr z H).elim (λh=>G (e▸h)) λh=>by omega
 rw [fu O F ρ0 (ρZ d) z (by unfold ρZ;rw [OP e])]
def eg.comp {X Y Z:Type}{R:X->Y->Prop}{S:X->Z->Prop}{Q:Z->Y->Prop}(G:∀x y z,R x y->S x z->Q z y):∀{l:List X} {m:List Y} {n:List Z},eg R l m->eg S l n->eg Q n m
 | _,_,_,.nil,.nil=> .nil
 | _,_,_,.cons H J,.cons k1 k2=> .cons (G _ _ _ H k1) (eg.comp G J k2)
def B4 {k:Nat}{a b:UInt8}{ps rs:List P}(h:eg (λp r=>dq k p a b r) ps rs):dx rs=dx ps/\cF rs=cF ps/\rs.length=ps.length/\∀r∈rs,∃p∈ps,r.rd=p.rd/\r.ow=p.ow:=by
 induction h with
 | nil=>exact⟨rfl,rfl,rfl,λ _ h=>by cases h⟩
 | cons h _ G=>
  obtain⟨g1,g2,g3⟩:=ju h.shp;obtain⟨i1,i2,i3,i4⟩:=G;refine⟨?_,?_,by simp [i3],λr hr=>?_⟩
  ·simp only [dx,O3,Py]at*;omega
  ·simp only [cF,O3,Py]at*;omega
  ·rcases OY.1 hr with rfl | hr
   ·exact⟨_,Pb ..,g1,g2⟩
   ·obtain⟨p,H,J⟩:=i4 r hr;exact⟨p,OJ _ H,J⟩
def fS.DM (ok:fS t){i:Nat}(hi:i< t.ths.length){p:P}(h1:p.rd<=t.ths[i].rd)(h2:p.ow<=t.ths[i].ow)(h3:p.size<=t.ths[i].size):
  (∀x∈wo t.ths i i++[p],t.frL.length+x.rd+x.ow<=59)/\t.frL.length+dx (wo t.ths i i++[p])<=8/\cF (wo t.ths i i++[p])<=1000/\(wo t.ths i i++[p]).length<=400:=by
 have hm:=Oz hi;have hb:=ok.th hm;obtain⟨n1,n2,J,n4,n5,n6⟩:=ok.A9;have J:=J λe=>by rw [e]at hi;cases hi
 have G:=oy t.ths i hi;have Z:=aZ G T.ow;have st:=aZ G T.aJ;have sl:=G.length_eq;have ss:=aZ G T.size;have tl:=ch p;have α:=ok.size;simp only [O3,Py,Ov]at Z st sl ss;simp only [dx,cF,jq,Pm,Ra,O3,Qf,Py,List.sum_nil,Oy,Ov,ON]at*;refine⟨λx H=>?_,by omega,by omega,by omega⟩;rcases OH.1 H with H | H
 ·exact ok.th (ct H)
 ·cases OL.1 H;omega
def SU.J4 (su:SU t u){i:Nat}(hi:i< u.ths.length){p:U}(hb:(BV p).Sublist (BV u.ths[i])):(u.frL++(wo u.ths i i++[p]).flatMap BV).Nodup/\∀x∈(wo u.ths i i++[p]).flatMap BV,x∈u.ths.flatMap BV:=by
 refine⟨Qn.2 λx=>?_,λx J=>?_⟩
 ·have Z:u.frL.count x+(u.ths.map λy=>(BV y).count x).sum<=1:=su.cnt x;have h2:(BV p).count x<=(BV u.ths[i]).count x:=hb.count_le x;have h3:(u.ths.map λy=>(BV y).count x).sum=(BV u.ths[i]).count x+((wo u.ths i i).map λy=>(BV y).count x).sum:=by
   have :=aZ (oy u.ths i hi) λy=>(BV y).count x
   simpa only [O3,Py]using this
  have h4:(u.frL++(wo u.ths i i++[p]).flatMap BV).count x=u.frL.count x+(((wo u.ths i i).map λy=>(BV y).count x).sum+(BV p).count x):=by
   rw [Pp,count_flatMap];simp
  omega
 ·obtain⟨q,G,H⟩:=Pk.1 J;rcases OH.1 G with G | G
  ·exact Pk.2 ⟨q,ct G,H⟩
  ·cases OL.1 G;exact Pk.2 ⟨_,Oz hi,hb.subset H⟩
def EP (ok:fS t)(su:SU t u){i:Nat}(hi:i< t.ths.length)(G:i< u.ths.length){a b:UInt8}{c d:Nat}{p:P}{H:U}(ho:Off.snd a b p∈offs t.ths[i])(J:Off.snd c d H∈offs u.ths[i])(Z:kL UInt8.toNat (λz=>(asg u.frL t.frL ρ0 z).toNat) (.snd a b p) (.snd c d H))(hd:d∈u.frL)
  {rs:List P} (α:eg (λp r=>dq 0 p b 90 r) (wo t.ths i i++[p]) rs):LF d (resL (no t.frL b) (parL rs)) (resL (no u.frL d) (parL (wo u.ths i i++[H]))):=by
 obtain⟨sP,_⟩:=aC (su.smpP _ (Oz hi)) _ ho;obtain⟨sU,_⟩:=aC (su.smp _ (Oz G)) _ J;have al:=(sP.al _ (su.al _ (Oz hi))).2.2;have hb:b=asg u.frL t.frL ρ0 d:=OU.1 Z.2.1;subst hb;have s1:=sP.rd;have s2:=sP.ow;have s3:=sP.size;simp only [Off.tm,T.rd,T.ow,T.size]at s1 s2 s3;obtain⟨b1,b2,b3,b4⟩:=ok.DM hi (p:=p) s1 s2 (by omega);obtain⟨r1,r2,r3,r4⟩:=B4 α;obtain⟨k1,_,_,k4,_⟩:=fw rs;have hO:u.frL.Nodup:=(Pg.1 su.nd).1;have hl:=su.len;have e1:=(CH u.frL t.frL ρ0 d hO su.fn hl hd).1;have e2:(no t.frL (asg u.frL t.frL ρ0 d)).length<=t.frL.length:=(rm _ _).length_le;obtain⟨c1,c2⟩:=su.J4 G ((Pz _).trans (ck _ J):(BV H).Sublist (BV u.ths[i]));have β:=su.ge d (O9 _ hd);have γ:eg (Le u.frL t.frL) (wo t.ths i i++[p]) (wo u.ths i i++[H]):=(su.MO.wo i i).app (.cons ⟨Z.2.2,T.Al.wf al,T.Al.eb 0 al,λz hz=>su.free z ⟨_,Oz G,sU.fr z (.inr (.inr hz))⟩⟩ .nil);refine Ci β (λh=>(fJ.1 h).2 rfl) e1 ((rm _ _).nodup su.fn) (λc hc=>su.fl c (fJ.1 hc).1) (λx hx=>su.ge x (O9 _ (fJ.1 hx).1)) (γ.comp (λx y z h1 h2=>h1.out hO su.fn hl hd h2) α) ((Qj (rm _ _) (Pz _)).nodup c1) (λx hx=>su.ge x (O0 _ (c2 x hx))) (λh=>(Pg.1 su.nd).2.2 d hd d (c2 d h) rfl) (λr hr=>?_) (by rw [k1,r1];omega) (by omega) (by omega);obtain⟨p1,h1,h2,h3⟩:=r4 r hr;have :=b1 p1 h1;omega
end
section
variable {t:P} {u:U}
def kN {A:Type}(l:List (T A))(i:Nat)(q:T A)(s:Bool)(x:T A):List (T A):=wo l i i++[q]++if s then [x]else []
def pT {A:Type}{l:List (T A)}{i:Nat}{q x y:T A}{s:Bool}(G:x∈l)(h:y∈kN l i q s x):y=q\/y∈l:=by
 unfold kN at h;rcases OH.1 h with h | h
 ·rcases OH.1 h with h | h
  ·exact .inr (ct h)
  ·exact .inl (OL.1 h)
 ·cases s
  ·cases h
  ·exact .inr ((OL.1 h)▸G)
def SU.du (su:SU t u){i:Nat}(hi:i< u.ths.length){c x:Nat}{q:U}{s:Bool}(hr:Off.rcv c x q s∈offs u.ths[i]):Uq q/\x∉BV q/\(∀z,q.Fr z->z=x\/u.ths[i].Fr z)/\∀z∈x::BV q,z∈u.ths.flatMap BV:=by
 have hm:=Oz hi;obtain⟨J,_⟩:=aC (su.smp _ hm) _ hr;have Z:=ck _ hr;have G:=su.gH hi J Z;exact⟨G.rcv,G.du,λz H=>(Decidable.em (z=x)).imp id λh=>J.fr z (.inr ⟨h,H⟩),λz H=>Pk.2 ⟨_,hm,Z.subset H⟩⟩
def K1 (su:SU t u){i:Nat}(hi:i< u.ths.length){c x:Nat}{q:U}{s:Bool}(hr:Off.rcv c x q s∈offs u.ths[i]){f:Nat->Nat}{N b:Nat}(Z:wk N q x b f)(hb:b<=N)(hN:∀z,(z∈u.frL\/z∈u.ths.flatMap BV\/∃q∈u.ths,q.Fr z)->z<=N):
  (u.frL++(kN u.ths i (q.map f) s u.ths[i]).flatMap BV).Nodup/\(∀z∈(kN u.ths i (q.map f) s u.ths[i]).flatMap BV,z∈u.ths.flatMap BV\/N< z)/\∀z,(q.map f).Fr z->z=b\/∃q∈u.ths,q.Fr z:=by
 have hm:=Oz hi;obtain⟨uq,nb,fr,bv⟩:=su.du hi hr;have α:∀z,q.Fr z->z<=N:=λz G=>by
  rcases fr z G with rfl | h
  ·exact hN z (.inr (.inl (bv z (Pb ..))))
  ·exact hN z (.inr (.inr ⟨_,hm,h⟩))
 have β:=Z.uq uq α hb;have H:∀z∈BV (q.map f),N< z:=λz G=>by
  rw [dy]at G;obtain⟨y,J,rfl⟩:=Pf.1 G;exact Z.fb y J
 refine⟨Qn.2 λz=>?_,λz G=>?_,λz G=>?_⟩
 ·have h1:u.frL.count z+(u.ths.map λy=>(BV y).count z).sum<=1:=su.cnt z;have h3:(u.ths.map λy=>(BV y).count z).sum=(BV u.ths[i]).count z+((wo u.ths i i).map λy=>(BV y).count z).sum:=by
   have :=aZ (oy u.ths i hi) λy=>(BV y).count z
   simpa only [O3,Py]using this
  have h4:(u.frL++(kN u.ths i (q.map f) s u.ths[i]).flatMap BV).count z=u.frL.count z+(((wo u.ths i i).map λy=>(BV y).count z).sum+(BV (q.map f)).count z+if s then(BV u.ths[i]).count z else 0):=by
   unfold kN;rw [Pp,count_flatMap];cases s<;>simp<;>omega
  rw [h4];by_cases h:z∈BV (q.map f)
  ·have h5:=Qn.1 β.nd z;have h6:u.frL.count z+(u.ths.map λy=>(BV y).count z).sum=0:=by
    rw [<-count_flatMap,<-Pp];refine RZ.2 λhm=>?_
    have :=H z h;have :=hN z ((OH.1 hm).imp id .inl);omega
   cases s<;>simp only [Qu,Qp,Rb]<;>omega
  ·have h5:=RZ.2 h;cases s<;>simp only [Qu,Qp,Rb]<;>omega
 ·obtain⟨y,J,G⟩:=Pk.1 G;rcases pT hm J with rfl | J
  ·exact .inr (H z G)
  ·exact .inl (Pk.2 ⟨y,J,G⟩)
 ·rcases Z.fr uq z G with rfl | ⟨h1,h2⟩
  ·exact .inl rfl
  ·exact .inr ⟨_,hm,(fr z h2).resolve_left h1⟩
def Eu {A B:Type}(f:A->B)(p:T A):(p.map f).smp=p.smp:=by
 have gp:∀p:T A,(p.map f).gp=p.gp:=λp=>by cases p<;>rfl
 have G:∀p:T A,(p.map f).isR=p.isR:=λp=>by cases p<;>rfl
 induction p<;>simp_all [T.map,T.smp]
def Ew (su:SU t u){i:Nat}(hi:i< u.ths.length){c x:Nat}{q:U}{s:Bool}(hr:Off.rcv c x q s∈offs u.ths[i]){f:Nat->Nat}{N b:Nat}(hf:wk N q x b f)(hb:b< 26)(γ:25<=N)(hN:∀z,(z∈u.frL\/z∈u.ths.flatMap BV\/∃q∈u.ths,q.Fr z)->z<=N):
  Nu (resL u.frL (parL (kN u.ths i (q.map f) s u.ths[i])))/\(resL u.frL (parL (kN u.ths i (q.map f) s u.ths[i]))).smp=true:=by
 have hm:=Oz hi;obtain⟨h1,h2,h3⟩:=K1 su hi hr hf (by omega) hN;have J:BV (resL u.frL (parL (kN u.ths i (q.map f) s u.ths[i])))=u.frL++(kN u.ths i (q.map f) s u.ths[i]).flatMap BV:=by rw [cQ,cP]
 have Z:∀z∈BV (resL u.frL (parL (kN u.ths i (q.map f) s u.ths[i]))),26<=z:=λz H=>by
  rw [J]at H;rcases OH.1 H with h | h
  ·exact su.ge z (O9 _ h)
  ·rcases h2 z h with h | h
   ·exact su.ge z (O0 _ h)
   ·omega
 have α:∀z,(resL u.frL (parL (kN u.ths i (q.map f) s u.ths[i]))).Fr z->z< 26:=λz H=>by
  obtain⟨g1,g2⟩:=cy.1 H;obtain⟨y,G,β⟩:=eK.1 g2;have:z=b\/∃q∈u.ths,q.Fr z:=by
   rcases pT hm G with rfl | G
   ·exact h3 z β
   ·exact .inr ⟨y,G,β⟩
  rcases this with rfl | h
  ·exact hb
  ·exact((su.free z h).resolve_left g1).1
 obtain⟨rU,_⟩:=aC (su.smp _ hm) _ hr;have sq:q.smp=true:=rU.smp (su.smp _ hm);refine⟨⟨⟨by rw [J];exact h1,λz H hf=>by have :=Z z H;have :=α z hf;omega⟩,λy G=>α y (bj G),Z⟩,?_⟩;rw [jA];refine jG λy G=>?_
 rcases pT hm G with rfl | G
 ·rw [Eu];exact sq
 ·exact su.smp y G
def AE.MX {d c:Nat}{p J:U}(h:∀ρ τ:Nat->Nat,(∀z,z≠d->ρ z=τ z)->ρ d=τ c->AE ρ p τ J):∀(O:List Nat),(∀x∈O,x≠d/\x≠c)->∀ρ τ:Nat->Nat,(∀z,z≠d->ρ z=τ z)->ρ d=τ c->AE ρ (resL O p) τ (resL O J)
 | [],_,ρ,τ,G,H=>h ρ τ G H
 | x::O,Z,ρ,τ,G,H=>λv=>by
  obtain⟨k1,k2⟩:=Z x (Pb ..);refine AE.MX h O (λy hy=>Z y (OJ _ hy)) (aI ρ x v) (aI τ x v) (λz hz=>?_) ?_
  ·unfold aI;split
   ·rfl
   ·exact G z hz
  ·unfold aI;rw [OP k1.symm,OP k2.symm];exact H
def AE.Nj {ρ τ:Nat->Nat}:∀{ps us:List U},eg (λp q=>AE ρ p τ q) ps us->AE ρ (T.parL ps) τ (T.parL us)
 | [],[],_=>trivial
 | [_],[_],.cons h _=>h
 | _::_::_,_::_::_,.cons h k=>⟨h,AE.Nj k⟩
def eg.diag {X:Type}{R:X->X->Prop}:∀{l:List X},(∀x∈l,R x x)->eg R l l
 | [],_=> .nil
 | x::_,h=> .cons (h x (Pb ..)) (eg.diag λy G=>h y (OJ _ G))
def EJ (su:SU t u){i:Nat}(hi:i< u.ths.length){c x:Nat}{q:U}{s:Bool}(hr:Off.rcv c x q s∈offs u.ths[i]){f g:Nat->Nat}{N M b d:Nat}(hf:wk N q x d f)(hg:wk M q x b g)(hd:d<=N)(α:b<=M)(hN:∀z,(z∈u.frL\/z∈u.ths.flatMap BV\/∃q∈u.ths,q.Fr z)->z<=N)(hM:∀z,(z∈u.frL\/z∈u.ths.flatMap BV\/∃q∈u.ths,q.Fr z)->z<=M)
  (J:d=b\/∀z,(z∈u.frL\/z∈u.ths.flatMap BV\/∃q∈u.ths,q.Fr z)->z≠d) (γ:b< 26):∀ρ τ:Nat->Nat,(∀z,z≠d->ρ z=τ z)->ρ d=τ b->AE ρ (resL u.frL (parL (kN u.ths i (q.map f) s u.ths[i]))) τ (resL u.frL (parL (kN u.ths i (q.map g) s u.ths[i]))):=by
 have hm:=Oz hi;obtain⟨uq,nb,fr,bv⟩:=su.du hi hr;have Z:∀{K:Nat},(∀z,(z∈u.frL\/z∈u.ths.flatMap BV\/∃q∈u.ths,q.Fr z)->z<=K)->(∀z,q.Fr z->z<=K)/\∀z∈BV q,z<=K:=λ{K} h=>by
  refine⟨λz G=>?_,λz G=>h z (.inr (.inl (bv z (OJ _ G))))⟩;rcases fr z G with rfl | h1
  ·exact h z (.inr (.inl (bv z (Pb ..))))
  ·exact h z (.inr (.inr ⟨_,hm,h1⟩))
 refine AE.MX (d:=d) (c:=b) (λρ τ h1 h2=>AE.Nj ?_) u.frL λy H=>⟨?_,?_⟩
 ·have e:∀z,(∃q∈u.ths,q.Fr z)->ρ z=τ z:=λz G=>by
   by_cases ez:z=d
   ·rcases J with h | h
    ·subst ez;subst h;exact h2
    ·exact absurd ez (h z (.inr (.inr G)))
   ·exact h1 z ez
  have k1:=hf.ae uq nb (Z hN).1 hd (Z hN).2 ρ;have k2:=hg.ae uq nb (Z hM).1 α (Z hM).2 τ;have k3:AE (aI ρ x (ρ d)) q τ (q.map g):=k2.congr (λz G=>by
   unfold aI;split
   ·exact h2.symm
   ·rename_i β;exact(e z ⟨_,hm,(fr z G).resolve_left β⟩).symm) λ _ _=>rfl
  have th:∀y∈u.ths,AE ρ y τ y:=λy H=>(AE.refl y ρ).congr (λ _ _=>rfl) λz G=>e z ⟨y,H,G⟩
  unfold kN;refine((eg.diag λy H=>th y (ct H)).app (.cons (k1.symm.trans k3) .nil)).app ?_;cases s
  ·exact .nil
  ·exact .cons (th _ hm) .nil
 ·rcases J with h | h
  ·have :=su.ge y (O9 _ H);omega
  ·exact h y (.inl H)
 ·have :=su.ge y (O9 _ H);omega
end
def Az (u:U)(i:Nat)(q:U)(x:Nat)(s:Bool)(c:Nat):U:=resL u.frL (parL (kN u.ths i (q.map (Ff (NN u) q x c)) s (u.ths.getD i .nil)))
def lj (u:U)(i:Nat)(p:U)(d:Nat):U:=resL (no u.frL d) (parL (wo u.ths i i++[p]))
def Fb (u:U)(i:Nat)(p:U)(d c:Nat):U:=(lj u i p d).map (Ff (NN u) (lj u i p d) d c)
section
variable {t:P} {u:U}
def uw (u:U):26<=NN u:=by unfold NN;omega
def IS (ok:fS t)(su:SU t u){i:Nat}(hi:i< t.ths.length)(Z:i< u.ths.length){e x:UInt8}{q:P}{s:Bool}{e' x':Nat}{J:U}{s':Bool}(hr:Off.rcv e x q s∈offs t.ths[i])(γ:Off.rcv e' x' J s'∈offs u.ths[i])
  (η:kL UInt8.toNat (λz=>(asg u.frL t.frL ρ0 z).toNat) (.rcv e x q s) (.rcv e' x' J s')) {q2:P} (α:dq 0 q x 90 q2) {d:Nat} (hd:d=NN u+1):
  LF d (resL t.frL (parL (kN t.ths i q2 s t.ths[i]))) (resL u.frL (parL (kN u.ths i (J.map (Ff d J x' d)) s' u.ths[i])))/\d∉BV (resL u.frL (parL (kN u.ths i (J.map (Ff d J x' d)) s' u.ths[i]))):=by
 obtain⟨_,δ,rfl⟩:=η;have θ:=su.bound;have hN:∀z,(z∈u.frL\/z∈u.ths.flatMap BV\/∃q∈u.ths,q.Fr z)->z< d:=λz G=>by have :=θ z G;omega
 have μ:=uw u;obtain⟨uq,nb,fr,bv⟩:=su.du Z γ;have hf:=fI d d nb;obtain⟨n1,n2,n3⟩:=K1 su Z γ hf (OB _) λz G=>R2 (hN z G)
 have ε:=Oz Z;have H:d∉u.frL:=λh=>by have :=hN d (.inl h);omega
 have ζ:d∉(kN u.ths i (J.map (Ff d J x' d)) s u.ths[i]).flatMap BV:=λh=>by
  rcases n2 d h with h | h
  ·have :=hN d (.inr (.inl h));omega
  ·omega
 have ι:asg u.frL t.frL (ρZ d) d=90:=by rw [bB _ _ _ _ H];exact O' rfl
 have pq:Nv u.frL t.frL d q2 (J.map (Ff d J x' d)):=by
  refine⟨?_,α.wf,α.eb,λz G=>(n3 z G).elim (λh=> .inr (.inl h)) λh=>(su.free z h).imp id .inr⟩;have k1:=(α.ok UInt8.toNat).symm;have k2:=δ (90:UInt8).toNat;have k3:=hf.ae uq nb (λz G=>?_) (OB _) (λz G=>R2 (hN z (.inr (.inl (bv z (OJ _ G)))))) (λz=>(asg u.frL t.frL (ρZ d) z).toNat)
  ·simp only [ι]at k3;refine(k1.trans k2).trans (k3.congr (λz G=>?_) λ _ _=>rfl);unfold aI;split
   ·rfl
   ·rename_i h;have :=hN z (.inr (.inr ⟨_,ε,(fr z G).resolve_left h⟩));exact PA UInt8.toNat (fu u.frL t.frL (ρZ d) ρ0 z (by unfold ρZ;rw [OP (by omega)]))
  ·rcases fr z G with rfl | h
   ·exact R2 (hN z (.inr (.inl (bv z (Pb ..)))))
   ·exact R2 (hN z (.inr (.inr ⟨_,ε,h⟩)))
 have β:=Oz hi;obtain⟨rP,_⟩:=aC (su.smpP _ β) _ hr;have r1:=rP.ow;have r2:=rP.size;have r3:=rP.rd;simp only [Off.tm,ow,size,rd]at r1 r2 r3;obtain⟨g1,g2,g3⟩:=ju α.shp;obtain⟨b1,b2,b3,b4⟩:=ok.DM hi (p:=q) (by omega) (by omega) (by omega);obtain⟨m1,m2,m3,m4,m5,m6⟩:=ok.A9;have m3:=m3 λe=>by rw [e]at hi;cases hi
 have ν:=ok.size;have ξ:t.ths[i].ow<=dx t.ths:=mo (Pf.2 ⟨_,β,rfl⟩);have ο:t.ths[i].aJ<=cF t.ths:=mo (Pf.2 ⟨_,β,rfl⟩);obtain⟨k1,_,_,k4,_⟩:=fw (kN t.ths i q2 s t.ths[i]);have ς:dx (kN t.ths i q2 s t.ths[i])<=dx (wo t.ths i i++[q])+t.ths[i].ow:=by
  unfold kN dx;cases s<;>simp<;>omega
 have υ:cF (kN t.ths i q2 s t.ths[i])<=cF (wo t.ths i i++[q])+t.ths[i].aJ/\(kN t.ths i q2 s t.ths[i]).length<=(wo t.ths i i++[q]).length+1:=by
  unfold kN cF;cases s<;>simp<;>omega
 have κ:eg (Nv u.frL t.frL d) (wo t.ths i i) (wo u.ths i i):=(su.MO.wo i i).mono λp q k=>k.N3 (by omega) H
 refine⟨Ci (by omega) H su.len su.fn su.fl (λx hx=>su.ge x (O9 _ hx)) ((κ.app (.cons pq .nil)).app ?_) n1 (λz G=>?_) ζ (λr hr=>?_) (by rw [k1];omega) (by omega) (by omega),λh=>?_⟩
 ·cases s
  ·exact .nil
  ·exact .cons ((su.MO.get hi Z).N3 (by omega) H) .nil
 ·rcases n2 z G with h | h
  ·exact su.ge z (O0 _ h)
  ·omega
 ·rcases pT β hr with rfl | h
  ·have :=b1 q (O0 _ (OL.2 rfl));omega
  ·exact ok.th h
 ·rw [cQ,cP]at h;exact(OH.1 h).elim H ζ
def Lx (ok:fS t)(su:SU t u){i:Nat}(hi:i< t.ths.length)(G:i< u.ths.length){e x:UInt8}{q:P}{s:Bool}{e' x':Nat}{q':U}{s':Bool}(hr:Off.rcv e x q s∈offs t.ths[i])(J:Off.rcv e' x' q' s'∈offs u.ths[i])
  (α:kL UInt8.toNat (λz=>(asg u.frL t.frL ρ0 z).toNat) (.rcv e x q s) (.rcv e' x' q' s')) {q2:P} (β:dq 0 q x 90 q2) {c:Nat} (hc:c< 26) {W2:P} (hW:dq 0 (resL t.frL (parL (kN t.ths i q2 s t.ths[i]))) 90 (ρ0 c) W2):
  ∃v,gB 0 W2 σ0 v/\cL v=cL (Az u i q' x' s' c):=by
 obtain⟨d,hd⟩:∃d,d=NN u+1:=⟨_,rfl⟩
 obtain⟨oz,Z⟩:=IS ok su hi G hr J α β hd;obtain⟨uq,nb,fr,bv⟩:=su.du G J;have δ:=uw u;have hN:∀z,(z∈u.frL\/z∈u.ths.flatMap BV\/∃q∈u.ths,q.Fr z)->z< d:=λz H=>by have :=su.bound z H;omega
 unfold Az;rw [aR G];have same:=EJ su G J (fI d d nb) (fI (NN u) c nb) (OB d) (by omega) (λz H=>R2 (hN z H)) su.bound (.inr λz H=>by have :=hN z H;omega) hc;have γ:=(Ew su G J (fI (NN u) c nb) hc (by omega) su.bound).1;generalize resL u.frL (parL (kN u.ths i (q'.map (Ff d q' x' d)) s' u.ths[i]))=V at oz Z same;have hM:∀z∈BV V,z<=(BV V).sum+d:=λz H=>by have :=mo H;omega
 have hF:∀z,V.Fr z->z<=(BV V).sum+d:=λz H=>by rcases oz.fr z H with h | h<;>omega
 have hg:=fI ((BV V).sum+d) c Z;have dn:=oz.den hc Z hg hF hM (by omega) hW;refine⟨_,dn,uW dn.nu γ ((hg.ae oz.uq Z hF (by omega) hM σ0).symm.trans (same _ _ (λz H=>bE _ _ H) (cE ..)))⟩
def KB (ok:fS t)(su:SU t u){i:Nat}(hi:i< t.ths.length)(H:i< u.ths.length){a b:UInt8}{c d:Nat}{p:P}{G:U}(ho:Off.snd a b p∈offs t.ths[i])(J:Off.snd c d G∈offs u.ths[i])(β:kL UInt8.toNat (λz=>(asg u.frL t.frL ρ0 z).toNat) (.snd a b p) (.snd c d G))(hd:d∈u.frL)
  {rs:List P} (γ:eg (λp r=>dq 0 p b 90 r) (wo t.ths i i++[p]) rs) {n:Nat} (hn:n< 26) {W2:P} (hW:dq 0 (resL (no t.frL b) (parL rs)) 90 (ρ0 n) W2):gB 0 W2 σ0 (Fb u i G d n):=by
 have oz:=EP ok su hi H ho J β hd γ;obtain⟨c1,c2⟩:=su.J4 H (p:=G) (ck _ J);have hN:=su.bound;have δ:=uw u;have Z:BV (lj u i G d)=no u.frL d++(wo u.ths i i++[G]).flatMap BV:=by unfold lj;rw [cQ,cP]
 have α:d∉BV (lj u i G d):=λh=>by
  rw [Z]at h;rcases OH.1 h with h | h
  ·exact(fJ.1 h).2 rfl
  ·exact(Pg.1 su.nd).2.2 d hd d (c2 d h) rfl
 have hB:∀z∈BV (lj u i G d),z<=NN u:=λz hz=>by
  rw [Z]at hz;rcases OH.1 hz with h | h
  ·exact hN z (.inl (fJ.1 h).1)
  ·exact hN z (.inr (.inl (c2 z h)))
 have hF:∀z,(lj u i G d).Fr z->z<=NN u:=λz hz=>by
  rcases oz.fr z hz with rfl | h
  ·exact hN z (.inl hd)
  ·omega
 exact oz.den hn α (fI (NN u) n α) hF hB (by omega) hW
end
abbrev Ev:=Tx×Option Tx
noncomputable def bf (u:U)(o:UInt8)(i:Nat):Off Nat->List Ev
 | .snd a b p=>if a∈u.frL then []else if b∈u.frL then [([ρ0 a,33,35,o],if lt o=true then cL (Fb u i p b (e0 o))else none)]else [([ρ0 a,33,ρ0 b],cL (Ax u i p))]
 | _=>[]
noncomputable def jP (u:U)(n:UInt8)(i:Nat):Off Nat->List Ev
 | .rcv a x q s=>if a∈u.frL then []else [([ρ0 a,63,n],if lt n=true then cL (Az u i q x s (e0 n))else none)]
 | _=>[]
def kQ (E:Nat->Off Nat->List Ev)(u:U)(i:Nat):List Ev:=(offs (u.ths.getD i .nil)).flatMap (E i)
def nv (E:Nat->Off Nat->List Ev)(u:U):List Ev:=(List.range u.ths.length).flatMap (kQ E u)
def wt (want:Tx)(e:Ev):Bool:=decide (want=[])||decide (e.1=want)
def sm (p:Tx×Tx):Ev:=(p.1,some p.2)
def tU {X:Type}{c:Prop}[Decidable c]{l m:List X}{n:Nat}(h:l.length<=n)(k:m.length<=n):(if c then l else m).length<=n:=by split<;>assumption
def gu (u:U)(o:UInt8)(i:Nat)(x:Off Nat):(bf u o i x).length<=1:=by
 cases x with
 | snd a b p=>exact tU (Pn _) (tU (OB _) (OB _))
 | _=>exact Pn _
def mJ (u:U)(o:UInt8)(i:Nat)(x:Off Nat):(jP u o i x).length<=1:=by
 cases x with
 | rcv a x q s=>exact tU (Pn _) (OB _)
 | _=>exact Pn _
def fO {X Y:Type}{f:X->List Y}(h:∀x,(f x).length<=1):∀l:List X,(l.flatMap f).length<=l.length
 | []=>OB _
 | x::l=>by have :=h x;have :=fO h l;simp only [PE,Oy,Ov];omega
def SU.own {t:P}{u:U}(su:SU t u){z:Nat}(H:∃q∈u.ths,q.Fr z):(asg u.frL t.frL ρ0 z∈t.frL↔z∈u.frL)/\(z∉u.frL->asg u.frL t.frL ρ0 z=ρ0 z/\z< 26):=by
 by_cases h:z∈u.frL
 ·exact⟨⟨λ _=>h,λ _=>dC u.frL t.frL ρ0 z h su.len⟩,λG=>absurd h G⟩
 ·obtain⟨J,Z⟩:=(su.free z H).resolve_left h;have e:=bB u.frL t.frL ρ0 z h;exact⟨⟨λG=>absurd (e▸G) Z,λG=>absurd G h⟩,λ _=>⟨e,J⟩⟩
end
section
open T Classical
def Lq (l:List Tx):(dd l).Sublist l:=by
 have:∀l:List Tx,(dd l.reverse).Sublist l.reverse:=λl=>by
  induction l with
  | nil=>exact Pz _
  | cons s l G=>
   rw [List.reverse_cons,fW];unfold Cq;split
   ·exact G.trans (QD _ _)
   ·exact G.append (Pz _)
 have h:=this l.reverse
 rwa [List.reverse_reverse]at h
def Ng (l:List Tx):dd (dd l)=dd l:=by
 have:∀l:List Tx,dd (dd l.reverse)=dd l.reverse:=λl=>by
  induction l with
  | nil=>rfl
  | cons s l G=>
   rw [List.reverse_cons,fW];unfold Cq;split
   ·exact G
   ·rename_i h;rw [fW,G];unfold Cq;rw [OP h]
 have h:=this l.reverse
 rwa [List.reverse_reverse]at h
def I3 (l:List Tx):dd (aK (dd (aK l)))=dd (aK l):=by
 rw [pn ((hZ l).sublist (Lq _)) (PI _),Ng]
def isLab:Tx->Bool
 | [c]=>decide (c=126)
 | [a,k,b]=>(decide (k=33)||decide (k=63))&&lt a&&lt b
 | [a,k,h,b]=>decide (k=33)&&decide (h=35)&&lt a&&lt b
 | _=>false
noncomputable def gQ (L:List Ev)(G:Tx):Option (List Tx):=if(L.filter (wt G)).all λe=>e.2.isSome then some (dd (aK ((L.filter (wt G)).map λe=>e.2.getD [])))else none
noncomputable def labL (u:U):Tx->List Ev
 | [_,k,b]=>if k=63 then nv (jP u b) u else nv (bf u 255) u
 | [_,_,_,b]=>nv (bf u b) u
 | _=>[]
def used (u:U):Tx->Prop
 | [_,_,_,b]=>u.Fr (e0 b)
 | _=>False
noncomputable def cX (u:U)(G:Tx):Option (List Tx):=if G=[126]then oN u else if used u G then none else gQ (labL u G) G
noncomputable def nQ (s G:Tx):Option (List Tx):=if h:St s then cX (num h.choose e0 0).1 G else none
def vd {t:P}(ok:fS t)(G:Tx):nQ t.text G=cX (num t e0 0).1 G:=by
 have h:St t.text:=⟨t,ok,rfl⟩
 unfold nQ;rw [dif_pos h,(h.choose_spec.1).uniq ok h.choose_spec.2]
def Fw {L:List Ev}{G:Tx}(h:∃e∈L,wt G e=true/\e.2=none):gQ L G=none:=by
 obtain⟨e,H,J,Z⟩:=h;refine OP λhb=>?_
 have :=PL.1 hb e (QE.2 ⟨H,J⟩);rw [Z]at this;cases this
def Fg {L:List Ev}{G:Tx}{acc:List (Tx×Tx)}(h:L.filter (wt G)=acc.map sm):gQ L G=some (dd (aK (acc.map Prod.snd))):=by
 unfold gQ;rw [h,O' (PL.2 λe he=>by obtain⟨x,_,rfl⟩:=Pf.1 he;rfl),PZ];rfl
def rD {X Y:Type}{p:Y->Bool}{f g:X->List Y}:∀{l:List X},(∀x∈l,(f x).filter p=(g x).filter p)->(l.flatMap f).filter p=(l.flatMap g).filter p
 | [],_=>rfl
 | x::l,h=>by
  rw [PE,PE,PD,PD,h x (Pb ..),rD λy G=>h y (OJ _ G)]
def Kz (u:U)(o J:UInt8){G:Tx}(H:G.length=3):(nv (bf u o) u).filter (wt G)=(nv (bf u J) u).filter (wt G):=by
 refine rD λi _=>rD λx _=>?_
 cases x with
 | snd a b p=>
  have key:∀(c:UInt8) (r:Option Tx),wt G ([ρ0 a,33,35,c],r)=false:=λc r=>by
   unfold wt;have Z:G≠[]:=λe=>by rw [e]at H;cases H
   have h2:[ρ0 a,33,35,c]≠G:=λe=>by rw [<-e]at H;cases H
   simp [Z,h2]
  show List.filter (wt G) (if a∈u.frL then []else if b∈u.frL then [(_,_)]else [(_,_)])=List.filter (wt G) (if a∈u.frL then []else if b∈u.frL then [(_,_)]else [(_,_)]);split
  ·rfl
  ·split
   ·rw [Qt (by rw [key];simp),Qt (by rw [key];simp)]
   ·rfl
 | _=>rfl
def Fu {s:Tx}{w:World}{R:Value->Bool->Sb}(J:e8 s=none->∀w',Ex w w'->R (.pointer none) false w')
  (γ:∀t:P,fS t->e8 s=some t.text->∀b w',Ex w w'->w.heap.size<=b->GY w' (λg=>w.heap.size<=g/\g≠b/\g< w'.heap.size) b (num t e0 0).2 t.text (td (num t e0 0).1)->R (ptr b) true w'):
  Sc 44 #[.string (ak s)] w (aw [.v,.b] R):=by
 refine sW s w R ?_;dsimp only [go_sem];refine GW λv q w4 x4 h1 h2=>⟨λZ=>?_,λZ=>?_⟩
 ·have Z:q=true:=by simpa using Z
  obtain⟨G,t,ht,e,α⟩:=h1 Z;have ζ:t.size<=60:=((oO ht).1 (e▸G)).2;refine GI α.bound (λg G=>G.2) λw6 x6=>⟨λhs=>?_,λhs=>?_⟩
  ·refine J (iL ?_) w6 (Ex.trans x4 x6)
   rintro⟨t',h4,h5,_,h6⟩
   have :=eV h4.wf ht.wf (h5.trans e);subst this;rw [h6]at hs;cases hs
  ·have hs:t.smp=true:=by simpa using hs
   have β:=aN.kp (Kp.ab x6 λ _=>False) (λ _ _ h=>h) α.bound;have he:=yg ht (e▸G) hs;rw [<-e]at he;refine zt β (λg G=>by have :=G.2;have :=x6.size;omega) ht (by omega) λw9 x9=>?_
   have H:=Ex.trans x4 (Ex.trans x6 x9);cases hn:cL (num t e0 0).1 with
   | none=>exact⟨(λs h=>by cases h),λ _=>⟨λ _=>J (he.trans hn) w9 H,(λh=>by cases h)⟩⟩
   | some n=>
    refine⟨λs' h=>?_,(λh=>by cases h)⟩;cases h;refine⟨(λh=>by cases h),λ _=>?_⟩;obtain⟨t',ok,rfl⟩:=rL (ma ht) ((vV (lH ht)).symm.trans hs) hn;have ε:=ok.size;have δ:=ok.len;refine Ik ok.al (by omega) (by omega) λb w' x hb st=>γ t' ok (he.trans hn) b w' (Ex.trans H x) (by have :=H.size;omega) ?_
    obtain⟨v,h1,h2⟩:=st.l;exact⟨st.mc,st.tx,v,h1,h2.sub λg _ G=>⟨by have :=H.size;have :=G.1;omega,G.2⟩⟩
 ·have Z:q=false:=by simpa using Z
  exact J (iL fun⟨t,_,_,G,_⟩=>h2 Z G) w4 x4
def I4:qB 0 λ _=>false:=λc _=>by simp
def pD {x:Nat}(G:x< 26){w:World}{R:aD->Sb}(h:R [ρ0 x] w):Sc 123 #[iv x] w (aw [.s] R):=by
 refine uU (x:Int) w R ?_;dsimp only [go_sem];refine⟨by omega,⟨by omega,by omega⟩,⟨by omega,by omega⟩,?_⟩;have e:(97+(x:Int)).toNat=97+x:=by omega
 rw [e];exact h
def Gg {s:Tx}(hs:s.length<=1099511627776){w:World}{R:Bool->Sb}(h:R (isLab s) w):Sc 45 #[.string (ak s)] w (aw [.b] R):=by
 refine sL s w R ?_;dsimp only [go_sem];dsimp only [go_sem,Nat.reduceAdd]
 match s,h with
 | [],h=>exact⟨λe=>by simp at e,λ _=>⟨λe=>by simp at e,λ _=>h⟩⟩
 | [c],h=>
  refine⟨λe=>?_,λe=>⟨λe=>by simp at e,λ _=>?_⟩⟩
  ·have e:c=126:=by simpa using e
   subst e;exact h
  ·have e:¬c=126:=by simpa using e
   have:isLab [c]=false:=by unfold isLab;simp [e]
   rw [<-this];exact h
 | [a,b],h=>exact⟨λe=>by simp at e,λ _=>⟨λe=>by simp at e,λ _=>h⟩⟩
 | a::k::c::l,h=>
  have hl:((a::k::c::l).length:Int)=l.length+3:=by simp only [Ov];omega
  refine⟨λe=>by simp at e,λ _=>⟨λe=>⟨by rw [hl];omega,kD (c:=a) ⟨λha=>?_,λha=>?_⟩⟩,λe=>by rw [hl]at e;simp at e;omega⟩⟩;rotate_left
  ·have ha:lt a=false:=by simpa using ha
   have:isLab (a::k::c::l)=false:=by
    match l with
    | []=>show((decide (k=33)||decide (k=63))&&lt a&&lt c)=false;rw [ha];simp
    | [b]=>show(decide (k=33)&&decide (c=35)&&lt a&&lt b)=false;rw [ha];simp
    | _::_::_=>rfl
   rw [<-this];exact h
  have ha:lt a=true:=by simpa using ha
  have e1:(((a::k::c::l).length:Int) - 1).toNat=l.length+2:=by rw [hl];omega
  obtain⟨m,z,J⟩:∃(m:Tx) (z:UInt8),a::k::c::l=a::(m++[z])/\m≠[]/\m.length=l.length+1:=by
   refine⟨(k::c::l).dropLast,(k::c::l).getLast (by simp),?_,?_,?_⟩
   ·rw [List.dropLast_concat_getLast]
   ·simp [List.dropLast]
   ·simp
  obtain⟨J,hm,Z⟩:=J;have e2:bt (a::k::c::l) (l.length+2)=z:=by
   rw [J];unfold bt;simp [Z]
  have e3:List.drop (Int.toNat 1) (List.take (l.length+2) (a::k::c::l))=m:=by
   rw [J];show List.drop 1 (List.take (l.length+2) (a::(m++[z])))=m;rw [RN,List.drop_succ_cons,Qk,<-Z,List.take_left' rfl]
  have α:isLab (a::k::c::l)=(lt z&&(decide (m=[33])||decide (m=[33,35])||decide (m=[63]))):=by
   rw [J]
   match m,hm with
   | [x],_=>
    show((decide (x=33)||decide (x=63))&&lt a&&lt z)=_;rw [ha,QL,Bool.and_comm]
    congr 1
    simp
   | [x,y],_=>
    show(decide (x=33)&&decide (y=35)&&lt a&&lt z)=_;rw [ha,QL,Bool.and_comm]
    congr 1
    simp
   | x::y::v::m,_=>
    have G:isLab (a::(x::y::v::m++[z]))=false:=by
     match m with
     | []=>rfl
     | _::_=>rfl
    rw [G];simp
  rw [α]at h;rw [e1,e2,e3,hl];refine⟨by omega,⟨by omega,by omega⟩,kD ⟨λH=>?_,λH=>⟨by omega,⟨by omega,by omega,by omega⟩,?_⟩⟩⟩
  ·have H:lt z=false:=by simpa using H
   rw [H]at h;exact h
  have H:lt z=true:=by simpa using H
  rw [H,Qa]at h;refine⟨λG=>⟨λ _=>?_,λh2=>absurd (G.symm.trans h2) (by decide)⟩,λG=>⟨λh3=>⟨λ _=>?_,λh2=>absurd (h3.symm.trans h2) (by decide)⟩,λh3=>⟨λh4=>?_,λh4=>?_⟩⟩⟩
  ·rw [G]at h;exact h
  ·rw [h3]at h;simpa using h
  ·rw [G,h3,h4]at h;exact h
  ·rw [G,h3,h4]at h;exact h
def IU {x a b:UInt32}(h:b &&& a=0):(x &&& ~~~a) &&& b=x &&& b:=by
 apply QQ.1;have h:=PA UInt32.toBitVec h;simp only [UInt32.toBitVec_and,UInt32.toBitVec_not]at*
 ext i hi
 have :=PA (λv:BitVec 32=>v.getLsbD i) h;simp at this|-;cases G:b.toBitVec[i]<;>simp_all
def E7 (x a:UInt32):(x &&& ~~~a) &&& a=0:=by
 apply QQ.1;simp only [UInt32.toBitVec_and,UInt32.toBitVec_not]
 ext i hi
 simp
def qB.or {x y:UInt32}{f g:Tk}(h:qB x f)(k:qB y g):qB (x ||| y) λc=>f c||g c:=λc G=>by
 rw [BT,QI.2 (DQ _ _),Bool.decide_and,h c G,k c G];simp
def qB.del {x:UInt32}{f:Tk}(h:qB x f){d:UInt8}(hd:lt d=true):qB (x &&& ~~~pK d) λc=>f c&& !decide (c=d):=λc G=>by
 by_cases e:c=d
 ·subst e;rw [E7];simp
 ·have:pK c &&& pK d=0:=by have :=rC G hd;rw [beq_eq_false_iff_ne.2 (Ry e)]at this;simpa using this
  rw [IU this,h c G];simp [e]
def yX {d:UInt8}(hd:lt d=true):qB (pK d) λc=>decide (c=d):=λc G=>by
 rw [rC hd G,iV]
def qB.cg {x:UInt32}{f g:Tk}(h:qB x f)(e:∀c,lt c=true->f c=g c):qB x g:=λc G=>by rw [h c G,e c G]
def Lt.parts {t:P}(h:Lt t):∀p∈t.parts,Lt p:=by
 cases t<;>simp_all [T.parts,T.Al]
def Jn:∀(n:Nat) {D:Nat->Prop} {t:P} {v:Value} {w:World},t.size<=n->aN D w t v->Lt t->t.size<=1099511627776->∀{R:UInt32->Sb},(∀x w',Ex w w'->qB x (λc=>decide (t.Fr c))->R x w')->Sc 146 #[v] w (aw [.w] R):=by
 intro n
 induction n with
 | zero=>intro D t v w h;have :=aX t;omega
 | succ n ih=>
  intro D t v w hn ht G hl R h;refine pd v w R ?_;dsimp only [go_sem];dsimp only [go_sem,Nat.reduceAdd];have β:=ht.bound;obtain⟨b,vs,l,rfl,h1,h2,h3,h4,h5,h6,h7,h8⟩:=β.inv;obtain⟨a,cap,hv⟩:=h7.slice;have e:=pb t;refine⟨b,0,rfl,vs,h6,a,_,cap,hv,λx i w'=>Ex w w'/\∃j:Nat,i=j/\j<=l.length/\qB x λc=>decide (∃p∈t.parts.take j,p.Fr c),λ _ i _=>(l.length - i).toNat,⟨Ex.refl _,0,rfl,by omega,I4.cg λc _=>by simp⟩,λx i w1 hI=>?_⟩;obtain⟨Z,j,rfl,hj,J⟩:=hI;have γ:∀{w':World},Ex w w'->aN (λg=>D g/\g< w.heap.size) w' t (ptr b):=λx'=>aN.kp (Kp.ab x' λ _=>False) (λ _ _ h=>h) β
  have C:∀{w':World},Ex w w'->∀{k:Nat} {v:Value},w.cell? ⟨b,k,none⟩=some v->w'.cell? ⟨b,k,none⟩=some v:=λ{w'} x' {k v} hc=>by rw [x'.cell (a:=⟨b,k,none⟩) h2];exact hc
  refine⟨λhc=>?_,λhc=>?_⟩
  ·have hc:=OW hc;have α:j< l.length:=by omega
   have H:j< t.parts.length:=by rw [<-h8.1];exact α
   obtain⟨_,δ,l',e1,_,_,_,_,_,g6,g7,g8⟩:=(γ Z).inv;cases e1;have e6:δ=vs:=by rw [C Z h6]at g6;exact(Pr g6).symm
   subst e6;have ε:l'.length=l.length:=by rw [g8.1,h8.1]
   refine g7.get (i:=j) (x:=l'[j]) (by omega) (by simp [ε,α]) ?_;have hk:=g8.2 j _ _ (Ox (by omega)) (Ox H);obtain⟨hs,θ⟩:=qE T.size t.parts H;have ι:=dE t;refine ih (by omega) hk (G.parts _ (Oz H)) (by omega) λy w2 x2 hy=>⟨by omega,⟨Ex.trans Z x2,j+1,by omega,by omega,(J.or hy).cg λc _=>?_⟩,tN α⟩
   rw [OC H,<-R7];refine QI.2 ⟨λh=>?_,fun⟨p,hp,hf⟩=>?_⟩
   ·rcases h with⟨p,hp,hf⟩ | h
    ·exact⟨p,O9 _ hp,hf⟩
    ·exact⟨_,O0 _ (OL.2 rfl),h⟩
   ·rcases OH.1 hp with hp | hp
    ·exact .inl ⟨p,hp,hf⟩
    ·cases OL.1 hp;exact .inr hf
  have hc:=OX hc;have:j=t.parts.length:=by rw [<-h8.1];omega
  subst this;rw [O4]at J;refine⟨λx w'=>Ex w w'/\qB x λc=>decide ((∃p∈t.parts,p.Fr c)/\¬((t.kind=63\/t.kind=35)/\c=t.cb)),D7 (γ Z) ⟨λhb=>?_,λhb=>⟨Z,J.cg λc _=>?_⟩⟩,λx w2 hJ=>?_⟩
  ·have hb:t.kind=63\/t.kind=35:=by simpa using hb
   have ζ:lt t.cb=true:=by
    cases t<;>simp [T.kind]at hb<;>simp_all [T.Al,T.cb]
   refine⟨b,0,rfl,t.cb,C Z h5,uy ⟨Z,(J.del ζ).cg λc _=>?_⟩⟩;simp [hb]
  ·have hb:¬(t.kind=63\/t.kind=35):=by simpa using hb
   exact QI.2 ⟨λh=>⟨h,λh'=>hb h'.1⟩,λh=>h.1⟩
  obtain⟨x2,J⟩:=hJ;have fin:∀(y:UInt32) (w':World),Ex w w'->(qB y λc=>decide (t.Fr c))->R y w':=h;have two:lt t.ca=true->lt t.cb=true->(∀c,t.Fr c↔((∃p∈t.parts,p.Fr c)/\¬((t.kind=63\/t.kind=35)/\c=t.cb))\/c=t.ca\/c=t.cb)->
    ∃S:Sb,∀w1:World,w1=World.drew w2->S w1/\∃(b0 o0:Nat),ptr b=Value.pointer (some ⟨b0,o0,none⟩)/\∃v:UInt8,(∀w',S w'->World.cell? w' ⟨b0,o0+1,none⟩=some (.int .u8 (UInt8.toNat v)))/\∃(b1 o1:Nat),ptr b=Value.pointer (some ⟨b1,o1,none⟩)/\∃v2:UInt8,(∀w',S w'->World.cell? w' ⟨b1,o1+2,none⟩=some (.int .u8 (UInt8.toNat v2)))/\
     Sc 96 #[.int .u8 v.toNat] w1 (aw [.w] λp w'=>S w'/\Sc 96 #[.int .u8 v2.toNat] w' (aw [.w] λq w'=>S w'/\R (x ||| (p ||| q)) w')):=λha hb hf=>by
   refine⟨λw'=>Ex w w',λw1 η=>?_⟩;have x3:Ex w w1:=Ex.trans x2 (η▸Ex.drew w2);refine⟨x3,b,0,rfl,t.ca,λw' x'=>C x' h4,b,0,rfl,t.cb,λw' x'=>C x' h5,uy ⟨x3,uy ⟨x3,fin _ _ x3 ((J.or ((yX ha).or (yX hb))).cg λc _=>?_)⟩⟩⟩;rw [<-R7,<-R7];exact QI.2 (hf c).symm
  refine⟨b,0,rfl,t.kind,C x2 h3,?_⟩;cases t with
  | snd p q r=>
   exact⟨λ _=>⟨λ _=>two G.1 G.2.1 λc=>by simp [T.Fr,T.parts,T.kind,T.ca,T.cb];grind,λh=>(by cases h)⟩,λh=>(by cases h)⟩
  | mat p q r=>
   exact⟨λh=>(by cases h),λ _=>⟨λ _=>two G.1 G.2.1 λc=>by simp [T.Fr,T.parts,T.kind,T.ca,T.cb];grind,λh=>(by cases h)⟩⟩
  | rcv p q r=>
   refine⟨λh=>(by cases h),λ _=>⟨λh=>(by cases h),λ _=>⟨λ _=>⟨b,0,rfl,p,C x2 h4,uy (fin _ _ x2 ((J.or (yX G.1)).cg λc _=>?_))⟩,λh=>(by cases h)⟩⟩⟩;rw [<-R7];exact QI.2 (by simp [T.Fr,T.parts,T.kind,T.cb];grind)
  | _=>
   refine⟨λh=>(by cases h),λ _=>⟨λh=>(by cases h),λ _=>⟨λh=>(by cases h),λ _=>fin _ _ x2 (J.cg λc _=>QI.2 ?_)⟩⟩⟩;simp [T.Fr,T.parts,T.kind,T.cb]
   try grind
def Ij {t:P}(G:Lt t)(hs:t.size<=1000000)(hlen:t.text.length<=1099511627776){w:World}{R:UInt32->Sb}(h:∀x w',Ex w w'->qB x (λc=>decide (t.Fr c))->R x w'):Sc 81 #[.string (ak t.text)] w (aw [.w] R):=by
 refine vC t.text w R ?_;dsimp only [go_sem];refine zW hlen λv q w1 x1 H J=>?_
 have hq:q=true:=by
  cases q
  ·exact absurd rfl (J rfl t G)
  ·rfl
 obtain⟨t',Z,e,α⟩:=H hq;have :=eV G.wf Z.wf e;subst this;exact Jn _ (OB _) α G (by omega) λx w2 x2 hx=>h x w2 (Ex.trans x1 x2) hx
abbrev tL:Nat:=22
def Np (w:World)(g:Nat)(p:Tx×Tx):Prop:=g< w.heap.size/\w.cell? ⟨g,0,none⟩=some (.string (ak p.1))/\w.cell? ⟨g,1,none⟩=some (.string (ak p.2))/\Own 0 w (.slice (some ⟨g,0,none⟩) 2 2) [p.1,p.2]
def Je {w w':World}{b:Nat}{s t:Tx}(hb:b=w.heap.size)(hw:w'=w.alloc (.cells #[.string (ak s),.string (ak t)] 9)):Own 0 w' (.slice (some ⟨b,0,none⟩) 2 2) [s,t]:=by
 subst hb hw;refine⟨by simp,.inr ⟨w.heap.size,2,#[.string (ak s),.string (ak t)],by simp,Pn _,?_,by simp,by unfold maxLen;omega,by simp,by simp [sv]⟩⟩;unfold World.alloc;simp
def Np.kp {w w':World}{g:Nat}{p:Tx×Tx}{S:Nat->Prop}(h:Np w g p)(k:Kp w w' S)(G:¬S g):Np w' g p:=by
 obtain⟨H,J,Z,h4⟩:=h;have e:=k.block g H G;exact⟨O1 H k.size,by rw [Ow (w:=w) e];exact J,by rw [Ow (w:=w) e];exact Z,h4.kp k λg' e'=>by cases e';exact G⟩
structure IX (B:Nat)(w:World)(s:Nat)(L:List (Tx×Tx))(W:List Tx)(M:Nat->Prop):Prop where
 lt:s< w.heap.size
 mb:M s
 mr:∀g,M g->B<=g/\g< w.heap.size
 f:∀j,w.frozen? ⟨s,j,none⟩=false
 c2:w.cell? ⟨s,2,none⟩=some (.bool false)
 ex:∃vl vw rs,w.cell? ⟨s,0,none⟩=some vl/\w.cell? ⟨s,1,none⟩=some vw/\rs.length=L.length/\aM tL B w vl rs/\Own B w vw W/\(∀g,vl.ownBlock=some g->M g/\g≠s/\vw.ownBlock≠some g)/\(∀g,vw.ownBlock=some g->M g/\g≠s)/\
  (∀i (h:i< L.length),∃g,rs[i]?=some (.slice (some ⟨g,0,none⟩) 2 2)/\M g/\g≠s/\vl.ownBlock≠some g/\vw.ownBlock≠some g/\Np w g L[i])/\rs.Nodup
section
variable {B:Nat} {w w':World} {s:Nat} {L:List (Tx×Tx)} {W:List Tx} {M:Nat->Prop}
def IX.kp {S:Nat->Prop}(h:IX B w s L W M)(k:Kp w w' S)(H:∀g,M g->¬S g):IX B w' s L W M:=by
 have e:=k.block s h.lt (H s h.mb);obtain⟨vl,vw,rs,h1,h2,h3,h4,h5,J,Z,h8,h9⟩:=h.ex;refine⟨O1 h.lt k.size,h.mb,λg G=>⟨(h.mr g G).1,O1 (h.mr g G).2 k.size⟩,λj=>by rw [O7 (w:=w) e];exact h.f j,by rw [Ow (w:=w) e];exact h.c2,vl,vw,rs,by rw [Ow (w:=w) e];exact h1,by rw [Ow (w:=w) e];exact h2,h3,h4.kp k λg G=>H g (J g G).1,h5.kp k λg G=>H g (Z g G).1,J,Z,λi hi=>?_,h9⟩;obtain⟨g,k1,k2,k3,k4,k5,k6⟩:=h8 i hi;exact⟨g,k1,k2,k3,k4,k5,k6.kp k (H g k2)⟩
def IX.FK (h:IX B w s L W M)(x:Ex w w'):IX B w' s L W M:=h.kp (Kp.ab x λ _=>False) λ _ _ h=>h
def Mh (h:IX B w s L W M)(hl:L.length<=1000000000)(hw:W.length<=1000000000){Z text:Tx}{ok:Bool}{R:Sb}
  (hR:∀w' M',Kp w w' M->IX B w' s (L++[(Z,text)]) (W++if ok then []else [Z]) M'->(∀g,M' g->M g\/w.heap.size<=g)->R w'):Sc 122 #[ptr s,.string (ak Z),.string (ak text),.bool ok] w (aw [] R):=by
 refine pZ (ptr s) Z text ok w R ?_;dsimp only [go_sem];dsimp only [go_sem,Nat.reduceAdd];obtain⟨vl,vw,rs,h1,h2,h3,h4,h5,h6,h7,h8,h9⟩:=h.ex;have φ:=h.lt;have hB:=(h.mr s h.mb).1;refine⟨s,0,rfl,vl,h1,λb1 w1 θ α=>⟨rfl,λb2 w2 χ ι=>?_⟩⟩;have x1:Ex w w1:=α▸Ex.alloc w _;have x2:Ex w1 w2:=ι▸Ex.alloc w1 _;have s1:w1.heap.size=w.heap.size+1:=by rw [α,size_alloc]
 have s2:w2.heap.size=w1.heap.size+1:=by rw [ι,size_alloc]
 have μ:=Ex.trans x1 x2;have r1:Np w1 b1 (Z,text):=⟨by omega,by rw [α,θ];exact aa rfl,by rw [α,θ];exact aa rfl,Je θ α⟩
 have r2:=r1.kp (Kp.ab x2 λ _=>False) id;refine⟨B,rs.length,1,rs,[.slice (some ⟨b1,0,none⟩) 2 2],h4.kp (Kp.ab μ λ _=>False) (λ _ _ h=>h),by omega,⟨rfl,rfl,.inr ⟨b2,0,1,rfl,λj u hu=>?_⟩⟩,⟨by unfold maxLen;omega,by omega⟩,λv3 w3 o3 g3 n3=>?_⟩
 ·match j,hu with
  | 0,hu=>
   cases hu;rw [ι,χ];exact aa rfl
 have o3:aM tL B w3 v3 (rs++[.slice (some ⟨b1,0,none⟩) 2 2]):=by unfold aM;rw [Oy];exact o3
 have k3:Kp w2 w3 λg=>vl.ownBlock=some g:=Kp.aP g3 λ _ h=>h
 have s3:=k3.size;have vb:=h4.block;have K3:Kp w w3 λg=>vl.ownBlock=some g:=Kp.trans (Kp.ab μ _) k3 λ _ _ h=>h
 have e3:=K3.block s φ λe=>(h6 s e).2.1 rfl
 have c3:∀j,w3.cell? ⟨s,j,none⟩=w.cell? ⟨s,j,none⟩:=λj=>Ow (w:=w) e3
 have f3:∀j,w3.frozen? ⟨s,j,none⟩=false:=λj=>by rw [O7 (w:=w) e3];exact h.f j
 refine⟨s,0,rfl,o3.qh,⟨⟨_,(c3 0).trans h1⟩,f3 0⟩,λJ β=>?_⟩;have k4:Kr s w3 J:=β▸Kr.set w3 0 v3;have s4:=k4.size;have K4:Kp w J λg=>vl.ownBlock=some g\/g=s:=Kp.trans (Kp.mono (λ _ h=> .inl h) K3) k4 λ _ _ h=> .inr h
 have ζ:∀g,v3.ownBlock=some g->vl.ownBlock=some g\/w2.heap.size<=g/\g< w3.heap.size:=λg G=>(n3 g G).imp id λe=>⟨e,(o3.block g G).2⟩
 have γ:IX B J s (L++[(Z,text)]) W λg=>M g\/(w.heap.size<=g/\g< J.heap.size):=by
  refine⟨by omega,.inl h.mb,λg G=>?_,λj=>by rw [β,OS];exact f3 j,?_,v3,vw,_,by rw [β];exact OQ _ _ _ ((c3 0).trans h1),?_,by simp [h3],o3.kp k4 λg G e=>?_,h5.kp K4 λg G e=>?_,λg G=>?_,λg G=>⟨.inl (h7 g G).1,(h7 g G).2⟩,λi hi=>?_,?_⟩
  ·rcases G with G | G
   ·have :=h.mr g G;omega
   ·omega
  ·rw [β,OD _ _ _ _ (by simp),c3];exact h.c2
  ·rw [β,OD _ _ _ _ (by simp),c3];exact h2
  ·rcases ζ g G with H | H
   ·exact(h6 g H).2.1 e
   ·omega
  ·exact e.elim (λe=>(h6 g e).2.2 G) (h7 g G).2
  ·rcases ζ g G with H | H
   ·exact⟨.inl (h6 g H).1,(h6 g H).2⟩
   ·exact⟨.inr (by omega),by omega,λe=>by have :=(h5.block g e).2;omega⟩
  ·rw [Oy,PM]at hi;by_cases ν:i< L.length
   ·obtain⟨g,k1,k2,ξ,ο,k5,k6⟩:=h8 i ν;have ς:=k6.1;refine⟨g,by rw [List.getElem?_append_left (by omega)];exact k1,.inl k2,ξ,λe=>?_,k5,?_⟩
    ·rcases ζ g e with H | H
     ·exact ο H
     ·omega
    ·rw [List.getElem_append_left ν];exact k6.kp K4 λe=>e.elim ο ξ
   ·have e:i=L.length:=by omega
    subst e;refine⟨b1,by rw [<-h3,List.getElem?_append_right (OB _)];simp,.inr (by omega),by omega,λe=>?_,λe=>by have :=(h5.block _ e).2;omega,?_⟩
    ·rcases ζ b1 e with H | H
     ·have :=(vb b1 H).2;omega
     ·omega
    ·rw [List.getElem_append_right (OB _)];simp only [R6,List.getElem_cons_zero];have ψ:=r2.kp k3 λe=>by have :=(vb b1 e).2;omega
     exact ψ.kp k4 λe=>by omega
  ·refine Pg.2 ⟨h9,by simp,λa ha b hb e=>?_⟩;obtain⟨i,hi,rfl⟩:=List.getElem_of_mem ha;obtain⟨g,k1,_,_,_,_,k6⟩:=h8 i (by omega);have ς:=k6.1;rw [Ox hi]at k1;have e1:=(Pr k1).symm.trans (e.trans (OL.1 hb));simp only [Value.slice.injEq,PJ,Addr.mk.injEq]at e1;omega
 have υ:Kp w J M:=Kp.mono (λg e=>e.elim (λe=>(h6 g e).1) λe=>e▸h.mb) K4;cases ok with
 | true=>
  refine⟨λh=>(by cases h),λ _=>hR J (λg=>M g\/(w.heap.size<=g/\g< J.heap.size)) υ (by simpa using γ) λg G=>G.imp id And.left⟩
 | false=>
  refine⟨λ _=>?_,λh=>(by cases h)⟩;obtain⟨ω,δ,rs2,q1,q2,q3,q4,q5,q6,q7,q8,q9⟩:=γ.ex;refine⟨s,0,rfl,δ,q2,λb5 w5 hb5 κ=>?_⟩;have x5:Ex J w5:=κ▸Ex.alloc J _;have s5:w5.heap.size=J.heap.size+1:=by rw [κ,size_alloc]
  refine Own.push (q5.ex x5) (by omega) (Strs.one hb5 κ) (by simp only [PM];omega) λv6 w6 _ o6 g6 n6=>?_
  have k6:Kp w5 w6 λg=>δ.ownBlock=some g:=Kp.aP g6 λ _ h=>h
  have s6:=k6.size;have K6:Kp J w6 λg=>δ.ownBlock=some g:=Kp.trans (Kp.ab x5 _) k6 λ _ _ h=>h
  have e6:=K6.block s γ.lt λe=>(q7 s e).2 rfl
  have c6:∀j,w6.cell? ⟨s,j,none⟩=J.cell? ⟨s,j,none⟩:=λj=>Ow (w:=J) e6
  have f6:∀j,w6.frozen? ⟨s,j,none⟩=false:=λj=>by rw [O7 (w:=J) e6];exact γ.f j
  refine⟨s,0,rfl,o6.qh,⟨⟨_,(c6 1).trans q2⟩,f6 1⟩,λw7 ε=>?_⟩;have k7:Kr s w6 w7:=ε▸Kr.set w6 1 v6;have s7:=k7.size;have K7:Kp J w7 λg=>δ.ownBlock=some g\/g=s:=Kp.trans (Kp.mono (λ _ h=> .inl h) K6) k7 λ _ _ h=> .inr h
  have η:∀g,v6.ownBlock=some g->δ.ownBlock=some g\/w5.heap.size<=g/\g< w6.heap.size:=λg G=>(n6 g G).imp id λe=>⟨e,(o6.block g G).2⟩
  refine hR w7 (λg=>M g\/(w.heap.size<=g/\g< w7.heap.size)) (Kp.trans υ K7 λg G e=>?_) ⟨by omega,.inl h.mb,λg G=>?_,λj=>by rw [ε,OS];exact f6 j,?_,ω,v6,rs2,?_,by rw [ε];exact OQ _ _ _ ((c6 1).trans q2),q3,q4.kp K7 λg G e=>?_,?_,λg G=>?_,λg G=>?_,λi hi=>?_,q9⟩ λg G=>G.imp id And.left
  ·exact e.elim (λe=>((q7 g e).1).elim id λe=>by omega) λe=>e▸h.mb
  ·rcases G with G | G
   ·have :=h.mr g G;omega
   ·omega
  ·rw [ε,OD _ _ _ _ (by simp),c6];exact γ.c2
  ·rw [ε,OD _ _ _ _ (by simp),c6];exact q1
  ·exact e.elim (λe=>(q6 g G).2.2 e) λe=>(q6 g G).2.1 e
  ·refine o6.kp k7 λg G e=>?_
   rcases η g G with H | H
   ·exact(q7 g H).2 e
   ·omega
  ·refine⟨(q6 g G).1.imp id λe=>by omega,(q6 g G).2.1,λe=>?_⟩;rcases η g e with H | H
   ·exact(q6 g G).2.2 H
   ·have :=(q4.block g G).2;omega
  ·rcases η g G with H | H
   ·exact⟨(q7 g H).1.imp id λe=>by omega,(q7 g H).2⟩
   ·exact⟨.inr (by omega),by omega⟩
  ·obtain⟨g,p1,p2,p3,p4,p5,p6⟩:=q8 i hi;have ς:=p6.1;refine⟨g,p1,p2.imp id λe=>by omega,p3,p4,λe=>?_,p6.kp K7 λe=>e.elim p5 p3⟩;rcases η g e with H | H
   ·exact p5 H
   ·omega
end
end
section
open T
section
attribute [local go_sem] Oper.semAt_some
def G1 {w:World}{b x y:Nat}(h:w.cell? ⟨b,2,none⟩=some (iv y)){R:Bool->Sb}(hR:R (decide ((x:Int)=y)) w):
  Sc 152 #[iv x,.pointer (some ⟨b,0,none⟩)] w (aw [.b] R):=by
 refine(callsIn_wide (n:=1)).1 ?_;refine callsIn_of_wp Tryz.func152 rfl trivial ?_ rfl;simp only [Tryz.ntmps152,List.size_toArray,Ov,ON,Nat.reduceAdd,Nat.reduceSub,Array.replicate_succ,Array.replicate_zero,List.push_toArray,List.append_toArray,Pv,PC]
 gi_wp2
 refine bodyPost_ret (results_tmp rfl _ _ _) rfl ⟨_,rfl,?_⟩;exact hR
end
def Of:Shelf.Ren where
 f:=λx=>if x=45 then 148 else x
 t:=λx=>if x=22 then 127 else if x=23 then 130 else if x=0 then 0 else if x=3 then 3 else if x=4 then 4 else x
 g:=λx=>x
def Mj:SlLaysE.n45 Tryz.prog Of where
 mixed:=Eq.refl true
 f45:=⟨Tryz.f148.name,by kernel_rfl,Qs Tryz.func148 (by kernel_rfl)⟩
 t0:=Tryz.underlying0
 a0:=Tryz.isAgg0
 z0:=Tryz.sizeOf0
 v0:=Tryz.zeroValue0
 t3:=Tryz.underlying3
 a3:=Tryz.isAgg3
 z3:=Tryz.sizeOf3
 v3:=Tryz.zeroValue3
 t4:=Tryz.underlying4
 a4:=Tryz.isAgg4
 z4:=Tryz.sizeOf4
 v4:=Tryz.zeroValue4
 t22:=Tryz.underlying127
 a22:=Tryz.isAgg127
 z22:=Tryz.sizeOf127
 v22:=Tryz.zeroValue127
 a23:=Tryz.isAgg130
 z23:=Tryz.sizeOf130
abbrev tT:Nat:=130
def enT:Option Nat->Value
 | some g=>ptr g
 | none=> .pointer none
def Jl:OneCell enT:=λx=>by cases x<;>rfl
def M6 {B:Nat}{w:World}{v:Value}{gs:List Nat}(h:aM tT B w v (gs.map ptr)){i:Nat}(hi:i< gs.length)(hl:gs.length<=1000000){R:Value->Sb}
  (hR:∀v' w',Kp w w' (λg=>v.ownBlock=some g)->aM tT B w' v' (gs.eraseIdx i |>.map ptr)->v'.ownBlock=v.ownBlock->R v' w'):Sc 148 #[v,.int .i64 i,.int .i64 ((i:Int)+1)] w (aw [.v] R):=by
 rcases h.2 with⟨rfl,hn⟩ | ⟨g,cap,cur,rfl,hb,hg,h1,h2,h3,h4⟩
 ·rw [OM]at hn;omega
 rw [OM]at h1 h4|-;have hm:cap<=9223372036854775807:=by unfold maxLen at h2;omega
 have γ:gs.length<=cur.size:=by omega
 have hC:∀j (G:j< gs.length),cur[j]?=some (ptr gs[j]):=λj G=>by
  have :=PA (fun(l:List Value)=>l[j]?) h4;simp only [Qm,Ox G,P8]at this
  rwa [PS (by omega),PO]at this
 have hH:Go.Sort.Holds enT w g 0 (gs.map some).toArray:=λj G=>by
  have G:j< gs.length:=by simpa using G
  refine⟨?_,?_⟩
  ·unfold World.cell?;simp only [hg,O6,hC j G];rw [getElem!_pos _ j (by simpa using G)];simp [enT]
  ·unfold World.frozen?;simp only [hg];simp
 have sz:(gs.map some).toArray.size=gs.length:=by simp
 have key:=AnyE.slices_Delete Mj enT Jl none (by intro w;exact Tryz.zeroValue130 w) _ rfl rfl g 0 cap i (i+1) (gs.map some).toArray w hH (by rw [sz];omega) hm (by omega) (by rw [sz];omega);rw [sz]at key;simp only [Nat.add_sub_cancel_left,List.toList_toArray,List.replicate_one]at key;refine Calls.mono key ?_
 rintro e w' ⟨rfl,q,rfl⟩
 obtain⟨D,hD⟩:∃D,D=(gs.map some).take i++(gs.map some).drop (i+1)++[none]:=⟨_,rfl⟩
 have H:D.length=gs.length:=by rw [hD];simp;omega
 rw [<-hD];have δ:g< w.heap.size:=(Ph.1 hg).1;have α:(Go.Sort.putRow enT (Go.Sort.ahead w q) g 0 D.toArray).heap[g]?=some (.cells (Go.Sort.putCells enT 0 D.toArray cur) tT (0,0)):=by
  simp [Go.Sort.putRow,Go.Sort.mapBlock,Go.Sort.ahead,Qh,hg,Go.Sort.onCells]
 have kp:Kp w (Go.Sort.putRow enT (Go.Sort.ahead w q) g 0 D.toArray) (λx=>(Value.slice (some ⟨g,0,none⟩) gs.length cap).ownBlock=some x):=by
  refine⟨rfl,rfl,rfl,by simp [Go.Sort.putRow,Go.Sort.mapBlock,Go.Sort.ahead],λk hk β=>?_⟩;have:g≠k:=λe=>β (by rw [<-e];rfl)
  simp [Go.Sort.putRow,Go.Sort.mapBlock,Go.Sort.ahead,Qh,this]
 refine⟨_,rfl,hR _ _ kp ?_ rfl⟩;have J:(gs.eraseIdx i).length=gs.length - 1:=by rw [Rc,O' hi]
 refine⟨by simp [J],.inr ⟨g,cap,_,by simp [J],hb,α,by simp [J];omega,h2,by simp [Go.Sort.putCells,h3],?_⟩⟩;apply List.ext_getElem?;intro j;simp only [OM,J,O8];by_cases G:j< gs.length - 1
 ·rw [PS G,PO];simp only [Go.Sort.putCells,Array.getElem?_mapIdx,hC j (by omega),P8,Pn,Qe,O6,List.size_toArray,H];rw [O' (by omega),Nat.sub_zero,getElem!_pos _ j (by simpa [H]using(by omega:j< gs.length))];have Z:j< (gs.eraseIdx i).length:=by omega
  have eD:D=(gs.eraseIdx i).map some++[none]:=by rw [hD,List.eraseIdx_eq_take_drop_succ,Pm,List.map_take,List.map_drop]
  have e1:D[j]'(by omega)=some (gs.eraseIdx i)[j]:=by
   simp only [eD];rw [List.getElem_append_left (by simpa using Z),QF]
  rw [List.getElem_toArray,e1,Qm,Ox Z];rfl
 ·rw [List.getElem?_take_eq_none (by omega),Ru (by simp [J];omega)]
end
section
open T Classical
def HX {D:Nat->Prop}{w:World}{v:Value}{l:List Value}(h:dt D w v l)(h1:l.all oneV=true)(hl:l.length<=1099511627776){R:Value->Sb}(hR:∀H w',Ex w w'->aM tT w.heap.size w' H l->R H w'):
  Sc 149 #[v] w (aw [.v] R):=by
 refine kh v w R ?_;dsimp only [go_sem];rcases id h with⟨rfl,e⟩ | ⟨b,off,cap,rfl,β,h2,h3⟩
 ·exact⟨_,_,_,rfl,λ _=>hR _ _ (Ex.refl w) (e▸aM.nil _ _ _),λh=>(by cases h)⟩
 ·refine⟨_,_,_,rfl,λh=>(by cases h),λ _ b5 w6 Z G=>?_⟩;have J:Ex w w6:=G▸Ex.alloc w _;have ho:aM tT w.heap.size w6 (.slice (some ⟨b5,0,none⟩) 0 0) []:=by
   subst Z G;refine⟨rfl,.inr ⟨_,0,#[],rfl,OB _,?_,by simp,by unfold maxLen;omega,rfl,rfl⟩⟩;unfold World.alloc;simp
  refine aM.push ho J.size (h.ex J) h1 (by omega) (by simp;exact hl) λH w' α hg hn=>hR H w' ?_ α
  refine Ex.below J (Kp.below (S:=λg=>g=b5) (Kp.aP hg λg e=>(Pr e).symm) J.size λg hg e=>by omega)
def eL (E:List Ev):List (Tx×Tx):=E.map λe=>(e.1,e.2.getD [])
def eW (E:List Ev):List Tx:=(E.filter λe=>e.2.isNone).map λe=>e.1
structure nO (b s n0 c:Nat)(w0 w':World)(E:List Ev)(M:Nat->Prop):Prop where
 km:Km b w0 w'
 rs:IX w0.heap.size w' s (eL E) (eW E) M
 mc:∃n,Mk w' b n/\n0<=n/\n<=n0+c
 hb:b< w0.heap.size
section
variable {b s n0 c:Nat} {w0 w w':World} {E:List Ev} {M:Nat->Prop}
def nO.nb (h:nO b s n0 c w0 w E M):¬M b:=λG=>by have :=(h.rs.mr b G).1;have :=h.hb;omega
def nO.mono {G:Nat}(h:nO b s n0 c w0 w E M)(Z:c<=G):nO b s n0 G w0 w E M:=by
 obtain⟨n,H,J,h3⟩:=h.mc;exact⟨h.km,h.rs,⟨n,H,J,by omega⟩,h.hb⟩
def nO.ex (h:nO b s n0 c w0 w E M)(x:Ex w w'):nO b s n0 c w0 w' E M:=by
 obtain⟨n,G,H⟩:=h.mc;exact⟨h.km.out (Kp.ab x λ _=>False) (λ _ _ h=>h) h.hb,h.rs.FK x,⟨n,G.ex x,H⟩,h.hb⟩
def Mb (E F:List Ev):eL (E++F)=eL E++eL F:=Pm ..
def Ly (E F:List Ev):eW (E++F)=eW E++eW F:=by unfold eW;rw [PD,Pm]
def nO.add (h:nO b s n0 c w0 w E M)(hl:E.length<=1000000)(e:Ev){R:Sb}(hR:∀G M',nO b s n0 c w0 G (E++[e]) M'->Kp w G M->(∀g,M' g->M g\/w.heap.size<=g)->R G):
  Sc 122 #[ptr s,.string (ak e.1),.string (ak (e.2.getD [])),.bool e.2.isSome] w (aw [] R):=by
 have h1:(eL E).length=E.length:=by unfold eL;simp
 have h2:(eW E).length<=E.length:=by unfold eW;rw [OM];exact P' _ _
 refine Mh h.rs (by omega) (by omega) λw' M' k r H=>?_
 obtain⟨n,J,Z,m3⟩:=h.mc;refine hR w' M' ⟨h.km.out k (λg hg hM=>by have :=(h.rs.mr g hM).1;omega) h.hb,?_,⟨n,J.kp k h.nb,Z,m3⟩,h.hb⟩ k H;have e1:eL (E++[e])=eL E++[(e.1,e.2.getD [])]:=by rw [Mb];rfl
 have e2:eW (E++[e])=eW E++if e.2.isSome then []else [e.1]:=by
  rw [Ly]
  congr 1
  unfold eW;cases h:e.2<;>simp [h]
 rw [e1,e2];exact r
end
section
variable {t:P} {u:U} {b s n0 c:Nat} {w w1:World} {E:List Ev} {M D:Nat->Prop}
def LD (ok:fS t)(su:SU t u)(hsz:u.size<=60)(h:nO b s n0 c w w1 E M){bl:Nat}(ν:w1.cell? ⟨b,2,none⟩=some (ptr bl))(hl:az D w1 (td u) (ptr bl))(hD:∀g,D g->g≠b/\g< w.heap.size){i d e:Nat}{p:U}(hi:i< u.ths.length)(ho:Off.snd d e p∈offs u.ths[i]){Z:Nat}{vr:Value}(c3:w1.cell? ⟨Z,3,none⟩=some vr)(ξ:Z< w1.heap.size)(ζ:az D w1 (td p) vr)
  {J:aD->Bool->Sb} (hJ:∀w3 s q,Ex w1 w3->s=(cL (Ax u i p)).getD []->q=(cL (Ax u i p)).isSome->J s q w3):
  jf w1 λG ο=>bT (ptr b) λς o55=>fq G ς (o55+2) λv56=>bT v56 λb57 o58=>fq G b57 (o58+0) λv59=>fq G Z 3 λα=>(db ο (Obj.cells #[Value.int IntKind.i64 (i:Int)] 3) λb61 υ=>G υ/\oneV α=true/\db υ (Obj.cells #[α] 59) λb63 φ=>G φ/\qu 114 #[ptr b,Value.slice (some ⟨b61,0,none⟩) 1 1,v59,Value.slice (some ⟨b63,0,none⟩) 1 1] φ λs65 q66 χ=>G χ/\J s65 q66 χ)/\oneV α=true/\
   db ο (Obj.cells #[α] 59) λb68 ψ=>G ψ/\db ψ (Obj.cells #[Value.int IntKind.i64 (i:Int)] 3) λb70 ω=>G ω/\qu 114 #[ptr b,Value.slice (some ⟨b70,0,none⟩) 1 1,v59,Value.slice (some ⟨b68,0,none⟩) 1 1] ω λs72 q73 w74=>G w74/\J s72 q73 w74:=by
 have hb:=h.hb;have s0:=h.km.size;obtain⟨bl',vo,vt,ts,e1,k2,k3,k4,k5,k6,k7,k8,k9⟩:=qe su hl;cases e1;have hl':=su.two.len;have hi':i< t.ths.length:=by omega
 have hNu:Nu (Ax u i p):=by
  obtain⟨o',ho',hae⟩:=(ia (su.two.get hi' hi)).sO ho;cases o'<;>try cases hae
  rename_i a b p2 h1 h2;exact(Aq ok su hi' hi ho' ho ⟨h1,h2⟩).1.nu
 obtain⟨sU,_⟩:=aC (su.smp _ (Oz hi)) _ ho;have uqp:Uq p:=(su.gH hi sU (ck _ ho)).snd;have nrp:p.Nr:=sU.nr (su.nrs _ (Oz hi));have hwo:iH (λn=>n==i||n==i) u.ths 0=wo u.ths i i:=(tf _ _ _).symm;have htp:=c8 p;have hps:p.size<=60:=by have h1:=sU.size;have h2:=bY u _ (Oz hi);simp only [Off.tm,T.size]at h1;omega
 have go:∀(wc:World) (vg vm:Value),Ex w1 wc->dt (λg=>g< wc.heap.size) wc vg [iv i]->dt (λg=>g< wc.heap.size) wc vm [vr]->Sc 114 #[ptr b,vg,vo,vm] wc (aw [.s,.b] fun(s58:aD) (q59:Bool) (w60:World)=>Ex w1 w60/\J s58 q59 w60):=by
  intro wc vg vm xc hg hm;have sc:=xc.size;refine pB su (by omega) (vv:=Ax u i p) (zs:=[(td p,p)]) (gl:=[i]) (P:=λn=>n==i||n==i) (mvs:=[vr]) (by rw [xc.cell (show b< _ by omega)];exact ν) (by omega) (az.sub (az.ex hl xc) λg hg _=>hg) hg (by simp) (MQ k6 xc) hm (aO.cons (az.sub (az.ex ζ xc) λg hg _=>hg) aO.Jk) (by simp) (λz hz=>by cases OL.1 hz;exact Pc.nr uqp nrp) ?_ (λj=>?_) ?_ ?_ λw3 x3=>⟨λs hs=>?_,λhn=>?_⟩
  ·simp only [O3,Qf,jO];omega
  ·simp [iV]
  ·rw [hwo];exact hNu
  ·rw [hwo];rfl
  ·exact⟨Ex.trans xc x3,hJ _ _ _ (Ex.trans xc x3) (by rw [hs];rfl) (by rw [hs];rfl)⟩
  ·exact⟨Ex.trans xc x3,hJ _ _ _ (Ex.trans xc x3) (by rw [hn];rfl) (by rw [hn];rfl)⟩
 refine⟨λw'=>Ex w1 w',λη hw46=>?_⟩;have H:Ex w1 η:=hw46▸Ex.drew w1;refine⟨H,b,0,rfl,ptr bl,λw' x=>by rw [x.cell (a:=⟨b,0+2,none⟩) (show b< _ by omega)];exact ν,bl,0,rfl,vo,λw' x=>by rw [x.cell (a:=⟨bl,0+0,none⟩) k3];exact k4,vr,λw' x=>by rw [x.cell (a:=⟨Z,3,none⟩) ξ];exact c3,λς w55 hb54 β=>?_,ζ.one,λb62 w63 hb62 γ=>?_⟩
 ·have θ:Ex η w55:=β▸Ex.alloc _ _;refine⟨Ex.trans H θ,ζ.one,λb56 w57 hb56 δ=>?_⟩;have ι:Ex w55 w57:=δ▸Ex.alloc _ _;exact⟨Ex.trans (Ex.trans H θ) ι,go w57 _ _ (Ex.trans (Ex.trans H θ) ι) (MQ (JA hb54 β) ι) (JA hb56 δ)⟩
 ·have κ:Ex η w63:=γ▸Ex.alloc _ _;refine⟨Ex.trans H κ,λb64 w65 hb64 ε=>?_⟩;have μ:Ex w63 w65:=ε▸Ex.alloc _ _;exact⟨Ex.trans (Ex.trans H κ) μ,go w65 _ _ (Ex.trans (Ex.trans H κ) μ) (JA hb64 ε) (MQ (JA hb62 γ) μ)⟩
end
end
section
open T
def zX {D:Nat->Prop}{w:World}{b G x:Nat}{vo:Value}{O:List Nat}(H:w.cell? ⟨b,2,none⟩=some (ptr G))(J:w.cell? ⟨G,0,none⟩=some vo)(Z:dt D w vo (O.map iv))(hl:O.length<=1099511627776){R:Bool->Sb}(hR:R (decide (x∈O)) w):
  Sc 147 #[ptr b,iv x] w (aw [.b] R):=by
 refine nk (ptr b) x w R ?_;dsimp only [go_sem];exact⟨b,0,rfl,ptr G,H,G,0,rfl,vo,J,EU Z hl hR⟩
abbrev tI:Nat:=3
def pc {B g cap n j:Nat}{w:World}{C:List Nat}(h:aM tI B w (.slice (some ⟨g,0,none⟩) n cap) (C.map iv))(Z:j< C.length):w.cell? ⟨g,j,none⟩=some (iv C[j])/\w.frozen? ⟨g,j,none⟩=false/\B<=g/\C.length<=cap/\n=C.length:=by
 rcases h.2 with⟨h0,_⟩ | ⟨g',G,cur,hv,hb,H,J,h2,h3,h4⟩
 ·cases h0
 ·cases hv;rw [OM]at J h4|-;refine⟨?_,?_,hb,J,rfl⟩
  ·have :=PA (fun(l:List Value)=>l[j]?) h4;simp only [Qm,Ox Z,P8]at this;rw [PS (by omega),PO]at this;unfold World.cell?;simp only [H];exact this
  ·unfold World.frozen?;simp [H]
def uN {B g cap N:Nat}:∀(k n:Nat) (C:List Nat) (w:World),aM tI B w (.slice (some ⟨g,0,none⟩) N cap) (C.map iv)->n+k<=C.length->∃G:List Nat,aM tI B (w.setCells g n (List.replicate k (iv 0))) (.slice (some ⟨g,0,none⟩) N cap) (G.map iv)/\G.length=C.length/\G.take n=C.take n
 | 0,_,C,_,h,_=>⟨C,h,rfl,rfl⟩
 | k+1,n,C,w,h,hk=>by
  have H:=aM.set (x:=iv 0) (j:=n) h rfl (by rw [OM];omega);rw [<-Rp]at H;obtain⟨G,J,Z,h3⟩:=uN k (n+1) (C.set n 0) _ H (by rw [PW];omega);refine⟨G,J,by rw [Z,PW],?_⟩;have :=PA (List.take n) h3
  rwa [RF,RF,Qx (by omega),QJ (OB _)]at this
def GN {B:Nat}{w:World}{g cap N n:Nat}{C:List Nat}(h:aM tI B w (.slice (some ⟨g,0,none⟩) N cap) (C.map iv))(J:n<=C.length):aM tI B w (.slice (some ⟨g,0,none⟩) n cap) ((C.take n).map iv):=by
 have G:((C.take n).map iv).length=n:=by rw [OM,Pd];omega
 rcases h.2 with⟨Z,_⟩ | ⟨g',H,cur,hv,hb,hg,h1,h2,h3,h4⟩
 ·cases Z
 ·cases hv;rw [OM]at h1 h4;refine⟨by simp,.inr ⟨g,cap,cur,by rw [G],hb,hg,by rw [G];omega,h2,h3,?_⟩⟩;rw [G,List.map_take,<-h4,O8,O8,RF,Qx J]
def Mf {B:Nat}{w:World}{v:Value}{l:List Nat}(h:aM tI B w v (l.map iv))(hl:l.length<=1099511627776){f:Nat}{ca:List Value}(hf:hasR gN f=true){q:Nat->Bool}(hp:JT w (λg=>v.ownBlock=some g) f ca q)
  {R:Value->Sb} (hR:∀v' w',Kp w w' (λg=>v.ownBlock=some g)->aM tI B w' v' ((l.filter λs=> !q s).map iv)->(∀g,v'.ownBlock=some g->v.ownBlock=some g)->R v' w'):
  Sc 150 #[v,.func (.func f) #[] (List.toArray ca)] w (aw [.v] R):=by
 refine dU v _ w R ?_;dsimp only [go_sem];dsimp only [go_sem,Nat.reduceAdd];have ζ:dt (λg=>v.ownBlock=some g) w v (l.map iv):=h.DO λg hg=>hg
 refine Ip ζ hf hp hl λn w1 x1 hn=>⟨λZ=>?_,λZ=>?_⟩
 ·have Z:n= -1:=OW Z;rcases hn with⟨_,hn⟩ | ⟨i,e,_⟩
  ·refine hR _ _ (Kp.ab x1 _) ?_ λ _ h=>h
   rw [Qq.2 λx hx=>by simp [hn x hx]];exact h.kp (Kp.ab x1 λ _=>False) λ _ _ h=>h
  ·omega
 have Z:¬n= -1:=OX Z;obtain⟨i0,rfl,α,hb,η⟩:=hn.resolve_left λe=>Z e.1
 have hq:=η _ (Ox α);rcases id h.2 with⟨_,h0⟩ | ⟨g,cap,cur,hv,_⟩
 ·rw [OM]at h0;omega
 rw [OM]at hv;obtain rfl:=hv;have kx:∀{w1:World},Ex w w1->Kp w w1 (λb=>(Value.slice (some ⟨g,0,none⟩) l.length cap).ownBlock=some b):=λx=>Kp.ab x _
 refine⟨by omega,λi j w'=>∃(i' j':Nat) (C:List Nat),i=i'/\j=j'/\i'< j'/\j'<=l.length/\C.length=l.length/\aM tI B w' (.slice (some ⟨g,0,none⟩) l.length cap) (C.map iv)/\C.take i'=(l.take j').filter (λs=> !q s)/\C.drop j'=l.drop j'/\Kp w w' (λb=>(Value.slice (some ⟨g,0,none⟩) l.length cap).ownBlock=some b),
  λ _ j _=>(l.length - j).toNat,⟨i0,i0+1,l,rfl,by omega,by omega,by omega,rfl,h.kp (Kp.ab x1 λ _=>False) (λ _ _ h=>h),?_,rfl,kx x1⟩,λi j w2 hI=>?_⟩
 ·rw [OC α,PD,Qq.2 λs hs=>by simp [hb s hs]];simp [hq]
 obtain⟨i,j,C,rfl,rfl,ς,hj,hC,ho,ht,hd,k2⟩:=hI;refine⟨_,_,cap,rfl,λθ=>?_,λι=>?_⟩
 ·have G:=oL θ;have e1:C[j]'(by omega)=l[j]:=by
   have :=PA (fun(x:List Nat)=>x[0]?) hd;simp only [RY,QR]at this;rw [Ox (by omega),Ox G]at this;exact Pr this
  have β:C.drop (j+1)=l.drop (j+1):=by
   have :=PA (fun(x:List Nat)=>x.drop 1) hd;simpa only [Rj]using this
  refine⟨g,0,_,cap,rfl,by omega,by omega,(l[j]:Int),?_,f,ca,rfl,hf,hp l[j] w2 k2 λw3 x3=>⟨λJ=>?_,λJ=>?_⟩⟩
  ·rw [OG,O8,O6,<-e1];exact(pc ho (by omega)).1
  ·have J:q l[j]=false:=by simpa using J
   have o3:=ho.kp (Kp.ab x3 λ _=>False) (λ _ _ h=>h);refine⟨g,0,_,cap,rfl,by omega,by omega,?_,λw4 H=>⟨by omega,by omega,⟨i+1,j+1,C.set i l[j],by omega,by omega,by omega,by omega,by simpa using hC,?_,?_,?_,?_⟩,tN (by omega)⟩⟩
   ·rw [OG,O8,O6];have :=pc o3 (j:=i) (by omega);exact⟨⟨_,this.1⟩,this.2.1⟩
   ·rw [OG,O8,O6]at H;rw [Rp];exact aM.set o3 H (by rw [OM];omega)
   ·rw [OC (by simpa using(by omega:i< C.length)),QJ (OB _),ht,List.getElem_set_self,OC G,PD];simp [J]
   ·rw [List.drop_set_of_lt (by omega),β]
   ·rw [OG,O8,O6]at H;exact Kp.trans (Kp.trans k2 (Kp.ab x3 λ _=>False) λ _ _ h=>h.elim) (H▸Kr.set w3 i _) λb _ e=>by rw [e];rfl
  ·have J:q l[j]=true:=by simpa using J
   refine⟨by omega,⟨i,j+1,C,rfl,by omega,by omega,by omega,hC,ho.kp (Kp.ab x3 λ _=>False) (λ _ _ h=>h),?_,β,Kp.trans k2 (Kp.ab x3 λ _=>False) λ _ _ h=>h.elim⟩,tN (by omega)⟩;rw [ht,OC G,PD];simp [J]
 ·have G:=oE ι hj;subst G;rw [O4]at ht;obtain⟨_,_,_,υ,_⟩:=pc ho (j:=i) (by omega);have ο:i< cap:=by omega
  have κ:(if cap=(i:Int).toNat then(some ⟨g,0,none⟩:Option Addr)else Option.map (λx:Addr=>x.add ((i:Int).toNat* 1)) (some ⟨g,0,none⟩))=some ⟨g,i,none⟩:=by
   rw [OP (by omega),P8,add_plain,OG,O8,O6]
  have μ:(if cap=(0:Int).toNat then(some ⟨g,0,none⟩:Option Addr)else Option.map (λx:Addr=>x.add ((0:Int).toNat* 1)) (some ⟨g,0,none⟩))=some ⟨g,0,none⟩:=by
   rw [OP (by have:(0:Int).toNat=0:=rfl;omega),P8,add_plain];rfl
  refine⟨_,_,cap,rfl,by omega,by omega,by omega,_,_,_,rfl,.inr ⟨g,i,κ,λt ht=>?_,λν γ=>⟨_,_,cap,rfl,by omega,by omega,by omega,?_⟩⟩⟩
  ·have :=pc ho (j:=i+t) (by omega);exact⟨⟨_,this.1⟩,this.2.1⟩
  rw [μ];obtain⟨C2,δ,φ,ξ⟩:=uN (Int.toNat (l.length:Int) - Int.toNat (i:Int)) i C w2 ho (by omega);obtain⟨ε,_⟩:=bg (b:=g) (List.replicate (Int.toNat (l.length:Int) - Int.toNat (i:Int)) (iv 0)) w2 i;rw [show(iv 0:Value)= .int .i64 0 from rfl,<-γ]at ε δ;have :=GN δ (n:=i) (by omega);rw [ξ,ht]at this;exact hR _ ν (Kp.trans k2 ε λb _ e=>by rw [e];rfl) this λ _ h=>h
def Dv:∀{K:List U},(∀t∈K,t.th=true/\Uq t/\t.Nr)->(tl K).bvs=K.flatMap BV
 | [],_=>rfl
 | t::K,h=>by
  obtain⟨G,H,J⟩:=h t (Pb ..);have e:=rf _ (OB _) H J;rw [eR H J,gD G,j5 G,Pv]at e;rw [show t::K=[t]++K from rfl,eU,Lv.cz,Dv (K:=K) λx Z=>h x (OJ _ Z),e,Pt];simp
section
variable {t:P} {u:U}
def yf (u:U)(i:Nat)(p:U)(d:Nat):List Nat×Lv:=(no u.frL d++(td p).1,(tl (wo u.ths i i)).app (td p).2)
def GX (su:SU t u)(wF:∀q∈u.ths,q.th=true/\Uq q/\q.Nr){i d:Nat}{p:U}(uq:Uq p)(nr:p.Nr)(f:Nat->Nat):Lv.tidy ((yf u i p d).1.map f) ((yf u i p d).2.map f)=td ((lj u i p d).map f):=by
 have H:∀q∈wo u.ths i i,q.th=true/\Uq q/\q.Nr:=λq G=>wF q (ct G)
 have Z:=pI H;have J:∀z∈(wo u.ths i i++[p]).map (λq=>(Lv.cu f (td q),q.map f)),Pc z.1 z.2:=λz J=>by
  obtain⟨q,G,rfl⟩:=Pf.1 J;rcases OH.1 G with G | G
  ·exact Pc.map f (H q G).2.1 (H q G).2.2
  ·cases OL.1 G;exact Pc.map f uq nr
 have h:=xA ((no u.frL d).map f) (K:=[]) (λ _ h=>by cases h) J;have jm:∀l:List (List Nat×Lv),joinL (l.map (Lv.cu f))=Lv.cu f (joinL l):=λl=>by
  induction l with
  | nil=>rfl
  | cons x l ih=>
   simp only [O3,joinL,ih,Lv.cu,Pm];rw [Lv.e9]
 have e2:((wo u.ths i i++[p]).map (λq=>(Lv.cu f (td q),q.map f))).map (λz=>z.1)=((wo u.ths i i++[p]).map td).map (Lv.cu f):=by
  rw [PZ,PZ];rfl
 have e3:((wo u.ths i i++[p]).map (λq=>(Lv.cu f (td q),q.map f))).map (λz=>z.2)=(wo u.ths i i++[p]).map (T.map f):=by
  rw [PZ];rfl
 rw [e2,e3,jm,Pm,mQ,Z,O3,Qf,jO]at h;have e4:(lj u i p d).map f=resL ((no u.frL d).map f) (parL ([]++(wo u.ths i i++[p]).map (T.map f))):=by
  unfold lj;rw [p8,qf,Pv]
 rw [e4,<-h];unfold yf;simp only [Lv.cu,Pm,Pv];rfl
def KZ {x:Nat}:∀{K:List U},(∀t∈K,t.th=true/\Uq t/\t.Nr)->(tl K).fh x->∃q∈K,q.Fr x
 | [],_,h=>by cases h
 | t::K,h,G=>by
  obtain⟨H,J,Z⟩:=h t (Pb ..);rw [show t::K=[t]++K from rfl,eU,rK]at G;rcases G with G | G
  ·have e:=eR J Z;rw [gD H,j5 H]at e;exact⟨t,Pb ..,bj (By _ t (OB _) J x (by rw [e];exact G) (by rw [e];simp))⟩
  ·obtain⟨q,hq,hf⟩:=KZ (λy hy=>h y (OJ _ hy)) G;exact⟨q,OJ _ hq,hf⟩
def qb (su:SU t u){i:Nat}(hi:i< u.ths.length){c d:Nat}{p:U}(ho:Off.snd c d p∈offs u.ths[i])(hd:d∈u.frL):Uq (lj u i p d)/\d∉BV (lj u i p d)/\(∀z∈BV (lj u i p d),26<=z/\z<=NN u)/\(∀z,(lj u i p d).Fr z->z=d\/z< 26)/\d<=NN u/\BV (lj u i p d)=no u.frL d++(wo u.ths i i++[p]).flatMap BV:=by
 obtain⟨c1,c2⟩:=su.J4 hi (p:=p) (ck _ ho);have hN:=su.bound;have hm:=Oz hi;obtain⟨sU,_⟩:=aC (su.smp _ hm) _ ho;have G:BV (lj u i p d)=no u.frL d++(wo u.ths i i++[p]).flatMap BV:=by unfold lj;rw [cQ,cP]
 have H:d∉BV (lj u i p d):=λh=>by
  rw [G]at h;rcases OH.1 h with h | h
  ·exact(fJ.1 h).2 rfl
  ·exact(Pg.1 su.nd).2.2 d hd d (c2 d h) rfl
 have hB:∀z∈BV (lj u i p d),26<=z/\z<=NN u:=λz hz=>by
  rw [G]at hz;rcases OH.1 hz with h | h
  ·exact⟨su.ge z (O9 _ (fJ.1 h).1),hN z (.inl (fJ.1 h).1)⟩
  ·exact⟨su.ge z (O0 _ (c2 z h)),hN z (.inr (.inl (c2 z h)))⟩
 have hF:∀z,(lj u i p d).Fr z->z=d\/z< 26:=λz hz=>by
  obtain⟨h1,h2⟩:=cy.1 hz;obtain⟨q,J,Z⟩:=eK.1 h2;have hu:∃q∈u.ths,q.Fr z:=by
   rcases OH.1 J with J | J
   ·exact⟨q,ct J,Z⟩
   ·cases OL.1 J;exact⟨_,hm,sU.fr z (.inr (.inr Z))⟩
  rcases su.free z hu with h | h
  ·by_cases e:z=d
   ·exact .inl e
   ·exact absurd (fJ.2 ⟨h,e⟩) h1
  ·exact .inr h.1
 refine⟨⟨by rw [G];exact((rm _ _).append (Pz _)).nodup c1,λx hx hf=>?_⟩,H,hB,hF,hN d (.inl hd),G⟩;have :=hB x hx;rcases hF x hf with rfl | h
 ·exact H hx
 ·omega
def EO (su:SU t u)(wF:∀q∈u.ths,q.th=true/\Uq q/\q.Nr){i d:Nat}{p:U}(uq:Uq p)(nr:p.Nr):((yf u i p d).1++(yf u i p d).2.bvs).Perm (no u.frL d++(wo u.ths i i++[p]).flatMap BV):=by
 have G:∀q∈wo u.ths i i,q.th=true/\Uq q/\q.Nr:=λq H=>wF q (ct H)
 have e:=rf _ (OB _) uq nr;unfold yf;rw [Lv.cz,Dv G,Pt,PE,List.flatMap_nil,O5,<-e,Pe];refine List.Perm.append_left _ ?_;rw [<-Pe,<-Pe];exact List.Perm.append_right _ QB
def Ki (su:SU t u)(wF:∀q∈u.ths,q.th=true/\Uq q/\q.Nr){i:Nat}(hi:i< u.ths.length){c d:Nat}{p:U}(ho:Off.snd c d p∈offs u.ths[i])(hd:d∈u.frL)(uq:Uq p)(nr:p.Nr):vi (yf u i p d).1 (yf u i p d).2:=by
 have hK:∀q∈wo u.ths i i,q.th=true/\Uq q/\q.Nr:=λq G=>wF q (ct G)
 obtain⟨v1,v2,v3,v4,v5,v6⟩:=qb su hi ho hd;have pm:=EO su wF (i:=i) (d:=d) uq nr;rw [<-v6]at pm;have nd:((yf u i p d).1++(yf u i p d).2.bvs).Nodup:=pm.nodup_iff.2 v1.nd;refine⟨nd,λx hx H=>?_,λx hx=>(v3 x (pm.mem_iff.1 hx)).1⟩;have J:x∉(yf u i p d).1:=λh=>(Pg.1 nd).2.2 x h x hx rfl
 have hV:=pm.mem_iff.1 (O0 _ hx);have α:x∉no u.frL d:=λh=>J (O9 _ h)
 have Z:(∃q∈wo u.ths i i++[p],q.Fr x)->False:=fun⟨q,G,H⟩=>v1.nf x hV (by unfold lj;exact cy.2 ⟨α,eK.2 ⟨q,G,H⟩⟩)
 rcases(rK x _ _).1 H with h | h
 ·obtain⟨q,G,H⟩:=KZ hK h;exact Z ⟨q,O9 _ G,H⟩
 ·exact Z ⟨p,O0 _ (OL.2 rfl),bj (By _ p (OB _) uq x h λh=>J (O0 _ h))⟩
def BH (su:SU t u){i:Nat}(hi:i< u.ths.length){c d:Nat}{p:U}(ho:Off.snd c d p∈offs u.ths[i])(hd:d∈u.frL){N n:Nat}{f:Nat->Nat}(H:wk N (lj u i p d) d n f)(hn:n< 26)(hN:∀z∈BV (lj u i p d),z<=N)(Z:d<=N)(G:26<=N):Nu ((lj u i p d).map f)/\cL ((lj u i p d).map f)=cL (Fb u i p d n):=by
 obtain⟨v1,v2,v3,v4,v5,v6⟩:=qb su hi ho hd;have J:=uw u;have nu:∀{N:Nat} {f:Nat->Nat},wk N (lj u i p d) d n f->d<=N->26<=N->Nu ((lj u i p d).map f):=λ{N f} H hN J=>by
  have α:∀z,(lj u i p d).Fr z->z<=N:=λz hz=>by rcases v4 z hz with rfl | h<;>omega
  refine⟨H.uq v1 α (by omega),λy hy=>?_,λx hx=>?_⟩
  ·rcases H.fr v1 y (bj hy)with rfl | ⟨h1,h2⟩
   ·exact hn
   ·exact(v4 y h2).resolve_left h1
  ·rw [dy]at hx;obtain⟨y,hy,rfl⟩:=Pf.1 hx;have :=H.fb y hy;omega
 have ae:∀{N:Nat} {f:Nat->Nat},wk N (lj u i p d) d n f->(∀z∈BV (lj u i p d),z<=N)->d<=N->26<=N->AE (aI σ0 d (σ0 n)) (lj u i p d) σ0 ((lj u i p d).map f):=λ{N f} H hB hN J=>by
  have α:∀z,(lj u i p d).Fr z->z<=N:=λz hz=>by rcases v4 z hz with rfl | h<;>omega
  exact H.ae v1 v2 α (by omega) hB σ0
 have hg:=fI (NN u) n v2;exact⟨nu H Z G,uW (nu H Z G) (nu hg v5 J) ((ae H hN Z G).symm.trans (ae hg (λz hz=>(v3 z hz).2) v5 J))⟩
def zM {X:Type}{P:Nat->Bool}:∀(l:List X) (k:Nat),(∀n,k<=n->P n=false)->iH P l k=l
 | [],k,_=>gV ..
 | y::l,k,h=>by
  rw [bN,h k (OB _),zM l (k+1) λn G=>h n (by omega)];rfl
def ym {X:Type}:∀(l:List X) (k i:Nat),iH (λn=>n==k+i||n==k+i) l k=l.eraseIdx i
 | [],k,i=>by rw [gV];simp
 | y::l,k,0=>by
  rw [bN,zM l (k+1) λn G=>by simp;omega];simp
 | y::l,k,i+1=>by
  have h:=ym l (k+1) i;rw [show k+1+i=k+(i+1) by omega]at h;rw [bN,h];simp
def Io {X:Type}(l:List X)(i:Nat):wo l i i=l.eraseIdx i:=by
 have :=ym l 0 i;rw [O6]at this;rw [tf,this]
end
section
variable {t:P} {u:U}
def KK (su:SU t u)(α:u.size<=60){i d:Nat}{p:U}(hp:p.size<=60)(uq:Uq p)(nr:p.Nr):(yf u i p d).2.sh true=true/\(yf u i p d).1.length+(yf u i p d).2.tot<=1000/\((yf u i p d).1++(yf u i p d).2.bvs).length<=1000:=by
 have wF:=su.th;have hK:∀q∈wo u.ths i i,q.th=true/\Uq q/\q.Nr:=λq J=>wF q (ct J)
 have j1:=pI hK;have β:=c8 p;have H:=c8 u;have e:=eR su.nu.uq su.nr;rw [e]at H;simp only at H;have h0:(no u.frL d).length<=u.frL.length:=(rm _ _).length_le;have γ:(tl (wo u.ths i i)).tot<=(tl u.ths).tot:=by
  have h1:=G7 (λq J=>(wF q J).1) (λn=>n==i||n==i) (l:=u.ths);rw [tf,<-h1,iD];have h2:=vI (p7 (λn=>n==i||n==i) (tl u.ths).bw 0);have h3:=iD (tl u.ths).bw;rw [lG]at h3;omega
 have G:(tl (wo u.ths i i)).sh true=true:=by
  have :=uE (l:=(wo u.ths i i).map td) λx hx=>by
   obtain⟨q,_,rfl⟩:=Pf.1 hx;exact vn q
  rw [j1]at this;exact this
 have δ:((wo u.ths i i).flatMap BV).length<=(u.ths.flatMap BV).length:=by
  rw [tf];have:∀{l m:List U},l.Sublist m->(l.flatMap BV).length<=(m.flatMap BV).length:=λh=>by
   induction h with
   | slnil=>exact OB _
   | cons a _ ih=>rw [PE,Oy];omega
   | cons_cons a _ ih=>rw [PE,PE,Oy,Oy];omega
  exact this (p7 _ _ _)
 have ε:(u.ths.flatMap BV).length<=60:=by
  have G:=su.nr.shape;have Z:BV u=u.frL++u.ths.flatMap BV:=by
   have:BV u=BV (resL u.frL (parL u.ths)):=by rw [<-G]
   rw [this,cQ,cP]
  have :=fk u;rw [Z,Oy]at this;omega
 have ζ:(td p).2.bvs.length<=60* 4+60:=by
  have h2:=PA List.length (rf _ (OB _) uq nr);have :=fk p;rw [Oy]at h2;omega
 unfold yf;refine⟨Lv.gJ G (vn p),?_,?_⟩
 ·rw [Lv.bQ,Oy];omega
 ·rw [Lv.cz,Dv hK];simp only [Oy];omega
def Ko {D:Nat->Prop}{w:World}{q:U}{x:Value}(Z:q.th=true)(h:ah D w (tl [q]) [x]):∃g,x=ptr g:=by
 cases q<;>first
  | (cases Z;done)
  | (obtain⟨t,G,a',b',vr,H,⟨g,J,_⟩,_⟩:=h;obtain⟨rfl,_⟩:=Pw H;exact⟨g,J⟩)
  | (obtain⟨t,G,a',b',vp,us,H,⟨g,J,_⟩,_⟩:=h;obtain⟨rfl,_⟩:=Pw H;exact⟨g,J⟩)
def Ld {D:Nat->Prop}{w:World}:∀{l:List U} {ts:List Value},ts.length=l.length->(∀j (h:j< l.length) (J:j< ts.length),ah D w (tl [l[j]]) [ts[j]])->ah D w (tl l) ts
 | [],[],_,_=>rfl
 | q::l,x::ts,h,k=>by
  rw [show q::l=[q]++l from rfl,eU];exact ah.app (ts:=[x]) (k 0 (by simp) (by simp)) (Ld (by simpa using h) λj G H=>k (j+1) (by simpa using G) (by simpa using H))
def D4:∀{ts:List Value},(∀x∈ts,∃g,x=ptr g)->∃gs:List Nat,ts=gs.map ptr
 | [],_=>⟨[],rfl⟩
 | x::ts,h=>by
  obtain⟨g,rfl⟩:=h x (Pb ..);obtain⟨gs,rfl⟩:=D4 λy G=>h y (OJ _ G)
  exact⟨g::gs,rfl⟩
end
section
variable {t:P} {u:U} {b s n0 c:Nat} {w w1:World} {E:List Ev} {M D:Nat->Prop}
def L9 (hu:u=(num t e0 0).1)(hn0:n0=(num t e0 0).2)(ok:fS t)(su:SU t u)(hsz:u.size<=60)(h:nO b s n0 c w w1 E M){bl:Nat}(hcl:w1.cell? ⟨b,2,none⟩=some (ptr bl))(hl:az D w1 (td u) (ptr bl))(hD:∀g,D g->g≠b/\g< w.heap.size){i d e:Nat}{p:U}(hi:i< u.ths.length)(ho:Off.snd e d p∈offs u.ths[i])(hd:d∈u.frL)(he:e< 26)
  {Z:Nat} {vr:Value} {sq:Bool} (c40:∀j,j< 5->w1.cell? ⟨Z,j,none⟩=(bR 33 e d vr sq)[j]?) (hb40:Z< w1.heap.size) (hMb:¬M Z) (hbb:Z≠b) (hvr:az D w1 (td p) vr) {n3:UInt8} (hn3:lt n3=true) (hacc:E.length<=1000000) (hc:n0+c<=4294900000) {K:Sb}
  (hK:∀w3 M',nO b s n0 (c+1000) w w3 (E++[([ρ0 e,33,35,n3],cL (Fb u i p d (e0 n3)))]) M'->Kp w1 w3 (λg=>g=b\/M g)->(∀g,M' g->M g\/w1.heap.size<=g)->K w3):
  bT (ptr b) λb91 o92=>dP w1 b91 (o92+2) λv93=>bT v93 λb94 o95=>dP w1 b94 (o95+1) λv96=>lg 149 #[v96] w1 λv97 w98=>bG ((i:Int)+1)/\lg 148 #[v97,Value.int IntKind.i64 i,Value.int IntKind.i64 ((i:Int)+1)] w98 λv99 ξ=>oneV v99=true/\
   db ξ (Obj.cells #[Value.slice none 0 0,v99] 129) λα β=>bT (ptr b) λb103 o104=>dP β b103 (o104+2) λv105=>bT v105 λb106 o107=>dP β b106 (o107+0) λv108=>lg 151 #[v108] β λv109 w110=>lg 150 #[v109,Value.func (Fn.func 152) #[] #[Value.pointer (some ⟨Z,0,none⟩)]] w110 λv111 w112=>oneV v111=true/\
   nj w112 α 0 v111 λχ=>dP χ Z 3 λv115=>fC 153 #[Value.pointer (some ⟨α,0,none⟩),v115] χ λG=>jf G λS117 θ=>bT (ptr b) λb119 o120=>uX S117 Z 2 λn121=>db θ (Obj.map #[] 0) λι ζ=>S117 ζ/\∃(r124:Nat) (m125:Value->Option Value),Value.map (some ι)=Value.map (some r124)/\IsMap ζ r124 (TypeDesc.int IntKind.i64) m125/\
   ∀γ:World,IsMap γ r124 (TypeDesc.int IntKind.i64) (gF m125 (Value.int IntKind.i64 n121) (Value.int IntKind.i64 ((n3 - 97:UInt8).toNat:Int)))->dO ζ γ r124->lg 154 #[Value.pointer (some ⟨b119,o120+0,none⟩),Value.pointer (some ⟨α,0,none⟩),Value.map (some ι)] γ λv127 ο=>S117 ο/\qu 117 #[v127] ο λs129 q130 H=>S117 H/\Gd H Z 1 λn132=>KF 123 #[Value.int IntKind.i64 n132] H λκ w134=>
   List.length κ+[(33:UInt8),35].length<=4611686018427387904/\((0:Int)<=n3.toNat/\(n3.toNat:Int)< 128)/\(κ++[33,35]).length+[UInt8.ofNat ((n3.toNat:Int)).toNat].length<=4611686018427387904/\fC 122 #[ptr s,Value.string (ak (κ++[33,35]++[UInt8.ofNat ((n3.toNat:Int)).toNat])),Value.string (ak s129),Value.bool q130] w134 K:=by
 have hb:=h.hb;have s0:=h.km.size;have hDM:∀g,D g->¬M g:=λg J hM=>by have :=(hD g J).2;have :=(h.rs.mr g hM).1;omega
 obtain⟨bl',vo,vt,ts,e1,k2,k3,k4,k5,k6,k7,k8,k9⟩:=qe su hl;cases e1;have wF:=su.th;obtain⟨sU,_⟩:=aC (su.smp _ (Oz hi)) _ ho;have uqp:Uq p:=(su.gH hi sU (ck _ ho)).snd;have nrp:p.Nr:=sU.nr (su.nrs _ (Oz hi));have hps:p.size<=60:=by have h1:=sU.size;have h2:=bY u _ (Oz hi);simp only [Off.tm,T.size]at h1;omega
 have hfl:u.frL.length<=240:=by
  have h1:=c8 u;rw [eR su.nu.uq su.nr]at h1;simp only at h1;omega
 have htl:=pU u;obtain⟨gs,hgs⟩:∃gs:List Nat,ts=gs.map ptr:=D4 λx hx=>by
  obtain⟨j,hj,rfl⟩:=List.getElem_of_mem hx;exact Ko (wF _ (Oz (by omega))).1 (k9 j (by omega) hj)
 have hgl:gs.length=u.ths.length:=by rw [<-k8,hgs,OM]
 have hbl1:b< w1.heap.size:=by omega
 refine⟨b,0,rfl,ptr bl,hcl,bl,0,rfl,vt,k5,?_⟩;refine HX k7 (by rw [hgs];simp [PL,oneV,ptr]) (by omega) λv97 w98 x98 o97=>⟨by omega,?_⟩
 rw [hgs]at o97;refine M6 o97 (by omega) (by omega) λv99 ξ kk100 o99 hv99=>⟨o99.qh,λα β φ δ=>?_⟩
 have b97:=o97.block;have x100:Ex w1 ξ:=Ex.below x98 (Kp.below kk100 x98.size λg J e=>by have :=(b97 g e).1;omega);have x102':Ex ξ β:=δ▸Ex.alloc ξ _;have ς:=Ex.trans x100 x102';have s102:β.heap.size=ξ.heap.size+1:=by rw [δ,size_alloc]
 have s100:=x100.size;refine⟨b,0,rfl,ptr bl,by rw [ς.cell (a:=⟨b,0+2,none⟩) hbl1];exact hcl,bl,0,rfl,vo,by rw [ς.cell (a:=⟨bl,0+0,none⟩) k3];exact k4,?_⟩;refine tK (k6.ex ς) (by omega) λv109 w110 x110 o109=>?_
 have b109:=o109.block;refine Mf (q:=λx=>decide (x=d)) o109 (by omega) (by kernel_rfl) (λx wa ka R hR=>?_) λv111 w112 k112 o111 hv111=>⟨o111.qh,?_⟩
 ·refine G1 (y:=d) (x:=x) ?_ ?_
  ·have hx:=Ex.trans ς x110;rw [Ow (w:=w110) (ka.block Z (by have :=hx.size;omega) λe=>by have :=(b109 Z e).1;omega),hx.cell (a:=⟨Z,2,none⟩) hb40];exact c40 2 (by omega)
  ·have :=hR wa (Ex.refl _);rw [show decide ((x:Int)=(d:Int))=decide (x=d)from QI.2 (by omega)];exact this
 have x112:Ex β w112:=Ex.below x110 (Kp.below k112 x110.size λg J e=>by have :=(b109 g e).1;omega);have b99:=o99.block;have bd102:ke w1.heap.size β α [] ((gs.eraseIdx i).map ptr) λg=>g=α\/v99.ownBlock=some g:=by
  refine⟨by omega,by omega,.inl rfl,λg J=>?_,λj=>?_,.slice none 0 0,v99,?_,?_,aM.nil _ _ _,o99.kp (Kp.ab x102' λ _=>False) (λ _ _ h=>h),λg J=>(by cases J),λg J=>⟨.inr J,?_⟩,λg J=>(by cases J)⟩
  ·rcases J with rfl | J
   ·omega
   ·have :=b99 g J;omega
  ·rw [δ,φ];exact aU _ _ _ _
  ·rw [δ,φ];exact aa rfl
  ·rw [δ,φ];exact aa rfl
  ·have :=b99 g J;omega
 have c101:β.cell? ⟨α,0,none⟩=some (.slice none 0 0):=by rw [δ,φ];exact aa rfl
 refine⟨⟨⟨_,by rw [x112.cell (a:=⟨α,0,none⟩) (show α< _ by omega)];exact c101⟩,by rw [Qr x112 (show α< _ by omega)];exact bd102.fr 0⟩,λχ hw114=>?_⟩;obtain⟨μ,k114⟩:=bd102.Nb c101 (Kp.ab x112 _) (o111.mono (by omega)) (λg J=> .inr (b109 g (hv111 g J)).1) hw114;have υ:Ex w1 χ:=Ex.below ς (Kp.below k114 ς.size λg J hM=>by have :=(bd102.mr g hM).1;omega);have s114:=υ.size;refine⟨vr,by rw [υ.cell (a:=⟨Z,3,none⟩) hb40];exact c40 3 (by omega),?_⟩;have hDw1:∀g,D g->g< w1.heap.size:=λg J=>by have :=(hD g J).2;omega
 obtain⟨ts2,hl2,ht2⟩:=az.ths (az.ex hvr υ);have hts2:=ht2.len;have hts2':=bS (td p).2;have htp:=c8 p;have hno:(no u.frL d).length<=u.frL.length:=(rm _ _).length_le;have hfe:(u.frL.filter λx=> !decide (x=d))=no u.frL d:=by unfold no;congr 1;funext x;simp
 rw [hfe]at μ;refine qd μ υ.size hl2 ht2.all (λg J hM=>by have :=(μ.mr g hM).1;have :=hDw1 g J;omega) ⟨by omega,by rw [OM,Rc];split<;>omega⟩ λG M3 k116 bd116 hM3=>?_
 have k0116:Kp χ G λg=>w1.heap.size<=g:=Kp.mono (λg J=>(μ.mr g J).1) k116
 have x116:Ex w1 G:=Ex.below υ (Kp.below k0116 υ.size λg J hM=>by omega);have s116:=x116.size;have thK:ah D G (tl (wo u.ths i i)) ((gs.eraseIdx i).map ptr):=by
  rw [Io];refine Ld (by rw [OM,Rc,Rc,hgl]) λj hj hj'=>?_
  have hj2:j< (gs.eraseIdx i).length:=by simpa using hj'
  have e1:∀m (hm:m< u.ths.length),ah D G (tl [u.ths[m]]) [ptr (gs[m]'(by omega))]:=λm hm=>by
   have h1:=k9 m hm (by omega);have h2:ts[m]'(by omega)=ptr (gs[m]'(by omega)):=by simp only [hgs,QF]
   rw [h2]at h1;exact ah.ex h1 x116
  rw [QF];simp only [List.getElem_eraseIdx];rw [Rc,O' hi]at hj;split
  ·exact e1 j (by omega)
  ·exact e1 (j+1) (by omega)
 have thp:ah D G (td p).2 ts2:=ah.kp k116 (λg J hM=>by have :=(μ.mr g hM).1;have :=hDw1 g J;omega) ht2;have lv116:gC (λg=>g≠b/\g< G.heap.size) G (ptr α) (yf u i p d).1 (ah (λg=>g≠b/\g< G.heap.size) G (yf u i p d).2):=
  bd116.Nc (λg J hB=>⟨by omega,J⟩) (ah.app (ah.sub (λg J hd=>⟨(hD g hd).1,J⟩) thK) (ah.sub (λg J hd=>⟨(hD g hd).1,J⟩) thp))
 obtain⟨hsh,htot,hbvs⟩:=KK su hsz (i:=i) (d:=d) hps uqp nrp;have huq:=Ki su wF hi ho hd uqp nrp;have pmv:=EO su wF (i:=i) (d:=d) uqp nrp;obtain⟨v1,v2,v3,v4,v5,v6⟩:=qb su hi ho hd;rw [<-v6]at pmv;have ot:=GX su wF (i:=i) (d:=d) uqp nrp;generalize yf u i p d=L0 at*;have l40:Z< G.heap.size:=by omega
 have c116:∀j,j< 5->G.cell? ⟨Z,j,none⟩=(bR 33 e d vr sq)[j]?:=λj hj=>by rw [x116.cell (a:=⟨Z,j,none⟩) hb40];exact c40 j hj
 refine⟨λw'=>Kp G w' (λg=>g=b\/G.heap.size<=g),λθ hw118=>?_⟩;have ψ:Ex G θ:=hw118▸Ex.drew G;have s118:θ.heap.size=G.heap.size:=by rw [hw118];rfl
 have nb40:¬(Z=b\/G.heap.size<=Z):=λe=>by rcases e with e | e<;>omega
 refine⟨Kp.ab ψ _,b,0,rfl,(d:Int),λw' k=>by rw [Ow (w:=G) (k.block Z l40 nb40)];exact c116 2 (by omega),λι ζ hb122 hw123=>?_⟩;have x123:Ex θ ζ:=hw123▸Ex.alloc θ _;have s123:ζ.heap.size=θ.heap.size+1:=by rw [hw123,size_alloc]
 have hm123:IsMap ζ ι (.int .i64) (eM []):=⟨#[],0,by rw [hw123,hb122];unfold World.alloc;simp,⟨by simp,by simp,by simp⟩,by simp,λq=>rfl⟩
 refine⟨Kp.ab (Ex.trans ψ x123) _,ι,_,rfl,hm123,λγ hm126 ν=>?_⟩;have k126:Kp ζ γ (λg=>g=ι):=⟨ν.os,ν.tape,ν.output,by rw [ν.size];exact OB _,λg _ J=>ν.block g J⟩
 have s126:=k126.size;have kp126:Kp G γ (λg=>g=b\/G.heap.size<=g):=Kp.trans (Kp.ab (Ex.trans ψ x123) _) k126 λg _ e=> .inr (by omega)
 have x16126:Ex G γ:=Ex.below (Ex.trans ψ x123) (Kp.below k126 (Ex.trans ψ x123).size λg J e=>by omega);have x126:Ex w1 γ:=Ex.trans x116 x16126;have mf126:jM γ ι (aI id d (n3 - 97:UInt8).toNat):=pC (F:=id) (λz=> .inr ⟨rfl,rfl⟩) hm126;rw [show(n3 - 97:UInt8).toNat=e0 n3 from gM hn3]at mf126;have f2:e0 n3< 26:=by have :=a7 hn3;unfold e0;omega
 obtain⟨n,mn,hn1,hn2⟩:=h.mc;refine AQ _ (OB _) hsh (gC.ex lv116 x16126) (λg J e=>?_) huq (mn.ex x126) mf126 (by omega) (by rw [Oy]at hbvs;omega) (by omega) λv127 ο F' n' ω mk128 mf128 ε l128=>?_
 ·rcases e with e | e
  ·exact J.1 e
  ·have :=J.2;omega
 have s128:=ω.size;have kp128:Kp G ο (λg=>g=b\/G.heap.size<=g):=Kp.trans kp126 (Kp.mono (λg e=>e) ω.kp) λg J e=>e.elim .inl λe=> .inr (by omega)
 have km128:Km b w1 ο:=⟨Kp.trans (Kp.ab x126 _) ω.kp λg J e=>e.elim id λe=>by omega,λj hj=>by rw [ω.ce j hj,x126.cell (a:=⟨b,j,none⟩) hbl1],λj=>by rw [ω.fz j,Qr x126 hbl1]⟩
 refine⟨kp128,?_⟩;have hrl:=ε.len;have hrle:=ε.le;have hF:wk (n+100) (lj u i p d) d (e0 n3) F':=by
  refine⟨?_,λz h1 h2=>?_,λz hz=>(ε.rng z (pmv.mem_iff.2 hz)).1,λz hz y hy e=>ε.inj z (pmv.mem_iff.2 hz) y (pmv.mem_iff.2 hy) e⟩
  ·rw [ε.out d λh=>v2 (pmv.mem_iff.1 h)];simp [aI]
  ·rw [ε.out z λh=>h2 (pmv.mem_iff.1 h)];simp [aI,h1]
 have hbo:∀z,(z∈u.frL\/z∈u.ths.flatMap BV\/∃q∈u.ths,q.Fr z)->z<=n+100:=λz hz=>by
  subst hu;have :=fS.bound ok su z hz;omega
 obtain⟨c1,c2⟩:=su.J4 hi (p:=p) (ck _ ho);obtain⟨nu,hsame⟩:=BH su hi ho hd hF f2 (λz hz=>by
  rw [v6]at hz;rcases OH.1 hz with h | h
  ·exact hbo z (.inl (fJ.1 h).1)
  ·exact hbo z (.inr (.inl (c2 z h)))) (hbo d (.inl hd)) (by omega)
 have fin:∀(sx:aD) (q:Bool) (H:World),Ex ο H->sx=(cL (Fb u i p d (e0 n3))).getD []->q=(cL (Fb u i p d (e0 n3))).isSome->Kp G H (λg=>g=b\/G.heap.size<=g)/\Gd H Z 1 λn132=>KF 123 #[Value.int IntKind.i64 n132] H λκ w134=>
   List.length κ+[(33:UInt8),35].length<=4611686018427387904/\((0:Int)<=n3.toNat/\(n3.toNat:Int)< 128)/\(κ++[33,35]).length+[UInt8.ofNat ((n3.toNat:Int)).toNat].length<=4611686018427387904/\fC 122 #[ptr s,Value.string (ak (κ++[33,35]++[UInt8.ofNat ((n3.toNat:Int)).toNat])),Value.string (ak sx),Value.bool q] w134 K:=λsx q H η e1 e2=>by
  have kp131:Kp G H (λg=>g=b\/G.heap.size<=g):=Kp.trans kp128 (Kp.ab η λ _=>False) λ _ _ h=>h.elim
  have hlt:=a7 hn3;refine⟨kp131,e,by rw [Ow (w:=G) (kp131.block Z l40 nb40)];exact c116 1 (by omega),pD he ⟨by simp,⟨by omega,by omega⟩,by simp,?_⟩⟩;have hS:nO b s n0 (c+1000) w H E M:=by
   have km:=Km.trans h.km km128;exact⟨km.out (Kp.ab η λ _=>False) (λ _ _ h=>h) hb,(h.rs.kp km128.kp λg hM e=>h.nb (e▸hM)).FK η,⟨n',mk128.ex η,by omega,by omega⟩,hb⟩
  have elb:[ρ0 e]++[33,35]++[UInt8.ofNat ((n3.toNat:Int)).toNat]=[ρ0 e,33,35,n3]:=by
   rw [OG,UInt8.ofNat_toNat];rfl
  rw [elb,e1,e2];have k131:Kp w1 H (λg=>g=b\/M g):=Kp.trans (Kp.mono (λ _ e=> .inl e) km128.kp) (Kp.ab η λ _=>False) λ _ _ h=>h.elim
  refine hS.add hacc ([ρ0 e,33,35,n3],cL (Fb u i p d (e0 n3))) λw3 M' r3 k3 hM'=>hK w3 M' r3 (Kp.trans k131 k3 λ _ _ h=> .inr h) λg J=>(hM' g J).imp id λh=>by have :=k131.size;omega
 refine rW (l:=L0.2.map F') (o:=L0.1.map F') l128 (by rw [iB];exact hsh) (by rw [OM,gT];omega) (by rw [ot];exact uS nu.uq nu.bv) (by rw [ot];exact HK nu) λH η=>?_
 rw [ot];have hNF:Cr (td ((lj u i p d).map F'))=cL (Fb u i p d (e0 n3)):=hsame;rw [hNF];exact⟨λsx hs=>fin sx true H η (by rw [hs];rfl) (by rw [hs];rfl),λhn=>fin [] false H η (by rw [hn];rfl) (by rw [hn];rfl)⟩
end
def xO {t:P}{u:U}(hu:u=(num t e0 0).1){n0:Nat}(hn0:n0=(num t e0 0).2)(ok:fS t)(su:SU t u)(hsz:u.size<=60){b s c:Nat}{w w1:World}{M D:Nat->Prop}(h:nO b s n0 c w w1 [] M){bl:Nat}(hcl0:w.cell? ⟨b,2,none⟩=some (ptr bl))(hl0:az D w (td u) (ptr bl))(hD:∀g,D g->g≠b/\g< w.heap.size)
  {nm:UInt8} (hnm:lt nm=true) (hc:n0+c<=4000000000) {R:Sb} (hR:∀w3 M',nO b s n0 (c+1000* (nv (bf u nm) u).length) w w3 (nv (bf u nm) u) M'->Rel b w1 M w3 M'->R w3):
  Sc 82 #[ptr b,ptr s,.int .u8 nm.toNat,.bool true] w1 (aw [] R):=by
 have hb:=h.hb;obtain⟨bl',vo,vt,ts,e1,k2,k3,k4,k5,k6,k7,k8,k9⟩:=qe su hl0;cases e1;obtain⟨at_,capt,hvt⟩:=k7.slice;have μ:∀{w':World},Km b w w'->w'.cell? ⟨b,2,none⟩=some (ptr bl):=λk=>(k.ce 2 (by omega)).trans hcl0
 have cbl:∀{w':World},Km b w w'->∀{j:Nat} {x:Value},w.cell? ⟨bl,j,none⟩=some x->w'.cell? ⟨bl,j,none⟩=some x:=λk j x hx=>by rw [Ow (w:=w) (k.kp.block bl k3 (hD bl k2).1)];exact hx
 have hlw:∀{w':World},Km b w w'->az D w' (td u) (ptr bl):=λk=>az.kp hl0 k.kp λg hg=>(hD g hg).1
 have how:∀{w':World},Km b w w'->dt D w' vo (u.frL.map iv):=λk=>k6.kp k.kp λg hg=>(hD g hg).1
 have tcell:∀{w':World},Km b w w'->∀i (hi:i< ts.length),∃bt ot β,vt= .slice (some ⟨bt,ot,none⟩) ts.length β/\w'.cell? ⟨bt,ot+i,none⟩=some ts[i]:=λk i hi=>by
  rcases k7 with⟨_,h0⟩ | ⟨bt,ot,β,e,hbD,hb',H⟩
  ·rw [h0]at hi;simp at hi
  ·exact⟨bt,ot,β,e,by rw [Ow (w:=w) (k.kp.block bt hb' (hD bt hbD).1)];exact H i _ (Ox hi)⟩
 have tth:∀{w':World},Km b w w'->∀i (h:i< u.ths.length) (h':i< ts.length),ah D w' (tl [u.ths[i]]) [ts[i]]:=λk i h h'=>ah.kp k.kp (λg hg=>(hD g hg).1) (k9 i h h')
 have hthl:=pU u;have hfl:u.frL.length<=240:=by
  have h1:=c8 u;rw [eR su.nu.uq su.nr]at h1;simp only at h1;omega
 have hol:∀i (h:i< u.ths.length),(offs u.ths[i]).length<=60:=λi h=>by
  have h1:=fX u.ths[i];have h2:=bY u _ (Oz h);omega
 have hlE:∀i,i<=u.ths.length->((List.range i).flatMap (kQ (bf u nm) u)).length<=3600:=λi hi=>by
  have h1:=gA (f:=kQ (bf u nm) u) (c:=60) (l:=List.range i) λx hx=>by
   have hx:=PH.1 hx;have h2:=fO (gu u nm x) (offs (u.ths.getD x .nil));rw [aR (by omega)]at h2;have :=hol x (by omega);unfold kQ;rw [aR (by omega)];omega
  rw [Ql]at h1;have :=Rl (show i<=60 by omega) (OB 60);omega
 refine kU (ptr b) (ptr s) nm true w1 R ?_;refine⟨b,0,rfl,ptr bl,μ h.km,bl,0,rfl,vt,cbl h.km k5,at_,_,capt,hvt,λx w'=>∃(i:Nat) (M':Nat->Prop),x=i/\i<=u.ths.length/\nO b s n0 (c+1000* ((List.range i).flatMap (kQ (bf u nm) u)).length) w w' ((List.range i).flatMap (kQ (bf u nm) u)) M'/\Rel b w1 M w' M',λx _=>(ts.length - x).toNat,⟨0,M,rfl,Pn _,by simpa using h,Rel.refl _ _ _⟩,λx φ hI=>?_⟩;obtain⟨i,η,rfl,hi,θ,r17⟩:=hI;refine⟨λhlt=>?_,λhge=>?_⟩;rotate_left
 ·have hil:i=u.ths.length:=by simp only [OF]at hge;omega
  rw [hil]at θ;exact hR φ η θ r17
 have hi':i< ts.length:=by simp only [OK]at hlt;omega
 have ι:i< u.ths.length:=by omega
 have ε:=Oz ι;obtain⟨bt,ot,β,hvt',hct⟩:=tcell θ.km i hi';have ν:=su.th _ ε;have hacc1:=hlE i (by omega);have ek:(List.range (i+1)).flatMap (kQ (bf u nm) u)=(List.range i).flatMap (kQ (bf u nm) u)++kQ (bf u nm) u i:=by rw [Qw,Pt];simp
 have eE0:kQ (bf u nm) u i=(offs u.ths[i]).flatMap (bf u nm i):=by unfold kQ;rw [aR ι]
 refine⟨bt,ot,_,β,hvt',by omega,by omega,ts[i],by rw [OG,O8];exact hct,?_⟩;have s17:=θ.km.size;refine pE ν.1 ν.2.1 ν.2.2 (su.smp _ ε) (by have :=bY u _ ε;omega) (λg hg=>by have :=(hD g hg).2;omega) (tth θ.km i ι hi') λv23 w24 xs x24 o23 m23=>?_
 have h24:=θ.ex x24;have r24:Rel b φ η w24 η:=(Rel.refl b φ η).ex x24;obtain⟨a26,cap26,ξ⟩:∃a cap,v23= .slice a (offs u.ths[i]).length cap:=by
  rcases o23.cell with⟨h1,h2,_⟩ | ⟨g,cap,h1,_⟩
  ·exact⟨none,0,by rw [h1,h2]⟩
  ·exact⟨_,cap,h1⟩
 have hm1:=@tN ts.length i (by omega);have hol1:=hol i ι;generalize hA:(List.range i).flatMap (kQ (bf u nm) u)=A at*;refine⟨a26,_,cap26,ξ,λx w'=>∃(j:Nat) (M':Nat->Prop),x=j/\j<=(offs u.ths[i]).length/\nO b s n0 (c+1000* (A++((offs u.ths[i]).take j).flatMap (bf u nm i)).length) w w' (A++((offs u.ths[i]).take j).flatMap (bf u nm i)) M'/\Rel b w24 η w' M',λx _=>((offs u.ths[i]).length - x).toNat,⟨0,η,rfl,Pn _,by simpa using h24,Rel.refl _ _ _⟩,λx w31 hI=>?_⟩;obtain⟨j,δ,rfl,hj,ο,χ⟩:=hI;refine⟨λhlt2=>?_,λhge2=>?_⟩;rotate_left
 ·have hjl:j=(offs u.ths[i]).length:=by simp only [OF]at hge2;omega
  rw [hjl,O4,<-eE0,<-ek]at ο;exact⟨by omega,⟨i+1,δ,by omega,by omega,ο,(r17.ex x24).trans χ⟩,hm1⟩
 have ψ:j< (offs u.ths[i]).length:=by simp only [OK]at hlt2;omega
 have hm2:=@tN (offs u.ths[i]).length j ψ;have hmU:=Oz ψ;have hDM:∀{E:List Ev} {c:Nat} {w':World} {M':Nat->Prop},nO b s n0 c w w' E M'->∀g,D g->¬(g=b\/M' g):=λh' g hg e=>e.elim (hD g hg).1 λhM=>by have :=(hD g hg).2;have :=(h'.rs.mr g hM).1;omega
 have o31:cB φ.heap.size w31 v23 (offs u.ths[i]).length xs:=o23.kp χ.1 λg hg e=>by
  have h1:=(o23.block g hg).1;rcases e with e | e
  ·omega
  ·have :=(θ.rs.mr g e).2;omega
 have m31:OffsM D w31 (offs u.ths[i]) xs:=m23.kp χ.1 (hDM h24);obtain⟨g,capg,cs,hvg,Z,H⟩:=tJ o31 m31 ψ;obtain⟨kk,a1,a2,vr,sq,rfl,hone⟩:=Z.any;have etk:((offs u.ths[i]).take (j+1)).flatMap (bf u nm i)=((offs u.ths[i]).take j).flatMap (bf u nm i)++bf u nm i (offs u.ths[i])[j]:=by rw [OC ψ,Pt];simp
 have hacc2:(A++((offs u.ths[i]).take j).flatMap (bf u nm i)).length<=4000:=by
  have h1:=fO (gu u nm i) ((offs u.ths[i]).take j);rw [Pd]at h1;rw [Oy];omega
 rw [ξ]at hvg;refine⟨g,0,_,capg,ξ.trans hvg,by omega,by omega,kk,a1,a2,vr,sq,⟨H 0 _ rfl _ (by omega) (by omega),H 1 _ rfl _ (by omega) (by omega),H 2 _ rfl _ (by omega) (by omega),H 3 _ rfl _ (by omega) (by omega),H 4 _ rfl _ (by omega) (by omega),trivial⟩,λς w42 hb41 hw42=>?_⟩;obtain⟨box1,nt⟩:=zD (cs:=bR kk a1 a2 vr sq) rfl hb41 hw42;refine⟨⟨rfl,pH hone,box1⟩,λγ hw43=>?_⟩;obtain⟨x43,l43,ζ⟩:=nt γ hw43;have G:=ο.ex x43;have r43:=χ.ex x43;have s31:=ο.km.size;have nM43:¬δ ς:=λhM=>by have :=(ο.rs.mr ς hM).2;omega
 have υ:ς≠b:=by omega
 generalize hA2:A++((offs u.ths[i]).take j).flatMap (bf u nm i)=A2 at*;have J:∀{w':World} {M':Nat->Prop},nO b s n0 (c+1000* (A2++bf u nm i (offs u.ths[i])[j]).length) w w' (A2++bf u nm i (offs u.ths[i])[j]) M'->Rel b γ δ w' M'->bG ((j:Int)+1)/\(∃(j':Nat) (M':Nat->Prop),(j:Int)+1=j'/\j'<=(offs u.ths[i]).length/\nO b s n0 (c+1000* (A++((offs u.ths[i]).take j').flatMap (bf u nm i)).length) w w' (A++((offs u.ths[i]).take j').flatMap (bf u nm i)) M'/\Rel b w24 η w' M')/\(((offs u.ths[i]).length:Int) - ((j:Int)+1)).toNat< (((offs u.ths[i]).length:Int) - j).toNat:=λ{w' M'} h r=>by
  refine⟨by omega,⟨j+1,M',by omega,by omega,?_,r43.trans r⟩,hm2⟩;rw [etk,<-Pe,hA2];exact h
 have hcs43:kv D γ (offs u.ths[i])[j] (bR kk a1 a2 vr sq):=Z.ex x43;generalize (offs u.ths[i])[j]=oU at*;cases oU
 ·obtain⟨_,_,_,_,Z,_⟩:=Z;unfold bR at Z;simp only [Po,PF,Qz,Qe]at Z;have e1:kk=126:=OU.1 (by omega);subst e1;exact⟨126,ζ 0 (by omega),(λh=>by cases h),λ _=>J (M':=δ) (by rw [show bf u nm i (.tau _)=[]from rfl,O5];exact G) (Rel.refl _ _ _)⟩
 rotate_left
 ·obtain⟨_,Z,_⟩:=Z;unfold bR at Z;simp only [Po,PF,Qz,Qe]at Z;have e1:kk=63:=OU.1 (by omega);subst e1;exact⟨63,ζ 0 (by omega),(λh=>by cases h),λ _=>J (M':=δ) (by rw [show bf u nm i (.rcv _ _ _ _)=[]from rfl,O5];exact G) (Rel.refl _ _ _)⟩
 rename_i x y p;obtain⟨vr',sq',Z,hvr⟩:=hcs43;unfold bR at Z;simp only [Po,PF,RM,Qz,Qe]at Z;have e1:kk=33:=OU.1 (by omega);have e2:a1=x:=by omega
 have e3:a2=y:=by omega
 have e4:vr=vr':=Z.2.2.2.1;subst e1 e2 e3 e4;obtain⟨sU,_⟩:=aC (su.smp _ ε) _ hmU;have oc:=su.own ⟨_,ε,sU.fr a1 (.inl rfl)⟩;have od:=su.own ⟨_,ε,sU.fr a2 (.inr (.inl rfl))⟩;have eE:bf u nm i (.snd a1 a2 p)=if a1∈u.frL then []else if a2∈u.frL then [([ρ0 a1,33,35,nm],if lt nm=true then cL (Fb u i p a2 (e0 nm))else none)]else [([ρ0 a1,33,ρ0 a2],cL (Ax u i p))]:=rfl
 refine⟨33,ζ 0 (by omega),λ _=>⟨(a1:Int),ζ 1 (by omega),zX (μ G.km) (cbl G.km k4) (how G.km) (by omega) ⟨λhin=>?_,λα=>⟨(a2:Int),ζ 2 (by omega),zX (μ G.km) (cbl G.km k4) (how G.km) (by omega) ⟨λω=>?_,λhy2=>⟨λh=>(by cases h),λ _=>?_⟩⟩⟩⟩⟩,(λh=>by cases h)⟩
 ·have hin:a1∈u.frL:=by simpa using hin
  exact J (M':=δ) (by rw [eE,O' hin,O5];exact G) (Rel.refl _ _ _)
 ·have α:a1∉u.frL:=by simpa using α
  have ω:a2∉u.frL:=by simpa using ω
  obtain⟨_,h26⟩:=oc.2 α;obtain⟨_,h26'⟩:=od.2 ω;rw [eE,OP α,OP ω]at J;refine⟨λtx q w'=>Ex γ w'/\tx=(cL (Ax u i p)).getD []/\q=(cL (Ax u i p)).isSome,LD ok su hsz G (μ G.km) (hlw G.km) hD ι hmU (ζ 3 (by omega)) l43 hvr λw3 tx q x3 e1 e2=>⟨x3,e1,e2⟩,λtx q w77 hJ=>?_⟩;obtain⟨x77,rfl,rfl⟩:=hJ;refine⟨λw'=>Kp γ w' (λg=>g=b\/δ g),λw79 hw79=>?_⟩;have κ:Ex γ w79:=Ex.trans x77 (hw79▸Ex.drew w77);have kx:∀{w':World},Ex γ w'->Kp γ w' (λg=>g=b\/δ g):=λx=>Kp.ab x _
  have cst:∀{w':World},Kp γ w' (λg=>g=b\/δ g)->∀j,j< 5->w'.cell? ⟨ς,j,none⟩=(bR 33 a1 a2 vr sq)[j]?:=λk j hj=>by
   rw [Ow (w:=γ) (k.block ς l43 λe=>e.elim υ nM43)];exact ζ j hj
  refine⟨kx κ,(a1:Int),λw' k=>cst k 1 (by omega),(a2:Int),λw' k=>cst k 2 (by omega),pD h26 ⟨kx κ,by simp,pD h26' ⟨kx κ,by simp,?_⟩⟩⟩;have h79:=G.ex κ;refine h79.add (by omega) ([ρ0 a1,33,ρ0 a2],cL (Ax u i p)) λw3 M' r3 k3 hM'=>?_
  have k43:Kp γ w3 (λg=>g=b\/δ g):=Kp.trans (kx κ) k3 λ _ _ h=> .inr h
  exact⟨k43,J (r3.mono (by rw [Oy];omega)) ⟨k43,λg hg=>(hM' g hg).imp id λh=>by have :=κ.size;omega⟩⟩
 ·have α:a1∉u.frL:=by simpa using α
  have hy2:a2∈u.frL:=by simpa using hy2
  obtain⟨_,h26⟩:=oc.2 α;rw [eE,OP α,O' hy2,O' hnm]at J;exact L9 hu hn0 ok su hsz G (μ G.km) (hlw G.km) hD ι hmU hy2 h26 ζ l43 nM43 υ hvr hnm (by omega) (by omega) λw3 M' r3 k3 hM'=>J (r3.mono (by rw [Oy];simp only [PM];omega)) ⟨k3,hM'⟩
section
variable {t:P} {u:U} {b s n0 c:Nat} {w w1:World} {E:List Ev} {M D:Nat->Prop}
def LZ (hu:u=(num t e0 0).1)(hn0:n0=(num t e0 0).2)(su:SU t u)(ok:fS t)(hsz:u.size<=60)(h:nO b s n0 c w w1 E M){bl:Nat}(hcl:w1.cell? ⟨b,2,none⟩=some (ptr bl))(hl:az D w1 (td u) (ptr bl))(hD:∀g,D g->g≠b/\g< w.heap.size){i e x:Nat}{q:U}{sq:Bool}(hi:i< u.ths.length)(hr:Off.rcv e x q sq∈offs u.ths[i])
  {b2 b3 b4:Nat} {vq gone:Value} (c2:w1.cell? ⟨b2,0,none⟩=some (ptr b)) (l2:b2< w1.heap.size) (n2:b2≠b) (c3:w1.cell? ⟨b3,0,none⟩=some gone) (l3:b3< w1.heap.size) (n3:b3≠b) (c4:∀j,j< 5->w1.cell? ⟨b4,j,none⟩=(bR 63 e x vq sq)[j]?) (l4:b4< w1.heap.size) (n4:b4≠b) (hvq:az D w1 (td q) vq)
  (η:dt (λg=>g< w1.heap.size/\g≠b) w1 gone ((if sq then []else [i]).map iv)) {nm:Nat} (θ:nm< 26) (hc:n0+c<=4294900000) {R:aD->Bool->Sb}
  (hR:∀tx qq Z,nO b s n0 (c+1000) w Z E M->Kp w1 Z (λg=>g=b)->tx=(cL (Az u i q x sq nm)).getD []->qq=(cL (Az u i q x sq nm)).isSome->R tx qq Z):
  Sc 191 #[iv nm,.pointer (some ⟨b2,0,none⟩),.pointer (some ⟨b3,0,none⟩),.pointer (some ⟨b4,0,none⟩)] w1 (aw [.s,.b] R):=by
 refine jZ (nm:Int) _ _ _ w1 R ?_;dsimp only [go_sem];have hb:=h.hb;have s0:=h.km.size;obtain⟨bl',vo,vt,ts,e1,k2,k3,k4,k5,k6,k7,k8,k9⟩:=qe su hl;cases e1;obtain⟨rU,_⟩:=aC (su.smp _ (Oz hi)) _ hr;have cU:=ck _ hr;have ι:=su.gH hi rU cU;have κ:Uq q:=ι.rcv;have ς:q.Nr:=rU.nr (su.nrs _ (Oz hi));have hqs:q.size<=60:=by have h1:=rU.size;have h2:=bY u _ (Oz hi);simp only [Off.tm,T.size]at h1;omega
 have htq:=c8 q;have ε:=rf _ (OB _) κ ς;have hbvl:=fk q;have hql:(td q).1.length+(td q).2.bvs.length=(BV q).length:=by rw [<-ε,Oy]
 have υ:∀z∈BV q,26<=z:=λz hz=>su.ge z (O0 _ (Pk.2 ⟨_,Oz hi,cU.subset (OJ _ hz)⟩))
 have φ:b< w1.heap.size:=by omega
 have st:∀{w':World},Kp w1 w' (λg=>g=b)->∀{g:Nat},g< w1.heap.size->g≠b->∀j,w'.cell? ⟨g,j,none⟩=w1.cell? ⟨g,j,none⟩:=λk g h1 h2 j=>Ow (w:=w1) (k.block g h1 h2)
 refine⟨λw'=>Kp w1 w' (λg=>g=b)/\w'.cell? ⟨b,2,none⟩=some (ptr bl),λw6 hw6=>?_⟩;have x6:Ex w1 w6:=hw6▸Ex.drew w1;have S6:Kp w1 w6 (λg=>g=b)/\w6.cell? ⟨b,2,none⟩=some (ptr bl):=⟨Kp.ab x6 _,by rw [x6.cell (a:=⟨b,2,none⟩) φ];exact hcl⟩
 refine⟨S6,b2,0,rfl,ptr b,λw' k=>by rw [st k.1 l2 n2];exact c2,b3,0,rfl,gone,λw' k=>by rw [st k.1 l3 n3];exact c3,b2,0,rfl,ptr b,λw' k=>by rw [st k.1 l2 n2];exact c2,b,0,rfl,ptr bl,λw' k=>k.2,bl,0,rfl,vo,λw' k=>by rw [st k.1 k3 (hD _ k2).1];exact k4,b2,0,rfl,ptr b,λw' k=>by rw [st k.1 l2 n2];exact c2,b4,0,rfl,63,e,x,vq,sq,λw' k=>?_,?_⟩
 ·have hc:∀j,j< 5->w'.cell? ⟨b4,j,none⟩=(bR 63 e x vq sq)[j]?:=λj hj=>by rw [st k.1 l4 n4];exact c4 j hj
  exact⟨hc 0 (by omega),hc 1 (by omega),hc 2 (by omega),hc 3 (by omega),hc 4 (by omega),trivial⟩
 have h6:=h.ex x6;obtain⟨n,mn,hn1,hn2⟩:=h6.mc;refine IF mn (az.ex hvq x6) (λg J=>(hD g J).1) (vn q) (uS κ υ) (by omega) (by omega) λχ μ F' n' β ψ H ω=>?_
 have ν:Kp w1 μ (λg=>g=b):=Kp.trans (Kp.ab x6 _) β.kp λ _ _ h=>h
 have c33:μ.cell? ⟨b,2,none⟩=some (ptr bl):=by rw [β.ce 2 (by omega)];exact S6.2
 refine⟨⟨ν,c33⟩,ω.one,λb34 G hb34 ζ=>?_⟩;have δ:Ex μ G:=ζ▸Ex.alloc _ _;have s33:=ν.size;have α:Kp w1 G (λg=>g=b):=Kp.trans ν (Kp.ab δ λ _=>False) λ _ _ h=>h.elim
 have ξ:G.cell? ⟨b,2,none⟩=some (ptr bl):=by rw [δ.cell (a:=⟨b,2,none⟩) (show b< _ by omega)];exact c33
 refine⟨⟨α,ξ⟩,?_⟩;have rl:=H.len;have rle:=H.le;rw [Oy]at rl;have hF:wk (n+100) q x nm F':=by
  rw [ε]at H;refine⟨?_,λz h1 h2=>?_,λz hz=>(H.rng z hz).1,λz hz y hy e=>H.inj z hz y hy e⟩
  ·rw [H.out x ι.du];simp [aI]
  ·rw [H.out z h2];simp [aI,h1]
 have hNn:∀z,(z∈u.frL\/z∈u.ths.flatMap BV\/∃q∈u.ths,q.Fr z)->z<=n+100:=λz hz=>by
  subst hu;have :=fS.bound ok su z hz;omega
 have h26:=uw u;obtain⟨ο,_⟩:=Ew su hi hr hF θ (by omega) hNn;have J:=fI (NN u) nm ι.du;obtain⟨nu2,_⟩:=Ew su hi hr J θ (by omega) su.bound;have γ:cL (resL u.frL (parL (kN u.ths i (q.map F') sq u.ths[i])))=cL (Az u i q x sq nm):=by
  unfold Az;rw [aR hi];exact uW ο nu2 (EJ su hi hr hF J (by omega) (by omega) hNn su.bound (.inl rfl) θ σ0 σ0 (λ _ _=>rfl) rfl)
 have hlS:az (λg=>g< G.heap.size) G (td u) (ptr bl):=az.sub (az.kp hl α λg J=>(hD g J).1) λg J _=>J
 have hvoS:dt (λg=>g< G.heap.size) G vo (u.frL.map iv):=(k6.kp α λg J=>(hD g J).1).sub λg J _=>J
 have hv32:az (λg=>g< G.heap.size) G (Lv.cu F' (td q)) χ:=az.sub (az.ex ω δ) λg J _=>J
 have hgS:dt (λg=>g< G.heap.size) G gone ((if sq then []else [i]).map iv):=(η.kp α λg J=>J.2).sub λg J _=>J
 have hlen:(joinL ([(Lv.cu F' (td q),q.map F')].map (·.1):List (List Nat×Lv))).1.length+(joinL ([(Lv.cu F' (td q),q.map F')].map (·.1):List (List Nat×Lv))).2.tot<=1000000:=by
  simp only [O3,Qf,joinL,Oy,OM,ON,Lv.bQ,gT,Lv.tot];omega
 have fin:∀tx qq Z,Ex G Z->tx=(cL (Az u i q x sq nm)).getD []->qq=(cL (Az u i q x sq nm)).isSome->(Kp w1 Z (λg=>g=b)/\Z.cell? ⟨b,2,none⟩=some (ptr bl))/\R tx qq Z:=λtx qq Z x3 e1 e2=>by
  have k3':Kp w1 Z (λg=>g=b):=Kp.trans α (Kp.ab x3 λ _=>False) λ _ _ h=>h.elim
  have s35:=α.size;have xx:=Ex.trans δ x3;refine⟨⟨k3',by rw [x3.cell (a:=⟨b,2,none⟩) (show b< _ by omega)];exact ξ⟩,hR tx qq Z ?_ k3' e1 e2⟩;have km:=Km.trans h6.km β;exact⟨km.out (Kp.ab xx λ _=>False) (λ _ _ h=>h) hb,(h6.rs.kp β.kp λg hM e=>h.nb (e▸hM)).FK xx,⟨n',ψ.ex xx,by omega,by omega⟩,hb⟩
 have aft:∀{P:Nat->Bool} {gl:List Nat},dt (λg=>g< G.heap.size) G gone (gl.map iv)->gl.length<=2->(∀j,P j=decide (j∈gl))->Nu (resL u.frL (parL (iH P u.ths 0++[q.map F'])))->cL (resL u.frL (parL (iH P u.ths 0++[q.map F'])))=cL (Az u i q x sq nm)->
   Sc 114 #[ptr b,gone,vo,(Value.slice (some ⟨b34,0,none⟩) 1 1)] G (aw [.s,.b] fun(tx:aD) (qq:Bool) (Z:World)=>(Kp w1 Z (λg=>g=b)/\Z.cell? ⟨b,2,none⟩=some (ptr bl))/\R tx qq Z):=by
  intro P gl J hgl hP hv hn;refine pB su (by omega) (vv:=Az u i q x sq nm) (zs:=[(Lv.cu F' (td q),q.map F')]) (gl:=gl) (P:=P) (mvs:=[χ]) ξ (by have :=α.size;omega) hlS J (by omega) hvoS (JA hb34 ζ) (aO.cons hv32 aO.Jk) (by simp) (λz hz=>by cases OL.1 hz;exact Pc.map F' κ ς) hlen hP hv hn λZ x3=>⟨λtx ht=>fin tx true Z x3 (by rw [ht];rfl) (by rw [ht];rfl),λhn=>fin [] false Z x3 (by rw [hn];rfl) (by rw [hn];rfl)⟩
 cases sq
 ·have e1:iH (λn=>n==i||n==i) u.ths 0++[q.map F']=kN u.ths i (q.map F') false u.ths[i]:=by
   unfold kN;rw [tf];simp
  exact aft (P:=λn=>n==i||n==i) (gl:=[i]) hgS (by simp) (λj=>by simp [iV]) (by rw [e1];exact ο) (by rw [e1];exact γ)
 ·have e1:iH (λ _=>false) u.ths 0++[q.map F']=u.ths++[q.map F']:=by rw [zM u.ths 0 λ _ _=>rfl]
  have hp:(u.ths++[q.map F']).Perm (kN u.ths i (q.map F') true u.ths[i]):=by
   have h1:=oy u.ths i hi;unfold kN;rw [O' rfl];refine(h1.append_right [q.map F']).trans ?_;rw [PC];exact(List.perm_append_singleton _ _).symm
  exact aft (P:=λ _=>false) (gl:=[]) hgS (by simp) (λj=>by simp) (by rw [e1];exact D5 hp.symm ο) (by rw [e1];exact(BY hp).trans γ)
end
abbrev tQ:Nat:=149
def Hr (p:Nat×Value):List Value:=[iv p.1,p.2]
def fD (B:Nat)(w:World)(v:Value)(l:List (Nat×Value)):Prop:=w.ownsRow B tQ 2 v l.length (l.flatMap Hr)
section
variable {B:Nat} {w w':World} {v:Value} {l:List (Nat×Value)}
def DW:∀{l:List (Nat×Value)} {i:Nat} {p:Nat×Value},l[i]?=some p->(l.flatMap Hr)[i* 2]?=some (iv p.1)/\(l.flatMap Hr)[i* 2+1]?=some p.2
 | q::l,0,p,h=>by cases h;exact⟨rfl,rfl⟩
 | q::l,i+1,p,h=>by
  have :=DW (l:=l) (i:=i) (p:=p) (by simpa using h);have e:(i+1)* 2=i* 2+2:=by omega
  rw [e];exact this
def fD.block (h:fD B w v l):∀b,v.ownBlock=some b->B<=b/\b< w.heap.size:=QX h
def fD.kp {S:Nat->Prop}(h:fD B w v l)(k:Kp w w' S)(H:∀g,v.ownBlock=some g->¬S g):fD B w' v l:=by
 refine⟨h.1,?_⟩;rcases h.2 with J | ⟨g,cap,cur,rfl,hb,G,rest⟩
 ·exact .inl J
 ·exact .inr ⟨g,cap,cur,rfl,hb,by rw [k.block g (Ph.1 G).1 (H g rfl)];exact G,rest⟩
def fD.ex (h:fD B w v l)(x:Ex w w'):fD B w' v l:=h.kp (Kp.ab x λ _=>False) λ _ _ h=>h
def fD.zero {b:Nat}(hB:B<=w.heap.size)(hb:b=w.heap.size)(h:w'=w.alloc (.cells #[] tQ)):fD B w' (.slice (some ⟨b,0,none⟩) 0 0) []:=by
 subst hb h;refine⟨rfl,.inr ⟨_,0,#[],rfl,hB,?_,by simp,by unfold maxLen;omega,rfl,rfl⟩⟩;unfold World.alloc;simp
def fD.slice (h:fD B w v l):∃a cap,v= .slice a l.length cap:=by
 rcases h.2 with⟨rfl,G⟩ | ⟨g,cap,cur,rfl,_⟩
 ·exact⟨none,0,by rw [G]⟩
 ·exact⟨_,cap,rfl⟩
def fD.get (h:fD B w v l){i:Nat}(hi:i< l.length):∃g cap,v= .slice (some ⟨g,0,none⟩) l.length cap/\g< w.heap.size/\w.cell? ⟨g,i* 2,none⟩=some (iv l[i].1)/\w.cell? ⟨g,i* 2+1,none⟩=some l[i].2:=by
 have J:=h.1;rcases h.2 with⟨hv,hn⟩ | ⟨g,cap,cur,rfl,hb,H,h1,h2,h3,h4⟩
 ·omega
 ·obtain⟨Z,k2⟩:=DW (Ox hi);have key:∀{j:Nat} {x:Value},(l.flatMap Hr)[j]?=some x->w.cell? ⟨g,j,none⟩=some x:=λ{j x} G=>by
   have hj:j< (l.flatMap Hr).length:=(Px.1 G).1;unfold World.cell?;simp only [H];rw [<-h4,PS (by rw [<-J];exact hj),PO]at G;exact G
  exact⟨g,cap,rfl,(Ph.1 H).1,key Z,key k2⟩
def fD.push {p:Nat×Value}{b:Nat}(h:fD B w v l)(J:oneV p.2=true)(hB:B<=w.heap.size)(hb:b=w.heap.size)(hw:w'=w.alloc (.cells #[iv p.1,p.2] tQ))(hl:l.length<=1000000000){K:Value->Sb}
  (Z:∀G H,fD B H G (l++[p])->w'.grownBy H v.ownBlock->(∀b,G.ownBlock=some b->v.ownBlock=some b\/w'.heap.size<=b)->K G H):nV tQ 2 16 w' v (.slice (some ⟨b,0,none⟩) 1 1) K:=by
 have x:Ex w w':=hw▸Ex.alloc w _;refine⟨B,l.length,1,l.flatMap Hr,Hr p,h.ex x,Pq hB x.size,⟨rfl,by simp [Hr,J,oneV],.inr ⟨b,0,1,rfl,λj u hu=>?_⟩⟩,⟨by unfold maxLen;omega,by omega⟩,λG H ho hg hn=>Z G H ?_ hg hn⟩
 ·subst hb hw;rw [O6];exact aa (by simpa [Hr]using hu)
 ·unfold fD;rw [Oy,Pt,show [p].flatMap Hr=Hr p by simp];exact ho
end
def ua (D G:Nat->Prop)(b2:Nat)(w:World)(p:Nat×Value)(r:Nat×Off Nat):Prop:=∃e x q H b3 b4 vq gone,r.2= .rcv e x q H/\p=(e,.func (.func 191) #[] #[.pointer (some ⟨b2,0,none⟩),.pointer (some ⟨b3,0,none⟩),.pointer (some ⟨b4,0,none⟩)])/\G b3/\b3< w.heap.size/\G b4/\b4< w.heap.size/\
 w.cell? ⟨b3,0,none⟩=some gone/\(∀j,j< 5->w.cell? ⟨b4,j,none⟩=(bR 63 e x vq H)[j]?)/\az D w (td q) vq/\dt (λg=>G g) w gone ((if H then []else [r.1]).map iv)
def ua.kp {D G G' S:Nat->Prop}{b2:Nat}{w w':World}{p:Nat×Value}{r:Nat×Off Nat}(h:ua D G b2 w p r)(k:Kp w w' S)(hD:∀g,D g->¬S g)(H:∀g,G g->¬S g)(J:∀g,G g->G' g):ua D G' b2 w' p r:=by
 obtain⟨e,x,q,sq,b3,b4,vq,gone,h1,h2,Z,h4,h5,h6,h7,h8,h9,h10⟩:=h;have s:=k.size;refine⟨e,x,q,sq,b3,b4,vq,gone,h1,h2,J _ Z,by omega,J _ h5,by omega,by rw [Ow (w:=w) (k.block b3 h4 (H _ Z))];exact h7,λj hj=>by rw [Ow (w:=w) (k.block b4 h6 (H _ h5))];exact h8 j hj,az.kp h9 k hD,(h10.kp k H).sub λg _ h=>J g h⟩
def qo (u:U)(i:Nat):Off Nat->List (Nat×Off Nat)
 | .rcv a x q s=>if a∈u.frL then []else [(i,.rcv a x q s)]
 | _=>[]
def nY (u:U)(i:Nat):List (Nat×Off Nat):=(offs (u.ths.getD i .nil)).flatMap (qo u i)
def jy (u:U):List (Nat×Off Nat):=(List.range u.ths.length).flatMap (nY u)
def vX (u:U)(i:Nat)(x:Off Nat):(qo u i x).length<=1:=by
 cases x with
 | rcv a x q s=>exact tU (Pn _) (OB _)
 | _=>exact Pn _
def HM {t:P}{u:U}(su:SU t u)(hsz:u.size<=60){b bl:Nat}{w:World}{D:Nat->Prop}(hcl0:w.cell? ⟨b,2,none⟩=some (ptr bl))(hbw:b< w.heap.size)(hl0:az D w (td u) (ptr bl))(hDw:∀g,D g->g< w.heap.size){R:Value->Sb}
  (hR:∀v w' b2 l (G:Nat->Prop),Ex w w'->w.heap.size<=b2->b2< w'.heap.size->w'.cell? ⟨b2,0,none⟩=some (ptr b)->fD w.heap.size w' v l->(∀g,G g->w.heap.size<=g/\g< w'.heap.size)->eg (ua D G b2 w') l (jy u)->R v w'):Sc 121 #[ptr b] w (aw [.v] R):=by
 obtain⟨bl',vo,vt,ts,e1,k2,k3,k4,k5,k6,k7,k8,k9⟩:=qe su hl0;cases e1;obtain⟨at_,capt,hvt⟩:=k7.slice;have hthl:=pU u;have hfl:u.frL.length<=240:=by
  have h1:=c8 u;rw [eR su.nu.uq su.nr]at h1;simp only at h1;omega
 have hol:∀i (h:i< u.ths.length),(offs u.ths[i]).length<=60:=λi h=>by
  have h1:=fX u.ths[i];have h2:=bY u _ (Oz h);omega
 have hlE:∀i,i<=u.ths.length->((List.range i).flatMap (nY u)).length<=3600:=λi hi=>by
  have h1:=gA (f:=nY u) (c:=60) (l:=List.range i) λx hx=>by
   have hx:=PH.1 hx;have h2:=fO (vX u x) (offs (u.ths.getD x .nil));rw [aR (by omega)]at h2;have :=hol x (by omega);unfold nY;rw [aR (by omega)];omega
  rw [Ql]at h1;have :=Rl (show i<=60 by omega) (OB 60);omega
 refine lk (ptr b) w R ⟨rfl,λb2 w3 hb2 hw3 b4 w5 hb4 hw5=>?_⟩;have x3:Ex w w3:=hw3▸Ex.alloc w _;have x5':Ex w3 w5:=hw5▸Ex.alloc w3 _;have x5:=Ex.trans x3 x5';have s3:w3.heap.size=w.heap.size+1:=by rw [hw3,size_alloc]
 have s5:w5.heap.size=w3.heap.size+1:=by rw [hw5,size_alloc]
 have lb2:b2< w5.heap.size:=by omega
 have n24:b2≠b4:=by omega
 have kw:∀{w':World} {o:Value},Gr w5 (.slice (some ⟨b4,0,none⟩) 0 0) w' o->Kp w5 w' (λg=>g=b4):=λg=>Kp.mono (λx e=>(Pr e).symm) g.1
 have xw:∀{w':World} {o:Value},Gr w5 (.slice (some ⟨b4,0,none⟩) 0 0) w' o->Ex w w':=λg=>Ex.below x5 (Kp.below (kw g) x5.size λx hx e=>by omega)
 have cS:∀{w':World} {o:Value},Gr w5 (.slice (some ⟨b4,0,none⟩) 0 0) w' o->w'.cell? ⟨b2,0,none⟩=some (ptr b):=λ{w' o} g=>by
  rw [Ow (w:=w5) ((kw g).block b2 lb2 n24),x5'.cell (a:=⟨b2,0,none⟩) (show b2< _ by omega),hw3,hb2];exact aa rfl
 have cb2:∀{w':World},Ex w w'->w'.cell? ⟨b,2,none⟩=some (ptr bl):=λx=>by rw [x.cell (a:=⟨b,2,none⟩) hbw];exact hcl0
 have cbl:∀{w':World},Ex w w'->∀{j:Nat} {y:Value},w.cell? ⟨bl,j,none⟩=some y->w'.cell? ⟨bl,j,none⟩=some y:=λx j y hy=>by rw [x.cell (a:=⟨bl,j,none⟩) k3];exact hy
 have g0:=Gr.refl w5 (.slice (some ⟨b4,0,none⟩) 0 0);have oz:fD w.heap.size w5 (.slice (some ⟨b4,0,none⟩) 0 0) []:=by
  have h:=fD.zero (B:=w3.heap.size) (OB _) hb4 hw5;exact Q4 h x3.size
 refine⟨ptr b,cS g0,b,0,rfl,ptr bl,cb2 x5,bl,0,rfl,vt,cbl x5 k5,at_,_,capt,hvt,λo x w'=>∃(i:Nat) (l:List (Nat×Value)) (G:Nat->Prop),x=i/\i<=u.ths.length/\Gr w5 (.slice (some ⟨b4,0,none⟩) 0 0) w' o/\fD w.heap.size w' o l/\(∀g,G g->w5.heap.size<=g/\g< w'.heap.size/\o.ownBlock≠some g)/\eg (ua D G b2 w') l ((List.range i).flatMap (nY u)),λ _ x _=>(ts.length - x).toNat,⟨0,[],λ _=>False,rfl,Pn _,g0,oz,λ _ h=>h.elim,.nil⟩,λo18 x w20 hI=>?_⟩;obtain⟨i,l,G,rfl,hi,g20,o20,hG20,t20⟩:=hI;have ξ:=xw g20;have s20':=g20.size;refine⟨λhlt=>?_,λhge=>?_⟩;rotate_left
 ·have hil:i=u.ths.length:=by simp only [OF]at hge;omega
  rw [hil]at t20;exact hR _ _ b2 l G ξ (by omega) (by omega) (cS g20) o20 (λg hg=>by have :=hG20 g hg;omega) t20
 have hi':i< ts.length:=by simp only [OK]at hlt;omega
 have hiu:i< u.ths.length:=by omega
 have hmiu:=Oz hiu;have hthi:=su.th _ hmiu;obtain⟨bt,ot,α,hvt',hct⟩:∃bt ot α,vt= .slice (some ⟨bt,ot,none⟩) ts.length α/\w20.cell? ⟨bt,ot+i,none⟩=some ts[i]:=by
  rcases k7 with⟨_,h0⟩ | ⟨bt,ot,α,e,hbD,hb',J⟩
  ·rw [h0]at hi';simp at hi'
  ·exact⟨bt,ot,α,e,by rw [ξ.cell (a:=⟨bt,ot+i,none⟩) hb'];exact J i _ (Ox hi')⟩
 have ek:(List.range (i+1)).flatMap (nY u)=(List.range i).flatMap (nY u)++nY u i:=by rw [Qw,Pt];simp
 have eE0:nY u i=(offs u.ths[i]).flatMap (qo u i):=by unfold nY;rw [aR hiu]
 have hacc1:=hlE i (by omega);have s20:=ξ.size;refine⟨bt,ot,_,α,hvt',by omega,by omega,ts[i],by rw [OG,O8];exact hct,?_⟩;refine pE hthi.1 hthi.2.1 hthi.2.2 (su.smp _ hmiu) (by have :=bY u _ hmiu;omega) (λg hg=>by have :=hDw g hg;omega) (ah.ex (k9 i hiu hi') ξ) λv26 w27 xs x27 o26 m26=>?_
 obtain⟨a29,cap29,hv26⟩:∃a cap,v26= .slice a (offs u.ths[i]).length cap:=by
  rcases o26.cell with⟨h1,h2,_⟩ | ⟨g,cap,h1,_⟩
  ·exact⟨none,0,by rw [h1,h2]⟩
  ·exact⟨_,cap,h1⟩
 have hm1:=@tN ts.length i (by omega);have hol1:=hol i hiu;have s27:=x27.size;have o20b:=o20.block;generalize hA:(List.range i).flatMap (nY u)=A at*;refine⟨a29,_,cap29,hv26,λo x w'=>∃(j:Nat) (l:List (Nat×Value)) (G:Nat->Prop),x=j/\j<=(offs u.ths[i]).length/\Gr w27 o18 w' o/\fD w.heap.size w' o l/\(∀g,G g->w5.heap.size<=g/\g< w'.heap.size/\o.ownBlock≠some g)/\eg (ua D G b2 w') l (A++((offs u.ths[i]).take j).flatMap (qo u i)),λ _ x _=>((offs u.ths[i]).length - x).toNat,⟨0,l,G,rfl,Pn _,Gr.refl _ _,o20.ex x27,λg hg=>by have :=hG20 g hg;exact⟨this.1,by omega,this.2.2⟩,by simpa using t20.mono λp r h=>h.kp (Kp.ab x27 λ _=>False) (λ _ _ h=>h) (λ _ _ h=>h) λ _ h=>h⟩,λε x χ hI=>?_⟩;obtain⟨j,l2,G2,rfl,hj,g35,o35,ο,t35⟩:=hI;have g35':=(g20.ex x27).trans g35;have x035:=xw g35';have s35:=g35.size;refine⟨λhlt2=>?_,λhge2=>?_⟩;rotate_left
 ·have hjl:j=(offs u.ths[i]).length:=by simp only [OF]at hge2;omega
  rw [hjl,O4,<-eE0,<-ek]at t35;exact⟨by omega,⟨i+1,l2,G2,by omega,by omega,g35',o35,ο,t35⟩,hm1⟩
 have hjU:j< (offs u.ths[i]).length:=by simp only [OK]at hlt2;omega
 have hm2:=@tN (offs u.ths[i]).length j hjU;have hmU:=Oz hjU;have n26:∀g,v26.ownBlock=some g->¬o18.ownBlock=some g:=λg hg e=>by
  have h1:=(o26.block g hg).1;have h2:=(o20b g e).2;omega
 have m35:OffsM D χ (offs u.ths[i]) xs:=m26.kp g35.1 λg hg e=>by have :=hDw g hg;have :=(o20b g e).1;omega
 obtain⟨g,capg,cs,hvg,Z,J⟩:=tJ (o26.kp g35.1 n26) m35 hjU;obtain⟨kk,a1,a2,vr,sq,rfl,hone⟩:=Z.any;have etk:((offs u.ths[i]).take (j+1)).flatMap (qo u i)=((offs u.ths[i]).take j).flatMap (qo u i)++qo u i (offs u.ths[i])[j]:=by rw [OC hjU,Pt];simp
 have hacc2:(A++((offs u.ths[i]).take j).flatMap (qo u i)).length<=4000:=by
  have h1:=fO (vX u i) ((offs u.ths[i]).take j);rw [Pd]at h1;rw [Oy];omega
 rw [hv26]at hvg;refine⟨g,0,_,capg,hv26.trans hvg,by omega,by omega,kk,a1,a2,vr,sq,⟨J 0 _ rfl _ (by omega) (by omega),J 1 _ rfl _ (by omega) (by omega),J 2 _ rfl _ (by omega) (by omega),J 3 _ rfl _ (by omega) (by omega),J 4 _ rfl _ (by omega) (by omega),trivial⟩,λδ w46 hb45 hw46=>?_⟩;obtain⟨box1,nt⟩:=zD (cs:=bR kk a1 a2 vr sq) rfl hb45 hw46;refine⟨⟨rfl,pH hone,box1⟩,λζ hw47=>?_⟩;obtain⟨η,l47,θ⟩:=nt ζ hw47;have s47:=η.size;have ll2:=t35.len;generalize hA2:A++((offs u.ths[i]).take j).flatMap (qo u i)=A2 at*;have ι:∀{o:Value} {w':World} {l':List (Nat×Value)} {G':Nat->Prop},Gr χ ε w' o->fD w.heap.size w' o l'->(∀g,G' g->w5.heap.size<=g/\g< w'.heap.size/\o.ownBlock≠some g)->eg (ua D G' b2 w') l' (A2++qo u i (offs u.ths[i])[j])->bG ((j:Int)+1)/\(∃(j':Nat) (l:List (Nat×Value)) (G:Nat->Prop),(j:Int)+1=j'/\j'<=(offs u.ths[i]).length/\Gr w27 o18 w' o/\fD w.heap.size w' o l/\(∀g,G g->w5.heap.size<=g/\g< w'.heap.size/\o.ownBlock≠some g)/\eg (ua D G b2 w') l (A++((offs u.ths[i]).take j').flatMap (qo u i)))/\(((offs u.ths[i]).length:Int) - ((j:Int)+1)).toNat< (((offs u.ths[i]).length:Int) - j).toNat:=λ{o w' l' G'} h1 h2 h3 h4=>by
  refine⟨by omega,⟨j+1,l',G',by omega,by omega,g35.trans h1,h2,h3,?_⟩,hm2⟩;rw [etk,<-Pe,hA2];exact h4
 have κ:qo u i (offs u.ths[i])[j]=[]->_:=λh=>ι (o:=ε) (w':=ζ) (l':=l2) (G':=G2) ((Gr.refl χ ε).ex η) (o35.ex η) (λg hg=>by have :=ο g hg;exact⟨this.1,by omega,this.2.2⟩) (by rw [h,O5];exact t35.mono λp r h=>h.kp (Kp.ab η λ _=>False) (λ _ _ h=>h) (λ _ _ h=>h) λ _ h=>h)
 have hcs47:kv D ζ (offs u.ths[i])[j] (bR kk a1 a2 vr sq):=Z.ex η;generalize (offs u.ths[i])[j]=oU at*;cases oU
 ·obtain⟨_,_,_,_,Z,_⟩:=Z;unfold bR at Z;simp only [Po,PF,Qz,Qe]at Z;have e1:kk=126:=OU.1 (by omega);subst e1;exact⟨126,θ 0 (by omega),(λh=>by cases h),λ _=>κ rfl⟩
 ·obtain⟨_,_,Z,_⟩:=Z;unfold bR at Z;simp only [Po,PF,Qz,Qe]at Z;have e1:kk=33:=OU.1 (by omega);subst e1;exact⟨33,θ 0 (by omega),(λh=>by cases h),λ _=>κ rfl⟩
 rename_i e x q sq';obtain⟨vr',Z,hvq⟩:=hcs47;unfold bR at Z;simp only [Po,PF,RM,Qz,Qe]at Z;have e1:kk=63:=OU.1 (by omega);have e2:a1=e:=by omega
 have e3:a2=x:=by omega
 have e4:vr=vr':=Z.2.2.2.1;have e5:sq=sq':=Z.2.2.2.2;subst e1 e2 e3 e4 e5;have g47:=g35'.ex η;have x047:=xw g47;have eE:qo u i (.rcv a1 a2 q sq)=if a1∈u.frL then []else [(i,.rcv a1 a2 q sq)]:=rfl
 refine⟨63,θ 0 (by omega),λ _=>⟨ptr b,cS g47,(a1:Int),θ 1 (by omega),zX (cb2 x047) (cbl x047 k4) (k6.ex x047) (by omega) ⟨λhin=>?_,λhout=>?_⟩⟩,(λh=>by cases h)⟩
 ·have hin:a1∈u.frL:=by simpa using hin
  exact κ (by rw [eE,O' hin])
 have hout:a1∉u.frL:=by simpa using hout
 rw [eE,OP hout]at ι;intro β w54 hb53 hw54 H μ hb55 ς;have x54:Ex ζ w54:=hw54▸Ex.alloc _ _;have x56:Ex w54 μ:=ς▸Ex.alloc _ _;have s54:w54.heap.size=ζ.heap.size+1:=by rw [hw54,size_alloc]
 have s56:μ.heap.size=w54.heap.size+1:=by rw [ς,size_alloc]
 have x4756:=Ex.trans x54 x56;have c55:μ.cell? ⟨H,0,none⟩=some (.slice none 0 0):=by rw [ς,hb55];exact aa rfl
 have f55:μ.frozen? ⟨H,0,none⟩=false:=by rw [ς,hb55];exact aU _ _ _ _
 refine⟨rfl,⟨⟨_,c55⟩,f55⟩,λν υ=>?_⟩;have x58:Ex ζ ν:=by
  have k:=Kp.set (i:=0) (Kp.ab x4756 λg=>g=H) rfl (Value.slice (some ⟨β,0,none⟩) 1 1);rw [<-υ]at k;exact⟨k.os,k.tape,k.output,k.size,λg hg=>k.block g hg (by omega)⟩
 have k58:Kr H μ ν:=υ▸Kr.set μ 0 _;have s58:=k58.size;have c558:ν.cell? ⟨H,0,none⟩=some (.slice (some ⟨β,0,none⟩) 1 1):=by rw [υ];exact OQ _ _ _ c55
 have f58:ν.frozen? ⟨H,0,none⟩=false:=by rw [υ,OS];exact f55
 have row:dt (λg=>g=β) ν (.slice (some ⟨β,0,none⟩) 1 1) [iv i]:=by
  refine .inr ⟨β,0,1,rfl,rfl,by omega,λj y hy=>?_⟩;cases j with
  | zero=>
   simp only [PN,PJ]at hy;subst hy;rw [Ow (w:=μ) (k58.block β (by omega) (by omega)),x56.cell (a:=⟨β,0+0,none⟩) (show β< _ by omega),hw54,hb53];exact aa rfl
  | succ j=>simp at hy
 have φ:=o35.block;have fin:∀(γ:World) (gone:Value),Ex ζ γ->H< γ.heap.size->γ.cell? ⟨H,0,none⟩=some gone->dt (λg=>g=β) γ gone ((if sq then []else [i]).map iv)->Gd γ δ 1 λn62=>oneV (Value.func (Fn.func 191) #[] #[Value.pointer (some ⟨b2,0,none⟩),Value.pointer (some ⟨H,0,none⟩),Value.pointer (some ⟨δ,0,none⟩)])=true/\
   db γ (Obj.cells #[Value.int IntKind.i64 n62,Value.func (Fn.func 191) #[] #[Value.pointer (some ⟨b2,0,none⟩),Value.pointer (some ⟨H,0,none⟩),Value.pointer (some ⟨δ,0,none⟩)]] tQ) λb63 ψ=>nV tQ 2 16 ψ ε (Value.slice (some ⟨b63,0,none⟩) 1 1) λv70 ω=>bG ((j:Int)+1)/\(∃(j':Nat) (l:List (Nat×Value)) (G:Nat->Prop),(j:Int)+1=j'/\j'<=(offs u.ths[i]).length/\Gr w27 o18 ω v70/\fD w.heap.size ω v70 l/\(∀g,G g->w5.heap.size<=g/\g< ω.heap.size/\v70.ownBlock≠some g)/\eg (ua D G b2 ω) l (A++((offs u.ths[i]).take j').flatMap (qo u i)))/\(((offs u.ths[i]).length:Int) - ((j:Int)+1)).toNat< (((offs u.ths[i]).length:Int) - j).toNat:=by
  intro γ gone x61 l61 c61 h61;have x3561:=Ex.trans η x61;refine⟨(a1:Int),by rw [x61.cell (a:=⟨δ,1,none⟩) l47];exact θ 1 (by omega),rfl,λb63 ψ hb63 hw64=>?_⟩;have x64:Ex γ ψ:=hw64▸Ex.alloc _ _;have s64:ψ.heap.size=γ.heap.size+1:=by rw [hw64,size_alloc]
  have s61:=x61.size;refine fD.push (p:=(a1,Value.func (Fn.func 191) #[] #[Value.pointer (some ⟨b2,0,none⟩),Value.pointer (some ⟨H,0,none⟩),Value.pointer (some ⟨δ,0,none⟩)])) (o35.ex x3561) rfl (by omega) hb63 hw64 (by omega) λv70 ω o71 hg71 hn71=>?_
  have k71:Kp ψ ω (λg=>ε.ownBlock=some g):=Kp.aP hg71 λ _ h=>h
  have s71:=k71.size;have x3564:=Ex.trans x3561 x64;have hn:∀g,χ.heap.size<=g->g< ψ.heap.size->v70.ownBlock≠some g:=λg h1 h2 e=>(hn71 g e).elim (λe=>by have :=(φ g e).2;omega) λe=>by omega
  have ho:∀g,χ.heap.size<=g->ε.ownBlock≠some g:=λg h1 e=>by have :=(φ g e).2;omega
  refine ι (G':=λg=>G2 g\/g=δ\/g=β\/g=H) (((Gr.refl χ ε).ex x3564).grown hg71 hn71) o71 (λg hg=>?_) ((t35.mono λp r h=>?_).app (.cons ?_ .nil))
  ·rcases hg with hg | rfl | rfl | rfl
   ·have :=ο g hg;exact⟨this.1,by omega,λe=>(hn71 g e).elim this.2.2 λe=>by omega⟩
   ·exact⟨by omega,by omega,hn _ (by omega) (by omega)⟩
   ·exact⟨by omega,by omega,hn _ (by omega) (by omega)⟩
   ·exact⟨by omega,by omega,hn _ (by omega) (by omega)⟩
  ·exact(h.kp (G':=G2) (Kp.ab x3564 λ _=>False) (λ _ _ h=>h) (λ _ _ h=>h) λ _ h=>h).kp k71 (λg hg e=>by have :=hDw g hg;have :=(φ g e).1;omega) (λg hg e=>(ο g hg).2.2 e) λ _ h=> .inl h
  ·refine ua.kp (G:=λg=>g=δ\/g=β\/g=H) ⟨a1,a2,q,sq,H,δ,vr,gone,rfl,rfl,.inr (.inr rfl),by omega,.inl rfl,by omega,by rw [x64.cell (a:=⟨H,0,none⟩) l61];exact c61,λj hj=>by rw [(Ex.trans x61 x64).cell (a:=⟨δ,j,none⟩) l47];exact θ j hj,az.ex hvq (Ex.trans x61 x64),(h61.ex x64).sub λg _ h=> .inr (.inl h)⟩ k71 (λg hg e=>by have :=hDw g hg;have :=(φ g e).1;omega) (λg hg=>ho g (by rcases hg with rfl | rfl | rfl<;>omega)) λ _ h=> .inr h
 refine⟨sq,by rw [x58.cell (a:=⟨δ,4,none⟩) l47];exact θ 4 (by omega),λhs=>⟨rfl,⟨⟨_,c558⟩,f58⟩,λγ hw61=>?_⟩,λhs=>?_⟩
 ·have k:=Kp.set (i:=0) (Kp.ab x58 λg=>g=H) rfl (Value.slice none 0 0);rw [<-hw61]at k;have s61:=k.size;refine fin γ (.slice none 0 0) ⟨k.os,k.tape,k.output,k.size,λg hg=>k.block g hg (by omega)⟩ (by have :=(Kr.set ν 0 (Value.slice none 0 0) (r:=H)).size;rw [<-hw61]at this;omega) (by rw [hw61];exact OQ _ _ _ c558) (by rw [hs];exact .inl ⟨rfl,rfl⟩)
 ·exact fin ν _ x58 (by omega) c558 (by rw [hs];exact row)
end
attribute [go_sem] Tryz.f63
def wG (s1:aD)(w:World)(R:Bool->Sb)(h:vc aB (a6 [] [] []) (ai Tryz.f63) (aj 0 [.s s1]) w (fin aB [.tmp 2 .b] R)):
  Sc 63 #[(.string (ak s1))] w (aw [.b] R):=
 bn Tryz.func63 (by kernel_rfl) h
attribute [go_sem] Tryz.f42
def sM (s1:aD)(w:World)(R:Bool->Sb)(h:vc aB (a6 [] [] []) (ai Tryz.f42) (aj 0 [.s s1]) w (fin aB [.tmp 2 .b] R)):
  Sc 42 #[(.string (ak s1))] w (aw [.b] R):=
 bn Tryz.func42 (by kernel_rfl) h
attribute [go_sem] Tryz.f118
def uK (f1:aD)(t2:Value)(G:UInt8)(w:World)(R:aD->Bool->Sb)(h:vc aB (a6 [(5,[(8,.s),(9,.i)])] [(4,[(8,.s)])] []) (ai Tryz.f118) (aj 0 [.s f1,.v t2,.c G]) w (fin aB [.tmp 6 .s,.tmp 7 .b] R)):
  Sc 118 #[(.string (ak f1)),t2,(.int .u8 G.toNat)] w (aw [.s,.b] R):=
 bn Tryz.func118 (by kernel_rfl) h
def pF (p1:aD)(o2:UInt8)(w3:aD)(w:World)(R:Value->Bool->Sb)(h:Md 107 #[(.string (ak p1))] w λs4 s5 w6=>lg 108 #[(.string (ak p1))] w6 λv7 w8=>kZ v7 λl10=>zb (.slice none 0 0) 0 w8 λI12 m13 o14 α ς=>bZ (decide (α< (l10:Int))) (jQ v7 α λb17 o18=>MZ ς b17 (o18+α.toNat* 1) λs21=>lg 109 #[(.string (ak s21))] ς λv22 w23=>kZ v22 λl25=>zb o14 0 w23 λυ δ J G Z=>bZ (decide (G< (l25:Int))) (jQ v22 G λθ ι=>∃c36:UInt8,∃c37:UInt8,∃c38:UInt8,∃s39:aD,∃q40:Bool,(World.cell? Z ⟨θ,(ι+G.toNat* 5),none⟩=some (.int .u8 c36.toNat)/\World.cell? Z ⟨θ,((ι+G.toNat* 5)+1),none⟩=some (.int .u8 c37.toNat)/\World.cell? Z ⟨θ,(((ι+G.toNat* 5)+1)+1),none⟩=some (.int .u8 c38.toNat)/\World.cell? Z ⟨θ,((((ι+G.toNat* 5)+1)+1)+1),none⟩=some (.string (ak s39))/\World.cell? Z ⟨θ,(((((ι+G.toNat* 5)+1)+1)+1)+1),none⟩=some (.bool q40)/\True)/\db Z (.cells #[(.int .u8 0),(.int .u8 0),(.int .u8 0),(.string ⟨#[]⟩),(.bool false)] 122) λβ w42=>Lg w42 β 0 5 [(.int .u8 c36.toNat),(.int .u8 c37.toNat),(.int .u8 c38.toNat),(.string (ak s39)),(.bool q40)] λκ=>rG κ β 0 λc44=>Gp (!decide (c44=33)) (rG κ β 1 λc45=>Er 92 #[(.string (ak s4)),(.int .u8 c45.toNat)] κ λq46 w47=>bZ q46 (bG (G+1)/\υ J (G+1) w47/\δ J (G+1) w47< δ J G Z) (∃φ:aD->Bool->Sb,(jf w47 λγ w50=>GM γ β 1 λc51=>GM γ β 2 λc52=>GM γ β 2 λc53=>(db w50 (.cells #[(.int .u8 c51.toNat),(.int .u8 (UInt8.toNat 33)),(.int .u8 c52.toNat)] 5) λb54 μ=>γ μ/\(∃(b56 o57 n58 c59:Nat) (l60:aD),(Value.slice (some ⟨b54,0,none⟩) 3 3)= .slice (some ⟨b56,o57,none⟩) n58 c59/\l60.length=n58/\(∀(j:Nat) (x:UInt8),l60[j]?=some x->World.cell? μ ⟨b56,o57+j,none⟩=some (.int .u8 x.toNat))/\γ μ/\Er 92 #[(.string (ak s4)),(.int .u8 c53.toNat)] μ λq61 w62=>γ w62/\φ l60 q61 w62)/\(Er 92 #[(.string (ak s4)),(.int .u8 c53.toNat)] μ λq63 χ=>γ χ/\∃(b65 o66 n67 c68:Nat) (l69:aD),(Value.slice (some ⟨b54,0,none⟩) 3 3)= .slice (some ⟨b65,o66,none⟩) n67 c68/\l69.length=n67/\(∀(j:Nat) (x:UInt8),l69[j]?=some x->World.cell? χ ⟨b65,o66+j,none⟩=some (.int .u8 x.toNat))/\γ χ/\φ l69 q63 χ))/\(Er 92 #[(.string (ak s4)),(.int .u8 c53.toNat)] w50 λq70 w71=>γ w71/\db w71 (.cells #[(.int .u8 c51.toNat),(.int .u8 (UInt8.toNat 33)),(.int .u8 c52.toNat)] 5) λb72 ψ=>γ ψ/\∃(b74 o75 n76 c77:Nat) (l78:aD),(Value.slice (some ⟨b72,0,none⟩) 3 3)= .slice (some ⟨b74,o75,none⟩) n76 c77/\l78.length=n76/\(∀(j:Nat) (x:UInt8),l78[j]?=some x->World.cell? ψ ⟨b74,o75+j,none⟩=some (.int .u8 x.toNat))/\γ ψ/\φ l78 q70 ψ))/\∀(l79:aD) (h80:Bool) (ω:World),φ l79 h80 ω->∃J82:aD->Sb,(bZ h80 (rG ω β 1 λc83=>db ω (.cells #[(.int .u8 c83.toNat),(.int .u8 (UInt8.toNat 33)),(.int .u8 (UInt8.toNat 35)),(.int .u8 o2.toNat)] 5) λb84 w85=>∃(b86 o87 n88 c89:Nat) (l90:aD),(Value.slice (some ⟨b84,0,none⟩) 4 4)= .slice (some ⟨b86,o87,none⟩) n88 c89/\l90.length=n88/\(∀(j:Nat) (x:UInt8),l90[j]?=some x->World.cell? w85 ⟨b86,o87+j,none⟩=some (.int .u8 x.toNat))/\J82 l90 w85) (J82 l79 ω))/\∀(l91:aD) (ν:World),J82 l91 ν->∃J93:Sb,(bZ (!decide (w3=[])) (bZ (!decide (l91=w3)) (bG (G+1)/\υ J (G+1) ν/\δ J (G+1) ν< δ J G Z) (J93 ν)) (J93 ν))/\∀(w94:World),J93 w94->∃J95:Value->Sb,(jf w94 λζ w97=>IY ζ β 3 λs98=>(lg 111 #[v7,(.int .i64 α),(.int .i64 α)] w97 λv99 w100=>ζ w100/\db w100 (.cells #[(.string (ak s98))] 9) λb101 w102=>ζ w102/\nV 9 1 16 w102 v99 (.slice (some ⟨b101,0,none⟩) 1 1) λv108 w109=>ζ w109/\J95 v108 w109)/\(db w97 (.cells #[(.string (ak s98))] 9) λb110 w111=>ζ w111/\lg 111 #[v7,(.int .i64 α),(.int .i64 α)] w111 λv112 w113=>ζ w113/\nV 9 1 16 w113 v112 (.slice (some ⟨b110,0,none⟩) 1 1) λv119 w120=>ζ w120/\J95 v119 w120))/\∀(ε:Value) (w122:World),J95 ε w122->jf w122 λS123 ξ=>GM S123 β 2 λc125=>∃ο:aD->UInt8->Sb,(bZ h80 (bZ (decide (122< o2)) (R (.slice none 0 0) false ξ) (kZ ε λl128=>yC 0 ξ λI130 m131 H η=>bZ (decide (H< (l128:Int))) (jf η λS134 w135=>jQ ε H λb136 o137=>IY S134 b136 (o137+H.toNat* 1) λs140=>GM S134 β 2 λc141=>KF 112 #[(.string (ak s140)),(.int .u8 c141.toNat),(.int .u8 (UInt8.toNat 90))] w135 λs142 w143=>jQ ε H λb144 o145=>nj w143 b144 (o145+H.toNat* 1) (.string (ak s142)) λw149=>bG (H+1)/\I130 (H+1) w149/\m131 (H+1) w149< m131 H η) (rG η β 2 λc150=>KF 140 #[(.string (ak s4)),(.int .u8 c150.toNat)] η λs151 w152=>ο s151 o2 w152))) (ο s4 c125 ξ))/\∀(l153:aD) (n154:UInt8) (w155:World),ο l153 n154 w155->qu 118 #[(.string (ak l153)),ε,(.int .u8 n154.toNat)] w155 λs156 q157 w158=>bZ (!q157) (R (.slice none 0 0) false w158) (db w158 (.cells #[(.string (ak l91)),(.string (ak s156))] 96) λb159 w160=>nV 96 2 32 w160 J (.slice (some ⟨b159,0,none⟩) 1 1) λv166 w167=>bG (G+1)/\υ v166 (G+1) w167/\δ v166 (G+1) w167< δ J G Z))) (bG (G+1)/\υ J (G+1) κ/\δ J (G+1) κ< δ J G Z)) (bG (α+1)/\I12 J (α+1) Z/\m13 J (α+1) Z< m13 o14 α ς)) (R o14 true ς)):
  Sc 77 #[(.string (ak p1)),(.int .u8 o2.toNat),(.string (ak w3))] w (aw [.v,.b] R):=
 Iz (a6 [(5,[(11,.v),(33,.i)]),(8,[(11,.v),(41,.i)]),(21,[(93,.i)])] [(12,[(16,.s),(17,.b)]),(14,[(16,.s)]),(15,[]),(16,[(18,.v)]),(26,[(19,.s),(20,.c)])] [(11,false,.lt 0 (.lt 1 (.lt 2 (.lt 3 (.lt 6 (.lt 7 (.lt 8 (.br .h 4 (.br .h 5 (.one .h 9 (.lt 10 (.lt 11 .done))) (.one .h 9 (.one .h 5 (.lt 10 (.lt 11 .done))))) (.one .h 9 (.one .h 4 (.one .h 5 (.lt 10 (.lt 11 .done))))))))))))),(15,false,.lt 0 (.lt 1 (.lt 2 (.lt 4 (.lt 5 (.br .h 3 (.one .h 6 (.one .h 7 (.lt 8 .done))) (.one .h 6 (.one .h 3 (.one .h 7 (.lt 8 .done)))))))))),(16,false,.lt 0 (.lt 1 (.lt 2 (.lt 3 (.lt 4 .done))))),(23,true,.lt 0 (.lt 1 (.lt 2 (.lt 3 (.lt 4 (.lt 5 (.lt 6 (.lt 7 (.one .n 8 (.lt 9 (.one .n 10 .done)))))))))))]) [.tmp 6 .v,.tmp 7 .b] [.s p1,.c o2,.s w3] Tryz.func77 (by kernel_rfl) h
def qO (p1:aD)(n2:UInt8)(o3:UInt8)(w:World)(R:Value->Bool->Sb)(h:Md 107 #[(.string (ak p1))] w λs4 s5 w6=>lg 108 #[(.string (ak p1))] w6 λv7 w8=>kZ v7 λl10=>zb (.slice none 0 0) 0 w8 λI12 ω ξ Z θ=>bZ (decide (Z< (l10:Int))) (jQ v7 Z λb17 o18=>MZ θ b17 (o18+Z.toNat* 1) λs21=>lg 109 #[(.string (ak s21))] θ λv22 w23=>kZ v22 λl25=>zb ξ 0 w23 λι α H G J=>bZ (decide (G< (l25:Int))) (jQ v22 G λε ζ=>∃c36:UInt8,∃c37:UInt8,∃c38:UInt8,∃s39:aD,∃q40:Bool,(World.cell? J ⟨ε,(ζ+G.toNat* 5),none⟩=some (.int .u8 c36.toNat)/\World.cell? J ⟨ε,((ζ+G.toNat* 5)+1),none⟩=some (.int .u8 c37.toNat)/\World.cell? J ⟨ε,(((ζ+G.toNat* 5)+1)+1),none⟩=some (.int .u8 c38.toNat)/\World.cell? J ⟨ε,((((ζ+G.toNat* 5)+1)+1)+1),none⟩=some (.string (ak s39))/\World.cell? J ⟨ε,(((((ζ+G.toNat* 5)+1)+1)+1)+1),none⟩=some (.bool q40)/\True)/\db J (.cells #[(.int .u8 0),(.int .u8 0),(.int .u8 0),(.string ⟨#[]⟩),(.bool false)] 122) λβ w42=>Lg w42 β 0 5 [(.int .u8 c36.toNat),(.int .u8 c37.toNat),(.int .u8 c38.toNat),(.string (ak s39)),(.bool q40)] λη=>∃ο:Sb,(rG η β 0 λc45=>Gp (!decide (c45=63)) (rG η β 1 λc46=>Er 92 #[(.string (ak s4)),(.int .u8 c46.toNat)] η λq47 γ=>Gp q47 (bZ (!decide (o3=0)) (rG γ β 1 λc49=>bZ (!decide (c49=o3)) (bG (G+1)/\ι H (G+1) γ/\α H (G+1) γ< α H G J) (ο γ)) (ο γ)) (bG (G+1)/\ι H (G+1) γ/\α H (G+1) γ< α H G J)) (bG (G+1)/\ι H (G+1) η/\α H (G+1) η< α H G J))/\∀(ς:World),ο ς->bZ (decide (122< n2)) (R (.slice none 0 0) false ς) (∃J51:Value->Sb,(jf ς λδ w53=>IY δ β 3 λs54=>GM δ β 2 λc55=>lg 111 #[v7,(.int .i64 Z),(.int .i64 Z)] w53 λv56 w57=>δ w57/\KF 112 #[(.string (ak s54)),(.int .u8 c55.toNat),(.int .u8 (UInt8.toNat 90))] w57 λs58 w59=>δ w59/\db w59 (.cells #[(.string (ak s58))] 9) λb60 w61=>δ w61/\nV 9 1 16 w61 v56 (.slice (some ⟨b60,0,none⟩) 1 1) λv67 w68=>δ w68/\J51 v67 w68)/\∀(υ:Value) (κ:World),J51 υ κ->∃φ:Value->Sb,(NG κ β 4 λq72=>bZ q72 (db κ (.cells #[(.string (ak s21))] 9) λb73 w74=>nV 9 1 16 w74 υ (.slice (some ⟨b73,0,none⟩) 1 1) λv80 w81=>φ v80 w81) (φ υ κ))/\∀(r82:Value) (w83:World),φ r82 w83->qu 118 #[(.string (ak s4)),r82,(.int .u8 n2.toNat)] w83 λs84 q85 χ=>bZ (!q85) (R (.slice none 0 0) false χ) (rG χ β 1 λc87=>db χ (.cells #[(.int .u8 c87.toNat),(.int .u8 (UInt8.toNat 63)),(.int .u8 n2.toNat)] 5) λb88 w89=>∃(b90 o91 n92 c93:Nat) (ψ:aD),(Value.slice (some ⟨b88,0,none⟩) 3 3)= .slice (some ⟨b90,o91,none⟩) n92 c93/\ψ.length=n92/\(∀(j:Nat) (x:UInt8),ψ[j]?=some x->World.cell? w89 ⟨b90,o91+j,none⟩=some (.int .u8 x.toNat))/\db w89 (.cells #[(.string (ak ψ)),(.string (ak s84))] 96) λb95 w96=>nV 96 2 32 w96 H (.slice (some ⟨b95,0,none⟩) 1 1) λμ ν=>bG (G+1)/\ι μ (G+1) ν/\α μ (G+1) ν< α H G J))) (bG (Z+1)/\I12 H (Z+1) J/\ω H (Z+1) J< ω ξ Z θ)) (R ξ true θ)):
  Sc 64 #[(.string (ak p1)),(.int .u8 n2.toNat),(.int .u8 o3.toNat)] w (aw [.v,.b] R):=
 Iz (a6 [(5,[(11,.v),(28,.i)]),(8,[(11,.v),(36,.i)])] [(11,[]),(14,[(16,.v)]),(16,[(16,.v)])] [(13,false,.lt 0 (.lt 1 (.lt 2 (.lt 4 (.lt 5 (.lt 6 (.lt 7 (.one .h 3 (.one .h 8 (.one .h 9 (.one .h 10 (.lt 11 .done))))))))))))]) [.tmp 6 .v,.tmp 7 .b] [.s p1,.c n2,.c o3] Tryz.func64 (by kernel_rfl) h
attribute [go_sem] Tryz.f91
def qT (G:aD)(w:World)(R:Value->Bool->Sb)(h:vc aB (a6 [(4,[(6,.v),(16,.i)])] [] []) (ai Tryz.f91) (aj 0 [.s G]) w (fin aB [.tmp 2 .v,.tmp 3 .b] R)):
  Sc 91 #[(.string (ak G))] w (aw [.v,.b] R):=
 bn Tryz.func91 (by kernel_rfl) h
attribute [go_sem] Tryz.f43
def u9 (G:aD)(H:aD)(w:World)(R:Value->Bool->Sb)(h:vc aB (a6 [(16,[(8,.v),(59,.i)])] [(12,[(6,.v),(7,.b)])] [(7,false,.lt 0 (.lt 2 (.lt 3 (.one .h 1 (.one .h 4 .done))))),(11,false,.lt 0 (.lt 1 (.lt 2 (.lt 3 (.lt 4 (.one .h 5 (.lt 6 (.lt 7 (.lt 8 (.lt 9 (.lt 10 .done)))))))))))]) (ai Tryz.f43) (aj 0 [.s G,.s H]) w (fin aB [.tmp 4 .v,.tmp 5 .b] R)):
  Sc 43 #[(.string (ak G)),(.string (ak H))] w (aw [.v,.b] R):=
 bn Tryz.func43 (by kernel_rfl) h
attribute [go_sem] Tryz.f13
attribute [go_sem] Tryz.f21
def nA (G:aD)(H:Value)(w:World)(R:Value->Bool->Sb)(h:vc aB (a6 [(6,[(8,.v),(32,.i)]),(12,[(11,.v),(41,.i)])] [] []) (ai Tryz.f21) (aj 0 [.s G,.v H]) w (fin aB [.tmp 4 .v,.tmp 5 .b] R)):
  Sc 21 #[(.string (ak G)),H] w (aw [.v,.b] R):=
 bn Tryz.func21 (by kernel_rfl) h
section
open T Classical
def B1 {f:Tx}{ps:List P}{v:Value}{w:World}{nw:UInt8}{a:Option Tx}(hs:Strs w v (ps.map T.text))(hl:dk (ps.map T.text)<=1000000000)(hW:Ok (resL f (parL ps))/\Eb 0 (resL f (parL ps))/\0+(resL f (parL ps)).bd<=64)(hn:nm nw=true)(hk:okn 0 nw)
  (hd:∀W2,dq 0 (resL f (parL ps)) 90 nw W2->∃u,gB 0 W2 σ0 u/\cL u=a) {R:aD->Bool->Sb} (h:∀s q w',Ex w w'->s=a.getD []->q=a.isSome->R s q w'):Sc 118 #[.string (ak f),v,.int .u8 nw.toNat] w (aw [.s,.b] R):=by
 refine uK f v nw w R ?_;dsimp only [go_sem];dsimp only [go_sem,Nat.reduceAdd];obtain⟨b,cap,hv⟩:=hs.slice;have α:=hW.1.2;have H:=mY (parL ps) f;rw [H,dT]at α;refine⟨λs w'=>s=(parL ps).text/\w=w',⟨b,_,cap,hv,λG=>?_,λG=>?_⟩,λs w' hJ=>?_⟩
 ·have J:ps≠[]:=by
   intro e;simp [e]at G
  refine qp hs (by simpa using J) (by omega) ⟨(mO J).symm,rfl⟩
 ·cases ps with
  | nil=>exact⟨rfl,rfl⟩
  | cons=>simp at G
 obtain⟨rfl,rfl⟩:=hJ;generalize (parL ps).text=body at*;refine⟨by omega,λs i w'=>w'=w/\∃m:Nat,i=(m:Int) - 1/\m<=f.length/\s=wrap (f.drop m) body,λ _ i _=>(i+1).toNat,⟨rfl,f.length,rfl,OB _,by rw [Qd];rfl⟩,λs i w' hI=>?_⟩;obtain⟨rfl,m,rfl,hm,rfl⟩:=hI;refine⟨λG=>?_,λG=>?_⟩
 ·obtain⟨m,rfl⟩:∃k,m=k+1:=⟨m - 1,by simp at G;omega⟩
  have Z:m< f.length:=by omega
  have e:(((m+1:Nat):Int) - 1)=(m:Int):=by omega
  have β:=mz Z body;have γ:=dT (f.drop (m+1)) body;rw [P7]at γ;rw [e,ub Z];refine⟨by omega,⟨by omega,by omega,by omega⟩,by simp,by simp,by simp only [Oy,Ov,ON];omega,by omega,⟨rfl,m,rfl,by omega,?_⟩,by show((m:Int) - 1+1).toNat< ((m:Int)+1).toNat;omega⟩;rw [β];rfl
 ·have:m=0:=by simp at G;omega
  subst this;rw [Qk,<-H];refine dz _ (OB _) hW.1 hW.2.1 hW.2.2 hn hk λq w2 x2 hq=>?_
  obtain⟨u,d,e⟩:=hd q hq;refine zd d λw3 x3=>⟨λs es=>h s true w3 (Ex.trans x2 x3) ?_ ?_,λes=>h [] false w3 (Ex.trans x2 x3) ?_ ?_⟩
  all_goals rw [<-e,es];rfl
def IZ (p:Tx×Tx):List Value:=[.string (ak p.1),.string (ak p.2)]
def dN (B:Nat)(w:World)(v:Value)(l:List (Tx×Tx)):Prop:=w.ownsRow B 96 2 v l.length (l.flatMap IZ)
section
variable {B:Nat} {w w':World} {v:Value} {l:List (Tx×Tx)}
def DX:∀{l:List (Tx×Tx)} {i:Nat} {p:Tx×Tx},l[i]?=some p->(l.flatMap IZ)[i* 2]?=some (.string (ak p.1))/\(l.flatMap IZ)[i* 2+1]?=some (.string (ak p.2))
 | q::l,0,p,h=>by cases h;exact⟨rfl,rfl⟩
 | q::l,i+1,p,h=>by
  have :=DX (l:=l) (i:=i) (p:=p) (by simpa using h);have e:(i+1)* 2=i* 2+2:=by omega
  rw [e];exact this
def dN.nil (B:Nat)(w:World):dN B w (.slice none 0 0) []:=RA _ _ _ _
def dN.block (h:dN B w v l):∀b,v.ownBlock=some b->B<=b/\b< w.heap.size:=QX h
def dN.mono {G:Nat}(h:dN B w v l)(hb:G<=B):dN G w v l:=Q4 h hb
def dN.kp {S:Nat->Prop}(h:dN B w v l)(k:Kp w w' S)(H:∀g,v.ownBlock=some g->¬S g):dN B w' v l:=by
 refine⟨h.1,?_⟩;rcases h.2 with J | ⟨g,cap,cur,rfl,hb,G,rest⟩
 ·exact .inl J
 ·exact .inr ⟨g,cap,cur,rfl,hb,by rw [k.block g (Ph.1 G).1 (H g rfl)];exact G,rest⟩
def dN.ex (h:dN B w v l)(x:Ex w w'):dN B w' v l:=h.kp (Kp.ab x λ _=>False) λ _ _ h=>h
def dN.slice (h:dN B w v l):∃a cap,v= .slice a l.length cap:=by
 rcases h.2 with⟨rfl,G⟩ | ⟨g,cap,cur,rfl,_⟩
 ·exact⟨none,0,by rw [G]⟩
 ·exact⟨_,cap,rfl⟩
def dN.get (h:dN B w v l){i:Nat}(hi:i< l.length):∃g cap,v= .slice (some ⟨g,0,none⟩) l.length cap/\g< w.heap.size/\w.cell? ⟨g,i* 2,none⟩=some (.string (ak l[i].1))/\w.cell? ⟨g,i* 2+1,none⟩=some (.string (ak l[i].2)):=by
 have J:=h.1;rcases h.2 with⟨hv,hn⟩ | ⟨g,cap,cur,rfl,hb,H,h1,h2,h3,h4⟩
 ·omega
 ·obtain⟨Z,k2⟩:=DX (Ox hi);have key:∀{j:Nat} {x:Value},(l.flatMap IZ)[j]?=some x->w.cell? ⟨g,j,none⟩=some x:=λ{j x} G=>by
   have hj:j< (l.flatMap IZ).length:=(Px.1 G).1;unfold World.cell?;simp only [H];rw [<-h4,PS (by rw [<-J];exact hj),PO]at G;exact G
  exact⟨g,cap,rfl,(Ph.1 H).1,key Z,key k2⟩
def dN.push {p:Tx×Tx}{b:Nat}(h:dN B w v l)(hB:B<=w.heap.size)(hb:b=w.heap.size)(hw:w'=w.alloc (.cells #[.string (ak p.1),.string (ak p.2)] 96))(hl:l.length<=1000000000){K:Value->Sb}
  (J:∀G H,dN B H G (l++[p])->w'.grownBy H v.ownBlock->(∀b,G.ownBlock=some b->v.ownBlock=some b\/w'.heap.size<=b)->K G H):
  ∃(base n m:Nat) (xs news:List Value),World.ownsRow w' base 96 2 v n xs/\base<=Array.size (World.heap w')/\fp w' (.slice (some ⟨b,0,none⟩) 1 1) m 2 news/\(n+m<=maxLen/\(n+m)* 32<=140737488355328)/\
   ∀(G:Value) (H:World),World.ownsRow H base 96 2 G (n+m) (xs++news)->World.grownBy w' H (Value.ownBlock v)->(∀b:Nat,Value.ownBlock G=some b->Value.ownBlock v=some b\/Array.size (World.heap w')<=b)->K G H:=by
 have x:Ex w w':=hw▸Ex.alloc w _;refine⟨B,l.length,1,l.flatMap IZ,IZ p,h.ex x,Pq hB x.size,⟨rfl,rfl,.inr ⟨b,0,1,rfl,λj u hu=>?_⟩⟩,⟨by unfold maxLen;omega,by omega⟩,λG H Z hg hn=>J G H ?_ hg hn⟩
 ·subst hb hw;rw [O6];exact aa (by simpa [IZ]using hu)
 ·unfold dN;rw [Oy,Pt,show [p].flatMap IZ=IZ p by simp];exact Z
def Ni {l:List Tx}(h:Own B w v l){g:Nat}(H:v.ownBlock=some g)(j:Nat):w.frozen? ⟨g,j,none⟩=false:=by
 rcases h.2 with⟨rfl,Z⟩ | ⟨J,cap,cur,rfl,hb,G,_⟩
 ·cases H
 ·have e:J=g:=Pr H;subst e;unfold World.frozen?;simp only [G];simp
def Lj {l:List Tx}(h:Own B w v l){i:Nat}(hi:i< l.length):∃g cap,v= .slice (some ⟨g,0,none⟩) l.length cap/\B<=g/\g< w.heap.size/\w.cell? ⟨g,i,none⟩=some (.string (ak l[i])):=by
 obtain⟨a,cap,hv⟩:=h.strs.slice;obtain⟨b,o,G,H,e2,J⟩:=h.strs.at hi;rcases h.2 with⟨rfl,hn⟩ | ⟨g,Z,cur,e4,hb,hg,_⟩
 ·omega
 ·rw [e4]at H;cases H;exact⟨_,_,e4,hb,e2,by rw [O6]at J;exact J⟩
end
structure qC (B:Nat)(w0:World)(o0:Value)(want:Tx)(out:Value)(w:World)(L:List Ev):Prop where
 gr:Gr w0 o0 w out
 hB:B<=w0.heap.size
 ex:∃acc,dN B w out acc/\L.filter (wt want)=acc.map sm
section
variable {B:Nat} {w0 w w':World} {o0 out:Value} {want:Tx} {L M:List Ev}
def qC.FK (h:qC B w0 o0 want out w L)(x:Ex w w'):qC B w0 o0 want out w' L:=by
 obtain⟨acc,G,H⟩:=h.ex;exact⟨h.gr.ex x,h.hB,acc,G.ex x,H⟩
def qC.start (h:qC B w0 o0 want out w L):qC B w out want out w L:=⟨Gr.refl _ _,Pq h.hB h.gr.size,h.ex⟩
def qC.back {w1:World}{G H:Value}(h:qC B w0 o0 want G w1 L)(k:qC B w1 G want H w M):qC B w0 o0 want H w M:=⟨h.gr.trans k.gr,h.hB,k.ex⟩
def qC.lt (h:qC B w0 o0 want out w L):∀g,out.ownBlock=some g->g< w.heap.size:=λg G=>by
 obtain⟨acc,H,_⟩:=h.ex;exact(H.block g G).2
def qC.skip (h:qC B w0 o0 want out w L){e:Ev}(he:wt want e=false):qC B w0 o0 want out w (L++[e]):=by
 obtain⟨acc,G,H⟩:=h.ex;exact⟨h.gr,h.hB,acc,G,by rw [PD,H,Qt (by simp [he])];simp⟩
def qC.push (h:qC B w0 o0 want out w L)(hl:L.length<=1000000){G s:Tx}(he:wt want (G,some s)=true){K:Value->Sb}(hK:∀H J,qC B w0 o0 want H J (L++[(G,some s)])->K H J):
  ∀(b:Nat) (w1:World),b=Array.size (World.heap w)->w1=World.alloc w (Obj.cells #[.string (ak G),.string (ak s)] 96)->
  ∃(base n m:Nat) (xs news:List Value),World.ownsRow w1 base 96 2 out n xs/\base<=Array.size (World.heap w1)/\fp w1 (.slice (some ⟨b,0,none⟩) 1 1) m 2 news/\(n+m<=maxLen/\(n+m)* 32<=140737488355328)/\
   ∀(H:Value) (J:World),World.ownsRow J base 96 2 H (n+m) (xs++news)->World.grownBy w1 J (Value.ownBlock out)->(∀b:Nat,Value.ownBlock H=some b->Value.ownBlock out=some b\/Array.size (World.heap w1)<=b)->K H J:=λb w1 hb Z=>by
 obtain⟨acc,h1,h2⟩:=h.ex;have α:acc.length<=L.length:=by
  have :=P' (wt want) L;rw [h2,OM]at this;exact this
 have x1:Ex w w1:=Z▸Ex.alloc w _;refine h1.push (p:=(G,s)) (Pq h.hB h.gr.size) hb Z (by omega) λH J k1 k2 k3=>hK H J ⟨(h.gr.ex x1).grown k2 k3,h.hB,_,k1,?_⟩
 rw [PD,h2,Pm,QO (by exact he)];rfl
end
def Hc {w w1 G:World}{b e:Nat}(cs:List UInt8)(hb:b=w.heap.size)(hw:w1=w.alloc (.cells (cs.map λc=>Value.int .u8 c.toNat).toArray e))(x:Ex w1 G){K:aD->Prop}(J:K cs):
  ∃(H o n c:Nat) (l:aD),Value.slice (some ⟨b,0,none⟩) cs.length cs.length=Value.slice (some ⟨H,o,none⟩) n c/\List.length l=n/\(∀(j:Nat) (y:UInt8),l[j]?=some y->G.cell? ⟨H,o+j,none⟩=some (.int .u8 y.toNat))/\K l:=by
 refine⟨b,0,cs.length,cs.length,cs,rfl,rfl,λj y Z=>?_,J⟩;have hl:b< w1.heap.size:=by rw [hw,size_alloc];omega
 rw [O6,x.cell hl,hw,hb];exact aa (by simp [Z])
def KU {E:Nat->Off Nat->List Ev}{u:U}{i:Nat}(hi:i< u.ths.length){o:Off Nat}(G:o∈offs u.ths[i]){e:Ev}(he:e∈E i o):e∈nv E u:=by
 refine Pk.2 ⟨i,PH.2 hi,Pk.2 ⟨o,?_,he⟩⟩;rw [aR hi];exact G
def HB {c:UInt8}(h:lt c=true):ρ0 (e0 c)=c/\e0 c< 26:=by
 have :=a7 h;have G:e0 c< 26:=by unfold e0;omega
 refine⟨OU.1 ?_,G⟩;rw [dA G];unfold σ0 e0;omega
def KH {B:Nat}{w w':World}{g cap k n:Nat}{rs ps:List P}{q:P}(h:Own B w (.slice (some ⟨g,0,none⟩) n cap) (rs.map T.text++(ps.drop k).map T.text))(hr:rs.length=k)(G:k< ps.length)(hw:w'=w.setCell ⟨g,k,none⟩ (.string (ak q.text))):Own B w' (.slice (some ⟨g,0,none⟩) n cap) ((rs++[q]).map T.text++(ps.drop (k+1)).map T.text):=by
 have :=uz h hw (by simp;omega);have e:(rs.map T.text++(ps.drop k).map T.text).set k q.text=(rs++[q]).map T.text++(ps.drop (k+1)).map T.text:=by
  rw [Ps G,O3,List.set_append_right _ _ (by simp [hr]),OM,hr,R6,List.set_cons_zero];simp
 rw [e]at this;exact this
def eg.snoc {X Y:Type}{R:X->Y->Prop}{l:List X}{m:List Y}{x:X}{y:Y}(h:eg R l m)(k:R x y):eg R (l++[x]) (m++[y]):=h.app (.cons k .nil)
def GG {p:P}(al:p.Al λc=>lt c=true)(G:p.size<=60):Ok p/\Eb 0 p/\0+p.bd<=64:=by
 have :=bX p;have :=T.we p;have :=ch p;exact⟨⟨T.Al.wf al,by rw [aQ];omega⟩,T.Al.eb 0 al,by omega⟩
def Ex.set {w w':World}(x:Ex w w'){g j:Nat}(G:w.heap.size<=g)(v:Value):Ex w (w'.setCell ⟨g,j,none⟩ v):=by
 have k:=Kp.set (i:=j) (Kp.ab x λb=>b=g) rfl v;exact⟨k.os,k.tape,k.output,k.size,λb hb=>k.block b hb (by omega)⟩
def JP {W:P}{u:U}(h:gB 0 W σ0 u):¬W.Fr 90:=λG=>by
 obtain⟨y,_,e⟩:=h.den.ae.free 90 G;have H:(90:UInt8).toNat=90:=rfl;unfold σ0 at e;omega
def MG {W:P}{u:U}(h:gB 0 W σ0 u):Ok W/\Eb 0 W/\0+W.bd<=64:=⟨⟨h.den.wf,h.den.len⟩,h.den.bd.eb,h.den.bd.bd⟩
def sD {t:P}(ok:fS t){o:UInt8}(ho:lt o=true\/122< o){want:Tx}{w:World}{R:Value->Bool->Sb}(hR1:(∃e∈nv (bf (num t e0 0).1 o) (num t e0 0).1,wt want e=true/\e.2=none)->∀w',Ex w w'->R (.slice none 0 0) false w')
  (hR2:∀acc,(nv (bf (num t e0 0).1 o) (num t e0 0).1).filter (wt want)=acc.map sm->∀v w',Ex w w'->dN w.heap.size w' v acc->R v true w'):Sc 77 #[.string (ak t.text),.int .u8 o.toNat,.string (ak want)] w (aw [.v,.b] R):=by
 have su:=ok.su;have hszt:=ok.size;have hsh:=(fg su.ae).2.2;generalize hu:(num t e0 0).1=u at*;have hsz:u.size<=60:=by omega
 obtain⟨hthl,hol,_⟩:=lens hsz;obtain⟨hn,hts⟩:=wi ok;have hlen:=su.two.len;have okt:Ok t:=Bg ok.al ok.good;have okth:∀q∈t.ths,Ok q:=λq hq=>⟨(su.al q hq).wf,by rw [aQ];have :=(hts q hq).2;omega⟩
 have hfl:t.frL.length<=1099511627776:=by have :=ok.A9.2.2.2.1;omega
 have hlE:∀i,i<=u.ths.length->((List.range i).flatMap (kQ (bf u o) u)).length<=3600:=λi hi=>by
  have h1:=gA (f:=kQ (bf u o) u) (c:=60) (l:=List.range i) λx hx=>by
   have hx:=PH.1 hx;have h2:=fO (gu u o x) (offs (u.ths.getD x .nil));rw [aR (by omega)]at h2;have :=hol x (by omega);unfold kQ;rw [aR (by omega)];omega
  rw [Ql]at h1;omega
 refine pF t.text o want w R ?_;refine mB okt (mh okt ok.nr λv5 w6 x6 o5=>?_);have hv5:=o5.strs;obtain⟨a,cap,hv⟩:=hv5.slice;rw [OM]at hv;refine⟨a,_,cap,hv,λout x w'=>∃i:Nat,x=i/\i<=t.ths.length/\qC w6.heap.size w6 (.slice none 0 0) want out w' ((List.range i).flatMap (kQ (bf u o) u)),λ _ x _=>(t.ths.length - x).toNat,⟨0,rfl,Pn _,⟨Gr.refl _ _,OB _,[],dN.nil _ _,rfl⟩⟩,λυ x w15 hI=>?_⟩;obtain⟨i,rfl,hi,κ⟩:=hI;have x15:Ex w6 w15:=κ.gr.nil rfl;refine⟨λhlt=>?_,λhge=>?_⟩;rotate_left
 ·have hil:i=u.ths.length:=by simp only [OF]at hge;omega
  rw [hil]at κ;obtain⟨acc,h1,h2⟩:=κ.ex;exact hR2 acc h2 _ w15 (Ex.trans x6 x15) (h1.mono x6.size)
 have hi':i< t.ths.length:=by simp only [OK]at hlt;omega
 have ε:i< u.ths.length:=by omega
 have ζ:=Oz hi';have hmiu:=Oz ε;have two1:=ia (su.two.get hi' ε);have hlo:=two1.len;have hacc1:=hlE i (by omega);have ek:(List.range (i+1)).flatMap (kQ (bf u o) u)=(List.range i).flatMap (kQ (bf u o) u)++kQ (bf u o) u i:=by rw [Qw,Pt];simp
 have eE0:kQ (bf u o) u i=(offs u.ths[i]).flatMap (bf u o i):=by unfold kQ;rw [aR ε]
 refine hv5.get x15 (i:=i) (x:=t.ths[i].text) (by omega) (by simp [hi']) (Q:=λn=>_) (jU _ (OB _) (okth _ ζ) (su.smpP _ ζ) (by have :=(hts _ ζ).1;omega) λv21 w22 xs x22 o21 m21=>?_);have h22:=(κ.FK x22).start;have n21:∀g,v21.ownBlock=some g->υ.ownBlock≠some g:=λg hg e=>by
  have h1:=(o21.block g hg).1;have h2:=κ.lt g e;omega
 obtain⟨a23,cap23,hv21⟩:=o21.slice;have hm1:=@tN t.ths.length i (by omega);generalize hA:(List.range i).flatMap (kQ (bf u o) u)=A at*;have hol1:=hol i ε;refine⟨a23,_,cap23,hv21,λout x w'=>∃j:Nat,x=j/\j<=(offs t.ths[i]).length/\qC w6.heap.size w22 υ want out w' (A++((offs u.ths[i]).take j).flatMap (bf u o i)),λ _ x _=>((offs t.ths[i]).length - x).toNat,⟨0,rfl,Pn _,by simpa using h22⟩,λout2 x w31 hI=>?_⟩;obtain⟨j,rfl,hj,h31⟩:=hI;refine⟨λhlt2=>?_,λhge2=>?_⟩;rotate_left
 ·have hjl:j=(offs u.ths[i]).length:=by simp only [OF]at hge2;omega
  rw [hjl,O4,<-eE0,<-ek]at h31;exact⟨by omega,⟨i+1,by omega,by omega,(κ.FK x22).back h31⟩,hm1⟩
 have hjP:j< (offs t.ths[i]).length:=by simp only [OK]at hlt2;omega
 have hjU:j< (offs u.ths[i]).length:=by omega
 have hm2:=@tN (offs t.ths[i]).length j hjP;have hae:=two1.get hjP hjU;have hmP:=Oz hjP;have hmU:=Oz hjU;obtain⟨g,capg,cs,hvg,H,γ⟩:=pJ (o21.gr h31.gr n21) m21 hjP;obtain⟨kk,ca,cb,cs3,cq,rfl⟩:=H.any;have etk:((offs u.ths[i]).take (j+1)).flatMap (bf u o i)=((offs u.ths[i]).take j).flatMap (bf u o i)++bf u o i (offs u.ths[i])[j]:=by rw [OC hjU,Pt];simp
 have hacc2:(A++((offs u.ths[i]).take j).flatMap (bf u o i)).length<=4000:=by
  have h1:=fO (gu u o i) ((offs u.ths[i]).take j);rw [Pd]at h1;rw [Oy];omega
 rw [hv21]at hvg;refine⟨g,0,_,capg,hv21.trans hvg,by omega,by omega,kk,ca,cb,cs3,cq,⟨γ 0 _ rfl _ (by omega) (by omega),γ 1 _ rfl _ (by omega) (by omega),γ 2 _ rfl _ (by omega) (by omega),γ 3 _ rfl _ (by omega) (by omega),γ 4 _ rfl _ (by omega) (by omega),trivial⟩,λb41 w42 hb41 hw42=>?_⟩;obtain⟨box1,nt⟩:=Ji (cs:=dY kk ca cb cs3 cq) rfl rfl hb41 hw42;refine⟨⟨rfl,qj,box1⟩,λG hw43=>?_⟩;obtain⟨x43,l43,c43⟩:=nt G hw43;have h43:=h31.FK x43;have x643:Ex w6 G:=Ex.trans ((κ.gr.ex x22).trans h31.gr |>.nil rfl) x43;have β:∀{w':World},Ex G w'->∀{n:Nat} {v:Value},n< 5->(dY kk ca cb cs3 cq)[n]?=some v->w'.cell? ⟨b41,n,none⟩=some v:=λ{w'} x {n v} hn hv=>by rw [x.cell (a:=⟨b41,n,none⟩) l43,c43 n hn];exact hv
 generalize hA2:A++((offs u.ths[i]).take j).flatMap (bf u o i)=A2 at*;have J:∀{v:Value} {w':World},qC w6.heap.size w22 υ want v w' (A2++bf u o i (offs u.ths[i])[j])->bG ((j:Int)+1)/\(∃j':Nat,(j:Int)+1=j'/\j'<=(offs t.ths[i]).length/\qC w6.heap.size w22 υ want v w' (A++((offs u.ths[i]).take j').flatMap (bf u o i)))/\(((offs t.ths[i]).length:Int) - ((j:Int)+1)).toNat< (((offs t.ths[i]).length:Int) - j).toNat:=λ{v w'} h=>by
  refine⟨by omega,⟨j+1,by omega,by omega,?_⟩,hm2⟩;rw [etk,<-Pe,hA2];exact h
 have hin:∀e∈bf u o i (offs u.ths[i])[j],e∈nv (bf u o) u:=λe he=>KU ε hmU he
 generalize (offs t.ths[i])[j]=oP at*;generalize (offs u.ths[i])[j]=oU at*;have hno:kk≠33->bf u o i oU=[]->∀(c:UInt8),c=kk->(!decide (c=33))=true:=λh _ c hc=>by rw [hc];simp [h]
 cases oP<;>cases oU<;>try exact hae.elim
 ·obtain⟨_,_,_,H⟩:=H;unfold dY at H;simp only [Po,PF,Qz,Qe]at H;have e1:kk=126:=OU.1 (by omega);subst e1;exact⟨126,β (Ex.refl _) (by omega) rfl,(λh=>by cases h),λ _=>J (by rw [show bf u o i (.tau _)=[]from rfl,O5];exact h43)⟩
 rotate_left
 ·have H:=H.symm.symm;unfold xe dY at H;simp only [Po,PF,Qz,Qe]at H;have e1:kk=63:=OU.1 (by omega);subst e1;exact⟨63,β (Ex.refl _) (by omega) rfl,(λh=>by cases h),λ _=>J (by rw [show bf u o i (.rcv _ _ _ _)=[]from rfl,O5];exact h43)⟩
 rename_i ca' cb' p c d p';obtain⟨_,H⟩:=H;unfold dY at H;simp only [Po,PF,Qv,Qz,Qe]at H;have e1:kk=33:=OU.1 (by omega);have e2:cs3=p.text:=m9 H.2.2.2.1;have e3:ca=ca':=OU.1 (by omega);have e4:cb=cb':=OU.1 (by omega);subst e1 e2 e3 e4;obtain⟨sU,_⟩:=aC (su.smp _ hmiu) _ hmU;have ec:ca=asg u.frL t.frL ρ0 c:=OU.1 hae.1;have ed:cb=asg u.frL t.frL ρ0 d:=OU.1 hae.2.1;obtain⟨oc1,oc2⟩:=su.own ⟨_,hmiu,sU.fr c (.inl rfl)⟩;obtain⟨od1,od2⟩:=su.own ⟨_,hmiu,sU.fr d (.inr (.inl rfl))⟩;rw [<-ec]at oc1 oc2;rw [<-ed]at od1 od2;have eE:bf u o i (.snd c d p')=if c∈u.frL then []else if d∈u.frL then [([ρ0 c,33,35,o],if lt o=true then cL (Fb u i p' d (e0 o))else none)]else [([ρ0 c,33,ρ0 d],cL (Ax u i p'))]:=rfl
 refine⟨33,β (Ex.refl _) (by omega) rfl,λ _=>⟨ca,β (Ex.refl _) (by omega) rfl,dZ hfl ⟨λhin'=>J ?_,λhout=>?_⟩⟩,(λh=>by cases h)⟩
 ·rw [eE,O' (oc1.1 (by simpa using hin')),O5];exact h43
 have hcO:c∉u.frL:=λh=>by simp [oc1.2 h]at hout
 obtain⟨ec2,hc26⟩:=oc2 hcO;rw [OP hcO]at eE;subst ec2;refine⟨λl h w'=>l=[ρ0 c,33,cb]/\h=decide (cb∈t.frL)/\Ex G w',⟨λw'=>Ex G w',λw50 hw50=>?_⟩,λl79 h80 w81 hJ=>?_⟩
 ·have μ:Ex G w50:=hw50▸Ex.drew G;refine⟨μ,ρ0 c,λw' x=>β x (by omega) rfl,cb,λw' x=>β x (by omega) rfl,cb,λw' x=>β x (by omega) rfl,λb54 w55 hb54 hw55=>?_,dZ hfl ⟨μ,λb72 w73 hb72 hw73=>?_⟩⟩
  ·have ν:Ex G w55:=Ex.trans μ (hw55▸Ex.alloc w50 _);exact⟨ν,Hc [ρ0 c,33,cb] hb54 hw55 (Ex.refl _) ⟨ν,dZ hfl ⟨ν,rfl,rfl,ν⟩⟩,dZ hfl ⟨ν,Hc [ρ0 c,33,cb] hb54 hw55 (Ex.refl _) ⟨ν,rfl,rfl,ν⟩⟩⟩
  ·have x73:Ex G w73:=Ex.trans μ (hw73▸Ex.alloc w50 _);exact⟨x73,Hc [ρ0 c,33,cb] hb72 hw73 (Ex.refl _) ⟨x73,rfl,rfl,x73⟩⟩
 obtain⟨rfl,rfl,x81⟩:=hJ;obtain⟨lab,hlab⟩:∃lab:Tx,lab=if cb∈t.frL then [ρ0 c,33,35,o]else [ρ0 c,33,cb]:=⟨_,rfl⟩
 refine⟨λl w'=>l=lab/\Ex G w',⟨λhh=>⟨ρ0 c,β x81 (by omega) rfl,λb84 w85 hb84 hw85=>Hc [ρ0 c,33,35,o] hb84 hw85 (Ex.refl _) ⟨by rw [hlab,O' (by simpa using hh)],Ex.trans x81 (hw85▸Ex.alloc w81 _)⟩⟩,λhh=>⟨by rw [hlab,OP (by simpa using hh)],x81⟩⟩,λl91 w92 hJ=>?_⟩;obtain⟨rfl,x92⟩:=hJ;obtain⟨res,Z⟩:∃res:Option Tx,bf u o i (.snd c d p')=[(l91,res)]:=by
  rw [eE,hlab];by_cases hd:d∈u.frL
  ·rw [O' hd,O' (od1.2 hd)];exact⟨_,rfl⟩
  ·rw [OP hd,OP λh=>hd (od1.1 h),(od2 hd).1];exact⟨_,rfl⟩
 rw [Z]at J hin;refine⟨λw'=>wt want (l91,res)=true/\Ex G w',⟨λhw=>⟨λhl=>J ((h43.FK x92).skip ?_),λhl=>⟨?_,x92⟩⟩,λhw=>⟨?_,x92⟩⟩,λw94 hJ=>?_⟩
 ·unfold wt;simp_all
 ·unfold wt;simp_all
 ·unfold wt;simp_all
 obtain⟨hwt,x94⟩:=hJ;have hbad:res=none->∀w',Ex G w'->R (.slice none 0 0) false w':=λhr w' x'=>hR1 ⟨_,hin _ (OL.2 rfl),hwt,hr⟩ w' (Ex.trans (Ex.trans x6 x643) x')
 have e:wo (t.ths.map T.text) i i++[p.text]=(wo t.ths i i++[p]).map T.text:=by rw [zn,Pm];rfl
 have hwl:=lF t.ths i i;have hpl:p.aJ<=300:=by
  have h1:=(aC (su.smpP _ ζ) _ hmP).1.size;have h2:=(hts _ ζ).1;have h3:=ch p;simp only [Off.tm,T.size]at h1;omega
 have hlw:(wo (t.ths.map T.text) i i).length+[p.text].length<=1099511627776:=by
  have :=lF (t.ths.map T.text) i i;rw [OM]at this;simp only [Ov,ON];omega
 have hal:∀q∈wo t.ths i i++[p],(q.Al λc=>lt c=true)/\q.size<=60:=λq hq=>by
  rcases OH.1 hq with hq | hq
  ·exact⟨su.al _ (ct hq),(hts _ (ct hq)).1⟩
  ·cases OL.1 hq;have sP:=(aC (su.smpP _ ζ) _ hmP).1;have h1:=sP.size;have h2:=(hts _ ζ).1;simp only [Off.tm,T.size]at h1;exact⟨(sP.al _ (su.al _ ζ)).2.2,by omega⟩
 have sden:=Aq ok su hi' ε hmP hmU hae;have oden:=λhd=>@KB t u ok su i hi' ε _ _ _ _ _ _ hmP hmU hae hd
 have oopz:=λhd=>@EP t u ok su i hi' ε _ _ _ _ _ _ hmP hmU hae hd
 generalize hps:wo t.ths i i++[p]=ps at*;have hpsl:ps.length<=61:=by rw [<-hps,Oy,PM];omega
 have htl:∀q∈ps,q.aJ<=300:=λq hq=>by
  rw [<-hps]at hq;rcases OH.1 hq with hq | hq
  ·exact(hts _ (ct hq)).2
  ·cases OL.1 hq;exact hpl
 refine⟨λr w'=>Ex G w'/\Own G.heap.size w' r (ps.map T.text),⟨λw'=>Ex G w',λw97 hw97=>?_⟩,λr121 w122 hJ=>?_⟩
 ·have ξ:Ex G w97:=Ex.trans x94 (hw97▸Ex.drew w94);refine⟨ξ,p.text,λw' x=>β x (by omega) rfl,?_,λb76 w77 hb76 hw77=>?_⟩
  ·refine eH (hv5.ex (Ex.trans x643 ξ)) (by rw [OM];omega) λv49 w50 μ o50=>⟨Ex.trans ξ μ,λb51 w52 hb51 hw52=>?_⟩
   have x52:Ex w50 w52:=hw52▸Ex.alloc w50 _;have ο:=Ex.trans μ x52;refine⟨Ex.trans ξ ο,sC (o50.ex x52) ο.size (Strs.one hb51 hw52) hlw λv58 w59 b59 o59=>?_⟩;have x59:=Ex.trans ξ (Ex.below ο b59);exact⟨x59,x59,e▸o59.mono ξ.size⟩
  ·have x77:Ex w97 w77:=hw77▸Ex.alloc w97 _;have η:=Ex.trans ξ x77;refine⟨η,eH (hv5.ex (Ex.trans x643 η)) (by rw [OM];omega) λv78 w79 x79 o79=>⟨Ex.trans η x79,sC o79 x79.size ((Strs.one hb76 hw77).ex x79) hlw λv85 w86 b86 o86=>?_⟩⟩;have x86:=Ex.trans η (Ex.below x79 b86);exact⟨x86,x86,e▸o86.mono η.size⟩
 obtain⟨x122,o121⟩:=hJ;refine⟨λw'=>Ex G w',λw124 hw124=>?_⟩;have xd:Ex w122 w124:=hw124▸Ex.drew w122;have φ:=Ex.trans x122 xd;have o124:=o121.ex xd;refine⟨φ,cb,λw' x=>β x (by omega) rfl,λf n w'=>Ex G w'/\∃rs:List P,Own G.heap.size w' r121 (rs.map T.text)/\((d∉u.frL/\f=t.frL/\n=cb/\rs=ps)\/(d∈u.frL/\f=no t.frL cb/\n=o/\lt o=true/\eg (λp r=>dq 0 p cb 90 r) ps rs)),⟨λhh=>⟨λho'=>?_,λho'=>?_⟩,λhh=>⟨φ,ps,o124,.inl ⟨λh=>by simp [od1.2 h]at hh,rfl,rfl,rfl⟩⟩⟩,λχ n154 w155 hJ=>?_⟩
 ·refine hbad ?_ _ φ;rw [eE,O' (od1.1 (by simpa using hh))]at Z;have ho':122< o:=by simpa using ho'
  have α:lt o=false:=by
   unfold lt;have:¬o<=122:=UInt8.not_le.2 ho';simp [this]
  rw [α]at Z;have :=Pw Z;exact(PA Prod.snd this.1).symm
 ·have α:lt o=true:=ho.resolve_right (by simpa using ho');obtain⟨a125,cap125,hv125⟩:=o124.strs.slice;rw [OM]at hv125;refine⟨a125,_,cap125,hv125,λx w'=>∃k:Nat,x=k/\k<=ps.length/\Ex G w'/\∃rs:List P,eg (λp r=>dq 0 p cb 90 r) (ps.take k) rs/\Own G.heap.size w' r121 (rs.map T.text++(ps.drop k).map T.text),λx _=>(ps.length - x).toNat,⟨0,rfl,Pn _,φ,[],.nil,o124⟩,λx w133 hI=>?_⟩;obtain⟨k,rfl,hk,ψ,rs,δ,θ⟩:=hI;refine⟨λhlt3=>?_,λhge3=>⟨cb,β ψ (by omega) rfl,uf hfl ⟨ψ,rs,?_,.inr ⟨od1.1 (by simpa using hh),rfl,rfl,α,?_⟩⟩⟩⟩
  ·have hk':k< ps.length:=by simp only [OK]at hlt3;omega
   have hrl:rs.length=k:=by rw [<-δ.len,Pd];omega
   have hlk:(rs.map T.text++(ps.drop k).map T.text).length=ps.length:=by simp;omega
   have hgk:(rs.map T.text++(ps.drop k).map T.text)[k]'(by omega)=ps[k].text:=by
    rw [List.getElem_append_right (by simp [hrl])];simp [hrl]
   obtain⟨g2,cap2,hv2,hg2,hl2,hc2⟩:=Lj θ (i:=k) (by omega);rw [hgk]at hc2;rw [hlk]at hv2;refine⟨λw'=>Ex w133 w',λw135 hw135=>?_⟩;have ι:Ex w133 w135:=hw135▸Ex.drew w133;have hmk:=Oz hk';obtain⟨p1,p2,p3⟩:=GG (hal _ hmk).1 (hal _ hmk).2;refine⟨ι,g2,0,ps.length,cap2,hv2,by omega,by omega,ps[k].text,λw' x=>by rw [x.cell (a:=⟨g2,_,none⟩) hl2,O6,O8];exact hc2,cb,λw' x=>β (Ex.trans ψ x) (by omega) rfl,dz _ (OB _) p1 p2 p3 (by decide) (HC 0) λq w143 ω hq=>⟨g2,0,ps.length,cap2,hv2,by omega,by omega,⟨⟨_,by rw [(Ex.trans ι ω).cell (a:=⟨g2,_,none⟩) hl2,O6,O8];exact hc2⟩,Ni (θ.ex (Ex.trans ι ω)) (by rw [hv2];rfl) _⟩,λw149 ς=>?_⟩⟩;rw [show 0+Int.toNat (k:Int)* 1=k by simp]at ς;refine⟨by omega,⟨k+1,by omega,by omega,ς▸(Ex.trans ψ (Ex.trans ι ω)).set hg2 _,rs++[q],?_,?_⟩,tN hk'⟩
   ·rw [OC hk'];exact δ.snoc hq
   ·rw [hv2];exact KH (by rw [<-hv2];exact θ.ex (Ex.trans ι ω)) hrl hk' ς
  ·have hkl:k=ps.length:=by simp only [OF]at hge3;omega
   rw [hkl,Qd,Qf,O5]at θ;exact θ
  ·have hkl:k=ps.length:=by simp only [OF]at hge3;omega
   rw [hkl,O4]at δ;exact δ
 obtain⟨x155,rs,o155,hcase⟩:=hJ;have key:dk (rs.map T.text)<=1000000000/\(Ok (resL χ (parL rs))/\Eb 0 (resL χ (parL rs))/\0+(resL χ (parL rs)).bd<=64)/\nm n154=true/\okn 0 n154/\∀W2,dq 0 (resL χ (parL rs)) 90 n154 W2->∃v,gB 0 W2 σ0 v/\cL v=res:=by
  rcases hcase with⟨hd,rfl,rfl,rfl⟩ | ⟨hd,rfl,rfl,α,δ⟩
  ·rw [OP hd]at eE;rw [eE]at Z;have er:cL (Ax u i p')=res:=PA Prod.snd (Pw Z).1;obtain⟨ed1,ed2⟩:=od2 hd;have hlt:=El ed2;rw [<-ed1]at hlt;refine⟨Iu htl (by omega),MG sden.1,fT hlt,oM hlt 0,λW2 hW=>⟨_,sden.1.Oe (JP sden.1) hW,er⟩⟩
  ·rw [O' hd,α,O' rfl]at eE;rw [eE]at Z;have er:cL (Fb u i p' d (e0 n154))=res:=PA Prod.snd (Pw Z).1;obtain⟨f1,f2⟩:=HB α;obtain⟨_,_,r3,r4⟩:=B4 δ;refine⟨Iu (λr hr=>?_) (by omega),(oopz hd δ).ok,fT α,oM α 0,λW2 hW=>⟨_,oden hd δ f2 (by rw [f1];exact hW),er⟩⟩;obtain⟨q,hq,h⟩:=δ.sO hr;rw [gn h.shp];exact htl q hq
 obtain⟨k1,k2,k3,k4,k5⟩:=key;refine B1 o155.strs k1 k2 k3 k4 k5 λs q w158 x158 e1 e2=>?_
 have x458:=Ex.trans x155 x158;cases res with
 | none=>
  subst e2;exact⟨λ _=>hbad rfl _ x458,λh=>(by cases h)⟩
 | some s'=>
  subst e1 e2;exact⟨λh=>(by cases h),λ _=>(h43.FK x458).push (by omega) hwt λv166 w167 h=>J h⟩
def Di {t:P}(ok:fS t){n ov:UInt8}(ho:lt n=true\/122< n){want:Tx}(hwant:want=if ov=0 then []else [ov,63,n]){w:World}{R:Value->Bool->Sb}(hR1:(∃e∈nv (jP (num t e0 0).1 n) (num t e0 0).1,wt want e=true/\e.2=none)->∀w',Ex w w'->R (.slice none 0 0) false w')
  (hR2:∀acc,(nv (jP (num t e0 0).1 n) (num t e0 0).1).filter (wt want)=acc.map sm->∀v w',Ex w w'->dN w.heap.size w' v acc->R v true w'):Sc 64 #[.string (ak t.text),.int .u8 n.toNat,.int .u8 ov.toNat] w (aw [.v,.b] R):=by
 have su:=ok.su;have hszt:=ok.size;have hsh:=(fg su.ae).2.2;generalize hu:(num t e0 0).1=u at*;have hsz:u.size<=60:=by omega
 obtain⟨hthl,hol,_⟩:=lens hsz;obtain⟨hn,ω⟩:=wi ok;have hlen:=su.two.len;have okt:Ok t:=Bg ok.al ok.good;have okth:∀q∈t.ths,Ok q:=λq hq=>⟨(su.al q hq).wf,by rw [aQ];have :=(ω q hq).2;omega⟩
 have hfl:t.frL.length<=1099511627776:=by have :=ok.A9.2.2.2.1;omega
 have hlE:∀i,i<=u.ths.length->((List.range i).flatMap (kQ (jP u n) u)).length<=3600:=λi hi=>by
  have h1:=gA (f:=kQ (jP u n) u) (c:=60) (l:=List.range i) λx hx=>by
   have hx:=PH.1 hx;have h2:=fO (mJ u n x) (offs (u.ths.getD x .nil));rw [aR (by omega)]at h2;have :=hol x (by omega);unfold kQ;rw [aR (by omega)];omega
  rw [Ql]at h1;omega
 refine qO t.text n ov w R ?_;refine mB okt (mh okt ok.nr λv5 w6 x6 o5=>?_);have hv5:=o5.strs;obtain⟨a,cap,hv⟩:=hv5.slice;rw [OM]at hv;refine⟨a,_,cap,hv,λout x w'=>∃i:Nat,x=i/\i<=t.ths.length/\qC w6.heap.size w6 (.slice none 0 0) want out w' ((List.range i).flatMap (kQ (jP u n) u)),λ _ x _=>(t.ths.length - x).toNat,⟨0,rfl,Pn _,⟨Gr.refl _ _,OB _,[],dN.nil _ _,rfl⟩⟩,λβ x w15 hI=>?_⟩;obtain⟨i,rfl,hi,δ⟩:=hI;have x15:Ex w6 w15:=δ.gr.nil rfl;refine⟨λhlt=>?_,λhge=>?_⟩;rotate_left
 ·have hil:i=u.ths.length:=by simp only [OF]at hge;omega
  rw [hil]at δ;obtain⟨acc,h1,h2⟩:=δ.ex;exact hR2 acc h2 _ w15 (Ex.trans x6 x15) (h1.mono x6.size)
 have ν:i< t.ths.length:=by simp only [OK]at hlt;omega
 have ε:i< u.ths.length:=by omega
 have ζ:=Oz ν;have hmiu:=Oz ε;have two1:=ia (su.two.get ν ε);have hlo:=two1.len;have hacc1:=hlE i (by omega);have ek:(List.range (i+1)).flatMap (kQ (jP u n) u)=(List.range i).flatMap (kQ (jP u n) u)++kQ (jP u n) u i:=by rw [Qw,Pt];simp
 have eE0:kQ (jP u n) u i=(offs u.ths[i]).flatMap (jP u n i):=by unfold kQ;rw [aR ε]
 refine hv5.get x15 (i:=i) (x:=t.ths[i].text) (by omega) (by simp [ν]) (Q:=λn=>_) (jU _ (OB _) (okth _ ζ) (su.smpP _ ζ) (by have :=(ω _ ζ).1;omega) λv21 w22 xs x22 o21 m21=>?_);have h22:=(δ.FK x22).start;have n21:∀g,v21.ownBlock=some g->β.ownBlock≠some g:=λg hg e=>by
  have h1:=(o21.block g hg).1;have h2:=δ.lt g e;omega
 obtain⟨a23,cap23,ξ⟩:=o21.slice;have hm1:=@tN t.ths.length i (by omega);generalize hA:(List.range i).flatMap (kQ (jP u n) u)=A at*;have hol1:=hol i ε;refine⟨a23,_,cap23,ξ,λout x w'=>∃j:Nat,x=j/\j<=(offs t.ths[i]).length/\qC w6.heap.size w22 β want out w' (A++((offs u.ths[i]).take j).flatMap (jP u n i)),λ _ x _=>((offs t.ths[i]).length - x).toNat,⟨0,rfl,Pn _,by simpa using h22⟩,λout2 x w31 hI=>?_⟩;obtain⟨j,rfl,hj,ο⟩:=hI;refine⟨λhlt2=>?_,λhge2=>?_⟩;rotate_left
 ·have hjl:j=(offs u.ths[i]).length:=by simp only [OF]at hge2;omega
  rw [hjl,O4,<-eE0,<-ek]at ο;exact⟨by omega,⟨i+1,by omega,by omega,(δ.FK x22).back ο⟩,hm1⟩
 have hjP:j< (offs t.ths[i]).length:=by simp only [OK]at hlt2;omega
 have hjU:j< (offs u.ths[i]).length:=by omega
 have hm2:=@tN (offs t.ths[i]).length j hjP;have hae:=two1.get hjP hjU;have hmP:=Oz hjP;have hmU:=Oz hjU;obtain⟨g,capg,cs,hvg,G,J⟩:=pJ (o21.gr ο.gr n21) m21 hjP;obtain⟨kk,ca,cb,cs3,cq,rfl⟩:=G.any;have etk:((offs u.ths[i]).take (j+1)).flatMap (jP u n i)=((offs u.ths[i]).take j).flatMap (jP u n i)++jP u n i (offs u.ths[i])[j]:=by rw [OC hjU,Pt];simp
 have hacc2:(A++((offs u.ths[i]).take j).flatMap (jP u n i)).length<=4000:=by
  have h1:=fO (mJ u n i) ((offs u.ths[i]).take j);rw [Pd]at h1;rw [Oy];omega
 rw [ξ]at hvg;refine⟨g,0,_,capg,ξ.trans hvg,by omega,by omega,kk,ca,cb,cs3,cq,⟨J 0 _ rfl _ (by omega) (by omega),J 1 _ rfl _ (by omega) (by omega),J 2 _ rfl _ (by omega) (by omega),J 3 _ rfl _ (by omega) (by omega),J 4 _ rfl _ (by omega) (by omega),trivial⟩,λb41 w42 hb41 hw42=>?_⟩;obtain⟨box1,nt⟩:=Ji (cs:=dY kk ca cb cs3 cq) rfl rfl hb41 hw42;refine⟨⟨rfl,qj,box1⟩,λς hw43=>?_⟩;obtain⟨x43,l43,c43⟩:=nt ς hw43;have υ:=ο.FK x43;have x643:Ex w6 ς:=Ex.trans ((δ.gr.ex x22).trans ο.gr |>.nil rfl) x43;have α:∀{w':World},Ex ς w'->∀{n:Nat} {v:Value},n< 5->(dY kk ca cb cs3 cq)[n]?=some v->w'.cell? ⟨b41,n,none⟩=some v:=λ{w'} x {n v} hn hv=>by rw [x.cell (a:=⟨b41,n,none⟩) l43,c43 n hn];exact hv
 generalize hA2:A++((offs u.ths[i]).take j).flatMap (jP u n i)=A2 at*;have H:∀{v:Value} {w':World},qC w6.heap.size w22 β want v w' (A2++jP u n i (offs u.ths[i])[j])->bG ((j:Int)+1)/\(∃j':Nat,(j:Int)+1=j'/\j'<=(offs t.ths[i]).length/\qC w6.heap.size w22 β want v w' (A++((offs u.ths[i]).take j').flatMap (jP u n i)))/\(((offs t.ths[i]).length:Int) - ((j:Int)+1)).toNat< (((offs t.ths[i]).length:Int) - j).toNat:=λ{v w'} h=>by
  refine⟨by omega,⟨j+1,by omega,by omega,?_⟩,hm2⟩;rw [etk,<-Pe,hA2];exact h
 have hin:∀e∈jP u n i (offs u.ths[i])[j],e∈nv (jP u n) u:=λe he=>KU ε hmU he
 generalize (offs t.ths[i])[j]=oP at*;generalize (offs u.ths[i])[j]=oU at*;cases oP<;>cases oU<;>try exact hae.elim
 ·obtain⟨_,_,_,G⟩:=G;unfold dY at G;simp only [Po,PF,Qz,Qe]at G;have e1:kk=126:=OU.1 (by omega);subst e1;exact⟨λ _=>False,⟨126,α (Ex.refl _) (by omega) rfl,(λh=>by cases h),λ _=>H (by rw [show jP u n i (.tau _)=[]from rfl,O5];exact υ)⟩,λ _ h=>h.elim⟩
 ·obtain⟨_,G⟩:=G;unfold dY at G;simp only [Po,PF,Qz,Qe]at G;have e1:kk=33:=OU.1 (by omega);subst e1;exact⟨λ _=>False,⟨33,α (Ex.refl _) (by omega) rfl,(λh=>by cases h),λ _=>H (by rw [show jP u n i (.snd _ _ _)=[]from rfl,O5];exact υ)⟩,λ _ h=>h.elim⟩
 rename_i ca' cb' p s c x p' s';have G:=G.symm.symm;unfold xe dY at G;simp only [Po,PF,Qv,RM,Qz,Qe]at G;have e1:kk=63:=OU.1 (by omega);have e2:cs3=p.text:=m9 G.2.2.2.1;have e3:ca=ca':=OU.1 (by omega);have e4:cb=cb':=OU.1 (by omega);have e5:cq=s:=G.2.2.2.2;subst e1 e2 e3 e4 e5;obtain⟨sU,_⟩:=aC (su.smp _ hmiu) _ hmU;have ec:ca=asg u.frL t.frL ρ0 c:=OU.1 hae.1;obtain⟨oc1,oc2⟩:=su.own ⟨_,hmiu,sU.fr c (.inl rfl)⟩;rw [<-ec]at oc1 oc2;have eE:jP u n i (.rcv c x p' s')=if c∈u.frL then []else [([ρ0 c,63,n],if lt n=true then cL (Az u i p' x s' (e0 n))else none)]:=rfl
 obtain⟨res,ι⟩:∃res:Option Tx,res=if lt n=true then cL (Az u i p' x s' (e0 n))else none:=⟨_,rfl⟩
 rw [<-ι]at eE;have κ:wt want ([ca,63,n],res)=(decide (ov=0)||decide (ca=ov)):=by
  unfold wt;rw [hwant];by_cases h0:ov=0
  ·simp [h0]
  ·simp [h0]
 have skp:wt want ([ca,63,n],res)=false->c∉u.frL->qC w6.heap.size w22 β want out2 ς (A2++jP u n i (.rcv c x p' s')):=λh h'=>by
  rw [eE,OP h',<-(oc2 h').1];exact υ.skip h
 refine⟨λw'=>c∉u.frL/\wt want ([ca,63,n],res)=true/\w'=ς,⟨63,α (Ex.refl _) (by omega) rfl,λ _=>⟨ca,α (Ex.refl _) (by omega) rfl,dZ hfl ⟨λhout=>?_,λhin'=>H ?_⟩⟩,(λh=>by cases h)⟩,λγ hJ=>?_⟩
 ·have μ:c∉u.frL:=λh=>by simp [oc1.2 h]at hout
  refine⟨λhz=>⟨ca,α (Ex.refl _) (by omega) rfl,λhne=>H (skp ?_ μ),λheq=>⟨μ,?_,rfl⟩⟩,λhz=>⟨μ,?_,rfl⟩⟩
  ·rw [κ];simp at hz hne;simp [hz,hne]
  ·rw [κ];simp at hz heq;simp [heq]
  ·rw [κ];simp at hz;simp [hz]
 ·rw [eE,O' (oc1.1 (by simpa using hin')),O5];exact υ
 obtain⟨μ,κ,rfl⟩:=hJ;obtain⟨ec2,hc26⟩:=oc2 μ;rw [OP μ,<-ec2]at eE;rw [eE]at H hin;have hbad:res=none->∀w',Ex γ w'->R (.slice none 0 0) false w':=λhr w' x'=>hR1 ⟨_,hin _ (OL.2 rfl),κ,hr⟩ w' (Ex.trans (Ex.trans x6 x643) x')
 refine⟨λφ=>?_,λφ=>?_⟩
 ·refine hbad ?_ _ (Ex.refl _);have φ:122< n:=by simpa using φ
  have Z:lt n=false:=by
   unfold lt;have:¬n<=122:=UInt8.not_le.2 φ;simp [this]
  rw [ι,Z];rfl
 have Z:lt n=true:=ho.resolve_right (by simpa using φ);rw [O' Z]at ι;obtain⟨f1,f2⟩:=HB Z;have sP:=(aC (su.smpP _ ζ) _ hmP).1;have h1:=sP.size;have h2:=(ω _ ζ).1;simp only [Off.tm,T.size]at h1;obtain⟨p1,p2,p3⟩:=GG (sP.al _ (su.al _ ζ)).2.2 (by omega);have hpt:=ch p;have hwl:=lF t.ths i i;refine⟨λr w'=>∃q2,dq 0 p cb 90 q2/\Ex γ w'/\Own γ.heap.size w' r ((wo t.ths i i++[q2]).map T.text),⟨λw'=>Ex γ w',λw53 hw53=>?_⟩,λr69 w70 hJ=>?_⟩
 ·have η:Ex γ w53:=hw53▸Ex.drew γ;refine⟨η,p.text,λw' x=>α x (by omega) rfl,cb,λw' x=>α x (by omega) rfl,?_⟩;refine eH (hv5.ex (Ex.trans x643 η)) (by rw [OM];omega) λv56 w57 x57 o57=>⟨Ex.trans η x57,dz _ (OB _) p1 p2 p3 (by decide) (HC 0) λq2 w59 x59 χ=>⟨Ex.trans (Ex.trans η x57) x59,λb60 w61 hb60 hw61=>?_⟩⟩
  have x61:Ex w59 w61:=hw61▸Ex.alloc w59 _;have θ:=Ex.trans x57 (Ex.trans x59 x61);refine⟨Ex.trans η θ,sC (o57.ex (Ex.trans x59 x61)) θ.size (Strs.one hb60 hw61) ?_ λv67 w68 b68 o68=>?_⟩
  ·have :=lF (t.ths.map T.text) i i;rw [OM]at this;simp only [Ov,ON];omega
  ·have x68:=Ex.trans η (Ex.below θ b68);refine⟨x68,q2,χ,x68,?_⟩;rw [Pm,<-zn];exact o68.mono η.size
 obtain⟨q2,χ,x70,o69⟩:=hJ;refine⟨λr w'=>Ex γ w'/\Own γ.heap.size w' r ((kN t.ths i q2 cq t.ths[i]).map T.text),⟨cq,α x70 (by omega) rfl,λhs b73 w74 hb73 hw74=>?_,λhs=>⟨x70,?_⟩⟩,λr82 w83 hJ=>?_⟩
 ·have x74:Ex w70 w74:=hw74▸Ex.alloc w70 _;refine sC (o69.ex x74) (Pq x70.size x74.size) (Strs.one hb73 hw74) (by simp;omega) λv80 w81 b81 o81=>⟨Ex.below (Ex.trans x70 x74) b81,?_⟩
  unfold kN;rw [hs,O' rfl,Pm];exact o81
 ·unfold kN;rw [hs];simpa using o69
 obtain⟨x83,o82⟩:=hJ;obtain⟨oz,_⟩:=IS ok su ν ε hmP hmU hae χ rfl;have hil:(kN t.ths i q2 cq t.ths[i]).length<=62:=by
  unfold kN;have:(if cq then [t.ths[i]]else []).length<=1:=by cases cq<;>simp
  simp only [Oy,PM];omega
 refine B1 (a:=res) o82.strs (Iu (λr hr=>?_) (by omega)) oz.ok (fT Z) (oM Z 0) (λW2 hW=>?_) λs q w86 x86 e1 e2=>?_
 ·rcases pT ζ hr with rfl | h
  ·rw [gn χ.shp];omega
  ·exact(ω _ h).2
 ·rw [ι];exact Lx ok su ν ε hmP hmU hae χ f2 (by rw [f1];exact hW)
 have ψ:=Ex.trans x83 x86;cases res with
 | none=>
  subst e2;exact⟨λ _=>hbad rfl _ ψ,λh=>(by cases h)⟩
 | some s'=>
  subst e1 e2;refine⟨λh=>(by cases h),λ _=>⟨ca,α ψ (by omega) rfl,λb88 w89 hb88 hw89=>Hc [ca,63,n] hb88 hw89 (Ex.refl _) ?_⟩⟩;exact(υ.FK (Ex.trans ψ (hw89▸Ex.alloc w86 _))).push (by omega) κ λv102 w103 h=>H h
def Dy {t:P}(ok:fS t){w:World}{R:Value->Bool->Sb}(α:oN (num t e0 0).1=none->∀v w',Ex w w'->R v false w')(β:∀l,l.length<=13000000->oN (num t e0 0).1=some l->∀v w',Ex w w'->dN w.heap.size w' v (l.map λs=>([126],s))->R v true w'):
  Sc 91 #[.string (ak t.text)] w (aw [.v,.b] R):=by
 refine qT _ w R ?_;dsimp only [go_sem];dsimp only [go_sem,Nat.reduceAdd];refine Im ok (λe w1 Z=>⟨none,0,0,rfl,λv i w'=>v= .slice none 0 0/\i=0/\w1=w',λ _ _ _=>0,⟨rfl,rfl,rfl⟩,λv i w' hI=>?_⟩) λl e v1 w1 Z o1=>?_
 ·obtain⟨rfl,rfl,rfl⟩:=hI;exact⟨λh=>by simp at h,λ _=>α e _ _ Z⟩
 have hl:l.length<=13000000:=by
  unfold oN at e;split at e
  ·cases e;have h1:=vJ (aK (outs (eQ (num t e0 0).1)));have h2:=(aG (outs (eQ (num t e0 0).1))).length_eq;rw [u0]at h2;have γ:(num t e0 0).1.size<=60:=by have :=(fg ok.su.ae).2.2;have :=ok.size;omega
   have h3:=(lens γ).2.2.2.2.2 _ (OB _);have e:(List.range (num t e0 0).1.ths.length).flatMap (E0 (num t e0 0).1)=eQ (num t e0 0).1:=rfl;rw [e]at h3;omega
  ·cases e
 obtain⟨a,cap,hv⟩:=o1.strs.slice;refine⟨a,_,cap,hv,λv i w'=>∃k:Nat,i=k/\k<=l.length/\Ex w1 w'/\dN w1.heap.size w' v ((l.take k).map λs=>([126],s)),λ _ i _=>(l.length - i).toNat,⟨0,rfl,Pn _,Ex.refl _,dN.nil _ _⟩,λv i w' hI=>?_⟩;obtain⟨k,rfl,hk,H,o'⟩:=hI;refine⟨λδ=>?_,λε=>?_⟩
 ·have G:k< l.length:=by simp only [OK]at δ;omega
  refine o1.strs.get H (i:=k) (x:=l[k]) (by omega) (by simp [G]) (Q:=λn=>_) λb w2 hb J=>?_
  refine o'.push (p:=([126],l[k])) H.size hb J (by simp;omega) λv' w3 k1 k2 k3=>⟨by omega,⟨k+1,by omega,by omega,?_,?_⟩,tN G⟩
  ·have x2:Ex w' w2:=J▸Ex.alloc w' _;exact Ex.below (Ex.trans H x2) (Kp.below (Kp.aP (S:=λg=>v.ownBlock=some g) k2 λ _ e=>e) (Ex.trans H x2).size λb hb e=>by have :=(o'.block b e).1;omega)
  ·rw [OC G,Pm];exact k1
 ·have ζ:k=l.length:=by simp only [OF]at ε;omega
  rw [ζ,O4]at o';exact β l hl e _ _ (Ex.trans Z H) (o'.mono Z.size)
def nt {w w1:World}{g e:Nat}{cs:List Value}{c0:Array Value}(α:cs.length=2)(h0:c0.size=2)(hg:g=w.heap.size)(G:w1=w.alloc (.cells c0 e)):
  (∀j,j< 2->(∃u,w1.cell? ⟨g,0+j,none⟩=some u)/\w1.frozen? ⟨g,0+j,none⟩=false)/\∀H,H=World.setCells w1 g 0 cs->Ex w H/\g< H.heap.size/\∀j,j< 2->H.cell? ⟨g,j,none⟩=cs[j]?:=by
 have hc:∀j,j< 2->∃u,w1.cell? ⟨g,0+j,none⟩=some u:=λj J=>by
  rw [G,hg];have:∃u,c0[0+j]?=some u:=by
   rw [O6];exact⟨_,Q8 (by omega)⟩
  obtain⟨u,hu⟩:=this;exact⟨u,aa hu⟩
 refine⟨λj J=>⟨hc j J,by rw [G,hg];exact aU _ _ _ _⟩,λH Z=>?_⟩;obtain⟨k,_,_,sc⟩:=bg (b:=g) cs w1 0;rw [<-Z]at k sc;have x1:Ex w w1:=G▸Ex.alloc _ _;have s1:w1.heap.size=w.heap.size+1:=by rw [G,size_alloc]
 have s2:=k.size;refine⟨Ex.below x1 (Kp.below k x1.size λb hb e=>by omega),by omega,λj J=>?_⟩;have :=sc j (λi hi=>hc i (by omega)) (by omega)
 rwa [O6]at this
def iT {G:Tx}(h:isLab G=true):G=[126]\/∃a b,lt a=true/\lt b=true/\(G=[a,63,b]\/G=[a,33,b]\/G=[a,33,35,b]):=by
 match G,h with
 | [c],h=>left;simp only [isLab,OK]at h;rw [h]
 | [a,k,b],h=>
  simp only [isLab,OA,P0,OK]at h;obtain⟨⟨H,J⟩,Z⟩:=h;exact .inr ⟨a,b,J,Z,H.elim (λe=> .inr (.inl (by rw [e]))) λe=> .inl (by rw [e])⟩
 | [a,k,c,b],h=>
  simp only [isLab,OA,OK]at h;obtain⟨⟨⟨H,h4⟩,J⟩,Z⟩:=h;exact .inr ⟨a,b,J,Z,.inr (.inr (by rw [H,h4]))⟩
def pM {E:Nat->Off Nat->List Ev}{u:U}(hE:∀i x,(E i x).length<=1)(H:u.size<=60):(nv E u).length<=3600:=by
 obtain⟨Z,J,_⟩:=lens H;have h1:=gA (f:=kQ E u) (c:=60) (l:=List.range u.ths.length) λx G=>by
  have G:=PH.1 G;have h2:=fO (hE x) (offs (u.ths.getD x .nil));rw [aR G]at h2;have :=J x G;unfold kQ;rw [aR G];omega
 rw [Ql]at h1;unfold nv;omega
def M8 {z:Nat}(h:z< 26):e0 (ρ0 z)=z:=by unfold e0;rw [dA h];unfold σ0;omega
def SU.Af {t:P}{u:U}(su:SU t u){b:UInt8}(hb:lt b=true):t.Fr b↔u.Fr (e0 b):=by
 obtain⟨H,J⟩:=HB hb;constructor
 ·intro h;obtain⟨z,G,e⟩:=su.ae.free b h;have e:=OU.1 e;rw [<-e,M8 (su.fr z G)];exact G
 ·intro h;obtain⟨z,G,e⟩:=su.ae.symm.free _ h;have e:=OU.1 e;rw [H]at e;rw [<-e];exact G
def Kx {L:List Ev}{G:Tx}{acc:List (Tx×Tx)}(J:G≠[])(h:L.filter (wt G)=acc.map sm):acc.filter (λp=>decide (p.1=G))=acc/\acc.length<=L.length/\gQ L G=some (dd (aK ((acc.filter λp=>decide (p.1=G)).map Prod.snd))):=by
 have e:acc.filter (λp=>decide (p.1=G))=acc:=Qq.2 λp Z=>by
  have h1:sm p∈L.filter (wt G):=by rw [h];exact Qb Z
  have H:=(QE.1 h1).2;unfold wt at H;simp only [J,sm,decide_false,QU]at H;exact H
 refine⟨e,?_,by rw [e];exact Fg h⟩;have :=P' (wt G) L;rw [h,OM]at this;exact this
def Hp {t:P}(ok:fS t){G:Tx}(ζ:isLab G=true){w:World}{R:Value->Bool->Sb}(η:cX (num t e0 0).1 G=none->∀w',Ex w w'->R (.slice none 0 0) false w')
  (ο:∀l,cX (num t e0 0).1 G=some l->∀v w',Ex w w'->Own w.heap.size w' v l->R v true w'):Sc 43 #[.string (ak t.text),.string (ak G)] w (aw [.v,.b] R):=by
 refine u9 _ G w R ?_;dsimp only [go_sem];dsimp only [go_sem,Nat.reduceAdd];have su:=ok.su;have ς:Ok t:=Bg ok.al ok.good;have γ:(num t e0 0).1.size<=60:=by have :=(fg ok.su.ae).2.2;have :=ok.size;omega
 refine⟨λv q w'=>Ex w w'/\((q=false/\cX (num t e0 0).1 G=none)\/(q=true/\∃acc:List (Tx×Tx),acc.length<=13000000/\dN w.heap.size w' v acc/\cX (num t e0 0).1 G=some (dd (aK ((acc.filter λp=>decide (p.1=G)).map Prod.snd))))),⟨λJ=>?_,λH=>?_⟩,λv q w' hJ=>?_⟩
 ·have J:G=[126]:=by simpa using J
  have e:cX (num t e0 0).1 G=oN (num t e0 0).1:=O' J;refine Dy ok (λhn v w' x=>⟨x,.inl ⟨rfl,e.trans hn⟩⟩) λl hl hs v w' x o=>⟨x,.inr ⟨rfl,_,by simpa using hl,o,?_⟩⟩
  have h1:(l.map λs=>(([126]:Tx),s)).filter (λp=>decide (p.1=G))=l.map λs=>([126],s):=Qq.2 λp hp=>by
   obtain⟨s,_,rfl⟩:=Pf.1 hp;simp [J]
  have h2:(l.map λs=>(([126]:Tx),s)).map Prod.snd=l:=by rw [PZ];exact List.map_id _
  rw [h1,h2,e,hs];unfold oN at hs;split at hs
  ·cases hs;rw [I3]
  ·cases hs
 ·have H:G≠[126]:=by simpa using H
  have e0':∀{P:Prop},G≠[126]->P->P:=λ _ h=>h
  rcases iT ζ with h | ⟨a,b,ha,hb,h⟩
  ·exact absurd h H
  have δ:G≠[]:=by rcases h with rfl | rfl | rfl<;>simp
  have θ:¬used (num t e0 0).1 G->cX (num t e0 0).1 G=gQ (labL (num t e0 0).1 G) G:=λhu=>by unfold cX;rw [OP H,OP hu]
  have key:∀{L:List Ev} {acc:List (Tx×Tx)} {v:Value} {w':World},L.length<=3600->¬used (num t e0 0).1 G->labL (num t e0 0).1 G=L->L.filter (wt G)=acc.map sm->Ex w w'->dN w.heap.size w' v acc->Ex w w'/\((true=false/\cX (num t e0 0).1 G=none)\/(true=true/\∃acc:List (Tx×Tx),acc.length<=13000000/\dN w.heap.size w' v acc/\cX (num t e0 0).1 G=some (dd (aK ((acc.filter λp=>decide (p.1=G)).map Prod.snd))))):=λhL hu hl hf x o=>by
   obtain⟨k1,k2,k3⟩:=Kx δ hf;exact⟨x,.inr ⟨rfl,_,by omega,o,by rw [θ hu,hl,k3]⟩⟩
  have α:∀{L:List Ev} {w':World},¬used (num t e0 0).1 G->labL (num t e0 0).1 G=L->(∃e∈L,wt G e=true/\e.2=none)->Ex w w'->Ex w w'/\((false=false/\cX (num t e0 0).1 G=none)\/(false=true/\∃acc:List (Tx×Tx),acc.length<=13000000/\dN w.heap.size w' (.slice none 0 0) acc/\cX (num t e0 0).1 G=some (dd (aK ((acc.filter λp=>decide (p.1=G)).map Prod.snd))))):=λhu hl he x=>
   ⟨x,.inl ⟨rfl,by rw [θ hu,hl,Fw he]⟩⟩
  rcases h with rfl | rfl | rfl
  ·refine⟨λh=>by simp at h,λ _=>⟨by simp,λ _=>⟨λw'=>Ex w w',λw1 ε=>?_⟩,λh=>by simp [bt]at h⟩⟩;have Z:Ex w w1:=ε▸Ex.drew w;have υ:a≠0:=λe=>by rw [e]at ha;cases ha
   refine⟨Z,by simp,by simp,?_⟩;refine Di (n:=b) (ov:=a) ok (.inl hb) (want:=[a,63,b]) (by rw [OP υ]) (λh w' x=>⟨Ex.trans Z x,α id rfl h (Ex.trans Z x)⟩) λacc hf v w' x o=>⟨Ex.trans Z x,key (pM (mJ _ _) γ) id rfl hf (Ex.trans Z x) (o.mono Z.size)⟩
  ·refine⟨λh=>by simp at h,λ _=>⟨by simp,λh=>by simp [bt]at h,λ _=>?_⟩⟩;exact sD ok (o:=255) (.inr (by decide)) (λh w' x=>α id rfl h x) λacc hf v w' x o=>key (pM (gu _ _) γ) id rfl hf x o
  ·refine⟨λ _=>⟨λw'=>Ex w w',λw1 ε=>?_⟩,λh=>by simp at h⟩;have Z:Ex w w1:=ε▸Ex.drew w;refine⟨Z,by simp,iu _ (OB _) ς λs w2 x2 hs hm=>⟨Ex.trans Z x2,dZ ?_ ⟨Ex.trans Z x2,λφ=>?_,λι=>?_⟩⟩⟩
   ·have :=hs.bound;omega
   ·refine η ?_ _ (Ex.trans Z x2);unfold cX;rw [OP H,O'];exact(su.Af hb).1 ((hm b).1 (by simpa [bt]using φ))
   ·have hu:¬used (num t e0 0).1 [a,33,35,b]:=λh=>by
     have :=(hm b).2 ((su.Af hb).2 h);simp [bt,this]at ι
    refine⟨by simp,sD ok (o:=b) (.inl hb) (λh w' x=>α hu rfl h (Ex.trans (Ex.trans Z x2) x)) λacc hf v w' x o=>key (pM (gu _ _) γ) hu rfl hf (Ex.trans (Ex.trans Z x2) x) (o.mono (Ex.trans Z x2).size)⟩
 obtain⟨x',hJ⟩:=hJ;rcases hJ with⟨rfl,hn⟩ | ⟨rfl,acc,hal,o',hs⟩
 ·exact⟨λ _=>η hn _ x',λh=>(by cases h)⟩
 refine⟨λh=>(by cases h),λ _=>?_⟩;obtain⟨a,cap,hv⟩:=o'.slice;refine⟨a,_,cap,hv,λv2 i w2=>∃k:Nat,i=k/\k<=acc.length/\Ex w' w2/\Own w'.heap.size w2 v2 (((acc.take k).filter λp=>decide (p.1=G)).map Prod.snd),λ _ i _=>(acc.length - i).toNat,⟨0,rfl,Pn _,Ex.refl _,Own.nil _ _⟩,λv2 i w2 hI=>?_⟩;obtain⟨k,rfl,hk,x2,o2⟩:=hI;have κ:∀k,(((acc.take k).filter λp=>decide (p.1=G)).map Prod.snd).length<=13000000:=λk=>by
  have h1:=P' (λp:Tx×Tx=>decide (p.1=G)) (acc.take k);rw [OM];rw [Pd]at h1;omega
 refine⟨λχ=>?_,λψ=>?_⟩
 ·have β:k< acc.length:=by simp only [OK]at χ;omega
  obtain⟨g,μ,ω,hg,hc1,hc2⟩:=(o'.ex x2).get β;refine⟨g,0,_,μ,ω,by omega,by omega,acc[k].1,acc[k].2,⟨by rw [O6];exact hc1,by rw [O6];exact hc2,trivial⟩,λb w3 hb hw3=>?_⟩;obtain⟨bx1,bx2⟩:=nt (cs:=[.string (ak acc[k].1),.string (ak acc[k].2)]) rfl rfl hb hw3;refine⟨⟨rfl,rfl,bx1⟩,λw4 hw4=>?_⟩;obtain⟨x4,l4,c4⟩:=bx2 w4 hw4;have ν:=OC β;refine⟨acc[k].1,c4 0 (by omega),λheq=>⟨acc[k].2,c4 1 (by omega),λb5 w5 hb5 ξ=>?_⟩,λδ=>⟨by omega,⟨k+1,by omega,by omega,Ex.trans x2 x4,?_⟩,tN β⟩⟩
  ·have x5:Ex w4 w5:=ξ▸Ex.alloc w4 _;refine Own.push (o2.ex (Ex.trans x4 x5)) (Ex.trans x2 (Ex.trans x4 x5)).size (Strs.one hb5 ξ) (by have :=κ k;simp only [PM];omega) λv6 w6 b6 o6 _ _=>⟨by omega,⟨k+1,by omega,by omega,Ex.below (Ex.trans x2 (Ex.trans x4 x5)) b6,?_⟩,tN β⟩
   rw [ν,PD,Pm,QO (by exact heq)];exact o6
  ·rw [ν,PD,Pm,Qt (by simpa using δ)];simpa using o2.ex x4
 ·have hkl:k=acc.length:=by simp only [OF]at ψ;omega
  have :=κ k;rw [hkl,O4]at o2 this;exact uj o2.strs (by omega) λv3 w3 x3 o3=>ο _ hs _ _ (Ex.trans (Ex.trans x' x2) x3) (o3.mono (Ex.trans x' x2).size)
end
section
open T
def L1 (u:U)(nm:UInt8):nv (jP u nm) u=(jy u).flatMap λr=>jP u nm r.1 r.2:=by
 unfold nv jy;rw [List.flatMap_assoc]
 congr 1
 funext i
 unfold kQ nY;rw [List.flatMap_assoc]
 congr 1
 funext o
 cases o with
 | rcv a x q s=>
  show(if a∈u.frL then []else _)=List.flatMap _ (if a∈u.frL then []else [(i,Off.rcv a x q s)]);by_cases h:a∈u.frL
  ·rw [O' h,O' h];rfl
  ·rw [OP h,OP h,PE,List.flatMap_nil,O5];exact(OP h).symm
 | _=>rfl
def Jv {u:U}{r:Nat×Off Nat}(h:r∈jy u):∃(hi:r.1< u.ths.length) (a x:Nat) (q:U) (s:Bool),r.2= .rcv a x q s/\r.2∈offs u.ths[r.1]/\a∉u.frL:=by
 obtain⟨i,hi,h⟩:=Pk.1 h;rw [PH]at hi;unfold nY at h;rw [aR hi]at h;obtain⟨o,H,h⟩:=Pk.1 h;cases o with
 | rcv a x q s=>
  have h:r∈(if a∈u.frL then []else [(i,Off.rcv a x q s)]):=h;by_cases G:a∈u.frL
  ·rw [O' G]at h;cases h
  ·rw [OP G]at h;cases OL.1 h;exact⟨hi,a,x,q,s,rfl,H,G⟩
 | _=>cases h
def GC {u:U}(J:u.size<=60):(jy u).length<=3600:=by
 have H:=pU u;have Z:=gA (f:=nY u) (c:=60) (l:=List.range u.ths.length) λx G=>by
  have G:=PH.1 G;have h2:=fO (vX u x) (offs (u.ths.getD x .nil));rw [aR G]at h2;have h3:=fX u.ths[x];have h4:=bY u _ (Oz G);unfold nY;rw [aR G];omega
 rw [Ql]at Z;have :=Rl (show u.ths.length<=60 by omega) (OB 60);unfold jy;omega
def FE {t:P}{u:U}(hu:u=(num t e0 0).1){n0:Nat}(υ:n0=(num t e0 0).2)(ok:fS t)(su:SU t u)(J:u.size<=60){b s c:Nat}{w w1:World}{M D:Nat->Prop}(h:nO b s n0 c w w1 [] M){bl:Nat}(δ:w.cell? ⟨b,2,none⟩=some (ptr bl))(φ:az D w (td u) (ptr bl))(hD:∀g,D g->g≠b/\g< w.heap.size)
  {nm:UInt8} (Z:lt nm=true) (hc:n0+c<=4000000000) {R:Sb} (hR:∀w3 M' c',nO b s n0 c' w w3 (nv (jP u nm) u) M'->c'<=c+3600000->Rel b w1 M w3 M'->R w3):
  Sc 67 #[ptr b,ptr s,.int .u8 nm.toNat] w1 (aw [] R):=by
 refine ld (ptr b) (ptr s) nm w1 R ?_;dsimp only [go_sem];dsimp only [go_sem,UInt8.reduceOfNat];have hb:=h.hb;have s01:=h.km.size;have ε:∀{w':World},Km b w w'->w'.cell? ⟨b,2,none⟩=some (ptr bl):=λk=>(k.ce 2 (by omega)).trans δ
 have ζ:∀{w':World},Km b w w'->az D w' (td u) (ptr bl):=λk=>az.kp φ k.kp λg H=>(hD g H).1
 have hln:=GC J;have η:=a7 Z;have θ:e0 nm< 26:=by unfold e0;omega
 have χ:(nm - 97:UInt8).toNat=e0 nm:=gM Z;refine HM su J (ε h.km) (by omega) (ζ h.km) (λg H=>by have :=(hD g H).2;omega) λv w6 b2 l G x6 ι ψ κ o6 hG t6=>?_
 obtain⟨a,cap,hv⟩:=o6.slice;have h6:=h.ex x6;have ll:=t6.len;have s6:=x6.size;refine⟨a,_,cap,hv,λi w'=>∃(k:Nat) (M':Nat->Prop),i=k/\k<=l.length/\nO b s n0 (c+1000* k) w w' (((jy u).take k).flatMap λr=>jP u nm r.1 r.2) M'/\Rel b w6 M w' M',λi _=>(l.length - i).toNat,⟨0,M,rfl,Pn _,by simpa using h6,Rel.refl _ _ _⟩,λi w7 hI=>?_⟩;obtain⟨k,M7,rfl,hk,h7,r7⟩:=hI;refine⟨λη=>?_,λω=>?_⟩;rotate_left
 ·have hkl:k=(jy u).length:=by simp only [OF]at ω;omega
  rw [hkl,O4,<-L1]at h7;exact hR w7 M7 _ h7 (by omega) (((Rel.refl b w1 M).ex x6).trans r7)
 have α:k< l.length:=by simp only [OK]at η;omega
 have β:k< (jy u).length:=by omega
 have nS:∀g,w1.heap.size<=g->¬(g=b\/M g):=λg H e=>e.elim (λe=>by omega) λhM=>by have :=(h.rs.mr g hM).2;omega
 have nD:∀g,D g->¬(g=b\/M g):=λg H e=>e.elim (hD g H).1 λhM=>by have :=(hD g H).2;have :=(h.rs.mr g hM).1;omega
 have s7:=r7.1.size;have o7:=o6.kp r7.1 λg H=>nS g (o6.block g H).1
 have i7:ua D G b2 w7 l[k] (jy u)[k]:=(t6.get α β).kp r7.1 nD (λg H=>nS g (hG g H).1) λ _ h=>h
 obtain⟨e,x,q,sq,b3,b4,vq,gone,q1,q2,q3,q4,q5,q6,q7,q8,q9,q10⟩:=i7;obtain⟨γ,e',x',q',sq',f1,f2,f3⟩:=Jv (Oz β);rw [q1]at f1;cases f1;obtain⟨g,μ,hv2,hgl,ν,ξ⟩:=o7.get α;rw [q2]at ν ξ;refine⟨g,0,_,μ,hv2,by omega,by omega,(e:Int),_,⟨by rw [O6];exact ν,by rw [O6];exact ξ,trivial⟩,λb8 w8 hb8 hw8=>?_⟩;obtain⟨bx1,bx2⟩:=nt (cs:=[iv e,.func (.func 191) #[] #[.pointer (some ⟨b2,0,none⟩),.pointer (some ⟨b3,0,none⟩),.pointer (some ⟨b4,0,none⟩)]]) rfl rfl hb8 hw8;refine⟨⟨rfl,rfl,bx1⟩,λw9 hw9=>?_⟩;obtain⟨x9,l9,c9⟩:=bx2 w9 hw9;have h9:=h7.ex x9;have s9:=x9.size;have nb:∀g,w1.heap.size<=g->g≠b:=λg H e=>by omega
 have c2w:w7.cell? ⟨b2,0,none⟩=some (ptr b):=by rw [Ow (w:=w6) (r7.1.block b2 ψ (nS b2 ι))];exact κ
 refine⟨_,c9 1 (by omega),_,[.pointer (some ⟨b2,0,none⟩),.pointer (some ⟨b3,0,none⟩),.pointer (some ⟨b4,0,none⟩)],rfl,by kernel_rfl,?_⟩;have ek:((jy u).take (k+1)).flatMap (λr=>jP u nm r.1 r.2)=((jy u).take k).flatMap (λr=>jP u nm r.1 r.2)++jP u nm (jy u)[k].1 (jy u)[k].2:=by rw [OC β,Pt];simp
 rw [q1]at ek f2;have eE:jP u nm (jy u)[k].1 (.rcv e x q sq)=[([ρ0 e,63,nm],cL (Az u (jy u)[k].1 q x sq (e0 nm)))]:=by
  show(if e∈u.frL then []else [([ρ0 e,63,nm],if lt nm=true then _ else none)])=_;rw [OP f3,O' Z]
 rw [eE]at ek;have ο:e< 26:=by
  obtain⟨sU,_⟩:=aC (su.smp _ (Oz γ)) _ f2;exact((su.own ⟨_,Oz γ,sU.fr e (.inl rfl)⟩).2 f3).2
 have hEl:(((jy u).take k).flatMap λr=>jP u nm r.1 r.2).length<=3600:=by
  have h1:=fO (f:=λr:Nat×Off Nat=>jP u nm r.1 r.2) (λr=>mJ u nm r.1 r.2) ((jy u).take k);rw [Pd]at h1;omega
 have goal:=LZ hu υ su ok J h9 (ε h9.km) (ζ h9.km) hD γ f2 (b2:=b2) (b3:=b3) (b4:=b4) (vq:=vq) (gone:=gone) (by rw [x9.cell (a:=⟨b2,0,none⟩) (show b2< _ by omega)];exact c2w) (by omega) (nb _ ι) (by rw [x9.cell (a:=⟨b3,0,none⟩) q4];exact q7) (by omega) (nb _ (hG _ q3).1) (λj hj=>by rw [x9.cell (a:=⟨b4,j,none⟩) q6];exact q8 j hj) (by omega) (nb _ (hG _ q5).1) (az.ex q9 x9) ((q10.ex x9).sub λg H hGg=>⟨H,nb _ (hG _ hGg).1⟩) (nm:=e0 nm) θ (by omega) (R:=λtx qq w3=>∃ς:Int,w3.cell? ⟨b8,0,none⟩=some (.int .i64 ς)/\Sc 123 #[.int .i64 ς] w3 (aw [.s] fun(t5:aD) (w4:World)=>List.length t5+[(63:UInt8)].length<=4611686018427387904/\((0:Int)<=nm.toNat/\(nm.toNat:Int)< 128)/\List.length (t5++[63])+[UInt8.ofNat ((nm.toNat:Int)).toNat].length<=4611686018427387904/\Sc 122 #[ptr s,.string (ak (t5++[63]++[UInt8.ofNat ((nm.toNat:Int)).toNat])),.string (ak tx),.bool qq] w4 (aw [] λw5=>bG ((k:Int)+1)/\(∃(k':Nat) (M':Nat->Prop),(k:Int)+1=k'/\k'<=l.length/\nO b s n0 (c+1000* k') w w5 (((jy u).take k').flatMap λr=>jP u nm r.1 r.2) M'/\Rel b w6 M w5 M')/\((l.length:Int) - ((k:Int)+1)).toNat< ((l.length:Int) - k).toNat))) λtx qq w3 h3 k3 e1 e2=>?_
 ·rw [χ];exact goal
 ·refine⟨(e:Int),by rw [Ow (w:=w9) (k3.block b8 (by omega) (nb _ (by omega)))];exact c9 0 (by omega),pD ο ⟨by simp,⟨by omega,by omega⟩,by simp,?_⟩⟩;have elb:[ρ0 e]++[63]++[UInt8.ofNat ((nm.toNat:Int)).toNat]=[ρ0 e,63,nm]:=by
   rw [OG,UInt8.ofNat_toNat];rfl
  rw [elb,e1,e2];refine h3.add (by omega) ([ρ0 e,63,nm],cL (Az u (jy u)[k].1 q x sq (e0 nm))) λw5 M' r5 k5 hM'=>⟨by omega,⟨k+1,M',by omega,by omega,?_,?_⟩,tN α⟩
  ·rw [ek];exact r5.mono (by omega)
  ·have k9:Kp w7 w5 (λg=>g=b\/M7 g):=Kp.trans (Kp.trans (Kp.ab x9 _) (Kp.mono (λ _ h=> .inl h) k3) λ _ _ h=>h) k5 λ _ _ h=> .inr h
   have s3:=k3.size;exact r7.trans ⟨k9,λg H=>(hM' g H).imp id λh=>by omega⟩
end
section
open T Classical
def HV {u:U}{o H:UInt8}{G:Tx}(J:G.length=3):gQ (nv (bf u o) u) G=gQ (nv (bf u H) u) G:=by
 unfold gQ;rw [Kz u o H J]
def Kk {E:List Ev}{G:Tx}(Z:G≠[]):gQ E G=if G∈eW E then none else some (dd (aK (((eL E).filter λp=>decide (p.1=G)).map Prod.snd))):=by
 have hw:∀e:Ev,wt G e=decide (e.1=G):=λe=>by unfold wt;simp [Z]
 have h1:((E.filter (wt G)).all λe=>e.2.isSome)= !decide (G∈eW E):=by
  rw [PG];simp only [PL,QE,hw,OK,QA,OF];constructor
  ·intro h hm;obtain⟨e,he,rfl⟩:=Pf.1 hm;obtain⟨H,J⟩:=QE.1 he;have :=h e ⟨H,rfl⟩;cases h4:e.2<;>simp [h4]at this J
  ·rintro h e ⟨H,J⟩
   cases h4:e.2 with
   | some _=>rfl
   | none=>exact absurd (Pf.2 ⟨e,QE.2 ⟨H,by simp [h4]⟩,J⟩) h
 have H:(E.filter (wt G)).map (λe=>e.2.getD [])=((eL E).filter λp=>decide (p.1=G)).map Prod.snd:=by
  unfold eL;rw [List.filter_map,PZ]
  congr 1
  exact Rz λe _=>hw e
 unfold gQ;rw [h1,H];by_cases h:G∈eW E
 ·rw [O' h,OP (by simp [h])]
 ·rw [OP h,O' (by simp [h])]
def LA {t:P}(ok:fS t){w:World}{b:Nat}{D:Nat->Prop}(st:GY w D b (num t e0 0).2 t.text (td (num t e0 0).1))(hD:∀g,D g->g≠b/\g< w.heap.size){G:Tx}(γ:isLab G=true){R:Value->Bool->Sb}
  (μ:cX (num t e0 0).1 G=none->∀w',Kr b w w'->R (.slice none 0 0) false w') (ς:∀l,cX (num t e0 0).1 G=some l->∀v w',Kr b w w'->Own w.heap.size w' v l->R v true w'):Sc 46 #[ptr b,.string (ak G)] w (aw [.v,.b] R):=by
 have su:=ok.su;have hszt:=ok.size;have hsh:=(fg su.ae).2.2;have hn0:=(bO t e0 0).2;have hlenl:G.length<=4:=by
  rcases iT γ with rfl | ⟨_,_,_,_,rfl | rfl | rfl⟩<;>simp
 have hpos:1<=G.length:=by
  rcases iT γ with rfl | ⟨_,_,_,_,rfl | rfl | rfl⟩<;>simp
 have okl:=ok.len;have oal:=ok.al;obtain⟨u,hu⟩:∃u,u=(num t e0 0).1:=⟨_,rfl⟩
 obtain⟨n0,ν⟩:∃n0,n0=(num t e0 0).2:=⟨_,rfl⟩
 rw [<-hu]at su hsh μ ς;have δ:u.size<=60:=by omega
 refine oB (ptr b) G w R ?_;dsimp only [go_sem];dsimp only [go_sem,Nat.reduceAdd];intro bs w1 α β;have x1:Ex w w1:=β▸Ex.alloc _ _;have s1:w1.heap.size=w.heap.size+1:=by rw [β,size_alloc]
 have hb:=st.mc.lt;have st0:=st;rw [<-hu]at st;obtain⟨vl,Z,ε⟩:=st.l;obtain⟨bl,vo,vt,ts,rfl,k2,k3,k4,k5,k6,k7,k8,k9⟩:=qe su ε;have hS:nO b bs n0 0 w w1 [] (λg=>g=bs):=by
  refine⟨Km.ex x1 hb,⟨by omega,rfl,λg e=>by omega,λj=>by rw [β,α];exact aU _ _ _ _,by rw [β,α];exact aa rfl,.slice none 0 0,.slice none 0 0,[],by rw [β,α];exact aa rfl,by rw [β,α];exact aa rfl,rfl,aM.nil _ _ _,Own.nil _ _,λg hg=>(by cases hg),λg hg=>(by cases hg),λi hi=>(by cases hi),P3⟩,⟨_,by rw [ν];exact st.mc.ex x1,OB _,by simp⟩,hb⟩
 refine⟨by omega,⟨by omega,by omega⟩,λw'=>∃c' E M,nO b bs n0 c' w w' E M/\E.length<=3600/\cX u G=gQ E G/\G≠[],⟨λζ=>?_,λJ=>?_⟩,λw2 hJ=>?_⟩
 ·have ζ:G=[126]:=by simpa using ζ
  have e:cX u G=oN u:=O' ζ;have st1:GY w1 D b (num t e0 0).2 t.text (td (num t e0 0).1):=by
   rw [<-hu];exact⟨st.mc.ex x1,by rw [x1.cell (a:=⟨b,1,none⟩) hb];exact st.tx,ptr bl,by rw [x1.cell (a:=⟨b,2,none⟩) hb];exact Z,az.ex ε x1⟩
  have kw:∀{w':World},Kr b w1 w'->Kr b w w':=λk=>Kp.trans (Kp.ab x1 _) k λ _ _ h=>h
  exact Ir ok st1 (λg hg=>⟨(hD g hg).1,by have :=(hD g hg).2;omega⟩) (λhn w' k=>μ (by rw [e,hu];exact hn) w' (kw k)) λl hl v w' k sv=>ς l (by rw [e,hu];exact hl) v w' (kw k) (sv.mono (by omega))
 ·have J:G≠[126]:=by simpa using J
  obtain⟨a,b',ha,H,hl⟩:=(iT γ).resolve_left J;have ξ:G≠[]:=by rcases hl with rfl | rfl | rfl<;>simp
  have υ:¬used u G->cX u G=gQ (labL u G) G:=λh=>by unfold cX;rw [OP J,OP h]
  have φ:n0+0<=4000000000:=by omega
  have ο:∀{nm:UInt8} {w3:World} {M':Nat->Prop},nO b bs n0 (0+1000* (nv (bf u nm) u).length) w w3 (nv (bf u nm) u) M'->cX u G=gQ (nv (bf u nm) u) G->∃c' E M,nO b bs n0 c' w w3 E M/\E.length<=3600/\cX u G=gQ E G/\G≠[]:=λh3 e=>⟨_,_,_,h3,pM (gu u _) δ,e,ξ⟩
  rcases hl with rfl | rfl | rfl
  ·refine⟨by simp,λ _=>?_,λh=>by simp [bt]at h⟩;exact FE (nm:=b') hu ν ok su δ hS Z ε hD H φ λw3 M' c' h3 _ _=>⟨c',_,M',h3,pM (mJ u _) δ,υ id,ξ⟩
  ·refine⟨by simp,λh=>by simp [bt]at h,λ _=>⟨by simp,λh=>?_,λ _=>?_⟩⟩
   ·have h:b'=35:=by simpa [bt]using h
    rw [h]at H;cases H
   ·exact xO (nm:=97) hu ν ok su δ hS Z ε hD (by decide) φ λw3 M' h3 _=>ο h3 (by rw [υ id];exact HV rfl)
  ·refine⟨by simp,λh=>by simp [bt]at h,λ _=>⟨by simp,λ _=>?_,λh=>by simp [bt]at h⟩⟩;refine⟨b,0,rfl,t.text,by rw [x1.cell (a:=⟨b,0+1,none⟩) hb];exact st.tx,Ij oal (by omega) (by omega) λy w2 x2 hy=>uy (c:=b') ⟨λχ=>?_,λη=>?_⟩⟩
   ·have χ:¬(y &&& pK b'=0):=by simpa using χ
    have h1:=hy b' H;rw [P9 χ]at h1;have hf:t.Fr b':=by simpa using h1.symm
    refine μ ?_ w2 (Kp.ab (Ex.trans x1 x2) _);unfold cX;rw [OP J,O' (show used u [a,33,35,b']from(su.Af H).1 hf)]
   ·have η:y &&& pK b'=0:=by simpa using η
    have h1:=hy b' H;rw [P2 η]at h1;have hf:¬t.Fr b':=by simpa using h1.symm
    exact xO (nm:=b') hu ν ok su δ (hS.ex x2) Z ε hD H φ λw3 M' h3 _=>ο h3 (υ λh=>hf ((su.Af H).2 h))
 obtain⟨c',E,M,h2,hE,hw,ξ⟩:=hJ;obtain⟨ψ,vw,rs,q1,q2,q3,q4,q5,q6,q7,q8,_⟩:=h2.rs.ex;have heL:(eL E).length=E.length:=by unfold eL;simp
 have heW:(eW E).length<=E.length:=by unfold eW;rw [OM];exact P' _ _
 have α:=h2.rs.lt;refine⟨λtv w'=>∃br,tv=ptr br/\Ex w2 w'/\Cw w2.heap.size w' br [] (decide (G∈eW E)) (λg=>g=br),⟨false,h2.rs.c2,λ _=>⟨vw,q2,JD q5.strs (by omega) λbr w3 ω θ=>?_⟩,λh=>(by cases h)⟩,λtv w3 hJ=>?_⟩
 ·have x3:Ex w2 w3:=θ▸Ex.alloc _ _;have s3:w3.heap.size=w2.heap.size+1:=by rw [θ,size_alloc]
  exact⟨br,rfl,x3,by omega,rfl,λg e=>by omega,λj=>by rw [θ,ω];exact aU _ _ _ _,by rw [θ,ω];exact aa rfl,.slice none 0 0,by rw [θ,ω];exact aa rfl,Own.nil _ _,λg hg=>by cases hg⟩
 obtain⟨br,rfl,x3,r3⟩:=hJ;obtain⟨al,capl,hvl⟩:∃a cap,ψ= .slice a (eL E).length cap:=by
  rcases q4.2 with⟨rfl,hn⟩ | ⟨g,cap,cur,rfl,_⟩
  ·exact⟨none,0,by rw [<-q3,hn]⟩
  ·exact⟨_,cap,by rw [q3]⟩
 have hfl:∀k,(((eL E).take k).filter λp=>decide (p.1=G)).length<=3600:=λk=>by
  have h1:=P' (λp:Tx×Tx=>decide (p.1=G)) ((eL E).take k);rw [Pd]at h1;omega
 refine⟨ψ,by rw [x3.cell (a:=⟨bs,0,none⟩) α];exact q1,al,_,capl,hvl,λi w'=>∃(k:Nat) (M':Nat->Prop),i=k/\k<=(eL E).length/\Ex w2 w'/\Cw w2.heap.size w' br ((((eL E).take k).filter λp=>decide (p.1=G)).map Prod.snd) (decide (G∈eW E)) M',λi _=>((eL E).length - i).toNat,⟨0,_,rfl,Pn _,x3,by simpa using r3⟩,λi w4 hI=>?_⟩;obtain⟨k,M',rfl,hk,x4,r4⟩:=hI;refine⟨λhlt=>?_,λhge=>?_⟩
 ·have ι:k< (eL E).length:=by simp only [OK]at hlt;omega
  obtain⟨g,p1,p2,p3,p4,p5,p6⟩:=q8 k ι;obtain⟨z1,z2,z3,_⟩:=p6;obtain⟨gl,κ,hv2,hg2,hc2⟩:∃gl κ,ψ= .slice (some ⟨gl,0,none⟩) (eL E).length κ/\gl< w2.heap.size/\w2.cell? ⟨gl,k,none⟩=some (.slice (some ⟨g,0,none⟩) 2 2):=by
   rcases q4.DO (D:=λ _=>True) λ _ _=>trivial with⟨_,h0⟩ | ⟨b0,o0,c0,e0',_,l0,hc⟩
   ·rw [h0]at q3;simp at q3;omega
   ·rcases q4.2 with⟨h0,_⟩ | ⟨g',cap',cur,e1,_⟩
    ·rw [h0]at hvl;rw [e0']at h0;cases h0
    ·rw [e1]at e0';cases e0';exact⟨_,_,by rw [e1,q3],l0,by have :=hc k _ p1;rwa [O6]at this⟩
  refine⟨gl,0,_,κ,hv2,by omega,by omega,_,by rw [x4.cell (a:=⟨gl,_,none⟩) hg2,O6,O8];exact hc2,g,0,2,2,rfl,by omega,by omega,_,by rw [x4.cell (a:=⟨g,_,none⟩) z1];exact z2,λheq=>⟨g,0,2,2,rfl,by omega,by omega,_,by rw [x4.cell (a:=⟨g,_,none⟩) z1];exact z3,H0 r4 (by rw [OM];have :=hfl k;omega) λw5 M5 k5 r5 hM5=>⟨by omega,⟨k+1,M5,by omega,by omega,Ex.below x4 (Kp.below k5 x4.size λg hg hM=>by have :=(r4.mr g hM).1;omega),?_⟩,tN ι⟩⟩,λhn=>⟨by omega,⟨k+1,M',by omega,by omega,x4,?_⟩,tN ι⟩⟩
  ·rw [OC ι,PD,Pm,QO (by exact heq)];simpa using r5
  ·rw [OC ι,PD,Pm,Qt (by simpa using hn)];simpa using r4
 ·have hkl:k=(eL E).length:=by simp only [OF]at hge;omega
  have hf:=hfl k;rw [hkl,O4]at r4 hf;have pe:=hw.trans (Kk ξ);have kr:Kr b w w4:=Kp.trans h2.km.kp (Kp.ab x4 λ _=>False) λ _ _ h=>h.elim
  have s2:=h2.km.size;refine CR r4 (by rw [OM];omega) (λH=>μ (by rw [pe,O' (OW H)]) w4 kr) λH v' w5 k5 o5 hv'=>ς _ (by rw [pe,OP (OX H)]) v' w5 (Kp.trans kr k5 λg hg hM=>by have :=(r4.mr g hM).1;omega) (o5.mono (by omega))
def Mn {f:Nat}{ca:List Value}{w:World}{v:Value}{l:List Tx}(h:Strs w v l)(hl:l.length<=1099511627776)(hf:hasR gN f=true)(J:Tx->Prop)
  (hp:∀s∈l,∀(w':World) (Q:Bool->Sb),Ex w w'->(∀w2,Ex w' w2->Q (decide (J s)) w2)->Sc f (List.toArray ([.string (ak s)]++ca)) w' (aw [.b] Q))
  {R:Int->Sb} (hR:∀w',Ex w w'->(∀(j:Nat) (h:j< l.length),J l[j]->(∀s∈l.take j,¬J s)->R j w')/\((∀s∈l,¬J s)->R (-1) w')):
  Sc 103 #[v,.func (Fn.func f) #[] ca.toArray] w (aw [.i] R):=by
 refine im v _ w _ ?_;dsimp only [go_sem];dsimp only [go_sem,Nat.reduceAdd];obtain⟨ao,cap,hv⟩:=h.slice;refine⟨ao,_,cap,hv,λi w'=>∃j:Nat,i=j/\j<=l.length/\Ex w w'/\∀s∈l.take j,¬J s,λi _=>(l.length - i).toNat,⟨0,rfl,Pn _,Ex.refl w,by simp⟩,λi w' hI=>?_⟩;obtain⟨j,rfl,hj,x,hm⟩:=hI;refine⟨λα=>?_,λβ=>?_⟩
 ·have G:=oL α;refine h.get x (Q6 j) (gE G) (Q:=λn=>_) ⟨f,ca,rfl,hf,?_⟩;refine hp _ (Oz G) _ _ x λw2 x2=>⟨λhe=>?_,λH=>?_⟩
  ·exact(hR w2 (Ex.trans x x2)).1 j G (by simpa using he) hm
  ·have H:¬J l[j]:=by simpa using H
   refine⟨by omega,⟨j+1,by omega,by omega,Ex.trans x x2,λs Z=>?_⟩,tN (by omega)⟩;rw [OC G,OH,OL]at Z;exact Z.elim (hm s) λe=>e▸H
 ·have:j=l.length:=by simp only [OF]at β;omega
  rw [this,O4]at hm;exact(hR w' x).2 hm
end
end Go.Proofs.YthekamjhgabkjaaGreat
