/- Part 4 of a proof of what the last text states; no condition. -/
import Derived.Test.YthekamjhgabkjaaGreatAe3
set_option maxRecDepth 100000
set_option maxHeartbeats 4000000
set_option linter.defProp false
set_option linter.unusedVariables false
set_option linter.unusedSimpArgs false
namespace Go.Proofs.YthekamjhgabkjaaGreat
open Go Go.RowKit
def Bn {B:Nat}{v:Value}{o:List Nat}{Inv:List (List Nat)->Sb}{f:Nat}{ca:List Value}(hf:hasR gN f=true)(ο:Oo B v o Inv f ca)(hinv:∀acc w w',Inv acc w->Kp w w' (λg=>v.ownBlock=some g)->Inv acc w')(ho:o.length<=1099511627776):
  ∀(d:Nat) (a:Nat) (π:List Nat) (acc:List (List Nat)) (w:World),a+d=π.length->Inv acc w->aM 3 B w v (π.map iv)->π.Perm o->∀{R:Sb},
   (∀w' θ,Inv (acc++θ) w'->aM 3 B w' v (π.map iv)->(∀σ,σ∈θ↔∃τ:List Nat,τ.Perm (π.drop a)/\σ=π.take a++τ)->R w')->
   Sc 225 #[v,iv a,.func (.func f) #[] (List.toArray ca)] w (aw [] R)
 | 0,a,π,acc,w,hd,hI,hw,hp,R,hR=>by
  refine lu v a _ w R ?_;dsimp only [go_sem];obtain⟨ad,cap,hv⟩:=(hw.DO (D:=λ _=>True) λ _ _=>trivial).slice;rw [OM]at hv;refine⟨ad,_,cap,hv,df (by omega) ⟨f,ca,rfl,hf,?_⟩⟩;rw [Pv];refine ο acc π w hI hw hp λw' hI' hw'=>hR w' [π] hI' hw' λσ=>?_
  rw [show a=π.length by omega,Qd,O4];simp only [OL,List.perm_nil];constructor
  ·rintro rfl;exact⟨[],rfl,by simp⟩
  ·rintro⟨τ,rfl,rfl⟩;simp
 | d+1,a,π,acc,w,hd,hI,hw,hp,R,hR=>by
  refine lu v a _ w R ?_;dsimp only [go_sem];dsimp only [go_sem,Nat.reduceAdd];have ha:a< π.length:=by omega
  have hpl:=hp.length_eq;obtain⟨g,cap,hv⟩:∃g cap,v= .slice (some ⟨g,0,none⟩) π.length cap:=by
   rcases hw.2 with⟨_,h0⟩ | ⟨g,cap,cur,hv,_⟩
   ·rw [OM]at h0;omega
   ·rw [OM]at hv;exact⟨g,cap,hv⟩
  subst hv;have kg:∀{w1 w2:World} {j:Nat} {x:Value},w2=w1.setCell ⟨g,j,none⟩ x->Kp w1 w2 (λb=>(Value.slice (some ⟨g,0,none⟩) π.length cap).ownBlock=some b):=λh=>h▸Kp.mono (λb hb=>by rw [hb];rfl) (Kr.set _ _ _)
  refine⟨_,_,cap,rfl,aW (by omega) ⟨λi w'=>∃(j:Nat) (G:List (List Nat)),i=j/\a<=j/\j<=π.length/\Inv (acc++G) w'/\aM 3 B w' (.slice (some ⟨g,0,none⟩) π.length cap) (π.map iv)/\∀σ,σ∈G↔∃i,∃hi:i< π.length,(a<=i/\i< j)/\∃τ:List Nat,τ.Perm ((swp π a i ha hi).drop (a+1))/\σ=(swp π a i ha hi).take (a+1)++τ,
   λi _=>(π.length - i).toNat,⟨a,[],rfl,OB _,by omega,by rw [O5];exact hI,hw,λσ=>⟨λh=>(by cases h),fun⟨i,_,h,_⟩=>by omega⟩⟩,λi κ hJ=>?_⟩⟩
  obtain⟨j,G,rfl,ς,hjl,υ,ε,ι⟩:=hJ;refine⟨_,_,cap,rfl,λhlt=>?_,λhge=>?_⟩;rotate_left
  ·have:j=π.length:=by simp only [OF]at hge;omega
   refine hR κ G υ ε λσ=>?_
   rw [ι,<-Jp π a ha];constructor
   ·rintro⟨i,hi,⟨h1,_⟩,h2⟩;exact⟨i,hi,h1,h2⟩
   ·rintro⟨i,hi,h1,h2⟩;exact⟨i,hi,⟨h1,by omega⟩,h2⟩
  have H:=oL hlt;obtain⟨cj,fj,hgb,_⟩:=ε.at H;obtain⟨ca',fa,_,_⟩:=ε.at ha;obtain⟨s1,s2,s3⟩:=mv π a j ha H ς;refine⟨λw'=>aM 3 B w' (.slice (some ⟨g,0,none⟩) π.length cap) (π.map iv),λw18 φ=>?_⟩;have χ:Ex κ w18:=φ▸Ex.drew κ;have ζ:=ε.kp (Kp.ab χ λ _=>False) λ _ _ h=>h
  have I18:=hinv _ _ _ υ (Kp.ab χ _);refine⟨ζ,g,0,_,cap,rfl,by omega,by omega,π[j],λw' ho=>by rw [OG,O8];exact(ho.at H).1,g,0,_,cap,rfl,by omega,by omega,π[a],λw' ho=>by rw [OG,O8];exact(ho.at ha).1,g,0,_,cap,rfl,by omega,by omega,⟨⟨_,by rw [OG,O8];exact(ζ.at ha).1⟩,by rw [OG,O8];exact(ζ.at ha).2.1⟩,λw34 α=>?_⟩;rw [OG,O8,O6]at α;have μ:=ζ.set α (by simpa using ha);rw [<-Rp]at μ;have ψ:j< (π.set a π[j]).length:=by rw [PW];exact H
  obtain⟨c34,f34,_,_⟩:=μ.at ψ;refine⟨g,0,_,cap,rfl,by omega,by omega,⟨⟨_,by rw [OG,O8];exact c34⟩,by rw [OG,O8];exact f34⟩,λω β=>⟨by omega,?_⟩⟩;rw [OG,O8,O6]at β;have o40:=μ.set β (by simpa using H);rw [<-Rp]at o40;have o40':aM 3 B ω (.slice (some ⟨g,0,none⟩) π.length cap) ((swp π a j ha H).map iv):=o40;have I40:=hinv _ _ _ (hinv _ _ _ I18 (kg α)) (kg β);refine Bn hf ο hinv ho d (a+1) (swp π a j ha H) (acc++G) ω (by omega) I40 o40' (s1.trans hp) λw41 acc2 I41 o41 hm2=>?_
  have Z:j< (swp π a j ha H).length:=by omega
  have J:a< (swp π a j ha H).length:=by omega
  obtain⟨ej,ea⟩:=LL π a j ha H Z J;refine⟨λw'=>aM 3 B w' (.slice (some ⟨g,0,none⟩) π.length cap) ((swp π a j ha H).map iv),λw43 hw43=>?_⟩;have x43:Ex w41 w43:=hw43▸Ex.drew w41;have η:=o41.kp (Kp.ab x43 λ _=>False) λ _ _ h=>h
  have I43:=hinv _ _ _ I41 (Kp.ab x43 _);refine⟨η,g,0,_,cap,rfl,by omega,by omega,((swp π a j ha H)[j]:Nat),λw' ho=>by rw [OG,O8];exact(ho.at Z).1,g,0,_,cap,rfl,by omega,by omega,((swp π a j ha H)[a]:Nat),λw' ho=>by rw [OG,O8];exact(ho.at J).1,g,0,_,cap,rfl,by omega,by omega,⟨⟨_,by rw [OG,O8];exact(η.at J).1⟩,by rw [OG,O8];exact(η.at J).2.1⟩,λw59 γ=>?_⟩;rw [OG,O8,O6]at γ;have ν:=η.set γ (by rw [OM];exact J);rw [<-Rp]at ν;have hj59:j< ((swp π a j ha H).set a (swp π a j ha H)[j]).length:=by rw [PW];exact Z
  obtain⟨c59,f59,_,_⟩:=ν.at hj59;refine⟨g,0,_,cap,rfl,by omega,by omega,⟨⟨_,by rw [OG,O8];exact c59⟩,by rw [OG,O8];exact f59⟩,λw65 δ=>⟨by omega,⟨j+1,G++acc2,by omega,by omega,by omega,?_,?_,λσ=>?_⟩,tN (by omega)⟩⟩
  ·rw [<-Pe];exact hinv _ _ _ (hinv _ _ _ I43 (kg γ)) (kg δ)
  ·rw [OG,O8,O6]at δ;have ξ:=ν.set δ (by rw [OM,PW];exact Z);rw [<-Rp]at ξ;have e:((swp π a j ha H).set a (swp π a j ha H)[j]).set j (swp π a j ha H)[a]=π:=by
    rw [ej,ea];unfold swp;apply QW
    ·simp
    ·intro k h1 h2;simp only [List.getElem_set];split
     ·rename_i h;subst h;rfl
     ·split
      ·rename_i h;subst h;rfl
      ·rfl
   rw [e]at ξ;exact ξ
  ·rw [OH,ι,hm2];constructor
   ·rintro(⟨i,hi,⟨h1,h2⟩,h3⟩ | ⟨τ,h1,h2⟩)
    ·exact⟨i,hi,⟨h1,by omega⟩,h3⟩
    ·exact⟨j,H,⟨ς,by omega⟩,τ,h1,h2⟩
   ·rintro⟨i,hi,⟨h1,h2⟩,h3⟩
    by_cases h:i=j
    ·subst h;right;exact h3
    ·left;exact⟨i,hi,⟨h1,by omega⟩,h3⟩
structure AA (w:World)(b30 b3 b5 b16 b18 nn:Nat)(vo vl:Value)(x:UInt32)(best:Tx):Prop where
 l:∀b,(b=b30\/b=b3\/b=b5\/b=b16\/b=b18)->b< w.heap.size
 c30:w.cell? ⟨b30,0,none⟩=some vo
 c3:w.cell? ⟨b3,0,none⟩=some (ptr nn)
 c5:w.cell? ⟨b5,0,none⟩=some vl
 c16:w.cell? ⟨b16,0,none⟩=some (.string (ak best))
 c18:w.cell? ⟨b18,0,none⟩=some (.int .u32 x.toNat)
 f16:w.frozen? ⟨b16,0,none⟩=false
 ne:b16≠b30/\b16≠b3/\b16≠b5/\b16≠b18
section
variable {w w':World} {b30 b3 b5 b16 b18 nn:Nat} {vo vl:Value} {x:UInt32} {best best':Tx} {S:Nat->Prop}
def AA.kp (h:AA w b30 b3 b5 b16 b18 nn vo vl x best)(k:Kp w w' S)(G:∀b,(b=b30\/b=b3\/b=b5\/b=b16\/b=b18)->¬S b):AA w' b30 b3 b5 b16 b18 nn vo vl x best:=by
 have e:∀b,(b=b30\/b=b3\/b=b5\/b=b16\/b=b18)->w'.heap[b]?=w.heap[b]?:=λb hb=>k.block b (h.l b hb) (G b hb)
 exact⟨λb hb=>O1 (h.l b hb) k.size,by rw [Ow (w:=w) (e b30 (by simp))];exact h.c30,by rw [Ow (w:=w) (e b3 (by simp))];exact h.c3,by rw [Ow (w:=w) (e b5 (by simp))];exact h.c5,
  by rw [Ow (w:=w) (e b16 (by simp))];exact h.c16,by rw [Ow (w:=w) (e b18 (by simp))];exact h.c18,by rw [O7 (w:=w) (e b16 (by simp))];exact h.f16,h.ne⟩
def AA.ex (h:AA w b30 b3 b5 b16 b18 nn vo vl x best)(k:Ex w w'):AA w' b30 b3 b5 b16 b18 nn vo vl x best:=h.kp (Kp.ab k λ _=>False) λ _ _ h=>h
def AA.IM (h:AA w b30 b3 b5 b16 b18 nn vo vl x best)(hw:w'=w.setCell ⟨b16,0,none⟩ (.string (ak best'))):AA w' b30 b3 b5 b16 b18 nn vo vl x best':=by
 subst hw;have k:=Kr.set (r:=b16) w 0 (.string (ak best'));have ne:∀b,b16≠b->(w.setCell ⟨b16,0,none⟩ (.string (ak best'))).cell? ⟨b,0,none⟩=w.cell? ⟨b,0,none⟩:=λb hb=>OD _ _ _ _ (λe=>by injection e with Z e2;omega)
 obtain⟨n1,G,H,J⟩:=h.ne;exact⟨λb hb=>O1 (h.l b hb) k.size,by rw [ne _ n1];exact h.c30,by rw [ne _ G];exact h.c3,by rw [ne _ H];exact h.c5,OQ _ _ _ h.c16,by rw [ne _ J];exact h.c18,by rw [OS];exact h.f16,h.ne⟩
end
def nW (l:Lv)(ls:List UInt8)(ρ:Rh)(tk:Tk)(π:List Nat):Tx:=wrap ls []++joinS 38 (aK (thS l (asg π ls ρ) (addK ls tk)))
def Ft (c:UInt8)(l:List UInt8):wrap (c::l) []=[35]++[c]++[46]++wrap l []:=rfl
def Hf {n:Nat}(ht:KI n){D:Nat->Prop}{w:World}{b30 b3 b5 b16 b18 nn r:Nat}{vo vl:Value}{x:UInt32}{best:Tx}{o π:List Nat}{l:Lv}{ρ:Rh}{tk:Tk}{bad:Bool}{B:Nat}(hs:AA w b30 b3 b5 b16 b18 nn vo vl x best)
  (hb:∀b,(b=b30\/b=b3\/b=b5\/b=b16\/b=b18)->¬(b=nn\/b=r)) (ho:aM 3 B w vo (π.map iv)) (hob:∀g,vo.ownBlock=some g->¬(g=nn\/g=r)) (hp:π.Perm o) (hN:Nm w nn r ρ tk bad) (hx:qB x tk)
  (hn:l.sz<=n) (hsh:l.sh true=true) (hsm:l.sm=true) (huq:vi o l) (h:gC D w vl o (ah D w l)) (hD:∀g,D g->¬(g=nn\/g=r)) (hne:l.isNil=false) (htot:o.length+l.tot<=4294967296) {R:Sb}
  (hR:∀w' ρ' best',Kp w w' (λg=>g=nn\/g=r\/g=b16)->AA w' b30 b3 b5 b16 b18 nn vo vl x best'->Nm w' nn r ρ' tk (bad||(gX o.length tk||thBad l (addK (lets o.length tk) tk)))->(∀z,z∉o->z∉l.bvs->ρ' z=ρ z)->
   best'=(if best=[]\/nW l (lets o.length tk) ρ tk π< best then nW l (lets o.length tk) ρ tk π else best)->R w'):
  Sc 226 #[ptr b30,ptr b3,ptr b5,ptr b16,ptr b18] w (aw [] R):=by
 refine kX _ _ _ _ _ w R ?_;dsimp only [go_sem];dsimp only [go_sem,Nat.reduceAdd];have φ:=hp.length_eq;obtain⟨ao,capo,hvo⟩:=(ho.DO (D:=λ _=>True) λ _ _=>trivial).slice;rw [OM]at hvo;have hge:=huq.ge;refine⟨b30,0,rfl,vo,hs.c30,ao,_,capo,hvo,λhd y w'=>∃(j:Nat) (H:Rh) (G:Tk) (J:Bool),y=j/\j<=π.length/\Kn nn r w w'/\Nm w' nn r H G J/\hd.length=3* j/\asg (π.drop j) (lets (π.length - j) G) H=asg π (lets o.length tk) ρ/\addK (lets (π.length - j) G) G=addK (lets o.length tk) tk/\
   (J||gX (π.length - j) G)=(bad||gX o.length tk)/\hd++wrap (lets (π.length - j) G) []=wrap (lets o.length tk) []/\∀z,z∉o->H z=ρ z,λ _ y _=>(π.length - y).toNat,⟨0,ρ,tk,bad,rfl,Pn _,Kn.ex (Ex.refl w),hN,rfl,by rw [Qk,Nat.sub_zero,φ],by rw [Nat.sub_zero,φ],by rw [Nat.sub_zero,φ],by rw [Nat.sub_zero,φ];rfl,λ _ _=>rfl⟩,λhd y χ hI=>?_⟩
 obtain⟨j,H,G,J,rfl,hj,ν,n16,hhd,e1,e2,e3,e4,e5⟩:=hI;have s16:AA χ b30 b3 b5 b16 b18 nn vo vl x best:=hs.kp ν hb;refine⟨λhlt=>?_,λhge2=>?_⟩
 ·have ι:=oL hlt;obtain⟨g,cap,hvo2⟩:∃g cap,vo= .slice (some ⟨g,0,none⟩) π.length cap:=by
   rcases ho.2 with⟨_,h0⟩ | ⟨g,cap,cur,hv,_⟩
   ·rw [OM]at h0;omega
   ·rw [OM]at hv;exact⟨g,cap,hv⟩
  have o16:=ho.kp ν λg hg=>hob g hg
  have hx26:26<=π[j]:=hge _ (O9 _ (hp.subset (Oz ι)));have δ:χ.cell? ⟨g,0+Int.toNat (j:Int)* 1,none⟩=some (iv π[j]):=by
   rw [hvo2]at o16;rw [OG,O8];exact(o16.at ι).1
  refine⟨g,0,_,cap,hvo2,by omega,by omega,π[j],δ,b3,0,rfl,ptr nn,s16.c3,HP n16 hx26 λy' w26 _ k26 n26=>⟨b3,0,rfl,ptr nn,(s16.kp k26 hb).c3,j9 n26 ⟨by simp,by simp,?_,by omega,⟨j+1,_,_,_,by omega,by omega,Kn.trans ν k26,n26,?_,?_,?_,?_,?_,λz hz=>?_⟩,tN (by omega)⟩⟩⟩
  all_goals have ed:π.drop j=π[j]::π.drop (j+1):=Ps ι
  all_goals have el:π.length - j=(π.length - (j+1))+1:=by omega
  all_goals rw [el]at e1 e2 e3 e4
  ·simp;omega
  ·simp;omega
  ·rw [ed]at e1;exact e1
  ·exact e2
  ·rw [<-e3];simp only [gX,Qg]
  ·rw [<-e4,lets,Ft];simp [aI]
  ·rw [<-e5 z hz];refine OP λe=>hz ?_
   rw [e];exact hp.subset (Oz ι)
 ·have ι:=oE hge2 (by omega);subst ι;rw [R6]at e1 e2 e3 e4;rw [Qd]at e1;simp only [lets,asg,addK,gX,wrap,QT,O5]at e1 e2 e3 e4;intro b32 w33 hb32 hw33;have x33:Ex χ w33:=hw33▸Ex.alloc χ _;have s33:=s16.ex x33;have n33:=n16.ex x33;have k33:Kn nn r w w33:=Kn.trans ν (Kn.ex x33);obtain⟨bl,vo2,vt,ts,rfl,h2,h3,h4,h5,h6,h7,h8⟩:=h;obtain⟨at_,capt,hvt⟩:=h7.slice;have hlen:=h8.len;have hel:=Lv.cM l;have hlt:=bS l;have hbl:=hD bl h2;have sz33:=k33.size;have hlb:∀b,(b=b30\/b=b3\/b=b5\/b=b16\/b=b18)->b< w.heap.size:=hs.l;refine⟨b5,0,rfl,ptr bl,s33.c5,bl,0,rfl,vt,by rw [Ow (w:=w) (k33.block bl h3 hbl)];exact h5,at_,_,capt,hvt,λtx y w'=>∃(j:Nat) (α:Rh),y=j/\j<=ts.length/\Kn nn r w w'/\Nm w' nn r α G (J||thBad (l.take j) G)/\(∀z,z∉(l.take j).bvs->α z=H z)/\Own w.heap.size w' tx (thS (l.take j) H G),
   λ _ y _=>(ts.length - y).toNat,⟨0,H,rfl,Pn _,k33,by simpa [Lv.take,thBad]using n33,λ _ _=>rfl,Own.none (by have :=ν.size;omega) hb32 hw33⟩,λtx y w47 hI=>?_⟩
  obtain⟨j,α,rfl,hj,ξ,n47,ζ,η⟩:=hI;have hnl:=hN.lt;have hnr:=hN.lr;have Z:∀g',tx.ownBlock=some g'->w.heap.size<=g':=λg' h'=>(η.block g' h').1
  refine⟨λhlt2=>?_,λhge3=>?_⟩
  ·have ψ:=oL hlt2;have hje:j< l.bw.length:=by omega
   have s47:AA w47 b30 b3 b5 b16 b18 nn vo (ptr bl) x best:=hs.kp ξ hb;obtain⟨bu,ou,ε,hvu',hcu⟩:∃bu ou ε,vt= .slice (some ⟨bu,ou,none⟩) ts.length ε/\w47.cell? ⟨bu,ou+j,none⟩=some ts[j]:=by
    rcases h7 with⟨_,h0⟩ | ⟨bt,ot,capt',e,hbD,hb',δ⟩
    ·rw [h0]at ψ;simp at ψ
    ·exact⟨bt,ot,capt',e,by rw [Ow (w:=w) (ξ.block bt hb' (hD bt hbD))];exact δ j _ (Ox ψ)⟩
   obtain⟨e,hf1,κ,hf3⟩:=aO.single h8.bw (Ox ψ);have hf4:l.bw[j]=e:=by rw [Ox hje]at hf1;exact Pr hf1
   have θ:=Lv.take_succ l j hje;rw [hf4]at θ;have hsz2:=Lv.eX l e κ;have htot2:=Lv.gY l e κ;have hfe:thS e α G=thS e H G:=uF e α H G λz hz=>ζ z λhb=>huq.nf z (Lv.lL l j z hb) (Lv.rT l e κ hz)
   refine⟨bu,ou,_,ε,hvu',by omega,by omega,ts[j],by rw [OG,O8];exact hcu,b3,0,rfl,ptr nn,s47.c3,?_⟩;refine ht (by omega) (Lv.ku hsh e κ) (Lv.vh hsm e κ) (huq.bw κ) (hf3.kp ξ hD) hD n47 (by omega) λt w57 ρ3 hthS k57 n57 hρ3 b58 w59 hb58 hw59=>?_
   have ω:Ex w57 w59:=hw59▸Ex.alloc w57 _;have k1:Kn nn r w w57:=Kn.trans ξ k57;have ho59:Own w.heap.size w59 tx (thS (l.take j) H G):=(η.kp k57 λg' h'=>(by have :=Z g' h';omega)).ex ω;have hl3:(thS (l.take j) H G).length<=ts.length:=by
    rw [bD];have :=Lv.iq l j;omega
   refine Own.push ho59 (by have :=k1.size;have :=ω.size;omega) (Strs.one hb58 hw59) (by simp only [Ov,ON];omega) λv65 w66 _ ho66 hg66 _=>⟨by omega,⟨j+1,ρ3,by omega,by omega,?_,?_,?_,?_⟩,tN (by omega)⟩
   ·exact Kp.new (Kn.trans k1 (Kn.ex ω)) hg66 Z
   ·have e1:(J||thBad (l.take (j+1)) G)=(J||thBad (l.take j) G||thBad e G):=by rw [θ,dc,Qg]
    rw [e1];refine(n57.ex ω).kp (Kp.aP (S:=λg=>tx.ownBlock=some g) hg66 λ _ h=>h) (λh'=>by have :=Z _ h';omega) λh'=>by have :=Z _ h';omega
   ·intro z hz;rw [θ,Lv.cz,OH,R9]at hz;rw [hρ3 z hz.2,ζ z hz.1]
   ·rw [θ,gU,<-hfe,hthS];exact ho66
  ·have hjt:j=l.bw.length:=by simp only [OF]at hge3;omega
   rw [hjt,Lv.dv]at n47 η ζ;have hsum:=gW l H G;have hln:=bD l H G;have hne':thS l H G≠[]:=λe=>by
    rw [e]at hln;rw [Lv.dH]at hne;simp only [ON]at hln;simp [<-hln]at hne
   have eT:hd++joinS 38 (aK (thS l H G))=nW l (lets o.length tk) ρ tk π:=by
    unfold nW;rw [<-e4,<-e1,<-e2]
   have hjl2:=iC 38 (aK (thS l H G));rw [iU (aG _)]at hjl2;refine GJ η hne' (by rw [hln];omega) (by omega) λμ k68=>⟨by omega,?_⟩
   have ο:Kn nn r w μ:=Kp.trans ξ k68 λg' hg' h'=>by have :=Z g' h';omega
   have β:AA μ b30 b3 b5 b16 b18 nn vo (ptr bl) x best:=hs.kp ο hb;have n68:Nm μ nn r α G (J||thBad l G):=n47.kp k68 (λh'=>by have :=Z _ h';omega) λh'=>by have :=Z _ h';omega
   have kq:∀{w1:World},Kn nn r w w1->Kp w w1 (λg=>g=nn\/g=r\/g=b16):=λk=>Kp.mono (λg hg=>hg.elim .inl λh=> .inr (.inl h)) k
   rw [eT];have fin:∀w1 best',Kp w w1 (λg=>g=nn\/g=r\/g=b16)->AA w1 b30 b3 b5 b16 b18 nn vo (ptr bl) x best'->Nm w1 nn r α G (J||thBad l G)->best'=(if best=[]\/nW l (lets o.length tk) ρ tk π< best then nW l (lets o.length tk) ρ tk π else best)->
     ∃(b79 o80:Nat),ptr b3=Value.pointer (some ⟨b79,o80,none⟩)/\∃v81:Value,World.cell? w1 ⟨b79,o80,none⟩=some v81/\∃(b82 o83:Nat),ptr b18=Value.pointer (some ⟨b82,o83,none⟩)/\∃m84:UInt32,World.cell? w1 ⟨b82,o83,none⟩=some (Value.int IntKind.u32 (UInt32.toNat m84))/\∃(b85 o86:Nat),v81=Value.pointer (some ⟨b85,o86,none⟩)/\((∃u87:Value,World.cell? w1 ⟨b85,(o86+1),none⟩=some u87)/\World.frozen? w1 ⟨b85,(o86+1),none⟩=false)/\∀w88:World,w88=World.setCell w1 ⟨b85,(o86+1),none⟩ (Value.int IntKind.u32 (UInt32.toNat m84))->R w88:=by
    intro w1 best' k1 s1 n1 hbest;obtain⟨z,hz,_⟩:=n1.c1;refine⟨b3,0,rfl,ptr nn,s1.c3,b18,0,rfl,x,s1.c18,nn,0,rfl,⟨⟨_,hz⟩,n1.f 1⟩,λw88 ς=>hR w88 α best' ?_ ?_ ?_ (λz hz hz'=>?_) hbest⟩
    ·exact Kp.trans k1 (ς▸Kr.set _ _ _) λg _ e=> .inl e
    ·exact s1.kp (ς▸Kr.set w1 1 _) λb hb' e=>hb b hb' (.inl e)
    ·refine n1.set (tk':=tk) ς (.inl ⟨rfl,?_,x,rfl,hx⟩);rw [<-Qg,<-e3,<-e2]
    ·rw [ζ z hz',e5 z hz]
   have st:∀w1,w1=μ.setCell ⟨b16,0,none⟩ (.string (ak (nW l (lets o.length tk) ρ tk π)))->Kp w w1 (λg=>g=nn\/g=r\/g=b16)/\AA w1 b30 b3 b5 b16 b18 nn vo (ptr bl) x (nW l (lets o.length tk) ρ tk π)/\Nm w1 nn r α G (J||thBad l G):=λw1 hw1=>by
    have kb:Kr b16 μ w1:=hw1▸Kr.set _ _ _;have h16:=hb b16 (by simp);exact⟨Kp.trans (kq ο) kb λg _ e=> .inr (.inr e),β.IM hw1,n68.kp kb (λe=>h16 (.inl e.symm)) λe=>h16 (.inr e.symm)⟩
   refine⟨b16,0,rfl,best,β.c16,λυ=>?_,λυ=>?_⟩
   ·simp only [OF]at υ;refine⟨b16,0,rfl,best,β.c16,λγ=>⟨b16,0,rfl,⟨⟨_,β.c16⟩,β.f16⟩,λw78 hw78=>?_⟩,λγ=>?_⟩
    ·rw [R1,OK]at γ;obtain⟨k1,k2,k3⟩:=st w78 hw78;exact fin w78 _ k1 k2 k3 (by rw [O' (.inr γ)])
    ·rw [R1,OF]at γ;exact fin μ best (kq ο) β n68 (by rw [OP (λh=>h.elim υ γ)])
   ·simp only [OK]at υ;refine⟨b16,0,rfl,⟨⟨_,β.c16⟩,β.f16⟩,λw102 hw102=>?_⟩;obtain⟨k1,k2,k3⟩:=st w102 hw102;exact fin w102 _ k1 k2 k3 (by rw [O' (.inl υ)])
def Dn (a:Tx):bJ [a]=a:=ik (by simp) λs G=>by simp at G;subst G;simp [jR]
def AY {l:List Tx}(h:l≠[])(a:Tx):bJ (l++[a])=if a< bJ l then a else bJ l:=by
 obtain⟨Z,J⟩:=cK h;split
 ·rename_i H;refine ik (by simp) λs G=>?_
  rcases OH.1 G with G | G
  ·refine ie _ _ _ ?_ (J s G);simp only [jR,OK];exact List.le_of_lt H
  ·simp at G;subst G;simp [jR]
 ·rename_i H;refine ik (O9 _ Z) λs G=>?_
  rcases OH.1 G with G | G
  ·exact J s G
  ·simp at G;subst G;simp only [jR,OK];exact List.not_lt.1 H
def JN {l:Lv}{o π:List Nat}(Z:π.Perm o)(H:vi o l){ls:List UInt8}(J:π.length=ls.length){ρ ρ':Rh}(h:∀z,z∉o->z∉l.bvs->ρ' z=ρ z)(tk:Tk):nW l ls ρ' tk π=nW l ls ρ tk π:=by
 unfold nW;rw [uF l (asg π ls ρ') (asg π ls ρ) (addK ls tk) λz hz=>?_];by_cases G:z∈π
 ·exact yG π ls ρ' ρ z G J
 ·rw [bB _ _ _ _ G,bB _ _ _ _ G];exact h z (λh'=>G (Z.symm.subset h')) λhb=>H.nf z hb hz
structure OI (w w':World)(b30 b3 b5 b16 b18 nn r:Nat)(vo vl:Value)(x:UInt32)(o:List Nat)(l:Lv)(ρ:Rh)(tk:Tk)(bad:Bool)(acc:List (List Nat)):Prop where
 ex:∃(ρ':Rh) (best:Tx),AA w' b30 b3 b5 b16 b18 nn vo vl x best/\Nm w' nn r ρ' tk (bad||(!acc.isEmpty&&(gX o.length tk||thBad l (addK (lets o.length tk) tk))))/\(∀z,z∉o->z∉l.bvs->ρ' z=ρ z)/\
  ((acc=[]/\best=[])\/(acc≠[]/\best=bJ (acc.map (nW l (lets o.length tk) ρ tk))))
 kn:Kn nn r w w'
def xF {n:Nat}(ht:KI n):Mv n:=by
 intro D w v o l nn r ρ tk bad R hn hsh hsm huq h hD hN htot hR;refine nz (ptr nn) v w R ?_;dsimp only [go_sem];have hv1:=h.one;refine⟨rfl,λb3 w4 hb3 hw4=>⟨hv1,λb5 w6 hb5 hw6=>?_⟩⟩;have x4:Ex w w4:=hw4▸Ex.alloc w _;have x6':Ex w4 w6:=hw6▸Ex.alloc w4 _;have x6:Ex w w6:=Ex.trans x4 x6';have s4:w4.heap.size=w.heap.size+1:=by rw [hw4,size_alloc]
 have s6:w6.heap.size=w4.heap.size+1:=by rw [hw6,size_alloc]
 have c3:w6.cell? ⟨b3,0,none⟩=some (ptr nn):=by rw [x6'.cell (show b3< _ by omega),hw4,hb3];exact aa rfl
 have c5:w6.cell? ⟨b5,0,none⟩=some v:=by rw [hw6,hb5];exact aa rfl
 have hnl:=hN.lt;have hnr:=hN.lr;refine⟨v,c5,mG (gC.ex h x6) ⟨λhe=>?_,λhe=>?_⟩⟩
 ·have e:aV o (thS l) ρ tk=[48]:=by
   unfold aV;rw [O'];cases l<;>first | rfl | cases he
  rw [<-e];refine hR w6 ρ (Kn.ex x6) ?_ λ _ _ _=>rfl
  rw [he];simpa [gw]using hN.ex x6
 ·refine⟨λw'=>Ex w6 w',λw11 hw11=>?_⟩;have υ:Ex w6 w11:=hw11▸Ex.drew w6;have n11:=hN.ex (Ex.trans x6 υ);obtain⟨x,hx,hxt⟩:=(hN.ex x6).c1;have s11:=υ.size;have rest:∀(b16 b18:Nat) (G:World),Ex w6 G->G.cell? ⟨b16,0,none⟩=some (.string (ak []))->G.cell? ⟨b18,0,none⟩=some (.int .u32 x.toNat)->G.frozen? ⟨b16,0,none⟩=false->b16≠b18->w6.heap.size<=b16->w6.heap.size<=b18->b16< G.heap.size->b18< G.heap.size->
    ∃v24:Value,World.cell? G ⟨b5,0,none⟩=some v24/\∃(b25 o26:Nat),v24=Value.pointer (some ⟨b25,o26,none⟩)/\∃v27:Value,World.cell? G ⟨b25,(o26+0),none⟩=some v27/\Sc 151 #[v27] G (aw [.v] fun(v28:Value) (ν:World)=>∀(b30:Nat) (δ:World),b30=Array.size (World.heap ν)->δ=World.alloc ν (Obj.cells #[(Value.slice none 0 0)] 126)->oneV v28=true/\((∃u32:Value,World.cell? δ ⟨b30,0,none⟩=some u32)/\World.frozen? δ ⟨b30,0,none⟩=false)/\
     ∀ε:World,ε=World.setCell δ ⟨b30,0,none⟩ v28->∃v34:Value,World.cell? ε ⟨b30,0,none⟩=some v34/\Sc 225 #[v34,(Value.int IntKind.i64 0),(Value.func (Fn.func 226) #[] #[(Value.pointer (some ⟨b30,0,none⟩)),(Value.pointer (some ⟨b3,0,none⟩)),(Value.pointer (some ⟨b5,0,none⟩)),(Value.pointer (some ⟨b16,0,none⟩)),(Value.pointer (some ⟨b18,0,none⟩))])] ε (aw [] fun(ω:World)=>∃s36:aD,World.cell? ω ⟨b16,0,none⟩=some (Value.string (ak s36))/\R (s36) ω)):=by
   intro b16 b18 G θ c16 c18 f16 hne h16 h18 l16 l18;have h':=h;obtain⟨bl,vo,vt,ts,rfl,h2,h3,h4,h5,h6,h7,h8⟩:=h';have ο:Ex w G:=Ex.trans x6 θ;have c5':G.cell? ⟨b5,0,none⟩=some (ptr bl):=by rw [θ.cell (show b5< _ by omega)];exact c5
   have c3':G.cell? ⟨b3,0,none⟩=some (ptr nn):=by rw [θ.cell (show b3< _ by omega)];exact c3
   refine⟨ptr bl,c5',bl,0,rfl,vo,by rw [ο.cell (show bl< _ from h3)];exact h4,?_⟩;refine tK (h6.ex ο) (by omega) λv28 ν x29 o29 b30 δ hb30 ς=>?_
   have x31:Ex ν δ:=ς▸Ex.alloc ν _;have s31:δ.heap.size=ν.heap.size+1:=by rw [ς,size_alloc]
   have s29:=x29.size;have s23:=θ.size;have c30:δ.cell? ⟨b30,0,none⟩=some (.slice none 0 0):=by rw [ς,hb30];exact aa rfl
   have f30:δ.frozen? ⟨b30,0,none⟩=false:=by rw [ς,hb30];exact aU _ _ _ _
   refine⟨o29.qh,⟨⟨_,c30⟩,f30⟩,λε hw33=>?_⟩;have k33:Kr b30 δ ε:=hw33▸Kr.set _ _ _;have ι:Ex G ε:=Ex.below (Ex.trans x29 x31) (Kp.below k33 (Ex.trans x29 x31).size λg hg e=>by omega);have hob:∀g,v28.ownBlock=some g->G.heap.size<=g/\g< ν.heap.size:=o29.block;have o33:aM 3 G.heap.size ε v28 (o.map iv):=(o29.kp (Kp.ab x31 λ _=>False) λ _ _ h=>h).kp k33 λg hg e=>by have :=hob g hg;omega
   have c30':ε.cell? ⟨b30,0,none⟩=some v28:=by rw [hw33];exact OQ _ _ _ c30
   have ds:AA ε b30 b3 b5 b16 b18 nn v28 (ptr bl) x []:=by
    have s33:=ι.size;have s33':=k33.size;refine⟨λb hb=>?_,c30',?_,?_,?_,?_,?_,by omega,by omega,by omega,hne⟩
    ·rcases hb with rfl | rfl | rfl | rfl | rfl<;>omega
    ·rw [ι.cell (show b3< _ by omega)];exact c3'
    ·rw [ι.cell (show b5< _ by omega)];exact c5'
    ·rw [ι.cell (show b16< _ by omega)];exact c16
    ·rw [ι.cell (show b18< _ by omega)];exact c18
    ·rw [Qr ι l16];exact f16
   have hbx:∀b,(b=b30\/b=b3\/b=b5\/b=b16\/b=b18)->w.heap.size<=b/\¬v28.ownBlock=some b:=λb hb=>by
    refine⟨by rcases hb with rfl | rfl | rfl | rfl | rfl<;>omega,λe=>?_⟩;have :=hob b e;rcases hb with rfl | rfl | rfl | rfl | rfl<;>omega
   have hlev:∀{w1:World},Kn nn r w w1->gC D w1 (ptr bl) o (ah D w1 l):=λk=>h.kp k hD λl h=>h.kp k hD
   have φ:∀g,v28.ownBlock=some g->¬(g=nn\/g=r):=λg hg=>by have :=hob g hg;omega
   refine⟨v28,c30',?_⟩;refine Bn (o:=o) (ca:=[ptr b30,ptr b3,ptr b5,ptr b16,ptr b18]) (Inv:=λacc w'=>OI w w' b30 b3 b5 b16 b18 nn r v28 (ptr bl) x o l ρ tk bad acc) (by kernel_rfl) ?_ ?_ (by omega) o.length 0 o [] ε (by omega) ⟨⟨ρ,[],ds,?_,λ _ _ _=>rfl,.inl ⟨rfl,rfl⟩⟩,Kn.ex (Ex.trans ο ι)⟩ o33 (PI _) λω acc I35 o35 hacc=>?_
   ·intro acc π w1 hI how hp R' hR';obtain⟨⟨ρ1,best,d1,n1,e1,e2⟩,kn⟩:=hI;have hpl:=hp.length_eq;refine Hf ht d1 (λb hb=>by have :=(hbx b hb).1;omega) how φ hp n1 hxt hn hsh hsm huq (hlev kn) hD he htot λw2 ρ2 best2 k2 d2 n2 e3 e4=>hR' w2 ⟨⟨ρ2,best2,d2,?_,λz hz hz'=>by rw [e3 z hz hz',e1 z hz hz'],?_⟩,?_⟩ ?_
    ·have:(bad||(!acc.isEmpty&&(gX o.length tk||thBad l (addK (lets o.length tk) tk)))||(gX o.length tk||thBad l (addK (lets o.length tk) tk)))=(bad||(!(acc++[π]).isEmpty&&(gX o.length tk||thBad l (addK (lets o.length tk) tk)))):=by
      cases acc<;>simp [Qg]
     rw [<-this];exact n2
    ·right;refine⟨by simp,?_⟩;have eT:=JN hp huq (ls:=lets o.length tk) (by rw [gd];exact hpl) e1 tk;rw [eT]at e4;rw [Pm];simp only [O3,Qf];rcases e2 with⟨rfl,rfl⟩ | ⟨ha,rfl⟩
     ·rw [O' (.inl rfl)]at e4;rw [e4,Qf,Pv,Dn]
     ·rw [AY (by simpa using ha),e4];have hne2:bJ (acc.map (nW l (lets o.length tk) ρ tk))≠[]:=by
       obtain⟨h1,_⟩:=cK (l:=acc.map (nW l (lets o.length tk) ρ tk)) (by simpa using ha);obtain⟨σ,_,e⟩:=Pf.1 h1;rw [<-e];unfold nW;intro e5;refine re (rA ?_) (λt ht=>mV l hsm _ _ t ((aG _).subset ht)) (List.append_eq_nil_iff.1 e5).2;intro e6;have :=bD l (asg σ (lets o.length tk) ρ) (addK (lets o.length tk) tk);rw [e6]at this;rw [Lv.dH]at he;simp only [ON]at this;simp [<-this]at he
      simp only [hne2,Sa]
    ·exact Kp.trans kn k2 λg hg e=>by have :=(hbx b16 (by simp)).1;omega
    ·exact how.kp k2 λg hg e=>by
      rcases e with e | e | e
      ·exact φ g hg (.inl e)
      ·exact φ g hg (.inr e)
      ·exact(hbx b16 (by simp)).2 (e▸hg)
   ·intro acc w1 w2 hI k;obtain⟨⟨ρ1,best,d1,n1,e1,e2⟩,kn⟩:=hI;refine⟨⟨ρ1,best,d1.kp k λb hb=>(hbx b hb).2,n1.kp k (λe=>φ nn e (.inl rfl)) λe=>φ r e (.inr rfl),e1,e2⟩,Kp.trans kn k λg hg e=>by have :=hob g e;omega⟩
   ·have :=hN.ex (Ex.trans ο ι);simpa using this
   ·obtain⟨⟨ρ1,best,d1,n1,e1,e2⟩,kn⟩:=I35;rw [Pv]at n1 e2;have hmem:∀σ,σ∈acc↔σ.Perm o:=λσ=>by
     rw [hacc];simp only [Qk,List.take_zero,Pv];exact⟨fun⟨τ,h,e⟩=>e▸h,λh=>⟨σ,h,rfl⟩⟩
    have χ:acc≠[]:=λe=>by have :=(hmem o).2 (PI _);rw [e]at this;cases this
    have eb:best=aV o (thS l) ρ tk:=by
     rcases e2 with⟨h0,_⟩ | ⟨_,rfl⟩
     ·exact absurd h0 χ
     ·unfold aV;have hemp:¬(thS l ρ tk).isEmpty=true:=λe=>by
       rw [List.isEmpty_iff_length_eq_zero,bD]at e;rw [Lv.dH]at he;simp [e]at he
      rw [OP hemp];show _=wrap _ (bJ _);rw [Bs,<-vu _ (λe=>pY o (RR.1 e)),PZ];refine pz λs=>?_
      simp only [Pf,hmem,da];rfl
    rw [<-eb]at hR;refine⟨best,d1.c16,hR ω ρ1 kn ?_ e1⟩;have:(bad||(!acc.isEmpty&&(gX o.length tk||thBad l (addK (lets o.length tk) tk))))=(bad||gw o.length l.isNil (thBad l) tk):=by
     have:acc.isEmpty=false:=by cases acc<;>first | exact absurd rfl χ | rfl
     rw [this,he];rfl
    rw [<-this];exact n1
  refine⟨υ,ptr nn,λw' x'=>by rw [x'.cell (show b3< _ by omega)];exact c3,nn,0,rfl,x,λw' x'=>by rw [x'.cell (show nn< _ by omega)];exact hx,λb16 ζ κ α=>?_,λb18 ζ μ α=>?_⟩
  ·have ξ:Ex w6 ζ:=α▸Ex.trans υ (Ex.alloc _ _);refine⟨ξ,λb18 Z μ β=>?_⟩;have η:Ex ζ Z:=β▸Ex.alloc _ _;have s17:ζ.heap.size=w11.heap.size+1:=by rw [α,size_alloc]
   have s19:Z.heap.size=ζ.heap.size+1:=by rw [β,size_alloc]
   have c16:Z.cell? ⟨b16,0,none⟩=some (.string ⟨#[]⟩):=by rw [η.cell (show b16< _ by omega),α,κ];exact aa rfl
   have f16:Z.frozen? ⟨b16,0,none⟩=false:=by rw [Qr η (show b16< _ by omega),α,κ];exact aU _ _ _ _
   have c18:Z.cell? ⟨b18,0,none⟩=some (.int .u32 0):=by rw [β,μ];exact aa rfl
   have f18:Z.frozen? ⟨b18,0,none⟩=false:=by rw [β,μ];exact aU _ _ _ _
   refine⟨Ex.trans ξ η,⟨⟨_,c16⟩,f16⟩,λγ H=>?_⟩;have ψ:Ex w6 γ:=H▸Ex.own (Ex.trans ξ η) (by omega) _;have s21:γ.heap.size=Z.heap.size:=by rw [H,Pj]
   have d16:γ.cell? ⟨b16,0,none⟩=some (.string (ak [])):=by rw [H];exact OQ _ _ _ c16
   have d18:γ.cell? ⟨b18,0,none⟩=some (.int .u32 0):=by rw [H,OD _ _ _ _ (λe=>by injection e with e1 e2;omega)];exact c18
   refine⟨ψ,⟨⟨_,d18⟩,by rw [H,OS];exact f18⟩,λG J=>?_⟩;have θ:Ex w6 G:=J▸Ex.own ψ (by omega) _;have s23:G.heap.size=γ.heap.size:=by rw [J,Pj]
   refine rest b16 b18 G θ ?_ ?_ ?_ (by omega) (by omega) (by omega) (by omega) (by omega)
   ·rw [J,OD _ _ _ _ (λe=>by injection e with e1 e2;omega)];exact d16
   ·rw [J];exact OQ _ _ _ d18
   ·rw [J,OS,H,OS];exact f16
  ·have ξ:Ex w6 ζ:=α▸Ex.trans υ (Ex.alloc _ _);refine⟨ξ,λb16 Z κ β=>?_⟩;have η:Ex ζ Z:=β▸Ex.alloc _ _;have s17:ζ.heap.size=w11.heap.size+1:=by rw [α,size_alloc]
   have s19:Z.heap.size=ζ.heap.size+1:=by rw [β,size_alloc]
   have c18:Z.cell? ⟨b18,0,none⟩=some (.int .u32 0):=by rw [η.cell (show b18< _ by omega),α,μ];exact aa rfl
   have f18:Z.frozen? ⟨b18,0,none⟩=false:=by rw [Qr η (show b18< _ by omega),α,μ];exact aU _ _ _ _
   have c16:Z.cell? ⟨b16,0,none⟩=some (.string ⟨#[]⟩):=by rw [β,κ];exact aa rfl
   have f16:Z.frozen? ⟨b16,0,none⟩=false:=by rw [β,κ];exact aU _ _ _ _
   refine⟨Ex.trans ξ η,⟨⟨_,c16⟩,f16⟩,λγ H=>?_⟩;have ψ:Ex w6 γ:=H▸Ex.own (Ex.trans ξ η) (by omega) _;have s21:γ.heap.size=Z.heap.size:=by rw [H,Pj]
   have d16:γ.cell? ⟨b16,0,none⟩=some (.string (ak [])):=by rw [H];exact OQ _ _ _ c16
   have d18:γ.cell? ⟨b18,0,none⟩=some (.int .u32 0):=by rw [H,OD _ _ _ _ (λe=>by injection e with e1 e2;omega)];exact c18
   refine⟨ψ,⟨⟨_,d18⟩,by rw [H,OS];exact f18⟩,λG J=>?_⟩;have θ:Ex w6 G:=J▸Ex.own ψ (by omega) _;have s23:G.heap.size=γ.heap.size:=by rw [J,Pj]
   refine rest b16 b18 G θ ?_ ?_ ?_ (by omega) (by omega) (by omega) (by omega) (by omega)
   ·rw [J,OD _ _ _ _ (λe=>by injection e with e1 e2;omega)];exact d16
   ·rw [J];exact OQ _ _ _ d18
   ·rw [J,OS,H,OS];exact f16
def K2:∀n,KI n
 | 0=>by
  intro G H;rcases H with⟨k,a,b,o,q,rfl,Z⟩ | ⟨ps,rfl,J⟩<;>simp [Lv.sz]at G
 | n+1=>FG (xF (K2 n))
def MV (n:Nat):Mv n:=xF (K2 n)
namespace Lv
def PNf:Lv->Prop
 | nil=>True
 | thr _ _ _ _ _ n=>n.PNf
 | sum ps n=>ps.PNf/\n.PNf
 | part o q n=>((∀x∈o,q.has x=true)/\q≠nil/\∀ps,q=sum ps nil->o≠[])/\n.PNf
def tG:∀{l m:Lv},(l.app m).PNf↔l.PNf/\m.PNf
 | nil,m=>by simp [app,PNf]
 | thr k a b o r n,m=>by simp only [app,PNf,tG (l:=n)]
 | sum ps n,m=>by simp only [app,PNf,tG (l:=n),QN]
 | part o q n,m=>by simp only [app,PNf,tG (l:=n),QN]
def xH:Lv->Prop
 | nil=>True
 | thr _ _ _ _ _ n=>n.xH
 | sum ps n=>(ps.PNf/\ps.xH)/\n.xH
 | part _ q n=>q.xH/\n.xH
def mH:∀{l m:Lv},(l.app m).xH↔l.xH/\m.xH
 | nil,m=>by simp [app,xH]
 | thr k a b o r n,m=>by simp only [app,xH,mH (l:=n)]
 | sum ps n,m=>by simp only [app,xH,mH (l:=n),QN]
 | part o q n,m=>by simp only [app,xH,mH (l:=n),QN]
def JZ {ps:Lv}{n:List Nat×Lv}(h:ps.PNf/\ps.xH)(G:n.2.xH):(spl ps n).2.xH:=by
 unfold spl;split
 ·exact G
 ·exact mH.2 ⟨h.2.1,G⟩
 ·exact⟨h,G⟩
def LK {o:List Nat}{q n:Lv}(J:∀x∈o,q.has x=true)(h:q.xH)(G:n.PNf/\n.xH):(prt o q n).PNf/\(prt o q n).xH:=by
 unfold prt;split
 ·exact G
 ·rename_i ps;split
  ·exact⟨tG.2 ⟨h.1.1,G.1⟩,mH.2 ⟨h.1.2,G.2⟩⟩
  ·rename_i H;exact⟨⟨⟨J,by simp,λ _ _ e=>H (by rw [e];rfl)⟩,G.1⟩,h,G.2⟩
 ·rename_i q' H Z;exact⟨⟨⟨J,H,λps e=>(Z ps e).elim⟩,G.1⟩,h,G.2⟩
def oK:∀(l:Lv),(l.sh true=true->(tid l).2.xH)/\(l.sh false=true->(tid l).2.PNf/\(tid l).2.xH)
 | nil=>⟨λ _=>trivial,λ _=>⟨trivial,trivial⟩⟩
 | thr k a b o r n=>by
  refine⟨λh=>?_,λh=>by simp [sh]at h⟩;simp only [sh,OA]at h;have H:=(oK r).1 h.1;have G:=(oK n).1 h.2;have h4:(kept o (tid r)).2=(tid r).2:=rfl;simp only [tid];split
  ·exact mH.2 ⟨H,G⟩
  ·split
   ·exact G
   ·exact G
 | sum ps n=>by
  refine⟨λh=>?_,λh=>by simp [sh]at h⟩;simp only [sh,OA]at h;simp only [tid];exact JZ ((oK ps).2 h.1) ((oK n).1 h.2)
 | part o q n=>by
  refine⟨λh=>by simp [sh]at h,λh=>?_⟩;simp only [sh,OA]at h;simp only [tid];exact LK (ue o (tid q)) ((oK q).1 h.1) ((oK n).2 h.2)
def JQ {Z:Lv}(h:Z.PNf)(J:Z.sh false=true):prt (kept [] (spl Z ([],nil))).1 (kept [] (spl Z ([],nil))).2 nil=Z:=by
 unfold spl;split
 ·rfl
 ·rename_i o q;have e:(kept [] (o++(([],nil):List Nat×Lv).1,q.app (([],nil):List Nat×Lv).2))=(o,q):=by
   simp only [kept,O5,aY,Pv]
   congr 1
   exact Qq.2 h.1.1
  rw [e];obtain⟨_,G,H⟩:=h.1;show prt o q nil=_;unfold prt;split
  ·exact absurd rfl G
  ·rw [OP];intro e;exact H _ rfl (by simpa using e)
  ·rfl
 ·simp only [kept,O5,List.filter_nil,prt,List.isEmpty_nil,Qu,aY]
def KC {o:List Nat}{q:Lv}{Z:Lv}(h:Z≠nil)(n:List Nat×Lv):spl (part o q Z) n=(n.1,sum (part o q Z) n.2):=by
 cases Z with
 | nil=>exact absurd rfl h
 | _=>rfl
end Lv
open T in
def gi {u:U}(G:Uq u)(n:u.Nr)(H:u.th=true):Lv.tid (flat u).2=([],tl [u])/\(flat u).1=[]:=by
 cases u with
 | nil=>cases H
 | par p q=>cases H
 | res x p=>cases H
 | snd a b p=>exact⟨by simp only [flat,Lv.tid,tl];simp [td,Lv.tidy],rfl⟩
 | rcv a x p=>exact⟨by simp only [flat,Lv.tid,tl];simp [td,Lv.tidy],rfl⟩
 | tau p=>exact⟨by simp only [flat,Lv.tid,tl];simp [td,Lv.tidy],rfl⟩
 | mat a b p=>refine⟨?_,rfl⟩;rw [qt,OP n.1.1,dS,n.1.2];rfl
 | rep p=>refine⟨?_,rfl⟩;rw [qy,dS,n.1];rfl
 | sum p q=>
  refine⟨?_,rfl⟩;rw [p9,(gK p G.eJ).2.2,(gK q G.dX).2.2,<-uY];have J:=pN n.1.1 G.eJ;have Z:=pN n.1.2.1 G.dX;simp only [tl];cases e1:ax p with
  | nil=>exact absurd e1 J
  | cons t l=>
   rw [PC,tp,Lv.KC];intro h0;have :=CW (l++ax q);rw [h0]at this;simp only [Lv.len,Oy]at this;exact Z (Pa (by omega))
open T in
def rQ:∀{u:U},Uq u->u.Nr->Lv.tid (flat u).2=([],tl u.ths)/\(flat u).1=u.frL
 | .nil,_,_=>⟨rfl,rfl⟩
 | .res x p,G,n=>by
  obtain⟨H,J⟩:=rQ G.res n.2;exact⟨H,by simp only [flat,frL,J]⟩
 | .par p q,G,n=>by
  obtain⟨H,J⟩:=gi G.gP n.2.1 n.1.1;obtain⟨Z,h4⟩:=rQ G.ga n.2.2;have h5:q.frL=[]:=by
   rcases n.1.2 with h | h
   ·exact gD h
   ·cases q<;>first | rfl | (cases h;done)
  refine⟨?_,by simp only [flat,frL,J,h4,h5,O5]⟩;simp only [flat];rw [Lv.cO _ _ (cf p),H,Z];simp only [T.ths,O5];rw [show p::q.ths=[p]++q.ths from rfl,eU]
 | .snd a b p,G,n=>gi G n rfl
 | .rcv a b p,G,n=>gi G n rfl
 | .tau p,G,n=>gi G n rfl
 | .sum p q,G,n=>gi G n rfl
 | .mat a b p,G,n=>gi G n rfl
 | .rep p,G,n=>gi G n rfl
open T in
def Mx {u:U}(H:Uq u)(n:u.Nr):∀x∈u.frL,(td u).2.has x=true:=by
 induction u with
 | res y p J=>
  intro x G;rcases OY.1 G with rfl | G
  ·exact(gL p x H.gI).2 n.1
  ·exact J H.res n.2 x G
 | _=>intro x G;cases G
open T in
def eR {u:U}(G:Uq u)(n:u.Nr):td u=(u.frL,tl u.ths):=by
 obtain⟨H,Z⟩:=rQ G n;have J:=Mx G n;have e:(td u).2=tl u.ths:=by rw [tc,H]
 rw [e]at J;show Lv.kept (flat u).1 (Lv.tid (flat u).2)=_;rw [H,Z];simp only [Lv.kept,O5]
 congr 1
 exact Qq.2 J
def cN:∀u:U,(flat u).2.sh true=true
 | .nil=>rfl
 | .snd a b p=>by simp only [flat,Lv.sh,cN p,P5]
 | .rcv a b p=>by simp only [flat,Lv.sh,cN p,P5]
 | .tau p=>by simp only [flat,Lv.sh,cN p,P5]
 | .mat a b p=>by simp only [flat,Lv.sh,cN p,P5]
 | .rep p=>by simp only [flat,Lv.sh,cN p,P5]
 | .res x p=>cN p
 | .par p q=>by simp only [flat];exact Lv.gJ (cN p) (cN q)
 | .sum p q=>by simp only [flat,Lv.sh,cN p,cN q,P5]
def vn (u:U):(td u).2.sh true=true:=Lv.eu _ _ (cN u)
def iB (f:Nat->Nat):∀(l:Lv) (b:Bool),(l.map f).sh b=l.sh b
 | .nil,_=>by simp [Lv.map,Lv.sh]
 | .thr k a b o r n,c=>by cases c<;>simp only [Lv.map,Lv.sh,iB f r,iB f n]
 | .sum ps n,c=>by cases c<;>simp only [Lv.map,Lv.sh,iB f ps,iB f n]
 | .part o q n,c=>by cases c<;>simp only [Lv.map,Lv.sh,iB f q,iB f n]
def pW (o:List Nat)(q n:Lv):(Lv.tid (.part o q n)).2=Lv.prt (Lv.kept o (Lv.tid q)).1 (Lv.kept o (Lv.tid q)).2 (Lv.tid n).2:=rfl
open T in
def il (f:Nat->Nat):∀(n:Nat) {u:U},u.size<=n->Uq u->u.Nr->
  Lv.tid ((td u).2.map f)=Lv.tid ((flat u).2.map f)/\(u.dead=false->(Lv.tid ((tp u.mW).map f)).2=Lv.prt (Lv.kept ((flat u).1.map f) (Lv.tid ((flat u).2.map f))).1 (Lv.kept ((flat u).1.map f) (Lv.tid ((flat u).2.map f))).2 .nil)
 | 0,u,h,_,_=>by cases u<;>simp [T.size]at h
 | k+1,u,h,G,n=>by
  have ih:∀p:U,p.size<=k->Uq p->p.Nr->Lv.kept ((td p).1.map f) (Lv.tid ((td p).2.map f))=Lv.kept ((flat p).1.map f) (Lv.tid ((flat p).2.map f)):=λp J G n=>by
   rw [(il f k J G n).1,eR G n,(rQ G n).2]
  have key:∀(kk:K) (a b:Nat) (p:U),p.size<=k->Uq p->p.Nr->Lv.tid ((Lv.thr kk a b (td p).1 (td p).2 .nil).map f)=Lv.tid ((Lv.thr kk a b (flat p).1 (flat p).2 .nil).map f):=λkk a b p J G n=>by
   simp only [Lv.map,Lv.tid,ih p J G n]
  have one:Lv.tid ((td u).2.map f)=Lv.tid ((flat u).2.map f)->u.isS=false->(Lv.tid ((tp u.mW).map f)).2=Lv.prt (Lv.kept ((flat u).1.map f) (Lv.tid ((flat u).2.map f))).1 (Lv.kept ((flat u).1.map f) (Lv.tid ((flat u).2.map f))).2 .nil:=λe hs=>by
   rw [gR hs,tp];simp only [Lv.map,tp];rw [pW,e,eR G n,(rQ G n).2];rfl
  have H:u.th=true->(td u).2=tl [u]:=λht=>by rw [tc,(gi G n ht).1]
  cases u with
  | nil=>exact⟨rfl,λh=>by cases h⟩
  | snd a b p=>
   have e:Lv.tid ((td (.snd a b p)).2.map f)=Lv.tid ((flat (.snd a b p)).2.map f):=by rw [H rfl];exact key .s a b p (by simp only [T.size]at h;omega) G.snd n
   exact⟨e,λ _=>one e rfl⟩
  | rcv a b p=>
   have e:Lv.tid ((td (.rcv a b p)).2.map f)=Lv.tid ((flat (.rcv a b p)).2.map f):=by rw [H rfl];exact key .r a b p (by simp only [T.size]at h;omega) G.rcv n
   exact⟨e,λ _=>one e rfl⟩
  | tau p=>
   have e:Lv.tid ((td (.tau p)).2.map f)=Lv.tid ((flat (.tau p)).2.map f):=by rw [H rfl];exact key .t 0 0 p (by simp only [T.size]at h;omega) G.tau n
   exact⟨e,λ _=>one e rfl⟩
  | mat a b p=>
   have e:Lv.tid ((td (.mat a b p)).2.map f)=Lv.tid ((flat (.mat a b p)).2.map f):=by rw [H rfl];exact key .m a b p (by simp only [T.size]at h;omega) G.mat n.2
   exact⟨e,λ _=>one e rfl⟩
  | rep p=>
   have e:Lv.tid ((td (.rep p)).2.map f)=Lv.tid ((flat (.rep p)).2.map f):=by rw [H rfl];exact key .p 0 0 p (by simp only [T.size]at h;omega) G.rep n.2
   exact⟨e,λ _=>one e rfl⟩
  | res x p=>
   have e:Lv.tid ((td (.res x p)).2.map f)=Lv.tid ((flat (.res x p)).2.map f):=(il f k (by simp only [T.size]at h;omega) G.res n.2).1;exact⟨e,λ _=>one e rfl⟩
  | par p q=>
   simp only [T.size]at h;have e:Lv.tid ((td (.par p q)).2.map f)=Lv.tid ((flat (.par p q)).2.map f):=by
    have h1:=(il f k (by omega) G.gP n.2.1).1;have h2:=(il f k (by omega) G.ga n.2.2).1;have e:(td (.par p q)).2=(td p).2.app (td q).2:=by simp only [tc,flat,Lv.cO _ _ (cf p)]
    rw [e];simp only [flat,Lv.e9];rw [Lv.cO _ _ (Lv.mX (by rw [iB];exact vn p)),Lv.cO _ _ (Lv.mX (by rw [iB];exact cN p)),h1,h2]
   exact⟨e,λ _=>one e rfl⟩
  | sum p q=>
   simp only [T.size]at h;have hs:tl [T.sum p q]= .sum (tp (p::q.mW)) .nil:=by
    simp only [tl];rw [eO G.eJ n.2.1 n.1.1,eO G.dX n.2.2 n.1.2.1,gR n.1.2.2];rfl
   have hz:(Lv.tid ((tp (p::q.mW)).map f)).2=(Lv.tid ((Lv.part (flat p).1 (flat p).2 (.part (flat q).1 (flat q).2 .nil)).map f)).2:=by
    rw [tp];simp only [Lv.map];rw [pW,pW,pW,ih p (by omega) G.eJ n.2.1,(il f k (by omega) G.dX n.2.2).2 n.1.2.1];rfl
   have e:Lv.tid ((td (.sum p q)).2.map f)=Lv.tid ((flat (.sum p q)).2.map f):=by
    rw [H rfl,hs];simp only [flat,Lv.map,Lv.tid];rw [hz];simp only [Lv.map];rfl
   refine⟨e,λ _=>?_⟩;have Z:((Lv.part (flat p).1 (flat p).2 (.part (flat q).1 (flat q).2 .nil)).map f).sh false=true:=by rw [iB];simp only [Lv.sh,cN,P5]
   show(Lv.tid ((tp (p::q.mW)).map f)).2=_;rw [hz];have J:=(Lv.oK ((Lv.part (flat p).1 (flat p).2 (.part (flat q).1 (flat q).2 .nil)).map f)).2 Z;have :=Lv.JQ J.1 (Lv.eu _ _ Z);simp only [flat,Lv.map,Qf,Lv.tid]at this|-;exact this.symm
structure Pc (x:List Nat×Lv)(t:U):Prop where
 own:x.1=(flat t).1
 sh:x.2.sh true=true
 tid:Lv.tid x.2=Lv.tid (flat t).2
def joinL:List (List Nat×Lv)->List Nat×Lv
 | []=>([],.nil)
 | x::l=>(x.1++(joinL l).1,x.2.app (joinL l).2)
def mQ:∀l m:List (List Nat×Lv),joinL (l++m)=((joinL l).1++(joinL m).1,(joinL l).2.app (joinL m).2)
 | [],m=>rfl
 | x::l,m=>by simp only [PC,joinL,mQ l m,Pe,Lv.cD]
def jO (x:List Nat×Lv):joinL [x]=x:=by simp only [joinL,O5,Lv.aY]
def mC:∀l:List U,flat (T.parL l)=joinL (l.map flat)
 | []=>rfl
 | [t]=>by simp only [T.parL,O3,Qf,jO]
 | t::u::l=>by
  have :=mC (u::l);simp only [T.parL,flat,this,O3,joinL]
def ry (p:U):∀o:List Nat,flat (T.resL o p)=(o++(flat p).1,(flat p).2)
 | []=>rfl
 | x::o=>by simp only [T.resL,flat,ry p o,PC]
def Pc.join:∀{zs:List ((List Nat×Lv)×U)},(∀z∈zs,Pc z.1 z.2)->Pc (joinL (zs.map (·.1))) (T.parL (zs.map (·.2)))
 | [],_=>⟨rfl,rfl,rfl⟩
 | z::zs,h=>by
  have G:=h z (by simp);have H:=Pc.join (zs:=zs) λy Z=>h y (by simp [Z])
  have e:flat (T.parL ((z::zs).map (·.2)))=joinL ((z::zs).map (λy=>flat y.2)):=by rw [mC,PZ];rfl
  have J:flat (T.parL (zs.map (·.2)))=joinL (zs.map (λy=>flat y.2)):=by rw [mC,PZ];rfl
  refine⟨?_,?_,?_⟩
  ·rw [e];simp only [O3,joinL];rw [G.own,H.own,J]
  ·simp only [O3,joinL];exact Lv.gJ G.sh H.sh
  ·rw [e];simp only [O3,joinL];rw [Lv.cO _ _ (Lv.mX G.sh),Lv.cO _ _ (cf z.2),G.tid,H.tid,J]
def Ba {own:List Nat}{x:List Nat×Lv}{t:U}(h:Pc x t):Lv.tidy (own++x.1) x.2=td (T.resL own t):=by
 show _=Lv.tidy (flat (T.resL own t)).1 (flat (T.resL own t)).2;rw [ry];simp only [Lv.tidy,h.own,h.tid]
def Pc.map (f:Nat->Nat){q:U}(G:Uq q)(n:q.Nr):Pc (Lv.cu f (td q)) (q.map f):=by
 have h:=(il f _ (OB _) G n).1;refine⟨?_,by rw [iB];exact vn q,?_⟩
 ·rw [cA,eR G n];show(T.frL q).map f=((flat q).1).map f;rw [(rQ G n).2]
 ·rw [cA];exact h
def map_id:∀l:Lv,l.map id=l
 | .nil=>rfl
 | .thr k a b o r n=>by simp only [Lv.map,map_id r,map_id n,List.map_id,id,ite_self]
 | .sum ps n=>by simp only [Lv.map,map_id ps,map_id n]
 | .part o q n=>by simp only [Lv.map,map_id q,map_id n,List.map_id]
def eZ:∀u:U,u.map id=u
 | .nil=>rfl
 | .snd a b p=>by simp only [T.map,eZ p,id]
 | .rcv a b p=>by simp only [T.map,eZ p,id]
 | .tau p=>by simp only [T.map,eZ p]
 | .sum p q=>by simp only [T.map,eZ p,eZ q]
 | .par p q=>by simp only [T.map,eZ p,eZ q]
 | .res x p=>by simp only [T.map,eZ p,id]
 | .mat a b p=>by simp only [T.map,eZ p,id]
 | .rep p=>by simp only [T.map,eZ p]
def Pc.nr {q:U}(G:Uq q)(n:q.Nr):Pc (td q) q:=by
 have h:=Pc.map id G n;rw [eZ]at h;have e:Lv.cu id (td q)=td q:=by simp only [Lv.cu,map_id,List.map_id]
 rwa [e]at h
structure Ay (l m:Lv):Prop where
 s:∀ρ tk,(thS l ρ tk).Perm (thS m ρ tk)
 bad:∀tk,thBad l tk=thBad m tk
 all:thAll l=thAll m
 most:ay l=ay m
 has:∀x,l.has x=m.has x
 nil:l.isNil=m.isNil
def Ay.refl (l:Lv):Ay l l:=⟨λ _ _=>PI _,λ _=>rfl,rfl,rfl,λ _=>rfl,rfl⟩
def Ay.trans {a b c:Lv}(h:Ay a b)(k:Ay b c):Ay a c:=⟨λρ tk=>(h.s ρ tk).trans (k.s ρ tk),λtk=>(h.bad tk).trans (k.bad tk),h.all.trans k.all,h.most.trans k.most,λx=>(h.has x).trans (k.has x),h.nil.trans k.nil⟩
def mD (l m:Lv):(l.app m).isNil=(l.isNil&&m.isNil):=by cases l<;>simp [Lv.app,Lv.isNil]
def Ay.app {a b c d:Lv}(h:Ay a b)(k:Ay c d):Ay (a.app c) (b.app d):=
 ⟨λρ tk=>by rw [gU,gU];exact(h.s ρ tk).append (k.s ρ tk),λtk=>by rw [dc,dc,h.bad,k.bad],by rw [cd,cd,h.all,k.all],by rw [cn,cn,h.most,k.most],λx=>by rw [Lv.dj,Lv.dj,h.has,k.has],by rw [mD,mD,h.nil,k.nil]⟩
def Ay.comm (a b:Lv):Ay (a.app b) (b.app a):=
 ⟨λρ tk=>by rw [gU,gU];exact QB,λtk=>by rw [dc,dc,Bool.or_comm],by rw [cd,cd];omega,by rw [cn,cn];omega,λx=>by rw [Lv.dj,Lv.dj,Bool.or_comm],by rw [mD,mD,Bool.and_comm]⟩
def Is {r r':List Nat×Lv}(h:r.1.Perm r'.1)(k:Ay r.2 r'.2):Cr r=Cr r':=by
 have G:lA r.2=lA r'.2:=by funext c;unfold lA;rw [k.has]
 have H:aV r.1 (thS r.2) ρ0 (lA r.2)=aV r'.1 (thS r'.2) ρ0 (lA r'.2):=by rw [G];exact lQ h k.s _ _
 have J:gw r.1.length r.2.isNil (thBad r.2) (lA r.2)=gw r'.1.length r'.2.isNil (thBad r'.2) (lA r'.2):=by
  rw [G,h.length_eq,k.nil,show thBad r.2=thBad r'.2 from funext k.bad]
 unfold Cr;rw [H,J,h.length_eq,k.most,k.all]
def Cd:∀ts:List U,Lv.tid (joinL (ts.map flat)).2=joinL (ts.map λt=>Lv.tid (flat t).2)
 | []=>rfl
 | t::ts=>by simp only [O3,joinL,Lv.cO _ _ (cf t),Cd ts]
def ye {l m:List (List Nat×Lv)}(h:l.Perm m):(joinL l).1.Perm (joinL m).1/\Ay (joinL l).2 (joinL m).2:=by
 induction h with
 | nil=>exact⟨PI _,Ay.refl _⟩
 | cons x _ J=>exact⟨(PI _).append J.1,(Ay.refl _).app J.2⟩
 | swap x y l=>
  simp only [joinL];refine⟨?_,?_⟩
  ·rw [<-Pe,<-Pe];exact QB.append (PI _)
  ·rw [<-Lv.cD,<-Lv.cD];exact(Ay.comm _ _).app (Ay.refl _)
 | trans _ _ G H=>exact⟨G.1.trans H.1,G.2.trans H.2⟩
def BY {own:List Nat}{ts G:List U}(h:ts.Perm G):cL (T.resL own (T.parL ts))=cL (T.resL own (T.parL G)):=by
 unfold cL;have e:∀ts:List U,td (T.resL own (T.parL ts))=Lv.kept (own++(joinL (ts.map flat)).1) (joinL (ts.map λt=>Lv.tid (flat t).2)):=λts=>by
  show Lv.tidy (flat _).1 (flat _).2=_;rw [ry,mC];simp only [Lv.tidy,Cd]
 rw [e,e];have J:=ye (h.map flat);have H:=ye (h.map λt=>Lv.tid (flat t).2);refine Is ?_ H.2;simp only [Lv.kept];rw [show(λx=>(joinL (ts.map λt=>Lv.tid (flat t).2)).2.has x)=λx=>(joinL (G.map λt=>Lv.tid (flat t).2)).2.has x from funext H.2.has];exact(((PI _).append J.1).append H.1).filter _
def ρN:Rh:=λx=>if x< 26 then UInt8.ofNat (97+x)else 0
def N0:N1 (eM []) ρN:=λx=>by
 unfold ρN;refine⟨?_,λh=>O' h,λh=> .inr ⟨rfl,OP (by omega)⟩⟩;split
 ·rename_i h;revert h;revert x;decide+kernel
 ·decide
def KD {x:Nat}(h:x< 26):Bt 1 x=pK (UInt8.ofNat (97+x))/\lt (UInt8.ofNat (97+x))=true/\e0 (UInt8.ofNat (97+x))=x:=by
 have G:lt (UInt8.ofNat (97+x))=true:=by revert x;decide+kernel
 have H:(UInt8.ofNat (97+x)).toNat=97+x:=by rw [PT];omega
 refine⟨?_,G,by unfold e0;rw [H];omega⟩;unfold pK;rw [gM G,H,show 97+x - 97=x by omega]
def Gs (l:Lv)(i:Nat):Tk:=λc=>lt c&&(decide (c.toNat - 97< i)&&l.has (e0 c))
def H9 (l:Lv)(c:UInt8):Gs l 0 c=false:=by simp [Gs]
def Jb (l:Lv):Gs l 26=lA l:=by
 funext c
 unfold Gs lA;cases h:lt c
 ·rfl
 ·have :=a7 h;simp [show c.toNat - 97< 26 by omega]
def qB.congr {x:UInt32}{tk tk':Tk}(h:qB x tk)(e:∀c,lt c=true->tk c=tk' c):qB x tk':=λc G=>by rw [h c G,e c G]
def MS {w:World}{n r:Nat}{ρ:Rh}{tk tk':Tk}{bad:Bool}(h:Nm w n r ρ tk bad)(e:∀c,lt c=true->tk c=tk' c):Nm w n r ρ tk' bad:=by
 obtain⟨x,G,H⟩:=h.c1;exact⟨h.lt,h.lr,h.ne,h.c0,h.mp,⟨x,G,H.congr e⟩,h.c2,h.f⟩
def BO {l:Lv}{i:Nat}(hi:i< 26)(c:UInt8)(H:lt c=true):(l.has i=true->cY (Gs l i) (UInt8.ofNat (97+i)) c=Gs l (i+1) c)/\(l.has i=false->Gs l i c=Gs l (i+1) c):=by
 have h1:=a7 H;have Z:(UInt8.ofNat (97+i)).toNat=97+i:=by rw [PT];omega
 have he:e0 c=c.toNat - 97:=rfl;unfold cY Gs;rw [H,he];by_cases h:c.toNat - 97=i
 ·have e:c=UInt8.ofNat (97+i):=OU.1 (by omega);rw [h];constructor
  ·intro G;have hb:(c==UInt8.ofNat (97+i))=true:=by rw [e];exact beq_self_eq_true _
   rw [hb,G];simp
  ·intro G;simp [G]
 ·have e:c≠UInt8.ofNat (97+i):=λe=>h (by rw [e,Z];omega)
  have J:decide (c.toNat - 97< i)=decide (c.toNat - 97< i+1):=by
   rw [QI];omega
  constructor
  ·intro _;rw [show(c==UInt8.ofNat (97+i))=false by simpa using e,J];simp
  ·intro _;rw [J]
def rW {D:Nat->Prop}{w:World}{v:Value}{o:List Nat}{l:Lv}(h:gC D w v o (ah D w l))(ψ:l.sh true=true)(htot:o.length+l.tot<=4294967295)(huq:vi (Lv.tidy o l).1 (Lv.tidy o l).2)(hfr:∀x,x∉(Lv.tidy o l).1->(Lv.tidy o l).2.fh x->x< 26){R:aD->Bool->Sb}
  (hR:∀w',Ex w w'->(∀s,Cr (Lv.tidy o l)=some s->R s true w')/\(Cr (Lv.tidy o l)=none->R [] false w')):Sc 117 #[v] w (aw [.s,.b] R):=by
 refine mj v w R ?_;dsimp only [go_sem];dsimp only [go_sem,UInt8.reduceOfNat,UInt32.reduceOfNat,Nat.reduceAdd];refine Hg _ (OB _) ψ h (by omega) λv2 w3 x3 h2=>?_
 have htt:=qv o l;have α:(Lv.tidy o l).2.sh true=true:=Lv.eu _ _ ψ;have ω:(Lv.tidy o l).2.sm=true:=Lv.oT _;generalize hr:Lv.tidy o l=r at*;obtain⟨Z,G⟩:=r;simp only at*;have hst:=Lv.kB G;have hN:∀b,Cr (Z,G)=b->(b=none->∀w',Ex w w'->R [] false w'):=λb e1 e2 w' x=>(hR w' x).2 (e1.trans e2)
 refine G4 _ (o:=Z) (l:=G) (OB _) α h2 (by show Z.length+G.tot<=_;omega) λw6 x6=>?_
 have ν:Ex w w6:=Ex.trans x3 x6;have β:¬(max Z.length (ay G)<=5/\Z.length+thAll G<=8)->Cr (Z,G)=none:=λhc=>by unfold Cr;rw [OP (λh=>hc h.1)]
 by_cases h5:5< max Z.length (ay G)
 ·exact ee (by omega) ((hR w6 ν).2 (β (by omega)))
 refine cH (by omega) ?_;by_cases h8:8< Z.length+thAll G
 ·exact df (by omega) ((hR w6 ν).2 (β (by omega)))
 refine aW (by omega) λb7 w8 hb7 ξ=>⟨trivial,λb9 ε ζ J=>?_⟩
 have x8:Ex w6 w8:=ξ▸Ex.alloc w6 _;have x10:Ex w8 ε:=J▸Ex.alloc w8 _;have s8:w8.heap.size=w6.heap.size+1:=by rw [ξ,size_alloc]
 have s10:ε.heap.size=w8.heap.size+1:=by rw [J,size_alloc]
 have s6:=x6.size;have s3:=x3.size;have e7:ε.heap[b7]?=some (.map #[] 0):=by
  rw [x10.block b7 (by omega),ξ,hb7];unfold World.alloc;simp
 have n10:Nm ε b9 b7 ρN (Gs G 0) false:=by
  refine⟨by omega,by omega,by omega,by rw [J,ζ];exact aa rfl,⟨eM [],⟨#[],0,e7,⟨by simp,by simp,by simp⟩,by simp,λq=>rfl⟩,N0⟩,⟨0,by rw [J,ζ];exact aa rfl,λc _=>?_⟩,by rw [J,ζ];exact aa rfl,λj=>by rw [J,ζ];exact aU _ _ _ _⟩;rw [H9];simp
 have h3:gC (λg=>EX w g/\g< w3.heap.size) w3 v2 Z (ah (λg=>EX w g/\g< w3.heap.size) w3 G):=az.sub (L:=(Z,G)) h2 λg hg hd=>⟨hd,hg⟩
 have hD:∀g,(EX w g/\g< w3.heap.size)->¬(g=b9\/g=b7):=λg hg=>by omega
 have ι:∀{w1:World},Ex w3 w1->gC (λg=>EX w g/\g< w3.heap.size) w1 v2 Z (ah (λg=>EX w g/\g< w3.heap.size) w1 G):=λk=>gC.ex h3 k
 refine⟨λx w'=>∃i:Nat,x=i/\i<=26/\Ex w6 w'/\Nm w' b9 b7 ρN (Gs G i) false,λx _=>(26 - x).toNat,⟨0,rfl,by omega,Ex.trans x8 x10,n10⟩,λx w14 hI=>?_⟩;obtain⟨i,rfl,hi,γ,ο⟩:=hI;refine⟨λhlt=>?_,λhge=>?_⟩
 ·have ς:i< 26:=by simp only [OK]at hlt;omega
  obtain⟨eb1,eb2,eb3⟩:=KD ς;refine L8 _ (OB _) α (ι (Ex.trans x6 γ)) (by omega) λη x16=>?_
  have θ:=ο.ex x16;have κ:Ex w6 η:=Ex.trans γ x16;refine⟨λhh=>⟨λw'=>Ex η w',λw18 hw18=>?_⟩,λhh=>⟨by omega,⟨i+1,by omega,by omega,κ,MS θ λc hc=>(BO ς c hc).2 hh⟩,by show((26:Int) - ((i:Int)+1)).toNat< ((26:Int) - i).toNat;omega⟩⟩;have υ:Ex η w18:=hw18▸Ex.drew η;obtain⟨y,hy,hyt⟩:=θ.c1;have φ:=θ.ex υ;obtain⟨y',hy',_⟩:=φ.c1;refine⟨υ,y,λw' x'=>by rw [x'.cell (show b9< _ from θ.lt)];exact hy,by omega,⟨⟨_,hy'⟩,φ.f 1⟩,λw21 μ=>⟨by omega,⟨i+1,by omega,by omega,?_,?_⟩,by show((26:Int) - ((i:Int)+1)).toNat< ((26:Int) - i).toNat;omega⟩⟩
  ·exact μ▸Ex.own (Ex.trans κ υ) (by omega) _
  ·refine MS (φ.set (tk':=cY (Gs G i) (UInt8.ofNat (97+i))) (bad':=false) μ (.inl ⟨rfl,rfl,_,rfl,?_⟩)) λc hc=>(BO ς c hc).1 hh
   rw [OG,eb1];exact hyt.add eb2
 ·have:i=26:=by simp only [OF]at hge;omega
  subst this;rw [Jb]at ο;have hlS:aV Z (thS G) ρN (lA G)=aV Z (thS G) ρ0 (lA G):=eG (H:=λx=>G.fh x) (λρ ρ' tk=>iM G ρ ρ' tk) (λρ ρ' tk h=>uF G ρ ρ' tk h) λx hx hf=>by
   have :=hfr x hx hf;unfold ρN ρ0;rw [O' this]
  refine MV _ (OB _) α ω huq (ι (Ex.trans x6 γ)) hD ο (by omega) λχ ρ' k23 n23 _=>⟨_,n23.c2,?_⟩
  rw [hlS,QU];have x23:Ex w6 χ:=Ex.below γ (Kp.below k23 γ.size λg hg e=>by omega);have δ:Ex w χ:=Ex.trans ν x23;refine⟨λhb=>Bl λq w26 x26 hq=>⟨λh=>(hR w26 (Ex.trans δ x26)).2 ?_,λh=>(hR w26 (Ex.trans δ x26)).1 _ ?_⟩,λhb=>(hR χ δ).2 ?_⟩
  ·unfold Cr;have:¬dJ (aV Z (thS G) ρ0 (lA G)):=λhg=>by rw [hq.2 hg]at h;cases h
   rw [OP (λh=>this h.2.2)]
  ·unfold Cr;have:dJ (aV Z (thS G) ρ0 (lA G)):=hq.1 (by cases q<;>first | rfl | cases h);rw [O' ⟨⟨by show max Z.length (ay G)<=5;omega,by show Z.length+thAll G<=8;omega⟩,hb,this⟩]
  ·unfold Cr;rw [OP (λh=>by have :=h.2.1;rw [hb]at this;cases this)]
attribute [go_sem] Tryz.f55
def zH (n1:aD)(w:World)(R:Value->Sb)(h:vc aB (a6 [] [] [(3,true,.lt 0 (.lt 1 (.lt 2 (.lt 3 (.lt 4 (.one .n 5 (.one .n 6 (.one .n 7 (.lt 8 (.lt 9 (.one .n 10 .done)))))))))))]) (ai Tryz.f55) (aj 0 [.s n1]) w (fin aB [.tmp 2 .v] R)):
  Sc 55 #[(.string (ak n1))] w (aw [.v] R):=
 bn Tryz.func55 (by kernel_rfl) h
attribute [go_sem] Tryz.f44
def sW (G:aD)(w:World)(R:Value->Bool->Sb)(h:vc aB (a6 [] [] []) (ai Tryz.f44) (aj 0 [.s G]) w (fin aB [.tmp 2 .v,.tmp 3 .b] R)):
  Sc 44 #[(.string (ak G))] w (aw [.v,.b] R):=
 bn Tryz.func44 (by kernel_rfl) h
def ft (t1:Value)(w:World)(R:Value->Sb)(h:bT t1 λb2 o3=>rG w b2 (o3+0) λc4=>∃J5:Bool->Sb,(bZ (decide (c4=126)) (J5 ((decide (c4=126))) w) (bZ (decide (c4=33)) (J5 ((decide (c4=33))) w) (J5 ((decide (c4=63))) w)))/\∀(x6:Bool) (w7:World),J5 x6 w7->bZ x6 (jf w7 λS8 w9=>bT t1 λb10 o11=>GM S8 b10 (o11+0) λc12=>bT t1 λb13 o14=>uX S8 b13 (o14+1) λn15=>bT t1 λb16 o17=>uX S8 b16 (o17+2) λn18=>bT t1 λb19 o20=>fq S8 b19 (o20+3) λv21=>oneV v21=true/\db w9 (.cells #[(.int .u8 c12.toNat),(.int .i64 n15),(.int .i64 n18),v21,(.bool false)] 134) λb22 ν=>S8 ν/\R ((.slice (some ⟨b22,0,none⟩) 1 1)) ν) (bZ (decide (c4=42)) (db w7 (.cells #[] 134) λb24 ι=>bT t1 λb26 o27=>dP ι b26 (o27+3) λv28=>bT v28 λb29 o30=>dP ι b29 (o30+1) λv31=>kZ v31 λl33=>zb ((.slice (some ⟨b24,0,none⟩) 0 0)) 0 ι λξ ε α G H=>bZ (decide (G< (l33:Int))) (jQ v31 G λb40 o41=>dP H b40 (o41+G.toNat* 1) λζ=>bT ζ λb45 o46=>rG H b45 (o46+0) λc47=>bZ (decide (c47=63)) (jf H λβ w49=>bT ζ λb50 o51=>uX β b50 (o51+1) λn52=>bT ζ λb53 o54=>uX β b53 (o54+2) λn55=>bT ζ λb56 o57=>fq β b56 (o57+3) λο=>oneV ο=true/\db w49 (.cells #[(.int .u8 (UInt8.toNat 63)),(.int .i64 n52),(.int .i64 n55),ο,(.bool true)] 134) λb59 ς=>β ς/\nV 134 5 40 ς α (.slice (some ⟨b59,0,none⟩) 1 1) λυ κ=>β κ/\bG (G+1)/\ξ υ (G+1) κ/\ε υ (G+1) κ< ε α G H) (bG (G+1)/\ξ α (G+1) H/\ε α (G+1) H< ε α G H)) (R α H)) (bZ (decide (c4=43)) (db w7 (.cells #[] 134) λb68 φ=>bT t1 λb70 o71=>dP φ b70 (o71+4) λv72=>kZ v72 λl74=>zb ((.slice (some ⟨b68,0,none⟩) 0 0)) 0 φ λI76 χ μ J γ=>bZ (decide (J< (l74:Int))) (jQ v72 J λb81 o82=>dP γ b81 (o82+J.toNat* 1) λv85=>bT v85 λb86 o87=>dP γ b86 (o87+1) λψ=>kZ ψ λl90=>zb μ 0 γ λI92 ω η Z δ=>bZ (decide (Z< (l90:Int))) (jQ ψ Z λb97 o98=>dP δ b97 (o98+Z.toNat* 1) λv101=>lg 113 #[v101] δ λv102 w103=>nV 134 5 40 w103 η v102 λv109 θ=>bG (Z+1)/\I92 v109 (Z+1) θ/\ω v109 (Z+1) θ< ω η Z δ) (bG (J+1)/\I76 η (J+1) δ/\χ η (J+1) δ< χ μ J γ)) (R μ γ)) (R (.slice none 0 0) w7)))):
  Sc 113 #[t1] w (aw [.v] R):=
 Iz (a6 [(9,[(3,.v),(48,.i)]),(18,[(6,.v),(83,.i)]),(21,[(6,.v),(92,.i)])] [(5,[(15,.b)])] [(5,true,.lt 0 (.lt 1 (.lt 2 (.lt 3 (.lt 4 (.lt 5 (.lt 6 (.lt 7 (.lt 8 (.lt 9 (.lt 10 (.lt 11 (.lt 12 (.lt 13 (.lt 14 (.lt 15 (.lt 16 (.one .g 17 (.lt 18 .done))))))))))))))))))),(12,true,.lt 0 (.lt 1 (.lt 2 (.lt 3 (.lt 4 (.lt 5 (.lt 6 (.lt 7 (.lt 8 (.lt 9 (.lt 10 (.lt 11 (.lt 12 (.lt 13 (.one .g 14 (.one .g 15 (.lt 16 .done)))))))))))))))))]) [.tmp 2 .v] [.v t1] Tryz.func113 (by kernel_rfl) h
attribute [go_sem] Tryz.f222
def nM (s1:Value)(v2:Int)(w:World)(R:Int->Sb)(h:vc aB (a6 [(2,[(8,.i)])] [] []) (ai Tryz.f222) (aj 0 [.v s1,.i v2]) w (fin aB [.tmp 4 .i] R)):
  Sc 222 #[s1,(.int .i64 v2)] w (aw [.i] R):=
 bn Tryz.func222 (by kernel_rfl) h
attribute [go_sem] Tryz.f183
def jW (s1:Value)(v2:Int)(w:World)(R:Bool->Sb)(h:vc aB (a6 [] [] []) (ai Tryz.f183) (aj 0 [.v s1,.i v2]) w (fin aB [.tmp 4 .b] R)):
  Sc 183 #[s1,(.int .i64 v2)] w (aw [.b] R):=
 bn Tryz.func183 (by kernel_rfl) h
attribute [go_sem] Tryz.f114
def nC (s1:Value)(g2:Value)(G:Value)(m4:Value)(w:World)(R:aD->Bool->Sb)(h:vc aB (a6 [(3,[(27,.i)]),(9,[(49,.i)])] [] []) (ai Tryz.f114) (aj 0 [.v s1,.v g2,.v G,.v m4]) w (fin aB [.tmp 8 .s,.tmp 9 .b] R)):
  Sc 114 #[s1,g2,G,m4] w (aw [.s,.b] R):=
 bn Tryz.func114 (by kernel_rfl) h
attribute [go_sem] Tryz.f61
def ng (G:Value)(s2:aD)(H:Bool)(w:World)(R:Sb)(h:vc aB (a6 [] [] []) (ai Tryz.f61) (aj 0 [.v G,.s s2,.b H]) w (fin aB [] R)):
  Sc 61 #[G,(.string (ak s2)),(.bool H)] w (aw [] R):=
 bn Tryz.func61 (by kernel_rfl) h
attribute [go_sem] Tryz.f198
def kA (G:Int)(c2:Value)(w:World)(R:Int->Sb)(h:vc aB (a6 [] [] []) (ai Tryz.f198) (aj 0 [.i G,.v c2]) w (fin aB [.tmp 3 .i] R)):
  Sc 198 #[(.int .i64 G),c2] w (aw [.i] R):=
 bn Tryz.func198 (by kernel_rfl) h
def lz (m1:Value)(l2:Value)(t3:Value)(w:World)(R:Value->Sb)(h:oneV t3=true/\db w (.cells #[t3] 179) λb4 w5=>db w5 (.cells #[(.slice none 0 0),(.slice none 0 0)] 129) λb6 w7=>bT l2 λb8 o9=>dP w7 b8 (o9+0) λv10=>kZ v10 λl12=>yC 0 w7 λI14 m15 β ι=>bZ (decide (β< (l12:Int))) (jQ v10 β λb18 o19=>Gd ι b18 (o19+β.toNat* 1) λn22=>jf ι λS23 w24=>fq S23 b4 0 λv25=>Lu 172 #[m1] w24 λn26 w27=>S23 w27/\∃(υ:Nat) (m29:Value->Option Value),v25= .map (some υ)/\IsMap w27 υ (.int .i64) m29/\∀w30:World,IsMap w30 υ (.int .i64) (gF m29 (.int .i64 n22) (.int .i64 n26))->dO w27 w30 υ->jf w30 λκ Df=>fq κ b6 0 λv33=>fq κ b4 0 λv34=>∃(r35:Nat) (m36:Value->Option Value),v34= .map (some r35)/\IsMap Df r35 (.int .i64) m36/\∃y37:Int,∃g38:Bool,((g38=true/\m36 (.int .i64 n22)=some (.int .i64 y37))\/(g38=false/\m36 (.int .i64 n22)=none/\(Value.int .i64 y37)=(.int .i64 0)))/\κ Df/\db Df (.cells #[(.int .i64 y37)] 3) λb39 w40=>κ w40/\nV 3 1 8 w40 v33 (.slice (some ⟨b39,0,none⟩) 1 1) λv46 w47=>κ w47/\oneV v46=true/\nj w47 b6 0 v46 λw49=>bG (β+1)/\I14 (β+1) w49/\m15 (β+1) w49< m15 β ι) (bT l2 λb50 o51=>dP ι b50 (o51+1) λv52=>kZ v52 λl54=>yC 0 ι λI56 m57 γ μ=>bZ (decide (γ< (l54:Int))) (jQ v52 γ λb60 o61=>dP μ b60 (o61+γ.toNat* 1) λG=>bT G λb65 o66=>rG μ b65 (o66+0) λc67=>db μ (.cells #[(.int .u8 c67.toNat),(.int .i64 0),(.int .i64 0),(.pointer none),(.slice none 0 0)] 191) λJ δ=>∃θ:Sb,(bT G λb71 o72=>rG δ b71 (o72+0) λφ=>bZ (decide (φ=63)) (bT G λb74 o75=>Gd δ b74 (o75+1) λn76=>∃(f77:Nat) (c78:List Value),(Value.func (.func 198) #[] #[(.pointer (some ⟨b4,0,none⟩))])= .func (.func f77) #[] (List.toArray c78)/\hasR gN f77=true/\Lu f77 (List.toArray ([(.int .i64 n76)]++c78)) δ λn79 w80=>nj w80 J 1 (.int .i64 n79) λw82=>jf w82 λS83 w84=>fq S83 b4 0 λv85=>bT G λb86 o87=>uX S83 b86 (o87+2) λn88=>Lu 172 #[m1] w84 λn89 w90=>S83 w90/\∃(χ:Nat) (m92:Value->Option Value),v85= .map (some χ)/\IsMap w90 χ (.int .i64) m92/\∀w93:World,IsMap w93 χ (.int .i64) (gF m92 (.int .i64 n88) (.int .i64 n89))->dO w90 w93 χ->jf w93 λS94 w95=>fq S94 b4 0 λv96=>bT G λb97 o98=>uX S94 b97 (o98+2) λn99=>∃(ψ:Nat) (ν:Value->Option Value),v96= .map (some ψ)/\IsMap w95 ψ (.int .i64) ν/\∃ξ:Int,∃ω:Bool,((ω=true/\ν (.int .i64 n99)=some (.int .i64 ξ))\/(ω=false/\ν (.int .i64 n99)=none/\(Value.int .i64 ξ)=(.int .i64 0)))/\nj w95 J 2 (.int .i64 ξ) λw105=>θ w105) (bZ (decide (φ=33)) (bZ (decide (φ=33)) (jf δ λε w107=>bT G λb108 o109=>uX ε b108 (o109+1) λn110=>bT G λb111 o112=>uX ε b111 (o112+2) λn113=>∃(f114:Nat) (c115:List Value),(Value.func (.func 198) #[] #[(.pointer (some ⟨b4,0,none⟩))])= .func (.func f114) #[] (List.toArray c115)/\hasR gN f114=true/\Lu f114 (List.toArray ([(.int .i64 n110)]++c115)) w107 λn116 w117=>ε w117/\∃(f118:Nat) (c119:List Value),(Value.func (.func 198) #[] #[(.pointer (some ⟨b4,0,none⟩))])= .func (.func f118) #[] (List.toArray c119)/\hasR gN f118=true/\Lu f118 (List.toArray ([(.int .i64 n113)]++c119)) w117 λn120 w121=>ε w121/\nj w121 J 1 (.int .i64 n116) λw123=>nj w123 J 2 (.int .i64 n120) λw125=>θ w125) (θ δ)) (bZ (decide (φ=61)) (jf δ λζ w127=>bT G λb128 o129=>uX ζ b128 (o129+1) λn130=>bT G λb131 o132=>uX ζ b131 (o132+2) λn133=>∃(f134:Nat) (c135:List Value),(Value.func (.func 198) #[] #[(.pointer (some ⟨b4,0,none⟩))])= .func (.func f134) #[] (List.toArray c135)/\hasR gN f134=true/\Lu f134 (List.toArray ([(.int .i64 n130)]++c135)) w127 λn136 w137=>ζ w137/\∃(f138:Nat) (c139:List Value),(Value.func (.func 198) #[] #[(.pointer (some ⟨b4,0,none⟩))])= .func (.func f138) #[] (List.toArray c139)/\hasR gN f138=true/\Lu f138 (List.toArray ([(.int .i64 n133)]++c139)) w137 λn140 w141=>ζ w141/\nj w141 J 1 (.int .i64 n136) λw143=>nj w143 J 2 (.int .i64 n140) λw145=>θ w145) (θ δ))))/\∀(η:World),θ η->∃ο:Sb,(bT G λb148 o149=>dP η b148 (o149+3) λv150=>∃q151:Option Addr,v150= .pointer q151/\bZ (!Option.isNone q151) (jf η λS152 w153=>bT G λb154 o155=>fq S152 b154 (o155+3) λv156=>fq S152 b4 0 λv157=>lg 154 #[m1,v156,v157] w153 λv158 w159=>oneV v158=true/\nj w159 J 3 v158 λw161=>ο w161) (ο η))/\∀(ς:World),ο ς->bT G λb163 o164=>dP ς b163 (o164+4) λv165=>kZ v165 λl167=>yC 0 ς λI169 m170 H Z=>bZ (decide (H< (l167:Int))) (jQ v165 H λb173 o174=>dP Z b173 (o174+H.toNat* 1) λv177=>jf Z λα w179=>fq α J 4 λv180=>fq α b4 0 λv181=>lg 154 #[m1,v177,v181] w179 λv182 w183=>α w183/\oneV v182=true/\db w183 (.cells #[v182] 59) λb184 w185=>α w185/\nV 59 1 8 w185 v180 (.slice (some ⟨b184,0,none⟩) 1 1) λv191 w192=>α w192/\oneV v191=true/\nj w192 J 4 v191 λw194=>bG (H+1)/\I169 (H+1) w194/\m170 (H+1) w194< m170 H Z) (dP Z b6 1 λv195=>db Z (.cells #[(.pointer (some ⟨J,0,none⟩))] 130) λb196 w197=>nV 130 1 8 w197 v195 (.slice (some ⟨b196,0,none⟩) 1 1) λv203 w204=>oneV v203=true/\nj w204 b6 1 v203 λw206=>bG (γ+1)/\I56 (γ+1) w206/\m57 (γ+1) w206< m57 γ μ)) (R ((.pointer (some ⟨b6,0,none⟩))) μ))):
  Sc 154 #[m1,l2,t3] w (aw [.v] R):=
 Iz (a6 [(3,[(23,.i)]),(10,[(50,.i)]),(24,[(132,.i)])] [(21,[]),(23,[])] [(5,true,.lt 0 (.lt 1 (.lt 2 (.one .g 3 (.one .n 4 .done))))),(6,true,.lt 0 (.lt 1 (.lt 2 (.lt 3 (.lt 4 (.lt 5 (.lt 6 (.one .g 7 (.one .g 8 (.one .g 9 (.lt 10 (.lt 11 (.one .n 12 .done))))))))))))),(16,true,.lt 0 (.lt 1 (.lt 2 (.lt 3 (.lt 4 (.lt 5 (.one .g 6 (.one .n 7 .done)))))))),(17,true,.lt 0 (.lt 1 (.lt 2 (.lt 3 (.lt 4 (.lt 5 (.one .n 6 (.lt 7 (.lt 8 (.one .n 9 .done)))))))))),(20,true,.lt 0 (.lt 1 (.lt 2 (.lt 3 (.lt 4 (.lt 5 (.lt 6 (.lt 8 (.lt 9 (.lt 10 (.lt 11 (.lt 12 (.one .g 7 (.one .g 13 (.lt 14 (.lt 15 (.one .n 16 (.lt 17 (.lt 18 (.one .n 19 .done)))))))))))))))))))),(22,true,.lt 0 (.lt 1 (.lt 2 (.lt 3 (.lt 4 (.lt 5 (.lt 6 (.one .n 7 (.lt 8 (.lt 9 (.one .n 10 .done))))))))))),(26,true,.lt 0 (.lt 1 (.lt 2 (.lt 3 (.lt 4 (.lt 5 (.lt 6 (.lt 7 (.one .g 8 (.one .g 9 (.one .g 10 (.lt 11 (.lt 12 (.one .n 13 .done))))))))))))))]) [.tmp 6 .v] [.v m1,.v l2,.v t3] Tryz.func154 (by kernel_rfl) h
attribute [go_sem] Tryz.f115
def kj (s1:Value)(G:Value)(H:Int)(w:World)(R:Value->Sb)(h:vc aB (a6 [] [] [(1,true,.lt 0 (.lt 1 (.lt 2 (.lt 3 (.lt 4 (.lt 6 (.lt 7 (.lt 8 (.one .g 5 (.one .g 9 (.lt 10 (.one .g 11 (.lt 12 .done)))))))))))))]) (ai Tryz.f115) (aj 0 [.v s1,.v G,.i H]) w (fin aB [.tmp 6 .v] R)):
  Sc 115 #[s1,G,(.int .i64 H)] w (aw [.v] R):=
 bn Tryz.func115 (by kernel_rfl) h
def ja (s1:Value)(w:World)(R:Value->Sb)(h:kZ s1 λl3=>bZ (decide ((l3:Int)< 2)) (R s1 w) (yC 1 w λI5 m6 J w8=>kZ s1 λl10=>bZ (decide (J< (l10:Int))) (jf w8 λς ν=>jQ s1 J λb14 o15=>IY ς b14 (o15+J.toNat* 1) λs18=>bG (J - 1)/\jQ s1 (J - 1) λb19 o20=>IY ς b19 (o20+Int.toNat (J - 1)* 1) λs23=>bZ (decide (s18=s23)) (∃(a24:Option Addr) (α Z:Nat),s1= .slice a24 α Z/\0<=(J:Int)/\(J:Int)<=(α:Int)/\(α:Int)<=(Z:Int)/\NO J 1 ν λυ γ G H β=>kZ (.slice (if Z=J.toNat then a24 else Option.map (·.add (J.toNat* 1)) a24) (Int.toNat (α:Int) - J.toNat) (Z - J.toNat)) λl33=>bZ (decide (H< (l33:Int))) (jf β λφ δ=>jQ (.slice (if Z=J.toNat then a24 else Option.map (·.add (J.toNat* 1)) a24) (Int.toNat (α:Int) - J.toNat) (Z - J.toNat)) H λb37 o38=>IY φ b37 (o38+H.toNat* 1) λs41=>bG (H - 1)/\jQ (.slice (if Z=J.toNat then a24 else Option.map (·.add (J.toNat* 1)) a24) (Int.toNat (α:Int) - J.toNat) (Z - J.toNat)) (H - 1) λb42 o43=>IY φ b42 (o43+Int.toNat (H - 1)* 1) λs46=>bZ (!decide (s41=s46)) (jQ (.slice (if Z=J.toNat then a24 else Option.map (·.add (J.toNat* 1)) a24) (Int.toNat (α:Int) - J.toNat) (Z - J.toNat)) H λb47 o48=>MZ δ b47 (o48+H.toNat* 1) λs51=>jQ s1 G λb52 o53=>nj δ b52 (o53+G.toNat* 1) (.string (ak s51)) λχ=>bG (G+1)/\bG (H+1)/\υ (G+1) (H+1) χ/\γ (G+1) (H+1) χ< γ G H β) (bG (H+1)/\υ G (H+1) δ/\γ G (H+1) δ< γ G H β)) (∃(ξ:Option Addr) (ε ζ:Nat),s1= .slice ξ ε ζ/\0<=(G:Int)/\(G:Int)<=(ε:Int)/\(ε:Int)<=(ζ:Int)/\∃(ψ:Option Addr) (η c63:Nat),(Value.slice (if ζ=G.toNat then ξ else Option.map (·.add (G.toNat* 1)) ξ) (Int.toNat (ε:Int) - G.toNat) (ζ - G.toNat))= .slice ψ η c63/\((η=0/\∃(ο:Option Addr) (l68 θ:Nat),s1= .slice ο l68 θ/\0<=(0:Int)/\(0:Int)<=G/\G<=(θ:Int)/\R ((.slice (if θ=Int.toNat 0 then ο else Option.map (·.add (Int.toNat 0* 1)) ο) (G.toNat - Int.toNat 0) (θ - Int.toNat 0))) β)\/∃(ι κ:Nat),ψ=some ⟨ι,κ,none⟩/\(∀j,j< η->(∃u,World.cell? β ⟨ι,κ+j,none⟩=some u)/\World.frozen? β ⟨ι,κ+j,none⟩=false)/\∀ω:World,ω=World.setCells β ι κ (List.replicate η (.string ⟨#[]⟩))->∃(a70:Option Addr) (l71 μ:Nat),s1= .slice a70 l71 μ/\0<=(0:Int)/\(0:Int)<=G/\G<=(μ:Int)/\R ((.slice (if μ=Int.toNat 0 then a70 else Option.map (·.add (Int.toNat 0* 1)) a70) (G.toNat - Int.toNat 0) (μ - Int.toNat 0))) ω))) (bG (J+1)/\I5 (J+1) ν/\m6 (J+1) ν< m6 J w8)) (R s1 w8))):
  Sc 101 #[s1] w (aw [.v] R):=
 Iz (a6 [(4,[(3,.i)]),(9,[(3,.i),(5,.i)])] [] [(6,true,.lt 0 (.lt 1 (.lt 2 (.lt 3 (.lt 4 (.lt 5 (.lt 6 (.lt 7 (.lt 8 (.lt 9 .done)))))))))),(11,true,.lt 0 (.lt 1 (.lt 2 (.lt 3 (.lt 4 (.lt 5 (.lt 6 (.lt 7 (.lt 8 (.lt 9 .done))))))))))]) [.tmp 2 .v] [.v s1] Tryz.func101 (by kernel_rfl) h
attribute [go_sem] Tryz.f51
def lK (G:Value)(w:World)(R:Value->Bool->Sb)(h:vc aB (a6 [] [] []) (ai Tryz.f51) (aj 0 [.v G]) w (fin aB [.tmp 2 .v,.tmp 3 .b] R)):
  Sc 51 #[G] w (aw [.v,.b] R):=
 bn Tryz.func51 (by kernel_rfl) h
def iX (s1:Value)(w:World)(R:Value->Bool->Sb)(h:db w (.cells #[(.slice none 0 0),(.bool false)] 53) λb2 w3=>bT s1 λb4 o5=>dP w3 b4 (o5+2) λv6=>bT v6 λb7 o8=>dP w3 b7 (o8+1) λv9=>kZ v9 λl11=>yC 0 w3 λI13 m14 γ ω=>bZ (decide (γ< (l11:Int))) (jQ v9 γ λb17 o18=>dP ω b17 (o18+γ.toNat* 1) λv21=>lg 113 #[v21] ω λv22 w23=>kZ v22 λl25=>yC 0 w23 λI27 m28 J ε=>bZ (decide (J< (l25:Int))) (jQ v22 J λν ξ=>∃c35:UInt8,∃n36:Int,∃n37:Int,∃v38:Value,∃q39:Bool,(World.cell? ε ⟨ν,(ξ+J.toNat* 5),none⟩=some (.int .u8 c35.toNat)/\World.cell? ε ⟨ν,((ξ+J.toNat* 5)+1),none⟩=some (.int .i64 n36)/\World.cell? ε ⟨ν,(((ξ+J.toNat* 5)+1)+1),none⟩=some (.int .i64 n37)/\World.cell? ε ⟨ν,((((ξ+J.toNat* 5)+1)+1)+1),none⟩=some v38/\World.cell? ε ⟨ν,(((((ξ+J.toNat* 5)+1)+1)+1)+1),none⟩=some (.bool q39)/\True)/\db ε (.cells #[(.int .u8 0),(.int .i64 0),(.int .i64 0),(.pointer none),(.bool false)] 134) λι w41=>Lg w41 ι 0 5 [(.int .u8 c35.toNat),(.int .i64 n36),(.int .i64 n37),v38,(.bool q39)] λw42=>∃J43:Sb,(rG w42 ι 0 λc44=>bZ (decide (c44=126)) (jf w42 λδ w46=>bT s1 λb47 o48=>fq δ b47 (o48+2) λv49=>bT v49 λb50 o51=>fq δ b50 (o51+0) λv52=>fq δ ι 3 λv53=>(db w46 (.cells #[(.int .i64 γ)] 3) λb54 w55=>δ w55/\oneV v53=true/\db w55 (.cells #[v53] 59) λb56 w57=>δ w57/\qu 114 #[s1,(.slice (some ⟨b54,0,none⟩) 1 1),v52,(.slice (some ⟨b56,0,none⟩) 1 1)] w57 λs58 q59 w60=>δ w60/\fC 61 #[(.pointer (some ⟨b2,0,none⟩)),(.string (ak s58)),(.bool q59)] w60 λw61=>δ w61/\J43 w61)/\(oneV v53=true/\db w46 (.cells #[v53] 59) λb62 w63=>δ w63/\db w63 (.cells #[(.int .i64 γ)] 3) λb64 w65=>δ w65/\qu 114 #[s1,(.slice (some ⟨b64,0,none⟩) 1 1),v52,(.slice (some ⟨b62,0,none⟩) 1 1)] w65 λs66 q67 w68=>δ w68/\fC 61 #[(.pointer (some ⟨b2,0,none⟩)),(.string (ak s66)),(.bool q67)] w68 λw69=>δ w69/\J43 w69)) (J43 w42))/\∀(κ:World),J43 κ->rG κ ι 0 λc71=>bZ (!decide (c71=33)) (bG (J+1)/\I27 (J+1) κ/\m28 (J+1) κ< m28 J ε) (bT s1 λb72 o73=>dP κ b72 (o73+2) λv74=>bT v74 λb75 o76=>dP κ b75 (o76+1) λv77=>kZ v77 λl79=>yC 0 κ λI81 m82 ζ ο=>bZ (decide (ζ< (l79:Int))) (jQ v77 ζ λb85 o86=>dP ο b85 (o86+ζ.toNat* 1) λv89=>lg 113 #[v89] ο λv90 w91=>kZ v90 λl93=>yC 0 w91 λI95 η G β=>bZ (decide (G< (l93:Int))) (jQ v90 G λς θ=>∃c103:UInt8,∃n104:Int,∃n105:Int,∃v106:Value,∃q107:Bool,(World.cell? β ⟨ς,(θ+G.toNat* 5),none⟩=some (.int .u8 c103.toNat)/\World.cell? β ⟨ς,((θ+G.toNat* 5)+1),none⟩=some (.int .i64 n104)/\World.cell? β ⟨ς,(((θ+G.toNat* 5)+1)+1),none⟩=some (.int .i64 n105)/\World.cell? β ⟨ς,((((θ+G.toNat* 5)+1)+1)+1),none⟩=some v106/\World.cell? β ⟨ς,(((((θ+G.toNat* 5)+1)+1)+1)+1),none⟩=some (.bool q107)/\True)/\db β (.cells #[(.int .u8 0),(.int .i64 0),(.int .i64 0),(.pointer none),(.bool false)] 134) λZ w109=>Lg w109 Z 0 5 [(.int .u8 c103.toNat),(.int .i64 n104),(.int .i64 n105),v106,(.bool q107)] λH=>Gp (decide (ζ=γ)) (rG H Z 0 λc111=>Gp (!decide (c111=63)) (Gd H Z 1 λn112=>Gd H ι 1 λn113=>bZ (!decide (n112=n113)) (bG (G+1)/\I95 (G+1) H/\η (G+1) H< η G β) (db H (.cells #[(.int .i64 γ),(.int .i64 ζ)] 3) λb114 υ=>∃φ:Value->Sb,(NG υ Z 4 λq117=>bZ q117 (∃(χ:Option Addr) (l119 μ:Nat),(Value.slice (some ⟨b114,0,none⟩) 2 2)= .slice χ l119 μ/\0<=(0:Int)/\(0:Int)<=1/\1<=(μ:Int)/\φ ((.slice (if μ=Int.toNat 0 then χ else Option.map (·.add (Int.toNat 0* 1)) χ) (Int.toNat 1 - Int.toNat 0) (μ - Int.toNat 0))) υ) (φ ((.slice (some ⟨b114,0,none⟩) 2 2)) υ))/\∀(g121:Value) (w122:World),φ g121 w122->jf w122 λα w124=>bT s1 λb125 o126=>fq α b125 (o126+2) λv127=>bT v127 λb128 o129=>fq α b128 (o129+0) λv130=>fq α ι 3 λv131=>∃c132:UInt8,∃n133:Int,∃n134:Int,∃v135:Value,∃q136:Bool,(∀w',α w'->World.cell? w' ⟨Z,0,none⟩=some (.int .u8 c132.toNat)/\World.cell? w' ⟨Z,1,none⟩=some (.int .i64 n133)/\World.cell? w' ⟨Z,2,none⟩=some (.int .i64 n134)/\World.cell? w' ⟨Z,3,none⟩=some v135/\World.cell? w' ⟨Z,4,none⟩=some (.bool q136)/\True)/\uX α ι 2 λn137=>lg 115 #[s1,(.agg #[(.int .u8 c132.toNat),(.int .i64 n133),(.int .i64 n134),v135,(.bool q136)]),(.int .i64 n137)] w124 λv138 w139=>α w139/\oneV v131=true/\oneV v138=true/\db w139 (.cells #[v131,v138] 59) λb140 w141=>α w141/\qu 114 #[s1,g121,v130,(.slice (some ⟨b140,0,none⟩) 2 2)] w141 λs142 q143 w144=>α w144/\fC 61 #[(.pointer (some ⟨b2,0,none⟩)),(.string (ak s142)),(.bool q143)] w144 λψ=>α ψ/\bG (G+1)/\I95 (G+1) ψ/\η (G+1) ψ< η G β)) (bG (G+1)/\I95 (G+1) H/\η (G+1) H< η G β)) (bG (G+1)/\I95 (G+1) H/\η (G+1) H< η G β)) (bG (ζ+1)/\I81 (ζ+1) β/\m82 (ζ+1) β< m82 ζ ο)) (bG (J+1)/\I27 (J+1) ο/\m28 (J+1) ο< m28 J ε))) (bG (γ+1)/\I13 (γ+1) ε/\m14 (γ+1) ε< m14 γ ω)) (NM 51 #[(.pointer (some ⟨b2,0,none⟩))] ω λv146 q147 w148=>R v146 q147 w148)):
  Sc 59 #[s1] w (aw [.v,.b] R):=
 Iz (a6 [(3,[(24,.i)]),(6,[(32,.i)]),(12,[(68,.i)]),(15,[(76,.i)])] [(10,[]),(21,[(13,.v)])] [(9,true,.lt 0 (.lt 1 (.lt 2 (.lt 4 (.lt 5 (.lt 6 (.lt 7 (.lt 8 (.lt 9 (.lt 10 (.lt 11 (.lt 12 (.br .g 3 (.one .g 13 (.one .g 14 (.lt 15 (.lt 16 (.one .g 17 .done))))) (.one .g 13 (.one .g 3 (.one .g 14 (.lt 15 (.lt 16 (.one .g 17 .done))))))))))))))))))),(21,true,.lt 0 (.lt 1 (.lt 2 (.lt 3 (.lt 4 (.lt 5 (.lt 6 (.lt 7 (.lt 8 (.lt 9 (.lt 10 (.lt 11 (.lt 12 (.lt 13 (.lt 14 (.lt 15 (.one .g 16 (.one .g 17 (.one .g 18 (.lt 19 (.lt 20 (.one .g 21 .done))))))))))))))))))))))]) [.tmp 2 .v,.tmp 3 .b] [.v s1] Tryz.func59 (by kernel_rfl) h
def GV {j:Nat}(G:j< 26):(List.replicate 26 (iv 0))[j]?=some (iv 0):=by rw [List.getElem?_replicate,O' G]
def KQ {j:Nat}(G:j< 26):(List.replicate 26 (iv 0)).toArray[j]?=some (iv 0):=by rw [Rr];exact GV G
def sn {w:World}{R:Value->Sb}(hR:∀w' cs,Ex w w'->Kh cs e0->R (.agg cs.toArray) w'):Sc 105 #[] w (aw [.v] R):=by
 refine qg w R ?_;dsimp only [go_sem];dsimp only [go_sem,Nat.reduceAdd];intro b1 w2 γ J b3 w4 δ Z;have x2:Ex w w2:=J▸Ex.alloc w _;have x4:Ex w2 w4:=Z▸Ex.alloc w2 _;have s2:w2.heap.size=w.heap.size+1:=by rw [J,size_alloc]
 have s4:w4.heap.size=w2.heap.size+1:=by rw [Z,size_alloc]
 have c3:∀j,j< 26->w4.cell? ⟨b3,0+j,none⟩=some (iv 0):=λj G=>by
  rw [Z,δ];refine aa ?_;rw [O6];exact KQ G
 have c1:∀j,j< 26->w4.cell? ⟨b1,0+j,none⟩=some (iv 0):=λj G=>by
  rw [x4.cell (show b1< _ by omega),J,γ];refine aa ?_;rw [O6];exact KQ G
 have f3:∀j,w4.frozen? ⟨b3,j,none⟩=false:=λj=>by rw [Z,δ];exact aU _ _ _ _
 have f1:∀j,w4.frozen? ⟨b1,j,none⟩=false:=λj=>by rw [Qr x4 (show b1< _ by omega),J,γ];exact aU _ _ _ _
 refine⟨⟨rfl,rfl,λj G=>⟨⟨_,c3 j G⟩,f3 _⟩⟩,λw5 κ=>?_⟩;obtain⟨k5,β,_,ε⟩:=bg (b:=b3) _ w4 0;rw [<-κ]at k5 β ε;have ζ:∀j,j< 26->w5.cell? ⟨b3,0+j,none⟩=some (iv 0):=λj G=>by
  rw [ε j (λi hi=>⟨_,c3 i hi⟩) G];exact GV G
 have x5:Ex w w5:=Ex.below (Ex.trans x2 x4) (Kp.below k5 (Ex.trans x2 x4).size λg hg e=>by omega);have s5:=k5.size;have d1:∀j,j< 26->w5.cell? ⟨b1,0+j,none⟩=some (iv 0):=λj G=>by rw [Ow (w:=w4) (k5.block b1 (by omega) (by omega))];exact c1 j G
 refine⟨λx w'=>∃i:Nat,x=i/\i<=26/\Ex w w'/\b3< w'.heap.size/\(∀j,j< 26->w'.cell? ⟨b1,0+j,none⟩=some (iv 0))/\(∀j,w'.frozen? ⟨b1,j,none⟩=false)/\(∀j,w'.frozen? ⟨b3,j,none⟩=false)/\∀j,j< 26->w'.cell? ⟨b3,0+j,none⟩=some (iv (if j< i then j else 0)),
  λx _=>(26 - x).toNat,⟨0,rfl,by omega,x5,by omega,d1,λj=>by rw [β];exact f1 j,λj=>by rw [β];exact f3 j,λj G=>by rw [OP (by omega)];exact ζ j G⟩,λx w9 hI=>?_⟩
 obtain⟨i,rfl,hi,x9,l9,e1,g1,g3,e3⟩:=hI;refine⟨λμ=>?_,λν=>?_⟩
 ·have ξ:i< 26:=by simp only [OK]at μ;omega
  rw [OG,O8];refine⟨⟨by omega,by omega⟩,⟨⟨_,e3 i ξ⟩,g3 _⟩,λυ H=>⟨by omega,⟨i+1,by omega,by omega,?_,?_,λj G=>?_,λj=>?_,λj=>?_,λj G=>?_⟩,by show((26:Int) - ((i:Int)+1)).toNat< ((26:Int) - i).toNat;omega⟩⟩
  ·exact H▸Ex.own x9 (by omega) _
  ·rw [H,Pj];exact l9
  ·rw [H,OD _ _ _ _ (λe=>by injection e with e1 e2;omega)];exact e1 j G
  ·rw [H,OS];exact g1 j
  ·rw [H,OS];exact g3 j
  ·by_cases ο:j=i
   ·subst ο;rw [H,O' (by omega)];exact OQ _ _ _ (e3 j G)
   ·rw [H,OD _ _ _ _ (λe=>by injection e with e1 e2;omega),e3 j G]
    congr 2
    split<;>split<;>omega
 ·have:i=26:=by simp only [OF]at ν;omega
  subst this;have η:∀j,j< 26->((List.range 26).map iv)[j]?=some (iv j):=λj G=>by simp [G]
  refine⟨(List.range 26).map iv,rfl,λj G=>by rw [e3 j G,η j G,O' G],⟨rfl,rfl,λj G=>⟨⟨_,e1 j G⟩,g1 _⟩⟩,λς θ=>?_⟩;obtain⟨ι,_,_,α⟩:=bg (b:=b1) ((List.range 26).map iv) w9 0;rw [<-θ]at ι α;refine⟨(List.range 26).map iv,rfl,λj G=>α j (λi hi=>⟨_,e1 i (by simpa using hi)⟩) (by simpa using G),hR ς _ ?_ ⟨rfl,λc hc=>?_⟩⟩
  ·exact Ex.below x9 (Kp.below ι x9.size λg hg e=>by omega)
  ·have :=a7 hc;exact η _ (by omega)
def I6 {t:P}(h:Lt t):Nu (num t e0 0).1:=by
 obtain⟨_,G,H,h4⟩:=tF (p:=t) λc J=>T.Al.free h c J
 exact⟨G,λy Z=>H y (T.bj Z),h4⟩
def cG:∀u:U,(flat u).1.length+(flat u).2.tot<=4* u.size
 | .nil=>by simp [flat,Lv.tot]
 | .snd a b p=>by have :=cG p;simp only [flat,Lv.tot,T.size,ON];omega
 | .rcv a b p=>by have :=cG p;simp only [flat,Lv.tot,T.size,ON];omega
 | .tau p=>by have :=cG p;simp only [flat,Lv.tot,T.size,ON];omega
 | .mat a b p=>by have :=cG p;simp only [flat,Lv.tot,T.size,ON];omega
 | .rep p=>by have :=cG p;simp only [flat,Lv.tot,T.size,ON];omega
 | .res x p=>by have :=cG p;simp only [flat,T.size,Ov];omega
 | .par p q=>by have :=cG p;have :=cG q;simp only [flat,Lv.bQ,T.size,Oy];omega
 | .sum p q=>by have :=cG p;have :=cG q;simp only [flat,Lv.tot,T.size,ON];omega
def HK {u:U}(h:Nu u):∀x,x∉(td u).1->(td u).2.fh x->x< 26:=λx G H=>h.fr x (By _ u (OB _) h.uq x H G)
def zt {D:Nat->Prop}{w:World}{t:P}{v:Value}(h:aN D w t v)(hD:∀g,D g->g< w.heap.size)(hl:Lt t)(hs:t.size<=1000000){R:aD->Bool->Sb}
  (hR:∀w',Ex w w'->(∀s,cL (num t e0 0).1=some s->R s true w')/\(cL (num t e0 0).1=none->R [] false w')):Sc 62 #[v] w (aw [.s,.b] R):=by
 refine nI v w R ?_;dsimp only [go_sem];intro b2 Z J G;have x3:Ex w Z:=G▸Ex.alloc w _;have s3:Z.heap.size=w.heap.size+1:=by rw [G,size_alloc]
 refine sn λw5 cs x5 α=>?_
 have H:Ex w w5:=Ex.trans x3 x5;have mk:Mk Z b2 0:=⟨by omega,by rw [G,J];exact aa rfl,by rw [G,J];exact aU _ _ _ _⟩
 have β:aN D w5 t v:=aN.kp (Kp.ab H λ _=>False) (λ _ _ h=>h) h;refine K5 t β (λg hg e=>by have :=hD g hg;omega) (mk.ex x5) α hl (by omega) λv' w7 k7 _ h7=>?_
 have nu:=I6 hl;have ε:=(bO t e0 0).1;have ζ:=cG (num t e0 0).1;have e:Lv.tidy (flat (num t e0 0).1).1 (flat (num t e0 0).1).2=td (num t e0 0).1:=rfl;refine rW h7 (cN _) (by omega) (by rw [e];exact uS nu.uq nu.bv) (by rw [e];exact HK nu) λγ δ=>?_
 have x7:Ex w w7:=Ex.below H (Kp.below k7.kp H.size λg hg e=>by omega);rw [e];exact hR γ (Ex.trans x7 δ)
structure GY (w:World)(D:Nat->Prop)(b:Nat)(n:Nat)(s:Tx)(L:List Nat×Lv):Prop where
 mc:Mk w b n
 tx:w.cell? ⟨b,1,none⟩=some (.string (ak s))
 l:∃v,w.cell? ⟨b,2,none⟩=some v/\az D w L v
def Ik {t:P}{w:World}(hl:Lt t)(hs:t.size<=1000000)(hlen:t.text.length<=1099511627776){R:Value->Sb}
  (hR:∀b w',Ex w w'->w.heap.size<=b->GY w' (λg=>w.heap.size<=g/\g≠b/\g< w'.heap.size) b (num t e0 0).2 t.text (td (num t e0 0).1)->R (ptr b) w'):Sc 55 #[.string (ak t.text)] w (aw [.v] R):=by
 refine zH t.text w R ?_;dsimp only [go_sem];dsimp only [go_sem,Nat.reduceAdd];refine zW hlen λv2 q w4 x4 φ χ=>?_
 have hq:q=true:=by
  cases q
  ·exact absurd rfl (χ rfl t hl)
  ·rfl
 obtain⟨t',ψ,et,ω⟩:=φ hq;have:t'=t:=eV (T.Al.wf ψ) (T.Al.wf hl) et.symm;subst this;intro b5 w6 β Z;have x6:Ex w4 w6:=Z▸Ex.alloc w4 _;have s6:w6.heap.size=w4.heap.size+1:=by rw [Z,size_alloc]
 refine⟨λw'=>Ex w6 w',λw8 ι=>⟨ι▸Ex.drew w6,?_⟩⟩;have x8:Ex w6 w8:=ι▸Ex.drew w6;have s4:=x4.size;have s8:=x8.size;have mk6:Mk w6 b5 0:=⟨by omega,by rw [Z,β];exact aa rfl,by rw [Z,β];exact aU _ _ _ _⟩
 have t6:w6.cell? ⟨b5,1,none⟩=some (.string (ak t'.text)):=by rw [Z,β];exact aa rfl
 have l6:w6.cell? ⟨b5,2,none⟩=some (.pointer none):=by rw [Z,β];exact aa rfl
 have f6:∀j,w6.frozen? ⟨b5,j,none⟩=false:=λj=>by rw [Z,β];exact aU _ _ _ _
 refine sn λw10 cs κ hcs=>?_
 have G:=Ex.trans x8 κ;have μ:aN (λg=>EX w g/\g< w4.heap.size) w10 t' v2:=aN.kp (Kp.ab (Ex.trans x6 G) λ _=>False) (λ _ _ h=>h) ω.bound;refine K5 t' μ (λg hg e=>by omega) (mk6.ex G) hcs hl (by omega) λv11 δ γ ε h12=>?_
 have hsz:=(bO t' e0 0).1;have htt:=cG (num t' e0 0).1;refine Hg _ (OB _) (cN _) h12 (by omega) λv13 α H ν=>⟨ν.one,?_⟩
 have x14':Ex δ α:=H;have s12:=γ.size;have s10:=κ.size;have ζ:b5< δ.heap.size:=ε.lt;have f14:∀j,α.frozen? ⟨b5,j,none⟩=false:=λj=>by rw [Qr H ζ,γ.fz,Qr G (show b5< _ by omega)];exact f6 j
 have t14:α.cell? ⟨b5,1,none⟩=some (.string (ak t'.text)):=by rw [H.cell (show b5< _ from ζ),γ.ce 1 (by omega),G.cell (show b5< _ by omega)];exact t6
 have ξ:α.cell? ⟨b5,2,none⟩=some (.pointer none):=by rw [H.cell (show b5< _ from ζ),γ.ce 2 (by omega),G.cell (show b5< _ by omega)];exact l6
 have ο:=ε.ex H;refine⟨⟨⟨_,ξ⟩,f14 2⟩,λη J=>?_⟩;have θ:Kr b5 α η:=J▸Kr.set _ _ _;have ς:η.cell? ⟨b5,0,none⟩=some (iv (num t' e0 0).2):=by rw [J,OD _ _ _ _ (λe=>by injection e with e1 e2;omega)];exact ο.c
 have υ:Ex w δ:=Ex.below (Ex.trans x4 (Ex.trans x6 G)) (Kp.below γ.kp (Ex.trans x4 (Ex.trans x6 G)).size λg hg e=>by omega);have s14:=H.size;have s16:=θ.size;refine hR b5 η (Ex.below (Ex.trans υ H) (Kp.below θ (Ex.trans υ H).size λg hg e=>by omega)) (by omega) ⟨⟨by omega,ς,by rw [J,OS];exact f14 0⟩,?_,v13,?_,?_⟩
 ·rw [J,OD _ _ _ _ (λe=>by injection e with e1 e2;omega)];exact t14
 ·rw [J];exact OQ _ _ _ ξ
 ·exact az.sub (az.kp (az.sub (E:=λg=>δ.heap.size<=g/\g< α.heap.size) ν λg hg hd=>⟨hd,hg⟩) θ λg hg e=>by omega) λg hg hd=>⟨by omega,by omega,by omega⟩
section
open T
def uW {u G:U}(h:Nu u)(h':Nu G)(ae:AE σ0 u σ0 G):cL u=cL G:=by
 have hi:∀y z:Nat,σ0 y=σ0 z->y=z:=λy z e=>by unfold σ0 at e;omega
 have H:∀y,u.Us y↔G.Us y:=λy=>by
  constructor
  ·intro J;obtain⟨z,Z,e⟩:=ae.used (λy z _ _ e=>hi y z e) (λy z _ _ e=>hi y z e) y J;rw [<-hi z y e];exact Z
  ·intro J;obtain⟨z,Z,e⟩:=ae.symm.used (λy z _ _ e=>hi y z e) (λy z _ _ e=>hi y z e) y J;rw [<-hi z y e];exact Z
 have α:lA (td u).2=lA (td G).2:=by
  funext c
  rw [PG,rJ h,rJ h',H]
 have key:=λtk=>Lh (ρ:=ρ0) (ρ':=ρ0) ae h.uq h'.uq (λy z _ _ e=>hi y z e) (λy z _ _ e=>hi y z e) (λy y' _ _ e=>by rw [hi y y' e]) tk
 obtain⟨_,k2,k3,k4⟩:=key (lA (td u).2);rw [iN,iN,<-α,(key (lA (td u).2)).1,k2,k3,k4]
structure fS (t:P):Prop where
 al:t.Al λc=>lt c=true
 nr:t.Nr
 smp:t.smp=true
 len:t.text.length<=300
 size:t.size<=60
 most:bc (num t e0 0).1<=5
 all:cT (num t e0 0).1<=8
 nf:cL (num t e0 0).1=some t.text
def J2 {t:P}(h:t.Al λc=>lt c=true):∀y,(num t e0 0).1.Fr y->y< 26:=(tF (p:=t) λc G=>T.Al.free h c G).2.2.1
def lH {t:P}(h:t.Al λc=>lt c=true):AE UInt8.toNat t σ0 (num t e0 0).1:=(tF (p:=t) λc G=>T.Al.free h c G).1
def ma {t:P}(h:t.Al λc=>lt c=true):Nu (num t e0 0).1:=by
 obtain⟨_,G,H,h4⟩:=tF (p:=t) λc J=>T.Al.free h c J
 exact⟨G,λy Z=>H y (T.bj Z),h4⟩
def Mc.Ol {u:U}{s:Tx}{t:P}{v:U}(h:Nu u)(n:Mc u s t v)(hs:u.smp=true):fS t:=by
 have G:Nu v:=⟨n.arr.uq,λy hy=>h.fr y ((n.arr.us y).1 hy),λx hx=>h.bv x (n.arr.bv x hx)⟩
 have hv:∀y,v.Fr y->(ρ0 y).toNat=σ0 y:=λy hy=>dA (G.fr y (n.arr.nr.iO hy))
 have ae:AE UInt8.toNat t σ0 v:=n.ae.congr (λ _ _=>rfl) hv;have H:=ma n.al;have J:AE σ0 v σ0 (num t e0 0).1:=ae.symm.trans (lH n.al);have Z:∀p:U,fF σ0 p:=λp y z _ _ e=>by unfold σ0 at e;omega
 have α:lA (td v).2=lA (td u).2:=by
  funext c
  rw [PG,rJ G,rJ h,n.arr.us]
 have hi:∀y z:Nat,σ0 y=σ0 z->y=z:=λy z e=>by unfold σ0 at e;omega
 obtain⟨_,k2,k3,k4⟩:=Lh (ρ:=ρ0) (ρ':=ρ0) J G.uq H.uq (λy z _ _ e=>hi y z e) (λy z _ _ e=>hi y z e) (λy y' _ _ e=>by rw [hi y y' e]) (lA (td v).2);refine⟨n.al,AE.nr ae.symm (Z v) (fy t) n.arr.nr,by rw [vV ae];exact n.arr.smp hs,by rw [n.text];exact n.len,n.size,by rw [<-k4,n.arr.most];exact n.most,by rw [<-k3,n.arr.all];exact n.all,?_⟩;have e1:LS v ρ0 (lA (td v).2)=s:=by rw [α,n.arr.ls];exact n.ls.symm
 have hg:dJ s:=⟨n.len,t,n.al,n.text,n.size⟩
 rw [<-uW G H J,iN,e1,O' ⟨⟨by rw [n.arr.most];exact n.most,by rw [n.arr.all];exact n.all⟩,by rw [α,n.arr.bad];exact n.bad,hg⟩,n.text]
section
variable {A B:Type} [DecidableEq A] [DecidableEq B]
inductive Off (A:Type) where
 | tau (p:T A)
 | snd (a b:A) (p:T A)
 | rcv (a x:A) (q:T A) (again:Bool)
def Off.stay:Off A->Off A
 | .rcv a x q _=> .rcv a x q true
 | o=>o
def offs:T A->List (Off A)
 | .tau p=>[.tau p]
 | .snd a b p=>[.snd a b p]
 | .rcv a x p=>[.rcv a x p false]
 | .sum p q=>offs p++offs q
 | .rep p=>(offs p).map Off.stay
 | _=>[]
def wo {X:Type}(l:List X)(i j:Nat):List X:=(l.zipIdx.filter λz=> !(z.2==i)&& !(z.2==j)).map (·.1)
def kL (ρ:A->Nat)(σ:B->Nat):Off A->Off B->Prop
 | .tau p,.tau q=>AE ρ p σ q
 | .snd a b p,.snd c d q=>ρ a=σ c/\ρ b=σ d/\AE ρ p σ q
 | .rcv a x p s,.rcv c y q G=>ρ a=σ c/\(∀v,AE (aI ρ x v) p (aI σ y v) q)/\s=G
 | _,_=>False
inductive eg {X Y:Type} (R:X->Y->Prop):List X->List Y->Prop
 | nil:eg R [] []
 | cons {x y l m}:R x y->eg R l m->eg R (x::l) (y::m)
def eg.app {X Y:Type}{R:X->Y->Prop}{l l':List X}{m m':List Y}(h:eg R l m)(k:eg R l' m'):eg R (l++l') (m++m'):=by
 induction h with
 | nil=>exact k
 | cons h _ G=>exact .cons h G
def eg.map {X Y G H:Type}{R:X->Y->Prop}{S:G->H->Prop}{f:X->G}{g:Y->H}(J:∀x y,R x y->S (f x) (g y)){l:List X}{m:List Y}(h:eg R l m):eg S (l.map f) (m.map g):=by
 induction h with
 | nil=>exact .nil
 | cons h _ Z=>exact .cons (J _ _ h) Z
def eg.len {X Y:Type}{R:X->Y->Prop}{l:List X}{m:List Y}(h:eg R l m):l.length=m.length:=by
 induction h with
 | nil=>rfl
 | cons _ _ G=>simp [G]
def eg.get {X Y:Type}{R:X->Y->Prop}{l:List X}{m:List Y}(h:eg R l m):∀{i:Nat} (hi:i< l.length) (G:i< m.length),R l[i] m[i]:=by
 induction h with
 | nil=>intro i hi;cases hi
 | cons h _ H=>
  intro i hi G;cases i with
  | zero=>exact h
  | succ i=>simpa using H (by simpa using hi) (by simpa using G)
def eg.wo {X Y:Type}{R:X->Y->Prop}{l:List X}{m:List Y}(h:eg R l m)(i j:Nat):eg R (wo l i j) (wo m i j):=by
 unfold Go.Proofs.YthekamjhgabkjaaGreat.wo;have:∀k,eg R ((l.zipIdx k).filter (λz=> !(z.2==i)&& !(z.2==j)) |>.map (·.1)) ((m.zipIdx k).filter (λz=> !(z.2==i)&& !(z.2==j)) |>.map (·.1)):=by
  induction h with
  | nil=>intro k;exact .nil
  | cons h _ G=>
   intro k;simp only [List.zipIdx_cons,List.filter_cons];split
   ·simp only [O3];exact .cons h (G _)
   ·exact G _
 exact this 0
def ia:∀{p:T A} {q:T B} {ρ:A->Nat} {σ:B->Nat},AE ρ p σ q->eg (kL ρ σ) (offs p) (offs q):=by
 intro p
 induction p with
 | nil=>intro q ρ σ h;cases q<;>first | exact .nil | cases h
 | par p Z=>intro q ρ σ h;cases q<;>first | exact .nil | cases h
 | res x p=>intro q ρ σ h;cases q<;>first | exact .nil | cases h
 | mat a b p=>intro q ρ σ h;cases q<;>first | exact .nil | cases h
 | tau p=>intro q ρ σ h;cases q<;>first | exact .cons h .nil | cases h
 | snd a b p=>intro q ρ σ h;cases q<;>first | exact .cons h .nil | cases h
 | rcv a b p=>intro q ρ σ h;cases q<;>first | exact .cons ⟨h.1,h.2,rfl⟩ .nil | cases h
 | sum p Z H J=>
  intro q ρ σ h;cases q<;>first | exact(H h.1).app (J h.2) | cases h
 | rep p H=>
  intro q ρ σ h;cases q<;>try cases h
  refine(H h).map λx y G=>?_
  cases x<;>cases y<;>first | exact G | (exact⟨G.1,G.2.1,rfl⟩) | cases G
end
def AE.open:∀{t:P} {u:U} {ρ:Rh},AE UInt8.toNat t (λz=>(ρ z).toNat) u->t.Nr->t.frL.length=u.frL.length/\eg (λp q=>AE UInt8.toNat p (λz=>(asg u.frL t.frL ρ z).toNat) q) t.ths u.ths:=by
 intro t
 induction t with
 | nil=>intro u ρ h n;cases u<;>first | exact⟨rfl,.nil⟩ | cases h
 | snd a b p=>intro u ρ h n;cases u<;>first | exact⟨rfl,.cons h .nil⟩ | cases h
 | rcv a b p=>intro u ρ h n;cases u<;>first | exact⟨rfl,.cons h .nil⟩ | cases h
 | tau p=>intro u ρ h n;cases u<;>first | exact⟨rfl,.cons h .nil⟩ | cases h
 | sum p q=>intro u ρ h n;cases u<;>first | exact⟨rfl,.cons h .nil⟩ | cases h
 | mat a b p=>intro u ρ h n;cases u<;>first | exact⟨rfl,.cons h .nil⟩ | cases h
 | rep p=>intro u ρ h n;cases u<;>first | exact⟨rfl,.cons h .nil⟩ | cases h
 | par p q ih Z=>
  intro u ρ h n;cases u<;>try cases h
  rename_i p' q' G h2;have h0:q.frL=[]:=by
   rcases n.1.2 with h | h
   ·exact gD h
   ·cases q<;>first | rfl | (cases h;done)
  obtain⟨H,J⟩:=Z h2 n.2.2;have α:q'.frL=[]:=by rw [h0]at H;exact Pa H.symm
  rw [h0,α]at J;exact⟨rfl,.cons G J⟩
 | res x p ih=>
  intro u ρ h n;cases u<;>try cases h
  rename_i y q;have G:=h x.toNat;have e1:aI UInt8.toNat x x.toNat=UInt8.toNat:=by funext c;unfold aI;split<;>simp_all
  have e2:aI (λz=>(ρ z).toNat) y x.toNat=λz=>(aI ρ y x z).toNat:=by funext z;unfold aI;split<;>rfl
  rw [e1,e2]at G;obtain⟨H,J⟩:=ih G n.2;exact⟨by simp [frL,H],J⟩
def AE.uH {D:Nat->Prop}{f:Nat->Nat}:∀{q:U} {σ τ:Nat->Nat},(∀z,q.Fr z->D z/\σ z=τ (f z))->(∀x∈BV q,D x/\∀z,D z->z≠x->f z≠f x)->AE σ q τ (q.map f)
 | .nil,_,_,_,_=>trivial
 | .snd a b p,σ,τ,h,k=>⟨(h a (.inl rfl)).2,(h b (.inr (.inl rfl))).2,AE.uH (λz G=>h z (.inr (.inr G))) k⟩
 | .mat a b p,σ,τ,h,k=>⟨(h a (.inl rfl)).2,(h b (.inr (.inl rfl))).2,AE.uH (λz G=>h z (.inr (.inr G))) k⟩
 | .tau p,σ,τ,h,k=>AE.uH (q:=p) h k
 | .rep p,σ,τ,h,k=>AE.uH (q:=p) h k
 | .sum p q,σ,τ,h,k=>⟨AE.uH (λz G=>h z (.inl G)) λx J=>k x (O9 _ J),AE.uH (λz G=>h z (.inr G)) λx J=>k x (O0 _ J)⟩
 | .par p q,σ,τ,h,k=>⟨AE.uH (λz G=>h z (.inl G)) λx J=>k x (O9 _ J),AE.uH (λz G=>h z (.inr G)) λx J=>k x (O0 _ J)⟩
 | .rcv a x p,σ,τ,h,k=>by
  have Z:=k x (Pb ..);refine⟨(h a (.inl rfl)).2,λv=>AE.uH (D:=D) (λz G=>?_) λy hy=>k y (OJ _ hy)⟩;by_cases e:z=x
  ·subst e;exact⟨Z.1,by simp [aI]⟩
  ·have H:=h z (.inr ⟨e,G⟩);have :=Z.2 z H.1 e;refine⟨H.1,?_⟩;simp only [aI,OP e,OP this];exact H.2
 | .res x p,σ,τ,h,k=>by
  have Z:=k x (Pb ..);refine λv=>AE.uH (D:=D) (λz G=>?_) λy hy=>k y (OJ _ hy)
  by_cases e:z=x
  ·subst e;exact⟨Z.1,by simp [aI]⟩
  ·have H:=h z ⟨e,G⟩;have :=Z.2 z H.1 e;refine⟨H.1,?_⟩;simp only [aI,OP e,OP this];exact H.2
def dy (f:Nat->Nat):∀u:U,BV (u.map f)=(BV u).map f
 | .nil=>rfl
 | .snd a b p=>dy f p
 | .mat a b p=>dy f p
 | .tau p=>dy f p
 | .rep p=>dy f p
 | .rcv a x p=>by simp only [T.map,BV,dy f p,O3]
 | .res x p=>by simp only [T.map,BV,dy f p,O3]
 | .sum p q=>by simp only [T.map,BV,dy f p,dy f q,Pm]
 | .par p q=>by simp only [T.map,BV,dy f p,dy f q,Pm]
def Off.tm {A:Type}:Off A->T A
 | .tau p=> .tau p
 | .snd a b p=> .snd a b p
 | .rcv a x q _=> .rcv a x q
structure Sub {A:Type}(s t:T A):Prop where
 smp:t.smp=true->s.smp=true
 nr:t.Nr->s.Nr
 fr:∀z,s.Fr z->t.Fr z
 rd:s.rd<=t.rd
 ow:s.ow<=t.ow
 size:s.size<=t.size
 al:∀D:A->Prop,t.Al D->s.Al D
def Sub.refl {A:Type}(t:T A):Sub t t:=⟨id,id,λ _=>id,OB _,OB _,OB _,λ _=>id⟩
def aC {A:Type}:∀{t:T A},t.smp=true->∀o∈offs t,Sub o.tm t/\(∀a x q,o= .rcv a x q true->t= .rep (.rcv a x q)):=by
 intro t
 induction t with
 | nil=>intro _ o h;cases h
 | par p q=>intro _ o h;cases h
 | res x p=>intro _ o h;cases h
 | mat a b p=>intro _ o h;cases h
 | tau p=>intro _ o h;rw [offs,OL]at h;subst h;exact⟨Sub.refl _,λ _ _ _ h=>by cases h⟩
 | snd a b p=>intro _ o h;rw [offs,OL]at h;subst h;exact⟨Sub.refl _,λ _ _ _ h=>by cases h⟩
 | rcv a b p=>intro _ o h;rw [offs,OL]at h;subst h;exact⟨Sub.refl _,λ _ _ _ h=>by cases h⟩
 | sum p q ih α=>
  intro G o h;simp only [smp,OA]at G;rw [offs,OH]at h;rcases h with h | h
  ·obtain⟨k,kr⟩:=ih G.2.1 o h;refine⟨⟨λ _=>k.smp G.2.1,λn=>k.nr n.2.1,λz H=> .inl (k.fr z H),Pq k.rd (Nat.le_max_left _ _),by have :=k.ow;simp only [ow];omega,by have :=k.size;simp only [size];omega,λD J=>k.al D J.1⟩,λa x Z e=>?_⟩;have e2:=kr a x Z e;rw [e2]at G;simp [gp]at G
  ·obtain⟨k,kr⟩:=α G.2.2 o h;refine⟨⟨λ _=>k.smp G.2.2,λn=>k.nr n.2.2,λz H=> .inr (k.fr z H),Pq k.rd (Nat.le_max_right _ _),by have :=k.ow;simp only [ow];omega,by have :=k.size;simp only [size];omega,λD J=>k.al D J.2⟩,λa x Z e=>?_⟩;have e2:=kr a x Z e;rw [e2]at G;simp [gp]at G
 | rep p ih=>
  intro G o h;simp only [smp,OA]at G;cases p<;>try (simp [isR]at G)
  rename_i a x q;simp only [offs,O3,Qf,OL,Off.stay]at h;subst h;refine⟨⟨λh=>?_,λn=>n.2,λz H=>H,OB _,OB _,by simp only [Off.tm,size];omega,λD J=>J⟩,λa' x' Z e=>?_⟩
  ·simp only [smp,OA]at h;exact h.2
  ·cases e;rfl
def ck:∀{t:U},∀o∈offs t,(BV o.tm).Sublist (BV t):=by
 intro t
 induction t with
 | nil=>intro o h;cases h
 | par p q=>intro o h;cases h
 | res x p=>intro o h;cases h
 | mat a b p=>intro o h;cases h
 | tau p=>intro o h;rw [offs,OL]at h;subst h;exact Pz _
 | snd a b p=>intro o h;rw [offs,OL]at h;subst h;exact Pz _
 | rcv a b p=>intro o h;rw [offs,OL]at h;subst h;exact Pz _
 | sum p q G H=>
  intro o h;rw [offs,OH]at h;rcases h with h | h
  ·exact(G o h).trans (QD _ _)
  ·exact(H o h).trans (Qc _ _)
 | rep p G=>
  intro o h;obtain⟨J,Z,rfl⟩:=Pf.1 h;have :=G J Z;cases J<;>exact this
section
variable {X:Type}
def iH (P:Nat->Bool)(l:List X)(k:Nat):List X:=((l.zipIdx k).filter λz=> !P z.2).map (·.1)
def gV (P:Nat->Bool)(k:Nat):iH P ([]:List X) k=[]:=rfl
def bN (P:Nat->Bool)(x:X)(l:List X)(k:Nat):iH P (x::l) k=if P k then iH P l (k+1)else x::iH P l (k+1):=by
 unfold iH;simp only [List.zipIdx_cons,List.filter_cons];cases P k<;>simp
def mF {P Q:Nat->Bool}:∀{l:List X} {k:Nat},(∀i,k<=i->P i=Q i)->iH P l k=iH Q l k
 | [],_,_=>rfl
 | x::l,k,h=>by rw [bN,bN,h k (OB _),mF (l:=l) λi hi=>h i (by omega)]
def DH {P:Nat->Bool}:∀{l:List X} {k:Nat},(∀i,k<=i->P i=false)->iH P l k=l
 | [],_,_=>rfl
 | x::l,k,h=>by rw [bN,h k (OB _),DH (l:=l) λi hi=>h i (by omega)];rfl
def zy:∀(l:List X) (k i:Nat) (h:i< l.length),l.Perm (l[i]::iH (λn=>n==k+i) l k)
 | [],_,_,h=>by cases h
 | x::l,k,0,h=>by
  rw [bN,O' (by simp),DH λi hi=>by simp;omega];exact PI _
 | x::l,k,i+1,h=>by
  rw [bN,OP (by simp)];have :=zy l (k+1) i (by simpa using h);rw [show k+1+i=k+(i+1) by omega]at this;exact(this.cons x).trans (List.Perm.swap _ _ _)
def Ab:∀(l:List X) (k i j:Nat) (hi:i< l.length) (G:j< l.length),i< j->l.Perm (l[i]::l[j]::iH (λn=>n==k+i||n==k+j) l k)
 | [],_,_,_,h,_,_=>by cases h
 | x::l,k,0,j+1,_,G,_=>by
  rw [bN,O' (by simp)];have :=zy l (k+1) j (by simpa using G);rw [mF (P:=λn=>n==k+0||n==k+(j+1)) (Q:=λn=>n==k+1+j) λn J=>by
   rw [PG];simp only [P0,QY];omega]
  exact this.cons x
 | x::l,k,i+1,j+1,hi,G,H=>by
  rw [bN,OP (by simp)];have :=Ab l (k+1) i j (by simpa using hi) (by simpa using G) (by omega);rw [show k+1+i=k+(i+1) by omega,show k+1+j=k+(j+1) by omega]at this;exact((this.cons x).trans (List.Perm.swap _ _ _)).trans ((List.Perm.swap _ _ _).cons _)
def tf (l:List X)(i j:Nat):wo l i j=iH (λn=>n==i||n==j) l 0:=by
 unfold wo iH
 congr 2
 funext z
 simp
def oy (l:List X)(i:Nat)(h:i< l.length):l.Perm (l[i]::wo l i i):=by
 have :=zy l 0 i h;rw [tf,mF (Q:=λn=>n==0+i) λn _=>by simp];exact this
def CU (l:List X)(i j:Nat)(hi:i< l.length)(H:j< l.length)(G:i≠j):l.Perm (l[i]::l[j]::wo l i j):=by
 rw [tf];rcases Nat.lt_or_gt_of_ne G with h | h
 ·have :=Ab l 0 i j hi H h;simpa using this
 ·have :=Ab l 0 j i H hi h;rw [mF (P:=λn=>n==i||n==j) (Q:=λn=>n==0+j||n==0+i) λn _=>by simp [Bool.or_comm]];exact this.trans (List.Perm.swap _ _ _)
def JF (l:List X)(i j:Nat)(hi:i< l.length)(H:j< l.length)(G:i≠j):(wo l i i).Perm (wo l i j++[l[j]]):=by
 have J:=oy l i hi;have Z:=CU l i j hi H G;exact((R0 _).1 (J.symm.trans Z)).trans (QB (l₁:=[l[j]]) (l₂:=wo l i j))
def ct {l:List X}{i j:Nat}{x:X}(h:x∈wo l i j):x∈l:=by
 unfold wo at h;obtain⟨z,G,rfl⟩:=Pf.1 h;have :=(QE.1 G).1;rw [List.mem_zipIdx_iff_getElem?]at this;exact QG this
end
structure wk (N:Nat)(q:U)(x b:Nat)(f:Nat->Nat):Prop where
 fx:f x=b
 fo:∀z,z≠x->z∉BV q->f z=z
 fb:∀z∈BV q,N< f z
 fi:∀z∈BV q,∀z'∈BV q,f z=f z'->z=z'
def wk.ae {N:Nat}{q:U}{x b:Nat}{f:Nat->Nat}(h:wk N q x b f)(Z:Uq q)(hx:x∉BV q)(hN:∀z,q.Fr z->z<=N)(hb:b<=N)(α:∀z∈BV q,z<=N)(σ:Nat->Nat):AE (aI σ x (σ b)) q σ (q.map f):=by
 refine AE.uH (D:=λz=>q.Fr z\/z∈BV q) (λz G=>⟨.inl G,?_⟩) λy H=>⟨.inr H,λz G J=>?_⟩
 ·by_cases e:z=x
  ·subst e;rw [h.fx,cE]
  ·rw [bE _ _ e,h.fo z e λhb=>Z.nf z hb G]
 ·have β:=h.fb y H;rcases G with G | G
  ·by_cases e:z=x
   ·rw [e,h.fx];omega
   ·rw [h.fo z e λhb=>Z.nf z hb G];have :=hN z G;omega
  ·exact λe=>J (h.fi z G y H e)
def wk.fr {N:Nat}{q:U}{x b:Nat}{f:Nat->Nat}(h:wk N q x b f)(hq:Uq q):∀z,(q.map f).Fr z->z=b\/(z≠x/\q.Fr z):=by
 have key:∀(q:U) (z:Nat),(q.map f).Fr z->∃y,q.Fr y/\f y=z:=by
  intro q
  induction q with
  | nil=>intro z h;exact h.elim
  | snd a b p J=>
   intro z h;rcases h with h | h | h
   ·exact⟨a,.inl rfl,h.symm⟩
   ·exact⟨b,.inr (.inl rfl),h.symm⟩
   ·obtain⟨y,H,G⟩:=J z h;exact⟨y,.inr (.inr H),G⟩
  | mat a b p J=>
   intro z h;rcases h with h | h | h
   ·exact⟨a,.inl rfl,h.symm⟩
   ·exact⟨b,.inr (.inl rfl),h.symm⟩
   ·obtain⟨y,H,G⟩:=J z h;exact⟨y,.inr (.inr H),G⟩
  | rcv a x p J=>
   intro z h;rcases h with h | ⟨h,h'⟩
   ·exact⟨a,.inl rfl,h.symm⟩
   ·obtain⟨y,H,G⟩:=J z h';exact⟨y,.inr ⟨λe=>h (by rw [<-G,e]),H⟩,G⟩
  | res x p J=>
   intro z ⟨h,h'⟩;obtain⟨y,H,G⟩:=J z h';exact⟨y,⟨λe=>h (by rw [<-G,e]),H⟩,G⟩
  | tau p J=>exact J
  | rep p J=>exact J
  | sum p q J Z=>
   intro z h;rcases h with h | h
   ·obtain⟨y,H,G⟩:=J z h;exact⟨y,.inl H,G⟩
   ·obtain⟨y,H,G⟩:=Z z h;exact⟨y,.inr H,G⟩
  | par p q J Z=>
   intro z h;rcases h with h | h
   ·obtain⟨y,H,G⟩:=J z h;exact⟨y,.inl H,G⟩
   ·obtain⟨y,H,G⟩:=Z z h;exact⟨y,.inr H,G⟩
 intro z hz;obtain⟨y,H,G⟩:=key q z hz;by_cases e:y=x
 ·left;rw [<-G,e,h.fx]
 ·right;rw [h.fo y e λhb=>hq.nf y hb H]at G;subst G;exact⟨e,H⟩
end
def jM (w:World)(r:Nat)(F:Nat->Nat):Prop:=∃mm,IsMap w r (.int .i64) mm/\∀x:Nat,mm (iv x)=some (iv (F x))\/(mm (iv x)=none/\F x=x)
def jl {w w':World}{r:Nat}{d:TypeDesc}{m:Value->Option Value}(h:IsMap w r d m)(e:w'.heap[r]?=w.heap[r]?):IsMap w' r d m:=by
 obtain⟨es,G,H,J⟩:=h;exact⟨es,G,by rw [e];exact H,J⟩
def jt {w:World}{r:Nat}{d:TypeDesc}{m:Value->Option Value}(h:IsMap w r d m):r< w.heap.size:=by
 obtain⟨es,H,G,J⟩:=h;exact(Ph.1 G).1
def jM.lt {w:World}{r:Nat}{F:Nat->Nat}(h:jM w r F):r< w.heap.size:=by
 obtain⟨mm,G,_⟩:=h;exact jt G
def jM.kp {w w':World}{r:Nat}{F:Nat->Nat}{S:Nat->Prop}(h:jM w r F)(k:Kp w w' S)(G:¬S r):jM w' r F:=by
 have H:=h.lt;obtain⟨mm,J,Z⟩:=h;exact⟨mm,jl J (k.block r H G),Z⟩
def pC {w:World}{r:Nat}{mm:Value->Option Value}{F:Nat->Nat}(G:∀x:Nat,mm (iv x)=some (iv (F x))\/(mm (iv x)=none/\F x=x)){x y:Nat}(h:IsMap w r (.int .i64) (gF mm (iv x) (iv y))):jM w r (aI F x y):=by
 refine⟨_,h,λz=>?_⟩;unfold gF aI;by_cases e:z=x
 ·subst e;left;simp
 ·have:iv z≠iv x:=λH=>e (by injection H with _ J;omega)
  simp only [OP e,OP this];exact G z
structure Rn (n n':Nat)(xs:List Nat)(F F':Nat->Nat):Prop where
 le:n<=n'
 len:n'<=n+xs.length
 out:∀x,x∉xs->F' x=F x
 rng:∀x∈xs,n+100< F' x/\F' x<=n'+100
 inj:∀x∈xs,∀y∈xs,F' x=F' y->x=y
def Rn.refl (n:Nat)(F:Nat->Nat):Rn n n [] F F:=⟨OB _,by simp,λ _ _=>rfl,λ _ h=>(by cases h),λ _ h=>(by cases h)⟩
def Rn.one (n x:Nat)(F:Nat->Nat):Rn n (n+1) [x] F (aI F x (n+101)):=by
 refine⟨by omega,by simp,λy G=>OP (by simpa using G),λy G=>?_,λy G z H _=>?_⟩
 ·cases OL.1 G;simp only [aI,Qu];omega
 ·cases OL.1 G;cases OL.1 H;rfl
def Rn.app {n m p:Nat}{xs ys:List Nat}{F G H:Nat->Nat}(h:Rn n m xs F G)(k:Rn m p ys G H)(hd:∀x∈xs,x∉ys):Rn n p (xs++ys) F H:=by
 have hx:∀x∈xs,H x=G x:=λx hx=>k.out x (hd x hx)
 refine⟨Pq h.le k.le,by have :=h.len;have :=k.len;rw [Oy];omega,λx J=>?_,λx J=>?_,λx J y α e=>?_⟩
 ·rw [OH,R9]at J;rw [k.out x J.2,h.out x J.1]
 ·have :=h.le;have :=k.le;rcases OH.1 J with Z | Z
  ·rw [hx x Z];have :=h.rng x Z;omega
  ·have :=k.rng x Z;omega
 ·rcases OH.1 J with Z | Z<;>rcases OH.1 α with h2 | h2
  ·rw [hx x Z,hx y h2]at e;exact h.inj x Z y h2 e
  ·rw [hx x Z]at e;have :=h.rng x Z;have :=k.rng y h2;omega
  ·rw [hx y h2]at e;have :=h.rng y h2;have :=k.rng x Z;omega
  ·exact k.inj x Z y h2 e
structure Kq (m r:Nat)(w w':World):Prop where
 kp:Kp w w' λg=>g=m\/g=r
 ce:∀j,j≠0->w'.cell? ⟨m,j,none⟩=w.cell? ⟨m,j,none⟩
 fz:∀j,w'.frozen? ⟨m,j,none⟩=w.frozen? ⟨m,j,none⟩
section
variable {m r:Nat} {w w0 w' w'':World}
def Kq.size (h:Kq m r w w'):w.heap.size<=w'.heap.size:=h.kp.size
def Kq.trans (h:Kq m r w w')(k:Kq m r w' w''):Kq m r w w'':=⟨Kp.trans h.kp k.kp λ _ _ h=>h,λj G=>(k.ce j G).trans (h.ce j G),λj=>(k.fz j).trans (h.fz j)⟩
def Kq.refl (m r:Nat)(w:World):Kq m r w w:=⟨Kp.ab (Ex.refl w) _,λ _ _=>rfl,λ _=>rfl⟩
def Kq.out {S:Nat->Prop}(h:Kq m r w0 w)(k:Kp w w' S)(H:∀g,g< w0.heap.size->S g->g=r/\g≠m)(hm:m< w0.heap.size):Kq m r w0 w':=by
 have e:=k.block m (O1 hm h.kp.size) λG=>(H m hm G).2 rfl
 exact⟨Kp.trans h.kp k λg J G=> .inr (H g J G).1,λj Z=>by rw [Ow (w:=w) e];exact h.ce j Z,λj=>by rw [O7 (w:=w) e];exact h.fz j⟩
def Kq.ex (h:Kq m r w0 w)(x:Ex w w')(hm:m< w0.heap.size):Kq m r w0 w':=h.out (Kp.ab x λ _=>False) (λ _ _ h=>h.elim) hm
def Kq.km (h:Kq m r w0 w)(k:Km m w w'):Kq m r w0 w':=h.trans ⟨Kp.mono (λ _ e=> .inl e) k.kp,k.ce,k.fz⟩
def Kq.blk (h:Kq m r w0 w)(k:dO w w' r)(hm:m< w0.heap.size)(hr:m≠r):Kq m r w0 w':=
 h.out (S:=λg=>g=r) ⟨k.os,k.tape,k.output,by rw [k.size];exact OB _,λg _ G=>k.block g G⟩ (λg _ e=>⟨e,λh=>hr (h.symm.trans e)⟩) hm
end
structure CI (w w':World)(m r b4 b6 n n1:Nat)(xs:List Nat)(F F1:Nat->Nat)(O:List Nat)(L:Lv)(ts:List Value)(M:Nat->Prop):Prop where
 kq:Kq m r w w'
 mc:Mk w' m n1
 mf:jM w' r F1
 rn:Rn n n1 xs F F1
 c4:w'.cell? ⟨b4,0,none⟩=some (.map (some r))
 l4:b4< w'.heap.size
 h4:w.heap.size<=b4
 m4:¬M b4
 bd:ke w.heap.size w' b6 O ts M
 th:ah (λg=>(w.heap.size<=g/\¬M g/\g≠b4)/\g< w'.heap.size) w' L ts
 lm:m< w.heap.size
 lr:r< w.heap.size
 ne:m≠r
def CX {w:World}{b4 r x:Nat}{F:Nat->Nat}(c4:w.cell? ⟨b4,0,none⟩=some (.map (some r)))(mf:jM w r F){R:Int->Sb}(hR:R (F x:Int) w):
  Sc 198 #[iv x,ptr b4] w (aw [.i] R):=by
 refine kA x (ptr b4) w R ?_;dsimp only [go_sem];obtain⟨mm,G,H⟩:=mf;refine⟨b4,0,rfl,_,c4,r,mm,rfl,G,?_⟩;rcases H x with h | ⟨h,e⟩
 ·exact⟨F x,true,.inl ⟨rfl,h⟩,λ _=>hR,λh=>(by cases h)⟩
 ·exact⟨0,false,.inr ⟨rfl,h,rfl⟩,λh=>(by cases h),λ _=>by rw [e]at hR;exact hR⟩
def ke.Nb {B:Nat}{w w1 J:World}{b:Nat}{o o':List Nat}{ts:List Value}{M:Nat->Prop}(h:ke B w b o ts M){vo H:Value}(β:w.cell? ⟨b,0,none⟩=some vo)(k:Kp w w1 λg=>vo.ownBlock=some g)(ho:aM 3 B w1 H (o'.map iv))
  (hv:∀g,H.ownBlock=some g->vo.ownBlock=some g\/w.heap.size<=g) (hw:J=w1.setCell ⟨b,0,none⟩ H):ke B J b o' ts (λg=>M g\/H.ownBlock=some g)/\Kp w J M:=by
 obtain⟨h1,hle,h3,hr,h4,γ,vt,h5,h6,h7,h8,h9,h10,Z⟩:=h;have:γ=vo:=Pr (h5.symm.trans β);subst this;have s1:=k.size;have kb:Kr b w1 J:=hw▸Kr.set w1 0 H;have e1:=k.block b h1 λe=>(h9 b e).2 rfl
 have α:∀g,H.ownBlock=some g->g≠b:=λg G=>(hv g G).elim (λe=>(h9 g e).2) λe=>by omega
 have kM:Kp w J M:=Kp.trans (Kp.mono (λg e=>(h9 g e).1) k) kb λg _ e=>by rw [e];exact h3
 have s2:=kb.size;refine⟨⟨by omega,hle,.inl h3,λg G=>?_,λj=>?_,H,vt,?_,?_,ho.kp kb α,?_,λg G=>⟨.inr G,α g G⟩,λg G=>⟨.inl (h10 g G).1,(h10 g G).2⟩,λg G e=>?_⟩,kM⟩
 ·rcases G with G | G
  ·have :=hr g G;omega
  ·have :=ho.block g G;omega
 ·rw [hw,OS,O7 (w:=w) e1];exact h4 j
 ·rw [hw];exact OQ _ _ _ (by rw [Ow (w:=w) e1];exact h5)
 ·rw [hw,OD _ _ _ _ (by simp),Ow (w:=w) e1];exact h6
 ·exact(h8.kp k λg G e=>Z g e G).kp kb λg G=>(h10 g G).2
 ·rcases hv g G with h | h
  ·exact Z g h e
  ·have :=(h8.block g e).2;omega
def ke.No {B:Nat}{w w1 J:World}{b:Nat}{o:List Nat}{ts Z:List Value}{M:Nat->Prop}(h:ke B w b o ts M){vt H:Value}(γ:w.cell? ⟨b,1,none⟩=some vt)(k:Kp w w1 λg=>vt.ownBlock=some g)(ho:aM 130 B w1 H Z)
  (hv:∀g,H.ownBlock=some g->vt.ownBlock=some g\/w.heap.size<=g) (hw:J=w1.setCell ⟨b,1,none⟩ H):ke B J b o Z (λg=>M g\/H.ownBlock=some g)/\Kp w J M:=by
 obtain⟨h1,hle,h3,hr,h4,vo,δ,h5,h6,h7,h8,h9,h10,α⟩:=h;have:δ=vt:=Pr (h6.symm.trans γ);subst this;have s1:=k.size;have kb:Kr b w1 J:=hw▸Kr.set w1 1 H;have e1:=k.block b h1 λe=>(h10 b e).2 rfl
 have β:∀g,H.ownBlock=some g->g≠b:=λg G=>(hv g G).elim (λe=>(h10 g e).2) λe=>by omega
 have kM:Kp w J M:=Kp.trans (Kp.mono (λg e=>(h10 g e).1) k) kb λg _ e=>by rw [e];exact h3
 have s2:=kb.size;refine⟨⟨by omega,hle,.inl h3,λg G=>?_,λj=>?_,vo,H,?_,?_,?_,ho.kp kb β,λg G=>⟨.inl (h9 g G).1,(h9 g G).2⟩,λg G=>⟨.inr G,β g G⟩,λg G e=>?_⟩,kM⟩
 ·rcases G with G | G
  ·have :=hr g G;omega
  ·have :=ho.block g G;omega
 ·rw [hw,OS,O7 (w:=w) e1];exact h4 j
 ·rw [hw,OD _ _ _ _ (by simp),Ow (w:=w) e1];exact h5
 ·rw [hw];exact OQ _ _ _ (by rw [Ow (w:=w) e1];exact h6)
 ·exact(h7.kp k λg G e=>α g G e).kp kb λg G=>(h9 g G).2
 ·rcases hv g e with h | h
  ·exact α g G h
  ·have :=(h7.block g G).2;omega
def cJ {f g:Nat->Nat}:∀{l:Lv},(∀x,(x∈l.bvs\/l.fh x)->f x=g x)->l.map f=l.map g
 | .nil,_=>rfl
 | .thr k a b o r n,h=>by
  have hr:=cJ (f:=f) (g:=g) (l:=r) λx G=>h x (by
   rcases G with G | G
   ·left;simp [Lv.bvs,G]
   ·by_cases H:x∈o
    ·left;simp [Lv.bvs,H]
    ·by_cases hb:k= .r/\x=b
     ·left;simp [Lv.bvs,hb.1,hb.2]
     ·right;exact .inr (.inr (.inl ⟨H,hb,G⟩)))
  have J:=cJ (f:=f) (g:=g) (l:=n) λx G=>h x (by
   rcases G with G | G
   ·left;simp [Lv.bvs,G]
   ·right;exact .inr (.inr (.inr G)))
  have H:o.map f=o.map g:=PX λx G=>h x (.inl (by simp [Lv.bvs,G]))
  simp only [Lv.map,hr,J,H];cases k<;>simp only [reduceCtorEq,or_self,or_true,true_or,Rb,Qu]
  ·rw [h a (.inr (.inl ⟨.inl rfl,.inl rfl⟩)),h b (.inr (.inl ⟨.inl rfl,.inr rfl⟩))]
  ·rw [h a (.inr (.inr (.inl ⟨rfl,rfl⟩))),h b (.inl (by simp [Lv.bvs]))]
  ·rw [h a (.inr (.inl ⟨.inr rfl,.inl rfl⟩)),h b (.inr (.inl ⟨.inr rfl,.inr rfl⟩))]
 | .sum ps n,h=>by
  have hr:=cJ (f:=f) (g:=g) (l:=ps) λx G=>h x (by
   rcases G with G | G
   ·left;simp [Lv.bvs,G]
   ·right;exact .inl G)
  have J:=cJ (f:=f) (g:=g) (l:=n) λx G=>h x (by
   rcases G with G | G
   ·left;simp [Lv.bvs,G]
   ·right;exact .inr G)
  simp only [Lv.map,hr,J]
 | .part o q n,h=>by
  have hr:=cJ (f:=f) (g:=g) (l:=q) λx G=>h x (by
   rcases G with G | G
   ·left;simp [Lv.bvs,G]
   ·by_cases H:x∈o
    ·left;simp [Lv.bvs,H]
    ·right;exact .inl ⟨H,G⟩)
  have J:=cJ (f:=f) (g:=g) (l:=n) λx G=>h x (by
   rcases G with G | G
   ·left;simp [Lv.bvs,G]
   ·right;exact .inr G)
  have H:o.map f=o.map g:=PX λx G=>h x (.inl (by simp [Lv.bvs,G]))
  simp only [Lv.map,hr,J,H]
def ql {x:Nat}:∀(l:Lv) (i:Nat),(l.take i).fh x->l.fh x
 | _,0,h=>h.elim
 | .nil,i+1,h=>h
 | .thr k a b o r n,i+1,h=>by
  rcases h with h | h | h | h
  ·exact .inl h
  ·exact .inr (.inl h)
  ·exact .inr (.inr (.inl h))
  ·exact .inr (.inr (.inr (ql n i h)))
 | .sum ps n,i+1,h=>h.elim .inl λh=> .inr (ql n i h)
 | .part o q n,i+1,h=>h.elim .inl λh=> .inr (ql n i h)
def Mi (k:Nat):Prop:=∀{D:Nat->Prop} {w:World} {v:Value} {o:List Nat} {l:Lv} {m r n:Nat} {F:Nat->Nat} {R:Value->Sb},l.sz<=k->l.sh true=true->gC D w v o (ah D w l)->(∀g,D g->¬(g=m\/g=r))->vi o l->Mk w m n->jM w r F->m≠r->n+o.length+l.bvs.length<=4294967296->o.length+l.tot<=4294967296->
 (∀G w' F' n',Kq m r w w'->Mk w' m n'->jM w' r F'->Rn n n' (o++l.bvs) F F'->az (EX w) w' (o.map F',l.map F') G->R G w')->Sc 154 #[ptr m,v,.map (some r)] w (aw [.v] R)
def Ec (f:Nat->Nat):∀l:Lv,(l.map f).len=l.len:=by intro l;induction l<;>simp_all [Lv.map,Lv.len]
def IH:∀(l:Lv) (i:Nat),(l.take i).bvs.Sublist l.bvs:=by
 intro l
 induction l with
 | nil=>intro i;cases i<;>simp [Lv.take,Lv.bvs]
 | thr k a b o r n _ G=>
  intro i;cases i with
  | zero=>simp [Lv.take,Lv.bvs]
  | succ i=>exact Qj (Pz _) (Qj (Pz _) (Qj (Pz _) (G i)))
 | sum ps n _ G=>
  intro i;cases i with
  | zero=>simp [Lv.take,Lv.bvs]
  | succ i=>exact Qj (Pz _) (G i)
 | part o q n _ G=>
  intro i;cases i with
  | zero=>simp [Lv.take,Lv.bvs]
  | succ i=>exact Qj (Pz _) (Qj (Pz _) (G i))
def Iv {o:List Nat}{l e:Lv}{i:Nat}(h:vi o l)(Z:l.take (i+1)=(l.take i).app e):(∀x∈o++(l.take i).bvs,x∉e.bvs)/\(l.take i).bvs.length+e.bvs.length<=l.bvs.length:=by
 have G:((l.take i).bvs++e.bvs).Sublist l.bvs:=by rw [<-Lv.cz,<-Z];exact IH l _
 have H:=Pg.1 h.nd;refine⟨λx hx J=>?_,by have :=G.length_le;rwa [Oy]at this⟩;rcases OH.1 hx with h | h
 ·exact H.2.2 x h x (G.subset (O0 _ J)) rfl
 ·exact(Pg.1 (H.2.1.sublist G)).2.2 x h x J rfl
def BM (k:Nat)(ih:∀j,j< k->Mi j):Mi k:=by
 intro D w v o l m r n F R hn hsh h hD huq hmk hmf χ hnn htot hR;refine lz (ptr m) v (.map (some r)) w R ?_;refine⟨rfl,λb4 w5 hb4 hw5 b6 w7 hb6 hw7=>?_⟩;have x5:Ex w w5:=hw5▸Ex.alloc w _;have x57:Ex w5 w7:=hw7▸Ex.alloc w5 _;have x7:=Ex.trans x5 x57;have s5:w5.heap.size=w.heap.size+1:=by rw [hw5,size_alloc]
 have s7:w7.heap.size=w5.heap.size+1:=by rw [hw7,size_alloc]
 have hlm:=hmk.lt;have hlr:=hmf.lt;obtain⟨bl,vo,vt,ts,rfl,h2,h3,h4,h5,h6,h7,h8⟩:=h;obtain⟨ao,capo,hvo⟩:=h6.slice;rw [OM]at hvo;obtain⟨at_,capt,hvt⟩:=h7.slice;have hlen:=h8.len;have hel:=Lv.cM l;have hlt:=bS l;have nd:=huq.nd;have ndo:=Pg.1 nd;have cbl:∀{w1:World},Kq m r w w1->∀{j:Nat} {u:Value},w.cell? ⟨bl,j,none⟩=some u->w1.cell? ⟨bl,j,none⟩=some u:=λx j u hu=>by
  rw [Ow (w:=w) (x.kp.block bl h3 (hD bl h2))];exact hu
 have bd7:ke w.heap.size w7 b6 [] [] λg=>g=b6:=ke.new (by omega) hb6 hw7
 have ci7:CI w w7 m r b4 b6 n n [] F F [] .nil [] λg=>g=b6:=
  ⟨(Kq.refl m r w).ex x7 hlm,hmk.ex x7,hmf.kp (Kp.ab x7 λ _=>False) (λh=>h),Rn.refl n F,by rw [x57.cell (show b4< _ by omega),hw5,hb4];exact aa rfl,by omega,by omega,by omega,bd7,rfl,hlm,hlr,χ⟩
 refine⟨bl,0,rfl,vo,cbl ci7.kq h4,ao,_,capo,hvo,λx w'=>∃(j n1:Nat) (F1:Nat->Nat) (M:Nat->Prop),x=j/\j<=o.length/\CI w w' m r b4 b6 n n1 (o.take j) F F1 ((o.take j).map F1) .nil [] M,λx _=>(o.length - x).toNat,⟨0,n,F,_,rfl,Pn _,ci7⟩,λx w17 hI=>?_⟩;obtain⟨j,n1,F1,M,rfl,hj,ci⟩:=hI;refine⟨λhlt0=>?_,λhge=>?_⟩
 ·
  have hjo:=oL hlt0;obtain⟨bo,oo,ψ,hvo',hco⟩:∃bo oo ψ,vo= .slice (some ⟨bo,oo,none⟩) o.length ψ/\w17.cell? ⟨bo,oo+j,none⟩=some (iv o[j]):=by
   rcases h6 with⟨_,h0⟩ | ⟨bo,oo,ψ,e,hbD,hb',ω⟩
   ·rw [RR]at h0;rw [h0]at hjo;simp at hjo
   ·rw [OM]at e;exact⟨bo,oo,ψ,e,by rw [Ow (w:=w) (ci.kq.kp.block bo hb' (hD bo hbD))];exact ω j _ (by simp [hjo])⟩
  refine⟨bo,oo,_,ψ,hvo',by omega,by omega,(o[j]:Nat),by rw [OG,O8];exact hco,λw'=>Kq m r w17 w',λw24 hw24=>?_⟩;have x24:Ex w17 w24:=hw24▸Ex.drew w17;have l17m:=ci.mc.lt;have l17r:=ci.mf.lt;have h4':=ci.h4;have rn1:=ci.rn.len;rw [Pd,Qx hj]at rn1;have q24:Kq m r w17 w24:=(Kq.refl m r w17).ex x24 l17m;have c4:∀{w1:World},Kq m r w17 w1->w1.cell? ⟨b4,0,none⟩=some (.map (some r)):=λq=>by rw [Ow (w:=w17) (q.kp.block b4 ci.l4 (λe=>by rcases e with e | e<;>omega))];exact ci.c4
  refine⟨q24,_,λw' q=>c4 q,uP (ci.mc.ex x24) (by omega) λw27 k27 m27=>?_⟩;have q27:Kq m r w17 w27:=q24.km k27;have mf27:jM w27 r F1:=(ci.mf.kp (Kp.ab x24 λ _=>False) (λh=>h)).kp k27.kp (λe=>χ e.symm);obtain⟨mm,hm1,hm2⟩:=mf27;refine⟨q27,r,mm,rfl,hm1,λw30 hm30 hb30=>?_⟩;have q30:Kq m r w17 w30:=q27.blk hb30 l17m χ;have mk30:Mk w30 m (n1+1):=m27.kp (S:=λg=>g=r) ⟨hb30.os,hb30.tape,hb30.output,by rw [hb30.size];exact OB _,λg _ H=>hb30.block g H⟩ χ;have mf30:jM w30 r (aI F1 o[j] (n1+101)):=pC hm2 hm30;have hMr:∀g,M g->¬(g=m\/g=r):=λg H e=>by have :=(ci.bd.mr g H).1;omega
  have bd30:=ci.bd.kp q30.kp hMr;obtain⟨vo1,vt1,d0,d1,d2,d3,d4,d5,d6⟩:=bd30.sl;refine⟨λw'=>Kp w30 w' λg=>vo1.ownBlock=some g,λDf hw32=>?_⟩;have x32:Ex w30 Df:=hw32▸Ex.drew w30;have s30:=q30.size;have nob6:¬vo1.ownBlock=some b6:=λe=>(d4 b6 e).2 rfl
  have nob4:¬vo1.ownBlock=some b4:=λe=>ci.m4 (d4 b4 e).1
  refine⟨Kp.ab x32 _,vo1,λw' k=>by rw [Ow (w:=w30) (k.block b6 bd30.lt nob6)];exact d0,.map (some r),λw' k=>by rw [Ow (w:=w30) (k.block b4 (by have :=ci.l4;omega) nob4)];exact c4 q30,r,_,rfl,jl hm30 (x32.block r (jt hm30)),((n1+101:Nat):Int),true,.inl ⟨rfl,?_⟩,Kp.ab x32 _,λb39 w40 hb39 hw40=>?_⟩
  ·unfold gF;simp
  have x40:Ex Df w40:=hw40▸Ex.alloc Df _;have δ:=Ex.trans x32 x40;have bd40:=bd30.ex δ;have s40:=δ.size;have hB40:w.heap.size<=w40.heap.size:=by have :=ci.kq.size;omega
  refine⟨Kp.ab δ _,aM.push (d2.kp (Kp.ab δ λ _=>False) λ _ _ h=>h) hB40 (m:=[iv (n1+101)]) (D:=λ _=>True) (.inr ⟨b39,0,1,rfl,trivial,by rw [hw40,size_alloc,hb39];omega,λi y hy=>?_⟩) (by rfl) (by omega) (by simp only [OM,Ov,ON,Pd];omega) λv46 w47 ho47 hg47 hn47=>?_⟩
  ·cases i with
   | zero=>simp only [PN,PJ]at hy;subst hy;rw [hw40,hb39];exact aa rfl
   | succ i=>simp at hy
  have k47:Kp w40 w47 λg=>vo1.ownBlock=some g:=Kp.aP hg47 λ _ h=>h
  have e6:=k47.block b6 bd40.lt nob6;have c60:w40.cell? ⟨b6,0,none⟩=some vo1:=by rw [δ.cell (show b6< _ from bd30.lt)];exact d0
  refine⟨Kp.trans (Kp.ab δ _) k47 λ _ _ h=>h,ho47.qh,⟨⟨vo1,by rw [Ow (w:=w40) e6];exact c60⟩,by rw [O7 (w:=w40) e6];exact bd40.fr 0⟩,λw49 hw49=>⟨by omega,?_,tN (by omega)⟩⟩;have hoj:o[j]∉o.take j:=λhm=>by
   have h1:=ndo.1;rw [<-PV j o,Ps hjo]at h1;exact(Pg.1 h1).2.2 _ hm _ (Pb ..) rfl
  have hmapj:(o.take j).map F1=(o.take j).map (aI F1 o[j] (n1+101)):=PX λx hx=>by
   have:x≠o[j]:=λe=>hoj (by rw [<-e];exact hx)
   simp only [aI,OP this]
  have ho47':aM 3 w.heap.size w47 v46 (((o.take (j+1)).map (aI F1 o[j] (n1+101))).map iv):=by
   rw [OC hjo,Pm,Pm,<-hmapj];simp only [O3,Qf,aI,Qu];exact ho47
  obtain⟨bd49,k49⟩:=bd40.Nb c60 k47 ho47' hn47 hw49;have ι:∀g,M g->w.heap.size<=g:=λg H=>(ci.bd.mr g H).1
  have hnewg:∀g,v46.ownBlock=some g->M g\/w40.heap.size<=g:=λg H=>(hn47 g H).imp (λe=>(d4 g e).1) id
  have q17:Kq m r w w30:=ci.kq.trans q30;refine⟨j+1,n1+1,aI F1 o[j] (n1+101),λg=>M g\/v46.ownBlock=some g,by omega,by omega,?_⟩;refine⟨(q17.ex δ hlm).out k49 (λg H hM=>by have :=ι g hM;omega) hlm,(mk30.ex δ).kp k49 λhM=>by have :=ι _ hM;omega,(mf30.kp (Kp.ab δ λ _=>False) (λh=>h)).kp k49 λhM=>by have :=ι _ hM;omega,?_,?_,?_,h4',?_,bd49,rfl,hlm,hlr,χ⟩
  ·rw [OC hjo];exact ci.rn.app (Rn.one n1 o[j] F1) λx hx hx'=>hoj (by cases OL.1 hx';exact hx)
  ·rw [Ow (w:=w40) (k49.block b4 (by have :=ci.l4;omega) ci.m4),δ.cell (show b4< _ by have :=ci.l4;omega)];exact c4 q30
  ·have :=k49.size;have :=ci.l4;omega
  ·intro hM;rcases hM with hM | hM
   ·exact ci.m4 hM
   ·rcases hnewg b4 hM with h | h
    ·exact ci.m4 h
    ·have :=ci.l4;omega
 ·
  have hjo:=oE hge (by omega);subst hjo;rw [O4]at ci;refine⟨bl,0,rfl,vt,cbl ci.kq h5,at_,_,capt,hvt,λx w'=>∃(i n2:Nat) (F2:Nat->Nat) (M2:Nat->Prop) (ts2:List Value),x=i/\i<=ts.length/\CI w w' m r b4 b6 n n2 (o++(l.take i).bvs) F F2 (o.map F2) ((l.take i).map F2) ts2 M2,λx _=>(ts.length - x).toNat,⟨0,n1,F1,M,[],rfl,Pn _,by simpa [Lv.take,Lv.bvs,Lv.map]using ci⟩,λx α hI=>?_⟩;obtain⟨i,n2,F2,M2,ts2,rfl,hi,β⟩:=hI;refine⟨λhlt1=>?_,λhge1=>?_⟩;rotate_left
  ·have hie:i=l.bw.length:=by simp only [OF]at hge1;omega
   rw [hie,Lv.dv]at β;exact hR _ α F2 n2 β.kq β.mc β.mf β.rn (β.bd.Nc (λg _ H=>H) (ah.sub (λg _ H=>H.1.1) β.th))
  have hil:=oL hlt1;have hie:i< l.bw.length:=by omega
  have q59:=β.kq;obtain⟨bt,ot,κ,hvt',hct⟩:∃bt ot κ,vt= .slice (some ⟨bt,ot,none⟩) ts.length κ/\α.cell? ⟨bt,ot+i,none⟩=some ts[i]:=by
   rcases h7 with⟨_,h0⟩ | ⟨bt,ot,κ,e,hbD,hb',ω⟩
   ·rw [h0]at hil;simp at hil
   ·exact⟨bt,ot,κ,e,by rw [Ow (w:=w) (q59.kp.block bt hb' (hD bt hbD))];exact ω i _ (Ox hil)⟩
  obtain⟨e,he1,he2,he3⟩:=aO.single h8.bw (Ox hil);have he4:l.bw[i]=e:=by rw [Ox hie]at he1;exact Pr he1
  have hts:=Lv.take_succ l i hie;rw [he4]at hts;have hsz:=Lv.eX l e he2;have htt:=Lv.gY l e he2;have huqe:=huq.bw he2;have J:=β.mc.lt;have hl59r:=β.mf.lt;have s59:=q59.size;have h4':=β.h4;have rn2:=β.rn.len;have bvs2:(l.take (i+1)).bvs=(l.take i).bvs++e.bvs:=by rw [hts,Lv.cz]
  rw [Oy]at rn2;obtain⟨hdis,bvt⟩:=Iv huq hts;have keepO:∀{n3 F3},Rn n2 n3 e.bvs F2 F3->o.map F3=o.map F2/\(l.take i).map F3=(l.take i).map F2:=λ{n3 F3} rn=>by
   refine⟨PX λx hx=>rn.out x (hdis x (O9 _ hx)),cJ λx hx=>rn.out x λhxe=>?_⟩;rcases hx with hx | hx
   ·exact hdis x (O0 _ hx) hxe
   ·exact huq.nf x ((Lv.my l e he2).subset hxe) (ql l i hx)
  have fin:∀(G:Nat) (Z:World) (n3:Nat) (F3:Nat->Nat),α.heap.size<=G->G< Z.heap.size->Kq m r α Z->Mk Z m n3->jM Z r F3->Rn n2 n3 e.bvs F2 F3->ah (λg=>α.heap.size<=g/\g< Z.heap.size) Z (e.map F3) [ptr G]->
    ∃v195:Value,World.cell? Z ⟨b6,1,none⟩=some v195/\∀(b196:Nat) (γ:World),b196=Array.size (World.heap Z)->γ=World.alloc Z (Obj.cells #[(Value.pointer (some ⟨G,0,none⟩))] 130)->∃(base198 n199 m200:Nat) (xs201 news202:List Value),World.ownsRow γ base198 130 1 v195 n199 xs201/\base198<=Array.size (World.heap γ)/\fp γ (Value.slice (some ⟨b196,0,none⟩) 1 1) m200 1 news202/\(n199+m200<=maxLen/\(n199+m200)* 8<=140737488355328)/\
     ∀(v203:Value) (w204:World),World.ownsRow w204 base198 130 1 v203 (n199+m200) (xs201++news202)->World.grownBy γ w204 (Value.ownBlock v195)->(∀b:Nat,Value.ownBlock v203=some b->Value.ownBlock v195=some b\/Array.size (World.heap γ)<=b)->oneV v203=true/\((∃u205:Value,World.cell? w204 ⟨b6,1,none⟩=some u205)/\World.frozen? w204 ⟨b6,1,none⟩=false)/\∀υ:World,υ=World.setCell w204 ⟨b6,1,none⟩ v203->
      bG ((i:Int)+1)/\(∃(i2 n4:Nat) (F4:Nat->Nat) (M4:Nat->Prop) (ts4:List Value),(i:Int)+1=i2/\i2<=ts.length/\CI w υ m r b4 b6 n n4 (o++(l.take i2).bvs) F F4 (o.map F4) ((l.take i2).map F4) ts4 M4)/\((ts.length:Int) - ((i:Int)+1)).toNat< ((ts.length:Int) - i).toNat:=by
   intro G Z n3 F3 h68 l68 ζ mk172 mf172 μ η;have hMr:∀g,M2 g->¬(g=m\/g=r):=λg H e=>by
    have :=(β.bd.mr g H).1;rcases e with e | e<;>omega
   obtain⟨ko,kl⟩:=keepO μ;have bd172:=β.bd.kp ζ.kp hMr;obtain⟨vo1,vt1,d0,d1,d2,d3,d4,d5,d6⟩:=bd172.sl;refine⟨vt1,d1,λb196 γ hb196 hw197=>?_⟩;have ν:Ex Z γ:=hw197▸Ex.alloc Z _;have s197:γ.heap.size=Z.heap.size+1:=by rw [hw197,size_alloc]
   have s172:=ζ.size;have bd197:=bd172.ex ν;have hlts:ts2.length<=ts.length:=by
    have h1:=β.th.len;have h2:=Ec F2 (l.take i);have :=Lv.iq l i;omega
   refine aM.push (d3.kp (Kp.ab ν λ _=>False) λ _ _ h=>h) (by omega) (m:=[ptr G]) (D:=λ _=>True) (.inr ⟨b196,0,1,rfl,trivial,by omega,λi y hy=>?_⟩) (by rfl) (by omega) (by simp only [Ov,ON];omega) λv203 w204 ho204 hg204 hn204=>?_
   ·cases i with
    | zero=>simp only [PN,PJ]at hy;subst hy;rw [hw197,hb196];exact aa rfl
    | succ i=>simp at hy
   have k204:Kp γ w204 λg=>vt1.ownBlock=some g:=Kp.aP hg204 λ _ h=>h
   have e6:=k204.block b6 bd197.lt λe=>(d5 b6 e).2 rfl
   have c61:γ.cell? ⟨b6,1,none⟩=some vt1:=by rw [ν.cell (show b6< _ from bd172.lt)];exact d1
   refine⟨ho204.qh,⟨⟨vt1,by rw [Ow (w:=γ) e6];exact c61⟩,by rw [O7 (w:=γ) e6];exact bd197.fr 1⟩,λυ hw206=>⟨by omega,?_,by omega⟩⟩;obtain⟨bd206,k206⟩:=bd197.No c61 k204 ho204 hn204 hw206;have ι:∀g,M2 g->w.heap.size<=g/\g< α.heap.size:=β.bd.mr;have hnewg:∀g,v203.ownBlock=some g->M2 g\/γ.heap.size<=g:=λg H=>(hn204 g H).imp (λe=>(d5 g e).1) id
   have q206:Kq m r w υ:=((q59.trans ζ).ex ν hlm).out k206 (λg H hM=>by have :=(ι g hM).1;omega) hlm;have s206:=k206.size;have l4:=β.l4;have hth1:ah (λg=>(w.heap.size<=g/\¬(M2 g\/v203.ownBlock=some g)/\g≠b4)/\g< υ.heap.size) υ ((l.take i).map F3) ts2:=by
    rw [kl];refine ah.sub (λg _ H=>⟨⟨H.1.1,λhM=>hM.elim H.1.2.1 λe=>(hnewg g e).elim H.1.2.1 λh=>by omega,H.1.2.2⟩,by omega⟩) (ah.kp k206 (λg H hM=>H.1.2.1 hM) (ah.ex (ah.kp ζ.kp (λg H e=>by
     have :=H.1.1;rcases e with e | e<;>omega) β.th) ν))
   have hth2:ah (λg=>(w.heap.size<=g/\¬(M2 g\/v203.ownBlock=some g)/\g≠b4)/\g< υ.heap.size) υ (e.map F3) [ptr G]:=
    ah.sub (λg _ H=>⟨⟨by omega,λhM=>hM.elim (λh=>by have :=(ι g h).2;omega) λe=>(hnewg g e).elim (λh=>by have :=(ι g h).2;omega) λh=>by omega,by omega⟩,by omega⟩) (ah.kp k206 (λg H hM=>by have :=(ι g hM).2;omega) (ah.ex η ν))
   refine⟨i+1,n3,F3,λg=>M2 g\/v203.ownBlock=some g,ts2++[ptr G],by omega,by omega,⟨q206,(mk172.ex ν).kp k206 λhM=>by have :=(ι _ hM).1;omega,(mf172.kp (Kp.ab ν λ _=>False) (λh=>h)).kp k206 λhM=>by have :=(ι _ hM).1;omega,?_,?_,by omega,h4',λhM=>?_,by rw [ko];exact bd206,?_,hlm,hlr,χ⟩⟩
   ·rw [bvs2,<-Pe];exact β.rn.app μ hdis
   ·rw [Ow (w:=γ) (k206.block b4 (by omega) β.m4),ν.cell (show b4< _ by omega),Ow (w:=α) (ζ.kp.block b4 l4 λe=>by rcases e with e | e<;>omega)];exact β.c4
   ·rcases hM with hM | hM
    ·exact β.m4 hM
    ·rcases hnewg b4 hM with h | h
     ·exact β.m4 h
     ·omega
   ·rw [hts,Lv.e9];exact ah.app hth1 hth2
  refine⟨bt,ot,_,κ,hvt',by omega,by omega,ts[i],by rw [OG,O8];exact hct,?_⟩;have h26:=huqe.ge;have l4:=β.l4;have c4b:∀{w1:World},Kq m r α w1->w1.cell? ⟨b4,0,none⟩=some (.map (some r)):=λq=>by
   rw [Ow (w:=α) (q.kp.block b4 l4 λe=>by rcases e with e | e<;>omega)];exact β.c4
  rcases Lv.ku hsh e he2 with⟨kk,a,b,o',q,rfl,hq⟩ | ⟨ps,rfl,hps⟩
  ·obtain⟨t,ts',a',b',vr,e1,ht,hkk,hlv,_⟩:=he3;obtain⟨rfl,rfl⟩:=Pw e1;obtain⟨g,H,hgD,hg2,c0,c1,c2,c3,c4'⟩:=ht;have cg:∀{w1:World},Kq m r α w1->∀{j:Nat} {u:Value},w.cell? ⟨g,j,none⟩=some u->w1.cell? ⟨g,j,none⟩=some u:=λx j u hu=>by
    rw [Ow (w:=w) ((q59.trans x).kp.block g hg2 (hD g hgD))];exact hu
   have q0:=Kq.refl m r α;simp only [Lv.sz]at hsz;simp only [Lv.tot]at htt;obtain⟨u1,u2⟩:=huqe.thr;have ebv:(Lv.thr kk a b o' q .nil).bvs=(if kk= .r then [b]else [])++(o'++q.bvs):=by simp [Lv.bvs]
   rw [ebv]at bvt;simp only [Oy]at bvt;refine⟨g,0,H,kk.byte,cg q0 c0,λG ε hb68 hw69=>⟨λw'=>∃(n3:Nat) (F3:Nat->Nat) (a1 b1:Nat),Kq m r α w'/\Mk w' m n3/\jM w' r F3/\Rn n2 n3 (if kk= .r then [b]else []) F2 F3/\kP w' G kk.byte a1 b1 (.pointer none) (.slice none 0 0)/\(kk= .t\/kk= .p\/(a1=F3 a/\b1=F3 b)),⟨g,0,H,kk.byte,?_,?_⟩,λw146 hJ=>?_⟩⟩
   all_goals have x69:Ex α ε:=hw69▸Ex.alloc α _
   all_goals have ς:Kq m r α ε:=q0.ex x69 J
   ·exact cg ς c0
   ·have th69:kP ε G kk.byte 0 0 (.pointer none) (.slice none 0 0):=kP.new hb68 hw69;have mk69:=β.mc.ex x69;have mf69:=β.mf.kp (Kp.ab x69 λ _=>False) (λh=>h);have two:(kk= .s\/kk= .m)->∃S106:Sb,∀φ:World,φ=World.drew ε->S106 φ/\∃(b108 o109:Nat),ts[i]=Value.pointer (some ⟨b108,o109,none⟩)/\∃n110:Int,(∀w',S106 w'->World.cell? w' ⟨b108,(o109+1),none⟩=some (Value.int IntKind.i64 n110))/\∃(b111 o112:Nat),ts[i]=Value.pointer (some ⟨b111,o112,none⟩)/\∃n113:Int,(∀w',S106 w'->World.cell? w' ⟨b111,(o112+2),none⟩=some (Value.int IntKind.i64 n113))/\∃(f114:Nat) (ca115:List Value),(Value.func (Fn.func 198) #[] #[(Value.pointer (some ⟨b4,0,none⟩))])=Value.func (Fn.func f114) #[] (List.toArray ca115)/\hasR gN f114=true/\Sc f114 (List.toArray ([(Value.int IntKind.i64 n110)]++ca115)) φ (aw [.i] fun(n116:Int) (w117:World)=>S106 w117/\∃(f118:Nat) (ca119:List Value),(Value.func (Fn.func 198) #[] #[(Value.pointer (some ⟨b4,0,none⟩))])=Value.func (Fn.func f118) #[] (List.toArray ca119)/\hasR gN f118=true/\Sc f118 (List.toArray ([(Value.int IntKind.i64 n113)]++ca119)) w117 (aw [.i] fun(n120:Int) (w121:World)=>S106 w121/\((∃u122:Value,World.cell? w121 ⟨G,1,none⟩=some u122)/\World.frozen? w121 ⟨G,1,none⟩=false)/\∀w123:World,w123=World.setCell w121 ⟨G,1,none⟩ (Value.int IntKind.i64 n116)->((∃u124:Value,World.cell? w123 ⟨G,2,none⟩=some u124)/\World.frozen? w123 ⟨G,2,none⟩=false)/\∀w125:World,w125=World.setCell w123 ⟨G,2,none⟩ (Value.int IntKind.i64 n120)->
      ∃(n3:Nat) (F3:Nat->Nat) (a1 b1:Nat),Kq m r α w125/\Mk w125 m n3/\jM w125 r F3/\Rn n2 n3 (if kk= .r then [b]else []) F2 F3/\kP w125 G kk.byte a1 b1 (.pointer none) (.slice none 0 0)/\(kk= .t\/kk= .p\/(a1=F3 a/\b1=F3 b)))):=by
     intro hk2;obtain⟨rfl,rfl⟩:a'=a/\b'=b:=by
      rcases hkk with h | h | h
      ·rw [h]at hk2;simp at hk2
      ·rw [h]at hk2;simp at hk2
      ·exact h
     refine⟨λw'=>Ex ε w',λφ hw107=>⟨hw107▸Ex.drew ε,g,0,H,a',λw' x=>cg (ς.ex x J) c1,g,0,H,b',λw' x=>cg (ς.ex x J) c2,198,[ptr b4],rfl,by kernel_rfl,?_⟩⟩;have x107:Ex ε φ:=hw107▸Ex.drew ε;have q107:=ς.ex x107 J;have mf107:=mf69.kp (Kp.ab x107 λ _=>False) (λh=>h);refine CX (c4b q107) mf107 ⟨x107,198,[ptr b4],rfl,by kernel_rfl,CX (c4b q107) mf107 ⟨x107,?_⟩⟩;have th107:kP φ G kk.byte 0 0 (.pointer none) (.slice none 0 0):=th69.kp (Kp.ab x107 λ _=>False) λh=>h
     refine⟨⟨⟨_,th107.c1⟩,th107.f 1⟩,λw123 hw123=>?_⟩;have th123:=th107.AM (x:=F2 a') hw123;refine⟨⟨⟨_,th123.c2⟩,th123.f 2⟩,λw125 hw125=>?_⟩;have th125:=th123.vB (x:=F2 b') hw125;have kb:Kr G φ w125:=Kr.trans (hw123▸Kr.set φ 1 _) (hw125▸Kr.set w123 2 _);have hkr:¬kk= .r:=λe=>by rw [e]at hk2;simp at hk2
     rw [OP hkr];exact⟨n2,F2,F2 a',F2 b',q107.out kb (λg H e=>by omega) J,(mk69.ex x107).kp kb (by omega),mf107.kp kb (by omega),Rn.refl n2 F2,th125,.inr (.inr ⟨rfl,rfl⟩)⟩
    have zero:(kk= .t\/kk= .p)->∃(n3:Nat) (F3:Nat->Nat) (a1 b1:Nat),Kq m r α ε/\Mk ε m n3/\jM ε r F3/\Rn n2 n3 (if kk= .r then [b]else []) F2 F3/\kP ε G kk.byte a1 b1 (.pointer none) (.slice none 0 0)/\(kk= .t\/kk= .p\/(a1=F3 a/\b1=F3 b)):=by
     intro hk2;have hkr:¬kk= .r:=λe=>by rw [e]at hk2;simp at hk2
     rw [OP hkr];exact⟨n2,F2,0,0,ς,mk69,mf69,Rn.refl n2 F2,th69,hk2.elim .inl λh=> .inr (.inl h)⟩
    cases kk
    case s=>exact aW (by decide) ⟨λ _=>df (by decide) (two (.inl rfl)),λh=>absurd h (by decide)⟩
    case m=>exact aW (by decide) ⟨λh=>absurd h (by decide),λ _=>df (by decide) (two (.inr rfl))⟩
    case t=>exact aW (by decide) ⟨λh=>absurd h (by decide),λ _=>aW (by decide) (zero (.inl rfl))⟩
    case p=>exact aW (by decide) ⟨λh=>absurd h (by decide),λ _=>aW (by decide) (zero (.inr rfl))⟩
    case r=>
     obtain⟨rfl,rfl⟩:a'=a/\b'=b:=by rcases hkk with h | h | h<;>first | exact h | cases h
     obtain⟨v1,v2,v3,v4⟩:=u2 rfl;simp only [Qu,Ov,ON]at bvt;refine df (by decide) ⟨g,0,H,a',cg ς c1,198,[ptr b4],rfl,by kernel_rfl,CX (c4b ς) mf69 ⟨⟨⟨_,th69.c1⟩,th69.f 1⟩,λw82 hw82=>⟨λw'=>Kq m r α w',λw84 hw84=>?_⟩⟩⟩;have th82:=th69.AM (x:=F2 a') hw82;have kb82:Kr G ε w82:=hw82▸Kr.set ε 1 _;have x84:Ex w82 w84:=hw84▸Ex.drew w82;have q82:Kq m r α w82:=ς.out kb82 (λg H e=>by omega) J;have q84:=q82.ex x84 J;have mk82:=mk69.kp kb82 (by omega);have mf82:=mf69.kp kb82 (by omega);refine⟨q84,_,λw' q=>c4b q,g,0,H,b',λw' q=>cg q c2,uP (mk82.ex x84) (by omega) λw90 k90 m90=>?_⟩;have q90:=q84.km k90;have th90:=(th82.kp (Kp.ab x84 λ _=>False) λh=>h).kp k90.kp (by omega);obtain⟨mm,hm1,hm2⟩:=(mf82.kp (Kp.ab x84 λ _=>False) (λh=>h)).kp k90.kp (λe=>χ e.symm);refine⟨q90,r,mm,rfl,hm1,λw93 hm93 hb93=>?_⟩;have kr93:Kp w90 w93 (λg=>g=r):=⟨hb93.os,hb93.tape,hb93.output,by rw [hb93.size];exact OB _,λg _ H=>hb93.block g H⟩
     have q93:=q90.blk hb93 J χ;have mk93:=m90.kp kr93 χ;have th93:=th90.kp kr93 (by omega);refine⟨λw'=>Ex w93 w',λw95 hw95=>?_⟩;have x95:Ex w93 w95:=hw95▸Ex.drew w93;have q95:=q93.ex x95 J;have th95:=th93.kp (Kp.ab x95 λ _=>False) λh=>h
     refine⟨x95,_,λw' x=>c4b (q93.ex x J),g,0,H,b',λw' x=>cg (q93.ex x J) c2,r,_,rfl,jl hm93 (x95.block r (jt hm93)),((n2+101:Nat):Int),true,.inl ⟨rfl,by unfold gF;simp⟩,⟨⟨_,th95.c2⟩,th95.f 2⟩,λw105 hw105=>?_⟩;have kb105:Kr G w95 w105:=hw105▸Kr.set w95 2 _;refine⟨n2+1,aI F2 b' (n2+101),F2 a',n2+101,q95.out kb105 (λg H e=>by omega) J,(mk93.ex x95).kp kb105 (by omega),((pC hm2 hm93).kp (Kp.ab x95 λ _=>False) (λh=>h)).kp kb105 (by omega),Rn.one n2 b' F2,th95.vB hw105,.inr (.inr ⟨?_,?_⟩)⟩
     ·exact(OP λe=>v2 e.symm).symm
     ·simp [aI]
   ·obtain⟨n3,F3,a1,b1,q146,mk146,mf146,rn146,th146,hab⟩:=hJ;have hbr:∃br,vr=ptr br:=by obtain⟨br,_,_,_,e,_⟩:=hlv;exact⟨br,e⟩
    obtain⟨br,rfl⟩:=hbr;have h68:α.heap.size<=G:=by omega
    refine⟨λw'=>∃(n4:Nat) (F4:Nat->Nat) (vr2:Value),Kq m r α w'/\Mk w' m n4/\jM w' r F4/\Rn n2 n4 ((if kk= .r then [b]else [])++(o'++q.bvs)) F2 F4/\kP w' G kk.byte a1 b1 vr2 (.slice none 0 0)/\az (λg=>α.heap.size<=g/\g< w'.heap.size) w' (o'.map F4,q.map F4) vr2/\(kk= .t\/kk= .p\/(a1=F4 a/\b1=F4 b)),⟨g,0,H,ptr br,cg q146 c3,some ⟨br,0,none⟩,rfl,λ _=>⟨λw'=>Kq m r α w',λw153 hw153=>?_⟩,λh=>by cases h⟩,λw162 hJ=>?_⟩
    ·have x153:Ex w146 w153:=hw153▸Ex.drew w146;have q153:=q146.ex x153 J;have rl:=rn146.len;have hb1:(if kk= .r then [b]else []).length=if kk= .r then 1 else 0:=by split<;>rfl
     have hl153:gC D w153 (ptr br) o' (ah D w153 q):=hlv.kp (q59.trans q153).kp hD λl h=>h.kp (q59.trans q153).kp hD
     refine⟨q153,g,0,H,ptr br,λw' x=>cg x c3,_,λw' x=>c4b x,ih q.sz (by omega) (OB _) hq hl153 hD u1 (mk146.ex x153) (mf146.kp (Kp.ab x153 λ _=>False) (λh=>h)) χ (by omega) (by omega) λv158 w159 F4 n4 q159 mk159 mf159 rn159 l159=>?_⟩;have s153:=x153.size;have hb68l:=th146.lt;have th159:=(th146.kp (Kp.ab x153 λ _=>False) λh=>h).kp q159.kp (by omega);refine⟨l159.one,⟨⟨_,th159.c3⟩,th159.f 3⟩,λw161 hw161=>?_⟩;have kb161:Kr G w159 w161:=hw161▸Kr.set w159 3 _;have s159:=q159.size;have s161:=kb161.size;have ndb:=huqe.nd;rw [Pv,ebv]at ndb;have nfb:=huqe.nf;rw [ebv]at nfb;have hdis2:=(Pg.1 ndb).2.2;refine⟨n4,F4,v158,(q153.trans q159).out kb161 (λg H e=>by omega) J,mk159.kp kb161 (by omega),mf159.kp kb161 (by omega),rn146.app rn159 (λx hx hx'=>hdis2 x hx x hx' rfl),th159.Fk hw161,?_,?_⟩
     ·exact az.sub (az.kp (az.sub (E:=λg=>w153.heap.size<=g/\g< w159.heap.size) l159 λg H hd=>⟨hd,H⟩) kb161 λg H e=>by omega) λg _ H=>⟨by have :=q153.size;omega,by omega⟩
     ·rcases hab with h | h | ⟨ha,hb⟩
      ·exact .inl h
      ·exact .inr (.inl h)
      ·by_cases hkt:kk= .t\/kk= .p
       ·exact hkt.elim .inl λh=> .inr (.inl h)
       ·right;right;have hfa:a∉o'++q.bvs:=λhm=>nfb a (O0 _ hm) (by
         cases kk
         ·exact .inl ⟨.inl rfl,.inl rfl⟩
         ·exact .inr (.inl ⟨rfl,rfl⟩)
         ·exact absurd (.inl rfl) hkt
         ·exact .inl ⟨.inr rfl,.inl rfl⟩
         ·exact absurd (.inr rfl) hkt)
        have hfb:b∉o'++q.bvs:=λhm=>by
         by_cases hkr:kk= .r
         ·have :=u2 hkr;exact(OH.1 hm).elim this.2.2.1 this.2.2.2
         ·exact nfb b (O0 _ hm) (by
           cases kk
           ·exact .inl ⟨.inl rfl,.inr rfl⟩
           ·exact absurd rfl hkr
           ·exact absurd (.inl rfl) hkt
           ·exact .inl ⟨.inr rfl,.inr rfl⟩
           ·exact absurd (.inr rfl) hkt)
        rw [rn159.out a hfa,rn159.out b hfb];exact⟨ha,hb⟩
    ·obtain⟨n4,F4,vr2,q162,mk162,mf162,rn162,th162,l162,hab4⟩:=hJ;refine⟨g,0,H,.slice none 0 0,cg q162 c4',none,0,0,rfl,λy w'=>y=0/\w'=w162,λ _ _=>0,⟨rfl,rfl⟩,λy Z hy=>?_⟩;obtain⟨rfl,rfl⟩:=hy;refine⟨λh=>by simp at h,λ _=>fin G Z n4 F4 h68 th162.lt q162 mk162 mf162 (by rw [ebv];exact rn162) ?_⟩;refine⟨ptr G,[],a1,b1,vr2,rfl,th162.wF ⟨h68,th162.lt⟩,?_,l162,rfl⟩;rcases hab4 with h | h | ⟨h1,h2⟩
     ·exact .inl h
     ·exact .inr (.inl h)
     ·by_cases hkt:kk= .t\/kk= .p
      ·exact hkt.elim .inl λh=> .inr (.inl h)
      ·exact .inr (.inr ⟨by rw [OP hkt];exact h1,by rw [OP hkt];exact h2⟩)
  ·obtain⟨t,ts',a',b',vp,us,e1,ht,hus,hps2,_⟩:=he3;obtain⟨rfl,rfl⟩:=Pw e1;obtain⟨g,H,hgD,hg2,c0,c1,c2,c3,c4'⟩:=ht;have cg:∀{w1:World},Kq m r α w1->∀{j:Nat} {u:Value},w.cell? ⟨g,j,none⟩=some u->w1.cell? ⟨g,j,none⟩=some u:=λx j u hu=>by
    rw [Ow (w:=w) ((q59.trans x).kp.block g hg2 (hD g hgD))];exact hu
   have q0:=Kq.refl m r α;have uq:=huqe.sum;have ebv:(Lv.sum ps .nil).bvs=ps.bvs:=by simp [Lv.bvs]
   rw [ebv]at bvt;simp only [Lv.sz]at hsz;simp only [Lv.tot]at htt;obtain⟨au,cau,hvu⟩:=hus.slice;have hul:=hps2.len;have hpl:=Lv.cM ps;have hpt:=bS ps;refine⟨g,0,H,43,cg q0 c0,λG ε hb68 hw69=>⟨λw'=>w'=ε,⟨g,0,H,43,?_,aW (by decide) ⟨λh=>absurd h (by decide),λ _=>aW (by decide) rfl⟩⟩,λw146 hJ=>⟨λw'=>w'=ε,?_,λw162 hJ2=>?_⟩⟩⟩
   all_goals have x69:Ex α ε:=hw69▸Ex.alloc α _
   all_goals have ς:Kq m r α ε:=q0.ex x69 J
   ·exact cg ς c0
   ·subst hJ;exact⟨g,0,H,.pointer none,cg ς c3,none,rfl,λh=>(by cases h),λ _=>rfl⟩
   subst hJ2;have h68:α.heap.size<=G:=by omega
   have th69:kP w162 G 43 0 0 (.pointer none) (.slice none 0 0):=kP.new hb68 hw69;refine⟨g,0,H,vp,cg ς c4',au,_,cau,hvu,λy w'=>∃(j n3:Nat) (F3:Nat->Nat) (θ:Value) (us2:List Value),y=j/\j<=us.length/\Kq m r α w'/\Mk w' m n3/\jM w' r F3/\Rn n2 n3 (ps.take j).bvs F2 F3/\kP w' G 43 0 0 (.pointer none) θ/\aM 59 α.heap.size w' θ us2/\(∀g,θ.ownBlock=some g->g≠G)/\ah (λg=>(α.heap.size<=g/\g≠G/\θ.ownBlock≠some g)/\g< w'.heap.size) w' ((ps.take j).map F3) us2,
    λy _=>(us.length - y).toNat,⟨0,n2,F2,.slice none 0 0,[],rfl,Pn _,ς,β.mc.ex x69,β.mf.kp (Kp.ab x69 λ _=>False) (λh=>h),Rn.refl n2 F2,th69,aM.nil _ _ _,λg H=>(by cases H),rfl⟩,λy Z hI2=>?_⟩
   obtain⟨j,n3,F3,θ,us2,rfl,hj,ζ,mk172,mf172,μ,η,ho172,hnb,ht172⟩:=hI2;refine⟨λhlt2=>?_,λhge2=>?_⟩;rotate_left
   ·have hje:j=ps.bw.length:=by simp only [OF]at hge2;omega
    rw [hje,Lv.dv]at μ ht172;refine fin G Z n3 F3 h68 η.lt ζ mk172 mf172 (by rw [ebv];exact μ) ⟨ptr G,[],0,0,θ,us2,rfl,η.wF ⟨h68,η.lt⟩,ho172.DO (λg H=>ho172.block g H),ah.sub (λg _ H=>⟨H.1.1,H.2⟩) ht172,rfl⟩
   have hju:=oL hlt2;have hje:j< ps.bw.length:=by omega
   obtain⟨bu,ou,capu',hvu',hcu⟩:∃bu ou capu',vp= .slice (some ⟨bu,ou,none⟩) us.length capu'/\Z.cell? ⟨bu,ou+j,none⟩=some us[j]:=by
    rcases hus with⟨_,h0⟩ | ⟨bt,ot,κ,e,hbD,hb',ω⟩
    ·rw [h0]at hju;simp at hju
    ·exact⟨bt,ot,κ,e,by rw [Ow (w:=w) ((q59.trans ζ).kp.block bt hb' (hD bt hbD))];exact ω j _ (Ox hju)⟩
   obtain⟨e,hf1,hf2,hf3⟩:=aO.single hps2.bw (Ox hju);have hf4:ps.bw[j]=e:=by rw [Ox hje]at hf1;exact Pr hf1
   have hts2:=Lv.take_succ ps j hje;rw [hf4]at hts2;obtain⟨hdis2,bvt2⟩:=Iv uq hts2;have huqe2:=uq.bw hf2;have hsz2:=Lv.eX ps e hf2;have htt2:=Lv.gY ps e hf2;obtain⟨o2,q,rfl,hq⟩:=Lv.mZ hps e hf2;simp only [Lv.sz]at hsz2;simp only [Lv.tot]at htt2;have ebv2:(Lv.part o2 q .nil).bvs=o2++q.bvs:=by simp [Lv.bvs]
   rw [ebv2]at bvt2 hdis2;rw [Oy]at bvt2;obtain⟨v2,ts3,e2,hlv2,_⟩:=hf3;obtain⟨rfl,rfl⟩:=Pw e2;have rl:=μ.len;have s172:=ζ.size;refine⟨bu,ou,_,capu',hvu',by omega,by omega,us[j],by rw [OG,O8];exact hcu,λw'=>Kp Z w' λg=>g=m\/g=r\/θ.ownBlock=some g,λw179 hw179=>?_⟩;have ξ:Ex Z w179:=hw179▸Ex.drew Z;have q179:=ζ.ex ξ J;have hob:=ho172.block;have hb68l:=η.lt;have nb68:¬(G=m\/G=r\/θ.ownBlock=some G):=λe=>by
    rcases e with e | e | e
    ·omega
    ·omega
    ·exact hnb _ e rfl
   have nb4:¬(b4=m\/b4=r\/θ.ownBlock=some b4):=λe=>by
    rcases e with e | e | e
    ·omega
    ·omega
    ·have :=hob _ e;omega
   have hl179:gC D w179 us[j] o2 (ah D w179 q):=hlv2.kp (q59.trans q179).kp hD λl h=>h.kp (q59.trans q179).kp hD
   refine⟨Kp.ab ξ _,θ,λw' k=>by rw [Ow (w:=Z) (k.block G hb68l nb68)];exact η.c4,.map (some r),λw' k=>by rw [Ow (w:=Z) (k.block b4 (by omega) nb4)];exact c4b ζ,?_⟩;refine ih q.sz (by omega) (OB _) hq hl179 hD huqe2.part (mk172.ex ξ) (mf172.kp (Kp.ab ξ λ _=>False) (λh=>h)) χ (by omega) (by omega) λv182 w183 F4 n4 q183 mk183 mf183 rn183 l183=>?_
   have k183:Kp Z w183 λg=>g=m\/g=r\/θ.ownBlock=some g:=Kp.trans (Kp.ab ξ _) (Kp.mono (λg e=>e.elim .inl λe=> .inr (.inl e)) q183.kp) λ _ _ h=>h
   refine⟨k183,l183.one,λb184 w185 hb184 hw185=>?_⟩;have ο:Ex w183 w185:=hw185▸Ex.alloc w183 _;have s185:w185.heap.size=w183.heap.size+1:=by rw [hw185,size_alloc]
   have s179:=ξ.size;have s183:=q183.size;have hMr:∀g,θ.ownBlock=some g->¬(g=m\/g=r):=λg H e=>by
    have :=hob g H;rcases e with e | e<;>omega
   have ho185:aM 59 α.heap.size w185 θ us2:=((ho172.kp (Kp.ab ξ λ _=>False) λ _ _ h=>h).kp q183.kp hMr).kp (Kp.ab ο λ _=>False) λ _ _ h=>h
   have hlu:us2.length<=us.length:=by
    have h1:=ht172.len;have h2:=Ec F3 (ps.take j);have :=Lv.iq ps j;omega
   refine⟨Kp.trans k183 (Kp.ab ο λ _=>False) λ _ _ h=>h.elim,aM.push ho185 (by omega) (m:=[v182]) (D:=λ _=>True) (.inr ⟨b184,0,1,rfl,trivial,by omega,λi y hy=>?_⟩) (by simp only [PQ,Rq,QL];exact l183.one) (by omega) (by simp only [Ov,ON];omega) λv191 w192 ho192 hg192 hn192=>?_⟩
   ·cases i with
    | zero=>simp only [PN,PJ]at hy;subst hy;rw [hw185,hb184];exact aa rfl
    | succ i=>simp at hy
   have k192:Kp w185 w192 λg=>θ.ownBlock=some g:=Kp.aP hg192 λ _ h=>h
   have th185:=((η.kp (Kp.ab ξ λ _=>False) λh=>h).kp q183.kp (λe=>by rcases e with e | e<;>omega)).kp (Kp.ab ο λ _=>False) λh=>h
   have th192:=th185.kp k192 λe=>hnb _ e rfl
   refine⟨Kp.trans (Kp.trans k183 (Kp.ab ο λ _=>False) λ _ _ h=>h.elim) k192 λg _ h=> .inr (.inr h),ho192.qh,⟨⟨_,th192.c4⟩,th192.f 4⟩,λw194 hw194=>⟨by omega,?_,tN (by omega)⟩⟩;have kb194:Kr G w192 w194:=hw194▸Kr.set w192 4 _;have k194:Kp w185 w194 λg=>θ.ownBlock=some g\/g=G:=Kp.trans (Kp.mono (λ _ h=> .inl h) k192) kb194 λ _ _ h=> .inr h
   have s194:=k194.size;have hnew:∀g,v191.ownBlock=some g->θ.ownBlock=some g\/w185.heap.size<=g:=hn192;have q185:Kq m r α w185:=(q179.trans q183).ex ο J;have keep:(ps.take j).map F4=(ps.take j).map F3:=cJ λx hx=>rn183.out x λhxe=>by
    rcases hx with hx | hx
    ·exact hdis2 x hx hxe
    ·exact uq.nf x ((Lv.my ps _ hf2).subset (by rw [ebv2];exact hxe)) (ql ps j hx)
   have hS:∀g,(θ.ownBlock=some g\/g=G)->α.heap.size<=g:=λg e=>e.elim (λe=>(hob g e).1) λe=>by omega
   refine⟨j+1,n4,F4,v191,us2++[v182],by omega,by omega,q185.out k194 (λg H e=>by have :=hS g e;omega) J,(mk183.ex ο).kp k194 (λe=>by have :=hS _ e;omega),(mf183.kp (Kp.ab ο λ _=>False) (λh=>h)).kp k194 (λe=>by have :=hS _ e;omega),?_,th192.LM hw194,ho192.kp kb194 (λg H e=>?_),λg H e=>?_,?_⟩
   ·rw [hts2,Lv.cz,ebv2];exact μ.app rn183 hdis2
   ·rcases hnew g H with h | h
    ·exact hnb g h e
    ·omega
   ·rcases hnew g H with h | h
    ·exact hnb g h e
    ·omega
   ·rw [hts2,Lv.e9,keep];refine ah.app ?_ ?_
    ·refine ah.sub (λg _ H=>⟨⟨H.1.1,H.1.2.1,λe=>(hnew g e).elim H.1.2.2 λh=>by omega⟩,by omega⟩) (ah.kp k194 (λg H e=>e.elim H.1.2.2 H.1.2.1) (ah.ex (ah.kp q183.kp (λg H e=>by
      have :=H.1.1;rcases e with e | e<;>omega) (ah.ex ht172 ξ)) ο))
    ·refine⟨v182,[],rfl,?_,rfl⟩;have l183':=az.sub (E:=λg=>w179.heap.size<=g/\g< w183.heap.size) l183 λg H hd=>⟨hd,H⟩
     exact az.sub (az.kp (az.ex l183' ο) k194 λg H e=>by
      rcases e with e | e
      ·have :=hob g e;omega
      ·omega) λg _ H=>⟨⟨by omega,by omega,λe=>(hnew g e).elim (λh=>by have :=hob g h;omega) λh=>by omega⟩,by omega⟩
def AQ (k:Nat):Mi k:=by
 induction k using Nat.strongRecOn with
 | _ k G=>exact BM k G
def Cq (acc:List Tx)(s:Tx):List Tx:=if acc.getLast?=some s then acc else acc++[s]
def dd (l:List Tx):List Tx:=l.foldl Cq []
def fW (l:List Tx)(s:Tx):dd (l++[s])=Cq (dd l) s:=by unfold dd;rw [List.foldl_append];rfl
def Jw:∀l:List Tx,(dd l).getLast?=l.getLast?:=by
 intro l;rcases List.eq_nil_or_concat l with rfl | ⟨l,s,rfl⟩
 ·rfl
 ·rw [List.concat_eq_append,fW];unfold Cq;split
  ·rename_i h;rw [h];simp
  ·simp
def vJ (l:List Tx):(dd l).length<=l.length:=by
 have:∀n (l:List Tx),l.length=n->(dd l).length<=l.length:=by
  intro n
  induction n with
  | zero=>intro l h;have :=Pa h;subst this;exact OB _
  | succ n G=>
   intro l h;rcases List.eq_nil_or_concat l with rfl | ⟨l,s,rfl⟩
   ·exact OB _
   ·rw [List.concat_eq_append]at h|-;rw [fW];have H:=G l (by simpa using h);unfold Cq;split
    ·simp;omega
    ·simp;omega
 exact this _ l rfl
def CO {l:List Tx}:∀s,s∈dd l↔s∈l:=by
 have:∀n (l:List Tx),l.length=n->∀s,s∈dd l↔s∈l:=by
  intro n
  induction n with
  | zero=>intro l h;have :=Pa h;subst this;intro s;exact Rx
  | succ n H=>
   intro l h s;rcases List.eq_nil_or_concat l with rfl | ⟨l,x,rfl⟩
   ·exact Rx
   ·rw [List.concat_eq_append]at h|-;rw [fW];have G:=H l (by simpa using h);unfold Cq;split
    ·rename_i J;rw [G,OH,OL];refine⟨.inl,λh=>h.elim id λe=>?_⟩;subst e;exact(G s).1 (List.mem_of_getLast? J)
    ·simp [G]
 exact this _ l rfl
structure Cw (B:Nat)(w:World)(r:Nat)(l:List Tx)(bad:Bool)(M:Nat->Prop):Prop where
 lt:r< w.heap.size
 mb:M r
 mr:∀g,M g->B<=g/\g< w.heap.size
 f:∀j,w.frozen? ⟨r,j,none⟩=false
 c1:w.cell? ⟨r,1,none⟩=some (.bool bad)
 sl:∃v,w.cell? ⟨r,0,none⟩=some v/\Own B w v l/\∀g,v.ownBlock=some g->M g/\g≠r
def Cw.kp {B:Nat}{w w':World}{r:Nat}{l:List Tx}{bad:Bool}{M S:Nat->Prop}(h:Cw B w r l bad M)(k:Kp w w' S)(H:∀g,M g->¬S g):Cw B w' r l bad M:=by
 have e:=k.block r h.lt (H r h.mb);obtain⟨v,Z,h2,J⟩:=h.sl;exact⟨O1 h.lt k.size,h.mb,λg G=>⟨(h.mr g G).1,O1 (h.mr g G).2 k.size⟩,λj=>by rw [O7 (w:=w) e];exact h.f j,by rw [Ow (w:=w) e];exact h.c1,v,by rw [Ow (w:=w) e];exact Z,h2.kp k λg G=>H g (J g G).1,J⟩
def Own.qh {B:Nat}{w:World}{v:Value}{l:List Tx}(h:Own B w v l):oneV v=true:=by
 rcases h.2 with⟨rfl,_⟩ | ⟨g,cap,cur,rfl,_⟩<;>rfl
def H0 {B:Nat}{w:World}{r:Nat}{l:List Tx}{bad:Bool}{M:Nat->Prop}{s:Tx}{ok:Bool}(h:Cw B w r l bad M)(hl:l.length<=1099511627775){R:Sb}
  (hR:∀w' M',Kp w w' M->Cw B w' r (l++[s]) (bad|| !ok) M'->(∀g,M' g->M g\/w.heap.size<=g)->R w'):Sc 61 #[ptr r,.string (ak s),.bool ok] w (aw [] R):=by
 refine ng (ptr r) s ok w R ?_;dsimp only [go_sem];obtain⟨v,h1,h2,h3⟩:=h.sl;refine⟨r,0,rfl,v,h1,λb7 w8 μ δ=>?_⟩;have x8:Ex w w8:=δ▸Ex.alloc w _;have s8:w8.heap.size=w.heap.size+1:=by rw [δ,size_alloc]
 have hB:=(h.mr r h.mb).1;have ε:=h.lt;refine Own.push (h2.ex x8) (by omega) (Strs.one μ δ) (by simp only [Ov,ON];omega) λζ J _ α ι γ=>?_
 have η:Kp w8 J λg=>v.ownBlock=some g:=Kp.aP ι λ _ h=>h
 have θ:=η.block r (by omega) λe=>(h3 r e).2 rfl
 have ξ:=η.size;have c0:J.cell? ⟨r,0,none⟩=some v:=by rw [Ow (w:=w8) θ,x8.cell (show r< _ from ε)];exact h1
 have c1:J.cell? ⟨r,1,none⟩=some (.bool bad):=by rw [Ow (w:=w8) θ,x8.cell (show r< _ from ε)];exact h.c1
 have f15:∀j,J.frozen? ⟨r,j,none⟩=false:=λj=>by rw [O7 (w:=w8) θ,Qr x8 ε];exact h.f j
 refine⟨r,0,rfl,α.qh,⟨⟨_,c0⟩,f15 0⟩,λν G=>⟨r,0,rfl,bad,?_,λhb=>⟨r,0,rfl,⟨⟨.bool bad,?_⟩,?_⟩,λβ H=>?_⟩,λhb=>⟨r,0,rfl,⟨⟨.bool bad,?_⟩,?_⟩,λβ H=>?_⟩⟩⟩
 ·rw [G,OD _ _ _ _ (by simp)];exact c1
 ·rw [G,OD _ _ _ _ (by simp)];exact c1
 ·rw [G,OS];exact f15 1
 rotate_left
 ·rw [G,OD _ _ _ _ (by simp)];exact c1
 ·rw [G,OS];exact f15 1
 all_goals
  have kk:Kr r J β:=Kr.trans (G▸Kr.set J 0 _) (H▸Kr.set ν 1 _);have ο:=kk.size;have κ:∀g,ζ.ownBlock=some g->g≠r:=λg Z=>(γ g Z).elim (λe=>(h3 g e).2) λe=>by omega
  have kM:Kp w β M:=Kp.trans (Kp.trans (Kp.ab x8 M) (Kp.mono (λg e=>(h3 g e).1) η) λ _ _ h=>h) kk λg _ e=>by rw [e];exact h.mb
  refine hR β (λg=>M g\/ζ.ownBlock=some g) kM ⟨by omega,.inl h.mb,λg Z=>?_,λj=>?_,?_,ζ,?_,α.kp kk κ,λg Z=>⟨.inr Z,κ g Z⟩⟩ λg Z=>Z.elim .inl λe=>(γ g e).elim (λe=> .inl (h3 g e).1) λh=> .inr (by omega)
  ·rcases Z with Z | Z
   ·have :=h.mr g Z;omega
   ·have :=α.block g Z;omega
  ·rw [H,OS,G,OS];exact f15 j
  ·rw [H]
   first
    | (rw [hb,QU];exact OQ _ _ _ (u:= .bool bad) (by rw [G,OD _ _ _ _ (by simp)];exact c1))
    | (rw [hb,R3];exact OQ _ _ _ (u:= .bool bad) (by rw [G,OD _ _ _ _ (by simp)];exact c1))
  ·rw [H,OD _ _ _ _ (by simp),G];exact OQ _ _ _ c0
def Kt {w:World}{R:Sb}(hR:R w):Sc 100 #[.slice none 0 0] w (aw [] R):=by
 refine(Any.slices_Sort_string_none CJ none 0 w).mono ?_
 rintro e w' ⟨rfl,rfl⟩
 exact⟨rfl,hR⟩
def B2 {l:List Tx}(h:l.length< 2):dd l=l:=by
 match l,h with
 | [],_=>rfl
 | [a],_=>rfl
def uz {B:Nat}{w w':World}{g cap n j:Nat}{l:List Tx}{x:Tx}(h:Own B w (.slice (some ⟨g,0,none⟩) n cap) l)(hw:w'=w.setCell ⟨g,j,none⟩ (.string (ak x)))(G:j< l.length):Own B w' (.slice (some ⟨g,0,none⟩) n cap) (l.set j x):=by
 have H:aM 9 B w (.slice (some ⟨g,0,none⟩) n cap) (l.map sv):=by unfold aM;rw [OM];exact h
 have :=H.set hw (by simpa using G);rw [show Value.string (ak x)=sv x from rfl,<-Rp]at this;unfold aM at this;rw [OM]at this;exact this
def qU {B:Nat}{w:World}{g cap n j:Nat}{l:List Tx}(h:Own B w (.slice (some ⟨g,0,none⟩) n cap) l)(Z:j< l.length):w.cell? ⟨g,j,none⟩=some (.string (ak l[j]))/\w.frozen? ⟨g,j,none⟩=false/\n=l.length/\l.length<=cap:=by
 rcases h.2 with⟨H,_⟩ | ⟨g',G,cur,J,α,hg,h1,h2,h3,h4⟩
 ·cases H
 ·cases J;refine⟨?_,?_,rfl,h1⟩
  ·rcases h.strs with⟨H,_⟩ | ⟨b,off,G,J,_,hc⟩
   ·cases H
   ·cases J;have :=hc j _ (Ox Z)
    rwa [O6]at this
  ·unfold World.frozen?;simp [hg]
def xv {B g cap N:Nat}:∀(k n:Nat) (C:List Tx) (w:World),Own B w (.slice (some ⟨g,0,none⟩) N cap) C->n+k<=C.length->∃G:List Tx,Own B (w.setCells g n (List.replicate k (.string ⟨#[]⟩))) (.slice (some ⟨g,0,none⟩) N cap) G/\G.length=C.length/\G.take n=C.take n
 | 0,_,C,_,h,_=>⟨C,h,rfl,rfl⟩
 | k+1,n,C,w,h,hk=>by
  obtain⟨G,H,J,Z⟩:=xv k (n+1) (C.set n []) _ (uz (x:=[]) h rfl (by omega)) (by rw [PW];omega);refine⟨G,H,by rw [J,PW],?_⟩;have :=PA (List.take n) Z
  rwa [RF,RF,Qx (by omega),QJ (OB _)]at this
def KN {B:Nat}{w:World}{g cap N n:Nat}{C:List Tx}(h:Own B w (.slice (some ⟨g,0,none⟩) N cap) C)(J:n<=C.length):Own B w (.slice (some ⟨g,0,none⟩) n cap) (C.take n):=by
 have G:(C.take n).length=n:=by rw [Pd];omega
 rcases h.2 with⟨Z,_⟩ | ⟨g',H,cur,hv,hb,hg,h1,h2,h3,h4⟩
 ·cases Z
 ·cases hv;refine⟨by rw [OM,O8],.inr ⟨g,cap,cur,by rw [G],hb,hg,by omega,h2,h3,?_⟩⟩;rw [G,List.map_take,<-h4,O8,O8,RF,Qx J]
def ya {B:Nat}{w:World}{v:Value}{l:List Tx}(h:Own B w v l)(hl:l.length<=1099511627776){R:Value->Sb}
  (hR:∀v' w',Kp w w' (λg=>v.ownBlock=some g)->Own B w' v' (dd l)->(∀g,v'.ownBlock=some g->v.ownBlock=some g)->R v' w'):Sc 101 #[v] w (aw [.v] R):=by
 refine ja v w R ?_;obtain⟨ao,cap,hv⟩:=h.strs.slice;have kx:∀{w1:World},Ex w w1->Kp w w1 (λg=>v.ownBlock=some g):=λx=>Kp.ab x _
 refine⟨ao,_,cap,hv,λhs=>?_,λhs=>?_⟩
 ·have h2:l.length< 2:=by simp only [OK]at hs;omega
  refine hR v w (kx (Ex.refl w)) ?_ λ _ h=>h
  rw [B2 h2];exact h
 have h2:2<=l.length:=by simp only [OF]at hs;omega
 obtain⟨g,rfl⟩:∃g,v= .slice (some ⟨g,0,none⟩) l.length cap:=by
  rcases h.2 with⟨_,h0⟩ | ⟨g,cap',cur,κ,_⟩
  ·omega
  ·rw [κ]at hv;cases hv;exact⟨g,κ⟩
 have hcap:=(qU h (j:=0) (by omega)).2.2.2;refine⟨λk w'=>∃n:Nat,k=n/\1<=n/\n<=l.length/\dd (l.take n)=l.take n/\Ex w w',λk _=>(l.length - k).toNat,⟨1,rfl,OB _,by omega,by rw [B2];rw [Pd];omega,Ex.refl w⟩,λk w8 hI=>?_⟩;obtain⟨G,rfl,hk1,μ,δ,x8⟩:=hI;refine⟨_,_,cap,rfl,λhlt=>?_,λhge=>?_⟩;rotate_left
 ·have:G=l.length:=by simp only [OF]at hge;omega
  rw [this,O4]at δ;refine hR _ w8 (kx x8) ?_ λ _ h=>h
  rw [δ];exact h.ex x8
 have θ:=oL hlt;refine⟨λw'=>Ex w8 w',λw13 ν=>?_⟩;have ξ:Ex w8 w13:=ν▸Ex.drew w8;have α:=Ex.trans x8 ξ;have o13:=h.ex α;refine⟨ξ,g,0,_,cap,rfl,by omega,by omega,l[G],λw' x=>?_,by omega,g,0,_,cap,rfl,by omega,by omega,l[G - 1]'(by omega),λw' x=>?_,λheq=>?_,λβ=>?_⟩
 ·rw [OG,O8,O6];exact(qU (h.ex (Ex.trans x8 x)) θ).1
 ·rw [show((G:Int) - 1).toNat=G - 1 by omega,O8,O6];exact(qU (h.ex (Ex.trans x8 x)) (by omega)).1
 rotate_left
 ·simp only [OF]at β;refine⟨by omega,⟨G+1,by omega,by omega,by omega,?_,α⟩,tN (by omega)⟩;rw [OC θ,fW,δ];unfold Cq;have:(l.take G).getLast?≠some l[G]:=λe=>by
   rw [Q9,Pd,Qx μ,PS (by omega),Ox (by omega)]at e;exact β (Pr e).symm
  rw [OP this]
 simp only [OK]at heq;have hsl:(if cap=(G:Int).toNat then(some ⟨g,0,none⟩:Option Addr)else Option.map (λx:Addr=>x.add ((G:Int).toNat* 1)) (some ⟨g,0,none⟩))=some ⟨g,G,none⟩:=by
  rw [OP (by omega),P8,add_plain,OG,O8,O6]
 refine⟨_,_,cap,rfl,by omega,by omega,by omega,λk kk w'=>∃(n i:Nat) (C:List Tx),k=n/\kk=i/\1<=i/\G+i<=l.length/\n< G+i/\C.length=l.length/\Own B w' (.slice (some ⟨g,0,none⟩) l.length cap) C/\C.take n=dd (l.take (G+i))/\C.drop (G+i - 1)=l.drop (G+i - 1)/\Kp w w' (λb=>(Value.slice (some ⟨g,0,none⟩) l.length cap).ownBlock=some b),
  λ _ kk _=>(l.length - kk).toNat,⟨G,1,l,rfl,rfl,OB _,by omega,by omega,rfl,o13,?_,rfl,kx α⟩,λk kk Z hI=>?_⟩
 ·rw [OC θ,fW,δ];unfold Cq;rw [O'];rw [Q9,Pd,Qx μ,PS (by omega),Ox (by omega),heq]
 obtain⟨n,i,C,rfl,rfl,hi1,hi2,hn,hC,H,ht,hd,ο⟩:=hI;have hnC:n<=C.length:=by omega
 rw [hsl];refine⟨_,_,_,rfl,λς=>?_,λυ=>?_⟩
 ·have ε:G+i< l.length:=by simp only [OK]at ς;omega
  have e1:C[G+i]'(by omega)=l[G+i]:=by
   have :=PA (fun(x:List Tx)=>x[1]?) hd;simp only [RY]at this;rw [show G+i - 1+1=G+i by omega,Ox (by omega),Ox ε]at this;exact Pr this
  have e2:C[G+i - 1]'(by omega)=l[G+i - 1]'(by omega):=by
   have :=PA (fun(x:List Tx)=>x[0]?) hd;simp only [RY]at this;rw [QR,Ox (by omega),Ox (by omega)]at this;exact Pr this
  refine⟨λw'=>Ex Z w',λφ χ=>?_⟩;have ζ:Ex Z φ:=χ▸Ex.drew Z;have ι:=H.ex ζ;have ψ:=Kp.trans ο (Kp.ab ζ λ _=>False) λ _ _ h=>h.elim
  have rd:∀{w':World},Ex Z w'->∀j (hj:j< C.length),w'.cell? ⟨g,j,none⟩=some (.string (ak C[j])):=λx j hj=>(qU (H.ex x) hj).1
  have γ:(dd (l.take (G+i))).getLast?=some (l[G+i - 1]'(by omega)):=by
   rw [Jw,Q9,Pd,Qx hi2,PS (by omega),Ox (by omega)]
  have ω:dd (l.take (G+(i+1)))=Cq (dd (l.take (G+i))) l[G+i]:=by
   rw [<-QV,OC ε,fW]
  refine⟨ζ,g,G,_,_,rfl,by omega,by omega,C[G+i]'(by omega),λw' x=>?_,by omega,g,G,_,_,rfl,by omega,by omega,C[G+i - 1]'(by omega),λw' x=>?_,λβ=>?_,λη=>?_⟩
  ·rw [OG,O8];exact rd x _ _
  ·rw [show G+((i:Int) - 1).toNat* 1=G+i - 1 by omega];exact rd x _ _
  ·have hne':l[G+i]≠l[G+i - 1]'(by omega):=by
    rw [<-e1,<-e2];intro e;rw [e]at β;simp at β
   refine⟨g,G,_,_,rfl,by omega,by omega,C[G+i]'(by omega),by rw [OG,O8];exact rd ζ _ _,g,0,_,cap,rfl,by omega,by omega,?_,λw57 J=>⟨by omega,by omega,⟨n+1,i+1,C.set n (C[G+i]'(by omega)),by omega,by omega,by omega,by omega,by omega,by simpa using hC,?_,?_,?_,?_⟩,tN (by omega)⟩⟩
   ·rw [OG,O8,O6];have :=qU ι (j:=n) (by omega);exact⟨⟨_,this.1⟩,this.2.1⟩
   ·rw [OG,O8,O6]at J;exact uz ι J (by omega)
   ·rw [OC (by simpa using(by omega:n< C.length)),QJ (OB _),ht,ω];unfold Cq;rw [γ,OP (λe=>hne' (Pr e).symm),List.getElem_set_self,e1]
   ·have:C.drop (G+i)=l.drop (G+i):=by
     have :=PA (fun(x:List Tx)=>x.drop 1) hd;simp only [Rj]at this
     rwa [show G+i - 1+1=G+i by omega]at this
    rw [show G+(i+1) - 1=G+i by omega,List.drop_set_of_lt hn,this]
   ·rw [OG,O8,O6]at J;exact Kp.trans ψ (J▸Kr.set φ n _) λb _ e=>by rw [e];rfl
  ·have heq':l[G+i]=l[G+i - 1]'(by omega):=by
    rw [<-e1,<-e2];have:decide (C[G+i]'(by omega)=C[G+i - 1]'(by omega))=true:=by
     cases hd:decide (C[G+i]'(by omega)=C[G+i - 1]'(by omega))with
     | true=>rfl
     | false=>rw [hd]at η;cases η
    exact OW this
   refine⟨by omega,⟨n,i+1,C,rfl,by omega,by omega,by omega,by omega,hC,ι,?_,?_,ψ⟩,tN (by omega)⟩
   ·rw [ht,ω];unfold Cq;rw [γ,O' (by rw [heq'])]
   ·have :=PA (fun(x:List Tx)=>x.drop 1) hd;simp only [Rj]at this;rw [show G+i - 1+1=G+i by omega]at this;rw [show G+(i+1) - 1=G+i by omega];exact this
 ·have ε:G+i=l.length:=by simp only [OF]at υ;omega
  rw [ε,O4]at ht;have hs2:(if cap=(n:Int).toNat then(some ⟨g,0,none⟩:Option Addr)else Option.map (λx:Addr=>x.add ((n:Int).toNat* 1)) (some ⟨g,0,none⟩))=some ⟨g,n,none⟩:=by
   rw [OP (by omega),P8,add_plain,OG,O8,O6]
  have hs3:(if cap=(0:Int).toNat then(some ⟨g,0,none⟩:Option Addr)else Option.map (λx:Addr=>x.add ((0:Int).toNat* 1)) (some ⟨g,0,none⟩))=some ⟨g,0,none⟩:=by
   rw [OP (by have:(0:Int).toNat=0:=rfl;omega),P8,add_plain];rfl
  refine⟨_,_,cap,rfl,by omega,by omega,by omega,_,_,_,rfl,.inr ⟨g,n,hs2,λj hj=>?_,λw66 hw66=>⟨_,_,cap,rfl,by omega,by omega,by omega,?_⟩⟩⟩
  ·have :=qU H (j:=n+j) (by omega);exact⟨⟨_,this.1⟩,this.2.1⟩
  rw [hs3];obtain⟨C2,o66,hC2,ht2⟩:=xv (Int.toNat (l.length:Int) - Int.toNat (n:Int)) n C Z H (by omega);obtain⟨k66,_⟩:=bg (b:=g) (List.replicate (Int.toNat (l.length:Int) - Int.toNat (n:Int)) (.string ⟨#[]⟩)) Z n;rw [<-hw66]at k66 o66;have :=KN o66 (n:=n) (by omega);rw [ht2,ht]at this;exact hR _ w66 (Kp.trans ο k66 λb _ e=>by rw [e];rfl) this λb hb=>by cases hb;rfl
attribute [go_sem] Tryz.f167
def j6 (s1:Value)(v2:aD)(w:World)(R:Int->Sb)(h:vc aB (a6 [(2,[(8,.i)])] [] []) (ai Tryz.f167) (aj 0 [.v s1,.s v2]) w (fin aB [.tmp 4 .i] R)):
  Sc 167 #[s1,(.string (ak v2))] w (aw [.i] R):=
 bn Tryz.func167 (by kernel_rfl) h
attribute [go_sem] Tryz.f97
def iG (s1:Value)(v2:aD)(w:World)(R:Bool->Sb)(h:vc aB (a6 [] [] []) (ai Tryz.f97) (aj 0 [.v s1,.s v2]) w (fin aB [.tmp 4 .b] R)):
  Sc 97 #[s1,(.string (ak v2))] w (aw [.b] R):=
 bn Tryz.func97 (by kernel_rfl) h
attribute [go_sem] Tryz.f103
def im (s1:Value)(f2:Value)(w:World)(R:Int->Sb)(h:vc aB (a6 [(2,[(8,.i)])] [] []) (ai Tryz.f103) (aj 0 [.v s1,.v f2]) w (fin aB [.tmp 4 .i] R)):
  Sc 103 #[s1,f2] w (aw [.i] R):=
 bn Tryz.func103 (by kernel_rfl) h
attribute [go_sem] Tryz.f53
def fY (s1:Value)(f2:Value)(w:World)(R:Bool->Sb)(h:vc aB (a6 [] [] []) (ai Tryz.f53) (aj 0 [.v s1,.v f2]) w (fin aB [.tmp 4 .b] R)):
  Sc 53 #[s1,f2] w (aw [.b] R):=
 bn Tryz.func53 (by kernel_rfl) h
attribute [go_sem] Tryz.f147
def nk (s1:Value)(G:Int)(w:World)(R:Bool->Sb)(h:vc aB (a6 [] [] []) (ai Tryz.f147) (aj 0 [.v s1,.i G]) w (fin aB [.tmp 4 .b] R)):
  Sc 147 #[s1,(.int .i64 G)] w (aw [.b] R):=
 bn Tryz.func147 (by kernel_rfl) h
attribute [go_sem] Tryz.f200
def CR {B:Nat}{w:World}{r:Nat}{l:List Tx}{bad:Bool}{M:Nat->Prop}(h:Cw B w r l bad M)(hl:l.length<=1099511627776){R:Value->Bool->Sb}
  (β:bad=true->R (.slice none 0 0) false w) (J:bad=false->∀G w',Kp w w' M->Own B w' G (dd (aK l))->(∀g,G.ownBlock=some g->M g)->R G true w'):Sc 51 #[ptr r] w (aw [.v,.b] R):=by
 refine lK (ptr r) w R ?_;dsimp only [go_sem];obtain⟨v,h1,h2,H⟩:=h.sl;refine⟨r,0,rfl,bad,h.c1,β,λhb=>⟨r,0,rfl,v,h1,?_⟩⟩;have γ:(aK l).length=l.length:=(aG l).length_eq;by_cases Z:l=[]
 ·subst Z;have α:v= .slice none 0 0\/∃g cap,v= .slice (some ⟨g,0,none⟩) 0 cap:=by
   rcases h2.2 with⟨h0,_⟩ | ⟨g,cap,cur,hv,_⟩
   ·exact .inl h0
   ·exact .inr ⟨g,cap,hv⟩
  have hs:∀{R:Sb},R w->Sc 100 #[v] w (aw [] R):=λ{R} hR=>by
   rcases α with rfl | ⟨g,cap,rfl⟩
   ·exact Kt hR
   ·refine(Any.slices_Sort_string_none CJ (some ⟨g,0,none⟩) cap w).mono ?_
    rintro e w' ⟨rfl,rfl⟩
    exact⟨rfl,hR⟩
  refine hs ⟨r,0,rfl,v,h1,ya h2 (by simp) λG w' k s hv=>J hb G w' (Kp.mono (λg e=>(H g e).1) k) ?_ λg hg=>(H g (hv g hg)).1⟩;have:aK []=[]:=Pa γ;rw [this];exact s
 ·refine sort_k h2 Z hl λw8 k8 o8=>⟨r,0,rfl,v,?_,ya o8 (by omega) λG w' k s hv=>J hb G w' (Kp.trans (Kp.mono (λg e=>(H g e).1) k8) k λg _ e=>(H g e).1) s λg hg=>(H g (hv g hg)).1⟩
  rw [Ow (w:=w) (k8.block r h.lt λe=>(H r e).2 rfl)];exact h1
def EU {D:Nat->Prop}{w:World}{v:Value}{o:List Nat}{x:Nat}(h:dt D w v (o.map iv))(hl:o.length<=1099511627776){R:Bool->Sb}(hR:R (decide (x∈o)) w):
  Sc 183 #[v,iv x] w (aw [.b] R):=by
 refine jW v x w R ?_;dsimp only [go_sem];refine nM v x w _ ?_;dsimp only [go_sem];dsimp only [go_sem,Nat.reduceAdd];obtain⟨ao,cap,hv⟩:=h.slice;rw [OM]at hv;refine⟨ao,_,cap,hv,λi w'=>∃j:Nat,i=j/\j<=o.length/\w'=w/\x∉o.take j,λi _=>(o.length - i).toNat,⟨0,rfl,Pn _,rfl,by simp⟩,λi w' hI=>?_⟩;obtain⟨j,rfl,hj,rfl,hm⟩:=hI;refine⟨λJ=>?_,λZ=>?_⟩
 ·have G:=oL J;refine h.Nl (Q6 j) (gE G) (Q:=λn=>_) ⟨λhe=>?_,λH=>?_⟩
  ·have he:x=o[j]:=by simp only [OK]at he;omega
   show R (decide (0<=(j:Int))) _;rw [P2 (show(0:Int)<=(j:Int) by omega)];rw [P2 (show x∈o by rw [he];exact Oz G)]at hR;exact hR
  ·have H:x≠o[j]:=by simp only [OF]at H;omega
   refine⟨by omega,⟨j+1,by omega,by omega,rfl,?_⟩,tN (by omega)⟩;rw [OC G,OH,OL];exact λh=>h.elim hm H
 ·have:j=o.length:=by simp only [OF]at Z;omega
  rw [this,O4]at hm;show R (decide ((0:Int)<= -1)) _;rw [P9 (show ¬(0:Int)<= -1 by omega)];rw [P9 hm]at hR;exact hR
def JD {w:World}{v:Value}{l:List Tx}{x:Tx}(h:Strs w v l)(hl:l.length<=1099511627776){R:Bool->Sb}(hR:R (decide (x∈l)) w):
  Sc 97 #[v,.string (ak x)] w (aw [.b] R):=by
 refine iG v x w R ?_;dsimp only [go_sem];refine j6 v x w _ ?_;dsimp only [go_sem];dsimp only [go_sem,Nat.reduceAdd];obtain⟨ao,cap,hv⟩:=h.slice;refine⟨ao,_,cap,hv,λi w'=>∃j:Nat,i=j/\j<=l.length/\w'=w/\x∉l.take j,λi _=>(l.length - i).toNat,⟨0,rfl,Pn _,rfl,by simp⟩,λi w' hI=>?_⟩;obtain⟨j,rfl,hj,rfl,hm⟩:=hI;refine⟨λZ=>?_,λα=>?_⟩
 ·have G:=oL Z;obtain⟨b,off,J,β,_,hc⟩:=h.at G;refine⟨b,off,_,J,β,by omega,by omega,l[j],by rw [OG,O8];exact hc,λhe=>?_,λH=>?_⟩
  ·have he:x=l[j]:=by simpa using he
   show R (decide (0<=(j:Int))) _;rw [P2 (show(0:Int)<=(j:Int) by omega)];rw [P2 (show x∈l by rw [he];exact Oz G)]at hR;exact hR
  ·have H:x≠l[j]:=by simpa using H
   refine⟨by omega,⟨j+1,by omega,by omega,rfl,?_⟩,tN (by omega)⟩;rw [OC G,OH,OL];exact λh=>h.elim hm H
 ·have:j=l.length:=by simp only [OF]at α;omega
  rw [this,O4]at hm;show R (decide ((0:Int)<= -1)) _;rw [P9 (show ¬(0:Int)<= -1 by omega)];rw [P9 hm]at hR;exact hR
def IF {D:Nat->Prop}{w:World}{s n x nm:Nat}{o:List Nat}{l:Lv}{c0 c1 c4 vr:Value}(ι:Mk w s n)(h:gC D w vr o (ah D w l))(hD:∀g,D g->g≠s)(hsh:l.sh true=true)(huq:vi o l)(hnn:n+o.length+l.bvs.length<=4294967296)(κ:o.length+l.tot<=4294967296){R:Value->Sb}
  (hR:∀v' w' F' n',Km s w w'->Mk w' s n'->Rn n n' (o++l.bvs) (aI id x nm) F'->az (EX w) w' (o.map F',l.map F') v'->R v' w'):
  Sc 115 #[ptr s,.agg (List.toArray [c0,c1,iv x,vr,c4]),iv nm] w (aw [.v] R):=by
 refine kj (ptr s) _ nm w R ?_;dsimp only [go_sem];refine⟨_,rfl,λb5 H μ γ=>⟨λw'=>Kp H w' (λg=>g=s\/H.heap.size<=g),λw8 ν=>?_⟩⟩;have x6:Ex w H:=γ▸Ex.alloc w _;have s6:H.heap.size=w.heap.size+1:=by rw [γ,size_alloc]
 have x8:Ex H w8:=ν▸Ex.drew H;have s8:w8.heap.size=H.heap.size:=by rw [ν];rfl
 have ξ:=ι.lt;have ο:¬(b5=s\/H.heap.size<=b5):=λe=>by rcases e with e | e<;>omega
 have d3:H.cell? ⟨b5,3,none⟩=some vr:=by rw [γ,μ];exact aa rfl
 have d2:H.cell? ⟨b5,2,none⟩=some (iv x):=by rw [γ,μ];exact aa rfl
 have l5:b5< H.heap.size:=by omega
 refine⟨Kp.ab x8 _,s,0,rfl,vr,λw' k=>by rw [Ow (w:=H) (k.block b5 l5 ο)];exact d3,x,λw' k=>by rw [Ow (w:=H) (k.block b5 l5 ο)];exact d2,λδ ε ς J=>?_⟩;have ζ:Ex w8 ε:=J▸Ex.alloc w8 _;have s14:ε.heap.size=w8.heap.size+1:=by rw [J,size_alloc]
 have υ:IsMap ε δ (.int .i64) (eM []):=⟨#[],0,by rw [J,ς];unfold World.alloc;simp,⟨by simp,by simp,by simp⟩,by simp,λq=>rfl⟩
 refine⟨Kp.ab (Ex.trans x8 ζ) _,δ,_,rfl,υ,λZ φ G=>?_⟩;have θ:Kp ε Z (λg=>g=δ):=⟨G.os,G.tape,G.output,by rw [G.size];exact OB _,λg _ hg=>G.block g hg⟩
 have s17:=θ.size;have η:Kp H Z (λg=>g=s\/H.heap.size<=g):=Kp.trans (Kp.ab (Ex.trans x8 ζ) _) θ λg _ e=> .inr (by omega)
 have α:Ex w Z:=Ex.below (Ex.trans (Ex.trans x6 x8) ζ) (Kp.below θ (Ex.trans (Ex.trans x6 x8) ζ).size λg hg e=>by omega);refine⟨η,?_⟩;have χ:jM Z δ (aI id x nm):=pC (F:=id) (λz=> .inr ⟨rfl,rfl⟩) φ;have h':gC (λg=>D g/\g< w.heap.size) w vr o (ah (λg=>D g/\g< w.heap.size) w l):=az.sub (L:=(o,l)) h λg hg hd=>⟨hd,hg⟩
 refine AQ _ (OB _) hsh (gC.ex h' α) (λg hg e=>?_) huq (ι.ex α) χ (by omega) hnn κ λv18 w19 F' n' β ψ mf19 ω l19=>?_
 ·rcases e with e | e
  ·exact hD g hg.1 e
  ·omega
 ·have s19:=β.size;refine⟨Kp.trans η (Kp.mono (λg e=>e) β.kp) λg hg e=>e.elim .inl λe=> .inr (by omega),hR v18 w19 F' n' ⟨?_,λj hj=>?_,λj=>?_⟩ ψ ω (az.sub l19 λg _ hg=>by show w.heap.size<=g;have:Z.heap.size<=g:=hg;omega)⟩
  ·exact Kp.trans (Kp.ab α _) β.kp λg hg e=>e.elim id λe=>by omega
  ·rw [β.ce j hj,α.cell (show s< _ from ξ)]
  ·rw [β.fz j,Qr α ξ]
def Cg {X:Type}(P:Nat->Bool)(x:X):∀(l:List X) (k:Nat),iH P (l++[x]) k=iH P l k++if P (k+l.length)then []else [x]
 | [],k=>by rw [Pv,bN,gV];simp [gV]
 | y::l,k=>by
  rw [PC,bN,bN,Cg P x l (k+1),Ov,show k+1+l.length=k+(l.length+1) by omega];split<;>simp
def elsL:List Lv->Lv
 | []=> .nil
 | e::r=>e.app (elsL r)
def Cf:∀l m:List Lv,elsL (l++m)=(elsL l).app (elsL m)
 | [],m=>rfl
 | e::l,m=>by simp only [PC,elsL,Cf l m,Lv.cD]
def Gu (e:Lv):elsL [e]=e:=Lv.aY e
def tr {X:Type}{P:Nat->Bool}:∀{l:List X} {k:Nat} {x:X},x∈iH P l k->x∈l
 | [],k,x,h=>by rw [gV]at h;cases h
 | y::l,k,x,h=>by
  rw [bN]at h;split at h
  ·exact OJ _ (tr h)
  ·rcases OY.1 h with rfl | h
   ·exact Pb ..
   ·exact OJ _ (tr h)
def p7 {X:Type}(P:Nat->Bool):∀(l:List X) (k:Nat),(iH P l k).Sublist l
 | [],k=>by rw [gV];exact Pz _
 | y::l,k=>by
  rw [bN];split
  ·exact(p7 P l (k+1)).trans (List.sublist_cons_self ..)
  ·exact(p7 P l (k+1)).cons_cons y
def oS (l:List Lv):Nat:=(l.map Lv.tot).sum
def iD:∀l:List Lv,(elsL l).tot=oS l
 | []=>rfl
 | e::l=>by simp only [elsL,Lv.bQ,iD l,oS,O3,Py]
def vI {l m:List Lv}(h:l.Sublist m):oS l<=oS m:=by
 induction h with
 | slnil=>exact OB _
 | cons a _ G=>simp only [oS,O3,Py]at*;omega
 | cons_cons a _ G=>simp only [oS,O3,Py]at*;omega
def lG:∀l:Lv,elsL l.bw=l
 | .nil=>rfl
 | .thr k a b o r n=>by simp only [Lv.bw,elsL,lG n,Lv.app]
 | .sum ps n=>by simp only [Lv.bw,elsL,lG n,Lv.app]
 | .part o q n=>by simp only [Lv.bw,elsL,lG n,Lv.app]
def Ed {b:Bool}:∀{l:List Lv},(∀e∈l,e.sh b=true)->(elsL l).sh b=true
 | [],_=>by cases b<;>rfl
 | e::l,h=>Lv.gJ (h e (by simp)) (Ed λx G=>h x (by simp [G]))
def Jj:∀{l:Lv},l.sh true=true->∀e∈l.bw,e.sh true=true:=λ{l} h e he=>by
 rcases Lv.ku h e he with⟨k,a,b,o,r,rfl,hr⟩ | ⟨ps,rfl,G⟩
 ·simp only [Lv.sh,hr,P5]
 ·simp only [Lv.sh,G,P5]
def uE:∀{l:List (List Nat×Lv)},(∀x∈l,x.2.sh true=true)->(joinL l).2.sh true=true
 | [],_=>rfl
 | x::l,h=>Lv.gJ (h x (by simp)) (uE λy G=>h y (by simp [G]))
def lq:∀(l:List (List Nat×Lv)) (j:Nat),(joinL (l.take j)).1.length<=(joinL l).1.length/\(joinL (l.take j)).2.tot<=(joinL l).2.tot
 | [],j=>by simp [joinL]
 | x::l,0=>by simp [joinL,Lv.tot]
 | x::l,j+1=>by
  obtain⟨G,H⟩:=lq l j;simp only [RN,joinL,Oy,Lv.bQ];omega
def KP {D:Nat->Prop}{w:World}{s:Nat}{O:List Nat}{l:Lv}{vl vg vo vm:Value}{gl:List Nat}{ms:List (List Nat×Lv)}{mvs:List Value}(hcl:w.cell? ⟨s,2,none⟩=some vl)(hls:s< w.heap.size)(hl:az D w (O,l) vl)(H:dt D w vg (gl.map iv))(hgl:gl.length<=1000)(ho:dt D w vo (O.map iv))(hm:dt D w vm mvs)
  (hms:aO (λL v=>az D w L v) ms mvs) (hml:mvs.length<=1000) (hsh:l.sh true=true) (hmsh:∀x∈ms,x.2.sh true=true) (htot:O.length+(joinL ms).1.length+(l.tot+(joinL ms).2.tot)<=4294967295)
  {P:Nat->Bool} (hP:∀i,P i=decide (i∈gl)) {res:List Nat×Lv} (ν:res=(O++(joinL ms).1,(elsL (iH P l.bw 0)).app (joinL ms).2)) (huq:vi (Lv.tidy res.1 res.2).1 (Lv.tidy res.1 res.2).2) (hfr:∀x,x∉(Lv.tidy res.1 res.2).1->(Lv.tidy res.1 res.2).2.fh x->x< 26)
  {R:aD->Bool->Sb} (hR:∀w',Ex w w'->(∀s,Cr (Lv.tidy res.1 res.2)=some s->R s true w')/\(Cr (Lv.tidy res.1 res.2)=none->R [] false w')):
  Sc 114 #[ptr s,vg,vo,vm] w (aw [.s,.b] R):=by
 refine nC (ptr s) vg vo vm w R ?_;dsimp only [go_sem];dsimp only [go_sem,Nat.reduceAdd];refine tK ho (by omega) λv5 w6 x6 ho6=>⟨ho6.qh,λb7 w8 hb7 ξ=>?_⟩
 have x8':Ex w6 w8:=ξ▸Ex.alloc w6 _;have x8:=Ex.trans x6 x8';have s8:w8.heap.size=w6.heap.size+1:=by rw [ξ,size_alloc]
 have s6:=x6.size;have bd8:ke w.heap.size w8 b7 O [] λg=>g=b7\/v5.ownBlock=some g:=by
  refine⟨by omega,by omega,.inl rfl,λg H=>?_,λj=>?_,v5,.slice none 0 0,?_,?_,ho6.kp (Kp.ab x8' λ _=>False) (λ _ _ h=>h),aM.nil _ _ _,λg H=>⟨.inr H,?_⟩,λg H=>(by cases H),λg _ H=>(by cases H)⟩
  ·rcases H with rfl | H
   ·omega
   ·have :=ho6.block g H;omega
  ·rw [ξ,hb7];exact aU _ _ _ _
  ·rw [ξ,hb7];exact aa rfl
  ·rw [ξ,hb7];exact aa rfl
  ·have :=ho6.block g H;omega
 obtain⟨bl,vo',vt,ts,rfl,h2,h3,h4,h5,h6,h7,h8⟩:=az.sub (E:=λg=>g< w.heap.size) hl λg H _=>H
 obtain⟨at_,capt,hvt⟩:=h7.slice;have hlen:ts.length=l.len:=h8.len;have hel:=Lv.cM l;have hlt:=bS l;have ο:∀i,oS (iH P (l.bw.take i) 0)<=l.tot:=λi=>by
  have h1:=vI ((p7 P (l.bw.take i) 0).trans (List.take_sublist i l.bw));have h2:=iD l.bw;rw [lG]at h2;omega
 refine⟨s,0,rfl,ptr bl,by rw [x8.cell (show s< _ from hls)];exact hcl,bl,0,rfl,vt,by rw [x8.cell (show bl< _ from h3)];exact h5,at_,_,capt,hvt,λx w'=>∃(i:Nat) (α:List Value) (M:Nat->Prop),x=i/\i<=ts.length/\Ex w w'/\ke w.heap.size w' b7 O α M/\ah (λg=>g< w.heap.size) w' (elsL (iH P (l.bw.take i) 0)) α,
  λx _=>(ts.length - x).toNat,⟨0,[],_,rfl,Pn _,x8,bd8,by rw [List.take_zero,gV];rfl⟩,λx w21 hI=>?_⟩
 obtain⟨i,α,M,rfl,hi,η,J,β⟩:=hI;have hl1:α.length<=l.tot:=by
  have h1:=β.len;have h2:=bS (elsL (iH P (l.bw.take i) 0));rw [iD]at h2;have :=ο i;omega
 refine⟨λhlt1=>?_,λhge1=>?_⟩
 ·have θ:i< ts.length:=by simp only [OK]at hlt1;omega
  have hie:i< l.bw.length:=by omega
  obtain⟨bt,ot,G,hvt',hct⟩:∃bt ot G,vt= .slice (some ⟨bt,ot,none⟩) ts.length G/\w21.cell? ⟨bt,ot+i,none⟩=some ts[i]:=by
   rcases h7 with⟨_,h0⟩ | ⟨bt,ot,G,e,hbD,hb',γ⟩
   ·rw [h0]at θ;simp at θ
   ·exact⟨bt,ot,G,e,by rw [η.cell (show bt< _ from hb')];exact γ i _ (Ox θ)⟩
  obtain⟨e,he1,he2,he3⟩:=aO.single h8.bw (Ox θ);have he4:l.bw[i]=e:=by rw [Ox hie]at he1;exact Pr he1
  have hts:iH P (l.bw.take (i+1)) 0=iH P (l.bw.take i) 0++if P i then []else [e]:=by
   rw [OC hie,Cg,he4,O6,Pd,Qx (by omega)]
  refine⟨bt,ot,_,G,hvt',by omega,by omega,ts[i],by rw [OG,O8];exact hct,EU (H.ex η) (by omega) ?_⟩;have hPi:=hP i;refine⟨λhq=>?_,λhq=>⟨by omega,⟨i+1,α,M,by omega,by omega,η,J,?_⟩,tN (by omega)⟩⟩;rotate_left
  ·have hPt:P i=true:=by rw [hPi];cases h:decide (i∈gl)<;>first | rfl | (rw [h]at hq;cases hq)
   rw [hts,O' hPt,O5];exact β
  have hPt:P i=false:=by rw [hPi];cases h:decide (i∈gl)<;>first | rfl | (rw [h]at hq;cases hq)
  obtain⟨vo1,vt1,d0,d1,d2,d3,d4,d5,d6⟩:=J.sl;have ς:=he3.all;simp only [PQ,Rq,QL]at ς;refine⟨vt1,d1,ς,λb30 ι hb30 υ=>?_⟩;have φ:Ex w21 ι:=υ▸Ex.alloc w21 _;have s31:ι.heap.size=w21.heap.size+1:=by rw [υ,size_alloc]
  have s21:=η.size;have χ:=J.ex φ;refine aM.push (d3.kp (Kp.ab φ λ _=>False) λ _ _ h=>h) (by omega) (m:=[ts[i]]) (D:=λ _=>True) (.inr ⟨b30,0,1,rfl,trivial,by omega,λi' y hy=>?_⟩) (by simp only [PQ,Rq,QL];exact ς) (by omega) (by simp only [Ov,ON];omega) λv37 w38 ho38 hg38 hn38=>?_
  ·cases i' with
   | zero=>simp only [PN,PJ]at hy;subst hy;rw [υ,hb30];exact aa rfl
   | succ i=>simp at hy
  have k38:Kp ι w38 λg=>vt1.ownBlock=some g:=Kp.aP hg38 λ _ h=>h
  have e7:=k38.block b7 χ.lt λe=>(d5 b7 e).2 rfl
  have c71:ι.cell? ⟨b7,1,none⟩=some vt1:=by rw [φ.cell (show b7< _ from J.lt)];exact d1
  refine⟨ho38.qh,⟨⟨vt1,by rw [Ow (w:=ι) e7];exact c71⟩,by rw [O7 (w:=ι) e7];exact χ.fr 1⟩,λw40 hw40=>⟨by omega,?_,tN (by omega)⟩⟩;obtain⟨bd40,k40⟩:=χ.No c71 k38 ho38 hn38 hw40;have ψ:=Ex.trans η φ;have x40:Ex w w40:=Ex.below ψ (Kp.below k40 ψ.size λg H hM=>by have :=(J.mr g hM).1;omega);refine⟨i+1,α++[ts[i]],_,by omega,by omega,x40,bd40,?_⟩;rw [hts,OP (by rw [hPt];simp),Cf,Gu];exact ah.app (ah.kp k40 (λg H hM=>by have :=(J.mr g hM).1;omega) (ah.ex β φ)) (ah.ex he3 x40)
 ·have θ:i=l.bw.length:=by simp only [OF]at hge1;omega
  rw [θ,O4]at β;obtain⟨am,capm,hvm⟩:=hm.slice;have hl2:α.length<=l.tot:=hl1;have hmsl:=hms.1;refine⟨am,_,capm,hvm,λx w'=>∃(j:Nat) (ts2:List Value) (M2:Nat->Prop),x=j/\j<=mvs.length/\Ex w w'/\ke w.heap.size w' b7 (O++(joinL (ms.take j)).1) ts2 M2/\ah (λg=>g< w.heap.size) w' ((elsL (iH P l.bw 0)).app (joinL (ms.take j)).2) ts2,λx _=>(mvs.length - x).toNat,⟨0,α,M,rfl,Pn _,η,by simpa [joinL]using J,by simpa [joinL,Lv.aY]using β⟩,λx ω hI=>?_⟩;obtain⟨j,ts2,M2,rfl,hj,κ,Z,ζ⟩:=hI;refine⟨λhlt2=>?_,λhge2=>?_⟩
  ·have μ:j< mvs.length:=by simp only [OK]at hlt2;omega
   obtain⟨bm,om,δ,hvm',hcm⟩:∃bm om δ,vm= .slice (some ⟨bm,om,none⟩) mvs.length δ/\ω.cell? ⟨bm,om+j,none⟩=some mvs[j]:=by
    rcases hm with⟨_,h0⟩ | ⟨bt,ot,G,e,hbD,hb',γ⟩
    ·rw [h0]at μ;simp at μ
    ·exact⟨bt,ot,G,e,by rw [κ.cell (show bt< _ from hb')];exact γ j _ (Ox μ)⟩
   obtain⟨L,hL1,hL2,hL3⟩:=aO.single hms (Ox μ);have hjm:j< ms.length:=by omega
   have hL4:ms[j]=L:=by rw [Ox hjm]at hL1;exact Pr hL1
   have ε:joinL (ms.take (j+1))=((joinL (ms.take j)).1++L.1,(joinL (ms.take j)).2.app L.2):=by
    rw [OC hjm,mQ,hL4,jO]
   obtain⟨k1,k2⟩:=lq ms (j+1);rw [ε]at k1 k2;simp only [Oy,Lv.bQ]at k1 k2;obtain⟨ts3,hl3,ht3⟩:=az.ths (az.ex (az.sub (E:=λg=>g< w.heap.size) hL3 λg H _=>H) κ);have h47:=ζ.len;have h47':=bS ((elsL (iH P l.bw 0)).app (joinL (ms.take j)).2);rw [Lv.bQ,iD]at h47';have hp:=ο l.bw.length;rw [O4]at hp;have h3l:=ht3.len;have h3t:=bS L.2;refine⟨bm,om,_,δ,hvm',by omega,by omega,mvs[j],by rw [OG,O8];exact hcm,qd Z κ.size hl3 ht3.all (λg H hM=>by have :=(Z.mr g hM).1;omega) ⟨by simp only [Oy];omega,by omega⟩ λw53 M3 k53 bd53 _=>⟨by omega,?_,tN (by omega)⟩⟩;have x53:Ex w w53:=Ex.below κ (Kp.below k53 κ.size λg H hM=>by have :=(Z.mr g hM).1;omega);refine⟨j+1,ts2++ts3,M3,by omega,by omega,x53,?_,?_⟩
   ·rw [ε,<-Pe];exact bd53
   ·rw [ε,<-Lv.cD];exact ah.app (ah.kp k53 (λg H hM=>by have :=(Z.mr g hM).1;omega) ζ) (ah.kp k53 (λg H hM=>by have :=(Z.mr g hM).1;omega) ht3)
  ·have μ:j=ms.length:=by simp only [OF]at hge2;omega
   rw [μ,O4]at Z ζ;have hp:=ο l.bw.length;rw [O4]at hp;have hLv:gC (λg=>g< ω.heap.size) ω (ptr b7) res.1 (ah (λg=>g< ω.heap.size) ω res.2):=by
    rw [ν];exact Z.Nc (λg H _=>H) (ah.sub (λg H _=>H) ζ)
   refine rW hLv ?_ ?_ huq hfr λw56 x56=>hR w56 (Ex.trans κ x56)
   ·rw [ν];exact Lv.gJ (Ed λe he=>Jj hsh e (tr he)) (uE hmsh)
   ·rw [ν];simp only [Oy,Lv.bQ,iD];omega
section
open T
structure Le (O:List Nat)(F:List UInt8)(p:P)(q:U):Prop where
 ae:AE UInt8.toNat p (λz=>(asg O F ρ0 z).toNat) q
 wf:p.wf=true
 eb:Eb 0 p
 fr:∀z,q.Fr z->z∈O\/(z< 26/\ρ0 z∉F)
def El {z:Nat}(h:z< 26):lt (ρ0 z)=true:=tV (by rw [dA h];unfold σ0;omega)
def AE.LU {ρ:UInt8->Nat}{σ:Nat->Nat}:∀{ps:List P} {us:List U},eg (λp q=>AE ρ p σ q) ps us->AE ρ (T.parL ps) σ (T.parL us)
 | [],[],_=>trivial
 | [p],[q],.cons h _=>h
 | p::G::ps,q::H::us,.cons h k=>⟨h,AE.LU k⟩
def eg.mono {X Y:Type}{R S:X->Y->Prop}(G:∀x y,R x y->S x y){l:List X}{m:List Y}(h:eg R l m):eg S l m:=by
 induction h with
 | nil=>exact .nil
 | cons h _ H=>exact .cons (G _ _ h) H
def eg.Jq {X Y:Type}{R:X->Y->Prop}{l:List X}{m:List Y}(h:eg R l m){x:X}(G:x∈l):∃y∈m,R x y:=by
 induction h with
 | nil=>cases G
 | cons h _ H=>
  rcases OY.1 G with rfl | G
  ·exact⟨_,Pb ..,h⟩
  ·obtain⟨y,J,Z⟩:=H G;exact⟨y,OJ _ J,Z⟩
def eg.sO {X Y:Type}{R:X->Y->Prop}{l:List X}{m:List Y}(h:eg R l m){y:Y}(G:y∈m):∃x∈l,R x y:=by
 induction h with
 | nil=>cases G
 | cons h _ H=>
  rcases OY.1 G with rfl | G
  ·exact⟨_,Pb ..,h⟩
  ·obtain⟨y,J,Z⟩:=H G;exact⟨y,OJ _ J,Z⟩
def Au:∀{l:List P},(∀p∈l,p.wf=true)->(parL l).wf=true
 | [],_=>rfl
 | [p],h=>h p (by simp)
 | p::q::l,h=>by
  have G:=Au (l:=q::l) λx H=>h x (OJ _ H)
  simp only [parL,wf,OA];exact⟨h p (by simp),G⟩
def ze {p:P}(G:p.wf=true):∀{l:List UInt8},(∀c∈l,lt c=true)->(resL l p).wf=true
 | [],_=>G
 | c::l,h=>by
  simp only [resL,wf,OA];exact⟨fT (h c (by simp)),ze G λx H=>h x (OJ _ H)⟩
def zu {k:Nat}:∀{l:List P},(∀p∈l,Eb k p)->Eb k (parL l)
 | [],_=>trivial
 | [p],h=>h p (by simp)
 | p::q::l,h=>⟨h p (by simp),zu (l:=q::l) λx G=>h x (OJ _ G)⟩
def oM {c:UInt8}(h:lt c=true)(k:Nat):okn k c:=by have :=a7 h;unfold okn;omega
def Eo {p:P}(H:∀z,p.Fr z->lt z=true):∀{l:List UInt8} {k:Nat},Eb k p->(∀c∈l,lt c=true)->Eb k (resL l p)
 | [],_,G,_=>G
 | c::l,k,G,h=>by
  refine⟨⟨nZ (h c (by simp)),λz J _=>oM (H z (cy.1 J).2) k⟩,Eo H (G.mono (by omega)) λx Z=>h x (OJ _ Z)⟩
def tX {A:Type}(p:T A):∀l:List A,(resL l p).rd=p.rd/\(resL l p).ow=l.length+p.ow/\(resL l p).size=l.length+p.size/\(resL l p).aJ=3* l.length+p.aJ
 | []=>by simp [resL]
 | c::l=>by
  obtain⟨G,H,J,h4⟩:=tX p l;simp only [resL,rd,ow,size,aJ,Ov];refine⟨G,?_,?_,?_⟩<;>omega
def zE {A:Type}(p:T A):∀l:List A,(resL l p).pm=l.length+p.pm
 | []=>by simp [resL]
 | c::l=>by simp only [resL,pm,zE p l,Ov];omega
def zc {A:Type}{R:Nat}:∀{l:List (T A)},(∀p∈l,p.rd+p.ow<=R)->(parL l).pm<=R
 | [],_=>Pn _
 | [p],h=>Pq (gh p) (h p (by simp))
 | p::q::l,h=>by
  have H:=zc (l:=q::l) λx G=>h x (OJ _ G)
  have J:=Pq (gh p) (h p (by simp));simp only [parL,pm];omega
def B9 {t p:U}:∀{l:List Nat},t∈(an (resL l p)).2->t∈(an p).2
 | [],h=>h
 | _::l,h=>B9 (l:=l) h
def BR {t:U}:∀{l:List U},t∈(an (parL l)).2->∃x∈l,t∈(an x).2
 | [],h=>by cases h
 | [p],h=>⟨p,by simp,h⟩
 | p::q::l,h=>by
  rcases OH.1 h with h | h
  ·exact⟨p,by simp,h⟩
  ·obtain⟨x,G,H⟩:=BR (l:=q::l) h;exact⟨x,OJ _ G,H⟩
def En {O:List Nat}{us:List U}(H:(resL O (parL us)).ow<=64)(h:∀x∈us,x.rd+x.ow<=59):Lb 0 (resL O (parL us)):=⟨H,λZ t G=>by
 obtain⟨x,J,G⟩:=BR (B9 G);have :=DP x t G;have :=h x J;omega⟩
def B6 {O:List Nat}{F:List UInt8}(hl:O.length=F.length)(hF:F.Nodup)(α:∀c∈F,lt c=true)(ho:∀x∈O,26<=x){ps:List P}{us:List U}(h:eg (Le O F) ps us)(nd:(O++us.flatMap BV).Nodup)(bv:∀x∈us.flatMap BV,26<=x)
  (hb:∀p∈ps,F.length+p.rd+p.ow<=59) (ι:F.length+(parL ps).ow<=64) (ν:(parL ps).aJ<=1000000000) (ξ:F.length<=300):gB 0 (resL F (parL ps)) σ0 (resL O (parL us)):=by
 have H:∀z,(resL O (parL us)).Fr z->z< 26/\ρ0 z∉F:=λz J=>by
  obtain⟨h1,h2⟩:=cy.1 J;obtain⟨q,hq,β⟩:=eK.1 h2;obtain⟨p,Z,γ⟩:=h.sO hq;exact(γ.fr z β).resolve_left h1
 have δ:AE UInt8.toNat (parL ps) (λz=>(asg O F ρ0 z).toNat) (parL us):=AE.LU (h.mono λp q k=>k.ae);have κ:AE UInt8.toNat (resL F (parL ps)) (λz=>(ρ0 z).toNat) (resL O (parL us)):=AE.D6 O F ρ0 hl hF (λz J G=>(H z (cy.2 ⟨G,J⟩)).2) δ;have ae:AE UInt8.toNat (resL F (parL ps)) σ0 (resL O (parL us)):=κ.congr (λ _ _=>rfl) λz J=>dA (H z J).1
 have ε:∀c,(parL ps).Fr c->lt c=true:=λc hc=>by
  obtain⟨z,J,e⟩:=δ.free c hc;have e:=OU.1 e;obtain⟨q,hq,β⟩:=eK.1 J;obtain⟨p,Z,γ⟩:=h.sO hq;by_cases G:z∈O
  ·rw [<-e];exact α _ (dC O F ρ0 z G hl)
  ·rw [<-e,bB _ _ _ _ G];exact El ((γ.fr z β).resolve_left G).1
 have ζ:BV (resL O (parL us))=O++us.flatMap BV:=by rw [cQ,cP]
 have η:∀x∈BV (resL O (parL us)),26<=x:=λx hx=>by
  rw [ζ]at hx;exact(OH.1 hx).elim (ho x) (bv x)
 have θ:Uq (resL O (parL us)):=⟨by rw [ζ];exact nd,λx hx hf=>by have :=η x hx;have :=(H x hf).1;omega⟩
 obtain⟨k1,k2,k3,k4⟩:=tX (parL ps) F;have μ:(resL F (parL ps)).wf=true:=ze (Au λp Z=>by obtain⟨q,_,k⟩:=h.Jq Z;exact k.wf) α;refine⟨⟨μ,by rw [aQ,k4];omega,⟨Eo ε (zu λp Z=>by obtain⟨q,_,k⟩:=h.Jq Z;exact k.eb) α,by have :=zc (R:=64 - F.length) (l:=ps) λp Z=>(by have :=hb p Z;omega);rw [zE];omega⟩,ae,λy z _ _ e=>by unfold σ0 at e;omega,θ⟩,λz J hG=>?_,⟨θ,λy hy=>(H y (bj hy)).1,η⟩,λ _ _=>rfl,En (by rw [qs ae,k2];exact ι) λq hq=>?_⟩;rotate_left
 ·obtain⟨p,Z,k⟩:=h.sO hq;have :=hb p Z;rw [Et k.ae,qs k.ae];omega
 have :=ε z (cy.1 J).2;exact absurd hG (dW (nZ this))
def NA:∀{u:U},Uq u->u.Nr->cT u=u.ow/\(u.dead=false->thAll (tp u.mW)=u.ow):=by
 intro u;have one:∀{u:U},u.isS=false->cT u=u.ow->cT u=u.ow/\(u.dead=false->thAll (tp u.mW)=u.ow):=λ{u} hs h=>⟨h,λ _=>by rw [gR hs];simp only [tp,thAll,QR];exact h⟩
 have all:∀{u:U},Uq u->u.Nr->cT u=u.frL.length+thAll (tl u.ths):=λ{u} G n=>by unfold cT;rw [eR G n]
 induction u with
 | nil=>intro G n;exact one rfl (by rw [all G n];rfl)
 | snd a b p H=>intro G n;exact one rfl (by rw [all G n];have :=(H G.snd n).1;unfold cT at this;simp only [frL,T.ths,tl,thAll,ON,ow];omega)
 | rcv a b p H=>intro G n;exact one rfl (by rw [all G n];have :=(H G.rcv n).1;unfold cT at this;simp only [frL,T.ths,tl,thAll,ON,ow];omega)
 | tau p H=>intro G n;exact one rfl (by rw [all G n];have :=(H G.tau n).1;unfold cT at this;simp only [frL,T.ths,tl,thAll,ON,ow];omega)
 | mat a b p H=>intro G n;exact one rfl (by rw [all G n];have :=(H G.mat n.2).1;unfold cT at this;simp only [frL,T.ths,tl,thAll,ON,ow];omega)
 | rep p H=>intro G n;exact one rfl (by rw [all G n];have :=(H G.rep n.2).1;unfold cT at this;simp only [frL,T.ths,tl,thAll,ON,ow];omega)
 | res x p H=>intro G n;exact one rfl (by rw [all G n];have :=(H G.res n.2).1;rw [all G.res n.2]at this;simp only [frL,T.ths,Ov,ow];omega)
 | par p q H J=>
  intro G n;refine one rfl ?_;have Z:=(H G.gP n.2.1).1;have h2:=(J G.ga n.2.2).1;have h0:q.frL=[]:=by
   rcases n.1.2 with h | h
   ·exact gD h
   ·cases q<;>first | rfl | (cases h;done)
  rw [all G.ga n.2.2,h0]at h2;rw [all G.gP n.2.1,gD n.1.1,j5 n.1.1]at Z;rw [all G n];simp only [frL,T.ths,ow,ON]at*;rw [show p::q.ths=[p]++q.ths from rfl,eU,cd];omega
 | sum p q H J=>
  intro G n;have Z:=(H G.eJ n.2.1).2 n.1.1;have h2:=(J G.dX n.2.2).2 n.1.2.1;have h3:thAll (tp (T.sum p q).mW)=(T.sum p q).ow:=by
   rw [gR n.1.2.2]at Z;simp only [T.mW,ow];rw [show p::q.mW=[p]++q.mW from rfl,uY,cd,Z,h2]
  refine⟨?_,λ _=>h3⟩;rw [all G n,<-h3];simp only [frL,T.ths,tl,thAll,ON,T.mW];rw [eO G.eJ n.2.1 n.1.1,eO G.dX n.2.2 n.1.2.1,gR n.1.2.2];simp
def fg {A B:Type}[DecidableEq A][DecidableEq B]:∀{p:T A} {q:T B} {ρ:A->Nat} {σ:B->Nat},AE ρ p σ q->p.ow=q.ow/\p.rd=q.rd/\p.size=q.size:=by
 intro p
 induction p with
 | nil=>intro q ρ σ h;cases q<;>first | exact⟨rfl,rfl,rfl⟩ | cases h
 | snd a b p G=>intro q ρ σ h;cases q<;>first | (have :=G h.2.2;simp only [ow,rd,size];omega) | cases h
 | mat a b p G=>intro q ρ σ h;cases q<;>first | (have :=G h.2.2;simp only [ow,rd,size];omega) | cases h
 | rcv a b p G=>intro q ρ σ h;cases q<;>first | (have :=G (h.2 0);simp only [ow,rd,size];omega) | cases h
 | res b p G=>intro q ρ σ h;cases q<;>first | (have :=G (h 0);simp only [ow,rd,size];omega) | cases h
 | tau p G=>intro q ρ σ h;cases q<;>first | (have :=G h;simp only [ow,rd,size];omega) | cases h
 | rep p G=>intro q ρ σ h;cases q<;>first | (have :=G h;simp only [ow,rd,size];omega) | cases h
 | sum p J G H=>intro q ρ σ h;cases q<;>first | (have :=G h.1;have :=H h.2;simp only [ow,rd,size];omega) | cases h
 | par p J G H=>intro q ρ σ h;cases q<;>first | (have :=G h.1;have :=H h.2;simp only [ow,rd,size];omega) | cases h
def bX {A:Type}:∀p:T A,p.rd+p.ow+1<=p.size:=by
 intro p
 induction p<;>simp only [rd,ow,size]<;>omega
def HN {A:Type}:∀{p:T A},(∃a b r,Off.snd a b r∈offs p)->p.rd+p.ow+2<=p.size:=by
 intro p
 induction p with
 | snd a b p=>intro _;have :=bX p;simp only [rd,ow,size];omega
 | sum p q G H=>
  rintro⟨a,b,r,h⟩
  rw [offs,OH]at h;have Z:=bX p;have J:=bX q;simp only [rd,ow,size];rcases h with h | h
  ·have :=G ⟨a,b,r,h⟩;omega
  ·have :=H ⟨a,b,r,h⟩;omega
 | rep p G=>
  rintro⟨a,b,r,h⟩
  obtain⟨o,Z,J⟩:=Pf.1 h;have:o= .snd a b r:=by cases o<;>simp [Off.stay]at J;simp [J]
  have :=G ⟨a,b,r,this▸Z⟩;simp only [rd,ow,size];omega
 | _=>rintro⟨a,b,r,h⟩;simp [offs]at h
def dx {A:Type}(l:List (T A)):Nat:=(l.map T.ow).sum
def jq {A:Type}(l:List (T A)):Nat:=(l.map T.size).sum
def si {A:Type}(l:List (T A)):Nat:=(l.map T.rd).sum
def cF {A:Type}(l:List (T A)):Nat:=(l.map T.aJ).sum
def fw {A:Type}:∀(l:List (T A)),(parL l).ow=dx l/\(l≠[]->jq l+l.length<=(parL l).size+1)/\(parL l).rd<=si l/\(parL l).aJ<=cF l+3* l.length+1/\∀R,(∀p∈l,p.rd<=R)->(parL l).rd<=R
 | []=>by simp [parL,dx,jq,si,cF,ow,rd,aJ]
 | [p]=>by simp [parL,dx,jq,si,cF];omega
 | p::q::l=>by
  obtain⟨J,G,Z,h4,h5⟩:=fw (q::l);have G:=G (by simp);simp only [parL,ow,size,rd,aJ,dx,jq,si,cF,O3,Py,Ov]at*;refine⟨by omega,λ _=>by omega,by omega,by omega,λR hR=>?_⟩;have :=h5 R λx H=>hR x (OJ _ H)
  have :=hR p (by simp);omega
structure SU (t:P)(u:U):Prop where
 nr:u.Nr
 nu:Nu u
 fr:∀z,u.Fr z->z< 26
 ae:AE UInt8.toNat t (λy=>(ρ0 y).toNat) u
 len:u.frL.length=t.frL.length
 two:eg (λp q=>AE UInt8.toNat p (λz=>(asg u.frL t.frL ρ0 z).toNat) q) t.ths u.ths
 fn:t.frL.Nodup
 fl:∀c∈t.frL,lt c=true
 free:∀z,(∃q∈u.ths,q.Fr z)->z∈u.frL\/(z< 26/\ρ0 z∉t.frL)
 nd:(u.frL++u.ths.flatMap BV).Nodup
 ge:∀x∈u.frL++u.ths.flatMap BV,26<=x
 smp:∀q∈u.ths,q.smp=true
 smpP:∀q∈t.ths,q.smp=true
 nrs:∀q∈u.ths,q.Nr
 al:∀p∈t.ths,p.Al λc=>lt c=true
def EC {A:Type}:∀{t:T A},t.smp=true->∀q∈t.ths,q.smp=true:=by
 intro t
 induction t with
 | nil=>intro _ q h;cases h
 | res x p H=>intro h;exact H h
 | par p q H G=>
  intro h r hr;simp only [smp,OA]at h;rcases OY.1 hr with rfl | hr
  ·exact h.1
  ·exact G h.2 r hr
 | _=>intro h q J;cases OL.1 J;exact h
def LC {A:Type}{D:A->Prop}:∀{t:T A},t.Al D->(∀q∈t.ths,q.Al D)/\∀c∈t.frL,D c:=by
 intro t
 induction t with
 | nil=>intro _;exact⟨λq h=>(by cases h),λc h=>(by cases h)⟩
 | res x p J=>
  intro h;obtain⟨Z,h2⟩:=J h.2;exact⟨Z,λc G=>(OY.1 G).elim (λe=>e▸h.1) (h2 c)⟩
 | par p q J H=>
  intro h;refine⟨λr hr=>?_,λc G=>(by cases G)⟩;rcases OY.1 hr with rfl | hr
  ·exact h.1
  ·exact(H h.2).1 r hr
 | _=>intro h;exact⟨λq hq=>(by cases OL.1 hq;exact h),λc G=>(by cases G)⟩
def fS.su {t:P}(ok:fS t):SU t (num t e0 0).1:=by
 have nu:=ma ok.al;have H:=lH ok.al;have G:=J2 ok.al;have ae:AE UInt8.toNat t (λy=>(ρ0 y).toNat) (num t e0 0).1:=H.congr (λ _ _=>rfl) λy hy=>(dA (G y hy)).symm
 have nr:(num t e0 0).1.Nr:=AE.nr H (fy t) (λy z _ _ e=>by unfold σ0 at e;omega) ok.nr;obtain⟨hl,J⟩:=ae.open ok.nr;have Z:=nr.shape;have α:=ok.nr.shape;have β:BV (num t e0 0).1=(num t e0 0).1.frL++(num t e0 0).1.ths.flatMap BV:=by
  have:BV (num t e0 0).1=BV (resL (num t e0 0).1.frL (parL (num t e0 0).1.ths)):=by rw [<-Z]
  rw [this,cQ,cP]
 obtain⟨ε,ζ⟩:=LC ok.al;refine⟨nr,nu,G,ae,hl.symm,J,(ok.nr.GZ).1,ζ,λz ⟨q,hq,hz⟩=>?_,by rw [<-β];exact nu.uq.nd,λx hx=>nu.bv x (by rw [β];exact hx),EC (by rw [<-vV ae];exact ok.smp),EC ok.smp,λq hq=>(nr.ths q hq).2,ε⟩;by_cases γ:z∈(num t e0 0).1.frL
 ·exact .inl γ
 ·right;have δ:(num t e0 0).1.Fr z:=by rw [Z];exact cy.2 ⟨γ,eK.2 ⟨q,hq,hz⟩⟩
  refine⟨G z δ,λhF=>?_⟩;obtain⟨c,hc,e⟩:=ae.symm.free z δ;have e:=OU.1 e;rw [α]at hc;have :=(cy.1 hc).1;rw [e]at this;exact this hF
section
variable {t:P} {u:U}
def SU.inj (su:SU t u){z y:Nat}(Z:∃q∈u.ths,q.Fr z)(hy:∃q∈u.ths,q.Fr y)(e:asg u.frL t.frL ρ0 z=asg u.frL t.frL ρ0 y):z=y:=by
 by_cases G:z∈u.frL<;>by_cases H:y∈u.frL
 ·exact tE u.frL t.frL ρ0 z y G H su.len su.fn e
 ·have J:=dC u.frL t.frL ρ0 z G su.len;rw [e,bB _ _ _ _ H]at J;exact absurd J ((su.free y hy).resolve_left H).2
 ·have J:=dC u.frL t.frL ρ0 y H su.len;rw [<-e,bB _ _ _ _ G]at J;exact absurd J ((su.free z Z).resolve_left G).2
 ·rw [bB _ _ _ _ G,bB _ _ _ _ H]at e;have k1:=((su.free z Z).resolve_left G).1;have k2:=((su.free y hy).resolve_left H).1;have :=PA UInt8.toNat e;rw [dA k1,dA k2]at this;unfold σ0 at this;omega
def SU.MO (su:SU t u):eg (Le u.frL t.frL) t.ths u.ths:=by
 have key:∀{ps:List P} {us:List U},eg (λp q=>AE UInt8.toNat p (λz=>(asg u.frL t.frL ρ0 z).toNat) q) ps us->(∀p∈ps,p∈t.ths)->(∀q∈us,q∈u.ths)->eg (Le u.frL t.frL) ps us:=by
  intro ps us h
  induction h with
  | nil=>intro _ _;exact .nil
  | cons h _ J=>
   intro G H;have ha:=su.al _ (G _ (Pb ..));refine .cons ⟨h,T.Al.wf ha,T.Al.eb 0 ha,λz Z=>su.free z ⟨_,H _ (Pb ..),Z⟩⟩ (J (λp hp=>G p (OJ _ hp)) λq hq=>H q (OJ _ hq))
 exact key su.two (λ _ h=>h) λ _ h=>h
def aZ {X:Type}{l m:List X}(h:l.Perm m)(g:X->Nat):(l.map g).sum=(m.map g).sum:=jF (h.map g)
def count_flatMap {X:Type}(g:X->List Nat)(x:Nat):∀l:List X,(l.flatMap g).count x=(l.map λy=>(g y).count x).sum
 | []=>rfl
 | y::l=>by simp only [PE,Pp,O3,Py,count_flatMap g x l]
def fS.A9 (ok:fS t):t.frL.length+dx t.ths=t.ow/\t.rd=(parL t.ths).rd/\(t.ths≠[]->t.frL.length+jq t.ths+t.ths.length<=t.size+1)/\t.frL.length+3* t.frL.length+t.ths.length<=400/\cF t.ths<=400/\t.ow<=8:=by
 have hs:=ok.nr.shape;obtain⟨H,h2,h3,h4⟩:=tX (parL t.ths) t.frL;obtain⟨k1,k2,k3,k4,_⟩:=fw t.ths;rw [<-hs]at H h2 h3 h4;have hlen:=ok.len;rw [aQ,h4]at hlen;have α:=ok.size;have G:∀l:List P,cF l<=(parL l).aJ/\l.length<=(parL l).aJ:=λl=>by
  have:∀l:List P,cF l+3* l.length<=(parL l).aJ+3:=by
   intro l
   induction l with
   | nil=>simp [cF,parL,T.aJ]
   | cons p l ih=>
    cases l with
    | nil=>simp [cF,parL]
    | cons q l=>
     simp only [parL,T.aJ,cF,O3,Py,Ov]at ih|-;omega
  have H:∀p:P,1<=p.aJ:=λp=>by cases p<;>simp only [T.aJ]<;>omega
  cases l with
  | nil=>simp [cF]
  | cons p l=>
   have k1:=this (p::l);have k2:=H p;have k3:1<=cF (p::l):=by simp only [cF,O3,Py];omega
   have k4:1<=(p::l).length:=by simp
   omega
 have J:t.ow<=8:=by
  have su:=ok.su;have :=(NA su.nu.uq su.nr).1;have h8:=ok.all;have h9:=(fg su.ae).1;omega
 refine⟨by rw [h2,k1],H,λZ=>by have :=k2 Z;omega,?_,?_,J⟩
 ·have :=(G t.ths).2;omega
 ·have :=(G t.ths).1;omega
def SU.cnt (su:SU t u)(x:Nat):u.frL.count x+(u.ths.map λy=>(BV y).count x).sum<=1:=by
 have G:=Qn.1 su.nd x;rw [Pp,count_flatMap]at G;exact G
def ch {A:Type}:∀p:T A,p.aJ<=5* p.size:=by intro p;induction p<;>simp only [aJ,size]<;>omega
def Kg {A:Type}:∀l:List (T A),∀x∈l,x.rd<=(parL l).rd:=by
 intro l
 induction l with
 | nil=>intro x h;cases h
 | cons p l H=>
  intro x G;cases l with
  | nil=>cases OL.1 G;exact OB _
  | cons q l=>
   simp only [parL,T.rd];rcases OY.1 G with rfl | G
   ·exact Nat.le_max_left _ _
   ·exact Pq (H x G) (Nat.le_max_right _ _)
def fS.th (ok:fS t){x:P}(G:x∈t.ths):t.frL.length+x.rd+x.ow<=59:=by
 obtain⟨_,_,H,_⟩:=ok.A9;have H:=H (λe=>by rw [e]at G;cases G);have J:=ok.size;have :=bX x;have Z:x.size<=jq t.ths:=mo (Pf.2 ⟨_,G,rfl⟩);have :=List.length_pos_of_mem G;omega
def one_den (ok:fS t)(su:SU t u){i:Nat}(hi:i< t.ths.length)(α:i< u.ths.length){o:Off UInt8}{o':Off Nat}{p:P}{J:U}(ho:o∈offs t.ths[i])(ζ:o'∈offs u.ths[i])(hp:p.rd<=o.tm.rd/\p.ow<=o.tm.ow/\p.size<=o.tm.size)(al:p.Al λc=>lt c=true)
  (η:AE UInt8.toNat p (λz=>(asg u.frL t.frL ρ0 z).toNat) J) (θ:∀z,J.Fr z->∃q∈u.ths,q.Fr z) (ι:(BV J).Sublist (BV o'.tm)) (κ:u.ths[i].smp=true->J.smp=true):
  gB 0 (resL t.frL (parL (wo t.ths i i++[p]))) σ0 (resL u.frL (parL (wo u.ths i i++[J])))/\(resL u.frL (parL (wo u.ths i i++[J]))).smp=true:=by
 have β:=Oz hi;have γ:=Oz α;obtain⟨sP,_⟩:=aC (su.smpP _ β) _ ho;have bU:=ι.trans (ck _ ζ);have G:=oy t.ths i hi;have Z:=oy u.ths i α;obtain⟨n1,n2,n3,n4,n5,n6⟩:=ok.A9;have ν:=ok.size;obtain⟨k1,k2,k3,k4,k5⟩:=fw (wo t.ths i i++[p]);have δ:=G.length_eq;have so:=aZ G T.ow;have ss:=aZ G T.size;have st:=aZ G T.aJ;simp only [O3,Py,Ov]at so ss st δ;have s1:=sP.ow;have s2:=sP.size;have s3:=sP.rd;have ξ:=ch p;have μ:t.ths≠[]:=λe=>by rw [e]at hi;cases hi
 have n3:=n3 μ;have ο:=ok.th β;simp only [dx,jq,cF,si,Pm,Ra,O3,Qf,Py,List.sum_nil,Oy,Ov,ON]at*;refine⟨B6 su.len su.fn su.fl (λx H=>su.ge x (O9 _ H)) (us:=wo u.ths i i++[J]) ?_ ?_ ?_ (λx H=>?_) ?_ ?_ ?_,?_⟩
 ·exact(su.MO.wo i i).app (.cons ⟨η,T.Al.wf al,T.Al.eb 0 al,λz hz=>su.free z (θ z hz)⟩ .nil)
 ·rw [Qn];intro x;have h1:u.frL.count x+(u.ths.map λy=>(BV y).count x).sum<=1:=su.cnt x;have h2:(BV J).count x<=(BV u.ths[i]).count x:=bU.count_le x;have h3:(u.ths.map λy=>(BV y).count x).sum=(BV u.ths[i]).count x+((wo u.ths i i).map λy=>(BV y).count x).sum:=by
   have :=aZ Z λy=>(BV y).count x
   simpa only [O3,Py]using this
  have h4:(u.frL++(wo u.ths i i++[J]).flatMap BV).count x=u.frL.count x+(((wo u.ths i i).map λy=>(BV y).count x).sum+(BV J).count x):=by
   rw [Pp,count_flatMap];simp
  have:u.frL.count x+(((wo u.ths i i).map λy=>(BV y).count x).sum+(BV J).count x)<=1:=by omega
  exact Pq (Nat.le_of_eq h4) this
 ·intro x H;refine su.ge x (O0 _ ?_);obtain⟨q,hq,ε⟩:=Pk.1 H;rcases OH.1 hq with hq | hq
  ·exact Pk.2 ⟨q,ct hq,ε⟩
  ·rw [OL]at hq;subst hq;exact Pk.2 ⟨_,γ,bU.subset ε⟩
 ·rcases OH.1 H with H | H
  ·exact ok.th (ct H)
  ·rw [OL]at H;subst H;omega
 ·omega
 ·omega
 ·omega
 ·rw [jA];refine jG λx H=>?_
  rcases OH.1 H with H | H
  ·exact su.smp x (ct H)
  ·rw [OL]at H;subst H;exact κ (su.smp _ γ)
def Ej (ok:fS t)(su:SU t u){i:Nat}(hi:i< t.ths.length)(G:i< u.ths.length){p:P}{J:U}(ho:Off.tau p∈offs t.ths[i])(H:Off.tau J∈offs u.ths[i])(Z:kL UInt8.toNat (λz=>(asg u.frL t.frL ρ0 z).toNat) (.tau p) (.tau J)):
  gB 0 (resL t.frL (parL (wo t.ths i i++[p]))) σ0 (resL u.frL (parL (wo u.ths i i++[J])))/\(resL u.frL (parL (wo u.ths i i++[J]))).smp=true:=by
 obtain⟨sP,_⟩:=aC (su.smpP _ (Oz hi)) _ ho;obtain⟨sU,_⟩:=aC (su.smp _ (Oz G)) _ H;exact one_den ok su hi G ho H ⟨OB _,OB _,by simp only [Off.tm,size];omega⟩ (sP.al _ (su.al _ (Oz hi))) Z (λz hz=>⟨_,Oz G,sU.fr z hz⟩) (Pz _) sU.smp
def Aq (ok:fS t)(su:SU t u){i:Nat}(hi:i< t.ths.length)(G:i< u.ths.length){a b:UInt8}{c d:Nat}{p:P}{J:U}(ho:Off.snd a b p∈offs t.ths[i])(H:Off.snd c d J∈offs u.ths[i])(Z:kL UInt8.toNat (λz=>(asg u.frL t.frL ρ0 z).toNat) (.snd a b p) (.snd c d J)):
  gB 0 (resL t.frL (parL (wo t.ths i i++[p]))) σ0 (resL u.frL (parL (wo u.ths i i++[J])))/\(resL u.frL (parL (wo u.ths i i++[J]))).smp=true:=by
 obtain⟨sP,_⟩:=aC (su.smpP _ (Oz hi)) _ ho;obtain⟨sU,_⟩:=aC (su.smp _ (Oz G)) _ H;exact one_den ok su hi G ho H ⟨OB _,OB _,by simp only [Off.tm,size];omega⟩ (sP.al _ (su.al _ (Oz hi))).2.2 Z.2.2 (λz hz=>⟨_,Oz G,sU.fr z (.inr (.inr hz))⟩) (Pz _) sU.smp
end
section
variable {t:P} {u:U}
def SU.gH (su:SU t u){k:Nat}(Z:k< u.ths.length){r:U}(hs:Sub r u.ths[k])(hb:(BV r).Sublist (BV u.ths[k])):Uq r:=by
 have hm:=Oz Z;have G:(BV u.ths[k]).Sublist (u.ths.flatMap BV):=by
  rw [List.flatMap_def];exact List.sublist_flatten_of_mem (Qb hm)
 have H:=(Pg.1 su.nd)
 refine⟨H.2.1.sublist (hb.trans G),λx hx hf=>?_⟩;have J:=G.subset (hb.subset hx);have α:=su.ge x (O0 _ J);rcases su.free x ⟨_,hm,hs.fr x hf⟩with h | h
 ·exact H.2.2 x h x J rfl
 ·omega
def Nk {A:Type}:∀l:List (T A),si l+dx l+l.length<=jq l
 | []=>by simp [si,dx,jq]
 | p::l=>by
  have G:=Nk l;have H:=bX p;simp only [si,dx,jq,O3,Py,Ov]at*;omega
def ju {p q:P}(h:p.shp=q.shp):p.rd=q.rd/\p.ow=q.ow/\p.aJ=q.aJ:=by
 have key:∀p:P,p.shp.rd=p.rd/\p.shp.ow=p.ow:=λp=>by
  unfold T.shp
  induction p<;>simp_all [T.map,T.rd,T.ow]
 refine⟨by rw [<-(key p).1,<-(key q).1,h],by rw [<-(key p).2,<-(key q).2,h],gn h⟩
def bL {A:Type}(l:List (T A))(i k:Nat)(p q:T A)(s:Bool)(x:T A):List (T A):=wo l i k++[p,q]++if s then [x]else []
def Cp (ok:fS t)(su:SU t u){i k:Nat}(hi:i< t.ths.length)(θ:i< u.ths.length)(hk:k< t.ths.length)(γ:k< u.ths.length)(ι:i≠k){a b:UInt8}{p:P}{c d:Nat}{p':U}(ho:Off.snd a b p∈offs t.ths[i])(κ:Off.snd c d p'∈offs u.ths[i])
  (hae:kL UInt8.toNat (λz=>(asg u.frL t.frL ρ0 z).toNat) (.snd a b p) (.snd c d p')) {e x:UInt8} {q:P} {s:Bool} {e' x':Nat} {H:U} {s':Bool} (hr:Off.rcv e x q s∈offs t.ths[k]) (μ:Off.rcv e' x' H s'∈offs u.ths[k])
  (har:kL UInt8.toNat (λz=>(asg u.frL t.frL ρ0 z).toNat) (.rcv e x q s) (.rcv e' x' H s')) {f:Nat->Nat} {N:Nat} (hf:wk N H x' d f) (hN:∀z,(z∈u.frL\/z∈u.ths.flatMap BV\/∃q∈u.ths,q.Fr z)->z<=N) (h25:25<=N) {q2:P} (δ:dq 0 q x b q2):
  gB 0 (resL t.frL (parL (bL t.ths i k p q2 s t.ths[k]))) σ0 (resL u.frL (parL (bL u.ths i k p' (H.map f) s' u.ths[k])))/\(resL u.frL (parL (bL u.ths i k p' (H.map f) s' u.ths[k]))).smp=true:=by
 obtain⟨_,hbd,ν⟩:=hae;obtain⟨_,ξ,rfl⟩:=har;have ζ:=Oz hi;have α:=Oz θ;have ο:=Oz hk;have Z:=Oz γ;obtain⟨sP,_⟩:=aC (su.smpP _ ζ) _ ho;obtain⟨sU,_⟩:=aC (su.smp _ α) _ κ;obtain⟨rP,rR⟩:=aC (su.smpP _ ο) _ hr;obtain⟨rU,_⟩:=aC (su.smp _ Z) _ μ;have bU:=ck _ κ;have cU:=ck _ μ;have al:=(sP.al _ (su.al _ ζ)).2.2;have G:=CU t.ths i k hi hk ι;have η:=CU u.ths i k θ γ ι;have ς:=su.gH γ rU cU;have ε:Uq H:=ς.rcv;have υ:x'∉BV H:=ς.du;have hd:d<=N:=hN d (.inr (.inr ⟨_,α,sU.fr d (.inr (.inl rfl))⟩));have φ:∀z,H.Fr z->z<=N:=λz J=>by
  by_cases h:z=x'
  ·subst h;exact hN z (.inr (.inl (Pk.2 ⟨_,Z,cU.subset (Pb ..)⟩)))
  ·exact hN z (.inr (.inr ⟨_,Z,rU.fr z (.inr ⟨h,J⟩)⟩))
 have χ:∀z∈BV H,z<=N:=λz J=>hN z (.inr (.inl (Pk.2 ⟨_,Z,cU.subset (OJ _ J)⟩)))
 have ae2:AE UInt8.toNat q2 (λz=>(asg u.frL t.frL ρ0 z).toNat) (H.map f):=by
  have k1:=(δ.ok UInt8.toNat).symm;have k2:=ξ b.toNat;have k3:=hf.ae ε υ φ hd χ (λz=>(asg u.frL t.frL ρ0 z).toNat);rw [show b.toNat=(asg u.frL t.frL ρ0 d).toNat from hbd]at k1 k2;exact(k1.trans k2).trans k3
 have ψ:∀z,(H.map f).Fr z->∃q∈u.ths,q.Fr z:=λz J=>by
  rcases hf.fr ε z J with h | ⟨h,h'⟩
  ·subst h;exact⟨_,α,sU.fr z (.inr (.inl rfl))⟩
  ·exact⟨_,Z,rU.fr z (.inr ⟨h,h'⟩)⟩
 obtain⟨n1,n2,n3,n4,n5,n6⟩:=ok.A9;have hsz:=ok.size;obtain⟨g1,g2,g3⟩:=ju δ.shp;have ω:=G.length_eq;have so:=aZ G T.ow;have ss:=aZ G T.size;have st:=aZ G T.aJ;have sr:=aZ G T.rd;simp only [O3,Py,Ov]at so ss st sr ω;have s1:=sP.ow;have s2:=sP.size;have s3:=sP.rd;have r1:=rP.ow;have r2:=rP.size;have r3:=rP.rd;simp only [Off.tm,ow,size,rd]at s1 s2 s3 r1 r2 r3;have tl1:=ch p;have tl2:=ch q;have hro:=bX t;have hne:t.ths≠[]:=λe=>by rw [e]at hi;cases hi
 have n3:=n3 hne;have sum:=Nk (wo t.ths i k);have snd2:=HN ⟨a,b,p,ho⟩;have rk:=bX t.ths[k];have rdt:=(fw t.ths).2.2.1;have h6:=Kg t.ths;obtain⟨k1,_,_,k4,_⟩:=fw (bL t.ths i k p q2 s t.ths[k]);have kow:dx (bL t.ths i k p q2 s t.ths[k])=dx (wo t.ths i k)+p.ow+q2.ow+if s then t.ths[k].ow else 0:=by
  unfold bL dx;cases s<;>simp<;>omega
 have ktl:cF (bL t.ths i k p q2 s t.ths[k])+3* (bL t.ths i k p q2 s t.ths[k]).length<=cF (wo t.ths i k)+3* (wo t.ths i k).length+p.aJ+q2.aJ+t.ths[k].aJ+9:=by
  unfold bL cF;cases s<;>simp<;>omega
 have hbP:=ok.th ζ;have hbQ:=ok.th ο;have hbound:∀x∈bL t.ths i k p q2 s t.ths[k],t.frL.length+x.rd+x.ow<=59:=λx hx=>by
  unfold bL at hx;rcases OH.1 hx with hx | hx
  ·rcases OH.1 hx with hx | hx
   ·exact ok.th (ct hx)
   ·rcases OY.1 hx with rfl | hx
    ·omega
    ·cases OL.1 hx;omega
  ·cases s
   ·cases hx
   ·cases OL.1 hx;exact hbQ
 have kow':t.frL.length+(parL (bL t.ths i k p q2 s t.ths[k])).ow<=64:=by
  rw [k1,kow];simp only [dx]at*;cases s<;>simp only [Qp,Rb,Qu]<;>omega
 refine⟨B6 su.len su.fn su.fl (λx hx=>su.ge x (O9 _ hx)) (us:=bL u.ths i k p' (H.map f) s u.ths[k]) ?_ ?_ ?_ hbound kow' ?_ ?_,?_⟩
 ·unfold bL;refine((su.MO.wo i k).app (.cons ⟨ν,T.Al.wf al,T.Al.eb 0 al,λz J=>su.free z ⟨_,α,sU.fr z (.inr (.inr J))⟩⟩ (.cons ⟨ae2,δ.wf,δ.eb,λz J=>su.free z (ψ z J)⟩ .nil))).app ?_;cases s
  ·exact .nil
  ·exact .cons (su.MO.get hk γ) .nil
 ·rw [Qn];intro z;have h1:u.frL.count z+(u.ths.map λy=>(BV y).count z).sum<=1:=su.cnt z;have h2:(BV p').count z<=(BV u.ths[i]).count z:=bU.count_le z;have h3:(u.ths.map λy=>(BV y).count z).sum=(BV u.ths[i]).count z+((BV u.ths[k]).count z+((wo u.ths i k).map λy=>(BV y).count z).sum):=by
   have :=aZ η λy=>(BV y).count z
   simpa only [O3,Py]using this
  have h4:(u.frL++(bL u.ths i k p' (H.map f) s u.ths[k]).flatMap BV).count z=u.frL.count z+(((wo u.ths i k).map λy=>(BV y).count z).sum+(BV p').count z+(BV (H.map f)).count z+if s then(BV u.ths[k]).count z else 0):=by
   unfold bL;rw [Pp,count_flatMap];cases s<;>simp<;>omega
  have hmap:(BV (H.map f)).count z=0\/(N< z/\(BV (H.map f)).count z<=1):=by
   rw [dy];by_cases h:z∈(BV H).map f
   ·right;obtain⟨y,hy,e⟩:=Pf.1 h;refine⟨by rw [<-e];exact hf.fb y hy,?_⟩;have:((BV H).map f).Nodup:=by
     have:∀l:List Nat,l.Nodup->(∀z∈l,z∈BV H)->(l.map f).Nodup:=by
      intro l
      induction l with
      | nil=>intro _ _;exact P3
      | cons y l ih=>
       intro hn hm;have hn:=PB.1 hn;refine PB.2 ⟨λh=>?_,ih hn.2 λz J=>hm z (OJ _ J)⟩;obtain⟨z,J,e⟩:=Pf.1 h;have :=hf.fi z (hm z (OJ _ J)) y (hm y (Pb ..)) e;exact hn.1 (this▸J)
     exact this (BV H) ε.nd λ _ h=>h
    exact Qn.1 this z
   ·exact .inl (RZ.2 h)
  have hbig:N< z->u.frL.count z+(u.ths.map λy=>(BV y).count z).sum=0:=λJ=>by
   rw [<-count_flatMap,<-Pp];refine RZ.2 λhm=>?_
   have :=hN z ((OH.1 hm).imp id .inl);omega
  have:u.frL.count z+(((wo u.ths i k).map λy=>(BV y).count z).sum+(BV p').count z+(BV (H.map f)).count z+if s then(BV u.ths[k]).count z else 0)<=1:=by
   rcases hmap with h | ⟨J,h⟩
   ·cases s<;>simp only [Qu,Qp,Rb]<;>omega
   ·have :=hbig J;cases s<;>simp only [Qu,Qp,Rb]<;>omega
  exact Pq (Nat.le_of_eq h4) this
 ·intro z J;obtain⟨r,hr2,β⟩:=Pk.1 J;have old:∀r∈u.ths,z∈BV r->26<=z:=λr h1 h2=>su.ge z (O0 _ (Pk.2 ⟨r,h1,h2⟩))
  unfold bL at hr2;rcases OH.1 hr2 with h | h
  ·rcases OH.1 h with h | h
   ·exact old r (ct h) β
   ·rcases OY.1 h with rfl | h
    ·exact old _ α (bU.subset β)
    ·cases OL.1 h;rw [dy]at β;obtain⟨y,hy,e⟩:=Pf.1 β;have :=hf.fb y hy;omega
  ·cases s
   ·cases h
   ·cases OL.1 h;exact old _ Z β
 ·simp only [cF,jq,dx]at*;omega
 ·omega
 ·rw [jA];have hsm:(H.map f).smp=true:=by
   have h1:=hf.ae ε υ φ hd χ id;rw [<-vV h1];have :=rU.smp (su.smp _ Z);exact this
  refine jG λy hy=>?_
  unfold bL at hy;rcases OH.1 hy with h | h
  ·rcases OH.1 h with h | h
   ·exact su.smp y (ct h)
   ·rcases OY.1 h with rfl | h
    ·exact sU.smp (su.smp _ α)
    ·cases OL.1 h;exact hsm
  ·cases s
   ·cases h
   ·cases OL.1 h;exact su.smp _ Z
end
def pU:∀u:U,u.ths.length<=u.size:=by
 intro u
 induction u with
 | par p q _ G=>simp only [T.ths,Ov,T.size];omega
 | res x p G=>simp only [T.ths,T.size];omega
 | _=>simp [T.ths,T.size]
def Mr (w:World){t:P}{k:Nat}{old nw:UInt8}(ok:Ok t)(eb:Eb k t)(hb:k+t.bd<=64)(G:nm nw=true)(H:okn k nw):∃q,dq k t old nw q:=by
 have h:=dz t.size (old:=old) (OB _) ok eb hb G H (w:=w) (R:=λ _ _=>∃q,dq k t old nw q) λq w' _ J=>⟨q,J⟩
 obtain⟨e,w',fr,hr,_⟩:=h [];obtain⟨_,hr⟩:=hr;exact hr.2
def Ff (N:Nat)(q:U)(x b:Nat):Nat->Nat:=λz=>if z=x then b else if z∈BV q then z+N+1 else z
def fI (N:Nat){q:U}{x:Nat}(b:Nat)(J:x∉BV q):wk N q x b (Ff N q x b):=by
 refine⟨O' rfl,λz G Z=>?_,λz H=>?_,λz H y hy e=>?_⟩
 ·simp only [Ff,OP G,OP Z]
 ·have G:z≠x:=λe=>J (e▸H)
  simp only [Ff,OP G,O' H];omega
 ·have G:z≠x:=λe=>J (e▸H)
  have Z:y≠x:=λe=>J (e▸hy)
  simp only [Ff,OP G,O' H,OP Z,O' hy]at e;omega
def NN (u:U):Nat:=(BV u).sum+26
def Ax (u:U)(i:Nat)(p:U):U:=resL u.frL (parL (wo u.ths i i++[p]))
def Gq (u:U)(i k:Nat)(p q:U)(s:Bool):U:=resL u.frL (parL (bL u.ths i k p q s (u.ths.getD k .nil)))
def E3 (u:U)(i k c d:Nat)(p:U):Off Nat->List U
 | .rcv e x q s=>if e=c then [Gq u i k p (q.map (Ff (NN u) q x d)) s]else []
 | _=>[]
def E2 (u:U)(i c d:Nat)(p:U)(k:Nat):List U:=if i=k then []else(offs (u.ths.getD k .nil)).flatMap (E3 u i k c d p)
def E1 (u:U)(i:Nat):Off Nat->List U
 | .tau p=>[Ax u i p]
 | .snd c d p=>(List.range u.ths.length).flatMap (E2 u i c d p)
 | .rcv .. =>[]
def E0 (u:U)(i:Nat):List U:=(offs (u.ths.getD i .nil)).flatMap (E1 u i)
def eQ (u:U):List U:=(List.range u.ths.length).flatMap (E0 u)
noncomputable def outs (l:List U):List Tx:=l.map λv=>(cL v).getD []
noncomputable def jo (l:List U):Bool:=l.all λv=>(cL v).isSome
noncomputable def oN (u:U):Option (List Tx):=if jo (eQ u)then some (dd (aK (outs (eQ u))))else none
def AD (l m:List U):outs (l++m)=outs l++outs m:=Pm ..
def xL (l m:List U):jo (l++m)=(jo l&&jo m):=QP ..
section
variable {t:P} {u:U}
def SU.bound (su:SU t u):∀z,(z∈u.frL\/z∈u.ths.flatMap BV\/∃q∈u.ths,q.Fr z)->z<=NN u:=by
 have H:=su.nr.shape;have G:BV u=u.frL++u.ths.flatMap BV:=by
  have:BV u=BV (resL u.frL (parL u.ths)):=by rw [<-H]
  rw [this,cQ,cP]
 have key:∀z∈BV u,z<=NN u:=λz J=>by have :=mo J;unfold NN;omega
 intro z J;rcases J with h | h | h
 ·exact key z (by rw [G];exact O9 _ h)
 ·exact key z (by rw [G];exact O0 _ h)
 ·rcases su.free z h with h | h
  ·exact key z (by rw [G];exact O9 _ h)
  ·unfold NN;omega
def IK (ok:fS t)(su:SU t u){i:Nat}(hi:i< u.ths.length){p:U}(Z:Off.tau p∈offs u.ths[i]):Nu (Ax u i p)/\(Ax u i p).smp=true:=by
 have hl:=su.two.len;have G:i< t.ths.length:=by omega
 obtain⟨o',J,H⟩:=(ia (su.two.get G hi)).sO Z;cases o'<;>try cases H
 obtain⟨h1,h2⟩:=Ej ok su G hi J Z H;exact⟨h1.nu,h2⟩
def M0 (ok:fS t)(su:SU t u){k:Nat}(G:k< t.ths.length){e x:UInt8}{q:P}{s:Bool}(hr:Off.rcv e x q s∈offs t.ths[k]):Ok q/\Eb 0 q/\0+q.bd<=64:=by
 have hm:=Oz G;obtain⟨sub,_⟩:=aC (su.smpP _ hm) _ hr;have al:=sub.al _ (su.al _ hm);have hz:=sub.size;obtain⟨_,_,H,_,_,_⟩:=ok.A9;have H:=H (λe=>by rw [e]at G;cases G);have α:=ok.size;have J:t.ths[k].size<=jq t.ths:=mo (Pf.2 ⟨_,hm,rfl⟩);simp only [Off.tm,size]at hz;have :=bX q;have :=T.we q;have :=ch q;have Z:1<=t.ths.length:=by omega
 exact⟨⟨T.Al.wf al.2.2,by rw [aQ];omega⟩,T.Al.eb 0 al.2.2,by omega⟩
def tC (w:World)(ok:fS t)(su:SU t u){i k:Nat}(hi:i< u.ths.length)(hk:k< u.ths.length)(β:i≠k){c d:Nat}{p:U}(ho:Off.snd c d p∈offs u.ths[i]){e x:Nat}{q:U}{s:Bool}(hr:Off.rcv e x q s∈offs u.ths[k])
  {f:Nat->Nat} {N:Nat} (hf:wk N q x d f) (hN:∀z,(z∈u.frL\/z∈u.ths.flatMap BV\/∃q∈u.ths,q.Fr z)->z<=N) (γ:25<=N):Nu (resL u.frL (parL (bL u.ths i k p (q.map f) s u.ths[k])))/\(resL u.frL (parL (bL u.ths i k p (q.map f) s u.ths[k]))).smp=true:=by
 have hl:=su.two.len;have G:i< t.ths.length:=by omega
 have H:k< t.ths.length:=by omega
 obtain⟨o',J,δ⟩:=(ia (su.two.get G hi)).sO ho;obtain⟨r',Z,ε⟩:=(ia (su.two.get H hk)).sO hr;cases o'<;>try cases δ
 cases r'<;>try cases ε
 rename_i a b p' ζ η e' x' q' s' θ ι;obtain⟨h1,h2,h3⟩:=M0 ok su H Z;have α:=Oz G;obtain⟨sP,_⟩:=aC (su.smpP _ α) _ J;have al:=(sP.al _ (su.al _ α)).2.1;obtain⟨q2,κ⟩:=Mr w h1 h2 h3 (old:=x') (nw:=b) (fT al) (oM al 0);obtain⟨k1,k2⟩:=Cp ok su G hi H hk β J ho ⟨ζ,η⟩ Z hr ⟨θ,ι⟩ hf hN γ κ;exact⟨k1.nu,k2⟩
def AE.Nw {p q:U}(h:∀σ:Nat->Nat,AE σ p σ q):∀(o:List Nat) (σ:Nat->Nat),AE σ (resL o p) σ (resL o q)
 | [],σ=>h σ
 | x::o,σ=>λv=>AE.Nw h o (aI σ x v)
def E8 (w:World)(ok:fS t)(su:SU t u){i k:Nat}(hi:i< u.ths.length)(hk:k< u.ths.length)(J:i≠k){c d:Nat}{p:U}(ho:Off.snd c d p∈offs u.ths[i]){e x:Nat}{q:U}{s:Bool}(hr:Off.rcv e x q s∈offs u.ths[k])
  {f f':Nat->Nat} {N N':Nat} (hf:wk N q x d f) (hN:∀z,(z∈u.frL\/z∈u.ths.flatMap BV\/∃q∈u.ths,q.Fr z)->z<=N) (δ:25<=N) (Z:wk N' q x d f') (α:∀z,(z∈u.frL\/z∈u.ths.flatMap BV\/∃q∈u.ths,q.Fr z)->z<=N') (β:25<=N'):
  cL (resL u.frL (parL (bL u.ths i k p (q.map f) s u.ths[k])))=cL (resL u.frL (parL (bL u.ths i k p (q.map f') s u.ths[k]))):=by
 have G:=Oz hk;have γ:=Oz hi;obtain⟨sU,_⟩:=aC (su.smp _ γ) _ ho;obtain⟨rU,_⟩:=aC (su.smp _ G) _ hr;have cU:=ck _ hr;have H:=su.gH hk rU cU;have nq:∀M,(∀z,(z∈u.frL\/z∈u.ths.flatMap BV\/∃q∈u.ths,q.Fr z)->z<=M)->(∀z,q.Fr z->z<=M)/\d<=M/\∀z∈BV q,z<=M:=λM hM=>by
  refine⟨λz hz=>?_,hM d (.inr (.inr ⟨_,γ,sU.fr d (.inr (.inl rfl))⟩)),λz hz=>hM z (.inr (.inl (Pk.2 ⟨_,G,cU.subset (OJ _ hz)⟩)))⟩;by_cases h:z=x
  ·subst h;exact hM z (.inr (.inl (Pk.2 ⟨_,G,cU.subset (Pb ..)⟩)))
  ·exact hM z (.inr (.inr ⟨_,G,rU.fr z (.inr ⟨h,hz⟩)⟩))
 obtain⟨a1,a2,a3⟩:=nq N hN;obtain⟨b1,b2,b3⟩:=nq N' α;have hq:∀σ:Nat->Nat,AE σ (q.map f) σ (q.map f'):=λσ=>(hf.ae H.rcv H.du a1 a2 a3 σ).symm.trans (Z.ae H.rcv H.du b1 b2 b3 σ)
 refine uW (tC w ok su hi hk J ho hr hf hN δ).1 (tC w ok su hi hk J ho hr Z α β).1 (AE.Nw (λσ=>?_) _ _);have refl:∀l:List U,eg (λp q=>AE σ p σ q) l l:=λl=>by
  induction l with
  | nil=>exact .nil
  | cons p l ih=>exact .cons (AE.refl p σ) ih
 have:eg (λp q=>AE σ p σ q) (bL u.ths i k p (q.map f) s u.ths[k]) (bL u.ths i k p (q.map f') s u.ths[k]):=by
  unfold bL;exact((refl _).app (.cons (AE.refl p σ) (.cons (hq σ) .nil))).app (refl _)
 have key:∀{ps us:List U},eg (λp q=>AE σ p σ q) ps us->AE σ (T.parL ps) σ (T.parL us):=by
  intro ps us h
  induction h with
  | nil=>trivial
  | cons h k ih=>
   cases k with
   | nil=>exact h
   | cons h' k'=>exact⟨h,ih⟩
 exact key this
def aR {l:List U}{k:Nat}(h:k< l.length):l.getD k .nil=l[k]:=by simp [List.getD,h]
def Hj (w:World)(ok:fS t)(su:SU t u):∀v∈eQ u,Nu v/\v.smp=true:=by
 intro v G;unfold eQ E0 at G;obtain⟨i,hi,G⟩:=Pk.1 G;rw [PH]at hi;rw [aR hi]at G;obtain⟨o,ho,G⟩:=Pk.1 G;cases o with
 | tau p=>cases OL.1 G;exact IK ok su hi ho
 | rcv=>cases G
 | snd c d p=>
  obtain⟨k,H,G⟩:=Pk.1 G;rw [PH]at H;unfold E2 at G;split at G
  ·cases G
  ·rename_i Z;rw [aR H]at G;obtain⟨r,hr,G⟩:=Pk.1 G;cases r with
   | tau=>cases G
   | snd=>cases G
   | rcv e x q s=>
    have G:v∈(if e=c then [Gq u i k p (q.map (Ff (NN u) q x d)) s]else []):=G;by_cases J:e=c
    ·rw [O' J]at G;cases OL.1 G;unfold Gq;rw [aR H];have α:=Oz H;have β:=su.gH H (aC (su.smp _ α) _ hr).1 (ck _ hr);exact tC w ok su hi H Z ho hr (fI (NN u) d β.du) su.bound (by unfold NN;omega)
    ·rw [OP J]at G;cases G
end
def GO:∀l:List U,(tp l).bvs=l.flatMap λs=>(td s).1++(td s).2.bvs
 | []=>rfl
 | u::l=>by simp only [tp,Lv.bvs,PE,GO l,Pe]
def MF:∀u:U,BV u=u.mW.flatMap BV:=by
 intro u
 induction u with
 | sum p q H G=>simp only [BV,T.mW,PE];rw [<-G]
 | _=>simp [T.mW]
def rf:∀(n:Nat) {u:U},u.size<=n->Uq u->u.Nr->(td u).1++(td u).2.bvs=BV u
 | 0,u,h,_,_=>by cases u<;>simp [T.size]at h
 | n+1,u,h,G,nr=>by
  have H:=λ{p:U} (hp:p.size<=n) (G:Uq p) (nr:p.Nr)=>rf n hp G nr
  have e:=eR G nr;cases u with
  | nil=>rw [e];rfl
  | snd a b p=>rw [e];have :=H (by simp only [T.size]at h;omega) G.snd nr;simpa [frL,T.ths,tl,Lv.bvs,BV]using this
  | mat a b p=>rw [e];have :=H (by simp only [T.size]at h;omega) G.mat nr.2;simpa [frL,T.ths,tl,Lv.bvs,BV]using this
  | tau p=>rw [e];have :=H (by simp only [T.size]at h;omega) G.tau nr;simpa [frL,T.ths,tl,Lv.bvs,BV]using this
  | rep p=>rw [e];have :=H (by simp only [T.size]at h;omega) G.rep nr.2;simpa [frL,T.ths,tl,Lv.bvs,BV]using this
  | rcv a x p=>rw [e];have :=H (by simp only [T.size]at h;omega) G.rcv nr;simp only [frL,T.ths,tl,Lv.bvs,BV,Qu,O5,Pv,this];rfl
  | res x p=>
   have :=H (by simp only [T.size]at h;omega) G.res nr.2;rw [eR G.res nr.2]at this;rw [e];simp only [frL,T.ths,BV,PC];rw [<-this]
  | par p q=>
   simp only [T.size]at h;have Z:=H (p:=p) (by omega) G.gP nr.2.1;have h2:=H (p:=q) (by omega) G.ga nr.2.2;rw [eR G.gP nr.2.1,gD nr.1.1,j5 nr.1.1]at Z;have h0:q.frL=[]:=by
    rcases nr.1.2 with h | h
    ·exact gD h
    ·cases q<;>first | rfl | (cases h;done)
   rw [eR G.ga nr.2.2,h0]at h2;simp only [Pv]at Z h2;rw [e];simp only [frL,T.ths,BV,Pv];rw [show p::q.ths=[p]++q.ths from rfl,eU,Lv.cz,Z,h2]
  | sum p q=>
   simp only [T.size]at h;rw [e];simp only [frL,T.ths,tl,Lv.bvs,Pv,O5];rw [eO G.eJ nr.2.1 nr.1.1,eO G.dX nr.2.2 nr.1.2.1,gR nr.1.2.2];rw [GO,MF (.sum p q)];have key:∀s∈[p]++q.mW,(td s).1++(td s).2.bvs=BV s:=by
    intro s J;rcases OH.1 J with J | J
    ·cases OL.1 J;exact H (by omega) G.eJ nr.2.1
    ·have:∀q:U,Uq q->q.Nr->∀s∈q.mW,s.size<=q.size/\Uq s/\s.Nr:=by
      intro q
      induction q with
      | sum p q _ H=>
       intro G nr s J;rcases OY.1 J with rfl | J
       ·exact⟨by simp only [T.size];omega,G.eJ,nr.2.1⟩
       ·obtain⟨k1,k2,k3⟩:=H G.dX nr.2.2 s J;exact⟨by simp only [T.size];omega,k2,k3⟩
      | _=>intro G nr s J;cases OL.1 J;exact⟨OB _,G,nr⟩
     obtain⟨k1,k2,k3⟩:=this q G.dX nr.2.2 s J;exact H (by omega) k2 k3
   have fm:∀l:List U,(∀s∈l,(td s).1++(td s).2.bvs=BV s)->(l.flatMap λs=>(td s).1++(td s).2.bvs)=l.flatMap BV:=by
    intro l
    induction l with
    | nil=>intro _;rfl
    | cons s l H=>intro h;rw [PE,PE,h s (by simp),H λx hx=>h x (by simp [hx])]
   exact fm _ key
def pI:∀{K:List U},(∀t∈K,t.th=true/\Uq t/\t.Nr)->joinL (K.map td)=([],tl K)
 | [],_=>rfl
 | t::K,h=>by
  obtain⟨G,H,J⟩:=h t (by simp);simp only [O3,joinL];rw [pI (K:=K) λx Z=>h x (by simp [Z]),eR H J,gD G,j5 G,show t::K=[t]++K from rfl,eU];rfl
def xA (O:List Nat){K:List U}(G:∀t∈K,t.th=true/\Uq t/\t.Nr){zs:List ((List Nat×Lv)×U)}(Z:∀z∈zs,Pc z.1 z.2):Lv.tidy (O++(joinL (zs.map (·.1))).1) ((tl K).app (joinL (zs.map (·.1))).2)=td (resL O (parL (K++zs.map (·.2)))):=by
 have h:=Ba (own:=O) (Pc.join (zs:=K.map (λt=>(td t,t))++zs) λz H=>by
  rcases OH.1 H with h | h
  ·obtain⟨t,J,rfl⟩:=Pf.1 h;exact Pc.nr (G t J).2.1 (G t J).2.2
  ·exact Z z h)
 rw [Pm,Pm,PZ,PZ,mQ]at h;have e1:K.map ((λz:(List Nat×Lv)×U=>z.1)∘λt=>(td t,t))=K.map td:=rfl;have e2:K.map ((λz:(List Nat×Lv)×U=>z.2)∘λt=>(td t,t))=K:=List.map_id K;rw [e1,e2,pI G]at h;exact h
def HU:∀{l:List U},(∀t∈l,t.th=true)->(tl l).bw=l.map λt=>tl [t]
 | [],_=>rfl
 | t::l,h=>by
  have G:=h t (by simp);have H:=HU (l:=l) λx J=>h x (by simp [J])
  cases t<;>first | (cases G;done) | simp only [tl,Lv.bw,H,O3]
def Ai {X Y:Type}(f:X->Y)(P:Nat->Bool):∀(l:List X) (k:Nat),iH P (l.map f) k=(iH P l k).map f
 | [],k=>by rw [Qf,gV,gV];rfl
 | x::l,k=>by
  rw [O3,bN,bN,Ai f P l (k+1)];split<;>simp
def E4:∀l:List U,elsL (l.map λt=>tl [t])=tl l
 | []=>rfl
 | t::l=>by rw [O3,elsL,E4 l,<-eU];rfl
def G7 {l:List U}(h:∀t∈l,t.th=true)(P:Nat->Bool):elsL (iH P (tl l).bw 0)=tl (iH P l 0):=by
 rw [HU h,Ai,E4]
def D5 {O:List Nat}{ts G:List U}(h:ts.Perm G)(n:Nu (resL O (parL ts))):Nu (resL O (parL G)):=by
 have H:(BV (resL O (parL ts))).Perm (BV (resL O (parL G))):=by
  rw [cQ,cQ,cP,cP];exact(PI _).append (h.flatMap_right _)
 have Z:∀z,(resL O (parL G)).Fr z->(resL O (parL ts)).Fr z:=λz J=>by
  obtain⟨h1,h2⟩:=cy.1 J;obtain⟨t,ht,J⟩:=eK.1 h2;exact cy.2 ⟨h1,eK.2 ⟨t,h.symm.subset ht,J⟩⟩
 have α:∀z,(resL O (parL G)).Us z->(resL O (parL ts)).Us z:=λz J=>by
  obtain⟨h1,h2⟩:=jY.1 J;obtain⟨t,ht,J⟩:=tH.1 h2;exact jY.2 ⟨h1,tH.2 ⟨t,h.symm.subset ht,J⟩⟩
 exact⟨⟨H.nodup_iff.1 n.uq.nd,λx hx hf=>n.uq.nf x (H.symm.subset hx) (Z x hf)⟩,λy hy=>n.fr y (α y hy),λx hx=>n.bv x (H.symm.subset hx)⟩
def FN {ths:List U}{i k:Nat}(hi:i< ths.length)(H:k< ths.length)(G:i≠k)(p q:U):(wo ths i i++[p,q]).Perm (bL ths i k p q true ths[k]):=by
 unfold bL;have h:=JF ths i k hi H G;refine(h.append (PI _)).trans ?_;rw [O' rfl,Pe,Pe];exact(PI _).append QB
end
section
open T Classical
def St (s:Tx):Prop:=∃t,fS t/\t.text=s
def fS.uniq {t G:P}(a:fS t)(b:fS G)(h:t.text=G.text):t=G:=eV a.al.wf b.al.wf h
noncomputable def N9 (s:Tx):Option (List Tx):=if h:St s then oN (num h.choose e0 0).1 else none
def rL {u:U}(h:Nu u)(G:u.smp=true){s:Tx}(e:cL u=some s):St s:=by
 obtain⟨t,v,n⟩:=H4 h e;exact⟨t,n.Ol h G,n.text⟩
def Na (s:Tx):Prop:=∃t:P,t.Al (λc=>lt c=true)/\t.text=s/\dJ s/\t.smp=true
noncomputable def e8 (s:Tx):Option Tx:=if h:Na s then cL (num h.choose e0 0).1 else none
def yg {t:P}(al:t.Al λc=>lt c=true)(g:dJ t.text)(G:t.smp=true):e8 t.text=cL (num t e0 0).1:=by
 have h:Na t.text:=⟨t,al,rfl,g,G⟩
 unfold e8;rw [dif_pos h,eV h.choose_spec.1.wf al.wf h.choose_spec.2.1]
def iL {s:Tx}(h:¬Na s):e8 s=none:=by unfold e8;rw [dif_neg h]
def xE {s n:Tx}(h:e8 s=some n):St n:=by
 unfold e8 at h;split at h
 ·rename_i G;exact rL (ma G.choose_spec.1) ((vV (lH G.choose_spec.1)).symm.trans G.choose_spec.2.2.2) h
 ·cases h
def fS.good {t:P}(ok:fS t):dJ t.text:=⟨ok.len,t,ok.al,rfl,ok.size⟩
def Off.over {A:Type}(k:UInt8):Off A->Option A
 | .tau _=>none
 | .snd a _ _=>if k=33 then some a else none
 | .rcv a _ _ _=>if k=63 then some a else none
end
attribute [go_sem] Tryz.f41
def sF (G:aD)(w:World)(R:aD->Bool->Sb)(h:vc aB (a6 [] [] []) (ai Tryz.f41) (aj 0 [.s G]) w (fin aB [.tmp 2 .s,.tmp 3 .b] R)):
  Sc 41 #[(.string (ak G))] w (aw [.s,.b] R):=
 bn Tryz.func41 (by kernel_rfl) h
attribute [go_sem] Tryz.f107
def te (G:aD)(w:World)(R:aD->aD->Sb)(h:vc aB (a6 [(2,[(0,.s),(4,.s)])] [] []) (ai Tryz.f107) (aj 0 [.s G]) w (fin aB [.tmp 2 .s,.tmp 3 .s] R)):
  Sc 107 #[(.string (ak G))] w (aw [.s,.s] R):=
 bn Tryz.func107 (by kernel_rfl) h
attribute [go_sem] Tryz.f108
def pR (G:aD)(w:World)(R:Value->Sb)(h:vc aB (a6 [(5,[(0,.s),(3,.v)])] [] []) (ai Tryz.f108) (aj 0 [.s G]) w (fin aB [.tmp 2 .v] R)):
  Sc 108 #[(.string (ak G))] w (aw [.v] R):=
 bn Tryz.func108 (by kernel_rfl) h
attribute [go_sem] Tryz.f109
def rO (t1:aD)(w:World)(R:Value->Sb)(h:vc aB (a6 [(13,[(47,.i)])] [] [(4,false,.lt 0 (.lt 2 (.lt 3 (.lt 4 (.lt 5 (.lt 6 (.lt 7 (.one .h 1 (.lt 8 (.one .h 9 (.lt 10 .done))))))))))),(9,false,.lt 0 (.lt 1 (.lt 2 (.lt 4 (.lt 5 (.lt 6 (.one .h 3 (.one .h 7 (.one .h 8 (.lt 9 .done))))))))))]) (ai Tryz.f109) (aj 0 [.s t1]) w (fin aB [.tmp 2 .v] R)):
  Sc 109 #[(.string (ak t1))] w (aw [.v] R):=
 bn Tryz.func109 (by kernel_rfl) h
attribute [go_sem] Tryz.f111
def pX (t1:Value)(i2:Int)(G:Int)(w:World)(R:Value->Sb)(h:vc aB (a6 [(3,[(7,.v),(12,.i)])] [] []) (ai Tryz.f111) (aj 0 [.v t1,.i i2,.i G]) w (fin aB [.tmp 6 .v] R)):
  Sc 111 #[t1,(.int .i64 i2),(.int .i64 G)] w (aw [.v] R):=
 bn Tryz.func111 (by kernel_rfl) h
attribute [go_sem] Tryz.f110
def vG (f1:aD)(t2:Value)(w:World)(R:aD->Bool->Sb)(h:vc aB (a6 [(5,[(6,.s),(7,.i)])] [] []) (ai Tryz.f110) (aj 0 [.s f1,.v t2]) w (fin aB [.tmp 4 .s,.tmp 5 .b] R)):
  Sc 110 #[(.string (ak f1)),t2] w (aw [.s,.b] R):=
 bn Tryz.func110 (by kernel_rfl) h
attribute [go_sem] Tryz.f52
def vO (G:Value)(w:World)(R:Value->Sb)(h:vc aB (a6 [(3,[(3,.v),(9,.i)])] [] []) (ai Tryz.f52) (aj 0 [.v G]) w (fin aB [.tmp 2 .v] R)):
  Sc 52 #[G] w (aw [.v] R):=
 bn Tryz.func52 (by kernel_rfl) h
def vE (p1:aD)(w:World)(R:Value->Bool->Sb)(h:Md 107 #[(.string (ak p1))] w λs2 s3 w4=>lg 108 #[(.string (ak p1))] w4 λv5 w6=>kZ v5 λl8=>D0 true (.slice none 0 0) 0 w6 λI10 m11 f12 o13 β ψ=>bZ (decide (β< (l8:Int))) (jQ v5 β λb16 o17=>MZ ψ b16 (o17+β.toNat* 1) λs20=>lg 109 #[(.string (ak s20))] ψ λv21 w22=>kZ v21 λl24=>D0 f12 o13 0 w22 λI26 m27 f28 ο α η=>bZ (decide (α< (l24:Int))) (jQ v21 α λω o33=>∃c36:UInt8,∃c37:UInt8,∃c38:UInt8,∃s39:aD,∃q40:Bool,(World.cell? η ⟨ω,(o33+α.toNat* 5),none⟩=some (.int .u8 c36.toNat)/\World.cell? η ⟨ω,((o33+α.toNat* 5)+1),none⟩=some (.int .u8 c37.toNat)/\World.cell? η ⟨ω,(((o33+α.toNat* 5)+1)+1),none⟩=some (.int .u8 c38.toNat)/\World.cell? η ⟨ω,((((o33+α.toNat* 5)+1)+1)+1),none⟩=some (.string (ak s39))/\World.cell? η ⟨ω,(((((o33+α.toNat* 5)+1)+1)+1)+1),none⟩=some (.bool q40)/\True)/\db η (.cells #[(.int .u8 0),(.int .u8 0),(.int .u8 0),(.string ⟨#[]⟩),(.bool false)] 122) λς w42=>Lg w42 ς 0 5 [(.int .u8 c36.toNat),(.int .u8 c37.toNat),(.int .u8 c38.toNat),(.string (ak s39)),(.bool q40)] λw43=>∃J44:Bool->Value->Sb,(rG w43 ς 0 λc45=>bZ (decide (c45=126)) (jf w43 λκ w47=>IY κ ς 3 λs48=>(lg 111 #[v5,(.int .i64 β),(.int .i64 β)] w47 λv49 w50=>κ w50/\db w50 (.cells #[(.string (ak s48))] 9) λb51 w52=>κ w52/\nV 9 1 16 w52 v49 (.slice (some ⟨b51,0,none⟩) 1 1) λv58 w59=>κ w59/\qu 110 #[(.string (ak s2)),v58] w59 λs60 q61 w62=>κ w62/\∃J63:Bool->aD->Sb,(bZ f28 (J63 q61 s60 w62) (J63 false s60 w62))/\∀(f64:Bool) (n65:aD) (w66:World),J63 f64 n65 w66->db w66 (.cells #[(.string (ak n65))] 9) λb67 w68=>nV 9 1 16 w68 ο (.slice (some ⟨b67,0,none⟩) 1 1) λv74 w75=>J44 f64 v74 w75)/\(db w47 (.cells #[(.string (ak s48))] 9) λb76 w77=>κ w77/\lg 111 #[v5,(.int .i64 β),(.int .i64 β)] w77 λv78 w79=>κ w79/\nV 9 1 16 w79 v78 (.slice (some ⟨b76,0,none⟩) 1 1) λv85 w86=>κ w86/\qu 110 #[(.string (ak s2)),v85] w86 λs87 q88 w89=>κ w89/\∃J90:Bool->aD->Sb,(bZ f28 (J90 q88 s87 w89) (J90 false s87 w89))/\∀(f91:Bool) (n92:aD) (w93:World),J90 f91 n92 w93->db w93 (.cells #[(.string (ak n92))] 9) λb94 w95=>nV 9 1 16 w95 ο (.slice (some ⟨b94,0,none⟩) 1 1) λv101 w102=>J44 f91 v101 w102)) (J44 f28 ο w43))/\∀(f103:Bool) (υ:Value) (μ:World),J44 f103 υ μ->rG μ ς 0 λc106=>bZ (!decide (c106=33)) (bG (α+1)/\I26 f103 υ (α+1) μ/\m27 f103 υ (α+1) μ< m27 f28 ο α η) (kZ v5 λl108=>D0 f103 υ 0 μ λI110 φ f112 ζ H γ=>bZ (decide (H< (l108:Int))) (jQ v5 H λb116 o117=>MZ γ b116 (o117+H.toNat* 1) λs120=>bZ (decide (β=H)) (bG (H+1)/\I110 f112 ζ (H+1) γ/\φ f112 ζ (H+1) γ< φ f112 ζ H γ) (lg 109 #[(.string (ak s120))] γ λv121 w122=>kZ v121 λl124=>D0 f112 ζ 0 w122 λI126 θ f128 Z G J=>bZ (decide (G< (l124:Int))) (jQ v121 G λν ξ=>∃c136:UInt8,∃c137:UInt8,∃c138:UInt8,∃s139:aD,∃q140:Bool,(World.cell? J ⟨ν,(ξ+G.toNat* 5),none⟩=some (.int .u8 c136.toNat)/\World.cell? J ⟨ν,((ξ+G.toNat* 5)+1),none⟩=some (.int .u8 c137.toNat)/\World.cell? J ⟨ν,(((ξ+G.toNat* 5)+1)+1),none⟩=some (.int .u8 c138.toNat)/\World.cell? J ⟨ν,((((ξ+G.toNat* 5)+1)+1)+1),none⟩=some (.string (ak s139))/\World.cell? J ⟨ν,(((((ξ+G.toNat* 5)+1)+1)+1)+1),none⟩=some (.bool q140)/\True)/\db J (.cells #[(.int .u8 0),(.int .u8 0),(.int .u8 0),(.string ⟨#[]⟩),(.bool false)] 122) λι w142=>Lg w142 ι 0 5 [(.int .u8 c136.toNat),(.int .u8 c137.toNat),(.int .u8 c138.toNat),(.string (ak s139)),(.bool q140)] λδ=>rG δ ι 0 λc144=>Gp (!decide (c144=63)) (rG δ ι 1 λc145=>rG δ ς 1 λc146=>bZ (!decide (c145=c146)) (bG (G+1)/\I126 f128 Z (G+1) δ/\θ f128 Z (G+1) δ< θ f128 Z G J) (jf δ λε w148=>IY ε ς 3 λs149=>IY ε ι 3 λs150=>GM ε ι 2 λc151=>GM ε ς 2 λc152=>lg 111 #[v5,(.int .i64 β),(.int .i64 H)] w148 λv153 w154=>ε w154/\KF 112 #[(.string (ak s150)),(.int .u8 c151.toNat),(.int .u8 c152.toNat)] w154 λs155 w156=>ε w156/\db w156 (.cells #[(.string (ak s149)),(.string (ak s155))] 9) λb157 w158=>ε w158/\nV 9 1 16 w158 v153 (.slice (some ⟨b157,0,none⟩) 2 2) λv164 χ=>ε χ/\∃J166:Value->Sb,(NG χ ι 4 λq167=>bZ q167 (db χ (.cells #[(.string (ak s120))] 9) λb168 w169=>nV 9 1 16 w169 v164 (.slice (some ⟨b168,0,none⟩) 1 1) λv175 w176=>J166 v175 w176) (J166 v164 χ))/\∀(l177:Value) (w178:World),J166 l177 w178->qu 110 #[(.string (ak s2)),l177] w178 λs179 q180 w181=>∃J182:Bool->aD->Sb,(bZ f128 (J182 q180 s179 w181) (J182 false s179 w181))/\∀(f183:Bool) (n184:aD) (w185:World),J182 f183 n184 w185->db w185 (.cells #[(.string (ak n184))] 9) λb186 w187=>nV 9 1 16 w187 Z (.slice (some ⟨b186,0,none⟩) 1 1) λv193 w194=>bG (G+1)/\I126 f183 v193 (G+1) w194/\θ f183 v193 (G+1) w194< θ f128 Z G J)) (bG (G+1)/\I126 f128 Z (G+1) δ/\θ f128 Z (G+1) δ< θ f128 Z G J)) (bG (H+1)/\I110 f128 Z (H+1) J/\φ f128 Z (H+1) J< φ f112 ζ H γ))) (bG (α+1)/\I26 f112 ζ (α+1) γ/\m27 f112 ζ (α+1) γ< m27 f28 ο α η))) (bG (β+1)/\I10 f28 ο (β+1) η/\m11 f28 ο (β+1) η< m11 f12 o13 β ψ)) (bZ (!f12) (R (.slice none 0 0) false ψ) (lg 52 #[o13] ψ λv195 w196=>R v195 true w196))):
  Sc 56 #[(.string (ak p1))] w (aw [.v,.b] R):=
 Iz (a6 [(6,[(7,.b),(8,.v),(31,.i)]),(9,[(7,.b),(8,.v),(39,.i)]),(17,[(7,.b),(8,.v),(72,.i)]),(21,[(7,.b),(8,.v),(83,.i)])] [(14,[(7,.b),(13,.s)]),(15,[(7,.b),(8,.v)]),(27,[(19,.v)]),(29,[(7,.b),(20,.s)])] [(12,false,.lt 0 (.lt 1 (.lt 2 (.lt 3 (.lt 5 (.lt 6 (.br .h 4 (.one .h 7 (.one .h 8 (.one .h 9 (.lt 10 (.lt 11 (.lt 12 (.lt 13 (.lt 14 .done)))))))) (.one .h 7 (.one .h 4 (.one .h 8 (.one .h 9 (.lt 10 (.lt 11 (.lt 12 (.lt 13 (.lt 14 .done)))))))))))))))),(24,false,.lt 0 (.lt 1 (.lt 2 (.lt 4 (.lt 5 (.lt 6 (.lt 7 (.lt 8 (.lt 9 (.lt 10 (.lt 11 (.one .h 3 (.one .h 12 (.one .h 13 (.one .h 14 (.lt 15 .done))))))))))))))))]) [.tmp 2 .v,.tmp 3 .b] [.s p1] Tryz.func56 (by kernel_rfl) h
section
open T Classical
def HA (t:P):t.ev T.gd1=t.parts.all λq=>(!decide (t.kind=43)||q.gp)&&q.ev T.gd1:=by
 rw [uB];cases t<;>simp [T.gd1,T.parts,T.kind]
 case sum p q=>
  cases p.gp<;>cases q.gp<;>cases p.ev T.gd1<;>cases q.ev T.gd1<;>rfl
def HE (t:P):t.ev T.rp1=t.parts.all λq=>(!decide (t.kind=42)||q.isR)&&q.ev T.rp1:=by
 rw [uB];cases t<;>simp [T.rp1,T.parts,T.kind]
def DY (q:P):decide (q.kind∈([33,63,126,43,48]:Tx))=q.gp:=by cases q<;>simp [T.kind,T.gp]
def BF (q:P):decide (q.kind=63)=q.isR:=by cases q<;>rfl
def BU {X:Type}{l:List X}{f:X->Bool}{k:Nat}(h:k< l.length):(l.take (k+1)).all f=((l.take k).all f&&f l[k]):=by
 rw [OC h,QP];simp
def all_false {X:Type}{l:List X}{f:X->Bool}{k:Nat}(h:k< l.length)(G:f l[k]=false):l.all f=false:=by
 rw [List.all_eq_false];exact⟨_,Oz h,by rw [G];simp⟩
def Ck:∀(n:Nat) {t:P},t.size<=n->Ok t->∀{w:World} {R:Bool->Sb},(∀w',Ex w w'->R (t.ev T.gd1) w')->Sc 160 #[.string (ak t.text)] w (aw [.b] R):=by
 intro n
 induction n with
 | zero=>intro t h;have :=aX t;omega
 | succ n ih=>
  intro t hn ok w R h;refine pg _ w R ?_;dsimp only [go_sem];dsimp only [go_sem,UInt8.reduceOfNat];refine de ok λv w3 β hs=>?_
  obtain⟨a,cap,hv⟩:=hs.slice;rw [OM]at hv;rw [HA]at h;refine⟨a,t.parts.length,cap,hv,λx w'=>Ex w3 w'/\∃k:Nat,x=k/\k<=t.parts.length/\(t.parts.take k).all (λq=>(!decide (t.kind=43)||q.gp)&&q.ev T.gd1)=true,λx _=>((t.parts.length:Int) - x).toNat,⟨Ex.refl _,0,rfl,by omega,rfl⟩,λx w4 hI=>?_⟩;obtain⟨H,k,rfl,hk,J⟩:=hI;refine⟨λhc=>?_,λhc=>?_⟩
  ·have G:k< t.parts.length:=by simpa using hc
   have α:t.parts[k]∈t.parts:=Oz G;have γ:=ok.parts _ α;have δ:=eA α;refine hs.get H (i:=k) (by omega) (x:=(t.parts[k]).text) (by simp [G]) ?_;have key:∀{w':World},Ex w3 w'->(!decide (t.kind=43)||t.parts[k].gp)=true->∀Z,Ex w' Z->((!t.parts[k].ev T.gd1)=true->R false Z)/\((!t.parts[k].ev T.gd1)=false->bG ((k:Int)+1)/\(Ex w3 Z/\∃j:Nat,(k:Int)+1=j/\j<=t.parts.length/\(t.parts.take j).all (λq=>(!decide (t.kind=43)||q.gp)&&q.ev T.gd1)=true)/\((t.parts.length:Int) - ((k:Int)+1)).toNat< ((t.parts.length:Int) - k).toNat):=λ{w'} x1 hg Z x2=>by
    have hx:=Ex.trans x1 x2;refine⟨λhq=>?_,λhq=>⟨by unfold bG;have :=dE t;omega,⟨hx,k+1,by omega,G,?_⟩,by omega⟩⟩
    ·have :=h Z (Ex.trans β hx);rw [all_false G (by rw [hg];simpa using hq)]at this;exact this
    ·rw [BU G,J,hg];simpa using hq
   refine aT ok ⟨λhc=>aT γ (dZ (by simp) ⟨λhq=>?_,λhq=>?_⟩),λhc=>?_⟩
   ·rw [DY]at hq;have hg:t.parts[k].gp=true:=by simpa using hq
    exact ih (by omega) γ λZ x5=>key H (by rw [hg];simp) Z x5
   ·rw [DY]at hq;have hg:t.parts[k].gp=false:=by simpa using hq
    have :=h w4 (Ex.trans β H);rw [all_false G (by rw [hc,hg];rfl)]at this;exact this
   ·exact ih (by omega) γ λZ x5=>key H (by rw [hc];rfl) Z x5
  ·have G:k=t.parts.length:=by simp at hc;omega
   subst G;rw [O4]at J;have :=h w4 (Ex.trans β H);rw [J]at this;exact this
def CV:∀(n:Nat) {t:P},t.size<=n->Ok t->∀{w:World} {R:Bool->Sb},(∀w',Ex w w'->R (t.ev T.rp1) w')->Sc 161 #[.string (ak t.text)] w (aw [.b] R):=by
 intro n
 induction n with
 | zero=>intro t h;have :=aX t;omega
 | succ n ih=>
  intro t hn ok w R h;refine qS _ w R ?_;dsimp only [go_sem];dsimp only [go_sem,UInt8.reduceOfNat];refine de ok λv w3 β hs=>?_
  obtain⟨a,cap,hv⟩:=hs.slice;rw [OM]at hv;rw [HE]at h;refine⟨a,t.parts.length,cap,hv,λx w'=>Ex w3 w'/\∃k:Nat,x=k/\k<=t.parts.length/\(t.parts.take k).all (λq=>(!decide (t.kind=42)||q.isR)&&q.ev T.rp1)=true,λx _=>((t.parts.length:Int) - x).toNat,⟨Ex.refl _,0,rfl,by omega,rfl⟩,λx w4 hI=>?_⟩;obtain⟨H,k,rfl,hk,J⟩:=hI;refine⟨λhc=>?_,λhc=>?_⟩
  ·have G:k< t.parts.length:=by simpa using hc
   have α:t.parts[k]∈t.parts:=Oz G;have γ:=ok.parts _ α;have δ:=eA α;refine hs.get H (i:=k) (by omega) (x:=(t.parts[k]).text) (by simp [G]) ?_;have key:∀{w':World},Ex w3 w'->(!decide (t.kind=42)||t.parts[k].isR)=true->∀Z,Ex w' Z->((!t.parts[k].ev T.rp1)=true->R false Z)/\((!t.parts[k].ev T.rp1)=false->bG ((k:Int)+1)/\(Ex w3 Z/\∃j:Nat,(k:Int)+1=j/\j<=t.parts.length/\(t.parts.take j).all (λq=>(!decide (t.kind=42)||q.isR)&&q.ev T.rp1)=true)/\((t.parts.length:Int) - ((k:Int)+1)).toNat< ((t.parts.length:Int) - k).toNat):=λ{w'} x1 hg Z x2=>by
    have hx:=Ex.trans x1 x2;refine⟨λhq=>?_,λhq=>⟨by unfold bG;have :=dE t;omega,⟨hx,k+1,by omega,G,?_⟩,by omega⟩⟩
    ·have :=h Z (Ex.trans β hx);rw [all_false G (by rw [hg];simpa using hq)]at this;exact this
    ·rw [BU G,J,hg];simpa using hq
   refine aT ok ⟨λhc=>aT γ ⟨λhq=>?_,λhq=>?_⟩,λhc=>?_⟩
   ·rw [BF]at hq;have hg:t.parts[k].isR=true:=by simpa using hq
    exact ih (by omega) γ λZ x5=>key H (by rw [hg];simp) Z x5
   ·rw [BF]at hq;have hg:t.parts[k].isR=false:=by simpa using hq
    have :=h w4 (Ex.trans β H);rw [all_false G (by rw [hc,hg];rfl)]at this;exact this
   ·exact ih (by omega) γ λZ x5=>key H (by rw [hc];rfl) Z x5
  ·have G:k=t.parts.length:=by simp at hc;omega
   subst G;rw [O4]at J;have :=h w4 (Ex.trans β H);rw [J]at this;exact this
def CQ {t:P}(ok:Ok t){w:World}{R:Bool->Sb}(h:∀w',Ex w w'->R t.smp w'):Sc 89 #[.string (ak t.text)] w (aw [.b] R):=by
 refine qH _ w R ?_;dsimp only [go_sem];refine Ck _ (OB _) ok λw1 H=>⟨λG=>?_,λG=>?_⟩
 ·refine CV _ (OB _) ok λJ Z=>?_
  have :=h J (Ex.trans H Z);rw [eY,G,Qa]at this;exact this
 ·have :=h w1 H;rw [eY,G,RE]at this;exact this
def yb {p:Tx}:(∃t:P,Good t/\t.text=p)↔∃t:P,t.Al (λc=>lt c=true)/\t.text=p/\dJ p:=by
 constructor
 ·rintro⟨t,h,rfl⟩
  exact⟨t,jN.1 h.lw,rfl,lC.1 ⟨t,h,rfl⟩⟩
 ·rintro⟨t,H,rfl,G⟩
  exact lC.2 G
def Bg {t:P}(h:t.Al λc=>lt c=true)(g:dJ t.text):Ok t:=⟨h.wf,by have :=g.1;omega⟩
def Jd {t:P}(h:t.Al λc=>lt c=true)(g:dJ t.text):t.size<=60:=by
 obtain⟨_,Z,G,H,J⟩:=g;have :=eV G.wf h.wf H;subst this;exact J
def Mg {p:Tx}{w:World}{R:Bool->Sb}(h:∀b w',Ex w w'->(b=true->∃t:P,t.Al (λc=>lt c=true)/\t.text=p/\dJ p)->(b=false->¬Na p)->R b w'):Sc 88 #[.string (ak p)] w (aw [.b] R):=
 yh λb w' x hb=>h b w' x (λe=>yb.1 (hb.1 e)) λe ⟨t,G,H,J,_⟩=>by
  have :=hb.2 (yb.2 ⟨t,G,H,J⟩);rw [e]at this;cases this
def Jm {t:P}(h:t.Al λc=>lt c=true)(G:t.smp=false):¬Na t.text:=fun⟨Z,H,J,_,h4⟩=>by
 have :=eV H.wf h.wf J;subst this;rw [G]at h4;cases h4
def KG {t:P}(h:t.Al λc=>lt c=true)(g:dJ t.text):gB 0 t σ0 (num t e0 0).1:=by
 have G:=Jd h g;have :=bX t;have nu:=ma h;have :=T.gh t;have d:Den 0 t σ0 (num t e0 0).1:=⟨h.wf,by have :=g.1;omega,⟨h.eb 0,by omega⟩,lH h,λy z _ _ e=>by unfold σ0 at e;omega,nu.uq⟩
 exact⟨d,λz H J=>absurd J (dW (nZ (h.free z H))),nu,λ _ _=>rfl,d.lb (by omega)⟩
def Fy {p:Tx}{w:World}{R:aD->Bool->Sb}(h:∀w',Ex w w'->(∀s,e8 p=some s->R s true w')/\(e8 p=none->R [] false w')):Sc 41 #[.string (ak p)] w (aw [.s,.b] R):=by
 refine sF _ w R ?_;dsimp only [go_sem];refine Mg λb w1 J Z α=>⟨λhb=>?_,λhb=>?_⟩
 ·have hb:b=true:=by simpa using hb
  obtain⟨t,H,rfl,h3⟩:=Z hb;refine CQ (Bg H h3) λw2 x2=>⟨λG=>?_,λG=>?_⟩
  ·have G:t.smp=false:=by simpa using G
   exact(h w2 (Ex.trans J x2)).2 (iL (Jm H G))
  ·have G:t.smp=true:=by simpa using G
   refine zd (KG H h3) λw3 x3=>?_
   have :=h w3 (Ex.trans (Ex.trans J x2) x3);rw [yg H h3 G]at this;exact this
 ·have hb:b=false:=by simpa using hb
  exact(h w1 J).2 (iL (α hb))
def T.Gn:P->P
 | .res _ p=>p.Gn
 | t=>t
def xM:∀{t:P},Ok t->Ok t.Gn/\t.Gn.ths=t.ths/\t.Gn.frL=[]/\t.Gn.text.length<=t.text.length/\(t.Nr->t.Gn.Nr)
 | .res x p,ok=>by
  have h:=xM (t:=p) (ok.parts p (by simp [T.parts]));refine⟨h.1,h.2.1,h.2.2.1,?_,λn=>h.2.2.2.2 n.2⟩;have :=h.2.2.2.1;show p.Gn.text.length<=(35::x::46::p.text).length;simp only [Ov];omega
 | .nil,ok=>⟨ok,rfl,rfl,OB _,id⟩
 | .snd ..,ok=>⟨ok,rfl,rfl,OB _,id⟩
 | .rcv ..,ok=>⟨ok,rfl,rfl,OB _,id⟩
 | .tau ..,ok=>⟨ok,rfl,rfl,OB _,id⟩
 | .sum ..,ok=>⟨ok,rfl,rfl,OB _,id⟩
 | .par ..,ok=>⟨ok,rfl,rfl,OB _,id⟩
 | .mat ..,ok=>⟨ok,rfl,rfl,OB _,id⟩
 | .rep ..,ok=>⟨ok,rfl,rfl,OB _,id⟩
def JH (t:P):t.frL.length<=t.text.length:=by
 induction t with
 | res x p G=>
  show(x::p.frL).length<=(35::x::46::p.text).length;simp only [Ov];omega
 | _=>simp [T.frL]
def mB {t:P}(ok:Ok t){w:World}{R:aD->aD->Sb}(h:R t.frL t.Gn.text w):Sc 107 #[.string (ak t.text)] w (aw [.s,.s] R):=by
 refine te _ w R ?_;dsimp only [go_sem];refine⟨λs f w'=>w'=w/\∃q:P,s=q.text/\Ok q/\t.frL=f++q.frL/\t.Gn=q.Gn,λs _ _=>s.length,⟨rfl,t,rfl,ok,rfl,rfl⟩,λs f w' hI=>?_⟩;obtain⟨rfl,q,rfl,G,H,hb⟩:=hI;have hlen:=JH t;have hl:=ok.len;refine aT G ⟨λJ=>?_,λJ=>?_⟩
 ·cases q<;>simp [T.kind]at J
  rename_i x p;have e:(T.res x p).text=35::x::46::p.text:=rfl;rw [e];have α:f.length+1<=t.frL.length:=by
   have :=PA List.length H;simp only [T.frL,Oy,Ov]at this;omega
  refine⟨⟨by omega,by omega,by simp only [Ov];omega⟩,by simp;omega,⟨by omega,by simp only [Ov];omega⟩,⟨rfl,p,rfl,G.parts p (by simp [T.parts]),?_,hb⟩,?_⟩
  ·rw [H];show f++(x::p.frL)=(f++[x])++p.frL;simp
  ·show p.text.length< (35::x::46::p.text).length;simp only [Ov];omega
 ·have Z:q.frL=[]/\q.Gn=q:=by cases q<;>simp [T.kind]at J<;>exact⟨rfl,rfl⟩
  rw [Z.1,O5]at H;rw [<-H];rw [hb,Z.2]at h;exact h
def mh {t:P}(ok:Ok t)(n:t.Nr){w:World}{R:Value->Sb}(h:∀v w',Ex w w'->Own w.heap.size w' v (t.ths.map T.text)->R v w'):Sc 108 #[.string (ak t.text)] w (aw [.v] R):=by
 refine pR _ w R ?_;dsimp only [go_sem];dsimp only [go_sem,Nat.reduceAdd];obtain⟨α,δ,ο,hbl,ς⟩:=xM ok;have nb:=ς n;rw [<-δ]at h;refine mB ok ?_;have hl:=α.len;generalize t.Gn=q at*;refine aT α ⟨λhc=>?_,λhc=>?_⟩
 ·cases q<;>simp [T.kind]at hc
  exact h _ w (Ex.refl w) (Own.nil _ _)
 ·have hq:q.th=true\/q.isP=true:=by cases q<;>simp [T.kind,T.th,T.isP,T.frL]at hc ο|-
  refine⟨λs out w'=>Ex w w'/\∃(r:P) (l:List P),s=r.text/\Ok r/\r.Nr/\(r.th=true\/r.isP=true)/\q.ths=l++r.ths/\l.length+r.text.length<=q.text.length/\Own w.heap.size w' out (l.map T.text),λs _ _=>s.length,⟨Ex.refl w,q,[],rfl,α,nb,hq,rfl,by simp,Own.nil _ _⟩,λs out w' hI=>?_⟩;obtain⟨x,r,l,rfl,β,nr,hr,ε,hl3,ho⟩:=hI;have hpos:1<=r.text.length:=by cases r<;>simp [T.text]
  refine aT β ⟨λhc=>?_,λhc=>?_⟩
  ·cases r<;>simp [T.kind]at hc
   rename_i a b;refine qK β λv1 w1 x1 ζ υ=>?_
   have φ:=Ex.trans x x1;refine ζ.get (Ex.refl _) (i:=0) (x:=a.text) (by omega) rfl (Q:=λn=>_) λb21 χ η G=>?_
   have γ:Ex w1 χ:=G▸Ex.alloc w1 _;have H:=Ex.trans φ γ;refine Own.push ((ho.ex x1).ex γ) H.size (Strs.one η G) (by simp only [OM,Ov,ON];omega) λv28 ψ ω θ hg hn=>?_
   have ι:=Ex.below H ω;have κ:Strs ψ v1 ((T.par a b).parts.map T.text):=by
    refine(ζ.ex γ).grown hg λg hg' e=>?_
    have h1:=(ho.block g e).2;have h2:=υ g hg';omega
   refine κ.get (Ex.refl _) (i:=1) (x:=b.text) (by omega) rfl (Q:=λn=>_) ⟨⟨ι,b,l++[a],rfl,β.parts b (by simp [T.parts]),nr.2.2,nr.1.2,?_,?_,by simpa using θ⟩,?_⟩
   ·rw [ε];simp [T.ths]
   ·have:(T.par a b).text.length=a.text.length+b.text.length+3:=by simp [T.text];omega
    simp only [Oy,Ov,ON];omega
   ·have:(T.par a b).text.length=a.text.length+b.text.length+3:=by simp [T.text];omega
    show b.text.length< (T.par a b).text.length;omega
  ·have hrt:r.th=true:=hr.resolve_right λe=>by cases r<;>simp [T.isP]at e;simp [T.kind]at hc
   intro b35 w36 μ J;have ν:Ex w' w36:=J▸Ex.alloc w' _;have Z:=Ex.trans x ν;refine Own.push (ho.ex ν) Z.size (Strs.one μ J) (by simp only [OM,Ov,ON];omega) λv42 w43 b43 ξ hg hn=>h _ w43 (Ex.below Z b43) ?_
   rw [ε,j5 hrt];simpa using ξ
def eH {w:World}{v:Value}{l:List Tx}(hs:Strs w v l)(hl:l.length<=1000000000){i j:Nat}{R:Value->Sb}(h:∀v' w',Ex w w'->Own w.heap.size w' v' (wo l i j)->R v' w'):
  Sc 111 #[v,.int .i64 i,.int .i64 j] w (aw [.v] R):=by
 refine pX v i j w R ?_;dsimp only [go_sem];dsimp only [go_sem,Nat.reduceAdd];obtain⟨a,cap,hv⟩:=hs.slice;refine⟨a,_,cap,hv,λout x w'=>Ex w w'/\∃k:Nat,x=k/\k<=l.length/\Own w.heap.size w' out (wo (l.take k) i j)/\(wo (l.take k) i j).length<=k,λ _ x _=>((l.length:Int) - x).toNat,⟨Ex.refl w,0,rfl,Pn _,Own.nil _ _,OB _⟩,λout x w' hI=>?_⟩;obtain⟨x,k,rfl,hk,ho,ζ⟩:=hI;refine⟨λhc=>?_,λhc=>?_⟩
 ·have G:=oL hc;have hm:=@tN l.length k (by omega);have e:wo (l.take (k+1)) i j=wo (l.take k) i j++if !(k==i)&& !(k==j)then [l[k]]else []:=by
   unfold wo;rw [OC G,List.zipIdx_append,PD,Pm]
   congr 1
   have:(l.take k).length=k:=by rw [Pd];omega
   simp only [List.zipIdx_cons,List.zipIdx_nil,O6,this,List.filter_cons,List.filter_nil];split<;>rfl
  have skip:(!(k==i)&& !(k==j))=false->bG ((k:Int)+1)/\(Ex w w'/\∃k':Nat,(k:Int)+1=k'/\k'<=l.length/\Own w.heap.size w' out (wo (l.take k') i j)/\(wo (l.take k') i j).length<=k')/\((l.length:Int) - ((k:Int)+1)).toNat< ((l.length:Int) - k).toNat:=λh=>by
   refine⟨by omega,⟨x,k+1,by omega,G,?_⟩,hm⟩;rw [e,h];simp only [Qp,Rb,O5];exact⟨ho,by omega⟩
  refine hs.get x (i:=k) (x:=l[k]) (by omega) (by simp [G]) (Q:=λn=>_) ⟨λhi=>⟨λZ=>?_,λZ=>?_⟩,λhi=>?_⟩
  ·have hi:k≠i:=by simp at hi;omega
   have Z:k≠j:=by simp at Z;omega
   intro η δ α H;have β:Ex w' δ:=H▸Ex.alloc w' _;have J:=Ex.trans x β;refine Own.push (ho.ex β) J.size (Strs.one α H) (by simp only [Ov,ON];omega) λv24 θ ε γ hg hn=>⟨by omega,⟨Ex.below J ε,k+1,by omega,G,?_⟩,hm⟩
   rw [e];have:(!(k==i)&& !(k==j))=true:=by simp [hi,Z]
   rw [this,O' rfl];exact⟨γ,by simp only [Oy,Ov,ON];omega⟩
  ·have Z:k=j:=by simp at Z;omega
   exact skip (by simp [Z])
  ·have hi:k=i:=by simp at hi;omega
   exact skip (by simp [hi])
 ·have:k=l.length:=by simp at hc;omega
  subst this;rw [O4]at ho;exact h _ w' x ho
def uj {w:World}{v:Value}{l:List Tx}(hs:Strs w v l)(hl:l.length<=1000000000000){R:Value->Sb}(h:∀v' w',Ex w w'->Own w.heap.size w' v' (dd (aK l))->R v' w'):
  Sc 52 #[v] w (aw [.v] R):=by
 refine vO v w R ?_;dsimp only [go_sem];dsimp only [go_sem,Nat.reduceAdd];refine oX hs (by omega) λv2 w3 x3 μ=>?_
 have hlen:(aK l).length=l.length:=(aG l).length_eq;generalize aK l=m at*;have η:=μ.strs;obtain⟨a,cap,hv⟩:=η.slice;refine⟨a,_,cap,hv,λout x w'=>Ex w3 w'/\∃k:Nat,x=k/\k<=m.length/\Own w3.heap.size w' out (dd (m.take k)),λ _ x _=>((m.length:Int) - x).toNat,⟨Ex.refl w3,0,rfl,Pn _,Own.nil _ _⟩,λout x w' hI=>?_⟩;obtain⟨x,k,rfl,hk,ho⟩:=hI;refine⟨λhc=>?_,λhc=>?_⟩
 ·have δ:=oL hc;have hm:=@tN m.length k (by omega);have e:dd (m.take (k+1))=Cq (dd (m.take k)) m[k]:=by rw [OC δ,fW]
  have ν:=vJ (m.take k);rw [Pd]at ν;have push:∀(α:Nat) (G:World),α=w'.heap.size->G=w'.alloc (.cells #[.string (ak m[k])] 9)->(dd (m.take k)).getLast?≠some m[k]->∀{K:Value->Sb},(∀γ β,(Ex w3 β/\∃k':Nat,(k:Int)+1=k'/\k'<=m.length/\Own w3.heap.size β γ (dd (m.take k')))->K γ β)->
    ∃(base n k:Nat) (xs news:List Value),World.ownsRow G base 9 1 out n xs/\base<=Array.size (World.heap G)/\fp G (.slice (some ⟨α,0,none⟩) 1 1) k 1 news/\(n+k<=maxLen/\(n+k)* 16<=140737488355328)/\
   ∀(v':Value) (w':World),World.ownsRow w' base 9 1 v' (n+k) (xs++news)->World.grownBy G w' (Value.ownBlock out)->(∀b:Nat,Value.ownBlock v'=some b->Value.ownBlock out=some b\/Array.size (World.heap G)<=b)->K v' w':=λα G Z H J {K} hK=>by
   have θ:Ex w' G:=H▸Ex.alloc w' _;have ε:=Ex.trans x θ;refine Own.push (ho.ex θ) ε.size (Strs.one Z H) (by simp only [Ov,ON];omega) λγ β ξ ι hg hn=>hK _ _ ⟨Ex.below ε ξ,k+1,by omega,δ,?_⟩
   rw [e];unfold Cq;rw [OP J];exact ι
  refine η.get x (i:=k) (x:=m[k]) (by omega) (by simp [δ]) (Q:=λn=>_) ?_;obtain⟨ao,ζ,κ⟩:=ho.strs.slice;refine⟨ao,_,ζ,κ,λhz=>?_,λhz=>?_⟩
  ·have hz:(dd (m.take k)).length≠0:=by
    intro e0;simp [e0]at hz
   refine⟨ao,_,ζ,κ,by omega,ho.strs.get (Ex.refl _) (i:=((dd (m.take k)).length:Int) - 1) (x:=(dd (m.take k)).getLast (λe=>hz (by rw [e];rfl))) (by omega) ?_ (Q:=λn=>_) ⟨λJ=>?_,λJ=>?_⟩⟩
   ·rw [show(((dd (m.take k)).length:Int) - 1).toNat=(dd (m.take k)).length - 1 by omega,<-Q9,List.getLast?_eq_some_getLast]
   ·have J:(dd (m.take k)).getLast?≠some m[k]:=by
     rw [List.getLast?_eq_some_getLast (λe=>hz (by rw [e];rfl))];simpa using J
    exact λα G Z H=>push α G Z H J λγ β hI=>⟨by omega,hI,hm⟩
   ·have J:(dd (m.take k)).getLast?=some m[k]:=by
     rw [List.getLast?_eq_some_getLast (λe=>hz (by rw [e];rfl))];simpa using J
    exact⟨by omega,⟨x,k+1,by omega,δ,by rw [e];unfold Cq;rw [O' J];exact ho⟩,hm⟩
  ·have hz:dd (m.take k)=[]:=by
    refine Pa ?_;simpa using hz
   exact λα G Z H=>push α G Z H (by rw [hz];simp) λγ β hI=>⟨by omega,hI,hm⟩
 ·have:k=m.length:=by simp at hc;omega
  subst this;rw [O4]at ho;exact h _ w' (Ex.trans x3 x) (ho.mono x3.size)
end
def cB (B:Nat)(w:World)(v:Value)(n:Nat)(xs:List Value):Prop:=w.ownsRow B 134 5 v n xs
def cB.nil (B:Nat)(w:World):cB B w (.slice none 0 0) 0 []:=RA _ _ _ _
def cB.block {B:Nat}{w:World}{v:Value}{n:Nat}{xs:List Value}(h:cB B w v n xs):∀b,v.ownBlock=some b->B<=b/\b< w.heap.size:=QX h
def cB.kp {B:Nat}{w w':World}{S:Nat->Prop}{v:Value}{n:Nat}{xs:List Value}(h:cB B w v n xs)(k:Kp w w' S)(H:∀g,v.ownBlock=some g->¬S g):cB B w' v n xs:=by
 refine⟨h.1,?_⟩;rcases h.2 with J | ⟨g,cap,cur,rfl,hb,G,rest⟩
 ·exact .inl J
 ·exact .inr ⟨g,cap,cur,rfl,hb,by rw [k.block g (Ph.1 G).1 (H g rfl)];exact G,rest⟩
def cB.ex {B:Nat}{w w':World}{v:Value}{n:Nat}{xs:List Value}(h:cB B w v n xs)(x:Ex w w'):cB B w' v n xs:=h.kp (Kp.ab x λ _=>False) λ _ _ h=>h
def cB.mono {B G:Nat}{w:World}{v:Value}{n:Nat}{xs:List Value}(h:cB B w v n xs)(hb:G<=B):cB G w v n xs:=Q4 h hb
def cB.zero {w w':World}{B b:Nat}(hB:B<=w.heap.size)(hb:b=w.heap.size)(h:w'=w.alloc (.cells #[] 134)):cB B w' (.slice (some ⟨b,0,none⟩) 0 0) 0 []:=by
 subst hb h;refine⟨rfl,.inr ⟨_,0,#[],rfl,hB,?_,by simp,by unfold maxLen;omega,rfl,rfl⟩⟩;unfold World.alloc;simp
def cB.one {w w':World}{B b:Nat}{cs:List Value}(G:cs.length=5)(hB:B<=w.heap.size)(hb:b=w.heap.size)(h:w'=w.alloc (.cells cs.toArray 134)):cB B w' (.slice (some ⟨b,0,none⟩) 1 1) 1 cs:=by
 subst hb h;refine⟨by rw [G],.inr ⟨_,1,cs.toArray,rfl,hB,?_,by simp,by unfold maxLen;omega,by simp [G],Rm (by simp [G])⟩⟩;unfold World.alloc;simp
def cB.cell {B:Nat}{w:World}{v:Value}{n:Nat}{xs:List Value}(h:cB B w v n xs):(v= .slice none 0 0/\n=0/\xs=[])\/∃g cap,v= .slice (some ⟨g,0,none⟩) n cap/\g< w.heap.size/\∀j u,xs[j]?=some u->w.cell? ⟨g,0+j,none⟩=some u:=by
 have G:=h.1;rcases h.2 with⟨Z,H⟩ | ⟨g,cap,cur,rfl,hb,J,h1,h2,h3,h4⟩
 ·left;refine⟨Z,H,Pa (by rw [G,H])⟩
 ·refine .inr ⟨g,cap,rfl,(Ph.1 J).1,λj u hu=>?_⟩;have hj:j< xs.length:=(Px.1 hu).1;unfold World.cell?;simp only [J,O6];rw [<-h4,PS (by rw [<-G];exact hj),PO]at hu;exact hu
def cB.src {B:Nat}{w:World}{v:Value}{n:Nat}{xs:List Value}(h:cB B w v n xs)(ha:xs.all oneV=true):fp w v n 5 xs:=by
 refine⟨h.1,ha,?_⟩;rcases h.cell with⟨rfl,rfl,_⟩ | ⟨g,cap,rfl,_,G⟩
 ·exact .inl ⟨rfl,rfl⟩
 ·exact .inr ⟨g,0,cap,rfl,G⟩
def cB.push {B:Nat}{w:World}{v x:Value}{n m:Nat}{xs J:List Value}(h:cB B w v n xs)(hB:B<=w.heap.size)(Z:fp w x m 5 J)(hl:n+m<=1099511627776){K:Value->Sb}
  (hK:∀G w',cB B w' G (n+m) (xs++J)->w.grownBy w' v.ownBlock->(∀b,G.ownBlock=some b->v.ownBlock=some b\/w.heap.size<=b)->K G w'):
  ∃(base n' m':Nat) (H news:List Value),World.ownsRow w base 134 5 v n' H/\base<=Array.size (World.heap w)/\fp w x m' 5 news/\(n'+m'<=maxLen/\(n'+m')* 40<=140737488355328)/\
   ∀(G:Value) (w':World),World.ownsRow w' base 134 5 G (n'+m') (H++news)->World.grownBy w w' (Value.ownBlock v)->(∀b:Nat,Value.ownBlock G=some b->Value.ownBlock v=some b\/Array.size (World.heap w)<=b)->K G w':=
 ⟨B,n,m,xs,J,h,hB,Z,⟨by unfold maxLen;omega,by omega⟩,λG w' ho hg hw=>hK G w' ho hg hw⟩
def bR (k:UInt8)(a b:Nat)(vr:Value)(s:Bool):List Value:=[.int .u8 k.toNat,iv a,iv b,vr,.bool s]
def kv (D:Nat->Prop)(w:World):Off Nat->List Value->Prop
 | .tau p,cs=>∃a b vr s,cs=bR 126 a b vr s/\az D w (td p) vr
 | .snd a b p,cs=>∃vr s,cs=bR 33 a b vr s/\az D w (td p) vr
 | .rcv a x q s,cs=>∃vr,cs=bR 63 a x vr s/\az D w (td q) vr
def kv.ex {D:Nat->Prop}{w w':World}{o:Off Nat}{cs:List Value}(h:kv D w o cs)(x:Ex w w'):kv D w' o cs:=by
 cases o with
 | tau p=>obtain⟨a,b,vr,s,G,H⟩:=h;exact⟨a,b,vr,s,G,az.ex H x⟩
 | snd a b p=>obtain⟨vr,s,G,H⟩:=h;exact⟨vr,s,G,az.ex H x⟩
 | rcv a b p s=>obtain⟨vr,G,H⟩:=h;exact⟨vr,G,az.ex H x⟩
def kv.kp {D S:Nat->Prop}{w w':World}{o:Off Nat}{cs:List Value}(h:kv D w o cs)(k:Kp w w' S)(J:∀g,D g->¬S g):kv D w' o cs:=by
 cases o with
 | tau p=>obtain⟨a,b,vr,s,G,H⟩:=h;exact⟨a,b,vr,s,G,az.kp H k J⟩
 | snd a b p=>obtain⟨vr,s,G,H⟩:=h;exact⟨vr,s,G,az.kp H k J⟩
 | rcv a b p s=>obtain⟨vr,G,H⟩:=h;exact⟨vr,G,az.kp H k J⟩
def kv.len {D:Nat->Prop}{w:World}{o:Off Nat}{cs:List Value}(h:kv D w o cs):cs.length=5/\cs.all oneV=true:=by
 cases o with
 | tau p=>obtain⟨a,b,vr,s,rfl,G⟩:=h;exact⟨rfl,by have :=G.one;simp only [bR,PQ,Rq,QL,this]⟩
 | snd a b p=>obtain⟨vr,s,rfl,G⟩:=h;exact⟨rfl,by have :=G.one;simp only [bR,PQ,Rq,QL,this]⟩
 | rcv a b p s=>obtain⟨vr,rfl,G⟩:=h;exact⟨rfl,by have :=G.one;simp only [bR,PQ,Rq,QL,this]⟩
def OffsM (D:Nat->Prop)(w:World):List (Off Nat)->List Value->Prop
 | [],xs=>xs=[]
 | o::os,xs=>∃cs G,xs=cs++G/\kv D w o cs/\OffsM D w os G
section
variable {D S:Nat->Prop} {w w':World}
def OffsM.kp (k:Kp w w' S)(G:∀g,D g->¬S g):∀{os:List (Off Nat)} {xs:List Value},OffsM D w os xs->OffsM D w' os xs
 | [],_,h=>h
 | _::_,_,⟨cs,H,J,Z,h3⟩=>⟨cs,H,J,Z.kp k G,OffsM.kp k G h3⟩
def OffsM.ex {os:List (Off Nat)}{xs:List Value}(h:OffsM D w os xs)(x:Ex w w'):OffsM D w' os xs:=OffsM.kp (Kp.ab x λ _=>False) (λ _ _ h=>h) h
def OffsM.app:∀{os G:List (Off Nat)} {xs H:List Value},OffsM D w os xs->OffsM D w G H->OffsM D w (os++G) (xs++H)
 | [],_,_,_,h,k=>by cases h;exact k
 | _::_,_,_,_,⟨cs,zs,J,Z,h3⟩,k=>by subst J;exact⟨cs,zs++_,by rw [Pe],Z,OffsM.app h3 k⟩
def OffsM.len:∀{os:List (Off Nat)} {xs:List Value},OffsM D w os xs->xs.length=os.length* 5/\xs.all oneV=true
 | [],_,h=>by cases h;exact⟨rfl,rfl⟩
 | o::os,_,⟨cs,ys,G,H,J⟩=>by
  subst G;obtain⟨Z,k2⟩:=H.len;obtain⟨k3,k4⟩:=OffsM.len J;refine⟨by rw [Oy,Z,k3,Ov];omega,by rw [QP,k2,k4];rfl⟩
def OffsM.at:∀{os:List (Off Nat)} {xs:List Value},OffsM D w os xs->∀{i:Nat} (hi:i< os.length),∃cs,kv D w os[i] cs/\∀j,j< 5->xs[i* 5+j]?=cs[j]?
 | o::os,_,⟨cs,ys,H,G,Z⟩,0,hi=>by
  subst H;refine⟨cs,G,λj hj=>?_⟩;rw [List.getElem?_append_left (by rw [G.len.1];omega)]
  congr 1;omega
 | o::os,_,⟨cs,ys,H,G,Z⟩,i+1,hi=>by
  subst H;obtain⟨J,k1,k2⟩:=OffsM.at Z (i:=i) (by simpa using hi);refine⟨J,k1,λj hj=>?_⟩;rw [<-k2 j hj,List.getElem?_append_right (by rw [G.len.1];omega),G.len.1]
  congr 1;omega
def OffsM.one {o:Off Nat}{cs:List Value}(h:kv D w o cs):OffsM D w [o] cs:=⟨cs,[],by simp,h,rfl⟩
end
def pre:U->Bool
 | .snd .. =>true | .rcv .. =>true | .tau .. =>true | _=>false
def zN {u:U}(h:pre u=true):∃o,offs u=[o]:=by cases u<;>first | exact⟨_,rfl⟩ | cases h
def G0 {D:Nat->Prop}{w:World}{u:U}{v:Value}(hp:pre u=true)(h:ah D w (tl [u]) [v]):∃(g:Nat) (k:UInt8) (a b:Nat) (vr:Value) (r:U),v=ptr g/\D g/\g< w.heap.size/\w.cell? ⟨g,0,none⟩=some (.int .u8 k.toNat)/\w.cell? ⟨g,1,none⟩=some (iv a)/\w.cell? ⟨g,2,none⟩=some (iv b)/\w.cell? ⟨g,3,none⟩=some vr/\
  (k=126\/k=33\/k=63)/\az D w (td r) vr/\(∀s,k=63->∀a' x q,u= .rcv a' x q->kv D w (.rcv a' x q s) (bR k a b vr s))/\(∀s o,offs u=[o]->k≠63->kv D w o (bR k a b vr s))/\(∀o,offs u=[o]->kv D w o (bR k a b vr false))/\(k=63↔∃a' x q,u= .rcv a' x q):=by
 cases u<;>try cases hp
 ·rename_i a b p;obtain⟨t,Z,a',J,vr,e1,⟨g,hg,hD,hl,c0,c1,c2,c3,c4⟩,hk,G,_⟩:=h;obtain⟨rfl,rfl⟩:=Pw e1;obtain⟨rfl,rfl⟩:a'=a/\J=b:=by rcases hk with h | h | h<;>first | exact h | cases h
  refine⟨g,33,a',J,vr,p,hg,hD,hl,c0,c1,c2,c3,.inr (.inl rfl),G,λs h=>absurd h (by decide),λs o H _=>?_,λo H=>?_,⟨λh=>absurd h (by decide),fun⟨_,_,_,h⟩=>by cases h⟩⟩
  ·cases H;exact⟨vr,s,rfl,G⟩
  ·cases H;exact⟨vr,false,rfl,G⟩
 ·rename_i a b p;obtain⟨t,Z,a',J,vr,e1,⟨g,hg,hD,hl,c0,c1,c2,c3,c4⟩,hk,G,_⟩:=h;obtain⟨rfl,rfl⟩:=Pw e1;obtain⟨rfl,rfl⟩:a'=a/\J=b:=by rcases hk with h | h | h<;>first | exact h | cases h
  refine⟨g,63,a',J,vr,p,hg,hD,hl,c0,c1,c2,c3,.inr (.inr rfl),G,λs _ a2 x q e=>?_,λs o H h=>absurd rfl h,λo H=>?_,⟨λ _=>⟨_,_,_,rfl⟩,λ _=>rfl⟩⟩
  ·cases e;exact⟨vr,rfl,G⟩
  ·cases H;exact⟨vr,rfl,G⟩
 ·rename_i p;obtain⟨t,Z,a',J,vr,e1,⟨g,hg,hD,hl,c0,c1,c2,c3,c4⟩,hk,G,_⟩:=h;obtain⟨rfl,rfl⟩:=Pw e1;refine⟨g,126,a',J,vr,p,hg,hD,hl,c0,c1,c2,c3,.inl rfl,G,λs h=>absurd h (by decide),λs o H _=>?_,λo H=>?_,⟨λh=>absurd h (by decide),fun⟨_,_,_,h⟩=>by cases h⟩⟩
  ·cases H;exact⟨a',J,vr,s,rfl,G⟩
  ·cases H;exact⟨a',J,vr,false,rfl,G⟩
def HJ {u:U}(n:u.Nr):offs u=u.mW.flatMap offs:=by
 induction u with
 | sum p q H G=>
  have :=G n.2.2;simp only [offs,T.mW,PE];rw [this]
 | _=>simp [T.mW]
def JG {u:U}(n:u.Nr)(G:u.smp=true)(Z:u.gp=true)(hd:u.dead=false):∀s∈u.mW,pre s=true/\s.Nr/\(∀x∈BV s,x∈BV u)/\(BV s).Sublist (BV u):=by
 induction u with
 | sum p q ih H=>
  simp only [T.smp,OA]at G;intro s h;rcases OY.1 h with rfl | h
  ·refine⟨?_,n.2.1,λx J=>O9 _ J,QD _ _⟩;have h1:=n.1.2.2;have h2:=G.1.1;have h3:=n.1.1;cases s<;>first | rfl | (cases h2;done) | (cases h1;done) | (cases h3;done)
  ·obtain⟨k1,k2,k3,k4⟩:=H n.2.2 G.2.2 G.1.2 n.1.2.1 s h;exact⟨k1,k2,λx J=>O0 _ (k3 x J),k4.trans (Qc _ _)⟩
 | nil=>cases hd
 | snd a b p=>intro s h;cases OL.1 h;exact⟨rfl,n,λ _ h=>h,Pz _⟩
 | rcv a b p=>intro s h;cases OL.1 h;exact⟨rfl,n,λ _ h=>h,Pz _⟩
 | tau p=>intro s h;cases OL.1 h;exact⟨rfl,n,λ _ h=>h,Pz _⟩
 | _=>cases Z
def KY {D:Nat->Prop}{w:World}:∀{l:List U} {us:List Value},ah D w (tp l) us->us.length=l.length/\∀j (h:j< l.length) (G:j< us.length),az D w (td l[j]) us[j]
 | [],us,h=>by cases h;exact⟨rfl,λj h=>by cases h⟩
 | u::l,_,⟨v,H,e,J,Z⟩=>by
  subst e;obtain⟨k1,k2⟩:=KY Z;refine⟨by simp [k1],λj h G=>?_⟩;cases j with
  | zero=>exact J
  | succ j=>simpa using k2 j (by simpa using h) (by simpa using G)
def Es {D:Nat->Prop}{w:World}:∀{l:List U} {us:List Value},(∀u∈l,u.th=true)->ah D w (tl l) us->us.length=l.length/\∀j (h:j< l.length) (h':j< us.length),ah D w (tl [l[j]]) [us[j]]
 | [],us,_,h=>by cases h;exact⟨rfl,λj h=>by cases h⟩
 | u::l,us,H,h=>by
  have h0:=H u (by simp);have key:∃v G,us=v::G/\ah D w (tl [u]) [v]/\ah D w (tl l) G:=by
   cases u<;>try cases h0
   all_goals
    first
    | (obtain⟨t,G,a',b',vr,e,J,Z,k3,k4⟩:=h;exact⟨t,G,e,⟨t,[],a',b',vr,rfl,J,Z,k3,rfl⟩,k4⟩)
    | (obtain⟨t,G,a',b',vp,α,e,J,Z,k3,k4⟩:=h;exact⟨t,G,e,⟨t,[],a',b',vp,α,rfl,J,Z,k3,rfl⟩,k4⟩)
  obtain⟨v,G,e,J,Z⟩:=key;subst e;obtain⟨k3,k4⟩:=Es (λu hu=>H u (OJ _ hu)) Z;refine⟨by simp [k3],λj h h'=>?_⟩;cases j with
  | zero=>exact J
  | succ j=>simpa using k4 j (by simpa using h) (by simpa using h')
def IC {D:Nat->Prop}{w:World}{u:U}{v:Value}(hp:pre u=true)(h:ah D w (tl [u]) [v]){R:Value->Sb}(hR:∀v' w' xs,Ex w w'->cB w.heap.size w' v' (offs u).length xs->OffsM D w' (offs u) xs->R v' w'):
  Sc 113 #[v] w (aw [.v] R):=by
 refine ft v w R ?_;obtain⟨o,ho⟩:=zN hp;obtain⟨g,k,a,b,vr,r,J,hD,hl,c0,c1,c2,c3,hk,γ,_,_,δ,_⟩:=G0 hp h;refine⟨g,0,J,k,c0,λx w'=>w'=w/\x=true,?_,λx Z hJ=>?_⟩
 ·rcases hk with rfl | rfl | rfl
  ·exact⟨λ _=>⟨rfl,by decide⟩,λh=>absurd h (by decide)⟩
  ·exact⟨λh=>absurd h (by decide),λ _=>⟨λ _=>⟨rfl,by decide⟩,λh=>absurd h (by decide)⟩⟩
  ·exact⟨λh=>absurd h (by decide),λ _=>⟨λh=>absurd h (by decide),λ _=>⟨rfl,by decide⟩⟩⟩
 ·obtain⟨rfl,rfl⟩:=hJ;refine⟨λ _=>⟨λw'=>Ex Z w',λw9 ε=>?_⟩,λh=>by cases h⟩;have x9:Ex Z w9:=ε▸Ex.drew Z;have cg:∀{w':World},Ex Z w'->∀j,w'.cell? ⟨g,j,none⟩=Z.cell? ⟨g,j,none⟩:=λx j=>x.cell (show g< _ from hl)
  refine⟨x9,g,0,J,k,λw' x=>by rw [cg x];exact c0,g,0,J,a,λw' x=>by rw [cg x];exact c1,g,0,J,b,λw' x=>by rw [cg x];exact c2,g,0,J,vr,λw' x=>by rw [cg x];exact c3,γ.one,λη α β H=>?_⟩;have ζ:Ex w9 α:=H▸Ex.alloc w9 _;have G:=Ex.trans x9 ζ;refine⟨G,hR _ α (bR k a b vr false) G ?_ ?_⟩
  ·rw [ho];exact cB.one rfl x9.size β H
  ·rw [ho];exact OffsM.one ((δ o ho).ex G)
def pE {D:Nat->Prop}{w:World}{u:U}{v:Value}(hth:u.th=true)(hq:Uq u)(n:u.Nr)(hs:u.smp=true)(hz:u.size<=1000000)(hDw:∀g,D g->g< w.heap.size)(h:ah D w (tl [u]) [v]){R:Value->Sb}(hR:∀v' w' xs,Ex w w'->cB w.heap.size w' v' (offs u).length xs->OffsM D w' (offs u) xs->R v' w'):
  Sc 113 #[v] w (aw [.v] R):=by
 by_cases hp:pre u=true
 ·exact IC hp h hR
 refine ft v w R ?_;cases u<;>first | (exact absurd rfl hp) | (cases hth;done) | skip
 case mat a b p=>
  obtain⟨t,ts',a',b',vr,e1,⟨g,hg,hD,hl,c0,c1,c2,c3,c4⟩,hk,ζ,_⟩:=h;obtain⟨rfl,rfl⟩:=Pw e1;refine⟨g,0,hg,_,c0,λx w'=>w'=w/\x=false,⟨λh=>absurd h (by decide),λ _=>⟨λh=>absurd h (by decide),λ _=>⟨rfl,by decide⟩⟩⟩,λx H hJ=>?_⟩;obtain⟨rfl,rfl⟩:=hJ;refine⟨λh=>(by cases h),λ _=>aW (by decide) (aW (by decide) (hR _ H [] (Ex.refl _) (cB.nil _ _) rfl))⟩
 case rep p=>
  simp only [T.smp,OA]at hs;cases p<;>try (simp [T.isR]at hs)
  rename_i a x q;obtain⟨t,ts',a',b',vr,e1,⟨g,hg,hD,hl,c0,c1,c2,c3,c4⟩,hk,ζ,_⟩:=h;obtain⟨rfl,rfl⟩:=Pw e1;have etd:td (.rcv a x q)=([],tl [.rcv a x q]):=eR hq.rep n.2;rw [etd]at ζ;obtain⟨br,vo2,κ,μ,rfl,k2,k3,k4,k5,k6,k7,k8⟩:=ζ;obtain⟨hl2,hat⟩:=Es (l:=[T.rcv a x q]) (λu hu=>by cases OL.1 hu;rfl) k8;obtain⟨v2,rfl⟩:∃v2,μ=[v2]:=by
   match μ,hl2 with
   | [v2],_=>exact⟨v2,rfl⟩
  have hp2:=G0 (u:= .rcv a x q) rfl (hat 0 (by simp) (by simp));obtain⟨g2,kk,a2,b2,vr2,r2,hg2,hD2,hlt2,d0,d1,d2,d3,hkk,hlv2,hof,_,_,hiff⟩:=hp2;have hk63:kk=63:=hiff.2 ⟨_,_,_,rfl⟩;subst hk63;obtain⟨at_,ν,hvt⟩:=k7.slice;refine⟨g,0,hg,_,c0,λx w'=>w'=w/\x=false,⟨λh=>absurd h (by decide),λ _=>⟨λh=>absurd h (by decide),λ _=>⟨rfl,by decide⟩⟩⟩,λy H hJ=>?_⟩;obtain⟨rfl,rfl⟩:=hJ;refine⟨λh=>(by cases h),λ _=>df (by decide) λb24 w25 hb24 hw25=>?_⟩;have x25:Ex H w25:=hw25▸Ex.alloc H _;refine⟨g,0,hg,ptr br,by rw [x25.cell (show g< _ from hl)];exact c3,br,0,rfl,κ,by rw [x25.cell (show br< _ from k3)];exact k5,at_,_,ν,hvt,λout i w'=>(i=0/\Ex H w'/\cB H.heap.size w' out 0 [])\/(i=1/\Ex H w'/\cB H.heap.size w' out 1 (bR 63 a2 b2 vr2 true)),λ _ i _=>(1 - i).toNat,.inl ⟨rfl,x25,cB.zero (OB _) hb24 hw25⟩,λout i w36 hI=>?_⟩;rcases hI with⟨rfl,η,Z⟩ | ⟨rfl,η,Z⟩
  ·obtain⟨bt,ot,G,ξ,β,hbl,hcl⟩:∃bt ot G,κ= .slice (some ⟨bt,ot,none⟩) 1 G/\D bt/\bt< H.heap.size/\H.cell? ⟨bt,ot+0,none⟩=some v2:=by
    rcases k7 with⟨_,h0⟩ | ⟨bt,ot,G,e,β,ο,J⟩
    ·cases h0
    ·exact⟨bt,ot,G,e,β,ο,J 0 _ rfl⟩
   refine df (by simp) ⟨bt,ot,1,G,ξ,by omega,by omega,v2,?_,g2,0,hg2,63,?_,df (by decide) ⟨λw'=>Ex H w',λw46 hw46=>?_⟩⟩
   ·rw [show(0:Int).toNat* 1=0 from rfl,η.cell (show bt< _ from hbl)];exact hcl
   ·rw [η.cell (show g2< _ from hlt2)];exact d0
   have x46':Ex w36 w46:=hw46▸Ex.drew w36;have x46:=Ex.trans η x46';have cg:∀{w':World},Ex H w'->∀j,w'.cell? ⟨g2,j,none⟩=H.cell? ⟨g2,j,none⟩:=λx j=>x.cell (show g2< _ from hlt2)
   refine⟨x46,g2,0,hg2,a2,λw' x=>by rw [cg x];exact d1,g2,0,hg2,b2,λw' x=>by rw [cg x];exact d2,g2,0,hg2,vr2,λw' x=>by rw [cg x];exact d3,hlv2.one,λb56 w57 hb56 hw57=>?_⟩;have x57':Ex w46 w57:=hw57▸Ex.alloc w46 _;have θ:=Ex.trans x46 x57';have o1:cB w46.heap.size w57 (.slice (some ⟨b56,0,none⟩) 1 1) 1 (bR 63 a2 b2 vr2 true):=cB.one rfl (OB _) hb56 hw57;have hone:(bR 63 a2 b2 vr2 true).all oneV=true:=by have :=hlv2.one;simp only [bR,PQ,Rq,QL,this]
   refine⟨θ,cB.push (Z.ex (Ex.trans x46' x57')) (by have :=θ.size;omega) (o1.src hone) (by omega) λv63 w64 ho64 hg64 _=>⟨?_,by omega,.inr ⟨rfl,?_,?_⟩,by show(1 - (0+1):Int).toNat< (1 - 0:Int).toNat;decide⟩⟩
   ·exact Ex.below θ (Kp.below (Kp.aP (S:=λg=>out.ownBlock=some g) hg64 λ _ h=>h) θ.size λg hg e=>by have :=(Z.block g e).1;omega)
   ·exact Ex.below θ (Kp.below (Kp.aP (S:=λg=>out.ownBlock=some g) hg64 λ _ h=>h) θ.size λg hg e=>by have :=(Z.block g e).1;omega)
   ·simpa using ho64
  ·refine aW (by simp) (hR out w36 _ η Z ?_);exact OffsM.one ((hof true rfl a x q rfl).ex η)
 case sum p q=>
  have hlive:(T.sum p q).dead=false:=n.tB rfl;have hsm:=JG n hs rfl hlive;have hofs:=HJ n;have etl:tl [T.sum p q]= .sum (tp (T.sum p q).mW) .nil:=by
   simp only [tl,T.mW];rw [eO hq.eJ n.2.1 n.1.1,eO hq.dX n.2.2 n.1.2.1,T.gR n.1.2.2];rfl
  rw [etl]at h;obtain⟨t,ts',a',b',vp,us,e1,⟨g,hg,hD,hl,c0,c1,c2,c3,c4⟩,hus,hps,_⟩:=h;obtain⟨rfl,rfl⟩:=Pw e1;obtain⟨hul,hua⟩:=KY hps;generalize hS:(T.sum p q).mW=S at*;have hSl:S.length<=1000000:=by
   have:∀u:U,u.mW.length<=u.size:=by
    intro u
    induction u with
    | sum p q _ ih=>simp only [T.mW,Ov,T.size];omega
    | _=>simp only [T.mW,Ov,ON,T.size];omega
   have :=this (T.sum p q);rw [hS]at this;omega
  have hol:∀i,((S.take i).flatMap offs).length=(S.take i).length:=by
   have:∀l:List U,(∀s∈l,pre s=true)->(l.flatMap offs).length=l.length:=by
    intro l
    induction l with
    | nil=>intro _;rfl
    | cons s l ih=>
     intro hl;obtain⟨o,ho⟩:=zN (hl s (by simp));simp only [PE,ho,Oy,Ov,ON,ih λx hx=>hl x (by simp [hx])];omega
   exact λi=>this _ λs γ=>(hsm s (List.mem_of_mem_take γ)).1
  obtain⟨au,cau,hvu⟩:=hus.slice;refine⟨g,0,hg,43,c0,λx w'=>w'=w/\x=false,⟨λh=>absurd h (by decide),λ _=>⟨λh=>absurd h (by decide),λ _=>⟨rfl,by decide⟩⟩⟩,λy H hJ=>?_⟩;obtain⟨rfl,rfl⟩:=hJ;refine⟨λh=>(by cases h),λ _=>aW (by decide) (df (by decide) λb68 w69 hb68 hw69=>?_)⟩;have x69:Ex H w69:=hw69▸Ex.alloc H _;refine⟨g,0,hg,vp,by rw [x69.cell (show g< _ from hl)];exact c4,au,_,cau,hvu,λout i w'=>∃(j:Nat) (xs:List Value),i=j/\j<=us.length/\Ex H w'/\cB H.heap.size w' out ((S.take j).flatMap offs).length xs/\OffsM D w' ((S.take j).flatMap offs) xs,λ _ i _=>(us.length - i).toNat,⟨0,[],rfl,Pn _,x69,by simpa using cB.zero (OB _) hb68 hw69,by simp [OffsM]⟩,λout i w80 hI=>?_⟩;obtain⟨j,xs,rfl,hj,x80,ς,υ⟩:=hI;refine⟨λhlt=>?_,λhge=>?_⟩;rotate_left
  ·have:j=S.length:=by simp only [OF]at hge;omega
   rw [this,O4]at ς υ;rw [hofs]at hR;exact hR out w80 xs x80 ς υ
  have hjl:=oL hlt;have hjS:j< S.length:=by omega
  have ι:=hsm S[j] (Oz hjS);obtain⟨bu,ou,δ,hvu',β,hbu,hcu⟩:∃bu ou δ,vp= .slice (some ⟨bu,ou,none⟩) us.length δ/\D bu/\bu< H.heap.size/\H.cell? ⟨bu,ou+j,none⟩=some us[j]:=by
   rcases hus with⟨_,h0⟩ | ⟨bt,ot,G,e,β,ο,J⟩
   ·rw [h0]at hjl;simp at hjl
   ·exact⟨bt,ot,G,e,β,ο,J j _ (Ox hjl)⟩
  have ζ:=hua j hjS hjl;have huqS:Uq S[j]:=by
   refine⟨hq.nd.sublist ι.2.2.2,λx hx hf=>?_⟩;have hfr:∀u:U,∀s∈u.mW,∀z,s.Fr z->u.Fr z:=by
    intro u
    induction u with
    | sum p q _ ih=>
     intro s γ z hz;rcases OY.1 γ with rfl | γ
     ·exact .inl hz
     ·exact .inr (ih s γ z hz)
    | _=>intro s γ z hz;cases OL.1 γ;exact hz
   exact hq.nf x (ι.2.2.1 x hx) (hfr _ S[j] (by rw [hS];exact Oz hjS) x hf)
  have φ:(S[j]).th=true:=by
   have h1:=ι.1;revert h1;cases S[j]<;>first | (intro _;rfl) | (intro h;cases h)
  have etd:td S[j]=([],tl [S[j]]):=by rw [eR huqS ι.2.1,T.gD φ,T.j5 φ]
  rw [etd]at ζ;obtain⟨br,vo2,κ,μ,hbr,k2,k3,k4,k5,k6,k7,k8⟩:=ζ;obtain⟨hl2,hat⟩:=Es (l:=[S[j]]) (λu hu=>by cases OL.1 hu;exact φ) k8;obtain⟨v2,rfl⟩:∃v2,μ=[v2]:=by
   match μ,hl2 with
   | [v2],_=>exact⟨v2,rfl⟩
  have ha2:=hat 0 (by simp) (by simp);obtain⟨at_,ν,hvt⟩:=k7.slice;have htk:(S.take (j+1)).flatMap offs=(S.take j).flatMap offs++offs S[j]:=by rw [OC hjS,Pt];simp
  refine⟨bu,ou,_,δ,hvu',by omega,by omega,us[j],?_,br,0,hbr,κ,by rw [x80.cell (show br< _ from k3)];exact k5,at_,_,ν,hvt,λout i w'=>(i=0/\∃xs,Ex H w'/\cB H.heap.size w' out ((S.take j).flatMap offs).length xs/\OffsM D w' ((S.take j).flatMap offs) xs)\/(i=1/\∃xs,Ex H w'/\cB H.heap.size w' out ((S.take (j+1)).flatMap offs).length xs/\OffsM D w' ((S.take (j+1)).flatMap offs) xs),
   λ _ i _=>(1 - i).toNat,.inl ⟨rfl,xs,x80,ς,υ⟩,λout2 i w93 hI2=>?_⟩
  ·rw [OG,O8,x80.cell (show bu< _ from hbu)];exact hcu
  rcases hI2 with⟨rfl,xs2,χ,α,ψ⟩ | ⟨rfl,xs2,χ,α,ψ⟩
  ·obtain⟨bt,ot,G,ξ,hbD2,hbl,hcl⟩:∃bt ot G,κ= .slice (some ⟨bt,ot,none⟩) 1 G/\D bt/\bt< H.heap.size/\H.cell? ⟨bt,ot+0,none⟩=some v2:=by
    rcases k7 with⟨_,h0⟩ | ⟨bt,ot,G,e,β,ο,J⟩
    ·cases h0
    ·exact⟨bt,ot,G,e,β,ο,J 0 _ rfl⟩
   refine df (by simp) ⟨bt,ot,1,G,ξ,by omega,by omega,v2,?_,IC ι.1 (ah.ex ha2 χ) λv99 w100 ys ω ho100 hm100=>?_⟩
   ·rw [show(0:Int).toNat* 1=0 from rfl,χ.cell (show bt< _ from hbl)];exact hcl
   have ε:=Ex.trans χ ω;have hlen1:=hol j;rw [Pd,Qx (by omega)]at hlen1;obtain⟨o,hoo⟩:=zN ι.1;have hlo:(offs S[j]).length=1:=by rw [hoo];rfl
   refine cB.push (α.ex ω) ε.size (ho100.src hm100.len.2) (by omega) λv106 w107 ho107 hg107 _=>⟨by omega,.inr ⟨rfl,xs2++ys,?_,?_,?_⟩,by show(1 - (0+1):Int).toNat< (1 - 0:Int).toNat;decide⟩
   ·exact Ex.below ε (Kp.below (Kp.aP (S:=λg=>out2.ownBlock=some g) hg107 λ _ h=>h) ε.size λg hg e=>by have :=(α.block g e).1;omega)
   ·rw [htk,Oy];exact ho107
   ·rw [htk];exact OffsM.kp (Kp.aP (S:=λg=>out2.ownBlock=some g) hg107 λ _ h=>h) (λg hgD e=>by have :=(α.block g e).1;have :=hDw g hgD;omega) ((ψ.ex ω).app hm100)
  ·refine aW (by simp) ⟨by omega,⟨j+1,xs2,by omega,by omega,χ,α,ψ⟩,tN (by omega)⟩
section
open T
structure sj (b b2 n0 c:Nat)(w0 w':World)(acc:List U)(M:Nat->Prop):Prop where
 km:Km b w0 w'
 rs:Cw w0.heap.size w' b2 (outs acc) (!jo acc) M
 mc:∃n,Mk w' b n/\n0<=n/\n<=n0+c
 hb:b< w0.heap.size
section
variable {b b2 n0 c:Nat} {w0 w w':World} {acc:List U} {M:Nat->Prop}
def sj.nb (h:sj b b2 n0 c w0 w acc M):¬M b:=λG=>by have :=(h.rs.mr b G).1;have :=h.hb;omega
def sj.ex (h:sj b b2 n0 c w0 w acc M)(x:Ex w w'):sj b b2 n0 c w0 w' acc M:=by
 obtain⟨n,G,H⟩:=h.mc;exact⟨h.km.out (Kp.ab x λ _=>False) (λ _ _ h=>h) h.hb,h.rs.kp (Kp.ab x λ _=>False) λ _ _ h=>h,⟨n,G.ex x,H⟩,h.hb⟩
def Nz (h:sj b b2 n0 c w0 w acc M)(hl:acc.length<=1000000000){vg vo vm:Value}{v:U}(hv:∀{R:aD->Bool->Sb},(∀w',Ex w w'->(∀s,cL v=some s->R s true w')/\(cL v=none->R [] false w'))->Sc 114 #[ptr b,vg,vo,vm] w (aw [.s,.b] R))
  {S J:Sb} (hS:∀w',Kp w w' M->S w') (hJ:∀G M',sj b b2 n0 c w0 G (acc++[v]) M'->Kp w G M->(∀g,M' g->M g\/w.heap.size<=g)->J G):
  Sc 114 #[ptr b,vg,vo,vm] w (aw [.s,.b] fun(s:aD) (q:Bool) (H:World)=>S H/\Sc 61 #[ptr b2,.string (ak s),.bool q] H (aw [] fun(G:World)=>S G/\J G)):=by
 have fin:∀(s:aD) (q:Bool) (H:World),Ex w H->s=(cL v).getD []->q=(cL v).isSome->S H/\Sc 61 #[ptr b2,.string (ak s),.bool q] H (aw [] fun(G:World)=>S G/\J G):=by
  intro s q H x hs hq;have Z:=h.ex x;have β:(outs acc).length=acc.length:=by unfold outs;simp
  refine⟨hS H (Kp.ab x _),H0 Z.rs (by omega) λG M' k3 r3 α=>?_⟩;have k:=Kp.trans (Kp.ab x M) k3 λ _ _ h=>h
  obtain⟨n,m1,m2,m3⟩:=Z.mc;refine⟨hS G k,hJ G M' ⟨Z.km.out k3 (λg hg hM=>by have :=(Z.rs.mr g hM).1;omega) h.hb,?_,⟨n,m1.kp k3 Z.nb,m2,m3⟩,h.hb⟩ k λg hg=>(α g hg).imp id λh=>Pq x.size h⟩;have e1:outs (acc++[v])=outs acc++[s]:=by rw [AD,hs];rfl
  have e2:(!jo (acc++[v]))=((!jo acc)|| !q):=by
   rw [xL,hq,Bool.not_and];simp [jo]
  rw [e1,e2];exact r3
 refine hv λH x=>⟨λs hs=>fin s true H x (by rw [hs];rfl) (by rw [hs];rfl),λhn=>fin [] false H x (by rw [hn];rfl) (by rw [hn];rfl)⟩
end
def qe {t:P}{u:U}(su:SU t u){D:Nat->Prop}{w:World}{v:Value}(h:az D w (td u) v):∃b vo vt ts,v=ptr b/\D b/\b< w.heap.size/\w.cell? ⟨b,0,none⟩=some vo/\w.cell? ⟨b,1,none⟩=some vt/\dt D w vo (u.frL.map iv)/\dt D w vt ts/\ts.length=u.ths.length/\∀i (h:i< u.ths.length) (h':i< ts.length),ah D w (tl [u.ths[i]]) [ts[i]]:=by
 rw [eR su.nu.uq su.nr]at h;obtain⟨b,vo,vt,ts,G,H,J,h4,h5,Z,h7,h8⟩:=h;obtain⟨k1,k2⟩:=Es (λq hq=>(su.nr.ths q hq).1) h8;exact⟨b,vo,vt,ts,G,H,J,h4,h5,Z,h7,k1,k2⟩
def SU.th {t:P}{u:U}(su:SU t u):∀q∈u.ths,q.th=true/\Uq q/\q.Nr:=λq G=>by
 obtain⟨i,hi,rfl⟩:=PK.1 G;exact⟨(su.nr.ths _ G).1,su.gH hi (Sub.refl _) (Pz _),(su.nr.ths _ G).2⟩
def c8 (u:U):(td u).1.length+(td u).2.tot<=4* u.size:=by
 have G:=qv (flat u).1 (flat u).2;have H:=cG u;have e:Lv.tidy (flat u).1 (flat u).2=td u:=rfl;rw [e]at G;omega
def gT (f:Nat->Nat):∀l:Lv,(l.map f).tot=l.tot
 | .nil=>rfl
 | .thr k a b o r n=>by simp only [Lv.map,Lv.tot,gT f r,gT f n,OM]
 | .sum ps n=>by simp only [Lv.map,Lv.tot,gT f ps,gT f n]
 | .part o q n=>by simp only [Lv.map,Lv.tot,gT f q,gT f n,OM]
def pB {t:P}{u:U}(su:SU t u)(ι:u.size<=1000){w:World}{b:Nat}{vl vg vo vm:Value}{gl:List Nat}{mvs:List Value}{zs:List ((List Nat×Lv)×U)}{vv:U}(α:w.cell? ⟨b,2,none⟩=some vl)(β:b< w.heap.size)(hl:az (λg=>g< w.heap.size) w (td u) vl)(hg:dt (λg=>g< w.heap.size) w vg (gl.map iv))(γ:gl.length<=1000)
  (ho:dt (λg=>g< w.heap.size) w vo (u.frL.map iv)) (hm:dt (λg=>g< w.heap.size) w vm mvs) (δ:aO (λL v=>az (λg=>g< w.heap.size) w L v) (zs.map (·.1)) mvs) (ε:mvs.length<=1000) (hz:∀z∈zs,Pc z.1 z.2) (κ:(joinL (zs.map (·.1))).1.length+(joinL (zs.map (·.1))).2.tot<=1000000)
  {P:Nat->Bool} (hP:∀i,P i=decide (i∈gl)) (H:Nu (resL u.frL (parL (iH P u.ths 0++zs.map (·.2))))) (ζ:cL (resL u.frL (parL (iH P u.ths 0++zs.map (·.2))))=cL vv) {R:aD->Bool->Sb} (hR:∀w',Ex w w'->(∀s,cL vv=some s->R s true w')/\(cL vv=none->R [] false w')):
  Sc 114 #[ptr b,vg,vo,vm] w (aw [.s,.b] R):=by
 have J:=eR su.nu.uq su.nr;have Z:=su.th;have e:=xA u.frL (K:=iH P u.ths 0) (λt ht=>Z t (tr ht)) hz;have G:=c8 u;rw [J]at hl G;have η:∀x∈zs.map (·.1),x.2.sh true=true:=λx hx=>by
  obtain⟨z,h1,rfl⟩:=Pf.1 hx;exact(hz z h1).sh
 have θ:(tl u.ths).sh true=true:=by have :=vn u;rw [J]at this;exact this
 simp only at G;refine KP (res:=(u.frL++(joinL (zs.map (·.1))).1,(tl (iH P u.ths 0)).app (joinL (zs.map (·.1))).2)) α β hl hg γ ho hm δ ε θ η (by omega) hP (by rw [G7 λt ht=>(Z t ht).1]) ?_ ?_ λw' x=>?_
 ·rw [e];exact uS H.uq H.bv
 ·rw [e];exact HK H
 ·rw [e];have:Cr (td (resL u.frL (parL (iH P u.ths 0++zs.map (·.2)))))=cL vv:=ζ;rw [this];exact hR w' x
def aO.Jk {A B:Type}{R:A->B->Prop}:aO R [] []:=⟨rfl,λi a b h=>by simp at h⟩
def JA {w w1:World}{e g:Nat}{x:Value}(H:g=w.heap.size)(hw:w1=w.alloc (.cells #[x] e)):dt (λg=>g< w1.heap.size) w1 (.slice (some ⟨g,0,none⟩) 1 1) [x]:=by
 subst H hw;refine .inr ⟨w.heap.size,0,1,rfl,by rw [size_alloc];omega,by rw [size_alloc];omega,λi y G=>?_⟩;cases i with
 | zero=>simp only [PN,PJ]at G;subst G;exact aa rfl
 | succ i=>simp at G
def Ot {w w1:World}{e g:Nat}{x z:Value}(H:g=w.heap.size)(hw:w1=w.alloc (.cells #[x,z] e)):dt (λg=>g< w1.heap.size) w1 (.slice (some ⟨g,0,none⟩) 2 2) [x,z]:=by
 subst H hw;refine .inr ⟨w.heap.size,0,2,rfl,by rw [size_alloc];omega,by rw [size_alloc];omega,λi y G=>?_⟩
 match i,G with
 | 0,G=>simp only [PN,PJ]at G;subst G;exact aa rfl
 | 1,G=>simp only [List.getElem?_cons_succ,PN,PJ]at G;subst G;exact aa rfl
 | i+2,G=>simp at G
def MQ {D:Nat->Prop}{w w1:World}{v:Value}{l:List Value}(h:dt D w v l)(x:Ex w w1):dt (λg=>g< w1.heap.size) w1 v l:=(h.ex x).sub λg G _=>G
def fk:∀u:U,(BV u).length<=u.size
 | .nil=>by simp [BV]
 | .snd a b p=>by have :=fk p;simp only [BV,T.size];omega
 | .mat a b p=>by have :=fk p;simp only [BV,T.size];omega
 | .rcv a b p=>by have :=fk p;simp only [BV,T.size,Ov];omega
 | .res b p=>by have :=fk p;simp only [BV,T.size,Ov];omega
 | .tau p=>by have :=fk p;simp only [BV,T.size];omega
 | .rep p=>by have :=fk p;simp only [BV,T.size];omega
 | .sum p q=>by have :=fk p;have :=fk q;simp only [BV,T.size,Oy];omega
 | .par p q=>by have :=fk p;have :=fk q;simp only [BV,T.size,Oy];omega
def bY:∀u:U,∀q∈u.ths,q.size<=u.size:=by
 intro u
 induction u with
 | nil=>intro q h;cases h
 | res x p H=>intro q h;have :=H q h;simp only [T.size];omega
 | par p r H G=>
  intro q h;simp only [T.size];rcases OY.1 h with rfl | h
  ·omega
  ·have :=G q h;omega
 | _=>intro q h;cases OL.1 h;exact OB _
section
variable {t:P} {u:U} {b b2 n0 c:Nat} {w w1:World} {acc:List U} {M D:Nat->Prop}
def Ls (ok:fS t)(su:SU t u)(hsz:u.size<=60)(h:sj b b2 n0 c w w1 acc M){bl:Nat}(hcl:w1.cell? ⟨b,2,none⟩=some (ptr bl))(hl:az D w1 (td u) (ptr bl))(hD:∀g,D g->g≠b/\g< w.heap.size){i:Nat}{p:U}(hi:i< u.ths.length)(ho:Off.tau p∈offs u.ths[i]){γ:Nat}{vr:Value}(c3:w1.cell? ⟨γ,3,none⟩=some vr)(hb40:γ< w1.heap.size)(hMb:¬M γ)(ξ:az D w1 (td p) vr)
  (hacc:acc.length<=1000000000) {J:Sb} (hJ:∀w3 M',sj b b2 n0 c w w3 (acc++[Ax u i p]) M'->Kp w1 w3 M->(∀g,M' g->M g\/w1.heap.size<=g)->J w3):
  ∃G:Sb,∀H:World,H=World.drew w1->G H/\∃(b47 o48:Nat),ptr b=Value.pointer (some ⟨b47,o48,none⟩)/\∃v49:Value,(∀w',G w'->World.cell? w' ⟨b47,(o48+2),none⟩=some v49)/\∃(b50 o51:Nat),v49=Value.pointer (some ⟨b50,o51,none⟩)/\∃ο:Value,(∀w',G w'->World.cell? w' ⟨b50,(o51+0),none⟩=some ο)/\∃v53:Value,(∀w',G w'->World.cell? w' ⟨γ,3,none⟩=some v53)/\(∀(ς:Nat) (Z:World),ς=Array.size (World.heap H)->Z=World.alloc H (Obj.cells #[(Value.int IntKind.i64 (i:Int))] 3)->G Z/\oneV v53=true/\∀(υ:Nat) (δ:World),υ=Array.size (World.heap Z)->δ=World.alloc Z (Obj.cells #[v53] 59)->G δ/\Sc 114 #[ptr b,(Value.slice (some ⟨ς,0,none⟩) 1 1),ο,(Value.slice (some ⟨υ,0,none⟩) 1 1)] δ (aw [.s,.b] fun(φ:aD) (χ:Bool) (ζ:World)=>G ζ/\Sc 61 #[(Value.pointer (some ⟨b2,0,none⟩)),(Value.string (ak φ)),(Value.bool χ)] ζ (aw [] fun(η:World)=>G η/\J η)))/\
   (oneV v53=true/\∀(ψ:Nat) (α:World),ψ=Array.size (World.heap H)->α=World.alloc H (Obj.cells #[v53] 59)->G α/\∀(ω:Nat) (ε:World),ω=Array.size (World.heap α)->ε=World.alloc α (Obj.cells #[(Value.int IntKind.i64 (i:Int))] 3)->G ε/\Sc 114 #[ptr b,(Value.slice (some ⟨ω,0,none⟩) 1 1),ο,(Value.slice (some ⟨ψ,0,none⟩) 1 1)] ε (aw [.s,.b] fun(s66:aD) (q67:Bool) (w68:World)=>G w68/\Sc 61 #[(Value.pointer (some ⟨b2,0,none⟩)),(Value.string (ak s66)),(Value.bool q67)] w68 (aw [] fun(w69:World)=>G w69/\J w69))):=by
 have hb:=h.hb;have s0:=h.km.size;have hDM:∀g,D g->¬M g:=λg hg hM=>by have :=(hD g hg).2;have :=(h.rs.mr g hM).1;omega
 obtain⟨bl',vo,vt,ts,e1,k2,k3,k4,k5,k6,k7,k8,k9⟩:=qe su hl;cases e1;have hNu:=(IK ok su hi ho).1;obtain⟨sU,_⟩:=aC (su.smp _ (Oz hi)) _ ho;have uqp:Uq p:=(su.gH hi sU (ck _ ho)).tau;have nrp:p.Nr:=sU.nr (su.nrs _ (Oz hi));have hwo:iH (λn=>n==i||n==i) u.ths 0=wo u.ths i i:=(tf _ _ _).symm;have htp:=c8 p;have hps:p.size<=60:=by have h1:=sU.size;have h2:=bY u _ (Oz hi);simp only [Off.tm,T.size]at h1;omega
 have go:∀(wc:World) (vg vm:Value),Ex w1 wc->dt (λg=>g< wc.heap.size) wc vg [iv i]->dt (λg=>g< wc.heap.size) wc vm [vr]->Sc 114 #[ptr b,vg,vo,vm] wc (aw [.s,.b] fun(φ:aD) (χ:Bool) (ζ:World)=>Kp w1 ζ M/\Sc 61 #[(Value.pointer (some ⟨b2,0,none⟩)),(Value.string (ak φ)),(Value.bool χ)] ζ (aw [] fun(η:World)=>Kp w1 η M/\J η)):=by
  intro wc vg vm xc hg hm;have sc:=xc.size;have kc:Kp w1 wc M:=Kp.ab xc _;refine Nz (h.ex xc) hacc (λhR=>?_) (λw' k=>Kp.trans kc k λ _ _ h=>h) λw3 M' r3 k3 hM'=>hJ w3 M' r3 (Kp.trans kc k3 λ _ _ h=>h) λg hg=>(hM' g hg).imp id λh=>by omega
  refine pB su (by omega) (zs:=[(td p,p)]) (gl:=[i]) (P:=λn=>n==i||n==i) (mvs:=[vr]) (by rw [xc.cell (show b< _ by omega)];exact hcl) (by omega) (az.sub (az.ex hl xc) λg hg _=>hg) hg (by simp) (MQ k6 xc) hm (aO.cons (az.sub (az.ex ξ xc) λg hg _=>hg) aO.Jk) (by simp) (λz hz=>by cases OL.1 hz;exact Pc.nr uqp nrp) ?_ (λj=>?_) ?_ ?_ hR
  ·simp only [O3,Qf,jO];omega
  ·simp [iV]
  ·rw [hwo];exact hNu
  ·rw [hwo];rfl
 have c3':∀w',Kp w1 w' M->w'.cell? ⟨γ,3,none⟩=some vr:=λw' k=>by rw [Ow (w:=w1) (k.block γ hb40 hMb)];exact c3
 refine⟨λw'=>Kp w1 w' M,λH θ=>⟨θ▸Kp.ab (Ex.drew w1) _,b,0,rfl,ptr bl,λw' k=>by rw [Ow (w:=w1) (k.block b (by omega) h.nb)];exact hcl,bl,0,rfl,vo,λw' k=>by rw [Ow (w:=w1) (k.block bl k3 (hDM bl k2))];exact k4,vr,c3',λς Z hb54 ι=>?_,ξ.one,λψ α hb62 κ=>?_⟩⟩
 ·have β:Ex w1 H:=θ▸Ex.drew w1;have x55:Ex H Z:=ι▸Ex.alloc _ _;refine⟨Kp.ab (Ex.trans β x55) _,ξ.one,λυ δ hb56 μ=>?_⟩;have x57:Ex Z δ:=μ▸Ex.alloc _ _;exact⟨Kp.ab (Ex.trans (Ex.trans β x55) x57) _,go δ _ _ (Ex.trans (Ex.trans β x55) x57) (MQ (JA hb54 ι) x57) (JA hb56 μ)⟩
 ·have β:Ex w1 H:=θ▸Ex.drew w1;have x63:Ex H α:=κ▸Ex.alloc _ _;refine⟨Kp.ab (Ex.trans β x63) _,λω ε hb64 ν=>?_⟩;have x65:Ex α ε:=ν▸Ex.alloc _ _;exact⟨Kp.ab (Ex.trans (Ex.trans β x63) x65) _,go ε _ _ (Ex.trans (Ex.trans β x63) x65) (JA hb64 ν) (MQ (JA hb62 κ) x65)⟩
def fS.bound (ok:fS t)(su:SU t (num t e0 0).1):∀z,(z∈(num t e0 0).1.frL\/z∈(num t e0 0).1.ths.flatMap BV\/∃q∈(num t e0 0).1.ths,q.Fr z)->z<=(num t e0 0).2+100:=by
 have H:=su.nr.shape;have G:BV (num t e0 0).1=(num t e0 0).1.frL++(num t e0 0).1.ths.flatMap BV:=by
  have:BV (num t e0 0).1=BV (resL (num t e0 0).1.frL (parL (num t e0 0).1.ths)):=by rw [<-H]
  rw [this,cQ,cP]
 have key:∀z∈BV (num t e0 0).1,z<=(num t e0 0).2+100:=λz J=>((fN t e0 0).2 z J).2
 intro z J;rcases J with h | h | h
 ·exact key z (by rw [G];exact O9 _ h)
 ·exact key z (by rw [G];exact O0 _ h)
 ·rcases su.free z h with h | h
  ·exact key z (by rw [G];exact O9 _ h)
  ·omega
def KO (hu:u=(num t e0 0).1)(hn0:n0=(num t e0 0).2)(ok:fS t)(su:SU t u)(hsz:u.size<=60)(h:sj b b2 n0 c w w1 acc M){bl:Nat}(hcl:w1.cell? ⟨b,2,none⟩=some (ptr bl))(hl:az D w1 (td u) (ptr bl))(hD:∀g,D g->g≠b/\g< w.heap.size){i k:Nat}{e d x:Nat}{p q:U}{s:Bool}(hi:i< u.ths.length)(hk:k< u.ths.length)(hik:i≠k)(ho:Off.snd e d p∈offs u.ths[i])(hr:Off.rcv e x q s∈offs u.ths[k])
  {μ H:Nat} {vr vq:Value} (c403:w1.cell? ⟨μ,3,none⟩=some vr) (c402:w1.cell? ⟨μ,2,none⟩=some (iv d)) (ω:μ< w1.heap.size) (hMb:¬M μ) (hbb:μ≠b) (hvr:az D w1 (td p) vr) (c108:∀j,j< 5->w1.cell? ⟨H,j,none⟩=(bR 63 e x vq s)[j]?) (hb108:H< w1.heap.size) (hMb2:¬M H) (hbb2:H≠b) (hvq:az D w1 (td q) vq)
  {gone:Value} (hgone:dt (λg=>g< w1.heap.size/\¬(g=b\/M g)) w1 gone ((if s then [i]else [i,k]).map iv)) (hacc:acc.length<=1000000000) (hc:n0+c<=4294966000) {J:Sb}
  (hJ:∀w3 M',sj b b2 n0 (c+60) w w3 (acc++[Gq u i k p (q.map (Ff (NN u) q x d)) s]) M'->Kp w1 w3 (λg=>g=b\/M g)->(∀g,M' g->M g\/w1.heap.size<=g)->J w3):
  ∃Z:Sb,∀γ:World,γ=World.drew w1->Z γ/\∃(b125 o126:Nat),ptr b=Value.pointer (some ⟨b125,o126,none⟩)/\∃v127:Value,(∀w',Z w'->World.cell? w' ⟨b125,(o126+2),none⟩=some v127)/\∃(b128 o129:Nat),v127=Value.pointer (some ⟨b128,o129,none⟩)/\∃v130:Value,(∀w',Z w'->World.cell? w' ⟨b128,(o129+0),none⟩=some v130)/\∃v131:Value,(∀w',Z w'->World.cell? w' ⟨μ,3,none⟩=some v131)/\∃c132:UInt8,∃n133:Int,∃n134:Int,∃v135:Value,∃q136:Bool,(∀w',Z w'->World.cell? w' ⟨H,0,none⟩=some (Value.int IntKind.u8 (UInt8.toNat c132))/\World.cell? w' ⟨H,1,none⟩=some (Value.int IntKind.i64 n133)/\World.cell? w' ⟨H,2,none⟩=some (Value.int IntKind.i64 n134)/\World.cell? w' ⟨H,3,none⟩=some v135/\World.cell? w' ⟨H,4,none⟩=some (Value.bool q136)/\True)/\∃n137:Int,(∀w',Z w'->World.cell? w' ⟨μ,2,none⟩=some (Value.int IntKind.i64 n137))/\
   Sc 115 #[ptr b,(Value.agg #[(Value.int IntKind.u8 (UInt8.toNat c132)),(Value.int IntKind.i64 n133),(Value.int IntKind.i64 n134),v135,(Value.bool q136)]),(Value.int IntKind.i64 n137)] γ (aw [.v] fun(v138:Value) (β:World)=>Z β/\oneV v131=true/\oneV v138=true/\∀(ι:Nat) (G:World),ι=Array.size (World.heap β)->G=World.alloc β (Obj.cells #[v131,v138] 59)->Z G/\Sc 114 #[ptr b,gone,v130,(Value.slice (some ⟨ι,0,none⟩) 2 2)] G (aw [.s,.b] fun(ο:aD) (ς:Bool) (δ:World)=>Z δ/\Sc 61 #[(Value.pointer (some ⟨b2,0,none⟩)),(Value.string (ak ο)),(Value.bool ς)] δ (aw [] fun(ε:World)=>Z ε/\J ε))):=by
 have hb:=h.hb;have s0:=h.km.size;have ψ:∀g,D g->¬M g:=λg hg hM=>by have :=(hD g hg).2;have :=(h.rs.mr g hM).1;omega
 obtain⟨bl',vo,vt,ts,e1,k2,k3,k4,k5,k6,k7,k8,k9⟩:=qe su hl;cases e1;obtain⟨sU,_⟩:=aC (su.smp _ (Oz hi)) _ ho;have uqp:Uq p:=(su.gH hi sU (ck _ ho)).snd;have nrp:p.Nr:=sU.nr (su.nrs _ (Oz hi));obtain⟨rU,_⟩:=aC (su.smp _ (Oz hk)) _ hr;have cU:=ck _ hr;have uqr:=su.gH hk rU cU;have uqq:Uq q:=uqr.rcv;have nrq:q.Nr:=rU.nr (su.nrs _ (Oz hk));have hps:p.size<=60:=by have h1:=sU.size;have h2:=bY u _ (Oz hi);simp only [Off.tm,T.size]at h1;omega
 have hqs:q.size<=60:=by have h1:=rU.size;have h2:=bY u _ (Oz hk);simp only [Off.tm,T.size]at h1;omega
 have htp:=c8 p;have htq:=c8 q;have hbvq:=rf _ (OB _) uqq nrq;have hbvl:=fk q;have hql:(td q).1.length+(td q).2.bvs.length=(BV q).length:=by rw [<-hbvq,Oy]
 have hq26:∀z∈BV q,26<=z:=λz hz=>su.ge z (O0 _ (Pk.2 ⟨_,Oz hk,cU.subset (OJ _ hz)⟩))
 have hMb':∀g,g< w.heap.size->g≠b->¬(g=b\/M g):=λg h1 h2 e=>e.elim h2 λhM=>by have :=(h.rs.mr g hM).1;omega
 have st:∀{w':World},Kp w1 w' (λg=>g=b\/M g)->∀{g:Nat},g< w1.heap.size->g≠b->¬M g->∀j,w'.cell? ⟨g,j,none⟩=w1.cell? ⟨g,j,none⟩:=λk g h1 h2 h3 j=>Ow (w:=w1) (k.block g h1 λe=>e.elim h2 h3)
 refine⟨λw'=>Kp w1 w' (λg=>g=b\/M g)/\w'.cell? ⟨b,2,none⟩=some (ptr bl),λγ hw124=>?_⟩;have κ:Ex w1 γ:=hw124▸Ex.drew w1;have hbl:b< w1.heap.size:=by omega
 have S124:Kp w1 γ (λg=>g=b\/M g)/\γ.cell? ⟨b,2,none⟩=some (ptr bl):=⟨Kp.ab κ _,by rw [κ.cell (show b< _ from hbl)];exact hcl⟩
 refine⟨S124,b,0,rfl,ptr bl,λw' k=>k.2,bl,0,rfl,vo,λw' k=>by rw [st k.1 k3 (hD _ k2).1 (ψ _ k2)];exact k4,vr,λw' k=>by rw [st k.1 ω hbb hMb];exact c403,63,e,x,vq,s,λw' k=>?_,d,λw' k=>by rw [st k.1 ω hbb hMb];exact c402,?_⟩
 ·have hc:∀j,j< 5->w'.cell? ⟨H,j,none⟩=(bR 63 e x vq s)[j]?:=λj hj=>by rw [st k.1 hb108 hbb2 hMb2];exact c108 j hj
  exact⟨hc 0 (by omega),hc 1 (by omega),hc 2 (by omega),hc 3 (by omega),hc 4 (by omega),trivial⟩
 have ξ:=h.ex κ;obtain⟨n,mn,hn1,hn2⟩:=ξ.mc;refine IF mn (az.ex hvq κ) (λg hg=>(hD g hg).1) (vn q) (uS uqq hq26) (by omega) (by omega) λv138 β F' n' θ mk139 α l139=>?_
 have υ:Kp w1 β (λg=>g=b\/M g):=Kp.trans (Kp.ab κ _) (Kp.mono (λ _ e=> .inl e) θ.kp) λ _ _ h=>h
 have c139:β.cell? ⟨b,2,none⟩=some (ptr bl):=by rw [θ.ce 2 (by omega)];exact S124.2
 refine⟨⟨υ,c139⟩,hvr.one,l139.one,λι G hb140 ν=>?_⟩;have ζ:Ex β G:=ν▸Ex.alloc _ _;have s141:G.heap.size=β.heap.size+1:=by rw [ν,size_alloc]
 have s139:=υ.size;have η:Kp w1 G (λg=>g=b\/M g):=Kp.trans υ (Kp.ab ζ λ _=>False) λ _ _ h=>h.elim
 have φ:G.cell? ⟨b,2,none⟩=some (ptr bl):=by rw [ζ.cell (show b< _ by omega)];exact c139
 refine⟨⟨η,φ⟩,?_⟩;have rl:=α.len;rw [Oy]at rl;have r141:sj b b2 n0 (c+60) w G acc M:=by
  have km:Km b w β:=Km.trans ξ.km θ;exact⟨km.out (Kp.ab ζ λ _=>False) (λ _ _ h=>h) hb,(ξ.rs.kp θ.kp λg hM e=>ξ.nb (e▸hM)).kp (Kp.ab ζ λ _=>False) λ _ _ h=>h,⟨n',mk139.ex ζ,by have :=α.le;omega,by omega⟩,hb⟩
 have hF:wk (n+100) q x d F':=by
  rw [hbvq]at α;refine⟨?_,λz h1 h2=>?_,λz hz=>(α.rng z hz).1,λz hz y hy e=>α.inj z hz y hy e⟩
  ·rw [α.out x uqr.du];simp [aI]
  ·rw [α.out z h2];simp [aI,h1]
 have hNn:∀z,(z∈u.frL\/z∈u.ths.flatMap BV\/∃q∈u.ths,q.Fr z)->z<=n+100:=λz hz=>by
  subst hu;have :=fS.bound ok su z hz;omega
 have hcok:=tC w1 ok su hi hk hik ho hr hF hNn (by omega);have χ:=E8 w1 ok su hi hk hik ho hr hF hNn (by omega) (fI (NN u) d uqr.du) su.bound (by unfold NN;omega);have ezs:([((td p),p),(Lv.cu F' (td q),q.map F')]:List ((List Nat×Lv)×U)).map (·.2)=[p,q.map F']:=rfl;have s1:=h.km.size;have hm2:dt (λg=>g< G.heap.size) G (.slice (some ⟨ι,0,none⟩) 2 2) [vr,v138]:=Ot hb140 ν;have hlS:az (λg=>g< G.heap.size) G (td u) (ptr bl):=az.sub (az.kp hl η λg hg e=>e.elim (hD g hg).1 (ψ g hg)) λg hg _=>hg
 have hvoS:dt (λg=>g< G.heap.size) G vo (u.frL.map iv):=(k6.kp η λg hg e=>e.elim (hD g hg).1 (ψ g hg)).sub λg hg _=>hg
 have hvrS:az (λg=>g< G.heap.size) G (td p) vr:=az.sub (az.kp hvr η λg hg e=>e.elim (hD g hg).1 (ψ g hg)) λg hg _=>hg
 have hv138:az (λg=>g< G.heap.size) G (Lv.cu F' (td q)) v138:=az.sub (az.ex l139 ζ) λg hg _=>hg
 have hgS:dt (λg=>g< G.heap.size) G gone ((if s then [i]else [i,k]).map iv):=(hgone.kp η λg hg=>hg.2).sub λg hg _=>hg
 have hlen:(joinL ([((td p),p),(Lv.cu F' (td q),q.map F')].map (·.1):List (List Nat×Lv))).1.length+(joinL ([((td p),p),(Lv.cu F' (td q),q.map F')].map (·.1):List (List Nat×Lv))).2.tot<=1000000:=by
  simp only [O3,Qf,joinL,Oy,OM,ON,Lv.bQ,gT,Lv.tot];omega
 have hz:∀z∈([((td p),p),(Lv.cu F' (td q),q.map F')]:List ((List Nat×Lv)×U)),Pc z.1 z.2:=λz hz=>by
  rcases OY.1 hz with rfl | hz
  ·exact Pc.nr uqp nrp
  ·cases OL.1 hz;exact Pc.map F' uqq nrq
 have hms:aO (λL v=>az (λg=>g< G.heap.size) G L v) ([((td p),p),(Lv.cu F' (td q),q.map F')].map (·.1):List (List Nat×Lv)) [vr,v138]:=aO.cons hvrS (aO.cons hv138 aO.Jk);have kJ:∀w',Kp G w' M->Kp w1 w' (λg=>g=b\/M g)/\w'.cell? ⟨b,2,none⟩=some (ptr bl):=λw' k=>⟨Kp.trans η k λ _ _ h=> .inr h,by rw [Ow (w:=G) (k.block b (by omega) h.nb)];exact φ⟩
 have aft:∀{P:Nat->Bool} {gl:List Nat},dt (λg=>g< G.heap.size) G gone (gl.map iv)->gl.length<=2->(∀j,P j=decide (j∈gl))->Nu (resL u.frL (parL (iH P u.ths 0++[p,q.map F'])))->cL (resL u.frL (parL (iH P u.ths 0++[p,q.map F'])))=cL (Gq u i k p (q.map (Ff (NN u) q x d)) s)->
   Sc 114 #[ptr b,gone,vo,(Value.slice (some ⟨ι,0,none⟩) 2 2)] G (aw [.s,.b] fun(ο:aD) (ς:Bool) (δ:World)=>(Kp w1 δ (λg=>g=b\/M g)/\δ.cell? ⟨b,2,none⟩=some (ptr bl))/\Sc 61 #[(Value.pointer (some ⟨b2,0,none⟩)),(Value.string (ak ο)),(Value.bool ς)] δ (aw [] fun(ε:World)=>(Kp w1 ε (λg=>g=b\/M g)/\ε.cell? ⟨b,2,none⟩=some (ptr bl))/\J ε)):=by
  intro P gl hg hgl hP hv hn;refine Nz r141 hacc (λhR=>pB su (by omega) (zs:=[((td p),p),(Lv.cu F' (td q),q.map F')]) (gl:=gl) (P:=P) (mvs:=[vr,v138]) φ (by omega) hlS hg (by omega) hvoS hm2 hms (by simp) hz hlen hP hv hn hR) kJ λw3 M' r3 k3 hM'=>hJ w3 M' r3 (kJ w3 k3).1 λg hg=>(hM' g hg).imp id λh=>by omega
 have egd:u.ths.getD k .nil=u.ths[k]:=aR hk;cases s
 ·have e1:iH (λn=>n==i||n==k) u.ths 0++[p,q.map F']=bL u.ths i k p (q.map F') false u.ths[k]:=by
   unfold bL;rw [tf];simp
  refine aft (P:=λn=>n==i||n==k) (gl:=[i,k]) hgS (by simp) (λj=>?_) (by rw [e1];exact hcok.1) (by rw [e1];unfold Gq;rw [egd];exact χ);simp [iV,R7]
 ·have e1:iH (λn=>n==i||n==i) u.ths 0++[p,q.map F']=wo u.ths i i++[p,q.map F']:=by rw [tf]
  have hp:=FN hi hk hik p (q.map F');refine aft (P:=λn=>n==i||n==i) (gl:=[i]) hgS (by simp) (λj=>?_) (by rw [e1];exact D5 hp.symm hcok.1) (by rw [e1];unfold Gq;rw [egd];exact(BY hp).trans χ);simp [iV]
end
def zD {w w1:World}{g e:Nat}{cs:List Value}(α:cs.length=5)(hg:g=w.heap.size)(G:w1=w.alloc (.cells #[.int .u8 0,.int .i64 0,.int .i64 0,.pointer none,.bool false] e)):
  (∀j,j< 5->(∃u,w1.cell? ⟨g,0+j,none⟩=some u)/\w1.frozen? ⟨g,0+j,none⟩=false)/\∀H,H=World.setCells w1 g 0 cs->Ex w H/\g< H.heap.size/\∀j,j< 5->H.cell? ⟨g,j,none⟩=cs[j]?:=by
 have hc:∀j,j< 5->∃u,w1.cell? ⟨g,0+j,none⟩=some u:=λj J=>by
  rw [G,hg];have:∃u,(#[.int .u8 0,.int .i64 0,.int .i64 0,.pointer none,.bool false]:Array Value)[0+j]?=some u:=by
   rw [O6];exact⟨_,Q8 (by simpa using J)⟩
  obtain⟨u,hu⟩:=this;exact⟨u,aa hu⟩
 refine⟨λj J=>⟨hc j J,by rw [G,hg];exact aU _ _ _ _⟩,λH Z=>?_⟩;obtain⟨k,_,_,sc⟩:=bg (b:=g) cs w1 0;rw [<-Z]at k sc;have x1:Ex w w1:=G▸Ex.alloc _ _;have s1:w1.heap.size=w.heap.size+1:=by rw [G,size_alloc]
 have s2:=k.size;refine⟨Ex.below x1 (Kp.below k x1.size λb hb e=>by omega),by omega,λj J=>?_⟩;have :=sc j (λi hi=>hc i (by omega)) (by omega)
 rwa [O6]at this
def fX {A:Type}:∀t:T A,(offs t).length<=t.size:=by
 intro t
 induction t with
 | sum p q G H=>simp only [offs,Oy,T.size];omega
 | rep p G=>simp only [offs,OM,T.size];omega
 | _=>simp [offs,T.size]
def gA {X Y:Type}{f:X->List Y}{c:Nat}:∀{l:List X},(∀x∈l,(f x).length<=c)->(l.flatMap f).length<=l.length* c
 | [],_=>by simp
 | x::l,h=>by
  have H:=h x (by simp);have J:=gA (f:=f) (c:=c) (l:=l) λy G=>h y (by simp [G])
  simp only [PE,Oy,Ov,Nat.succ_mul];omega
def kv.any {D:Nat->Prop}{w:World}{o:Off Nat}{cs:List Value}(h:kv D w o cs):∃(k:UInt8) (a b:Nat) (vr:Value) (s:Bool),cs=bR k a b vr s/\oneV vr=true:=by
 cases o with
 | tau p=>obtain⟨a,b,vr,s,G,H⟩:=h;exact⟨126,a,b,vr,s,G,H.one⟩
 | snd a b p=>obtain⟨vr,s,G,H⟩:=h;exact⟨33,a,b,vr,s,G,H.one⟩
 | rcv a b p s=>obtain⟨vr,G,H⟩:=h;exact⟨63,a,b,vr,s,G,H.one⟩
def pH {k:UInt8}{a b:Nat}{vr:Value}{s:Bool}(h:oneV vr=true):(bR k a b vr s).all oneV=true:=by simp only [bR,PQ,Rq,QL,h]
def tJ {D:Nat->Prop}{B:Nat}{w:World}{v:Value}{os:List (Off Nat)}{xs:List Value}(G:cB B w v os.length xs)(hm:OffsM D w os xs){j:Nat}(H:j< os.length):∃(g cap:Nat) (cs:List Value),v= .slice (some ⟨g,0,none⟩) os.length cap/\kv D w os[j] cs/\∀i u,cs[i]?=some u->∀off,off=j* 5+i->i< 5->w.cell? ⟨g,off,none⟩=some u:=by
 obtain⟨cs,J,Z⟩:=hm.at H;rcases G.cell with⟨_,h0,_⟩ | ⟨g,cap,rfl,_,hc⟩
 ·omega
 ·refine⟨g,cap,cs,rfl,J,λi u hu off he hi=>?_⟩;have :=hc (j* 5+i) u (by rw [Z i hi];exact hu);rw [he];rwa [O6]at this
section
variable {t:P} {u:U} {b b2 n0:Nat} {w:World} {D:Nat->Prop}
def Rel (b:Nat)(w1:World)(G:Nat->Prop)(H:World)(M2:Nat->Prop):Prop:=Kp w1 H (λg=>g=b\/G g)/\∀g,M2 g->G g\/w1.heap.size<=g
def Rel.refl (b:Nat)(w:World)(M:Nat->Prop):Rel b w M w M:=⟨Kp.ab (Ex.refl w) _,λ _ h=> .inl h⟩
def Rel.trans {b:Nat}{w1 G H:World}{J M2 Z:Nat->Prop}(h:Rel b w1 J G M2)(k:Rel b G M2 H Z):Rel b w1 J H Z:=
 ⟨Kp.trans h.1 k.1 λg hg e=>e.elim .inl λhM=>(h.2 g hM).elim .inr λh=>by omega,λg hg=>(k.2 g hg).elim (h.2 g) λh'=> .inr (Pq h.1.size h')⟩
def Rel.ex {b:Nat}{w1 G H:World}{J M2:Nat->Prop}(h:Rel b w1 J G M2)(x:Ex G H):Rel b w1 J H M2:=h.trans ⟨Kp.ab x _,λ _ h=> .inl h⟩
def sj.mono {c G:Nat}{w w':World}{acc:List U}{M:Nat->Prop}(h:sj b b2 n0 c w w' acc M)(Z:c<=G):sj b b2 n0 G w w' acc M:=by
 obtain⟨n,H,J,h3⟩:=h.mc;exact⟨h.km,h.rs,⟨n,H,J,by omega⟩,h.hb⟩
def LY (hu:u=(num t e0 0).1)(hn0:n0=(num t e0 0).2)(ok:fS t)(su:SU t u)(hsz:u.size<=60){bl:Nat}(hcl0:w.cell? ⟨b,2,none⟩=some (ptr bl))(hl0:az D w (td u) (ptr bl))(hD:∀g,D g->g≠b/\g< w.heap.size){i k:Nat}{e d:Nat}{p:U}(hi:i< u.ths.length)(hk:k< u.ths.length)(ho:Off.snd e d p∈offs u.ths[i])
  {w1:World} {M:Nat->Prop} {acc:List U} (h:sj b b2 n0 (60* acc.length) w w1 acc M) (hacc:acc.length<=20000000) {β:Nat} {vr:Value} {s0:Bool} (c40:∀j,j< 5->w1.cell? ⟨β,j,none⟩=(bR 33 e d vr s0)[j]?) (hb40:β< w1.heap.size) (hMb:¬M β) (hbb:β≠b) (hvr:az D w1 (td p) vr)
  {v89:Value} (h89:ah D w1 (tl [u.ths[k]]) [v89]) {J:Sb} (hJ:∀w3 M',sj b b2 n0 (60* (acc++E2 u i e d p k).length) w w3 (acc++E2 u i e d p k) M'->Rel b w1 M w3 M'->J w3):
  Sc 113 #[v89] w1 (aw [.v] fun(v90:Value) (ς:World)=>∃(a92:Option Addr) (ω cap94:Nat),v90=Value.slice a92 ω cap94/\∃(I95:Int->Sb) (υ:Int->World->Nat),I95 (0) ς/\∀(H:Int) (δ:World),I95 H δ->((decide (H< (ω:Int)))=true->∃(b99 ν len101 cap102:Nat),v90=Value.slice (some ⟨b99,ν,none⟩) len101 cap102/\0<=(H:Int)/\(H:Int)< len101/\∃c103:UInt8,∃n104:Int,∃n105:Int,∃v106:Value,∃q107:Bool,(World.cell? δ ⟨b99,(ν+Int.toNat H* 5),none⟩=some (Value.int IntKind.u8 (UInt8.toNat c103))/\World.cell? δ ⟨b99,((ν+Int.toNat H* 5)+1),none⟩=some (Value.int IntKind.i64 n104)/\World.cell? δ ⟨b99,(((ν+Int.toNat H* 5)+1)+1),none⟩=some (Value.int IntKind.i64 n105)/\World.cell? δ ⟨b99,((((ν+Int.toNat H* 5)+1)+1)+1),none⟩=some v106/\World.cell? δ ⟨b99,(((((ν+Int.toNat H* 5)+1)+1)+1)+1),none⟩=some (Value.bool q107)/\True)/\
   ∀(Z:Nat) (φ:World),Z=Array.size (World.heap δ)->φ=World.alloc δ (Obj.cells #[(Value.int IntKind.u8 0),(Value.int IntKind.i64 0),(Value.int IntKind.i64 0),(Value.pointer none),(Value.bool false)] 134)->(List.length [(Value.int IntKind.u8 (UInt8.toNat c103)),(Value.int IntKind.i64 n104),(Value.int IntKind.i64 n105),v106,(Value.bool q107)]=5/\List.all [(Value.int IntKind.u8 (UInt8.toNat c103)),(Value.int IntKind.i64 n104),(Value.int IntKind.i64 n105),v106,(Value.bool q107)] oneV=true/\∀j,j< 5->(∃u,World.cell? φ ⟨Z,0+j,none⟩=some u)/\World.frozen? φ ⟨Z,0+j,none⟩=false)/\
   ∀G:World,G=World.setCells φ Z 0 [(Value.int IntKind.u8 (UInt8.toNat c103)),(Value.int IntKind.i64 n104),(Value.int IntKind.i64 n105),v106,(Value.bool q107)]->((decide ((k:Int)=(i:Int)))=false->∃c111:UInt8,World.cell? G ⟨Z,0,none⟩=some (Value.int IntKind.u8 (UInt8.toNat c111))/\((!decide (c111=63))=false->∃n112:Int,World.cell? G ⟨Z,1,none⟩=some (Value.int IntKind.i64 n112)/\∃n113:Int,World.cell? G ⟨β,1,none⟩=some (Value.int IntKind.i64 n113)/\((!decide (n112=n113))=true->bG (H+1)/\I95 ((H+1)) G/\υ ((H+1)) G< υ H δ)/\((!decide (n112=n113))=false->∀(γ:Nat) (ε:World),γ=Array.size (World.heap G)->ε=World.alloc G (Obj.cells #[(Value.int IntKind.i64 (i:Int)),(Value.int IntKind.i64 (k:Int))] 3)->∃J116:Value->Sb,(∃q117:Bool,World.cell? ε ⟨Z,4,none⟩=some (Value.bool q117)/\(q117=true->∃(a118:Option Addr) (len119 η:Nat),(Value.slice (some ⟨γ,0,none⟩) 2 2)=Value.slice a118 len119 η/\0<=(0:Int)/\(0:Int)<=1/\1<=(η:Int)/\J116 ((Value.slice (if η=Int.toNat 0 then a118 else Option.map (·.add (Int.toNat 0* 1)) a118) (Int.toNat 1 - Int.toNat 0) (η - Int.toNat 0))) ε)/\(q117=false->J116 ((Value.slice (some ⟨γ,0,none⟩) 2 2)) ε))/\
   ∀(χ:Value) (ι:World),J116 χ ι->∃ζ:Sb,∀w124:World,w124=World.drew ι->ζ w124/\∃(b125 o126:Nat),ptr b=Value.pointer (some ⟨b125,o126,none⟩)/\∃v127:Value,(∀w',ζ w'->World.cell? w' ⟨b125,(o126+2),none⟩=some v127)/\∃(b128 o129:Nat),v127=Value.pointer (some ⟨b128,o129,none⟩)/\∃v130:Value,(∀w',ζ w'->World.cell? w' ⟨b128,(o129+0),none⟩=some v130)/\∃v131:Value,(∀w',ζ w'->World.cell? w' ⟨β,3,none⟩=some v131)/\∃c132:UInt8,∃n133:Int,∃n134:Int,∃v135:Value,∃q136:Bool,(∀w',ζ w'->World.cell? w' ⟨Z,0,none⟩=some (Value.int IntKind.u8 (UInt8.toNat c132))/\World.cell? w' ⟨Z,1,none⟩=some (Value.int IntKind.i64 n133)/\World.cell? w' ⟨Z,2,none⟩=some (Value.int IntKind.i64 n134)/\World.cell? w' ⟨Z,3,none⟩=some v135/\World.cell? w' ⟨Z,4,none⟩=some (Value.bool q136)/\True)/\∃n137:Int,(∀w',ζ w'->World.cell? w' ⟨β,2,none⟩=some (Value.int IntKind.i64 n137))/\
   Sc 115 #[ptr b,(Value.agg #[(Value.int IntKind.u8 (UInt8.toNat c132)),(Value.int IntKind.i64 n133),(Value.int IntKind.i64 n134),v135,(Value.bool q136)]),(Value.int IntKind.i64 n137)] w124 (aw [.v] fun(v138:Value) (w139:World)=>ζ w139/\oneV v131=true/\oneV v138=true/\∀(b140:Nat) (w141:World),b140=Array.size (World.heap w139)->w141=World.alloc w139 (Obj.cells #[v131,v138] 59)->ζ w141/\Sc 114 #[ptr b,χ,v130,(Value.slice (some ⟨b140,0,none⟩) 2 2)] w141 (aw [.s,.b] fun(s142:aD) (q143:Bool) (w144:World)=>ζ w144/\Sc 61 #[(Value.pointer (some ⟨b2,0,none⟩)),(Value.string (ak s142)),(Value.bool q143)] w144 (aw [] fun(w145:World)=>ζ w145/\bG (H+1)/\I95 ((H+1)) w145/\υ ((H+1)) w145< υ H δ)))))/\((!decide (c111=63))=true->bG (H+1)/\I95 ((H+1)) G/\υ ((H+1)) G< υ H δ))/\((decide ((k:Int)=(i:Int)))=true->bG (H+1)/\I95 ((H+1)) G/\υ ((H+1)) G< υ H δ))/\((decide (H< (ω:Int)))=false->J δ)):=by
 have hthk:=su.th _ (Oz hk);have hks:=bY u _ (Oz hk);have sw0:=h.km.size;have hDM:∀g,D g->¬(g=b\/M g):=λg hg e=>e.elim (hD g hg).1 λhM=>by have :=(hD g hg).2;have :=(h.rs.mr g hM).1;omega
 have egd:u.ths.getD k .nil=u.ths[k]:=aR hk;generalize hos:offs u.ths[k]=os at*;have hosl:os.length<=60:=by have :=fX u.ths[k];rw [hos]at this;omega
 have hE3:∀r,((os.take r).flatMap (E3 u i k e d p)).length<=60:=λr=>by
  have h1:=gA (f:=E3 u i k e d p) (c:=1) (l:=os.take r) λx _=>by
   cases x with
   | rcv e' x q s=>unfold E3;simp only;split<;>simp
   | _=>simp [E3]
  rw [Pd]at h1;omega
 refine pE hthk.1 hthk.2.1 hthk.2.2 (su.smp _ (Oz hk)) (by omega) (λg hg=>by have :=(hD g hg).2;omega) h89 λv90 ς xs x91 ho91 hm91=>?_
 rw [hos]at ho91 hm91;have hv90:∃a cap,v90= .slice a os.length cap:=by
  rcases ho91.cell with⟨h1,h2,_⟩ | ⟨g,cap,h1,_⟩
  ·exact⟨none,0,by rw [h1,h2]⟩
  ·exact⟨_,cap,h1⟩
 obtain⟨av,cav,hv90⟩:=hv90;have h91:=h.ex x91;have s91:=x91.size;refine⟨av,_,cav,hv90,λx w'=>∃(r:Nat) (M':Nat->Prop),x=r/\r<=os.length/\sj b b2 n0 (60* (acc++if i=k then []else(os.take r).flatMap (E3 u i k e d p)).length) w w' (acc++if i=k then []else(os.take r).flatMap (E3 u i k e d p)) M'/\Rel b ς M w' M',λx _=>(os.length - x).toNat,⟨0,M,rfl,Pn _,by simpa using h91,Rel.refl b ς M⟩,λx δ hI=>?_⟩;obtain⟨r,M',rfl,hr,r98,α⟩:=hI;refine⟨λhlt=>?_,λhge=>?_⟩;rotate_left
 ·have hrl:=oE hge (by omega);rw [hrl,O4]at r98;have e2:E2 u i e d p k=if i=k then []else os.flatMap (E3 u i k e d p):=by unfold E2;rw [egd,hos]
  rw [<-e2]at r98;exact hJ δ M' r98 (((Rel.refl b w1 M).ex x91).trans α)
 have hrl:=oL hlt;have hMv:∀g,v90.ownBlock=some g->¬(g=b\/M g):=λg hg e=>by
  have h1:=ho91.block g hg;have :=h.hb;exact e.elim (λe=>by omega) λhM=>by have :=(h.rs.mr g hM).2;omega
 have hM91:∀g,g< ς.heap.size->¬(g=b\/M g)->¬(g=b\/M' g):=λg h1 h2 e=>e.elim (λe=>h2 (.inl e)) λhM=>(α.2 g hM).elim (λhM=>h2 (.inr hM)) λh=>by omega
 have ho98:=ho91.kp α.1 hMv;have hm98:=OffsM.kp α.1 hDM hm91;obtain⟨g,cap,cs,hvg,hcs,κ⟩:=tJ ho98 hm98 hrl;obtain⟨kk,a1,b1,vq,s1,rfl,hone⟩:=hcs.any;have s98:=α.1.size;refine⟨g,0,_,cap,hvg,by omega,by omega,kk,a1,b1,vq,s1,⟨κ 0 _ rfl _ (by omega) (by omega),κ 1 _ rfl _ (by omega) (by omega),κ 2 _ rfl _ (by omega) (by omega),κ 3 _ rfl _ (by omega) (by omega),κ 4 _ rfl _ (by omega) (by omega),trivial⟩,λZ φ hb108 hw109=>?_⟩;obtain⟨box1,nt⟩:=zD (cs:=bR kk a1 b1 vq s1) rfl hb108 hw109;refine⟨⟨rfl,pH hone,box1⟩,λG hw110=>?_⟩;obtain⟨ξ,l110,c110⟩:=nt G hw110;have s110:=ξ.size;have htk:(os.take (r+1)).flatMap (E3 u i k e d p)=(os.take r).flatMap (E3 u i k e d p)++E3 u i k e d p os[r]:=by rw [OC hrl,Pt];simp
 have next:∀w',(E3 u i k e d p os[r]=[]\/i=k)->w'=G->bG ((r:Int)+1)/\(∃(r2:Nat) (M2:Nat->Prop),(r:Int)+1=r2/\r2<=os.length/\sj b b2 n0 (60* (acc++if i=k then []else(os.take r2).flatMap (E3 u i k e d p)).length) w w' (acc++if i=k then []else(os.take r2).flatMap (E3 u i k e d p)) M2/\Rel b ς M w' M2)/\((os.length:Int) - ((r:Int)+1)).toNat< ((os.length:Int) - r).toNat:=by
  intro w' he hw';subst hw';refine⟨by omega,⟨r+1,M',by omega,by omega,?_,α.ex ξ⟩,by omega⟩;have:(if i=k then []else(os.take (r+1)).flatMap (E3 u i k e d p))=(if i=k then []else(os.take r).flatMap (E3 u i k e d p)):=by
   split
   ·rfl
   ·rename_i hik;rw [htk,he.resolve_right hik,O5]
  rw [this];exact r98.ex ξ
 have r110:=r98.ex ξ;by_cases hik:k=i
 ·exact⟨λh=>absurd (OX h) (by omega),λ _=>next G (.inr hik.symm) rfl⟩
 refine⟨λ _=>⟨kk,c110 0 (by omega),?_,?_⟩,λh=>absurd (OW h) (by omega)⟩;rotate_left
 ·intro ο;refine next G (.inl ?_) rfl;have hne:kk≠63:=by simpa using ο
  generalize hor:os[r]=o at*;cases o with
  | tau p=>rfl
  | snd a b p=>rfl
  | rcv a x q s=>obtain⟨vr',e1,_⟩:=hcs;simp only [bR,Po,PF]at e1;exact absurd (OU.1 (by have :=e1.1.2;have e3:(63:UInt8).toNat=63:=rfl;omega)) hne
 ·intro ο;have ο:kk=63:=by
   cases hd:decide (kk=63)with
   | true=>exact OW hd
   | false=>rw [hd]at ο;cases ο
  subst ο;obtain⟨x,q,e1,e2⟩:∃x q,os[r]= .rcv a1 x q s1/\x=b1:=by
   generalize hor:os[r]=o at*;cases o with
   | tau p=>obtain⟨_,_,_,_,e1,_⟩:=hcs;simp only [bR,Po,PF]at e1;exact absurd e1.1.2 (by decide)
   | snd a b p=>obtain⟨_,_,e1,_⟩:=hcs;simp only [bR,Po,PF]at e1;exact absurd e1.1.2 (by decide)
   | rcv a x q s=>
    obtain⟨vr',e1,_⟩:=hcs;simp only [bR,Po,PF,RM,Qz,Qe]at e1;exact⟨x,q,by rw [show a1=a by omega,e1.2.2.2],by omega⟩
  subst e2;have hrm:Off.rcv a1 x q s1∈offs u.ths[k]:=by rw [hos,<-e1];exact Oz hrl
  rw [e1]at hcs;obtain⟨vq',e3,hvq⟩:=hcs;have:vq'=vq:=by simp only [bR,Po,Qz,Qe]at e3;exact e3.symm
  subst this;have hb40':β< ς.heap.size:=by omega
  have hM40:¬(β=b\/M β):=λe=>e.elim hbb hMb
  have c40':∀j,j< 5->G.cell? ⟨β,j,none⟩=(bR 33 e d vr s0)[j]?:=λj hj=>by
   rw [ξ.cell (show β< _ by omega),Ow (w:=ς) (α.1.block β hb40' hM40),x91.cell (show β< _ from hb40)];exact c40 j hj
  refine⟨a1,c110 1 (by omega),e,c40' 1 (by omega),λhne=>?_,λheq γ ε hb114 μ=>?_⟩
  ·refine next G (.inl ?_) rfl;rw [e1];have hne:(a1:Int)≠e:=by simpa using hne
   exact OP (by omega)
  ·have heq:a1=e:=by
    have:(a1:Int)=e:=by
     cases hd:decide ((a1:Int)=e)with
     | true=>exact OW hd
     | false=>rw [hd]at heq;cases heq
    omega
   subst heq;have ψ:Ex G ε:=μ▸Ex.alloc _ _;have s115:ε.heap.size=G.heap.size+1:=by rw [μ,size_alloc]
   have xx:=Ex.trans ξ ψ;have θ:∀g,δ.heap.size<=g->¬(g=b\/M' g):=λg hg e=>e.elim (λe=>by have :=h.hb;have :=r98.km.size;omega) λhM=>by have :=(r98.rs.mr g hM).2;omega
   refine⟨λgone w'=>w'=ε/\dt (λg=>g< ε.heap.size/\¬(g=b\/M' g)) ε gone ((if s1 then [i]else [i,k]).map iv),⟨s1,?_,λhs=>⟨_,_,2,rfl,by omega,by omega,by omega,rfl,?_⟩,λhs=>⟨rfl,?_⟩⟩,λgone ι hJ2=>?_⟩
   ·rw [ψ.cell (show Z< _ from l110)];exact c110 4 (by omega)
   ·rw [hs];have:(if(2:Nat)=Int.toNat 0 then(some ⟨γ,0,none⟩:Option Addr)else Option.map (λx:Addr=>x.add (Int.toNat 0* 1)) (some ⟨γ,0,none⟩))=some ⟨γ,0,none⟩:=by
     rw [OP (by decide),P8,add_plain];rfl
    rw [this];refine .inr ⟨γ,0,_,rfl,⟨by omega,θ γ (by omega)⟩,by omega,λi' y hy=>?_⟩;cases i' with
    | zero=>simp only [Qu,O3,Qf,PN,PJ]at hy;subst hy;rw [μ,hb114];exact aa rfl
    | succ i=>simp at hy
   ·rw [hs];refine .inr ⟨γ,0,_,rfl,⟨by omega,θ γ (by omega)⟩,by omega,λi' y hy=>?_⟩
    match i',hy with
    | 0,hy=>simp only [Qp,Rb,O3,Qf,PN,PJ]at hy;subst hy;rw [μ,hb114];exact aa rfl
    | 1,hy=>simp only [Qp,Rb,O3,Qf,List.getElem?_cons_succ,PN,PJ]at hy;subst hy;rw [μ,hb114];exact aa rfl
    | i+2,hy=>simp at hy
   obtain⟨rfl,hgone⟩:=hJ2;have r122:=r110.ex ψ;rw [OP (λe=>hik e.symm)]at r122;have hE3r:=hE3 r;have hcl:ι.cell? ⟨b,2,none⟩=some (ptr bl):=(r122.km.ce 2 (by omega)).trans hcl0;have hl:az D ι (td u) (ptr bl):=az.kp hl0 r122.km.kp λg hg=>(hD g hg).1
   have cc40:∀j,j< 5->ι.cell? ⟨β,j,none⟩=(bR 33 a1 d vr s0)[j]?:=λj hj=>by rw [ψ.cell (show β< _ by omega)];exact c40' j hj
   have hvr':az D ι (td p) vr:=az.ex (az.kp (az.ex hvr x91) α.1 hDM) xx;have hM40':=hM91 β hb40' hM40;refine KO hu hn0 ok su hsz r122 hcl hl hD hi hk (λe=>hik e.symm) ho hrm (cc40 3 (by omega)) (cc40 2 (by omega)) (by omega) (λhM=>hM40' (.inr hM)) hbb hvr' (λj hj=>by rw [ψ.cell (show Z< _ from l110)];exact c110 j hj) (by omega) (λhM=>θ Z (by omega) (.inr hM)) (λe=>θ Z (by omega) (.inl e)) (az.ex hvq xx) hgone (by rw [Oy];omega) (by
    have hnn:=bO t e0 0;have hts:=ok.size;rw [Oy];omega) λw3 M3 r3 k3 hM3=>⟨by omega,⟨r+1,M3,by omega,by omega,?_,(α.ex xx).trans ⟨k3,hM3⟩⟩,tN (by omega)⟩
   rw [OP (λe=>hik e.symm),htk,e1];have e4:E3 u i k a1 d p (.rcv a1 x q s1)=[Gq u i k p (q.map (Ff (NN u) q x d)) s1]:=O' rfl;rw [e4,<-Pe];refine r3.mono ?_;simp only [Oy,Ov,ON];omega
end
end
end Go.Proofs.YthekamjhgabkjaaGreat
