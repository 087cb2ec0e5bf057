/- Part 4 of a proof of what the last text states; no condition. -/
import Derived.Test.YthekamjhgabkjaaGreatAf3
set_option maxRecDepth 100000
set_option maxHeartbeats 4000000
set_option linter.defProp false
set_option linter.unusedVariables false
set_option linter.unusedSimpArgs false
namespace Go.Proofs.YthekamjhgabkjaaGreat
open Go Go.RowKit
def za {B:Nat}{v:Value}{o:List Nat}{Inv:List (List Nat)->Qx}{f:Nat}{ca:List Value}(hf:hasR gD f=true)(ς:MQ B v o Inv f ca)(hinv:∀acc w w',Inv acc w->Kp w w' (λg=>v.ownBlock=some g)->Inv acc w')(ho:o.length<=1099511627776):
  ∀(d:Nat) (a:Nat) (π:List Nat) (acc:List (List Nat)) (w:World),a+d=π.length->Inv acc w->aE 3 B w v (π.map iv)->π.Perm o->∀{R:Qx},
   (∀w' ι,Inv (acc++ι) w'->aE 3 B w' v (π.map iv)->(∀σ,σ∈ι↔∃τ:List Nat,τ.Perm (π.drop a)/\σ=π.take a++τ)->R w')->
   Qy 225 #[v,iv a,.func (.func f) #[] (List.toArray ca)] w (ax [] R)
 | 0,a,π,acc,w,hd,hI,hw,hp,R,hR=>by
  refine kL v a _ w R ?_;dsimp only [go_sem];obtain⟨ad,cap,hv⟩:=(hw.AS (D:=λ _=>True) λ _ _=>trivial).slice;rw [Nq]at hv;refine⟨ad,_,cap,hv,cI (by omega) ⟨f,ca,rfl,hf,?_⟩⟩;rw [N2];refine ς acc π w hI hw hp λw' hI' hw'=>hR w' [π] hI' hw' λσ=>?_
  rw [show a=π.length by omega,O8,NR];simp only [ND,List.perm_nil];constructor
  ·rintro rfl;exact⟨[],rfl,by simp⟩
  ·rintro⟨τ,rfl,rfl⟩;simp
 | d+1,a,π,acc,w,hd,hI,hw,hp,R,hR=>by
  refine kL v a _ w R ?_;dsimp only [go_sem];dsimp only [go_sem,Nat.reduceAdd];have ha:a< π.length:=by omega
  have hpl:=hp.length_eq;obtain⟨g,cap,hv⟩:∃g cap,v= .slice (some ⟨g,0,none⟩) π.length cap:=by
   rcases hw.2 with⟨_,h0⟩ | ⟨g,cap,cur,hv,_⟩
   ·rw [Nq]at h0;omega
   ·rw [Nq]at hv;exact⟨g,cap,hv⟩
  subst hv;have kg:∀{w1 w2:World} {j:Nat} {x:Value},w2=w1.setCell ⟨g,j,none⟩ x->Kp w1 w2 (λb=>(Value.slice (some ⟨g,0,none⟩) π.length cap).ownBlock=some b):=λh=>h▸Kp.mono (λb hb=>by rw [hb];rfl) (Kr.set _ _ _)
  refine⟨_,_,cap,rfl,aR (by omega) ⟨λi w'=>∃(j:Nat) (G:List (List Nat)),i=j/\a<=j/\j<=π.length/\Inv (acc++G) w'/\aE 3 B w' (.slice (some ⟨g,0,none⟩) π.length cap) (π.map iv)/\∀σ,σ∈G↔∃i,∃hi:i< π.length,(a<=i/\i< j)/\∃τ:List Nat,τ.Perm ((swp π a i ha hi).drop (a+1))/\σ=(swp π a i ha hi).take (a+1)++τ,
   λi _=>(π.length - i).toNat,⟨a,[],rfl,Nc _,by omega,by rw [NM];exact hI,hw,λσ=>⟨λh=>(by cases h),fun⟨i,_,h,_⟩=>by omega⟩⟩,λi μ hJ=>?_⟩⟩
  obtain⟨j,G,rfl,υ,hjl,φ,ζ,κ⟩:=hJ;refine⟨_,_,cap,rfl,λhlt=>?_,λhge=>?_⟩;rotate_left
  ·have:j=π.length:=by simp only [No]at hge;omega
   refine hR μ G φ ζ λσ=>?_
   rw [κ,<-HU π a ha];constructor
   ·rintro⟨i,hi,⟨h1,_⟩,h2⟩;exact⟨i,hi,h1,h2⟩
   ·rintro⟨i,hi,h1,h2⟩;exact⟨i,hi,⟨h1,by omega⟩,h2⟩
  have H:=oL hlt;obtain⟨cj,fj,hgb,_⟩:=ζ.at H;obtain⟨ca',fa,_,_⟩:=ζ.at ha;obtain⟨s1,s2,s3⟩:=lC π a j ha H υ;refine⟨λw'=>aE 3 B w' (.slice (some ⟨g,0,none⟩) π.length cap) (π.map iv),λw18 χ=>?_⟩;have ψ:Ex μ w18:=χ▸Ex.drew μ;have η:=ζ.kp (Kp.ah ψ λ _=>False) λ _ _ h=>h
  have I18:=hinv _ _ _ φ (Kp.ah ψ _);refine⟨η,g,0,_,cap,rfl,by omega,by omega,π[j],λw' ho=>by rw [Nf,NQ];exact(ho.at H).1,g,0,_,cap,rfl,by omega,by omega,π[a],λw' ho=>by rw [Nf,NQ];exact(ho.at ha).1,g,0,_,cap,rfl,by omega,by omega,⟨⟨_,by rw [Nf,NQ];exact(η.at ha).1⟩,by rw [Nf,NQ];exact(η.at ha).2.1⟩,λw34 β=>?_⟩;rw [Nf,NQ,NJ]at β;have ν:=η.set β (by simpa using ha);rw [<-Qc]at ν;have ω:j< (π.set a π[j]).length:=by rw [OE];exact H
  obtain⟨c34,f34,_,_⟩:=ν.at ω;refine⟨g,0,_,cap,rfl,by omega,by omega,⟨⟨_,by rw [Nf,NQ];exact c34⟩,by rw [Nf,NQ];exact f34⟩,λw40 γ=>⟨by omega,?_⟩⟩;rw [Nf,NQ,NJ]at γ;have o40:=ν.set γ (by simpa using H);rw [<-Qc]at o40;have o40':aE 3 B w40 (.slice (some ⟨g,0,none⟩) π.length cap) ((swp π a j ha H).map iv):=o40;have I40:=hinv _ _ _ (hinv _ _ _ I18 (kg β)) (kg γ);refine za hf ς hinv ho d (a+1) (swp π a j ha H) (acc++G) w40 (by omega) I40 o40' (s1.trans hp) λw41 acc2 I41 o41 hm2=>?_
  have Z:j< (swp π a j ha H).length:=by omega
  have J:a< (swp π a j ha H).length:=by omega
  obtain⟨ej,ea⟩:=KR π a j ha H Z J;refine⟨λw'=>aE 3 B w' (.slice (some ⟨g,0,none⟩) π.length cap) ((swp π a j ha H).map iv),λw43 hw43=>?_⟩;have x43:Ex w41 w43:=hw43▸Ex.drew w41;have θ:=o41.kp (Kp.ah x43 λ _=>False) λ _ _ h=>h
  have I43:=hinv _ _ _ I41 (Kp.ah x43 _);refine⟨θ,g,0,_,cap,rfl,by omega,by omega,((swp π a j ha H)[j]:Nat),λw' ho=>by rw [Nf,NQ];exact(ho.at Z).1,g,0,_,cap,rfl,by omega,by omega,((swp π a j ha H)[a]:Nat),λw' ho=>by rw [Nf,NQ];exact(ho.at J).1,g,0,_,cap,rfl,by omega,by omega,⟨⟨_,by rw [Nf,NQ];exact(θ.at J).1⟩,by rw [Nf,NQ];exact(θ.at J).2.1⟩,λw59 δ=>?_⟩;rw [Nf,NQ,NJ]at δ;have ξ:=θ.set δ (by rw [Nq];exact J);rw [<-Qc]at ξ;have hj59:j< ((swp π a j ha H).set a (swp π a j ha H)[j]).length:=by rw [OE];exact Z
  obtain⟨c59,f59,_,_⟩:=ξ.at hj59;refine⟨g,0,_,cap,rfl,by omega,by omega,⟨⟨_,by rw [Nf,NQ];exact c59⟩,by rw [Nf,NQ];exact f59⟩,λw65 ε=>⟨by omega,⟨j+1,G++acc2,by omega,by omega,by omega,?_,?_,λσ=>?_⟩,tN (by omega)⟩⟩
  ·rw [<-NX];exact hinv _ _ _ (hinv _ _ _ I43 (kg δ)) (kg ε)
  ·rw [Nf,NQ,NJ]at ε;have ο:=ξ.set ε (by rw [Nq,OE];exact Z);rw [<-Qc]at ο;have e:((swp π a j ha H).set a (swp π a j ha H)[j]).set j (swp π a j ha H)[a]=π:=by
    rw [ej,ea];unfold swp;apply Ps
    ·simp
    ·intro k h1 h2;simp only [List.getElem_set];split
     ·rename_i h;subst h;rfl
     ·split
      ·rename_i h;subst h;rfl
      ·rfl
   rw [e]at ο;exact ο
  ·rw [Nk,κ,hm2];constructor
   ·rintro(⟨i,hi,⟨h1,h2⟩,h3⟩ | ⟨τ,h1,h2⟩)
    ·exact⟨i,hi,⟨h1,by omega⟩,h3⟩
    ·exact⟨j,H,⟨υ,by omega⟩,τ,h1,h2⟩
   ·rintro⟨i,hi,⟨h1,h2⟩,h3⟩
    by_cases h:i=j
    ·subst h;right;exact h3
    ·left;exact⟨i,hi,⟨h1,by omega⟩,h3⟩
structure yM (w:World)(b30 b3 b5 b16 b18 nn:Nat)(vo vl:Value)(x:UInt32)(best:Tx):Prop where
 l:∀b,(b=b30\/b=b3\/b=b5\/b=b16\/b=b18)->b< w.heap.size
 c30:w.cell? ⟨b30,0,none⟩=some vo
 c3:w.cell? ⟨b3,0,none⟩=some (ptr nn)
 c5:w.cell? ⟨b5,0,none⟩=some vl
 c16:w.cell? ⟨b16,0,none⟩=some (.string (ay best))
 c18:w.cell? ⟨b18,0,none⟩=some (.int .u32 x.toNat)
 f16:w.frozen? ⟨b16,0,none⟩=false
 ne:b16≠b30/\b16≠b3/\b16≠b5/\b16≠b18
section
variable {w w':World} {b30 b3 b5 b16 b18 nn:Nat} {vo vl:Value} {x:UInt32} {best best':Tx} {S:Nat->Prop}
def yM.kp (h:yM w b30 b3 b5 b16 b18 nn vo vl x best)(k:Kp w w' S)(G:∀b,(b=b30\/b=b3\/b=b5\/b=b16\/b=b18)->¬S b):yM w' b30 b3 b5 b16 b18 nn vo vl x best:=by
 have e:∀b,(b=b30\/b=b3\/b=b5\/b=b16\/b=b18)->w'.heap[b]?=w.heap[b]?:=λb hb=>k.block b (h.l b hb) (G b hb)
 exact⟨λb hb=>Nz (h.l b hb) k.size,by rw [M5 (w:=w) (e b30 (by simp))];exact h.c30,by rw [M5 (w:=w) (e b3 (by simp))];exact h.c3,by rw [M5 (w:=w) (e b5 (by simp))];exact h.c5,
  by rw [M5 (w:=w) (e b16 (by simp))];exact h.c16,by rw [M5 (w:=w) (e b18 (by simp))];exact h.c18,by rw [NH (w:=w) (e b16 (by simp))];exact h.f16,h.ne⟩
def yM.ex (h:yM w b30 b3 b5 b16 b18 nn vo vl x best)(k:Ex w w'):yM w' b30 b3 b5 b16 b18 nn vo vl x best:=h.kp (Kp.ah k λ _=>False) λ _ _ h=>h
def yM.As (h:yM w b30 b3 b5 b16 b18 nn vo vl x best)(hw:w'=w.setCell ⟨b16,0,none⟩ (.string (ay best'))):yM w' b30 b3 b5 b16 b18 nn vo vl x best':=by
 subst hw;have k:=Kr.set (r:=b16) w 0 (.string (ay best'));have ne:∀b,b16≠b->(w.setCell ⟨b16,0,none⟩ (.string (ay best'))).cell? ⟨b,0,none⟩=w.cell? ⟨b,0,none⟩:=λb hb=>Na _ _ _ _ (λe=>by injection e with Z e2;omega)
 obtain⟨n1,G,H,J⟩:=h.ne;exact⟨λb hb=>Nz (h.l b hb) k.size,by rw [ne _ n1];exact h.c30,by rw [ne _ G];exact h.c3,by rw [ne _ H];exact h.c5,Ns _ _ _ h.c16,by rw [ne _ J];exact h.c18,by rw [Nv];exact h.f16,h.ne⟩
end
def mR (l:Lv)(ls:List UInt8)(ρ:Rh)(tk:Tk)(π:List Nat):Tx:=wrap ls []++joinS 38 (bf (thS l (asg π ls ρ) (addK ls tk)))
def Du (c:UInt8)(l:List UInt8):wrap (c::l) []=[35]++[c]++[46]++wrap l []:=rfl
def FW {n:Nat}(ht:II n){D:Nat->Prop}{w:World}{b30 b3 b5 b16 b18 nn r:Nat}{vo vl:Value}{x:UInt32}{best:Tx}{o π:List Nat}{l:Lv}{ρ:Rh}{tk:Tk}{bad:Bool}{B:Nat}(hs:yM w b30 b3 b5 b16 b18 nn vo vl x best)
  (hb:∀b,(b=b30\/b=b3\/b=b5\/b=b16\/b=b18)->¬(b=nn\/b=r)) (ho:aE 3 B w vo (π.map iv)) (hob:∀g,vo.ownBlock=some g->¬(g=nn\/g=r)) (hp:π.Perm o) (hN:Nm w nn r ρ tk bad) (hx:yL x tk)
  (hn:l.sz<=n) (hsh:l.sh true=true) (hsm:l.sm=true) (huq:ua o l) (h:fL D w vl o (af D w l)) (hD:∀g,D g->¬(g=nn\/g=r)) (hne:l.isNil=false) (htot:o.length+l.tot<=4294967296) {R:Qx}
  (hR:∀w' ρ' best',Kp w w' (λg=>g=nn\/g=r\/g=b16)->yM w' b30 b3 b5 b16 b18 nn vo vl x best'->Nm w' nn r ρ' tk (bad||(fR o.length tk||thBad l (addK (lets o.length tk) tk)))->(∀z,z∉o->z∉l.bvs->ρ' z=ρ z)->
   best'=(if best=[]\/mR l (lets o.length tk) ρ tk π< best then mR l (lets o.length tk) ρ tk π else best)->R w'):
  Qy 226 #[ptr b30,ptr b3,ptr b5,ptr b16,ptr b18] w (ax [] R):=by
 refine jO _ _ _ _ _ w R ?_;dsimp only [go_sem];dsimp only [go_sem,Nat.reduceAdd];have χ:=hp.length_eq;obtain⟨ao,capo,hvo⟩:=(ho.AS (D:=λ _=>True) λ _ _=>trivial).slice;rw [Nq]at hvo;have hge:=huq.ge;refine⟨b30,0,rfl,vo,hs.c30,ao,_,capo,hvo,λhd y w'=>∃(j:Nat) (H:Rh) (G:Tk) (J:Bool),y=j/\j<=π.length/\Kn nn r w w'/\Nm w' nn r H G J/\hd.length=3* j/\asg (π.drop j) (lets (π.length - j) G) H=asg π (lets o.length tk) ρ/\addK (lets (π.length - j) G) G=addK (lets o.length tk) tk/\
   (J||fR (π.length - j) G)=(bad||fR o.length tk)/\hd++wrap (lets (π.length - j) G) []=wrap (lets o.length tk) []/\∀z,z∉o->H z=ρ z,λ _ y _=>(π.length - y).toNat,⟨0,ρ,tk,bad,rfl,N5 _,Kn.ex (Ex.refl w),hN,rfl,by rw [O4,Qr,χ],by rw [Qr,χ],by rw [Qr,χ],by rw [Qr,χ];rfl,λ _ _=>rfl⟩,λhd y ψ hI=>?_⟩
 obtain⟨j,H,G,J,rfl,hj,ξ,n16,hhd,e1,e2,e3,e4,e5⟩:=hI;have s16:yM ψ b30 b3 b5 b16 b18 nn vo vl x best:=hs.kp ξ hb;refine⟨λhlt=>?_,λhge2=>?_⟩
 ·have κ:=oL hlt;obtain⟨g,cap,hvo2⟩:∃g cap,vo= .slice (some ⟨g,0,none⟩) π.length cap:=by
   rcases ho.2 with⟨_,h0⟩ | ⟨g,cap,cur,hv,_⟩
   ·rw [Nq]at h0;omega
   ·rw [Nq]at hv;exact⟨g,cap,hv⟩
  have o16:=ho.kp ξ λg hg=>hob g hg
  have hx26:26<=π[j]:=hge _ (NS _ (hp.subset (NC κ)));have ε:ψ.cell? ⟨g,0+Int.toNat (j:Int)* 1,none⟩=some (iv π[j]):=by
   rw [hvo2]at o16;rw [Nf,NQ];exact(o16.at κ).1
  refine⟨g,0,_,cap,hvo2,by omega,by omega,π[j],ε,b3,0,rfl,ptr nn,s16.c3,Gw n16 hx26 λy' w26 _ k26 n26=>⟨b3,0,rfl,ptr nn,(s16.kp k26 hb).c3,jq n26 ⟨by simp,by simp,?_,by omega,⟨j+1,_,_,_,by omega,by omega,Kn.trans ξ k26,n26,?_,?_,?_,?_,?_,λz hz=>?_⟩,tN (by omega)⟩⟩⟩
  all_goals have ed:π.drop j=π[j]::π.drop (j+1):=N4 κ
  all_goals have el:π.length - j=(π.length - (j+1))+1:=by omega
  all_goals rw [el]at e1 e2 e3 e4
  ·simp;omega
  ·simp;omega
  ·rw [ed]at e1;exact e1
  ·exact e2
  ·rw [<-e3];simp only [fR,OL]
  ·rw [<-e4,lets,Du];simp [aF]
  ·rw [<-e5 z hz];refine Nt λe=>hz ?_
   rw [e];exact hp.subset (NC κ)
 ·have κ:=oE hge2 (by omega);subst κ;rw [Nat.sub_self]at e1 e2 e3 e4;rw [O8]at e1;simp only [lets,asg,addK,fR,wrap,Pr,NM]at e1 e2 e3 e4;intro b32 w33 hb32 hw33;have x33:Ex ψ w33:=hw33▸Ex.alloc ψ _;have s33:=s16.ex x33;have n33:=n16.ex x33;have k33:Kn nn r w w33:=Kn.trans ξ (Kn.ex x33);obtain⟨bl,vo2,vt,ts,rfl,h2,h3,h4,h5,h6,h7,h8⟩:=h;obtain⟨at_,capt,hvt⟩:=h7.slice;have hlen:=h8.len;have hel:=Lv.cu l;have hlt:=bL l;have hbl:=hD bl h2;have sz33:=k33.size;have hlb:∀b,(b=b30\/b=b3\/b=b5\/b=b16\/b=b18)->b< w.heap.size:=hs.l;refine⟨b5,0,rfl,ptr bl,s33.c5,bl,0,rfl,vt,by rw [M5 (w:=w) (k33.block bl h3 hbl)];exact h5,at_,_,capt,hvt,λtx y w'=>∃(j:Nat) (β:Rh),y=j/\j<=ts.length/\Kn nn r w w'/\Nm w' nn r β G (J||thBad (l.take j) G)/\(∀z,z∉(l.take j).bvs->β z=H z)/\Own w.heap.size w' tx (thS (l.take j) H G),
   λ _ y _=>(ts.length - y).toNat,⟨0,H,rfl,N5 _,k33,by simpa [Lv.take,thBad]using n33,λ _ _=>rfl,Own.none (by have :=ξ.size;omega) hb32 hw33⟩,λtx y w47 hI=>?_⟩
  obtain⟨j,β,rfl,hj,ο,n47,η,θ⟩:=hI;have hnl:=hN.lt;have hnr:=hN.lr;have Z:∀g',tx.ownBlock=some g'->w.heap.size<=g':=λg' h'=>(θ.block g' h').1
  refine⟨λhlt2=>?_,λhge3=>?_⟩
  ·have ω:=oL hlt2;have hje:j< l.a8.length:=by omega
   have s47:yM w47 b30 b3 b5 b16 b18 nn vo (ptr bl) x best:=hs.kp ο hb;obtain⟨bu,ou,ζ,hvu',hcu⟩:∃bu ou ζ,vt= .slice (some ⟨bu,ou,none⟩) ts.length ζ/\w47.cell? ⟨bu,ou+j,none⟩=some ts[j]:=by
    rcases h7 with⟨_,h0⟩ | ⟨bt,ot,capt',e,hbD,hb',ε⟩
    ·rw [h0]at ω;simp at ω
    ·exact⟨bt,ot,capt',e,by rw [M5 (w:=w) (ο.block bt hb' (hD bt hbD))];exact ε j _ (M6 ω)⟩
   obtain⟨e,hf1,μ,hf3⟩:=aO.single h8.a8 (M6 ω);have hf4:l.a8[j]=e:=by rw [M6 hje]at hf1;exact NY hf1
   have ι:=Lv.take_succ l j hje;rw [hf4]at ι;have hsz2:=Lv.dQ l e μ;have htot2:=Lv.fS l e μ;have hfe:thS e β G=thS e H G:=sJ e β H G λz hz=>η z λhb=>huq.nf z (Lv.kE l j z hb) (Lv.ph l e μ hz)
   refine⟨bu,ou,_,ζ,hvu',by omega,by omega,ts[j],by rw [Nf,NQ];exact hcu,b3,0,rfl,ptr nn,s47.c3,?_⟩;refine ht (by omega) (Lv.jh hsh e μ) (Lv.sE hsm e μ) (huq.a8 μ) (hf3.kp ο hD) hD n47 (by omega) λt w57 ρ3 hthS k57 n57 hρ3 b58 w59 hb58 hw59=>?_
   have x59:Ex w57 w59:=hw59▸Ex.alloc w57 _;have k1:Kn nn r w w57:=Kn.trans ο k57;have ho59:Own w.heap.size w59 tx (thS (l.take j) H G):=(θ.kp k57 λg' h'=>(by have :=Z g' h';omega)).ex x59;have hl3:(thS (l.take j) H G).length<=ts.length:=by
    rw [bj];have :=Lv.gu l j;omega
   refine Own.push ho59 (by have :=k1.size;have :=x59.size;omega) (Strs.one hb58 hw59) (by simp only [M0,Np];omega) λv65 w66 _ ho66 hg66 _=>⟨by omega,⟨j+1,ρ3,by omega,by omega,?_,?_,?_,?_⟩,tN (by omega)⟩
   ·exact Kp.new (Kn.trans k1 (Kn.ex x59)) hg66 Z
   ·have e1:(J||thBad (l.take (j+1)) G)=(J||thBad (l.take j) G||thBad e G):=by rw [ι,cE,OL]
    rw [e1];refine(n57.ex x59).kp (Kp.aG (S:=λg=>tx.ownBlock=some g) hg66 λ _ h=>h) (λh'=>by have :=Z _ h';omega) λh'=>by have :=Z _ h';omega
   ·intro z hz;rw [ι,Lv.cO,Nk,Qt]at hz;rw [hρ3 z hz.2,η z hz.1]
   ·rw [ι,fO,<-hfe,hthS];exact ho66
  ·have hjt:j=l.a8.length:=by simp only [No]at hge3;omega
   rw [hjt,Lv.cL]at n47 θ η;have hsum:=fM l H G;have hln:=bj l H G;have hne':thS l H G≠[]:=λe=>by
    rw [e]at hln;rw [Lv.cT]at hne;simp only [Np]at hln;simp [<-hln]at hne
   have eT:hd++joinS 38 (bf (thS l H G))=mR l (lets o.length tk) ρ tk π:=by
    unfold mR;rw [<-e4,<-e1,<-e2]
   have hjl2:=gw 38 (bf (thS l H G));rw [gT (aS _)]at hjl2;refine Ho θ hne' (by rw [hln];omega) (by omega) λν k68=>⟨by omega,?_⟩
   have ς:Kn nn r w ν:=Kp.trans ο k68 λg' hg' h'=>by have :=Z g' h';omega
   have γ:yM ν b30 b3 b5 b16 b18 nn vo (ptr bl) x best:=hs.kp ς hb;have n68:Nm ν nn r β G (J||thBad l G):=n47.kp k68 (λh'=>by have :=Z _ h';omega) λh'=>by have :=Z _ h';omega
   have kq:∀{w1:World},Kn nn r w w1->Kp w w1 (λg=>g=nn\/g=r\/g=b16):=λk=>Kp.mono (λg hg=>hg.elim .inl λh=> .inr (.inl h)) k
   rw [eT];have fin:∀w1 best',Kp w w1 (λg=>g=nn\/g=r\/g=b16)->yM w1 b30 b3 b5 b16 b18 nn vo (ptr bl) x best'->Nm w1 nn r β G (J||thBad l G)->best'=(if best=[]\/mR l (lets o.length tk) ρ tk π< best then mR l (lets o.length tk) ρ tk π else best)->
     ∃(b79 o80:Nat),ptr b3=Value.pointer (some ⟨b79,o80,none⟩)/\∃v81:Value,World.cell? w1 ⟨b79,o80,none⟩=some v81/\∃(b82 o83:Nat),ptr b18=Value.pointer (some ⟨b82,o83,none⟩)/\∃m84:UInt32,World.cell? w1 ⟨b82,o83,none⟩=some (Value.int IntKind.u32 (UInt32.toNat m84))/\∃(b85 o86:Nat),v81=Value.pointer (some ⟨b85,o86,none⟩)/\((∃u87:Value,World.cell? w1 ⟨b85,(o86+1),none⟩=some u87)/\World.frozen? w1 ⟨b85,(o86+1),none⟩=false)/\∀w88:World,w88=World.setCell w1 ⟨b85,(o86+1),none⟩ (Value.int IntKind.u32 (UInt32.toNat m84))->R w88:=by
    intro w1 best' k1 s1 n1 hbest;obtain⟨z,hz,_⟩:=n1.c1;refine⟨b3,0,rfl,ptr nn,s1.c3,b18,0,rfl,x,s1.c18,nn,0,rfl,⟨⟨_,hz⟩,n1.f 1⟩,λw88 υ=>hR w88 β best' ?_ ?_ ?_ (λz hz hz'=>?_) hbest⟩
    ·exact Kp.trans k1 (υ▸Kr.set _ _ _) λg _ e=> .inl e
    ·exact s1.kp (υ▸Kr.set w1 1 _) λb hb' e=>hb b hb' (.inl e)
    ·refine n1.set (tk':=tk) υ (.inl ⟨rfl,?_,x,rfl,hx⟩);rw [<-OL,<-e3,<-e2]
    ·rw [η z hz',e5 z hz]
   have st:∀w1,w1=ν.setCell ⟨b16,0,none⟩ (.string (ay (mR l (lets o.length tk) ρ tk π)))->Kp w w1 (λg=>g=nn\/g=r\/g=b16)/\yM w1 b30 b3 b5 b16 b18 nn vo (ptr bl) x (mR l (lets o.length tk) ρ tk π)/\Nm w1 nn r β G (J||thBad l G):=λw1 hw1=>by
    have kb:Kr b16 ν w1:=hw1▸Kr.set _ _ _;have h16:=hb b16 (by simp);exact⟨Kp.trans (kq ς) kb λg _ e=> .inr (.inr e),γ.As hw1,n68.kp kb (λe=>h16 (.inl e.symm)) λe=>h16 (.inr e.symm)⟩
   refine⟨b16,0,rfl,best,γ.c16,λφ=>?_,λφ=>?_⟩
   ·simp only [No]at φ;refine⟨b16,0,rfl,best,γ.c16,λδ=>⟨b16,0,rfl,⟨⟨_,γ.c16⟩,γ.f16⟩,λw78 hw78=>?_⟩,λδ=>?_⟩
    ·rw [Pd,Nj]at δ;obtain⟨k1,k2,k3⟩:=st w78 hw78;exact fin w78 _ k1 k2 k3 (by rw [NO (.inr δ)])
    ·rw [Pd,No]at δ;exact fin ν best (kq ς) γ n68 (by rw [Nt (λh=>h.elim φ δ)])
   ·simp only [Nj]at φ;refine⟨b16,0,rfl,⟨⟨_,γ.c16⟩,γ.f16⟩,λw102 hw102=>?_⟩;obtain⟨k1,k2,k3⟩:=st w102 hw102;exact fin w102 _ k1 k2 k3 (by rw [NO (.inl φ)])
def AY (a:Tx):bE [a]=a:=fZ (by simp) λs G=>by simp at G;subst G;simp [iS]
def zE {l:List Tx}(h:l≠[])(a:Tx):bE (l++[a])=if a< bE l then a else bE l:=by
 obtain⟨h1,J⟩:=cf h;split
 ·rename_i H;refine fZ (by simp) λs G=>?_
  rcases Nk.1 G with G | G
  ·refine fU _ _ _ ?_ (J s G);simp only [iS,Nj];exact List.le_of_lt H
  ·simp at G;subst G;simp [iS]
 ·rename_i H;refine fZ (NS _ h1) λs G=>?_
  rcases Nk.1 G with G | G
  ·exact J s G
  ·simp at G;subst G;simp only [iS,Nj];exact List.not_lt.1 H
def HY {l:Lv}{o π:List Nat}(Z:π.Perm o)(H:ua o l){ls:List UInt8}(J:π.length=ls.length){ρ ρ':Rh}(h:∀z,z∉o->z∉l.bvs->ρ' z=ρ z)(tk:Tk):mR l ls ρ' tk π=mR l ls ρ tk π:=by
 unfold mR;rw [sJ l (asg π ls ρ') (asg π ls ρ) (addK ls tk) λz hz=>?_];by_cases G:z∈π
 ·exact xb π ls ρ' ρ z G J
 ·rw [bn _ _ _ _ G,bn _ _ _ _ G];exact h z (λh'=>G (Z.symm.subset h')) λhb=>H.nf z hb hz
structure OI (w w':World)(b30 b3 b5 b16 b18 nn r:Nat)(vo vl:Value)(x:UInt32)(o:List Nat)(l:Lv)(ρ:Rh)(tk:Tk)(bad:Bool)(acc:List (List Nat)):Prop where
 ex:∃(ρ':Rh) (best:Tx),yM w' b30 b3 b5 b16 b18 nn vo vl x best/\Nm w' nn r ρ' tk (bad||(!acc.isEmpty&&(fR o.length tk||thBad l (addK (lets o.length tk) tk))))/\(∀z,z∉o->z∉l.bvs->ρ' z=ρ z)/\
  ((acc=[]/\best=[])\/(acc≠[]/\best=bE (acc.map (mR l (lets o.length tk) ρ tk))))
 kn:Kn nn r w w'
def vN {n:Nat}(ht:II n):KW n:=by
 intro D w v o l nn r ρ tk bad R hn hsh hsm huq h hD hN htot hR;refine lY (ptr nn) v w R ?_;dsimp only [go_sem];have hv1:=h.one;refine⟨rfl,λb3 w4 hb3 hw4=>⟨hv1,λb5 w6 hb5 hw6=>?_⟩⟩;have x4:Ex w w4:=hw4▸Ex.alloc w _;have x6':Ex w4 w6:=hw6▸Ex.alloc w4 _;have x6:Ex w w6:=Ex.trans x4 x6';have s4:w4.heap.size=w.heap.size+1:=by rw [hw4,size_alloc]
 have s6:w6.heap.size=w4.heap.size+1:=by rw [hw6,size_alloc]
 have c3:w6.cell? ⟨b3,0,none⟩=some (ptr nn):=by rw [x6'.cell (show b3< _ by omega),hw4,hb3];exact aa rfl
 have c5:w6.cell? ⟨b5,0,none⟩=some v:=by rw [hw6,hb5];exact aa rfl
 have hnl:=hN.lt;have hnr:=hN.lr;refine⟨v,c5,lU (fL.ex h x6) ⟨λhe=>?_,λhe=>?_⟩⟩
 ·have e:aP o (thS l) ρ tk=[48]:=by
   unfold aP;rw [NO];cases l<;>first | rfl | cases he
  rw [<-e];refine hR w6 ρ (Kn.ex x6) ?_ λ _ _ _=>rfl
  rw [he];simpa [fu]using hN.ex x6
 ·refine⟨λw'=>Ex w6 w',λw11 hw11=>?_⟩;have φ:Ex w6 w11:=hw11▸Ex.drew w6;have n11:=hN.ex (Ex.trans x6 φ);obtain⟨x,hx,hxt⟩:=(hN.ex x6).c1;have s11:=φ.size;have rest:∀(b16 b18:Nat) (G:World),Ex w6 G->G.cell? ⟨b16,0,none⟩=some (.string (ay []))->G.cell? ⟨b18,0,none⟩=some (.int .u32 x.toNat)->G.frozen? ⟨b16,0,none⟩=false->b16≠b18->w6.heap.size<=b16->w6.heap.size<=b18->b16< G.heap.size->b18< G.heap.size->
    ∃v24:Value,World.cell? G ⟨b5,0,none⟩=some v24/\∃(b25 o26:Nat),v24=Value.pointer (some ⟨b25,o26,none⟩)/\∃v27:Value,World.cell? G ⟨b25,(o26+0),none⟩=some v27/\Qy 151 #[v27] G (ax [.v] fun(v28:Value) (ξ:World)=>∀(b30:Nat) (ε:World),b30=Array.size (World.heap ξ)->ε=World.alloc ξ (Obj.cells #[(Value.slice none 0 0)] 126)->oneV v28=true/\((∃u32:Value,World.cell? ε ⟨b30,0,none⟩=some u32)/\World.frozen? ε ⟨b30,0,none⟩=false)/\
     ∀ζ:World,ζ=World.setCell ε ⟨b30,0,none⟩ v28->∃v34:Value,World.cell? ζ ⟨b30,0,none⟩=some v34/\Qy 225 #[v34,(Value.int IntKind.i64 0),(Value.func (Fn.func 226) #[] #[(Value.pointer (some ⟨b30,0,none⟩)),(Value.pointer (some ⟨b3,0,none⟩)),(Value.pointer (some ⟨b5,0,none⟩)),(Value.pointer (some ⟨b16,0,none⟩)),(Value.pointer (some ⟨b18,0,none⟩))])] ζ (ax [] fun(w35:World)=>∃s36:aJ,World.cell? w35 ⟨b16,0,none⟩=some (Value.string (ay s36))/\R (s36) w35)):=by
   intro b16 b18 G ι c16 c18 f16 hne h16 h18 l16 l18;have h':=h;obtain⟨bl,vo,vt,ts,rfl,h2,h3,h4,h5,h6,h7,h8⟩:=h';have ς:Ex w G:=Ex.trans x6 ι;have c5':G.cell? ⟨b5,0,none⟩=some (ptr bl):=by rw [ι.cell (show b5< _ by omega)];exact c5
   have c3':G.cell? ⟨b3,0,none⟩=some (ptr nn):=by rw [ι.cell (show b3< _ by omega)];exact c3
   refine⟨ptr bl,c5',bl,0,rfl,vo,by rw [ς.cell (show bl< _ from h3)];exact h4,?_⟩;refine xX (h6.ex ς) (by omega) λv28 ξ x29 o29 b30 ε hb30 υ=>?_
   have x31:Ex ξ ε:=υ▸Ex.alloc ξ _;have s31:ε.heap.size=ξ.heap.size+1:=by rw [υ,size_alloc]
   have s29:=x29.size;have s23:=ι.size;have c30:ε.cell? ⟨b30,0,none⟩=some (.slice none 0 0):=by rw [υ,hb30];exact aa rfl
   have f30:ε.frozen? ⟨b30,0,none⟩=false:=by rw [υ,hb30];exact aW _ _ _ _
   refine⟨o29.uw,⟨⟨_,c30⟩,f30⟩,λζ hw33=>?_⟩;have k33:Kr b30 ε ζ:=hw33▸Kr.set _ _ _;have κ:Ex G ζ:=Ex.below (Ex.trans x29 x31) (Kp.below k33 (Ex.trans x29 x31).size λg hg e=>by omega);have hob:∀g,v28.ownBlock=some g->G.heap.size<=g/\g< ξ.heap.size:=o29.block;have o33:aE 3 G.heap.size ζ v28 (o.map iv):=(o29.kp (Kp.ah x31 λ _=>False) λ _ _ h=>h).kp k33 λg hg e=>by have :=hob g hg;omega
   have c30':ζ.cell? ⟨b30,0,none⟩=some v28:=by rw [hw33];exact Ns _ _ _ c30
   have ds:yM ζ b30 b3 b5 b16 b18 nn v28 (ptr bl) x []:=by
    have s33:=κ.size;have s33':=k33.size;refine⟨λb hb=>?_,c30',?_,?_,?_,?_,?_,by omega,by omega,by omega,hne⟩
    ·rcases hb with rfl | rfl | rfl | rfl | rfl<;>omega
    ·rw [κ.cell (show b3< _ by omega)];exact c3'
    ·rw [κ.cell (show b5< _ by omega)];exact c5'
    ·rw [κ.cell (show b16< _ by omega)];exact c16
    ·rw [κ.cell (show b18< _ by omega)];exact c18
    ·rw [Pb κ l16];exact f16
   have hbx:∀b,(b=b30\/b=b3\/b=b5\/b=b16\/b=b18)->w.heap.size<=b/\¬v28.ownBlock=some b:=λb hb=>by
    refine⟨by rcases hb with rfl | rfl | rfl | rfl | rfl<;>omega,λe=>?_⟩;have :=hob b e;rcases hb with rfl | rfl | rfl | rfl | rfl<;>omega
   have hlev:∀{w1:World},Kn nn r w w1->fL D w1 (ptr bl) o (af D w1 l):=λk=>h.kp k hD λl h=>h.kp k hD
   have χ:∀g,v28.ownBlock=some g->¬(g=nn\/g=r):=λg hg=>by have :=hob g hg;omega
   refine⟨v28,c30',?_⟩;refine za (o:=o) (ca:=[ptr b30,ptr b3,ptr b5,ptr b16,ptr b18]) (Inv:=λacc w'=>OI w w' b30 b3 b5 b16 b18 nn r v28 (ptr bl) x o l ρ tk bad acc) (by kernel_rfl) ?_ ?_ (by omega) o.length 0 o [] ζ (by omega) ⟨⟨ρ,[],ds,?_,λ _ _ _=>rfl,.inl ⟨rfl,rfl⟩⟩,Kn.ex (Ex.trans ς κ)⟩ o33 (Of _) λw35 acc I35 o35 hacc=>?_
   ·intro acc π w1 hI how hp R' hR';obtain⟨⟨ρ1,best,d1,n1,e1,e2⟩,kn⟩:=hI;have hpl:=hp.length_eq;refine FW ht d1 (λb hb=>by have :=(hbx b hb).1;omega) how χ hp n1 hxt hn hsh hsm huq (hlev kn) hD he htot λw2 ρ2 best2 k2 d2 n2 e3 e4=>hR' w2 ⟨⟨ρ2,best2,d2,?_,λz hz hz'=>by rw [e3 z hz hz',e1 z hz hz'],?_⟩,?_⟩ ?_
    ·have:(bad||(!acc.isEmpty&&(fR o.length tk||thBad l (addK (lets o.length tk) tk)))||(fR o.length tk||thBad l (addK (lets o.length tk) tk)))=(bad||(!(acc++[π]).isEmpty&&(fR o.length tk||thBad l (addK (lets o.length tk) tk)))):=by
      cases acc<;>simp [OL]
     rw [<-this];exact n2
    ·right;refine⟨by simp,?_⟩;have eT:=HY hp huq (ls:=lets o.length tk) (by rw [fq];exact hpl) e1 tk;rw [eT]at e4;rw [N0];simp only [NI,PG];rcases e2 with⟨rfl,rfl⟩ | ⟨ha,rfl⟩
     ·rw [NO (.inl rfl)]at e4;rw [e4,PG,N2,AY]
     ·rw [zE (by simpa using ha),e4];have hne2:bE (acc.map (mR l (lets o.length tk) ρ tk))≠[]:=by
       obtain⟨h1,_⟩:=cf (l:=acc.map (mR l (lets o.length tk) ρ tk)) (by simpa using ha);obtain⟨σ,_,e⟩:=NT.1 h1;rw [<-e];unfold mR;intro e5;refine pe (pU ?_) (λt ht=>lN l hsm _ _ t ((aS _).subset ht)) (List.append_eq_nil_iff.1 e5).2;intro e6;have :=bj l (asg σ (lets o.length tk) ρ) (addK (lets o.length tk) tk);rw [e6]at this;rw [Lv.cT]at he;simp only [Np]at this;simp [<-this]at he
      simp only [hne2,Qw]
    ·exact Kp.trans kn k2 λg hg e=>by have :=(hbx b16 (by simp)).1;omega
    ·exact how.kp k2 λg hg e=>by
      rcases e with e | e | e
      ·exact χ g hg (.inl e)
      ·exact χ g hg (.inr e)
      ·exact(hbx b16 (by simp)).2 (e▸hg)
   ·intro acc w1 w2 hI k;obtain⟨⟨ρ1,best,d1,n1,e1,e2⟩,kn⟩:=hI;refine⟨⟨ρ1,best,d1.kp k λb hb=>(hbx b hb).2,n1.kp k (λe=>χ nn e (.inl rfl)) λe=>χ r e (.inr rfl),e1,e2⟩,Kp.trans kn k λg hg e=>by have :=hob g e;omega⟩
   ·have :=hN.ex (Ex.trans ς κ);simpa using this
   ·obtain⟨⟨ρ1,best,d1,n1,e1,e2⟩,kn⟩:=I35;rw [N2]at n1 e2;have hmem:∀σ,σ∈acc↔σ.Perm o:=λσ=>by
     rw [hacc];simp only [O4,List.take_zero,N2];exact⟨fun⟨τ,h,e⟩=>e▸h,λh=>⟨σ,h,rfl⟩⟩
    have ψ:acc≠[]:=λe=>by have :=(hmem o).2 (Of _);rw [e]at this;cases this
    have eb:best=aP o (thS l) ρ tk:=by
     rcases e2 with⟨h0,_⟩ | ⟨_,rfl⟩
     ·exact absurd h0 ψ
     ·unfold aP;have hemp:¬(thS l ρ tk).isEmpty=true:=λe=>by
       rw [List.isEmpty_iff_length_eq_zero,bj]at e;rw [Lv.cT]at he;simp [e]at he
      rw [Nt hemp];show _=wrap _ (bE _);rw [z8,<-tV _ (λe=>oC o (PM.1 e)),Oq];refine nK λs=>?_
      simp only [NT,hmem,cF];rfl
    rw [<-eb]at hR;refine⟨best,d1.c16,hR w35 ρ1 kn ?_ e1⟩;have:(bad||(!acc.isEmpty&&(fR o.length tk||thBad l (addK (lets o.length tk) tk))))=(bad||fu o.length l.isNil (thBad l) tk):=by
     have:acc.isEmpty=false:=by cases acc<;>first | exact absurd rfl ψ | rfl
     rw [this,he];rfl
    rw [<-this];exact n1
  refine⟨φ,ptr nn,λw' x'=>by rw [x'.cell (show b3< _ by omega)];exact c3,nn,0,rfl,x,λw' x'=>by rw [x'.cell (show nn< _ by omega)];exact hx,λb16 η μ β=>?_,λb18 η ν β=>?_⟩
  ·have ο:Ex w6 η:=β▸Ex.trans φ (Ex.alloc _ _);refine⟨ο,λb18 Z ν γ=>?_⟩;have θ:Ex η Z:=γ▸Ex.alloc _ _;have s17:η.heap.size=w11.heap.size+1:=by rw [β,size_alloc]
   have s19:Z.heap.size=η.heap.size+1:=by rw [γ,size_alloc]
   have c16:Z.cell? ⟨b16,0,none⟩=some (.string ⟨#[]⟩):=by rw [θ.cell (show b16< _ by omega),β,μ];exact aa rfl
   have f16:Z.frozen? ⟨b16,0,none⟩=false:=by rw [Pb θ (show b16< _ by omega),β,μ];exact aW _ _ _ _
   have c18:Z.cell? ⟨b18,0,none⟩=some (.int .u32 0):=by rw [γ,ν];exact aa rfl
   have f18:Z.frozen? ⟨b18,0,none⟩=false:=by rw [γ,ν];exact aW _ _ _ _
   refine⟨Ex.trans ο θ,⟨⟨_,c16⟩,f16⟩,λδ H=>?_⟩;have ω:Ex w6 δ:=H▸Ex.own (Ex.trans ο θ) (by omega) _;have s21:δ.heap.size=Z.heap.size:=by rw [H,NV]
   have d16:δ.cell? ⟨b16,0,none⟩=some (.string (ay [])):=by rw [H];exact Ns _ _ _ c16
   have d18:δ.cell? ⟨b18,0,none⟩=some (.int .u32 0):=by rw [H,Na _ _ _ _ (λe=>by injection e with e1 e2;omega)];exact c18
   refine⟨ω,⟨⟨_,d18⟩,by rw [H,Nv];exact f18⟩,λG J=>?_⟩;have ι:Ex w6 G:=J▸Ex.own ω (by omega) _;have s23:G.heap.size=δ.heap.size:=by rw [J,NV]
   refine rest b16 b18 G ι ?_ ?_ ?_ (by omega) (by omega) (by omega) (by omega) (by omega)
   ·rw [J,Na _ _ _ _ (λe=>by injection e with e1 e2;omega)];exact d16
   ·rw [J];exact Ns _ _ _ d18
   ·rw [J,Nv,H,Nv];exact f16
  ·have ο:Ex w6 η:=β▸Ex.trans φ (Ex.alloc _ _);refine⟨ο,λb16 Z μ γ=>?_⟩;have θ:Ex η Z:=γ▸Ex.alloc _ _;have s17:η.heap.size=w11.heap.size+1:=by rw [β,size_alloc]
   have s19:Z.heap.size=η.heap.size+1:=by rw [γ,size_alloc]
   have c18:Z.cell? ⟨b18,0,none⟩=some (.int .u32 0):=by rw [θ.cell (show b18< _ by omega),β,ν];exact aa rfl
   have f18:Z.frozen? ⟨b18,0,none⟩=false:=by rw [Pb θ (show b18< _ by omega),β,ν];exact aW _ _ _ _
   have c16:Z.cell? ⟨b16,0,none⟩=some (.string ⟨#[]⟩):=by rw [γ,μ];exact aa rfl
   have f16:Z.frozen? ⟨b16,0,none⟩=false:=by rw [γ,μ];exact aW _ _ _ _
   refine⟨Ex.trans ο θ,⟨⟨_,c16⟩,f16⟩,λδ H=>?_⟩;have ω:Ex w6 δ:=H▸Ex.own (Ex.trans ο θ) (by omega) _;have s21:δ.heap.size=Z.heap.size:=by rw [H,NV]
   have d16:δ.cell? ⟨b16,0,none⟩=some (.string (ay [])):=by rw [H];exact Ns _ _ _ c16
   have d18:δ.cell? ⟨b18,0,none⟩=some (.int .u32 0):=by rw [H,Na _ _ _ _ (λe=>by injection e with e1 e2;omega)];exact c18
   refine⟨ω,⟨⟨_,d18⟩,by rw [H,Nv];exact f18⟩,λG J=>?_⟩;have ι:Ex w6 G:=J▸Ex.own ω (by omega) _;have s23:G.heap.size=δ.heap.size:=by rw [J,NV]
   refine rest b16 b18 G ι ?_ ?_ ?_ (by omega) (by omega) (by omega) (by omega) (by omega)
   ·rw [J,Na _ _ _ _ (λe=>by injection e with e1 e2;omega)];exact d16
   ·rw [J];exact Ns _ _ _ d18
   ·rw [J,Nv,H,Nv];exact f16
def Jh:∀n,II n
 | 0=>by
  intro G H;rcases H with⟨k,a,b,o,q,rfl,Z⟩ | ⟨ps,rfl,J⟩<;>simp [Lv.sz]at G
 | n+1=>DD (vN (Jh n))
def LD (n:Nat):KW n:=vN (Jh n)
namespace Lv
def PNf:Lv->Prop
 | nil=>True
 | thr _ _ _ _ _ n=>n.PNf
 | sum ps n=>ps.PNf/\n.PNf
 | part o q n=>((∀x∈o,q.has x=true)/\q≠nil/\∀ps,q=sum ps nil->o≠[])/\n.PNf
def rD:∀{l m:Lv},(l.app m).PNf↔l.PNf/\m.PNf
 | nil,m=>by simp [app,PNf]
 | thr k a b o r n,m=>by simp only [app,PNf,rD (l:=n)]
 | sum ps n,m=>by simp only [app,PNf,rD (l:=n),Pk]
 | part o q n,m=>by simp only [app,PNf,rD (l:=n),Pk]
def wm:Lv->Prop
 | nil=>True
 | thr _ _ _ _ _ n=>n.wm
 | sum ps n=>(ps.PNf/\ps.wm)/\n.wm
 | part _ q n=>q.wm/\n.wm
def lx:∀{l m:Lv},(l.app m).wm↔l.wm/\m.wm
 | nil,m=>by simp [app,wm]
 | thr k a b o r n,m=>by simp only [app,wm,lx (l:=n)]
 | sum ps n,m=>by simp only [app,wm,lx (l:=n),Pk]
 | part o q n,m=>by simp only [app,wm,lx (l:=n),Pk]
def Ic {ps:Lv}{n:List Nat×Lv}(h:ps.PNf/\ps.wm)(G:n.2.wm):(spl ps n).2.wm:=by
 unfold spl;split
 ·exact G
 ·exact lx.2 ⟨h.2.1,G⟩
 ·exact⟨h,G⟩
def Ks {o:List Nat}{q n:Lv}(H:∀x∈o,q.has x=true)(h:q.wm)(G:n.PNf/\n.wm):(prt o q n).PNf/\(prt o q n).wm:=by
 unfold prt;split
 ·exact G
 ·rename_i ps;split
  ·exact⟨rD.2 ⟨h.1.1,G.1⟩,lx.2 ⟨h.1.2,G.2⟩⟩
  ·rename_i h1;exact⟨⟨⟨H,by simp,λ _ _ e=>h1 (by rw [e];rfl)⟩,G.1⟩,h,G.2⟩
 ·rename_i Z h1 J;exact⟨⟨⟨H,h1,λps e=>(J ps e).elim⟩,G.1⟩,h,G.2⟩
def mZ:∀(l:Lv),(l.sh true=true->(tid l).2.wm)/\(l.sh false=true->(tid l).2.PNf/\(tid l).2.wm)
 | nil=>⟨λ _=>trivial,λ _=>⟨trivial,trivial⟩⟩
 | thr k a b o r n=>by
  refine⟨λh=>?_,λh=>by simp [sh]at h⟩;simp only [sh,M8]at h;have h1:=(mZ r).1 h.1;have G:=(mZ n).1 h.2;have h4:(kept o (tid r)).2=(tid r).2:=rfl;simp only [tid];split
  ·exact lx.2 ⟨h1,G⟩
  ·split
   ·exact G
   ·exact G
 | sum ps n=>by
  refine⟨λh=>?_,λh=>by simp [sh]at h⟩;simp only [sh,M8]at h;simp only [tid];exact Ic ((mZ ps).2 h.1) ((mZ n).1 h.2)
 | part o q n=>by
  refine⟨λh=>by simp [sh]at h,λh=>?_⟩;simp only [sh,M8]at h;simp only [tid];exact Ks (rF o (tid q)) ((mZ q).1 h.1) ((mZ n).2 h.2)
def Iw {Z:Lv}(h:Z.PNf)(J:Z.sh false=true):prt (kept [] (spl Z ([],nil))).1 (kept [] (spl Z ([],nil))).2 nil=Z:=by
 unfold spl;split
 ·rfl
 ·rename_i o q;have e:(kept [] (o++(([],nil):List Nat×Lv).1,q.app (([],nil):List Nat×Lv).2))=(o,q):=by
   simp only [kept,NM,aT,N2]
   congr 1
   exact Po.2 h.1.1
  rw [e];obtain⟨_,G,H⟩:=h.1;show prt o q nil=_;unfold prt;split
  ·exact absurd rfl G
  ·rw [Nt];intro e;exact H _ rfl (by simpa using e)
  ·rfl
 ·simp only [kept,NM,List.filter_nil,prt,List.isEmpty_nil,O9,aT]
def Iz {o:List Nat}{q:Lv}{Z:Lv}(h:Z≠nil)(n:List Nat×Lv):spl (part o q Z) n=(n.1,sum (part o q Z) n.2):=by
 cases Z with
 | nil=>exact absurd rfl h
 | _=>rfl
end Lv
open T in
def eZ {u:U}(G:Uq u)(n:u.Nr)(H:u.th=true):Lv.tid (flat u).2=([],tl [u])/\(flat u).1=[]:=by
 cases u with
 | nil=>cases H
 | par p q=>cases H
 | res x p=>cases H
 | snd a b p=>exact⟨by simp only [flat,Lv.tid,tl];simp [td,Lv.tidy],rfl⟩
 | rcv a x p=>exact⟨by simp only [flat,Lv.tid,tl];simp [td,Lv.tidy],rfl⟩
 | tau p=>exact⟨by simp only [flat,Lv.tid,tl];simp [td,Lv.tidy],rfl⟩
 | mat a b p=>refine⟨?_,rfl⟩;rw [oM,Nt n.1.1,de,n.1.2];rfl
 | rep p=>refine⟨?_,rfl⟩;rw [oG,de,n.1];rfl
 | sum p q=>
  refine⟨?_,rfl⟩;rw [nX,(fF p G.dF).2.2,(fF q G.dh).2.2,<-se];have h1:=oO n.1.1 G.dF;have J:=oO n.1.2.1 G.dh;simp only [tl];cases Z:ak p with
  | nil=>exact absurd Z h1
  | cons t l=>
   rw [N6,tp,Lv.Iz];intro h0;have :=By (l++ak q);rw [h0]at this;simp only [Lv.len,Nb]at this;exact J (NF (by omega))
open T in
def qa:∀{u:U},Uq u->u.Nr->Lv.tid (flat u).2=([],tl u.ths)/\(flat u).1=u.frL
 | .nil,_,_=>⟨rfl,rfl⟩
 | .res x p,G,n=>by
  obtain⟨h1,H⟩:=qa G.res n.2;exact⟨h1,by simp only [flat,frL,H]⟩
 | .par p q,G,n=>by
  obtain⟨h1,H⟩:=eZ G.fK n.2.1 n.1.1;obtain⟨J,h4⟩:=qa G.eV n.2.2;have h5:q.frL=[]:=by
   rcases n.1.2 with h | h
   ·exact ia h
   ·cases q<;>first | rfl | (cases h;done)
  refine⟨?_,by simp only [flat,frL,H,h4,h5,NM]⟩;simp only [flat];rw [Lv.ct _ _ (bP p),h1,J];simp only [T.ths,NM];rw [show p::q.ths=[p]++q.ths from rfl,gj]
 | .snd a b p,G,n=>eZ G n rfl
 | .rcv a b p,G,n=>eZ G n rfl
 | .tau p,G,n=>eZ G n rfl
 | .sum p q,G,n=>eZ G n rfl
 | .mat a b p,G,n=>eZ G n rfl
 | .rep p,G,n=>eZ G n rfl
open T in
def J8 {u:U}(H:Uq u)(n:u.Nr):∀x∈u.frL,(td u).2.has x=true:=by
 induction u with
 | res y p J=>
  intro x G;rcases Nw.1 G with rfl | G
  ·exact(fH p x H.fD).2 n.1
  ·exact J H.res n.2 x G
 | _=>intro x G;cases G
open T in
def gU {u:U}(G:Uq u)(n:u.Nr):td u=(u.frL,tl u.ths):=by
 obtain⟨h1,J⟩:=qa G n;have H:=J8 G n;have e:(td u).2=tl u.ths:=by rw [qD,h1]
 rw [e]at H;show Lv.kept (flat u).1 (Lv.tid (flat u).2)=_;rw [h1,J];simp only [Lv.kept,NM]
 congr 1
 exact Po.2 H
def cx:∀u:U,(flat u).2.sh true=true
 | .nil=>rfl
 | .snd a b p=>by simp only [flat,Lv.sh,cx p,OA]
 | .rcv a b p=>by simp only [flat,Lv.sh,cx p,OA]
 | .tau p=>by simp only [flat,Lv.sh,cx p,OA]
 | .mat a b p=>by simp only [flat,Lv.sh,cx p,OA]
 | .rep p=>by simp only [flat,Lv.sh,cx p,OA]
 | .res x p=>cx p
 | .par p q=>by simp only [flat];exact Lv.gF (cx p) (cx q)
 | .sum p q=>by simp only [flat,Lv.sh,cx p,cx q,OA]
def Ct (u:U):(td u).2.sh true=true:=Lv.di _ _ (cx u)
def ik (f:Nat->Nat):∀(l:Lv) (b:Bool),(l.map f).sh b=l.sh b
 | .nil,_=>by simp [Lv.map,Lv.sh]
 | .thr k a b o r n,c=>by cases c<;>simp only [Lv.map,Lv.sh,ik f r,ik f n]
 | .sum ps n,c=>by cases c<;>simp only [Lv.map,Lv.sh,ik f ps,ik f n]
 | .part o q n,c=>by cases c<;>simp only [Lv.map,Lv.sh,ik f q,ik f n]
def nQ (o:List Nat)(q n:Lv):(Lv.tid (.part o q n)).2=Lv.prt (Lv.kept o (Lv.tid q)).1 (Lv.kept o (Lv.tid q)).2 (Lv.tid n).2:=rfl
open T in
def ga (f:Nat->Nat):∀(n:Nat) {u:U},u.size<=n->Uq u->u.Nr->
  Lv.tid ((td u).2.map f)=Lv.tid ((flat u).2.map f)/\(u.dead=false->(Lv.tid ((tp u.ly).map f)).2=Lv.prt (Lv.kept ((flat u).1.map f) (Lv.tid ((flat u).2.map f))).1 (Lv.kept ((flat u).1.map f) (Lv.tid ((flat u).2.map f))).2 .nil)
 | 0,u,h,_,_=>by cases u<;>simp [T.size]at h
 | k+1,u,h,G,n=>by
  have ih:∀p:U,p.size<=k->Uq p->p.Nr->Lv.kept ((td p).1.map f) (Lv.tid ((td p).2.map f))=Lv.kept ((flat p).1.map f) (Lv.tid ((flat p).2.map f)):=λp J G n=>by
   rw [(ga f k J G n).1,gU G n,(qa G n).2]
  have key:∀(kk:K) (a b:Nat) (p:U),p.size<=k->Uq p->p.Nr->Lv.tid ((Lv.thr kk a b (td p).1 (td p).2 .nil).map f)=Lv.tid ((Lv.thr kk a b (flat p).1 (flat p).2 .nil).map f):=λkk a b p J G n=>by
   simp only [Lv.map,Lv.tid,ih p J G n]
  have one:Lv.tid ((td u).2.map f)=Lv.tid ((flat u).2.map f)->u.isS=false->(Lv.tid ((tp u.ly).map f)).2=Lv.prt (Lv.kept ((flat u).1.map f) (Lv.tid ((flat u).2.map f))).1 (Lv.kept ((flat u).1.map f) (Lv.tid ((flat u).2.map f))).2 .nil:=λe hs=>by
   rw [fP hs,tp];simp only [Lv.map,tp];rw [nQ,e,gU G n,(qa G n).2];rfl
  have H:u.th=true->(td u).2=tl [u]:=λht=>by rw [qD,(eZ G n ht).1]
  cases u with
  | nil=>exact⟨rfl,λh=>by cases h⟩
  | snd a b p=>
   have e:Lv.tid ((td (.snd a b p)).2.map f)=Lv.tid ((flat (.snd a b p)).2.map f):=by rw [H rfl];exact key .s a b p (by simp only [T.size]at h;omega) G.snd n
   exact⟨e,λ _=>one e rfl⟩
  | rcv a b p=>
   have e:Lv.tid ((td (.rcv a b p)).2.map f)=Lv.tid ((flat (.rcv a b p)).2.map f):=by rw [H rfl];exact key .r a b p (by simp only [T.size]at h;omega) G.rcv n
   exact⟨e,λ _=>one e rfl⟩
  | tau p=>
   have e:Lv.tid ((td (.tau p)).2.map f)=Lv.tid ((flat (.tau p)).2.map f):=by rw [H rfl];exact key .t 0 0 p (by simp only [T.size]at h;omega) G.tau n
   exact⟨e,λ _=>one e rfl⟩
  | mat a b p=>
   have e:Lv.tid ((td (.mat a b p)).2.map f)=Lv.tid ((flat (.mat a b p)).2.map f):=by rw [H rfl];exact key .m a b p (by simp only [T.size]at h;omega) G.mat n.2
   exact⟨e,λ _=>one e rfl⟩
  | rep p=>
   have e:Lv.tid ((td (.rep p)).2.map f)=Lv.tid ((flat (.rep p)).2.map f):=by rw [H rfl];exact key .p 0 0 p (by simp only [T.size]at h;omega) G.rep n.2
   exact⟨e,λ _=>one e rfl⟩
  | res x p=>
   have e:Lv.tid ((td (.res x p)).2.map f)=Lv.tid ((flat (.res x p)).2.map f):=(ga f k (by simp only [T.size]at h;omega) G.res n.2).1;exact⟨e,λ _=>one e rfl⟩
  | par p q=>
   simp only [T.size]at h;have e:Lv.tid ((td (.par p q)).2.map f)=Lv.tid ((flat (.par p q)).2.map f):=by
    have h1:=(ga f k (by omega) G.fK n.2.1).1;have h2:=(ga f k (by omega) G.eV n.2.2).1;have e:(td (.par p q)).2=(td p).2.app (td q).2:=by simp only [qD,flat,Lv.ct _ _ (bP p)]
    rw [e];simp only [flat,Lv.eO];rw [Lv.ct _ _ (Lv.lE (by rw [ik];exact Ct p)),Lv.ct _ _ (Lv.lE (by rw [ik];exact cx p)),h1,h2]
   exact⟨e,λ _=>one e rfl⟩
  | sum p q=>
   simp only [T.size]at h;have hs:tl [T.sum p q]= .sum (tp (p::q.ly)) .nil:=by
    simp only [tl];rw [dU G.dF n.2.1 n.1.1,dU G.dh n.2.2 n.1.2.1,fP n.1.2.2];rfl
   have hz:(Lv.tid ((tp (p::q.ly)).map f)).2=(Lv.tid ((Lv.part (flat p).1 (flat p).2 (.part (flat q).1 (flat q).2 .nil)).map f)).2:=by
    rw [tp];simp only [Lv.map];rw [nQ,nQ,nQ,ih p (by omega) G.dF n.2.1,(ga f k (by omega) G.dh n.2.2).2 n.1.2.1];rfl
   have e:Lv.tid ((td (.sum p q)).2.map f)=Lv.tid ((flat (.sum p q)).2.map f):=by
    rw [H rfl,hs];simp only [flat,Lv.map,Lv.tid];rw [hz];simp only [Lv.map];rfl
   refine⟨e,λ _=>?_⟩;have Z:((Lv.part (flat p).1 (flat p).2 (.part (flat q).1 (flat q).2 .nil)).map f).sh false=true:=by rw [ik];simp only [Lv.sh,cx,OA]
   show(Lv.tid ((tp (p::q.ly)).map f)).2=_;rw [hz];have J:=(Lv.mZ ((Lv.part (flat p).1 (flat p).2 (.part (flat q).1 (flat q).2 .nil)).map f)).2 Z;have :=Lv.Iw J.1 (Lv.di _ _ Z);simp only [flat,Lv.map,PG,Lv.tid]at this|-;exact this.symm
structure Pc (x:List Nat×Lv)(t:U):Prop where
 own:x.1=(flat t).1
 sh:x.2.sh true=true
 tid:Lv.tid x.2=Lv.tid (flat t).2
def joinL:List (List Nat×Lv)->List Nat×Lv
 | []=>([],.nil)
 | x::l=>(x.1++(joinL l).1,x.2.app (joinL l).2)
def qc:∀l m:List (List Nat×Lv),joinL (l++m)=((joinL l).1++(joinL m).1,(joinL l).2.app (joinL m).2)
 | [],m=>rfl
 | x::l,m=>by simp only [N6,joinL,qc l m,NX,Lv.cc]
def u9 (x:List Nat×Lv):joinL [x]=x:=by simp only [joinL,NM,Lv.aT]
def lO:∀l:List U,flat (T.parL l)=joinL (l.map flat)
 | []=>rfl
 | [t]=>by simp only [T.parL,NI,PG,u9]
 | t::u::l=>by
  have :=lO (u::l);simp only [T.parL,flat,this,NI,joinL]
def pK (p:U):∀o:List Nat,flat (T.resL o p)=(o++(flat p).1,(flat p).2)
 | []=>rfl
 | x::o=>by simp only [T.resL,flat,pK p o,N6]
def Pc.join:∀{zs:List ((List Nat×Lv)×U)},(∀z∈zs,Pc z.1 z.2)->Pc (joinL (zs.map (·.1))) (T.parL (zs.map (·.2)))
 | [],_=>⟨rfl,rfl,rfl⟩
 | z::zs,h=>by
  have h1:=h z (by simp);have G:=Pc.join (zs:=zs) λy J=>h y (by simp [J])
  have e:flat (T.parL ((z::zs).map (·.2)))=joinL ((z::zs).map (λy=>flat y.2)):=by rw [lO,Oq];rfl
  have H:flat (T.parL (zs.map (·.2)))=joinL (zs.map (λy=>flat y.2)):=by rw [lO,Oq];rfl
  refine⟨?_,?_,?_⟩
  ·rw [e];simp only [NI,joinL];rw [h1.own,G.own,H]
  ·simp only [NI,joinL];exact Lv.gF h1.sh G.sh
  ·rw [e];simp only [NI,joinL];rw [Lv.ct _ _ (Lv.lE h1.sh),Lv.ct _ _ (bP z.2),h1.tid,G.tid,H]
def zA {own:List Nat}{x:List Nat×Lv}{t:U}(h:Pc x t):Lv.tidy (own++x.1) x.2=td (T.resL own t):=by
 show _=Lv.tidy (flat (T.resL own t)).1 (flat (T.resL own t)).2;rw [pK];simp only [Lv.tidy,h.own,h.tid]
def Pc.map (f:Nat->Nat){q:U}(G:Uq q)(n:q.Nr):Pc (Lv.eD f (td q)) (q.map f):=by
 have h:=(ga f _ (Nc _) G n).1;refine⟨?_,by rw [ik];exact Ct q,?_⟩
 ·rw [bU,gU G n];show(T.frL q).map f=((flat q).1).map f;rw [(qa G n).2]
 ·rw [bU];exact h
def map_id:∀l:Lv,l.map id=l
 | .nil=>rfl
 | .thr k a b o r n=>by simp only [Lv.map,map_id r,map_id n,List.map_id,id,ite_self]
 | .sum ps n=>by simp only [Lv.map,map_id ps,map_id n]
 | .part o q n=>by simp only [Lv.map,map_id q,map_id n,List.map_id]
def dN:∀u:U,u.map id=u
 | .nil=>rfl
 | .snd a b p=>by simp only [T.map,dN p,id]
 | .rcv a b p=>by simp only [T.map,dN p,id]
 | .tau p=>by simp only [T.map,dN p]
 | .sum p q=>by simp only [T.map,dN p,dN q]
 | .par p q=>by simp only [T.map,dN p,dN q]
 | .res x p=>by simp only [T.map,dN p,id]
 | .mat a b p=>by simp only [T.map,dN p,id]
 | .rep p=>by simp only [T.map,dN p]
def Pc.nr {q:U}(G:Uq q)(n:q.Nr):Pc (td q) q:=by
 have h:=Pc.map id G n;rw [dN]at h;have e:Lv.eD id (td q)=td q:=by simp only [Lv.eD,map_id,List.map_id]
 rwa [e]at h
structure yP (l m:Lv):Prop where
 s:∀ρ tk,(thS l ρ tk).Perm (thS m ρ tk)
 bad:∀tk,thBad l tk=thBad m tk
 all:thAll l=thAll m
 most:an l=an m
 has:∀x,l.has x=m.has x
 nil:l.isNil=m.isNil
def yP.refl (l:Lv):yP l l:=⟨λ _ _=>Of _,λ _=>rfl,rfl,rfl,λ _=>rfl,rfl⟩
def yP.trans {a b c:Lv}(h:yP a b)(k:yP b c):yP a c:=⟨λρ tk=>(h.s ρ tk).trans (k.s ρ tk),λtk=>(h.bad tk).trans (k.bad tk),h.all.trans k.all,h.most.trans k.most,λx=>(h.has x).trans (k.has x),h.nil.trans k.nil⟩
def lL (l m:Lv):(l.app m).isNil=(l.isNil&&m.isNil):=by cases l<;>simp [Lv.app,Lv.isNil]
def yP.app {a b c d:Lv}(h:yP a b)(k:yP c d):yP (a.app c) (b.app d):=
 ⟨λρ tk=>by rw [fO,fO];exact(h.s ρ tk).append (k.s ρ tk),λtk=>by rw [cE,cE,h.bad,k.bad],by rw [bN,bN,h.all,k.all],by rw [bQ,bQ,h.most,k.most],λx=>by rw [Lv.cH,Lv.cH,h.has,k.has],by rw [lL,lL,h.nil,k.nil]⟩
def yP.comm (a b:Lv):yP (a.app b) (b.app a):=
 ⟨λρ tk=>by rw [fO,fO];exact PY,λtk=>by rw [cE,cE,Bool.or_comm],by rw [bN,bN];omega,by rw [bQ,bQ];omega,λx=>by rw [Lv.cH,Lv.cH,Bool.or_comm],by rw [lL,lL,Bool.and_comm]⟩
def GK {r r':List Nat×Lv}(h:r.1.Perm r'.1)(k:yP r.2 r'.2):BG r=BG r':=by
 have G:kR r.2=kR r'.2:=by funext c;unfold kR;rw [k.has]
 have H:aP r.1 (thS r.2) ρ0 (kR r.2)=aP r'.1 (thS r'.2) ρ0 (kR r'.2):=by rw [G];exact jW h k.s _ _
 have J:fu r.1.length r.2.isNil (thBad r.2) (kR r.2)=fu r'.1.length r'.2.isNil (thBad r'.2) (kR r'.2):=by
  rw [G,h.length_eq,k.nil,show thBad r.2=thBad r'.2 from funext k.bad]
 unfold BG;rw [H,J,h.length_eq,k.most,k.all]
def zd:∀ts:List U,Lv.tid (joinL (ts.map flat)).2=joinL (ts.map λt=>Lv.tid (flat t).2)
 | []=>rfl
 | t::ts=>by simp only [NI,joinL,Lv.ct _ _ (bP t),zd ts]
def vB {l m:List (List Nat×Lv)}(h:l.Perm m):(joinL l).1.Perm (joinL m).1/\yP (joinL l).2 (joinL m).2:=by
 induction h with
 | nil=>exact⟨Of _,yP.refl _⟩
 | cons x _ J=>exact⟨(Of _).append J.1,(yP.refl _).app J.2⟩
 | swap x y l=>
  simp only [joinL];refine⟨?_,?_⟩
  ·rw [<-NX,<-NX];exact PY.append (Of _)
  ·rw [<-Lv.cc,<-Lv.cc];exact(yP.comm _ _).app (yP.refl _)
 | trans _ _ G H=>exact⟨G.1.trans H.1,G.2.trans H.2⟩
def E' {own:List Nat}{ts G:List U}(h:ts.Perm G):je (T.resL own (T.parL ts))=je (T.resL own (T.parL G)):=by
 unfold je;have e:∀ts:List U,td (T.resL own (T.parL ts))=Lv.kept (own++(joinL (ts.map flat)).1) (joinL (ts.map λt=>Lv.tid (flat t).2)):=λts=>by
  show Lv.tidy (flat _).1 (flat _).2=_;rw [pK,lO];simp only [Lv.tidy,zd]
 rw [e,e];have h1:=vB (h.map flat);have H:=vB (h.map λt=>Lv.tid (flat t).2);refine GK ?_ H.2;simp only [Lv.kept];rw [show(λx=>(joinL (ts.map λt=>Lv.tid (flat t).2)).2.has x)=λx=>(joinL (G.map λt=>Lv.tid (flat t).2)).2.has x from funext H.2.has];exact(((Of _).append h1.1).append H.1).filter _
def ρN:Rh:=λx=>if x< 26 then UInt8.ofNat (97+x)else 0
def L6:Mf (eG []) ρN:=λx=>by
 unfold ρN;refine⟨?_,λh=>NO h,λh=> .inr ⟨rfl,Nt (by omega)⟩⟩;split
 ·rename_i h;revert h;revert x;decide+kernel
 ·decide
def IS {x:Nat}(h:x< 26):Au 1 x=AP (UInt8.ofNat (97+x))/\lt (UInt8.ofNat (97+x))=true/\e0 (UInt8.ofNat (97+x))=x:=by
 have G:lt (UInt8.ofNat (97+x))=true:=by revert x;decide+kernel
 have H:(UInt8.ofNat (97+x)).toNat=97+x:=by rw [Om];omega
 refine⟨?_,G,by unfold e0;rw [H];omega⟩;unfold AP;rw [gC G,H,show 97+x - 97=x by omega]
def EA (l:Lv)(i:Nat):Tk:=λc=>lt c&&(decide (c.toNat - 97< i)&&l.has (e0 c))
def F5 (l:Lv)(c:UInt8):EA l 0 c=false:=by simp [EA]
def Is (l:Lv):EA l 26=kR l:=by
 funext c
 unfold EA kR;cases h:lt c
 ·rfl
 ·have :=bg h;simp [show c.toNat - 97< 26 by omega]
def yL.congr {x:UInt32}{tk tk':Tk}(h:yL x tk)(e:∀c,lt c=true->tk c=tk' c):yL x tk':=λc G=>by rw [h c G,e c G]
def LB {w:World}{n r:Nat}{ρ:Rh}{tk tk':Tk}{bad:Bool}(h:Nm w n r ρ tk bad)(e:∀c,lt c=true->tk c=tk' c):Nm w n r ρ tk' bad:=by
 obtain⟨x,h1,G⟩:=h.c1;exact⟨h.lt,h.lr,h.ne,h.c0,h.mp,⟨x,h1,G.congr e⟩,h.c2,h.f⟩
def Av {l:Lv}{i:Nat}(hi:i< 26)(c:UInt8)(H:lt c=true):(l.has i=true->cA (EA l i) (UInt8.ofNat (97+i)) c=EA l (i+1) c)/\(l.has i=false->EA l i c=EA l (i+1) c):=by
 have h1:=bg H;have Z:(UInt8.ofNat (97+i)).toNat=97+i:=by rw [Om];omega
 have he:e0 c=c.toNat - 97:=rfl;unfold cA EA;rw [H,he];by_cases h:c.toNat - 97=i
 ·have e:c=UInt8.ofNat (97+i):=NK.1 (by omega);rw [h];constructor
  ·intro G;have hb:(c==UInt8.ofNat (97+i))=true:=by rw [e];exact beq_self_eq_true _
   rw [hb,G];simp
  ·intro G;simp [G]
 ·have e:c≠UInt8.ofNat (97+i):=λe=>h (by rw [e,Z];omega)
  have J:decide (c.toNat - 97< i)=decide (c.toNat - 97< i+1):=by
   rw [decide_eq_decide];omega
  constructor
  ·intro _;rw [show(c==UInt8.ofNat (97+i))=false by simpa using e,J];simp
  ·intro _;rw [J]
def vE {D:Nat->Prop}{w:World}{v:Value}{o:List Nat}{l:Lv}(h:fL D w v o (af D w l))(φ:l.sh true=true)(htot:o.length+l.tot<=4294967295)(huq:ua (Lv.tidy o l).1 (Lv.tidy o l).2)(hfr:∀x,x∉(Lv.tidy o l).1->(Lv.tidy o l).2.fh x->x< 26){R:aJ->Bool->Qx}
  (hR:∀w',Ex w w'->(∀s,BG (Lv.tidy o l)=some s->R s true w')/\(BG (Lv.tidy o l)=none->R [] false w')):Qy 117 #[v] w (ax [.s,.b] R):=by
 refine kJ v w R ?_;dsimp only [go_sem];dsimp only [go_sem,UInt8.reduceOfNat,UInt32.reduceOfNat,Nat.reduceAdd];refine EX _ (Nc _) φ h (by omega) λv2 w3 x3 h2=>?_
 have htt:=oF o l;have β:(Lv.tidy o l).2.sh true=true:=Lv.di _ _ φ;have χ:(Lv.tidy o l).2.sm=true:=Lv.nc _;generalize hr:Lv.tidy o l=r at*;obtain⟨Z,G⟩:=r;simp only at*;have hst:=Lv.iZ G;have hN:∀b,BG (Z,G)=b->(b=none->∀w',Ex w w'->R [] false w'):=λb e1 e2 w' x=>(hR w' x).2 (e1.trans e2)
 refine F8 _ (o:=Z) (l:=G) (Nc _) β h2 (by show Z.length+G.tot<=_;omega) λw6 x6=>?_
 have ν:Ex w w6:=Ex.trans x3 x6;have γ:¬(max Z.length (an G)<=5/\Z.length+thAll G<=8)->BG (Z,G)=none:=λhc=>by unfold BG;rw [Nt (λh=>hc h.1)]
 by_cases h5:5< max Z.length (an G)
 ·exact dx (by omega) ((hR w6 ν).2 (γ (by omega)))
 refine bV (by omega) ?_;by_cases h8:8< Z.length+thAll G
 ·exact cI (by omega) ((hR w6 ν).2 (γ (by omega)))
 refine aR (by omega) λb7 w8 hb7 ξ=>⟨trivial,λb9 ζ η J=>?_⟩
 have x8:Ex w6 w8:=ξ▸Ex.alloc w6 _;have ψ:Ex w8 ζ:=J▸Ex.alloc w8 _;have s8:w8.heap.size=w6.heap.size+1:=by rw [ξ,size_alloc]
 have s10:ζ.heap.size=w8.heap.size+1:=by rw [J,size_alloc]
 have s6:=x6.size;have s3:=x3.size;have e7:ζ.heap[b7]?=some (.map #[] 0):=by
  rw [ψ.block b7 (by omega),ξ,hb7];unfold World.alloc;simp
 have n10:Nm ζ b9 b7 ρN (EA G 0) false:=by
  refine⟨by omega,by omega,by omega,by rw [J,η];exact aa rfl,⟨eG [],⟨#[],0,e7,⟨by simp,by simp,by simp⟩,by simp,λq=>rfl⟩,L6⟩,⟨0,by rw [J,η];exact aa rfl,λc _=>?_⟩,by rw [J,η];exact aa rfl,λj=>by rw [J,η];exact aW _ _ _ _⟩;rw [F5];simp
 have h3:fL (λg=>Cv w g/\g< w3.heap.size) w3 v2 Z (af (λg=>Cv w g/\g< w3.heap.size) w3 G):=aH.sub (L:=(Z,G)) h2 λg hg hd=>⟨hd,hg⟩
 have hD:∀g,(Cv w g/\g< w3.heap.size)->¬(g=b9\/g=b7):=λg hg=>by omega
 have ι:∀{w1:World},Ex w3 w1->fL (λg=>Cv w g/\g< w3.heap.size) w1 v2 Z (af (λg=>Cv w g/\g< w3.heap.size) w1 G):=λk=>fL.ex h3 k
 refine⟨λx w'=>∃i:Nat,x=i/\i<=26/\Ex w6 w'/\Nm w' b9 b7 ρN (EA G i) false,λx _=>(26 - x).toNat,⟨0,rfl,by omega,Ex.trans x8 ψ,n10⟩,λx w14 hI=>?_⟩;obtain⟨i,rfl,hi,δ,n14⟩:=hI;refine⟨λhlt=>?_,λhge=>?_⟩
 ·have ο:i< 26:=by simp only [Nj]at hlt;omega
  obtain⟨eb1,eb2,eb3⟩:=IS ο;refine Kk _ (Nc _) β (ι (Ex.trans x6 δ)) (by omega) λθ ω=>?_
  have n16:=n14.ex ω;have κ:Ex w6 θ:=Ex.trans δ ω;refine⟨λhh=>⟨λw'=>Ex θ w',λw18 hw18=>?_⟩,λhh=>⟨by omega,⟨i+1,by omega,by omega,κ,LB n16 λc hc=>(Av ο c hc).2 hh⟩,by show((26:Int) - ((i:Int)+1)).toNat< ((26:Int) - i).toNat;omega⟩⟩;have ς:Ex θ w18:=hw18▸Ex.drew θ;obtain⟨y,hy,hyt⟩:=n16.c1;have n18:=n16.ex ς;obtain⟨y',hy',_⟩:=n18.c1;refine⟨ς,y,λw' x'=>by rw [x'.cell (show b9< _ from n16.lt)];exact hy,by omega,⟨⟨_,hy'⟩,n18.f 1⟩,λw21 μ=>⟨by omega,⟨i+1,by omega,by omega,?_,?_⟩,by show((26:Int) - ((i:Int)+1)).toNat< ((26:Int) - i).toNat;omega⟩⟩
  ·exact μ▸Ex.own (Ex.trans κ ς) (by omega) _
  ·refine LB (n18.set (tk':=cA (EA G i) (UInt8.ofNat (97+i))) (bad':=false) μ (.inl ⟨rfl,rfl,_,rfl,?_⟩)) λc hc=>(Av ο c hc).1 hh
   rw [Nf,eb1];exact hyt.add eb2
 ·have:i=26:=by simp only [No]at hge;omega
  subst this;rw [Is]at n14;have hlS:aP Z (thS G) ρN (kR G)=aP Z (thS G) ρ0 (kR G):=dD (H:=λx=>G.fh x) (λρ ρ' tk=>gY G ρ ρ' tk) (λρ ρ' tk h=>sJ G ρ ρ' tk h) λx hx hf=>by
   have :=hfr x hx hf;unfold ρN ρ0;rw [NO this]
  refine LD _ (Nc _) β χ huq (ι (Ex.trans x6 δ)) hD n14 (by omega) λυ ρ' k23 n23 _=>⟨_,n23.c2,?_⟩
  rw [hlS,PV];have x23:Ex w6 υ:=Ex.below δ (Kp.below k23 δ.size λg hg e=>by omega);have ε:Ex w υ:=Ex.trans ν x23;refine⟨λhb=>Ay λq w26 x26 hq=>⟨λh=>(hR w26 (Ex.trans ε x26)).2 ?_,λh=>(hR w26 (Ex.trans ε x26)).1 _ ?_⟩,λhb=>(hR υ ε).2 ?_⟩
  ·unfold BG;have:¬cV (aP Z (thS G) ρ0 (kR G)):=λhg=>by rw [hq.2 hg]at h;cases h
   rw [Nt (λh=>this h.2.2)]
  ·unfold BG;have:cV (aP Z (thS G) ρ0 (kR G)):=hq.1 (by cases q<;>first | rfl | cases h);rw [NO ⟨⟨by show max Z.length (an G)<=5;omega,by show Z.length+thAll G<=8;omega⟩,hb,this⟩]
  ·unfold BG;rw [Nt (λh=>by have :=h.2.1;rw [hb]at this;cases this)]
attribute [go_sem] Tryz.f55
def xh (n1:aJ)(w:World)(R:Value->Qx)(h:vc az (aZ [] [] [(3,true,.lt 0 (.lt 1 (.lt 2 (.lt 3 (.lt 4 (.one .n 5 (.one .n 6 (.one .n 7 (.lt 8 (.lt 9 (.one .n 10 .done)))))))))))]) (ab Tryz.f55) (ai 0 [.s n1]) w (fin az [.tmp 2 .v] R)):
  Qy 55 #[(.string (ay n1))] w (ax [.v] R):=
 a7 Tryz.func55 (by kernel_rfl) h
attribute [go_sem] Tryz.f44
def qE (G:aJ)(w:World)(R:Value->Bool->Qx)(h:vc az (aZ [] [] []) (ab Tryz.f44) (ai 0 [.s G]) w (fin az [.tmp 2 .v,.tmp 3 .b] R)):
  Qy 44 #[(.string (ay G))] w (ax [.v,.b] R):=
 a7 Tryz.func44 (by kernel_rfl) h
def dX (t1:Value)(w:World)(R:Value->Qx)(h:cJ t1 λb2 o3=>CH w b2 (o3+0) λc4=>∃J5:Bool->Qx,(dP (decide (c4=126)) (J5 ((decide (c4=126))) w) (dP (decide (c4=33)) (J5 ((decide (c4=33))) w) (J5 ((decide (c4=63))) w)))/\∀(x6:Bool) (w7:World),J5 x6 w7->dP x6 (qg w7 λS8 w9=>cJ t1 λb10 o11=>LP S8 b10 (o11+0) λc12=>cJ t1 λb13 o14=>yO S8 b13 (o14+1) λn15=>cJ t1 λb16 o17=>yO S8 b16 (o17+2) λn18=>cJ t1 λb19 o20=>gG S8 b19 (o20+3) λv21=>oneV v21=true/\jF w9 (.cells #[(.int .u8 c12.toNat),(.int .i64 n15),(.int .i64 n18),v21,(.bool false)] 134) λb22 ν=>S8 ν/\R ((.slice (some ⟨b22,0,none⟩) 1 1)) ν) (dP (decide (c4=42)) (jF w7 (.cells #[] 134) λb24 ι=>cJ t1 λb26 o27=>fW ι b26 (o27+3) λv28=>cJ v28 λb29 o30=>fW ι b29 (o30+1) λv31=>uC v31 λl33=>Bg ((.slice (some ⟨b24,0,none⟩) 0 0)) 0 ι λξ ζ β G H=>dP (decide (G< (l33:Int))) (vQ v31 G λb40 o41=>fW H b40 (o41+G.toNat* 1) λv44=>cJ v44 λb45 o46=>CH H b45 (o46+0) λc47=>dP (decide (c47=63)) (qg H λγ w49=>cJ v44 λb50 o51=>yO γ b50 (o51+1) λn52=>cJ v44 λb53 o54=>yO γ b53 (o54+2) λn55=>cJ v44 λb56 o57=>gG γ b56 (o57+3) λv58=>oneV v58=true/\jF w49 (.cells #[(.int .u8 (UInt8.toNat 63)),(.int .i64 n52),(.int .i64 n55),v58,(.bool true)] 134) λb59 ο=>γ ο/\um 134 5 40 ο β (.slice (some ⟨b59,0,none⟩) 1 1) λv66 κ=>γ κ/\cW (G+1)/\ξ v66 (G+1) κ/\ζ v66 (G+1) κ< ζ β G H) (cW (G+1)/\ξ β (G+1) H/\ζ β (G+1) H< ζ β G H)) (R β H)) (dP (decide (c4=43)) (jF w7 (.cells #[] 134) λb68 ς=>cJ t1 λb70 o71=>fW ς b70 (o71+4) λv72=>uC v72 λl74=>Bg ((.slice (some ⟨b68,0,none⟩) 0 0)) 0 ς λI76 υ μ J δ=>dP (decide (J< (l74:Int))) (vQ v72 J λb81 o82=>fW δ b81 (o82+J.toNat* 1) λv85=>cJ v85 λb86 o87=>fW δ b86 (o87+1) λφ=>uC φ λl90=>Bg μ 0 δ λI92 χ η Z ε=>dP (decide (Z< (l90:Int))) (vQ φ Z λb97 o98=>fW ε b97 (o98+Z.toNat* 1) λψ=>GI 113 #[ψ] ε λω w103=>um 134 5 40 w103 η ω λv109 θ=>cW (Z+1)/\I92 v109 (Z+1) θ/\χ v109 (Z+1) θ< χ η Z ε) (cW (J+1)/\I76 η (J+1) ε/\υ η (J+1) ε< υ μ J δ)) (R μ δ)) (R (.slice none 0 0) w7)))):
  Qy 113 #[t1] w (ax [.v] R):=
 Lf (aZ [(9,[(3,.v),(48,.i)]),(18,[(6,.v),(83,.i)]),(21,[(6,.v),(92,.i)])] [(5,[(15,.b)])] [(5,true,.lt 0 (.lt 1 (.lt 2 (.lt 3 (.lt 4 (.lt 5 (.lt 6 (.lt 7 (.lt 8 (.lt 9 (.lt 10 (.lt 11 (.lt 12 (.lt 13 (.lt 14 (.lt 15 (.lt 16 (.one .g 17 (.lt 18 .done))))))))))))))))))),(12,true,.lt 0 (.lt 1 (.lt 2 (.lt 3 (.lt 4 (.lt 5 (.lt 6 (.lt 7 (.lt 8 (.lt 9 (.lt 10 (.lt 11 (.lt 12 (.lt 13 (.one .g 14 (.one .g 15 (.lt 16 .done)))))))))))))))))]) [.tmp 2 .v] [.v t1] Tryz.func113 (by kernel_rfl) h
attribute [go_sem] Tryz.f222
def ma (s1:Value)(v2:Int)(w:World)(R:Int->Qx)(h:vc az (aZ [(2,[(8,.i)])] [] []) (ab Tryz.f222) (ai 0 [.v s1,.i v2]) w (fin az [.tmp 4 .i] R)):
  Qy 222 #[s1,(.int .i64 v2)] w (ax [.i] R):=
 a7 Tryz.func222 (by kernel_rfl) h
attribute [go_sem] Tryz.f183
def jf (s1:Value)(v2:Int)(w:World)(R:Bool->Qx)(h:vc az (aZ [] [] []) (ab Tryz.f183) (ai 0 [.v s1,.i v2]) w (fin az [.tmp 4 .b] R)):
  Qy 183 #[s1,(.int .i64 v2)] w (ax [.b] R):=
 a7 Tryz.func183 (by kernel_rfl) h
attribute [go_sem] Tryz.f114
def mD (s1:Value)(g2:Value)(G:Value)(m4:Value)(w:World)(R:aJ->Bool->Qx)(h:vc az (aZ [(3,[(27,.i)]),(9,[(49,.i)])] [] []) (ab Tryz.f114) (ai 0 [.v s1,.v g2,.v G,.v m4]) w (fin az [.tmp 8 .s,.tmp 9 .b] R)):
  Qy 114 #[s1,g2,G,m4] w (ax [.s,.b] R):=
 a7 Tryz.func114 (by kernel_rfl) h
attribute [go_sem] Tryz.f61
attribute [go_sem] Tryz.f198
def jm (G:Int)(c2:Value)(w:World)(R:Int->Qx)(h:vc az (aZ [] [] []) (ab Tryz.f198) (ai 0 [.i G,.v c2]) w (fin az [.tmp 3 .i] R)):
  Qy 198 #[(.int .i64 G),c2] w (ax [.i] R):=
 a7 Tryz.func198 (by kernel_rfl) h
def kY (m1:Value)(l2:Value)(t3:Value)(w:World)(R:Value->Qx)(h:oneV t3=true/\jF w (.cells #[t3] 179) λb4 w5=>jF w5 (.cells #[(.slice none 0 0),(.slice none 0 0)] 129) λb6 w7=>cJ l2 λb8 o9=>fW w7 b8 (o9+0) λv10=>uC v10 λl12=>Hm 0 w7 λI14 m15 β ι=>dP (decide (β< (l12:Int))) (vQ v10 β λb18 o19=>La ι b18 (o19+β.toNat* 1) λn22=>qg ι λS23 w24=>gG S23 b4 0 λv25=>Hu 172 #[m1] w24 λn26 w27=>S23 w27/\∃(υ:Nat) (m29:Value->Option Value),v25= .map (some υ)/\IsMap w27 υ (.int .i64) m29/\∀w30:World,IsMap w30 υ (.int .i64) (gz m29 (.int .i64 n22) (.int .i64 n26))->dR w27 w30 υ->qg w30 λκ BT=>gG κ b6 0 λv33=>gG κ b4 0 λv34=>∃(r35:Nat) (m36:Value->Option Value),v34= .map (some r35)/\IsMap BT r35 (.int .i64) m36/\∃y37:Int,∃g38:Bool,((g38=true/\m36 (.int .i64 n22)=some (.int .i64 y37))\/(g38=false/\m36 (.int .i64 n22)=none/\(Value.int .i64 y37)=(.int .i64 0)))/\κ BT/\jF BT (.cells #[(.int .i64 y37)] 3) λb39 w40=>κ w40/\um 3 1 8 w40 v33 (.slice (some ⟨b39,0,none⟩) 1 1) λv46 w47=>κ w47/\oneV v46=true/\pb w47 b6 0 v46 λw49=>cW (β+1)/\I14 (β+1) w49/\m15 (β+1) w49< m15 β ι) (cJ l2 λb50 o51=>fW ι b50 (o51+1) λv52=>uC v52 λl54=>Hm 0 ι λI56 m57 γ μ=>dP (decide (γ< (l54:Int))) (vQ v52 γ λb60 o61=>fW μ b60 (o61+γ.toNat* 1) λv64=>cJ v64 λb65 o66=>CH μ b65 (o66+0) λc67=>jF μ (.cells #[(.int .u8 c67.toNat),(.int .i64 0),(.int .i64 0),(.pointer none),(.slice none 0 0)] 191) λH δ=>∃θ:Qx,(cJ v64 λb71 o72=>CH δ b71 (o72+0) λφ=>dP (decide (φ=63)) (cJ v64 λb74 o75=>La δ b74 (o75+1) λn76=>∃(f77:Nat) (c78:List Value),(Value.func (.func 198) #[] #[(.pointer (some ⟨b4,0,none⟩))])= .func (.func f77) #[] (List.toArray c78)/\hasR gD f77=true/\Hu f77 (List.toArray ([(.int .i64 n76)]++c78)) δ λn79 w80=>pb w80 H 1 (.int .i64 n79) λw82=>qg w82 λS83 w84=>gG S83 b4 0 λv85=>cJ v64 λb86 o87=>yO S83 b86 (o87+2) λn88=>Hu 172 #[m1] w84 λn89 w90=>S83 w90/\∃(χ:Nat) (m92:Value->Option Value),v85= .map (some χ)/\IsMap w90 χ (.int .i64) m92/\∀w93:World,IsMap w93 χ (.int .i64) (gz m92 (.int .i64 n88) (.int .i64 n89))->dR w90 w93 χ->qg w93 λS94 w95=>gG S94 b4 0 λv96=>cJ v64 λb97 o98=>yO S94 b97 (o98+2) λn99=>∃(ψ:Nat) (ν:Value->Option Value),v96= .map (some ψ)/\IsMap w95 ψ (.int .i64) ν/\∃ξ:Int,∃ω:Bool,((ω=true/\ν (.int .i64 n99)=some (.int .i64 ξ))\/(ω=false/\ν (.int .i64 n99)=none/\(Value.int .i64 ξ)=(.int .i64 0)))/\pb w95 H 2 (.int .i64 ξ) λw105=>θ w105) (dP (decide (φ=33)) (dP (decide (φ=33)) (qg δ λε w107=>cJ v64 λb108 o109=>yO ε b108 (o109+1) λn110=>cJ v64 λb111 o112=>yO ε b111 (o112+2) λn113=>∃(f114:Nat) (c115:List Value),(Value.func (.func 198) #[] #[(.pointer (some ⟨b4,0,none⟩))])= .func (.func f114) #[] (List.toArray c115)/\hasR gD f114=true/\Hu f114 (List.toArray ([(.int .i64 n110)]++c115)) w107 λn116 w117=>ε w117/\∃(f118:Nat) (c119:List Value),(Value.func (.func 198) #[] #[(.pointer (some ⟨b4,0,none⟩))])= .func (.func f118) #[] (List.toArray c119)/\hasR gD f118=true/\Hu f118 (List.toArray ([(.int .i64 n113)]++c119)) w117 λn120 w121=>ε w121/\pb w121 H 1 (.int .i64 n116) λw123=>pb w123 H 2 (.int .i64 n120) λw125=>θ w125) (θ δ)) (dP (decide (φ=61)) (qg δ λζ w127=>cJ v64 λb128 o129=>yO ζ b128 (o129+1) λn130=>cJ v64 λb131 o132=>yO ζ b131 (o132+2) λn133=>∃(f134:Nat) (c135:List Value),(Value.func (.func 198) #[] #[(.pointer (some ⟨b4,0,none⟩))])= .func (.func f134) #[] (List.toArray c135)/\hasR gD f134=true/\Hu f134 (List.toArray ([(.int .i64 n130)]++c135)) w127 λn136 w137=>ζ w137/\∃(f138:Nat) (c139:List Value),(Value.func (.func 198) #[] #[(.pointer (some ⟨b4,0,none⟩))])= .func (.func f138) #[] (List.toArray c139)/\hasR gD f138=true/\Hu f138 (List.toArray ([(.int .i64 n133)]++c139)) w137 λn140 w141=>ζ w141/\pb w141 H 1 (.int .i64 n136) λw143=>pb w143 H 2 (.int .i64 n140) λw145=>θ w145) (θ δ))))/\∀(η:World),θ η->∃ο:Qx,(cJ v64 λb148 o149=>fW η b148 (o149+3) λv150=>∃q151:Option Addr,v150= .pointer q151/\dP (!Option.isNone q151) (qg η λS152 w153=>cJ v64 λb154 o155=>gG S152 b154 (o155+3) λv156=>gG S152 b4 0 λv157=>GI 154 #[m1,v156,v157] w153 λv158 w159=>oneV v158=true/\pb w159 H 3 v158 λw161=>ο w161) (ο η))/\∀(ς:World),ο ς->cJ v64 λb163 o164=>fW ς b163 (o164+4) λv165=>uC v165 λl167=>Hm 0 ς λI169 m170 G J=>dP (decide (G< (l167:Int))) (vQ v165 G λb173 o174=>fW J b173 (o174+G.toNat* 1) λv177=>qg J λZ w179=>gG Z H 4 λv180=>gG Z b4 0 λv181=>GI 154 #[m1,v177,v181] w179 λv182 w183=>Z w183/\oneV v182=true/\jF w183 (.cells #[v182] 59) λb184 w185=>Z w185/\um 59 1 8 w185 v180 (.slice (some ⟨b184,0,none⟩) 1 1) λv191 w192=>Z w192/\oneV v191=true/\pb w192 H 4 v191 λw194=>cW (G+1)/\I169 (G+1) w194/\m170 (G+1) w194< m170 G J) (fW J b6 1 λv195=>jF J (.cells #[(.pointer (some ⟨H,0,none⟩))] 130) λb196 w197=>um 130 1 8 w197 v195 (.slice (some ⟨b196,0,none⟩) 1 1) λv203 w204=>oneV v203=true/\pb w204 b6 1 v203 λw206=>cW (γ+1)/\I56 (γ+1) w206/\m57 (γ+1) w206< m57 γ μ)) (R ((.pointer (some ⟨b6,0,none⟩))) μ))):
  Qy 154 #[m1,l2,t3] w (ax [.v] R):=
 Lf (aZ [(3,[(23,.i)]),(10,[(50,.i)]),(24,[(132,.i)])] [(21,[]),(23,[])] [(5,true,.lt 0 (.lt 1 (.lt 2 (.one .g 3 (.one .n 4 .done))))),(6,true,.lt 0 (.lt 1 (.lt 2 (.lt 3 (.lt 4 (.lt 5 (.lt 6 (.one .g 7 (.one .g 8 (.one .g 9 (.lt 10 (.lt 11 (.one .n 12 .done))))))))))))),(16,true,.lt 0 (.lt 1 (.lt 2 (.lt 3 (.lt 4 (.lt 5 (.one .g 6 (.one .n 7 .done)))))))),(17,true,.lt 0 (.lt 1 (.lt 2 (.lt 3 (.lt 4 (.lt 5 (.one .n 6 (.lt 7 (.lt 8 (.one .n 9 .done)))))))))),(20,true,.lt 0 (.lt 1 (.lt 2 (.lt 3 (.lt 4 (.lt 5 (.lt 6 (.lt 8 (.lt 9 (.lt 10 (.lt 11 (.lt 12 (.one .g 7 (.one .g 13 (.lt 14 (.lt 15 (.one .n 16 (.lt 17 (.lt 18 (.one .n 19 .done)))))))))))))))))))),(22,true,.lt 0 (.lt 1 (.lt 2 (.lt 3 (.lt 4 (.lt 5 (.lt 6 (.one .n 7 (.lt 8 (.lt 9 (.one .n 10 .done))))))))))),(26,true,.lt 0 (.lt 1 (.lt 2 (.lt 3 (.lt 4 (.lt 5 (.lt 6 (.lt 7 (.one .g 8 (.one .g 9 (.one .g 10 (.lt 11 (.lt 12 (.one .n 13 .done))))))))))))))]) [.tmp 6 .v] [.v m1,.v l2,.v t3] Tryz.func154 (by kernel_rfl) h
attribute [go_sem] Tryz.f115
def iV (s1:Value)(G:Value)(H:Int)(w:World)(R:Value->Qx)(h:vc az (aZ [] [] [(1,true,.lt 0 (.lt 1 (.lt 2 (.lt 3 (.lt 4 (.lt 6 (.lt 7 (.lt 8 (.one .g 5 (.one .g 9 (.lt 10 (.one .g 11 (.lt 12 .done)))))))))))))]) (ab Tryz.f115) (ai 0 [.v s1,.v G,.i H]) w (fin az [.tmp 6 .v] R)):
  Qy 115 #[s1,G,(.int .i64 H)] w (ax [.v] R):=
 a7 Tryz.func115 (by kernel_rfl) h
attribute [go_sem] Tryz.f51
def FX {j:Nat}(G:j< 26):(List.replicate 26 (iv 0))[j]?=some (iv 0):=by rw [List.getElem?_replicate,NO G]
def Jy {j:Nat}(G:j< 26):(List.replicate 26 (iv 0)).toArray[j]?=some (iv 0):=by rw [PW];exact FX G
def qv {w:World}{R:Value->Qx}(hR:∀w' cs,Ex w w'->Jd cs e0->R (.agg cs.toArray) w'):Qy 105 #[] w (ax [.v] R):=by
 refine nZ w R ?_;dsimp only [go_sem];dsimp only [go_sem,Nat.reduceAdd];intro b1 w2 δ J b3 w4 ε Z;have x2:Ex w w2:=J▸Ex.alloc w _;have x4:Ex w2 w4:=Z▸Ex.alloc w2 _;have s2:w2.heap.size=w.heap.size+1:=by rw [J,size_alloc]
 have s4:w4.heap.size=w2.heap.size+1:=by rw [Z,size_alloc]
 have c3:∀j,j< 26->w4.cell? ⟨b3,0+j,none⟩=some (iv 0):=λj G=>by
  rw [Z,ε];refine aa ?_;rw [NJ];exact Jy G
 have c1:∀j,j< 26->w4.cell? ⟨b1,0+j,none⟩=some (iv 0):=λj G=>by
  rw [x4.cell (show b1< _ by omega),J,δ];refine aa ?_;rw [NJ];exact Jy G
 have f3:∀j,w4.frozen? ⟨b3,j,none⟩=false:=λj=>by rw [Z,ε];exact aW _ _ _ _
 have f1:∀j,w4.frozen? ⟨b1,j,none⟩=false:=λj=>by rw [Pb x4 (show b1< _ by omega),J,δ];exact aW _ _ _ _
 refine⟨⟨rfl,rfl,λj G=>⟨⟨_,c3 j G⟩,f3 _⟩⟩,λw5 μ=>?_⟩;obtain⟨k5,γ,_,ζ⟩:=bk (b:=b3) _ w4 0;rw [<-μ]at k5 γ ζ;have η:∀j,j< 26->w5.cell? ⟨b3,0+j,none⟩=some (iv 0):=λj G=>by
  rw [ζ j (λi hi=>⟨_,c3 i hi⟩) G];exact FX G
 have x5:Ex w w5:=Ex.below (Ex.trans x2 x4) (Kp.below k5 (Ex.trans x2 x4).size λg hg e=>by omega);have s5:=k5.size;have d1:∀j,j< 26->w5.cell? ⟨b1,0+j,none⟩=some (iv 0):=λj G=>by rw [M5 (w:=w4) (k5.block b1 (by omega) (by omega))];exact c1 j G
 refine⟨λx w'=>∃i:Nat,x=i/\i<=26/\Ex w w'/\b3< w'.heap.size/\(∀j,j< 26->w'.cell? ⟨b1,0+j,none⟩=some (iv 0))/\(∀j,w'.frozen? ⟨b1,j,none⟩=false)/\(∀j,w'.frozen? ⟨b3,j,none⟩=false)/\∀j,j< 26->w'.cell? ⟨b3,0+j,none⟩=some (iv (if j< i then j else 0)),
  λx _=>(26 - x).toNat,⟨0,rfl,by omega,x5,by omega,d1,λj=>by rw [γ];exact f1 j,λj=>by rw [γ];exact f3 j,λj G=>by rw [Nt (by omega)];exact η j G⟩,λx w9 hI=>?_⟩
 obtain⟨i,rfl,hi,x9,l9,e1,g1,g3,e3⟩:=hI;refine⟨λν=>?_,λξ=>?_⟩
 ·have ο:i< 26:=by simp only [Nj]at ν;omega
  rw [Nf,NQ];refine⟨⟨by omega,by omega⟩,⟨⟨_,e3 i ο⟩,g3 _⟩,λφ H=>⟨by omega,⟨i+1,by omega,by omega,?_,?_,λj G=>?_,λj=>?_,λj=>?_,λj G=>?_⟩,by show((26:Int) - ((i:Int)+1)).toNat< ((26:Int) - i).toNat;omega⟩⟩
  ·exact H▸Ex.own x9 (by omega) _
  ·rw [H,NV];exact l9
  ·rw [H,Na _ _ _ _ (λe=>by injection e with e1 e2;omega)];exact e1 j G
  ·rw [H,Nv];exact g1 j
  ·rw [H,Nv];exact g3 j
  ·by_cases ς:j=i
   ·subst ς;rw [H,NO (by omega)];exact Ns _ _ _ (e3 j G)
   ·rw [H,Na _ _ _ _ (λe=>by injection e with e1 e2;omega),e3 j G]
    congr 2
    split<;>split<;>omega
 ·have:i=26:=by simp only [No]at ξ;omega
  subst this;have θ:∀j,j< 26->((List.range 26).map iv)[j]?=some (iv j):=λj G=>by simp [G]
  refine⟨(List.range 26).map iv,rfl,λj G=>by rw [e3 j G,θ j G,NO G],⟨rfl,rfl,λj G=>⟨⟨_,e1 j G⟩,g1 _⟩⟩,λυ ι=>?_⟩;obtain⟨κ,_,_,β⟩:=bk (b:=b1) ((List.range 26).map iv) w9 0;rw [<-ι]at κ β;refine⟨(List.range 26).map iv,rfl,λj G=>β j (λi hi=>⟨_,e1 i (by simpa using hi)⟩) (by simpa using G),hR υ _ ?_ ⟨rfl,λc hc=>?_⟩⟩
  ·exact Ex.below x9 (Kp.below κ x9.size λg hg e=>by omega)
  ·have :=bg hc;exact θ _ (by omega)
def Im {t:P}(h:Lt t):Nu (num t e0 0).1:=by
 obtain⟨_,G,H,h4⟩:=rr (p:=t) λc J=>T.Al.free h c J
 exact⟨G,λy Z=>H y (T.bw Z),h4⟩
def bX:∀u:U,(flat u).1.length+(flat u).2.tot<=4* u.size
 | .nil=>by simp [flat,Lv.tot]
 | .snd a b p=>by have :=bX p;simp only [flat,Lv.tot,T.size,Np];omega
 | .rcv a b p=>by have :=bX p;simp only [flat,Lv.tot,T.size,Np];omega
 | .tau p=>by have :=bX p;simp only [flat,Lv.tot,T.size,Np];omega
 | .mat a b p=>by have :=bX p;simp only [flat,Lv.tot,T.size,Np];omega
 | .rep p=>by have :=bX p;simp only [flat,Lv.tot,T.size,Np];omega
 | .res x p=>by have :=bX p;simp only [flat,T.size,M0];omega
 | .par p q=>by have :=bX p;have :=bX q;simp only [flat,Lv.bM,T.size,Nb];omega
 | .sum p q=>by have :=bX p;have :=bX q;simp only [flat,Lv.tot,T.size,Np];omega
def JC {u:U}(h:Nu u):∀x,x∉(td u).1->(td u).2.fh x->x< 26:=λx h1 G=>h.fr x (Gl _ u (Nc _) h.uq x G h1)
def yF {D:Nat->Prop}{w:World}{t:P}{v:Value}(h:aI D w t v)(hD:∀g,D g->g< w.heap.size)(hl:Lt t)(hs:t.size<=1000000){R:aJ->Bool->Qx}
  (hR:∀w',Ex w w'->(∀s,je (num t e0 0).1=some s->R s true w')/\(je (num t e0 0).1=none->R [] false w')):Qy 62 #[v] w (ax [.s,.b] R):=by
 refine mz v w R ?_;dsimp only [go_sem];intro b2 Z J G;have x3:Ex w Z:=G▸Ex.alloc w _;have s3:Z.heap.size=w.heap.size+1:=by rw [G,size_alloc]
 refine qv λw5 cs x5 β=>?_
 have H:Ex w w5:=Ex.trans x3 x5;have mk:Mk Z b2 0:=⟨by omega,by rw [G,J];exact aa rfl,by rw [G,J];exact aW _ _ _ _⟩
 have γ:aI D w5 t v:=aI.kp (Kp.ah H λ _=>False) (λ _ _ h=>h) h;refine Jw t γ (λg hg e=>by have :=hD g hg;omega) (mk.ex x5) β hl (by omega) λv' w7 k7 _ h7=>?_
 have nu:=Im hl;have ζ:=(bI t e0 0).1;have η:=bX (num t e0 0).1;have e:Lv.tidy (flat (num t e0 0).1).1 (flat (num t e0 0).1).2=td (num t e0 0).1:=rfl;refine vE h7 (cx _) (by omega) (by rw [e];exact Ca nu.uq nu.bv) (by rw [e];exact JC nu) λδ ε=>?_
 have x7:Ex w w7:=Ex.below H (Kp.below k7.kp H.size λg hg e=>by omega);rw [e];exact hR δ (Ex.trans x7 ε)
structure LC (w:World)(D:Nat->Prop)(b:Nat)(n:Nat)(s:Tx)(L:List Nat×Lv):Prop where
 mc:Mk w b n
 tx:w.cell? ⟨b,1,none⟩=some (.string (ay s))
 l:∃v,w.cell? ⟨b,2,none⟩=some v/\aH D w L v
def Ko {t:P}{w:World}(hl:Lt t)(hs:t.size<=1000000)(hlen:t.text.length<=1099511627776){R:Value->Qx}
  (hR:∀b w',Ex w w'->w.heap.size<=b->LC w' (λg=>w.heap.size<=g/\g≠b/\g< w'.heap.size) b (num t e0 0).2 t.text (td (num t e0 0).1)->R (ptr b) w'):Qy 55 #[.string (ay t.text)] w (ax [.v] R):=by
 refine xh t.text w R ?_;dsimp only [go_sem];dsimp only [go_sem,Nat.reduceAdd];refine Cw hlen λv2 q w4 x4 χ ψ=>?_
 have hq:q=true:=by
  cases q
  ·exact absurd rfl (ψ rfl t hl)
  ·rfl
 obtain⟨t',ω,et,ht'⟩:=χ hq;have:t'=t:=fp (T.Al.wf ω) (T.Al.wf hl) et.symm;subst this;intro b5 w6 γ Z;have x6:Ex w4 w6:=Z▸Ex.alloc w4 _;have s6:w6.heap.size=w4.heap.size+1:=by rw [Z,size_alloc]
 refine⟨λw'=>Ex w6 w',λw8 κ=>⟨κ▸Ex.drew w6,?_⟩⟩;have x8:Ex w6 w8:=κ▸Ex.drew w6;have s4:=x4.size;have s8:=x8.size;have mk6:Mk w6 b5 0:=⟨by omega,by rw [Z,γ];exact aa rfl,by rw [Z,γ];exact aW _ _ _ _⟩
 have t6:w6.cell? ⟨b5,1,none⟩=some (.string (ay t'.text)):=by rw [Z,γ];exact aa rfl
 have l6:w6.cell? ⟨b5,2,none⟩=some (.pointer none):=by rw [Z,γ];exact aa rfl
 have f6:∀j,w6.frozen? ⟨b5,j,none⟩=false:=λj=>by rw [Z,γ];exact aW _ _ _ _
 refine qv λw10 cs μ hcs=>?_
 have G:=Ex.trans x8 μ;have ν:aI (λg=>Cv w g/\g< w4.heap.size) w10 t' v2:=aI.kp (Kp.ah (Ex.trans x6 G) λ _=>False) (λ _ _ h=>h) ht'.bound;refine Jw t' ν (λg hg e=>by omega) (mk6.ex G) hcs hl (by omega) λv11 ε δ ζ h12=>?_
 have hsz:=(bI t' e0 0).1;have htt:=bX (num t' e0 0).1;refine EX _ (Nc _) (cx _) h12 (by omega) λv13 β H ξ=>⟨ξ.one,?_⟩
 have x14':Ex ε β:=H;have s12:=δ.size;have s10:=μ.size;have η:b5< ε.heap.size:=ζ.lt;have f14:∀j,β.frozen? ⟨b5,j,none⟩=false:=λj=>by rw [Pb H η,δ.fz,Pb G (show b5< _ by omega)];exact f6 j
 have t14:β.cell? ⟨b5,1,none⟩=some (.string (ay t'.text)):=by rw [H.cell (show b5< _ from η),δ.ce 1 (by omega),G.cell (show b5< _ by omega)];exact t6
 have ο:β.cell? ⟨b5,2,none⟩=some (.pointer none):=by rw [H.cell (show b5< _ from η),δ.ce 2 (by omega),G.cell (show b5< _ by omega)];exact l6
 have ς:=ζ.ex H;refine⟨⟨⟨_,ο⟩,f14 2⟩,λθ J=>?_⟩;have ι:Kr b5 β θ:=J▸Kr.set _ _ _;have υ:θ.cell? ⟨b5,0,none⟩=some (iv (num t' e0 0).2):=by rw [J,Na _ _ _ _ (λe=>by injection e with e1 e2;omega)];exact ς.c
 have φ:Ex w ε:=Ex.below (Ex.trans x4 (Ex.trans x6 G)) (Kp.below δ.kp (Ex.trans x4 (Ex.trans x6 G)).size λg hg e=>by omega);have s14:=H.size;have s16:=ι.size;refine hR b5 θ (Ex.below (Ex.trans φ H) (Kp.below ι (Ex.trans φ H).size λg hg e=>by omega)) (by omega) ⟨⟨by omega,υ,by rw [J,Nv];exact f14 0⟩,?_,v13,?_,?_⟩
 ·rw [J,Na _ _ _ _ (λe=>by injection e with e1 e2;omega)];exact t14
 ·rw [J];exact Ns _ _ _ ο
 ·exact aH.sub (aH.kp (aH.sub (E:=λg=>ε.heap.size<=g/\g< β.heap.size) ξ λg hg hd=>⟨hd,hg⟩) ι λg hg e=>by omega) λg hg hd=>⟨by omega,by omega,by omega⟩
section
open T
def BU {u G:U}(h:Nu u)(h':Nu G)(ae:AE σ0 u σ0 G):je u=je G:=by
 have hi:∀y z:Nat,σ0 y=σ0 z->y=z:=λy z e=>by unfold σ0 at e;omega
 have H:∀y,u.Us y↔G.Us y:=λy=>by
  constructor
  ·intro J;obtain⟨z,Z,e⟩:=ae.used (λy z _ _ e=>hi y z e) (λy z _ _ e=>hi y z e) y J;rw [<-hi z y e];exact Z
  ·intro J;obtain⟨z,Z,e⟩:=ae.symm.used (λy z _ _ e=>hi y z e) (λy z _ _ e=>hi y z e) y J;rw [<-hi z y e];exact Z
 have β:kR (td u).2=kR (td G).2:=by
  funext c
  rw [N',p8 h,p8 h',H]
 have key:=λtk=>Jq (ρ:=ρ0) (ρ':=ρ0) ae h.uq h'.uq (λy z _ _ e=>hi y z e) (λy z _ _ e=>hi y z e) (λy y' _ _ e=>by rw [hi y y' e]) tk
 obtain⟨_,k2,k3,k4⟩:=key (kR (td u).2);rw [gP,gP,<-β,(key (kR (td u).2)).1,k2,k3,k4]
structure qu (t:P):Prop where
 al:t.Al λc=>lt c=true
 nr:t.Nr
 smp:t.smp=true
 len:t.text.length<=300
 size:t.size<=60
 most:aY (num t e0 0).1<=5
 all:ck (num t e0 0).1<=8
 nf:je (num t e0 0).1=some t.text
def HT {t:P}(h:t.Al λc=>lt c=true):∀y,(num t e0 0).1.Fr y->y< 26:=(rr (p:=t) λc G=>T.Al.free h c G).2.2.1
def kv {t:P}(h:t.Al λc=>lt c=true):AE UInt8.toNat t σ0 (num t e0 0).1:=(rr (p:=t) λc G=>T.Al.free h c G).1
def kP {t:P}(h:t.Al λc=>lt c=true):Nu (num t e0 0).1:=by
 obtain⟨_,G,H,h4⟩:=rr (p:=t) λc J=>T.Al.free h c J
 exact⟨G,λy Z=>H y (T.bw Z),h4⟩
def JO.MJ {u:U}{s:Tx}{t:P}{v:U}(h:Nu u)(n:JO u s t v)(hs:u.smp=true):qu t:=by
 have G:Nu v:=⟨n.arr.uq,λy hy=>h.fr y ((n.arr.us y).1 hy),λx hx=>h.bv x (n.arr.bv x hx)⟩
 have hv:∀y,v.Fr y->(ρ0 y).toNat=σ0 y:=λy hy=>dt (G.fr y (n.arr.nr.gW hy))
 have ae:AE UInt8.toNat t σ0 v:=n.ae.congr (λ _ _=>rfl) hv;have H:=kP n.al;have J:AE σ0 v σ0 (num t e0 0).1:=ae.symm.trans (kv n.al);have Z:∀p:U,ef σ0 p:=λp y z _ _ e=>by unfold σ0 at e;omega
 have β:kR (td v).2=kR (td u).2:=by
  funext c
  rw [N',p8 G,p8 h,n.arr.us]
 have hi:∀y z:Nat,σ0 y=σ0 z->y=z:=λy z e=>by unfold σ0 at e;omega
 obtain⟨_,k2,k3,k4⟩:=Jq (ρ:=ρ0) (ρ':=ρ0) J G.uq H.uq (λy z _ _ e=>hi y z e) (λy z _ _ e=>hi y z e) (λy y' _ _ e=>by rw [hi y y' e]) (kR (td v).2);refine⟨n.al,AE.nr ae.symm (Z v) (dZ t) n.arr.nr,by rw [yf ae];exact n.arr.smp hs,by rw [n.text];exact n.len,n.size,by rw [<-k4,n.arr.most];exact n.most,by rw [<-k3,n.arr.all];exact n.all,?_⟩;have e1:LS v ρ0 (kR (td v).2)=s:=by rw [β,n.arr.ls];exact n.ls.symm
 have hg:cV s:=⟨n.len,t,n.al,n.text,n.size⟩
 rw [<-BU G H J,gP,e1,NO ⟨⟨by rw [n.arr.most];exact n.most,by rw [n.arr.all];exact n.all⟩,by rw [β,n.arr.bad];exact n.bad,hg⟩,n.text]
section
variable {A B:Type} [DecidableEq A] [DecidableEq B]
inductive Off (A:Type) where
 | tau (p:T A)
 | snd (a b:A) (p:T A)
 | rcv (a x:A) (q:T A) (again:Bool)
def Off.stay:Off A->Off A
 | .rcv a x q _=> .rcv a x q true
 | o=>o
def offs:T A->List (Off A)
 | .tau p=>[.tau p]
 | .snd a b p=>[.snd a b p]
 | .rcv a x p=>[.rcv a x p false]
 | .sum p q=>offs p++offs q
 | .rep p=>(offs p).map Off.stay
 | _=>[]
def wo {X:Type}(l:List X)(i j:Nat):List X:=(l.zipIdx.filter λz=> !(z.2==i)&& !(z.2==j)).map (·.1)
def EN (ρ:A->Nat)(σ:B->Nat):Off A->Off B->Prop
 | .tau p,.tau q=>AE ρ p σ q
 | .snd a b p,.snd c d q=>ρ a=σ c/\ρ b=σ d/\AE ρ p σ q
 | .rcv a x p s,.rcv c y q G=>ρ a=σ c/\(∀v,AE (aF ρ x v) p (aF σ y v) q)/\s=G
 | _,_=>False
inductive gd {X Y:Type} (R:X->Y->Prop):List X->List Y->Prop
 | nil:gd R [] []
 | cons {x y l m}:R x y->gd R l m->gd R (x::l) (y::m)
def gd.app {X Y:Type}{R:X->Y->Prop}{l l':List X}{m m':List Y}(h:gd R l m)(k:gd R l' m'):gd R (l++l') (m++m'):=by
 induction h with
 | nil=>exact k
 | cons h _ G=>exact .cons h G
def gd.map {X Y G H:Type}{R:X->Y->Prop}{S:G->H->Prop}{f:X->G}{g:Y->H}(J:∀x y,R x y->S (f x) (g y)){l:List X}{m:List Y}(h:gd R l m):gd S (l.map f) (m.map g):=by
 induction h with
 | nil=>exact .nil
 | cons h _ Z=>exact .cons (J _ _ h) Z
def gd.len {X Y:Type}{R:X->Y->Prop}{l:List X}{m:List Y}(h:gd R l m):l.length=m.length:=by
 induction h with
 | nil=>rfl
 | cons _ _ G=>simp [G]
def gd.get {X Y:Type}{R:X->Y->Prop}{l:List X}{m:List Y}(h:gd R l m):∀{i:Nat} (hi:i< l.length) (G:i< m.length),R l[i] m[i]:=by
 induction h with
 | nil=>intro i hi;cases hi
 | cons h _ H=>
  intro i hi G;cases i with
  | zero=>exact h
  | succ i=>simpa using H (by simpa using hi) (by simpa using G)
def gd.wo {X Y:Type}{R:X->Y->Prop}{l:List X}{m:List Y}(h:gd R l m)(i j:Nat):gd R (wo l i j) (wo m i j):=by
 unfold Go.Proofs.YthekamjhgabkjaaGreat.wo;have:∀k,gd R ((l.zipIdx k).filter (λz=> !(z.2==i)&& !(z.2==j)) |>.map (·.1)) ((m.zipIdx k).filter (λz=> !(z.2==i)&& !(z.2==j)) |>.map (·.1)):=by
  induction h with
  | nil=>intro k;exact .nil
  | cons h _ G=>
   intro k;simp only [List.zipIdx_cons,List.filter_cons];split
   ·simp only [NI];exact .cons h (G _)
   ·exact G _
 exact this 0
def HH:∀{p:T A} {q:T B} {ρ:A->Nat} {σ:B->Nat},AE ρ p σ q->gd (EN ρ σ) (offs p) (offs q):=by
 intro p
 induction p with
 | nil=>intro q ρ σ h;cases q<;>first | exact .nil | cases h
 | par p Z=>intro q ρ σ h;cases q<;>first | exact .nil | cases h
 | res x p=>intro q ρ σ h;cases q<;>first | exact .nil | cases h
 | mat a b p=>intro q ρ σ h;cases q<;>first | exact .nil | cases h
 | tau p=>intro q ρ σ h;cases q<;>first | exact .cons h .nil | cases h
 | snd a b p=>intro q ρ σ h;cases q<;>first | exact .cons h .nil | cases h
 | rcv a b p=>intro q ρ σ h;cases q<;>first | exact .cons ⟨h.1,h.2,rfl⟩ .nil | cases h
 | sum p Z H J=>
  intro q ρ σ h;cases q<;>first | exact(H h.1).app (J h.2) | cases h
 | rep p H=>
  intro q ρ σ h;cases q<;>try cases h
  refine(H h).map λx y G=>?_
  cases x<;>cases y<;>first | exact G | (exact⟨G.1,G.2.1,rfl⟩) | cases G
end
def AE.open:∀{t:P} {u:U} {ρ:Rh},AE UInt8.toNat t (λz=>(ρ z).toNat) u->t.Nr->t.frL.length=u.frL.length/\gd (λp q=>AE UInt8.toNat p (λz=>(asg u.frL t.frL ρ z).toNat) q) t.ths u.ths:=by
 intro t
 induction t with
 | nil=>intro u ρ h n;cases u<;>first | exact⟨rfl,.nil⟩ | cases h
 | snd a b p=>intro u ρ h n;cases u<;>first | exact⟨rfl,.cons h .nil⟩ | cases h
 | rcv a b p=>intro u ρ h n;cases u<;>first | exact⟨rfl,.cons h .nil⟩ | cases h
 | tau p=>intro u ρ h n;cases u<;>first | exact⟨rfl,.cons h .nil⟩ | cases h
 | sum p q=>intro u ρ h n;cases u<;>first | exact⟨rfl,.cons h .nil⟩ | cases h
 | mat a b p=>intro u ρ h n;cases u<;>first | exact⟨rfl,.cons h .nil⟩ | cases h
 | rep p=>intro u ρ h n;cases u<;>first | exact⟨rfl,.cons h .nil⟩ | cases h
 | par p q ih J=>
  intro u ρ h n;cases u<;>try cases h
  rename_i p' q' h1 h2;have h0:q.frL=[]:=by
   rcases n.1.2 with h | h
   ·exact ia h
   ·cases q<;>first | rfl | (cases h;done)
  obtain⟨G,H⟩:=J h2 n.2.2;have Z:q'.frL=[]:=by rw [h0]at G;exact NF G.symm
  rw [h0,Z]at H;exact⟨rfl,.cons h1 H⟩
 | res x p ih=>
  intro u ρ h n;cases u<;>try cases h
  rename_i y q;have h1:=h x.toNat;have e1:aF UInt8.toNat x x.toNat=UInt8.toNat:=by funext c;unfold aF;split<;>simp_all
  have e2:aF (λz=>(ρ z).toNat) y x.toNat=λz=>(aF ρ y x z).toNat:=by funext z;unfold aF;split<;>rfl
  rw [e1,e2]at h1;obtain⟨G,H⟩:=ih h1 n.2;exact⟨by simp [frL,G],H⟩
def AE.tD {D:Nat->Prop}{f:Nat->Nat}:∀{q:U} {σ τ:Nat->Nat},(∀z,q.Fr z->D z/\σ z=τ (f z))->(∀x∈BV q,D x/\∀z,D z->z≠x->f z≠f x)->AE σ q τ (q.map f)
 | .nil,_,_,_,_=>trivial
 | .snd a b p,σ,τ,h,k=>⟨(h a (.inl rfl)).2,(h b (.inr (.inl rfl))).2,AE.tD (λz G=>h z (.inr (.inr G))) k⟩
 | .mat a b p,σ,τ,h,k=>⟨(h a (.inl rfl)).2,(h b (.inr (.inl rfl))).2,AE.tD (λz G=>h z (.inr (.inr G))) k⟩
 | .tau p,σ,τ,h,k=>AE.tD (q:=p) h k
 | .rep p,σ,τ,h,k=>AE.tD (q:=p) h k
 | .sum p q,σ,τ,h,k=>⟨AE.tD (λz G=>h z (.inl G)) λx J=>k x (NS _ J),AE.tD (λz G=>h z (.inr G)) λx J=>k x (NG _ J)⟩
 | .par p q,σ,τ,h,k=>⟨AE.tD (λz G=>h z (.inl G)) λx J=>k x (NS _ J),AE.tD (λz G=>h z (.inr G)) λx J=>k x (NG _ J)⟩
 | .rcv a x p,σ,τ,h,k=>by
  have Z:=k x (NP ..);refine⟨(h a (.inl rfl)).2,λv=>AE.tD (D:=D) (λz G=>?_) λy hy=>k y (Nh _ hy)⟩;by_cases e:z=x
  ·subst e;exact⟨Z.1,by simp [aF]⟩
  ·have H:=h z (.inr ⟨e,G⟩);have :=Z.2 z H.1 e;refine⟨H.1,?_⟩;simp only [aF,Nt e,Nt this];exact H.2
 | .res x p,σ,τ,h,k=>by
  have Z:=k x (NP ..);refine λv=>AE.tD (D:=D) (λz G=>?_) λy hy=>k y (Nh _ hy)
  by_cases e:z=x
  ·subst e;exact⟨Z.1,by simp [aF]⟩
  ·have H:=h z ⟨e,G⟩;have :=Z.2 z H.1 e;refine⟨H.1,?_⟩;simp only [aF,Nt e,Nt this];exact H.2
def dH (f:Nat->Nat):∀u:U,BV (u.map f)=(BV u).map f
 | .nil=>rfl
 | .snd a b p=>dH f p
 | .mat a b p=>dH f p
 | .tau p=>dH f p
 | .rep p=>dH f p
 | .rcv a x p=>by simp only [T.map,BV,dH f p,NI]
 | .res x p=>by simp only [T.map,BV,dH f p,NI]
 | .sum p q=>by simp only [T.map,BV,dH f p,dH f q,N0]
 | .par p q=>by simp only [T.map,BV,dH f p,dH f q,N0]
def Off.tm {A:Type}:Off A->T A
 | .tau p=> .tau p
 | .snd a b p=> .snd a b p
 | .rcv a x q _=> .rcv a x q
structure Sub {A:Type}(s t:T A):Prop where
 smp:t.smp=true->s.smp=true
 nr:t.Nr->s.Nr
 fr:∀z,s.Fr z->t.Fr z
 rd:s.rd<=t.rd
 ow:s.ow<=t.ow
 size:s.size<=t.size
 al:∀D:A->Prop,t.Al D->s.Al D
def Sub.refl {A:Type}(t:T A):Sub t t:=⟨id,id,λ _=>id,Nc _,Nc _,Nc _,λ _=>id⟩
def gB {A:Type}:∀{t:T A},t.smp=true->∀o∈offs t,Sub o.tm t/\(∀a x q,o= .rcv a x q true->t= .rep (.rcv a x q)):=by
 intro t
 induction t with
 | nil=>intro _ o h;cases h
 | par p q=>intro _ o h;cases h
 | res x p=>intro _ o h;cases h
 | mat a b p=>intro _ o h;cases h
 | tau p=>intro _ o h;rw [offs,ND]at h;subst h;exact⟨Sub.refl _,λ _ _ _ h=>by cases h⟩
 | snd a b p=>intro _ o h;rw [offs,ND]at h;subst h;exact⟨Sub.refl _,λ _ _ _ h=>by cases h⟩
 | rcv a b p=>intro _ o h;rw [offs,ND]at h;subst h;exact⟨Sub.refl _,λ _ _ _ h=>by cases h⟩
 | sum p q ih β=>
  intro G o h;simp only [smp,M8]at G;rw [offs,Nk]at h;rcases h with h | h
  ·obtain⟨k,kr⟩:=ih G.2.1 o h;refine⟨⟨λ _=>k.smp G.2.1,λn=>k.nr n.2.1,λz H=> .inl (k.fr z H),N8 k.rd (Nat.le_max_left _ _),by have :=k.ow;simp only [ow];omega,by have :=k.size;simp only [size];omega,λD J=>k.al D J.1⟩,λa x Z e=>?_⟩;have e2:=kr a x Z e;rw [e2]at G;simp [gp]at G
  ·obtain⟨k,kr⟩:=β G.2.2 o h;refine⟨⟨λ _=>k.smp G.2.2,λn=>k.nr n.2.2,λz H=> .inr (k.fr z H),N8 k.rd (Nat.le_max_right _ _),by have :=k.ow;simp only [ow];omega,by have :=k.size;simp only [size];omega,λD J=>k.al D J.2⟩,λa x Z e=>?_⟩;have e2:=kr a x Z e;rw [e2]at G;simp [gp]at G
 | rep p ih=>
  intro G o h;simp only [smp,M8]at G;cases p<;>try (simp [isR]at G)
  rename_i a x q;simp only [offs,NI,PG,ND,Off.stay]at h;subst h;refine⟨⟨λh=>?_,λn=>n.2,λz H=>H,Nc _,Nc _,by simp only [Off.tm,size];omega,λD J=>J⟩,λa' x' Z e=>?_⟩
  ·simp only [smp,M8]at h;exact h.2
  ·cases e;rfl
def C8:∀{t:U},∀o∈offs t,(BV o.tm).Sublist (BV t):=by
 intro t
 induction t with
 | nil=>intro o h;cases h
 | par p q=>intro o h;cases h
 | res x p=>intro o h;cases h
 | mat a b p=>intro o h;cases h
 | tau p=>intro o h;rw [offs,ND]at h;subst h;exact Oc _
 | snd a b p=>intro o h;rw [offs,ND]at h;subst h;exact Oc _
 | rcv a b p=>intro o h;rw [offs,ND]at h;subst h;exact Oc _
 | sum p q G H=>
  intro o h;rw [offs,Nk]at h;rcases h with h | h
  ·exact(G o h).trans (O5 _ _)
  ·exact(H o h).trans (OJ _ _)
 | rep p G=>
  intro o h;obtain⟨J,h1,rfl⟩:=NT.1 h;have :=G J h1;cases J<;>exact this
section
variable {X:Type}
def jJ (P:Nat->Bool)(l:List X)(k:Nat):List X:=((l.zipIdx k).filter λz=> !P z.2).map (·.1)
def gX (P:Nat->Bool)(k:Nat):jJ P ([]:List X) k=[]:=rfl
def bT (P:Nat->Bool)(x:X)(l:List X)(k:Nat):jJ P (x::l) k=if P k then jJ P l (k+1)else x::jJ P l (k+1):=by
 unfold jJ;simp only [List.zipIdx_cons,List.filter_cons];cases P k<;>simp
def we {P Q:Nat->Bool}:∀{l:List X} {k:Nat},(∀i,k<=i->P i=Q i)->jJ P l k=jJ Q l k
 | [],_,_=>rfl
 | x::l,k,h=>by rw [bT,bT,h k (Nc _),we (l:=l) λi hi=>h i (by omega)]
def C3 {P:Nat->Bool}:∀{l:List X} {k:Nat},(∀i,k<=i->P i=false)->jJ P l k=l
 | [],_,_=>rfl
 | x::l,k,h=>by rw [bT,h k (Nc _),C3 (l:=l) λi hi=>h i (by omega)];rfl
def Di:∀(l:List X) (k i:Nat) (h:i< l.length),l.Perm (l[i]::jJ (λn=>n==k+i) l k)
 | [],_,_,h=>by cases h
 | x::l,k,0,h=>by
  rw [bT,NO (by simp),C3 λi hi=>by simp;omega];exact Of _
 | x::l,k,i+1,h=>by
  rw [bT,Nt (by simp)];have :=Di l (k+1) i (by simpa using h);rw [show k+1+i=k+(i+1) by omega]at this;exact(this.cons x).trans (List.Perm.swap _ _ _)
def H4 (l:List X)(i j:Nat):wo l i j=jJ (λn=>n==i||n==j) l 0:=by
 unfold wo jJ
 congr 2
 funext z
 simp
def AT (l:List X)(i:Nat)(h:i< l.length):l.Perm (l[i]::wo l i i):=by
 have :=Di l 0 i h;rw [H4,we (Q:=λn=>n==0+i) λn _=>by simp];exact this
def BC {l:List X}{i j:Nat}{x:X}(h:x∈wo l i j):x∈l:=by
 unfold wo at h;obtain⟨z,G,rfl⟩:=NT.1 h;have :=(List.mem_filter.1 G).1;rw [List.mem_zipIdx_iff_getElem?]at this;exact O6 this
end
structure DS (N:Nat)(q:U)(x b:Nat)(f:Nat->Nat):Prop where
 fx:f x=b
 fo:∀z,z≠x->z∉BV q->f z=z
 fb:∀z∈BV q,N< f z
 fi:∀z∈BV q,∀z'∈BV q,f z=f z'->z=z'
def DS.ae {N:Nat}{q:U}{x b:Nat}{f:Nat->Nat}(h:DS N q x b f)(Z:Uq q)(hx:x∉BV q)(hN:∀z,q.Fr z->z<=N)(hb:b<=N)(β:∀z∈BV q,z<=N)(σ:Nat->Nat):AE (aF σ x (σ b)) q σ (q.map f):=by
 refine AE.tD (D:=λz=>q.Fr z\/z∈BV q) (λz G=>⟨.inl G,?_⟩) λy H=>⟨.inr H,λz G J=>?_⟩
 ·by_cases e:z=x
  ·subst e;rw [h.fx,bS]
  ·rw [bz _ _ e,h.fo z e λhb=>Z.nf z hb G]
 ·have γ:=h.fb y H;rcases G with G | G
  ·by_cases e:z=x
   ·rw [e,h.fx];omega
   ·rw [h.fo z e λhb=>Z.nf z hb G];have :=hN z G;omega
  ·exact λe=>J (h.fi z G y H e)
def DS.fr {N:Nat}{q:U}{x b:Nat}{f:Nat->Nat}(h:DS N q x b f)(hq:Uq q):∀z,(q.map f).Fr z->z=b\/(z≠x/\q.Fr z):=by
 have key:∀(q:U) (z:Nat),(q.map f).Fr z->∃y,q.Fr y/\f y=z:=by
  intro q
  induction q with
  | nil=>intro z h;exact h.elim
  | snd a b p H=>
   intro z h;rcases h with h | h | h
   ·exact⟨a,.inl rfl,h.symm⟩
   ·exact⟨b,.inr (.inl rfl),h.symm⟩
   ·obtain⟨y,h1,G⟩:=H z h;exact⟨y,.inr (.inr h1),G⟩
  | mat a b p H=>
   intro z h;rcases h with h | h | h
   ·exact⟨a,.inl rfl,h.symm⟩
   ·exact⟨b,.inr (.inl rfl),h.symm⟩
   ·obtain⟨y,h1,G⟩:=H z h;exact⟨y,.inr (.inr h1),G⟩
  | rcv a x p H=>
   intro z h;rcases h with h | ⟨h,Z⟩
   ·exact⟨a,.inl rfl,h.symm⟩
   ·obtain⟨y,h1,G⟩:=H z Z;exact⟨y,.inr ⟨λe=>h (by rw [<-G,e]),h1⟩,G⟩
  | res x p H=>
   intro z ⟨h,Z⟩;obtain⟨y,h1,G⟩:=H z Z;exact⟨y,⟨λe=>h (by rw [<-G,e]),h1⟩,G⟩
  | tau p H=>exact H
  | rep p H=>exact H
  | sum p q H J=>
   intro z h;rcases h with h | h
   ·obtain⟨y,h1,G⟩:=H z h;exact⟨y,.inl h1,G⟩
   ·obtain⟨y,h1,G⟩:=J z h;exact⟨y,.inr h1,G⟩
  | par p q H J=>
   intro z h;rcases h with h | h
   ·obtain⟨y,h1,G⟩:=H z h;exact⟨y,.inl h1,G⟩
   ·obtain⟨y,h1,G⟩:=J z h;exact⟨y,.inr h1,G⟩
 intro z hz;obtain⟨y,h1,G⟩:=key q z hz;by_cases e:y=x
 ·left;rw [<-G,e,h.fx]
 ·right;rw [h.fo y e λhb=>hq.nf y hb h1]at G;subst G;exact⟨e,h1⟩
end
def jj (w:World)(r:Nat)(F:Nat->Nat):Prop:=∃mm,IsMap w r (.int .i64) mm/\∀x:Nat,mm (iv x)=some (iv (F x))\/(mm (iv x)=none/\F x=x)
def iq {w w':World}{r:Nat}{d:TypeDesc}{m:Value->Option Value}(h:IsMap w r d m)(e:w'.heap[r]?=w.heap[r]?):IsMap w' r d m:=by
 obtain⟨es,cl,h1,G⟩:=h;exact⟨es,cl,by rw [e];exact h1,G⟩
def iu {w:World}{r:Nat}{d:TypeDesc}{m:Value->Option Value}(h:IsMap w r d m):r< w.heap.size:=by
 obtain⟨es,cl,h1,G⟩:=h;exact(NL.1 h1).1
def jj.lt {w:World}{r:Nat}{F:Nat->Nat}(h:jj w r F):r< w.heap.size:=by
 obtain⟨mm,h1,_⟩:=h;exact iu h1
def jj.kp {w w':World}{r:Nat}{F:Nat->Nat}{S:Nat->Prop}(h:jj w r F)(k:Kp w w' S)(G:¬S r):jj w' r F:=by
 have H:=h.lt;obtain⟨mm,h1,J⟩:=h;exact⟨mm,iq h1 (k.block r H G),J⟩
def r6 {w:World}{r:Nat}{mm:Value->Option Value}{F:Nat->Nat}(G:∀x:Nat,mm (iv x)=some (iv (F x))\/(mm (iv x)=none/\F x=x)){x y:Nat}(h:IsMap w r (.int .i64) (gz mm (iv x) (iv y))):jj w r (aF F x y):=by
 refine⟨_,h,λz=>?_⟩;unfold gz aF;by_cases e:z=x
 ·subst e;left;simp
 ·have:iv z≠iv x:=λH=>e (by injection H with _ J;omega)
  simp only [Nt e,Nt this];exact G z
structure Rn (n n':Nat)(xs:List Nat)(F F':Nat->Nat):Prop where
 le:n<=n'
 len:n'<=n+xs.length
 out:∀x,x∉xs->F' x=F x
 rng:∀x∈xs,n+100< F' x/\F' x<=n'+100
 inj:∀x∈xs,∀y∈xs,F' x=F' y->x=y
def Rn.refl (n:Nat)(F:Nat->Nat):Rn n n [] F F:=⟨Nc _,by simp,λ _ _=>rfl,λ _ h=>(by cases h),λ _ h=>(by cases h)⟩
def Rn.one (n x:Nat)(F:Nat->Nat):Rn n (n+1) [x] F (aF F x (n+101)):=by
 refine⟨by omega,by simp,λy G=>Nt (by simpa using G),λy G=>?_,λy G z H _=>?_⟩
 ·cases ND.1 G;simp only [aF,O9];omega
 ·cases ND.1 G;cases ND.1 H;rfl
def Rn.app {n m p:Nat}{xs ys:List Nat}{F G H:Nat->Nat}(h:Rn n m xs F G)(k:Rn m p ys G H)(hd:∀x∈xs,x∉ys):Rn n p (xs++ys) F H:=by
 have Z:∀x∈xs,H x=G x:=λx Z=>k.out x (hd x Z)
 refine⟨N8 h.le k.le,by have :=h.len;have :=k.len;rw [Nb];omega,λx J=>?_,λx J=>?_,λx J y β e=>?_⟩
 ·rw [Nk,Qt]at J;rw [k.out x J.2,h.out x J.1]
 ·have :=h.le;have :=k.le;rcases Nk.1 J with h1 | h1
  ·rw [Z x h1];have :=h.rng x h1;omega
  ·have :=k.rng x h1;omega
 ·rcases Nk.1 J with h1 | h1<;>rcases Nk.1 β with h2 | h2
  ·rw [Z x h1,Z y h2]at e;exact h.inj x h1 y h2 e
  ·rw [Z x h1]at e;have :=h.rng x h1;have :=k.rng y h2;omega
  ·rw [Z y h2]at e;have :=h.rng y h2;have :=k.rng x h1;omega
  ·exact k.inj x h1 y h2 e
structure Kq (m r:Nat)(w w':World):Prop where
 kp:Kp w w' λg=>g=m\/g=r
 ce:∀j,j≠0->w'.cell? ⟨m,j,none⟩=w.cell? ⟨m,j,none⟩
 fz:∀j,w'.frozen? ⟨m,j,none⟩=w.frozen? ⟨m,j,none⟩
section
variable {m r:Nat} {w w0 w' w'':World}
def Kq.size (h:Kq m r w w'):w.heap.size<=w'.heap.size:=h.kp.size
def Kq.trans (h:Kq m r w w')(k:Kq m r w' w''):Kq m r w w'':=⟨Kp.trans h.kp k.kp λ _ _ h=>h,λj G=>(k.ce j G).trans (h.ce j G),λj=>(k.fz j).trans (h.fz j)⟩
def Kq.refl (m r:Nat)(w:World):Kq m r w w:=⟨Kp.ah (Ex.refl w) _,λ _ _=>rfl,λ _=>rfl⟩
def Kq.out {S:Nat->Prop}(h:Kq m r w0 w)(k:Kp w w' S)(H:∀g,g< w0.heap.size->S g->g=r/\g≠m)(hm:m< w0.heap.size):Kq m r w0 w':=by
 have e:=k.block m (Nz hm h.kp.size) λG=>(H m hm G).2 rfl
 exact⟨Kp.trans h.kp k λg J G=> .inr (H g J G).1,λj Z=>by rw [M5 (w:=w) e];exact h.ce j Z,λj=>by rw [NH (w:=w) e];exact h.fz j⟩
def Kq.ex (h:Kq m r w0 w)(x:Ex w w')(hm:m< w0.heap.size):Kq m r w0 w':=h.out (Kp.ah x λ _=>False) (λ _ _ h=>h.elim) hm
def Kq.km (h:Kq m r w0 w)(k:Km m w w'):Kq m r w0 w':=h.trans ⟨Kp.mono (λ _ e=> .inl e) k.kp,k.ce,k.fz⟩
def Kq.blk (h:Kq m r w0 w)(k:dR w w' r)(hm:m< w0.heap.size)(hr:m≠r):Kq m r w0 w':=
 h.out (S:=λg=>g=r) ⟨k.os,k.tape,k.output,by rw [k.size];exact Nc _,λg _ G=>k.block g G⟩ (λg _ e=>⟨e,λh=>hr (h.symm.trans e)⟩) hm
end
structure CI (w w':World)(m r b4 b6 n n1:Nat)(xs:List Nat)(F F1:Nat->Nat)(O:List Nat)(L:Lv)(ts:List Value)(M:Nat->Prop):Prop where
 kq:Kq m r w w'
 mc:Mk w' m n1
 mf:jj w' r F1
 rn:Rn n n1 xs F F1
 c4:w'.cell? ⟨b4,0,none⟩=some (.map (some r))
 l4:b4< w'.heap.size
 h4:w.heap.size<=b4
 m4:¬M b4
 bd:jI w.heap.size w' b6 O ts M
 th:af (λg=>(w.heap.size<=g/\¬M g/\g≠b4)/\g< w'.heap.size) w' L ts
 lm:m< w.heap.size
 lr:r< w.heap.size
 ne:m≠r
def Bs {w:World}{b4 r x:Nat}{F:Nat->Nat}(c4:w.cell? ⟨b4,0,none⟩=some (.map (some r)))(mf:jj w r F){R:Int->Qx}(hR:R (F x:Int) w):
  Qy 198 #[iv x,ptr b4] w (ax [.i] R):=by
 refine jm x (ptr b4) w R ?_;dsimp only [go_sem];obtain⟨mm,h1,G⟩:=mf;refine⟨b4,0,rfl,_,c4,r,mm,rfl,h1,?_⟩;rcases G x with h | ⟨h,e⟩
 ·exact⟨F x,true,.inl ⟨rfl,h⟩,λ _=>hR,λh=>(by cases h)⟩
 ·exact⟨0,false,.inr ⟨rfl,h,rfl⟩,λh=>(by cases h),λ _=>by rw [e]at hR;exact hR⟩
def jI.L7 {B:Nat}{w w1 H:World}{b:Nat}{o o':List Nat}{ts:List Value}{M:Nat->Prop}(h:jI B w b o ts M){vo v':Value}(β:w.cell? ⟨b,0,none⟩=some vo)(k:Kp w w1 λg=>vo.ownBlock=some g)(ho:aE 3 B w1 v' (o'.map iv))
  (hv:∀g,v'.ownBlock=some g->vo.ownBlock=some g\/w.heap.size<=g) (hw:H=w1.setCell ⟨b,0,none⟩ v'):jI B H b o' ts (λg=>M g\/v'.ownBlock=some g)/\Kp w H M:=by
 obtain⟨h1,hle,h3,hr,h4,γ,vt,h5,h6,h7,h8,h9,h10,J⟩:=h;have:γ=vo:=NY (h5.symm.trans β);subst this;have s1:=k.size;have kb:Kr b w1 H:=hw▸Kr.set w1 0 v';have e1:=k.block b h1 λe=>(h9 b e).2 rfl
 have Z:∀g,v'.ownBlock=some g->g≠b:=λg G=>(hv g G).elim (λe=>(h9 g e).2) λe=>by omega
 have kM:Kp w H M:=Kp.trans (Kp.mono (λg e=>(h9 g e).1) k) kb λg _ e=>by rw [e];exact h3
 have s2:=kb.size;refine⟨⟨by omega,hle,.inl h3,λg G=>?_,λj=>?_,v',vt,?_,?_,ho.kp kb Z,?_,λg G=>⟨.inr G,Z g G⟩,λg G=>⟨.inl (h10 g G).1,(h10 g G).2⟩,λg G e=>?_⟩,kM⟩
 ·rcases G with G | G
  ·have :=hr g G;omega
  ·have :=ho.block g G;omega
 ·rw [hw,Nv,NH (w:=w) e1];exact h4 j
 ·rw [hw];exact Ns _ _ _ (by rw [M5 (w:=w) e1];exact h5)
 ·rw [hw,Na _ _ _ _ (by simp),M5 (w:=w) e1];exact h6
 ·exact(h8.kp k λg G e=>J g e G).kp kb λg G=>(h10 g G).2
 ·rcases hv g G with h | h
  ·exact J g h e
  ·have :=(h8.block g e).2;omega
def jI.LK {B:Nat}{w w1 H:World}{b:Nat}{o:List Nat}{ts J:List Value}{M:Nat->Prop}(h:jI B w b o ts M){vt v':Value}(γ:w.cell? ⟨b,1,none⟩=some vt)(k:Kp w w1 λg=>vt.ownBlock=some g)(ho:aE 130 B w1 v' J)
  (hv:∀g,v'.ownBlock=some g->vt.ownBlock=some g\/w.heap.size<=g) (hw:H=w1.setCell ⟨b,1,none⟩ v'):jI B H b o J (λg=>M g\/v'.ownBlock=some g)/\Kp w H M:=by
 obtain⟨h1,hle,h3,hr,h4,vo,δ,h5,h6,h7,h8,h9,h10,Z⟩:=h;have:δ=vt:=NY (h6.symm.trans γ);subst this;have s1:=k.size;have kb:Kr b w1 H:=hw▸Kr.set w1 1 v';have e1:=k.block b h1 λe=>(h10 b e).2 rfl
 have β:∀g,v'.ownBlock=some g->g≠b:=λg G=>(hv g G).elim (λe=>(h10 g e).2) λe=>by omega
 have kM:Kp w H M:=Kp.trans (Kp.mono (λg e=>(h10 g e).1) k) kb λg _ e=>by rw [e];exact h3
 have s2:=kb.size;refine⟨⟨by omega,hle,.inl h3,λg G=>?_,λj=>?_,vo,v',?_,?_,?_,ho.kp kb β,λg G=>⟨.inl (h9 g G).1,(h9 g G).2⟩,λg G=>⟨.inr G,β g G⟩,λg G e=>?_⟩,kM⟩
 ·rcases G with G | G
  ·have :=hr g G;omega
  ·have :=ho.block g G;omega
 ·rw [hw,Nv,NH (w:=w) e1];exact h4 j
 ·rw [hw,Na _ _ _ _ (by simp),M5 (w:=w) e1];exact h5
 ·rw [hw];exact Ns _ _ _ (by rw [M5 (w:=w) e1];exact h6)
 ·exact(h7.kp k λg G e=>Z g G e).kp kb λg G=>(h9 g G).2
 ·rcases hv g e with h | h
  ·exact Z g G h
  ·have :=(h7.block g G).2;omega
def ch {f g:Nat->Nat}:∀{l:Lv},(∀x,(x∈l.bvs\/l.fh x)->f x=g x)->l.map f=l.map g
 | .nil,_=>rfl
 | .thr k a b o r n,h=>by
  have hr:=ch (f:=f) (g:=g) (l:=r) λx G=>h x (by
   rcases G with G | G
   ·left;simp [Lv.bvs,G]
   ·by_cases H:x∈o
    ·left;simp [Lv.bvs,H]
    ·by_cases hb:k= .r/\x=b
     ·left;simp [Lv.bvs,hb.1,hb.2]
     ·right;exact .inr (.inr (.inl ⟨H,hb,G⟩)))
  have J:=ch (f:=f) (g:=g) (l:=n) λx G=>h x (by
   rcases G with G | G
   ·left;simp [Lv.bvs,G]
   ·right;exact .inr (.inr (.inr G)))
  have H:o.map f=o.map g:=Ot λx G=>h x (.inl (by simp [Lv.bvs,G]))
  simp only [Lv.map,hr,J,H];cases k<;>simp only [reduceCtorEq,or_self,or_true,true_or,Qm,O9]
  ·rw [h a (.inr (.inl ⟨.inl rfl,.inl rfl⟩)),h b (.inr (.inl ⟨.inl rfl,.inr rfl⟩))]
  ·rw [h a (.inr (.inr (.inl ⟨rfl,rfl⟩))),h b (.inl (by simp [Lv.bvs]))]
  ·rw [h a (.inr (.inl ⟨.inr rfl,.inl rfl⟩)),h b (.inr (.inl ⟨.inr rfl,.inr rfl⟩))]
 | .sum ps n,h=>by
  have hr:=ch (f:=f) (g:=g) (l:=ps) λx G=>h x (by
   rcases G with G | G
   ·left;simp [Lv.bvs,G]
   ·right;exact .inl G)
  have J:=ch (f:=f) (g:=g) (l:=n) λx G=>h x (by
   rcases G with G | G
   ·left;simp [Lv.bvs,G]
   ·right;exact .inr G)
  simp only [Lv.map,hr,J]
 | .part o q n,h=>by
  have hr:=ch (f:=f) (g:=g) (l:=q) λx G=>h x (by
   rcases G with G | G
   ·left;simp [Lv.bvs,G]
   ·by_cases H:x∈o
    ·left;simp [Lv.bvs,H]
    ·right;exact .inl ⟨H,G⟩)
  have J:=ch (f:=f) (g:=g) (l:=n) λx G=>h x (by
   rcases G with G | G
   ·left;simp [Lv.bvs,G]
   ·right;exact .inr G)
  have H:o.map f=o.map g:=Ot λx G=>h x (.inl (by simp [Lv.bvs,G]))
  simp only [Lv.map,hr,J,H]
def oZ {x:Nat}:∀(l:Lv) (i:Nat),(l.take i).fh x->l.fh x
 | _,0,h=>h.elim
 | .nil,i+1,h=>h
 | .thr k a b o r n,i+1,h=>by
  rcases h with h | h | h | h
  ·exact .inl h
  ·exact .inr (.inl h)
  ·exact .inr (.inr (.inl h))
  ·exact .inr (.inr (.inr (oZ n i h)))
 | .sum ps n,i+1,h=>h.elim .inl λh=> .inr (oZ n i h)
 | .part o q n,i+1,h=>h.elim .inl λh=> .inr (oZ n i h)
def JT (k:Nat):Prop:=∀{D:Nat->Prop} {w:World} {v:Value} {o:List Nat} {l:Lv} {m r n:Nat} {F:Nat->Nat} {R:Value->Qx},l.sz<=k->l.sh true=true->fL D w v o (af D w l)->(∀g,D g->¬(g=m\/g=r))->ua o l->Mk w m n->jj w r F->m≠r->n+o.length+l.bvs.length<=4294967296->o.length+l.tot<=4294967296->
 (∀v' w' F' n',Kq m r w w'->Mk w' m n'->jj w' r F'->Rn n n' (o++l.bvs) F F'->aH (Cv w) w' (o.map F',l.map F') v'->R v' w')->Qy 154 #[ptr m,v,.map (some r)] w (ax [.v] R)
def Cp (f:Nat->Nat):∀l:Lv,(l.map f).len=l.len:=by intro l;induction l<;>simp_all [Lv.map,Lv.len]
def EO:∀(l:Lv) (i:Nat),(l.take i).bvs.Sublist l.bvs:=by
 intro l
 induction l with
 | nil=>intro i;cases i<;>simp [Lv.take,Lv.bvs]
 | thr k a b o r n _ G=>
  intro i;cases i with
  | zero=>simp [Lv.take,Lv.bvs]
  | succ i=>exact OW (Oc _) (OW (Oc _) (OW (Oc _) (G i)))
 | sum ps n _ G=>
  intro i;cases i with
  | zero=>simp [Lv.take,Lv.bvs]
  | succ i=>exact OW (Oc _) (G i)
 | part o q n _ G=>
  intro i;cases i with
  | zero=>simp [Lv.take,Lv.bvs]
  | succ i=>exact OW (Oc _) (OW (Oc _) (G i))
def Hf {o:List Nat}{l e:Lv}{i:Nat}(h:ua o l)(Z:l.take (i+1)=(l.take i).app e):(∀x∈o++(l.take i).bvs,x∉e.bvs)/\(l.take i).bvs.length+e.bvs.length<=l.bvs.length:=by
 have G:((l.take i).bvs++e.bvs).Sublist l.bvs:=by rw [<-Lv.cO,<-Z];exact EO l _
 have H:=NU.1 h.nd;refine⟨λx hx J=>?_,by have :=G.length_le;rwa [Nb]at this⟩;rcases Nk.1 hx with h | h
 ·exact H.2.2 x h x (G.subset (NG _ J)) rfl
 ·exact(NU.1 (H.2.1.sublist G)).2.2 x h x J rfl
def An (k:Nat)(ih:∀j,j< k->JT j):JT k:=by
 intro D w v o l m r n F R hn hsh h hD huq hmk hmf ψ hnn htot hR;refine kY (ptr m) v (.map (some r)) w R ?_;refine⟨rfl,λb4 w5 hb4 hw5 b6 w7 hb6 hw7=>?_⟩;have x5:Ex w w5:=hw5▸Ex.alloc w _;have x57:Ex w5 w7:=hw7▸Ex.alloc w5 _;have x7:=Ex.trans x5 x57;have s5:w5.heap.size=w.heap.size+1:=by rw [hw5,size_alloc]
 have s7:w7.heap.size=w5.heap.size+1:=by rw [hw7,size_alloc]
 have hlm:=hmk.lt;have hlr:=hmf.lt;obtain⟨bl,vo,vt,ts,rfl,h2,h3,h4,h5,h6,h7,h8⟩:=h;obtain⟨ao,capo,hvo⟩:=h6.slice;rw [Nq]at hvo;obtain⟨at_,capt,hvt⟩:=h7.slice;have hlen:=h8.len;have hel:=Lv.cu l;have hlt:=bL l;have nd:=huq.nd;have ndo:=NU.1 nd;have cbl:∀{w1:World},Kq m r w w1->∀{j:Nat} {u:Value},w.cell? ⟨bl,j,none⟩=some u->w1.cell? ⟨bl,j,none⟩=some u:=λx j u hu=>by
  rw [M5 (w:=w) (x.kp.block bl h3 (hD bl h2))];exact hu
 have bd7:jI w.heap.size w7 b6 [] [] λg=>g=b6:=jI.new (by omega) hb6 hw7
 have ci7:CI w w7 m r b4 b6 n n [] F F [] .nil [] λg=>g=b6:=
  ⟨(Kq.refl m r w).ex x7 hlm,hmk.ex x7,hmf.kp (Kp.ah x7 λ _=>False) (λh=>h),Rn.refl n F,by rw [x57.cell (show b4< _ by omega),hw5,hb4];exact aa rfl,by omega,by omega,by omega,bd7,rfl,hlm,hlr,ψ⟩
 refine⟨bl,0,rfl,vo,cbl ci7.kq h4,ao,_,capo,hvo,λx w'=>∃(j n1:Nat) (F1:Nat->Nat) (M:Nat->Prop),x=j/\j<=o.length/\CI w w' m r b4 b6 n n1 (o.take j) F F1 ((o.take j).map F1) .nil [] M,λx _=>(o.length - x).toNat,⟨0,n,F,_,rfl,N5 _,ci7⟩,λx w17 hI=>?_⟩;obtain⟨j,n1,F1,M,rfl,hj,ci⟩:=hI;refine⟨λhlt0=>?_,λhge=>?_⟩
 ·
  have hjo:=oL hlt0;obtain⟨bo,oo,ω,hvo',hco⟩:∃bo oo ω,vo= .slice (some ⟨bo,oo,none⟩) o.length ω/\w17.cell? ⟨bo,oo+j,none⟩=some (iv o[j]):=by
   rcases h6 with⟨_,h0⟩ | ⟨bo,oo,ω,e,hbD,hb',hcell⟩
   ·rw [PM]at h0;rw [h0]at hjo;simp at hjo
   ·rw [Nq]at e;exact⟨bo,oo,ω,e,by rw [M5 (w:=w) (ci.kq.kp.block bo hb' (hD bo hbD))];exact hcell j _ (by simp [hjo])⟩
  refine⟨bo,oo,_,ω,hvo',by omega,by omega,(o[j]:Nat),by rw [Nf,NQ];exact hco,λw'=>Kq m r w17 w',λw24 hw24=>?_⟩;have x24:Ex w17 w24:=hw24▸Ex.drew w17;have l17m:=ci.mc.lt;have l17r:=ci.mf.lt;have h4':=ci.h4;have rn1:=ci.rn.len;rw [NW,Pm hj]at rn1;have q24:Kq m r w17 w24:=(Kq.refl m r w17).ex x24 l17m;have c4:∀{w1:World},Kq m r w17 w1->w1.cell? ⟨b4,0,none⟩=some (.map (some r)):=λq=>by rw [M5 (w:=w17) (q.kp.block b4 ci.l4 (λe=>by rcases e with e | e<;>omega))];exact ci.c4
  refine⟨q24,_,λw' q=>c4 q,rR (ci.mc.ex x24) (by omega) λw27 k27 m27=>?_⟩;have q27:Kq m r w17 w27:=q24.km k27;have mf27:jj w27 r F1:=(ci.mf.kp (Kp.ah x24 λ _=>False) (λh=>h)).kp k27.kp (λe=>ψ e.symm);obtain⟨mm,hm1,hm2⟩:=mf27;refine⟨q27,r,mm,rfl,hm1,λw30 hm30 hb30=>?_⟩;have q30:Kq m r w17 w30:=q27.blk hb30 l17m ψ;have mk30:Mk w30 m (n1+1):=m27.kp (S:=λg=>g=r) ⟨hb30.os,hb30.tape,hb30.output,by rw [hb30.size];exact Nc _,λg _ H=>hb30.block g H⟩ ψ;have mf30:jj w30 r (aF F1 o[j] (n1+101)):=r6 hm2 hm30;have hMr:∀g,M g->¬(g=m\/g=r):=λg H e=>by have :=(ci.bd.mr g H).1;omega
  have bd30:=ci.bd.kp q30.kp hMr;obtain⟨vo1,vt1,d0,d1,d2,d3,d4,d5,d6⟩:=bd30.sl;refine⟨λw'=>Kp w30 w' λg=>vo1.ownBlock=some g,λBT hw32=>?_⟩;have x32:Ex w30 BT:=hw32▸Ex.drew w30;have s30:=q30.size;have nob6:¬vo1.ownBlock=some b6:=λe=>(d4 b6 e).2 rfl
  have nob4:¬vo1.ownBlock=some b4:=λe=>ci.m4 (d4 b4 e).1
  refine⟨Kp.ah x32 _,vo1,λw' k=>by rw [M5 (w:=w30) (k.block b6 bd30.lt nob6)];exact d0,.map (some r),λw' k=>by rw [M5 (w:=w30) (k.block b4 (by have :=ci.l4;omega) nob4)];exact c4 q30,r,_,rfl,iq hm30 (x32.block r (iu hm30)),((n1+101:Nat):Int),true,.inl ⟨rfl,?_⟩,Kp.ah x32 _,λb39 w40 hb39 hw40=>?_⟩
  ·unfold gz;simp
  have x40:Ex BT w40:=hw40▸Ex.alloc BT _;have ε:=Ex.trans x32 x40;have bd40:=bd30.ex ε;have s40:=ε.size;have hB40:w.heap.size<=w40.heap.size:=by have :=ci.kq.size;omega
  refine⟨Kp.ah ε _,aE.push (d2.kp (Kp.ah ε λ _=>False) λ _ _ h=>h) hB40 (m:=[iv (n1+101)]) (D:=λ _=>True) (.inr ⟨b39,0,1,rfl,trivial,by rw [hw40,size_alloc,hb39];omega,λi y hy=>?_⟩) (by rfl) (by omega) (by simp only [Nq,M0,Np,NW];omega) λv46 w47 ho47 hg47 hn47=>?_⟩
  ·cases i with
   | zero=>simp only [OY,Ow]at hy;subst hy;rw [hw40,hb39];exact aa rfl
   | succ i=>simp at hy
  have k47:Kp w40 w47 λg=>vo1.ownBlock=some g:=Kp.aG hg47 λ _ h=>h
  have e6:=k47.block b6 bd40.lt nob6;have c60:w40.cell? ⟨b6,0,none⟩=some vo1:=by rw [ε.cell (show b6< _ from bd30.lt)];exact d0
  refine⟨Kp.trans (Kp.ah ε _) k47 λ _ _ h=>h,ho47.uw,⟨⟨vo1,by rw [M5 (w:=w40) e6];exact c60⟩,by rw [NH (w:=w40) e6];exact bd40.fr 0⟩,λw49 hw49=>⟨by omega,?_,tN (by omega)⟩⟩;have hoj:o[j]∉o.take j:=λhm=>by
   have h1:=ndo.1;rw [<-Oi j o,N4 hjo]at h1;exact(NU.1 h1).2.2 _ hm _ (NP ..) rfl
  have hmapj:(o.take j).map F1=(o.take j).map (aF F1 o[j] (n1+101)):=Ot λx hx=>by
   have:x≠o[j]:=λe=>hoj (by rw [<-e];exact hx)
   simp only [aF,Nt this]
  have ho47':aE 3 w.heap.size w47 v46 (((o.take (j+1)).map (aF F1 o[j] (n1+101))).map iv):=by
   rw [Ng hjo,N0,N0,<-hmapj];simp only [NI,PG,aF,O9];exact ho47
  obtain⟨bd49,k49⟩:=bd40.L7 c60 k47 ho47' hn47 hw49;have κ:∀g,M g->w.heap.size<=g:=λg H=>(ci.bd.mr g H).1
  have hnewg:∀g,v46.ownBlock=some g->M g\/w40.heap.size<=g:=λg H=>(hn47 g H).imp (λe=>(d4 g e).1) id
  have q17:Kq m r w w30:=ci.kq.trans q30;refine⟨j+1,n1+1,aF F1 o[j] (n1+101),λg=>M g\/v46.ownBlock=some g,by omega,by omega,?_⟩;refine⟨(q17.ex ε hlm).out k49 (λg H hM=>by have :=κ g hM;omega) hlm,(mk30.ex ε).kp k49 λhM=>by have :=κ _ hM;omega,(mf30.kp (Kp.ah ε λ _=>False) (λh=>h)).kp k49 λhM=>by have :=κ _ hM;omega,?_,?_,?_,h4',?_,bd49,rfl,hlm,hlr,ψ⟩
  ·rw [Ng hjo];exact ci.rn.app (Rn.one n1 o[j] F1) λx hx hx'=>hoj (by cases ND.1 hx';exact hx)
  ·rw [M5 (w:=w40) (k49.block b4 (by have :=ci.l4;omega) ci.m4),ε.cell (show b4< _ by have :=ci.l4;omega)];exact c4 q30
  ·have :=k49.size;have :=ci.l4;omega
  ·intro hM;rcases hM with hM | hM
   ·exact ci.m4 hM
   ·rcases hnewg b4 hM with h | h
    ·exact ci.m4 h
    ·have :=ci.l4;omega
 ·
  have hjo:=oE hge (by omega);subst hjo;rw [NR]at ci;refine⟨bl,0,rfl,vt,cbl ci.kq h5,at_,_,capt,hvt,λx w'=>∃(i n2:Nat) (F2:Nat->Nat) (M2:Nat->Prop) (ts2:List Value),x=i/\i<=ts.length/\CI w w' m r b4 b6 n n2 (o++(l.take i).bvs) F F2 (o.map F2) ((l.take i).map F2) ts2 M2,λx _=>(ts.length - x).toNat,⟨0,n1,F1,M,[],rfl,N5 _,by simpa [Lv.take,Lv.bvs,Lv.map]using ci⟩,λx β hI=>?_⟩;obtain⟨i,n2,F2,M2,ts2,rfl,hi,γ⟩:=hI;refine⟨λhlt1=>?_,λhge1=>?_⟩;rotate_left
  ·have hie:i=l.a8.length:=by simp only [No]at hge1;omega
   rw [hie,Lv.cL]at γ;exact hR _ β F2 n2 γ.kq γ.mc γ.mf γ.rn (γ.bd.LO (λg _ H=>H) (af.sub (λg _ H=>H.1.1) γ.th))
  have hil:=oL hlt1;have hie:i< l.a8.length:=by omega
  have q59:=γ.kq;obtain⟨bt,ot,μ,hvt',hct⟩:∃bt ot μ,vt= .slice (some ⟨bt,ot,none⟩) ts.length μ/\β.cell? ⟨bt,ot+i,none⟩=some ts[i]:=by
   rcases h7 with⟨_,h0⟩ | ⟨bt,ot,μ,e,hbD,hb',hcell⟩
   ·rw [h0]at hil;simp at hil
   ·exact⟨bt,ot,μ,e,by rw [M5 (w:=w) (q59.kp.block bt hb' (hD bt hbD))];exact hcell i _ (M6 hil)⟩
  obtain⟨e,he1,he2,he3⟩:=aO.single h8.a8 (M6 hil);have he4:l.a8[i]=e:=by rw [M6 hie]at he1;exact NY he1
  have hts:=Lv.take_succ l i hie;rw [he4]at hts;have hsz:=Lv.dQ l e he2;have htt:=Lv.fS l e he2;have huqe:=huq.a8 he2;have J:=γ.mc.lt;have hl59r:=γ.mf.lt;have s59:=q59.size;have h4':=γ.h4;have rn2:=γ.rn.len;have bvs2:(l.take (i+1)).bvs=(l.take i).bvs++e.bvs:=by rw [hts,Lv.cO]
  rw [Nb]at rn2;obtain⟨hdis,bvt⟩:=Hf huq hts;have keepO:∀{n3 F3},Rn n2 n3 e.bvs F2 F3->o.map F3=o.map F2/\(l.take i).map F3=(l.take i).map F2:=λ{n3 F3} rn=>by
   refine⟨Ot λx hx=>rn.out x (hdis x (NS _ hx)),ch λx hx=>rn.out x λhxe=>?_⟩;rcases hx with hx | hx
   ·exact hdis x (NG _ hx) hxe
   ·exact huq.nf x ((Lv.lD l e he2).subset hxe) (oZ l i hx)
  have fin:∀(G:Nat) (Z:World) (n3:Nat) (F3:Nat->Nat),β.heap.size<=G->G< Z.heap.size->Kq m r β Z->Mk Z m n3->jj Z r F3->Rn n2 n3 e.bvs F2 F3->af (λg=>β.heap.size<=g/\g< Z.heap.size) Z (e.map F3) [ptr G]->
    ∃v195:Value,World.cell? Z ⟨b6,1,none⟩=some v195/\∀(b196:Nat) (δ:World),b196=Array.size (World.heap Z)->δ=World.alloc Z (Obj.cells #[(Value.pointer (some ⟨G,0,none⟩))] 130)->∃(base198 n199 m200:Nat) (xs201 news202:List Value),World.ownsRow δ base198 130 1 v195 n199 xs201/\base198<=Array.size (World.heap δ)/\db δ (Value.slice (some ⟨b196,0,none⟩) 1 1) m200 1 news202/\(n199+m200<=maxLen/\(n199+m200)* 8<=140737488355328)/\
     ∀(v203:Value) (w204:World),World.ownsRow w204 base198 130 1 v203 (n199+m200) (xs201++news202)->World.grownBy δ w204 (Value.ownBlock v195)->(∀b:Nat,Value.ownBlock v203=some b->Value.ownBlock v195=some b\/Array.size (World.heap δ)<=b)->oneV v203=true/\((∃u205:Value,World.cell? w204 ⟨b6,1,none⟩=some u205)/\World.frozen? w204 ⟨b6,1,none⟩=false)/\∀φ:World,φ=World.setCell w204 ⟨b6,1,none⟩ v203->
      cW ((i:Int)+1)/\(∃(i2 n4:Nat) (F4:Nat->Nat) (M4:Nat->Prop) (ts4:List Value),(i:Int)+1=i2/\i2<=ts.length/\CI w φ m r b4 b6 n n4 (o++(l.take i2).bvs) F F4 (o.map F4) ((l.take i2).map F4) ts4 M4)/\((ts.length:Int) - ((i:Int)+1)).toNat< ((ts.length:Int) - i).toNat:=by
   intro G Z n3 F3 h68 l68 η mk172 mf172 ν θ;have hMr:∀g,M2 g->¬(g=m\/g=r):=λg H e=>by
    have :=(γ.bd.mr g H).1;rcases e with e | e<;>omega
   obtain⟨ko,kl⟩:=keepO ν;have bd172:=γ.bd.kp η.kp hMr;obtain⟨vo1,vt1,d0,d1,d2,d3,d4,d5,d6⟩:=bd172.sl;refine⟨vt1,d1,λb196 δ hb196 hw197=>?_⟩;have ξ:Ex Z δ:=hw197▸Ex.alloc Z _;have s197:δ.heap.size=Z.heap.size+1:=by rw [hw197,size_alloc]
   have s172:=η.size;have bd197:=bd172.ex ξ;have hlts:ts2.length<=ts.length:=by
    have h1:=γ.th.len;have h2:=Cp F2 (l.take i);have :=Lv.gu l i;omega
   refine aE.push (d3.kp (Kp.ah ξ λ _=>False) λ _ _ h=>h) (by omega) (m:=[ptr G]) (D:=λ _=>True) (.inr ⟨b196,0,1,rfl,trivial,by omega,λi y hy=>?_⟩) (by rfl) (by omega) (by simp only [M0,Np];omega) λv203 w204 ho204 hg204 hn204=>?_
   ·cases i with
    | zero=>simp only [OY,Ow]at hy;subst hy;rw [hw197,hb196];exact aa rfl
    | succ i=>simp at hy
   have k204:Kp δ w204 λg=>vt1.ownBlock=some g:=Kp.aG hg204 λ _ h=>h
   have e6:=k204.block b6 bd197.lt λe=>(d5 b6 e).2 rfl
   have c61:δ.cell? ⟨b6,1,none⟩=some vt1:=by rw [ξ.cell (show b6< _ from bd172.lt)];exact d1
   refine⟨ho204.uw,⟨⟨vt1,by rw [M5 (w:=δ) e6];exact c61⟩,by rw [NH (w:=δ) e6];exact bd197.fr 1⟩,λφ hw206=>⟨by omega,?_,by omega⟩⟩;obtain⟨bd206,k206⟩:=bd197.LK c61 k204 ho204 hn204 hw206;have κ:∀g,M2 g->w.heap.size<=g/\g< β.heap.size:=γ.bd.mr;have hnewg:∀g,v203.ownBlock=some g->M2 g\/δ.heap.size<=g:=λg H=>(hn204 g H).imp (λe=>(d5 g e).1) id
   have q206:Kq m r w φ:=((q59.trans η).ex ξ hlm).out k206 (λg H hM=>by have :=(κ g hM).1;omega) hlm;have s206:=k206.size;have l4:=γ.l4;have hth1:af (λg=>(w.heap.size<=g/\¬(M2 g\/v203.ownBlock=some g)/\g≠b4)/\g< φ.heap.size) φ ((l.take i).map F3) ts2:=by
    rw [kl];refine af.sub (λg _ H=>⟨⟨H.1.1,λhM=>hM.elim H.1.2.1 λe=>(hnewg g e).elim H.1.2.1 λh=>by omega,H.1.2.2⟩,by omega⟩) (af.kp k206 (λg H hM=>H.1.2.1 hM) (af.ex (af.kp η.kp (λg H e=>by
     have :=H.1.1;rcases e with e | e<;>omega) γ.th) ξ))
   have hth2:af (λg=>(w.heap.size<=g/\¬(M2 g\/v203.ownBlock=some g)/\g≠b4)/\g< φ.heap.size) φ (e.map F3) [ptr G]:=
    af.sub (λg _ H=>⟨⟨by omega,λhM=>hM.elim (λh=>by have :=(κ g h).2;omega) λe=>(hnewg g e).elim (λh=>by have :=(κ g h).2;omega) λh=>by omega,by omega⟩,by omega⟩) (af.kp k206 (λg H hM=>by have :=(κ g hM).2;omega) (af.ex θ ξ))
   refine⟨i+1,n3,F3,λg=>M2 g\/v203.ownBlock=some g,ts2++[ptr G],by omega,by omega,⟨q206,(mk172.ex ξ).kp k206 λhM=>by have :=(κ _ hM).1;omega,(mf172.kp (Kp.ah ξ λ _=>False) (λh=>h)).kp k206 λhM=>by have :=(κ _ hM).1;omega,?_,?_,by omega,h4',λhM=>?_,by rw [ko];exact bd206,?_,hlm,hlr,ψ⟩⟩
   ·rw [bvs2,<-NX];exact γ.rn.app ν hdis
   ·rw [M5 (w:=δ) (k206.block b4 (by omega) γ.m4),ξ.cell (show b4< _ by omega),M5 (w:=β) (η.kp.block b4 l4 λe=>by rcases e with e | e<;>omega)];exact γ.c4
   ·rcases hM with hM | hM
    ·exact γ.m4 hM
    ·rcases hnewg b4 hM with h | h
     ·exact γ.m4 h
     ·omega
   ·rw [hts,Lv.eO];exact af.app hth1 hth2
  refine⟨bt,ot,_,μ,hvt',by omega,by omega,ts[i],by rw [Nf,NQ];exact hct,?_⟩;have h26:=huqe.ge;have l4:=γ.l4;have c4b:∀{w1:World},Kq m r β w1->w1.cell? ⟨b4,0,none⟩=some (.map (some r)):=λq=>by
   rw [M5 (w:=β) (q.kp.block b4 l4 λe=>by rcases e with e | e<;>omega)];exact γ.c4
  rcases Lv.jh hsh e he2 with⟨kk,a,b,o',q,rfl,hq⟩ | ⟨ps,rfl,hps⟩
  ·obtain⟨t,ts',a',b',vr,e1,ht,hkk,hlv,_⟩:=he3;obtain⟨rfl,rfl⟩:=Oa e1;obtain⟨g,H,hgD,hg2,c0,c1,c2,c3,c4'⟩:=ht;have cg:∀{w1:World},Kq m r β w1->∀{j:Nat} {u:Value},w.cell? ⟨g,j,none⟩=some u->w1.cell? ⟨g,j,none⟩=some u:=λx j u hu=>by
    rw [M5 (w:=w) ((q59.trans x).kp.block g hg2 (hD g hgD))];exact hu
   have q0:=Kq.refl m r β;simp only [Lv.sz]at hsz;simp only [Lv.tot]at htt;obtain⟨u1,u2⟩:=huqe.thr;have ebv:(Lv.thr kk a b o' q .nil).bvs=(if kk= .r then [b]else [])++(o'++q.bvs):=by simp [Lv.bvs]
   rw [ebv]at bvt;simp only [Nb]at bvt;refine⟨g,0,H,kk.byte,cg q0 c0,λG ζ hb68 hw69=>⟨λw'=>∃(n3:Nat) (F3:Nat->Nat) (a1 b1:Nat),Kq m r β w'/\Mk w' m n3/\jj w' r F3/\Rn n2 n3 (if kk= .r then [b]else []) F2 F3/\jT w' G kk.byte a1 b1 (.pointer none) (.slice none 0 0)/\(kk= .t\/kk= .p\/(a1=F3 a/\b1=F3 b)),⟨g,0,H,kk.byte,?_,?_⟩,λw146 hJ=>?_⟩⟩
   all_goals have x69:Ex β ζ:=hw69▸Ex.alloc β _
   all_goals have υ:Kq m r β ζ:=q0.ex x69 J
   ·exact cg υ c0
   ·have th69:jT ζ G kk.byte 0 0 (.pointer none) (.slice none 0 0):=jT.new hb68 hw69;have mk69:=γ.mc.ex x69;have mf69:=γ.mf.kp (Kp.ah x69 λ _=>False) (λh=>h);have two:(kk= .s\/kk= .m)->∃S106:Qx,∀χ:World,χ=World.drew ζ->S106 χ/\∃(b108 o109:Nat),ts[i]=Value.pointer (some ⟨b108,o109,none⟩)/\∃n110:Int,(∀w',S106 w'->World.cell? w' ⟨b108,(o109+1),none⟩=some (Value.int IntKind.i64 n110))/\∃(b111 o112:Nat),ts[i]=Value.pointer (some ⟨b111,o112,none⟩)/\∃n113:Int,(∀w',S106 w'->World.cell? w' ⟨b111,(o112+2),none⟩=some (Value.int IntKind.i64 n113))/\∃(f114:Nat) (ca115:List Value),(Value.func (Fn.func 198) #[] #[(Value.pointer (some ⟨b4,0,none⟩))])=Value.func (Fn.func f114) #[] (List.toArray ca115)/\hasR gD f114=true/\Qy f114 (List.toArray ([(Value.int IntKind.i64 n110)]++ca115)) χ (ax [.i] fun(n116:Int) (w117:World)=>S106 w117/\∃(f118:Nat) (ca119:List Value),(Value.func (Fn.func 198) #[] #[(Value.pointer (some ⟨b4,0,none⟩))])=Value.func (Fn.func f118) #[] (List.toArray ca119)/\hasR gD f118=true/\Qy f118 (List.toArray ([(Value.int IntKind.i64 n113)]++ca119)) w117 (ax [.i] fun(n120:Int) (w121:World)=>S106 w121/\((∃u122:Value,World.cell? w121 ⟨G,1,none⟩=some u122)/\World.frozen? w121 ⟨G,1,none⟩=false)/\∀w123:World,w123=World.setCell w121 ⟨G,1,none⟩ (Value.int IntKind.i64 n116)->((∃u124:Value,World.cell? w123 ⟨G,2,none⟩=some u124)/\World.frozen? w123 ⟨G,2,none⟩=false)/\∀w125:World,w125=World.setCell w123 ⟨G,2,none⟩ (Value.int IntKind.i64 n120)->
      ∃(n3:Nat) (F3:Nat->Nat) (a1 b1:Nat),Kq m r β w125/\Mk w125 m n3/\jj w125 r F3/\Rn n2 n3 (if kk= .r then [b]else []) F2 F3/\jT w125 G kk.byte a1 b1 (.pointer none) (.slice none 0 0)/\(kk= .t\/kk= .p\/(a1=F3 a/\b1=F3 b)))):=by
     intro hk2;obtain⟨rfl,rfl⟩:a'=a/\b'=b:=by
      rcases hkk with h | h | h
      ·rw [h]at hk2;simp at hk2
      ·rw [h]at hk2;simp at hk2
      ·exact h
     refine⟨λw'=>Ex ζ w',λχ hw107=>⟨hw107▸Ex.drew ζ,g,0,H,a',λw' x=>cg (υ.ex x J) c1,g,0,H,b',λw' x=>cg (υ.ex x J) c2,198,[ptr b4],rfl,by kernel_rfl,?_⟩⟩;have x107:Ex ζ χ:=hw107▸Ex.drew ζ;have q107:=υ.ex x107 J;have mf107:=mf69.kp (Kp.ah x107 λ _=>False) (λh=>h);refine Bs (c4b q107) mf107 ⟨x107,198,[ptr b4],rfl,by kernel_rfl,Bs (c4b q107) mf107 ⟨x107,?_⟩⟩;have th107:jT χ G kk.byte 0 0 (.pointer none) (.slice none 0 0):=th69.kp (Kp.ah x107 λ _=>False) λh=>h
     refine⟨⟨⟨_,th107.c1⟩,th107.f 1⟩,λw123 hw123=>?_⟩;have th123:=th107.zQ (x:=F2 a') hw123;refine⟨⟨⟨_,th123.c2⟩,th123.f 2⟩,λw125 hw125=>?_⟩;have th125:=th123.sa (x:=F2 b') hw125;have kb:Kr G χ w125:=Kr.trans (hw123▸Kr.set χ 1 _) (hw125▸Kr.set w123 2 _);have hkr:¬kk= .r:=λe=>by rw [e]at hk2;simp at hk2
     rw [Nt hkr];exact⟨n2,F2,F2 a',F2 b',q107.out kb (λg H e=>by omega) J,(mk69.ex x107).kp kb (by omega),mf107.kp kb (by omega),Rn.refl n2 F2,th125,.inr (.inr ⟨rfl,rfl⟩)⟩
    have zero:(kk= .t\/kk= .p)->∃(n3:Nat) (F3:Nat->Nat) (a1 b1:Nat),Kq m r β ζ/\Mk ζ m n3/\jj ζ r F3/\Rn n2 n3 (if kk= .r then [b]else []) F2 F3/\jT ζ G kk.byte a1 b1 (.pointer none) (.slice none 0 0)/\(kk= .t\/kk= .p\/(a1=F3 a/\b1=F3 b)):=by
     intro hk2;have hkr:¬kk= .r:=λe=>by rw [e]at hk2;simp at hk2
     rw [Nt hkr];exact⟨n2,F2,0,0,υ,mk69,mf69,Rn.refl n2 F2,th69,hk2.elim .inl λh=> .inr (.inl h)⟩
    cases kk
    case s=>exact aR (by decide) ⟨λ _=>cI (by decide) (two (.inl rfl)),λh=>absurd h (by decide)⟩
    case m=>exact aR (by decide) ⟨λh=>absurd h (by decide),λ _=>cI (by decide) (two (.inr rfl))⟩
    case t=>exact aR (by decide) ⟨λh=>absurd h (by decide),λ _=>aR (by decide) (zero (.inl rfl))⟩
    case p=>exact aR (by decide) ⟨λh=>absurd h (by decide),λ _=>aR (by decide) (zero (.inr rfl))⟩
    case r=>
     obtain⟨rfl,rfl⟩:a'=a/\b'=b:=by rcases hkk with h | h | h<;>first | exact h | cases h
     obtain⟨v1,v2,v3,v4⟩:=u2 rfl;simp only [O9,M0,Np]at bvt;refine cI (by decide) ⟨g,0,H,a',cg υ c1,198,[ptr b4],rfl,by kernel_rfl,Bs (c4b υ) mf69 ⟨⟨⟨_,th69.c1⟩,th69.f 1⟩,λw82 hw82=>⟨λw'=>Kq m r β w',λw84 hw84=>?_⟩⟩⟩;have th82:=th69.zQ (x:=F2 a') hw82;have kb82:Kr G ζ w82:=hw82▸Kr.set ζ 1 _;have x84:Ex w82 w84:=hw84▸Ex.drew w82;have q82:Kq m r β w82:=υ.out kb82 (λg H e=>by omega) J;have q84:=q82.ex x84 J;have mk82:=mk69.kp kb82 (by omega);have mf82:=mf69.kp kb82 (by omega);refine⟨q84,_,λw' q=>c4b q,g,0,H,b',λw' q=>cg q c2,rR (mk82.ex x84) (by omega) λw90 k90 m90=>?_⟩;have q90:=q84.km k90;have th90:=(th82.kp (Kp.ah x84 λ _=>False) λh=>h).kp k90.kp (by omega);obtain⟨mm,hm1,hm2⟩:=(mf82.kp (Kp.ah x84 λ _=>False) (λh=>h)).kp k90.kp (λe=>ψ e.symm);refine⟨q90,r,mm,rfl,hm1,λw93 hm93 hb93=>?_⟩;have kr93:Kp w90 w93 (λg=>g=r):=⟨hb93.os,hb93.tape,hb93.output,by rw [hb93.size];exact Nc _,λg _ H=>hb93.block g H⟩
     have q93:=q90.blk hb93 J ψ;have mk93:=m90.kp kr93 ψ;have th93:=th90.kp kr93 (by omega);refine⟨λw'=>Ex w93 w',λw95 hw95=>?_⟩;have x95:Ex w93 w95:=hw95▸Ex.drew w93;have q95:=q93.ex x95 J;have th95:=th93.kp (Kp.ah x95 λ _=>False) λh=>h
     refine⟨x95,_,λw' x=>c4b (q93.ex x J),g,0,H,b',λw' x=>cg (q93.ex x J) c2,r,_,rfl,iq hm93 (x95.block r (iu hm93)),((n2+101:Nat):Int),true,.inl ⟨rfl,by unfold gz;simp⟩,⟨⟨_,th95.c2⟩,th95.f 2⟩,λw105 hw105=>?_⟩;have kb105:Kr G w95 w105:=hw105▸Kr.set w95 2 _;refine⟨n2+1,aF F2 b' (n2+101),F2 a',n2+101,q95.out kb105 (λg H e=>by omega) J,(mk93.ex x95).kp kb105 (by omega),((r6 hm2 hm93).kp (Kp.ah x95 λ _=>False) (λh=>h)).kp kb105 (by omega),Rn.one n2 b' F2,th95.sa hw105,.inr (.inr ⟨?_,?_⟩)⟩
     ·exact(Nt λe=>v2 e.symm).symm
     ·simp [aF]
   ·obtain⟨n3,F3,a1,b1,q146,mk146,mf146,rn146,th146,hab⟩:=hJ;have hbr:∃br,vr=ptr br:=by obtain⟨br,_,_,_,e,_⟩:=hlv;exact⟨br,e⟩
    obtain⟨br,rfl⟩:=hbr;have h68:β.heap.size<=G:=by omega
    refine⟨λw'=>∃(n4:Nat) (F4:Nat->Nat) (vr2:Value),Kq m r β w'/\Mk w' m n4/\jj w' r F4/\Rn n2 n4 ((if kk= .r then [b]else [])++(o'++q.bvs)) F2 F4/\jT w' G kk.byte a1 b1 vr2 (.slice none 0 0)/\aH (λg=>β.heap.size<=g/\g< w'.heap.size) w' (o'.map F4,q.map F4) vr2/\(kk= .t\/kk= .p\/(a1=F4 a/\b1=F4 b)),⟨g,0,H,ptr br,cg q146 c3,some ⟨br,0,none⟩,rfl,λ _=>⟨λw'=>Kq m r β w',λw153 hw153=>?_⟩,λh=>by cases h⟩,λw162 hJ=>?_⟩
    ·have x153:Ex w146 w153:=hw153▸Ex.drew w146;have q153:=q146.ex x153 J;have rl:=rn146.len;have hb1:(if kk= .r then [b]else []).length=if kk= .r then 1 else 0:=by split<;>rfl
     have hl153:fL D w153 (ptr br) o' (af D w153 q):=hlv.kp (q59.trans q153).kp hD λl h=>h.kp (q59.trans q153).kp hD
     refine⟨q153,g,0,H,ptr br,λw' x=>cg x c3,_,λw' x=>c4b x,ih q.sz (by omega) (Nc _) hq hl153 hD u1 (mk146.ex x153) (mf146.kp (Kp.ah x153 λ _=>False) (λh=>h)) ψ (by omega) (by omega) λv158 w159 F4 n4 q159 mk159 mf159 rn159 l159=>?_⟩;have s153:=x153.size;have hb68l:=th146.lt;have th159:=(th146.kp (Kp.ah x153 λ _=>False) λh=>h).kp q159.kp (by omega);refine⟨l159.one,⟨⟨_,th159.c3⟩,th159.f 3⟩,λw161 hw161=>?_⟩;have kb161:Kr G w159 w161:=hw161▸Kr.set w159 3 _;have s159:=q159.size;have s161:=kb161.size;have ndb:=huqe.nd;rw [N2,ebv]at ndb;have nfb:=huqe.nf;rw [ebv]at nfb;have hdis2:=(NU.1 ndb).2.2;refine⟨n4,F4,v158,(q153.trans q159).out kb161 (λg H e=>by omega) J,mk159.kp kb161 (by omega),mf159.kp kb161 (by omega),rn146.app rn159 (λx hx hx'=>hdis2 x hx x hx' rfl),th159.DP hw161,?_,?_⟩
     ·exact aH.sub (aH.kp (aH.sub (E:=λg=>w153.heap.size<=g/\g< w159.heap.size) l159 λg H hd=>⟨hd,H⟩) kb161 λg H e=>by omega) λg _ H=>⟨by have :=q153.size;omega,by omega⟩
     ·rcases hab with h | h | ⟨ha,hb⟩
      ·exact .inl h
      ·exact .inr (.inl h)
      ·by_cases hkt:kk= .t\/kk= .p
       ·exact hkt.elim .inl λh=> .inr (.inl h)
       ·right;right;have hfa:a∉o'++q.bvs:=λhm=>nfb a (NG _ hm) (by
         cases kk
         ·exact .inl ⟨.inl rfl,.inl rfl⟩
         ·exact .inr (.inl ⟨rfl,rfl⟩)
         ·exact absurd (.inl rfl) hkt
         ·exact .inl ⟨.inr rfl,.inl rfl⟩
         ·exact absurd (.inr rfl) hkt)
        have hfb:b∉o'++q.bvs:=λhm=>by
         by_cases hkr:kk= .r
         ·have :=u2 hkr;exact(Nk.1 hm).elim this.2.2.1 this.2.2.2
         ·exact nfb b (NG _ hm) (by
           cases kk
           ·exact .inl ⟨.inl rfl,.inr rfl⟩
           ·exact absurd rfl hkr
           ·exact absurd (.inl rfl) hkt
           ·exact .inl ⟨.inr rfl,.inr rfl⟩
           ·exact absurd (.inr rfl) hkt)
        rw [rn159.out a hfa,rn159.out b hfb];exact⟨ha,hb⟩
    ·obtain⟨n4,F4,vr2,q162,mk162,mf162,rn162,th162,l162,hab4⟩:=hJ;refine⟨g,0,H,.slice none 0 0,cg q162 c4',none,0,0,rfl,λy w'=>y=0/\w'=w162,λ _ _=>0,⟨rfl,rfl⟩,λy Z hy=>?_⟩;obtain⟨rfl,rfl⟩:=hy;refine⟨λh=>by simp at h,λ _=>fin G Z n4 F4 h68 th162.lt q162 mk162 mf162 (by rw [ebv];exact rn162) ?_⟩;refine⟨ptr G,[],a1,b1,vr2,rfl,th162.Le ⟨h68,th162.lt⟩,?_,l162,rfl⟩;rcases hab4 with h | h | ⟨h1,h2⟩
     ·exact .inl h
     ·exact .inr (.inl h)
     ·by_cases hkt:kk= .t\/kk= .p
      ·exact hkt.elim .inl λh=> .inr (.inl h)
      ·exact .inr (.inr ⟨by rw [Nt hkt];exact h1,by rw [Nt hkt];exact h2⟩)
  ·obtain⟨t,ts',a',b',vp,us,e1,ht,hus,hps2,_⟩:=he3;obtain⟨rfl,rfl⟩:=Oa e1;obtain⟨g,H,hgD,hg2,c0,c1,c2,c3,c4'⟩:=ht;have cg:∀{w1:World},Kq m r β w1->∀{j:Nat} {u:Value},w.cell? ⟨g,j,none⟩=some u->w1.cell? ⟨g,j,none⟩=some u:=λx j u hu=>by
    rw [M5 (w:=w) ((q59.trans x).kp.block g hg2 (hD g hgD))];exact hu
   have q0:=Kq.refl m r β;have uq:=huqe.sum;have ebv:(Lv.sum ps .nil).bvs=ps.bvs:=by simp [Lv.bvs]
   rw [ebv]at bvt;simp only [Lv.sz]at hsz;simp only [Lv.tot]at htt;obtain⟨au,cau,hvu⟩:=hus.slice;have hul:=hps2.len;have hpl:=Lv.cu ps;have hpt:=bL ps;refine⟨g,0,H,43,cg q0 c0,λG ζ hb68 hw69=>⟨λw'=>w'=ζ,⟨g,0,H,43,?_,aR (by decide) ⟨λh=>absurd h (by decide),λ _=>aR (by decide) rfl⟩⟩,λw146 hJ=>⟨λw'=>w'=ζ,?_,λw162 hJ2=>?_⟩⟩⟩
   all_goals have x69:Ex β ζ:=hw69▸Ex.alloc β _
   all_goals have υ:Kq m r β ζ:=q0.ex x69 J
   ·exact cg υ c0
   ·subst hJ;exact⟨g,0,H,.pointer none,cg υ c3,none,rfl,λh=>(by cases h),λ _=>rfl⟩
   subst hJ2;have h68:β.heap.size<=G:=by omega
   have th69:jT w162 G 43 0 0 (.pointer none) (.slice none 0 0):=jT.new hb68 hw69;refine⟨g,0,H,vp,cg υ c4',au,_,cau,hvu,λy w'=>∃(j n3:Nat) (F3:Nat->Nat) (ι:Value) (us2:List Value),y=j/\j<=us.length/\Kq m r β w'/\Mk w' m n3/\jj w' r F3/\Rn n2 n3 (ps.take j).bvs F2 F3/\jT w' G 43 0 0 (.pointer none) ι/\aE 59 β.heap.size w' ι us2/\(∀g,ι.ownBlock=some g->g≠G)/\af (λg=>(β.heap.size<=g/\g≠G/\ι.ownBlock≠some g)/\g< w'.heap.size) w' ((ps.take j).map F3) us2,
    λy _=>(us.length - y).toNat,⟨0,n2,F2,.slice none 0 0,[],rfl,N5 _,υ,γ.mc.ex x69,γ.mf.kp (Kp.ah x69 λ _=>False) (λh=>h),Rn.refl n2 F2,th69,aE.nil _ _ _,λg H=>(by cases H),rfl⟩,λy Z hI2=>?_⟩
   obtain⟨j,n3,F3,ι,us2,rfl,hj,η,mk172,mf172,ν,θ,ho172,hnb,ht172⟩:=hI2;refine⟨λhlt2=>?_,λhge2=>?_⟩;rotate_left
   ·have hje:j=ps.a8.length:=by simp only [No]at hge2;omega
    rw [hje,Lv.cL]at ν ht172;refine fin G Z n3 F3 h68 θ.lt η mk172 mf172 (by rw [ebv];exact ν) ⟨ptr G,[],0,0,ι,us2,rfl,θ.Le ⟨h68,θ.lt⟩,ho172.AS (λg H=>ho172.block g H),af.sub (λg _ H=>⟨H.1.1,H.2⟩) ht172,rfl⟩
   have hju:=oL hlt2;have hje:j< ps.a8.length:=by omega
   obtain⟨bu,ou,capu',hvu',hcu⟩:∃bu ou capu',vp= .slice (some ⟨bu,ou,none⟩) us.length capu'/\Z.cell? ⟨bu,ou+j,none⟩=some us[j]:=by
    rcases hus with⟨_,h0⟩ | ⟨bt,ot,μ,e,hbD,hb',hcell⟩
    ·rw [h0]at hju;simp at hju
    ·exact⟨bt,ot,μ,e,by rw [M5 (w:=w) ((q59.trans η).kp.block bt hb' (hD bt hbD))];exact hcell j _ (M6 hju)⟩
   obtain⟨e,hf1,hf2,hf3⟩:=aO.single hps2.a8 (M6 hju);have hf4:ps.a8[j]=e:=by rw [M6 hje]at hf1;exact NY hf1
   have hts2:=Lv.take_succ ps j hje;rw [hf4]at hts2;obtain⟨hdis2,bvt2⟩:=Hf uq hts2;have huqe2:=uq.a8 hf2;have hsz2:=Lv.dQ ps e hf2;have htt2:=Lv.fS ps e hf2;obtain⟨o2,q,rfl,hq⟩:=Lv.lI hps e hf2;simp only [Lv.sz]at hsz2;simp only [Lv.tot]at htt2;have ebv2:(Lv.part o2 q .nil).bvs=o2++q.bvs:=by simp [Lv.bvs]
   rw [ebv2]at bvt2 hdis2;rw [Nb]at bvt2;obtain⟨v2,ts3,e2,hlv2,_⟩:=hf3;obtain⟨rfl,rfl⟩:=Oa e2;have rl:=ν.len;have s172:=η.size;refine⟨bu,ou,_,capu',hvu',by omega,by omega,us[j],by rw [Nf,NQ];exact hcu,λw'=>Kp Z w' λg=>g=m\/g=r\/ι.ownBlock=some g,λw179 hw179=>?_⟩;have ο:Ex Z w179:=hw179▸Ex.drew Z;have q179:=η.ex ο J;have hob:=ho172.block;have hb68l:=θ.lt;have nb68:¬(G=m\/G=r\/ι.ownBlock=some G):=λe=>by
    rcases e with e | e | e
    ·omega
    ·omega
    ·exact hnb _ e rfl
   have nb4:¬(b4=m\/b4=r\/ι.ownBlock=some b4):=λe=>by
    rcases e with e | e | e
    ·omega
    ·omega
    ·have :=hob _ e;omega
   have hl179:fL D w179 us[j] o2 (af D w179 q):=hlv2.kp (q59.trans q179).kp hD λl h=>h.kp (q59.trans q179).kp hD
   refine⟨Kp.ah ο _,ι,λw' k=>by rw [M5 (w:=Z) (k.block G hb68l nb68)];exact θ.c4,.map (some r),λw' k=>by rw [M5 (w:=Z) (k.block b4 (by omega) nb4)];exact c4b η,?_⟩;refine ih q.sz (by omega) (Nc _) hq hl179 hD huqe2.part (mk172.ex ο) (mf172.kp (Kp.ah ο λ _=>False) (λh=>h)) ψ (by omega) (by omega) λv182 w183 F4 n4 q183 mk183 mf183 rn183 l183=>?_
   have k183:Kp Z w183 λg=>g=m\/g=r\/ι.ownBlock=some g:=Kp.trans (Kp.ah ο _) (Kp.mono (λg e=>e.elim .inl λe=> .inr (.inl e)) q183.kp) λ _ _ h=>h
   refine⟨k183,l183.one,λb184 w185 hb184 hw185=>?_⟩;have ς:Ex w183 w185:=hw185▸Ex.alloc w183 _;have s185:w185.heap.size=w183.heap.size+1:=by rw [hw185,size_alloc]
   have s179:=ο.size;have s183:=q183.size;have hMr:∀g,ι.ownBlock=some g->¬(g=m\/g=r):=λg H e=>by
    have :=hob g H;rcases e with e | e<;>omega
   have ho185:aE 59 β.heap.size w185 ι us2:=((ho172.kp (Kp.ah ο λ _=>False) λ _ _ h=>h).kp q183.kp hMr).kp (Kp.ah ς λ _=>False) λ _ _ h=>h
   have hlu:us2.length<=us.length:=by
    have h1:=ht172.len;have h2:=Cp F3 (ps.take j);have :=Lv.gu ps j;omega
   refine⟨Kp.trans k183 (Kp.ah ς λ _=>False) λ _ _ h=>h.elim,aE.push ho185 (by omega) (m:=[v182]) (D:=λ _=>True) (.inr ⟨b184,0,1,rfl,trivial,by omega,λi y hy=>?_⟩) (by simp only [Oj,PT,PJ];exact l183.one) (by omega) (by simp only [M0,Np];omega) λv191 w192 ho192 hg192 hn192=>?_⟩
   ·cases i with
    | zero=>simp only [OY,Ow]at hy;subst hy;rw [hw185,hb184];exact aa rfl
    | succ i=>simp at hy
   have k192:Kp w185 w192 λg=>ι.ownBlock=some g:=Kp.aG hg192 λ _ h=>h
   have th185:=((θ.kp (Kp.ah ο λ _=>False) λh=>h).kp q183.kp (λe=>by rcases e with e | e<;>omega)).kp (Kp.ah ς λ _=>False) λh=>h
   have th192:=th185.kp k192 λe=>hnb _ e rfl
   refine⟨Kp.trans (Kp.trans k183 (Kp.ah ς λ _=>False) λ _ _ h=>h.elim) k192 λg _ h=> .inr (.inr h),ho192.uw,⟨⟨_,th192.c4⟩,th192.f 4⟩,λw194 hw194=>⟨by omega,?_,tN (by omega)⟩⟩;have kb194:Kr G w192 w194:=hw194▸Kr.set w192 4 _;have k194:Kp w185 w194 λg=>ι.ownBlock=some g\/g=G:=Kp.trans (Kp.mono (λ _ h=> .inl h) k192) kb194 λ _ _ h=> .inr h
   have s194:=k194.size;have hnew:∀g,v191.ownBlock=some g->ι.ownBlock=some g\/w185.heap.size<=g:=hn192;have q185:Kq m r β w185:=(q179.trans q183).ex ς J;have keep:(ps.take j).map F4=(ps.take j).map F3:=ch λx hx=>rn183.out x λhxe=>by
    rcases hx with hx | hx
    ·exact hdis2 x hx hxe
    ·exact uq.nf x ((Lv.lD ps _ hf2).subset (by rw [ebv2];exact hxe)) (oZ ps j hx)
   have hS:∀g,(ι.ownBlock=some g\/g=G)->β.heap.size<=g:=λg e=>e.elim (λe=>(hob g e).1) λe=>by omega
   refine⟨j+1,n4,F4,v191,us2++[v182],by omega,by omega,q185.out k194 (λg H e=>by have :=hS g e;omega) J,(mk183.ex ς).kp k194 (λe=>by have :=hS _ e;omega),(mf183.kp (Kp.ah ς λ _=>False) (λh=>h)).kp k194 (λe=>by have :=hS _ e;omega),?_,th192.Kt hw194,ho192.kp kb194 (λg H e=>?_),λg H e=>?_,?_⟩
   ·rw [hts2,Lv.cO,ebv2];exact ν.app rn183 hdis2
   ·rcases hnew g H with h | h
    ·exact hnb g h e
    ·omega
   ·rcases hnew g H with h | h
    ·exact hnb g h e
    ·omega
   ·rw [hts2,Lv.eO,keep];refine af.app ?_ ?_
    ·refine af.sub (λg _ H=>⟨⟨H.1.1,H.1.2.1,λe=>(hnew g e).elim H.1.2.2 λh=>by omega⟩,by omega⟩) (af.kp k194 (λg H e=>e.elim H.1.2.2 H.1.2.1) (af.ex (af.kp q183.kp (λg H e=>by
      have :=H.1.1;rcases e with e | e<;>omega) (af.ex ht172 ο)) ς))
    ·refine⟨v182,[],rfl,?_,rfl⟩;have l183':=aH.sub (E:=λg=>w179.heap.size<=g/\g< w183.heap.size) l183 λg H hd=>⟨hd,H⟩
     exact aH.sub (aH.kp (aH.ex l183' ς) k194 λg H e=>by
      rcases e with e | e
      ·have :=hob g e;omega
      ·omega) λg _ H=>⟨⟨by omega,by omega,λe=>(hnew g e).elim (λh=>by have :=hob g h;omega) λh=>by omega⟩,by omega⟩
def E5 (k:Nat):JT k:=by
 induction k using Nat.strongRecOn with
 | _ k G=>exact An k G
def MP (acc:List Tx)(s:Tx):List Tx:=if acc.getLast?=some s then acc else acc++[s]
def dd (l:List Tx):List Tx:=l.foldl MP []
structure LQ (B:Nat)(w:World)(r:Nat)(l:List Tx)(bad:Bool)(M:Nat->Prop):Prop where
 lt:r< w.heap.size
 mb:M r
 mr:∀g,M g->B<=g/\g< w.heap.size
 f:∀j,w.frozen? ⟨r,j,none⟩=false
 c1:w.cell? ⟨r,1,none⟩=some (.bool bad)
 sl:∃v,w.cell? ⟨r,0,none⟩=some v/\Own B w v l/\∀g,v.ownBlock=some g->M g/\g≠r
def LQ.kp {B:Nat}{w w':World}{r:Nat}{l:List Tx}{bad:Bool}{M S:Nat->Prop}(h:LQ B w r l bad M)(k:Kp w w' S)(H:∀g,M g->¬S g):LQ B w' r l bad M:=by
 have e:=k.block r h.lt (H r h.mb);obtain⟨v,h1,Z,J⟩:=h.sl;exact⟨Nz h.lt k.size,h.mb,λg G=>⟨(h.mr g G).1,Nz (h.mr g G).2 k.size⟩,λj=>by rw [NH (w:=w) e];exact h.f j,by rw [M5 (w:=w) e];exact h.c1,v,by rw [M5 (w:=w) e];exact h1,Z.kp k λg G=>H g (J g G).1,J⟩
def Own.uw {B:Nat}{w:World}{v:Value}{l:List Tx}(h:Own B w v l):oneV v=true:=by
 rcases h.2 with⟨rfl,_⟩ | ⟨g,cap,cur,rfl,_⟩<;>rfl
attribute [go_sem] Tryz.f167
attribute [go_sem] Tryz.f97
attribute [go_sem] Tryz.f103
attribute [go_sem] Tryz.f53
attribute [go_sem] Tryz.f147
def mu (s1:Value)(G:Int)(w:World)(R:Bool->Qx)(h:vc az (aZ [] [] []) (ab Tryz.f147) (ai 0 [.v s1,.i G]) w (fin az [.tmp 4 .b] R)):
  Qy 147 #[s1,(.int .i64 G)] w (ax [.b] R):=
 a7 Tryz.func147 (by kernel_rfl) h
attribute [go_sem] Tryz.f200
def CS {D:Nat->Prop}{w:World}{v:Value}{o:List Nat}{x:Nat}(h:dG D w v (o.map iv))(hl:o.length<=1099511627776){R:Bool->Qx}(hR:R (decide (x∈o)) w):
  Qy 183 #[v,iv x] w (ax [.b] R):=by
 refine jf v x w R ?_;dsimp only [go_sem];refine ma v x w _ ?_;dsimp only [go_sem];dsimp only [go_sem,Nat.reduceAdd];obtain⟨ao,cap,hv⟩:=h.slice;rw [Nq]at hv;refine⟨ao,_,cap,hv,λi w'=>∃j:Nat,i=j/\j<=o.length/\w'=w/\x∉o.take j,λi _=>(o.length - i).toNat,⟨0,rfl,N5 _,rfl,by simp⟩,λi w' hI=>?_⟩;obtain⟨j,rfl,hj,rfl,hm⟩:=hI;refine⟨λJ=>?_,λZ=>?_⟩
 ·have G:=oL J;refine h.Lz (Int.natCast_nonneg j) (gE G) (Q:=λn=>_) ⟨λhe=>?_,λH=>?_⟩
  ·have he:x=o[j]:=by simp only [Nj]at he;omega
   show R (decide (0<=(j:Int))) _;rw [OS (show(0:Int)<=(j:Int) by omega)];rw [OS (show x∈o by rw [he];exact NC G)]at hR;exact hR
  ·have H:x≠o[j]:=by simp only [No]at H;omega
   refine⟨by omega,⟨j+1,by omega,by omega,rfl,?_⟩,tN (by omega)⟩;rw [Ng G,Nk,ND];exact λh=>h.elim hm H
 ·have:j=o.length:=by simp only [No]at Z;omega
  rw [this,NR]at hm;show R (decide ((0:Int)<= -1)) _;rw [OD (show ¬(0:Int)<= -1 by omega)];rw [OD hm]at hR;exact hR
def KZ {D:Nat->Prop}{w:World}{s n x nm:Nat}{o:List Nat}{l:Lv}{c0 c1 c4 vr:Value}(κ:Mk w s n)(h:fL D w vr o (af D w l))(hD:∀g,D g->g≠s)(hsh:l.sh true=true)(huq:ua o l)(hnn:n+o.length+l.bvs.length<=4294967296)(μ:o.length+l.tot<=4294967296){R:Value->Qx}
  (hR:∀v' w' F' n',Km s w w'->Mk w' s n'->Rn n n' (o++l.bvs) (aF id x nm) F'->aH (Cv w) w' (o.map F',l.map F') v'->R v' w'):
  Qy 115 #[ptr s,.agg (List.toArray [c0,c1,iv x,vr,c4]),iv nm] w (ax [.v] R):=by
 refine iV (ptr s) _ nm w R ?_;dsimp only [go_sem];refine⟨_,rfl,λb5 H ν δ=>⟨λw'=>Kp H w' (λg=>g=s\/H.heap.size<=g),λw8 ξ=>?_⟩⟩;have x6:Ex w H:=δ▸Ex.alloc w _;have s6:H.heap.size=w.heap.size+1:=by rw [δ,size_alloc]
 have x8:Ex H w8:=ξ▸Ex.drew H;have s8:w8.heap.size=H.heap.size:=by rw [ξ];rfl
 have ο:=κ.lt;have ς:¬(b5=s\/H.heap.size<=b5):=λe=>by rcases e with e | e<;>omega
 have d3:H.cell? ⟨b5,3,none⟩=some vr:=by rw [δ,ν];exact aa rfl
 have d2:H.cell? ⟨b5,2,none⟩=some (iv x):=by rw [δ,ν];exact aa rfl
 have l5:b5< H.heap.size:=by omega
 refine⟨Kp.ah x8 _,s,0,rfl,vr,λw' k=>by rw [M5 (w:=H) (k.block b5 l5 ς)];exact d3,x,λw' k=>by rw [M5 (w:=H) (k.block b5 l5 ς)];exact d2,λε ζ υ J=>?_⟩;have η:Ex w8 ζ:=J▸Ex.alloc w8 _;have s14:ζ.heap.size=w8.heap.size+1:=by rw [J,size_alloc]
 have φ:IsMap ζ ε (.int .i64) (eG []):=⟨#[],0,by rw [J,υ];unfold World.alloc;simp,⟨by simp,by simp,by simp⟩,by simp,λq=>rfl⟩
 refine⟨Kp.ah (Ex.trans x8 η) _,ε,_,rfl,φ,λZ χ G=>?_⟩;have ι:Kp ζ Z (λg=>g=ε):=⟨G.os,G.tape,G.output,by rw [G.size];exact Nc _,λg _ hg=>G.block g hg⟩
 have s17:=ι.size;have θ:Kp H Z (λg=>g=s\/H.heap.size<=g):=Kp.trans (Kp.ah (Ex.trans x8 η) _) ι λg _ e=> .inr (by omega)
 have β:Ex w Z:=Ex.below (Ex.trans (Ex.trans x6 x8) η) (Kp.below ι (Ex.trans (Ex.trans x6 x8) η).size λg hg e=>by omega);refine⟨θ,?_⟩;have ψ:jj Z ε (aF id x nm):=r6 (F:=id) (λz=> .inr ⟨rfl,rfl⟩) χ;have h':fL (λg=>D g/\g< w.heap.size) w vr o (af (λg=>D g/\g< w.heap.size) w l):=aH.sub (L:=(o,l)) h λg hg hd=>⟨hd,hg⟩
 refine E5 _ (Nc _) hsh (fL.ex h' β) (λg hg e=>?_) huq (κ.ex β) ψ (by omega) hnn μ λv18 w19 F' n' γ ω mf19 rn19 l19=>?_
 ·rcases e with e | e
  ·exact hD g hg.1 e
  ·omega
 ·have s19:=γ.size;refine⟨Kp.trans θ (Kp.mono (λg e=>e) γ.kp) λg hg e=>e.elim .inl λe=> .inr (by omega),hR v18 w19 F' n' ⟨?_,λj hj=>?_,λj=>?_⟩ ω rn19 (aH.sub l19 λg _ hg=>by show w.heap.size<=g;have:Z.heap.size<=g:=hg;omega)⟩
  ·exact Kp.trans (Kp.ah β _) γ.kp λg hg e=>e.elim id λe=>by omega
  ·rw [γ.ce j hj,β.cell (show s< _ from ο)]
  ·rw [γ.fz j,Pb β ο]
def Ah {X:Type}(P:Nat->Bool)(x:X):∀(l:List X) (k:Nat),jJ P (l++[x]) k=jJ P l k++if P (k+l.length)then []else [x]
 | [],k=>by rw [N2,bT,gX];simp [gX]
 | y::l,k=>by
  rw [N6,bT,bT,Ah P x l (k+1),M0,show k+1+l.length=k+(l.length+1) by omega];split<;>simp
def elsL:List Lv->Lv
 | []=> .nil
 | e::r=>e.app (elsL r)
def AM:∀l m:List Lv,elsL (l++m)=(elsL l).app (elsL m)
 | [],m=>rfl
 | e::l,m=>by simp only [N6,elsL,AM l m,Lv.cc]
def Fs (e:Lv):elsL [e]=e:=Lv.aT e
def rm {X:Type}{P:Nat->Bool}:∀{l:List X} {k:Nat} {x:X},x∈jJ P l k->x∈l
 | [],k,x,h=>by rw [gX]at h;cases h
 | y::l,k,x,h=>by
  rw [bT]at h;split at h
  ·exact Nh _ (rm h)
  ·rcases Nw.1 h with rfl | h
   ·exact NP ..
   ·exact Nh _ (rm h)
def xF {X:Type}(P:Nat->Bool):∀(l:List X) (k:Nat),(jJ P l k).Sublist l
 | [],k=>by rw [gX];exact Oc _
 | y::l,k=>by
  rw [bT];split
  ·exact(xF P l (k+1)).trans (List.sublist_cons_self ..)
  ·exact(xF P l (k+1)).cons_cons y
def mJ (l:List Lv):Nat:=(l.map Lv.tot).sum
def kc:∀l:List Lv,(elsL l).tot=mJ l
 | []=>rfl
 | e::l=>by simp only [elsL,Lv.bM,kc l,mJ,NI,Ol]
def B9 {l m:List Lv}(h:l.Sublist m):mJ l<=mJ m:=by
 induction h with
 | slnil=>exact Nc _
 | cons a _ G=>simp only [mJ,NI,Ol]at*;omega
 | cons_cons a _ G=>simp only [mJ,NI,Ol]at*;omega
def nM:∀l:Lv,elsL l.a8=l
 | .nil=>rfl
 | .thr k a b o r n=>by simp only [Lv.a8,elsL,nM n,Lv.app]
 | .sum ps n=>by simp only [Lv.a8,elsL,nM n,Lv.app]
 | .part o q n=>by simp only [Lv.a8,elsL,nM n,Lv.app]
def Dh {b:Bool}:∀{l:List Lv},(∀e∈l,e.sh b=true)->(elsL l).sh b=true
 | [],_=>by cases b<;>rfl
 | e::l,h=>Lv.gF (h e (by simp)) (Dh λx G=>h x (by simp [G]))
def IV:∀{l:Lv},l.sh true=true->∀e∈l.a8,e.sh true=true:=λ{l} h e he=>by
 rcases Lv.jh h e he with⟨k,a,b,o,r,rfl,hr⟩ | ⟨ps,rfl,G⟩
 ·simp only [Lv.sh,hr,OA]
 ·simp only [Lv.sh,G,OA]
def y6:∀{l:List (List Nat×Lv)},(∀x∈l,x.2.sh true=true)->(joinL l).2.sh true=true
 | [],_=>rfl
 | x::l,h=>Lv.gF (h x (by simp)) (y6 λy G=>h y (by simp [G]))
def ki:∀(l:List (List Nat×Lv)) (j:Nat),(joinL (l.take j)).1.length<=(joinL l).1.length/\(joinL (l.take j)).2.tot<=(joinL l).2.tot
 | [],j=>by simp [joinL]
 | x::l,0=>by simp [joinL,Lv.tot]
 | x::l,j+1=>by
  obtain⟨h1,G⟩:=ki l j;simp only [PL,joinL,Nb,Lv.bM];omega
def IL {D:Nat->Prop}{w:World}{s:Nat}{O:List Nat}{l:Lv}{vl vg vo vm:Value}{gl:List Nat}{ms:List (List Nat×Lv)}{mvs:List Value}(hcl:w.cell? ⟨s,2,none⟩=some vl)(hls:s< w.heap.size)(hl:aH D w (O,l) vl)(H:dG D w vg (gl.map iv))(hgl:gl.length<=1000)(ho:dG D w vo (O.map iv))(hm:dG D w vm mvs)
  (hms:aO (λL v=>aH D w L v) ms mvs) (hml:mvs.length<=1000) (hsh:l.sh true=true) (hmsh:∀x∈ms,x.2.sh true=true) (htot:O.length+(joinL ms).1.length+(l.tot+(joinL ms).2.tot)<=4294967295)
  {P:Nat->Bool} (hP:∀i,P i=decide (i∈gl)) {res:List Nat×Lv} (ξ:res=(O++(joinL ms).1,(elsL (jJ P l.a8 0)).app (joinL ms).2)) (huq:ua (Lv.tidy res.1 res.2).1 (Lv.tidy res.1 res.2).2) (hfr:∀x,x∉(Lv.tidy res.1 res.2).1->(Lv.tidy res.1 res.2).2.fh x->x< 26)
  {R:aJ->Bool->Qx} (hR:∀w',Ex w w'->(∀s,BG (Lv.tidy res.1 res.2)=some s->R s true w')/\(BG (Lv.tidy res.1 res.2)=none->R [] false w')):
  Qy 114 #[ptr s,vg,vo,vm] w (ax [.s,.b] R):=by
 refine mD (ptr s) vg vo vm w R ?_;dsimp only [go_sem];dsimp only [go_sem,Nat.reduceAdd];refine xX ho (by omega) λv5 w6 x6 ho6=>⟨ho6.uw,λb7 w8 hb7 ο=>?_⟩
 have x8':Ex w6 w8:=ο▸Ex.alloc w6 _;have x8:=Ex.trans x6 x8';have s8:w8.heap.size=w6.heap.size+1:=by rw [ο,size_alloc]
 have s6:=x6.size;have bd8:jI w.heap.size w8 b7 O [] λg=>g=b7\/v5.ownBlock=some g:=by
  refine⟨by omega,by omega,.inl rfl,λg H=>?_,λj=>?_,v5,.slice none 0 0,?_,?_,ho6.kp (Kp.ah x8' λ _=>False) (λ _ _ h=>h),aE.nil _ _ _,λg H=>⟨.inr H,?_⟩,λg H=>(by cases H),λg _ H=>(by cases H)⟩
  ·rcases H with rfl | H
   ·omega
   ·have :=ho6.block g H;omega
  ·rw [ο,hb7];exact aW _ _ _ _
  ·rw [ο,hb7];exact aa rfl
  ·rw [ο,hb7];exact aa rfl
  ·have :=ho6.block g H;omega
 obtain⟨bl,vo',vt,ts,rfl,h2,h3,h4,h5,h6,h7,h8⟩:=aH.sub (E:=λg=>g< w.heap.size) hl λg H _=>H
 obtain⟨at_,capt,hvt⟩:=h7.slice;have hlen:ts.length=l.len:=h8.len;have hel:=Lv.cu l;have hlt:=bL l;have ς:∀i,mJ (jJ P (l.a8.take i) 0)<=l.tot:=λi=>by
  have h1:=B9 ((xF P (l.a8.take i) 0).trans (List.take_sublist i l.a8));have h2:=kc l.a8;rw [nM]at h2;omega
 refine⟨s,0,rfl,ptr bl,by rw [x8.cell (show s< _ from hls)];exact hcl,bl,0,rfl,vt,by rw [x8.cell (show bl< _ from h3)];exact h5,at_,_,capt,hvt,λx w'=>∃(i:Nat) (β:List Value) (M:Nat->Prop),x=i/\i<=ts.length/\Ex w w'/\jI w.heap.size w' b7 O β M/\af (λg=>g< w.heap.size) w' (elsL (jJ P (l.a8.take i) 0)) β,
  λx _=>(ts.length - x).toNat,⟨0,[],_,rfl,N5 _,x8,bd8,by rw [List.take_zero,gX];rfl⟩,λx w21 hI=>?_⟩
 obtain⟨i,β,M,rfl,hi,θ,J,γ⟩:=hI;have hl1:β.length<=l.tot:=by
  have h1:=γ.len;have h2:=bL (elsL (jJ P (l.a8.take i) 0));rw [kc]at h2;have :=ς i;omega
 refine⟨λhlt1=>?_,λhge1=>?_⟩
 ·have ι:i< ts.length:=by simp only [Nj]at hlt1;omega
  have hie:i< l.a8.length:=by omega
  obtain⟨bt,ot,G,hvt',hct⟩:∃bt ot G,vt= .slice (some ⟨bt,ot,none⟩) ts.length G/\w21.cell? ⟨bt,ot+i,none⟩=some ts[i]:=by
   rcases h7 with⟨_,h0⟩ | ⟨bt,ot,G,e,hbD,hb',δ⟩
   ·rw [h0]at ι;simp at ι
   ·exact⟨bt,ot,G,e,by rw [θ.cell (show bt< _ from hb')];exact δ i _ (M6 ι)⟩
  obtain⟨e,he1,he2,he3⟩:=aO.single h8.a8 (M6 ι);have he4:l.a8[i]=e:=by rw [M6 hie]at he1;exact NY he1
  have hts:jJ P (l.a8.take (i+1)) 0=jJ P (l.a8.take i) 0++if P i then []else [e]:=by
   rw [Ng hie,Ah,he4,NJ,NW,Pm (by omega)]
  refine⟨bt,ot,_,G,hvt',by omega,by omega,ts[i],by rw [Nf,NQ];exact hct,CS (H.ex θ) (by omega) ?_⟩;have hPi:=hP i;refine⟨λhq=>?_,λhq=>⟨by omega,⟨i+1,β,M,by omega,by omega,θ,J,?_⟩,tN (by omega)⟩⟩;rotate_left
  ·have hPt:P i=true:=by rw [hPi];cases h:decide (i∈gl)<;>first | rfl | (rw [h]at hq;cases hq)
   rw [hts,NO hPt,NM];exact γ
  have hPt:P i=false:=by rw [hPi];cases h:decide (i∈gl)<;>first | rfl | (rw [h]at hq;cases hq)
  obtain⟨vo1,vt1,d0,d1,d2,d3,d4,d5,d6⟩:=J.sl;have υ:=he3.all;simp only [Oj,PT,PJ]at υ;refine⟨vt1,d1,υ,λb30 κ hb30 φ=>?_⟩;have χ:Ex w21 κ:=φ▸Ex.alloc w21 _;have s31:κ.heap.size=w21.heap.size+1:=by rw [φ,size_alloc]
  have s21:=θ.size;have ψ:=J.ex χ;refine aE.push (d3.kp (Kp.ah χ λ _=>False) λ _ _ h=>h) (by omega) (m:=[ts[i]]) (D:=λ _=>True) (.inr ⟨b30,0,1,rfl,trivial,by omega,λi' y hy=>?_⟩) (by simp only [Oj,PT,PJ];exact υ) (by omega) (by simp only [M0,Np];omega) λv37 w38 ho38 hg38 hn38=>?_
  ·cases i' with
   | zero=>simp only [OY,Ow]at hy;subst hy;rw [φ,hb30];exact aa rfl
   | succ i=>simp at hy
  have k38:Kp κ w38 λg=>vt1.ownBlock=some g:=Kp.aG hg38 λ _ h=>h
  have e7:=k38.block b7 ψ.lt λe=>(d5 b7 e).2 rfl
  have c71:κ.cell? ⟨b7,1,none⟩=some vt1:=by rw [χ.cell (show b7< _ from J.lt)];exact d1
  refine⟨ho38.uw,⟨⟨vt1,by rw [M5 (w:=κ) e7];exact c71⟩,by rw [NH (w:=κ) e7];exact ψ.fr 1⟩,λw40 hw40=>⟨by omega,?_,tN (by omega)⟩⟩;obtain⟨bd40,k40⟩:=ψ.LK c71 k38 ho38 hn38 hw40;have ω:=Ex.trans θ χ;have x40:Ex w w40:=Ex.below ω (Kp.below k40 ω.size λg H hM=>by have :=(J.mr g hM).1;omega);refine⟨i+1,β++[ts[i]],_,by omega,by omega,x40,bd40,?_⟩;rw [hts,Nt (by rw [hPt];simp),AM,Fs];exact af.app (af.kp k40 (λg H hM=>by have :=(J.mr g hM).1;omega) (af.ex γ χ)) (af.ex he3 x40)
 ·have ι:i=l.a8.length:=by simp only [No]at hge1;omega
  rw [ι,NR]at γ;obtain⟨am,capm,hvm⟩:=hm.slice;have hl2:β.length<=l.tot:=hl1;have hmsl:=hms.1;refine⟨am,_,capm,hvm,λx w'=>∃(j:Nat) (ts2:List Value) (M2:Nat->Prop),x=j/\j<=mvs.length/\Ex w w'/\jI w.heap.size w' b7 (O++(joinL (ms.take j)).1) ts2 M2/\af (λg=>g< w.heap.size) w' ((elsL (jJ P l.a8 0)).app (joinL (ms.take j)).2) ts2,λx _=>(mvs.length - x).toNat,⟨0,β,M,rfl,N5 _,θ,by simpa [joinL]using J,by simpa [joinL,Lv.aT]using γ⟩,λx w47 hI=>?_⟩;obtain⟨j,ts2,M2,rfl,hj,μ,Z,η⟩:=hI;refine⟨λhlt2=>?_,λhge2=>?_⟩
  ·have ν:j< mvs.length:=by simp only [Nj]at hlt2;omega
   obtain⟨bm,om,ε,hvm',hcm⟩:∃bm om ε,vm= .slice (some ⟨bm,om,none⟩) mvs.length ε/\w47.cell? ⟨bm,om+j,none⟩=some mvs[j]:=by
    rcases hm with⟨_,h0⟩ | ⟨bt,ot,G,e,hbD,hb',δ⟩
    ·rw [h0]at ν;simp at ν
    ·exact⟨bt,ot,G,e,by rw [μ.cell (show bt< _ from hb')];exact δ j _ (M6 ν)⟩
   obtain⟨L,hL1,hL2,hL3⟩:=aO.single hms (M6 ν);have hjm:j< ms.length:=by omega
   have hL4:ms[j]=L:=by rw [M6 hjm]at hL1;exact NY hL1
   have ζ:joinL (ms.take (j+1))=((joinL (ms.take j)).1++L.1,(joinL (ms.take j)).2.app L.2):=by
    rw [Ng hjm,qc,hL4,u9]
   obtain⟨k1,k2⟩:=ki ms (j+1);rw [ζ]at k1 k2;simp only [Nb,Lv.bM]at k1 k2;obtain⟨ts3,hl3,ht3⟩:=aH.ths (aH.ex (aH.sub (E:=λg=>g< w.heap.size) hL3 λg H _=>H) μ);have h47:=η.len;have h47':=bL ((elsL (jJ P l.a8 0)).app (joinL (ms.take j)).2);rw [Lv.bM,kc]at h47';have hp:=ς l.a8.length;rw [NR]at hp;have h3l:=ht3.len;have h3t:=bL L.2;refine⟨bm,om,_,ε,hvm',by omega,by omega,mvs[j],by rw [Nf,NQ];exact hcm,ta Z μ.size hl3 ht3.all (λg H hM=>by have :=(Z.mr g hM).1;omega) ⟨by simp only [Nb];omega,by omega⟩ λw53 M3 k53 bd53 _=>⟨by omega,?_,tN (by omega)⟩⟩;have x53:Ex w w53:=Ex.below μ (Kp.below k53 μ.size λg H hM=>by have :=(Z.mr g hM).1;omega);refine⟨j+1,ts2++ts3,M3,by omega,by omega,x53,?_,?_⟩
   ·rw [ζ,<-NX];exact bd53
   ·rw [ζ,<-Lv.cc];exact af.app (af.kp k53 (λg H hM=>by have :=(Z.mr g hM).1;omega) η) (af.kp k53 (λg H hM=>by have :=(Z.mr g hM).1;omega) ht3)
  ·have ν:j=ms.length:=by simp only [No]at hge2;omega
   rw [ν,NR]at Z η;have hp:=ς l.a8.length;rw [NR]at hp;have hLv:fL (λg=>g< w47.heap.size) w47 (ptr b7) res.1 (af (λg=>g< w47.heap.size) w47 res.2):=by
    rw [ξ];exact Z.LO (λg H _=>H) (af.sub (λg H _=>H) η)
   refine vE hLv ?_ ?_ huq hfr λw56 x56=>hR w56 (Ex.trans μ x56)
   ·rw [ξ];exact Lv.gF (Dh λe he=>IV hsh e (rm he)) (y6 hmsh)
   ·rw [ξ];simp only [Nb,Lv.bM,kc];omega
section
open T
structure K8 (O:List Nat)(F:List UInt8)(p:P)(q:U):Prop where
 ae:AE UInt8.toNat p (λz=>(asg O F ρ0 z).toNat) q
 wf:p.wf=true
 eb:Eb 0 p
 fr:∀z,q.Fr z->z∈O\/(z< 26/\ρ0 z∉F)
def Jk {z:Nat}(h:z< 26):lt (ρ0 z)=true:=rC (by rw [dt h];unfold σ0;omega)
def AE.Lh {ρ:UInt8->Nat}{σ:Nat->Nat}:∀{ps:List P} {us:List U},gd (λp q=>AE ρ p σ q) ps us->AE ρ (T.parL ps) σ (T.parL us)
 | [],[],_=>trivial
 | [p],[q],.cons h _=>h
 | p::G::ps,q::H::us,.cons h k=>⟨h,AE.Lh k⟩
def gd.mono {X Y:Type}{R S:X->Y->Prop}(G:∀x y,R x y->S x y){l:List X}{m:List Y}(h:gd R l m):gd S l m:=by
 induction h with
 | nil=>exact .nil
 | cons h _ H=>exact .cons (G _ _ h) H
def gd.Lg {X Y:Type}{R:X->Y->Prop}{l:List X}{m:List Y}(h:gd R l m){x:X}(G:x∈l):∃y∈m,R x y:=by
 induction h with
 | nil=>cases G
 | cons h _ H=>
  rcases Nw.1 G with rfl | G
  ·exact⟨_,NP ..,h⟩
  ·obtain⟨y,h1,J⟩:=H G;exact⟨y,Nh _ h1,J⟩
def gd.JL {X Y:Type}{R:X->Y->Prop}{l:List X}{m:List Y}(h:gd R l m){y:Y}(G:y∈m):∃x∈l,R x y:=by
 induction h with
 | nil=>cases G
 | cons h _ H=>
  rcases Nw.1 G with rfl | G
  ·exact⟨_,NP ..,h⟩
  ·obtain⟨y,h1,J⟩:=H G;exact⟨y,Nh _ h1,J⟩
def Dj:∀{l:List P},(∀p∈l,p.wf=true)->(parL l).wf=true
 | [],_=>rfl
 | [p],h=>h p (by simp)
 | p::q::l,h=>by
  have G:=Dj (l:=q::l) λx H=>h x (Nh _ H)
  simp only [parL,wf,M8];exact⟨h p (by simp),G⟩
def CR {p:P}(G:p.wf=true):∀{l:List UInt8},(∀c∈l,lt c=true)->(resL l p).wf=true
 | [],_=>G
 | c::l,h=>by
  simp only [resL,wf,M8];exact⟨jk (h c (by simp)),CR G λx H=>h x (Nh _ H)⟩
def Cg {k:Nat}:∀{l:List P},(∀p∈l,Eb k p)->Eb k (parL l)
 | [],_=>trivial
 | [p],h=>h p (by simp)
 | p::q::l,h=>⟨h p (by simp),Cg (l:=q::l) λx G=>h x (Nh _ G)⟩
def Gp {c:UInt8}(h:lt c=true)(k:Nat):okn k c:=by have :=bg h;unfold okn;omega
def xR {A:Type}(p:T A):∀l:List A,(resL l p).rd=p.rd/\(resL l p).ow=l.length+p.ow/\(resL l p).size=l.length+p.size/\(resL l p).aN=3* l.length+p.aN
 | []=>by simp [resL]
 | c::l=>by
  obtain⟨h1,G,H,h4⟩:=xR p l;simp only [resL,rd,ow,size,aN,M0];refine⟨h1,?_,?_,?_⟩<;>omega
def CZ {A:Type}(p:T A):∀l:List A,(resL l p).pm=l.length+p.pm
 | []=>by simp [resL]
 | c::l=>by simp only [resL,pm,CZ p l,M0];omega
def CY {A:Type}{R:Nat}:∀{l:List (T A)},(∀p∈l,p.rd+p.ow<=R)->(parL l).pm<=R
 | [],_=>N5 _
 | [p],h=>N8 (fk p) (h p (by simp))
 | p::q::l,h=>by
  have h1:=CY (l:=q::l) λx G=>h x (Nh _ G)
  have H:=N8 (fk p) (h p (by simp));simp only [parL,pm];omega
def yR {t p:U}:∀{l:List Nat},t∈(aj (resL l p)).2->t∈(aj p).2
 | [],h=>h
 | _::l,h=>yR (l:=l) h
def zB {t:U}:∀{l:List U},t∈(aj (parL l)).2->∃x∈l,t∈(aj x).2
 | [],h=>by cases h
 | [p],h=>⟨p,by simp,h⟩
 | p::q::l,h=>by
  rcases Nk.1 h with h | h
  ·exact⟨p,by simp,h⟩
  ·obtain⟨x,h1,G⟩:=zB (l:=q::l) h;exact⟨x,Nh _ h1,G⟩
def Ja {O:List Nat}{us:List U}(H:(resL O (parL us)).ow<=64)(h:∀x∈us,x.rd+x.ow<=59):Lb 0 (resL O (parL us)):=⟨H,λZ t G=>by
 obtain⟨x,J,G⟩:=zB (yR G);have :=CM x t G;have :=h x J;omega⟩
def LM:∀{u:U},Uq u->u.Nr->ck u=u.ow/\(u.dead=false->thAll (tp u.ly)=u.ow):=by
 intro u;have one:∀{u:U},u.isS=false->ck u=u.ow->ck u=u.ow/\(u.dead=false->thAll (tp u.ly)=u.ow):=λ{u} hs h=>⟨h,λ _=>by rw [fP hs];simp only [tp,thAll,PC];exact h⟩
 have all:∀{u:U},Uq u->u.Nr->ck u=u.frL.length+thAll (tl u.ths):=λ{u} G n=>by unfold ck;rw [gU G n]
 induction u with
 | nil=>intro G n;exact one rfl (by rw [all G n];rfl)
 | snd a b p H=>intro G n;exact one rfl (by rw [all G n];have :=(H G.snd n).1;unfold ck at this;simp only [frL,T.ths,tl,thAll,Np,ow];omega)
 | rcv a b p H=>intro G n;exact one rfl (by rw [all G n];have :=(H G.rcv n).1;unfold ck at this;simp only [frL,T.ths,tl,thAll,Np,ow];omega)
 | tau p H=>intro G n;exact one rfl (by rw [all G n];have :=(H G.tau n).1;unfold ck at this;simp only [frL,T.ths,tl,thAll,Np,ow];omega)
 | mat a b p H=>intro G n;exact one rfl (by rw [all G n];have :=(H G.mat n.2).1;unfold ck at this;simp only [frL,T.ths,tl,thAll,Np,ow];omega)
 | rep p H=>intro G n;exact one rfl (by rw [all G n];have :=(H G.rep n.2).1;unfold ck at this;simp only [frL,T.ths,tl,thAll,Np,ow];omega)
 | res x p H=>intro G n;exact one rfl (by rw [all G n];have :=(H G.res n.2).1;rw [all G.res n.2]at this;simp only [frL,T.ths,M0,ow];omega)
 | par p q H J=>
  intro G n;refine one rfl ?_;have h1:=(H G.fK n.2.1).1;have Z:=(J G.eV n.2.2).1;have h0:q.frL=[]:=by
   rcases n.1.2 with h | h
   ·exact ia h
   ·cases q<;>first | rfl | (cases h;done)
  rw [all G.eV n.2.2,h0]at Z;rw [all G.fK n.2.1,ia n.1.1,np n.1.1]at h1;rw [all G n];simp only [frL,T.ths,ow,Np]at*;rw [show p::q.ths=[p]++q.ths from rfl,gj,bN];omega
 | sum p q H J=>
  intro G n;have h1:=(H G.dF n.2.1).2 n.1.1;have Z:=(J G.dh n.2.2).2 n.1.2.1;have h3:thAll (tp (T.sum p q).ly)=(T.sum p q).ow:=by
   rw [fP n.1.2.2]at h1;simp only [T.ly,ow];rw [show p::q.ly=[p]++q.ly from rfl,se,bN,h1,Z]
  refine⟨?_,λ _=>h3⟩;rw [all G n,<-h3];simp only [frL,T.ths,tl,thAll,Np,T.ly];rw [dU G.dF n.2.1 n.1.1,dU G.dh n.2.2 n.1.2.1,fP n.1.2.2];simp
def jZ {A B:Type}[DecidableEq A][DecidableEq B]:∀{p:T A} {q:T B} {ρ:A->Nat} {σ:B->Nat},AE ρ p σ q->p.ow=q.ow/\p.rd=q.rd/\p.size=q.size:=by
 intro p
 induction p with
 | nil=>intro q ρ σ h;cases q<;>first | exact⟨rfl,rfl,rfl⟩ | cases h
 | snd a b p G=>intro q ρ σ h;cases q<;>first | (have :=G h.2.2;simp only [ow,rd,size];omega) | cases h
 | mat a b p G=>intro q ρ σ h;cases q<;>first | (have :=G h.2.2;simp only [ow,rd,size];omega) | cases h
 | rcv a b p G=>intro q ρ σ h;cases q<;>first | (have :=G (h.2 0);simp only [ow,rd,size];omega) | cases h
 | res b p G=>intro q ρ σ h;cases q<;>first | (have :=G (h 0);simp only [ow,rd,size];omega) | cases h
 | tau p G=>intro q ρ σ h;cases q<;>first | (have :=G h;simp only [ow,rd,size];omega) | cases h
 | rep p G=>intro q ρ σ h;cases q<;>first | (have :=G h;simp only [ow,rd,size];omega) | cases h
 | sum p J G H=>intro q ρ σ h;cases q<;>first | (have :=G h.1;have :=H h.2;simp only [ow,rd,size];omega) | cases h
 | par p J G H=>intro q ρ σ h;cases q<;>first | (have :=G h.1;have :=H h.2;simp only [ow,rd,size];omega) | cases h
def ju {A:Type}:∀p:T A,p.rd+p.ow+1<=p.size:=by
 intro p
 induction p<;>simp only [rd,ow,size]<;>omega
def kG {A:Type}(l:List (T A)):Nat:=(l.map T.ow).sum
def sR {A:Type}(l:List (T A)):Nat:=(l.map T.size).sum
def CE {A:Type}(l:List (T A)):Nat:=(l.map T.rd).sum
def dW {A:Type}(l:List (T A)):Nat:=(l.map T.aN).sum
def pA {A:Type}:∀(l:List (T A)),(parL l).ow=kG l/\(l≠[]->sR l+l.length<=(parL l).size+1)/\(parL l).rd<=CE l/\(parL l).aN<=dW l+3* l.length+1/\∀R,(∀p∈l,p.rd<=R)->(parL l).rd<=R
 | []=>by simp [parL,kG,sR,CE,dW,ow,rd,aN]
 | [p]=>by simp [parL,kG,sR,CE,dW];omega
 | p::q::l=>by
  obtain⟨h1,G,J,h4,h5⟩:=pA (q::l);have G:=G (by simp);simp only [parL,ow,size,rd,aN,kG,sR,CE,dW,NI,Ol,M0]at*;refine⟨by omega,λ _=>by omega,by omega,by omega,λR hR=>?_⟩;have :=h5 R λx H=>hR x (Nh _ H)
  have :=hR p (by simp);omega
structure SU (t:P)(u:U):Prop where
 nr:u.Nr
 nu:Nu u
 fr:∀z,u.Fr z->z< 26
 ae:AE UInt8.toNat t (λy=>(ρ0 y).toNat) u
 len:u.frL.length=t.frL.length
 two:gd (λp q=>AE UInt8.toNat p (λz=>(asg u.frL t.frL ρ0 z).toNat) q) t.ths u.ths
 fn:t.frL.Nodup
 fl:∀c∈t.frL,lt c=true
 free:∀z,(∃q∈u.ths,q.Fr z)->z∈u.frL\/(z< 26/\ρ0 z∉t.frL)
 nd:(u.frL++u.ths.flatMap BV).Nodup
 ge:∀x∈u.frL++u.ths.flatMap BV,26<=x
 smp:∀q∈u.ths,q.smp=true
 smpP:∀q∈t.ths,q.smp=true
 nrs:∀q∈u.ths,q.Nr
 al:∀p∈t.ths,p.Al λc=>lt c=true
def Dg {A:Type}:∀{t:T A},t.smp=true->∀q∈t.ths,q.smp=true:=by
 intro t
 induction t with
 | nil=>intro _ q h;cases h
 | res x p H=>intro h;exact H h
 | par p q H G=>
  intro h r hr;simp only [smp,M8]at h;rcases Nw.1 hr with rfl | hr
  ·exact h.1
  ·exact G h.2 r hr
 | _=>intro h q J;cases ND.1 J;exact h
def KD {A:Type}{D:A->Prop}:∀{t:T A},t.Al D->(∀q∈t.ths,q.Al D)/\∀c∈t.frL,D c:=by
 intro t
 induction t with
 | nil=>intro _;exact⟨λq h=>(by cases h),λc h=>(by cases h)⟩
 | res x p J=>
  intro h;obtain⟨h1,Z⟩:=J h.2;exact⟨h1,λc G=>(Nw.1 G).elim (λe=>e▸h.1) (Z c)⟩
 | par p q J H=>
  intro h;refine⟨λr hr=>?_,λc G=>(by cases G)⟩;rcases Nw.1 hr with rfl | hr
  ·exact h.1
  ·exact(H h.2).1 r hr
 | _=>intro h;exact⟨λq hq=>(by cases ND.1 hq;exact h),λc G=>(by cases G)⟩
def qu.su {t:P}(ok:qu t):SU t (num t e0 0).1:=by
 have nu:=kP ok.al;have H:=kv ok.al;have G:=HT ok.al;have ae:AE UInt8.toNat t (λy=>(ρ0 y).toNat) (num t e0 0).1:=H.congr (λ _ _=>rfl) λy hy=>(dt (G y hy)).symm
 have nr:(num t e0 0).1.Nr:=AE.nr H (dZ t) (λy z _ _ e=>by unfold σ0 at e;omega) ok.nr;obtain⟨hl,J⟩:=ae.open ok.nr;have Z:=nr.shape;have β:=ok.nr.shape;have γ:BV (num t e0 0).1=(num t e0 0).1.frL++(num t e0 0).1.ths.flatMap BV:=by
  have:BV (num t e0 0).1=BV (resL (num t e0 0).1.frL (parL (num t e0 0).1.ths)):=by rw [<-Z]
  rw [this,dK,dJ]
 obtain⟨ζ,η⟩:=KD ok.al;refine⟨nr,nu,G,ae,hl.symm,J,(ok.nr.EV).1,η,λz ⟨q,hq,hz⟩=>?_,by rw [<-γ];exact nu.uq.nd,λx hx=>nu.bv x (by rw [γ];exact hx),Dg (by rw [<-yf ae];exact ok.smp),Dg ok.smp,λq hq=>(nr.ths q hq).2,ζ⟩;by_cases δ:z∈(num t e0 0).1.frL
 ·exact .inl δ
 ·right;have ε:(num t e0 0).1.Fr z:=by rw [Z];exact eQ.2 ⟨δ,iW.2 ⟨q,hq,hz⟩⟩
  refine⟨G z ε,λhF=>?_⟩;obtain⟨c,hc,e⟩:=ae.symm.free z ε;have e:=NK.1 e;rw [β]at hc;have :=(eQ.1 hc).1;rw [e]at this;exact this hF
section
variable {t:P} {u:U}
def SU.inj (su:SU t u){z y:Nat}(J:∃q∈u.ths,q.Fr z)(Z:∃q∈u.ths,q.Fr y)(e:asg u.frL t.frL ρ0 z=asg u.frL t.frL ρ0 y):z=y:=by
 by_cases h1:z∈u.frL<;>by_cases G:y∈u.frL
 ·exact qZ u.frL t.frL ρ0 z y h1 G su.len su.fn e
 ·have H:=df u.frL t.frL ρ0 z h1 su.len;rw [e,bn _ _ _ _ G]at H;exact absurd H ((su.free y Z).resolve_left G).2
 ·have H:=df u.frL t.frL ρ0 y G su.len;rw [<-e,bn _ _ _ _ h1]at H;exact absurd H ((su.free z J).resolve_left h1).2
 ·rw [bn _ _ _ _ h1,bn _ _ _ _ G]at e;have k1:=((su.free z J).resolve_left h1).1;have k2:=((su.free y Z).resolve_left G).1;have :=N9 UInt8.toNat e;rw [dt k1,dt k2]at this;unfold σ0 at this;omega
def SU.Mz (su:SU t u):gd (K8 u.frL t.frL) t.ths u.ths:=by
 have key:∀{ps:List P} {us:List U},gd (λp q=>AE UInt8.toNat p (λz=>(asg u.frL t.frL ρ0 z).toNat) q) ps us->(∀p∈ps,p∈t.ths)->(∀q∈us,q∈u.ths)->gd (K8 u.frL t.frL) ps us:=by
  intro ps us h
  induction h with
  | nil=>intro _ _;exact .nil
  | cons h _ H=>
   intro h1 G;have ha:=su.al _ (h1 _ (NP ..));refine .cons ⟨h,T.Al.wf ha,T.Al.eb 0 ha,λz J=>su.free z ⟨_,G _ (NP ..),J⟩⟩ (H (λp Z=>h1 p (Nh _ Z)) λq hq=>G q (Nh _ hq))
 exact key su.two (λ _ h=>h) λ _ h=>h
def fQ {X:Type}{l m:List X}(h:l.Perm m)(g:X->Nat):(l.map g).sum=(m.map g).sum:=iB (h.map g)
def count_flatMap {X:Type}(g:X->List Nat)(x:Nat):∀l:List X,(l.flatMap g).count x=(l.map λy=>(g y).count x).sum
 | []=>rfl
 | y::l=>by simp only [Ob,N3,NI,Ol,count_flatMap g x l]
def qu.Iq (ok:qu t):t.frL.length+kG t.ths=t.ow/\t.rd=(parL t.ths).rd/\(t.ths≠[]->t.frL.length+sR t.ths+t.ths.length<=t.size+1)/\t.frL.length+3* t.frL.length+t.ths.length<=400/\dW t.ths<=400/\t.ow<=8:=by
 have hs:=ok.nr.shape;obtain⟨h1,Z,h3,h4⟩:=xR (parL t.ths) t.frL;obtain⟨k1,k2,k3,k4,_⟩:=pA t.ths;rw [<-hs]at h1 Z h3 h4;have hlen:=ok.len;rw [aQ,h4]at hlen;have β:=ok.size;have G:∀l:List P,dW l<=(parL l).aN/\l.length<=(parL l).aN:=λl=>by
  have:∀l:List P,dW l+3* l.length<=(parL l).aN+3:=by
   intro l
   induction l with
   | nil=>simp [dW,parL,T.aN]
   | cons p l ih=>
    cases l with
    | nil=>simp [dW,parL]
    | cons q l=>
     simp only [parL,T.aN,dW,NI,Ol,M0]at ih|-;omega
  have h1:∀p:P,1<=p.aN:=λp=>by cases p<;>simp only [T.aN]<;>omega
  cases l with
  | nil=>simp [dW]
  | cons p l=>
   have k1:=this (p::l);have k2:=h1 p;have k3:1<=dW (p::l):=by simp only [dW,NI,Ol];omega
   have k4:1<=(p::l).length:=by simp
   omega
 have H:t.ow<=8:=by
  have su:=ok.su;have :=(LM su.nu.uq su.nr).1;have h8:=ok.all;have h9:=(jZ su.ae).1;omega
 refine⟨by rw [Z,k1],h1,λJ=>by have :=k2 J;omega,?_,?_,H⟩
 ·have :=(G t.ths).2;omega
 ·have :=(G t.ths).1;omega
def SU.cnt (su:SU t u)(x:Nat):u.frL.count x+(u.ths.map λy=>(BV y).count x).sum<=1:=by
 have h1:=PF.1 su.nd x;rw [N3,count_flatMap]at h1;exact h1
def lS {A:Type}:∀p:T A,p.aN<=5* p.size:=by intro p;induction p<;>simp only [aN,size]<;>omega
def qu.th (ok:qu t){x:P}(G:x∈t.ths):t.frL.length+x.rd+x.ow<=59:=by
 obtain⟨_,_,H,_⟩:=ok.Iq;have H:=H (λe=>by rw [e]at G;cases G);have J:=ok.size;have :=ju x;have h1:x.size<=sR t.ths:=nv (NT.2 ⟨_,G,rfl⟩);have :=List.length_pos_of_mem G;omega
end
section
variable {t:P} {u:U}
def SU.BP (su:SU t u){k:Nat}(hk:k< u.ths.length){r:U}(J:Sub r u.ths[k])(hb:(BV r).Sublist (BV u.ths[k])):Uq r:=by
 have hm:=NC hk;have G:(BV u.ths[k]).Sublist (u.ths.flatMap BV):=by
  rw [List.flatMap_def];exact List.sublist_flatten_of_mem (OO hm)
 have H:=(NU.1 su.nd)
 refine⟨H.2.1.sublist (hb.trans G),λx Z hf=>?_⟩;have h1:=G.subset (hb.subset Z);have β:=su.ge x (NG _ h1);rcases su.free x ⟨_,hm,J.fr x hf⟩with h | h
 ·exact H.2.2 x h x h1 rfl
 ·omega
def AA {p q:P}(h:p.shp=q.shp):p.rd=q.rd/\p.ow=q.ow/\p.aN=q.aN:=by
 have key:∀p:P,p.shp.rd=p.rd/\p.shp.ow=p.ow:=λp=>by
  unfold T.shp
  induction p<;>simp_all [T.map,T.rd,T.ow]
 refine⟨by rw [<-(key p).1,<-(key q).1,h],by rw [<-(key p).2,<-(key q).2,h],gm h⟩
def Lj {A:Type}(l:List (T A))(i k:Nat)(p q:T A)(s:Bool)(x:T A):List (T A):=wo l i k++[p,q]++if s then [x]else []
end
def xB:∀u:U,u.ths.length<=u.size:=by
 intro u
 induction u with
 | par p q _ G=>simp only [T.ths,M0,T.size];omega
 | res x p G=>simp only [T.ths,T.size];omega
 | _=>simp [T.ths,T.size]
def Ff (N:Nat)(q:U)(x b:Nat):Nat->Nat:=λz=>if z=x then b else if z∈BV q then z+N+1 else z
def pZ (N:Nat){q:U}{x:Nat}(b:Nat)(H:x∉BV q):DS N q x b (Ff N q x b):=by
 refine⟨NO rfl,λz h1 J=>?_,λz G=>?_,λz G y Z e=>?_⟩
 ·simp only [Ff,Nt h1,Nt J]
 ·have h1:z≠x:=λe=>H (e▸G)
  simp only [Ff,Nt h1,NO G];omega
 ·have h1:z≠x:=λe=>H (e▸G)
  have J:y≠x:=λe=>H (e▸Z)
  simp only [Ff,Nt h1,NO G,Nt J,NO Z]at e;omega
def NN (u:U):Nat:=(BV u).sum+26
def MV (u:U)(i:Nat)(p:U):U:=resL u.frL (parL (wo u.ths i i++[p]))
def MZ (u:U)(i k:Nat)(p q:U)(s:Bool):U:=resL u.frL (parL (Lj u.ths i k p q s (u.ths.getD k .nil)))
def E3 (u:U)(i k c d:Nat)(p:U):Off Nat->List U
 | .rcv e x q s=>if e=c then [MZ u i k p (q.map (Ff (NN u) q x d)) s]else []
 | _=>[]
def E2 (u:U)(i c d:Nat)(p:U)(k:Nat):List U:=if i=k then []else(offs (u.ths.getD k .nil)).flatMap (E3 u i k c d p)
def E1 (u:U)(i:Nat):Off Nat->List U
 | .tau p=>[MV u i p]
 | .snd c d p=>(List.range u.ths.length).flatMap (E2 u i c d p)
 | .rcv .. =>[]
def E0 (u:U)(i:Nat):List U:=(offs (u.ths.getD i .nil)).flatMap (E1 u i)
def Jl (u:U):List U:=(List.range u.ths.length).flatMap (E0 u)
noncomputable def outs (l:List U):List Tx:=l.map λv=>(je v).getD []
noncomputable def Hi (l:List U):Bool:=l.all λv=>(je v).isSome
noncomputable def AX (u:U):Option (List Tx):=if Hi (Jl u)then some (dd (bf (outs (Jl u))))else none
section
variable {t:P} {u:U}
def SU.bound (su:SU t u):∀z,(z∈u.frL\/z∈u.ths.flatMap BV\/∃q∈u.ths,q.Fr z)->z<=NN u:=by
 have H:=su.nr.shape;have G:BV u=u.frL++u.ths.flatMap BV:=by
  have:BV u=BV (resL u.frL (parL u.ths)):=by rw [<-H]
  rw [this,dK,dJ]
 have key:∀z∈BV u,z<=NN u:=λz J=>by have :=nv J;unfold NN;omega
 intro z J;rcases J with h | h | h
 ·exact key z (by rw [G];exact NS _ h)
 ·exact key z (by rw [G];exact NG _ h)
 ·rcases su.free z h with h | h
  ·exact key z (by rw [G];exact NS _ h)
  ·unfold NN;omega
def cz {l:List U}{k:Nat}(h:k< l.length):l.getD k .nil=l[k]:=by simp [List.getD,h]
end
def FR:∀l:List U,(tp l).bvs=l.flatMap λs=>(td s).1++(td s).2.bvs
 | []=>rfl
 | u::l=>by simp only [tp,Lv.bvs,Ob,FR l,NX]
def JK:∀u:U,BV u=u.ly.flatMap BV:=by
 intro u
 induction u with
 | sum p q H G=>simp only [BV,T.ly,Ob];rw [<-G]
 | _=>simp [T.ly]
def Fl:∀(n:Nat) {u:U},u.size<=n->Uq u->u.Nr->(td u).1++(td u).2.bvs=BV u
 | 0,u,h,_,_=>by cases u<;>simp [T.size]at h
 | n+1,u,h,G,nr=>by
  have H:=λ{p:U} (hp:p.size<=n) (G:Uq p) (nr:p.Nr)=>Fl n hp G nr
  have e:=gU G nr;cases u with
  | nil=>rw [e];rfl
  | snd a b p=>rw [e];have :=H (by simp only [T.size]at h;omega) G.snd nr;simpa [frL,T.ths,tl,Lv.bvs,BV]using this
  | mat a b p=>rw [e];have :=H (by simp only [T.size]at h;omega) G.mat nr.2;simpa [frL,T.ths,tl,Lv.bvs,BV]using this
  | tau p=>rw [e];have :=H (by simp only [T.size]at h;omega) G.tau nr;simpa [frL,T.ths,tl,Lv.bvs,BV]using this
  | rep p=>rw [e];have :=H (by simp only [T.size]at h;omega) G.rep nr.2;simpa [frL,T.ths,tl,Lv.bvs,BV]using this
  | rcv a x p=>rw [e];have :=H (by simp only [T.size]at h;omega) G.rcv nr;simp only [frL,T.ths,tl,Lv.bvs,BV,O9,NM,N2,this];rfl
  | res x p=>
   have :=H (by simp only [T.size]at h;omega) G.res nr.2;rw [gU G.res nr.2]at this;rw [e];simp only [frL,T.ths,BV,N6];rw [<-this]
  | par p q=>
   simp only [T.size]at h;have h1:=H (p:=p) (by omega) G.fK nr.2.1;have Z:=H (p:=q) (by omega) G.eV nr.2.2;rw [gU G.fK nr.2.1,ia nr.1.1,np nr.1.1]at h1;have h0:q.frL=[]:=by
    rcases nr.1.2 with h | h
    ·exact ia h
    ·cases q<;>first | rfl | (cases h;done)
   rw [gU G.eV nr.2.2,h0]at Z;simp only [N2]at h1 Z;rw [e];simp only [frL,T.ths,BV,N2];rw [show p::q.ths=[p]++q.ths from rfl,gj,Lv.cO,h1,Z]
  | sum p q=>
   simp only [T.size]at h;rw [e];simp only [frL,T.ths,tl,Lv.bvs,N2,NM];rw [dU G.dF nr.2.1 nr.1.1,dU G.dh nr.2.2 nr.1.2.1,fP nr.1.2.2];rw [FR,JK (.sum p q)];have key:∀s∈[p]++q.ly,(td s).1++(td s).2.bvs=BV s:=by
    intro s J;rcases Nk.1 J with J | J
    ·cases ND.1 J;exact H (by omega) G.dF nr.2.1
    ·have:∀q:U,Uq q->q.Nr->∀s∈q.ly,s.size<=q.size/\Uq s/\s.Nr:=by
      intro q
      induction q with
      | sum p q _ H=>
       intro G nr s J;rcases Nw.1 J with rfl | J
       ·exact⟨by simp only [T.size];omega,G.dF,nr.2.1⟩
       ·obtain⟨k1,k2,k3⟩:=H G.dh nr.2.2 s J;exact⟨by simp only [T.size];omega,k2,k3⟩
      | _=>intro G nr s J;cases ND.1 J;exact⟨Nc _,G,nr⟩
     obtain⟨k1,k2,k3⟩:=this q G.dh nr.2.2 s J;exact H (by omega) k2 k3
   have fm:∀l:List U,(∀s∈l,(td s).1++(td s).2.bvs=BV s)->(l.flatMap λs=>(td s).1++(td s).2.bvs)=l.flatMap BV:=by
    intro l
    induction l with
    | nil=>intro _;rfl
    | cons s l H=>intro h;rw [Ob,Ob,h s (by simp),H λx hx=>h x (by simp [hx])]
   exact fm _ key
def AO:∀{K:List U},(∀t∈K,t.th=true/\Uq t/\t.Nr)->joinL (K.map td)=([],tl K)
 | [],_=>rfl
 | t::K,h=>by
  obtain⟨h1,G,H⟩:=h t (by simp);simp only [NI,joinL];rw [AO (K:=K) λx J=>h x (by simp [J]),gU G H,ia h1,np h1,show t::K=[t]++K from rfl,gj];rfl
def Ez (O:List Nat){K:List U}(G:∀t∈K,t.th=true/\Uq t/\t.Nr){zs:List ((List Nat×Lv)×U)}(Z:∀z∈zs,Pc z.1 z.2):Lv.tidy (O++(joinL (zs.map (·.1))).1) ((tl K).app (joinL (zs.map (·.1))).2)=td (resL O (parL (K++zs.map (·.2)))):=by
 have h:=zA (own:=O) (Pc.join (zs:=K.map (λt=>(td t,t))++zs) λz H=>by
  rcases Nk.1 H with h | h
  ·obtain⟨t,J,rfl⟩:=NT.1 h;exact Pc.nr (G t J).2.1 (G t J).2.2
  ·exact Z z h)
 rw [N0,N0,Oq,Oq,qc]at h;have e1:K.map ((λz:(List Nat×Lv)×U=>z.1)∘λt=>(td t,t))=K.map td:=rfl;have e2:K.map ((λz:(List Nat×Lv)×U=>z.2)∘λt=>(td t,t))=K:=List.map_id K;rw [e1,e2,AO G]at h;exact h
def Fz:∀{l:List U},(∀t∈l,t.th=true)->(tl l).a8=l.map λt=>tl [t]
 | [],_=>rfl
 | t::l,h=>by
  have G:=h t (by simp);have H:=Fz (l:=l) λx J=>h x (by simp [J])
  cases t<;>first | (cases G;done) | simp only [tl,Lv.a8,H,NI]
def xr {X Y:Type}(f:X->Y)(P:Nat->Bool):∀(l:List X) (k:Nat),jJ P (l.map f) k=(jJ P l k).map f
 | [],k=>by rw [PG,gX,gX];rfl
 | x::l,k=>by
  rw [NI,bT,bT,xr f P l (k+1)];split<;>simp
def CN:∀l:List U,elsL (l.map λt=>tl [t])=tl l
 | []=>rfl
 | t::l=>by rw [NI,elsL,CN l,<-gj];rfl
def Kf {l:List U}(h:∀t∈l,t.th=true)(P:Nat->Bool):elsL (jJ P (tl l).a8 0)=tl (jJ P l 0):=by
 rw [Fz h,xr,CN]
def IN {O:List Nat}{ts G:List U}(h:ts.Perm G)(n:Nu (resL O (parL ts))):Nu (resL O (parL G)):=by
 have H:(BV (resL O (parL ts))).Perm (BV (resL O (parL G))):=by
  rw [dK,dK,dJ,dJ];exact(Of _).append (h.flatMap_right _)
 have Z:∀z,(resL O (parL G)).Fr z->(resL O (parL ts)).Fr z:=λz J=>by
  obtain⟨h1,h2⟩:=eQ.1 J;obtain⟨t,ht,J⟩:=iW.1 h2;exact eQ.2 ⟨h1,iW.2 ⟨t,h.symm.subset ht,J⟩⟩
 have β:∀z,(resL O (parL G)).Us z->(resL O (parL ts)).Us z:=λz J=>by
  obtain⟨h1,h2⟩:=jt.1 J;obtain⟨t,ht,J⟩:=rb.1 h2;exact jt.2 ⟨h1,rb.2 ⟨t,h.symm.subset ht,J⟩⟩
 exact⟨⟨H.nodup_iff.1 n.uq.nd,λx hx hf=>n.uq.nf x (H.symm.subset hx) (Z x hf)⟩,λy hy=>n.fr y (β y hy),λx hx=>n.bv x (H.symm.subset hx)⟩
end
section
open T Classical
def St (s:Tx):Prop:=∃t,qu t/\t.text=s
def qu.uniq {t G:P}(a:qu t)(b:qu G)(h:t.text=G.text):t=G:=fp a.al.wf b.al.wf h
noncomputable def ME (s:Tx):Option (List Tx):=if h:St s then AX (num h.choose e0 0).1 else none
def E6 {u:U}(h:Nu u)(G:u.smp=true){s:Tx}(e:je u=some s):St s:=by
 obtain⟨t,v,n⟩:=FY h e;exact⟨t,n.MJ h G,n.text⟩
def LH (s:Tx):Prop:=∃t:P,t.Al (λc=>lt c=true)/\t.text=s/\cV s/\t.smp=true
noncomputable def fB (s:Tx):Option Tx:=if h:LH s then je (num h.choose e0 0).1 else none
def wg {t:P}(al:t.Al λc=>lt c=true)(g:cV t.text)(G:t.smp=true):fB t.text=je (num t e0 0).1:=by
 have h:LH t.text:=⟨t,al,rfl,g,G⟩
 unfold fB;rw [dif_pos h,fp h.choose_spec.1.wf al.wf h.choose_spec.2.1]
def gL {s:Tx}(h:¬LH s):fB s=none:=by unfold fB;rw [dif_neg h]
def vL {s n:Tx}(h:fB s=some n):St n:=by
 unfold fB at h;split at h
 ·rename_i G;exact E6 (kP G.choose_spec.1) ((yf (kv G.choose_spec.1)).symm.trans G.choose_spec.2.2.2) h
 ·cases h
def qu.good {t:P}(ok:qu t):cV t.text:=⟨ok.len,t,ok.al,rfl,ok.size⟩
def Off.over {A:Type}(k:UInt8):Off A->Option A
 | .tau _=>none
 | .snd a _ _=>if k=33 then some a else none
 | .rcv a _ _ _=>if k=63 then some a else none
end
attribute [go_sem] Tryz.f41
def qH (G:aJ)(w:World)(R:aJ->Bool->Qx)(h:vc az (aZ [] [] []) (ab Tryz.f41) (ai 0 [.s G]) w (fin az [.tmp 2 .s,.tmp 3 .b] R)):
  Qy 41 #[(.string (ay G))] w (ax [.s,.b] R):=
 a7 Tryz.func41 (by kernel_rfl) h
attribute [go_sem] Tryz.f107
def qY (G:aJ)(w:World)(R:aJ->aJ->Qx)(h:vc az (aZ [(2,[(0,.s),(4,.s)])] [] []) (ab Tryz.f107) (ai 0 [.s G]) w (fin az [.tmp 2 .s,.tmp 3 .s] R)):
  Qy 107 #[(.string (ay G))] w (ax [.s,.s] R):=
 a7 Tryz.func107 (by kernel_rfl) h
attribute [go_sem] Tryz.f108
def oW (G:aJ)(w:World)(R:Value->Qx)(h:vc az (aZ [(5,[(0,.s),(3,.v)])] [] []) (ab Tryz.f108) (ai 0 [.s G]) w (fin az [.tmp 2 .v] R)):
  Qy 108 #[(.string (ay G))] w (ax [.v] R):=
 a7 Tryz.func108 (by kernel_rfl) h
attribute [go_sem] Tryz.f109
def po (t1:aJ)(w:World)(R:Value->Qx)(h:vc az (aZ [(13,[(47,.i)])] [] [(4,false,.lt 0 (.lt 2 (.lt 3 (.lt 4 (.lt 5 (.lt 6 (.lt 7 (.one .h 1 (.lt 8 (.one .h 9 (.lt 10 .done))))))))))),(9,false,.lt 0 (.lt 1 (.lt 2 (.lt 4 (.lt 5 (.lt 6 (.one .h 3 (.one .h 7 (.one .h 8 (.lt 9 .done))))))))))]) (ab Tryz.f109) (ai 0 [.s t1]) w (fin az [.tmp 2 .v] R)):
  Qy 109 #[(.string (ay t1))] w (ax [.v] R):=
 a7 Tryz.func109 (by kernel_rfl) h
attribute [go_sem] Tryz.f111
def nJ (t1:Value)(i2:Int)(G:Int)(w:World)(R:Value->Qx)(h:vc az (aZ [(3,[(7,.v),(12,.i)])] [] []) (ab Tryz.f111) (ai 0 [.v t1,.i i2,.i G]) w (fin az [.tmp 6 .v] R)):
  Qy 111 #[t1,(.int .i64 i2),(.int .i64 G)] w (ax [.v] R):=
 a7 Tryz.func111 (by kernel_rfl) h
attribute [go_sem] Tryz.f110
attribute [go_sem] Tryz.f52
section
open T Classical
def EK (t:P):t.ev T.gd1=t.parts.all λq=>(!decide (t.kind=43)||q.gp)&&q.ev T.gd1:=by
 rw [tB];cases t<;>simp [T.gd1,T.parts,T.kind]
 case sum p q=>
  cases p.gp<;>cases q.gp<;>cases p.ev T.gd1<;>cases q.ev T.gd1<;>rfl
def Gy (t:P):t.ev T.rp1=t.parts.all λq=>(!decide (t.kind=42)||q.isR)&&q.ev T.rp1:=by
 rw [tB];cases t<;>simp [T.rp1,T.parts,T.kind]
def Cy (q:P):decide (q.kind∈([33,63,126,43,48]:Tx))=q.gp:=by cases q<;>simp [T.kind,T.gp]
def zh (q:P):decide (q.kind=63)=q.isR:=by cases q<;>rfl
def zL {X:Type}{l:List X}{f:X->Bool}{k:Nat}(h:k< l.length):(l.take (k+1)).all f=((l.take k).all f&&f l[k]):=by
 rw [Ng h,PB];simp
def all_false {X:Type}{l:List X}{f:X->Bool}{k:Nat}(h:k< l.length)(G:f l[k]=false):l.all f=false:=by
 rw [List.all_eq_false];exact⟨_,NC h,by rw [G];simp⟩
def zn:∀(n:Nat) {t:P},t.size<=n->Ok t->∀{w:World} {R:Bool->Qx},(∀w',Ex w w'->R (t.ev T.gd1) w')->Qy 160 #[.string (ay t.text)] w (ax [.b] R):=by
 intro n
 induction n with
 | zero=>intro t h;have :=aU t;omega
 | succ n ih=>
  intro t hn ok w R h;refine nH _ w R ?_;dsimp only [go_sem];dsimp only [go_sem,UInt8.reduceOfNat];refine cD ok λv w3 γ hs=>?_
  obtain⟨a,cap,hv⟩:=hs.slice;rw [Nq]at hv;rw [EK]at h;refine⟨a,t.parts.length,cap,hv,λx w'=>Ex w3 w'/\∃k:Nat,x=k/\k<=t.parts.length/\(t.parts.take k).all (λq=>(!decide (t.kind=43)||q.gp)&&q.ev T.gd1)=true,λx _=>((t.parts.length:Int) - x).toNat,⟨Ex.refl _,0,rfl,by omega,rfl⟩,λx w4 hI=>?_⟩;obtain⟨H,k,rfl,hk,J⟩:=hI;refine⟨λhc=>?_,λhc=>?_⟩
  ·have G:k< t.parts.length:=by simpa using hc
   have β:t.parts[k]∈t.parts:=NC G;have δ:=ok.parts _ β;have ε:=dz β;refine hs.get H (i:=k) (by omega) (x:=(t.parts[k]).text) (by simp [G]) ?_;have key:∀{w':World},Ex w3 w'->(!decide (t.kind=43)||t.parts[k].gp)=true->∀Z,Ex w' Z->((!t.parts[k].ev T.gd1)=true->R false Z)/\((!t.parts[k].ev T.gd1)=false->cW ((k:Int)+1)/\(Ex w3 Z/\∃j:Nat,(k:Int)+1=j/\j<=t.parts.length/\(t.parts.take j).all (λq=>(!decide (t.kind=43)||q.gp)&&q.ev T.gd1)=true)/\((t.parts.length:Int) - ((k:Int)+1)).toNat< ((t.parts.length:Int) - k).toNat):=λ{w'} x1 hg Z x2=>by
    have hx:=Ex.trans x1 x2;refine⟨λhq=>?_,λhq=>⟨by unfold cW;have :=dB t;omega,⟨hx,k+1,by omega,G,?_⟩,by omega⟩⟩
    ·have :=h Z (Ex.trans γ hx);rw [all_false G (by rw [hg];simpa using hq)]at this;exact this
    ·rw [zL G,J,hg];simpa using hq
   refine aK ok ⟨λhc=>aK δ (ib (by simp) ⟨λhq=>?_,λhq=>?_⟩),λhc=>?_⟩
   ·rw [Cy]at hq;have hg:t.parts[k].gp=true:=by simpa using hq
    exact ih (by omega) δ λZ x5=>key H (by rw [hg];simp) Z x5
   ·rw [Cy]at hq;have hg:t.parts[k].gp=false:=by simpa using hq
    have :=h w4 (Ex.trans γ H);rw [all_false G (by rw [hc,hg];rfl)]at this;exact this
   ·exact ih (by omega) δ λZ x5=>key H (by rw [hc];rfl) Z x5
  ·have G:k=t.parts.length:=by simp at hc;omega
   subst G;rw [NR]at J;have :=h w4 (Ex.trans γ H);rw [J]at this;exact this
def BY:∀(n:Nat) {t:P},t.size<=n->Ok t->∀{w:World} {R:Bool->Qx},(∀w',Ex w w'->R (t.ev T.rp1) w')->Qy 161 #[.string (ay t.text)] w (ax [.b] R):=by
 intro n
 induction n with
 | zero=>intro t h;have :=aU t;omega
 | succ n ih=>
  intro t hn ok w R h;refine pL _ w R ?_;dsimp only [go_sem];dsimp only [go_sem,UInt8.reduceOfNat];refine cD ok λv w3 γ hs=>?_
  obtain⟨a,cap,hv⟩:=hs.slice;rw [Nq]at hv;rw [Gy]at h;refine⟨a,t.parts.length,cap,hv,λx w'=>Ex w3 w'/\∃k:Nat,x=k/\k<=t.parts.length/\(t.parts.take k).all (λq=>(!decide (t.kind=42)||q.isR)&&q.ev T.rp1)=true,λx _=>((t.parts.length:Int) - x).toNat,⟨Ex.refl _,0,rfl,by omega,rfl⟩,λx w4 hI=>?_⟩;obtain⟨H,k,rfl,hk,J⟩:=hI;refine⟨λhc=>?_,λhc=>?_⟩
  ·have G:k< t.parts.length:=by simpa using hc
   have β:t.parts[k]∈t.parts:=NC G;have δ:=ok.parts _ β;have ε:=dz β;refine hs.get H (i:=k) (by omega) (x:=(t.parts[k]).text) (by simp [G]) ?_;have key:∀{w':World},Ex w3 w'->(!decide (t.kind=42)||t.parts[k].isR)=true->∀Z,Ex w' Z->((!t.parts[k].ev T.rp1)=true->R false Z)/\((!t.parts[k].ev T.rp1)=false->cW ((k:Int)+1)/\(Ex w3 Z/\∃j:Nat,(k:Int)+1=j/\j<=t.parts.length/\(t.parts.take j).all (λq=>(!decide (t.kind=42)||q.isR)&&q.ev T.rp1)=true)/\((t.parts.length:Int) - ((k:Int)+1)).toNat< ((t.parts.length:Int) - k).toNat):=λ{w'} x1 hg Z x2=>by
    have hx:=Ex.trans x1 x2;refine⟨λhq=>?_,λhq=>⟨by unfold cW;have :=dB t;omega,⟨hx,k+1,by omega,G,?_⟩,by omega⟩⟩
    ·have :=h Z (Ex.trans γ hx);rw [all_false G (by rw [hg];simpa using hq)]at this;exact this
    ·rw [zL G,J,hg];simpa using hq
   refine aK ok ⟨λhc=>aK δ ⟨λhq=>?_,λhq=>?_⟩,λhc=>?_⟩
   ·rw [zh]at hq;have hg:t.parts[k].isR=true:=by simpa using hq
    exact ih (by omega) δ λZ x5=>key H (by rw [hg];simp) Z x5
   ·rw [zh]at hq;have hg:t.parts[k].isR=false:=by simpa using hq
    have :=h w4 (Ex.trans γ H);rw [all_false G (by rw [hc,hg];rfl)]at this;exact this
   ·exact ih (by omega) δ λZ x5=>key H (by rw [hc];rfl) Z x5
  ·have G:k=t.parts.length:=by simp at hc;omega
   subst G;rw [NR]at J;have :=h w4 (Ex.trans γ H);rw [J]at this;exact this
def Bk {t:P}(ok:Ok t){w:World}{R:Bool->Qx}(h:∀w',Ex w w'->R t.smp w'):Qy 89 #[.string (ay t.text)] w (ax [.b] R):=by
 refine p9 _ w R ?_;dsimp only [go_sem];refine zn _ (Nc _) ok λw1 H=>⟨λG=>?_,λG=>?_⟩
 ·refine BY _ (Nc _) ok λJ Z=>?_
  have :=h J (Ex.trans H Z);rw [dO,G,OZ]at this;exact this
 ·have :=h w1 H;rw [dO,G,Qo]at this;exact this
def vY {p:Tx}:(∃t:P,Good t/\t.text=p)↔∃t:P,t.Al (λc=>lt c=true)/\t.text=p/\cV p:=by
 constructor
 ·rintro⟨t,h,rfl⟩
  exact⟨t,iR.1 h.lw,rfl,kB.1 ⟨t,h,rfl⟩⟩
 ·rintro⟨t,h1,rfl,G⟩
  exact kB.2 G
def Jp {t:P}(h:t.Al λc=>lt c=true)(g:cV t.text):Ok t:=⟨h.wf,by have :=g.1;omega⟩
def IX {t:P}(h:t.Al λc=>lt c=true)(g:cV t.text):t.size<=60:=by
 obtain⟨_,J,h1,G,H⟩:=g;have :=fp h1.wf h.wf G;subst this;exact H
def KS {p:Tx}{w:World}{R:Bool->Qx}(h:∀b w',Ex w w'->(b=true->∃t:P,t.Al (λc=>lt c=true)/\t.text=p/\cV p)->(b=false->¬LH p)->R b w'):Qy 88 #[.string (ay p)] w (ax [.b] R):=
 vj λb w' x hb=>h b w' x (λe=>vY.1 (hb.1 e)) λe ⟨t,h1,G,H,_⟩=>by
  have :=hb.2 (vY.2 ⟨t,h1,G,H⟩);rw [e]at this;cases this
def Ie {t:P}(h:t.Al λc=>lt c=true)(G:t.smp=false):¬LH t.text:=fun⟨J,h1,H,_,h4⟩=>by
 have :=fp h1.wf h.wf H;subst this;rw [G]at h4;cases h4
def Hy {t:P}(h:t.Al λc=>lt c=true)(g:cV t.text):qR 0 t σ0 (num t e0 0).1:=by
 have G:=IX h g;have :=ju t;have nu:=kP h;have :=T.fk t;have d:Den 0 t σ0 (num t e0 0).1:=⟨h.wf,by have :=g.1;omega,⟨h.eb 0,by omega⟩,kv h,λy z _ _ e=>by unfold σ0 at e;omega,nu.uq⟩
 exact⟨d,λz H J=>absurd J (dS (sM (h.free z H))),nu,λ _ _=>rfl,d.lb (by omega)⟩
def Er {p:Tx}{w:World}{R:aJ->Bool->Qx}(h:∀w',Ex w w'->(∀s,fB p=some s->R s true w')/\(fB p=none->R [] false w')):Qy 41 #[.string (ay p)] w (ax [.s,.b] R):=by
 refine qH _ w R ?_;dsimp only [go_sem];refine KS λb w1 H J Z=>⟨λhb=>?_,λhb=>?_⟩
 ·have hb:b=true:=by simpa using hb
  obtain⟨t,h1,rfl,h3⟩:=J hb;refine Bk (Jp h1 h3) λw2 x2=>⟨λG=>?_,λG=>?_⟩
  ·have G:t.smp=false:=by simpa using G
   exact(h w2 (Ex.trans H x2)).2 (gL (Ie h1 G))
  ·have G:t.smp=true:=by simpa using G
   refine ER (Hy h1 h3) λw3 x3=>?_
   have :=h w3 (Ex.trans (Ex.trans H x2) x3);rw [wg h1 h3 G]at this;exact this
 ·have hb:b=false:=by simpa using hb
  exact(h w1 H).2 (gL (Z hb))
def T.EC:P->P
 | .res _ p=>p.EC
 | t=>t
def vI:∀{t:P},Ok t->Ok t.EC/\t.EC.ths=t.ths/\t.EC.frL=[]/\t.EC.text.length<=t.text.length/\(t.Nr->t.EC.Nr)
 | .res x p,ok=>by
  have h:=vI (t:=p) (ok.parts p (by simp [T.parts]));refine⟨h.1,h.2.1,h.2.2.1,?_,λn=>h.2.2.2.2 n.2⟩;have :=h.2.2.2.1;show p.EC.text.length<=(35::x::46::p.text).length;simp only [M0];omega
 | .nil,ok=>⟨ok,rfl,rfl,Nc _,id⟩
 | .snd ..,ok=>⟨ok,rfl,rfl,Nc _,id⟩
 | .rcv ..,ok=>⟨ok,rfl,rfl,Nc _,id⟩
 | .tau ..,ok=>⟨ok,rfl,rfl,Nc _,id⟩
 | .sum ..,ok=>⟨ok,rfl,rfl,Nc _,id⟩
 | .par ..,ok=>⟨ok,rfl,rfl,Nc _,id⟩
 | .mat ..,ok=>⟨ok,rfl,rfl,Nc _,id⟩
 | .rep ..,ok=>⟨ok,rfl,rfl,Nc _,id⟩
def I2 (t:P):t.frL.length<=t.text.length:=by
 induction t with
 | res x p G=>
  show(x::p.frL).length<=(35::x::46::p.text).length;simp only [M0];omega
 | _=>simp [T.frL]
def vu {t:P}(ok:Ok t){w:World}{R:aJ->aJ->Qx}(h:R t.frL t.EC.text w):Qy 107 #[.string (ay t.text)] w (ax [.s,.s] R):=by
 refine qY _ w R ?_;dsimp only [go_sem];refine⟨λs f w'=>w'=w/\∃q:P,s=q.text/\Ok q/\t.frL=f++q.frL/\t.EC=q.EC,λs _ _=>s.length,⟨rfl,t,rfl,ok,rfl,rfl⟩,λs f w' hI=>?_⟩;obtain⟨rfl,q,rfl,G,H,hb⟩:=hI;have hlen:=I2 t;have hl:=ok.len;refine aK G ⟨λJ=>?_,λJ=>?_⟩
 ·cases q<;>simp [T.kind]at J
  rename_i x p;have e:(T.res x p).text=35::x::46::p.text:=rfl;rw [e];have β:f.length+1<=t.frL.length:=by
   have :=N9 List.length H;simp only [T.frL,Nb,M0]at this;omega
  refine⟨⟨by omega,by omega,by simp only [M0];omega⟩,by simp;omega,⟨by omega,by simp only [M0];omega⟩,⟨rfl,p,rfl,G.parts p (by simp [T.parts]),?_,hb⟩,?_⟩
  ·rw [H];show f++(x::p.frL)=(f++[x])++p.frL;simp
  ·show p.text.length< (35::x::46::p.text).length;simp only [M0];omega
 ·have Z:q.frL=[]/\q.EC=q:=by cases q<;>simp [T.kind]at J<;>exact⟨rfl,rfl⟩
  rw [Z.1,NM]at H;rw [<-H];rw [hb,Z.2]at h;exact h
def Aw {t:P}(ok:Ok t)(n:t.Nr){w:World}{R:Value->Qx}(h:∀v w',Ex w w'->Own w.heap.size w' v (t.ths.map T.text)->R v w'):Qy 108 #[.string (ay t.text)] w (ax [.v] R):=by
 refine oW _ w R ?_;dsimp only [go_sem];dsimp only [go_sem,Nat.reduceAdd];obtain⟨β,ε,ς,hbl,υ⟩:=vI ok;have nb:=υ n;rw [<-ε]at h;refine vu ok ?_;have hl:=β.len;generalize t.EC=q at*;refine aK β ⟨λhc=>?_,λhc=>?_⟩
 ·cases q<;>simp [T.kind]at hc
  exact h _ w (Ex.refl w) (Own.nil _ _)
 ·have hq:q.th=true\/q.isP=true:=by cases q<;>simp [T.kind,T.th,T.isP,T.frL]at hc ς|-
  refine⟨λs out w'=>Ex w w'/\∃(r:P) (l:List P),s=r.text/\Ok r/\r.Nr/\(r.th=true\/r.isP=true)/\q.ths=l++r.ths/\l.length+r.text.length<=q.text.length/\Own w.heap.size w' out (l.map T.text),λs _ _=>s.length,⟨Ex.refl w,q,[],rfl,β,nb,hq,rfl,by simp,Own.nil _ _⟩,λs out w' hI=>?_⟩;obtain⟨x,r,l,rfl,γ,nr,hr,ζ,hl3,ho⟩:=hI;have hpos:1<=r.text.length:=by cases r<;>simp [T.text]
  refine aK γ ⟨λhc=>?_,λhc=>?_⟩
  ·cases r<;>simp [T.kind]at hc
   rename_i a b;refine pW γ λv1 w1 x1 η φ=>?_
   have χ:=Ex.trans x x1;refine η.get (Ex.refl _) (i:=0) (x:=a.text) (by omega) rfl (Q:=λn=>_) λb21 ψ θ G=>?_
   have δ:Ex w1 ψ:=G▸Ex.alloc w1 _;have H:=Ex.trans χ δ;refine Own.push ((ho.ex x1).ex δ) H.size (Strs.one θ G) (by simp only [Nq,M0,Np];omega) λv28 ω b29 ι hg hn=>?_
   have κ:=Ex.below H b29;have μ:Strs ω v1 ((T.par a b).parts.map T.text):=by
    refine(η.ex δ).grown hg λg hg' e=>?_
    have h1:=(ho.block g e).2;have h2:=φ g hg';omega
   refine μ.get (Ex.refl _) (i:=1) (x:=b.text) (by omega) rfl (Q:=λn=>_) ⟨⟨κ,b,l++[a],rfl,γ.parts b (by simp [T.parts]),nr.2.2,nr.1.2,?_,?_,by simpa using ι⟩,?_⟩
   ·rw [ζ];simp [T.ths]
   ·have:(T.par a b).text.length=a.text.length+b.text.length+3:=by simp [T.text];omega
    simp only [Nb,M0,Np];omega
   ·have:(T.par a b).text.length=a.text.length+b.text.length+3:=by simp [T.text];omega
    show b.text.length< (T.par a b).text.length;omega
  ·have hrt:r.th=true:=hr.resolve_right λe=>by cases r<;>simp [T.isP]at e;simp [T.kind]at hc
   intro b35 w36 ν J;have ξ:Ex w' w36:=J▸Ex.alloc w' _;have Z:=Ex.trans x ξ;refine Own.push (ho.ex ξ) Z.size (Strs.one ν J) (by simp only [Nq,M0,Np];omega) λv42 w43 b43 ο hg hn=>h _ w43 (Ex.below Z b43) ?_
   rw [ζ,np hrt];simpa using ο
def y4 {w:World}{v:Value}{l:List Tx}(hs:Strs w v l)(hl:l.length<=1000000000){i j:Nat}{R:Value->Qx}(h:∀v' w',Ex w w'->Own w.heap.size w' v' (wo l i j)->R v' w'):
  Qy 111 #[v,.int .i64 i,.int .i64 j] w (ax [.v] R):=by
 refine nJ v i j w R ?_;dsimp only [go_sem];dsimp only [go_sem,Nat.reduceAdd];obtain⟨a,cap,hv⟩:=hs.slice;refine⟨a,_,cap,hv,λout x w'=>Ex w w'/\∃k:Nat,x=k/\k<=l.length/\Own w.heap.size w' out (wo (l.take k) i j)/\(wo (l.take k) i j).length<=k,λ _ x _=>((l.length:Int) - x).toNat,⟨Ex.refl w,0,rfl,N5 _,Own.nil _ _,Nc _⟩,λout x w' hI=>?_⟩;obtain⟨x,k,rfl,hk,ho,η⟩:=hI;refine⟨λhc=>?_,λhc=>?_⟩
 ·have G:=oL hc;have hm:=@tN l.length k (by omega);have e:wo (l.take (k+1)) i j=wo (l.take k) i j++if !(k==i)&& !(k==j)then [l[k]]else []:=by
   unfold wo;rw [Ng G,List.zipIdx_append,OF,N0]
   congr 1
   have:(l.take k).length=k:=by rw [NW];omega
   simp only [List.zipIdx_cons,List.zipIdx_nil,NJ,this,List.filter_cons,List.filter_nil];split<;>rfl
  have skip:(!(k==i)&& !(k==j))=false->cW ((k:Int)+1)/\(Ex w w'/\∃k':Nat,(k:Int)+1=k'/\k'<=l.length/\Own w.heap.size w' out (wo (l.take k') i j)/\(wo (l.take k') i j).length<=k')/\((l.length:Int) - ((k:Int)+1)).toNat< ((l.length:Int) - k).toNat:=λh=>by
   refine⟨by omega,⟨x,k+1,by omega,G,?_⟩,hm⟩;rw [e,h];simp only [PQ,Qm,NM];exact⟨ho,by omega⟩
  refine hs.get x (i:=k) (x:=l[k]) (by omega) (by simp [G]) (Q:=λn=>_) ⟨λhi=>⟨λZ=>?_,λZ=>?_⟩,λhi=>?_⟩
  ·have hi:k≠i:=by simp at hi;omega
   have Z:k≠j:=by simp at Z;omega
   intro θ ε β H;have γ:Ex w' ε:=H▸Ex.alloc w' _;have J:=Ex.trans x γ;refine Own.push (ho.ex γ) J.size (Strs.one β H) (by simp only [M0,Np];omega) λv24 ι ζ δ hg hn=>⟨by omega,⟨Ex.below J ζ,k+1,by omega,G,?_⟩,hm⟩
   rw [e];have:(!(k==i)&& !(k==j))=true:=by simp [hi,Z]
   rw [this,NO rfl];exact⟨δ,by simp only [Nb,M0,Np];omega⟩
  ·have Z:k=j:=by simp at Z;omega
   exact skip (by simp [Z])
  ·have hi:k=i:=by simp at hi;omega
   exact skip (by simp [hi])
 ·have:k=l.length:=by simp at hc;omega
  subst this;rw [NR]at ho;exact h _ w' x ho
end
def cd (B:Nat)(w:World)(v:Value)(n:Nat)(xs:List Value):Prop:=w.ownsRow B 134 5 v n xs
def cd.nil (B:Nat)(w:World):cd B w (.slice none 0 0) 0 []:=P3 _ _ _ _
def cd.block {B:Nat}{w:World}{v:Value}{n:Nat}{xs:List Value}(h:cd B w v n xs):∀b,v.ownBlock=some b->B<=b/\b< w.heap.size:=Pt h
def cd.kp {B:Nat}{w w':World}{S:Nat->Prop}{v:Value}{n:Nat}{xs:List Value}(h:cd B w v n xs)(k:Kp w w' S)(H:∀g,v.ownBlock=some g->¬S g):cd B w' v n xs:=by
 refine⟨h.1,?_⟩;rcases h.2 with J | ⟨g,cap,cur,rfl,hb,G,rest⟩
 ·exact .inl J
 ·exact .inr ⟨g,cap,cur,rfl,hb,by rw [k.block g (NL.1 G).1 (H g rfl)];exact G,rest⟩
def cd.ex {B:Nat}{w w':World}{v:Value}{n:Nat}{xs:List Value}(h:cd B w v n xs)(x:Ex w w'):cd B w' v n xs:=h.kp (Kp.ah x λ _=>False) λ _ _ h=>h
def cd.mono {B G:Nat}{w:World}{v:Value}{n:Nat}{xs:List Value}(h:cd B w v n xs)(hb:G<=B):cd G w v n xs:=Pw h hb
def cd.zero {w w':World}{B b:Nat}(hB:B<=w.heap.size)(hb:b=w.heap.size)(h:w'=w.alloc (.cells #[] 134)):cd B w' (.slice (some ⟨b,0,none⟩) 0 0) 0 []:=by
 subst hb h;refine⟨rfl,.inr ⟨_,0,#[],rfl,hB,?_,by simp,by unfold maxLen;omega,rfl,rfl⟩⟩;unfold World.alloc;simp
def cd.one {w w':World}{B b:Nat}{cs:List Value}(G:cs.length=5)(hB:B<=w.heap.size)(hb:b=w.heap.size)(h:w'=w.alloc (.cells cs.toArray 134)):cd B w' (.slice (some ⟨b,0,none⟩) 1 1) 1 cs:=by
 subst hb h;refine⟨by rw [G],.inr ⟨_,1,cs.toArray,rfl,hB,?_,by simp,by unfold maxLen;omega,by simp [G],PS (by simp [G])⟩⟩;unfold World.alloc;simp
def cd.cell {B:Nat}{w:World}{v:Value}{n:Nat}{xs:List Value}(h:cd B w v n xs):(v= .slice none 0 0/\n=0/\xs=[])\/∃g cap,v= .slice (some ⟨g,0,none⟩) n cap/\g< w.heap.size/\∀j u,xs[j]?=some u->w.cell? ⟨g,0+j,none⟩=some u:=by
 have G:=h.1;rcases h.2 with⟨Z,H⟩ | ⟨g,cap,cur,rfl,hb,J,h1,h2,h3,h4⟩
 ·left;refine⟨Z,H,NF (by rw [G,H])⟩
 ·refine .inr ⟨g,cap,rfl,(NL.1 J).1,λj u hu=>?_⟩;have hj:j< xs.length:=(NZ.1 hu).1;unfold World.cell?;simp only [J,NJ];rw [<-h4,Og (by rw [<-G];exact hj),Oe]at hu;exact hu
def cd.src {B:Nat}{w:World}{v:Value}{n:Nat}{xs:List Value}(h:cd B w v n xs)(ha:xs.all oneV=true):db w v n 5 xs:=by
 refine⟨h.1,ha,?_⟩;rcases h.cell with⟨rfl,rfl,_⟩ | ⟨g,cap,rfl,_,G⟩
 ·exact .inl ⟨rfl,rfl⟩
 ·exact .inr ⟨g,0,cap,rfl,G⟩
def cd.push {B:Nat}{w:World}{v x:Value}{n m:Nat}{xs H:List Value}(h:cd B w v n xs)(hB:B<=w.heap.size)(J:db w x m 5 H)(hl:n+m<=1099511627776){K:Value->Qx}
  (Z:∀v' w',cd B w' v' (n+m) (xs++H)->w.grownBy w' v.ownBlock->(∀b,v'.ownBlock=some b->v.ownBlock=some b\/w.heap.size<=b)->K v' w'):
  ∃(base n' m':Nat) (G news:List Value),World.ownsRow w base 134 5 v n' G/\base<=Array.size (World.heap w)/\db w x m' 5 news/\(n'+m'<=maxLen/\(n'+m')* 40<=140737488355328)/\
   ∀(v':Value) (w':World),World.ownsRow w' base 134 5 v' (n'+m') (G++news)->World.grownBy w w' (Value.ownBlock v)->(∀b:Nat,Value.ownBlock v'=some b->Value.ownBlock v=some b\/Array.size (World.heap w)<=b)->K v' w':=
 ⟨B,n,m,xs,H,h,hB,J,⟨by unfold maxLen;omega,by omega⟩,λv' w' ho hg hw=>Z v' w' ho hg hw⟩
def fI (k:UInt8)(a b:Nat)(vr:Value)(s:Bool):List Value:=[.int .u8 k.toNat,iv a,iv b,vr,.bool s]
def jP (D:Nat->Prop)(w:World):Off Nat->List Value->Prop
 | .tau p,cs=>∃a b vr s,cs=fI 126 a b vr s/\aH D w (td p) vr
 | .snd a b p,cs=>∃vr s,cs=fI 33 a b vr s/\aH D w (td p) vr
 | .rcv a x q s,cs=>∃vr,cs=fI 63 a x vr s/\aH D w (td q) vr
def jP.ex {D:Nat->Prop}{w w':World}{o:Off Nat}{cs:List Value}(h:jP D w o cs)(x:Ex w w'):jP D w' o cs:=by
 cases o with
 | tau p=>obtain⟨a,b,vr,s,h1,G⟩:=h;exact⟨a,b,vr,s,h1,aH.ex G x⟩
 | snd a b p=>obtain⟨vr,s,h1,G⟩:=h;exact⟨vr,s,h1,aH.ex G x⟩
 | rcv a b p s=>obtain⟨vr,h1,G⟩:=h;exact⟨vr,h1,aH.ex G x⟩
def jP.kp {D S:Nat->Prop}{w w':World}{o:Off Nat}{cs:List Value}(h:jP D w o cs)(k:Kp w w' S)(H:∀g,D g->¬S g):jP D w' o cs:=by
 cases o with
 | tau p=>obtain⟨a,b,vr,s,h1,G⟩:=h;exact⟨a,b,vr,s,h1,aH.kp G k H⟩
 | snd a b p=>obtain⟨vr,s,h1,G⟩:=h;exact⟨vr,s,h1,aH.kp G k H⟩
 | rcv a b p s=>obtain⟨vr,h1,G⟩:=h;exact⟨vr,h1,aH.kp G k H⟩
def jP.len {D:Nat->Prop}{w:World}{o:Off Nat}{cs:List Value}(h:jP D w o cs):cs.length=5/\cs.all oneV=true:=by
 cases o with
 | tau p=>obtain⟨a,b,vr,s,rfl,G⟩:=h;exact⟨rfl,by have :=G.one;simp only [fI,Oj,PT,PJ,this]⟩
 | snd a b p=>obtain⟨vr,s,rfl,G⟩:=h;exact⟨rfl,by have :=G.one;simp only [fI,Oj,PT,PJ,this]⟩
 | rcv a b p s=>obtain⟨vr,rfl,G⟩:=h;exact⟨rfl,by have :=G.one;simp only [fI,Oj,PT,PJ,this]⟩
def OffsM (D:Nat->Prop)(w:World):List (Off Nat)->List Value->Prop
 | [],xs=>xs=[]
 | o::os,xs=>∃cs G,xs=cs++G/\jP D w o cs/\OffsM D w os G
section
variable {D S:Nat->Prop} {w w':World}
def OffsM.kp (k:Kp w w' S)(G:∀g,D g->¬S g):∀{os:List (Off Nat)} {xs:List Value},OffsM D w os xs->OffsM D w' os xs
 | [],_,h=>h
 | _::_,_,⟨cs,H,h1,J,Z⟩=>⟨cs,H,h1,J.kp k G,OffsM.kp k G Z⟩
def OffsM.ex {os:List (Off Nat)}{xs:List Value}(h:OffsM D w os xs)(x:Ex w w'):OffsM D w' os xs:=OffsM.kp (Kp.ah x λ _=>False) (λ _ _ h=>h) h
def OffsM.app:∀{os G:List (Off Nat)} {xs H:List Value},OffsM D w os xs->OffsM D w G H->OffsM D w (os++G) (xs++H)
 | [],_,_,_,h,k=>by cases h;exact k
 | _::_,_,_,_,⟨cs,zs,h1,J,Z⟩,k=>by subst h1;exact⟨cs,zs++_,by rw [NX],J,OffsM.app Z k⟩
def OffsM.len:∀{os:List (Off Nat)} {xs:List Value},OffsM D w os xs->xs.length=os.length* 5/\xs.all oneV=true
 | [],_,h=>by cases h;exact⟨rfl,rfl⟩
 | o::os,_,⟨cs,ys,h1,G,H⟩=>by
  subst h1;obtain⟨J,Z⟩:=G.len;obtain⟨k3,k4⟩:=OffsM.len H;refine⟨by rw [Nb,J,k3,M0];omega,by rw [PB,Z,k4];rfl⟩
def OffsM.at:∀{os:List (Off Nat)} {xs:List Value},OffsM D w os xs->∀{i:Nat} (hi:i< os.length),∃cs,jP D w os[i] cs/\∀j,j< 5->xs[i* 5+j]?=cs[j]?
 | o::os,_,⟨cs,ys,h1,G,J⟩,0,hi=>by
  subst h1;refine⟨cs,G,λj Z=>?_⟩;rw [List.getElem?_append_left (by rw [G.len.1];omega)]
  congr 1;omega
 | o::os,_,⟨cs,ys,h1,G,J⟩,i+1,hi=>by
  subst h1;obtain⟨H,k1,k2⟩:=OffsM.at J (i:=i) (by simpa using hi);refine⟨H,k1,λj Z=>?_⟩;rw [<-k2 j Z,List.getElem?_append_right (by rw [G.len.1];omega),G.len.1]
  congr 1;omega
def OffsM.one {o:Off Nat}{cs:List Value}(h:jP D w o cs):OffsM D w [o] cs:=⟨cs,[],by simp,h,rfl⟩
end
def pre:U->Bool
 | .snd .. =>true | .rcv .. =>true | .tau .. =>true | _=>false
def xA {u:U}(h:pre u=true):∃o,offs u=[o]:=by cases u<;>first | exact⟨_,rfl⟩ | cases h
def Gx {D:Nat->Prop}{w:World}{u:U}{v:Value}(hp:pre u=true)(h:af D w (tl [u]) [v]):∃(g:Nat) (k:UInt8) (a b:Nat) (vr:Value) (r:U),v=ptr g/\D g/\g< w.heap.size/\w.cell? ⟨g,0,none⟩=some (.int .u8 k.toNat)/\w.cell? ⟨g,1,none⟩=some (iv a)/\w.cell? ⟨g,2,none⟩=some (iv b)/\w.cell? ⟨g,3,none⟩=some vr/\
  (k=126\/k=33\/k=63)/\aH D w (td r) vr/\(∀s,k=63->∀a' x q,u= .rcv a' x q->jP D w (.rcv a' x q s) (fI k a b vr s))/\(∀s o,offs u=[o]->k≠63->jP D w o (fI k a b vr s))/\(∀o,offs u=[o]->jP D w o (fI k a b vr false))/\(k=63↔∃a' x q,u= .rcv a' x q):=by
 cases u<;>try cases hp
 ·rename_i a b p;obtain⟨t,Z,a',J,vr,e1,⟨g,hg,hD,hl,c0,c1,c2,c3,c4⟩,hk,G,_⟩:=h;obtain⟨rfl,rfl⟩:=Oa e1;obtain⟨rfl,rfl⟩:a'=a/\J=b:=by rcases hk with h | h | h<;>first | exact h | cases h
  refine⟨g,33,a',J,vr,p,hg,hD,hl,c0,c1,c2,c3,.inr (.inl rfl),G,λs h=>absurd h (by decide),λs o H _=>?_,λo H=>?_,⟨λh=>absurd h (by decide),fun⟨_,_,_,h⟩=>by cases h⟩⟩
  ·cases H;exact⟨vr,s,rfl,G⟩
  ·cases H;exact⟨vr,false,rfl,G⟩
 ·rename_i a b p;obtain⟨t,Z,a',J,vr,e1,⟨g,hg,hD,hl,c0,c1,c2,c3,c4⟩,hk,G,_⟩:=h;obtain⟨rfl,rfl⟩:=Oa e1;obtain⟨rfl,rfl⟩:a'=a/\J=b:=by rcases hk with h | h | h<;>first | exact h | cases h
  refine⟨g,63,a',J,vr,p,hg,hD,hl,c0,c1,c2,c3,.inr (.inr rfl),G,λs _ a2 x q e=>?_,λs o H h=>absurd rfl h,λo H=>?_,⟨λ _=>⟨_,_,_,rfl⟩,λ _=>rfl⟩⟩
  ·cases e;exact⟨vr,rfl,G⟩
  ·cases H;exact⟨vr,rfl,G⟩
 ·rename_i p;obtain⟨t,Z,a',J,vr,e1,⟨g,hg,hD,hl,c0,c1,c2,c3,c4⟩,hk,G,_⟩:=h;obtain⟨rfl,rfl⟩:=Oa e1;refine⟨g,126,a',J,vr,p,hg,hD,hl,c0,c1,c2,c3,.inl rfl,G,λs h=>absurd h (by decide),λs o H _=>?_,λo H=>?_,⟨λh=>absurd h (by decide),fun⟨_,_,_,h⟩=>by cases h⟩⟩
  ·cases H;exact⟨a',J,vr,s,rfl,G⟩
  ·cases H;exact⟨a',J,vr,false,rfl,G⟩
def GO {u:U}(n:u.Nr):offs u=u.ly.flatMap offs:=by
 induction u with
 | sum p q H G=>
  have :=G n.2.2;simp only [offs,T.ly,Ob];rw [this]
 | _=>simp [T.ly]
def HB {u:U}(n:u.Nr)(G:u.smp=true)(Z:u.gp=true)(hd:u.dead=false):∀s∈u.ly,pre s=true/\s.Nr/\(∀x∈BV s,x∈BV u)/\(BV s).Sublist (BV u):=by
 induction u with
 | sum p q ih H=>
  simp only [T.smp,M8]at G;intro s h;rcases Nw.1 h with rfl | h
  ·refine⟨?_,n.2.1,λx J=>NS _ J,O5 _ _⟩;have h1:=n.1.2.2;have h2:=G.1.1;have h3:=n.1.1;cases s<;>first | rfl | (cases h2;done) | (cases h1;done) | (cases h3;done)
  ·obtain⟨k1,k2,k3,k4⟩:=H n.2.2 G.2.2 G.1.2 n.1.2.1 s h;exact⟨k1,k2,λx J=>NG _ (k3 x J),k4.trans (OJ _ _)⟩
 | nil=>cases hd
 | snd a b p=>intro s h;cases ND.1 h;exact⟨rfl,n,λ _ h=>h,Oc _⟩
 | rcv a b p=>intro s h;cases ND.1 h;exact⟨rfl,n,λ _ h=>h,Oc _⟩
 | tau p=>intro s h;cases ND.1 h;exact⟨rfl,n,λ _ h=>h,Oc _⟩
 | _=>cases Z
def JE {D:Nat->Prop}{w:World}:∀{l:List U} {us:List Value},af D w (tp l) us->us.length=l.length/\∀j (h:j< l.length) (G:j< us.length),aH D w (td l[j]) us[j]
 | [],us,h=>by cases h;exact⟨rfl,λj h=>by cases h⟩
 | u::l,_,⟨v,H,e,h1,J⟩=>by
  subst e;obtain⟨Z,k2⟩:=JE J;refine⟨by simp [Z],λj h G=>?_⟩;cases j with
  | zero=>exact h1
  | succ j=>simpa using k2 j (by simpa using h) (by simpa using G)
def De {D:Nat->Prop}{w:World}:∀{l:List U} {us:List Value},(∀u∈l,u.th=true)->af D w (tl l) us->us.length=l.length/\∀j (h:j< l.length) (h':j< us.length),af D w (tl [l[j]]) [us[j]]
 | [],us,_,h=>by cases h;exact⟨rfl,λj h=>by cases h⟩
 | u::l,us,H,h=>by
  have h0:=H u (by simp);have key:∃v G,us=v::G/\af D w (tl [u]) [v]/\af D w (tl l) G:=by
   cases u<;>try cases h0
   all_goals
    first
    | (obtain⟨t,G,a',b',vr,e,J,Z,k3,k4⟩:=h;exact⟨t,G,e,⟨t,[],a',b',vr,rfl,J,Z,k3,rfl⟩,k4⟩)
    | (obtain⟨t,G,a',b',vp,β,e,J,Z,k3,k4⟩:=h;exact⟨t,G,e,⟨t,[],a',b',vp,β,rfl,J,Z,k3,rfl⟩,k4⟩)
  obtain⟨v,G,e,J,Z⟩:=key;subst e;obtain⟨k3,k4⟩:=De (λu hu=>H u (Nh _ hu)) Z;refine⟨by simp [k3],λj h h'=>?_⟩;cases j with
  | zero=>exact J
  | succ j=>simpa using k4 j (by simpa using h) (by simpa using h')
def EU {D:Nat->Prop}{w:World}{u:U}{v:Value}(hp:pre u=true)(h:af D w (tl [u]) [v]){R:Value->Qx}(hR:∀v' w' xs,Ex w w'->cd w.heap.size w' v' (offs u).length xs->OffsM D w' (offs u) xs->R v' w'):
  Qy 113 #[v] w (ax [.v] R):=by
 refine dX v w R ?_;obtain⟨o,ho⟩:=xA hp;obtain⟨g,k,a,b,vr,r,J,hD,hl,c0,c1,c2,c3,hk,δ,_,_,ε,_⟩:=Gx hp h;refine⟨g,0,J,k,c0,λx w'=>w'=w/\x=true,?_,λx Z hJ=>?_⟩
 ·rcases hk with rfl | rfl | rfl
  ·exact⟨λ _=>⟨rfl,by decide⟩,λh=>absurd h (by decide)⟩
  ·exact⟨λh=>absurd h (by decide),λ _=>⟨λ _=>⟨rfl,by decide⟩,λh=>absurd h (by decide)⟩⟩
  ·exact⟨λh=>absurd h (by decide),λ _=>⟨λh=>absurd h (by decide),λ _=>⟨rfl,by decide⟩⟩⟩
 ·obtain⟨rfl,rfl⟩:=hJ;refine⟨λ _=>⟨λw'=>Ex Z w',λw9 ζ=>?_⟩,λh=>by cases h⟩;have x9:Ex Z w9:=ζ▸Ex.drew Z;have cg:∀{w':World},Ex Z w'->∀j,w'.cell? ⟨g,j,none⟩=Z.cell? ⟨g,j,none⟩:=λx j=>x.cell (show g< _ from hl)
  refine⟨x9,g,0,J,k,λw' x=>by rw [cg x];exact c0,g,0,J,a,λw' x=>by rw [cg x];exact c1,g,0,J,b,λw' x=>by rw [cg x];exact c2,g,0,J,vr,λw' x=>by rw [cg x];exact c3,δ.one,λθ β γ H=>?_⟩;have η:Ex w9 β:=H▸Ex.alloc w9 _;have G:=Ex.trans x9 η;refine⟨G,hR _ β (fI k a b vr false) G ?_ ?_⟩
  ·rw [ho];exact cd.one rfl x9.size γ H
  ·rw [ho];exact OffsM.one ((ε o ho).ex G)
def G7 {D:Nat->Prop}{w:World}{u:U}{v:Value}(hth:u.th=true)(hq:Uq u)(n:u.Nr)(hs:u.smp=true)(hz:u.size<=1000000)(hDw:∀g,D g->g< w.heap.size)(h:af D w (tl [u]) [v]){R:Value->Qx}(hR:∀v' w' xs,Ex w w'->cd w.heap.size w' v' (offs u).length xs->OffsM D w' (offs u) xs->R v' w'):
  Qy 113 #[v] w (ax [.v] R):=by
 by_cases hp:pre u=true
 ·exact EU hp h hR
 refine dX v w R ?_;cases u<;>first | (exact absurd rfl hp) | (cases hth;done) | skip
 case mat a b p=>
  obtain⟨t,ts',a',b',vr,e1,⟨g,hg,hD,hl,c0,c1,c2,c3,c4⟩,hk,η,_⟩:=h;obtain⟨rfl,rfl⟩:=Oa e1;refine⟨g,0,hg,_,c0,λx w'=>w'=w/\x=false,⟨λh=>absurd h (by decide),λ _=>⟨λh=>absurd h (by decide),λ _=>⟨rfl,by decide⟩⟩⟩,λx H hJ=>?_⟩;obtain⟨rfl,rfl⟩:=hJ;refine⟨λh=>(by cases h),λ _=>aR (by decide) (aR (by decide) (hR _ H [] (Ex.refl _) (cd.nil _ _) rfl))⟩
 case rep p=>
  simp only [T.smp,M8]at hs;cases p<;>try (simp [T.isR]at hs)
  rename_i a x q;obtain⟨t,ts',a',b',vr,e1,⟨g,hg,hD,hl,c0,c1,c2,c3,c4⟩,hk,η,_⟩:=h;obtain⟨rfl,rfl⟩:=Oa e1;have etd:td (.rcv a x q)=([],tl [.rcv a x q]):=gU hq.rep n.2;rw [etd]at η;obtain⟨br,vo2,μ,ν,rfl,k2,k3,k4,k5,k6,k7,k8⟩:=η;obtain⟨hl2,hat⟩:=De (l:=[T.rcv a x q]) (λu hu=>by cases ND.1 hu;rfl) k8;obtain⟨v2,rfl⟩:∃v2,ν=[v2]:=by
   match ν,hl2 with
   | [v2],_=>exact⟨v2,rfl⟩
  have hp2:=Gx (u:= .rcv a x q) rfl (hat 0 (by simp) (by simp));obtain⟨g2,kk,a2,b2,vr2,r2,hg2,hD2,hlt2,d0,d1,d2,d3,hkk,hlv2,hof,_,_,hiff⟩:=hp2;have hk63:kk=63:=hiff.2 ⟨_,_,_,rfl⟩;subst hk63;obtain⟨at_,ξ,hvt⟩:=k7.slice;refine⟨g,0,hg,_,c0,λx w'=>w'=w/\x=false,⟨λh=>absurd h (by decide),λ _=>⟨λh=>absurd h (by decide),λ _=>⟨rfl,by decide⟩⟩⟩,λy H hJ=>?_⟩;obtain⟨rfl,rfl⟩:=hJ;refine⟨λh=>(by cases h),λ _=>cI (by decide) λb24 w25 hb24 hw25=>?_⟩;have x25:Ex H w25:=hw25▸Ex.alloc H _;refine⟨g,0,hg,ptr br,by rw [x25.cell (show g< _ from hl)];exact c3,br,0,rfl,μ,by rw [x25.cell (show br< _ from k3)];exact k5,at_,_,ξ,hvt,λout i w'=>(i=0/\Ex H w'/\cd H.heap.size w' out 0 [])\/(i=1/\Ex H w'/\cd H.heap.size w' out 1 (fI 63 a2 b2 vr2 true)),λ _ i _=>(1 - i).toNat,.inl ⟨rfl,x25,cd.zero (Nc _) hb24 hw25⟩,λout i w36 hI=>?_⟩;rcases hI with⟨rfl,θ,Z⟩ | ⟨rfl,θ,Z⟩
  ·obtain⟨bt,ot,G,ο,γ,hbl,hcl⟩:∃bt ot G,μ= .slice (some ⟨bt,ot,none⟩) 1 G/\D bt/\bt< H.heap.size/\H.cell? ⟨bt,ot+0,none⟩=some v2:=by
    rcases k7 with⟨_,h0⟩ | ⟨bt,ot,G,e,γ,ς,J⟩
    ·cases h0
    ·exact⟨bt,ot,G,e,γ,ς,J 0 _ rfl⟩
   refine cI (by simp) ⟨bt,ot,1,G,ο,by omega,by omega,v2,?_,g2,0,hg2,63,?_,cI (by decide) ⟨λw'=>Ex H w',λw46 hw46=>?_⟩⟩
   ·rw [show(0:Int).toNat* 1=0 from rfl,θ.cell (show bt< _ from hbl)];exact hcl
   ·rw [θ.cell (show g2< _ from hlt2)];exact d0
   have x46':Ex w36 w46:=hw46▸Ex.drew w36;have x46:=Ex.trans θ x46';have cg:∀{w':World},Ex H w'->∀j,w'.cell? ⟨g2,j,none⟩=H.cell? ⟨g2,j,none⟩:=λx j=>x.cell (show g2< _ from hlt2)
   refine⟨x46,g2,0,hg2,a2,λw' x=>by rw [cg x];exact d1,g2,0,hg2,b2,λw' x=>by rw [cg x];exact d2,g2,0,hg2,vr2,λw' x=>by rw [cg x];exact d3,hlv2.one,λb56 w57 hb56 hw57=>?_⟩;have x57':Ex w46 w57:=hw57▸Ex.alloc w46 _;have ι:=Ex.trans x46 x57';have o1:cd w46.heap.size w57 (.slice (some ⟨b56,0,none⟩) 1 1) 1 (fI 63 a2 b2 vr2 true):=cd.one rfl (Nc _) hb56 hw57;have hone:(fI 63 a2 b2 vr2 true).all oneV=true:=by have :=hlv2.one;simp only [fI,Oj,PT,PJ,this]
   refine⟨ι,cd.push (Z.ex (Ex.trans x46' x57')) (by have :=ι.size;omega) (o1.src hone) (by omega) λv63 w64 ho64 hg64 _=>⟨?_,by omega,.inr ⟨rfl,?_,?_⟩,by show(1 - (0+1):Int).toNat< (1 - 0:Int).toNat;decide⟩⟩
   ·exact Ex.below ι (Kp.below (Kp.aG (S:=λg=>out.ownBlock=some g) hg64 λ _ h=>h) ι.size λg hg e=>by have :=(Z.block g e).1;omega)
   ·exact Ex.below ι (Kp.below (Kp.aG (S:=λg=>out.ownBlock=some g) hg64 λ _ h=>h) ι.size λg hg e=>by have :=(Z.block g e).1;omega)
   ·simpa using ho64
  ·refine aR (by simp) (hR out w36 _ θ Z ?_);exact OffsM.one ((hof true rfl a x q rfl).ex θ)
 case sum p q=>
  have hlive:(T.sum p q).dead=false:=n.rz rfl;have hsm:=HB n hs rfl hlive;have hofs:=GO n;have etl:tl [T.sum p q]= .sum (tp (T.sum p q).ly) .nil:=by
   simp only [tl,T.ly];rw [dU hq.dF n.2.1 n.1.1,dU hq.dh n.2.2 n.1.2.1,T.fP n.1.2.2];rfl
  rw [etl]at h;obtain⟨t,ts',a',b',vp,us,e1,⟨g,hg,hD,hl,c0,c1,c2,c3,c4⟩,hus,hps,_⟩:=h;obtain⟨rfl,rfl⟩:=Oa e1;obtain⟨hul,hua⟩:=JE hps;generalize hS:(T.sum p q).ly=S at*;have hSl:S.length<=1000000:=by
   have:∀u:U,u.ly.length<=u.size:=by
    intro u
    induction u with
    | sum p q _ ih=>simp only [T.ly,M0,T.size];omega
    | _=>simp only [T.ly,M0,Np,T.size];omega
   have :=this (T.sum p q);rw [hS]at this;omega
  have hol:∀i,((S.take i).flatMap offs).length=(S.take i).length:=by
   have:∀l:List U,(∀s∈l,pre s=true)->(l.flatMap offs).length=l.length:=by
    intro l
    induction l with
    | nil=>intro _;rfl
    | cons s l ih=>
     intro hl;obtain⟨o,ho⟩:=xA (hl s (by simp));simp only [Ob,ho,Nb,M0,Np,ih λx hx=>hl x (by simp [hx])];omega
   exact λi=>this _ λs δ=>(hsm s (List.mem_of_mem_take δ)).1
  obtain⟨au,cau,hvu⟩:=hus.slice;refine⟨g,0,hg,43,c0,λx w'=>w'=w/\x=false,⟨λh=>absurd h (by decide),λ _=>⟨λh=>absurd h (by decide),λ _=>⟨rfl,by decide⟩⟩⟩,λy H hJ=>?_⟩;obtain⟨rfl,rfl⟩:=hJ;refine⟨λh=>(by cases h),λ _=>aR (by decide) (cI (by decide) λb68 w69 hb68 hw69=>?_)⟩;have x69:Ex H w69:=hw69▸Ex.alloc H _;refine⟨g,0,hg,vp,by rw [x69.cell (show g< _ from hl)];exact c4,au,_,cau,hvu,λout i w'=>∃(j:Nat) (xs:List Value),i=j/\j<=us.length/\Ex H w'/\cd H.heap.size w' out ((S.take j).flatMap offs).length xs/\OffsM D w' ((S.take j).flatMap offs) xs,λ _ i _=>(us.length - i).toNat,⟨0,[],rfl,N5 _,x69,by simpa using cd.zero (Nc _) hb68 hw69,by simp [OffsM]⟩,λout i w80 hI=>?_⟩;obtain⟨j,xs,rfl,hj,x80,υ,φ⟩:=hI;refine⟨λhlt=>?_,λhge=>?_⟩;rotate_left
  ·have:j=S.length:=by simp only [No]at hge;omega
   rw [this,NR]at υ φ;rw [hofs]at hR;exact hR out w80 xs x80 υ φ
  have hjl:=oL hlt;have hjS:j< S.length:=by omega
  have κ:=hsm S[j] (NC hjS);obtain⟨bu,ou,ε,hvu',γ,hbu,hcu⟩:∃bu ou ε,vp= .slice (some ⟨bu,ou,none⟩) us.length ε/\D bu/\bu< H.heap.size/\H.cell? ⟨bu,ou+j,none⟩=some us[j]:=by
   rcases hus with⟨_,h0⟩ | ⟨bt,ot,G,e,γ,ς,J⟩
   ·rw [h0]at hjl;simp at hjl
   ·exact⟨bt,ot,G,e,γ,ς,J j _ (M6 hjl)⟩
  have η:=hua j hjS hjl;have huqS:Uq S[j]:=by
   refine⟨hq.nd.sublist κ.2.2.2,λx hx hf=>?_⟩;have hfr:∀u:U,∀s∈u.ly,∀z,s.Fr z->u.Fr z:=by
    intro u
    induction u with
    | sum p q _ ih=>
     intro s δ z hz;rcases Nw.1 δ with rfl | δ
     ·exact .inl hz
     ·exact .inr (ih s δ z hz)
    | _=>intro s δ z hz;cases ND.1 δ;exact hz
   exact hq.nf x (κ.2.2.1 x hx) (hfr _ S[j] (by rw [hS];exact NC hjS) x hf)
  have χ:(S[j]).th=true:=by
   have h1:=κ.1;revert h1;cases S[j]<;>first | (intro _;rfl) | (intro h;cases h)
  have etd:td S[j]=([],tl [S[j]]):=by rw [gU huqS κ.2.1,T.ia χ,T.np χ]
  rw [etd]at η;obtain⟨br,vo2,μ,ν,hbr,k2,k3,k4,k5,k6,k7,k8⟩:=η;obtain⟨hl2,hat⟩:=De (l:=[S[j]]) (λu hu=>by cases ND.1 hu;exact χ) k8;obtain⟨v2,rfl⟩:∃v2,ν=[v2]:=by
   match ν,hl2 with
   | [v2],_=>exact⟨v2,rfl⟩
  have ha2:=hat 0 (by simp) (by simp);obtain⟨at_,ξ,hvt⟩:=k7.slice;have htk:(S.take (j+1)).flatMap offs=(S.take j).flatMap offs++offs S[j]:=by rw [Ng hjS,OH];simp
  refine⟨bu,ou,_,ε,hvu',by omega,by omega,us[j],?_,br,0,hbr,μ,by rw [x80.cell (show br< _ from k3)];exact k5,at_,_,ξ,hvt,λout i w'=>(i=0/\∃xs,Ex H w'/\cd H.heap.size w' out ((S.take j).flatMap offs).length xs/\OffsM D w' ((S.take j).flatMap offs) xs)\/(i=1/\∃xs,Ex H w'/\cd H.heap.size w' out ((S.take (j+1)).flatMap offs).length xs/\OffsM D w' ((S.take (j+1)).flatMap offs) xs),
   λ _ i _=>(1 - i).toNat,.inl ⟨rfl,xs,x80,υ,φ⟩,λout2 i w93 hI2=>?_⟩
  ·rw [Nf,NQ,x80.cell (show bu< _ from hbu)];exact hcu
  rcases hI2 with⟨rfl,xs2,ψ,β,ω⟩ | ⟨rfl,xs2,ψ,β,ω⟩
  ·obtain⟨bt,ot,G,ο,hbD2,hbl,hcl⟩:∃bt ot G,μ= .slice (some ⟨bt,ot,none⟩) 1 G/\D bt/\bt< H.heap.size/\H.cell? ⟨bt,ot+0,none⟩=some v2:=by
    rcases k7 with⟨_,h0⟩ | ⟨bt,ot,G,e,γ,ς,J⟩
    ·cases h0
    ·exact⟨bt,ot,G,e,γ,ς,J 0 _ rfl⟩
   refine cI (by simp) ⟨bt,ot,1,G,ο,by omega,by omega,v2,?_,EU κ.1 (af.ex ha2 ψ) λv99 w100 ys x100 ho100 hm100=>?_⟩
   ·rw [show(0:Int).toNat* 1=0 from rfl,ψ.cell (show bt< _ from hbl)];exact hcl
   have ζ:=Ex.trans ψ x100;have hlen1:=hol j;rw [NW,Pm (by omega)]at hlen1;obtain⟨o,hoo⟩:=xA κ.1;have hlo:(offs S[j]).length=1:=by rw [hoo];rfl
   refine cd.push (β.ex x100) ζ.size (ho100.src hm100.len.2) (by omega) λv106 w107 ho107 hg107 _=>⟨by omega,.inr ⟨rfl,xs2++ys,?_,?_,?_⟩,by show(1 - (0+1):Int).toNat< (1 - 0:Int).toNat;decide⟩
   ·exact Ex.below ζ (Kp.below (Kp.aG (S:=λg=>out2.ownBlock=some g) hg107 λ _ h=>h) ζ.size λg hg e=>by have :=(β.block g e).1;omega)
   ·rw [htk,Nb];exact ho107
   ·rw [htk];exact OffsM.kp (Kp.aG (S:=λg=>out2.ownBlock=some g) hg107 λ _ h=>h) (λg hgD e=>by have :=(β.block g e).1;have :=hDw g hgD;omega) ((ω.ex x100).app hm100)
  ·refine aR (by simp) ⟨by omega,⟨j+1,xs2,by omega,by omega,ψ,β,ω⟩,tN (by omega)⟩
section
open T
structure Jf (b b2 n0 c:Nat)(w0 w':World)(acc:List U)(M:Nat->Prop):Prop where
 km:Km b w0 w'
 rs:LQ w0.heap.size w' b2 (outs acc) (!Hi acc) M
 mc:∃n,Mk w' b n/\n0<=n/\n<=n0+c
 hb:b< w0.heap.size
section
variable {b b2 n0 c:Nat} {w0 w w':World} {acc:List U} {M:Nat->Prop}
def Jf.nb (h:Jf b b2 n0 c w0 w acc M):¬M b:=λG=>by have :=(h.rs.mr b G).1;have :=h.hb;omega
def Jf.ex (h:Jf b b2 n0 c w0 w acc M)(x:Ex w w'):Jf b b2 n0 c w0 w' acc M:=by
 obtain⟨n,h1,G⟩:=h.mc;exact⟨h.km.out (Kp.ah x λ _=>False) (λ _ _ h=>h) h.hb,h.rs.kp (Kp.ah x λ _=>False) λ _ _ h=>h,⟨n,h1.ex x,G⟩,h.hb⟩
end
def GZ {t:P}{u:U}(su:SU t u){D:Nat->Prop}{w:World}{v:Value}(h:aH D w (td u) v):∃b vo vt ts,v=ptr b/\D b/\b< w.heap.size/\w.cell? ⟨b,0,none⟩=some vo/\w.cell? ⟨b,1,none⟩=some vt/\dG D w vo (u.frL.map iv)/\dG D w vt ts/\ts.length=u.ths.length/\∀i (h:i< u.ths.length) (h':i< ts.length),af D w (tl [u.ths[i]]) [ts[i]]:=by
 rw [gU su.nu.uq su.nr]at h;obtain⟨b,vo,vt,ts,h1,G,H,h4,h5,J,Z,h8⟩:=h;obtain⟨k1,k2⟩:=De (λq hq=>(su.nr.ths q hq).1) h8;exact⟨b,vo,vt,ts,h1,G,H,h4,h5,J,Z,k1,k2⟩
def SU.th {t:P}{u:U}(su:SU t u):∀q∈u.ths,q.th=true/\Uq q/\q.Nr:=λq G=>by
 obtain⟨i,hi,rfl⟩:=Od.1 G;exact⟨(su.nr.ths _ G).1,su.BP hi (Sub.refl _) (Oc _),(su.nr.ths _ G).2⟩
def sW (u:U):(td u).1.length+(td u).2.tot<=4* u.size:=by
 have h1:=oF (flat u).1 (flat u).2;have G:=bX u;have e:Lv.tidy (flat u).1 (flat u).2=td u:=rfl;rw [e]at h1;omega
def jn (f:Nat->Nat):∀l:Lv,(l.map f).tot=l.tot
 | .nil=>rfl
 | .thr k a b o r n=>by simp only [Lv.map,Lv.tot,jn f r,jn f n,Nq]
 | .sum ps n=>by simp only [Lv.map,Lv.tot,jn f ps,jn f n]
 | .part o q n=>by simp only [Lv.map,Lv.tot,jn f q,jn f n,Nq]
def FF {t:P}{u:U}(su:SU t u)(κ:u.size<=1000){w:World}{b:Nat}{vl vg vo vm:Value}{gl:List Nat}{mvs:List Value}{zs:List ((List Nat×Lv)×U)}{vv:U}(β:w.cell? ⟨b,2,none⟩=some vl)(γ:b< w.heap.size)(hl:aH (λg=>g< w.heap.size) w (td u) vl)(hg:dG (λg=>g< w.heap.size) w vg (gl.map iv))(δ:gl.length<=1000)
  (ho:dG (λg=>g< w.heap.size) w vo (u.frL.map iv)) (hm:dG (λg=>g< w.heap.size) w vm mvs) (ε:aO (λL v=>aH (λg=>g< w.heap.size) w L v) (zs.map (·.1)) mvs) (ζ:mvs.length<=1000) (hz:∀z∈zs,Pc z.1 z.2) (μ:(joinL (zs.map (·.1))).1.length+(joinL (zs.map (·.1))).2.tot<=1000000)
  {P:Nat->Bool} (hP:∀i,P i=decide (i∈gl)) (H:Nu (resL u.frL (parL (jJ P u.ths 0++zs.map (·.2))))) (η:je (resL u.frL (parL (jJ P u.ths 0++zs.map (·.2))))=je vv) {R:aJ->Bool->Qx} (hR:∀w',Ex w w'->(∀s,je vv=some s->R s true w')/\(je vv=none->R [] false w')):
  Qy 114 #[ptr b,vg,vo,vm] w (ax [.s,.b] R):=by
 have J:=gU su.nu.uq su.nr;have Z:=su.th;have e:=Ez u.frL (K:=jJ P u.ths 0) (λt ht=>Z t (rm ht)) hz;have G:=sW u;rw [J]at hl G;have θ:∀x∈zs.map (·.1),x.2.sh true=true:=λx hx=>by
  obtain⟨z,h1,rfl⟩:=NT.1 hx;exact(hz z h1).sh
 have ι:(tl u.ths).sh true=true:=by have :=Ct u;rw [J]at this;exact this
 simp only at G;refine IL (res:=(u.frL++(joinL (zs.map (·.1))).1,(tl (jJ P u.ths 0)).app (joinL (zs.map (·.1))).2)) β γ hl hg δ ho hm ε ζ ι θ (by omega) hP (by rw [Kf λt ht=>(Z t ht).1]) ?_ ?_ λw' x=>?_
 ·rw [e];exact Ca H.uq H.bv
 ·rw [e];exact JC H
 ·rw [e];have:BG (td (resL u.frL (parL (jJ P u.ths 0++zs.map (·.2)))))=je vv:=η;rw [this];exact hR w' x
def aO.Mo {A B:Type}{R:A->B->Prop}:aO R [] []:=⟨rfl,λi a b h=>by simp at h⟩
def MY {w w1:World}{e g:Nat}{x:Value}(H:g=w.heap.size)(hw:w1=w.alloc (.cells #[x] e)):dG (λg=>g< w1.heap.size) w1 (.slice (some ⟨g,0,none⟩) 1 1) [x]:=by
 subst H hw;refine .inr ⟨w.heap.size,0,1,rfl,by rw [size_alloc];omega,by rw [size_alloc];omega,λi y G=>?_⟩;cases i with
 | zero=>simp only [OY,Ow]at G;subst G;exact aa rfl
 | succ i=>simp at G
def Mx {D:Nat->Prop}{w w1:World}{v:Value}{l:List Value}(h:dG D w v l)(x:Ex w w1):dG (λg=>g< w1.heap.size) w1 v l:=(h.ex x).sub λg G _=>G
def gn:∀u:U,(BV u).length<=u.size
 | .nil=>by simp [BV]
 | .snd a b p=>by have :=gn p;simp only [BV,T.size];omega
 | .mat a b p=>by have :=gn p;simp only [BV,T.size];omega
 | .rcv a b p=>by have :=gn p;simp only [BV,T.size,M0];omega
 | .res b p=>by have :=gn p;simp only [BV,T.size,M0];omega
 | .tau p=>by have :=gn p;simp only [BV,T.size];omega
 | .rep p=>by have :=gn p;simp only [BV,T.size];omega
 | .sum p q=>by have :=gn p;have :=gn q;simp only [BV,T.size,Nb];omega
 | .par p q=>by have :=gn p;have :=gn q;simp only [BV,T.size,Nb];omega
def kz:∀u:U,∀q∈u.ths,q.size<=u.size:=by
 intro u
 induction u with
 | nil=>intro q h;cases h
 | res x p H=>intro q h;have :=H q h;simp only [T.size];omega
 | par p r H G=>
  intro q h;simp only [T.size];rcases Nw.1 h with rfl | h
  ·omega
  ·have :=G q h;omega
 | _=>intro q h;cases ND.1 h;exact Nc _
section
variable {t:P} {u:U} {b b2 n0 c:Nat} {w w1:World} {acc:List U} {M D:Nat->Prop}
def qu.bound (ok:qu t)(su:SU t (num t e0 0).1):∀z,(z∈(num t e0 0).1.frL\/z∈(num t e0 0).1.ths.flatMap BV\/∃q∈(num t e0 0).1.ths,q.Fr z)->z<=(num t e0 0).2+100:=by
 have H:=su.nr.shape;have G:BV (num t e0 0).1=(num t e0 0).1.frL++(num t e0 0).1.ths.flatMap BV:=by
  have:BV (num t e0 0).1=BV (resL (num t e0 0).1.frL (parL (num t e0 0).1.ths)):=by rw [<-H]
  rw [this,dK,dJ]
 have key:∀z∈BV (num t e0 0).1,z<=(num t e0 0).2+100:=λz J=>((ew t e0 0).2 z J).2
 intro z J;rcases J with h | h | h
 ·exact key z (by rw [G];exact NS _ h)
 ·exact key z (by rw [G];exact NG _ h)
 ·rcases su.free z h with h | h
  ·exact key z (by rw [G];exact NS _ h)
  ·omega
end
def Ke {w w1:World}{g e:Nat}{cs:List Value}(β:cs.length=5)(hg:g=w.heap.size)(G:w1=w.alloc (.cells #[.int .u8 0,.int .i64 0,.int .i64 0,.pointer none,.bool false] e)):
  (∀j,j< 5->(∃u,w1.cell? ⟨g,0+j,none⟩=some u)/\w1.frozen? ⟨g,0+j,none⟩=false)/\∀H,H=World.setCells w1 g 0 cs->Ex w H/\g< H.heap.size/\∀j,j< 5->H.cell? ⟨g,j,none⟩=cs[j]?:=by
 have hc:∀j,j< 5->∃u,w1.cell? ⟨g,0+j,none⟩=some u:=λj J=>by
  rw [G,hg];have:∃u,(#[.int .u8 0,.int .i64 0,.int .i64 0,.pointer none,.bool false]:Array Value)[0+j]?=some u:=by
   rw [NJ];exact⟨_,Pz (by simpa using J)⟩
  obtain⟨u,hu⟩:=this;exact⟨u,aa hu⟩
 refine⟨λj J=>⟨hc j J,by rw [G,hg];exact aW _ _ _ _⟩,λH Z=>?_⟩;obtain⟨k,_,_,sc⟩:=bk (b:=g) cs w1 0;rw [<-Z]at k sc;have x1:Ex w w1:=G▸Ex.alloc _ _;have s1:w1.heap.size=w.heap.size+1:=by rw [G,size_alloc]
 have s2:=k.size;refine⟨Ex.below x1 (Kp.below k x1.size λb hb e=>by omega),by omega,λj J=>?_⟩;have :=sc j (λi hi=>hc i (by omega)) (by omega)
 rwa [NJ]at this
def kQ {A:Type}:∀t:T A,(offs t).length<=t.size:=by
 intro t
 induction t with
 | sum p q G H=>simp only [offs,Nb,T.size];omega
 | rep p G=>simp only [offs,Nq,T.size];omega
 | _=>simp [offs,T.size]
def qj {X Y:Type}{f:X->List Y}{c:Nat}:∀{l:List X},(∀x∈l,(f x).length<=c)->(l.flatMap f).length<=l.length* c
 | [],_=>by simp
 | x::l,h=>by
  have h1:=h x (by simp);have H:=qj (f:=f) (c:=c) (l:=l) λy G=>h y (by simp [G])
  simp only [Ob,Nb,M0,Nat.succ_mul];omega
def jP.any {D:Nat->Prop}{w:World}{o:Off Nat}{cs:List Value}(h:jP D w o cs):∃(k:UInt8) (a b:Nat) (vr:Value) (s:Bool),cs=fI k a b vr s/\oneV vr=true:=by
 cases o with
 | tau p=>obtain⟨a,b,vr,s,h1,G⟩:=h;exact⟨126,a,b,vr,s,h1,G.one⟩
 | snd a b p=>obtain⟨vr,s,h1,G⟩:=h;exact⟨33,a,b,vr,s,h1,G.one⟩
 | rcv a b p s=>obtain⟨vr,h1,G⟩:=h;exact⟨63,a,b,vr,s,h1,G.one⟩
def Ge {k:UInt8}{a b:Nat}{vr:Value}{s:Bool}(h:oneV vr=true):(fI k a b vr s).all oneV=true:=by simp only [fI,Oj,PT,PJ,h]
def Jc {D:Nat->Prop}{B:Nat}{w:World}{v:Value}{os:List (Off Nat)}{xs:List Value}(G:cd B w v os.length xs)(hm:OffsM D w os xs){j:Nat}(H:j< os.length):∃(g cap:Nat) (cs:List Value),v= .slice (some ⟨g,0,none⟩) os.length cap/\jP D w os[j] cs/\∀i u,cs[i]?=some u->∀off,off=j* 5+i->i< 5->w.cell? ⟨g,off,none⟩=some u:=by
 obtain⟨cs,h1,J⟩:=hm.at H;rcases G.cell with⟨_,h0,_⟩ | ⟨g,cap,rfl,_,Z⟩
 ·omega
 ·refine⟨g,cap,cs,rfl,h1,λi u hu off he hi=>?_⟩;have :=Z (j* 5+i) u (by rw [J i hi];exact hu);rw [he];rwa [NJ]at this
section
variable {t:P} {u:U} {b b2 n0:Nat} {w:World} {D:Nat->Prop}
def Rel (b:Nat)(w1:World)(G:Nat->Prop)(H:World)(M2:Nat->Prop):Prop:=Kp w1 H (λg=>g=b\/G g)/\∀g,M2 g->G g\/w1.heap.size<=g
def Rel.refl (b:Nat)(w:World)(M:Nat->Prop):Rel b w M w M:=⟨Kp.ah (Ex.refl w) _,λ _ h=> .inl h⟩
def Rel.trans {b:Nat}{w1 G H:World}{J M2 Z:Nat->Prop}(h:Rel b w1 J G M2)(k:Rel b G M2 H Z):Rel b w1 J H Z:=
 ⟨Kp.trans h.1 k.1 λg hg e=>e.elim .inl λhM=>(h.2 g hM).elim .inr λh=>by omega,λg hg=>(k.2 g hg).elim (h.2 g) λh'=> .inr (N8 h.1.size h')⟩
def Rel.ex {b:Nat}{w1 G H:World}{J M2:Nat->Prop}(h:Rel b w1 J G M2)(x:Ex G H):Rel b w1 J H M2:=h.trans ⟨Kp.ah x _,λ _ h=> .inl h⟩
def Jf.mono {c G:Nat}{w w':World}{acc:List U}{M:Nat->Prop}(h:Jf b b2 n0 c w w' acc M)(J:c<=G):Jf b b2 n0 G w w' acc M:=by
 obtain⟨n,h1,H,Z⟩:=h.mc;exact⟨h.km,h.rs,⟨n,h1,H,by omega⟩,h.hb⟩
end
end
section
open T Classical
def cn (e B:Nat)(w:World)(v:Value)(n:Nat)(xs:List Value):Prop:=w.ownsRow B e 5 v n xs
section
variable {e B:Nat} {w w':World} {v:Value} {n:Nat} {xs:List Value}
def cn.nil (e B:Nat)(w:World):cn e B w (.slice none 0 0) 0 []:=P3 _ _ _ _
def cn.block (h:cn e B w v n xs):∀b,v.ownBlock=some b->B<=b/\b< w.heap.size:=Pt h
def cn.mono {G:Nat}(h:cn e B w v n xs)(hb:G<=B):cn e G w v n xs:=Pw h hb
def cn.kp {S:Nat->Prop}(h:cn e B w v n xs)(k:Kp w w' S)(H:∀g,v.ownBlock=some g->¬S g):cn e B w' v n xs:=by
 refine⟨h.1,?_⟩;rcases h.2 with J | ⟨g,cap,cur,rfl,hb,G,rest⟩
 ·exact .inl J
 ·exact .inr ⟨g,cap,cur,rfl,hb,by rw [k.block g (NL.1 G).1 (H g rfl)];exact G,rest⟩
def cn.ex (h:cn e B w v n xs)(x:Ex w w'):cn e B w' v n xs:=h.kp (Kp.ah x λ _=>False) λ _ _ h=>h
def cn.cell (h:cn e B w v n xs):(v= .slice none 0 0/\n=0/\xs=[])\/∃g cap,v= .slice (some ⟨g,0,none⟩) n cap/\g< w.heap.size/\∀j u,xs[j]?=some u->w.cell? ⟨g,0+j,none⟩=some u:=by
 have G:=h.1;rcases h.2 with⟨Z,H⟩ | ⟨g,cap,cur,rfl,hb,J,h1,h2,h3,h4⟩
 ·left;refine⟨Z,H,NF (by rw [G,H])⟩
 ·refine .inr ⟨g,cap,rfl,(NL.1 J).1,λj u hu=>?_⟩;have hj:j< xs.length:=(NZ.1 hu).1;unfold World.cell?;simp only [J,NJ];rw [<-h4,Og (by rw [<-G];exact hj),Oe]at hu;exact hu
def cn.src (h:cn e B w v n xs)(ha:xs.all oneV=true):db w v n 5 xs:=by
 refine⟨h.1,ha,?_⟩;rcases h.cell with⟨rfl,rfl,_⟩ | ⟨g,cap,rfl,_,G⟩
 ·exact .inl ⟨rfl,rfl⟩
 ·exact .inr ⟨g,0,cap,rfl,G⟩
def cn.one {b:Nat}{cs:List Value}(G:cs.length=5)(hB:B<=w.heap.size)(hb:b=w.heap.size)(h:w'=w.alloc (.cells cs.toArray e)):cn e B w' (.slice (some ⟨b,0,none⟩) 1 1) 1 cs:=by
 subst hb h;refine⟨by rw [G],.inr ⟨_,1,cs.toArray,rfl,hB,?_,by simp,by unfold maxLen;omega,by simp [G],PS (by simp [G])⟩⟩;unfold World.alloc;simp
def cn.push {x:Value}{m by_:Nat}{H:List Value}(h:cn e B w v n xs)(hB:B<=w.heap.size)(Z:db w x m 5 H)(J:by_<=48)(hl:n+m<=1099511627776){K:Value->Qx}
  (hK:∀v' w',cn e B w' v' (n+m) (xs++H)->w.grownBy w' v.ownBlock->(∀b,v'.ownBlock=some b->v.ownBlock=some b\/w.heap.size<=b)->K v' w'):
  ∃(base n' m':Nat) (G news:List Value),World.ownsRow w base e 5 v n' G/\base<=Array.size (World.heap w)/\db w x m' 5 news/\(n'+m'<=maxLen/\(n'+m')* by_<=140737488355328)/\
   ∀(v':Value) (w':World),World.ownsRow w' base e 5 v' (n'+m') (G++news)->World.grownBy w w' (Value.ownBlock v)->(∀b:Nat,Value.ownBlock v'=some b->Value.ownBlock v=some b\/Array.size (World.heap w)<=b)->K v' w':=
 ⟨B,n,m,xs,H,h,hB,Z,⟨by unfold maxLen;omega,by have :=P8 (Nc (n+m)) J;omega⟩,λv' w' ho hg hw=>hK v' w' ho hg hw⟩
def cn.set {g cap j:Nat}{x:Value}(h:cn e B w (.slice (some ⟨g,0,none⟩) n cap) n xs)(hw:w'=w.setCell ⟨g,j,none⟩ x)(hj:j< xs.length):cn e B w' (.slice (some ⟨g,0,none⟩) n cap) n (xs.set j x):=by
 subst hw;rcases h.2 with⟨H,_⟩ | ⟨g',G,cur,J,hb,Z,h1,h2,h3,h4⟩
 ·cases H
 ·cases J;have hl:=h.1;have e:(w.setCell ⟨g,j,none⟩ x).heap[g]?=some (.cells (cur.setIfInBounds j x) e (0,0)):=by
   rw [Sort.setCell_eq];simp [Sort.mapBlock,OM,Z,Sort.onCells]
  refine⟨by rw [OE];exact hl,.inr ⟨g,cap,_,by simp,hb,e,by simpa using h1,h2,by simpa using h3,?_⟩⟩;rw [Array.toList_setIfInBounds,List.take_set,h4]
def cn.fr (h:cn e B w v n xs){g:Nat}(H:v.ownBlock=some g)(j:Nat):w.frozen? ⟨g,j,none⟩=false:=by
 rcases h.2 with⟨rfl,Z⟩ | ⟨J,cap,cur,rfl,hb,G,_⟩
 ·cases H
 ·have e:J=g:=NY H;subst e;unfold World.frozen?;simp only [G];simp
end
def mA (k a b:UInt8)(s:Tx)(q:Bool):List Value:=[.int .u8 k.toNat,.int .u8 a.toNat,.int .u8 b.toNat,.string (ay s),.bool q]
def B1:Off UInt8->List Value->Prop
 | .tau p,cs=>∃a b s,cs=mA 126 a b p.text s
 | .snd a b p,cs=>∃s,cs=mA 33 a b p.text s
 | .rcv a x q s,cs=>cs=mA 63 a x q.text s
def eY:List (Off UInt8)->List Value->Prop
 | [],xs=>xs=[]
 | o::os,xs=>∃cs G,xs=cs++G/\B1 o cs/\eY os G
def B1.any {o:Off UInt8}{cs:List Value}(h:B1 o cs):∃(k a b:UInt8) (s:Tx) (q:Bool),cs=mA k a b s q:=by
 cases o with
 | tau p=>obtain⟨a,b,s,h⟩:=h;exact⟨_,_,_,_,_,h⟩
 | snd a b p=>obtain⟨s,h⟩:=h;exact⟨_,_,_,_,_,h⟩
 | rcv a b p s=>exact⟨_,_,_,_,_,h⟩
def eY.app:∀{os G:List (Off UInt8)} {xs H:List Value},eY os xs->eY G H->eY (os++G) (xs++H)
 | [],_,xs,H,h,k=>by cases h;exact k
 | o::os,_,xs,H,⟨cs,zs,h1,J,Z⟩,k=>⟨cs,zs++H,by rw [h1,NX],J,Z.app k⟩
def eY.len:∀{os:List (Off UInt8)} {xs:List Value},eY os xs->xs.length=os.length* 5/\xs.all oneV=true
 | [],xs,h=>by cases h;exact⟨rfl,rfl⟩
 | o::os,xs,⟨cs,zs,h1,G,H⟩=>by
  obtain⟨h4,h5⟩:=H.len;obtain⟨k,a,b,s,q,e⟩:=G.any;subst h1 e;exact⟨by simp [mA,h4];omega,by rw [PB,h5];rfl⟩
def eY.at:∀{os:List (Off UInt8)} {xs:List Value},eY os xs->∀{i:Nat} (hi:i< os.length),∃cs,B1 os[i] cs/\∀j,j< 5->xs[i* 5+j]?=cs[j]?
 | o::os,xs,⟨cs,zs,h1,G,J⟩,0,_=>⟨cs,G,λj Z=>by
   obtain⟨k,a,b,s,q,e⟩:=G.any;have hl:cs.length=5:=by rw [e];rfl
   rw [h1,List.getElem?_append_left (by omega)];congr 1;omega⟩
 | o::os,xs,⟨cs,zs,h1,G,J⟩,i+1,hi=>by
   obtain⟨H,k1,k2⟩:=J.at (i:=i) (by simpa using hi);refine⟨H,k1,λj Z=>?_⟩;obtain⟨k,a,b,s,q,e⟩:=G.any;have hl:cs.length=5:=by rw [e];rfl
   rw [h1,List.getElem?_append_right (by omega),<-k2 j Z];congr 1;omega
def eY.one {o:Off UInt8}{cs:List Value}(h:B1 o cs):eY [o] cs:=⟨cs,[],by simp,h,rfl⟩
abbrev tO:Nat:=122
def Bb:∀(n:Nat) {t:P},t.size<=n->Ok t->t.smp=true->t.size<=1000000->∀{w:World} {R:Value->Qx},(∀v w' xs,Ex w w'->cn tO w.heap.size w' v (offs t).length xs->eY (offs t) xs->R v w')->Qy 109 #[.string (ay t.text)] w (ax [.v] R):=by
 intro n
 induction n with
 | zero=>intro t h;have :=aU t;omega
 | succ n ih=>
  intro t hn ok hs hsz w R h;refine po _ w R ?_;dsimp only [go_sem];dsimp only [go_sem,Nat.reduceAdd];refine aK ok ?_;have none_:offs t=[]->R (.slice none 0 0) w:=λe=>by
   have :=h (.slice none 0 0) w [] (Ex.refl w);rw [e]at this;exact this (cn.nil _ _ _) rfl
  cases t with
  | nil=>repeat' first | exact none_ rfl | refine aR (by simp [T.kind]) ?_
  | par p q=>repeat' first | exact none_ rfl | refine aR (by simp [T.kind]) ?_
  | res x p=>repeat' first | exact none_ rfl | refine aR (by simp [T.kind]) ?_
  | mat a b p=>repeat' first | exact none_ rfl | refine aR (by simp [T.kind]) ?_
  | snd a b p=>
   refine cI rfl (cI rfl ⟨λ _=>True,λw5 θ=>⟨trivial,⟨by omega,by simp [T.text];omega⟩,⟨by omega,by simp [T.text];omega⟩,⟨by omega,by simp [T.text];omega⟩,aK ok ⟨trivial,λb8 w9 J G=>⟨trivial,?_⟩⟩⟩⟩);have x5:Ex w w5:=θ▸Ex.drew w;exact h _ w9 _ (Ex.trans x5 (G▸Ex.alloc w5 _)) (cn.one (cs:=mA 33 a b p.text false) rfl x5.size J G) (eY.one ⟨false,rfl⟩)
  | rcv a b p=>
   refine aR (by simp [T.kind]) (cI rfl ⟨λ _=>True,λw5 θ=>⟨trivial,⟨by omega,by simp [T.text];omega⟩,⟨by omega,by simp [T.text];omega⟩,⟨by omega,by simp [T.text];omega⟩,aK ok ⟨trivial,λb8 w9 J G=>⟨trivial,?_⟩⟩⟩⟩);have x5:Ex w w5:=θ▸Ex.drew w;exact h _ w9 _ (Ex.trans x5 (G▸Ex.alloc w5 _)) (cn.one (cs:=mA 63 a b p.text false) rfl x5.size J G) (eY.one rfl)
  | tau p=>
   refine aR (by simp [T.kind]) (aR (by simp [T.kind]) (cI rfl ⟨⟨by omega,by simp [T.text];omega⟩,λb8 w9 J G=>?_⟩));exact h _ w9 _ (G▸Ex.alloc w _) (cn.one (cs:=mA 126 0 0 p.text false) rfl (Nc _) J G) (eY.one ⟨0,0,false,rfl⟩)
  | sum p q=>
   have hs:(p.gp&&q.gp&&(p.smp&&q.smp))=true:=hs;simp only [M8]at hs;have ι:=ok.parts p (by simp [T.parts]);have χ:=ok.parts q (by simp [T.parts]);have e:(T.sum p q).size=p.size+q.size+1:=by simp only [T.size]
   refine aR (by simp [T.kind]) (aR (by simp [T.kind]) (aR (by simp [T.kind]) (cI rfl (cD ok λv1 w1 x1 ξ=>⟨λw'=>Ex w1 w',λψ ζ=>⟨ζ▸Ex.drew w1,?_⟩⟩))));have H:Ex w1 ψ:=ζ▸Ex.drew w1;refine ξ.FH (i:=0) (x:=p.text) (by omega) rfl (Q:=λn=>_) (ξ.FH (i:=1) (x:=q.text) (by omega) rfl (Q:=λn=>_) ?_);have Z:=Ex.trans x1 H;refine ih (by omega) ι hs.2.1 (by omega) λv26 w27 xs β γ ο=>⟨Ex.trans H β,ih (by omega) χ hs.2.2 (by omega) λv28 ω ys δ ς η=>⟨Ex.trans H (Ex.trans β δ),?_⟩⟩
   have ε:=Ex.trans Z (Ex.trans β δ);have l1:=kQ p;have l2:=kQ q;refine cn.push ((γ.ex δ).mono Z.size) ε.size (ς.src η.len.2) (by omega) (by omega) λv35 υ ho hg hn=>?_
   have b36:Below w.heap.size ω υ:=Below.grown (Qk _ _) hg ε.size λk hk=>by have :=(γ.block k hk).1;have :=Z.size;omega
   refine⟨Below.trans (Ex.trans H (Ex.trans β δ)) ?_,h _ υ _ (Ex.below ε b36) (by rw [show(offs (T.sum p q)).length=(offs p).length+(offs q).length from Nb];exact ho) (ο.app η)⟩;exact Below.grown (Qk _ _) hg (Ex.trans H (Ex.trans β δ)).size λk hk=>by have :=(γ.block k hk).1;have :=H.size;omega
  | rep p=>
   have κ:(p.isR&&p.smp)=true:=hs;simp only [M8]at κ;have ι:=ok.parts p (by simp [T.parts]);refine aR (by simp [T.kind]) (aR (by simp [T.kind]) (aR (by simp [T.kind]) (aR (by simp [T.kind]) (cI rfl ⟨⟨by omega,by simp [T.text];omega⟩,?_⟩))));have e:(T.rep p).size=p.size+1:=by simp only [T.size]
   refine ih (t:=p) (by omega) ι κ.2 (by omega) λv w1 xs x1 ho hm=>?_
   cases p<;>try (simp [T.isR]at κ;done)
   rename_i a b q;obtain⟨cs,ys,rfl,μ,rfl⟩:=hm;have μ:cs=mA 63 a b q.text false:=μ;subst μ;have hl1:(offs (T.rcv a b q)).length=1:=rfl;rw [hl1]at ho;rcases ho.cell with⟨_,h0,_⟩ | ⟨g,cap,rfl,hg,hc⟩
   ·cases h0
   have hfr:=ho.fr (g:=g) rfl;have hgb:=(ho.block g rfl).1;refine⟨_,_,cap,rfl,λx w'=>(x=0/\w'=w1)\/(x=1/\w'=w1.setCell ⟨g,4,none⟩ (.bool true)),λx _=>(1 - x).toNat,.inl ⟨rfl,rfl⟩,λx w' hI=>⟨λν=>?_,λν=>?_⟩⟩
   ·rcases hI with⟨rfl,rfl⟩ | ⟨rfl,_⟩
    ·have c4:w'.cell? ⟨g,4,none⟩=some (.bool false):=hc 4 _ rfl;refine⟨g,0,_,cap,rfl,by omega,by omega,⟨⟨_,c4⟩,hfr 4⟩,λw51 φ=>⟨by omega,.inr ⟨rfl,φ⟩,by show((1:Int) - (0+1)).toNat< ((1:Int) - 0).toNat;decide⟩⟩
    ·simp at ν
   ·rcases hI with⟨rfl,_⟩ | ⟨_,rfl⟩
    ·simp at ν
    ·exact h _ _ _ (Ex.own x1 hgb _) (ho.set rfl (by simp [mA])) (eY.one rfl)
structure IT (B b r:Nat)(fs:Tx)(w:World)(all:List Tx)(n:Nat)(mm:Value->Option Value)(L:Nat->Prop):Prop where
 lb:B<=b
 lt:b< w.heap.size
 lr:B<=r
 br:b≠r
 f:∀j,w.frozen? ⟨b,j,none⟩=false
 c0:w.cell? ⟨b,0,none⟩=some (.string (ay fs))
 c2:w.cell? ⟨b,2,none⟩=some (.map (some r))
 mp:IsMap w r .string mm
 ml:∀g,L g->B<=g/\g< w.heap.size/\g≠b/\g≠r
 sl:∃v,w.cell? ⟨b,1,none⟩=some v/\Own B w v all/\∀g,v.ownBlock=some g->g≠b/\g≠r/\¬L g
 nx:∀j (h:j< all.length),j< n->∃v l,mm (.string (ay all[j]))=some v/\ME all[j]=some l/\Strs w v l/\∀g,v.ownBlock=some g->L g
section
variable {B b r n:Nat} {fs:Tx} {w w':World} {all:List Tx} {mm:Value->Option Value} {L:Nat->Prop}
def IT.ex (h:IT B b r fs w all n mm L)(x:Ex w w'):IT B b r fs w' all n mm L:=by
 obtain⟨v,h1,H,J⟩:=h.sl;have s:=x.size;refine⟨h.lb,by have :=h.lt;omega,h.lr,h.br,λj=>by rw [Pb x h.lt];exact h.f j,by rw [x.cell (a:=⟨b,0,none⟩) h.lt];exact h.c0,by rw [x.cell (a:=⟨b,2,none⟩) h.lt];exact h.c2,iq h.mp (x.block r (iu h.mp)),λg G=>⟨(h.ml g G).1,by have :=(h.ml g G).2.1;omega,(h.ml g G).2.2⟩,⟨v,by rw [x.cell (a:=⟨b,1,none⟩) h.lt];exact h1,H.ex x,J⟩,λj Z hn=>?_⟩;obtain⟨v',l,h4,h5,h6,h7⟩:=h.nx j Z hn;exact⟨v',l,h4,h5,h6.ex x,h7⟩
def Kp.KT (k:dR w w' r):Kp w w' λg=>g=r:=⟨k.os,k.tape,k.output,Nat.le_of_eq k.size.symm,λg _ G=>k.block g G⟩
def sC {v:Value}{g off m cap:Nat}(h:v= .slice (some ⟨g,off,none⟩) m cap):v.ownBlock=some g:=by rw [h];rfl
def IT.aF (h:IT B b r fs w all n mm L)(hB:B<=w.heap.size){w1:World}(x:Ex w w1)(hn:n< all.length){v:Value}{l:List Tx}(hl:ME all[n]=some l)(hm:IsMap w' r .string (gz mm (.string (ay all[n])) v))(k:dR w1 w' r)(hs:Strs w1 v l)(H:∀g,v.ownBlock=some g->w.heap.size<=g):
  IT B b r fs w' all (n+1) (gz mm (.string (ay all[n])) v) λg=>L g\/v.ownBlock=some g:=by
 have h1:=h.ex x;have θ:=h.lt;have hr:=iu h.mp;have kp:=Kp.KT k;have eb:=k.block b h.br;have γ:∀g,v.ownBlock=some g->g< w1.heap.size:=λg G=>by
  rcases hs with⟨e,_⟩ | ⟨b',off,cap,e,h2,_⟩
  ·rw [e]at G;cases G
  ·rw [e]at G;cases G;exact h2
 obtain⟨vo,k1,k2,k3⟩:=h1.sl;obtain⟨δ,ε,ζ,ι⟩:=h.sl;have η:vo=δ:=by
  have :=x.cell (a:=⟨b,1,none⟩) h.lt;rw [k1,ε]at this;exact NY this
 subst η;refine⟨h.lb,by have :=k.size;have :=h1.lt;omega,h.lr,h.br,λj=>by rw [NH (w:=w1) eb];exact h1.f j,by rw [M5 (w:=w1) eb];exact h1.c0,by rw [M5 (w:=w1) eb];exact h1.c2,hm,λg G=>?_,⟨vo,by rw [M5 (w:=w1) eb];exact k1,k2.kp kp λg G=>(k3 g G).2.1,λg G=>⟨(k3 g G).1,(k3 g G).2.1,λe=>e.elim (k3 g G).2.2 λe=>?_⟩⟩,λj hj κ=>?_⟩
 ·rcases G with G | G
  ·have :=h1.ml g G;exact⟨this.1,by have :=k.size;omega,this.2.2⟩
  ·have h2:=H g G;have h3:=γ g G;exact⟨by omega,by have :=k.size;omega,by omega,by omega⟩
 ·have h2:=H g e;have h3:=ζ.block g G;omega
 ·have J:∀{v':Value} {l':List Tx},Strs w1 v' l'->(∀g,v'.ownBlock=some g->g≠r)->Strs w' v' l':=λhs H=>hs.kp kp λb' off n' cap e Z=>H b' (sC e) Z
  by_cases e:all[j]=all[n]
  ·refine⟨v,l,by rw [e];unfold gz;simp,by rw [e];exact hl,J hs λg G=>by have :=H g G;omega,λg G=> .inr G⟩
  ·have β:j< n:=by
    have:j≠n:=λZ=>e (by subst Z;rfl)
    omega
   obtain⟨v',l',h4,h5,h6,h7⟩:=h1.nx j hj β;refine⟨v',l',?_,h5,J h6 λg G=>(h1.ml g (h7 g G)).2.2.2,λg G=> .inl (h7 g G)⟩;unfold gz;rw [Nt]
   ·exact h4
   ·intro Z;exact e (CT (Value.string.inj Z))
def IT.app (h:IT B b r fs w all n mm L)(hn:n<=all.length)(hB:B<=w.heap.size){v:Value}(hv:w.cell? ⟨b,1,none⟩=some v){s:Tx}{w1 G:World}(x:Ex w w1){v':Value}(ho:Own B G v' (all++[s]))(H:w1.grownBy G v.ownBlock)(γ:∀g,v'.ownBlock=some g->v.ownBlock=some g\/w1.heap.size<=g):
  ((∃u,G.cell? ⟨b,1,none⟩=some u)/\G.frozen? ⟨b,1,none⟩=false)/\∀w',w'=G.setCell ⟨b,1,none⟩ v'->IT B b r fs w' (all++[s]) n mm L/\Below B w w':=by
 have h1:=h.ex x;obtain⟨vo,k1,k2,k3⟩:=h1.sl;have δ:vo=v:=by
  have :=x.cell (a:=⟨b,1,none⟩) h.lt;rw [k1,hv]at this;exact NY this
 subst δ;have k:Kp w1 G λg=>vo.ownBlock=some g:=Kp.aG H λ _ h=>h
 have s1:=x.size;have ε:=h1.lt;have e2:=k.block b ε λe=>(k3 b e).1 rfl
 have c1:G.cell? ⟨b,1,none⟩=some vo:=by rw [M5 (w:=w1) e2];exact k1
 have f2:∀j,G.frozen? ⟨b,j,none⟩=false:=λj=>by rw [NH (w:=w1) e2];exact h1.f j
 refine⟨⟨⟨_,c1⟩,f2 1⟩,λw' J=>?_⟩;have kr:Kr b G w':=J▸Kr.set G 1 _;have sk:=k.size;have sr:=kr.size;have ζ:=iu h1.mp;have Z:∀g,v'.ownBlock=some g->g≠b/\g≠r/\¬L g:=λg H=>(γ g H).elim (k3 g) λe=>⟨by omega,by omega,λhL=>by have :=(h1.ml g hL).2.1;omega⟩
 have η:∀{g},g≠b->g< w1.heap.size->vo.ownBlock≠some g->w'.heap[g]?=w1.heap[g]?:=λ{g} h3 h4 h5=>(kr.block g (by omega) h3).trans (k.block g h4 h5)
 refine⟨⟨h.lb,by omega,h.lr,h.br,λj=>by rw [J,Nv];exact f2 j,?_,?_,iq h1.mp (η h.br.symm ζ λe=>(k3 r e).2.1 rfl),λg H=>⟨(h1.ml g H).1,by have :=(h1.ml g H).2.1;omega,(h1.ml g H).2.2⟩,⟨v',by rw [J];exact Ns _ _ _ c1,ho.kp kr λg H=>(Z g H).1,Z⟩,λj hj θ=>?_⟩,?_⟩
 ·rw [J,Na _ _ _ _ (by simp),M5 (w:=w1) e2];exact h1.c0
 ·rw [J,Na _ _ _ _ (by simp),M5 (w:=w1) e2];exact h1.c2
 ·have β:j< all.length:=by omega
  rw [List.getElem_append_left β];obtain⟨v2,l2,h4,h5,h6,h7⟩:=h1.nx j β θ;have kk:Kp w1 w' λg=>vo.ownBlock=some g\/g=b:=Kp.trans (Kp.mono (λ _ h=> .inl h) k) kr λ _ _ h=> .inr h
  exact⟨v2,l2,h4,h5,h6.kp kk λb' off n' cap e e'=>e'.elim (λe'=>(k3 b' e').2.2 (h7 b' (sC e))) λe'=>(h1.ml b' (h7 b' (sC e))).2.2.1 e',h7⟩
 ·have b1:Below B w w1:=Below.mono x hB;have b2:Below B w1 G:=Kp.below k (by omega) λg H e=>by have :=(k2.block g e).1;omega
  have b3:Below B G w':=Kp.below kr (by omega) λg H e=>by have :=h.lb;omega
  exact Below.trans (Below.trans b1 b2) b3
end
def Gr (w0:World)(o0:Value)(w:World)(o:Value):Prop:=Kp w0 w (λg=>o0.ownBlock=some g)/\∀g,o.ownBlock=some g->o0.ownBlock=some g\/w0.heap.size<=g
def Gr.refl (w:World)(o:Value):Gr w o w o:=⟨Kp.ah (Ex.refl w) _,λ _ h=> .inl h⟩
def Gr.size {w0 w:World}{o0 o:Value}(h:Gr w0 o0 w o):w0.heap.size<=w.heap.size:=h.1.size
def Gr.trans {a b c:World}{G H J:Value}(h:Gr a G b H)(k:Gr b H c J):Gr a G c J:=
 ⟨Kp.trans h.1 k.1 λg Z e=>(h.2 g e).resolve_right λe'=>by omega,λg Z=>(k.2 g Z).elim (λe=>h.2 g e) λe=> .inr (N8 h.1.size e)⟩
def Gr.ex {w0 w w':World}{o0 o:Value}(h:Gr w0 o0 w o)(x:Ex w w'):Gr w0 o0 w' o:=h.trans ⟨Kp.ah x _,λ _ e=> .inl e⟩
def Gr.grown {w0 w w':World}{o0 o G:Value}(h:Gr w0 o0 w o)(H:w.grownBy w' o.ownBlock)(J:∀g,G.ownBlock=some g->o.ownBlock=some g\/w.heap.size<=g):Gr w0 o0 w' G:=
 h.trans ⟨Kp.aG H λ _ e=>e,J⟩
def Gr.nil {w0 w:World}{o0 o:Value}(h:Gr w0 o0 w o)(G:o0.ownBlock=none):Ex w0 w:=by
 obtain⟨k,_⟩:=h;exact⟨k.os,k.tape,k.output,k.size,λg H=>k.block g H (by rw [G];simp)⟩
structure EB (B:Nat)(w0:World)(o0:Value)(fine:Bool)(out:Value)(w:World)(acc:List U):Prop where
 gr:Gr w0 o0 w out
 ow:Own B w out (outs acc)
 fi:fine=Hi acc
 hB:B<=w0.heap.size
section
variable {B:Nat} {w0 w w':World} {o0 out:Value} {fine:Bool} {acc:List U}
def EB.ex (h:EB B w0 o0 fine out w acc)(x:Ex w w'):EB B w0 o0 fine out w' acc:=⟨h.gr.ex x,h.ow.ex x,h.fi,h.hB⟩
def EB.start (h:EB B w0 o0 fine out w acc):EB B w out fine out w acc:=⟨Gr.refl _ _,h.ow,h.fi,N8 h.hB h.gr.size⟩
def EB.back {w1:World}{H J:Value}{f2:Bool}{G:List U}(h:EB B w0 o0 fine H w1 acc)(k:EB B w1 H f2 J w G):EB B w0 o0 f2 J w G:=⟨h.gr.trans k.gr,k.ow,k.fi,h.hB⟩
def EB.lt (h:EB B w0 o0 fine out w acc):∀g,out.ownBlock=some g->g< w.heap.size:=λg G=>(h.ow.block g G).2
end
def CW {c:Nat}:∀{l:List Tx},(∀s∈l,s.length<=c)->cZ l<=l.length* (c+3)
 | [],_=>by simp [cZ]
 | s::l,h=>by
  have h1:=h s (by simp);have H:=CW (c:=c) (l:=l) λx G=>h x (by simp [G])
  rw [dy,M0,Nat.succ_mul];omega
def EP {X:Type}(l:List X)(i j:Nat):(wo l i j).length<=l.length:=by
 unfold wo;rw [Nq];exact N8 (Pe _ _) (by simp)
def J9 {X Y:Type}(f:X->Y)(l:List X)(i j:Nat):wo (l.map f) i j=(wo l i j).map f:=by
 rw [H4,H4,xr]
def lens {u:U}(ζ:u.size<=60):u.ths.length<=60/\(∀i (h:i< u.ths.length),(offs u.ths[i]).length<=60)/\(∀i k c d p (l:List (Off Nat)),l.length<=60->(l.flatMap (E3 u i k c d p)).length<=60)/\(∀i c d p k,k<=u.ths.length->((List.range k).flatMap (E2 u i c d p)).length<=3600)/\
  (∀i j (h:i< u.ths.length),(((offs u.ths[i]).take j).flatMap (E1 u i)).length<=216000)/\∀i,i<=u.ths.length->((List.range i).flatMap (E0 u)).length<=12960000:=by
 have Z:u.ths.length<=60:=by have :=xB u;omega
 have J:∀i (h:i< u.ths.length),(offs u.ths[i]).length<=60:=λi h=>by
  have h1:=kQ u.ths[i];have h2:=kz u _ (NC h);omega
 have β:∀i k c d p (l:List (Off Nat)),l.length<=60->(l.flatMap (E3 u i k c d p)).length<=60:=λi k c d p l hl=>by
  have h1:=qj (f:=E3 u i k c d p) (c:=1) (l:=l) λx _=>by
   cases x with
   | rcv e' x q s=>unfold E3;simp only;split<;>simp
   | _=>simp [E3]
  omega
 have δ:∀i c d p k,k< u.ths.length->(E2 u i c d p k).length<=60:=λi c d p k hk=>by
  unfold E2;split
  ·simp
  ·rw [cz hk];exact β i k c d p _ (J k hk)
 have G:∀i c d p k,k<=u.ths.length->((List.range k).flatMap (E2 u i c d p)).length<=3600:=λi c d p k hk=>by
  have h1:=qj (f:=E2 u i c d p) (c:=60) (l:=List.range k) λx hx=>δ i c d p x (by have :=OQ.1 hx;omega)
  rw [PD]at h1;omega
 have ε:∀i o,(E1 u i o).length<=3600:=λi o=>by
  cases o with
  | tau p=>simp [E1]
  | rcv=>simp [E1]
  | snd c d p=>exact G i c d p _ (Nc _)
 have H:∀i j (h:i< u.ths.length),(((offs u.ths[i]).take j).flatMap (E1 u i)).length<=216000:=λi j h=>by
  have h1:=qj (f:=E1 u i) (c:=3600) (l:=(offs u.ths[i]).take j) λx _=>ε i x
  rw [NW]at h1;have :=J i h;omega
 refine⟨Z,J,β,G,H,λi hi=>?_⟩;have h1:=qj (f:=E0 u) (c:=216000) (l:=List.range i) λx hx=>by
  have hx:=OQ.1 hx;have γ:x< u.ths.length:=by omega
  have :=H x (offs u.ths[x]).length γ;rw [NR]at this;unfold E0;rw [cz γ];exact this
 rw [PD]at h1;omega
abbrev tS:Nat:=9
def Ma (w:World)(v src:Value)(K:Value->Qx):Prop:=
 ∃(base n m:Nat) (xs news:List Value),World.ownsRow w base tS 1 v n xs/\base<=Array.size (World.heap w)/\db w src m 1 news/\(n+m<=maxLen/\(n+m)* 16<=140737488355328)/\
  ∀(v':Value) (w':World),World.ownsRow w' base tS 1 v' (n+m) (xs++news)->World.grownBy w w' (Value.ownBlock v)->(∀b:Nat,Value.ownBlock v'=some b->Value.ownBlock v=some b\/Array.size (World.heap w)<=b)->K v' w'
def Ju {B:Nat}{w:World}{v x:Value}{l m:List Tx}(h:Own B w v l)(hB:B<=w.heap.size)(G:Strs w x m)(H:l.length+m.length<=1099511627776){K:Value->Qx}(J:∀v' w',Below B w w'->Own B w' v' (l++m)->K v' w'):Ma w v x K:=
 Own.push h hB G H λv' w' b o _ _=>J v' w' b o
def Mm {ps:List P}(h:∀q∈ps,q.aN<=300)(G:ps.length<=63):cZ (ps.map T.text)<=1000000000:=by
 have h1:=CW (c:=300) (l:=ps.map T.text) λs H=>by
  obtain⟨q,J,rfl⟩:=NT.1 H;rw [aQ];exact h q J
 rw [Nq]at h1;have :=P8 G (Nc 303);omega
def J4 {t:P}(ok:qu t):t.ths.length<=60/\∀q∈t.ths,q.size<=60/\q.aN<=300:=by
 have H:=ok.size;have h1:∀t:P,t.ths.length<=t.size/\∀q∈t.ths,q.size<=t.size:=by
  intro t
  induction t with
  | nil=>simp [T.ths]
  | par p q _ G=>
   refine⟨by have :=G.1;simp only [T.ths,M0,T.size];omega,λr hr=>?_⟩;rcases Nw.1 hr with rfl | hr
   ·simp only [T.size];omega
   ·have :=G.2 r hr;simp only [T.size];omega
  | res x p G=>exact⟨by have :=G.1;simp only [T.ths,T.size];omega,λr hr=>by have :=G.2 r hr;simp only [T.size];omega⟩
  | _=>simp [T.ths,T.size]
 refine⟨by have :=(h1 t).1;omega,λq J=>?_⟩;have Z:=(h1 t).2 q J;have h3:=lS q;omega
section
variable {t:P} {u:U} {w:World} {v5 out:Value} {b1 b2 B:Nat} {fine:Bool} {acc:List U}
end
def Gc {e B:Nat}{w:World}{v:Value}{os:List (Off UInt8)}{xs:List Value}(G:cn e B w v os.length xs)(hm:eY os xs){j:Nat}(H:j< os.length):∃(g cap:Nat) (cs:List Value),v= .slice (some ⟨g,0,none⟩) os.length cap/\B1 os[j] cs/\∀i u,cs[i]?=some u->∀off,off=j* 5+i->i< 5->w.cell? ⟨g,off,none⟩=some u:=by
 obtain⟨cs,h1,J⟩:=hm.at H;rcases G.cell with⟨_,h0,_⟩ | ⟨g,cap,rfl,_,Z⟩
 ·omega
 ·refine⟨g,cap,cs,rfl,h1,λi u hu off he hi=>?_⟩;have :=Z (j* 5+i) u (by rw [J i hi];exact hu);rw [he];rwa [NJ]at this
def Ml {w w1:World}{g e:Nat}{cs:List Value}{c0:Array Value}(β:cs.length=5)(h0:c0.size=5)(hg:g=w.heap.size)(G:w1=w.alloc (.cells c0 e)):
  (∀j,j< 5->(∃u,w1.cell? ⟨g,0+j,none⟩=some u)/\w1.frozen? ⟨g,0+j,none⟩=false)/\∀H,H=World.setCells w1 g 0 cs->Ex w H/\g< H.heap.size/\∀j,j< 5->H.cell? ⟨g,j,none⟩=cs[j]?:=by
 have hc:∀j,j< 5->∃u,w1.cell? ⟨g,0+j,none⟩=some u:=λj J=>by
  rw [G,hg];have:∃u,c0[0+j]?=some u:=by
   rw [NJ];exact⟨_,Pz (by omega)⟩
  obtain⟨u,hu⟩:=this;exact⟨u,aa hu⟩
 refine⟨λj J=>⟨hc j J,by rw [G,hg];exact aW _ _ _ _⟩,λH Z=>?_⟩;obtain⟨k,_,_,sc⟩:=bk (b:=g) cs w1 0;rw [<-Z]at k sc;have x1:Ex w w1:=G▸Ex.alloc _ _;have s1:w1.heap.size=w.heap.size+1:=by rw [G,size_alloc]
 have s2:=k.size;refine⟨Ex.below x1 (Kp.below k x1.size λb hb e=>by omega),by omega,λj J=>?_⟩;have :=sc j (λi hi=>hc i (by omega)) (by omega)
 rwa [NJ]at this
def Fi {k a b:UInt8}{s:Tx}{q:Bool}:(mA k a b s q).all oneV=true:=rfl
def Gr.cell {w0 w:World}{o0 o:Value}(h:Gr w0 o0 w o){a:Addr}(ha:a.block< w0.heap.size)(G:o0.ownBlock≠some a.block):w.cell? a=w0.cell? a:=by
 cases a with
 | mk b i t=>exact M5 (w:=w0) (h.1.block b ha G)
def Gr.strs {w0 w:World}{o0 o v:Value}{l:List Tx}(h:Gr w0 o0 w o)(H:Strs w0 v l)(G:∀g,v.ownBlock=some g->o0.ownBlock≠some g):Strs w v l:=
 H.kp h.1 λb off n cap e J=>G b (sC e) J
def cn.gr {e B:Nat}{w0 w:World}{o0 o v:Value}{n:Nat}{xs:List Value}(h:cn e B w0 v n xs)(k:Gr w0 o0 w o)(G:∀g,v.ownBlock=some g->o0.ownBlock≠some g):cn e B w v n xs:=
 h.kp k.1 G
def cn.slice {e B:Nat}{w:World}{v:Value}{n:Nat}{xs:List Value}(h:cn e B w v n xs):∃a cap,v= .slice a n cap:=by
 rcases h.cell with⟨h1,G,_⟩ | ⟨g,cap,h1,_⟩
 ·exact⟨none,0,by rw [h1,G]⟩
 ·exact⟨_,cap,h1⟩
def ρZ (d:Nat):Rh:=λz=>if z=d then 90 else ρ0 z
structure Ls (O:List Nat)(F:List UInt8)(d:Nat)(p:P)(q:U):Prop where
 ae:AE UInt8.toNat p (λz=>(asg O F (ρZ d) z).toNat) q
 wf:p.wf=true
 eb:Eb 0 p
 fr:∀z,q.Fr z->z∈O\/z=d\/(z< 26/\ρ0 z∉F)
def Jn (k:Nat):okn k 90:= .inl (by show(90:UInt8).toNat< _;have:(90:UInt8).toNat=90:=rfl;omega)
def CD {p:P}(H:∀z,p.Fr z->lt z=true\/z=90):∀{l:List UInt8} {k:Nat},Eb k p->(∀c∈l,lt c=true)->Eb k (resL l p)
 | [],_,G,_=>G
 | c::l,k,G,h=>by
  refine⟨⟨sM (h c (by simp)),λz J _=>?_⟩,CD H (G.mono (by omega)) λx Z=>h x (Nh _ Z)⟩;rcases H z (eQ.1 J).2 with e | rfl
  ·exact Gp e k
  ·exact Jn k
structure Lc (d:Nat)(W:P)(V:U):Prop where
 ae:AE UInt8.toNat W (λz=>(ρZ d z).toNat) V
 wf:W.wf=true
 eb:Eb 0 W
 bd:W.pm<=64
 len:W.aN<=1000000000
 fr:∀z,V.Fr z->z=d\/z< 26
 uq:Uq V
 bv:∀x∈BV V,26<=x
 lb:∀f:Nat->Nat,Lb 0 (V.map f)
def tf {A B:Type}(f:A->B)(p:T A):∀l:List A,(resL l p).map f=resL (l.map f) (p.map f)
 | []=>rfl
 | c::l=>by simp only [resL,NI,T.map,tf f p l]
def sB {A B:Type}(f:A->B):∀l:List (T A),(parL l).map f=parL (l.map (T.map f))
 | []=>rfl
 | [p]=>rfl
 | p::q::l=>by simp only [parL,NI,T.map];rw [sB f (q::l)];rfl
def FI {O:List Nat}{F:List UInt8}{d:Nat}(hd:26<=d)(θ:d∉O)(hl:O.length=F.length)(hF:F.Nodup)(H:∀c∈F,lt c=true)(ho:∀x∈O,26<=x){ps:List P}{us:List U}(h:gd (Ls O F d) ps us)(nd:(O++us.flatMap BV).Nodup)(bv:∀x∈us.flatMap BV,26<=x)(ι:d∉us.flatMap BV)
  (hb:∀p∈ps,F.length+p.rd+p.ow<=59) (κ:F.length+(parL ps).ow<=64) (ο:(parL ps).aN<=900000000) (ς:F.length<=300):Lc d (resL F (parL ps)) (resL O (parL us)):=by
 have μ:lt 90=false:=by decide
 have β:∀z,(resL O (parL us)).Fr z->z=d\/(z< 26/\ρ0 z∉F):=λz J=>by
  obtain⟨h1,h2⟩:=eQ.1 J;obtain⟨q,hq,γ⟩:=iW.1 h2;obtain⟨p,Z,δ⟩:=h.JL hq;exact(δ.fr z γ).resolve_left h1
 have ζ:AE UInt8.toNat (parL ps) (λz=>(asg O F (ρZ d) z).toNat) (parL us):=AE.Lh (h.mono λp q k=>k.ae);have nF:∀z,z=d\/(z< 26/\ρ0 z∉F)->ρZ d z∉F:=λz J hm=>by
  unfold ρZ at hm;rcases J with rfl | ⟨h1,h2⟩
  ·rw [NO rfl]at hm;have :=H _ hm;rw [μ]at this;cases this
  ·rw [Nt (by omega)]at hm;exact h2 hm
 have ae:AE UInt8.toNat (resL F (parL ps)) (λz=>(ρZ d z).toNat) (resL O (parL us)):=AE.FV O F (ρZ d) hl hF (λz J G=>nF z (β z (eQ.2 ⟨G,J⟩))) ζ;have ν:∀c,(parL ps).Fr c->lt c=true\/c=90:=λc hc=>by
  obtain⟨z,J,e⟩:=ζ.free c hc;have e:=NK.1 e;obtain⟨q,hq,γ⟩:=iW.1 J;obtain⟨p,Z,δ⟩:=h.JL hq;by_cases G:z∈O
  ·left;rw [<-e];exact H _ (df O F _ z G hl)
  ·rw [<-e,bn _ _ _ _ G];unfold ρZ;rcases(δ.fr z γ).resolve_left G with rfl | ⟨h1,_⟩
   ·right;exact NO rfl
   ·left;rw [Nt (by omega)];exact Jk h1
 have ε:BV (resL O (parL us))=O++us.flatMap BV:=by rw [dK,dJ]
 have η:∀x∈BV (resL O (parL us)),26<=x:=λx hx=>by
  rw [ε]at hx;exact(Nk.1 hx).elim (ho x) (bv x)
 have ξ:Uq (resL O (parL us)):=⟨by rw [ε];exact nd,λx hx hf=>by
  have h1:=η x hx;rcases β x hf with rfl | h2
  ·rw [ε]at hx;exact(Nk.1 hx).elim θ ι
  ·omega⟩
 obtain⟨k1,k2,k3,k4⟩:=xR (parL ps) F;refine⟨ae,CR (Dj λp Z=>by obtain⟨q,_,k⟩:=h.Lg Z;exact k.wf) H,CD ν (Cg λp Z=>by obtain⟨q,_,k⟩:=h.Lg Z;exact k.eb) H,by have :=CY (R:=64 - F.length) (l:=ps) λp Z=>(by have :=hb p Z;omega);rw [CZ];omega,by rw [k4];omega,λz J=>(β z J).imp id And.left,ξ,η,λf=>?_⟩;rw [tf,sB];refine Ja (by rw [<-sB,<-tf,yj,sT ae,k2];exact κ) λx hx=>?_
 obtain⟨q,hq,rfl⟩:=NT.1 hx;obtain⟨p,Z,k⟩:=h.JL hq;have :=hb p Z;rw [A4,yj,Gu k.ae,sT k.ae];omega
def Lc.ok {d:Nat}{W:P}{V:U}(h:Lc d W V):Ok W/\Eb 0 W/\0+W.bd<=64:=⟨⟨h.wf,by rw [aQ];have :=h.len;omega⟩,h.eb,by have :=T.rN W;have :=h.bd;omega⟩
def DS.uq {N d c:Nat}{q:U}{f:Nat->Nat}(J:DS N q d c f)(hq:Uq q)(hN:∀z,q.Fr z->z<=N)(hc:c<=N):Uq (q.map f):=by
 have hm:∀z∈BV (q.map f),N< z:=λz G=>by
  rw [dH]at G;obtain⟨y,hy,rfl⟩:=NT.1 G;exact J.fb y hy
 refine⟨?_,λz G Z=>?_⟩
 ·rw [dH];have:∀l:List Nat,l.Nodup->(∀z∈l,z∈BV q)->(l.map f).Nodup:=by
   intro l
   induction l with
   | nil=>intro _ _;exact OG
   | cons y l ih=>
    intro H hm;have H:=N7.1 H;refine N7.2 ⟨λh=>?_,ih H.2 λz G=>hm z (Nh _ G)⟩;obtain⟨z,G,e⟩:=NT.1 h;exact H.1 (J.fi z (hm z (Nh _ G)) y (hm y (NP ..)) e▸G)
  exact this _ hq.nd λ _ h=>h
 ·have h1:=hm z G;rcases J.fr hq z Z with rfl | ⟨_,h2⟩
  ·omega
  ·have :=hN z h2;omega
def Lc.den {d N c:Nat}{W W2:P}{V:U}{f:Nat->Nat}(h:Lc d W V)(hc:c< 26)(β:d∉BV V)(hf:DS N V d c f)(hN:∀z,V.Fr z->z<=N)(hB:∀z∈BV V,z<=N)(ζ:25<=N)(hr:fG 0 W 90 (ρ0 c) W2):qR 0 W2 σ0 (V.map f):=by
 have γ:=AE.renamed hr.ok (u:=V) (ρ:=UInt8.toNat) (λx _ e=>NK.1 e) h.ae;have δ:AE UInt8.toNat W2 (aF σ0 d (σ0 c)) V:=γ.congr (λ _ _=>rfl) λz G=>by
  by_cases e:z=d
  ·subst e;have:(ρZ z z).toNat=(90:UInt8).toNat:=by unfold ρZ;rw [NO rfl]
   rw [this,NO rfl,bS];exact dt hc
  ·have ε:z< 26:=(h.fr z G).resolve_left e;have h1:(ρZ d z).toNat=σ0 z:=by unfold ρZ;rw [Nt e];exact dt ε
   have h2:(90:UInt8).toNat=90:=rfl;rw [h1,h2,bz _ _ e,Nt];unfold σ0;omega
 have ae:=δ.trans (hf.ae h.uq β hN (by omega) hB σ0);have H:=hf.uq h.uq hN (by omega);obtain⟨g1,g2,g3⟩:=AA hr.shp;have J:∀z,(V.map f).Fr z->z< 26:=λz G=>by
  rcases hf.fr h.uq z G with rfl | ⟨h1,h2⟩
  ·exact hc
  ·exact(h.fr z h2).resolve_left h1
 refine⟨⟨hr.wf,by rw [aQ,g3];have :=h.len;omega,⟨hr.eb,by rw [T.wu hr.shp];have :=h.bd;omega⟩,ae,λy z _ _ e=>by unfold σ0 at e;omega,H⟩,λz G hG=>?_,⟨H,λy Z=>J y (bw Z),λx hx=>?_⟩,λ _ _=>rfl,h.lb f⟩
 ·obtain⟨y,Z,e⟩:=ae.free z G;have h1:=J y Z;have:z=ρ0 y:=NK.1 (by rw [dt h1];exact e.symm);exact absurd hG (dS (sM (this▸Jk h1)))
 ·rw [dH]at hx;obtain⟨y,Z,rfl⟩:=NT.1 hx;have :=hf.fb y Z;omega
end
section
open T
def no {X:Type}[DecidableEq X](l:List X)(x:X):List X:=l.filter λy=>decide (y≠x)
def Jj {X:Type}[DecidableEq X]{l:List X}{x:X}(h:x∉l):no l x=l:=Po.2 λy G=>by simp;rintro rfl;exact h G
def Bm {X:Type}[DecidableEq X]{l:List X}{x y:X}:y∈no l x↔y∈l/\y≠x:=by unfold no;simp
def G1:∀(O:List Nat) (F:List UInt8) (ρ:Rh) (d:Nat),O.Nodup->F.Nodup->O.length=F.length->d∈O->
  (no O d).length=(no F (asg O F ρ d)).length/\∀z,z≠d->asg (no O d) (no F (asg O F ρ d)) ρ z=asg O F ρ z
 | [],_,_,_,_,_,_,h=>by cases h
 | _::_,[],_,_,_,_,h,_=>by cases h
 | x::π,c::l,ρ,d,hO,hF,hl,hd=>by
  have G:=N7.1 hO;have H:=N7.1 hF;have J:π.length=l.length:=by simpa using hl
  by_cases e:x=d
  ·subst e;have e1:asg (x::π) (c::l) ρ x=c:=by rw [asg,bn _ _ _ _ G.1];exact NO rfl
   have e2:no (x::π) x=π:=by unfold no;rw [List.filter_cons_of_neg (by simp)];exact Jj G.1
   have e3:no (c::l) c=l:=by unfold no;rw [List.filter_cons_of_neg (by simp)];exact Jj H.1
   rw [e1,e2,e3];refine⟨J,λz hz=>?_⟩;rw [asg];exact eo π l _ _ z (by unfold aF;rw [Nt hz])
  ·have Z:d∈π:=(Nw.1 hd).resolve_left λh=>e h.symm
   have hb:asg (x::π) (c::l) ρ d∈l:=by rw [asg];exact df π l _ d Z J
   have β:c≠asg (x::π) (c::l) ρ d:=λh=>H.1 (h▸hb)
   have e2:no (x::π) d=x::no π d:=by unfold no;exact List.filter_cons_of_pos (by simpa using e)
   have e3:no (c::l) (asg (x::π) (c::l) ρ d)=c::no l (asg (x::π) (c::l) ρ d):=by unfold no;exact List.filter_cons_of_pos (by simpa using β)
   have eb:asg (x::π) (c::l) ρ d=asg π l (aF ρ x c) d:=by rw [asg]
   obtain⟨k1,k2⟩:=G1 π l (aF ρ x c) d G.2 H.2 J Z;rw [e2,e3,eb];refine⟨by simp only [M0];omega,λz hz=>?_⟩;rw [asg,k2 z hz,asg]
section
variable {t:P} {u:U}
def K8.out {O:List Nat}{F:List UInt8}{d:Nat}{p r:P}{q:U}(hO:O.Nodup)(hF:F.Nodup)(J:O.length=F.length)(hd:d∈O)(k:K8 O F p q)(hr:fG 0 p (asg O F ρ0 d) 90 r):Ls (no O d) (no F (asg O F ρ0 d)) d r q:=by
 have Z:=AE.renamed hr.ok (u:=q) (ρ:=UInt8.toNat) (λx _ e=>NK.1 e) k.ae;have eb:asg O F (ρZ d) d=asg O F ρ0 d:=xb O F _ _ d hd J;have hs:∀z,z≠d->asg (no O d) (no F (asg O F ρ0 d)) (ρZ d) z=asg O F ρ0 z:=λz H=>by
  have h1:=(G1 O F (ρZ d) d hO hF J hd).2 z H;rw [eb]at h1;rw [h1];exact eo O F _ _ z (Nt H)
 refine⟨Z.congr (λ _ _=>rfl) λz H=>?_,hr.wf,hr.eb,λz H=>?_⟩
 ·by_cases e:z=d
  ·subst e;rw [NO rfl,bn _ _ _ _ λh=>(Bm.1 h).2 rfl];unfold ρZ;rw [NO rfl]
  ·rw [Nt,hs z e];intro h;have h:=NK.1 h;by_cases G:z∈O
   ·exact e (qZ O F ρ0 z d G hd J hF h)
   ·rw [bn _ _ _ _ G]at h;exact((k.fr z H).resolve_left G).2 (h▸df O F ρ0 d hd J)
 ·by_cases e:z=d
  ·exact .inr (.inl e)
  ·rcases k.fr z H with h | ⟨h1,h2⟩
   ·exact .inl (Bm.2 ⟨h,e⟩)
   ·exact .inr (.inr ⟨h1,λh=>h2 (Bm.1 h).1⟩)
def K8.MB {O:List Nat}{F:List UInt8}{d:Nat}{p:P}{q:U}(k:K8 O F p q)(hd:26<=d)(G:d∉O):Ls O F d p q:=by
 refine⟨k.ae.congr (λ _ _=>rfl) λz H=>?_,k.wf,k.eb,λz H=>(k.fr z H).imp id .inr⟩;have e:z≠d:=λe=>(k.fr z H).elim (λh=>G (e▸h)) λh=>by omega
 rw [eo O F ρ0 (ρZ d) z (by unfold ρZ;rw [Nt e])]
def qu.HF (ok:qu t){i:Nat}(hi:i< t.ths.length){p:P}(h1:p.rd<=t.ths[i].rd)(h2:p.ow<=t.ths[i].ow)(h3:p.size<=t.ths[i].size):
  (∀x∈wo t.ths i i++[p],t.frL.length+x.rd+x.ow<=59)/\t.frL.length+kG (wo t.ths i i++[p])<=8/\dW (wo t.ths i i++[p])<=1000/\(wo t.ths i i++[p]).length<=400:=by
 have hm:=NC hi;have hb:=ok.th hm;obtain⟨n1,n2,J,n4,n5,n6⟩:=ok.Iq;have J:=J λe=>by rw [e]at hi;cases hi
 have G:=AT t.ths i hi;have Z:=fQ G T.ow;have st:=fQ G T.aN;have sl:=G.length_eq;have ss:=fQ G T.size;have tl:=lS p;have β:=ok.size;simp only [NI,Ol,M0]at Z st sl ss;simp only [kG,dW,sR,N0,PA,NI,PG,Ol,List.sum_nil,Nb,M0,Np]at*;refine⟨λx H=>?_,by omega,by omega,by omega⟩;rcases Nk.1 H with H | H
 ·exact ok.th (BC H)
 ·cases ND.1 H;omega
end
section
variable {t:P} {u:U}
def jH {A:Type}(l:List (T A))(i:Nat)(q:T A)(s:Bool)(x:T A):List (T A):=wo l i i++[q]++if s then [x]else []
def oV {A:Type}{l:List (T A)}{i:Nat}{q x y:T A}{s:Bool}(G:x∈l)(h:y∈jH l i q s x):y=q\/y∈l:=by
 unfold jH at h;rcases Nk.1 h with h | h
 ·rcases Nk.1 h with h | h
  ·exact .inr (BC h)
  ·exact .inl (ND.1 h)
 ·cases s
  ·cases h
  ·exact .inr ((ND.1 h)▸G)
def SU.jb (su:SU t u){i:Nat}(hi:i< u.ths.length){c x:Nat}{q:U}{s:Bool}(hr:Off.rcv c x q s∈offs u.ths[i]):Uq q/\x∉BV q/\(∀z,q.Fr z->z=x\/u.ths[i].Fr z)/\∀z∈x::BV q,z∈u.ths.flatMap BV:=by
 have hm:=NC hi;obtain⟨J,_⟩:=gB (su.smp _ hm) _ hr;have Z:=C8 _ hr;have G:=su.BP hi J Z;exact⟨G.rcv,G.jb,λz H=>(Decidable.em (z=x)).imp id λh=>J.fr z (.inr ⟨h,H⟩),λz H=>Oo.2 ⟨_,hm,Z.subset H⟩⟩
def Jz (su:SU t u){i:Nat}(hi:i< u.ths.length){c x:Nat}{q:U}{s:Bool}(hr:Off.rcv c x q s∈offs u.ths[i]){f:Nat->Nat}{N b:Nat}(Z:DS N q x b f)(hb:b<=N)(hN:∀z,(z∈u.frL\/z∈u.ths.flatMap BV\/∃q∈u.ths,q.Fr z)->z<=N):
  (u.frL++(jH u.ths i (q.map f) s u.ths[i]).flatMap BV).Nodup/\(∀z∈(jH u.ths i (q.map f) s u.ths[i]).flatMap BV,z∈u.ths.flatMap BV\/N< z)/\∀z,(q.map f).Fr z->z=b\/∃q∈u.ths,q.Fr z:=by
 have hm:=NC hi;obtain⟨uq,nb,fr,bv⟩:=su.jb hi hr;have β:∀z,q.Fr z->z<=N:=λz G=>by
  rcases fr z G with rfl | h
  ·exact hN z (.inr (.inl (bv z (NP ..))))
  ·exact hN z (.inr (.inr ⟨_,hm,h⟩))
 have γ:=Z.uq uq β hb;have H:∀z∈BV (q.map f),N< z:=λz G=>by
  rw [dH]at G;obtain⟨y,J,rfl⟩:=NT.1 G;exact Z.fb y J
 refine⟨PF.2 λz=>?_,λz G=>?_,λz G=>?_⟩
 ·have h1:u.frL.count z+(u.ths.map λy=>(BV y).count z).sum<=1:=su.cnt z;have h3:(u.ths.map λy=>(BV y).count z).sum=(BV u.ths[i]).count z+((wo u.ths i i).map λy=>(BV y).count z).sum:=by
   have :=fQ (AT u.ths i hi) λy=>(BV y).count z
   simpa only [NI,Ol]using this
  have h4:(u.frL++(jH u.ths i (q.map f) s u.ths[i]).flatMap BV).count z=u.frL.count z+(((wo u.ths i i).map λy=>(BV y).count z).sum+(BV (q.map f)).count z+if s then(BV u.ths[i]).count z else 0):=by
   unfold jH;rw [N3,count_flatMap];cases s<;>simp<;>omega
  rw [h4];by_cases h:z∈BV (q.map f)
  ·have h5:=PF.1 γ.nd z;have h6:u.frL.count z+(u.ths.map λy=>(BV y).count z).sum=0:=by
    rw [<-count_flatMap,<-N3];refine List.count_eq_zero.2 λhm=>?_
    have :=H z h;have :=hN z ((Nk.1 hm).imp id .inl);omega
   cases s<;>simp only [O9,PQ,Qm]<;>omega
  ·have h5:=List.count_eq_zero.2 h;cases s<;>simp only [O9,PQ,Qm]<;>omega
 ·obtain⟨y,J,G⟩:=Oo.1 G;rcases oV hm J with rfl | J
  ·exact .inr (H z G)
  ·exact .inl (Oo.2 ⟨y,J,G⟩)
 ·rcases Z.fr uq z G with rfl | ⟨h1,h2⟩
  ·exact .inl rfl
  ·exact .inr ⟨_,hm,(fr z h2).resolve_left h1⟩
def IK {A B:Type}(f:A->B)(p:T A):(p.map f).smp=p.smp:=by
 have gp:∀p:T A,(p.map f).gp=p.gp:=λp=>by cases p<;>rfl
 have G:∀p:T A,(p.map f).isR=p.isR:=λp=>by cases p<;>rfl
 induction p<;>simp_all [T.map,T.smp]
def Hj (su:SU t u){i:Nat}(hi:i< u.ths.length){c x:Nat}{q:U}{s:Bool}(hr:Off.rcv c x q s∈offs u.ths[i]){f:Nat->Nat}{N b:Nat}(hf:DS N q x b f)(hb:b< 26)(δ:25<=N)(hN:∀z,(z∈u.frL\/z∈u.ths.flatMap BV\/∃q∈u.ths,q.Fr z)->z<=N):
  Nu (resL u.frL (parL (jH u.ths i (q.map f) s u.ths[i])))/\(resL u.frL (parL (jH u.ths i (q.map f) s u.ths[i]))).smp=true:=by
 have hm:=NC hi;obtain⟨h1,h2,h3⟩:=Jz su hi hr hf (by omega) hN;have J:BV (resL u.frL (parL (jH u.ths i (q.map f) s u.ths[i])))=u.frL++(jH u.ths i (q.map f) s u.ths[i]).flatMap BV:=by rw [dK,dJ]
 have Z:∀z∈BV (resL u.frL (parL (jH u.ths i (q.map f) s u.ths[i]))),26<=z:=λz H=>by
  rw [J]at H;rcases Nk.1 H with h | h
  ·exact su.ge z (NS _ h)
  ·rcases h2 z h with h | h
   ·exact su.ge z (NG _ h)
   ·omega
 have β:∀z,(resL u.frL (parL (jH u.ths i (q.map f) s u.ths[i]))).Fr z->z< 26:=λz H=>by
  obtain⟨g1,g2⟩:=eQ.1 H;obtain⟨y,G,γ⟩:=iW.1 g2;have:z=b\/∃q∈u.ths,q.Fr z:=by
   rcases oV hm G with rfl | G
   ·exact h3 z γ
   ·exact .inr ⟨y,G,γ⟩
  rcases this with rfl | h
  ·exact hb
  ·exact((su.free z h).resolve_left g1).1
 obtain⟨rU,_⟩:=gB (su.smp _ hm) _ hr;have sq:q.smp=true:=rU.smp (su.smp _ hm);refine⟨⟨⟨by rw [J];exact h1,λz H hf=>by have :=Z z H;have :=β z hf;omega⟩,λy G=>β y (bw G),Z⟩,?_⟩;rw [Aq];refine AJ λy G=>?_
 rcases oV hm G with rfl | G
 ·rw [IK];exact sq
 ·exact su.smp y G
def AE.Li {d c:Nat}{p H:U}(h:∀ρ τ:Nat->Nat,(∀z,z≠d->ρ z=τ z)->ρ d=τ c->AE ρ p τ H):∀(O:List Nat),(∀x∈O,x≠d/\x≠c)->∀ρ τ:Nat->Nat,(∀z,z≠d->ρ z=τ z)->ρ d=τ c->AE ρ (resL O p) τ (resL O H)
 | [],_,ρ,τ,h1,G=>h ρ τ h1 G
 | x::O,hO,ρ,τ,h1,G=>λv=>by
  obtain⟨J,Z⟩:=hO x (NP ..);refine AE.Li h O (λy hy=>hO y (Nh _ hy)) (aF ρ x v) (aF τ x v) (λz hz=>?_) ?_
  ·unfold aF;split
   ·rfl
   ·exact h1 z hz
  ·unfold aF;rw [Nt J.symm,Nt Z.symm];exact G
def AE.LA {ρ τ:Nat->Nat}:∀{ps us:List U},gd (λp q=>AE ρ p τ q) ps us->AE ρ (T.parL ps) τ (T.parL us)
 | [],[],_=>trivial
 | [_],[_],.cons h _=>h
 | _::_::_,_::_::_,.cons h k=>⟨h,AE.LA k⟩
def gd.diag {X:Type}{R:X->X->Prop}:∀{l:List X},(∀x∈l,R x x)->gd R l l
 | [],_=> .nil
 | x::_,h=> .cons (h x (NP ..)) (gd.diag λy G=>h y (Nh _ G))
def Dn (su:SU t u){i:Nat}(hi:i< u.ths.length){c x:Nat}{q:U}{s:Bool}(hr:Off.rcv c x q s∈offs u.ths[i]){f g:Nat->Nat}{N M b d:Nat}(hf:DS N q x d f)(hg:DS M q x b g)(hd:d<=N)(β:b<=M)(hN:∀z,(z∈u.frL\/z∈u.ths.flatMap BV\/∃q∈u.ths,q.Fr z)->z<=N)(hM:∀z,(z∈u.frL\/z∈u.ths.flatMap BV\/∃q∈u.ths,q.Fr z)->z<=M)
  (J:d=b\/∀z,(z∈u.frL\/z∈u.ths.flatMap BV\/∃q∈u.ths,q.Fr z)->z≠d) (δ:b< 26):∀ρ τ:Nat->Nat,(∀z,z≠d->ρ z=τ z)->ρ d=τ b->AE ρ (resL u.frL (parL (jH u.ths i (q.map f) s u.ths[i]))) τ (resL u.frL (parL (jH u.ths i (q.map g) s u.ths[i]))):=by
 have hm:=NC hi;obtain⟨uq,nb,fr,bv⟩:=su.jb hi hr;have Z:∀{K:Nat},(∀z,(z∈u.frL\/z∈u.ths.flatMap BV\/∃q∈u.ths,q.Fr z)->z<=K)->(∀z,q.Fr z->z<=K)/\∀z∈BV q,z<=K:=λ{K} h=>by
  refine⟨λz G=>?_,λz G=>h z (.inr (.inl (bv z (Nh _ G))))⟩;rcases fr z G with rfl | h1
  ·exact h z (.inr (.inl (bv z (NP ..))))
  ·exact h z (.inr (.inr ⟨_,hm,h1⟩))
 refine AE.Li (d:=d) (c:=b) (λρ τ h1 h2=>AE.LA ?_) u.frL λy H=>⟨?_,?_⟩
 ·have e:∀z,(∃q∈u.ths,q.Fr z)->ρ z=τ z:=λz G=>by
   by_cases ez:z=d
   ·rcases J with h | h
    ·subst ez;subst h;exact h2
    ·exact absurd ez (h z (.inr (.inr G)))
   ·exact h1 z ez
  have k1:=hf.ae uq nb (Z hN).1 hd (Z hN).2 ρ;have k2:=hg.ae uq nb (Z hM).1 β (Z hM).2 τ;have k3:AE (aF ρ x (ρ d)) q τ (q.map g):=k2.congr (λz G=>by
   unfold aF;split
   ·exact h2.symm
   ·rename_i γ;exact(e z ⟨_,hm,(fr z G).resolve_left γ⟩).symm) λ _ _=>rfl
  have th:∀y∈u.ths,AE ρ y τ y:=λy H=>(AE.refl y ρ).congr (λ _ _=>rfl) λz G=>e z ⟨y,H,G⟩
  unfold jH;refine((gd.diag λy H=>th y (BC H)).app (.cons (k1.symm.trans k3) .nil)).app ?_;cases s
  ·exact .nil
  ·exact .cons (th _ hm) .nil
 ·rcases J with h | h
  ·have :=su.ge y (NS _ H);omega
  ·exact h y (.inl H)
 ·have :=su.ge y (NS _ H);omega
end
def BK (u:U)(i:Nat)(q:U)(x:Nat)(s:Bool)(c:Nat):U:=resL u.frL (parL (jH u.ths i (q.map (Ff (NN u) q x c)) s (u.ths.getD i .nil)))
section
variable {t:P} {u:U}
def Gi (u:U):26<=NN u:=by unfold NN;omega
def G8 (ok:qu t)(su:SU t u){i:Nat}(hi:i< t.ths.length)(Z:i< u.ths.length){e x:UInt8}{q:P}{s:Bool}{e' x':Nat}{J:U}{s':Bool}(hr:Off.rcv e x q s∈offs t.ths[i])(δ:Off.rcv e' x' J s'∈offs u.ths[i])
  (θ:EN UInt8.toNat (λz=>(asg u.frL t.frL ρ0 z).toNat) (.rcv e x q s) (.rcv e' x' J s')) {q2:P} (β:fG 0 q x 90 q2) {d:Nat} (hd:d=NN u+1):
  Lc d (resL t.frL (parL (jH t.ths i q2 s t.ths[i]))) (resL u.frL (parL (jH u.ths i (J.map (Ff d J x' d)) s' u.ths[i])))/\d∉BV (resL u.frL (parL (jH u.ths i (J.map (Ff d J x' d)) s' u.ths[i]))):=by
 obtain⟨_,ε,rfl⟩:=θ;have ι:=su.bound;have hN:∀z,(z∈u.frL\/z∈u.ths.flatMap BV\/∃q∈u.ths,q.Fr z)->z< d:=λz G=>by have :=ι z G;omega
 have ν:=Gi u;obtain⟨uq,nb,fr,bv⟩:=su.jb Z δ;have hf:=pZ d d nb;obtain⟨n1,n2,n3⟩:=Jz su Z δ hf (Nc _) λz G=>Qn (hN z G)
 have ζ:=NC Z;have H:d∉u.frL:=λh=>by have :=hN d (.inl h);omega
 have η:d∉(jH u.ths i (J.map (Ff d J x' d)) s u.ths[i]).flatMap BV:=λh=>by
  rcases n2 d h with h | h
  ·have :=hN d (.inr (.inl h));omega
  ·omega
 have κ:asg u.frL t.frL (ρZ d) d=90:=by rw [bn _ _ _ _ H];exact NO rfl
 have pq:Ls u.frL t.frL d q2 (J.map (Ff d J x' d)):=by
  refine⟨?_,β.wf,β.eb,λz G=>(n3 z G).elim (λh=> .inr (.inl h)) λh=>(su.free z h).imp id .inr⟩;have k1:=(β.ok UInt8.toNat).symm;have k2:=ε (90:UInt8).toNat;have k3:=hf.ae uq nb (λz G=>?_) (Nc _) (λz G=>Qn (hN z (.inr (.inl (bv z (Nh _ G)))))) (λz=>(asg u.frL t.frL (ρZ d) z).toNat)
  ·simp only [κ]at k3;refine(k1.trans k2).trans (k3.congr (λz G=>?_) λ _ _=>rfl);unfold aF;split
   ·rfl
   ·rename_i h;have :=hN z (.inr (.inr ⟨_,ζ,(fr z G).resolve_left h⟩));exact N9 UInt8.toNat (eo u.frL t.frL (ρZ d) ρ0 z (by unfold ρZ;rw [Nt (by omega)]))
  ·rcases fr z G with rfl | h
   ·exact Qn (hN z (.inr (.inl (bv z (NP ..)))))
   ·exact Qn (hN z (.inr (.inr ⟨_,ζ,h⟩)))
 have γ:=NC hi;obtain⟨rP,_⟩:=gB (su.smpP _ γ) _ hr;have r1:=rP.ow;have r2:=rP.size;have r3:=rP.rd;simp only [Off.tm,ow,size,rd]at r1 r2 r3;obtain⟨g1,g2,g3⟩:=AA β.shp;obtain⟨b1,b2,b3,b4⟩:=ok.HF hi (p:=q) (by omega) (by omega) (by omega);obtain⟨m1,m2,m3,m4,m5,m6⟩:=ok.Iq;have m3:=m3 λe=>by rw [e]at hi;cases hi
 have ξ:=ok.size;have ο:t.ths[i].ow<=kG t.ths:=nv (NT.2 ⟨_,γ,rfl⟩);have ς:t.ths[i].aN<=dW t.ths:=nv (NT.2 ⟨_,γ,rfl⟩);obtain⟨k1,_,_,k4,_⟩:=pA (jH t.ths i q2 s t.ths[i]);have υ:kG (jH t.ths i q2 s t.ths[i])<=kG (wo t.ths i i++[q])+t.ths[i].ow:=by
  unfold jH kG;cases s<;>simp<;>omega
 have φ:dW (jH t.ths i q2 s t.ths[i])<=dW (wo t.ths i i++[q])+t.ths[i].aN/\(jH t.ths i q2 s t.ths[i]).length<=(wo t.ths i i++[q]).length+1:=by
  unfold jH dW;cases s<;>simp<;>omega
 have μ:gd (Ls u.frL t.frL d) (wo t.ths i i) (wo u.ths i i):=(su.Mz.wo i i).mono λp q k=>k.MB (by omega) H
 refine⟨FI (by omega) H su.len su.fn su.fl (λx hx=>su.ge x (NS _ hx)) ((μ.app (.cons pq .nil)).app ?_) n1 (λz G=>?_) η (λr hr=>?_) (by rw [k1];omega) (by omega) (by omega),λh=>?_⟩
 ·cases s
  ·exact .nil
  ·exact .cons ((su.Mz.get hi Z).MB (by omega) H) .nil
 ·rcases n2 z G with h | h
  ·exact su.ge z (NG _ h)
  ·omega
 ·rcases oV γ hr with rfl | h
  ·have :=b1 q (NG _ (ND.2 rfl));omega
  ·exact ok.th h
 ·rw [dK,dJ]at h;exact(Nk.1 h).elim H η
def J7 (ok:qu t)(su:SU t u){i:Nat}(hi:i< t.ths.length)(G:i< u.ths.length){e x:UInt8}{q:P}{s:Bool}{e' x':Nat}{q':U}{s':Bool}(hr:Off.rcv e x q s∈offs t.ths[i])(J:Off.rcv e' x' q' s'∈offs u.ths[i])
  (β:EN UInt8.toNat (λz=>(asg u.frL t.frL ρ0 z).toNat) (.rcv e x q s) (.rcv e' x' q' s')) {q2:P} (γ:fG 0 q x 90 q2) {c:Nat} (hc:c< 26) {W2:P} (hW:fG 0 (resL t.frL (parL (jH t.ths i q2 s t.ths[i]))) 90 (ρ0 c) W2):
  ∃v,qR 0 W2 σ0 v/\je v=je (BK u i q' x' s' c):=by
 obtain⟨d,hd⟩:∃d,d=NN u+1:=⟨_,rfl⟩
 obtain⟨oz,Z⟩:=G8 ok su hi G hr J β γ hd;obtain⟨uq,nb,fr,bv⟩:=su.jb G J;have ε:=Gi u;have hN:∀z,(z∈u.frL\/z∈u.ths.flatMap BV\/∃q∈u.ths,q.Fr z)->z< d:=λz H=>by have :=su.bound z H;omega
 unfold BK;rw [cz G];have same:=Dn su G J (pZ d d nb) (pZ (NN u) c nb) (Nc d) (by omega) (λz H=>Qn (hN z H)) su.bound (.inr λz H=>by have :=hN z H;omega) hc;have δ:=(Hj su G J (pZ (NN u) c nb) hc (by omega) su.bound).1;generalize resL u.frL (parL (jH u.ths i (q'.map (Ff d q' x' d)) s' u.ths[i]))=V at oz Z same;have hM:∀z∈BV V,z<=(BV V).sum+d:=λz H=>by have :=nv H;omega
 have hF:∀z,V.Fr z->z<=(BV V).sum+d:=λz H=>by rcases oz.fr z H with h | h<;>omega
 have hg:=pZ ((BV V).sum+d) c Z;have dn:=oz.den hc Z hg hF hM (by omega) hW;refine⟨_,dn,BU dn.nu δ ((hg.ae oz.uq Z hF (by omega) hM σ0).symm.trans (same _ _ (λz H=>bz _ _ H) (bS ..)))⟩
end
abbrev Ev:=Tx×Option Tx
noncomputable def jD (u:U)(n:UInt8)(i:Nat):Off Nat->List Ev
 | .rcv a x q s=>if a∈u.frL then []else [([ρ0 a,63,n],if lt n=true then je (BK u i q x s (e0 n))else none)]
 | _=>[]
def ED (E:Nat->Off Nat->List Ev)(u:U)(i:Nat):List Ev:=(offs (u.ths.getD i .nil)).flatMap (E i)
def EE (E:Nat->Off Nat->List Ev)(u:U):List Ev:=(List.range u.ths.length).flatMap (ED E u)
def wt (want:Tx)(e:Ev):Bool:=decide (want=[])||decide (e.1=want)
def sm (p:Tx×Tx):Ev:=(p.1,some p.2)
def C1 {X:Type}{c:Prop}[Decidable c]{l m:List X}{n:Nat}(h:l.length<=n)(k:m.length<=n):(if c then l else m).length<=n:=by split<;>assumption
def lV (u:U)(o:UInt8)(i:Nat)(x:Off Nat):(jD u o i x).length<=1:=by
 cases x with
 | rcv a x q s=>exact C1 (N5 _) (Nc _)
 | _=>exact N5 _
def kO {X Y:Type}{f:X->List Y}(h:∀x,(f x).length<=1):∀l:List X,(l.flatMap f).length<=l.length
 | []=>Nc _
 | x::l=>by have :=h x;have :=kO h l;simp only [Ob,Nb,M0];omega
def SU.own {t:P}{u:U}(su:SU t u){z:Nat}(H:∃q∈u.ths,q.Fr z):(asg u.frL t.frL ρ0 z∈t.frL↔z∈u.frL)/\(z∉u.frL->asg u.frL t.frL ρ0 z=ρ0 z/\z< 26):=by
 by_cases h:z∈u.frL
 ·exact⟨⟨λ _=>h,λ _=>df u.frL t.frL ρ0 z h su.len⟩,λG=>absurd h G⟩
 ·obtain⟨h1,J⟩:=(su.free z H).resolve_left h;have e:=bn u.frL t.frL ρ0 z h;exact⟨⟨λG=>absurd (e▸G) J,λG=>absurd G h⟩,λ _=>⟨e,h1⟩⟩
end
section
open T Classical
def Gh {f:Tx}{ps:List P}{v:Value}{w:World}{nw:UInt8}{a:Option Tx}(hs:Strs w v (ps.map T.text))(hl:cZ (ps.map T.text)<=1000000000)(hW:Ok (resL f (parL ps))/\Eb 0 (resL f (parL ps))/\0+(resL f (parL ps)).bd<=64)(hn:nm nw=true)(hk:okn 0 nw)
  (hd:∀W2,fG 0 (resL f (parL ps)) 90 nw W2->∃u,qR 0 W2 σ0 u/\je u=a) {R:aJ->Bool->Qx} (h:∀s q w',Ex w w'->s=a.getD []->q=a.isSome->R s q w'):Qy 118 #[.string (ay f),v,.int .u8 nw.toNat] w (ax [.s,.b] R):=by
 refine r8 f v nw w R ?_;dsimp only [go_sem];dsimp only [go_sem,Nat.reduceAdd];obtain⟨b,cap,hv⟩:=hs.slice;have β:=hW.1.2;have H:=pM (parL ps) f;rw [H,gi]at β;refine⟨λs w'=>s=(parL ps).text/\w=w',⟨b,_,cap,hv,λG=>?_,λG=>?_⟩,λs w' hJ=>?_⟩
 ·have J:ps≠[]:=by
   intro e;simp [e]at G
  refine sd hs (by simpa using J) (by omega) ⟨(pc J).symm,rfl⟩
 ·cases ps with
  | nil=>exact⟨rfl,rfl⟩
  | cons=>simp at G
 obtain⟨rfl,rfl⟩:=hJ;generalize (parL ps).text=body at*;refine⟨by omega,λs i w'=>w'=w/\∃m:Nat,i=(m:Int) - 1/\m<=f.length/\s=wrap (f.drop m) body,λ _ i _=>(i+1).toNat,⟨rfl,f.length,rfl,Nc _,by rw [O8];rfl⟩,λs i w' hI=>?_⟩;obtain⟨rfl,m,rfl,hm,rfl⟩:=hI;refine⟨λG=>?_,λG=>?_⟩
 ·obtain⟨m,rfl⟩:∃k,m=k+1:=⟨m - 1,by simp at G;omega⟩
  have Z:m< f.length:=by omega
  have e:(((m+1:Nat):Int) - 1)=(m:Int):=by omega
  have γ:=vn Z body;have δ:=gi (f.drop (m+1)) body;rw [OB]at δ;rw [e,Bw Z];refine⟨by omega,⟨by omega,by omega,by omega⟩,by simp,by simp,by simp only [Nb,M0,Np];omega,by omega,⟨rfl,m,rfl,by omega,?_⟩,by show((m:Int) - 1+1).toNat< ((m:Int)+1).toNat;omega⟩;rw [γ];rfl
 ·have:m=0:=by simp at G;omega
  subst this;rw [O4,<-H];refine gh _ (Nc _) hW.1 hW.2.1 hW.2.2 hn hk λq w2 x2 hq=>?_
  obtain⟨u,d,e⟩:=hd q hq;refine ER d λw3 x3=>⟨λs es=>h s true w3 (Ex.trans x2 x3) ?_ ?_,λes=>h [] false w3 (Ex.trans x2 x3) ?_ ?_⟩
  all_goals rw [<-e,es];rfl
def qn (p:Tx×Tx):List Value:=[.string (ay p.1),.string (ay p.2)]
def bY (B:Nat)(w:World)(v:Value)(l:List (Tx×Tx)):Prop:=w.ownsRow B 96 2 v l.length (l.flatMap qn)
section
variable {B:Nat} {w w':World} {v:Value} {l:List (Tx×Tx)}
def rk:∀l:List (Tx×Tx),(l.flatMap qn).length=l.length* 2
 | []=>rfl
 | p::l=>by rw [Ob,Nb,rk l];simp only [qn,M0,Np];omega
def Cl:∀{l:List (Tx×Tx)} {i:Nat} {p:Tx×Tx},l[i]?=some p->(l.flatMap qn)[i* 2]?=some (.string (ay p.1))/\(l.flatMap qn)[i* 2+1]?=some (.string (ay p.2))
 | q::l,0,p,h=>by cases h;exact⟨rfl,rfl⟩
 | q::l,i+1,p,h=>by
  have :=Cl (l:=l) (i:=i) (p:=p) (by simpa using h);have e:(i+1)* 2=i* 2+2:=by omega
  rw [e];exact this
def xZ:∀l:List (Tx×Tx),(l.flatMap qn).all oneV=true
 | []=>rfl
 | p::l=>by rw [Ob,PB,xZ l];rfl
def bY.nil (B:Nat)(w:World):bY B w (.slice none 0 0) []:=P3 _ _ _ _
def bY.block (h:bY B w v l):∀b,v.ownBlock=some b->B<=b/\b< w.heap.size:=Pt h
def bY.mono {G:Nat}(h:bY B w v l)(hb:G<=B):bY G w v l:=Pw h hb
def bY.kp {S:Nat->Prop}(h:bY B w v l)(k:Kp w w' S)(H:∀g,v.ownBlock=some g->¬S g):bY B w' v l:=by
 refine⟨h.1,?_⟩;rcases h.2 with J | ⟨g,cap,cur,rfl,hb,G,rest⟩
 ·exact .inl J
 ·exact .inr ⟨g,cap,cur,rfl,hb,by rw [k.block g (NL.1 G).1 (H g rfl)];exact G,rest⟩
def bY.ex (h:bY B w v l)(x:Ex w w'):bY B w' v l:=h.kp (Kp.ah x λ _=>False) λ _ _ h=>h
def bY.slice (h:bY B w v l):∃a cap,v= .slice a l.length cap:=by
 rcases h.2 with⟨rfl,G⟩ | ⟨g,cap,cur,rfl,_⟩
 ·exact⟨none,0,by rw [G]⟩
 ·exact⟨_,cap,rfl⟩
def bY.get (h:bY B w v l){i:Nat}(hi:i< l.length):∃g cap,v= .slice (some ⟨g,0,none⟩) l.length cap/\g< w.heap.size/\w.cell? ⟨g,i* 2,none⟩=some (.string (ay l[i].1))/\w.cell? ⟨g,i* 2+1,none⟩=some (.string (ay l[i].2)):=by
 have J:=h.1;rcases h.2 with⟨hv,hn⟩ | ⟨g,cap,cur,rfl,hb,H,h1,h2,h3,h4⟩
 ·omega
 ·obtain⟨Z,k2⟩:=Cl (M6 hi);have key:∀{j:Nat} {x:Value},(l.flatMap qn)[j]?=some x->w.cell? ⟨g,j,none⟩=some x:=λ{j x} G=>by
   have hj:j< (l.flatMap qn).length:=(NZ.1 G).1;unfold World.cell?;simp only [H];rw [<-h4,Og (by rw [<-J];exact hj),Oe]at G;exact G
  exact⟨g,cap,rfl,(NL.1 H).1,key Z,key k2⟩
def bY.push {p:Tx×Tx}{b:Nat}(h:bY B w v l)(hB:B<=w.heap.size)(hb:b=w.heap.size)(hw:w'=w.alloc (.cells #[.string (ay p.1),.string (ay p.2)] 96))(hl:l.length<=1000000000){K:Value->Qx}
  (H:∀v' G,bY B G v' (l++[p])->w'.grownBy G v.ownBlock->(∀b,v'.ownBlock=some b->v.ownBlock=some b\/w'.heap.size<=b)->K v' G):
  ∃(base n m:Nat) (xs news:List Value),World.ownsRow w' base 96 2 v n xs/\base<=Array.size (World.heap w')/\db w' (.slice (some ⟨b,0,none⟩) 1 1) m 2 news/\(n+m<=maxLen/\(n+m)* 32<=140737488355328)/\
   ∀(v':Value) (G:World),World.ownsRow G base 96 2 v' (n+m) (xs++news)->World.grownBy w' G (Value.ownBlock v)->(∀b:Nat,Value.ownBlock v'=some b->Value.ownBlock v=some b\/Array.size (World.heap w')<=b)->K v' G:=by
 have x:Ex w w':=hw▸Ex.alloc w _;refine⟨B,l.length,1,l.flatMap qn,qn p,h.ex x,N8 hB x.size,⟨rfl,rfl,.inr ⟨b,0,1,rfl,λj u hu=>?_⟩⟩,⟨by unfold maxLen;omega,by omega⟩,λv' G J Z hn=>H v' G ?_ Z hn⟩
 ·subst hb hw;rw [NJ];exact aa (by simpa [qn]using hu)
 ·unfold bY;rw [Nb,OH,show [p].flatMap qn=qn p by simp];exact J
end
structure tM (B:Nat)(w0:World)(o0:Value)(want:Tx)(out:Value)(w:World)(L:List Ev):Prop where
 gr:Gr w0 o0 w out
 hB:B<=w0.heap.size
 ex:∃acc,bY B w out acc/\L.filter (wt want)=acc.map sm
section
variable {B:Nat} {w0 w w':World} {o0 out:Value} {want:Tx} {L M:List Ev}
def tM.Kc (h:tM B w0 o0 want out w L)(x:Ex w w'):tM B w0 o0 want out w' L:=by
 obtain⟨acc,h1,G⟩:=h.ex;exact⟨h.gr.ex x,h.hB,acc,h1.ex x,G⟩
def tM.start (h:tM B w0 o0 want out w L):tM B w out want out w L:=⟨Gr.refl _ _,N8 h.hB h.gr.size,h.ex⟩
def tM.back {w1:World}{G H:Value}(h:tM B w0 o0 want G w1 L)(k:tM B w1 G want H w M):tM B w0 o0 want H w M:=⟨h.gr.trans k.gr,h.hB,k.ex⟩
def tM.lt (h:tM B w0 o0 want out w L):∀g,out.ownBlock=some g->g< w.heap.size:=λg G=>by
 obtain⟨acc,h1,_⟩:=h.ex;exact(h1.block g G).2
def tM.skip (h:tM B w0 o0 want out w L){e:Ev}(he:wt want e=false):tM B w0 o0 want out w (L++[e]):=by
 obtain⟨acc,h1,G⟩:=h.ex;exact⟨h.gr,h.hB,acc,h1,by rw [OF,G,List.filter_cons_of_neg (by simp [he])];simp⟩
def tM.push (h:tM B w0 o0 want out w L)(hl:L.length<=1000000){G s:Tx}(he:wt want (G,some s)=true){K:Value->Qx}(hK:∀v' H,tM B w0 o0 want v' H (L++[(G,some s)])->K v' H):
  ∀(b:Nat) (w1:World),b=Array.size (World.heap w)->w1=World.alloc w (Obj.cells #[.string (ay G),.string (ay s)] 96)->
  ∃(base n m:Nat) (xs news:List Value),World.ownsRow w1 base 96 2 out n xs/\base<=Array.size (World.heap w1)/\db w1 (.slice (some ⟨b,0,none⟩) 1 1) m 2 news/\(n+m<=maxLen/\(n+m)* 32<=140737488355328)/\
   ∀(v':Value) (H:World),World.ownsRow H base 96 2 v' (n+m) (xs++news)->World.grownBy w1 H (Value.ownBlock out)->(∀b:Nat,Value.ownBlock v'=some b->Value.ownBlock out=some b\/Array.size (World.heap w1)<=b)->K v' H:=λb w1 hb J=>by
 obtain⟨acc,h1,Z⟩:=h.ex;have β:acc.length<=L.length:=by
  have :=Pe (wt want) L;rw [Z,Nq]at this;exact this
 have x1:Ex w w1:=J▸Ex.alloc w _;refine h1.push (p:=(G,s)) (N8 h.hB h.gr.size) hb J (by omega) λv' H k1 k2 k3=>hK v' H ⟨(h.gr.ex x1).grown k2 k3,h.hB,_,k1,?_⟩
 rw [OF,Z,N0,List.filter_cons_of_pos (by exact he)];rfl
end
def Mi {w w1 G:World}{b e:Nat}(cs:List UInt8)(hb:b=w.heap.size)(hw:w1=w.alloc (.cells (cs.map λc=>Value.int .u8 c.toNat).toArray e))(x:Ex w1 G){K:aJ->Prop}(J:K cs):
  ∃(H o n c:Nat) (l:aJ),Value.slice (some ⟨b,0,none⟩) cs.length cs.length=Value.slice (some ⟨H,o,none⟩) n c/\List.length l=n/\(∀(j:Nat) (y:UInt8),l[j]?=some y->G.cell? ⟨H,o+j,none⟩=some (.int .u8 y.toNat))/\K l:=by
 refine⟨b,0,cs.length,cs.length,cs,rfl,rfl,λj y Z=>?_,J⟩;have hl:b< w1.heap.size:=by rw [hw,size_alloc];omega
 rw [NJ,x.cell hl,hw,hb];exact aa (by simp [Z])
def Lq {E:Nat->Off Nat->List Ev}{u:U}{i:Nat}(hi:i< u.ths.length){o:Off Nat}(G:o∈offs u.ths[i]){e:Ev}(he:e∈E i o):e∈EE E u:=by
 refine Oo.2 ⟨i,OQ.2 hi,Oo.2 ⟨o,?_,he⟩⟩;rw [cz hi];exact G
def Lr {c:UInt8}(h:lt c=true):ρ0 (e0 c)=c/\e0 c< 26:=by
 have :=bg h;have G:e0 c< 26:=by unfold e0;omega
 refine⟨NK.1 ?_,G⟩;rw [dt G];unfold σ0 e0;omega
def gd.snoc {X Y:Type}{R:X->Y->Prop}{l:List X}{m:List Y}{x:X}{y:Y}(h:gd R l m)(k:R x y):gd R (l++[x]) (m++[y]):=h.app (.cons k .nil)
def KX {p:P}(al:p.Al λc=>lt c=true)(G:p.size<=60):Ok p/\Eb 0 p/\0+p.bd<=64:=by
 have :=ju p;have :=T.wi p;have :=lS p;exact⟨⟨T.Al.wf al,by rw [aQ];omega⟩,T.Al.eb 0 al,by omega⟩
def Ex.set {w w':World}(x:Ex w w'){g j:Nat}(G:w.heap.size<=g)(v:Value):Ex w (w'.setCell ⟨g,j,none⟩ v):=by
 have k:=Kp.set (i:=j) (Kp.ah x λb=>b=g) rfl v;exact⟨k.os,k.tape,k.output,k.size,λb hb=>k.block b hb (by omega)⟩
def BN {t:P}(ok:qu t){n ov:UInt8}(ho:lt n=true\/122< n){want:Tx}(hwant:want=if ov=0 then []else [ov,63,n]){w:World}{R:Value->Bool->Qx}(hR1:(∃e∈EE (jD (num t e0 0).1 n) (num t e0 0).1,wt want e=true/\e.2=none)->∀w',Ex w w'->R (.slice none 0 0) false w')
  (hR2:∀acc,(EE (jD (num t e0 0).1 n) (num t e0 0).1).filter (wt want)=acc.map sm->∀v w',Ex w w'->bY w.heap.size w' v acc->R v true w'):Qy 64 #[.string (ay t.text),.int .u8 n.toNat,.int .u8 ov.toNat] w (ax [.v,.b] R):=by
 have su:=ok.su;have hszt:=ok.size;have hsh:=(jZ su.ae).2.2;generalize hu:(num t e0 0).1=u at*;have hsz:u.size<=60:=by omega
 obtain⟨hthl,hol,_⟩:=lens hsz;obtain⟨hn,hts⟩:=J4 ok;have hlen:=su.two.len;have okt:Ok t:=Jp ok.al ok.good;have okth:∀q∈t.ths,Ok q:=λq hq=>⟨(su.al q hq).wf,by rw [aQ];have :=(hts q hq).2;omega⟩
 have hfl:t.frL.length<=1099511627776:=by have :=ok.Iq.2.2.2.1;omega
 have hlE:∀i,i<=u.ths.length->((List.range i).flatMap (ED (jD u n) u)).length<=3600:=λi hi=>by
  have h1:=qj (f:=ED (jD u n) u) (c:=60) (l:=List.range i) λx hx=>by
   have hx:=OQ.1 hx;have h2:=kO (lV u n x) (offs (u.ths.getD x .nil));rw [cz (by omega)]at h2;have :=hol x (by omega);unfold ED;rw [cz (by omega)];omega
  rw [PD]at h1;omega
 refine pS t.text n ov w R ?_;refine vu okt (Aw okt ok.nr λv5 w6 x6 o5=>?_);have hv5:=o5.strs;obtain⟨a,cap,hv⟩:=hv5.slice;rw [Nq]at hv;refine⟨a,_,cap,hv,λout x w'=>∃i:Nat,x=i/\i<=t.ths.length/\tM w6.heap.size w6 (.slice none 0 0) want out w' ((List.range i).flatMap (ED (jD u n) u)),λ _ x _=>(t.ths.length - x).toNat,⟨0,rfl,N5 _,⟨Gr.refl _ _,Nc _,[],bY.nil _ _,rfl⟩⟩,λγ x w15 hI=>?_⟩;obtain⟨i,rfl,hi,ε⟩:=hI;have x15:Ex w6 w15:=ε.gr.nil rfl;refine⟨λhlt=>?_,λhge=>?_⟩;rotate_left
 ·have hil:i=u.ths.length:=by simp only [No]at hge;omega
  rw [hil]at ε;obtain⟨acc,h1,h2⟩:=ε.ex;exact hR2 acc h2 _ w15 (Ex.trans x6 x15) (h1.mono x6.size)
 have ξ:i< t.ths.length:=by simp only [Nj]at hlt;omega
 have ζ:i< u.ths.length:=by omega
 have η:=NC ξ;have hmiu:=NC ζ;have two1:=HH (su.two.get ξ ζ);have hlo:=two1.len;have hacc1:=hlE i (by omega);have ek:(List.range (i+1)).flatMap (ED (jD u n) u)=(List.range i).flatMap (ED (jD u n) u)++ED (jD u n) u i:=by rw [Qj,OH];simp
 have eE0:ED (jD u n) u i=(offs u.ths[i]).flatMap (jD u n i):=by unfold ED;rw [cz ζ]
 refine hv5.get x15 (i:=i) (x:=t.ths[i].text) (by omega) (by simp [ξ]) (Q:=λn=>_) (Bb _ (Nc _) (okth _ η) (su.smpP _ η) (by have :=(hts _ η).1;omega) λv21 w22 xs x22 o21 m21=>?_);have h22:=(ε.Kc x22).start;have n21:∀g,v21.ownBlock=some g->γ.ownBlock≠some g:=λg hg e=>by
  have h1:=(o21.block g hg).1;have h2:=ε.lt g e;omega
 obtain⟨a23,cap23,ο⟩:=o21.slice;have hm1:=@tN t.ths.length i (by omega);generalize hA:(List.range i).flatMap (ED (jD u n) u)=A at*;have hol1:=hol i ζ;refine⟨a23,_,cap23,ο,λout x w'=>∃j:Nat,x=j/\j<=(offs t.ths[i]).length/\tM w6.heap.size w22 γ want out w' (A++((offs u.ths[i]).take j).flatMap (jD u n i)),λ _ x _=>((offs t.ths[i]).length - x).toNat,⟨0,rfl,N5 _,by simpa using h22⟩,λout2 x w31 hI=>?_⟩;obtain⟨j,rfl,hj,ς⟩:=hI;refine⟨λhlt2=>?_,λhge2=>?_⟩;rotate_left
 ·have hjl:j=(offs u.ths[i]).length:=by simp only [No]at hge2;omega
  rw [hjl,NR,<-eE0,<-ek]at ς;exact⟨by omega,⟨i+1,by omega,by omega,(ε.Kc x22).back ς⟩,hm1⟩
 have hjP:j< (offs t.ths[i]).length:=by simp only [Nj]at hlt2;omega
 have hjU:j< (offs u.ths[i]).length:=by omega
 have hm2:=@tN (offs t.ths[i]).length j hjP;have hae:=two1.get hjP hjU;have hmP:=NC hjP;have hmU:=NC hjU;obtain⟨g,capg,cs,hvg,G,J⟩:=Gc (o21.gr ς.gr n21) m21 hjP;obtain⟨kk,ca,cb,cs3,cq,rfl⟩:=G.any;have etk:((offs u.ths[i]).take (j+1)).flatMap (jD u n i)=((offs u.ths[i]).take j).flatMap (jD u n i)++jD u n i (offs u.ths[i])[j]:=by rw [Ng hjU,OH];simp
 have hacc2:(A++((offs u.ths[i]).take j).flatMap (jD u n i)).length<=4000:=by
  have h1:=kO (lV u n i) ((offs u.ths[i]).take j);rw [NW]at h1;rw [Nb];omega
 rw [ο]at hvg;refine⟨g,0,_,capg,ο.trans hvg,by omega,by omega,kk,ca,cb,cs3,cq,⟨J 0 _ rfl _ (by omega) (by omega),J 1 _ rfl _ (by omega) (by omega),J 2 _ rfl _ (by omega) (by omega),J 3 _ rfl _ (by omega) (by omega),J 4 _ rfl _ (by omega) (by omega),trivial⟩,λb41 w42 hb41 hw42=>?_⟩;obtain⟨box1,Bu⟩:=Ml (cs:=mA kk ca cb cs3 cq) rfl rfl hb41 hw42;refine⟨⟨rfl,Fi,box1⟩,λυ hw43=>?_⟩;obtain⟨x43,l43,c43⟩:=Bu υ hw43;have φ:=ς.Kc x43;have x643:Ex w6 υ:=Ex.trans ((ε.gr.ex x22).trans ς.gr |>.nil rfl) x43;have β:∀{w':World},Ex υ w'->∀{n:Nat} {v:Value},n< 5->(mA kk ca cb cs3 cq)[n]?=some v->w'.cell? ⟨b41,n,none⟩=some v:=λ{w'} x {n v} hn hv=>by rw [x.cell (a:=⟨b41,n,none⟩) l43,c43 n hn];exact hv
 generalize hA2:A++((offs u.ths[i]).take j).flatMap (jD u n i)=A2 at*;have H:∀{v:Value} {w':World},tM w6.heap.size w22 γ want v w' (A2++jD u n i (offs u.ths[i])[j])->cW ((j:Int)+1)/\(∃j':Nat,(j:Int)+1=j'/\j'<=(offs t.ths[i]).length/\tM w6.heap.size w22 γ want v w' (A++((offs u.ths[i]).take j').flatMap (jD u n i)))/\(((offs t.ths[i]).length:Int) - ((j:Int)+1)).toNat< (((offs t.ths[i]).length:Int) - j).toNat:=λ{v w'} h=>by
  refine⟨by omega,⟨j+1,by omega,by omega,?_⟩,hm2⟩;rw [etk,<-NX,hA2];exact h
 have hin:∀e∈jD u n i (offs u.ths[i])[j],e∈EE (jD u n) u:=λe he=>Lq ζ hmU he
 generalize (offs t.ths[i])[j]=oP at*;generalize (offs u.ths[i])[j]=oU at*;cases oP<;>cases oU<;>try exact hae.elim
 ·obtain⟨_,_,_,G⟩:=G;unfold mA at G;simp only [OC,PU,Qv,PE]at G;have e1:kk=126:=NK.1 (by omega);subst e1;exact⟨λ _=>False,⟨126,β (Ex.refl _) (by omega) rfl,(λh=>by cases h),λ _=>H (by rw [show jD u n i (.tau _)=[]from rfl,NM];exact φ)⟩,λ _ h=>h.elim⟩
 ·obtain⟨_,G⟩:=G;unfold mA at G;simp only [OC,PU,Qv,PE]at G;have e1:kk=33:=NK.1 (by omega);subst e1;exact⟨λ _=>False,⟨33,β (Ex.refl _) (by omega) rfl,(λh=>by cases h),λ _=>H (by rw [show jD u n i (.snd _ _ _)=[]from rfl,NM];exact φ)⟩,λ _ h=>h.elim⟩
 rename_i ca' cb' p s c x p' s';have G:=G.symm.symm;unfold B1 mA at G;simp only [OC,PU,Value.string.injEq,Value.bool.injEq,Qv,PE]at G;have e1:kk=63:=NK.1 (by omega);have e2:cs3=p.text:=CT G.2.2.2.1;have e3:ca=ca':=NK.1 (by omega);have e4:cb=cb':=NK.1 (by omega);have e5:cq=s:=G.2.2.2.2;subst e1 e2 e3 e4 e5;obtain⟨sU,_⟩:=gB (su.smp _ hmiu) _ hmU;have ec:ca=asg u.frL t.frL ρ0 c:=NK.1 hae.1;obtain⟨oc1,oc2⟩:=su.own ⟨_,hmiu,sU.fr c (.inl rfl)⟩;rw [<-ec]at oc1 oc2;have eE:jD u n i (.rcv c x p' s')=if c∈u.frL then []else [([ρ0 c,63,n],if lt n=true then je (BK u i p' x s' (e0 n))else none)]:=rfl
 obtain⟨res,κ⟩:∃res:Option Tx,res=if lt n=true then je (BK u i p' x s' (e0 n))else none:=⟨_,rfl⟩
 rw [<-κ]at eE;have μ:wt want ([ca,63,n],res)=(decide (ov=0)||decide (ca=ov)):=by
  unfold wt;rw [hwant];by_cases h0:ov=0
  ·simp [h0]
  ·simp [h0]
 have skp:wt want ([ca,63,n],res)=false->c∉u.frL->tM w6.heap.size w22 γ want out2 υ (A2++jD u n i (.rcv c x p' s')):=λh h'=>by
  rw [eE,Nt h',<-(oc2 h').1];exact φ.skip h
 refine⟨λw'=>c∉u.frL/\wt want ([ca,63,n],res)=true/\w'=υ,⟨63,β (Ex.refl _) (by omega) rfl,λ _=>⟨ca,β (Ex.refl _) (by omega) rfl,ib hfl ⟨λhout=>?_,λhin'=>H ?_⟩⟩,(λh=>by cases h)⟩,λδ hJ=>?_⟩
 ·have ν:c∉u.frL:=λh=>by simp [oc1.2 h]at hout
  refine⟨λhz=>⟨ca,β (Ex.refl _) (by omega) rfl,λhne=>H (skp ?_ ν),λheq=>⟨ν,?_,rfl⟩⟩,λhz=>⟨ν,?_,rfl⟩⟩
  ·rw [μ];simp at hz hne;simp [hz,hne]
  ·rw [μ];simp at hz heq;simp [heq]
  ·rw [μ];simp at hz;simp [hz]
 ·rw [eE,NO (oc1.1 (by simpa using hin')),NM];exact φ
 obtain⟨ν,μ,rfl⟩:=hJ;obtain⟨ec2,hc26⟩:=oc2 ν;rw [Nt ν,<-ec2]at eE;rw [eE]at H hin;have hbad:res=none->∀w',Ex δ w'->R (.slice none 0 0) false w':=λhr w' x'=>hR1 ⟨_,hin _ (ND.2 rfl),μ,hr⟩ w' (Ex.trans (Ex.trans x6 x643) x')
 refine⟨λχ=>?_,λχ=>?_⟩
 ·refine hbad ?_ _ (Ex.refl _);have χ:122< n:=by simpa using χ
  have Z:lt n=false:=by
   unfold lt;have:¬n<=122:=UInt8.not_le.2 χ;simp [this]
  rw [κ,Z];rfl
 have Z:lt n=true:=ho.resolve_right (by simpa using χ);rw [NO Z]at κ;obtain⟨f1,f2⟩:=Lr Z;have sP:=(gB (su.smpP _ η) _ hmP).1;have h1:=sP.size;have h2:=(hts _ η).1;simp only [Off.tm,T.size]at h1;obtain⟨p1,p2,p3⟩:=KX (sP.al _ (su.al _ η)).2.2 (by omega);have hpt:=lS p;have hwl:=EP t.ths i i;refine⟨λr w'=>∃q2,fG 0 p cb 90 q2/\Ex δ w'/\Own δ.heap.size w' r ((wo t.ths i i++[q2]).map T.text),⟨λw'=>Ex δ w',λw53 hw53=>?_⟩,λr69 w70 hJ=>?_⟩
 ·have θ:Ex δ w53:=hw53▸Ex.drew δ;refine⟨θ,p.text,λw' x=>β x (by omega) rfl,cb,λw' x=>β x (by omega) rfl,?_⟩;refine y4 (hv5.ex (Ex.trans x643 θ)) (by rw [Nq];omega) λv56 w57 x57 o57=>⟨Ex.trans θ x57,gh _ (Nc _) p1 p2 p3 (by decide) (Jn 0) λq2 w59 x59 ψ=>⟨Ex.trans (Ex.trans θ x57) x59,λb60 w61 hb60 hw61=>?_⟩⟩
  have x61:Ex w59 w61:=hw61▸Ex.alloc w59 _;have ι:=Ex.trans x57 (Ex.trans x59 x61);refine⟨Ex.trans θ ι,Ju (o57.ex (Ex.trans x59 x61)) ι.size (Strs.one hb60 hw61) ?_ λv67 w68 b68 o68=>?_⟩
  ·have :=EP (t.ths.map T.text) i i;rw [Nq]at this;simp only [M0,Np];omega
  ·have x68:=Ex.trans θ (Ex.below ι b68);refine⟨x68,q2,ψ,x68,?_⟩;rw [N0,<-J9];exact o68.mono θ.size
 obtain⟨q2,ψ,x70,o69⟩:=hJ;refine⟨λr w'=>Ex δ w'/\Own δ.heap.size w' r ((jH t.ths i q2 cq t.ths[i]).map T.text),⟨cq,β x70 (by omega) rfl,λhs b73 w74 hb73 hw74=>?_,λhs=>⟨x70,?_⟩⟩,λr82 w83 hJ=>?_⟩
 ·have x74:Ex w70 w74:=hw74▸Ex.alloc w70 _;refine Ju (o69.ex x74) (N8 x70.size x74.size) (Strs.one hb73 hw74) (by simp;omega) λv80 w81 b81 o81=>⟨Ex.below (Ex.trans x70 x74) b81,?_⟩
  unfold jH;rw [hs,NO rfl,N0];exact o81
 ·unfold jH;rw [hs];simpa using o69
 obtain⟨x83,o82⟩:=hJ;obtain⟨oz,_⟩:=G8 ok su ξ ζ hmP hmU hae ψ rfl;have hil:(jH t.ths i q2 cq t.ths[i]).length<=62:=by
  unfold jH;have:(if cq then [t.ths[i]]else []).length<=1:=by cases cq<;>simp
  simp only [Nb,Ox];omega
 refine Gh (a:=res) o82.strs (Mm (λr hr=>?_) (by omega)) oz.ok (jk Z) (Gp Z 0) (λW2 hW=>?_) λs q w86 x86 e1 e2=>?_
 ·rcases oV η hr with rfl | h
  ·rw [gm ψ.shp];omega
  ·exact(hts _ h).2
 ·rw [κ];exact J7 ok su ξ ζ hmP hmU hae ψ f2 (by rw [f1];exact hW)
 have ω:=Ex.trans x83 x86;cases res with
 | none=>
  subst e2;exact⟨λ _=>hbad rfl _ ω,λh=>(by cases h)⟩
 | some s'=>
  subst e1 e2;refine⟨λh=>(by cases h),λ _=>⟨ca,β ω (by omega) rfl,λb88 w89 hb88 hw89=>Mi [ca,63,n] hb88 hw89 (Ex.refl _) ?_⟩⟩;exact(φ.Kc (Ex.trans ω (hw89▸Ex.alloc w86 _))).push (by omega) μ λv102 w103 h=>H h
def used (u:U):Tx->Prop
 | [_,_,_,b]=>u.Fr (e0 b)
 | _=>False
def Bu {w w1:World}{g e:Nat}{cs:List Value}{c0:Array Value}(β:cs.length=2)(h0:c0.size=2)(hg:g=w.heap.size)(G:w1=w.alloc (.cells c0 e)):
  (∀j,j< 2->(∃u,w1.cell? ⟨g,0+j,none⟩=some u)/\w1.frozen? ⟨g,0+j,none⟩=false)/\∀H,H=World.setCells w1 g 0 cs->Ex w H/\g< H.heap.size/\∀j,j< 2->H.cell? ⟨g,j,none⟩=cs[j]?:=by
 have hc:∀j,j< 2->∃u,w1.cell? ⟨g,0+j,none⟩=some u:=λj J=>by
  rw [G,hg];have:∃u,c0[0+j]?=some u:=by
   rw [NJ];exact⟨_,Pz (by omega)⟩
  obtain⟨u,hu⟩:=this;exact⟨u,aa hu⟩
 refine⟨λj J=>⟨hc j J,by rw [G,hg];exact aW _ _ _ _⟩,λH Z=>?_⟩;obtain⟨k,_,_,sc⟩:=bk (b:=g) cs w1 0;rw [<-Z]at k sc;have x1:Ex w w1:=G▸Ex.alloc _ _;have s1:w1.heap.size=w.heap.size+1:=by rw [G,size_alloc]
 have s2:=k.size;refine⟨Ex.below x1 (Kp.below k x1.size λb hb e=>by omega),by omega,λj J=>?_⟩;have :=sc j (λi hi=>hc i (by omega)) (by omega)
 rwa [NJ]at this
def HW {s:Tx}{w:World}{R:Bool->Qx}(h:R (match s with | [c]=>lt c | _=>false) w):Qy 63 #[.string (ay s)] w (ax [.b] R):=by
 refine uk s w R ?_;dsimp only [go_sem];dsimp only [go_sem,UInt8.reduceOfNat,UInt32.reduceOfNat,Nat.reduceAdd]
 match s,h with
 | [],h=>exact⟨λe=>by simp at e,λ _=>h⟩
 | [c],h=>
  refine⟨λ _=>⟨by simp,λe=>⟨by simp,?_⟩,λe=>?_⟩,λe=>by simp at e⟩
  ·have e:decide (97<=c)=true:=e;have G:lt c=decide (c<=122):=by unfold lt;rw [e,OZ]
   simp only [G]at h;exact h
  ·have e:decide (97<=c)=false:=e;have G:lt c=false:=by unfold lt;rw [e,Qo]
   simp only [G]at h;exact h
 | c::d::l,h=>
  have:¬((c::d::l).length:Int)=1:=by simp only [M0];omega
  exact⟨λe=>absurd (NB e) this,λ _=>h⟩
abbrev Pq:=Tx×Tx
def oI (a b:Pq):Prop:=a.1< b.1\/(a.1=b.1/\a.2< b.2)
def ra (a:Pq):¬oI a a:=λh=>h.elim (Qs _) λh=>Qs _ h.2
def lQ {a b c:Pq}(h:oI a b)(k:oI b c):oI a c:=by
 rcases h with h | ⟨h1,H⟩<;>rcases k with k | ⟨G,J⟩
 ·exact .inl (List.lt_trans h k)
 ·exact .inl (G▸h)
 ·exact .inl (h1▸k)
 ·exact .inr ⟨h1.trans G,List.lt_trans H J⟩
def F6 (a b:Tx):a< b\/a=b\/b< a:=by
 by_cases h:a<=b
 ·by_cases k:b<=a
  ·exact .inr (.inl (List.le_antisymm h k))
  ·exact .inl (List.not_le.1 k)
 ·exact .inr (.inr (List.not_le.1 h))
def xH (a b:Pq):oI a b\/a=b\/oI b a:=by
 obtain⟨G,a2⟩:=a;obtain⟨b1,b2⟩:=b;rcases F6 G b1 with h | rfl | h
 ·exact .inl (.inl h)
 ·rcases F6 a2 b2 with h | rfl | h
  ·exact .inl (.inr ⟨rfl,h⟩)
  ·exact .inr (.inl rfl)
  ·exact .inr (.inr (.inr ⟨rfl,h⟩))
 ·exact .inr (.inr (.inl h))
def u7 (l:List Pq):Prop:=l.Pairwise oI
def u7.uniq:∀{a b:List Pq},u7 a->u7 b->(∀x,x∈a↔x∈b)->a=b
 | [],[],_,_,_=>rfl
 | [],y::b,_,_,h=>absurd ((h y).2 (NP ..)) (by simp)
 | x::a,[],_,_,h=>absurd ((h x).1 (NP ..)) (by simp)
 | x::a,y::b,h1,h2,h=>by
  obtain⟨J,p2⟩:=OU.1 h1;obtain⟨Z,q2⟩:=OU.1 h2;have e:x=y:=by
   rcases Nw.1 ((h x).1 (NP ..))with e | e
   ·exact e
   ·rcases Nw.1 ((h y).2 (NP ..))with H | H
    ·exact H.symm
    ·exact absurd (lQ (Z x e) (J y H)) (ra _)
  subst e;refine N9 _ (u7.uniq p2 q2 λz=>⟨λG=>?_,λG=>?_⟩)
  ·rcases Nw.1 ((h z).1 (Nh _ G))with e | e
   ·exact absurd (e▸J z G) (ra _)
   ·exact e
  ·rcases Nw.1 ((h z).2 (Nh _ G))with e | e
   ·exact absurd (e▸Z z G) (ra _)
   ·exact e
noncomputable def insP:List Pq->Pq->List Pq
 | [],s=>[s]
 | x::l,s=>if oI x s then x::insP l s else if x=s then x::l else s::x::l
noncomputable def gJ (l:List Pq):List Pq:=l.foldl insP []
def yC:∀{l:List Pq} {s x:Pq},x∈insP l s↔x=s\/x∈l
 | [],s,x=>by simp [insP]
 | y::l,s,x=>by
  unfold insP;split
  ·rw [Nw,yC,Nw];constructor
   ·rintro(h | h | h)
    ·exact .inr (.inl h)
    ·exact .inl h
    ·exact .inr (.inr h)
   ·rintro(h | h | h)
    ·exact .inr (.inl h)
    ·exact .inl h
    ·exact .inr (.inr h)
  ·split
   ·rename_i h;subst h;simp
   ·simp
def C9:∀{l:List Pq} {s:Pq},u7 l->u7 (insP l s)
 | [],s,_=>List.pairwise_singleton _ _
 | y::l,s,h=>by
  obtain⟨h1,h2⟩:=OU.1 h;unfold insP;split
  ·rename_i H;refine OU.2 ⟨λz G=>?_,C9 h2⟩;rcases yC.1 G with rfl | G
   ·exact H
   ·exact h1 z G
  ·rename_i H;split
   ·exact h
   ·rename_i J;have Z:oI s y:=(xH y s).resolve_left H |>.resolve_left J;refine OU.2 ⟨λz G=>?_,h⟩;rcases Nw.1 G with rfl | G
    ·exact Z
    ·exact lQ Z (h1 z G)
def vW (l:List Pq)(s:Pq):gJ (l++[s])=insP (gJ l) s:=by unfold gJ;rw [List.foldl_append];rfl
def sD:∀n (l:List Pq),l.length=n->u7 (gJ l)/\∀x,x∈gJ l↔x∈l
 | 0,l,h=>by
  obtain rfl:l=[]:=NF h;exact⟨List.Pairwise.nil,λx=>P2⟩
 | n+1,l,h=>by
  rcases List.eq_nil_or_concat l with rfl | ⟨m,s,rfl⟩
  ·simp at h
  ·rw [List.concat_eq_append]at h|-;obtain⟨h1,G⟩:=sD n m (by simpa using h);rw [vW];refine⟨C9 h1,λx=>?_⟩;rw [yC,G,Nk,ND];exact Or.comm
def AH (l:List Pq):u7 (gJ l):=(sD _ l rfl).1
def FZ {l:List Pq}{x:Pq}:x∈gJ l↔x∈l:=(sD _ l rfl).2 x
def I5 {l m:List Pq}(h:u7 m)(k:∀x,x∈m↔x∈l):gJ l=m:=(AH l).uniq h λx=>FZ.trans (k x).symm
def C0:∀(l:List Pq) (s:Pq),(insP l s).length<=l.length+1
 | [],s=>by simp [insP]
 | y::l,s=>by
  unfold insP;split
  ·have :=C0 l s;simp only [M0];omega
  ·split
   ·simp
   ·simp
def tP (l:List Pq):(gJ l).length<=l.length:=by
 have:∀(l a:List Pq),(l.foldl insP a).length<=a.length+l.length:=by
  intro l
  induction l with
  | nil=>intro a;simp
  | cons x l G=>
   intro a;have h1:=G (insP a x);have H:=C0 a x;simp only [List.foldl_cons,M0];omega
 have h:=this l [];simpa [gJ]using h
def GB:∀(l:List Pq) (s:Pq) (k:Nat),k<=l.length->(∀j (h:j< l.length),j< k->oI l[j] s)->(∀h:k< l.length,¬oI l[k] s)->insP l s=if l[k]?=some s then l else l.take k++s::l.drop k
 | [],s,k,hk,_,_=>by
  have:k=0:=by simpa using hk
  subst this;simp [insP]
 | y::l,s,0,_,_,h=>by
  have h:=h (by simp);have h:¬oI y s:=h;unfold insP;rw [Nt h];by_cases e:y=s
  ·simp [e]
  ·simp [e]
 | y::l,s,k+1,hk,h1,G=>by
  have H:oI y s:=h1 0 (by simp) (by omega);have J:=GB l s k (by simpa using hk) (λj Z β=>h1 (j+1) (by simpa using Z) (by omega)) λh=>G (by simpa using h)
  unfold insP;rw [NO H,J];by_cases e:l[k]?=some s
  ·simp [e]
  ·simp [e]
def LV (acc:List Pq)(s:Pq):List Pq:=if acc.getLast?=some s then acc else acc++[s]
def dq (l:List Pq):List Pq:=l.foldl LV []
def Cz (l:List Pq)(s:Pq):dq (l++[s])=LV (dq l) s:=by unfold dq;rw [List.foldl_append];rfl
def B4:∀n (l:List Pq),l.length=n->l.Pairwise (λa b=>¬oI b a)->u7 (dq l)/\(∀x,x∈dq l↔x∈l)/\(dq l).getLast?=l.getLast?
 | 0,l,h,_=>by
  obtain rfl:l=[]:=NF h;exact⟨List.Pairwise.nil,λx=>P2,rfl⟩
 | n+1,l,h,hp=>by
  rcases List.eq_nil_or_concat l with rfl | ⟨m,s,rfl⟩
  ·simp at h
  ·rw [List.concat_eq_append]at h hp|-;obtain⟨p1,_,p3⟩:=Pj.1 hp;obtain⟨h1,H,h3⟩:=B4 n m (by simpa using h) p1;rw [Cz];unfold LV;split
   ·rename_i e;have hs:s∈m:=List.mem_of_getLast? (h3▸e);refine⟨h1,λx=>?_,by rw [e];simp⟩;rw [H,Nk,ND];exact⟨.inl,λJ=>J.elim id λJ=>J▸hs⟩
   ·rename_i e;refine⟨Pj.2 ⟨h1,List.pairwise_singleton _ _,λa ha b hb=>?_⟩,λx=>by rw [Nk,Nk,H],by simp⟩;rw [ND]at hb;subst hb;have Z:=(H a).1 ha;have hn:=p3 a Z b (ND.2 rfl);refine((xH a b).resolve_right λhh=>hh.elim (λe'=>?_) hn);subst e';cases G:(dq m).getLast? with
    | none=>rw [List.getLast?_eq_none_iff]at G;rw [G]at ha;cases ha
    | some z=>
     have hz:z∈m:=List.mem_of_getLast? (h3▸G);rw [G]at e;have β:=p3 z hz a (ND.2 rfl);obtain⟨c,hc⟩:=List.getLast?_eq_some_iff.1 G;rw [hc]at ha h1;rcases Nk.1 ha with hm | hm
     ·exact β ((Pj.1 h1).2.2 a hm z (ND.2 rfl))
     ·exact e (by rw [ND.1 hm])
def Lx {l m:List Pq}(h:l.Pairwise λa b=>¬oI b a)(k:∀x,x∈l↔x∈m):dq l=gJ m:=
 (I5 (B4 _ l rfl h).1 λx=>((B4 _ l rfl h).2.1 x).trans (k x)).symm
end
attribute [go_sem] Tryz.f120
def pN (G:Value)(w:World)(R:Value->Qx)(h:vc az (aZ [(3,[(3,.v),(10,.i)]),(6,[(6,.i)])] [(7,[]),(8,[(6,.i)]),(9,[]),(10,[(7,.v)])] [(6,false,.lt 0 (.lt 1 (.lt 2 (.lt 3 (.lt 4 (.lt 5 (.lt 6 (.lt 7 (.lt 8 (.lt 9 (.lt 10 (.lt 11 (.lt 12 (.lt 13 (.lt 14 (.lt 15 (.lt 16 (.lt 17 (.lt 18 (.lt 19 (.lt 20 (.lt 21 (.lt 22 (.lt 23 (.lt 24 (.lt 25 (.lt 26 (.lt 27 (.lt 28 (.lt 29 (.lt 30 (.lt 31 (.lt 32 (.lt 33 .done)))))))))))))))))))))))))))))))))),(8,false,.lt 0 (.lt 1 (.lt 2 (.lt 3 (.lt 4 (.lt 5 (.lt 6 (.lt 7 (.lt 8 (.lt 9 (.lt 10 (.lt 11 .done)))))))))))),(9,false,.lt 1 (.lt 2 (.lt 3 (.lt 5 (.br .h 0 (.br .h 4 (.one .h 6 (.one .h 7 (.lt 8 .done))) (.one .h 6 (.one .h 4 (.one .h 7 (.lt 8 .done))))) (.one .h 6 (.one .h 0 (.one .h 4 (.one .h 7 (.lt 8 .done))))))))))]) (ab Tryz.f120) (ai 0 [.v G]) w (fin az [.tmp 2 .v] R)):
  Qy 120 #[G] w (ax [.v] R):=
 a7 Tryz.func120 (by kernel_rfl) h
attribute [go_sem] Tryz.f119
def qT (G:Value)(w:World)(R:Value->Qx)(h:vc az (aZ [(3,[(3,.v),(8,.i)])] [] []) (ab Tryz.f119) (ai 0 [.v G]) w (fin az [.tmp 2 .v] R)):
  Qy 119 #[G] w (ax [.v] R):=
 a7 Tryz.func119 (by kernel_rfl) h
attribute [go_sem] Tryz.f65
def ka (G:Value)(H:Bool)(w:World)(R:Value->Bool->Qx)(h:vc az (aZ [] [] []) (ab Tryz.f65) (ai 0 [.v G,.b H]) w (fin az [.tmp 4 .v,.tmp 5 .b] R)):
  Qy 65 #[G,(.bool H)] w (ax [.v,.b] R):=
 a7 Tryz.func65 (by kernel_rfl) h
attribute [go_sem] Tryz.f33
attribute [go_sem] Tryz.f26
def ns (G:aJ)(H:aJ)(w:World)(R:Value->Bool->Qx)(h:vc az (aZ [] [] []) (ab Tryz.f26) (ai 0 [.s G,.s H]) w (fin az [.tmp 4 .v,.tmp 5 .b] R)):
  Qy 26 #[(.string (ay G)),(.string (ay H))] w (ax [.v,.b] R):=
 a7 Tryz.func26 (by kernel_rfl) h
end Go.Proofs.YthekamjhgabkjaaGreat
