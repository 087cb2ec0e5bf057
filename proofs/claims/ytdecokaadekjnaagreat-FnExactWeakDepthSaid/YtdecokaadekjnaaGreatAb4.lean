/- Part 4 of a proof of what the last text states; no condition. -/
import Derived.Test.YtdecokaadekjnaaGreatAb3
set_option maxRecDepth 100000
set_option maxHeartbeats 4000000
namespace Go.Proofs.YtdecokaadekjnaaGreat
open Go Go.RowKit
def swp (π:List Nat)(a i:Nat)(ha:a< π.length)(hi:i< π.length):List Nat:=(π.set a π[i]).set i π[a]
theorem mz (π:List Nat)(a i:Nat)(ha:a< π.length)(hi:i< π.length)(H:a<=i):
  (swp π a i ha hi).Perm π/\(swp π a i ha hi).length=π.length/\(swp π a i ha hi).take (a+1)=π.take a++[π[i]]:=by
 have G:(swp π a i ha hi).Perm π:=by
  have :=List.set_set_perm hi ha;unfold swp;by_cases h:a=i
  ·subst h;simp
  ·rw [List.set_comm _ _ h];exact this
 have J:(swp π a i ha hi).length=π.length:=G.length_eq;refine⟨G,J,?_⟩;rw [OK (by omega)]
 congr 1
 ·unfold swp;rw [Rr (by omega),Rr (by omega)]
 ·unfold swp;by_cases h:a=i
  ·subst h;simp
  ·simp [List.getElem_set,R2 h]
theorem Ks (π:List Nat)(a:Nat)(ha:a< π.length)(σ:List Nat):
  (∃i,∃hi:i< π.length,a<=i/\∃τ:List Nat,τ.Perm ((swp π a i ha hi).drop (a+1))/\σ=(swp π a i ha hi).take (a+1)++τ)↔∃τ:List Nat,τ.Perm (π.drop a)/\σ=π.take a++τ:=by
 have key:∀i (hi:i< π.length),a<=i->(π[i]::(swp π a i ha hi).drop (a+1)).Perm (π.drop a):=λi hi G=>by
  obtain⟨H,h2,J⟩:=mz π a i ha hi G;have h4:(π.take a++(π[i]::(swp π a i ha hi).drop (a+1))).Perm (π.take a++π.drop a):=by
   rw [P4,List.append_cons,<-J,P4];exact H
  exact(List.perm_append_left_iff _).1 h4
 constructor
 ·rintro⟨i,hi,G,τ,H,rfl⟩
  obtain⟨h2,J,h4⟩:=mz π a i ha hi G;refine⟨π[i]::τ,(H.cons _).trans (key i hi G),?_⟩;rw [h4,Pv];rfl
 ·rintro⟨τ,H,rfl⟩
  cases τ with
  | nil=>have :=H.length_eq;rw [Qq]at this;simp at this;omega
  | cons y τ=>
   have V:=H.subset (Py ..);obtain⟨j,hj,e⟩:=PD.1 V;rw [Qq]at hj;rw [List.getElem_drop]at e;have hi:a+j< π.length:=by omega
   obtain⟨h2,J,h4⟩:=mz π a (a+j) ha hi (by omega);refine⟨a+j,hi,by omega,τ,?_,?_⟩
   ·have :=key (a+j) hi (by omega);rw [e]at this;exact(Sd y).1 (H.trans this.symm)
   ·rw [h4,e,Pv];rfl
theorem LW (π:List Nat)(a i:Nat)(ha:a< π.length)(hi:i< π.length)(G:i< (swp π a i ha hi).length)(h2:a< (swp π a i ha hi).length):(swp π a i ha hi)[i]=π[a]/\(swp π a i ha hi)[a]=π[i]:=by
 simp only [swp,List.getElem_set];refine⟨Pj trivial,?_⟩;by_cases h:i=a
 ·subst h;simp
 ·simp [h]
def OA (B:Nat)(v:Value)(o:List Nat)(Inv:List (List Nat)->Sl)(f:Nat)(ca:List Value):Prop:=
 ∀(acc:List (List Nat)) (π:List Nat) (w:World),Inv acc w->aF 3 B w v (π.map iv)->π.Perm o->∀{R:Sl},(∀w',Inv (acc++[π]) w'->aF 3 B w' v (π.map iv)->R w')->Sm f (List.toArray ca) w (an [] R)
theorem AJ {B:Nat}{v:Value}{o:List Nat}{Inv:List (List Nat)->Sl}{f:Nat}{ca:List Value}(hf:hasR gj f=true)(μ:OA B v o Inv f ca)(hinv:∀acc w w',Inv acc w->Kp w w' (λg=>v.ownBlock=some g)->Inv acc w')(ho:o.length<=1099511627776):
  ∀(d:Nat) (a:Nat) (π:List Nat) (acc:List (List Nat)) (w:World),a+d=π.length->Inv acc w->aF 3 B w v (π.map iv)->π.Perm o->∀{R:Sl},
   (∀w' ε,Inv (acc++ε) w'->aF 3 B w' v (π.map iv)->(∀σ,σ∈ε↔∃τ:List Nat,τ.Perm (π.drop a)/\σ=π.take a++τ)->R w')->
   Sm 250 #[v,iv a,.func (.func f) #[] (List.toArray ca)] w (an [] R)
 | 0,a,π,acc,w,hd,hI,hw,hp,R,hR=>by
  refine lM v a _ w R ?_;dsimp only [go_sem];dsimp only [go_sem,UInt8.reduceOfNat,UInt32.reduceOfNat,Nat.reduceAdd];obtain⟨ad,cap,hv⟩:=(hw.E4 (D:=λ _=>True) λ _ _=>trivial).slice;rw [O8]at hv;refine⟨ad,_,cap,hv,dc (by omega) ⟨f,ca,rfl,hf,?_⟩⟩;rw [PG];refine μ acc π w hI hw hp λw' hI' hw'=>hR w' [π] hI' hw' λσ=>?_
  rw [show a=π.length by omega,QQ,Pa];simp only [OO,List.perm_nil];constructor
  ·rintro rfl;exact⟨[],rfl,by simp⟩
  ·rintro⟨τ,rfl,rfl⟩;simp
 | d+1,a,π,acc,w,hd,hI,hw,hp,R,hR=>by
  refine lM v a _ w R ?_;dsimp only [go_sem];dsimp only [go_sem,UInt8.reduceOfNat,UInt32.reduceOfNat,Nat.reduceAdd];have ha:a< π.length:=by omega
  have hpl:=hp.length_eq;obtain⟨g,cap,hv⟩:∃g cap,v= .slice (some ⟨g,0,none⟩) π.length cap:=by
   rcases hw.2 with⟨_,h0⟩ | ⟨g,cap,cur,hv,_⟩
   ·rw [O8]at h0;omega
   ·rw [O8]at hv;exact⟨g,cap,hv⟩
  subst hv;have kg:∀{w1 w2:World} {j:Nat} {x:Value},w2=w1.setCell ⟨g,j,none⟩ x->Kp w1 w2 (λb=>(Value.slice (some ⟨g,0,none⟩) π.length cap).ownBlock=some b):=λh=>h▸Kp.mono (λb hb=>by rw [hb];rfl) (Kr.set _ _ _)
  refine⟨_,_,cap,rfl,aW (by omega) ⟨λi w'=>∃(j:Nat) (G:List (List Nat)),i=j/\a<=j/\j<=π.length/\Inv (acc++G) w'/\aF 3 B w' (.slice (some ⟨g,0,none⟩) π.length cap) (π.map iv)/\∀σ,σ∈G↔∃i,∃hi:i< π.length,(a<=i/\i< j)/\∃τ:List Nat,τ.Perm ((swp π a i ha hi).drop (a+1))/\σ=(swp π a i ha hi).take (a+1)++τ,
   λi _=>(π.length - i).toNat,⟨a,[],rfl,OQ _,by omega,by rw [Po];exact hI,hw,λσ=>⟨λh=>(by cases h),fun⟨i,_,h,_⟩=>by omega⟩⟩,λi η hJ=>?_⟩⟩
  obtain⟨j,G,rfl,ν,hjl,ξ,β,ζ⟩:=hJ;refine⟨_,_,cap,rfl,λhlt=>?_,λhge=>?_⟩;rotate_left
  ·have:j=π.length:=by simp only [OV]at hge;omega
   refine hR η G ξ β λσ=>?_
   rw [ζ,<-Ks π a ha];constructor
   ·rintro⟨i,hi,⟨h1,_⟩,h2⟩;exact⟨i,hi,h1,h2⟩
   ·rintro⟨i,hi,h1,h2⟩;exact⟨i,hi,⟨h1,by omega⟩,h2⟩
  have hj:=oL hlt;obtain⟨cj,fj,hgb,_⟩:=β.at hj;obtain⟨ca',fa,_,_⟩:=β.at ha;obtain⟨s1,s2,s3⟩:=mz π a j ha hj ν;refine⟨λw'=>aF 3 B w' (.slice (some ⟨g,0,none⟩) π.length cap) (π.map iv),λw18 ο=>?_⟩;have ς:Ex η w18:=ο▸Ex.drew η;have γ:=β.kp (Kp.af ς λ _=>False) λ _ _ h=>h
  have I18:=hinv _ _ _ ξ (Kp.af ς _);refine⟨γ,g,0,_,cap,rfl,by omega,by omega,π[j],λw' ho=>by rw [OU,Pn];exact(ho.at hj).1,g,0,_,cap,rfl,by omega,by omega,π[a],λw' ho=>by rw [OU,Pn];exact(ho.at ha).1,g,0,_,cap,rfl,by omega,by omega,⟨⟨_,by rw [OU,Pn];exact(γ.at ha).1⟩,by rw [OU,Pn];exact(γ.at ha).2.1⟩,λw34 V=>?_⟩;rw [OU,Pn,Ph]at V;have θ:=γ.set V (by simpa using ha);rw [<-List.map_set]at θ;have υ:j< (π.set a π[j]).length:=by rw [Qp];exact hj
  obtain⟨c34,f34,_,_⟩:=θ.at υ;refine⟨g,0,_,cap,rfl,by omega,by omega,⟨⟨_,by rw [OU,Pn];exact c34⟩,by rw [OU,Pn];exact f34⟩,λφ W=>⟨by omega,?_⟩⟩;rw [OU,Pn,Ph]at W;have χ:=θ.set W (by simpa using hj);rw [<-List.map_set]at χ;have ψ:aF 3 B φ (.slice (some ⟨g,0,none⟩) π.length cap) ((swp π a j ha hj).map iv):=χ;have I40:=hinv _ _ _ (hinv _ _ _ I18 (kg V)) (kg W);refine AJ hf μ hinv ho d (a+1) (swp π a j ha hj) (acc++G) φ (by omega) I40 ψ (s1.trans hp) λω acc2 I41 o41 hm2=>?_
  have J:j< (swp π a j ha hj).length:=by omega
  have H:a< (swp π a j ha hj).length:=by omega
  obtain⟨ej,ea⟩:=LW π a j ha hj J H;refine⟨λw'=>aF 3 B w' (.slice (some ⟨g,0,none⟩) π.length cap) ((swp π a j ha hj).map iv),λw43 hw43=>?_⟩;have x43:Ex ω w43:=hw43▸Ex.drew ω;have δ:=o41.kp (Kp.af x43 λ _=>False) λ _ _ h=>h
  have I43:=hinv _ _ _ I41 (Kp.af x43 _);refine⟨δ,g,0,_,cap,rfl,by omega,by omega,((swp π a j ha hj)[j]:Nat),λw' ho=>by rw [OU,Pn];exact(ho.at J).1,g,0,_,cap,rfl,by omega,by omega,((swp π a j ha hj)[a]:Nat),λw' ho=>by rw [OU,Pn];exact(ho.at H).1,g,0,_,cap,rfl,by omega,by omega,⟨⟨_,by rw [OU,Pn];exact(δ.at H).1⟩,by rw [OU,Pn];exact(δ.at H).2.1⟩,λw59 Z=>?_⟩;rw [OU,Pn,Ph]at Z;have ι:=δ.set Z (by rw [O8];exact H);rw [<-List.map_set]at ι;have hj59:j< ((swp π a j ha hj).set a (swp π a j ha hj)[j]).length:=by rw [Qp];exact J
  obtain⟨c59,f59,_,_⟩:=ι.at hj59;refine⟨g,0,_,cap,rfl,by omega,by omega,⟨⟨_,by rw [OU,Pn];exact c59⟩,by rw [OU,Pn];exact f59⟩,λw65 α=>⟨by omega,⟨j+1,G++acc2,by omega,by omega,by omega,?_,?_,λσ=>?_⟩,tN (by omega)⟩⟩
  ·rw [<-Pv];exact hinv _ _ _ (hinv _ _ _ I43 (kg Z)) (kg α)
  ·rw [OU,Pn,Ph]at α;have κ:=ι.set α (by rw [O8,Qp];exact J);rw [<-List.map_set]at κ;have e:((swp π a j ha hj).set a (swp π a j ha hj)[j]).set j (swp π a j ha hj)[a]=π:=by
    rw [ej,ea];unfold swp;apply Rv
    ·simp
    ·intro k h1 h2;simp only [List.getElem_set];split
     ·rename_i h;subst h;rfl
     ·split
      ·rename_i h;subst h;rfl
      ·rfl
   rw [e]at κ;exact κ
  ·rw [OS,ζ,hm2];constructor
   ·rintro(⟨i,hi,⟨h1,h2⟩,h3⟩ | ⟨τ,h1,h2⟩)
    ·exact⟨i,hi,⟨h1,by omega⟩,h3⟩
    ·exact⟨j,hj,⟨ν,by omega⟩,τ,h1,h2⟩
   ·rintro⟨i,hi,⟨h1,h2⟩,h3⟩
    by_cases h:i=j
    ·subst h;right;exact h3
    ·left;exact⟨i,hi,⟨h1,by omega⟩,h3⟩
structure zN (w:World)(b30 b3 b5 b16 b18 nn:Nat)(vo vl:Value)(x:UInt32)(best:Tx):Prop where
 l:∀b,(b=b30\/b=b3\/b=b5\/b=b16\/b=b18)->b< w.heap.size
 c30:w.cell? ⟨b30,0,none⟩=some vo
 c3:w.cell? ⟨b3,0,none⟩=some (ptr nn)
 c5:w.cell? ⟨b5,0,none⟩=some vl
 c16:w.cell? ⟨b16,0,none⟩=some (.string (ai best))
 c18:w.cell? ⟨b18,0,none⟩=some (.int .u32 x.toNat)
 f16:w.frozen? ⟨b16,0,none⟩=false
 ne:b16≠b30/\b16≠b3/\b16≠b5/\b16≠b18
section
variable {w w':World} {b30 b3 b5 b16 b18 nn:Nat} {vo vl:Value} {x:UInt32} {best best':Tx} {S:Nat->Prop}
theorem zN.kp (h:zN w b30 b3 b5 b16 b18 nn vo vl x best)(k:Kp w w' S)(G:∀b,(b=b30\/b=b3\/b=b5\/b=b16\/b=b18)->¬S b):zN w' b30 b3 b5 b16 b18 nn vo vl x best:=by
 have e:∀b,(b=b30\/b=b3\/b=b5\/b=b16\/b=b18)->w'.heap[b]?=w.heap[b]?:=λb hb=>k.block b (h.l b hb) (G b hb)
 exact⟨λb hb=>O' (h.l b hb) k.size,by rw [OG (w:=w) (e b30 (by simp))];exact h.c30,by rw [OG (w:=w) (e b3 (by simp))];exact h.c3,by rw [OG (w:=w) (e b5 (by simp))];exact h.c5,
  by rw [OG (w:=w) (e b16 (by simp))];exact h.c16,by rw [OG (w:=w) (e b18 (by simp))];exact h.c18,by rw [Pd (w:=w) (e b16 (by simp))];exact h.f16,h.ne⟩
theorem zN.ex (h:zN w b30 b3 b5 b16 b18 nn vo vl x best)(k:Ex w w'):zN w' b30 b3 b5 b16 b18 nn vo vl x best:=h.kp (Kp.af k λ _=>False) λ _ _ h=>h
theorem zN.GR (h:zN w b30 b3 b5 b16 b18 nn vo vl x best)(hw:w'=w.setCell ⟨b16,0,none⟩ (.string (ai best'))):zN w' b30 b3 b5 b16 b18 nn vo vl x best':=by
 subst hw;have k:=Kr.set (r:=b16) w 0 (.string (ai best'));have ne:∀b,b16≠b->(w.setCell ⟨b16,0,none⟩ (.string (ai best'))).cell? ⟨b,0,none⟩=w.cell? ⟨b,0,none⟩:=λb hb=>OL _ _ _ _ (λe=>by injection e with V W;omega)
 obtain⟨n1,G,H,J⟩:=h.ne;exact⟨λb hb=>O' (h.l b hb) k.size,by rw [ne _ n1];exact h.c30,by rw [ne _ G];exact h.c3,by rw [ne _ H];exact h.c5,OY _ _ _ h.c16,by rw [ne _ J];exact h.c18,by rw [O0];exact h.f16,h.ne⟩
end
def oA (l:Lv)(ls:List UInt8)(ρ:Rh)(tk:Tk)(π:List Nat):Tx:=wrap ls []++joinS 38 (a6 (thS l (asg π ls ρ) (addK ls tk)))
theorem Fk (c:UInt8)(l:List UInt8):wrap (c::l) []=[35]++[c]++[46]++wrap l []:=rfl
theorem Hb {n:Nat}(ht:KJ n){D:Nat->Prop}{w:World}{b30 b3 b5 b16 b18 nn r:Nat}{vo vl:Value}{x:UInt32}{best:Tx}{o π:List Nat}{l:Lv}{ρ:Rh}{tk:Tk}{bad:Bool}{B:Nat}(hs:zN w b30 b3 b5 b16 b18 nn vo vl x best)
  (hb:∀b,(b=b30\/b=b3\/b=b5\/b=b16\/b=b18)->¬(b=nn\/b=r)) (ho:aF 3 B w vo (π.map iv)) (hob:∀g,vo.ownBlock=some g->¬(g=nn\/g=r)) (hp:π.Perm o) (hN:Nm w nn r ρ tk bad) (hx:ke x tk)
  (hn:l.sz<=n) (hsh:l.sh true=true) (hsm:l.sm=true) (huq:ve o l) (h:gB D w vl o (ah D w l)) (hD:∀g,D g->¬(g=nn\/g=r)) (hne:l.isNil=false) (htot:o.length+l.tot<=4294967296) {R:Sl}
  (hR:∀w' ρ' best',Kp w w' (λg=>g=nn\/g=r\/g=b16)->zN w' b30 b3 b5 b16 b18 nn vo vl x best'->Nm w' nn r ρ' tk (bad||(gI o.length tk||thBad l (addK (lets o.length tk) tk)))->(∀z,z∉o->z∉l.bvs->ρ' z=ρ z)->
   best'=(if best=[]\/oA l (lets o.length tk) ρ tk π< best then oA l (lets o.length tk) ρ tk π else best)->R w'):
  Sm 251 #[ptr b30,ptr b3,ptr b5,ptr b16,ptr b18] w (an [] R):=by
 refine kQ _ _ _ _ _ w R ?_;dsimp only [go_sem];dsimp only [go_sem,UInt8.reduceOfNat,UInt32.reduceOfNat,Nat.reduceAdd];have ς:=hp.length_eq;obtain⟨ao,capo,hvo⟩:=(ho.E4 (D:=λ _=>True) λ _ _=>trivial).slice;rw [O8]at hvo;have hge:=huq.ge;refine⟨b30,0,rfl,vo,hs.c30,ao,_,capo,hvo,λhd y w'=>∃(j:Nat) (H:Rh) (G:Tk) (J:Bool),y=j/\j<=π.length/\Kn nn r w w'/\Nm w' nn r H G J/\hd.length=3* j/\asg (π.drop j) (lets (π.length - j) G) H=asg π (lets o.length tk) ρ/\addK (lets (π.length - j) G) G=addK (lets o.length tk) tk/\
   (J||gI (π.length - j) G)=(bad||gI o.length tk)/\hd++wrap (lets (π.length - j) G) []=wrap (lets o.length tk) []/\∀z,z∉o->H z=ρ z,λ _ y _=>(π.length - y).toNat,⟨0,ρ,tk,bad,rfl,Px _,Kn.ex (Ex.refl w),hN,rfl,by rw [Qz,Nat.sub_zero,ς],by rw [Nat.sub_zero,ς],by rw [Nat.sub_zero,ς],by rw [Nat.sub_zero,ς];rfl,λ _ _=>rfl⟩,λhd y υ hI=>?_⟩
 obtain⟨j,H,G,J,rfl,hj,κ,n16,hhd,e1,e2,e3,e4,e5⟩:=hI;have s16:zN υ b30 b3 b5 b16 b18 nn vo vl x best:=hs.kp κ hb;refine⟨λhlt=>?_,λhge2=>?_⟩
 ·have η:=oL hlt;obtain⟨g,cap,hvo2⟩:∃g cap,vo= .slice (some ⟨g,0,none⟩) π.length cap:=by
   rcases ho.2 with⟨_,h0⟩ | ⟨g,cap,cur,hv,_⟩
   ·rw [O8]at h0;omega
   ·rw [O8]at hv;exact⟨g,cap,hv⟩
  have o16:=ho.kp κ λg hg=>hob g hg
  have hx26:26<=π[j]:=hge _ (Pm _ (hp.subset (OP η)));have β:υ.cell? ⟨g,0+Int.toNat (j:Int)* 1,none⟩=some (iv π[j]):=by
   rw [hvo2]at o16;rw [OU,Pn];exact(o16.at η).1
  refine⟨g,0,_,cap,hvo2,by omega,by omega,π[j],β,b3,0,rfl,ptr nn,s16.c3,IJ n16 hx26 λy' w26 _ k26 n26=>⟨b3,0,rfl,ptr nn,(s16.kp k26 hb).c3,kC n26 ⟨by simp,by simp,?_,by omega,⟨j+1,_,_,_,by omega,by omega,Kn.trans κ k26,n26,?_,?_,?_,?_,?_,λz hz=>?_⟩,tN (by omega)⟩⟩⟩
  all_goals have ed:π.drop j=π[j]::π.drop (j+1):=PK η
  all_goals have el:π.length - j=(π.length - (j+1))+1:=by omega
  all_goals rw [el]at e1 e2 e3 e4
  ·simp;omega
  ·simp;omega
  ·rw [ed]at e1;exact e1
  ·exact e2
  ·rw [<-e3];simp only [gI,Ql]
  ·rw [<-e4,lets,Fk];simp [aI]
  ·rw [<-e5 z hz];refine O1 λe=>hz ?_
   rw [e];exact hp.subset (OP η)
 ·have η:=oE hge2 (by omega);subst η;rw [Si]at e1 e2 e3 e4;rw [QQ]at e1;simp only [lets,asg,addK,gI,wrap,Q8,Po]at e1 e2 e3 e4;intro b32 w33 hb32 hw33;have x33:Ex υ w33:=hw33▸Ex.alloc υ _;have s33:=s16.ex x33;have n33:=n16.ex x33;have k33:Kn nn r w w33:=Kn.trans κ (Kn.ex x33);obtain⟨bl,vo2,vt,ts,rfl,h2,h3,h4,h5,h6,h7,h8⟩:=h;obtain⟨at_,capt,hvt⟩:=h7.slice;have hlen:=h8.len;have hel:=Lv.cN l;have hlt:=ck l;have hbl:=hD bl h2;have sz33:=k33.size;have hlb:∀b,(b=b30\/b=b3\/b=b5\/b=b16\/b=b18)->b< w.heap.size:=hs.l;refine⟨b5,0,rfl,ptr bl,s33.c5,bl,0,rfl,vt,by rw [OG (w:=w) (k33.block bl h3 hbl)];exact h5,at_,_,capt,hvt,λtx y w'=>∃(j:Nat) (W:Rh),y=j/\j<=ts.length/\Kn nn r w w'/\Nm w' nn r W G (J||thBad (l.take j) G)/\(∀z,z∉(l.take j).bvs->W z=H z)/\Own w.heap.size w' tx (thS (l.take j) H G),
   λ _ y _=>(ts.length - y).toNat,⟨0,H,rfl,Px _,k33,by simpa [Lv.take,thBad]using n33,λ _ _=>rfl,Own.none (by have :=κ.size;omega) hb32 hw33⟩,λtx y w47 hI=>?_⟩
  obtain⟨j,W,rfl,hj,μ,n47,δ,ε⟩:=hI;have hnl:=hN.lt;have hnr:=hN.lr;have V:∀g',tx.ownBlock=some g'->w.heap.size<=g':=λg' h'=>(ε.block g' h').1
  refine⟨λhlt2=>?_,λhge3=>?_⟩
  ·have φ:=oL hlt2;have hje:j< l.bB.length:=by omega
   have s47:zN w47 b30 b3 b5 b16 b18 nn vo (ptr bl) x best:=hs.kp μ hb;obtain⟨bu,ou,γ,hvu',hcu⟩:∃bu ou γ,vt= .slice (some ⟨bu,ou,none⟩) ts.length γ/\w47.cell? ⟨bu,ou+j,none⟩=some ts[j]:=by
    rcases h7 with⟨_,h0⟩ | ⟨bt,ot,capt',e,hbD,hb',β⟩
    ·rw [h0]at φ;simp at φ
    ·exact⟨bt,ot,capt',e,by rw [OG (w:=w) (μ.block bt hb' (hD bt hbD))];exact β j _ (OH φ)⟩
   obtain⟨e,hf1,θ,hf3⟩:=aP.single h8.bB (OH φ);have hf4:l.bB[j]=e:=by rw [OH hje]at hf1;exact Pz hf1
   have ζ:=Lv.take_succ l j hje;rw [hf4]at ζ;have hsz2:=Lv.eJ l e θ;have htot2:=Lv.gJ l e θ;have hfe:thS e W G=thS e H G:=uh e W H G λz hz=>δ z λhb=>huq.nf z (Lv.lf l j z hb) (Lv.qs l e θ hz)
   refine⟨bu,ou,_,γ,hvu',by omega,by omega,ts[j],by rw [OU,Pn];exact hcu,b3,0,rfl,ptr nn,s47.c3,?_⟩;refine ht (by omega) (Lv.kB hsh e θ) (Lv.tW hsm e θ) (huq.bB θ) (hf3.kp μ hD) hD n47 (by omega) λt w57 ρ3 hthS k57 n57 hρ3 b58 w59 hb58 hw59=>?_
   have χ:Ex w57 w59:=hw59▸Ex.alloc w57 _;have k1:Kn nn r w w57:=Kn.trans μ k57;have ho59:Own w.heap.size w59 tx (thS (l.take j) H G):=(ε.kp k57 λg' h'=>(by have :=V g' h';omega)).ex χ;have hl3:(thS (l.take j) H G).length<=ts.length:=by
    rw [bG];have :=Lv.gX l j;omega
   refine Own.push ho59 (by have :=k1.size;have :=χ.size;omega) (Strs.one hb58 hw59) (by simp only [OF,OX];omega) λv65 w66 _ ho66 hg66 _=>⟨by omega,⟨j+1,ρ3,by omega,by omega,?_,?_,?_,?_⟩,tN (by omega)⟩
   ·exact Kp.new (Kn.trans k1 (Kn.ex χ)) hg66 V
   ·have e1:(J||thBad (l.take (j+1)) G)=(J||thBad (l.take j) G||thBad e G):=by rw [ζ,cZ,Ql]
    rw [e1];refine(n57.ex χ).kp (Kp.aJ (S:=λg=>tx.ownBlock=some g) hg66 λ _ h=>h) (λh'=>by have :=V _ h';omega) λh'=>by have :=V _ h';omega
   ·intro z hz;rw [ζ,Lv.dB,OS,Sk]at hz;rw [hρ3 z hz.2,δ z hz.1]
   ·rw [ζ,gL,<-hfe,hthS];exact ho66
  ·have hjt:j=l.bB.length:=by simp only [OV]at hge3;omega
   rw [hjt,Lv.dq]at n47 ε δ;have hsum:=gG l H G;have ψ:=bG l H G;have hne':thS l H G≠[]:=λe=>by
    rw [e]at ψ;rw [Lv.dy]at hne;simp only [OX]at ψ;simp [<-ψ]at hne
   have eT:hd++joinS 38 (a6 (thS l H G))=oA l (lets o.length tk) ρ tk π:=by
    unfold oA;rw [<-e4,<-e1,<-e2]
   have hjl2:=ie 38 (a6 (thS l H G));rw [iD (aR _)]at hjl2;refine IC ε hne' (by rw [ψ];omega) (by omega) λι k68=>⟨by omega,?_⟩
   have ν:Kn nn r w ι:=Kp.trans μ k68 λg' hg' h'=>by have :=V g' h';omega
   have Z:zN ι b30 b3 b5 b16 b18 nn vo (ptr bl) x best:=hs.kp ν hb;have n68:Nm ι nn r W G (J||thBad l G):=n47.kp k68 (λh'=>by have :=V _ h';omega) λh'=>by have :=V _ h';omega
   have kq:∀{w1:World},Kn nn r w w1->Kp w w1 (λg=>g=nn\/g=r\/g=b16):=λk=>Kp.mono (λg hg=>hg.elim .inl λh=> .inr (.inl h)) k
   rw [eT];have fin:∀w1 best',Kp w w1 (λg=>g=nn\/g=r\/g=b16)->zN w1 b30 b3 b5 b16 b18 nn vo (ptr bl) x best'->Nm w1 nn r W G (J||thBad l G)->best'=(if best=[]\/oA l (lets o.length tk) ρ tk π< best then oA l (lets o.length tk) ρ tk π else best)->
     ∃(b79 o80:Nat),ptr b3=Value.pointer (some ⟨b79,o80,none⟩)/\∃v81:Value,World.cell? w1 ⟨b79,o80,none⟩=some v81/\∃(b82 o83:Nat),ptr b18=Value.pointer (some ⟨b82,o83,none⟩)/\∃m84:UInt32,World.cell? w1 ⟨b82,o83,none⟩=some (Value.int IntKind.u32 (UInt32.toNat m84))/\∃(ω o86:Nat),v81=Value.pointer (some ⟨ω,o86,none⟩)/\((∃u87:Value,World.cell? w1 ⟨ω,(o86+1),none⟩=some u87)/\World.frozen? w1 ⟨ω,(o86+1),none⟩=false)/\∀w88:World,w88=World.setCell w1 ⟨ω,(o86+1),none⟩ (Value.int IntKind.u32 (UInt32.toNat m84))->R w88:=by
    intro w1 best' k1 s1 n1 hbest;obtain⟨z,hz,_⟩:=n1.c1;refine⟨b3,0,rfl,ptr nn,s1.c3,b18,0,rfl,x,s1.c18,nn,0,rfl,⟨⟨_,hz⟩,n1.f 1⟩,λw88 ξ=>hR w88 W best' ?_ ?_ ?_ (λz hz hz'=>?_) hbest⟩
    ·exact Kp.trans k1 (ξ▸Kr.set _ _ _) λg _ e=> .inl e
    ·exact s1.kp (ξ▸Kr.set w1 1 _) λb hb' e=>hb b hb' (.inl e)
    ·refine n1.set (tk':=tk) ξ (.inl ⟨rfl,?_,x,rfl,hx⟩);rw [<-Ql,<-e3,<-e2]
    ·rw [δ z hz',e5 z hz]
   have st:∀w1,w1=ι.setCell ⟨b16,0,none⟩ (.string (ai (oA l (lets o.length tk) ρ tk π)))->Kp w w1 (λg=>g=nn\/g=r\/g=b16)/\zN w1 b30 b3 b5 b16 b18 nn vo (ptr bl) x (oA l (lets o.length tk) ρ tk π)/\Nm w1 nn r W G (J||thBad l G):=λw1 hw1=>by
    have kb:Kr b16 ι w1:=hw1▸Kr.set _ _ _;have h16:=hb b16 (by simp);exact⟨Kp.trans (kq ν) kb λg _ e=> .inr (.inr e),Z.GR hw1,n68.kp kb (λe=>h16 (.inl e.symm)) λe=>h16 (.inr e.symm)⟩
   refine⟨b16,0,rfl,best,Z.c16,λο=>?_,λο=>?_⟩
   ·simp only [OV]at ο;refine⟨b16,0,rfl,best,Z.c16,λα=>⟨b16,0,rfl,⟨⟨_,Z.c16⟩,Z.f16⟩,λw78 hw78=>?_⟩,λα=>?_⟩
    ·rw [Se,OW]at α;obtain⟨k1,k2,k3⟩:=st w78 hw78;exact fin w78 _ k1 k2 k3 (by rw [Pj (.inr α)])
    ·rw [Se,OV]at α;exact fin ι best (kq ν) Z n68 (by rw [O1 (λh=>h.elim ο α)])
   ·simp only [OW]at ο;refine⟨b16,0,rfl,⟨⟨_,Z.c16⟩,Z.f16⟩,λw102 hw102=>?_⟩;obtain⟨k1,k2,k3⟩:=st w102 hw102;exact fin w102 _ k1 k2 k3 (by rw [Pj (.inl ο)])
theorem Dc (a:Tx):bO [a]=a:=gM (by simp) λs G=>by simp at G;subst G;simp [jJ]
theorem Bj {l:List Tx}(h:l≠[])(a:Tx):bO (l++[a])=if a< bO l then a else bO l:=by
 obtain⟨J,h2⟩:=cL h;split
 ·rename_i H;refine gM (by simp) λs G=>?_
  rcases OS.1 G with G | G
  ·refine gU _ _ _ ?_ (h2 s G);simp only [jJ,OW];exact List.le_of_lt H
  ·simp at G;subst G;simp [jJ]
 ·rename_i H;refine gM (Pm _ J) λs G=>?_
  rcases OS.1 G with G | G
  ·exact h2 s G
  ·simp at G;subst G;simp only [jJ,OW];exact List.not_lt.1 H
theorem J8 {l:Lv}{o π:List Nat}(V:π.Perm o)(H:ve o l){ls:List UInt8}(J:π.length=ls.length){ρ ρ':Rh}(h:∀z,z∉o->z∉l.bvs->ρ' z=ρ z)(tk:Tk):oA l ls ρ' tk π=oA l ls ρ tk π:=by
 unfold oA;rw [uh l (asg π ls ρ') (asg π ls ρ) (addK ls tk) λz W=>?_];by_cases G:z∈π
 ·exact Cd π ls ρ' ρ z G J
 ·rw [bV _ _ _ _ G,bV _ _ _ _ G];exact h z (λh'=>G (V.symm.subset h')) λhb=>H.nf z hb W
structure OI (w w':World)(b30 b3 b5 b16 b18 nn r:Nat)(vo vl:Value)(x:UInt32)(o:List Nat)(l:Lv)(ρ:Rh)(tk:Tk)(bad:Bool)(acc:List (List Nat)):Prop where
 ex:∃(ρ':Rh) (best:Tx),zN w' b30 b3 b5 b16 b18 nn vo vl x best/\Nm w' nn r ρ' tk (bad||(!acc.isEmpty&&(gI o.length tk||thBad l (addK (lets o.length tk) tk))))/\(∀z,z∉o->z∉l.bvs->ρ' z=ρ z)/\
  ((acc=[]/\best=[])\/(acc≠[]/\best=bO (acc.map (oA l (lets o.length tk) ρ tk))))
 kn:Kn nn r w w'
theorem wM {n:Nat}(ht:KJ n):MD n:=by
 intro D w v o l nn r ρ tk bad R hn hsh hsm huq h hD hN htot hR;refine nh (ptr nn) v w R ?_;dsimp only [go_sem];dsimp only [go_sem,UInt8.reduceOfNat,UInt32.reduceOfNat,Nat.reduceAdd];have hv1:=h.one;refine⟨rfl,λb3 w4 hb3 hw4=>⟨hv1,λb5 w6 hb5 hw6=>?_⟩⟩;have x4:Ex w w4:=hw4▸Ex.alloc w _;have x6':Ex w4 w6:=hw6▸Ex.alloc w4 _;have x6:Ex w w6:=Ex.trans x4 x6';have s4:w4.heap.size=w.heap.size+1:=by rw [hw4,size_alloc]
 have s6:w6.heap.size=w4.heap.size+1:=by rw [hw6,size_alloc]
 have c3:w6.cell? ⟨b3,0,none⟩=some (ptr nn):=by rw [x6'.cell (show b3< _ by omega),hw4,hb3];exact aa rfl
 have c5:w6.cell? ⟨b5,0,none⟩=some v:=by rw [hw6,hb5];exact aa rfl
 have hnl:=hN.lt;have hnr:=hN.lr;refine⟨v,c5,m5 (gB.ex h x6) ⟨λhe=>?_,λhe=>?_⟩⟩
 ·have e:aU o (thS l) ρ tk=[48]:=by
   unfold aU;rw [Pj];cases l<;>first | rfl | cases he
  rw [<-e];refine hR w6 ρ (Kn.ex x6) ?_ λ _ _ _=>rfl
  rw [he];simpa [gg]using hN.ex x6
 ·refine⟨λw'=>Ex w6 w',λw11 hw11=>?_⟩;have ο:Ex w6 w11:=hw11▸Ex.drew w6;have n11:=hN.ex (Ex.trans x6 ο);obtain⟨x,hx,hxt⟩:=(hN.ex x6).c1;have s11:=ο.size;have rest:∀(b16 b18:Nat) (G:World),Ex w6 G->G.cell? ⟨b16,0,none⟩=some (.string (ai []))->G.cell? ⟨b18,0,none⟩=some (.int .u32 x.toNat)->G.frozen? ⟨b16,0,none⟩=false->b16≠b18->w6.heap.size<=b16->w6.heap.size<=b18->b16< G.heap.size->b18< G.heap.size->
    ∃v24:Value,World.cell? G ⟨b5,0,none⟩=some v24/\∃(b25 o26:Nat),v24=Value.pointer (some ⟨b25,o26,none⟩)/\∃v27:Value,World.cell? G ⟨b25,(o26+0),none⟩=some v27/\Sm 180 #[v27] G (an [.v] fun(v28:Value) (κ:World)=>∀(b30:Nat) (β:World),b30=Array.size (World.heap κ)->β=World.alloc κ (Obj.cells #[(Value.slice none 0 0)] 36)->ay v28=true/\((∃u32:Value,World.cell? β ⟨b30,0,none⟩=some u32)/\World.frozen? β ⟨b30,0,none⟩=false)/\
     ∀γ:World,γ=World.setCell β ⟨b30,0,none⟩ v28->∃v34:Value,World.cell? γ ⟨b30,0,none⟩=some v34/\Sm 250 #[v34,(Value.int IntKind.i64 0),(Value.func (Fn.func 251) #[] #[(Value.pointer (some ⟨b30,0,none⟩)),(Value.pointer (some ⟨b3,0,none⟩)),(Value.pointer (some ⟨b5,0,none⟩)),(Value.pointer (some ⟨b16,0,none⟩)),(Value.pointer (some ⟨b18,0,none⟩))])] γ (an [] fun(χ:World)=>∃s36:aB,World.cell? χ ⟨b16,0,none⟩=some (Value.string (ai s36))/\R (s36) χ)):=by
   intro b16 b18 G ζ c16 c18 f16 hne h16 h18 l16 l18;have h':=h;obtain⟨bl,vo,vt,ts,rfl,h2,h3,h4,h5,h6,h7,h8⟩:=h';have ν:Ex w G:=Ex.trans x6 ζ;have c5':G.cell? ⟨b5,0,none⟩=some (ptr bl):=by rw [ζ.cell (show b5< _ by omega)];exact c5
   have c3':G.cell? ⟨b3,0,none⟩=some (ptr nn):=by rw [ζ.cell (show b3< _ by omega)];exact c3
   refine⟨ptr bl,c5',bl,0,rfl,vo,by rw [ν.cell (show bl< _ from h3)];exact h4,?_⟩;refine yr (h6.ex ν) (by omega) λv28 κ x29 o29 b30 β hb30 ξ=>?_
   have x31:Ex κ β:=ξ▸Ex.alloc κ _;have s31:β.heap.size=κ.heap.size+1:=by rw [ξ,size_alloc]
   have s29:=x29.size;have s23:=ζ.size;have c30:β.cell? ⟨b30,0,none⟩=some (.slice none 0 0):=by rw [ξ,hb30];exact aa rfl
   have f30:β.frozen? ⟨b30,0,none⟩=false:=by rw [ξ,hb30];exact aG _ _ _ _
   refine⟨o29.df,⟨⟨_,c30⟩,f30⟩,λγ hw33=>?_⟩;have k33:Kr b30 β γ:=hw33▸Kr.set _ _ _;have η:Ex G γ:=Ex.below (Ex.trans x29 x31) (Kp.below k33 (Ex.trans x29 x31).size λg hg e=>by omega);have ψ:∀g,v28.ownBlock=some g->G.heap.size<=g/\g< κ.heap.size:=o29.block;have o33:aF 3 G.heap.size γ v28 (o.map iv):=(o29.kp (Kp.af x31 λ _=>False) λ _ _ h=>h).kp k33 λg hg e=>by have :=ψ g hg;omega
   have c30':γ.cell? ⟨b30,0,none⟩=some v28:=by rw [hw33];exact OY _ _ _ c30
   have ds:zN γ b30 b3 b5 b16 b18 nn v28 (ptr bl) x []:=by
    have s33:=η.size;have s33':=k33.size;refine⟨λb hb=>?_,c30',?_,?_,?_,?_,?_,by omega,by omega,by omega,hne⟩
    ·rcases hb with rfl | rfl | rfl | rfl | rfl<;>omega
    ·rw [η.cell (show b3< _ by omega)];exact c3'
    ·rw [η.cell (show b5< _ by omega)];exact c5'
    ·rw [η.cell (show b16< _ by omega)];exact c16
    ·rw [η.cell (show b18< _ by omega)];exact c18
    ·rw [PV η l16];exact f16
   have ω:∀b,(b=b30\/b=b3\/b=b5\/b=b16\/b=b18)->w.heap.size<=b/\¬v28.ownBlock=some b:=λb hb=>by
    refine⟨by rcases hb with rfl | rfl | rfl | rfl | rfl<;>omega,λe=>?_⟩;have :=ψ b e;rcases hb with rfl | rfl | rfl | rfl | rfl<;>omega
   have hlev:∀{w1:World},Kn nn r w w1->gB D w1 (ptr bl) o (ah D w1 l):=λk=>h.kp k hD λl h=>h.kp k hD
   have ς:∀g,v28.ownBlock=some g->¬(g=nn\/g=r):=λg hg=>by have :=ψ g hg;omega
   refine⟨v28,c30',?_⟩;refine AJ (o:=o) (ca:=[ptr b30,ptr b3,ptr b5,ptr b16,ptr b18]) (Inv:=λacc w'=>OI w w' b30 b3 b5 b16 b18 nn r v28 (ptr bl) x o l ρ tk bad acc) (by kernel_rfl) ?_ ?_ (by omega) o.length 0 o [] γ (by omega) ⟨⟨ρ,[],ds,?_,λ _ _ _=>rfl,.inl ⟨rfl,rfl⟩⟩,Kn.ex (Ex.trans ν η)⟩ o33 (PW _) λχ acc I35 o35 hacc=>?_
   ·intro acc π w1 hI how hp R' hR';obtain⟨⟨ρ1,best,d1,n1,e1,e2⟩,kn⟩:=hI;have hpl:=hp.length_eq;refine Hb ht d1 (λb hb=>by have :=(ω b hb).1;omega) how ς hp n1 hxt hn hsh hsm huq (hlev kn) hD he htot λw2 ρ2 best2 k2 d2 n2 e3 e4=>hR' w2 ⟨⟨ρ2,best2,d2,?_,λz hz hz'=>by rw [e3 z hz hz',e1 z hz hz'],?_⟩,?_⟩ ?_
    ·have:(bad||(!acc.isEmpty&&(gI o.length tk||thBad l (addK (lets o.length tk) tk)))||(gI o.length tk||thBad l (addK (lets o.length tk) tk)))=(bad||(!(acc++[π]).isEmpty&&(gI o.length tk||thBad l (addK (lets o.length tk) tk)))):=by
      cases acc<;>simp [Ql]
     rw [<-this];exact n2
    ·right;refine⟨by simp,?_⟩;have eT:=J8 hp huq (ls:=lets o.length tk) (by rw [fO];exact hpl) e1 tk;rw [eT]at e4;rw [PH];simp only [Pk,QL];rcases e2 with⟨rfl,rfl⟩ | ⟨ha,rfl⟩
     ·rw [Pj (.inl rfl)]at e4;rw [e4,QL,PG,Dc]
     ·rw [Bj (by simpa using ha),e4];have hne2:bO (acc.map (oA l (lets o.length tk) ρ tk))≠[]:=by
       obtain⟨h1,_⟩:=cL (l:=acc.map (oA l (lets o.length tk) ρ tk)) (by simpa using ha);obtain⟨σ,_,e⟩:=Pw.1 h1;rw [<-e];unfold oA;intro e5;refine pZ (qA ?_) (λt ht=>mI l hsm _ _ t ((aR _).subset ht)) (List.append_eq_nil_iff.1 e5).2;intro e6;have :=bG l (asg σ (lets o.length tk) ρ) (addK (lets o.length tk) tk);rw [e6]at this;rw [Lv.dy]at he;simp only [OX]at this;simp [<-this]at he
      simp only [hne2,Sc]
    ·exact Kp.trans kn k2 λg hg e=>by have :=(ω b16 (by simp)).1;omega
    ·exact how.kp k2 λg hg e=>by
      rcases e with e | e | e
      ·exact ς g hg (.inl e)
      ·exact ς g hg (.inr e)
      ·exact(ω b16 (by simp)).2 (e▸hg)
   ·intro acc w1 w2 hI k;obtain⟨⟨ρ1,best,d1,n1,e1,e2⟩,kn⟩:=hI;refine⟨⟨ρ1,best,d1.kp k λb hb=>(ω b hb).2,n1.kp k (λe=>ς nn e (.inl rfl)) λe=>ς r e (.inr rfl),e1,e2⟩,Kp.trans kn k λg hg e=>by have :=ψ g e;omega⟩
   ·have :=hN.ex (Ex.trans ν η);simpa using this
   ·obtain⟨⟨ρ1,best,d1,n1,e1,e2⟩,kn⟩:=I35;rw [PG]at n1 e2;have hmem:∀σ,σ∈acc↔σ.Perm o:=λσ=>by
     rw [hacc];simp only [Qz,List.take_zero,PG];exact⟨fun⟨τ,h,e⟩=>e▸h,λh=>⟨σ,h,rfl⟩⟩
    have υ:acc≠[]:=λe=>by have :=(hmem o).2 (PW _);rw [e]at this;cases this
    have eb:best=aU o (thS l) ρ tk:=by
     rcases e2 with⟨h0,_⟩ | ⟨_,rfl⟩
     ·exact absurd h0 υ
     ·unfold aU;have hemp:¬(thS l ρ tk).isEmpty=true:=λe=>by
       rw [List.isEmpty_iff_length_eq_zero,bG]at e;rw [Lv.dy]at he;simp [e]at he
      rw [O1 hemp];show _=wrap _ (bO _);rw [z8,<-uc _ (λe=>pc o (Ru.1 e)),Qv];refine pk λs=>?_
      simp only [Pw,hmem,db];rfl
    rw [<-eb]at hR;refine⟨best,d1.c16,hR χ ρ1 kn ?_ e1⟩;have:(bad||(!acc.isEmpty&&(gI o.length tk||thBad l (addK (lets o.length tk) tk))))=(bad||gg o.length l.isNil (thBad l) tk):=by
     have:acc.isEmpty=false:=by cases acc<;>first | exact absurd rfl υ | rfl
     rw [this,he];rfl
    rw [<-this];exact n1
  refine⟨ο,ptr nn,λw' x'=>by rw [x'.cell (show b3< _ by omega)];exact c3,nn,0,rfl,x,λw' x'=>by rw [x'.cell (show nn< _ by omega)];exact hx,λb16 δ θ W=>?_,λb18 δ ι W=>?_⟩
  ·have μ:Ex w6 δ:=W▸Ex.trans ο (Ex.alloc _ _);refine⟨μ,λb18 V ι Z=>?_⟩;have ε:Ex δ V:=Z▸Ex.alloc _ _;have s17:δ.heap.size=w11.heap.size+1:=by rw [W,size_alloc]
   have s19:V.heap.size=δ.heap.size+1:=by rw [Z,size_alloc]
   have c16:V.cell? ⟨b16,0,none⟩=some (.string ⟨#[]⟩):=by rw [ε.cell (show b16< _ by omega),W,θ];exact aa rfl
   have f16:V.frozen? ⟨b16,0,none⟩=false:=by rw [PV ε (show b16< _ by omega),W,θ];exact aG _ _ _ _
   have c18:V.cell? ⟨b18,0,none⟩=some (.int .u32 0):=by rw [Z,ι];exact aa rfl
   have f18:V.frozen? ⟨b18,0,none⟩=false:=by rw [Z,ι];exact aG _ _ _ _
   refine⟨Ex.trans μ ε,⟨⟨_,c16⟩,f16⟩,λα H=>?_⟩;have φ:Ex w6 α:=H▸Ex.own (Ex.trans μ ε) (by omega) _;have s21:α.heap.size=V.heap.size:=by rw [H,Pu]
   have d16:α.cell? ⟨b16,0,none⟩=some (.string (ai [])):=by rw [H];exact OY _ _ _ c16
   have d18:α.cell? ⟨b18,0,none⟩=some (.int .u32 0):=by rw [H,OL _ _ _ _ (λe=>by injection e with e1 e2;omega)];exact c18
   refine⟨φ,⟨⟨_,d18⟩,by rw [H,O0];exact f18⟩,λG J=>?_⟩;have ζ:Ex w6 G:=J▸Ex.own φ (by omega) _;have s23:G.heap.size=α.heap.size:=by rw [J,Pu]
   refine rest b16 b18 G ζ ?_ ?_ ?_ (by omega) (by omega) (by omega) (by omega) (by omega)
   ·rw [J,OL _ _ _ _ (λe=>by injection e with e1 e2;omega)];exact d16
   ·rw [J];exact OY _ _ _ d18
   ·rw [J,O0,H,O0];exact f16
  ·have μ:Ex w6 δ:=W▸Ex.trans ο (Ex.alloc _ _);refine⟨μ,λb16 V θ Z=>?_⟩;have ε:Ex δ V:=Z▸Ex.alloc _ _;have s17:δ.heap.size=w11.heap.size+1:=by rw [W,size_alloc]
   have s19:V.heap.size=δ.heap.size+1:=by rw [Z,size_alloc]
   have c18:V.cell? ⟨b18,0,none⟩=some (.int .u32 0):=by rw [ε.cell (show b18< _ by omega),W,ι];exact aa rfl
   have f18:V.frozen? ⟨b18,0,none⟩=false:=by rw [PV ε (show b18< _ by omega),W,ι];exact aG _ _ _ _
   have c16:V.cell? ⟨b16,0,none⟩=some (.string ⟨#[]⟩):=by rw [Z,θ];exact aa rfl
   have f16:V.frozen? ⟨b16,0,none⟩=false:=by rw [Z,θ];exact aG _ _ _ _
   refine⟨Ex.trans μ ε,⟨⟨_,c16⟩,f16⟩,λα H=>?_⟩;have φ:Ex w6 α:=H▸Ex.own (Ex.trans μ ε) (by omega) _;have s21:α.heap.size=V.heap.size:=by rw [H,Pu]
   have d16:α.cell? ⟨b16,0,none⟩=some (.string (ai [])):=by rw [H];exact OY _ _ _ c16
   have d18:α.cell? ⟨b18,0,none⟩=some (.int .u32 0):=by rw [H,OL _ _ _ _ (λe=>by injection e with e1 e2;omega)];exact c18
   refine⟨φ,⟨⟨_,d18⟩,by rw [H,O0];exact f18⟩,λG J=>?_⟩;have ζ:Ex w6 G:=J▸Ex.own φ (by omega) _;have s23:G.heap.size=α.heap.size:=by rw [J,Pu]
   refine rest b16 b18 G ζ ?_ ?_ ?_ (by omega) (by omega) (by omega) (by omega) (by omega)
   ·rw [J,OL _ _ _ _ (λe=>by injection e with e1 e2;omega)];exact d16
   ·rw [J];exact OY _ _ _ d18
   ·rw [J,O0,H,O0];exact f16
theorem KQ:∀n,KJ n
 | 0=>by
  intro G H;rcases H with⟨k,a,b,o,q,rfl,V⟩ | ⟨ps,rfl,J⟩<;>simp [Lv.sz]at G
 | n+1=>FY (wM (KQ n))
theorem Ni (n:Nat):MD n:=wM (KQ n)
end Go.Proofs.YtdecokaadekjnaaGreat
namespace Go.Proofs.YtdecokaadekjnaaGreat
namespace Lv
def PNf:Lv->Prop
 | nil=>True
 | thr _ _ _ _ _ n=>n.PNf
 | sum ps n=>ps.PNf/\n.PNf
 | part o q n=>((∀x∈o,q.has x=true)/\q≠nil/\∀ps,q=sum ps nil->o≠[])/\n.PNf
theorem sA:∀{l m:Lv},(l.app m).PNf↔l.PNf/\m.PNf
 | nil,m=>by simp [app,PNf]
 | thr k a b o r n,m=>by simp only [app,PNf,sA (l:=n)]
 | sum ps n,m=>by simp only [app,PNf,sA (l:=n),Q4]
 | part o q n,m=>by simp only [app,PNf,sA (l:=n),Q4]
def wB:Lv->Prop
 | nil=>True
 | thr _ _ _ _ _ n=>n.wB
 | sum ps n=>(ps.PNf/\ps.wB)/\n.wB
 | part _ q n=>q.wB/\n.wB
theorem mL:∀{l m:Lv},(l.app m).wB↔l.wB/\m.wB
 | nil,m=>by simp [app,wB]
 | thr k a b o r n,m=>by simp only [app,wB,mL (l:=n)]
 | sum ps n,m=>by simp only [app,wB,mL (l:=n),Q4]
 | part o q n,m=>by simp only [app,wB,mL (l:=n),Q4]
theorem Kz {ps:Lv}{n:List Nat×Lv}(h:ps.PNf/\ps.wB)(G:n.2.wB):(spl ps n).2.wB:=by
 unfold spl;split
 ·exact G
 ·exact mL.2 ⟨h.2.1,G⟩
 ·exact⟨h,G⟩
theorem L0 {o:List Nat}{q n:Lv}(J:∀x∈o,q.has x=true)(h:q.wB)(G:n.PNf/\n.wB):(prt o q n).PNf/\(prt o q n).wB:=by
 unfold prt;split
 ·exact G
 ·rename_i ps;split
  ·exact⟨sA.2 ⟨h.1.1,G.1⟩,mL.2 ⟨h.1.2,G.2⟩⟩
  ·rename_i H;exact⟨⟨⟨J,by simp,λ _ _ e=>H (by rw [e];rfl)⟩,G.1⟩,h,G.2⟩
 ·rename_i V H h2;exact⟨⟨⟨J,H,λps e=>(h2 ps e).elim⟩,G.1⟩,h,G.2⟩
theorem nP:∀(l:Lv),(l.sh true=true->(tid l).2.wB)/\(l.sh false=true->(tid l).2.PNf/\(tid l).2.wB)
 | nil=>⟨λ _=>trivial,λ _=>⟨trivial,trivial⟩⟩
 | thr k a b o r n=>by
  refine⟨λh=>?_,λh=>by simp [sh]at h⟩;simp only [sh,OJ]at h;have G:=(nP r).1 h.1;have h2:=(nP n).1 h.2;have h4:(kept o (tid r)).2=(tid r).2:=rfl;simp only [tid];split
  ·exact mL.2 ⟨G,h2⟩
  ·split
   ·exact h2
   ·exact h2
 | sum ps n=>by
  refine⟨λh=>?_,λh=>by simp [sh]at h⟩;simp only [sh,OJ]at h;simp only [tid];exact Kz ((nP ps).2 h.1) ((nP n).1 h.2)
 | part o q n=>by
  refine⟨λh=>by simp [sh]at h,λh=>?_⟩;simp only [sh,OJ]at h;simp only [tid];exact L0 (uf o (tid q)) ((nP q).1 h.1) ((nP n).2 h.2)
theorem JZ {Z:Lv}(h:Z.PNf)(H:Z.sh false=true):prt (kept [] (spl Z ([],nil))).1 (kept [] (spl Z ([],nil))).2 nil=Z:=by
 unfold spl;split
 ·rfl
 ·rename_i o q;have e:(kept [] (o++(([],nil):List Nat×Lv).1,q.app (([],nil):List Nat×Lv).2))=(o,q):=by
   simp only [kept,Po,aY,PG]
   congr 1
   exact R6.2 h.1.1
  rw [e];obtain⟨_,h2,G⟩:=h.1;show prt o q nil=_;unfold prt;split
  ·exact absurd rfl h2
  ·rw [O1];intro e;exact G _ rfl (by simpa using e)
  ·rfl
 ·simp only [kept,Po,List.filter_nil,prt,List.isEmpty_nil,Qw,aY]
theorem JB {o:List Nat}{q:Lv}{Z:Lv}(h:Z≠nil)(n:List Nat×Lv):spl (part o q Z) n=(n.1,sum (part o q Z) n.2):=by
 cases Z with
 | nil=>exact absurd rfl h
 | _=>rfl
end Lv
open T in
theorem gi {u:U}(G:Uq u)(n:u.Nr)(H:u.th=true):Lv.tid (flat u).2=([],tl [u])/\(flat u).1=[]:=by
 cases u with
 | nil=>cases H
 | par p q=>cases H
 | res x p=>cases H
 | snd a b p=>exact⟨by simp only [flat,Lv.tid,tl];simp [td,Lv.tidy],rfl⟩
 | rcv a x p=>exact⟨by simp only [flat,Lv.tid,tl];simp [td,Lv.tidy],rfl⟩
 | tau p=>exact⟨by simp only [flat,Lv.tid,tl];simp [td,Lv.tidy],rfl⟩
 | mat a b p=>refine⟨?_,rfl⟩;rw [pd,O1 n.1.1,dJ,n.1.2];rfl
 | rep p=>refine⟨?_,rfl⟩;rw [oY,dJ,n.1];rfl
 | sum p q=>
  refine⟨?_,rfl⟩;rw [pC,(gu p G.eD).2.2,(gu q G.dS).2.2,<-ux];have J:=pe n.1.1 G.eD;have h2:=pe n.1.2.1 G.dS;simp only [tl];cases V:aw p with
  | nil=>exact absurd V J
  | cons t l=>
   rw [PI,tp,Lv.JB];intro W;have :=B8 (l++aw q);rw [W]at this;simp only [Lv.len,OM]at this;exact h2 (Pg (by omega))
open T in
theorem qC:∀{u:U},Uq u->u.Nr->Lv.tid (flat u).2=([],tl u.ths)/\(flat u).1=u.frL
 | .nil,_,_=>⟨rfl,rfl⟩
 | .res x p,G,n=>by
  obtain⟨H,h2⟩:=qC G.res n.2;exact⟨H,by simp only [flat,frL,h2]⟩
 | .par p q,G,n=>by
  obtain⟨H,h2⟩:=gi G.gz n.2.1 n.1.1;obtain⟨J,h4⟩:=qC G.fU n.2.2;have h5:q.frL=[]:=by
   rcases n.1.2 with h | h
   ·exact iO h
   ·cases q<;>first | rfl | (cases h;done)
  refine⟨?_,by simp only [flat,frL,h2,h4,h5,Po]⟩;simp only [flat];rw [Lv.cO _ _ (cw p),H,J];simp only [T.ths,Po];rw [show p::q.ths=[p]++q.ths from rfl,ik]
 | .snd a b p,G,n=>gi G n rfl
 | .rcv a b p,G,n=>gi G n rfl
 | .tau p,G,n=>gi G n rfl
 | .sum p q,G,n=>gi G n rfl
 | .mat a b p,G,n=>gi G n rfl
 | .rep p,G,n=>gi G n rfl
open T in
theorem Mr {u:U}(H:Uq u)(n:u.Nr):∀x∈u.frL,(td u).2.has x=true:=by
 induction u with
 | res y p J=>
  intro x G;rcases O4.1 G with rfl | G
  ·exact(gk p x H.gm).2 n.1
  ·exact J H.res n.2 x G
 | _=>intro x G;cases G
open T in
theorem jh {u:U}(G:Uq u)(n:u.Nr):td u=(u.frL,tl u.ths):=by
 obtain⟨H,h2⟩:=qC G n;have J:=Mr G n;have e:(td u).2=tl u.ths:=by rw [r6,H]
 rw [e]at J;show Lv.kept (flat u).1 (Lv.tid (flat u).2)=_;rw [H,h2];simp only [Lv.kept,Po]
 congr 1
 exact R6.2 J
theorem cS:∀u:U,(flat u).2.sh true=true
 | .nil=>rfl
 | .snd a b p=>by simp only [flat,Lv.sh,cS p,Qe]
 | .rcv a b p=>by simp only [flat,Lv.sh,cS p,Qe]
 | .tau p=>by simp only [flat,Lv.sh,cS p,Qe]
 | .mat a b p=>by simp only [flat,Lv.sh,cS p,Qe]
 | .rep p=>by simp only [flat,Lv.sh,cS p,Qe]
 | .res x p=>cS p
 | .par p q=>by simp only [flat];exact Lv.ib (cS p) (cS q)
 | .sum p q=>by simp only [flat,Lv.sh,cS p,cS q,Qe]
theorem Ej (u:U):(td u).2.sh true=true:=Lv.dV _ _ (cS u)
theorem iT (f:Nat->Nat):∀(l:Lv) (b:Bool),(l.map f).sh b=l.sh b
 | .nil,_=>by simp [Lv.map,Lv.sh]
 | .thr k a b o r n,c=>by cases c<;>simp only [Lv.map,Lv.sh,iT f r,iT f n]
 | .sum ps n,c=>by cases c<;>simp only [Lv.map,Lv.sh,iT f ps,iT f n]
 | .part o q n,c=>by cases c<;>simp only [Lv.map,Lv.sh,iT f q,iT f n]
theorem pU (o:List Nat)(q n:Lv):(Lv.tid (.part o q n)).2=Lv.prt (Lv.kept o (Lv.tid q)).1 (Lv.kept o (Lv.tid q)).2 (Lv.tid n).2:=rfl
open T in
theorem gR (f:Nat->Nat):∀(n:Nat) {u:U},u.size<=n->Uq u->u.Nr->
  Lv.tid ((td u).2.map f)=Lv.tid ((flat u).2.map f)/\(u.dead=false->(Lv.tid ((tp u.mX).map f)).2=Lv.prt (Lv.kept ((flat u).1.map f) (Lv.tid ((flat u).2.map f))).1 (Lv.kept ((flat u).1.map f) (Lv.tid ((flat u).2.map f))).2 .nil)
 | 0,u,h,_,_=>by cases u<;>simp [T.size]at h
 | k+1,u,h,G,n=>by
  have ih:∀p:U,p.size<=k->Uq p->p.Nr->Lv.kept ((td p).1.map f) (Lv.tid ((td p).2.map f))=Lv.kept ((flat p).1.map f) (Lv.tid ((flat p).2.map f)):=λp J G n=>by
   rw [(gR f k J G n).1,jh G n,(qC G n).2]
  have key:∀(W:K) (a b:Nat) (p:U),p.size<=k->Uq p->p.Nr->Lv.tid ((Lv.thr W a b (td p).1 (td p).2 .nil).map f)=Lv.tid ((Lv.thr W a b (flat p).1 (flat p).2 .nil).map f):=λW a b p J G n=>by
   simp only [Lv.map,Lv.tid,ih p J G n]
  have one:Lv.tid ((td u).2.map f)=Lv.tid ((flat u).2.map f)->u.isS=false->(Lv.tid ((tp u.mX).map f)).2=Lv.prt (Lv.kept ((flat u).1.map f) (Lv.tid ((flat u).2.map f))).1 (Lv.kept ((flat u).1.map f) (Lv.tid ((flat u).2.map f))).2 .nil:=λe Z=>by
   rw [gF Z,tp];simp only [Lv.map,tp];rw [pU,e,jh G n,(qC G n).2];rfl
  have H:u.th=true->(td u).2=tl [u]:=λht=>by rw [r6,(gi G n ht).1]
  cases u with
  | nil=>exact⟨rfl,λh=>by cases h⟩
  | snd a b p=>
   have e:Lv.tid ((td (.snd a b p)).2.map f)=Lv.tid ((flat (.snd a b p)).2.map f):=by rw [H rfl];exact key .s a b p (by simp only [T.size]at h;omega) G.snd n
   exact⟨e,λ _=>one e rfl⟩
  | rcv a b p=>
   have e:Lv.tid ((td (.rcv a b p)).2.map f)=Lv.tid ((flat (.rcv a b p)).2.map f):=by rw [H rfl];exact key .r a b p (by simp only [T.size]at h;omega) G.rcv n
   exact⟨e,λ _=>one e rfl⟩
  | tau p=>
   have e:Lv.tid ((td (.tau p)).2.map f)=Lv.tid ((flat (.tau p)).2.map f):=by rw [H rfl];exact key .t 0 0 p (by simp only [T.size]at h;omega) G.tau n
   exact⟨e,λ _=>one e rfl⟩
  | mat a b p=>
   have e:Lv.tid ((td (.mat a b p)).2.map f)=Lv.tid ((flat (.mat a b p)).2.map f):=by rw [H rfl];exact key .m a b p (by simp only [T.size]at h;omega) G.mat n.2
   exact⟨e,λ _=>one e rfl⟩
  | rep p=>
   have e:Lv.tid ((td (.rep p)).2.map f)=Lv.tid ((flat (.rep p)).2.map f):=by rw [H rfl];exact key .p 0 0 p (by simp only [T.size]at h;omega) G.rep n.2
   exact⟨e,λ _=>one e rfl⟩
  | res x p=>
   have e:Lv.tid ((td (.res x p)).2.map f)=Lv.tid ((flat (.res x p)).2.map f):=(gR f k (by simp only [T.size]at h;omega) G.res n.2).1;exact⟨e,λ _=>one e rfl⟩
  | par p q=>
   simp only [T.size]at h;have e:Lv.tid ((td (.par p q)).2.map f)=Lv.tid ((flat (.par p q)).2.map f):=by
    have h1:=(gR f k (by omega) G.gz n.2.1).1;have h2:=(gR f k (by omega) G.fU n.2.2).1;have e:(td (.par p q)).2=(td p).2.app (td q).2:=by simp only [r6,flat,Lv.cO _ _ (cw p)]
    rw [e];simp only [flat,Lv.fF];rw [Lv.cO _ _ (Lv.mG (by rw [iT];exact Ej p)),Lv.cO _ _ (Lv.mG (by rw [iT];exact cS p)),h1,h2]
   exact⟨e,λ _=>one e rfl⟩
  | sum p q=>
   simp only [T.size]at h;have Z:tl [T.sum p q]= .sum (tp (p::q.mX)) .nil:=by
    simp only [tl];rw [eQ G.eD n.2.1 n.1.1,eQ G.dS n.2.2 n.1.2.1,gF n.1.2.2];rfl
   have hz:(Lv.tid ((tp (p::q.mX)).map f)).2=(Lv.tid ((Lv.part (flat p).1 (flat p).2 (.part (flat q).1 (flat q).2 .nil)).map f)).2:=by
    rw [tp];simp only [Lv.map];rw [pU,pU,pU,ih p (by omega) G.eD n.2.1,(gR f k (by omega) G.dS n.2.2).2 n.1.2.1];rfl
   have e:Lv.tid ((td (.sum p q)).2.map f)=Lv.tid ((flat (.sum p q)).2.map f):=by
    rw [H rfl,Z];simp only [flat,Lv.map,Lv.tid];rw [hz];simp only [Lv.map];rfl
   refine⟨e,λ _=>?_⟩;have V:((Lv.part (flat p).1 (flat p).2 (.part (flat q).1 (flat q).2 .nil)).map f).sh false=true:=by rw [iT];simp only [Lv.sh,cS,Qe]
   show(Lv.tid ((tp (p::q.mX)).map f)).2=_;rw [hz];have J:=(Lv.nP ((Lv.part (flat p).1 (flat p).2 (.part (flat q).1 (flat q).2 .nil)).map f)).2 V;have :=Lv.JZ J.1 (Lv.dV _ _ V);simp only [flat,Lv.map,QL,Lv.tid]at this|-;exact this.symm
structure Pc (x:List Nat×Lv)(t:U):Prop where
 own:x.1=(flat t).1
 sh:x.2.sh true=true
 tid:Lv.tid x.2=Lv.tid (flat t).2
def joinL:List (List Nat×Lv)->List Nat×Lv
 | []=>([],.nil)
 | x::l=>(x.1++(joinL l).1,x.2.app (joinL l).2)
theorem pY:∀l m:List (List Nat×Lv),joinL (l++m)=((joinL l).1++(joinL m).1,(joinL l).2.app (joinL m).2)
 | [],m=>rfl
 | x::l,m=>by simp only [PI,joinL,pY l m,Pv,Lv.cI]
theorem pW (x:List Nat×Lv):joinL [x]=x:=by simp only [joinL,Po,Lv.aY]
theorem mF:∀l:List U,flat (T.parL l)=joinL (l.map flat)
 | []=>rfl
 | [t]=>by simp only [T.parL,Pk,QL,pW]
 | t::u::l=>by
  have :=mF (u::l);simp only [T.parL,flat,this,Pk,joinL]
theorem qg (p:U):∀o:List Nat,flat (T.resL o p)=(o++(flat p).1,(flat p).2)
 | []=>rfl
 | x::o=>by simp only [T.resL,flat,qg p o,PI]
theorem Pc.join:∀{zs:List ((List Nat×Lv)×U)},(∀z∈zs,Pc z.1 z.2)->Pc (joinL (zs.map (·.1))) (T.parL (zs.map (·.2)))
 | [],_=>⟨rfl,rfl,rfl⟩
 | z::zs,h=>by
  have G:=h z (by simp);have h2:=Pc.join (zs:=zs) λy J=>h y (by simp [J])
  have e:flat (T.parL ((z::zs).map (·.2)))=joinL ((z::zs).map (λy=>flat y.2)):=by rw [mF,Qv];rfl
  have H:flat (T.parL (zs.map (·.2)))=joinL (zs.map (λy=>flat y.2)):=by rw [mF,Qv];rfl
  refine⟨?_,?_,?_⟩
  ·rw [e];simp only [Pk,joinL];rw [G.own,h2.own,H]
  ·simp only [Pk,joinL];exact Lv.ib G.sh h2.sh
  ·rw [e];simp only [Pk,joinL];rw [Lv.cO _ _ (Lv.mG G.sh),Lv.cO _ _ (cw z.2),G.tid,h2.tid,H]
theorem B2 {own:List Nat}{x:List Nat×Lv}{t:U}(h:Pc x t):Lv.tidy (own++x.1) x.2=td (T.resL own t):=by
 show _=Lv.tidy (flat (T.resL own t)).1 (flat (T.resL own t)).2;rw [qg];simp only [Lv.tidy,h.own,h.tid]
theorem Pc.map (f:Nat->Nat){q:U}(G:Uq q)(n:q.Nr):Pc (Lv.eE f (td q)) (q.map f):=by
 have h:=(gR f _ (OQ _) G n).1;refine⟨?_,by rw [iT];exact Ej q,?_⟩
 ·rw [cC,jh G n];show(T.frL q).map f=((flat q).1).map f;rw [(qC G n).2]
 ·rw [cC];exact h
theorem map_id:∀l:Lv,l.map id=l
 | .nil=>rfl
 | .thr k a b o r n=>by simp only [Lv.map,map_id r,map_id n,List.map_id,id,ite_self]
 | .sum ps n=>by simp only [Lv.map,map_id ps,map_id n]
 | .part o q n=>by simp only [Lv.map,map_id q,map_id n,List.map_id]
theorem eG:∀u:U,u.map id=u
 | .nil=>rfl
 | .snd a b p=>by simp only [T.map,eG p,id]
 | .rcv a b p=>by simp only [T.map,eG p,id]
 | .tau p=>by simp only [T.map,eG p]
 | .sum p q=>by simp only [T.map,eG p,eG q]
 | .par p q=>by simp only [T.map,eG p,eG q]
 | .res x p=>by simp only [T.map,eG p,id]
 | .mat a b p=>by simp only [T.map,eG p,id]
 | .rep p=>by simp only [T.map,eG p]
theorem Pc.nr {q:U}(G:Uq q)(n:q.Nr):Pc (td q) q:=by
 have h:=Pc.map id G n;rw [eG]at h;have e:Lv.eE id (td q)=td q:=by simp only [Lv.eE,map_id,List.map_id]
 rwa [e]at h
structure zL (l m:Lv):Prop where
 s:∀ρ tk,(thS l ρ tk).Perm (thS m ρ tk)
 bad:∀tk,thBad l tk=thBad m tk
 all:thAll l=thAll m
 most:ax l=ax m
 has:∀x,l.has x=m.has x
 nil:l.isNil=m.isNil
theorem zL.refl (l:Lv):zL l l:=⟨λ _ _=>PW _,λ _=>rfl,rfl,rfl,λ _=>rfl,rfl⟩
theorem zL.trans {a b c:Lv}(h:zL a b)(k:zL b c):zL a c:=⟨λρ tk=>(h.s ρ tk).trans (k.s ρ tk),λtk=>(h.bad tk).trans (k.bad tk),h.all.trans k.all,h.most.trans k.most,λx=>(h.has x).trans (k.has x),h.nil.trans k.nil⟩
theorem mH (l m:Lv):(l.app m).isNil=(l.isNil&&m.isNil):=by cases l<;>simp [Lv.app,Lv.isNil]
theorem zL.app {a b c d:Lv}(h:zL a b)(k:zL c d):zL (a.app c) (b.app d):=
 ⟨λρ tk=>by rw [gL,gL];exact(h.s ρ tk).append (k.s ρ tk),λtk=>by rw [cZ,cZ,h.bad,k.bad],by rw [ct,ct,h.all,k.all],by rw [cA,cA,h.most,k.most],λx=>by rw [Lv.dk,Lv.dk,h.has,k.has],by rw [mH,mH,h.nil,k.nil]⟩
theorem zL.comm (a b:Lv):zL (a.app b) (b.app a):=
 ⟨λρ tk=>by rw [gL,gL];exact QV,λtk=>by rw [cZ,cZ,Bool.or_comm],by rw [ct,ct];omega,by rw [cA,cA];omega,λx=>by rw [Lv.dk,Lv.dk,Bool.or_comm],by rw [mH,mH,Bool.and_comm]⟩
theorem HL {r r':List Nat×Lv}(h:r.1.Perm r'.1)(k:zL r.2 r'.2):Cs r=Cs r':=by
 have G:mu r.2=mu r'.2:=by funext c;unfold mu;rw [k.has]
 have H:aU r.1 (thS r.2) ρ0 (mu r.2)=aU r'.1 (thS r'.2) ρ0 (mu r'.2):=by rw [G];exact my h k.s _ _
 have J:gg r.1.length r.2.isNil (thBad r.2) (mu r.2)=gg r'.1.length r'.2.isNil (thBad r'.2) (mu r'.2):=by
  rw [G,h.length_eq,k.nil,show thBad r.2=thBad r'.2 from funext k.bad]
 unfold Cs;rw [H,J,h.length_eq,k.most,k.all]
theorem BP:∀ts:List U,Lv.tid (joinL (ts.map flat)).2=joinL (ts.map λt=>Lv.tid (flat t).2)
 | []=>rfl
 | t::ts=>by simp only [Pk,joinL,Lv.cO _ _ (cw t),BP ts]
theorem xg {l m:List (List Nat×Lv)}(h:l.Perm m):(joinL l).1.Perm (joinL m).1/\zL (joinL l).2 (joinL m).2:=by
 induction h with
 | nil=>exact⟨PW _,zL.refl _⟩
 | cons x _ J=>exact⟨(PW _).append J.1,(zL.refl _).app J.2⟩
 | swap x y l=>
  simp only [joinL];refine⟨?_,?_⟩
  ·rw [<-Pv,<-Pv];exact QV.append (PW _)
  ·rw [<-Lv.cI,<-Lv.cI];exact(zL.comm _ _).app (zL.refl _)
 | trans _ _ G H=>exact⟨G.1.trans H.1,G.2.trans H.2⟩
theorem Hw {own:List Nat}{ts G:List U}(h:ts.Perm G):kL (T.resL own (T.parL ts))=kL (T.resL own (T.parL G)):=by
 unfold kL;have e:∀ts:List U,td (T.resL own (T.parL ts))=Lv.kept (own++(joinL (ts.map flat)).1) (joinL (ts.map λt=>Lv.tid (flat t).2)):=λts=>by
  show Lv.tidy (flat _).1 (flat _).2=_;rw [qg,mF];simp only [Lv.tidy,BP]
 rw [e,e];have H:=xg (h.map flat);have h2:=xg (h.map λt=>Lv.tid (flat t).2);refine HL ?_ h2.2;simp only [Lv.kept];rw [show(λx=>(joinL (ts.map λt=>Lv.tid (flat t).2)).2.has x)=λx=>(joinL (G.map λt=>Lv.tid (flat t).2)).2.has x from funext h2.2.has];exact(((PW _).append H.1).append h2.1).filter _
end Go.Proofs.YtdecokaadekjnaaGreat
namespace Go.Proofs.YtdecokaadekjnaaGreat
open Go Go.RowKit
def ρN:Rh:=λx=>if x< 26 then UInt8.ofNat (97+x)else 0
theorem NZ:NW (cB []) ρN:=λx=>by
 unfold ρN;refine⟨?_,λh=>Pj h,λh=> .inr ⟨rfl,O1 (by omega)⟩⟩;split
 ·rename_i h;revert h;revert x;decide+kernel
 ·decide
theorem JT {x:Nat}(h:x< 26):uL 1 x=nC (UInt8.ofNat (97+x))/\lt (UInt8.ofNat (97+x))=true/\e0 (UInt8.ofNat (97+x))=x:=by
 have G:lt (UInt8.ofNat (97+x))=true:=by revert x;decide+kernel
 have H:(UInt8.ofNat (97+x)).toNat=97+x:=by rw [PT];omega
 refine⟨?_,G,by unfold e0;rw [H];omega⟩;unfold nC;rw [ij G,H,show 97+x - 97=x by omega]
def Gi (l:Lv)(i:Nat):Tk:=λc=>lt c&&(decide (c.toNat - 97< i)&&l.has (e0 c))
theorem Gu (l:Lv)(c:UInt8):Gi l 0 c=false:=by simp [Gi]
theorem Jt (l:Lv):Gi l 26=mu l:=by
 funext c
 unfold Gi mu;cases h:lt c
 ·rfl
 ·have :=bj h;simp [show c.toNat - 97< 26 by omega]
theorem ke.congr {x:UInt32}{tk tk':Tk}(h:ke x tk)(e:∀c,lt c=true->tk c=tk' c):ke x tk':=λc hc=>by rw [h c hc,e c hc]
theorem MS {w:World}{n r:Nat}{ρ:Rh}{tk tk':Tk}{bad:Bool}(h:Nm w n r ρ tk bad)(e:∀c,lt c=true->tk c=tk' c):Nm w n r ρ tk' bad:=by
 obtain⟨x,G,h2⟩:=h.c1;exact⟨h.lt,h.lr,h.ne,h.c0,h.mp,⟨x,G,h2.congr e⟩,h.c2,h.f⟩
theorem Bt {l:Lv}{i:Nat}(hi:i< 26)(c:UInt8)(hc:lt c=true):(l.has i=true->cz (Gi l i) (UInt8.ofNat (97+i)) c=Gi l (i+1) c)/\(l.has i=false->Gi l i c=Gi l (i+1) c):=by
 have V:=bj hc;have J:(UInt8.ofNat (97+i)).toNat=97+i:=by rw [PT];omega
 have he:e0 c=c.toNat - 97:=rfl;unfold cz Gi;rw [hc,he];by_cases h:c.toNat - 97=i
 ·have e:c=UInt8.ofNat (97+i):=Pe.1 (by omega);rw [h];constructor
  ·intro G;have hb:(c==UInt8.ofNat (97+i))=true:=by rw [e];exact beq_self_eq_true _
   rw [hb,G];simp
  ·intro G;simp [G]
 ·have e:c≠UInt8.ofNat (97+i):=λe=>h (by rw [e,J];omega)
  have H:decide (c.toNat - 97< i)=decide (c.toNat - 97< i+1):=by
   rw [QY];omega
  constructor
  ·intro _;rw [show(c==UInt8.ofNat (97+i))=false by simpa using e,H];simp
  ·intro _;rw [H]
theorem xa {D:Nat->Prop}{w:World}{v:Value}{o:List Nat}{l:Lv}(h:gB D w v o (ah D w l))(υ:l.sh true=true)(htot:o.length+l.tot<=4294967295)(huq:ve (Lv.tidy o l).1 (Lv.tidy o l).2)(hfr:∀x,x∉(Lv.tidy o l).1->(Lv.tidy o l).2.fh x->x< 26){R:aB->Bool->Sl}
  (hR:∀w',Ex w w'->(∀s,Cs (Lv.tidy o l)=some s->R s true w')/\(Cs (Lv.tidy o l)=none->R [] false w')):Sm 216 #[v] w (an [.s,.b] R):=by
 refine lE v w R ?_;dsimp only [go_sem];dsimp only [go_sem,UInt8.reduceOfNat,UInt32.reduceOfNat,Nat.reduceAdd];refine Ha _ (OQ _) υ h (by omega) λv2 w3 x3 h2=>?_
 have htt:=oW o l;have V:(Lv.tidy o l).2.sh true=true:=Lv.dV _ _ υ;have φ:(Lv.tidy o l).2.sm=true:=Lv.oh _;generalize hr:Lv.tidy o l=r at*;obtain⟨J,l2⟩:=r;simp only at*;have hst:=Lv.kj l2;have hN:∀b,Cs (J,l2)=b->(b=none->∀w',Ex w w'->R [] false w'):=λb e1 e2 w' x=>(hR w' x).2 (e1.trans e2)
 refine He _ (o:=J) (l:=l2) (OQ _) V h2 (by show J.length+l2.tot<=_;omega) λw6 x6=>?_
 have ι:Ex w w6:=Ex.trans x3 x6;have W:¬(max J.length (ax l2)<=5/\J.length+thAll l2<=8)->Cs (J,l2)=none:=λhc=>by unfold Cs;rw [O1 (λh=>hc h.1)]
 by_cases h5:5< max J.length (ax l2)
 ·exact dQ (by omega) ((hR w6 ι).2 (W (by omega)))
 refine cF (by omega) ?_;by_cases h8:8< J.length+thAll l2
 ·exact dc (by omega) ((hR w6 ι).2 (W (by omega)))
 refine aW (by omega) λb7 w8 hb7 κ=>⟨trivial,λb9 β γ G=>?_⟩
 have x8:Ex w6 w8:=κ▸Ex.alloc w6 _;have χ:Ex w8 β:=G▸Ex.alloc w8 _;have s8:w8.heap.size=w6.heap.size+1:=by rw [κ,size_alloc]
 have s10:β.heap.size=w8.heap.size+1:=by rw [G,size_alloc]
 have s6:=x6.size;have s3:=x3.size;have e7:β.heap[b7]?=some (.map #[] 0):=by
  rw [χ.block b7 (by omega),κ,hb7];unfold World.alloc;simp
 have n10:Nm β b9 b7 ρN (Gi l2 0) false:=by
  refine⟨by omega,by omega,by omega,by rw [G,γ];exact aa rfl,⟨cB [],⟨#[],0,e7,⟨by simp,by simp,by simp⟩,by simp,λq=>rfl⟩,NZ⟩,⟨0,by rw [G,γ];exact aa rfl,λc _=>?_⟩,by rw [G,γ];exact aa rfl,λj=>by rw [G,γ];exact aG _ _ _ _⟩;rw [Gu];simp
 have h3:gB (λg=>ES w g/\g< w3.heap.size) w3 v2 J (ah (λg=>ES w g/\g< w3.heap.size) w3 l2):=aC.sub (L:=(J,l2)) h2 λg hg hd=>⟨hd,hg⟩
 have hD:∀g,(ES w g/\g< w3.heap.size)->¬(g=b9\/g=b7):=λg hg=>by omega
 have ζ:∀{w1:World},Ex w3 w1->gB (λg=>ES w g/\g< w3.heap.size) w1 v2 J (ah (λg=>ES w g/\g< w3.heap.size) w1 l2):=λk=>gB.ex h3 k
 refine⟨λx w'=>∃i:Nat,x=i/\i<=26/\Ex w6 w'/\Nm w' b9 b7 ρN (Gi l2 i) false,λx _=>(26 - x).toNat,⟨0,rfl,by omega,Ex.trans x8 χ,n10⟩,λx w14 hI=>?_⟩;obtain⟨i,rfl,hi,Z,μ⟩:=hI;refine⟨λhlt=>?_,λhge=>?_⟩
 ·have ν:i< 26:=by simp only [OW]at hlt;omega
  obtain⟨eb1,eb2,eb3⟩:=JT ν;refine My _ (OQ _) V (ζ (Ex.trans x6 Z)) (by omega) λδ ψ=>?_
  have ε:=μ.ex ψ;have η:Ex w6 δ:=Ex.trans Z ψ;refine⟨λhh=>⟨λw'=>Ex δ w',λw18 ω=>?_⟩,λhh=>⟨by omega,⟨i+1,by omega,by omega,η,MS ε λc hc=>(Bt ν c hc).2 hh⟩,by show((26:Int) - ((i:Int)+1)).toNat< ((26:Int) - i).toNat;omega⟩⟩;have ξ:Ex δ w18:=ω▸Ex.drew δ;obtain⟨y,hy,hyt⟩:=ε.c1;have ο:=ε.ex ξ;obtain⟨y',hy',_⟩:=ο.c1;refine⟨ξ,y,λw' x'=>by rw [x'.cell (show b9< _ from ε.lt)];exact hy,by omega,⟨⟨_,hy'⟩,ο.f 1⟩,λw21 θ=>⟨by omega,⟨i+1,by omega,by omega,?_,?_⟩,by show((26:Int) - ((i:Int)+1)).toNat< ((26:Int) - i).toNat;omega⟩⟩
  ·exact θ▸Ex.own (Ex.trans η ξ) (by omega) _
  ·refine MS (ο.set (tk':=cz (Gi l2 i) (UInt8.ofNat (97+i))) (bad':=false) θ (.inl ⟨rfl,rfl,_,rfl,?_⟩)) λc hc=>(Bt ν c hc).1 hh
   rw [OU,eb1];exact hyt.add eb2
 ·have:i=26:=by simp only [OV]at hge;omega
  subst this;rw [Jt]at μ;have hlS:aU J (thS l2) ρN (mu l2)=aU J (thS l2) ρ0 (mu l2):=ef (H:=λx=>l2.fh x) (λρ ρ' tk=>iF l2 ρ ρ' tk) (λρ ρ' tk h=>uh l2 ρ ρ' tk h) λx hx hf=>by
   have :=hfr x hx hf;unfold ρN ρ0;rw [Pj this]
  refine Ni _ (OQ _) V φ huq (ζ (Ex.trans x6 Z)) hD μ (by omega) λς ρ' k23 n23 _=>⟨_,n23.c2,?_⟩
  rw [hlS,Rq];have x23:Ex w6 ς:=Ex.below Z (Kp.below k23 Z.size λg hg e=>by omega);have α:Ex w ς:=Ex.trans ι x23;refine⟨λhb=>BD λq w26 x26 hq=>⟨λh=>(hR w26 (Ex.trans α x26)).2 ?_,λh=>(hR w26 (Ex.trans α x26)).1 _ ?_⟩,λhb=>(hR ς α).2 ?_⟩
  ·unfold Cs;have:¬dG (aU J (thS l2) ρ0 (mu l2)):=λhg=>by rw [hq.2 hg]at h;cases h
   rw [O1 (λh=>this h.2.2)]
  ·unfold Cs;have:dG (aU J (thS l2) ρ0 (mu l2)):=hq.1 (by cases q<;>first | rfl | cases h);rw [Pj ⟨⟨by show max J.length (ax l2)<=5;omega,by show J.length+thAll l2<=8;omega⟩,hb,this⟩]
  ·unfold Cs;rw [O1 (λh=>by have :=h.2.1;rw [hb]at this;cases this)]
end Go.Proofs.YtdecokaadekjnaaGreat
namespace Go.Proofs.YtdecokaadekjnaaGreat
open Go
attribute [go_sem] Tryz.f92
theorem xQ (n1:aB)(w:World)(R:Value->Sl)(h:vc az (bf [] [] [(3,true,.lt 0 (.lt 1 (.lt 2 (.lt 3 (.lt 4 (.one .n 5 (.one .n 6 (.one .n 7 (.lt 8 (.lt 9 (.one .n 10 .done)))))))))))]) (ab Tryz.f92) (aj 0 [.s n1]) w (fin az [.tmp 2 .v] R)):
  Sm 92 #[(.string (ai n1))] w (an [.v] R):=
 bD Tryz.func92 (by kernel_rfl) h
attribute [go_sem] Tryz.f135
theorem rH (G:aB)(w:World)(R:Value->Bool->Sl)(h:vc az (bf [] [] []) (ab Tryz.f135) (aj 0 [.s G]) w (fin az [.tmp 2 .v,.tmp 3 .b] R)):
  Sm 135 #[(.string (ai G))] w (an [.v,.b] R):=
 bD Tryz.func135 (by kernel_rfl) h
theorem eU (t1:Value)(w:World)(R:Value->Sl)(h:bH t1 λb2 o3=>AV w b2 (o3+0) λc4=>∃J5:Bool->Sl,(bC (decide (c4=126)) (J5 ((decide (c4=126))) w) (bC (decide (c4=33)) (J5 ((decide (c4=33))) w) (J5 ((decide (c4=63))) w)))/\∀(x6:Bool) (w7:World),J5 x6 w7->bC x6 (ja w7 λS8 w9=>bH t1 λb10 o11=>M6 S8 b10 (o11+0) λc12=>bH t1 λb13 o14=>wF S8 b13 (o14+1) λn15=>bH t1 λb16 o17=>wF S8 b16 (o17+2) λn18=>bH t1 λb19 o20=>dC S8 b19 (o20+3) λv21=>ay v21=true/\cc w9 (.cells #[(.int .u8 c12.toNat),(.int .i64 n15),(.int .i64 n18),v21,(.bool false)] 160) λb22 κ=>S8 κ/\R ((.slice (some ⟨b22,0,none⟩) 1 1)) κ) (bC (decide (c4=42)) (cc w7 (.cells #[] 160) λb24 η=>bH t1 λb26 o27=>bz η b26 (o27+3) λv28=>bH v28 λb29 o30=>bz η b29 (o30+1) λv31=>dO v31 λl33=>vQ ((.slice (some ⟨b24,0,none⟩) 0 0)) 0 η λμ γ W G H=>bC (decide (G< (l33:Int))) (cJ v31 G λb40 o41=>bz H b40 (o41+G.toNat* 1) λδ=>bH δ λb45 o46=>AV H b45 (o46+0) λc47=>bC (decide (c47=63)) (ja H λZ w49=>bH δ λb50 o51=>wF Z b50 (o51+1) λn52=>bH δ λb53 o54=>wF Z b53 (o54+2) λn55=>bH δ λb56 o57=>dC Z b56 (o57+3) λν=>ay ν=true/\cc w49 (.cells #[(.int .u8 (UInt8.toNat 63)),(.int .i64 n52),(.int .i64 n55),ν,(.bool true)] 160) λb59 ξ=>Z ξ/\iS 160 5 40 ξ W (.slice (some ⟨b59,0,none⟩) 1 1) λο θ=>Z θ/\a7 (G+1)/\μ ο (G+1) θ/\γ ο (G+1) θ< γ W G H) (a7 (G+1)/\μ W (G+1) H/\γ W (G+1) H< γ W G H)) (R W H)) (bC (decide (c4=43)) (cc w7 (.cells #[] 160) λb68 ς=>bH t1 λb70 o71=>bz ς b70 (o71+4) λv72=>dO v72 λl74=>vQ ((.slice (some ⟨b68,0,none⟩) 0 0)) 0 ς λI76 υ ι J α=>bC (decide (J< (l74:Int))) (cJ v72 J λb81 o82=>bz α b81 (o82+J.toNat* 1) λv85=>bH v85 λb86 o87=>bz α b86 (o87+1) λφ=>dO φ λl90=>vQ ι 0 α λI92 χ ε V β=>bC (decide (V< (l90:Int))) (cJ φ V λb97 o98=>bz β b97 (o98+V.toNat* 1) λψ=>wQ 140 #[ψ] β λω w103=>iS 160 5 40 w103 ε ω λv109 ζ=>a7 (V+1)/\I92 v109 (V+1) ζ/\χ v109 (V+1) ζ< χ ε V β) (a7 (J+1)/\I76 ε (J+1) β/\υ ε (J+1) β< υ ι J α)) (R ι α)) (R (.slice none 0 0) w7)))):
  Sm 140 #[t1] w (an [.v] R):=
 D5 (bf [(9,[(3,.v),(48,.i)]),(18,[(6,.v),(83,.i)]),(21,[(6,.v),(92,.i)])] [(5,[(15,.b)])] [(5,true,.lt 0 (.lt 1 (.lt 2 (.lt 3 (.lt 4 (.lt 5 (.lt 6 (.lt 7 (.lt 8 (.lt 9 (.lt 10 (.lt 11 (.lt 12 (.lt 13 (.lt 14 (.lt 15 (.lt 16 (.one .g 17 (.lt 18 .done))))))))))))))))))),(12,true,.lt 0 (.lt 1 (.lt 2 (.lt 3 (.lt 4 (.lt 5 (.lt 6 (.lt 7 (.lt 8 (.lt 9 (.lt 10 (.lt 11 (.lt 12 (.lt 13 (.one .g 14 (.one .g 15 (.lt 16 .done)))))))))))))))))]) [.tmp 2 .v] [.v t1] Tryz.func140 (by kernel_rfl) h
attribute [go_sem] Tryz.f223
theorem nz (s1:Value)(v2:Int)(w:World)(R:Int->Sl)(h:vc az (bf [(2,[(8,.i)])] [] []) (ab Tryz.f223) (aj 0 [.v s1,.i v2]) w (fin az [.tmp 4 .i] R)):
  Sm 223 #[s1,(.int .i64 v2)] w (an [.i] R):=
 bD Tryz.func223 (by kernel_rfl) h
attribute [go_sem] Tryz.f188
theorem ki (s1:Value)(v2:Int)(w:World)(R:Bool->Sl)(h:vc az (bf [] [] []) (ab Tryz.f188) (aj 0 [.v s1,.i v2]) w (fin az [.tmp 4 .b] R)):
  Sm 188 #[s1,(.int .i64 v2)] w (an [.b] R):=
 bD Tryz.func188 (by kernel_rfl) h
attribute [go_sem] Tryz.f176
theorem nD (s1:Value)(g2:Value)(G:Value)(m4:Value)(w:World)(R:aB->Bool->Sl)(h:vc az (bf [(3,[(27,.i)]),(9,[(49,.i)])] [] []) (ab Tryz.f176) (aj 0 [.v s1,.v g2,.v G,.v m4]) w (fin az [.tmp 8 .s,.tmp 9 .b] R)):
  Sm 176 #[s1,g2,G,m4] w (an [.s,.b] R):=
 bD Tryz.func176 (by kernel_rfl) h
attribute [go_sem] Tryz.f99
theorem np (r1:Value)(s2:aB)(G:Bool)(w:World)(R:Sl)(h:vc az (bf [] [] []) (ab Tryz.f99) (aj 0 [.v r1,.s s2,.b G]) w (fin az [] R)):
  Sm 99 #[r1,(.string (ai s2)),(.bool G)] w (an [] R):=
 bD Tryz.func99 (by kernel_rfl) h
attribute [go_sem] Tryz.f239
theorem jU (G:Int)(c2:Value)(w:World)(R:Int->Sl)(h:vc az (bf [] [] []) (ab Tryz.f239) (aj 0 [.i G,.v c2]) w (fin az [.tmp 3 .i] R)):
  Sm 239 #[(.int .i64 G),c2] w (an [.i] R):=
 bD Tryz.func239 (by kernel_rfl) h
theorem lN (m1:Value)(l2:Value)(t3:Value)(w:World)(R:Value->Sl)(h:ay t3=true/\cc w (.cells #[t3] 226) λb4 w5=>cc w5 (.cells #[(.slice none 0 0),(.slice none 0 0)] 155) λb6 w7=>bH l2 λb8 o9=>bz w7 b8 (o9+0) λv10=>dO v10 λl12=>kH 0 w7 λI14 m15 Z η=>bC (decide (Z< (l12:Int))) (cJ v10 Z λb18 o19=>B5 η b18 (o19+Z.toNat* 1) λn22=>ja η λS23 w24=>dC S23 b4 0 λv25=>I6 178 #[m1] w24 λn26 w27=>S23 w27/\∃(ο:Nat) (m29:Value->Option Value),v25= .map (some ο)/\IsMap w27 ο (.int .i64) m29/\∀w30:World,IsMap w30 ο (.int .i64) (bR m29 (.int .i64 n22) (.int .i64 n26))->bw w27 w30 ο->ja w30 λθ yX=>dC θ b6 0 λv33=>dC θ b4 0 λv34=>∃(r35:Nat) (m36:Value->Option Value),v34= .map (some r35)/\IsMap yX r35 (.int .i64) m36/\∃y37:Int,∃g38:Bool,((g38=true/\m36 (.int .i64 n22)=some (.int .i64 y37))\/(g38=false/\m36 (.int .i64 n22)=none/\(Value.int .i64 y37)=(.int .i64 0)))/\θ yX/\cc yX (.cells #[(.int .i64 y37)] 3) λb39 w40=>θ w40/\iS 3 1 8 w40 v33 (.slice (some ⟨b39,0,none⟩) 1 1) λv46 w47=>θ w47/\ay v46=true/\fH w47 b6 0 v46 λw49=>a7 (Z+1)/\I14 (Z+1) w49/\m15 (Z+1) w49< m15 Z η) (bH l2 λb50 o51=>bz η b50 (o51+1) λv52=>dO v52 λl54=>kH 0 η λI56 m57 α ι=>bC (decide (α< (l54:Int))) (cJ v52 α λb60 o61=>bz ι b60 (o61+α.toNat* 1) λG=>bH G λb65 o66=>AV ι b65 (o66+0) λc67=>cc ι (.cells #[(.int .u8 c67.toNat),(.int .i64 0),(.int .i64 0),(.pointer none),(.slice none 0 0)] 201) λJ β=>∃ζ:Sl,(bH G λb71 o72=>AV β b71 (o72+0) λς=>bC (decide (ς=63)) (bH G λb74 o75=>B5 β b74 (o75+1) λn76=>∃(f77:Nat) (c78:List Value),(Value.func (.func 239) #[] #[(.pointer (some ⟨b4,0,none⟩))])= .func (.func f77) #[] (List.toArray c78)/\hasR gj f77=true/\I6 f77 (List.toArray ([(.int .i64 n76)]++c78)) β λn79 w80=>fH w80 J 1 (.int .i64 n79) λw82=>ja w82 λS83 w84=>dC S83 b4 0 λv85=>bH G λb86 o87=>wF S83 b86 (o87+2) λn88=>I6 178 #[m1] w84 λn89 w90=>S83 w90/\∃(υ:Nat) (m92:Value->Option Value),v85= .map (some υ)/\IsMap w90 υ (.int .i64) m92/\∀w93:World,IsMap w93 υ (.int .i64) (bR m92 (.int .i64 n88) (.int .i64 n89))->bw w90 w93 υ->ja w93 λS94 w95=>dC S94 b4 0 λv96=>bH G λb97 o98=>wF S94 b97 (o98+2) λn99=>∃(φ:Nat) (κ:Value->Option Value),v96= .map (some φ)/\IsMap w95 φ (.int .i64) κ/\∃μ:Int,∃χ:Bool,((χ=true/\κ (.int .i64 n99)=some (.int .i64 μ))\/(χ=false/\κ (.int .i64 n99)=none/\(Value.int .i64 μ)=(.int .i64 0)))/\fH w95 J 2 (.int .i64 μ) λw105=>ζ w105) (bC (decide (ς=33)) (bC (decide (ς=33)) (ja β λγ w107=>bH G λb108 o109=>wF γ b108 (o109+1) λn110=>bH G λb111 o112=>wF γ b111 (o112+2) λn113=>∃(f114:Nat) (ψ:List Value),(Value.func (.func 239) #[] #[(.pointer (some ⟨b4,0,none⟩))])= .func (.func f114) #[] (List.toArray ψ)/\hasR gj f114=true/\I6 f114 (List.toArray ([(.int .i64 n110)]++ψ)) w107 λn116 ω=>γ ω/\∃(f118:Nat) (c119:List Value),(Value.func (.func 239) #[] #[(.pointer (some ⟨b4,0,none⟩))])= .func (.func f118) #[] (List.toArray c119)/\hasR gj f118=true/\I6 f118 (List.toArray ([(.int .i64 n113)]++c119)) ω λn120 w121=>γ w121/\fH w121 J 1 (.int .i64 n116) λw123=>fH w123 J 2 (.int .i64 n120) λw125=>ζ w125) (ζ β)) (bC (decide (ς=61)) (ja β λδ w127=>bH G λb128 o129=>wF δ b128 (o129+1) λn130=>bH G λb131 o132=>wF δ b131 (o132+2) λn133=>∃(f134:Nat) (c135:List Value),(Value.func (.func 239) #[] #[(.pointer (some ⟨b4,0,none⟩))])= .func (.func f134) #[] (List.toArray c135)/\hasR gj f134=true/\I6 f134 (List.toArray ([(.int .i64 n130)]++c135)) w127 λn136 w137=>δ w137/\∃(f138:Nat) (c139:List Value),(Value.func (.func 239) #[] #[(.pointer (some ⟨b4,0,none⟩))])= .func (.func f138) #[] (List.toArray c139)/\hasR gj f138=true/\I6 f138 (List.toArray ([(.int .i64 n133)]++c139)) w137 λn140 w141=>δ w141/\fH w141 J 1 (.int .i64 n136) λw143=>fH w143 J 2 (.int .i64 n140) λw145=>ζ w145) (ζ β))))/\∀(ε:World),ζ ε->∃ν:Sl,(bH G λb148 o149=>bz ε b148 (o149+3) λv150=>∃q151:Option Addr,v150= .pointer q151/\bC (!Option.isNone q151) (ja ε λS152 w153=>bH G λb154 o155=>dC S152 b154 (o155+3) λv156=>dC S152 b4 0 λv157=>wQ 217 #[m1,v156,v157] w153 λv158 w159=>ay v158=true/\fH w159 J 3 v158 λw161=>ν w161) (ν ε))/\∀(ξ:World),ν ξ->bH G λb163 o164=>bz ξ b163 (o164+4) λv165=>dO v165 λl167=>kH 0 ξ λI169 m170 H V=>bC (decide (H< (l167:Int))) (cJ v165 H λb173 o174=>bz V b173 (o174+H.toNat* 1) λv177=>ja V λW w179=>dC W J 4 λv180=>dC W b4 0 λv181=>wQ 217 #[m1,v177,v181] w179 λv182 w183=>W w183/\ay v182=true/\cc w183 (.cells #[v182] 146) λb184 w185=>W w185/\iS 146 1 8 w185 v180 (.slice (some ⟨b184,0,none⟩) 1 1) λv191 w192=>W w192/\ay v191=true/\fH w192 J 4 v191 λw194=>a7 (H+1)/\I169 (H+1) w194/\m170 (H+1) w194< m170 H V) (bz V b6 1 λv195=>cc V (.cells #[(.pointer (some ⟨J,0,none⟩))] 156) λb196 w197=>iS 156 1 8 w197 v195 (.slice (some ⟨b196,0,none⟩) 1 1) λv203 w204=>ay v203=true/\fH w204 b6 1 v203 λw206=>a7 (α+1)/\I56 (α+1) w206/\m57 (α+1) w206< m57 α ι)) (R ((.pointer (some ⟨b6,0,none⟩))) ι))):
  Sm 217 #[m1,l2,t3] w (an [.v] R):=
 D5 (bf [(3,[(23,.i)]),(10,[(50,.i)]),(24,[(132,.i)])] [(21,[]),(23,[])] [(5,true,.lt 0 (.lt 1 (.lt 2 (.one .g 3 (.one .n 4 .done))))),(6,true,.lt 0 (.lt 1 (.lt 2 (.lt 3 (.lt 4 (.lt 5 (.lt 6 (.one .g 7 (.one .g 8 (.one .g 9 (.lt 10 (.lt 11 (.one .n 12 .done))))))))))))),(16,true,.lt 0 (.lt 1 (.lt 2 (.lt 3 (.lt 4 (.lt 5 (.one .g 6 (.one .n 7 .done)))))))),(17,true,.lt 0 (.lt 1 (.lt 2 (.lt 3 (.lt 4 (.lt 5 (.one .n 6 (.lt 7 (.lt 8 (.one .n 9 .done)))))))))),(20,true,.lt 0 (.lt 1 (.lt 2 (.lt 3 (.lt 4 (.lt 5 (.lt 6 (.lt 8 (.lt 9 (.lt 10 (.lt 11 (.lt 12 (.one .g 7 (.one .g 13 (.lt 14 (.lt 15 (.one .n 16 (.lt 17 (.lt 18 (.one .n 19 .done)))))))))))))))))))),(22,true,.lt 0 (.lt 1 (.lt 2 (.lt 3 (.lt 4 (.lt 5 (.lt 6 (.one .n 7 (.lt 8 (.lt 9 (.one .n 10 .done))))))))))),(26,true,.lt 0 (.lt 1 (.lt 2 (.lt 3 (.lt 4 (.lt 5 (.lt 6 (.lt 7 (.one .g 8 (.one .g 9 (.one .g 10 (.lt 11 (.lt 12 (.one .n 13 .done))))))))))))))]) [.tmp 6 .v] [.v m1,.v l2,.v t3] Tryz.func217 (by kernel_rfl) h
attribute [go_sem] Tryz.f177
theorem j5 (s1:Value)(G:Value)(H:Int)(w:World)(R:Value->Sl)(h:vc az (bf [] [] [(1,true,.lt 0 (.lt 1 (.lt 2 (.lt 3 (.lt 4 (.lt 6 (.lt 7 (.lt 8 (.one .g 5 (.one .g 9 (.lt 10 (.one .g 11 (.lt 12 .done)))))))))))))]) (ab Tryz.f177) (aj 0 [.v s1,.v G,.i H]) w (fin az [.tmp 6 .v] R)):
  Sm 177 #[s1,G,(.int .i64 H)] w (an [.v] R):=
 bD Tryz.func177 (by kernel_rfl) h
theorem iK (s1:Value)(w:World)(R:Value->Sl)(h:dO s1 λl3=>bC (decide ((l3:Int)< 2)) (R s1 w) (kH 1 w λI5 m6 J w8=>dO s1 λψ=>bC (decide (J< (ψ:Int))) (ja w8 λξ κ=>cJ s1 J λω o15=>Gd ξ ω (o15+J.toNat* 1) λs18=>a7 (J - 1)/\cJ s1 (J - 1) λb19 o20=>Gd ξ b19 (o20+Int.toNat (J - 1)* 1) λs23=>bC (decide (s18=s23)) (∃(a24:Option Addr) (W V:Nat),s1= .slice a24 W V/\0<=(J:Int)/\(J:Int)<=(W:Int)/\(W:Int)<=(V:Int)/\NX J 1 κ λο α G H Z=>dO (.slice (if V=J.toNat then a24 else Option.map (·.add (J.toNat* 1)) a24) (Int.toNat (W:Int) - J.toNat) (V - J.toNat)) λl33=>bC (decide (H< (l33:Int))) (ja Z λς β=>cJ (.slice (if V=J.toNat then a24 else Option.map (·.add (J.toNat* 1)) a24) (Int.toNat (W:Int) - J.toNat) (V - J.toNat)) H λb37 o38=>Gd ς b37 (o38+H.toNat* 1) λs41=>a7 (H - 1)/\cJ (.slice (if V=J.toNat then a24 else Option.map (·.add (J.toNat* 1)) a24) (Int.toNat (W:Int) - J.toNat) (V - J.toNat)) (H - 1) λb42 o43=>Gd ς b42 (o43+Int.toNat (H - 1)* 1) λs46=>bC (!decide (s41=s46)) (cJ (.slice (if V=J.toNat then a24 else Option.map (·.add (J.toNat* 1)) a24) (Int.toNat (W:Int) - J.toNat) (V - J.toNat)) H λb47 o48=>qb β b47 (o48+H.toNat* 1) λs51=>cJ s1 G λb52 o53=>fH β b52 (o53+G.toNat* 1) (.string (ai s51)) λυ=>a7 (G+1)/\a7 (H+1)/\ο (G+1) (H+1) υ/\α (G+1) (H+1) υ< α G H Z) (a7 (H+1)/\ο G (H+1) β/\α G (H+1) β< α G H Z)) (∃(μ:Option Addr) (γ δ:Nat),s1= .slice μ γ δ/\0<=(G:Int)/\(G:Int)<=(γ:Int)/\(γ:Int)<=(δ:Int)/\∃(φ:Option Addr) (ε c63:Nat),(Value.slice (if δ=G.toNat then μ else Option.map (·.add (G.toNat* 1)) μ) (Int.toNat (γ:Int) - G.toNat) (δ - G.toNat))= .slice φ ε c63/\((ε=0/\∃(ν:Option Addr) (l68 ζ:Nat),s1= .slice ν l68 ζ/\0<=(0:Int)/\(0:Int)<=G/\G<=(ζ:Int)/\R ((.slice (if ζ=Int.toNat 0 then ν else Option.map (·.add (Int.toNat 0* 1)) ν) (G.toNat - Int.toNat 0) (ζ - Int.toNat 0))) Z)\/∃(η θ:Nat),φ=some ⟨η,θ,none⟩/\(∀j,j< ε->(∃u,World.cell? Z ⟨η,θ+j,none⟩=some u)/\World.frozen? Z ⟨η,θ+j,none⟩=false)/\∀χ:World,χ=World.setCells Z η θ (List.replicate ε (.string ⟨#[]⟩))->∃(a70:Option Addr) (l71 ι:Nat),s1= .slice a70 l71 ι/\0<=(0:Int)/\(0:Int)<=G/\G<=(ι:Int)/\R ((.slice (if ι=Int.toNat 0 then a70 else Option.map (·.add (Int.toNat 0* 1)) a70) (G.toNat - Int.toNat 0) (ι - Int.toNat 0))) χ))) (a7 (J+1)/\I5 (J+1) κ/\m6 (J+1) κ< m6 J w8)) (R s1 w8))):
  Sm 149 #[s1] w (an [.v] R):=
 D5 (bf [(4,[(3,.i)]),(9,[(3,.i),(5,.i)])] [] [(6,true,.lt 0 (.lt 1 (.lt 2 (.lt 3 (.lt 4 (.lt 5 (.lt 6 (.lt 7 (.lt 8 (.lt 9 .done)))))))))),(11,true,.lt 0 (.lt 1 (.lt 2 (.lt 3 (.lt 4 (.lt 5 (.lt 6 (.lt 7 (.lt 8 (.lt 9 .done))))))))))]) [.tmp 2 .v] [.v s1] Tryz.func149 (by kernel_rfl) h
attribute [go_sem] Tryz.f100
theorem lU (r1:Value)(w:World)(R:Value->Bool->Sl)(h:vc az (bf [] [] []) (ab Tryz.f100) (aj 0 [.v r1]) w (fin az [.tmp 2 .v,.tmp 3 .b] R)):
  Sm 100 #[r1] w (an [.v,.b] R):=
 bD Tryz.func100 (by kernel_rfl) h
theorem iN (s1:Value)(w:World)(R:Value->Bool->Sl)(h:cc w (.cells #[(.slice none 0 0),(.bool false)] 115) λb2 w3=>bH s1 λb4 o5=>bz w3 b4 (o5+2) λv6=>bH v6 λb7 o8=>bz w3 b7 (o8+1) λv9=>dO v9 λl11=>kH 0 w3 λI13 m14 α χ=>bC (decide (α< (l11:Int))) (cJ v9 α λb17 o18=>bz χ b17 (o18+α.toNat* 1) λv21=>wQ 140 #[v21] χ λv22 w23=>dO v22 λl25=>kH 0 w23 λI27 ψ J γ=>bC (decide (J< (l25:Int))) (cJ v22 J λκ μ=>∃c35:UInt8,∃n36:Int,∃n37:Int,∃v38:Value,∃q39:Bool,(World.cell? γ ⟨κ,(μ+J.toNat* 5),none⟩=some (.int .u8 c35.toNat)/\World.cell? γ ⟨κ,((μ+J.toNat* 5)+1),none⟩=some (.int .i64 n36)/\World.cell? γ ⟨κ,(((μ+J.toNat* 5)+1)+1),none⟩=some (.int .i64 n37)/\World.cell? γ ⟨κ,((((μ+J.toNat* 5)+1)+1)+1),none⟩=some v38/\World.cell? γ ⟨κ,(((((μ+J.toNat* 5)+1)+1)+1)+1),none⟩=some (.bool q39)/\True)/\cc γ (.cells #[(.int .u8 0),(.int .i64 0),(.int .i64 0),(.pointer none),(.bool false)] 160) λη w41=>zC w41 η 0 5 [(.int .u8 c35.toNat),(.int .i64 n36),(.int .i64 n37),v38,(.bool q39)] λw42=>∃ω:Sl,(AV w42 η 0 λc44=>bC (decide (c44=126)) (ja w42 λβ w46=>bH s1 λb47 o48=>dC β b47 (o48+2) λv49=>bH v49 λb50 o51=>dC β b50 (o51+0) λv52=>dC β η 3 λv53=>(cc w46 (.cells #[(.int .i64 α)] 3) λb54 w55=>β w55/\ay v53=true/\cc w55 (.cells #[v53] 146) λb56 w57=>β w57/\CA 176 #[s1,(.slice (some ⟨b54,0,none⟩) 1 1),v52,(.slice (some ⟨b56,0,none⟩) 1 1)] w57 λs58 q59 w60=>β w60/\fC 99 #[(.pointer (some ⟨b2,0,none⟩)),(.string (ai s58)),(.bool q59)] w60 λw61=>β w61/\ω w61)/\(ay v53=true/\cc w46 (.cells #[v53] 146) λb62 w63=>β w63/\cc w63 (.cells #[(.int .i64 α)] 3) λb64 w65=>β w65/\CA 176 #[s1,(.slice (some ⟨b64,0,none⟩) 1 1),v52,(.slice (some ⟨b62,0,none⟩) 1 1)] w65 λs66 q67 w68=>β w68/\fC 99 #[(.pointer (some ⟨b2,0,none⟩)),(.string (ai s66)),(.bool q67)] w68 λw69=>β w69/\ω w69)) (ω w42))/\∀(θ:World),ω θ->AV θ η 0 λc71=>bC (!decide (c71=33)) (a7 (J+1)/\I27 (J+1) θ/\ψ (J+1) θ< ψ J γ) (bH s1 λb72 o73=>bz θ b72 (o73+2) λv74=>bH v74 λb75 o76=>bz θ b75 (o76+1) λv77=>dO v77 λl79=>kH 0 θ λI81 m82 δ ν=>bC (decide (δ< (l79:Int))) (cJ v77 δ λb85 o86=>bz ν b85 (o86+δ.toNat* 1) λv89=>wQ 140 #[v89] ν λv90 w91=>dO v90 λl93=>kH 0 w91 λI95 ε G Z=>bC (decide (G< (l93:Int))) (cJ v90 G λξ ζ=>∃c103:UInt8,∃n104:Int,∃n105:Int,∃v106:Value,∃q107:Bool,(World.cell? Z ⟨ξ,(ζ+G.toNat* 5),none⟩=some (.int .u8 c103.toNat)/\World.cell? Z ⟨ξ,((ζ+G.toNat* 5)+1),none⟩=some (.int .i64 n104)/\World.cell? Z ⟨ξ,(((ζ+G.toNat* 5)+1)+1),none⟩=some (.int .i64 n105)/\World.cell? Z ⟨ξ,((((ζ+G.toNat* 5)+1)+1)+1),none⟩=some v106/\World.cell? Z ⟨ξ,(((((ζ+G.toNat* 5)+1)+1)+1)+1),none⟩=some (.bool q107)/\True)/\cc Z (.cells #[(.int .u8 0),(.int .i64 0),(.int .i64 0),(.pointer none),(.bool false)] 160) λV w109=>zC w109 V 0 5 [(.int .u8 c103.toNat),(.int .i64 n104),(.int .i64 n105),v106,(.bool q107)] λH=>G2 (decide (δ=α)) (AV H V 0 λc111=>G2 (!decide (c111=63)) (B5 H V 1 λn112=>B5 H η 1 λn113=>bC (!decide (n112=n113)) (a7 (G+1)/\I95 (G+1) H/\ε (G+1) H< ε G Z) (cc H (.cells #[(.int .i64 α),(.int .i64 δ)] 3) λb114 ο=>∃ς:Value->Sl,(Ol ο V 4 λq117=>bC q117 (∃(υ:Option Addr) (l119 ι:Nat),(Value.slice (some ⟨b114,0,none⟩) 2 2)= .slice υ l119 ι/\0<=(0:Int)/\(0:Int)<=1/\1<=(ι:Int)/\ς ((.slice (if ι=Int.toNat 0 then υ else Option.map (·.add (Int.toNat 0* 1)) υ) (Int.toNat 1 - Int.toNat 0) (ι - Int.toNat 0))) ο) (ς ((.slice (some ⟨b114,0,none⟩) 2 2)) ο))/\∀(g121:Value) (w122:World),ς g121 w122->ja w122 λW w124=>bH s1 λb125 o126=>dC W b125 (o126+2) λv127=>bH v127 λb128 o129=>dC W b128 (o129+0) λv130=>dC W η 3 λv131=>∃c132:UInt8,∃n133:Int,∃n134:Int,∃v135:Value,∃q136:Bool,(∀w',W w'->World.cell? w' ⟨V,0,none⟩=some (.int .u8 c132.toNat)/\World.cell? w' ⟨V,1,none⟩=some (.int .i64 n133)/\World.cell? w' ⟨V,2,none⟩=some (.int .i64 n134)/\World.cell? w' ⟨V,3,none⟩=some v135/\World.cell? w' ⟨V,4,none⟩=some (.bool q136)/\True)/\wF W η 2 λn137=>wQ 177 #[s1,(.agg #[(.int .u8 c132.toNat),(.int .i64 n133),(.int .i64 n134),v135,(.bool q136)]),(.int .i64 n137)] w124 λv138 w139=>W w139/\ay v131=true/\ay v138=true/\cc w139 (.cells #[v131,v138] 146) λb140 w141=>W w141/\CA 176 #[s1,g121,v130,(.slice (some ⟨b140,0,none⟩) 2 2)] w141 λs142 q143 w144=>W w144/\fC 99 #[(.pointer (some ⟨b2,0,none⟩)),(.string (ai s142)),(.bool q143)] w144 λφ=>W φ/\a7 (G+1)/\I95 (G+1) φ/\ε (G+1) φ< ε G Z)) (a7 (G+1)/\I95 (G+1) H/\ε (G+1) H< ε G Z)) (a7 (G+1)/\I95 (G+1) H/\ε (G+1) H< ε G Z)) (a7 (δ+1)/\I81 (δ+1) Z/\m82 (δ+1) Z< m82 δ ν)) (a7 (J+1)/\I27 (J+1) ν/\ψ (J+1) ν< ψ J γ))) (a7 (α+1)/\I13 (α+1) γ/\m14 (α+1) γ< m14 α χ)) (yg 100 #[(.pointer (some ⟨b2,0,none⟩))] χ λv146 q147 w148=>R v146 q147 w148)):
  Sm 136 #[s1] w (an [.v,.b] R):=
 D5 (bf [(3,[(24,.i)]),(6,[(32,.i)]),(12,[(68,.i)]),(15,[(76,.i)])] [(10,[]),(21,[(13,.v)])] [(9,true,.lt 0 (.lt 1 (.lt 2 (.lt 4 (.lt 5 (.lt 6 (.lt 7 (.lt 8 (.lt 9 (.lt 10 (.lt 11 (.lt 12 (.br .g 3 (.one .g 13 (.one .g 14 (.lt 15 (.lt 16 (.one .g 17 .done))))) (.one .g 13 (.one .g 3 (.one .g 14 (.lt 15 (.lt 16 (.one .g 17 .done))))))))))))))))))),(21,true,.lt 0 (.lt 1 (.lt 2 (.lt 3 (.lt 4 (.lt 5 (.lt 6 (.lt 7 (.lt 8 (.lt 9 (.lt 10 (.lt 11 (.lt 12 (.lt 13 (.lt 14 (.lt 15 (.one .g 16 (.one .g 17 (.one .g 18 (.lt 19 (.lt 20 (.one .g 21 .done))))))))))))))))))))))]) [.tmp 2 .v,.tmp 3 .b] [.v s1] Tryz.func136 (by kernel_rfl) h
end Go.Proofs.YtdecokaadekjnaaGreat
namespace Go.Proofs.YtdecokaadekjnaaGreat
open Go Go.RowKit
theorem HP {j:Nat}(hj:j< 26):(List.replicate 26 (iv 0))[j]?=some (iv 0):=by rw [List.getElem?_replicate,Pj hj]
theorem KW {j:Nat}(hj:j< 26):(List.replicate 26 (iv 0)).toArray[j]?=some (iv 0):=by rw [Ri];exact HP hj
theorem rh {w:World}{R:Value->Sl}(hR:∀w' cs,Ex w w'->Jb cs e0->R (.agg cs.toArray) w'):Sm 138 #[] w (an [.v] R):=by
 refine pf w R ?_;dsimp only [go_sem];dsimp only [go_sem,UInt8.reduceOfNat,UInt32.reduceOfNat,Nat.reduceAdd];intro b1 w2 α H b3 V β J;have x2:Ex w w2:=H▸Ex.alloc w _;have x4:Ex w2 V:=J▸Ex.alloc w2 _;have s2:w2.heap.size=w.heap.size+1:=by rw [H,size_alloc]
 have s4:V.heap.size=w2.heap.size+1:=by rw [J,size_alloc]
 have c3:∀j,j< 26->V.cell? ⟨b3,0+j,none⟩=some (iv 0):=λj hj=>by
  rw [J,β];refine aa ?_;rw [Ph];exact KW hj
 have c1:∀j,j< 26->V.cell? ⟨b1,0+j,none⟩=some (iv 0):=λj hj=>by
  rw [x4.cell (show b1< _ by omega),H,α];refine aa ?_;rw [Ph];exact KW hj
 have f3:∀j,V.frozen? ⟨b3,j,none⟩=false:=λj=>by rw [J,β];exact aG _ _ _ _
 have f1:∀j,V.frozen? ⟨b1,j,none⟩=false:=λj=>by rw [PV x4 (show b1< _ by omega),H,α];exact aG _ _ _ _
 refine⟨⟨rfl,rfl,λj hj=>⟨⟨_,c3 j hj⟩,f3 _⟩⟩,λw5 θ=>?_⟩;obtain⟨k5,Z,_,γ⟩:=aK (b:=b3) _ V 0;rw [<-θ]at k5 Z γ;have δ:∀j,j< 26->w5.cell? ⟨b3,0+j,none⟩=some (iv 0):=λj hj=>by
  rw [γ j (λi hi=>⟨_,c3 i hi⟩) hj];exact HP hj
 have x5:Ex w w5:=Ex.below (Ex.trans x2 x4) (Kp.below k5 (Ex.trans x2 x4).size λg hg e=>by omega);have s5:=k5.size;have d1:∀j,j< 26->w5.cell? ⟨b1,0+j,none⟩=some (iv 0):=λj hj=>by rw [OG (w:=V) (k5.block b1 (by omega) (by omega))];exact c1 j hj
 refine⟨λx w'=>∃i:Nat,x=i/\i<=26/\Ex w w'/\b3< w'.heap.size/\(∀j,j< 26->w'.cell? ⟨b1,0+j,none⟩=some (iv 0))/\(∀j,w'.frozen? ⟨b1,j,none⟩=false)/\(∀j,w'.frozen? ⟨b3,j,none⟩=false)/\∀j,j< 26->w'.cell? ⟨b3,0+j,none⟩=some (iv (if j< i then j else 0)),
  λx _=>(26 - x).toNat,⟨0,rfl,by omega,x5,by omega,d1,λj=>by rw [Z];exact f1 j,λj=>by rw [Z];exact f3 j,λj hj=>by rw [O1 (by omega)];exact δ j hj⟩,λx w9 hI=>?_⟩
 obtain⟨i,rfl,hi,x9,l9,e1,g1,g3,e3⟩:=hI;refine⟨λι=>?_,λκ=>?_⟩
 ·have μ:i< 26:=by simp only [OW]at ι;omega
  rw [OU,Pn];refine⟨⟨by omega,by omega⟩,⟨⟨_,e3 i μ⟩,g3 _⟩,λο G=>⟨by omega,⟨i+1,by omega,by omega,?_,?_,λj hj=>?_,λj=>?_,λj=>?_,λj hj=>?_⟩,by show((26:Int) - ((i:Int)+1)).toNat< ((26:Int) - i).toNat;omega⟩⟩
  ·exact G▸Ex.own x9 (by omega) _
  ·rw [G,Pu];exact l9
  ·rw [G,OL _ _ _ _ (λe=>by injection e with e1 e2;omega)];exact e1 j hj
  ·rw [G,O0];exact g1 j
  ·rw [G,O0];exact g3 j
  ·by_cases ν:j=i
   ·subst ν;rw [G,Pj (by omega)];exact OY _ _ _ (e3 j hj)
   ·rw [G,OL _ _ _ _ (λe=>by injection e with e1 e2;omega),e3 j hj]
    congr 2
    split<;>split<;>omega
 ·have:i=26:=by simp only [OV]at κ;omega
  subst this;have ε:∀j,j< 26->((List.range 26).map iv)[j]?=some (iv j):=λj hj=>by simp [hj]
  refine⟨(List.range 26).map iv,rfl,λj hj=>by rw [e3 j hj,ε j hj,Pj hj],⟨rfl,rfl,λj hj=>⟨⟨_,e1 j hj⟩,g1 _⟩⟩,λξ ζ=>?_⟩;obtain⟨η,_,_,W⟩:=aK (b:=b1) ((List.range 26).map iv) w9 0;rw [<-ζ]at η W;refine⟨(List.range 26).map iv,rfl,λj hj=>W j (λi hi=>⟨_,e1 i (by simpa using hi)⟩) (by simpa using hj),hR ξ _ ?_ ⟨rfl,λc hc=>?_⟩⟩
  ·exact Ex.below x9 (Kp.below η x9.size λg hg e=>by omega)
  ·have :=bj hc;exact ε _ (by omega)
theorem J' {t:P}(h:Lt t):Nu (num t e0 0).1:=by
 obtain⟨_,h2,G,h4⟩:=sN (p:=t) λc hc=>T.Al.free h c hc
 exact⟨h2,λy H=>G y (T.bI H),h4⟩
theorem cG:∀u:U,(flat u).1.length+(flat u).2.tot<=4* u.size
 | .nil=>by simp [flat,Lv.tot]
 | .snd a b p=>by have :=cG p;simp only [flat,Lv.tot,T.size,OX];omega
 | .rcv a b p=>by have :=cG p;simp only [flat,Lv.tot,T.size,OX];omega
 | .tau p=>by have :=cG p;simp only [flat,Lv.tot,T.size,OX];omega
 | .mat a b p=>by have :=cG p;simp only [flat,Lv.tot,T.size,OX];omega
 | .rep p=>by have :=cG p;simp only [flat,Lv.tot,T.size,OX];omega
 | .res x p=>by have :=cG p;simp only [flat,T.size,OF];omega
 | .par p q=>by have :=cG p;have :=cG q;simp only [flat,Lv.cn,T.size,OM];omega
 | .sum p q=>by have :=cG p;have :=cG q;simp only [flat,Lv.tot,T.size,OX];omega
theorem K9 {u:U}(h:Nu u):∀x,x∉(td u).1->(td u).2.fh x->x< 26:=λx G h2=>h.fr x (Gm _ u (OQ _) h.uq x h2 G)
theorem y8 {D:Nat->Prop}{w:World}{t:P}{v:Value}(h:aM D w t v)(hD:∀g,D g->g< w.heap.size)(hl:Lt t)(hs:t.size<=1000000){R:aB->Bool->Sl}
  (hR:∀w',Ex w w'->(∀s,kL (num t e0 0).1=some s->R s true w')/\(kL (num t e0 0).1=none->R [] false w')):Sm 175 #[v] w (an [.s,.b] R):=by
 refine m8 v w R ?_;dsimp only [go_sem];dsimp only [go_sem,UInt8.reduceOfNat,UInt32.reduceOfNat,Nat.reduceAdd];intro b2 V J G;have x3:Ex w V:=G▸Ex.alloc w _;have s3:V.heap.size=w.heap.size+1:=by rw [G,size_alloc]
 refine rh λw5 cs x5 W=>?_
 have H:Ex w w5:=Ex.trans x3 x5;have mk:Mk V b2 0:=⟨by omega,by rw [G,J];exact aa rfl,by rw [G,J];exact aG _ _ _ _⟩
 have Z:aM D w5 t v:=aM.kp (Kp.af H λ _=>False) (λ _ _ h=>h) h;refine K5 t Z (λg hg e=>by have :=hD g hg;omega) (mk.ex x5) W hl (by omega) λv' w7 k7 _ h7=>?_
 have nu:=J' hl;have γ:=(bW t e0 0).1;have δ:=cG (num t e0 0).1;have e:Lv.tidy (flat (num t e0 0).1).1 (flat (num t e0 0).1).2=td (num t e0 0).1:=rfl;refine xa h7 (cS _) (by omega) (by rw [e];exact Dl nu.uq nu.bv) (by rw [e];exact K9 nu) λα β=>?_
 have x7:Ex w w7:=Ex.below H (Kp.below k7.kp H.size λg hg e=>by omega);rw [e];exact hR α (Ex.trans x7 β)
structure I7 (w:World)(D:Nat->Prop)(b:Nat)(n:Nat)(s:Tx)(L:List Nat×Lv):Prop where
 mc:Mk w b n
 tx:w.cell? ⟨b,1,none⟩=some (.string (ai s))
 l:∃v,w.cell? ⟨b,2,none⟩=some v/\aC D w L v
theorem Cf {t:P}{w:World}(hl:Lt t)(hs:t.size<=1000000)(hlen:t.text.length<=1099511627776){R:Value->Sl}
  (hR:∀b w',Ex w w'->w.heap.size<=b->I7 w' (λg=>w.heap.size<=g/\g≠b/\g< w'.heap.size) b (num t e0 0).2 t.text (td (num t e0 0).1)->R (ptr b) w'):Sm 92 #[.string (ai t.text)] w (an [.v] R):=by
 refine xQ t.text w R ?_;dsimp only [go_sem];dsimp only [go_sem,UInt8.reduceOfNat,UInt32.reduceOfNat,Nat.reduceAdd];refine EU hlen λv2 q w4 x4 ς υ=>?_
 have hq:q=true:=by
  cases q
  ·exact absurd rfl (υ rfl t hl)
  ·rfl
 obtain⟨t',φ,et,χ⟩:=ς hq;have:t'=t:=fT (T.Al.wf φ) (T.Al.wf hl) et.symm;subst this;intro b5 w6 Z V;have x6:Ex w4 w6:=V▸Ex.alloc w4 _;have s6:w6.heap.size=w4.heap.size+1:=by rw [V,size_alloc]
 refine⟨λw'=>Ex w6 w',λw8 η=>⟨η▸Ex.drew w6,?_⟩⟩;have x8:Ex w6 w8:=η▸Ex.drew w6;have s4:=x4.size;have s8:=x8.size;have ψ:Mk w6 b5 0:=⟨by omega,by rw [V,Z];exact aa rfl,by rw [V,Z];exact aG _ _ _ _⟩
 have t6:w6.cell? ⟨b5,1,none⟩=some (.string (ai t'.text)):=by rw [V,Z];exact aa rfl
 have l6:w6.cell? ⟨b5,2,none⟩=some (.pointer none):=by rw [V,Z];exact aa rfl
 have f6:∀j,w6.frozen? ⟨b5,j,none⟩=false:=λj=>by rw [V,Z];exact aG _ _ _ _
 refine rh λω cs θ hcs=>?_
 have G:=Ex.trans x8 θ;have ι:aM (λg=>ES w g/\g< w4.heap.size) ω t' v2:=aM.kp (Kp.af (Ex.trans x6 G) λ _=>False) (λ _ _ h=>h) χ.bound;refine K5 t' ι (λg hg e=>by omega) (ψ.ex G) hcs hl (by omega) λv11 β α γ h12=>?_
 have hsz:=(bW t' e0 0).1;have htt:=cG (num t' e0 0).1;refine Ha _ (OQ _) (cS _) h12 (by omega) λv13 W H κ=>⟨κ.one,?_⟩
 have x14':Ex β W:=H;have s12:=α.size;have s10:=θ.size;have δ:b5< β.heap.size:=γ.lt;have f14:∀j,W.frozen? ⟨b5,j,none⟩=false:=λj=>by rw [PV H δ,α.fz,PV G (show b5< _ by omega)];exact f6 j
 have t14:W.cell? ⟨b5,1,none⟩=some (.string (ai t'.text)):=by rw [H.cell (show b5< _ from δ),α.ce 1 (by omega),G.cell (show b5< _ by omega)];exact t6
 have μ:W.cell? ⟨b5,2,none⟩=some (.pointer none):=by rw [H.cell (show b5< _ from δ),α.ce 2 (by omega),G.cell (show b5< _ by omega)];exact l6
 have ν:=γ.ex H;refine⟨⟨⟨_,μ⟩,f14 2⟩,λε J=>?_⟩;have ζ:Kr b5 W ε:=J▸Kr.set _ _ _;have ξ:ε.cell? ⟨b5,0,none⟩=some (iv (num t' e0 0).2):=by rw [J,OL _ _ _ _ (λe=>by injection e with e1 e2;omega)];exact ν.c
 have ο:Ex w β:=Ex.below (Ex.trans x4 (Ex.trans x6 G)) (Kp.below α.kp (Ex.trans x4 (Ex.trans x6 G)).size λg hg e=>by omega);have s14:=H.size;have s16:=ζ.size;refine hR b5 ε (Ex.below (Ex.trans ο H) (Kp.below ζ (Ex.trans ο H).size λg hg e=>by omega)) (by omega) ⟨⟨by omega,ξ,by rw [J,O0];exact f14 0⟩,?_,v13,?_,?_⟩
 ·rw [J,OL _ _ _ _ (λe=>by injection e with e1 e2;omega)];exact t14
 ·rw [J];exact OY _ _ _ μ
 ·exact aC.sub (aC.kp (aC.sub (E:=λg=>β.heap.size<=g/\g< W.heap.size) κ λg hg hd=>⟨hd,hg⟩) ζ λg hg e=>by omega) λg hg hd=>⟨by omega,by omega,by omega⟩
end Go.Proofs.YtdecokaadekjnaaGreat
namespace Go.Proofs.YtdecokaadekjnaaGreat
open T
theorem Iv {u G:U}(h:Nu u)(h':Nu G)(ae:AE σ0 u σ0 G):kL u=kL G:=by
 have hi:∀y z:Nat,σ0 y=σ0 z->y=z:=λy z e=>by unfold σ0 at e;omega
 have H:∀y,u.Us y↔G.Us y:=λy=>by
  constructor
  ·intro J;obtain⟨z,V,e⟩:=ae.used (λy z _ _ e=>hi y z e) (λy z _ _ e=>hi y z e) y J;rw [<-hi z y e];exact V
  ·intro J;obtain⟨z,V,e⟩:=ae.symm.used (λy z _ _ e=>hi y z e) (λy z _ _ e=>hi y z e) y J;rw [<-hi z y e];exact V
 have W:mu (td u).2=mu (td G).2:=by
  funext c
  rw [PM,p6 h,p6 h',H]
 have key:=λtk=>K3 (ρ:=ρ0) (ρ':=ρ0) ae h.uq h'.uq (λy z _ _ e=>hi y z e) (λy z _ _ e=>hi y z e) (λy Z _ _ e=>by rw [hi y Z e]) tk
 obtain⟨_,k2,k3,k4⟩:=key (mu (td u).2);rw [iG,iG,<-W,(key (mu (td u).2)).1,k2,k3,k4]
structure mO (t:P):Prop where
 al:t.Al λc=>lt c=true
 nr:t.Nr
 smp:t.smp=true
 len:t.text.length<=300
 size:t.size<=60
 most:bn (num t e0 0).1<=5
 all:cQ (num t e0 0).1<=8
 nf:kL (num t e0 0).1=some t.text
theorem Kt {t:P}(h:t.Al λc=>lt c=true):∀y,(num t e0 0).1.Fr y->y< 26:=(sN (p:=t) λc hc=>T.Al.free h c hc).2.2.1
theorem lJ {t:P}(h:t.Al λc=>lt c=true):AE UInt8.toNat t σ0 (num t e0 0).1:=(sN (p:=t) λc hc=>T.Al.free h c hc).1
theorem lP {t:P}(h:t.Al λc=>lt c=true):Nu (num t e0 0).1:=by
 obtain⟨_,h2,G,h4⟩:=sN (p:=t) λc hc=>T.Al.free h c hc
 exact⟨h2,λy H=>G y (T.bI H),h4⟩
theorem Mg.Ow {u:U}{s:Tx}{t:P}{v:U}(h:Nu u)(n:Mg u s t v)(hs:u.smp=true):mO t:=by
 have G:Nu v:=⟨n.arr.uq,λy Z=>h.fr y ((n.arr.us y).1 Z),λx hx=>h.bv x (n.arr.bv x hx)⟩
 have hv:∀y,v.Fr y->(ρ0 y).toNat=σ0 y:=λy Z=>fw (G.fr y (n.arr.nr.iA Z))
 have ae:AE UInt8.toNat t σ0 v:=n.ae.congr (λ _ _=>rfl) hv;have H:=lP n.al;have J:AE σ0 v σ0 (num t e0 0).1:=ae.symm.trans (lJ n.al);have V:∀p:U,fp σ0 p:=λp y z _ _ e=>by unfold σ0 at e;omega
 have W:mu (td v).2=mu (td u).2:=by
  funext c
  rw [PM,p6 G,p6 h,n.arr.us]
 have hi:∀y z:Nat,σ0 y=σ0 z->y=z:=λy z e=>by unfold σ0 at e;omega
 obtain⟨_,k2,k3,k4⟩:=K3 (ρ:=ρ0) (ρ':=ρ0) J G.uq H.uq (λy z _ _ e=>hi y z e) (λy z _ _ e=>hi y z e) (λy y' _ _ e=>by rw [hi y y' e]) (mu (td v).2);refine⟨n.al,AE.nr ae.symm (V v) (eZ t) n.arr.nr,by rw [uW ae];exact n.arr.smp hs,by rw [n.text];exact n.len,n.size,by rw [<-k4,n.arr.most];exact n.most,by rw [<-k3,n.arr.all];exact n.all,?_⟩;have e1:LS v ρ0 (mu (td v).2)=s:=by rw [W,n.arr.ls];exact n.ls.symm
 have hg:dG s:=⟨n.len,t,n.al,n.text,n.size⟩
 rw [<-Iv G H J,iG,e1,Pj ⟨⟨by rw [n.arr.most];exact n.most,by rw [n.arr.all];exact n.all⟩,by rw [W,n.arr.bad];exact n.bad,hg⟩,n.text]
section
variable {A B:Type} [DecidableEq A] [DecidableEq B]
inductive Off (A:Type) where
 | tau (p:T A)
 | snd (a b:A) (p:T A)
 | rcv (a x:A) (q:T A) (again:Bool)
def Off.stay:Off A->Off A
 | .rcv a x q _=> .rcv a x q true
 | o=>o
def offs:T A->List (Off A)
 | .tau p=>[.tau p]
 | .snd a b p=>[.snd a b p]
 | .rcv a x p=>[.rcv a x p false]
 | .sum p q=>offs p++offs q
 | .rep p=>(offs p).map Off.stay
 | _=>[]
def wo {X:Type}(l:List X)(i j:Nat):List X:=(l.zipIdx.filter λz=> !(z.2==i)&& !(z.2==j)).map (·.1)
def ri (ρ:A->Nat)(σ:B->Nat):Off A->Off B->Prop
 | .tau p,.tau q=>AE ρ p σ q
 | .snd a b p,.snd c d q=>ρ a=σ c/\ρ b=σ d/\AE ρ p σ q
 | .rcv a x p s,.rcv c y q G=>ρ a=σ c/\(∀v,AE (aI ρ x v) p (aI σ y v) q)/\s=G
 | _,_=>False
inductive ld {X Y:Type} (R:X->Y->Prop):List X->List Y->Prop
 | nil:ld R [] []
 | cons {x y l m}:R x y->ld R l m->ld R (x::l) (y::m)
theorem ld.app {X Y:Type}{R:X->Y->Prop}{l G:List X}{m m':List Y}(h:ld R l m)(k:ld R G m'):ld R (l++G) (m++m'):=by
 induction h with
 | nil=>exact k
 | cons h _ H=>exact .cons h H
theorem ld.map {X Y G H:Type}{R:X->Y->Prop}{S:G->H->Prop}{f:X->G}{g:Y->H}(J:∀x y,R x y->S (f x) (g y)){l:List X}{m:List Y}(h:ld R l m):ld S (l.map f) (m.map g):=by
 induction h with
 | nil=>exact .nil
 | cons h _ V=>exact .cons (J _ _ h) V
theorem ld.len {X Y:Type}{R:X->Y->Prop}{l:List X}{m:List Y}(h:ld R l m):l.length=m.length:=by
 induction h with
 | nil=>rfl
 | cons _ _ G=>simp [G]
theorem ld.get {X Y:Type}{R:X->Y->Prop}{l:List X}{m:List Y}(h:ld R l m):∀{i:Nat} (hi:i< l.length) (hj:i< m.length),R l[i] m[i]:=by
 induction h with
 | nil=>intro i hi;cases hi
 | cons h _ G=>
  intro i hi hj;cases i with
  | zero=>exact h
  | succ i=>simpa using G (by simpa using hi) (by simpa using hj)
theorem ld.wo {X Y:Type}{R:X->Y->Prop}{l:List X}{m:List Y}(h:ld R l m)(i j:Nat):ld R (wo l i j) (wo m i j):=by
 unfold Go.Proofs.YtdecokaadekjnaaGreat.wo;have:∀k,ld R ((l.zipIdx k).filter (λz=> !(z.2==i)&& !(z.2==j)) |>.map (·.1)) ((m.zipIdx k).filter (λz=> !(z.2==i)&& !(z.2==j)) |>.map (·.1)):=by
  induction h with
  | nil=>intro k;exact .nil
  | cons h _ G=>
   intro k;simp only [List.zipIdx_cons,List.filter_cons];split
   ·simp only [Pk];exact .cons h (G _)
   ·exact G _
 exact this 0
theorem jN:∀{p:T A} {q:T B} {ρ:A->Nat} {σ:B->Nat},AE ρ p σ q->ld (ri ρ σ) (offs p) (offs q):=by
 intro p
 induction p with
 | nil=>intro q ρ σ h;cases q<;>first | exact .nil | cases h
 | par p V=>intro q ρ σ h;cases q<;>first | exact .nil | cases h
 | res x p=>intro q ρ σ h;cases q<;>first | exact .nil | cases h
 | mat a b p=>intro q ρ σ h;cases q<;>first | exact .nil | cases h
 | tau p=>intro q ρ σ h;cases q<;>first | exact .cons h .nil | cases h
 | snd a b p=>intro q ρ σ h;cases q<;>first | exact .cons h .nil | cases h
 | rcv a b p=>intro q ρ σ h;cases q<;>first | exact .cons ⟨h.1,h.2,rfl⟩ .nil | cases h
 | sum p V H J=>
  intro q ρ σ h;cases q<;>first | exact(H h.1).app (J h.2) | cases h
 | rep p H=>
  intro q ρ σ h;cases q<;>try cases h
  refine(H h).map λx y G=>?_
  cases x<;>cases y<;>first | exact G | (exact⟨G.1,G.2.1,rfl⟩) | cases G
end
theorem AE.open:∀{t:P} {u:U} {ρ:Rh},AE UInt8.toNat t (λz=>(ρ z).toNat) u->t.Nr->t.frL.length=u.frL.length/\ld (λp q=>AE UInt8.toNat p (λz=>(asg u.frL t.frL ρ z).toNat) q) t.ths u.ths:=by
 intro t
 induction t with
 | nil=>intro u ρ h n;cases u<;>first | exact⟨rfl,.nil⟩ | cases h
 | snd a b p=>intro u ρ h n;cases u<;>first | exact⟨rfl,.cons h .nil⟩ | cases h
 | rcv a b p=>intro u ρ h n;cases u<;>first | exact⟨rfl,.cons h .nil⟩ | cases h
 | tau p=>intro u ρ h n;cases u<;>first | exact⟨rfl,.cons h .nil⟩ | cases h
 | sum p q=>intro u ρ h n;cases u<;>first | exact⟨rfl,.cons h .nil⟩ | cases h
 | mat a b p=>intro u ρ h n;cases u<;>first | exact⟨rfl,.cons h .nil⟩ | cases h
 | rep p=>intro u ρ h n;cases u<;>first | exact⟨rfl,.cons h .nil⟩ | cases h
 | par p q Z V=>
  intro u ρ h n;cases u<;>try cases h
  rename_i p' q' G h2;have h0:q.frL=[]:=by
   rcases n.1.2 with h | h
   ·exact iO h
   ·cases q<;>first | rfl | (cases h;done)
  obtain⟨H,J⟩:=V h2 n.2.2;have W:q'.frL=[]:=by rw [h0]at H;exact Pg H.symm
  rw [h0,W]at J;exact⟨rfl,.cons G J⟩
 | res x p Z=>
  intro u ρ h n;cases u<;>try cases h
  rename_i y q;have G:=h x.toNat;have e1:aI UInt8.toNat x x.toNat=UInt8.toNat:=by funext c;unfold aI;split<;>simp_all
  have e2:aI (λz=>(ρ z).toNat) y x.toNat=λz=>(aI ρ y x z).toNat:=by funext z;unfold aI;split<;>rfl
  rw [e1,e2]at G;obtain⟨H,J⟩:=Z G n.2;exact⟨by simp [frL,H],J⟩
theorem AE.tM {D:Nat->Prop}{f:Nat->Nat}:∀{q:U} {σ τ:Nat->Nat},(∀z,q.Fr z->D z/\σ z=τ (f z))->(∀x∈BV q,D x/\∀z,D z->z≠x->f z≠f x)->AE σ q τ (q.map f)
 | .nil,_,_,_,_=>trivial
 | .snd a b p,σ,τ,h,k=>⟨(h a (.inl rfl)).2,(h b (.inr (.inl rfl))).2,AE.tM (λz G=>h z (.inr (.inr G))) k⟩
 | .mat a b p,σ,τ,h,k=>⟨(h a (.inl rfl)).2,(h b (.inr (.inl rfl))).2,AE.tM (λz G=>h z (.inr (.inr G))) k⟩
 | .tau p,σ,τ,h,k=>AE.tM (q:=p) h k
 | .rep p,σ,τ,h,k=>AE.tM (q:=p) h k
 | .sum p q,σ,τ,h,k=>⟨AE.tM (λz G=>h z (.inl G)) λx J=>k x (Pm _ J),AE.tM (λz G=>h z (.inr G)) λx J=>k x (Pf _ J)⟩
 | .par p q,σ,τ,h,k=>⟨AE.tM (λz G=>h z (.inl G)) λx J=>k x (Pm _ J),AE.tM (λz G=>h z (.inr G)) λx J=>k x (Pf _ J)⟩
 | .rcv a x p,σ,τ,h,k=>by
  have V:=k x (Py ..);refine⟨(h a (.inl rfl)).2,λv=>AE.tM (D:=D) (λz G=>?_) λy W=>k y (OZ _ W)⟩;by_cases e:z=x
  ·subst e;exact⟨V.1,by simp [aI]⟩
  ·have H:=h z (.inr ⟨e,G⟩);have :=V.2 z H.1 e;refine⟨H.1,?_⟩;simp only [aI,O1 e,O1 this];exact H.2
 | .res x p,σ,τ,h,k=>by
  have V:=k x (Py ..);refine λv=>AE.tM (D:=D) (λz G=>?_) λy W=>k y (OZ _ W)
  by_cases e:z=x
  ·subst e;exact⟨V.1,by simp [aI]⟩
  ·have H:=h z ⟨e,G⟩;have :=V.2 z H.1 e;refine⟨H.1,?_⟩;simp only [aI,O1 e,O1 this];exact H.2
theorem gw (f:Nat->Nat):∀u:U,BV (u.map f)=(BV u).map f
 | .nil=>rfl
 | .snd a b p=>gw f p
 | .mat a b p=>gw f p
 | .tau p=>gw f p
 | .rep p=>gw f p
 | .rcv a x p=>by simp only [T.map,BV,gw f p,Pk]
 | .res x p=>by simp only [T.map,BV,gw f p,Pk]
 | .sum p q=>by simp only [T.map,BV,gw f p,gw f q,PH]
 | .par p q=>by simp only [T.map,BV,gw f p,gw f q,PH]
def Off.tm {A:Type}:Off A->T A
 | .tau p=> .tau p
 | .snd a b p=> .snd a b p
 | .rcv a x q _=> .rcv a x q
structure Sub {A:Type}(s t:T A):Prop where
 smp:t.smp=true->s.smp=true
 nr:t.Nr->s.Nr
 fr:∀z,s.Fr z->t.Fr z
 rd:s.rd<=t.rd
 ow:s.ow<=t.ow
 size:s.size<=t.size
 al:∀D:A->Prop,t.Al D->s.Al D
theorem Sub.refl {A:Type}(t:T A):Sub t t:=⟨id,id,λ _=>id,OQ _,OQ _,OQ _,λ _=>id⟩
theorem aZ {A:Type}:∀{t:T A},t.smp=true->∀o∈offs t,Sub o.tm t/\(∀a x q,o= .rcv a x q true->t= .rep (.rcv a x q)):=by
 intro t
 induction t with
 | nil=>intro _ o h;cases h
 | par p q=>intro _ o h;cases h
 | res x p=>intro _ o h;cases h
 | mat a b p=>intro _ o h;cases h
 | tau p=>intro _ o h;rw [offs,OO]at h;subst h;exact⟨Sub.refl _,λ _ _ _ h=>by cases h⟩
 | snd a b p=>intro _ o h;rw [offs,OO]at h;subst h;exact⟨Sub.refl _,λ _ _ _ h=>by cases h⟩
 | rcv a b p=>intro _ o h;rw [offs,OO]at h;subst h;exact⟨Sub.refl _,λ _ _ _ h=>by cases h⟩
 | sum p q ih W=>
  intro G o h;simp only [smp,OJ]at G;rw [offs,OS]at h;rcases h with h | h
  ·obtain⟨k,kr⟩:=ih G.2.1 o h;refine⟨⟨λ _=>k.smp G.2.1,λn=>k.nr n.2.1,λz H=> .inl (k.fr z H),PN k.rd (Nat.le_max_left _ _),by have :=k.ow;simp only [ow];omega,by have :=k.size;simp only [size];omega,λD J=>k.al D J.1⟩,λa x V e=>?_⟩;have Z:=kr a x V e;rw [Z]at G;simp [gp]at G
  ·obtain⟨k,kr⟩:=W G.2.2 o h;refine⟨⟨λ _=>k.smp G.2.2,λn=>k.nr n.2.2,λz H=> .inr (k.fr z H),PN k.rd (Nat.le_max_right _ _),by have :=k.ow;simp only [ow];omega,by have :=k.size;simp only [size];omega,λD J=>k.al D J.2⟩,λa x V e=>?_⟩;have Z:=kr a x V e;rw [Z]at G;simp [gp]at G
 | rep p ih=>
  intro G o h;simp only [smp,OJ]at G;cases p<;>try (simp [isR]at G)
  rename_i a x q;simp only [offs,Pk,QL,OO,Off.stay]at h;subst h;refine⟨⟨λh=>?_,λn=>n.2,λz H=>H,OQ _,OQ _,by simp only [Off.tm,size];omega,λD J=>J⟩,λa' x' V e=>?_⟩
  ·simp only [smp,OJ]at h;exact h.2
  ·cases e;rfl
theorem gH:∀{t:U},∀o∈offs t,(BV o.tm).Sublist (BV t):=by
 intro t
 induction t with
 | nil=>intro o h;cases h
 | par p q=>intro o h;cases h
 | res x p=>intro o h;cases h
 | mat a b p=>intro o h;cases h
 | tau p=>intro o h;rw [offs,OO]at h;subst h;exact PY _
 | snd a b p=>intro o h;rw [offs,OO]at h;subst h;exact PY _
 | rcv a b p=>intro o h;rw [offs,OO]at h;subst h;exact PY _
 | sum p q G H=>
  intro o h;rw [offs,OS]at h;rcases h with h | h
  ·exact(G o h).trans (QZ _ _)
  ·exact(H o h).trans (Qk _ _)
 | rep p G=>
  intro o h;obtain⟨J,V,rfl⟩:=Pw.1 h;have :=G J V;cases J<;>exact this
section
variable {X:Type}
def kG (P:Nat->Bool)(l:List X)(k:Nat):List X:=((l.zipIdx k).filter λz=> !P z.2).map (·.1)
theorem kE (P:Nat->Bool)(k:Nat):kG P ([]:List X) k=[]:=rfl
theorem cy (P:Nat->Bool)(x:X)(l:List X)(k:Nat):kG P (x::l) k=if P k then kG P l (k+1)else x::kG P l (k+1):=by
 unfold kG;simp only [List.zipIdx_cons,List.filter_cons];cases P k<;>simp
theorem mA {P Q:Nat->Bool}:∀{l:List X} {k:Nat},(∀i,k<=i->P i=Q i)->kG P l k=kG Q l k
 | [],_,_=>rfl
 | x::l,k,h=>by rw [cy,cy,h k (OQ _),mA (l:=l) λi hi=>h i (by omega)]
theorem D8 {P:Nat->Bool}:∀{l:List X} {k:Nat},(∀i,k<=i->P i=false)->kG P l k=l
 | [],_,_=>rfl
 | x::l,k,h=>by rw [cy,h k (OQ _),D8 (l:=l) λi hi=>h i (by omega)];rfl
theorem zD:∀(l:List X) (k i:Nat) (h:i< l.length),l.Perm (l[i]::kG (λn=>n==k+i) l k)
 | [],_,_,h=>by cases h
 | x::l,k,0,h=>by
  rw [cy,Pj (by simp),D8 λi hi=>by simp;omega];exact PW _
 | x::l,k,i+1,h=>by
  rw [cy,O1 (by simp)];have :=zD l (k+1) i (by simpa using h);rw [show k+1+i=k+(i+1) by omega]at this;exact(this.cons x).trans (List.Perm.swap _ _ _)
theorem zn:∀(l:List X) (k i j:Nat) (hi:i< l.length) (hj:j< l.length),i< j->l.Perm (l[i]::l[j]::kG (λn=>n==k+i||n==k+j) l k)
 | [],_,_,_,h,_,_=>by cases h
 | x::l,k,0,j+1,_,hj,_=>by
  rw [cy,Pj (by simp)];have :=zD l (k+1) j (by simpa using hj);rw [mA (P:=λn=>n==k+0||n==k+(j+1)) (Q:=λn=>n==k+1+j) λn H=>by
   rw [PM];simp only [Qg,Rb];omega]
  exact this.cons x
 | x::l,k,i+1,j+1,hi,hj,G=>by
  rw [cy,O1 (by simp)];have :=zn l (k+1) i j (by simpa using hi) (by simpa using hj) (by omega);rw [show k+1+i=k+(i+1) by omega,show k+1+j=k+(j+1) by omega]at this;exact((this.cons x).trans (List.Perm.swap _ _ _)).trans ((List.Perm.swap _ _ _).cons _)
theorem C6 (l:List X)(i j:Nat):wo l i j=kG (λn=>n==i||n==j) l 0:=by
 unfold wo kG
 congr 2
 funext z
 simp
theorem Dj (l:List X)(i:Nat)(h:i< l.length):l.Perm (l[i]::wo l i i):=by
 have :=zD l 0 i h;rw [C6,mA (Q:=λn=>n==0+i) λn _=>by simp];exact this
theorem C1 (l:List X)(i j:Nat)(hi:i< l.length)(hj:j< l.length)(G:i≠j):l.Perm (l[i]::l[j]::wo l i j):=by
 rw [C6];rcases Nat.lt_or_gt_of_ne G with h | h
 ·have :=zn l 0 i j hi hj h;simpa using this
 ·have :=zn l 0 j i hj hi h;rw [mA (P:=λn=>n==i||n==j) (Q:=λn=>n==0+j||n==0+i) λn _=>by simp [Bool.or_comm]];exact this.trans (List.Perm.swap _ _ _)
theorem Jj (l:List X)(i j:Nat)(hi:i< l.length)(hj:j< l.length)(G:i≠j):(wo l i i).Perm (wo l i j++[l[j]]):=by
 have H:=Dj l i hi;have h2:=C1 l i j hi hj G;exact((Sd _).1 (H.symm.trans h2)).trans (QV (l₁:=[l[j]]) (l₂:=wo l i j))
theorem lO {l:List X}{i j:Nat}{x:X}(h:x∈wo l i j):x∈l:=by
 unfold wo at h;obtain⟨z,G,rfl⟩:=Pw.1 h;have :=(QK.1 G).1;rw [List.mem_zipIdx_iff_getElem?]at this;exact QO this
end
structure I0 (N:Nat)(q:U)(x b:Nat)(f:Nat->Nat):Prop where
 fx:f x=b
 fo:∀z,z≠x->z∉BV q->f z=z
 fb:∀z∈BV q,N< f z
 fi:∀z∈BV q,∀z'∈BV q,f z=f z'->z=z'
theorem I0.ae {N:Nat}{q:U}{x b:Nat}{f:Nat->Nat}(h:I0 N q x b f)(V:Uq q)(hx:x∉BV q)(W:∀z,q.Fr z->z<=N)(hb:b<=N)(Z:∀z∈BV q,z<=N)(σ:Nat->Nat):AE (aI σ x (σ b)) q σ (q.map f):=by
 refine AE.tM (D:=λz=>q.Fr z\/z∈BV q) (λz G=>⟨.inl G,?_⟩) λy H=>⟨.inr H,λz G J=>?_⟩
 ·by_cases e:z=x
  ·subst e;rw [h.fx,dg]
  ·rw [bQ _ _ e,h.fo z e λhb=>V.nf z hb G]
 ·have α:=h.fb y H;rcases G with G | G
  ·by_cases e:z=x
   ·rw [e,h.fx];omega
   ·rw [h.fo z e λhb=>V.nf z hb G];have :=W z G;omega
  ·exact λe=>J (h.fi z G y H e)
theorem I0.fr {N:Nat}{q:U}{x b:Nat}{f:Nat->Nat}(h:I0 N q x b f)(V:Uq q):∀z,(q.map f).Fr z->z=b\/(z≠x/\q.Fr z):=by
 have key:∀(q:U) (z:Nat),(q.map f).Fr z->∃y,q.Fr y/\f y=z:=by
  intro q
  induction q with
  | nil=>intro z h;exact h.elim
  | snd a b p H=>
   intro z h;rcases h with h | h | h
   ·exact⟨a,.inl rfl,h.symm⟩
   ·exact⟨b,.inr (.inl rfl),h.symm⟩
   ·obtain⟨y,G,h2⟩:=H z h;exact⟨y,.inr (.inr G),h2⟩
  | mat a b p H=>
   intro z h;rcases h with h | h | h
   ·exact⟨a,.inl rfl,h.symm⟩
   ·exact⟨b,.inr (.inl rfl),h.symm⟩
   ·obtain⟨y,G,h2⟩:=H z h;exact⟨y,.inr (.inr G),h2⟩
  | rcv a x p H=>
   intro z h;rcases h with h | ⟨h,h'⟩
   ·exact⟨a,.inl rfl,h.symm⟩
   ·obtain⟨y,G,h2⟩:=H z h';exact⟨y,.inr ⟨λe=>h (by rw [<-h2,e]),G⟩,h2⟩
  | res x p H=>
   intro z ⟨h,h'⟩;obtain⟨y,G,h2⟩:=H z h';exact⟨y,⟨λe=>h (by rw [<-h2,e]),G⟩,h2⟩
  | tau p H=>exact H
  | rep p H=>exact H
  | sum p q H J=>
   intro z h;rcases h with h | h
   ·obtain⟨y,G,h2⟩:=H z h;exact⟨y,.inl G,h2⟩
   ·obtain⟨y,G,h2⟩:=J z h;exact⟨y,.inr G,h2⟩
  | par p q H J=>
   intro z h;rcases h with h | h
   ·obtain⟨y,G,h2⟩:=H z h;exact⟨y,.inl G,h2⟩
   ·obtain⟨y,G,h2⟩:=J z h;exact⟨y,.inr G,h2⟩
 intro z W;obtain⟨y,G,h2⟩:=key q z W;by_cases e:y=x
 ·left;rw [<-h2,e,h.fx]
 ·right;rw [h.fo y e λhb=>V.nf y hb G]at h2;subst h2;exact⟨e,G⟩
end Go.Proofs.YtdecokaadekjnaaGreat
namespace Go.Proofs.YtdecokaadekjnaaGreat
open Go Go.RowKit
def jR (w:World)(r:Nat)(F:Nat->Nat):Prop:=∃mm,IsMap w r (.int .i64) mm/\∀x:Nat,mm (iv x)=some (iv (F x))\/(mm (iv x)=none/\F x=x)
theorem aS {w w':World}{r:Nat}{d:TypeDesc}{m:Value->Option Value}(h:IsMap w r d m)(e:w'.heap[r]?=w.heap[r]?):IsMap w' r d m:=by
 obtain⟨es,cl,G,h2⟩:=h;exact⟨es,cl,by rw [e];exact G,h2⟩
theorem bS {w:World}{r:Nat}{d:TypeDesc}{m:Value->Option Value}(h:IsMap w r d m):r< w.heap.size:=by
 obtain⟨es,cl,G,h2⟩:=h;exact(Ps.1 G).1
theorem jR.lt {w:World}{r:Nat}{F:Nat->Nat}(h:jR w r F):r< w.heap.size:=by
 obtain⟨mm,G,_⟩:=h;exact bS G
theorem jR.kp {w w':World}{r:Nat}{F:Nat->Nat}{S:Nat->Prop}(h:jR w r F)(k:Kp w w' S)(G:¬S r):jR w' r F:=by
 have H:=h.lt;obtain⟨mm,J,h2⟩:=h;exact⟨mm,aS J (k.block r H G),h2⟩
theorem ui {w:World}{r:Nat}{mm:Value->Option Value}{F:Nat->Nat}(h2:∀x:Nat,mm (iv x)=some (iv (F x))\/(mm (iv x)=none/\F x=x)){x y:Nat}(h:IsMap w r (.int .i64) (bR mm (iv x) (iv y))):jR w r (aI F x y):=by
 refine⟨_,h,λz=>?_⟩;unfold bR aI;by_cases e:z=x
 ·subst e;left;simp
 ·have:iv z≠iv x:=λG=>e (by injection G with _ H;omega)
  simp only [O1 e,O1 this];exact h2 z
structure Rn (n n':Nat)(xs:List Nat)(F F':Nat->Nat):Prop where
 le:n<=n'
 len:n'<=n+xs.length
 out:∀x,x∉xs->F' x=F x
 rng:∀x∈xs,n+100< F' x/\F' x<=n'+100
 inj:∀x∈xs,∀y∈xs,F' x=F' y->x=y
theorem Rn.refl (n:Nat)(F:Nat->Nat):Rn n n [] F F:=⟨OQ _,by simp,λ _ _=>rfl,λ _ h=>(by cases h),λ _ h=>(by cases h)⟩
theorem Rn.one (n x:Nat)(F:Nat->Nat):Rn n (n+1) [x] F (aI F x (n+101)):=by
 refine⟨by omega,by simp,λy G=>O1 (by simpa using G),λy G=>?_,λy G z H _=>?_⟩
 ·cases OO.1 G;simp only [aI,Qw];omega
 ·cases OO.1 G;cases OO.1 H;rfl
theorem Rn.app {n m p:Nat}{xs Z:List Nat}{F G H:Nat->Nat}(h:Rn n m xs F G)(k:Rn m p Z G H)(hd:∀x∈xs,x∉Z):Rn n p (xs++Z) F H:=by
 have W:∀x∈xs,H x=G x:=λx W=>k.out x (hd x W)
 refine⟨PN h.le k.le,by have :=h.len;have :=k.len;rw [OM];omega,λx J=>?_,λx J=>?_,λx J y α e=>?_⟩
 ·rw [OS,Sk]at J;rw [k.out x J.2,h.out x J.1]
 ·have :=h.le;have :=k.le;rcases OS.1 J with V | V
  ·rw [W x V];have :=h.rng x V;omega
  ·have :=k.rng x V;omega
 ·rcases OS.1 J with V | V<;>rcases OS.1 α with h2 | h2
  ·rw [W x V,W y h2]at e;exact h.inj x V y h2 e
  ·rw [W x V]at e;have :=h.rng x V;have :=k.rng y h2;omega
  ·rw [W y h2]at e;have :=h.rng y h2;have :=k.rng x V;omega
  ·exact k.inj x V y h2 e
structure Kq (m r:Nat)(w w':World):Prop where
 kp:Kp w w' λg=>g=m\/g=r
 ce:∀j,j≠0->w'.cell? ⟨m,j,none⟩=w.cell? ⟨m,j,none⟩
 fz:∀j,w'.frozen? ⟨m,j,none⟩=w.frozen? ⟨m,j,none⟩
section
variable {m r:Nat} {w w0 w' w'':World}
theorem Kq.size (h:Kq m r w w'):w.heap.size<=w'.heap.size:=h.kp.size
theorem Kq.trans (h:Kq m r w w')(k:Kq m r w' w''):Kq m r w w'':=⟨Kp.trans h.kp k.kp λ _ _ h=>h,λj hj=>(k.ce j hj).trans (h.ce j hj),λj=>(k.fz j).trans (h.fz j)⟩
theorem Kq.refl (m r:Nat)(w:World):Kq m r w w:=⟨Kp.af (Ex.refl w) _,λ _ _=>rfl,λ _=>rfl⟩
theorem Kq.out {S:Nat->Prop}(h:Kq m r w0 w)(k:Kp w w' S)(H:∀g,g< w0.heap.size->S g->g=r/\g≠m)(hm:m< w0.heap.size):Kq m r w0 w':=by
 have e:=k.block m (O' hm h.kp.size) λG=>(H m hm G).2 rfl
 exact⟨Kp.trans h.kp k λg J G=> .inr (H g J G).1,λj hj=>by rw [OG (w:=w) e];exact h.ce j hj,λj=>by rw [Pd (w:=w) e];exact h.fz j⟩
theorem Kq.ex (h:Kq m r w0 w)(x:Ex w w')(hm:m< w0.heap.size):Kq m r w0 w':=h.out (Kp.af x λ _=>False) (λ _ _ h=>h.elim) hm
theorem Kq.km (h:Kq m r w0 w)(k:Km m w w'):Kq m r w0 w':=h.trans ⟨Kp.mono (λ _ e=> .inl e) k.kp,k.ce,k.fz⟩
theorem Kq.blk (h:Kq m r w0 w)(k:bw w w' r)(hm:m< w0.heap.size)(hr:m≠r):Kq m r w0 w':=
 h.out (S:=λg=>g=r) ⟨k.os,k.tape,k.output,by rw [k.size];exact OQ _,λg _ G=>k.block g G⟩ (λg _ e=>⟨e,λh=>hr (h.symm.trans e)⟩) hm
end
structure CI (w w':World)(m r b4 b6 n n1:Nat)(xs:List Nat)(F F1:Nat->Nat)(O:List Nat)(L:Lv)(ts:List Value)(M:Nat->Prop):Prop where
 kq:Kq m r w w'
 mc:Mk w' m n1
 mf:jR w' r F1
 rn:Rn n n1 xs F F1
 c4:w'.cell? ⟨b4,0,none⟩=some (.map (some r))
 l4:b4< w'.heap.size
 h4:w.heap.size<=b4
 m4:¬M b4
 bd:kN w.heap.size w' b6 O ts M
 th:ah (λg=>(w.heap.size<=g/\¬M g/\g≠b4)/\g< w'.heap.size) w' L ts
 lm:m< w.heap.size
 lr:r< w.heap.size
 ne:m≠r
theorem C5 {w:World}{b4 r x:Nat}{F:Nat->Nat}(c4:w.cell? ⟨b4,0,none⟩=some (.map (some r)))(mf:jR w r F){R:Int->Sl}(hR:R (F x:Int) w):
  Sm 239 #[iv x,ptr b4] w (an [.i] R):=by
 refine jU x (ptr b4) w R ?_;dsimp only [go_sem];dsimp only [go_sem,UInt8.reduceOfNat,UInt32.reduceOfNat,Nat.reduceAdd];obtain⟨mm,G,h2⟩:=mf;refine⟨b4,0,rfl,_,c4,r,mm,rfl,G,?_⟩;rcases h2 x with h | ⟨h,e⟩
 ·exact⟨F x,true,.inl ⟨rfl,h⟩,λ _=>hR,λh=>(by cases h)⟩
 ·exact⟨0,false,.inr ⟨rfl,h,rfl⟩,λh=>(by cases h),λ _=>by rw [e]at hR;exact hR⟩
theorem kN.NU {B:Nat}{w w1 w2:World}{b:Nat}{o o':List Nat}{ts:List Value}{M:Nat->Prop}(h:kN B w b o ts M){vo v':Value}(W:w.cell? ⟨b,0,none⟩=some vo)(k:Kp w w1 λg=>vo.ownBlock=some g)(ho:aF 3 B w1 v' (o'.map iv))
  (hv:∀g,v'.ownBlock=some g->vo.ownBlock=some g\/w.heap.size<=g) (hw:w2=w1.setCell ⟨b,0,none⟩ v'):kN B w2 b o' ts (λg=>M g\/v'.ownBlock=some g)/\Kp w w2 M:=by
 obtain⟨h1,hle,h3,hr,h4,Z,vt,h5,h6,h7,h8,h9,h10,H⟩:=h;have:Z=vo:=Pz (h5.symm.trans W);subst this;have s1:=k.size;have V:Kr b w1 w2:=hw▸Kr.set w1 0 v';have e1:=k.block b h1 λe=>(h9 b e).2 rfl
 have J:∀g,v'.ownBlock=some g->g≠b:=λg G=>(hv g G).elim (λe=>(h9 g e).2) λe=>by omega
 have kM:Kp w w2 M:=Kp.trans (Kp.mono (λg e=>(h9 g e).1) k) V λg _ e=>by rw [e];exact h3
 have s2:=V.size;refine⟨⟨by omega,hle,.inl h3,λg G=>?_,λj=>?_,v',vt,?_,?_,ho.kp V J,?_,λg G=>⟨.inr G,J g G⟩,λg G=>⟨.inl (h10 g G).1,(h10 g G).2⟩,λg G e=>?_⟩,kM⟩
 ·rcases G with G | G
  ·have :=hr g G;omega
  ·have :=ho.block g G;omega
 ·rw [hw,O0,Pd (w:=w) e1];exact h4 j
 ·rw [hw];exact OY _ _ _ (by rw [OG (w:=w) e1];exact h5)
 ·rw [hw,OL _ _ _ _ (by simp),OG (w:=w) e1];exact h6
 ·exact(h8.kp k λg G e=>H g e G).kp V λg G=>(h10 g G).2
 ·rcases hv g G with h | h
  ·exact H g h e
  ·have :=(h8.block g e).2;omega
theorem kN.MX {B:Nat}{w w1 w2:World}{b:Nat}{o:List Nat}{ts H:List Value}{M:Nat->Prop}(h:kN B w b o ts M){vt v':Value}(Z:w.cell? ⟨b,1,none⟩=some vt)(k:Kp w w1 λg=>vt.ownBlock=some g)(ho:aF 156 B w1 v' H)
  (hv:∀g,v'.ownBlock=some g->vt.ownBlock=some g\/w.heap.size<=g) (hw:w2=w1.setCell ⟨b,1,none⟩ v'):kN B w2 b o H (λg=>M g\/v'.ownBlock=some g)/\Kp w w2 M:=by
 obtain⟨h1,hle,h3,hr,h4,vo,α,h5,h6,h7,h8,h9,h10,J⟩:=h;have:α=vt:=Pz (h6.symm.trans Z);subst this;have s1:=k.size;have W:Kr b w1 w2:=hw▸Kr.set w1 1 v';have e1:=k.block b h1 λe=>(h10 b e).2 rfl
 have V:∀g,v'.ownBlock=some g->g≠b:=λg G=>(hv g G).elim (λe=>(h10 g e).2) λe=>by omega
 have kM:Kp w w2 M:=Kp.trans (Kp.mono (λg e=>(h10 g e).1) k) W λg _ e=>by rw [e];exact h3
 have s2:=W.size;refine⟨⟨by omega,hle,.inl h3,λg G=>?_,λj=>?_,vo,v',?_,?_,?_,ho.kp W V,λg G=>⟨.inl (h9 g G).1,(h9 g G).2⟩,λg G=>⟨.inr G,V g G⟩,λg G e=>?_⟩,kM⟩
 ·rcases G with G | G
  ·have :=hr g G;omega
  ·have :=ho.block g G;omega
 ·rw [hw,O0,Pd (w:=w) e1];exact h4 j
 ·rw [hw,OL _ _ _ _ (by simp),OG (w:=w) e1];exact h5
 ·rw [hw];exact OY _ _ _ (by rw [OG (w:=w) e1];exact h6)
 ·exact(h7.kp k λg G e=>J g G e).kp W λg G=>(h9 g G).2
 ·rcases hv g e with h | h
  ·exact J g G h
  ·have :=(h7.block g G).2;omega
theorem cM {f g:Nat->Nat}:∀{l:Lv},(∀x,(x∈l.bvs\/l.fh x)->f x=g x)->l.map f=l.map g
 | .nil,_=>rfl
 | .thr k a b o r n,h=>by
  have hr:=cM (f:=f) (g:=g) (l:=r) λx G=>h x (by
   rcases G with G | G
   ·left;simp [Lv.bvs,G]
   ·by_cases H:x∈o
    ·left;simp [Lv.bvs,H]
    ·by_cases hb:k= .r/\x=b
     ·left;simp [Lv.bvs,hb.1,hb.2]
     ·right;exact .inr (.inr (.inl ⟨H,hb,G⟩)))
  have J:=cM (f:=f) (g:=g) (l:=n) λx G=>h x (by
   rcases G with G | G
   ·left;simp [Lv.bvs,G]
   ·right;exact .inr (.inr (.inr G)))
  have H:o.map f=o.map g:=P7 λx G=>h x (.inl (by simp [Lv.bvs,G]))
  simp only [Lv.map,hr,J,H];cases k<;>simp only [reduceCtorEq,or_self,or_true,true_or,Rm,Qw]
  ·rw [h a (.inr (.inl ⟨.inl rfl,.inl rfl⟩)),h b (.inr (.inl ⟨.inl rfl,.inr rfl⟩))]
  ·rw [h a (.inr (.inr (.inl ⟨rfl,rfl⟩))),h b (.inl (by simp [Lv.bvs]))]
  ·rw [h a (.inr (.inl ⟨.inr rfl,.inl rfl⟩)),h b (.inr (.inl ⟨.inr rfl,.inr rfl⟩))]
 | .sum ps n,h=>by
  have hr:=cM (f:=f) (g:=g) (l:=ps) λx G=>h x (by
   rcases G with G | G
   ·left;simp [Lv.bvs,G]
   ·right;exact .inl G)
  have J:=cM (f:=f) (g:=g) (l:=n) λx G=>h x (by
   rcases G with G | G
   ·left;simp [Lv.bvs,G]
   ·right;exact .inr G)
  simp only [Lv.map,hr,J]
 | .part o q n,h=>by
  have hr:=cM (f:=f) (g:=g) (l:=q) λx G=>h x (by
   rcases G with G | G
   ·left;simp [Lv.bvs,G]
   ·by_cases H:x∈o
    ·left;simp [Lv.bvs,H]
    ·right;exact .inl ⟨H,G⟩)
  have J:=cM (f:=f) (g:=g) (l:=n) λx G=>h x (by
   rcases G with G | G
   ·left;simp [Lv.bvs,G]
   ·right;exact .inr G)
  have H:o.map f=o.map g:=P7 λx G=>h x (.inl (by simp [Lv.bvs,G]))
  simp only [Lv.map,hr,J,H]
theorem pL {x:Nat}:∀(l:Lv) (i:Nat),(l.take i).fh x->l.fh x
 | _,0,h=>h.elim
 | .nil,i+1,h=>h
 | .thr k a b o r n,i+1,h=>by
  rcases h with h | h | h | h
  ·exact .inl h
  ·exact .inr (.inl h)
  ·exact .inr (.inr (.inl h))
  ·exact .inr (.inr (.inr (pL n i h)))
 | .sum ps n,i+1,h=>h.elim .inl λh=> .inr (pL n i h)
 | .part o q n,i+1,h=>h.elim .inl λh=> .inr (pL n i h)
def LK (k:Nat):Prop:=∀{D:Nat->Prop} {w:World} {v:Value} {o:List Nat} {l:Lv} {m r n:Nat} {F:Nat->Nat} {R:Value->Sl},l.sz<=k->l.sh true=true->gB D w v o (ah D w l)->(∀g,D g->¬(g=m\/g=r))->ve o l->Mk w m n->jR w r F->m≠r->n+o.length+l.bvs.length<=4294967296->o.length+l.tot<=4294967296->
 (∀v' w' F' n',Kq m r w w'->Mk w' m n'->jR w' r F'->Rn n n' (o++l.bvs) F F'->aC (ES w) w' (o.map F',l.map F') v'->R v' w')->Sm 217 #[ptr m,v,.map (some r)] w (an [.v] R)
theorem EL (f:Nat->Nat):∀l:Lv,(l.map f).len=l.len:=by intro l;induction l<;>simp_all [Lv.map,Lv.len]
theorem Hq:∀(l:Lv) (i:Nat),(l.take i).bvs.Sublist l.bvs:=by
 intro l
 induction l with
 | nil=>intro i;cases i<;>simp [Lv.take,Lv.bvs]
 | thr k a b o r n _ G=>
  intro i;cases i with
  | zero=>simp [Lv.take,Lv.bvs]
  | succ i=>exact Qt (PY _) (Qt (PY _) (Qt (PY _) (G i)))
 | sum ps n _ G=>
  intro i;cases i with
  | zero=>simp [Lv.take,Lv.bvs]
  | succ i=>exact Qt (PY _) (G i)
 | part o q n _ G=>
  intro i;cases i with
  | zero=>simp [Lv.take,Lv.bvs]
  | succ i=>exact Qt (PY _) (Qt (PY _) (G i))
theorem HT {o:List Nat}{l e:Lv}{i:Nat}(h:ve o l)(V:l.take (i+1)=(l.take i).app e):(∀x∈o++(l.take i).bvs,x∉e.bvs)/\(l.take i).bvs.length+e.bvs.length<=l.bvs.length:=by
 have G:((l.take i).bvs++e.bvs).Sublist l.bvs:=by rw [<-Lv.dB,<-V];exact Hq l _
 have H:=Pp.1 h.nd;refine⟨λx W J=>?_,by have :=G.length_le;rwa [OM]at this⟩;rcases OS.1 W with h | h
 ·exact H.2.2 x h x (G.subset (Pf _ J)) rfl
 ·exact(Pp.1 (H.2.1.sublist G)).2.2 x h x J rfl
theorem Bw (k:Nat)(ih:∀j,j< k->LK j):LK k:=by
 intro D w v o l m r n F R hn hsh h hD huq hmk hmf υ hnn htot hR;refine lN (ptr m) v (.map (some r)) w R ?_;refine⟨rfl,λb4 w5 hb4 hw5 b6 w7 hb6 hw7=>?_⟩;have x5:Ex w w5:=hw5▸Ex.alloc w _;have x57:Ex w5 w7:=hw7▸Ex.alloc w5 _;have x7:=Ex.trans x5 x57;have s5:w5.heap.size=w.heap.size+1:=by rw [hw5,size_alloc]
 have s7:w7.heap.size=w5.heap.size+1:=by rw [hw7,size_alloc]
 have hlm:=hmk.lt;have hlr:=hmf.lt;obtain⟨bl,vo,vt,ts,rfl,h2,h3,h4,h5,h6,h7,h8⟩:=h;obtain⟨ao,capo,hvo⟩:=h6.slice;rw [O8]at hvo;obtain⟨at_,capt,hvt⟩:=h7.slice;have hlen:=h8.len;have hel:=Lv.cN l;have hlt:=ck l;have nd:=huq.nd;have ndo:=Pp.1 nd;have cbl:∀{w1:World},Kq m r w w1->∀{j:Nat} {u:Value},w.cell? ⟨bl,j,none⟩=some u->w1.cell? ⟨bl,j,none⟩=some u:=λx j u hu=>by
  rw [OG (w:=w) (x.kp.block bl h3 (hD bl h2))];exact hu
 have bd7:kN w.heap.size w7 b6 [] [] λg=>g=b6:=kN.new (by omega) hb6 hw7
 have ci7:CI w w7 m r b4 b6 n n [] F F [] .nil [] λg=>g=b6:=
  ⟨(Kq.refl m r w).ex x7 hlm,hmk.ex x7,hmf.kp (Kp.af x7 λ _=>False) (λh=>h),Rn.refl n F,by rw [x57.cell (show b4< _ by omega),hw5,hb4];exact aa rfl,by omega,by omega,by omega,bd7,rfl,hlm,hlr,υ⟩
 refine⟨bl,0,rfl,vo,cbl ci7.kq h4,ao,_,capo,hvo,λx w'=>∃(j n1:Nat) (F1:Nat->Nat) (M:Nat->Prop),x=j/\j<=o.length/\CI w w' m r b4 b6 n n1 (o.take j) F F1 ((o.take j).map F1) .nil [] M,λx _=>(o.length - x).toNat,⟨0,n,F,_,rfl,Px _,ci7⟩,λx w17 hI=>?_⟩;obtain⟨j,n1,F1,M,rfl,hj,ci⟩:=hI;refine⟨λhlt0=>?_,λhge=>?_⟩
 ·
  have hjo:=oL hlt0;obtain⟨bo,oo,φ,hvo',hco⟩:∃bo oo φ,vo= .slice (some ⟨bo,oo,none⟩) o.length φ/\w17.cell? ⟨bo,oo+j,none⟩=some (iv o[j]):=by
   rcases h6 with⟨_,h0⟩ | ⟨bo,oo,φ,e,hbD,hb',χ⟩
   ·rw [Ru]at h0;rw [h0]at hjo;simp at hjo
   ·rw [O8]at e;exact⟨bo,oo,φ,e,by rw [OG (w:=w) (ci.kq.kp.block bo hb' (hD bo hbD))];exact χ j _ (by simp [hjo])⟩
  refine⟨bo,oo,_,φ,hvo',by omega,by omega,(o[j]:Nat),by rw [OU,Pn];exact hco,λw'=>Kq m r w17 w',λw24 hw24=>?_⟩;have x24:Ex w17 w24:=hw24▸Ex.drew w17;have l17m:=ci.mc.lt;have l17r:=ci.mf.lt;have h4':=ci.h4;have rn1:=ci.rn.len;rw [Pt,QU hj]at rn1;have q24:Kq m r w17 w24:=(Kq.refl m r w17).ex x24 l17m;have c4:∀{w1:World},Kq m r w17 w1->w1.cell? ⟨b4,0,none⟩=some (.map (some r)):=λq=>by rw [OG (w:=w17) (q.kp.block b4 ci.l4 (λe=>by rcases e with e | e<;>omega))];exact ci.c4
  refine⟨q24,_,λw' q=>c4 q,uF (ci.mc.ex x24) (by omega) λw27 k27 m27=>?_⟩;have q27:Kq m r w17 w27:=q24.km k27;have mf27:jR w27 r F1:=(ci.mf.kp (Kp.af x24 λ _=>False) (λh=>h)).kp k27.kp (λe=>υ e.symm);obtain⟨mm,hm1,hm2⟩:=mf27;refine⟨q27,r,mm,rfl,hm1,λw30 hm30 hb30=>?_⟩;have q30:Kq m r w17 w30:=q27.blk hb30 l17m υ;have mk30:Mk w30 m (n1+1):=m27.kp (S:=λg=>g=r) ⟨hb30.os,hb30.tape,hb30.output,by rw [hb30.size];exact OQ _,λg _ H=>hb30.block g H⟩ υ;have mf30:jR w30 r (aI F1 o[j] (n1+101)):=ui hm2 hm30;have hMr:∀g,M g->¬(g=m\/g=r):=λg H e=>by have :=(ci.bd.mr g H).1;omega
  have bd30:=ci.bd.kp q30.kp hMr;obtain⟨vo1,vt1,d0,d1,d2,d3,d4,d5,d6⟩:=bd30.sl;refine⟨λw'=>Kp w30 w' λg=>vo1.ownBlock=some g,λyX hw32=>?_⟩;have x32:Ex w30 yX:=hw32▸Ex.drew w30;have s30:=q30.size;have nob6:¬vo1.ownBlock=some b6:=λe=>(d4 b6 e).2 rfl
  have nob4:¬vo1.ownBlock=some b4:=λe=>ci.m4 (d4 b4 e).1
  refine⟨Kp.af x32 _,vo1,λw' k=>by rw [OG (w:=w30) (k.block b6 bd30.lt nob6)];exact d0,.map (some r),λw' k=>by rw [OG (w:=w30) (k.block b4 (by have :=ci.l4;omega) nob4)];exact c4 q30,r,_,rfl,aS hm30 (x32.block r (bS hm30)),((n1+101:Nat):Int),true,.inl ⟨rfl,?_⟩,Kp.af x32 _,λb39 w40 hb39 hw40=>?_⟩
  ·unfold bR;simp
  have x40:Ex yX w40:=hw40▸Ex.alloc yX _;have β:=Ex.trans x32 x40;have bd40:=bd30.ex β;have s40:=β.size;have hB40:w.heap.size<=w40.heap.size:=by have :=ci.kq.size;omega
  refine⟨Kp.af β _,aF.push (d2.kp (Kp.af β λ _=>False) λ _ _ h=>h) hB40 (m:=[iv (n1+101)]) (D:=λ _=>True) (.inr ⟨b39,0,1,rfl,trivial,by rw [hw40,size_alloc,hb39];omega,λi y hy=>?_⟩) (by rfl) (by omega) (by simp only [O8,OF,OX,Pt];omega) λv46 w47 ho47 hg47 hn47=>?_⟩
  ·cases i with
   | zero=>simp only [P3,Qf]at hy;subst hy;rw [hw40,hb39];exact aa rfl
   | succ i=>simp at hy
  have k47:Kp w40 w47 λg=>vo1.ownBlock=some g:=Kp.aJ hg47 λ _ h=>h
  have e6:=k47.block b6 bd40.lt nob6;have c60:w40.cell? ⟨b6,0,none⟩=some vo1:=by rw [β.cell (show b6< _ from bd30.lt)];exact d0
  refine⟨Kp.trans (Kp.af β _) k47 λ _ _ h=>h,ho47.df,⟨⟨vo1,by rw [OG (w:=w40) e6];exact c60⟩,by rw [Pd (w:=w40) e6];exact bd40.fr 0⟩,λw49 hw49=>⟨by omega,?_,tN (by omega)⟩⟩;have hoj:o[j]∉o.take j:=λhm=>by
   have h1:=ndo.1;rw [<-P4 j o,PK hjo]at h1;exact(Pp.1 h1).2.2 _ hm _ (Py ..) rfl
  have hmapj:(o.take j).map F1=(o.take j).map (aI F1 o[j] (n1+101)):=P7 λx hx=>by
   have:x≠o[j]:=λe=>hoj (by rw [<-e];exact hx)
   simp only [aI,O1 this]
  have ho47':aF 3 w.heap.size w47 v46 (((o.take (j+1)).map (aI F1 o[j] (n1+101))).map iv):=by
   rw [OK hjo,PH,PH,<-hmapj];simp only [Pk,QL,aI,Qw];exact ho47
  obtain⟨bd49,k49⟩:=bd40.NU c60 k47 ho47' hn47 hw49;have η:∀g,M g->w.heap.size<=g:=λg H=>(ci.bd.mr g H).1
  have ψ:∀g,v46.ownBlock=some g->M g\/w40.heap.size<=g:=λg H=>(hn47 g H).imp (λe=>(d4 g e).1) id
  have q17:Kq m r w w30:=ci.kq.trans q30;refine⟨j+1,n1+1,aI F1 o[j] (n1+101),λg=>M g\/v46.ownBlock=some g,by omega,by omega,?_⟩;refine⟨(q17.ex β hlm).out k49 (λg H hM=>by have :=η g hM;omega) hlm,(mk30.ex β).kp k49 λhM=>by have :=η _ hM;omega,(mf30.kp (Kp.af β λ _=>False) (λh=>h)).kp k49 λhM=>by have :=η _ hM;omega,?_,?_,?_,h4',?_,bd49,rfl,hlm,hlr,υ⟩
  ·rw [OK hjo];exact ci.rn.app (Rn.one n1 o[j] F1) λx hx hx'=>hoj (by cases OO.1 hx';exact hx)
  ·rw [OG (w:=w40) (k49.block b4 (by have :=ci.l4;omega) ci.m4),β.cell (show b4< _ by have :=ci.l4;omega)];exact c4 q30
  ·have :=k49.size;have :=ci.l4;omega
  ·intro hM;rcases hM with hM | hM
   ·exact ci.m4 hM
   ·rcases ψ b4 hM with h | h
    ·exact ci.m4 h
    ·have :=ci.l4;omega
 ·
  have hjo:=oE hge (by omega);subst hjo;rw [Pa]at ci;refine⟨bl,0,rfl,vt,cbl ci.kq h5,at_,_,capt,hvt,λx w'=>∃(i n2:Nat) (F2:Nat->Nat) (M2:Nat->Prop) (ts2:List Value),x=i/\i<=ts.length/\CI w w' m r b4 b6 n n2 (o++(l.take i).bvs) F F2 (o.map F2) ((l.take i).map F2) ts2 M2,λx _=>(ts.length - x).toNat,⟨0,n1,F1,M,[],rfl,Px _,by simpa [Lv.take,Lv.bvs,Lv.map]using ci⟩,λx W hI=>?_⟩;obtain⟨i,n2,F2,M2,ts2,rfl,hi,Z⟩:=hI;refine⟨λhlt1=>?_,λhge1=>?_⟩;rotate_left
  ·have hie:i=l.bB.length:=by simp only [OV]at hge1;omega
   rw [hie,Lv.dq]at Z;exact hR _ W F2 n2 Z.kq Z.mc Z.mf Z.rn (Z.bd.NC (λg _ H=>H) (ah.sub (λg _ H=>H.1.1) Z.th))
  have hil:=oL hlt1;have hie:i< l.bB.length:=by omega
  have q59:=Z.kq;obtain⟨bt,ot,θ,hvt',hct⟩:∃bt ot θ,vt= .slice (some ⟨bt,ot,none⟩) ts.length θ/\W.cell? ⟨bt,ot+i,none⟩=some ts[i]:=by
   rcases h7 with⟨_,h0⟩ | ⟨bt,ot,θ,e,hbD,hb',χ⟩
   ·rw [h0]at hil;simp at hil
   ·exact⟨bt,ot,θ,e,by rw [OG (w:=w) (q59.kp.block bt hb' (hD bt hbD))];exact χ i _ (OH hil)⟩
  obtain⟨e,he1,he2,he3⟩:=aP.single h8.bB (OH hil);have he4:l.bB[i]=e:=by rw [OH hie]at he1;exact Pz he1
  have hts:=Lv.take_succ l i hie;rw [he4]at hts;have hsz:=Lv.eJ l e he2;have htt:=Lv.gJ l e he2;have huqe:=huq.bB he2;have J:=Z.mc.lt;have hl59r:=Z.mf.lt;have s59:=q59.size;have h4':=Z.h4;have rn2:=Z.rn.len;have bvs2:(l.take (i+1)).bvs=(l.take i).bvs++e.bvs:=by rw [hts,Lv.dB]
  rw [OM]at rn2;obtain⟨hdis,bvt⟩:=HT huq hts;have keepO:∀{n3 F3},Rn n2 n3 e.bvs F2 F3->o.map F3=o.map F2/\(l.take i).map F3=(l.take i).map F2:=λ{n3 F3} rn=>by
   refine⟨P7 λx hx=>rn.out x (hdis x (Pm _ hx)),cM λx hx=>rn.out x λhxe=>?_⟩;rcases hx with hx | hx
   ·exact hdis x (Pf _ hx) hxe
   ·exact huq.nf x ((Lv.mS l e he2).subset hxe) (pL l i hx)
  have fin:∀(G:Nat) (V:World) (n3:Nat) (F3:Nat->Nat),W.heap.size<=G->G< V.heap.size->Kq m r W V->Mk V m n3->jR V r F3->Rn n2 n3 e.bvs F2 F3->ah (λg=>W.heap.size<=g/\g< V.heap.size) V (e.map F3) [ptr G]->
    ∃v195:Value,World.cell? V ⟨b6,1,none⟩=some v195/\∀(b196:Nat) (α:World),b196=Array.size (World.heap V)->α=World.alloc V (Obj.cells #[(Value.pointer (some ⟨G,0,none⟩))] 156)->∃(ω n199 m200:Nat) (xs201 news202:List Value),World.ownsRow α ω 156 1 v195 n199 xs201/\ω<=Array.size (World.heap α)/\dW α (Value.slice (some ⟨b196,0,none⟩) 1 1) m200 1 news202/\(n199+m200<=maxLen/\(n199+m200)* 8<=140737488355328)/\
     ∀(v203:Value) (w204:World),World.ownsRow w204 ω 156 1 v203 (n199+m200) (xs201++news202)->World.grownBy α w204 (Value.ownBlock v195)->(∀b:Nat,Value.ownBlock v203=some b->Value.ownBlock v195=some b\/Array.size (World.heap α)<=b)->ay v203=true/\((∃u205:Value,World.cell? w204 ⟨b6,1,none⟩=some u205)/\World.frozen? w204 ⟨b6,1,none⟩=false)/\∀ο:World,ο=World.setCell w204 ⟨b6,1,none⟩ v203->
      a7 ((i:Int)+1)/\(∃(i2 n4:Nat) (F4:Nat->Nat) (M4:Nat->Prop) (ts4:List Value),(i:Int)+1=i2/\i2<=ts.length/\CI w ο m r b4 b6 n n4 (o++(l.take i2).bvs) F F4 (o.map F4) ((l.take i2).map F4) ts4 M4)/\((ts.length:Int) - ((i:Int)+1)).toNat< ((ts.length:Int) - i).toNat:=by
   intro G V n3 F3 h68 l68 δ mk172 mf172 ι ε;have hMr:∀g,M2 g->¬(g=m\/g=r):=λg H e=>by
    have :=(Z.bd.mr g H).1;rcases e with e | e<;>omega
   obtain⟨ko,kl⟩:=keepO ι;have bd172:=Z.bd.kp δ.kp hMr;obtain⟨vo1,vt1,d0,d1,d2,d3,d4,d5,d6⟩:=bd172.sl;refine⟨vt1,d1,λb196 α hb196 hw197=>?_⟩;have κ:Ex V α:=hw197▸Ex.alloc V _;have s197:α.heap.size=V.heap.size+1:=by rw [hw197,size_alloc]
   have s172:=δ.size;have bd197:=bd172.ex κ;have hlts:ts2.length<=ts.length:=by
    have h1:=Z.th.len;have h2:=EL F2 (l.take i);have :=Lv.gX l i;omega
   refine aF.push (d3.kp (Kp.af κ λ _=>False) λ _ _ h=>h) (by omega) (m:=[ptr G]) (D:=λ _=>True) (.inr ⟨b196,0,1,rfl,trivial,by omega,λi y hy=>?_⟩) (by rfl) (by omega) (by simp only [OF,OX];omega) λv203 w204 ho204 hg204 hn204=>?_
   ·cases i with
    | zero=>simp only [P3,Qf]at hy;subst hy;rw [hw197,hb196];exact aa rfl
    | succ i=>simp at hy
   have k204:Kp α w204 λg=>vt1.ownBlock=some g:=Kp.aJ hg204 λ _ h=>h
   have e6:=k204.block b6 bd197.lt λe=>(d5 b6 e).2 rfl
   have c61:α.cell? ⟨b6,1,none⟩=some vt1:=by rw [κ.cell (show b6< _ from bd172.lt)];exact d1
   refine⟨ho204.df,⟨⟨vt1,by rw [OG (w:=α) e6];exact c61⟩,by rw [Pd (w:=α) e6];exact bd197.fr 1⟩,λο hw206=>⟨by omega,?_,by omega⟩⟩;obtain⟨bd206,k206⟩:=bd197.MX c61 k204 ho204 hn204 hw206;have η:∀g,M2 g->w.heap.size<=g/\g< W.heap.size:=Z.bd.mr;have ψ:∀g,v203.ownBlock=some g->M2 g\/α.heap.size<=g:=λg H=>(hn204 g H).imp (λe=>(d5 g e).1) id
   have q206:Kq m r w ο:=((q59.trans δ).ex κ hlm).out k206 (λg H hM=>by have :=(η g hM).1;omega) hlm;have s206:=k206.size;have l4:=Z.l4;have hth1:ah (λg=>(w.heap.size<=g/\¬(M2 g\/v203.ownBlock=some g)/\g≠b4)/\g< ο.heap.size) ο ((l.take i).map F3) ts2:=by
    rw [kl];refine ah.sub (λg _ H=>⟨⟨H.1.1,λhM=>hM.elim H.1.2.1 λe=>(ψ g e).elim H.1.2.1 λh=>by omega,H.1.2.2⟩,by omega⟩) (ah.kp k206 (λg H hM=>H.1.2.1 hM) (ah.ex (ah.kp δ.kp (λg H e=>by
     have :=H.1.1;rcases e with e | e<;>omega) Z.th) κ))
   have hth2:ah (λg=>(w.heap.size<=g/\¬(M2 g\/v203.ownBlock=some g)/\g≠b4)/\g< ο.heap.size) ο (e.map F3) [ptr G]:=
    ah.sub (λg _ H=>⟨⟨by omega,λhM=>hM.elim (λh=>by have :=(η g h).2;omega) λe=>(ψ g e).elim (λh=>by have :=(η g h).2;omega) λh=>by omega,by omega⟩,by omega⟩) (ah.kp k206 (λg H hM=>by have :=(η g hM).2;omega) (ah.ex ε κ))
   refine⟨i+1,n3,F3,λg=>M2 g\/v203.ownBlock=some g,ts2++[ptr G],by omega,by omega,⟨q206,(mk172.ex κ).kp k206 λhM=>by have :=(η _ hM).1;omega,(mf172.kp (Kp.af κ λ _=>False) (λh=>h)).kp k206 λhM=>by have :=(η _ hM).1;omega,?_,?_,by omega,h4',λhM=>?_,by rw [ko];exact bd206,?_,hlm,hlr,υ⟩⟩
   ·rw [bvs2,<-Pv];exact Z.rn.app ι hdis
   ·rw [OG (w:=α) (k206.block b4 (by omega) Z.m4),κ.cell (show b4< _ by omega),OG (w:=W) (δ.kp.block b4 l4 λe=>by rcases e with e | e<;>omega)];exact Z.c4
   ·rcases hM with hM | hM
    ·exact Z.m4 hM
    ·rcases ψ b4 hM with h | h
     ·exact Z.m4 h
     ·omega
   ·rw [hts,Lv.fF];exact ah.app hth1 hth2
  refine⟨bt,ot,_,θ,hvt',by omega,by omega,ts[i],by rw [OU,Pn];exact hct,?_⟩;have h26:=huqe.ge;have l4:=Z.l4;have c4b:∀{w1:World},Kq m r W w1->w1.cell? ⟨b4,0,none⟩=some (.map (some r)):=λq=>by
   rw [OG (w:=W) (q.kp.block b4 l4 λe=>by rcases e with e | e<;>omega)];exact Z.c4
  rcases Lv.kB hsh e he2 with⟨kk,a,b,o',q,rfl,hq⟩ | ⟨ps,rfl,hps⟩
  ·obtain⟨t,ts',a',b',vr,e1,ht,hkk,hlv,_⟩:=he3;obtain⟨rfl,rfl⟩:=PQ e1;obtain⟨g,H,hgD,hg2,c0,c1,c2,c3,c4'⟩:=ht;have cg:∀{w1:World},Kq m r W w1->∀{j:Nat} {u:Value},w.cell? ⟨g,j,none⟩=some u->w1.cell? ⟨g,j,none⟩=some u:=λx j u hu=>by
    rw [OG (w:=w) ((q59.trans x).kp.block g hg2 (hD g hgD))];exact hu
   have q0:=Kq.refl m r W;simp only [Lv.sz]at hsz;simp only [Lv.tot]at htt;obtain⟨u1,u2⟩:=huqe.thr;have ebv:(Lv.thr kk a b o' q .nil).bvs=(if kk= .r then [b]else [])++(o'++q.bvs):=by simp [Lv.bvs]
   rw [ebv]at bvt;simp only [OM]at bvt;refine⟨g,0,H,kk.byte,cg q0 c0,λG γ hb68 hw69=>⟨λw'=>∃(n3:Nat) (F3:Nat->Nat) (a1 b1:Nat),Kq m r W w'/\Mk w' m n3/\jR w' r F3/\Rn n2 n3 (if kk= .r then [b]else []) F2 F3/\kR w' G kk.byte a1 b1 (.pointer none) (.slice none 0 0)/\(kk= .t\/kk= .p\/(a1=F3 a/\b1=F3 b)),⟨g,0,H,kk.byte,?_,?_⟩,λw146 hJ=>?_⟩⟩
   all_goals have x69:Ex W γ:=hw69▸Ex.alloc W _
   all_goals have ξ:Kq m r W γ:=q0.ex x69 J
   ·exact cg ξ c0
   ·have th69:kR γ G kk.byte 0 0 (.pointer none) (.slice none 0 0):=kR.new hb68 hw69;have mk69:=Z.mc.ex x69;have mf69:=Z.mf.kp (Kp.af x69 λ _=>False) (λh=>h);have two:(kk= .s\/kk= .m)->∃S106:Sl,∀ς:World,ς=World.drew γ->S106 ς/\∃(b108 o109:Nat),ts[i]=Value.pointer (some ⟨b108,o109,none⟩)/\∃n110:Int,(∀w',S106 w'->World.cell? w' ⟨b108,(o109+1),none⟩=some (Value.int IntKind.i64 n110))/\∃(b111 o112:Nat),ts[i]=Value.pointer (some ⟨b111,o112,none⟩)/\∃n113:Int,(∀w',S106 w'->World.cell? w' ⟨b111,(o112+2),none⟩=some (Value.int IntKind.i64 n113))/\∃(f114:Nat) (ca115:List Value),(Value.func (Fn.func 239) #[] #[(Value.pointer (some ⟨b4,0,none⟩))])=Value.func (Fn.func f114) #[] (List.toArray ca115)/\hasR gj f114=true/\Sm f114 (List.toArray ([(Value.int IntKind.i64 n110)]++ca115)) ς (an [.i] fun(n116:Int) (w117:World)=>S106 w117/\∃(f118:Nat) (ca119:List Value),(Value.func (Fn.func 239) #[] #[(Value.pointer (some ⟨b4,0,none⟩))])=Value.func (Fn.func f118) #[] (List.toArray ca119)/\hasR gj f118=true/\Sm f118 (List.toArray ([(Value.int IntKind.i64 n113)]++ca119)) w117 (an [.i] fun(n120:Int) (w121:World)=>S106 w121/\((∃u122:Value,World.cell? w121 ⟨G,1,none⟩=some u122)/\World.frozen? w121 ⟨G,1,none⟩=false)/\∀w123:World,w123=World.setCell w121 ⟨G,1,none⟩ (Value.int IntKind.i64 n116)->((∃u124:Value,World.cell? w123 ⟨G,2,none⟩=some u124)/\World.frozen? w123 ⟨G,2,none⟩=false)/\∀w125:World,w125=World.setCell w123 ⟨G,2,none⟩ (Value.int IntKind.i64 n120)->
      ∃(n3:Nat) (F3:Nat->Nat) (a1 b1:Nat),Kq m r W w125/\Mk w125 m n3/\jR w125 r F3/\Rn n2 n3 (if kk= .r then [b]else []) F2 F3/\kR w125 G kk.byte a1 b1 (.pointer none) (.slice none 0 0)/\(kk= .t\/kk= .p\/(a1=F3 a/\b1=F3 b)))):=by
     intro hk2;obtain⟨rfl,rfl⟩:a'=a/\b'=b:=by
      rcases hkk with h | h | h
      ·rw [h]at hk2;simp at hk2
      ·rw [h]at hk2;simp at hk2
      ·exact h
     refine⟨λw'=>Ex γ w',λς hw107=>⟨hw107▸Ex.drew γ,g,0,H,a',λw' x=>cg (ξ.ex x J) c1,g,0,H,b',λw' x=>cg (ξ.ex x J) c2,239,[ptr b4],rfl,by kernel_rfl,?_⟩⟩;have x107:Ex γ ς:=hw107▸Ex.drew γ;have q107:=ξ.ex x107 J;have mf107:=mf69.kp (Kp.af x107 λ _=>False) (λh=>h);refine C5 (c4b q107) mf107 ⟨x107,239,[ptr b4],rfl,by kernel_rfl,C5 (c4b q107) mf107 ⟨x107,?_⟩⟩;have th107:kR ς G kk.byte 0 0 (.pointer none) (.slice none 0 0):=th69.kp (Kp.af x107 λ _=>False) λh=>h
     refine⟨⟨⟨_,th107.c1⟩,th107.f 1⟩,λw123 hw123=>?_⟩;have th123:=th107.AF (x:=F2 a') hw123;refine⟨⟨⟨_,th123.c2⟩,th123.f 2⟩,λw125 hw125=>?_⟩;have th125:=th123.uP (x:=F2 b') hw125;have kb:Kr G ς w125:=Kr.trans (hw123▸Kr.set ς 1 _) (hw125▸Kr.set w123 2 _);have hkr:¬kk= .r:=λe=>by rw [e]at hk2;simp at hk2
     rw [O1 hkr];exact⟨n2,F2,F2 a',F2 b',q107.out kb (λg H e=>by omega) J,(mk69.ex x107).kp kb (by omega),mf107.kp kb (by omega),Rn.refl n2 F2,th125,.inr (.inr ⟨rfl,rfl⟩)⟩
    have zero:(kk= .t\/kk= .p)->∃(n3:Nat) (F3:Nat->Nat) (a1 b1:Nat),Kq m r W γ/\Mk γ m n3/\jR γ r F3/\Rn n2 n3 (if kk= .r then [b]else []) F2 F3/\kR γ G kk.byte a1 b1 (.pointer none) (.slice none 0 0)/\(kk= .t\/kk= .p\/(a1=F3 a/\b1=F3 b)):=by
     intro hk2;have hkr:¬kk= .r:=λe=>by rw [e]at hk2;simp at hk2
     rw [O1 hkr];exact⟨n2,F2,0,0,ξ,mk69,mf69,Rn.refl n2 F2,th69,hk2.elim .inl λh=> .inr (.inl h)⟩
    cases kk
    case s=>exact aW (by decide) ⟨λ _=>dc (by decide) (two (.inl rfl)),λh=>absurd h (by decide)⟩
    case m=>exact aW (by decide) ⟨λh=>absurd h (by decide),λ _=>dc (by decide) (two (.inr rfl))⟩
    case t=>exact aW (by decide) ⟨λh=>absurd h (by decide),λ _=>aW (by decide) (zero (.inl rfl))⟩
    case p=>exact aW (by decide) ⟨λh=>absurd h (by decide),λ _=>aW (by decide) (zero (.inr rfl))⟩
    case r=>
     obtain⟨rfl,rfl⟩:a'=a/\b'=b:=by rcases hkk with h | h | h<;>first | exact h | cases h
     obtain⟨v1,v2,v3,v4⟩:=u2 rfl;simp only [Qw,OF,OX]at bvt;refine dc (by decide) ⟨g,0,H,a',cg ξ c1,239,[ptr b4],rfl,by kernel_rfl,C5 (c4b ξ) mf69 ⟨⟨⟨_,th69.c1⟩,th69.f 1⟩,λw82 hw82=>⟨λw'=>Kq m r W w',λw84 hw84=>?_⟩⟩⟩;have th82:=th69.AF (x:=F2 a') hw82;have kb82:Kr G γ w82:=hw82▸Kr.set γ 1 _;have x84:Ex w82 w84:=hw84▸Ex.drew w82;have q82:Kq m r W w82:=ξ.out kb82 (λg H e=>by omega) J;have q84:=q82.ex x84 J;have mk82:=mk69.kp kb82 (by omega);have mf82:=mf69.kp kb82 (by omega);refine⟨q84,_,λw' q=>c4b q,g,0,H,b',λw' q=>cg q c2,uF (mk82.ex x84) (by omega) λw90 k90 m90=>?_⟩;have q90:=q84.km k90;have th90:=(th82.kp (Kp.af x84 λ _=>False) λh=>h).kp k90.kp (by omega);obtain⟨mm,hm1,hm2⟩:=(mf82.kp (Kp.af x84 λ _=>False) (λh=>h)).kp k90.kp (λe=>υ e.symm);refine⟨q90,r,mm,rfl,hm1,λw93 hm93 hb93=>?_⟩;have kr93:Kp w90 w93 (λg=>g=r):=⟨hb93.os,hb93.tape,hb93.output,by rw [hb93.size];exact OQ _,λg _ H=>hb93.block g H⟩
     have q93:=q90.blk hb93 J υ;have mk93:=m90.kp kr93 υ;have th93:=th90.kp kr93 (by omega);refine⟨λw'=>Ex w93 w',λw95 hw95=>?_⟩;have x95:Ex w93 w95:=hw95▸Ex.drew w93;have q95:=q93.ex x95 J;have th95:=th93.kp (Kp.af x95 λ _=>False) λh=>h
     refine⟨x95,_,λw' x=>c4b (q93.ex x J),g,0,H,b',λw' x=>cg (q93.ex x J) c2,r,_,rfl,aS hm93 (x95.block r (bS hm93)),((n2+101:Nat):Int),true,.inl ⟨rfl,by unfold bR;simp⟩,⟨⟨_,th95.c2⟩,th95.f 2⟩,λw105 hw105=>?_⟩;have kb105:Kr G w95 w105:=hw105▸Kr.set w95 2 _;refine⟨n2+1,aI F2 b' (n2+101),F2 a',n2+101,q95.out kb105 (λg H e=>by omega) J,(mk93.ex x95).kp kb105 (by omega),((ui hm2 hm93).kp (Kp.af x95 λ _=>False) (λh=>h)).kp kb105 (by omega),Rn.one n2 b' F2,th95.uP hw105,.inr (.inr ⟨?_,?_⟩)⟩
     ·exact(O1 λe=>v2 e.symm).symm
     ·simp [aI]
   ·obtain⟨n3,F3,a1,b1,q146,mk146,mf146,rn146,th146,hab⟩:=hJ;have hbr:∃br,vr=ptr br:=by obtain⟨br,_,_,_,e,_⟩:=hlv;exact⟨br,e⟩
    obtain⟨br,rfl⟩:=hbr;have h68:W.heap.size<=G:=by omega
    refine⟨λw'=>∃(n4:Nat) (F4:Nat->Nat) (vr2:Value),Kq m r W w'/\Mk w' m n4/\jR w' r F4/\Rn n2 n4 ((if kk= .r then [b]else [])++(o'++q.bvs)) F2 F4/\kR w' G kk.byte a1 b1 vr2 (.slice none 0 0)/\aC (λg=>W.heap.size<=g/\g< w'.heap.size) w' (o'.map F4,q.map F4) vr2/\(kk= .t\/kk= .p\/(a1=F4 a/\b1=F4 b)),⟨g,0,H,ptr br,cg q146 c3,some ⟨br,0,none⟩,rfl,λ _=>⟨λw'=>Kq m r W w',λw153 hw153=>?_⟩,λh=>by cases h⟩,λw162 hJ=>?_⟩
    ·have x153:Ex w146 w153:=hw153▸Ex.drew w146;have q153:=q146.ex x153 J;have rl:=rn146.len;have hb1:(if kk= .r then [b]else []).length=if kk= .r then 1 else 0:=by split<;>rfl
     have hl153:gB D w153 (ptr br) o' (ah D w153 q):=hlv.kp (q59.trans q153).kp hD λl h=>h.kp (q59.trans q153).kp hD
     refine⟨q153,g,0,H,ptr br,λw' x=>cg x c3,_,λw' x=>c4b x,ih q.sz (by omega) (OQ _) hq hl153 hD u1 (mk146.ex x153) (mf146.kp (Kp.af x153 λ _=>False) (λh=>h)) υ (by omega) (by omega) λv158 w159 F4 n4 q159 mk159 mf159 rn159 l159=>?_⟩;have s153:=x153.size;have hb68l:=th146.lt;have th159:=(th146.kp (Kp.af x153 λ _=>False) λh=>h).kp q159.kp (by omega);refine⟨l159.one,⟨⟨_,th159.c3⟩,th159.f 3⟩,λw161 hw161=>?_⟩;have kb161:Kr G w159 w161:=hw161▸Kr.set w159 3 _;have s159:=q159.size;have s161:=kb161.size;have ndb:=huqe.nd;rw [PG,ebv]at ndb;have nfb:=huqe.nf;rw [ebv]at nfb;have hdis2:=(Pp.1 ndb).2.2;refine⟨n4,F4,v158,(q153.trans q159).out kb161 (λg H e=>by omega) J,mk159.kp kb161 (by omega),mf159.kp kb161 (by omega),rn146.app rn159 (λx hx hx'=>hdis2 x hx x hx' rfl),th159.Gf hw161,?_,?_⟩
     ·exact aC.sub (aC.kp (aC.sub (E:=λg=>w153.heap.size<=g/\g< w159.heap.size) l159 λg H hd=>⟨hd,H⟩) kb161 λg H e=>by omega) λg _ H=>⟨by have :=q153.size;omega,by omega⟩
     ·rcases hab with h | h | ⟨ha,hb⟩
      ·exact .inl h
      ·exact .inr (.inl h)
      ·by_cases hkt:kk= .t\/kk= .p
       ·exact hkt.elim .inl λh=> .inr (.inl h)
       ·right;right;have hfa:a∉o'++q.bvs:=λhm=>nfb a (Pf _ hm) (by
         cases kk
         ·exact .inl ⟨.inl rfl,.inl rfl⟩
         ·exact .inr (.inl ⟨rfl,rfl⟩)
         ·exact absurd (.inl rfl) hkt
         ·exact .inl ⟨.inr rfl,.inl rfl⟩
         ·exact absurd (.inr rfl) hkt)
        have hfb:b∉o'++q.bvs:=λhm=>by
         by_cases hkr:kk= .r
         ·have :=u2 hkr;exact(OS.1 hm).elim this.2.2.1 this.2.2.2
         ·exact nfb b (Pf _ hm) (by
           cases kk
           ·exact .inl ⟨.inl rfl,.inr rfl⟩
           ·exact absurd rfl hkr
           ·exact absurd (.inl rfl) hkt
           ·exact .inl ⟨.inr rfl,.inr rfl⟩
           ·exact absurd (.inr rfl) hkt)
        rw [rn159.out a hfa,rn159.out b hfb];exact⟨ha,hb⟩
    ·obtain⟨n4,F4,vr2,q162,mk162,mf162,rn162,th162,l162,hab4⟩:=hJ;refine⟨g,0,H,.slice none 0 0,cg q162 c4',none,0,0,rfl,λy w'=>y=0/\w'=w162,λ _ _=>0,⟨rfl,rfl⟩,λy V hy=>?_⟩;obtain⟨rfl,rfl⟩:=hy;refine⟨λh=>by simp at h,λ _=>fin G V n4 F4 h68 th162.lt q162 mk162 mf162 (by rw [ebv];exact rn162) ?_⟩;refine⟨ptr G,[],a1,b1,vr2,rfl,th162.ML ⟨h68,th162.lt⟩,?_,l162,rfl⟩;rcases hab4 with h | h | ⟨h1,h2⟩
     ·exact .inl h
     ·exact .inr (.inl h)
     ·by_cases hkt:kk= .t\/kk= .p
      ·exact hkt.elim .inl λh=> .inr (.inl h)
      ·exact .inr (.inr ⟨by rw [O1 hkt];exact h1,by rw [O1 hkt];exact h2⟩)
  ·obtain⟨t,ts',a',b',vp,us,e1,ht,hus,hps2,_⟩:=he3;obtain⟨rfl,rfl⟩:=PQ e1;obtain⟨g,H,hgD,hg2,c0,c1,c2,c3,c4'⟩:=ht;have cg:∀{w1:World},Kq m r W w1->∀{j:Nat} {u:Value},w.cell? ⟨g,j,none⟩=some u->w1.cell? ⟨g,j,none⟩=some u:=λx j u hu=>by
    rw [OG (w:=w) ((q59.trans x).kp.block g hg2 (hD g hgD))];exact hu
   have q0:=Kq.refl m r W;have uq:=huqe.sum;have ebv:(Lv.sum ps .nil).bvs=ps.bvs:=by simp [Lv.bvs]
   rw [ebv]at bvt;simp only [Lv.sz]at hsz;simp only [Lv.tot]at htt;obtain⟨au,cau,hvu⟩:=hus.slice;have hul:=hps2.len;have hpl:=Lv.cN ps;have hpt:=ck ps;refine⟨g,0,H,43,cg q0 c0,λG γ hb68 hw69=>⟨λw'=>w'=γ,⟨g,0,H,43,?_,aW (by decide) ⟨λh=>absurd h (by decide),λ _=>aW (by decide) rfl⟩⟩,λw146 hJ=>⟨λw'=>w'=γ,?_,λw162 hJ2=>?_⟩⟩⟩
   all_goals have x69:Ex W γ:=hw69▸Ex.alloc W _
   all_goals have ξ:Kq m r W γ:=q0.ex x69 J
   ·exact cg ξ c0
   ·subst hJ;exact⟨g,0,H,.pointer none,cg ξ c3,none,rfl,λh=>(by cases h),λ _=>rfl⟩
   subst hJ2;have h68:W.heap.size<=G:=by omega
   have th69:kR w162 G 43 0 0 (.pointer none) (.slice none 0 0):=kR.new hb68 hw69;refine⟨g,0,H,vp,cg ξ c4',au,_,cau,hvu,λy w'=>∃(j n3:Nat) (F3:Nat->Nat) (ζ:Value) (us2:List Value),y=j/\j<=us.length/\Kq m r W w'/\Mk w' m n3/\jR w' r F3/\Rn n2 n3 (ps.take j).bvs F2 F3/\kR w' G 43 0 0 (.pointer none) ζ/\aF 146 W.heap.size w' ζ us2/\(∀g,ζ.ownBlock=some g->g≠G)/\ah (λg=>(W.heap.size<=g/\g≠G/\ζ.ownBlock≠some g)/\g< w'.heap.size) w' ((ps.take j).map F3) us2,
    λy _=>(us.length - y).toNat,⟨0,n2,F2,.slice none 0 0,[],rfl,Px _,ξ,Z.mc.ex x69,Z.mf.kp (Kp.af x69 λ _=>False) (λh=>h),Rn.refl n2 F2,th69,aF.nil _ _ _,λg H=>(by cases H),rfl⟩,λy V hI2=>?_⟩
   obtain⟨j,n3,F3,ζ,us2,rfl,hj,δ,mk172,mf172,ι,ε,ho172,hnb,ht172⟩:=hI2;refine⟨λhlt2=>?_,λhge2=>?_⟩;rotate_left
   ·have hje:j=ps.bB.length:=by simp only [OV]at hge2;omega
    rw [hje,Lv.dq]at ι ht172;refine fin G V n3 F3 h68 ε.lt δ mk172 mf172 (by rw [ebv];exact ι) ⟨ptr G,[],0,0,ζ,us2,rfl,ε.ML ⟨h68,ε.lt⟩,ho172.E4 (λg H=>ho172.block g H),ah.sub (λg _ H=>⟨H.1.1,H.2⟩) ht172,rfl⟩
   have hju:=oL hlt2;have hje:j< ps.bB.length:=by omega
   obtain⟨bu,ou,capu',hvu',hcu⟩:∃bu ou capu',vp= .slice (some ⟨bu,ou,none⟩) us.length capu'/\V.cell? ⟨bu,ou+j,none⟩=some us[j]:=by
    rcases hus with⟨_,h0⟩ | ⟨bt,ot,θ,e,hbD,hb',χ⟩
    ·rw [h0]at hju;simp at hju
    ·exact⟨bt,ot,θ,e,by rw [OG (w:=w) ((q59.trans δ).kp.block bt hb' (hD bt hbD))];exact χ j _ (OH hju)⟩
   obtain⟨e,hf1,hf2,hf3⟩:=aP.single hps2.bB (OH hju);have hf4:ps.bB[j]=e:=by rw [OH hje]at hf1;exact Pz hf1
   have hts2:=Lv.take_succ ps j hje;rw [hf4]at hts2;obtain⟨hdis2,bvt2⟩:=HT uq hts2;have huqe2:=uq.bB hf2;have hsz2:=Lv.eJ ps e hf2;have htt2:=Lv.gJ ps e hf2;obtain⟨o2,q,rfl,hq⟩:=Lv.mQ hps e hf2;simp only [Lv.sz]at hsz2;simp only [Lv.tot]at htt2;have ebv2:(Lv.part o2 q .nil).bvs=o2++q.bvs:=by simp [Lv.bvs]
   rw [ebv2]at bvt2 hdis2;rw [OM]at bvt2;obtain⟨v2,ts3,e2,hlv2,_⟩:=hf3;obtain⟨rfl,rfl⟩:=PQ e2;have rl:=ι.len;have s172:=δ.size;refine⟨bu,ou,_,capu',hvu',by omega,by omega,us[j],by rw [OU,Pn];exact hcu,λw'=>Kp V w' λg=>g=m\/g=r\/ζ.ownBlock=some g,λw179 hw179=>?_⟩;have μ:Ex V w179:=hw179▸Ex.drew V;have q179:=δ.ex μ J;have hob:=ho172.block;have hb68l:=ε.lt;have nb68:¬(G=m\/G=r\/ζ.ownBlock=some G):=λe=>by
    rcases e with e | e | e
    ·omega
    ·omega
    ·exact hnb _ e rfl
   have nb4:¬(b4=m\/b4=r\/ζ.ownBlock=some b4):=λe=>by
    rcases e with e | e | e
    ·omega
    ·omega
    ·have :=hob _ e;omega
   have hl179:gB D w179 us[j] o2 (ah D w179 q):=hlv2.kp (q59.trans q179).kp hD λl h=>h.kp (q59.trans q179).kp hD
   refine⟨Kp.af μ _,ζ,λw' k=>by rw [OG (w:=V) (k.block G hb68l nb68)];exact ε.c4,.map (some r),λw' k=>by rw [OG (w:=V) (k.block b4 (by omega) nb4)];exact c4b δ,?_⟩;refine ih q.sz (by omega) (OQ _) hq hl179 hD huqe2.part (mk172.ex μ) (mf172.kp (Kp.af μ λ _=>False) (λh=>h)) υ (by omega) (by omega) λv182 w183 F4 n4 q183 mk183 mf183 rn183 l183=>?_
   have k183:Kp V w183 λg=>g=m\/g=r\/ζ.ownBlock=some g:=Kp.trans (Kp.af μ _) (Kp.mono (λg e=>e.elim .inl λe=> .inr (.inl e)) q183.kp) λ _ _ h=>h
   refine⟨k183,l183.one,λb184 w185 hb184 hw185=>?_⟩;have ν:Ex w183 w185:=hw185▸Ex.alloc w183 _;have s185:w185.heap.size=w183.heap.size+1:=by rw [hw185,size_alloc]
   have s179:=μ.size;have s183:=q183.size;have hMr:∀g,ζ.ownBlock=some g->¬(g=m\/g=r):=λg H e=>by
    have :=hob g H;rcases e with e | e<;>omega
   have ho185:aF 146 W.heap.size w185 ζ us2:=((ho172.kp (Kp.af μ λ _=>False) λ _ _ h=>h).kp q183.kp hMr).kp (Kp.af ν λ _=>False) λ _ _ h=>h
   have hlu:us2.length<=us.length:=by
    have h1:=ht172.len;have h2:=EL F3 (ps.take j);have :=Lv.gX ps j;omega
   refine⟨Kp.trans k183 (Kp.af ν λ _=>False) λ _ _ h=>h.elim,aF.push ho185 (by omega) (m:=[v182]) (D:=λ _=>True) (.inr ⟨b184,0,1,rfl,trivial,by omega,λi y hy=>?_⟩) (by simp only [PZ,RD,Ra];exact l183.one) (by omega) (by simp only [OF,OX];omega) λv191 w192 ho192 hg192 hn192=>?_⟩
   ·cases i with
    | zero=>simp only [P3,Qf]at hy;subst hy;rw [hw185,hb184];exact aa rfl
    | succ i=>simp at hy
   have k192:Kp w185 w192 λg=>ζ.ownBlock=some g:=Kp.aJ hg192 λ _ h=>h
   have th185:=((ε.kp (Kp.af μ λ _=>False) λh=>h).kp q183.kp (λe=>by rcases e with e | e<;>omega)).kp (Kp.af ν λ _=>False) λh=>h
   have th192:=th185.kp k192 λe=>hnb _ e rfl
   refine⟨Kp.trans (Kp.trans k183 (Kp.af ν λ _=>False) λ _ _ h=>h.elim) k192 λg _ h=> .inr (.inr h),ho192.df,⟨⟨_,th192.c4⟩,th192.f 4⟩,λw194 hw194=>⟨by omega,?_,tN (by omega)⟩⟩;have kb194:Kr G w192 w194:=hw194▸Kr.set w192 4 _;have k194:Kp w185 w194 λg=>ζ.ownBlock=some g\/g=G:=Kp.trans (Kp.mono (λ _ h=> .inl h) k192) kb194 λ _ _ h=> .inr h
   have s194:=k194.size;have hnew:∀g,v191.ownBlock=some g->ζ.ownBlock=some g\/w185.heap.size<=g:=hn192;have q185:Kq m r W w185:=(q179.trans q183).ex ν J;have wq:(ps.take j).map F4=(ps.take j).map F3:=cM λx hx=>rn183.out x λhxe=>by
    rcases hx with hx | hx
    ·exact hdis2 x hx hxe
    ·exact uq.nf x ((Lv.mS ps _ hf2).subset (by rw [ebv2];exact hxe)) (pL ps j hx)
   have hS:∀g,(ζ.ownBlock=some g\/g=G)->W.heap.size<=g:=λg e=>e.elim (λe=>(hob g e).1) λe=>by omega
   refine⟨j+1,n4,F4,v191,us2++[v182],by omega,by omega,q185.out k194 (λg H e=>by have :=hS g e;omega) J,(mk183.ex ν).kp k194 (λe=>by have :=hS _ e;omega),(mf183.kp (Kp.af ν λ _=>False) (λh=>h)).kp k194 (λe=>by have :=hS _ e;omega),?_,th192.Ml hw194,ho192.kp kb194 (λg H e=>?_),λg H e=>?_,?_⟩
   ·rw [hts2,Lv.dB,ebv2];exact ι.app rn183 hdis2
   ·rcases hnew g H with h | h
    ·exact hnb g h e
    ·omega
   ·rcases hnew g H with h | h
    ·exact hnb g h e
    ·omega
   ·rw [hts2,Lv.fF,wq];refine ah.app ?_ ?_
    ·refine ah.sub (λg _ H=>⟨⟨H.1.1,H.1.2.1,λe=>(hnew g e).elim H.1.2.2 λh=>by omega⟩,by omega⟩) (ah.kp k194 (λg H e=>e.elim H.1.2.2 H.1.2.1) (ah.ex (ah.kp q183.kp (λg H e=>by
      have :=H.1.1;rcases e with e | e<;>omega) (ah.ex ht172 μ)) ν))
    ·refine⟨v182,[],rfl,?_,rfl⟩;have l183':=aC.sub (E:=λg=>w179.heap.size<=g/\g< w183.heap.size) l183 λg H hd=>⟨hd,H⟩
     exact aC.sub (aC.kp (aC.ex l183' ν) k194 λg H e=>by
      rcases e with e | e
      ·have :=hob g e;omega
      ·omega) λg _ H=>⟨⟨by omega,by omega,λe=>(hnew g e).elim (λh=>by have :=hob g h;omega) λh=>by omega⟩,by omega⟩
theorem Il (k:Nat):LK k:=by
 induction k using Nat.strongRecOn with
 | _ k G=>exact Bw k G
def FP (acc:List Tx)(s:Tx):List Tx:=if acc.getLast?=some s then acc else acc++[s]
def dd (l:List Tx):List Tx:=l.foldl FP []
theorem jW (l:List Tx)(s:Tx):dd (l++[s])=FP (dd l) s:=by unfold dd;rw [List.foldl_append];rfl
theorem Ko:∀l:List Tx,(dd l).getLast?=l.getLast?:=by
 intro l;rcases List.eq_nil_or_concat l with rfl | ⟨l,s,rfl⟩
 ·rfl
 ·rw [List.concat_eq_append,jW];unfold FP;split
  ·rename_i h;rw [h];simp
  ·simp
theorem G6 (l:List Tx):(dd l).length<=l.length:=by
 have:∀n (l:List Tx),l.length=n->(dd l).length<=l.length:=by
  intro n
  induction n with
  | zero=>intro l h;have :=Pg h;subst this;exact OQ _
  | succ n G=>
   intro l h;rcases List.eq_nil_or_concat l with rfl | ⟨l,s,rfl⟩
   ·exact OQ _
   ·rw [List.concat_eq_append]at h|-;rw [jW];have h2:=G l (by simpa using h);unfold FP;split
    ·simp;omega
    ·simp;omega
 exact this _ l rfl
theorem Ma {l:List Tx}:∀s,s∈dd l↔s∈l:=by
 have:∀n (l:List Tx),l.length=n->∀s,s∈dd l↔s∈l:=by
  intro n
  induction n with
  | zero=>intro l h;have :=Pg h;subst this;intro s;exact RO
  | succ n G=>
   intro l h s;rcases List.eq_nil_or_concat l with rfl | ⟨l,x,rfl⟩
   ·exact RO
   ·rw [List.concat_eq_append]at h|-;rw [jW];have h2:=G l (by simpa using h);unfold FP;split
    ·rename_i H;rw [h2,OS,OO];refine⟨.inl,λh=>h.elim id λe=>?_⟩;subst e;exact(h2 s).1 (List.mem_of_getLast? H)
    ·simp [h2]
 exact this _ l rfl
structure Ms (B:Nat)(w:World)(r:Nat)(l:List Tx)(bad:Bool)(M:Nat->Prop):Prop where
 lt:r< w.heap.size
 mb:M r
 mr:∀g,M g->B<=g/\g< w.heap.size
 f:∀j,w.frozen? ⟨r,j,none⟩=false
 c1:w.cell? ⟨r,1,none⟩=some (.bool bad)
 sl:∃v,w.cell? ⟨r,0,none⟩=some v/\Own B w v l/\∀g,v.ownBlock=some g->M g/\g≠r
theorem Ms.kp {B:Nat}{w w':World}{r:Nat}{l:List Tx}{bad:Bool}{M S:Nat->Prop}(h:Ms B w r l bad M)(k:Kp w w' S)(H:∀g,M g->¬S g):Ms B w' r l bad M:=by
 have e:=k.block r h.lt (H r h.mb);obtain⟨v,V,h2,J⟩:=h.sl;exact⟨O' h.lt k.size,h.mb,λg G=>⟨(h.mr g G).1,O' (h.mr g G).2 k.size⟩,λj=>by rw [Pd (w:=w) e];exact h.f j,by rw [OG (w:=w) e];exact h.c1,v,by rw [OG (w:=w) e];exact V,h2.kp k λg G=>H g (J g G).1,J⟩
theorem Own.df {B:Nat}{w:World}{v:Value}{l:List Tx}(h:Own B w v l):ay v=true:=by
 rcases h.2 with⟨rfl,_⟩ | ⟨g,cap,cur,rfl,_⟩<;>rfl
theorem Mt {B:Nat}{w:World}{r:Nat}{l:List Tx}{bad:Bool}{M:Nat->Prop}{s:Tx}{ok:Bool}(h:Ms B w r l bad M)(hl:l.length<=1099511627775){R:Sl}
  (hR:∀w' M',Kp w w' M->Ms B w' r (l++[s]) (bad|| !ok) M'->(∀g,M' g->M g\/w.heap.size<=g)->R w'):Sm 99 #[ptr r,.string (ai s),.bool ok] w (an [] R):=by
 refine np (ptr r) s ok w R ?_;dsimp only [go_sem];dsimp only [go_sem,UInt8.reduceOfNat,UInt32.reduceOfNat,Nat.reduceAdd];obtain⟨v,h1,h2,h3⟩:=h.sl;refine⟨r,0,rfl,v,h1,λb7 w8 ι β=>?_⟩;have x8:Ex w w8:=β▸Ex.alloc w _;have s8:w8.heap.size=w.heap.size+1:=by rw [β,size_alloc]
 have hB:=(h.mr r h.mb).1;have γ:=h.lt;refine Own.push (h2.ex x8) (by omega) (Strs.one ι β) (by simp only [OF,OX];omega) λδ J _ W η α=>?_
 have ε:Kp w8 J λg=>v.ownBlock=some g:=Kp.aJ η λ _ h=>h
 have ζ:=ε.block r (by omega) λe=>(h3 r e).2 rfl
 have μ:=ε.size;have c0:J.cell? ⟨r,0,none⟩=some v:=by rw [OG (w:=w8) ζ,x8.cell (show r< _ from γ)];exact h1
 have c1:J.cell? ⟨r,1,none⟩=some (.bool bad):=by rw [OG (w:=w8) ζ,x8.cell (show r< _ from γ)];exact h.c1
 have f15:∀j,J.frozen? ⟨r,j,none⟩=false:=λj=>by rw [Pd (w:=w8) ζ,PV x8 γ];exact h.f j
 refine⟨r,0,rfl,W.df,⟨⟨_,c0⟩,f15 0⟩,λκ G=>⟨r,0,rfl,bad,?_,λhb=>⟨r,0,rfl,⟨⟨.bool bad,?_⟩,?_⟩,λZ H=>?_⟩,λhb=>⟨r,0,rfl,⟨⟨.bool bad,?_⟩,?_⟩,λZ H=>?_⟩⟩⟩
 ·rw [G,OL _ _ _ _ (by simp)];exact c1
 ·rw [G,OL _ _ _ _ (by simp)];exact c1
 ·rw [G,O0];exact f15 1
 rotate_left
 ·rw [G,OL _ _ _ _ (by simp)];exact c1
 ·rw [G,O0];exact f15 1
 all_goals
  have kk:Kr r J Z:=Kr.trans (G▸Kr.set J 0 _) (H▸Kr.set κ 1 _);have ν:=kk.size;have θ:∀g,δ.ownBlock=some g->g≠r:=λg V=>(α g V).elim (λe=>(h3 g e).2) λe=>by omega
  have kM:Kp w Z M:=Kp.trans (Kp.trans (Kp.af x8 M) (Kp.mono (λg e=>(h3 g e).1) ε) λ _ _ h=>h) kk λg _ e=>by rw [e];exact h.mb
  refine hR Z (λg=>M g\/δ.ownBlock=some g) kM ⟨by omega,.inl h.mb,λg V=>?_,λj=>?_,?_,δ,?_,W.kp kk θ,λg V=>⟨.inr V,θ g V⟩⟩ λg V=>V.elim .inl λe=>(α g e).elim (λe=> .inl (h3 g e).1) λh=> .inr (by omega)
  ·rcases V with V | V
   ·have :=h.mr g V;omega
   ·have :=W.block g V;omega
  ·rw [H,O0,G,O0];exact f15 j
  ·rw [H]
   first
    | (rw [hb,Rq];exact OY _ _ _ (u:= .bool bad) (by rw [G,OL _ _ _ _ (by simp)];exact c1))
    | (rw [hb,Bool.true_or];exact OY _ _ _ (u:= .bool bad) (by rw [G,OL _ _ _ _ (by simp)];exact c1))
  ·rw [H,OL _ _ _ _ (by simp),G];exact OY _ _ _ c0
theorem KI {w:World}{R:Sl}(hR:R w):Sm 115 #[.slice none 0 0] w (an [] R):=by
 refine(Any.slices_Sort_string_none Cq none 0 w).mono ?_
 rintro e w' ⟨rfl,rfl⟩
 exact⟨rfl,hR⟩
theorem BH {l:List Tx}(h:l.length< 2):dd l=l:=by
 match l,h with
 | [],_=>rfl
 | [a],_=>rfl
theorem Bb {B:Nat}{w w':World}{g cap n j:Nat}{l:List Tx}{x:Tx}(h:Own B w (.slice (some ⟨g,0,none⟩) n cap) l)(hw:w'=w.setCell ⟨g,j,none⟩ (.string (ai x)))(hj:j< l.length):Own B w' (.slice (some ⟨g,0,none⟩) n cap) (l.set j x):=by
 have h':aF 9 B w (.slice (some ⟨g,0,none⟩) n cap) (l.map sv):=by unfold aF;rw [O8];exact h
 have :=h'.set hw (by simpa using hj);rw [show Value.string (ai x)=sv x from rfl,<-List.map_set]at this;unfold aF at this;rw [O8]at this;exact this
theorem qK {B:Nat}{w:World}{g cap n j:Nat}{l:List Tx}(h:Own B w (.slice (some ⟨g,0,none⟩) n cap) l)(hj:j< l.length):w.cell? ⟨g,j,none⟩=some (.string (ai l[j]))/\w.frozen? ⟨g,j,none⟩=false/\n=l.length/\l.length<=cap:=by
 rcases h.2 with⟨H,_⟩ | ⟨g',G,cur,J,V,W,Z,h2,h3,h4⟩
 ·cases H
 ·cases J;refine⟨?_,?_,rfl,Z⟩
  ·rcases h.strs with⟨H,_⟩ | ⟨b,off,G,J,_,hc⟩
   ·cases H
   ·cases J;have :=hc j _ (OH hj)
    rwa [Ph]at this
  ·unfold World.frozen?;simp [W]
theorem wN {B g cap N:Nat}:∀(k n:Nat) (C:List Tx) (w:World),Own B w (.slice (some ⟨g,0,none⟩) N cap) C->n+k<=C.length->∃G:List Tx,Own B (w.setCells g n (List.replicate k (.string ⟨#[]⟩))) (.slice (some ⟨g,0,none⟩) N cap) G/\G.length=C.length/\G.take n=C.take n
 | 0,_,C,_,h,_=>⟨C,h,rfl,rfl⟩
 | k+1,n,C,w,h,V=>by
  obtain⟨G,H,h2,J⟩:=wN k (n+1) (C.set n []) _ (Bb (x:=[]) h rfl (by omega)) (by rw [Qp];omega);refine⟨G,H,by rw [h2,Qp],?_⟩;have :=PS (List.take n) J
  rwa [List.take_take,List.take_take,QU (by omega),Rr (OQ _)]at this
theorem Kc {B:Nat}{w:World}{g cap N n:Nat}{C:List Tx}(h:Own B w (.slice (some ⟨g,0,none⟩) N cap) C)(J:n<=C.length):Own B w (.slice (some ⟨g,0,none⟩) n cap) (C.take n):=by
 have G:(C.take n).length=n:=by rw [Pt];omega
 rcases h.2 with⟨V,_⟩ | ⟨g',H,cur,W,hb,Z,h1,h2,h3,h4⟩
 ·cases V
 ·cases W;refine⟨by rw [O8,Pn],.inr ⟨g,cap,cur,by rw [G],hb,Z,by omega,h2,h3,?_⟩⟩;rw [G,List.map_take,<-h4,Pn,Pn,List.take_take,QU J]
theorem wH {B:Nat}{w:World}{v:Value}{l:List Tx}(h:Own B w v l)(hl:l.length<=1099511627776){R:Value->Sl}
  (hR:∀v' w',Kp w w' (λg=>v.ownBlock=some g)->Own B w' v' (dd l)->(∀g,v'.ownBlock=some g->v.ownBlock=some g)->R v' w'):Sm 149 #[v] w (an [.v] R):=by
 refine iK v w R ?_;obtain⟨ao,cap,hv⟩:=h.strs.slice;have kx:∀{w1:World},Ex w w1->Kp w w1 (λg=>v.ownBlock=some g):=λx=>Kp.af x _
 refine⟨ao,_,cap,hv,λhs=>?_,λhs=>?_⟩
 ·have h2:l.length< 2:=by simp only [OW]at hs;omega
  refine hR v w (kx (Ex.refl w)) ?_ λ _ h=>h
  rw [BH h2];exact h
 have h2:2<=l.length:=by simp only [OV]at hs;omega
 obtain⟨g,rfl⟩:∃g,v= .slice (some ⟨g,0,none⟩) l.length cap:=by
  rcases h.2 with⟨_,h0⟩ | ⟨g,cap',cur,θ,_⟩
  ·omega
  ·rw [θ]at hv;cases hv;exact⟨g,θ⟩
 have hcap:=(qK h (j:=0) (by omega)).2.2.2;refine⟨λk w'=>∃n:Nat,k=n/\1<=n/\n<=l.length/\dd (l.take n)=l.take n/\Ex w w',λk _=>(l.length - k).toNat,⟨1,rfl,OQ _,by omega,by rw [BH];rw [Pt];omega,Ex.refl w⟩,λk w8 hI=>?_⟩;obtain⟨G,rfl,hk1,ι,β,x8⟩:=hI;refine⟨_,_,cap,rfl,λhlt=>?_,λhge=>?_⟩;rotate_left
 ·have:G=l.length:=by simp only [OV]at hge;omega
  rw [this,Pa]at β;refine hR _ w8 (kx x8) ?_ λ _ h=>h
  rw [β];exact h.ex x8
 have ζ:=oL hlt;refine⟨λw'=>Ex w8 w',λw13 κ=>?_⟩;have μ:Ex w8 w13:=κ▸Ex.drew w8;have W:=Ex.trans x8 μ;have o13:=h.ex W;refine⟨μ,g,0,_,cap,rfl,by omega,by omega,l[G],λw' x=>?_,by omega,g,0,_,cap,rfl,by omega,by omega,l[G - 1]'(by omega),λw' x=>?_,λheq=>?_,λZ=>?_⟩
 ·rw [OU,Pn,Ph];exact(qK (h.ex (Ex.trans x8 x)) ζ).1
 ·rw [show((G:Int) - 1).toNat=G - 1 by omega,Pn,Ph];exact(qK (h.ex (Ex.trans x8 x)) (by omega)).1
 rotate_left
 ·simp only [OV]at Z;refine⟨by omega,⟨G+1,by omega,by omega,by omega,?_,W⟩,tN (by omega)⟩;rw [OK ζ,jW,β];unfold FP;have:(l.take G).getLast?≠some l[G]:=λe=>by
   rw [Rk,Pt,QU ι,Qm (by omega),OH (by omega)]at e;exact Z (Pz e).symm
  rw [O1 this]
 simp only [OW]at heq;have hsl:(if cap=(G:Int).toNat then(some ⟨g,0,none⟩:Option Addr)else Option.map (λx:Addr=>x.add ((G:Int).toNat* 1)) (some ⟨g,0,none⟩))=some ⟨g,G,none⟩:=by
  rw [O1 (by omega),QB,add_plain,OU,Pn,Ph]
 refine⟨_,_,cap,rfl,by omega,by omega,by omega,λk kk w'=>∃(n i:Nat) (C:List Tx),k=n/\kk=i/\1<=i/\G+i<=l.length/\n< G+i/\C.length=l.length/\Own B w' (.slice (some ⟨g,0,none⟩) l.length cap) C/\C.take n=dd (l.take (G+i))/\C.drop (G+i - 1)=l.drop (G+i - 1)/\Kp w w' (λb=>(Value.slice (some ⟨g,0,none⟩) l.length cap).ownBlock=some b),
  λ _ kk _=>(l.length - kk).toNat,⟨G,1,l,rfl,rfl,OQ _,by omega,by omega,rfl,o13,?_,rfl,kx W⟩,λk kk V hI=>?_⟩
 ·rw [OK ζ,jW,β];unfold FP;rw [Pj];rw [Rk,Pt,QU ι,Qm (by omega),OH (by omega),heq]
 obtain⟨n,i,C,rfl,rfl,hi1,hi2,hn,hC,H,ht,hd,ν⟩:=hI;have hnC:n<=C.length:=by omega
 rw [hsl];refine⟨_,_,_,rfl,λξ=>?_,λο=>?_⟩
 ·have γ:G+i< l.length:=by simp only [OW]at ξ;omega
  have e1:C[G+i]'(by omega)=l[G+i]:=by
   have :=PS (fun(x:List Tx)=>x[1]?) hd;simp only [List.getElem?_drop]at this;rw [show G+i - 1+1=G+i by omega,OH (by omega),OH γ]at this;exact Pz this
  have e2:C[G+i - 1]'(by omega)=l[G+i - 1]'(by omega):=by
   have :=PS (fun(x:List Tx)=>x[0]?) hd;simp only [List.getElem?_drop]at this;rw [Ro,OH (by omega),OH (by omega)]at this;exact Pz this
  refine⟨λw'=>Ex V w',λς υ=>?_⟩;have δ:Ex V ς:=υ▸Ex.drew V;have η:=H.ex δ;have φ:=Kp.trans ν (Kp.af δ λ _=>False) λ _ _ h=>h.elim
  have rd:∀{w':World},Ex V w'->∀j (hj:j< C.length),w'.cell? ⟨g,j,none⟩=some (.string (ai C[j])):=λx j hj=>(qK (H.ex x) hj).1
  have α:(dd (l.take (G+i))).getLast?=some (l[G+i - 1]'(by omega)):=by
   rw [Ko,Rk,Pt,QU hi2,Qm (by omega),OH (by omega)]
  have χ:dd (l.take (G+(i+1)))=FP (dd (l.take (G+i))) l[G+i]:=by
   rw [<-Q9,OK γ,jW]
  refine⟨δ,g,G,_,_,rfl,by omega,by omega,C[G+i]'(by omega),λw' x=>?_,by omega,g,G,_,_,rfl,by omega,by omega,C[G+i - 1]'(by omega),λw' x=>?_,λZ=>?_,λε=>?_⟩
  ·rw [OU,Pn];exact rd x _ _
  ·rw [show G+((i:Int) - 1).toNat* 1=G+i - 1 by omega];exact rd x _ _
  ·have ψ:l[G+i]≠l[G+i - 1]'(by omega):=by
    rw [<-e1,<-e2];intro e;rw [e]at Z;simp at Z
   refine⟨g,G,_,_,rfl,by omega,by omega,C[G+i]'(by omega),by rw [OU,Pn];exact rd δ _ _,g,0,_,cap,rfl,by omega,by omega,?_,λw57 J=>⟨by omega,by omega,⟨n+1,i+1,C.set n (C[G+i]'(by omega)),by omega,by omega,by omega,by omega,by omega,by simpa using hC,?_,?_,?_,?_⟩,tN (by omega)⟩⟩
   ·rw [OU,Pn,Ph];have :=qK η (j:=n) (by omega);exact⟨⟨_,this.1⟩,this.2.1⟩
   ·rw [OU,Pn,Ph]at J;exact Bb η J (by omega)
   ·rw [OK (by simpa using(by omega:n< C.length)),Rr (OQ _),ht,χ];unfold FP;rw [α,O1 (λe=>ψ (Pz e).symm),List.getElem_set_self,e1]
   ·have:C.drop (G+i)=l.drop (G+i):=by
     have :=PS (fun(x:List Tx)=>x.drop 1) hd;simp only [RT]at this
     rwa [show G+i - 1+1=G+i by omega]at this
    rw [show G+(i+1) - 1=G+i by omega,List.drop_set_of_lt hn,this]
   ·rw [OU,Pn,Ph]at J;exact Kp.trans φ (J▸Kr.set ς n _) λb _ e=>by rw [e];rfl
  ·have ω:l[G+i]=l[G+i - 1]'(by omega):=by
    rw [<-e1,<-e2];have:decide (C[G+i]'(by omega)=C[G+i - 1]'(by omega))=true:=by
     cases hd:decide (C[G+i]'(by omega)=C[G+i - 1]'(by omega))with
     | true=>rfl
     | false=>rw [hd]at ε;cases ε
    exact O7 this
   refine⟨by omega,⟨n,i+1,C,rfl,by omega,by omega,by omega,by omega,hC,η,?_,?_,φ⟩,tN (by omega)⟩
   ·rw [ht,χ];unfold FP;rw [α,Pj (by rw [ω])]
   ·have :=PS (fun(x:List Tx)=>x.drop 1) hd;simp only [RT]at this;rw [show G+i - 1+1=G+i by omega]at this;rw [show G+(i+1) - 1=G+i by omega];exact this
 ·have γ:G+i=l.length:=by simp only [OV]at ο;omega
  rw [γ,Pa]at ht;have hs2:(if cap=(n:Int).toNat then(some ⟨g,0,none⟩:Option Addr)else Option.map (λx:Addr=>x.add ((n:Int).toNat* 1)) (some ⟨g,0,none⟩))=some ⟨g,n,none⟩:=by
   rw [O1 (by omega),QB,add_plain,OU,Pn,Ph]
  have hs3:(if cap=(0:Int).toNat then(some ⟨g,0,none⟩:Option Addr)else Option.map (λx:Addr=>x.add ((0:Int).toNat* 1)) (some ⟨g,0,none⟩))=some ⟨g,0,none⟩:=by
   rw [O1 (by have:(0:Int).toNat=0:=rfl;omega),QB,add_plain];rfl
  refine⟨_,_,cap,rfl,by omega,by omega,by omega,_,_,_,rfl,.inr ⟨g,n,hs2,λj hj=>?_,λw66 hw66=>⟨_,_,cap,rfl,by omega,by omega,by omega,?_⟩⟩⟩
  ·have :=qK H (j:=n+j) (by omega);exact⟨⟨_,this.1⟩,this.2.1⟩
  rw [hs3];obtain⟨C2,o66,hC2,ht2⟩:=wN (Int.toNat (l.length:Int) - Int.toNat (n:Int)) n C V H (by omega);obtain⟨k66,_⟩:=aK (b:=g) (List.replicate (Int.toNat (l.length:Int) - Int.toNat (n:Int)) (.string ⟨#[]⟩)) V n;rw [<-hw66]at k66 o66;have :=Kc o66 (n:=n) (by omega);rw [ht2,ht]at this;exact hR _ w66 (Kp.trans ν k66 λb _ e=>by rw [e];rfl) this λb hb=>by cases hb;rfl
end Go.Proofs.YtdecokaadekjnaaGreat
namespace Go.Proofs.YtdecokaadekjnaaGreat
open Go
attribute [go_sem] Tryz.f107
theorem jO (s1:Value)(v2:aB)(w:World)(R:Int->Sl)(h:vc az (bf [(2,[(8,.i)])] [] []) (ab Tryz.f107) (aj 0 [.v s1,.s v2]) w (fin az [.tmp 4 .i] R)):
  Sm 107 #[s1,(.string (ai v2))] w (an [.i] R):=
 bD Tryz.func107 (by kernel_rfl) h
attribute [go_sem] Tryz.f63
theorem ir (s1:Value)(v2:aB)(w:World)(R:Bool->Sl)(h:vc az (bf [] [] []) (ab Tryz.f63) (aj 0 [.v s1,.s v2]) w (fin az [.tmp 4 .b] R)):
  Sm 63 #[s1,(.string (ai v2))] w (an [.b] R):=
 bD Tryz.func63 (by kernel_rfl) h
theorem rN (p1:aB)(w:World)(R:Value->Bool->Sl)(h:yg 135 #[(.string (ai p1))] w λv2 q3 w4=>bC (!q3) (R (.pointer none) false w4) (ja w4 λS5 w6=>bH v2 λb7 o8=>Gd S5 b7 (o8+1) λs9=>bH v2 λb10 o11=>Gd S5 b10 (o11+1) λs12=>(cc w6 (.cells #[(.string (ai s12))] 9) λb13 w14=>S5 w14/\cc w14 (Obj.map #[] 0) λb15 w16=>S5 w16/\ay (.slice (some ⟨b13,0,none⟩) 1 1)=true/\ay (.map (some b15))=true/\cc w16 (.cells #[(.string (ai s9)),(.slice (some ⟨b13,0,none⟩) 1 1),(.map (some b15))] 59) λV w18=>S5 w18/\kH 0 w18 λI19 m20 i21 δ=>bz δ V 1 λv23=>dO v23 λl25=>bC (decide (i21< (l25:Int))) (bz δ V 1 λv27=>cJ v27 i21 λb28 o29=>qb δ b28 (o29+i21.toNat* 1) λs32=>wQ 92 #[(.string (ai s32))] δ λv33 w34=>yg 136 #[v33] w34 λχ q36 w37=>bC (!q36) (R (.pointer none) false w37) (ja w37 λψ w39=>dC ψ V 2 λv40=>dC ψ V 1 λv41=>cJ v41 i21 λb42 o43=>Gd ψ b42 (o43+i21.toNat* 1) λs46=>∃(ι:Nat) (m48:Value->Option Value),v40= .map (some ι)/\IsMap w39 ι .string m48/\∀ω:World,IsMap ω ι .string (bR m48 (.string (ai s46)) χ)->bw w39 ω ι->dO χ λl51=>kH 0 ω λI53 κ J W=>bC (decide (J< (l51:Int))) (cJ χ J λb57 o58=>qb W b57 (o58+J.toNat* 1) λs61=>bz W V 1 λv62=>Db 63 #[v62,(.string (ai s61))] W λq63 μ=>bC (!q63) (bz μ V 1 λv65=>cc μ (.cells #[(.string (ai s61))] 9) λb66 w67=>iS 9 1 16 w67 v65 (.slice (some ⟨b66,0,none⟩) 1 1) λv73 w74=>ay v73=true/\fH w74 V 1 v73 λw76=>a7 (J+1)/\I53 (J+1) w76/\κ (J+1) w76< κ J W) (a7 (J+1)/\I53 (J+1) μ/\κ (J+1) μ< κ J W)) (bz W V 1 λv77=>dO v77 λl79=>bC (decide (60< (l79:Int))) (R (.pointer none) false W) (a7 (i21+1)/\I19 (i21+1) W/\m20 (i21+1) W< m20 i21 δ)))) (R ((.pointer (some ⟨V,0,none⟩))) true δ))/\(cc w6 (Obj.map #[] 0) λb81 w82=>S5 w82/\cc w82 (.cells #[(.string (ai s12))] 9) λb83 w84=>S5 w84/\ay (.slice (some ⟨b83,0,none⟩) 1 1)=true/\ay (.map (some b81))=true/\cc w84 (.cells #[(.string (ai s9)),(.slice (some ⟨b83,0,none⟩) 1 1),(.map (some b81))] 59) λZ w86=>S5 w86/\kH 0 w86 λI87 m88 i89 ε=>bz ε Z 1 λv91=>dO v91 λl93=>bC (decide (i89< (l93:Int))) (bz ε Z 1 λv95=>cJ v95 i89 λb96 o97=>qb ε b96 (o97+i89.toNat* 1) λs100=>wQ 92 #[(.string (ai s100))] ε λv101 w102=>yg 136 #[v101] w102 λζ q104 ν=>bC (!q104) (R (.pointer none) false ν) (ja ν λη ξ=>dC η Z 2 λv108=>dC η Z 1 λv109=>cJ v109 i89 λb110 o111=>Gd η b110 (o111+i89.toNat* 1) λs114=>∃(α:Nat) (ο:Value->Option Value),v108= .map (some α)/\IsMap ξ α .string ο/\∀θ:World,IsMap θ α .string (bR ο (.string (ai s114)) ζ)->bw ξ θ α->dO ζ λl119=>kH 0 θ λς β G H=>bC (decide (G< (l119:Int))) (cJ ζ G λb125 o126=>qb H b125 (o126+G.toNat* 1) λυ=>bz H Z 1 λv130=>Db 63 #[v130,(.string (ai υ))] H λq131 γ=>bC (!q131) (bz γ Z 1 λv133=>cc γ (.cells #[(.string (ai υ))] 9) λb134 w135=>iS 9 1 16 w135 v133 (.slice (some ⟨b134,0,none⟩) 1 1) λv141 w142=>ay v141=true/\fH w142 Z 1 v141 λφ=>a7 (G+1)/\ς (G+1) φ/\β (G+1) φ< β G H) (a7 (G+1)/\ς (G+1) γ/\β (G+1) γ< β G H)) (bz H Z 1 λv145=>dO v145 λl147=>bC (decide (60< (l147:Int))) (R (.pointer none) false H) (a7 (i89+1)/\I87 (i89+1) H/\m88 (i89+1) H< m88 i89 ε)))) (R ((.pointer (some ⟨Z,0,none⟩))) true ε)))):
  Sm 90 #[(.string (ai p1))] w (an [.v,.b] R):=
 D5 (bf [(6,[(7,.i)]),(13,[(68,.i)])] [] [(4,true,.lt 0 (.lt 1 (.lt 2 (.lt 3 (.lt 4 (.lt 5 (.lt 6 (.lt 7 (.br .g 8 (.one .g 9 (.lt 10 (.one .g 11 (.lt 12 .done)))) (.one .g 9 (.one .g 8 (.lt 10 (.one .g 11 (.lt 12 .done)))))))))))))),(11,true,.lt 0 (.lt 1 (.lt 2 (.lt 3 (.lt 4 (.lt 5 (.lt 6 (.lt 7 (.lt 8 (.lt 9 (.lt 10 (.lt 11 (.one .n 12 .done)))))))))))))]) [.tmp 2 .v,.tmp 3 .b] [.s p1] Tryz.func90 (by kernel_rfl) h
attribute [go_sem] Tryz.f46
attribute [go_sem] Tryz.f61
theorem ia (s1:Value)(f2:Value)(w:World)(R:Int->Sl)(h:vc az (bf [(2,[(8,.i)])] [] []) (ab Tryz.f61) (aj 0 [.v s1,.v f2]) w (fin az [.tmp 4 .i] R)):
  Sm 61 #[s1,f2] w (an [.i] R):=
 bD Tryz.func61 (by kernel_rfl) h
attribute [go_sem] Tryz.f47
theorem fV (s1:Value)(f2:Value)(w:World)(R:Bool->Sl)(h:vc az (bf [] [] []) (ab Tryz.f47) (aj 0 [.v s1,.v f2]) w (fin az [.tmp 4 .b] R)):
  Sm 47 #[s1,f2] w (an [.b] R):=
 bD Tryz.func47 (by kernel_rfl) h
attribute [go_sem] Tryz.f141
theorem ny (s1:Value)(G:Int)(w:World)(R:Bool->Sl)(h:vc az (bf [] [] []) (ab Tryz.f141) (aj 0 [.v s1,.i G]) w (fin az [.tmp 4 .b] R)):
  Sm 141 #[s1,(.int .i64 G)] w (an [.b] R):=
 bD Tryz.func141 (by kernel_rfl) h
attribute [go_sem] Tryz.f82
theorem rX (s1:UInt32)(w:World)(R:aB->Sl)(h:vc az (bf [(3,[(3,.s),(4,.c)])] [] []) (ab Tryz.f82) (aj 0 [.w s1]) w (fin az [.tmp 2 .s] R)):
  Sm 82 #[(.int .u32 (UInt32.toNat s1))] w (an [.s] R):=
 bD Tryz.func82 (by kernel_rfl) h
attribute [go_sem] Tryz.f93
theorem m7 (s1:Value)(G:UInt8)(w:World)(R:aB->Sl)(h:vc az (bf [(3,[(5,.w),(18,.i)]),(6,[(5,.w),(25,.i)])] [] []) (ab Tryz.f93) (aj 0 [.v s1,.c G]) w (fin az [.tmp 4 .s] R)):
  Sm 93 #[s1,(.int .u8 G.toNat)] w (an [.s] R):=
 bD Tryz.func93 (by kernel_rfl) h
attribute [go_sem] Tryz.f91
theorem vV (s1:aB)(w:World)(R:UInt32->Sl)(h:vc az (bf [(3,[(3,.w),(7,.i)])] [] []) (ab Tryz.f91) (aj 0 [.s s1]) w (fin az [.tmp 2 .w] R)):
  Sm 91 #[(.string (ai s1))] w (an [.w] R):=
 bD Tryz.func91 (by kernel_rfl) h
attribute [go_sem] Tryz.f48
attribute [go_sem] Tryz.f14
end Go.Proofs.YtdecokaadekjnaaGreat
namespace Go.Proofs.YtdecokaadekjnaaGreat
open Go Go.RowKit
theorem Lh {B:Nat}{w:World}{r:Nat}{l:List Tx}{bad:Bool}{M:Nat->Prop}(h:Ms B w r l bad M)(hl:l.length<=1099511627776){R:Value->Bool->Sl}
  (Z:bad=true->R (.slice none 0 0) false w) (H:bad=false->∀v' w',Kp w w' M->Own B w' v' (dd (a6 l))->(∀g,v'.ownBlock=some g->M g)->R v' true w'):Sm 100 #[ptr r] w (an [.v,.b] R):=by
 refine lU (ptr r) w R ?_;dsimp only [go_sem];dsimp only [go_sem,UInt8.reduceOfNat,UInt32.reduceOfNat,Nat.reduceAdd];obtain⟨v,h1,h2,G⟩:=h.sl;refine⟨r,0,rfl,bad,h.c1,Z,λhb=>⟨r,0,rfl,v,h1,?_⟩⟩;have α:(a6 l).length=l.length:=(aR l).length_eq;by_cases J:l=[]
 ·subst J;have V:v= .slice none 0 0\/∃g cap,v= .slice (some ⟨g,0,none⟩) 0 cap:=by
   rcases h2.2 with⟨h0,_⟩ | ⟨g,cap,cur,W,_⟩
   ·exact .inl h0
   ·exact .inr ⟨g,cap,W⟩
  have hs:∀{R:Sl},R w->Sm 115 #[v] w (an [] R):=λ{R} hR=>by
   rcases V with rfl | ⟨g,cap,rfl⟩
   ·exact KI hR
   ·refine(Any.slices_Sort_string_none Cq (some ⟨g,0,none⟩) cap w).mono ?_
    rintro e w' ⟨rfl,rfl⟩
    exact⟨rfl,hR⟩
  refine hs ⟨r,0,rfl,v,h1,wH h2 (by simp) λv' w' k s W=>H hb v' w' (Kp.mono (λg e=>(G g e).1) k) ?_ λg hg=>(G g (W g hg)).1⟩;have:a6 []=[]:=Pg α;rw [this];exact s
 ·refine sort_k h2 J hl λw8 k8 o8=>⟨r,0,rfl,v,?_,wH o8 (by omega) λv' w' k s W=>H hb v' w' (Kp.trans (Kp.mono (λg e=>(G g e).1) k8) k λg _ e=>(G g e).1) s λg hg=>(G g (W g hg)).1⟩
  rw [OG (w:=w) (k8.block r h.lt λe=>(G r e).2 rfl)];exact h1
theorem D0 {D:Nat->Prop}{w:World}{v:Value}{o:List Nat}{x:Nat}(h:eP D w v (o.map iv))(hl:o.length<=1099511627776){R:Bool->Sl}(hR:R (decide (x∈o)) w):
  Sm 188 #[v,iv x] w (an [.b] R):=by
 refine ki v x w R ?_;dsimp only [go_sem];dsimp only [go_sem,UInt8.reduceOfNat,UInt32.reduceOfNat,Nat.reduceAdd];refine nz v x w _ ?_;dsimp only [go_sem];dsimp only [go_sem,UInt8.reduceOfNat,UInt32.reduceOfNat,Nat.reduceAdd];obtain⟨Z,cap,W⟩:=h.slice;rw [O8]at W;refine⟨Z,_,cap,W,λi w'=>∃j:Nat,i=j/\j<=o.length/\w'=w/\x∉o.take j,λi _=>(o.length - i).toNat,⟨0,rfl,Px _,rfl,by simp⟩,λi w' hI=>?_⟩;obtain⟨j,rfl,hj,rfl,hm⟩:=hI;refine⟨λJ=>?_,λV=>?_⟩
 ·have G:=oL J;refine h.Nq (PU j) (gE G) (Q:=λn=>_) ⟨λhe=>?_,λH=>?_⟩
  ·have he:x=o[j]:=by simp only [OW]at he;omega
   show R (decide (0<=(j:Int))) _;rw [PL (show(0:Int)<=(j:Int) by omega)];rw [PL (show x∈o by rw [he];exact OP G)]at hR;exact hR
  ·have H:x≠o[j]:=by simp only [OV]at H;omega
   refine⟨by omega,⟨j+1,by omega,by omega,rfl,?_⟩,tN (by omega)⟩;rw [OK G,OS,OO];exact λh=>h.elim hm H
 ·have:j=o.length:=by simp only [OV]at V;omega
  rw [this,Pa]at hm;show R (decide ((0:Int)<= -1)) _;rw [PX (show ¬(0:Int)<= -1 by omega)];rw [PX hm]at hR;exact hR
theorem Eg {w:World}{v:Value}{l:List Tx}{x:Tx}(h:Strs w v l)(hl:l.length<=1099511627776){R:Bool->Sl}(hR:R (decide (x∈l)) w):
  Sm 63 #[v,.string (ai x)] w (an [.b] R):=by
 refine ir v x w R ?_;dsimp only [go_sem];dsimp only [go_sem,UInt8.reduceOfNat,UInt32.reduceOfNat,Nat.reduceAdd];refine jO v x w _ ?_;dsimp only [go_sem];dsimp only [go_sem,UInt8.reduceOfNat,UInt32.reduceOfNat,Nat.reduceAdd];obtain⟨ao,cap,hv⟩:=h.slice;refine⟨ao,_,cap,hv,λi w'=>∃j:Nat,i=j/\j<=l.length/\w'=w/\x∉l.take j,λi _=>(l.length - i).toNat,⟨0,rfl,Px _,rfl,by simp⟩,λi w' hI=>?_⟩;obtain⟨j,rfl,hj,rfl,hm⟩:=hI;refine⟨λV=>?_,λW=>?_⟩
 ·have G:=oL V;obtain⟨b,off,J,Z,_,hc⟩:=h.at G;refine⟨b,off,_,J,Z,by omega,by omega,l[j],by rw [OU,Pn];exact hc,λhe=>?_,λH=>?_⟩
  ·have he:x=l[j]:=by simpa using he
   show R (decide (0<=(j:Int))) _;rw [PL (show(0:Int)<=(j:Int) by omega)];rw [PL (show x∈l by rw [he];exact OP G)]at hR;exact hR
  ·have H:x≠l[j]:=by simpa using H
   refine⟨by omega,⟨j+1,by omega,by omega,rfl,?_⟩,tN (by omega)⟩;rw [OK G,OS,OO];exact λh=>h.elim hm H
 ·have:j=l.length:=by simp only [OV]at W;omega
  rw [this,Pa]at hm;show R (decide ((0:Int)<= -1)) _;rw [PX (show ¬(0:Int)<= -1 by omega)];rw [PX hm]at hR;exact hR
theorem LG {D:Nat->Prop}{w:World}{s n x nm:Nat}{o:List Nat}{l:Lv}{c0 c1 c4 vr:Value}(η:Mk w s n)(h:gB D w vr o (ah D w l))(hD:∀g,D g->g≠s)(ψ:l.sh true=true)(ω:ve o l)(hnn:n+o.length+l.bvs.length<=4294967296)(θ:o.length+l.tot<=4294967296){R:Value->Sl}
  (hR:∀v' w' F' n',Km s w w'->Mk w' s n'->Rn n n' (o++l.bvs) (aI id x nm) F'->aC (ES w) w' (o.map F',l.map F') v'->R v' w'):
  Sm 177 #[ptr s,.agg (List.toArray [c0,c1,iv x,vr,c4]),iv nm] w (an [.v] R):=by
 refine j5 (ptr s) _ nm w R ?_;dsimp only [go_sem];dsimp only [go_sem,UInt8.reduceOfNat,UInt32.reduceOfNat,Nat.reduceAdd];refine⟨_,rfl,λb5 H ι α=>⟨λw'=>Kp H w' (λg=>g=s\/H.heap.size<=g),λw8 κ=>?_⟩⟩;have x6:Ex w H:=α▸Ex.alloc w _;have s6:H.heap.size=w.heap.size+1:=by rw [α,size_alloc]
 have x8:Ex H w8:=κ▸Ex.drew H;have s8:w8.heap.size=H.heap.size:=by rw [κ];rfl
 have μ:=η.lt;have ν:¬(b5=s\/H.heap.size<=b5):=λe=>by rcases e with e | e<;>omega
 have d3:H.cell? ⟨b5,3,none⟩=some vr:=by rw [α,ι];exact aa rfl
 have d2:H.cell? ⟨b5,2,none⟩=some (iv x):=by rw [α,ι];exact aa rfl
 have l5:b5< H.heap.size:=by omega
 refine⟨Kp.af x8 _,s,0,rfl,vr,λw' k=>by rw [OG (w:=H) (k.block b5 l5 ν)];exact d3,x,λw' k=>by rw [OG (w:=H) (k.block b5 l5 ν)];exact d2,λβ γ ξ J=>?_⟩;have δ:Ex w8 γ:=J▸Ex.alloc w8 _;have s14:γ.heap.size=w8.heap.size+1:=by rw [J,size_alloc]
 have ο:IsMap γ β (.int .i64) (cB []):=⟨#[],0,by rw [J,ξ];unfold World.alloc;simp,⟨by simp,by simp,by simp⟩,by simp,λq=>rfl⟩
 refine⟨Kp.af (Ex.trans x8 δ) _,β,_,rfl,ο,λV ς G=>?_⟩;have ζ:Kp γ V (λg=>g=β):=⟨G.os,G.tape,G.output,by rw [G.size];exact OQ _,λg _ hg=>G.block g hg⟩
 have s17:=ζ.size;have ε:Kp H V (λg=>g=s\/H.heap.size<=g):=Kp.trans (Kp.af (Ex.trans x8 δ) _) ζ λg _ e=> .inr (by omega)
 have W:Ex w V:=Ex.below (Ex.trans (Ex.trans x6 x8) δ) (Kp.below ζ (Ex.trans (Ex.trans x6 x8) δ).size λg hg e=>by omega);refine⟨ε,?_⟩;have υ:jR V β (aI id x nm):=ui (F:=id) (λz=> .inr ⟨rfl,rfl⟩) ς;have h':gB (λg=>D g/\g< w.heap.size) w vr o (ah (λg=>D g/\g< w.heap.size) w l):=aC.sub (L:=(o,l)) h λg hg hd=>⟨hd,hg⟩
 refine Il _ (OQ _) ψ (gB.ex h' W) (λg hg e=>?_) ω (η.ex W) υ (by omega) hnn θ λv18 w19 F' n' Z φ mf19 χ l19=>?_
 ·rcases e with e | e
  ·exact hD g hg.1 e
  ·omega
 ·have s19:=Z.size;refine⟨Kp.trans ε (Kp.mono (λg e=>e) Z.kp) λg hg e=>e.elim .inl λe=> .inr (by omega),hR v18 w19 F' n' ⟨?_,λj hj=>?_,λj=>?_⟩ φ χ (aC.sub l19 λg _ hg=>by show w.heap.size<=g;have:V.heap.size<=g:=hg;omega)⟩
  ·exact Kp.trans (Kp.af W _) Z.kp λg hg e=>e.elim id λe=>by omega
  ·rw [Z.ce j hj,W.cell (show s< _ from μ)]
  ·rw [Z.fz j,PV W μ]
theorem Be {X:Type}(P:Nat->Bool)(x:X):∀(l:List X) (k:Nat),kG P (l++[x]) k=kG P l k++if P (k+l.length)then []else [x]
 | [],k=>by rw [PG,cy,kE];simp [kE]
 | y::l,k=>by
  rw [PI,cy,cy,Be P x l (k+1),OF,show k+1+l.length=k+(l.length+1) by omega];split<;>simp
def elsL:List Lv->Lv
 | []=> .nil
 | e::r=>e.app (elsL r)
theorem As:∀l m:List Lv,elsL (l++m)=(elsL l).app (elsL m)
 | [],m=>rfl
 | e::l,m=>by simp only [PI,elsL,As l m,Lv.cI]
theorem GB (e:Lv):elsL [e]=e:=Lv.aY e
theorem sE {X:Type}{P:Nat->Bool}:∀{l:List X} {k:Nat} {x:X},x∈kG P l k->x∈l
 | [],k,x,h=>by rw [kE]at h;cases h
 | y::l,k,x,h=>by
  rw [cy]at h;split at h
  ·exact OZ _ (sE h)
  ·rcases O4.1 h with rfl | h
   ·exact Py ..
   ·exact OZ _ (sE h)
theorem yk {X:Type}(P:Nat->Bool):∀(l:List X) (k:Nat),(kG P l k).Sublist l
 | [],k=>by rw [kE];exact PY _
 | y::l,k=>by
  rw [cy];split
  ·exact(yk P l (k+1)).trans (List.sublist_cons_self ..)
  ·exact(yk P l (k+1)).cons_cons y
def oe (l:List Lv):Nat:=(l.map Lv.tot).sum
theorem lY:∀l:List Lv,(elsL l).tot=oe l
 | []=>rfl
 | e::l=>by simp only [elsL,Lv.cn,lY l,oe,Pk,P0]
theorem Dm {l m:List Lv}(h:l.Sublist m):oe l<=oe m:=by
 induction h with
 | slnil=>exact OQ _
 | cons a _ G=>simp only [oe,Pk,P0]at*;omega
 | cons_cons a _ G=>simp only [oe,Pk,P0]at*;omega
theorem pq:∀l:Lv,elsL l.bB=l
 | .nil=>rfl
 | .thr k a b o r n=>by simp only [Lv.bB,elsL,pq n,Lv.app]
 | .sum ps n=>by simp only [Lv.bB,elsL,pq n,Lv.app]
 | .part o q n=>by simp only [Lv.bB,elsL,pq n,Lv.app]
theorem EO {b:Bool}:∀{l:List Lv},(∀e∈l,e.sh b=true)->(elsL l).sh b=true
 | [],_=>by cases b<;>rfl
 | e::l,h=>Lv.ib (h e (by simp)) (EO λx G=>h x (by simp [G]))
theorem KB:∀{l:Lv},l.sh true=true->∀e∈l.bB,e.sh true=true:=λ{l} h e he=>by
 rcases Lv.kB h e he with⟨k,a,b,o,r,rfl,hr⟩ | ⟨ps,rfl,G⟩
 ·simp only [Lv.sh,hr,Qe]
 ·simp only [Lv.sh,G,Qe]
theorem AO:∀{l:List (List Nat×Lv)},(∀x∈l,x.2.sh true=true)->(joinL l).2.sh true=true
 | [],_=>rfl
 | x::l,h=>Lv.ib (h x (by simp)) (AO λy G=>h y (by simp [G]))
theorem lT:∀(l:List (List Nat×Lv)) (j:Nat),(joinL (l.take j)).1.length<=(joinL l).1.length/\(joinL (l.take j)).2.tot<=(joinL l).2.tot
 | [],j=>by simp [joinL]
 | x::l,0=>by simp [joinL,Lv.tot]
 | x::l,j+1=>by
  obtain⟨G,h2⟩:=lT l j;simp only [List.take_succ_cons,joinL,OM,Lv.cn];omega
theorem JN {D:Nat->Prop}{w:World}{s:Nat}{O:List Nat}{l:Lv}{vl vg vo vm:Value}{gl:List Nat}{ms:List (List Nat×Lv)}{mvs:List Value}(hcl:w.cell? ⟨s,2,none⟩=some vl)(hls:s< w.heap.size)(hl:aC D w (O,l) vl)(H:eP D w vg (gl.map iv))(hgl:gl.length<=1000)(ho:eP D w vo (O.map iv))(hm:eP D w vm mvs)
  (hms:aP (λL v=>aC D w L v) ms mvs) (hml:mvs.length<=1000) (hsh:l.sh true=true) (hmsh:∀x∈ms,x.2.sh true=true) (htot:O.length+(joinL ms).1.length+(l.tot+(joinL ms).2.tot)<=4294967295)
  {P:Nat->Bool} (hP:∀i,P i=decide (i∈gl)) {res:List Nat×Lv} (κ:res=(O++(joinL ms).1,(elsL (kG P l.bB 0)).app (joinL ms).2)) (huq:ve (Lv.tidy res.1 res.2).1 (Lv.tidy res.1 res.2).2) (hfr:∀x,x∉(Lv.tidy res.1 res.2).1->(Lv.tidy res.1 res.2).2.fh x->x< 26)
  {R:aB->Bool->Sl} (hR:∀w',Ex w w'->(∀s,Cs (Lv.tidy res.1 res.2)=some s->R s true w')/\(Cs (Lv.tidy res.1 res.2)=none->R [] false w')):
  Sm 176 #[ptr s,vg,vo,vm] w (an [.s,.b] R):=by
 refine nD (ptr s) vg vo vm w R ?_;dsimp only [go_sem];dsimp only [go_sem,UInt8.reduceOfNat,UInt32.reduceOfNat,Nat.reduceAdd];refine yr ho (by omega) λv5 w6 x6 ψ=>⟨ψ.df,λb7 w8 hb7 μ=>?_⟩
 have x8':Ex w6 w8:=μ▸Ex.alloc w6 _;have x8:=Ex.trans x6 x8';have s8:w8.heap.size=w6.heap.size+1:=by rw [μ,size_alloc]
 have s6:=x6.size;have bd8:kN w.heap.size w8 b7 O [] λg=>g=b7\/v5.ownBlock=some g:=by
  refine⟨by omega,by omega,.inl rfl,λg H=>?_,λj=>?_,v5,.slice none 0 0,?_,?_,ψ.kp (Kp.af x8' λ _=>False) (λ _ _ h=>h),aF.nil _ _ _,λg H=>⟨.inr H,?_⟩,λg H=>(by cases H),λg _ H=>(by cases H)⟩
  ·rcases H with rfl | H
   ·omega
   ·have :=ψ.block g H;omega
  ·rw [μ,hb7];exact aG _ _ _ _
  ·rw [μ,hb7];exact aa rfl
  ·rw [μ,hb7];exact aa rfl
  ·have :=ψ.block g H;omega
 obtain⟨bl,vo',vt,ts,rfl,h2,h3,h4,h5,h6,h7,h8⟩:=aC.sub (E:=λg=>g< w.heap.size) hl λg H _=>H
 obtain⟨at_,capt,hvt⟩:=h7.slice;have hlen:ts.length=l.len:=h8.len;have hel:=Lv.cN l;have hlt:=ck l;have ν:∀i,oe (kG P (l.bB.take i) 0)<=l.tot:=λi=>by
  have h1:=Dm ((yk P (l.bB.take i) 0).trans (List.take_sublist i l.bB));have h2:=lY l.bB;rw [pq]at h2;omega
 refine⟨s,0,rfl,ptr bl,by rw [x8.cell (show s< _ from hls)];exact hcl,bl,0,rfl,vt,by rw [x8.cell (show bl< _ from h3)];exact h5,at_,_,capt,hvt,λx w'=>∃(i:Nat) (W:List Value) (M:Nat->Prop),x=i/\i<=ts.length/\Ex w w'/\kN w.heap.size w' b7 O W M/\ah (λg=>g< w.heap.size) w' (elsL (kG P (l.bB.take i) 0)) W,
  λx _=>(ts.length - x).toNat,⟨0,[],_,rfl,Px _,x8,bd8,by rw [List.take_zero,kE];rfl⟩,λx ω hI=>?_⟩
 obtain⟨i,W,M,rfl,hi,ε,J,Z⟩:=hI;have hl1:W.length<=l.tot:=by
  have h1:=Z.len;have h2:=ck (elsL (kG P (l.bB.take i) 0));rw [lY]at h2;have :=ν i;omega
 refine⟨λhlt1=>?_,λhge1=>?_⟩
 ·have ζ:i< ts.length:=by simp only [OW]at hlt1;omega
  have hie:i< l.bB.length:=by omega
  obtain⟨bt,ot,G,hvt',hct⟩:∃bt ot G,vt= .slice (some ⟨bt,ot,none⟩) ts.length G/\ω.cell? ⟨bt,ot+i,none⟩=some ts[i]:=by
   rcases h7 with⟨_,h0⟩ | ⟨bt,ot,G,e,hbD,hb',α⟩
   ·rw [h0]at ζ;simp at ζ
   ·exact⟨bt,ot,G,e,by rw [ε.cell (show bt< _ from hb')];exact α i _ (OH ζ)⟩
  obtain⟨e,he1,he2,he3⟩:=aP.single h8.bB (OH ζ);have he4:l.bB[i]=e:=by rw [OH hie]at he1;exact Pz he1
  have hts:kG P (l.bB.take (i+1)) 0=kG P (l.bB.take i) 0++if P i then []else [e]:=by
   rw [OK hie,Be,he4,Ph,Pt,QU (by omega)]
  refine⟨bt,ot,_,G,hvt',by omega,by omega,ts[i],by rw [OU,Pn];exact hct,D0 (H.ex ε) (by omega) ?_⟩;have hPi:=hP i;refine⟨λhq=>?_,λhq=>⟨by omega,⟨i+1,W,M,by omega,by omega,ε,J,?_⟩,tN (by omega)⟩⟩;rotate_left
  ·have hPt:P i=true:=by rw [hPi];cases h:decide (i∈gl)<;>first | rfl | (rw [h]at hq;cases hq)
   rw [hts,Pj hPt,Po];exact Z
  have hPt:P i=false:=by rw [hPi];cases h:decide (i∈gl)<;>first | rfl | (rw [h]at hq;cases hq)
  obtain⟨vo1,vt1,d0,d1,d2,d3,d4,d5,d6⟩:=J.sl;have ξ:=he3.all;simp only [PZ,RD,Ra]at ξ;refine⟨vt1,d1,ξ,λb30 η hb30 ο=>?_⟩;have ς:Ex ω η:=ο▸Ex.alloc ω _;have s31:η.heap.size=ω.heap.size+1:=by rw [ο,size_alloc]
  have s21:=ε.size;have υ:=J.ex ς;refine aF.push (d3.kp (Kp.af ς λ _=>False) λ _ _ h=>h) (by omega) (m:=[ts[i]]) (D:=λ _=>True) (.inr ⟨b30,0,1,rfl,trivial,by omega,λi' y hy=>?_⟩) (by simp only [PZ,RD,Ra];exact ξ) (by omega) (by simp only [OF,OX];omega) λv37 w38 ho38 hg38 hn38=>?_
  ·cases i' with
   | zero=>simp only [P3,Qf]at hy;subst hy;rw [ο,hb30];exact aa rfl
   | succ i=>simp at hy
  have k38:Kp η w38 λg=>vt1.ownBlock=some g:=Kp.aJ hg38 λ _ h=>h
  have e7:=k38.block b7 υ.lt λe=>(d5 b7 e).2 rfl
  have c71:η.cell? ⟨b7,1,none⟩=some vt1:=by rw [ς.cell (show b7< _ from J.lt)];exact d1
  refine⟨ho38.df,⟨⟨vt1,by rw [OG (w:=η) e7];exact c71⟩,by rw [Pd (w:=η) e7];exact υ.fr 1⟩,λw40 hw40=>⟨by omega,?_,tN (by omega)⟩⟩;obtain⟨bd40,k40⟩:=υ.MX c71 k38 ho38 hn38 hw40;have φ:=Ex.trans ε ς;have x40:Ex w w40:=Ex.below φ (Kp.below k40 φ.size λg H hM=>by have :=(J.mr g hM).1;omega);refine⟨i+1,W++[ts[i]],_,by omega,by omega,x40,bd40,?_⟩;rw [hts,O1 (by rw [hPt];simp),As,GB];exact ah.app (ah.kp k40 (λg H hM=>by have :=(J.mr g hM).1;omega) (ah.ex Z ς)) (ah.ex he3 x40)
 ·have ζ:i=l.bB.length:=by simp only [OV]at hge1;omega
  rw [ζ,Pa]at Z;obtain⟨am,capm,hvm⟩:=hm.slice;have hl2:W.length<=l.tot:=hl1;have hmsl:=hms.1;refine⟨am,_,capm,hvm,λx w'=>∃(j:Nat) (ts2:List Value) (M2:Nat->Prop),x=j/\j<=mvs.length/\Ex w w'/\kN w.heap.size w' b7 (O++(joinL (ms.take j)).1) ts2 M2/\ah (λg=>g< w.heap.size) w' ((elsL (kG P l.bB 0)).app (joinL (ms.take j)).2) ts2,λx _=>(mvs.length - x).toNat,⟨0,W,M,rfl,Px _,ε,by simpa [joinL]using J,by simpa [joinL,Lv.aY]using Z⟩,λx χ hI=>?_⟩;obtain⟨j,ts2,M2,rfl,hj,θ,V,δ⟩:=hI;refine⟨λhlt2=>?_,λhge2=>?_⟩
  ·have ι:j< mvs.length:=by simp only [OW]at hlt2;omega
   obtain⟨bm,om,β,hvm',hcm⟩:∃bm om β,vm= .slice (some ⟨bm,om,none⟩) mvs.length β/\χ.cell? ⟨bm,om+j,none⟩=some mvs[j]:=by
    rcases hm with⟨_,h0⟩ | ⟨bt,ot,G,e,hbD,hb',α⟩
    ·rw [h0]at ι;simp at ι
    ·exact⟨bt,ot,G,e,by rw [θ.cell (show bt< _ from hb')];exact α j _ (OH ι)⟩
   obtain⟨L,hL1,hL2,hL3⟩:=aP.single hms (OH ι);have hjm:j< ms.length:=by omega
   have hL4:ms[j]=L:=by rw [OH hjm]at hL1;exact Pz hL1
   have γ:joinL (ms.take (j+1))=((joinL (ms.take j)).1++L.1,(joinL (ms.take j)).2.app L.2):=by
    rw [OK hjm,pY,hL4,pW]
   obtain⟨k1,k2⟩:=lT ms (j+1);rw [γ]at k1 k2;simp only [OM,Lv.cn]at k1 k2;obtain⟨ts3,hl3,ht3⟩:=aC.ths (aC.ex (aC.sub (E:=λg=>g< w.heap.size) hL3 λg H _=>H) θ);have h47:=δ.len;have h47':=ck ((elsL (kG P l.bB 0)).app (joinL (ms.take j)).2);rw [Lv.cn,lY]at h47';have hp:=ν l.bB.length;rw [Pa]at hp;have h3l:=ht3.len;have h3t:=ck L.2;refine⟨bm,om,_,β,hvm',by omega,by omega,mvs[j],by rw [OU,Pn];exact hcm,tB V θ.size hl3 ht3.all (λg H hM=>by have :=(V.mr g hM).1;omega) ⟨by simp only [OM];omega,by omega⟩ λw53 M3 k53 bd53 _=>⟨by omega,?_,tN (by omega)⟩⟩;have x53:Ex w w53:=Ex.below θ (Kp.below k53 θ.size λg H hM=>by have :=(V.mr g hM).1;omega);refine⟨j+1,ts2++ts3,M3,by omega,by omega,x53,?_,?_⟩
   ·rw [γ,<-Pv];exact bd53
   ·rw [γ,<-Lv.cI];exact ah.app (ah.kp k53 (λg H hM=>by have :=(V.mr g hM).1;omega) δ) (ah.kp k53 (λg H hM=>by have :=(V.mr g hM).1;omega) ht3)
  ·have ι:j=ms.length:=by simp only [OV]at hge2;omega
   rw [ι,Pa]at V δ;have hp:=ν l.bB.length;rw [Pa]at hp;have hLv:gB (λg=>g< χ.heap.size) χ (ptr b7) res.1 (ah (λg=>g< χ.heap.size) χ res.2):=by
    rw [κ];exact V.NC (λg H _=>H) (ah.sub (λg H _=>H) δ)
   refine xa hLv ?_ ?_ huq hfr λw56 x56=>hR w56 (Ex.trans θ x56)
   ·rw [κ];exact Lv.ib (EO λe he=>KB hsh e (sE he)) (AO hmsh)
   ·rw [κ];simp only [OM,Lv.cn,lY];omega
end Go.Proofs.YtdecokaadekjnaaGreat
namespace Go.Proofs.YtdecokaadekjnaaGreat
open T
structure NP (O:List Nat)(F:List UInt8)(p:P)(q:U):Prop where
 ae:AE UInt8.toNat p (λz=>(asg O F ρ0 z).toNat) q
 wf:p.wf=true
 eb:Eb 0 p
 fr:∀z,q.Fr z->z∈O\/(z< 26/\ρ0 z∉F)
theorem Ey {z:Nat}(h:z< 26):lt (ρ0 z)=true:=oR (by rw [fw h];unfold σ0;omega)
theorem AE.Np {ρ:UInt8->Nat}{σ:Nat->Nat}:∀{ps:List P} {us:List U},ld (λp q=>AE ρ p σ q) ps us->AE ρ (T.parL ps) σ (T.parL us)
 | [],[],_=>trivial
 | [p],[q],.cons h _=>h
 | p::G::ps,q::H::us,.cons h k=>⟨h,AE.Np k⟩
theorem ld.mono {X Y:Type}{R S:X->Y->Prop}(G:∀x y,R x y->S x y){l:List X}{m:List Y}(h:ld R l m):ld S l m:=by
 induction h with
 | nil=>exact .nil
 | cons h _ H=>exact .cons (G _ _ h) H
theorem ld.Lg {X Y:Type}{R:X->Y->Prop}{l:List X}{m:List Y}(h:ld R l m){x:X}(G:x∈l):∃y∈m,R x y:=by
 induction h with
 | nil=>cases G
 | cons h _ H=>
  rcases O4.1 G with rfl | G
  ·exact⟨_,Py ..,h⟩
  ·obtain⟨y,J,h2⟩:=H G;exact⟨y,OZ _ J,h2⟩
theorem ld.Fx {X Y:Type}{R:X->Y->Prop}{l:List X}{m:List Y}(h:ld R l m){y:Y}(G:y∈m):∃x∈l,R x y:=by
 induction h with
 | nil=>cases G
 | cons h _ H=>
  rcases O4.1 G with rfl | G
  ·exact⟨_,Py ..,h⟩
  ·obtain⟨y,J,h2⟩:=H G;exact⟨y,OZ _ J,h2⟩
theorem EC:∀{l:List P},(∀p∈l,p.wf=true)->(parL l).wf=true
 | [],_=>rfl
 | [p],h=>h p (by simp)
 | p::q::l,h=>by
  have h2:=EC (l:=q::l) λx G=>h x (OZ _ G)
  simp only [parL,wf,OJ];exact⟨h p (by simp),h2⟩
theorem DB {p:P}(G:p.wf=true):∀{l:List UInt8},(∀c∈l,lt c=true)->(resL l p).wf=true
 | [],_=>G
 | c::l,h=>by
  simp only [resL,wf,OJ];exact⟨iW (h c (by simp)),DB G λx H=>h x (OZ _ H)⟩
theorem DO {k:Nat}:∀{l:List P},(∀p∈l,Eb k p)->Eb k (parL l)
 | [],_=>trivial
 | [p],h=>h p (by simp)
 | p::q::l,h=>⟨h p (by simp),DO (l:=q::l) λx G=>h x (OZ _ G)⟩
theorem Ci {c:UInt8}(h:lt c=true)(k:Nat):okn k c:=by have :=bj h;unfold okn;omega
theorem DW {p:P}(H:∀z,p.Fr z->lt z=true):∀{l:List UInt8} {k:Nat},Eb k p->(∀c∈l,lt c=true)->Eb k (resL l p)
 | [],_,G,_=>G
 | c::l,k,G,h=>by
  refine⟨⟨tw (h c (by simp)),λz J _=>Ci (H z (fE.1 J).2) k⟩,DW H (G.mono (by omega)) λx V=>h x (OZ _ V)⟩
theorem yN {A:Type}(p:T A):∀l:List A,(resL l p).rd=p.rd/\(resL l p).ow=l.length+p.ow/\(resL l p).size=l.length+p.size/\(resL l p).aN=3* l.length+p.aN
 | []=>by simp [resL]
 | c::l=>by
  obtain⟨G,h2,H,h4⟩:=yN p l;simp only [resL,rd,ow,size,aN,OF];refine⟨G,?_,?_,?_⟩<;>omega
theorem BT {O:List Nat}{F:List UInt8}(hl:O.length=F.length)(hF:F.Nodup)(V:∀c∈F,lt c=true)(ho:∀x∈O,26<=x){ps:List P}{us:List U}(h:ld (NP O F) ps us)(nd:(O++us.flatMap BV).Nodup)(bv:∀x∈us.flatMap BV,26<=x)
  (hb:(parL ps).rd+F.length+(parL ps).ow<=64) (θ:(parL ps).aN<=1000000000) (ι:F.length<=300):pI 0 (resL F (parL ps)) σ0 (resL O (parL us)):=by
 have H:∀z,(resL O (parL us)).Fr z->z< 26/\ρ0 z∉F:=λz J=>by
  obtain⟨h1,h2⟩:=fE.1 J;obtain⟨q,hq,W⟩:=mM.1 h2;obtain⟨p,hp,Z⟩:=h.Fx hq;exact(Z.fr z W).resolve_left h1
 have α:AE UInt8.toNat (parL ps) (λz=>(asg O F ρ0 z).toNat) (parL us):=AE.Np (h.mono λp q k=>k.ae);have ζ:AE UInt8.toNat (resL F (parL ps)) (λz=>(ρ0 z).toNat) (resL O (parL us)):=AE.IW O F ρ0 hl hF (λz J G=>(H z (fE.2 ⟨G,J⟩)).2) α;have ae:AE UInt8.toNat (resL F (parL ps)) σ0 (resL O (parL us)):=ζ.congr (λ _ _=>rfl) λz J=>fw (H z J).1
 have β:∀c,(parL ps).Fr c->lt c=true:=λc hc=>by
  obtain⟨z,J,e⟩:=α.free c hc;have e:=Pe.1 e;obtain⟨q,hq,W⟩:=mM.1 J;obtain⟨p,hp,Z⟩:=h.Fx hq;by_cases G:z∈O
  ·rw [<-e];exact V _ (fK O F ρ0 z G hl)
  ·rw [<-e,bV _ _ _ _ G];exact Ey ((Z.fr z W).resolve_left G).1
 have γ:BV (resL O (parL us))=O++us.flatMap BV:=by rw [gD,gK]
 have δ:∀x∈BV (resL O (parL us)),26<=x:=λx hx=>by
  rw [γ]at hx;exact(OS.1 hx).elim (ho x) (bv x)
 have ε:Uq (resL O (parL us)):=⟨by rw [γ];exact nd,λx hx hf=>by have :=δ x hx;have :=(H x hf).1;omega⟩
 obtain⟨k1,k2,k3,k4⟩:=yN (parL ps) F;have η:(resL F (parL ps)).wf=true:=DB (EC λp hp=>by obtain⟨q,_,k⟩:=h.Lg hp;exact k.wf) V;refine⟨⟨η,by rw [aX,k4];omega,⟨DW β (DO λp hp=>by obtain⟨q,_,k⟩:=h.Lg hp;exact k.eb) V,by rw [k1,k2];omega⟩,ae,λy z _ _ e=>by unfold σ0 at e;omega,ε⟩,λz J hG=>?_,⟨ε,λy hy=>(H y (bI hy)).1,δ⟩,λ _ _=>rfl⟩;have :=β z (fE.1 J).2;exact absurd hG (eM (tw this))
theorem MW:∀{u:U},Uq u->u.Nr->cQ u=u.ow/\(u.dead=false->thAll (tp u.mX)=u.ow):=by
 intro u;have one:∀{u:U},u.isS=false->cQ u=u.ow->cQ u=u.ow/\(u.dead=false->thAll (tp u.mX)=u.ow):=λ{u} Z h=>⟨h,λ _=>by rw [gF Z];simp only [tp,thAll,Ro];exact h⟩
 have all:∀{u:U},Uq u->u.Nr->cQ u=u.frL.length+thAll (tl u.ths):=λ{u} G n=>by unfold cQ;rw [jh G n]
 induction u with
 | nil=>intro G n;exact one rfl (by rw [all G n];rfl)
 | snd a b p H=>intro G n;exact one rfl (by rw [all G n];have :=(H G.snd n).1;unfold cQ at this;simp only [frL,T.ths,tl,thAll,OX,ow];omega)
 | rcv a b p H=>intro G n;exact one rfl (by rw [all G n];have :=(H G.rcv n).1;unfold cQ at this;simp only [frL,T.ths,tl,thAll,OX,ow];omega)
 | tau p H=>intro G n;exact one rfl (by rw [all G n];have :=(H G.tau n).1;unfold cQ at this;simp only [frL,T.ths,tl,thAll,OX,ow];omega)
 | mat a b p H=>intro G n;exact one rfl (by rw [all G n];have :=(H G.mat n.2).1;unfold cQ at this;simp only [frL,T.ths,tl,thAll,OX,ow];omega)
 | rep p H=>intro G n;exact one rfl (by rw [all G n];have :=(H G.rep n.2).1;unfold cQ at this;simp only [frL,T.ths,tl,thAll,OX,ow];omega)
 | res x p H=>intro G n;exact one rfl (by rw [all G n];have :=(H G.res n.2).1;rw [all G.res n.2]at this;simp only [frL,T.ths,OF,ow];omega)
 | par p q H J=>
  intro G n;refine one rfl ?_;have V:=(H G.gz n.2.1).1;have h2:=(J G.fU n.2.2).1;have h0:q.frL=[]:=by
   rcases n.1.2 with h | h
   ·exact iO h
   ·cases q<;>first | rfl | (cases h;done)
  rw [all G.fU n.2.2,h0]at h2;rw [all G.gz n.2.1,iO n.1.1,nR n.1.1]at V;rw [all G n];simp only [frL,T.ths,ow,OX]at*;rw [show p::q.ths=[p]++q.ths from rfl,ik,ct];omega
 | sum p q H J=>
  intro G n;have V:=(H G.eD n.2.1).2 n.1.1;have h2:=(J G.dS n.2.2).2 n.1.2.1;have W:thAll (tp (T.sum p q).mX)=(T.sum p q).ow:=by
   rw [gF n.1.2.2]at V;simp only [T.mX,ow];rw [show p::q.mX=[p]++q.mX from rfl,ux,ct,V,h2]
  refine⟨?_,λ _=>W⟩;rw [all G n,<-W];simp only [frL,T.ths,tl,thAll,OX,T.mX];rw [eQ G.eD n.2.1 n.1.1,eQ G.dS n.2.2 n.1.2.1,gF n.1.2.2];simp
theorem me {A B:Type}[DecidableEq A][DecidableEq B]:∀{p:T A} {q:T B} {ρ:A->Nat} {σ:B->Nat},AE ρ p σ q->p.ow=q.ow/\p.rd=q.rd/\p.size=q.size:=by
 intro p
 induction p with
 | nil=>intro q ρ σ h;cases q<;>first | exact⟨rfl,rfl,rfl⟩ | cases h
 | snd a b p G=>intro q ρ σ h;cases q<;>first | (have :=G h.2.2;simp only [ow,rd,size];omega) | cases h
 | mat a b p G=>intro q ρ σ h;cases q<;>first | (have :=G h.2.2;simp only [ow,rd,size];omega) | cases h
 | rcv a b p G=>intro q ρ σ h;cases q<;>first | (have :=G (h.2 0);simp only [ow,rd,size];omega) | cases h
 | res b p G=>intro q ρ σ h;cases q<;>first | (have :=G (h 0);simp only [ow,rd,size];omega) | cases h
 | tau p G=>intro q ρ σ h;cases q<;>first | (have :=G h;simp only [ow,rd,size];omega) | cases h
 | rep p G=>intro q ρ σ h;cases q<;>first | (have :=G h;simp only [ow,rd,size];omega) | cases h
 | sum p J G H=>intro q ρ σ h;cases q<;>first | (have :=G h.1;have :=H h.2;simp only [ow,rd,size];omega) | cases h
 | par p J G H=>intro q ρ σ h;cases q<;>first | (have :=G h.1;have :=H h.2;simp only [ow,rd,size];omega) | cases h
theorem cd {A:Type}:∀p:T A,p.rd+p.ow+1<=p.size:=by
 intro p
 induction p<;>simp only [rd,ow,size]<;>omega
theorem Hi {A:Type}:∀{p:T A},(∃a b r,Off.snd a b r∈offs p)->p.rd+p.ow+2<=p.size:=by
 intro p
 induction p with
 | snd a b p=>intro _;have :=cd p;simp only [rd,ow,size];omega
 | sum p q G H=>
  rintro⟨a,b,r,h⟩
  rw [offs,OS]at h;have J:=cd p;have h2:=cd q;simp only [rd,ow,size];rcases h with h | h
  ·have :=G ⟨a,b,r,h⟩;omega
  ·have :=H ⟨a,b,r,h⟩;omega
 | rep p G=>
  rintro⟨a,b,r,h⟩
  obtain⟨o,J,h2⟩:=Pw.1 h;have:o= .snd a b r:=by cases o<;>simp [Off.stay]at h2;simp [h2]
  have :=G ⟨a,b,r,this▸J⟩;simp only [rd,ow,size];omega
 | _=>rintro⟨a,b,r,h⟩;simp [offs]at h
def gW {A:Type}(l:List (T A)):Nat:=(l.map T.ow).sum
def jf {A:Type}(l:List (T A)):Nat:=(l.map T.size).sum
def nL {A:Type}(l:List (T A)):Nat:=(l.map T.rd).sum
def eR {A:Type}(l:List (T A)):Nat:=(l.map T.aN).sum
theorem gT {A:Type}:∀(l:List (T A)),(parL l).ow=gW l/\(l≠[]->jf l+l.length<=(parL l).size+1)/\(parL l).rd<=nL l/\(parL l).aN<=eR l+3* l.length+1/\∀R,(∀p∈l,p.rd<=R)->(parL l).rd<=R
 | []=>by simp [parL,gW,jf,nL,eR,ow,rd,aN]
 | [p]=>by simp [parL,gW,jf,nL,eR];omega
 | p::q::l=>by
  obtain⟨H,h2,J,h4,h5⟩:=gT (q::l);have h2:=h2 (by simp);simp only [parL,ow,size,rd,aN,gW,jf,nL,eR,Pk,P0,OF]at*;refine⟨by omega,λ _=>by omega,by omega,by omega,λR hR=>?_⟩;have :=h5 R λx G=>hR x (OZ _ G)
  have :=hR p (by simp);omega
structure SU (t:P)(u:U):Prop where
 nr:u.Nr
 nu:Nu u
 fr:∀z,u.Fr z->z< 26
 ae:AE UInt8.toNat t (λy=>(ρ0 y).toNat) u
 len:u.frL.length=t.frL.length
 two:ld (λp q=>AE UInt8.toNat p (λz=>(asg u.frL t.frL ρ0 z).toNat) q) t.ths u.ths
 fn:t.frL.Nodup
 fl:∀c∈t.frL,lt c=true
 free:∀z,(∃q∈u.ths,q.Fr z)->z∈u.frL\/(z< 26/\ρ0 z∉t.frL)
 nd:(u.frL++u.ths.flatMap BV).Nodup
 ge:∀x∈u.frL++u.ths.flatMap BV,26<=x
 smp:∀q∈u.ths,q.smp=true
 smpP:∀q∈t.ths,q.smp=true
 nrs:∀q∈u.ths,q.Nr
 al:∀p∈t.ths,p.Al λc=>lt c=true
theorem Em {A:Type}:∀{t:T A},t.smp=true->∀q∈t.ths,q.smp=true:=by
 intro t
 induction t with
 | nil=>intro _ q h;cases h
 | res x p H=>intro h;exact H h
 | par p q H G=>
  intro h r hr;simp only [smp,OJ]at h;rcases O4.1 hr with rfl | hr
  ·exact h.1
  ·exact G h.2 r hr
 | _=>intro h q J;cases OO.1 J;exact h
theorem L9 {A:Type}{D:A->Prop}:∀{t:T A},t.Al D->(∀q∈t.ths,q.Al D)/\∀c∈t.frL,D c:=by
 intro t
 induction t with
 | nil=>intro _;exact⟨λq h=>(by cases h),λc h=>(by cases h)⟩
 | res x p H=>
  intro h;obtain⟨J,h2⟩:=H h.2;exact⟨J,λc hc=>(O4.1 hc).elim (λe=>e▸h.1) (h2 c)⟩
 | par p q H G=>
  intro h;refine⟨λr hr=>?_,λc hc=>(by cases hc)⟩;rcases O4.1 hr with rfl | hr
  ·exact h.1
  ·exact(G h.2).1 r hr
 | _=>intro h;exact⟨λq V=>(by cases OO.1 V;exact h),λc hc=>(by cases hc)⟩
theorem mO.su {t:P}(ok:mO t):SU t (num t e0 0).1:=by
 have nu:=lP ok.al;have H:=lJ ok.al;have G:=Kt ok.al;have ae:AE UInt8.toNat t (λy=>(ρ0 y).toNat) (num t e0 0).1:=H.congr (λ _ _=>rfl) λy hy=>(fw (G y hy)).symm
 have nr:(num t e0 0).1.Nr:=AE.nr H (eZ t) (λy z _ _ e=>by unfold σ0 at e;omega) ok.nr;obtain⟨hl,J⟩:=ae.open ok.nr;have V:=nr.shape;have W:=ok.nr.shape;have Z:BV (num t e0 0).1=(num t e0 0).1.frL++(num t e0 0).1.ths.flatMap BV:=by
  have:BV (num t e0 0).1=BV (resL (num t e0 0).1.frL (parL (num t e0 0).1.ths)):=by rw [<-V]
  rw [this,gD,gK]
 obtain⟨γ,δ⟩:=L9 ok.al;refine⟨nr,nu,G,ae,hl.symm,J,(ok.nr.Gn).1,δ,λz ⟨q,hq,hz⟩=>?_,by rw [<-Z];exact nu.uq.nd,λx hx=>nu.bv x (by rw [Z];exact hx),Em (by rw [<-uW ae];exact ok.smp),Em ok.smp,λq hq=>(nr.ths q hq).2,γ⟩;by_cases α:z∈(num t e0 0).1.frL
 ·exact .inl α
 ·right;have β:(num t e0 0).1.Fr z:=by rw [V];exact fE.2 ⟨α,mM.2 ⟨q,hq,hz⟩⟩
  refine⟨G z β,λhF=>?_⟩;obtain⟨c,hc,e⟩:=ae.symm.free z β;have e:=Pe.1 e;rw [W]at hc;have :=(fE.1 hc).1;rw [e]at this;exact this hF
section
variable {t:P} {u:U}
theorem SU.inj (su:SU t u){z y:Nat}(J:∃q∈u.ths,q.Fr z)(V:∃q∈u.ths,q.Fr y)(e:asg u.frL t.frL ρ0 z=asg u.frL t.frL ρ0 y):z=y:=by
 by_cases G:z∈u.frL<;>by_cases h2:y∈u.frL
 ·exact yD u.frL t.frL ρ0 z y G h2 su.len su.fn e
 ·have H:=fK u.frL t.frL ρ0 z G su.len;rw [e,bV _ _ _ _ h2]at H;exact absurd H ((su.free y V).resolve_left h2).2
 ·have H:=fK u.frL t.frL ρ0 y h2 su.len;rw [<-e,bV _ _ _ _ G]at H;exact absurd H ((su.free z J).resolve_left G).2
 ·rw [bV _ _ _ _ G,bV _ _ _ _ h2]at e;have W:=((su.free z J).resolve_left G).1;have Z:=((su.free y V).resolve_left h2).1;have :=PS UInt8.toNat e;rw [fw W,fw Z]at this;unfold σ0 at this;omega
theorem SU.NM (su:SU t u):ld (NP u.frL t.frL) t.ths u.ths:=by
 have key:∀{ps:List P} {us:List U},ld (λp q=>AE UInt8.toNat p (λz=>(asg u.frL t.frL ρ0 z).toNat) q) ps us->(∀p∈ps,p∈t.ths)->(∀q∈us,q∈u.ths)->ld (NP u.frL t.frL) ps us:=by
  intro ps us h
  induction h with
  | nil=>intro _ _;exact .nil
  | cons h _ H=>
   intro G h2;have ha:=su.al _ (G _ (Py ..));refine .cons ⟨h,T.Al.wf ha,T.Al.eb 0 ha,λz J=>su.free z ⟨_,h2 _ (Py ..),J⟩⟩ (H (λp V=>G p (OZ _ V)) λq W=>h2 q (OZ _ W))
 exact key su.two (λ _ h=>h) λ _ h=>h
theorem bY {X:Type}{l m:List X}(h:l.Perm m)(g:X->Nat):(l.map g).sum=(m.map g).sum:=jr (h.map g)
theorem count_flatMap {X:Type}(g:X->List Nat)(x:Nat):∀l:List X,(l.flatMap g).count x=(l.map λy=>(g y).count x).sum
 | []=>rfl
 | y::l=>by simp only [Qh,PF,Pk,P0,count_flatMap g x l]
theorem mO.L8 (ok:mO t):t.frL.length+gW t.ths=t.ow/\t.rd=(parL t.ths).rd/\(t.ths≠[]->t.frL.length+jf t.ths+t.ths.length<=t.size+1)/\t.frL.length+3* t.frL.length+t.ths.length<=400/\eR t.ths<=400/\t.ow<=8:=by
 have hs:=ok.nr.shape;obtain⟨H,h2,h3,h4⟩:=yN (parL t.ths) t.frL;obtain⟨W,Z,k3,k4,_⟩:=gT t.ths;rw [<-hs]at H h2 h3 h4;have hlen:=ok.len;rw [aX,h4]at hlen;have α:=ok.size;have G:∀l:List P,eR l<=(parL l).aN/\l.length<=(parL l).aN:=λl=>by
  have:∀l:List P,eR l+3* l.length<=(parL l).aN+3:=by
   intro l
   induction l with
   | nil=>simp [eR,parL,T.aN]
   | cons p l ih=>
    cases l with
    | nil=>simp [eR,parL]
    | cons q l=>
     simp only [parL,T.aN,eR,Pk,P0,OF]at ih|-;omega
  have H:∀p:P,1<=p.aN:=λp=>by cases p<;>simp only [T.aN]<;>omega
  cases l with
  | nil=>simp [eR]
  | cons p l=>
   have W:=this (p::l);have Z:=H p;have k3:1<=eR (p::l):=by simp only [eR,Pk,P0];omega
   have k4:1<=(p::l).length:=by simp
   omega
 have J:t.ow<=8:=by
  have su:=ok.su;have :=(MW su.nu.uq su.nr).1;have h8:=ok.all;have h9:=(me su.ae).1;omega
 refine⟨by rw [h2,W],H,λV=>by have :=Z V;omega,?_,?_,J⟩
 ·have :=(G t.ths).2;omega
 ·have :=(G t.ths).1;omega
theorem SU.cnt (su:SU t u)(x:Nat):u.frL.count x+(u.ths.map λy=>(BV y).count x).sum<=1:=by
 have G:=Q3.1 su.nd x;rw [PF,count_flatMap]at G;exact G
theorem eu {A:Type}:∀p:T A,p.aN<=5* p.size:=by intro p;induction p<;>simp only [aN,size]<;>omega
theorem Et (ok:mO t)(su:SU t u){i:Nat}(hi:i< t.ths.length)(α:i< u.ths.length){p:P}{J:U}(ho:Off.tau p∈offs t.ths[i])(β:Off.tau J∈offs u.ths[i])(ε:ri UInt8.toNat (λz=>(asg u.frL t.frL ρ0 z).toNat) (.tau p) (.tau J)):
  pI 0 (resL t.frL (parL (wo t.ths i i++[p]))) σ0 (resL u.frL (parL (wo u.ths i i++[J])))/\(resL u.frL (parL (wo u.ths i i++[J]))).smp=true:=by
 have W:=OP hi;have V:=OP α;obtain⟨sP,_⟩:=aZ (su.smpP _ W) _ ho;obtain⟨sU,_⟩:=aZ (su.smp _ V) _ β;have bU:=gH _ β;have al:=sP.al _ (su.al _ W);have H:=Dj t.ths i hi;have Z:=Dj u.ths i α;obtain⟨n1,n2,n3,n4,n5,n6⟩:=ok.L8;have η:=ok.size;obtain⟨k1,k2,k3,k4,k5⟩:=gT (wo t.ths i i++[p]);have γ:=H.length_eq;have so:=bY H T.ow;have ss:=bY H T.size;have st:=bY H T.aN;simp only [Pk,P0,OF]at so ss st γ;have s1:=sP.ow;have s2:=sP.size;have s3:=sP.rd;simp only [Off.tm,ow,size,rd]at s1 s2 s3;have θ:=eu p;have ι:=cd t;have ζ:t.ths≠[]:=λe=>by rw [e]at hi;cases hi
 have n3:=n3 ζ;simp only [gW,jf,eR,nL,PH,R9,Pk,QL,P0,List.sum_nil,OM,OF,OX]at*;have κ:(parL (wo t.ths i i++[p])).rd<=t.rd:=by
  refine k5 t.rd λx G=>?_
  rw [n2];have h6:∀x∈t.ths,x.rd<=(parL t.ths).rd:=by
   have:∀l:List P,∀x∈l,x.rd<=(parL l).rd:=by
    intro l
    induction l with
    | nil=>intro x h;cases h
    | cons p l ih=>
     intro x G;cases l with
     | nil=>rw [OO]at G;subst G;exact OQ _
     | cons q l=>
      simp only [parL,T.rd];rcases O4.1 G with rfl | G
      ·exact Nat.le_max_left _ _
      ·exact PN (ih x G) (Nat.le_max_right _ _)
   exact this t.ths
  rcases OS.1 G with G | G
  ·exact h6 x (lO G)
  ·rw [OO]at G;subst G;exact PN s3 (h6 _ W)
 refine⟨BT su.len su.fn su.fl (λx G=>su.ge x (Pm _ G)) (us:=wo u.ths i i++[J]) ?_ ?_ ?_ ?_ ?_ ?_,?_⟩
 ·refine(su.NM.wo i i).app (.cons ⟨ε,T.Al.wf al,T.Al.eb 0 al,λz hz=>su.free z ⟨_,V,sU.fr z hz⟩⟩ .nil)
 ·rw [Q3];intro x;have h1:u.frL.count x+(u.ths.map λy=>(BV y).count x).sum<=1:=su.cnt x;have h2:(BV J).count x<=(BV u.ths[i]).count x:=bU.count_le x;have h3:(u.ths.map λy=>(BV y).count x).sum=(BV u.ths[i]).count x+((wo u.ths i i).map λy=>(BV y).count x).sum:=by
   have :=bY Z λy=>(BV y).count x
   simpa only [Pk,P0]using this
  have h4:(u.frL++(wo u.ths i i++[J]).flatMap BV).count x=u.frL.count x+(((wo u.ths i i).map λy=>(BV y).count x).sum+(BV J).count x):=by
   rw [PF,count_flatMap];simp
  have:u.frL.count x+(((wo u.ths i i).map λy=>(BV y).count x).sum+(BV J).count x)<=1:=by omega
  exact PN (Nat.le_of_eq h4) this
 ·intro x G;refine su.ge x (Pf _ ?_);obtain⟨q,hq,δ⟩:=PE.1 G;rcases OS.1 hq with hq | hq
  ·exact PE.2 ⟨q,lO hq,δ⟩
  ·rw [OO]at hq;subst hq;exact PE.2 ⟨_,V,bU.subset δ⟩
 ·omega
 ·omega
 ·omega
 ·rw [uH];refine tj λx G=>?_
  rcases OS.1 G with G | G
  ·exact su.smp x (lO G)
  ·rw [OO]at G;subst G;exact sU.smp (su.smp _ V)
end
section
variable {t:P} {u:U}
theorem SU.ly (su:SU t u){k:Nat}(V:k< u.ths.length){r:U}(W:Sub r u.ths[k])(hb:(BV r).Sublist (BV u.ths[k])):Uq r:=by
 have hm:=OP V;have G:(BV u.ths[k]).Sublist (u.ths.flatMap BV):=by
  rw [List.flatMap_def];exact List.sublist_flatten_of_mem (Qo hm)
 have H:=(Pp.1 su.nd)
 refine⟨H.2.1.sublist (hb.trans G),λx Z hf=>?_⟩;have J:=G.subset (hb.subset Z);have α:=su.ge x (Pf _ J);rcases su.free x ⟨_,hm,W.fr x hf⟩with h | h
 ·exact H.2.2 x h x J rfl
 ·omega
theorem Nf {A:Type}:∀l:List (T A),nL l+gW l+l.length<=jf l
 | []=>by simp [nL,gW,jf]
 | p::l=>by
  have G:=Nf l;have h2:=cd p;simp only [nL,gW,jf,Pk,P0,OF]at*;omega
theorem JQ {A:Type}:∀l:List (T A),∀x∈l,x.rd<=(parL l).rd:=by
 intro l
 induction l with
 | nil=>intro x h;cases h
 | cons p l H=>
  intro x G;cases l with
  | nil=>cases OO.1 G;exact OQ _
  | cons q l=>
   simp only [parL,T.rd];rcases O4.1 G with rfl | G
   ·exact Nat.le_max_left _ _
   ·exact PN (H x G) (Nat.le_max_right _ _)
theorem Ap {p q:P}(h:p.shp=q.shp):p.rd=q.rd/\p.ow=q.ow/\p.aN=q.aN:=by
 have key:∀p:P,p.shp.rd=p.rd/\p.shp.ow=p.ow:=λp=>by
  unfold T.shp
  induction p<;>simp_all [T.map,T.rd,T.ow]
 refine⟨by rw [<-(key p).1,<-(key q).1,h],by rw [<-(key p).2,<-(key q).2,h],je h⟩
def bM {A:Type}(l:List (T A))(i k:Nat)(p q:T A)(s:Bool)(x:T A):List (T A):=wo l i k++[p,q]++if s then [x]else []
theorem zX (ok:mO t)(su:SU t u){i k:Nat}(hi:i< t.ths.length)(θ:i< u.ths.length)(hk:k< t.ths.length)(β:k< u.ths.length)(ι:i≠k){a b:UInt8}{p:P}{c d:Nat}{p':U}(ho:Off.snd a b p∈offs t.ths[i])(κ:Off.snd c d p'∈offs u.ths[i])
  (hae:ri UInt8.toNat (λz=>(asg u.frL t.frL ρ0 z).toNat) (.snd a b p) (.snd c d p')) {e x:UInt8} {q:P} {s:Bool} {e' x':Nat} {H:U} {s':Bool} (hr:Off.rcv e x q s∈offs t.ths[k]) (μ:Off.rcv e' x' H s'∈offs u.ths[k])
  (har:ri UInt8.toNat (λz=>(asg u.frL t.frL ρ0 z).toNat) (.rcv e x q s) (.rcv e' x' H s')) {f:Nat->Nat} {N:Nat} (hf:I0 N H x' d f) (hN:∀z,(z∈u.frL\/z∈u.ths.flatMap BV\/∃q∈u.ths,q.Fr z)->z<=N) (h25:25<=N) {q2:P} (γ:iQ 0 q x b q2):
  pI 0 (resL t.frL (parL (bM t.ths i k p q2 s t.ths[k]))) σ0 (resL u.frL (parL (bM u.ths i k p' (H.map f) s' u.ths[k])))/\(resL u.frL (parL (bM u.ths i k p' (H.map f) s' u.ths[k]))).smp=true:=by
 obtain⟨_,hbd,ν⟩:=hae;obtain⟨_,ξ,rfl⟩:=har;have ε:=OP hi;have Z:=OP θ;have ζ:=OP hk;have V:=OP β;obtain⟨sP,_⟩:=aZ (su.smpP _ ε) _ ho;obtain⟨sU,_⟩:=aZ (su.smp _ Z) _ κ;obtain⟨rP,rR⟩:=aZ (su.smpP _ ζ) _ hr;obtain⟨rU,_⟩:=aZ (su.smp _ V) _ μ;have bU:=gH _ κ;have cU:=gH _ μ;have al:=(sP.al _ (su.al _ ε)).2.2;have G:=C1 t.ths i k hi hk ι;have η:=C1 u.ths i k θ β ι;have ο:=su.ly β rU cU;have δ:Uq H:=ο.rcv;have ς:x'∉BV H:=ο.lQ;have hd:d<=N:=hN d (.inr (.inr ⟨_,Z,sU.fr d (.inr (.inl rfl))⟩));have υ:∀z,H.Fr z->z<=N:=λz J=>by
  by_cases h:z=x'
  ·subst h;exact hN z (.inr (.inl (PE.2 ⟨_,V,cU.subset (Py ..)⟩)))
  ·exact hN z (.inr (.inr ⟨_,V,rU.fr z (.inr ⟨h,J⟩)⟩))
 have φ:∀z∈BV H,z<=N:=λz J=>hN z (.inr (.inl (PE.2 ⟨_,V,cU.subset (OZ _ J)⟩)))
 have ae2:AE UInt8.toNat q2 (λz=>(asg u.frL t.frL ρ0 z).toNat) (H.map f):=by
  have k1:=(γ.ok UInt8.toNat).symm;have k2:=ξ b.toNat;have k3:=hf.ae δ ς υ hd φ (λz=>(asg u.frL t.frL ρ0 z).toNat);rw [show b.toNat=(asg u.frL t.frL ρ0 d).toNat from hbd]at k1 k2;exact(k1.trans k2).trans k3
 have χ:∀z,(H.map f).Fr z->∃q∈u.ths,q.Fr z:=λz J=>by
  rcases hf.fr δ z J with h | ⟨h,h'⟩
  ·subst h;exact⟨_,Z,sU.fr z (.inr (.inl rfl))⟩
  ·exact⟨_,V,rU.fr z (.inr ⟨h,h'⟩)⟩
 obtain⟨n1,n2,n3,n4,n5,n6⟩:=ok.L8;have hsz:=ok.size;obtain⟨g1,g2,g3⟩:=Ap γ.shp;have ψ:=G.length_eq;have so:=bY G T.ow;have ss:=bY G T.size;have st:=bY G T.aN;have sr:=bY G T.rd;simp only [Pk,P0,OF]at so ss st sr ψ;have s1:=sP.ow;have s2:=sP.size;have s3:=sP.rd;have r1:=rP.ow;have r2:=rP.size;have r3:=rP.rd;simp only [Off.tm,ow,size,rd]at s1 s2 s3 r1 r2 r3;have tl1:=eu p;have tl2:=eu q;have hro:=cd t;have hne:t.ths≠[]:=λe=>by rw [e]at hi;cases hi
 have n3:=n3 hne;have sum:=Nf (wo t.ths i k);have snd2:=Hi ⟨a,b,p,ho⟩;have rk:=cd t.ths[k];have rdt:=(gT t.ths).2.2.1;have h6:=JQ t.ths;have hrd:(parL (bM t.ths i k p q2 s t.ths[k])).rd<=t.rd:=by
  refine(gT _).2.2.2.2 t.rd λx W=>?_
  rw [n2];unfold bM at W;rcases OS.1 W with W | W
  ·rcases OS.1 W with W | W
   ·exact h6 x (lO W)
   ·rcases O4.1 W with rfl | W
    ·exact PN s3 (h6 _ ε)
    ·cases OO.1 W;have :=h6 _ ζ;omega
  ·cases s
   ·cases W
   ·cases OO.1 W;exact h6 _ ζ
 obtain⟨k1,_,_,k4,_⟩:=gT (bM t.ths i k p q2 s t.ths[k]);have kow:gW (bM t.ths i k p q2 s t.ths[k])=gW (wo t.ths i k)+p.ow+q2.ow+if s then t.ths[k].ow else 0:=by
  unfold bM gW;cases s<;>simp<;>omega
 have ktl:eR (bM t.ths i k p q2 s t.ths[k])+3* (bM t.ths i k p q2 s t.ths[k]).length<=eR (wo t.ths i k)+3* (wo t.ths i k).length+p.aN+q2.aN+t.ths[k].aN+9:=by
  unfold bM eR;cases s<;>simp<;>omega
 have hbound:(parL (bM t.ths i k p q2 s t.ths[k])).rd+t.frL.length+(parL (bM t.ths i k p q2 s t.ths[k])).ow<=64:=by
  rw [k1,kow];cases s
  ·simp only [Qx,Rm,gW,jf,nL]at*;omega
  ·have e2:=rR e x q rfl;have e3:t.ths[k].ow=q.ow/\t.ths[k].rd=q.rd+1/\t.ths[k].size=q.size+2:=by rw [e2];simp [T.ow,T.rd,T.size]
   have rq:=cd q;simp only [Qw,gW,jf,nL]at*;omega
 refine⟨BT su.len su.fn su.fl (λx W=>su.ge x (Pm _ W)) (us:=bM u.ths i k p' (H.map f) s u.ths[k]) ?_ ?_ ?_ hbound ?_ ?_,?_⟩
 ·unfold bM;refine((su.NM.wo i k).app (.cons ⟨ν,T.Al.wf al,T.Al.eb 0 al,λz J=>su.free z ⟨_,Z,sU.fr z (.inr (.inr J))⟩⟩ (.cons ⟨ae2,γ.wf,γ.eb,λz J=>su.free z (χ z J)⟩ .nil))).app ?_;cases s
  ·exact .nil
  ·exact .cons (su.NM.get hk β) .nil
 ·rw [Q3];intro z;have h1:u.frL.count z+(u.ths.map λy=>(BV y).count z).sum<=1:=su.cnt z;have h2:(BV p').count z<=(BV u.ths[i]).count z:=bU.count_le z;have h3:(u.ths.map λy=>(BV y).count z).sum=(BV u.ths[i]).count z+((BV u.ths[k]).count z+((wo u.ths i k).map λy=>(BV y).count z).sum):=by
   have :=bY η λy=>(BV y).count z
   simpa only [Pk,P0]using this
  have h4:(u.frL++(bM u.ths i k p' (H.map f) s u.ths[k]).flatMap BV).count z=u.frL.count z+(((wo u.ths i k).map λy=>(BV y).count z).sum+(BV p').count z+(BV (H.map f)).count z+if s then(BV u.ths[k]).count z else 0):=by
   unfold bM;rw [PF,count_flatMap];cases s<;>simp<;>omega
  have ω:(BV (H.map f)).count z=0\/(N< z/\(BV (H.map f)).count z<=1):=by
   rw [gw];by_cases h:z∈(BV H).map f
   ·right;obtain⟨y,hy,e⟩:=Pw.1 h;refine⟨by rw [<-e];exact hf.fb y hy,?_⟩;have:((BV H).map f).Nodup:=by
     have:∀l:List Nat,l.Nodup->(∀z∈l,z∈BV H)->(l.map f).Nodup:=by
      intro l
      induction l with
      | nil=>intro _ _;exact Qi
      | cons y l ih=>
       intro hn hm;have hn:=PO.1 hn;refine PO.2 ⟨λh=>?_,ih hn.2 λz J=>hm z (OZ _ J)⟩;obtain⟨z,J,e⟩:=Pw.1 h;have :=hf.fi z (hm z (OZ _ J)) y (hm y (Py ..)) e;exact hn.1 (this▸J)
     exact this (BV H) δ.nd λ _ h=>h
    exact Q3.1 this z
   ·exact .inl (List.count_eq_zero.2 h)
  have hbig:N< z->u.frL.count z+(u.ths.map λy=>(BV y).count z).sum=0:=λJ=>by
   rw [<-count_flatMap,<-PF];refine List.count_eq_zero.2 λhm=>?_
   have :=hN z ((OS.1 hm).imp id .inl);omega
  have:u.frL.count z+(((wo u.ths i k).map λy=>(BV y).count z).sum+(BV p').count z+(BV (H.map f)).count z+if s then(BV u.ths[k]).count z else 0)<=1:=by
   rcases ω with h | ⟨J,h⟩
   ·cases s<;>simp only [Qw,Qx,Rm]<;>omega
   ·have :=hbig J;cases s<;>simp only [Qw,Qx,Rm]<;>omega
  exact PN (Nat.le_of_eq h4) this
 ·intro z J;obtain⟨r,hr2,α⟩:=PE.1 J;have old:∀r∈u.ths,z∈BV r->26<=z:=λr h1 h2=>su.ge z (Pf _ (PE.2 ⟨r,h1,h2⟩))
  unfold bM at hr2;rcases OS.1 hr2 with h | h
  ·rcases OS.1 h with h | h
   ·exact old r (lO h) α
   ·rcases O4.1 h with rfl | h
    ·exact old _ Z (bU.subset α)
    ·cases OO.1 h;rw [gw]at α;obtain⟨y,hy,e⟩:=Pw.1 α;have :=hf.fb y hy;omega
  ·cases s
   ·cases h
   ·cases OO.1 h;exact old _ V α
 ·simp only [eR,jf,gW]at*;omega
 ·omega
 ·rw [uH];have hsm:(H.map f).smp=true:=by
   have h1:=hf.ae δ ς υ hd φ id;rw [<-uW h1];have :=rU.smp (su.smp _ V);exact this
  refine tj λy hy=>?_
  unfold bM at hy;rcases OS.1 hy with h | h
  ·rcases OS.1 h with h | h
   ·exact su.smp y (lO h)
   ·rcases O4.1 h with rfl | h
    ·exact sU.smp (su.smp _ Z)
    ·cases OO.1 h;exact hsm
  ·cases s
   ·cases h
   ·cases OO.1 h;exact su.smp _ V
end
end Go.Proofs.YtdecokaadekjnaaGreat
namespace Go.Proofs.YtdecokaadekjnaaGreat
open Go Go.RowKit T
theorem Mv (w:World){t:P}{k:Nat}{old nw:UInt8}(ok:Ok t)(eb:Eb k t)(hb:k+t.bd<=64)(G:nm nw=true)(H:okn k nw):∃q,iQ k t old nw q:=by
 have h:=ig t.size (old:=old) (OQ _) ok eb hb G H (w:=w) (R:=λ _ _=>∃q,iQ k t old nw q) λq w' _ J=>⟨q,J⟩
 obtain⟨e,w',fr,hr,_⟩:=h [];obtain⟨_,hr⟩:=hr;exact hr.2
def Ff (N:Nat)(q:U)(x b:Nat):Nat->Nat:=λz=>if z=x then b else if z∈BV q then z+N+1 else z
theorem Dd (N:Nat){q:U}{x:Nat}(b:Nat)(J:x∉BV q):I0 N q x b (Ff N q x b):=by
 refine⟨Pj rfl,λz G h2=>?_,λz H=>?_,λz H y V e=>?_⟩
 ·simp only [Ff,O1 G,O1 h2]
 ·have G:z≠x:=λe=>J (e▸H)
  simp only [Ff,O1 G,Pj H];omega
 ·have G:z≠x:=λe=>J (e▸H)
  have h2:y≠x:=λe=>J (e▸V)
  simp only [Ff,O1 G,Pj H,O1 h2,Pj V]at e;omega
def NN (u:U):Nat:=(BV u).sum+26
def MP (u:U)(i:Nat)(p:U):U:=resL u.frL (parL (wo u.ths i i++[p]))
def Gj (u:U)(i k:Nat)(p q:U)(s:Bool):U:=resL u.frL (parL (bM u.ths i k p q s (u.ths.getD k .nil)))
def E3 (u:U)(i k c d:Nat)(p:U):Off Nat->List U
 | .rcv e x q s=>if e=c then [Gj u i k p (q.map (Ff (NN u) q x d)) s]else []
 | _=>[]
def E2 (u:U)(i c d:Nat)(p:U)(k:Nat):List U:=if i=k then []else(offs (u.ths.getD k .nil)).flatMap (E3 u i k c d p)
def E1 (u:U)(i:Nat):Off Nat->List U
 | .tau p=>[MP u i p]
 | .snd c d p=>(List.range u.ths.length).flatMap (E2 u i c d p)
 | .rcv .. =>[]
def E0 (u:U)(i:Nat):List U:=(offs (u.ths.getD i .nil)).flatMap (E1 u i)
def gY (u:U):List U:=(List.range u.ths.length).flatMap (E0 u)
noncomputable def outs (l:List U):List Tx:=l.map λv=>(kL v).getD []
noncomputable def jl (l:List U):Bool:=l.all λv=>(kL v).isSome
noncomputable def qp (u:U):Option (List Tx):=if jl (gY u)then some (dd (a6 (outs (gY u))))else none
theorem BA (l m:List U):outs (l++m)=outs l++outs m:=PH ..
theorem xj (l m:List U):jl (l++m)=(jl l&&jl m):=Rl ..
section
variable {t:P} {u:U}
theorem SU.bound (su:SU t u):∀z,(z∈u.frL\/z∈u.ths.flatMap BV\/∃q∈u.ths,q.Fr z)->z<=NN u:=by
 have H:=su.nr.shape;have G:BV u=u.frL++u.ths.flatMap BV:=by
  have:BV u=BV (resL u.frL (parL u.ths)):=by rw [<-H]
  rw [this,gD,gK]
 have key:∀z∈BV u,z<=NN u:=λz J=>by have :=zH J;unfold NN;omega
 intro z J;rcases J with h | h | h
 ·exact key z (by rw [G];exact Pm _ h)
 ·exact key z (by rw [G];exact Pf _ h)
 ·rcases su.free z h with h | h
  ·exact key z (by rw [G];exact Pm _ h)
  ·unfold NN;omega
theorem H7 (ok:mO t)(su:SU t u){i:Nat}(hi:i< u.ths.length){p:U}(V:Off.tau p∈offs u.ths[i]):Nu (MP u i p)/\(MP u i p).smp=true:=by
 have hl:=su.two.len;have G:i< t.ths.length:=by omega
 obtain⟨W,J,H⟩:=(jN (su.two.get G hi)).Fx V;cases W<;>try cases H
 obtain⟨Z,h2⟩:=Et ok su G hi J V H;exact⟨Z.nu,h2⟩
theorem M5 (ok:mO t)(su:SU t u){k:Nat}(G:k< t.ths.length){e x:UInt8}{q:P}{s:Bool}(hr:Off.rcv e x q s∈offs t.ths[k]):Ok q/\Eb 0 q/\0+q.bd<=64:=by
 have hm:=OP G;obtain⟨sub,_⟩:=aZ (su.smpP _ hm) _ hr;have al:=sub.al _ (su.al _ hm);have W:=sub.size;obtain⟨_,_,H,_,_,_⟩:=ok.L8;have H:=H (λe=>by rw [e]at G;cases G);have Z:=ok.size;have J:t.ths[k].size<=jf t.ths:=zH (Pw.2 ⟨_,hm,rfl⟩);simp only [Off.tm,size]at W;have :=cd q;have :=T.Ao q;have :=eu q;have V:1<=t.ths.length:=by omega
 exact⟨⟨T.Al.wf al.2.2,by rw [aX];omega⟩,T.Al.eb 0 al.2.2,by omega⟩
theorem sM (w:World)(ok:mO t)(su:SU t u){i k:Nat}(hi:i< u.ths.length)(hk:k< u.ths.length)(Z:i≠k){c d:Nat}{p:U}(ho:Off.snd c d p∈offs u.ths[i]){e x:Nat}{q:U}{s:Bool}(hr:Off.rcv e x q s∈offs u.ths[k])
  {f:Nat->Nat} {N:Nat} (hf:I0 N q x d f) (hN:∀z,(z∈u.frL\/z∈u.ths.flatMap BV\/∃q∈u.ths,q.Fr z)->z<=N) (α:25<=N):Nu (resL u.frL (parL (bM u.ths i k p (q.map f) s u.ths[k])))/\(resL u.frL (parL (bM u.ths i k p (q.map f) s u.ths[k]))).smp=true:=by
 have hl:=su.two.len;have G:i< t.ths.length:=by omega
 have H:k< t.ths.length:=by omega
 obtain⟨o',J,β⟩:=(jN (su.two.get G hi)).Fx ho;obtain⟨r',V,γ⟩:=(jN (su.two.get H hk)).Fx hr;cases o'<;>try cases β
 cases r'<;>try cases γ
 rename_i a b p' δ ε e' x' q' s' ζ η;obtain⟨h1,h2,h3⟩:=M5 ok su H V;have W:=OP G;obtain⟨sP,_⟩:=aZ (su.smpP _ W) _ J;have al:=(sP.al _ (su.al _ W)).2.1;obtain⟨q2,θ⟩:=Mv w h1 h2 h3 (old:=x') (nw:=b) (iW al) (Ci al 0);obtain⟨k1,k2⟩:=zX ok su G hi H hk Z J ho ⟨δ,ε⟩ V hr ⟨ζ,η⟩ hf hN α θ;exact⟨k1.nu,k2⟩
theorem AE.MU {p q:U}(h:∀σ:Nat->Nat,AE σ p σ q):∀(o:List Nat) (σ:Nat->Nat),AE σ (resL o p) σ (resL o q)
 | [],σ=>h σ
 | x::o,σ=>λv=>AE.MU h o (aI σ x v)
theorem Fg (w:World)(ok:mO t)(su:SU t u){i k:Nat}(hi:i< u.ths.length)(hk:k< u.ths.length)(J:i≠k){c d:Nat}{p:U}(ho:Off.snd c d p∈offs u.ths[i]){e x:Nat}{q:U}{s:Bool}(hr:Off.rcv e x q s∈offs u.ths[k])
  {f f':Nat->Nat} {N N':Nat} (hf:I0 N q x d f) (hN:∀z,(z∈u.frL\/z∈u.ths.flatMap BV\/∃q∈u.ths,q.Fr z)->z<=N) (β:25<=N) (V:I0 N' q x d f') (W:∀z,(z∈u.frL\/z∈u.ths.flatMap BV\/∃q∈u.ths,q.Fr z)->z<=N') (Z:25<=N'):
  kL (resL u.frL (parL (bM u.ths i k p (q.map f) s u.ths[k])))=kL (resL u.frL (parL (bM u.ths i k p (q.map f') s u.ths[k]))):=by
 have G:=OP hk;have α:=OP hi;obtain⟨sU,_⟩:=aZ (su.smp _ α) _ ho;obtain⟨rU,_⟩:=aZ (su.smp _ G) _ hr;have cU:=gH _ hr;have H:=su.ly hk rU cU;have nq:∀M,(∀z,(z∈u.frL\/z∈u.ths.flatMap BV\/∃q∈u.ths,q.Fr z)->z<=M)->(∀z,q.Fr z->z<=M)/\d<=M/\∀z∈BV q,z<=M:=λM hM=>by
  refine⟨λz hz=>?_,hM d (.inr (.inr ⟨_,α,sU.fr d (.inr (.inl rfl))⟩)),λz hz=>hM z (.inr (.inl (PE.2 ⟨_,G,cU.subset (OZ _ hz)⟩)))⟩;by_cases h:z=x
  ·subst h;exact hM z (.inr (.inl (PE.2 ⟨_,G,cU.subset (Py ..)⟩)))
  ·exact hM z (.inr (.inr ⟨_,G,rU.fr z (.inr ⟨h,hz⟩)⟩))
 obtain⟨a1,a2,a3⟩:=nq N hN;obtain⟨b1,b2,b3⟩:=nq N' W;have hq:∀σ:Nat->Nat,AE σ (q.map f) σ (q.map f'):=λσ=>(hf.ae H.rcv H.lQ a1 a2 a3 σ).symm.trans (V.ae H.rcv H.lQ b1 b2 b3 σ)
 refine Iv (sM w ok su hi hk J ho hr hf hN β).1 (sM w ok su hi hk J ho hr V W Z).1 (AE.MU (λσ=>?_) _ _);have refl:∀l:List U,ld (λp q=>AE σ p σ q) l l:=λl=>by
  induction l with
  | nil=>exact .nil
  | cons p l ih=>exact .cons (AE.refl p σ) ih
 have:ld (λp q=>AE σ p σ q) (bM u.ths i k p (q.map f) s u.ths[k]) (bM u.ths i k p (q.map f') s u.ths[k]):=by
  unfold bM;exact((refl _).app (.cons (AE.refl p σ) (.cons (hq σ) .nil))).app (refl _)
 have key:∀{ps us:List U},ld (λp q=>AE σ p σ q) ps us->AE σ (T.parL ps) σ (T.parL us):=by
  intro ps us h
  induction h with
  | nil=>trivial
  | cons h k ih=>
   cases k with
   | nil=>exact h
   | cons h' k'=>exact⟨h,ih⟩
 exact key this
theorem cP {l:List U}{k:Nat}(h:k< l.length):l.getD k .nil=l[k]:=by simp [List.getD,h]
theorem Gl (w:World)(ok:mO t)(su:SU t u):∀v∈gY u,Nu v/\v.smp=true:=by
 intro v G;unfold gY E0 at G;obtain⟨i,hi,G⟩:=PE.1 G;rw [Qc]at hi;rw [cP hi]at G;obtain⟨o,ho,G⟩:=PE.1 G;cases o with
 | tau p=>cases OO.1 G;exact H7 ok su hi ho
 | rcv=>cases G
 | snd c d p=>
  obtain⟨k,H,G⟩:=PE.1 G;rw [Qc]at H;unfold E2 at G;split at G
  ·cases G
  ·rename_i V;rw [cP H]at G;obtain⟨r,hr,G⟩:=PE.1 G;cases r with
   | tau=>cases G
   | snd=>cases G
   | rcv e x q s=>
    have G:v∈(if e=c then [Gj u i k p (q.map (Ff (NN u) q x d)) s]else []):=G;by_cases J:e=c
    ·rw [Pj J]at G;cases OO.1 G;unfold Gj;rw [cP H];have W:=OP H;have Z:=su.ly H (aZ (su.smp _ W) _ hr).1 (gH _ hr);exact sM w ok su hi H V ho hr (Dd (NN u) d Z.lQ) su.bound (by unfold NN;omega)
    ·rw [O1 J]at G;cases G
end
theorem Ht:∀l:List U,(tp l).bvs=l.flatMap λs=>(td s).1++(td s).2.bvs
 | []=>rfl
 | u::l=>by simp only [tp,Lv.bvs,Qh,Ht l,Pv]
theorem Me:∀u:U,BV u=u.mX.flatMap BV:=by
 intro u
 induction u with
 | sum p q H G=>simp only [BV,T.mX,Qh];rw [<-G]
 | _=>simp [T.mX]
theorem Is:∀(n:Nat) {u:U},u.size<=n->Uq u->u.Nr->(td u).1++(td u).2.bvs=BV u
 | 0,u,h,_,_=>by cases u<;>simp [T.size]at h
 | n+1,u,h,G,nr=>by
  have H:=λ{p:U} (hp:p.size<=n) (G:Uq p) (nr:p.Nr)=>Is n hp G nr
  have e:=jh G nr;cases u with
  | nil=>rw [e];rfl
  | snd a b p=>rw [e];have :=H (by simp only [T.size]at h;omega) G.snd nr;simpa [frL,T.ths,tl,Lv.bvs,BV]using this
  | mat a b p=>rw [e];have :=H (by simp only [T.size]at h;omega) G.mat nr.2;simpa [frL,T.ths,tl,Lv.bvs,BV]using this
  | tau p=>rw [e];have :=H (by simp only [T.size]at h;omega) G.tau nr;simpa [frL,T.ths,tl,Lv.bvs,BV]using this
  | rep p=>rw [e];have :=H (by simp only [T.size]at h;omega) G.rep nr.2;simpa [frL,T.ths,tl,Lv.bvs,BV]using this
  | rcv a x p=>rw [e];have :=H (by simp only [T.size]at h;omega) G.rcv nr;simp only [frL,T.ths,tl,Lv.bvs,BV,Qw,Po,PG,this];rfl
  | res x p=>
   have :=H (by simp only [T.size]at h;omega) G.res nr.2;rw [jh G.res nr.2]at this;rw [e];simp only [frL,T.ths,BV,PI];rw [<-this]
  | par p q=>
   simp only [T.size]at h;have V:=H (p:=p) (by omega) G.gz nr.2.1;have h2:=H (p:=q) (by omega) G.fU nr.2.2;rw [jh G.gz nr.2.1,iO nr.1.1,nR nr.1.1]at V;have h0:q.frL=[]:=by
    rcases nr.1.2 with h | h
    ·exact iO h
    ·cases q<;>first | rfl | (cases h;done)
   rw [jh G.fU nr.2.2,h0]at h2;simp only [PG]at V h2;rw [e];simp only [frL,T.ths,BV,PG];rw [show p::q.ths=[p]++q.ths from rfl,ik,Lv.dB,V,h2]
  | sum p q=>
   simp only [T.size]at h;rw [e];simp only [frL,T.ths,tl,Lv.bvs,PG,Po];rw [eQ G.eD nr.2.1 nr.1.1,eQ G.dS nr.2.2 nr.1.2.1,gF nr.1.2.2];rw [Ht,Me (.sum p q)];have key:∀s∈[p]++q.mX,(td s).1++(td s).2.bvs=BV s:=by
    intro s J;rcases OS.1 J with J | J
    ·cases OO.1 J;exact H (by omega) G.eD nr.2.1
    ·have:∀q:U,Uq q->q.Nr->∀s∈q.mX,s.size<=q.size/\Uq s/\s.Nr:=by
      intro q
      induction q with
      | sum p q _ H=>
       intro G nr s J;rcases O4.1 J with rfl | J
       ·exact⟨by simp only [T.size];omega,G.eD,nr.2.1⟩
       ·obtain⟨k1,W,Z⟩:=H G.dS nr.2.2 s J;exact⟨by simp only [T.size];omega,W,Z⟩
      | _=>intro G nr s J;cases OO.1 J;exact⟨OQ _,G,nr⟩
     obtain⟨k1,W,Z⟩:=this q G.dS nr.2.2 s J;exact H (by omega) W Z
   have fm:∀l:List U,(∀s∈l,(td s).1++(td s).2.bvs=BV s)->(l.flatMap λs=>(td s).1++(td s).2.bvs)=l.flatMap BV:=by
    intro l
    induction l with
    | nil=>intro _;rfl
    | cons s l H=>intro h;rw [Qh,Qh,h s (by simp),H λx hx=>h x (by simp [hx])]
   exact fm _ key
theorem BW:∀{K:List U},(∀t∈K,t.th=true/\Uq t/\t.Nr)->joinL (K.map td)=([],tl K)
 | [],_=>rfl
 | t::K,h=>by
  obtain⟨G,h2,H⟩:=h t (by simp);simp only [Pk,joinL];rw [BW (K:=K) λx J=>h x (by simp [J]),jh h2 H,iO G,nR G,show t::K=[t]++K from rfl,ik];rfl
theorem Fo (O:List Nat){K:List U}(G:∀t∈K,t.th=true/\Uq t/\t.Nr){zs:List ((List Nat×Lv)×U)}(V:∀z∈zs,Pc z.1 z.2):Lv.tidy (O++(joinL (zs.map (·.1))).1) ((tl K).app (joinL (zs.map (·.1))).2)=td (resL O (parL (K++zs.map (·.2)))):=by
 have h:=B2 (own:=O) (Pc.join (zs:=K.map (λt=>(td t,t))++zs) λz H=>by
  rcases OS.1 H with h | h
  ·obtain⟨t,J,rfl⟩:=Pw.1 h;exact Pc.nr (G t J).2.1 (G t J).2.2
  ·exact V z h)
 rw [PH,PH,Qv,Qv,pY]at h;have W:K.map ((λz:(List Nat×Lv)×U=>z.1)∘λt=>(td t,t))=K.map td:=rfl;have Z:K.map ((λz:(List Nat×Lv)×U=>z.2)∘λt=>(td t,t))=K:=List.map_id K;rw [W,Z,BW G]at h;exact h
theorem HZ:∀{l:List U},(∀t∈l,t.th=true)->(tl l).bB=l.map λt=>tl [t]
 | [],_=>rfl
 | t::l,h=>by
  have G:=h t (by simp);have H:=HZ (l:=l) λx J=>h x (by simp [J])
  cases t<;>first | (cases G;done) | simp only [tl,Lv.bB,H,Pk]
theorem zu {X Y:Type}(f:X->Y)(P:Nat->Bool):∀(l:List X) (k:Nat),kG P (l.map f) k=(kG P l k).map f
 | [],k=>by rw [QL,kE,kE];rfl
 | x::l,k=>by
  rw [Pk,cy,cy,zu f P l (k+1)];split<;>simp
theorem DG:∀l:List U,elsL (l.map λt=>tl [t])=tl l
 | []=>rfl
 | t::l=>by rw [Pk,elsL,DG l,<-ik];rfl
theorem Mi {l:List U}(h:∀t∈l,t.th=true)(P:Nat->Bool):elsL (kG P (tl l).bB 0)=tl (kG P l 0):=by
 rw [HZ h,zu,DG]
theorem Ki {O:List Nat}{ts G:List U}(h:ts.Perm G)(n:Nu (resL O (parL ts))):Nu (resL O (parL G)):=by
 have H:(BV (resL O (parL ts))).Perm (BV (resL O (parL G))):=by
  rw [gD,gD,gK,gK];exact(PW _).append (h.flatMap_right _)
 have V:∀z,(resL O (parL G)).Fr z->(resL O (parL ts)).Fr z:=λz J=>by
  obtain⟨W,h2⟩:=fE.1 J;obtain⟨t,Z,J⟩:=mM.1 h2;exact fE.2 ⟨W,mM.2 ⟨t,h.symm.subset Z,J⟩⟩
 have α:∀z,(resL O (parL G)).Us z->(resL O (parL ts)).Us z:=λz J=>by
  obtain⟨W,h2⟩:=jZ.1 J;obtain⟨t,Z,J⟩:=sL.1 h2;exact jZ.2 ⟨W,sL.2 ⟨t,h.symm.subset Z,J⟩⟩
 exact⟨⟨H.nodup_iff.1 n.uq.nd,λx hx hf=>n.uq.nf x (H.symm.subset hx) (V x hf)⟩,λy hy=>n.fr y (α y hy),λx hx=>n.bv x (H.symm.subset hx)⟩
theorem FC {ths:List U}{i k:Nat}(hi:i< ths.length)(H:k< ths.length)(G:i≠k)(p q:U):(wo ths i i++[p,q]).Perm (bM ths i k p q true ths[k]):=by
 unfold bM;have h:=Jj ths i k hi H G;refine(h.append (PW _)).trans ?_;rw [Pj rfl,Pv,Pv];exact(PW _).append QV
end Go.Proofs.YtdecokaadekjnaaGreat
namespace Go.Proofs.YtdecokaadekjnaaGreat
open Go Go.RowKit T Classical
def St (s:Tx):Prop:=∃t,mO t/\t.text=s
theorem mO.uniq {t G:P}(a:mO t)(b:mO G)(h:t.text=G.text):t=G:=fT a.al.wf b.al.wf h
noncomputable def sO (s:Tx):Option (List Tx):=if h:St s then qp (num h.choose e0 0).1 else none
theorem Dh {t:P}(ok:mO t):sO t.text=qp (num t e0 0).1:=by
 have h:St t.text:=⟨t,ok,rfl⟩
 unfold sO;rw [dif_pos h,(h.choose_spec.1).uniq ok h.choose_spec.2]
theorem CY {u:U}(h:Nu u)(G:u.smp=true){s:Tx}(e:kL u=some s):St s:=by
 obtain⟨t,v,n⟩:=IX h e;exact⟨t,n.Ow h G,n.text⟩
theorem Hv (w:World){s:Tx}{l:List Tx}(h:sO s=some l):∀x∈l,St x:=by
 unfold sO at h;split at h
 ·rename_i G;have ok:=G.choose_spec.1;generalize G.choose=t at ok h;have su:=ok.su;generalize (num t e0 0).1=u at su h;unfold qp at h;split at h
  ·rename_i W;cases h;intro x H;rw [Ma,(aR _).mem_iff]at H;obtain⟨v,J,rfl⟩:=Pw.1 H;obtain⟨Z,h2⟩:=Gl w ok su v J;have V:=QN.1 W v J;cases e:kL v with
   | none=>rw [e]at V;cases V
   | some y=>exact CY Z h2 e
  ·cases h
 ·cases h
def M0 (s:Tx):Prop:=∃t:P,t.Al (λc=>lt c=true)/\t.text=s/\dG s/\t.smp=true
noncomputable def bX (s:Tx):Option Tx:=if h:M0 s then kL (num h.choose e0 0).1 else none
theorem qI {t:P}(al:t.Al λc=>lt c=true)(g:dG t.text)(G:t.smp=true):bX t.text=kL (num t e0 0).1:=by
 have h:M0 t.text:=⟨t,al,rfl,g,G⟩
 unfold bX;rw [dif_pos h,fT h.choose_spec.1.wf al.wf h.choose_spec.2.1]
theorem iI {s:Tx}(h:¬M0 s):bX s=none:=by unfold bX;rw [dif_neg h]
theorem js {s n:Tx}(h:bX s=some n):St n:=by
 unfold bX at h;split at h
 ·rename_i G;exact CY (lP G.choose_spec.1) ((uW (lJ G.choose_spec.1)).symm.trans G.choose_spec.2.2.2) h
 ·cases h
theorem mO.good {t:P}(ok:mO t):dG t.text:=⟨ok.len,t,ok.al,rfl,ok.size⟩
theorem qV {t:P}(ok:mO t):bX t.text=some t.text:=(qI ok.al ok.good ok.smp).trans ok.nf
def iu (a:List Tx)(s:Tx):List Tx:=if s∈a then a else a++[s]
def bc (a l:List Tx):List Tx:=l.foldl iu a
theorem ft {a l:List Tx}{i:Nat}(h:i< l.length):bc a (l.take (i+1))=iu (bc a (l.take i)) l[i]:=by
 unfold bc;rw [OK h,List.foldl_append];rfl
theorem Hu {a:List Tx}{s:Tx}:a<+:iu a s:=by
 unfold iu;split
 ·exact Ry _
 ·exact Sb _ _
theorem pz:∀{l a:List Tx},a<+:bc a l
 | [],_=>Ry _
 | s::l,a=>Hu.trans (pz (l:=l) (a:=iu a s))
theorem cY:∀{l a:List Tx} {x:Tx},x∈bc a l↔x∈a\/x∈l
 | [],_,_=>by simp [bc]
 | s::l,a,x=>by
  have e:bc a (s::l)=bc (iu a s) l:=rfl;rw [e,cY (l:=l)];unfold iu;split
  ·rename_i h;constructor
   ·rintro(G | G)
    ·exact .inl G
    ·exact .inr (OZ _ G)
   ·rintro(G | G)
    ·exact .inl G
    ·rcases O4.1 G with rfl | G
     ·exact .inl h
     ·exact .inr G
  ·simp only [OS,O4,QE,Q6];exact RF
theorem ic:∀(l a:List Tx),(bc a l).length<=a.length+l.length
 | [],_=>OQ _
 | s::l,a=>by
  have e:bc a (s::l)=bc (iu a s) l:=rfl;have h:=ic l (iu a s);rw [e];have:(iu a s).length<=a.length+1:=by
   unfold iu;split<;>simp
  simp only [OF];omega
noncomputable def bfs:Nat->List Tx->Nat->Option (List Tx)
 | 0,_,_=>none
 | f+1,all,i=>if h:i< all.length then(match sO all[i]with
   | none=>none
   | some l=>if 60< (bc all l).length then none else bfs f (bc all l) (i+1))else some all
noncomputable def aV (s:Tx):Option (List Tx):=(bX s).bind λn=>bfs 62 [n] 0
theorem Ev {all:List Tx}{i:Nat}(H:all.length<=60)(h:¬i< all.length)(hi:i<=all.length):bfs (62 - i) all i=some all:=by
 obtain⟨k,G⟩:∃k,62 - i=k+1:=⟨61 - i,by omega⟩
 rw [G];unfold bfs;rw [dif_neg h]
theorem Au {all:List Tx}{i:Nat}(J:all.length<=60)(h:i< all.length)(G:sO all[i]=none):bfs (62 - i) all i=none:=by
 obtain⟨k,H⟩:∃k,62 - i=k+1:=⟨61 - i,by omega⟩
 rw [H];unfold bfs;rw [dif_pos h,G]
theorem EV {all l:List Tx}{i:Nat}(J:all.length<=60)(h:i< all.length)(G:sO all[i]=some l)(hb:60< (bc all l).length):bfs (62 - i) all i=none:=by
 obtain⟨k,H⟩:∃k,62 - i=k+1:=⟨61 - i,by omega⟩
 rw [H];unfold bfs;rw [dif_pos h,G];simp only;rw [Pj hb]
theorem zP {all l:List Tx}{i:Nat}(J:all.length<=60)(h:i< all.length)(G:sO all[i]=some l)(hb:¬60< (bc all l).length):bfs (62 - i) all i=bfs (62 - (i+1)) (bc all l) (i+1):=by
 have H:62 - i=(62 - (i+1))+1:=by omega
 rw [H];conv=>lhs;unfold bfs
 rw [dif_pos h,G];simp only;rw [O1 hb]
def Off.over {A:Type}(k:UInt8):Off A->Option A
 | .tau _=>none
 | .snd a _ _=>if k=33 then some a else none
 | .rcv a _ _ _=>if k=63 then some a else none
def NH (k:UInt8)(t:P)(c:UInt8):Prop:=c∉t.frL/\∃p∈t.ths,∃o∈offs p,o.over k=some c
noncomputable def Fy (k:UInt8)(t:P):Tx:=nA.filter λc=>decide (NH k t c)
noncomputable def lR (k:UInt8)(s:Tx):Tx:=if h:St s then Fy k h.choose else []
theorem y7 {k:UInt8}{t:P}(ok:mO t):lR k t.text=Fy k t:=by
 have h:St t.text:=⟨t,ok,rfl⟩
 unfold lR;rw [dif_pos h,(h.choose_spec.1).uniq ok h.choose_spec.2]
theorem pK {c:UInt8}:c∈nA↔lt c=true:=by
 refine⟨Io,λh=>?_⟩;have :=bj h;refine Pw.2 ⟨c.toNat - 97,Qc.2 (by omega),Pe.1 ?_⟩;rw [PT];omega
theorem pO {A:Type}{c:Prop}[Decidable c]{x a:A}(h:(if c then some x else none)=some a):x=a:=by
 by_cases hc:c
 ·rw [Pj hc]at h;exact Pz h
 ·rw [O1 hc]at h;cases h
theorem sQ {A:Type}{k:UInt8}{o:Off A}{a:A}(h:o.over k=some a):o.tm.Fr a:=by
 cases o with
 | tau p=>cases h
 | snd c b p=>exact .inl (pO (c:=k=33) h).symm
 | rcv c x p s=>exact .inl (pO (c:=k=63) h).symm
theorem DD {A B:Type}[DecidableEq A][DecidableEq B]{ρ:A->Nat}{σ:B->Nat}{k:UInt8}{o:Off A}{r:Off B}(h:ri ρ σ o r):(o.over k=none/\r.over k=none)\/∃a b,o.over k=some a/\r.over k=some b/\ρ a=σ b:=by
 cases o<;>cases r<;>try exact h.elim
 ·exact .inl ⟨rfl,rfl⟩
 ·unfold Off.over;by_cases e:k=33
  ·right;exact⟨_,_,Pj e,Pj e,h.1⟩
  ·left;exact⟨O1 e,O1 e⟩
 ·unfold Off.over;by_cases e:k=63
  ·right;exact⟨_,_,Pj e,Pj e,h.1⟩
  ·left;exact⟨O1 e,O1 e⟩
theorem KV {t:P}{u:U}(su:SU t u){k:UInt8}{c:UInt8}:NH k t c↔∃z,z∉u.frL/\z< 26/\c=ρ0 z/\∃q∈u.ths,∃o∈offs q,o.over k=some z:=by
 have hl:=su.two.len;constructor
 ·rintro⟨hc,p,hp,o,ho,e⟩
  obtain⟨i,hi,rfl⟩:=PD.1 hp;have H:i< u.ths.length:=by omega
  obtain⟨r,hr,J⟩:=(jN (su.two.get hi H)).Lg ho;rcases DD (k:=k) J with⟨V,_⟩ | ⟨a,b,V,h2,G⟩
  ·rw [V]at e;cases e
  ·rw [V]at e;cases e;have hm:=OP H;obtain⟨sub,_⟩:=aZ (su.smp _ hm) _ hr;have W:∃q∈u.ths,q.Fr b:=⟨_,hm,sub.fr b (sQ h2)⟩
   have G:c=asg u.frL t.frL ρ0 b:=Pe.1 G;by_cases hb:b∈u.frL
   ·exact absurd (G▸fK u.frL t.frL ρ0 b hb su.len) hc
   ·rw [bV _ _ _ _ hb]at G;have Z:=(su.free b W).resolve_left hb;exact⟨b,hb,Z.1,G,_,hm,r,hr,h2⟩
 ·rintro⟨z,Z,β,rfl,q,hq,r,hr,e⟩
  obtain⟨i,H,rfl⟩:=PD.1 hq;have hi:i< t.ths.length:=by omega
  obtain⟨o,ho,J⟩:=(jN (su.two.get hi H)).Fx hr;rcases DD (k:=k) J with⟨_,V⟩ | ⟨a,b,V,h2,G⟩
  ·rw [V]at e;cases e
  ·rw [h2]at e;cases e;obtain⟨sub,_⟩:=aZ (su.smp _ hq) _ hr;have W:∃q∈u.ths,q.Fr z:=⟨_,hq,sub.fr z (sQ h2)⟩
   have G:a=asg u.frL t.frL ρ0 z:=Pe.1 G;rw [bV _ _ _ _ Z]at G;have α:=(su.free z W).resolve_left Z;exact⟨α.2,_,OP hi,o,ho,by rw [V,G]⟩
theorem HS {t:P}{u:U}(su:SU t u){k c:UInt8}(h:NH k t c):lt c=true:=by
 obtain⟨z,_,h2,rfl,_⟩:=(KV su).1 h;exact Ey h2
theorem EF {t:P}{u:U}(su:SU t u){k c:UInt8}:c∈Fy k t↔NH k t c:=by
 unfold Fy;rw [QK,OW,pK];exact⟨λh=>h.2,λh=>⟨HS su h,h⟩⟩
theorem jM:nA.Pairwise (· < ·):=by
 unfold nA;decide
theorem Jx (k:UInt8)(t:P):(Fy k t).Pairwise (· < ·):=jM.filter _
theorem uD:∀{a b:Tx},a.Pairwise (· < ·)->b.Pairwise (· < ·)->(∀c,c∈a↔c∈b)->a=b
 | [],[],_,_,_=>rfl
 | [],y::b,_,_,h=>by have :=(h y).2 (by simp);cases this
 | x::a,[],_,_,h=>by have :=(h x).1 (by simp);cases this
 | x::a,y::b,ha,hb,h=>by
  obtain⟨J,h2⟩:=QX.1 ha;obtain⟨V,h4⟩:=QX.1 hb;have G:x=y:=by
   rcases O4.1 ((h x).1 (by simp))with e | e
   ·exact e
   ·rcases O4.1 ((h y).2 (by simp))with H | H
    ·exact H.symm
    ·exact absurd (UInt8.lt_trans (J y H) (V x e)) (RG _)
  subst G;rw [uD h2 h4 λc=>?_];have :=h c;simp only [O4]at this;constructor
  ·intro hc;rcases this.1 (.inr hc)with rfl | e
   ·exact absurd (J _ hc) (RG _)
   ·exact e
  ·intro hc;rcases this.2 (.inr hc)with rfl | e
   ·exact absurd (V _ hc) (RG _)
   ·exact e
end Go.Proofs.YtdecokaadekjnaaGreat
namespace Go.Proofs.YtdecokaadekjnaaGreat
open Go
attribute [go_sem] Tryz.f101
theorem rK (G:aB)(w:World)(R:aB->Bool->Sl)(h:vc az (bf [] [] []) (ab Tryz.f101) (aj 0 [.s G]) w (fin az [.tmp 2 .s,.tmp 3 .b] R)):
  Sm 101 #[(.string (ai G))] w (an [.s,.b] R):=
 bD Tryz.func101 (by kernel_rfl) h
attribute [go_sem] Tryz.f143
theorem si (G:aB)(w:World)(R:aB->aB->Sl)(h:vc az (bf [(2,[(0,.s),(4,.s)])] [] []) (ab Tryz.f143) (aj 0 [.s G]) w (fin az [.tmp 2 .s,.tmp 3 .s] R)):
  Sm 143 #[(.string (ai G))] w (an [.s,.s] R):=
 bD Tryz.func143 (by kernel_rfl) h
attribute [go_sem] Tryz.f144
theorem po (G:aB)(w:World)(R:Value->Sl)(h:vc az (bf [(5,[(0,.s),(3,.v)])] [] []) (ab Tryz.f144) (aj 0 [.s G]) w (fin az [.tmp 2 .v] R)):
  Sm 144 #[(.string (ai G))] w (an [.v] R):=
 bD Tryz.func144 (by kernel_rfl) h
attribute [go_sem] Tryz.f145
theorem qO (t1:aB)(w:World)(R:Value->Sl)(h:vc az (bf [(13,[(47,.i)])] [] [(4,false,.lt 0 (.lt 2 (.lt 3 (.lt 4 (.lt 5 (.lt 6 (.lt 7 (.one .h 1 (.lt 8 (.one .h 9 (.lt 10 .done))))))))))),(9,false,.lt 0 (.lt 1 (.lt 2 (.lt 4 (.lt 5 (.lt 6 (.one .h 3 (.one .h 7 (.one .h 8 (.lt 9 .done))))))))))]) (ab Tryz.f145) (aj 0 [.s t1]) w (fin az [.tmp 2 .v] R)):
  Sm 145 #[(.string (ai t1))] w (an [.v] R):=
 bD Tryz.func145 (by kernel_rfl) h
attribute [go_sem] Tryz.f152
theorem oV (t1:Value)(i2:Int)(G:Int)(w:World)(R:Value->Sl)(h:vc az (bf [(3,[(7,.v),(12,.i)])] [] []) (ab Tryz.f152) (aj 0 [.v t1,.i i2,.i G]) w (fin az [.tmp 6 .v] R)):
  Sm 152 #[t1,(.int .i64 i2),(.int .i64 G)] w (an [.v] R):=
 bD Tryz.func152 (by kernel_rfl) h
attribute [go_sem] Tryz.f151
theorem uY (f1:aB)(t2:Value)(w:World)(R:aB->Bool->Sl)(h:vc az (bf [(5,[(6,.s),(7,.i)])] [] []) (ab Tryz.f151) (aj 0 [.s f1,.v t2]) w (fin az [.tmp 4 .s,.tmp 5 .b] R)):
  Sm 151 #[(.string (ai f1)),t2] w (an [.s,.b] R):=
 bD Tryz.func151 (by kernel_rfl) h
attribute [go_sem] Tryz.f97
theorem uk (G:Value)(w:World)(R:Value->Sl)(h:vc az (bf [(3,[(3,.v),(9,.i)])] [] []) (ab Tryz.f97) (aj 0 [.v G]) w (fin az [.tmp 2 .v] R)):
  Sm 97 #[G] w (an [.v] R):=
 bD Tryz.func97 (by kernel_rfl) h
theorem ta (p1:aB)(w:World)(R:Value->Bool->Sl)(h:N3 143 #[(.string (ai p1))] w λs2 s3 w4=>wQ 144 #[(.string (ai p1))] w4 λv5 w6=>dO v5 λl8=>EM true (.slice none 0 0) 0 w6 λI10 m11 f12 o13 Z φ=>bC (decide (Z< (l8:Int))) (cJ v5 Z λb16 o17=>qb φ b16 (o17+Z.toNat* 1) λs20=>wQ 145 #[(.string (ai s20))] φ λv21 w22=>dO v21 λl24=>EM f12 o13 0 w22 λI26 m27 f28 ν W ε=>bC (decide (W< (l24:Int))) (cJ v21 W λχ ψ=>∃c36:UInt8,∃c37:UInt8,∃c38:UInt8,∃s39:aB,∃q40:Bool,(World.cell? ε ⟨χ,(ψ+W.toNat* 5),none⟩=some (.int .u8 c36.toNat)/\World.cell? ε ⟨χ,((ψ+W.toNat* 5)+1),none⟩=some (.int .u8 c37.toNat)/\World.cell? ε ⟨χ,(((ψ+W.toNat* 5)+1)+1),none⟩=some (.int .u8 c38.toNat)/\World.cell? ε ⟨χ,((((ψ+W.toNat* 5)+1)+1)+1),none⟩=some (.string (ai s39))/\World.cell? ε ⟨χ,(((((ψ+W.toNat* 5)+1)+1)+1)+1),none⟩=some (.bool q40)/\True)/\cc ε (.cells #[(.int .u8 0),(.int .u8 0),(.int .u8 0),(.string ⟨#[]⟩),(.bool false)] 166) λξ w42=>zC w42 ξ 0 5 [(.int .u8 c36.toNat),(.int .u8 c37.toNat),(.int .u8 c38.toNat),(.string (ai s39)),(.bool q40)] λw43=>∃J44:Bool->Value->Sl,(AV w43 ξ 0 λc45=>bC (decide (c45=126)) (ja w43 λθ w47=>Gd θ ξ 3 λs48=>(wQ 152 #[v5,(.int .i64 Z),(.int .i64 Z)] w47 λv49 w50=>θ w50/\cc w50 (.cells #[(.string (ai s48))] 9) λb51 w52=>θ w52/\iS 9 1 16 w52 v49 (.slice (some ⟨b51,0,none⟩) 1 1) λv58 w59=>θ w59/\CA 151 #[(.string (ai s2)),v58] w59 λs60 q61 w62=>θ w62/\∃J63:Bool->aB->Sl,(bC f28 (J63 q61 s60 w62) (J63 false s60 w62))/\∀(f64:Bool) (n65:aB) (w66:World),J63 f64 n65 w66->cc w66 (.cells #[(.string (ai n65))] 9) λb67 w68=>iS 9 1 16 w68 ν (.slice (some ⟨b67,0,none⟩) 1 1) λv74 w75=>J44 f64 v74 w75)/\(cc w47 (.cells #[(.string (ai s48))] 9) λb76 w77=>θ w77/\wQ 152 #[v5,(.int .i64 Z),(.int .i64 Z)] w77 λv78 w79=>θ w79/\iS 9 1 16 w79 v78 (.slice (some ⟨b76,0,none⟩) 1 1) λv85 w86=>θ w86/\CA 151 #[(.string (ai s2)),v85] w86 λs87 q88 w89=>θ w89/\∃J90:Bool->aB->Sl,(bC f28 (J90 q88 s87 w89) (J90 false s87 w89))/\∀(f91:Bool) (n92:aB) (w93:World),J90 f91 n92 w93->cc w93 (.cells #[(.string (ai n92))] 9) λb94 w95=>iS 9 1 16 w95 ν (.slice (some ⟨b94,0,none⟩) 1 1) λv101 w102=>J44 f91 v101 w102)) (J44 f28 ν w43))/\∀(f103:Bool) (ο:Value) (ι:World),J44 f103 ο ι->AV ι ξ 0 λc106=>bC (!decide (c106=33)) (a7 (W+1)/\I26 f103 ο (W+1) ι/\m27 f103 ο (W+1) ι< m27 f28 ν W ε) (dO v5 λl108=>EM f103 ο 0 ι λI110 ς f112 δ H α=>bC (decide (H< (l108:Int))) (cJ v5 H λb116 o117=>qb α b116 (o117+H.toNat* 1) λs120=>bC (decide (Z=H)) (a7 (H+1)/\I110 f112 δ (H+1) α/\ς f112 δ (H+1) α< ς f112 δ H α) (wQ 145 #[(.string (ai s120))] α λv121 w122=>dO v121 λl124=>EM f112 δ 0 w122 λω ζ f128 V G J=>bC (decide (G< (l124:Int))) (cJ v121 G λκ μ=>∃c136:UInt8,∃c137:UInt8,∃c138:UInt8,∃s139:aB,∃q140:Bool,(World.cell? J ⟨κ,(μ+G.toNat* 5),none⟩=some (.int .u8 c136.toNat)/\World.cell? J ⟨κ,((μ+G.toNat* 5)+1),none⟩=some (.int .u8 c137.toNat)/\World.cell? J ⟨κ,(((μ+G.toNat* 5)+1)+1),none⟩=some (.int .u8 c138.toNat)/\World.cell? J ⟨κ,((((μ+G.toNat* 5)+1)+1)+1),none⟩=some (.string (ai s139))/\World.cell? J ⟨κ,(((((μ+G.toNat* 5)+1)+1)+1)+1),none⟩=some (.bool q140)/\True)/\cc J (.cells #[(.int .u8 0),(.int .u8 0),(.int .u8 0),(.string ⟨#[]⟩),(.bool false)] 166) λη w142=>zC w142 η 0 5 [(.int .u8 c136.toNat),(.int .u8 c137.toNat),(.int .u8 c138.toNat),(.string (ai s139)),(.bool q140)] λβ=>AV β η 0 λc144=>G2 (!decide (c144=63)) (AV β η 1 λc145=>AV β ξ 1 λc146=>bC (!decide (c145=c146)) (a7 (G+1)/\ω f128 V (G+1) β/\ζ f128 V (G+1) β< ζ f128 V G J) (ja β λγ w148=>Gd γ ξ 3 λs149=>Gd γ η 3 λs150=>M6 γ η 2 λc151=>M6 γ ξ 2 λc152=>wQ 152 #[v5,(.int .i64 Z),(.int .i64 H)] w148 λv153 w154=>γ w154/\NT 153 #[(.string (ai s150)),(.int .u8 c151.toNat),(.int .u8 c152.toNat)] w154 λs155 w156=>γ w156/\cc w156 (.cells #[(.string (ai s149)),(.string (ai s155))] 9) λb157 w158=>γ w158/\iS 9 1 16 w158 v153 (.slice (some ⟨b157,0,none⟩) 2 2) λv164 υ=>γ υ/\∃J166:Value->Sl,(Ol υ η 4 λq167=>bC q167 (cc υ (.cells #[(.string (ai s120))] 9) λb168 w169=>iS 9 1 16 w169 v164 (.slice (some ⟨b168,0,none⟩) 1 1) λv175 w176=>J166 v175 w176) (J166 v164 υ))/\∀(l177:Value) (w178:World),J166 l177 w178->CA 151 #[(.string (ai s2)),l177] w178 λs179 q180 w181=>∃J182:Bool->aB->Sl,(bC f128 (J182 q180 s179 w181) (J182 false s179 w181))/\∀(f183:Bool) (n184:aB) (w185:World),J182 f183 n184 w185->cc w185 (.cells #[(.string (ai n184))] 9) λb186 w187=>iS 9 1 16 w187 V (.slice (some ⟨b186,0,none⟩) 1 1) λv193 w194=>a7 (G+1)/\ω f183 v193 (G+1) w194/\ζ f183 v193 (G+1) w194< ζ f128 V G J)) (a7 (G+1)/\ω f128 V (G+1) β/\ζ f128 V (G+1) β< ζ f128 V G J)) (a7 (H+1)/\I110 f128 V (H+1) J/\ς f128 V (H+1) J< ς f112 δ H α))) (a7 (W+1)/\I26 f112 δ (W+1) α/\m27 f112 δ (W+1) α< m27 f28 ν W ε))) (a7 (Z+1)/\I10 f28 ν (Z+1) ε/\m11 f28 ν (Z+1) ε< m11 f12 o13 Z φ)) (bC (!f12) (R (.slice none 0 0) false φ) (wQ 97 #[o13] φ λv195 w196=>R v195 true w196))):
  Sm 102 #[(.string (ai p1))] w (an [.v,.b] R):=
 D5 (bf [(6,[(7,.b),(8,.v),(31,.i)]),(9,[(7,.b),(8,.v),(39,.i)]),(17,[(7,.b),(8,.v),(72,.i)]),(21,[(7,.b),(8,.v),(83,.i)])] [(14,[(7,.b),(13,.s)]),(15,[(7,.b),(8,.v)]),(27,[(19,.v)]),(29,[(7,.b),(20,.s)])] [(12,false,.lt 0 (.lt 1 (.lt 2 (.lt 3 (.lt 5 (.lt 6 (.br .h 4 (.one .h 7 (.one .h 8 (.one .h 9 (.lt 10 (.lt 11 (.lt 12 (.lt 13 (.lt 14 .done)))))))) (.one .h 7 (.one .h 4 (.one .h 8 (.one .h 9 (.lt 10 (.lt 11 (.lt 12 (.lt 13 (.lt 14 .done)))))))))))))))),(24,false,.lt 0 (.lt 1 (.lt 2 (.lt 4 (.lt 5 (.lt 6 (.lt 7 (.lt 8 (.lt 9 (.lt 10 (.lt 11 (.one .h 3 (.one .h 12 (.one .h 13 (.one .h 14 (.lt 15 .done))))))))))))))))]) [.tmp 2 .v,.tmp 3 .b] [.s p1] Tryz.func102 (by kernel_rfl) h
attribute [go_sem] Tryz.f60
theorem sf (G:Value)(s2:aB)(w:World)(R:Int->Sl)(h:vc az (bf [(2,[(9,.i)])] [] []) (ab Tryz.f60) (aj 0 [.v G,.s s2]) w (fin az [.tmp 4 .i] R)):
  Sm 60 #[G,(.string (ai s2))] w (an [.i] R):=
 bD Tryz.func60 (by kernel_rfl) h
theorem rY (p1:aB)(w:World)(R:Value->Bool->Sl)(h:cc w (.cells #[(.slice none 0 0),(.slice none 0 0),(.slice none 0 0)] 49) λb2 w3=>cc w3 (.cells #[(.slice none 0 0),(.slice none 0 0),(.slice none 0 0)] 49) λb4 w5=>zC w5 b4 0 3 [(.slice none 0 0),(.slice none 0 0),(.slice none 0 0)] λw6=>CA 101 #[(.string (ai p1))] w6 λs7 q8 w9=>bC (!q8) (∃v10:Value,∃v11:Value,∃v12:Value,(World.cell? w9 ⟨b4,0,none⟩=some v10/\World.cell? w9 ⟨b4,1,none⟩=some v11/\World.cell? w9 ⟨b4,2,none⟩=some v12/\True)/\zC w9 b2 0 3 [v10,v11,v12] λκ=>∃r14:Value,∃r15:Value,∃r16:Value,(World.cell? κ ⟨b2,0,none⟩=some r14/\World.cell? κ ⟨b2,1,none⟩=some r15/\World.cell? κ ⟨b2,2,none⟩=some r16/\True)/\R (.agg #[r14,r15,r16]) false κ) (cc w9 (.cells #[(.string (ai s7))] 9) λb17 w18=>ay (.slice (some ⟨b17,0,none⟩) 1 1)=true/\fH w18 b4 0 (.slice (some ⟨b17,0,none⟩) 1 1) λw20=>cc w20 (.cells #[(.int .i64 0)] 3) λb21 w22=>ay (.slice (some ⟨b21,0,none⟩) 1 1)=true/\fH w22 b4 1 (.slice (some ⟨b21,0,none⟩) 1 1) λw24=>kH 0 w24 λI25 m26 i27 Z=>bz Z b4 0 λv29=>dO v29 λl31=>bC (decide (i27< (l31:Int))) (bz Z b4 0 λv33=>cJ v33 i27 λb34 o35=>qb Z b34 (o35+i27.toNat* 1) λs38=>yg 102 #[(.string (ai s38))] Z λμ q40 δ=>bC (!q40) (∃v42:Value,∃v43:Value,∃v44:Value,(World.cell? δ ⟨b4,0,none⟩=some v42/\World.cell? δ ⟨b4,1,none⟩=some v43/\World.cell? δ ⟨b4,2,none⟩=some v44/\True)/\zC δ b2 0 3 [v42,v43,v44] λν=>∃r46:Value,∃r47:Value,∃r48:Value,(World.cell? ν ⟨b2,0,none⟩=some r46/\World.cell? ν ⟨b2,1,none⟩=some r47/\World.cell? ν ⟨b2,2,none⟩=some r48/\True)/\R (.agg #[r46,r47,r48]) false ν) (bz δ b4 2 λv49=>ay μ=true/\cc δ (.cells #[μ] 25) λb50 w51=>iS 25 1 24 w51 v49 (.slice (some ⟨b50,0,none⟩) 1 1) λv57 w58=>ay v57=true/\fH w58 b4 2 v57 λw60=>dO μ λl62=>kH 0 w60 λε W G V=>bC (decide (G< (l62:Int))) (cJ μ G λb68 o69=>qb V b68 (o69+G.toNat* 1) λs72=>bz V b4 0 λv73=>I6 60 #[v73,(.string (ai s72))] V λn74 ξ=>bC (decide (n74< 0)) (bz ξ b4 0 λv76=>cc ξ (.cells #[(.string (ai s72))] 9) λb77 w78=>iS 9 1 16 w78 v76 (.slice (some ⟨b77,0,none⟩) 1 1) λv84 w85=>ay v84=true/\fH w85 b4 0 v84 λw87=>ja w87 λH J=>(bz J b4 1 λv90=>H J/\bz J b4 1 λv91=>H J/\cJ v91 i27 λb92 o93=>B5 J b92 (o93+i27.toNat* 1) λn96=>H J/\a7 (n96+1)/\cc J (.cells #[(.int .i64 (n96+1))] 3) λb97 w98=>H w98/\iS 3 1 8 w98 v90 (.slice (some ⟨b97,0,none⟩) 1 1) λο ς=>H ς/\ay ο=true/\fH ς b4 1 ο λζ=>H ζ/\a7 (G+1)/\ε (G+1) ζ/\W (G+1) ζ< W G V)/\(bz J b4 1 λv108=>H J/\cJ v108 i27 λυ φ=>(bz J b4 1 λv113=>H J/\B5 J υ (φ+i27.toNat* 1) λn114=>H J/\a7 (n114+1)/\cc J (.cells #[(.int .i64 (n114+1))] 3) λb115 χ=>H χ/\iS 3 1 8 χ v113 (.slice (some ⟨b115,0,none⟩) 1 1) λψ ω=>H ω/\ay ψ=true/\fH ω b4 1 ψ λη=>H η/\a7 (G+1)/\ε (G+1) η/\W (G+1) η< W G V)/\(B5 J υ (φ+i27.toNat* 1) λn126=>H J/\a7 (n126+1)/\(bz J b4 1 λv127=>H J/\cc J (.cells #[(.int .i64 (n126+1))] 3) λb128 w129=>H w129/\iS 3 1 8 w129 v127 (.slice (some ⟨b128,0,none⟩) 1 1) λv135 w136=>H w136/\ay v135=true/\fH w136 b4 1 v135 λθ=>H θ/\a7 (G+1)/\ε (G+1) θ/\W (G+1) θ< W G V)/\(cc J (.cells #[(.int .i64 (n126+1))] 3) λb139 α=>H α/\bz α b4 1 λv141=>H α/\iS 3 1 8 α v141 (.slice (some ⟨b139,0,none⟩) 1 1) λv147 w148=>H w148/\ay v147=true/\fH w148 b4 1 v147 λι=>H ι/\a7 (G+1)/\ε (G+1) ι/\W (G+1) ι< W G V)))) (a7 (G+1)/\ε (G+1) ξ/\W (G+1) ξ< W G V)) (bz V b4 0 λv151=>dO v151 λl153=>bC (decide (60< (l153:Int))) (∃v155:Value,∃v156:Value,∃v157:Value,(World.cell? V ⟨b4,0,none⟩=some v155/\World.cell? V ⟨b4,1,none⟩=some v156/\World.cell? V ⟨b4,2,none⟩=some v157/\True)/\zC V b2 0 3 [v155,v156,v157] λβ=>∃r159:Value,∃r160:Value,∃r161:Value,(World.cell? β ⟨b2,0,none⟩=some r159/\World.cell? β ⟨b2,1,none⟩=some r160/\World.cell? β ⟨b2,2,none⟩=some r161/\True)/\R (.agg #[r159,r160,r161]) false β) (a7 (i27+1)/\I25 (i27+1) V/\m26 (i27+1) V< m26 i27 Z)))) (∃v162:Value,∃v163:Value,∃v164:Value,(World.cell? Z ⟨b4,0,none⟩=some v162/\World.cell? Z ⟨b4,1,none⟩=some v163/\World.cell? Z ⟨b4,2,none⟩=some v164/\True)/\zC Z b2 0 3 [v162,v163,v164] λγ=>∃r166:Value,∃r167:Value,∃r168:Value,(World.cell? γ ⟨b2,0,none⟩=some r166/\World.cell? γ ⟨b2,1,none⟩=some r167/\World.cell? γ ⟨b2,2,none⟩=some r168/\True)/\R (.agg #[r166,r167,r168]) true γ))):
  Sm 54 #[(.string (ai p1))] w (an [.v,.b] R):=
 D5 (bf [(8,[(7,.i)]),(15,[(53,.i)])] [] [(19,false,.lt 0 (.lt 2 (.lt 4 (.br .h 1 (.one .h 3 (.lt 5 (.one .h 6 (.lt 7 (.one .h 8 (.one .h 9 (.lt 10 (.one .h 11 .done)))))))) (.one .h 3 (.lt 5 (.br .h 1 (.one .h 6 (.lt 7 (.one .h 8 (.one .h 9 (.lt 10 (.one .h 11 .done)))))) (.one .h 6 (.lt 7 (.br .h 1 (.one .h 8 (.one .h 9 (.lt 10 (.one .h 11 .done)))) (.one .h 8 (.one .h 1 (.one .h 9 (.lt 10 (.one .h 11 .done)))))))))))))))]) [.agg 2 49,.tmp 3 .b] [.s p1] Tryz.func54 (by kernel_rfl) h
attribute [go_sem] Tryz.f44
attribute [go_sem] Tryz.f96
theorem sX (G:aB)(H:UInt8)(w:World)(R:aB->Bool->Sl)(h:vc az (bf [(7,[(10,.s),(30,.i)]),(10,[(10,.s),(37,.i)])] [] []) (ab Tryz.f96) (aj 0 [.s G,.c H]) w (fin az [.tmp 4 .s,.tmp 5 .b] R)):
  Sm 96 #[(.string (ai G)),(.int .u8 H.toNat)] w (an [.s,.b] R):=
 bD Tryz.func96 (by kernel_rfl) h
attribute [go_sem] Tryz.f154
theorem rZ (G:aB)(w:World)(R:aB->Bool->Sl)(h:vc az (bf [] [] []) (ab Tryz.f154) (aj 0 [.s G]) w (fin az [.tmp 2 .s,.tmp 3 .b] R)):
  Sm 154 #[(.string (ai G))] w (an [.s,.b] R):=
 bD Tryz.func154 (by kernel_rfl) h
attribute [go_sem] Tryz.f155
theorem nQ (G:aB)(w:World)(R:aB->Bool->Sl)(h:vc az (bf [] [] []) (ab Tryz.f155) (aj 0 [.s G]) w (fin az [.tmp 2 .s,.tmp 3 .b] R)):
  Sm 155 #[(.string (ai G))] w (an [.s,.b] R):=
 bD Tryz.func155 (by kernel_rfl) h
attribute [go_sem] Tryz.f103
theorem rO (G:aB)(w:World)(R:aB->aB->Sl)(h:vc az (bf [] [] []) (ab Tryz.f103) (aj 0 [.s G]) w (fin az [.tmp 2 .s,.tmp 3 .s] R)):
  Sm 103 #[(.string (ai G))] w (an [.s,.s] R):=
 bD Tryz.func103 (by kernel_rfl) h
attribute [go_sem] Tryz.f89
attribute [go_sem] Tryz.f45
attribute [go_sem] Tryz.f13
end Go.Proofs.YtdecokaadekjnaaGreat
namespace Go.Proofs.YtdecokaadekjnaaGreat
open Go Go.RowKit T Classical
theorem ID (t:P):t.ev T.gd1=t.parts.all λq=>(!decide (t.kind=43)||q.gp)&&q.ev T.gd1:=by
 rw [uM];cases t<;>simp [T.gd1,T.parts,T.kind]
 case sum p q=>
  cases p.gp<;>cases q.gp<;>cases p.ev T.gd1<;>cases q.ev T.gd1<;>rfl
theorem IT (t:P):t.ev T.rp1=t.parts.all λq=>(!decide (t.kind=42)||q.isR)&&q.ev T.rp1:=by
 rw [uM];cases t<;>simp [T.rp1,T.parts,T.kind]
theorem EW (q:P):decide (q.kind∈([33,63,126,43,48]:Tx))=q.gp:=by cases q<;>simp [T.kind,T.gp]
theorem AG (q:P):decide (q.kind=63)=q.isR:=by cases q<;>rfl
theorem Ba {X:Type}{l:List X}{f:X->Bool}{k:Nat}(h:k< l.length):(l.take (k+1)).all f=((l.take k).all f&&f l[k]):=by
 rw [OK h,Rl];simp
theorem all_false {X:Type}{l:List X}{f:X->Bool}{k:Nat}(h:k< l.length)(G:f l[k]=false):l.all f=false:=by
 rw [List.all_eq_false];exact⟨_,OP h,by rw [G];simp⟩
theorem Bs:∀(n:Nat) {t:P},t.size<=n->Ok t->∀{w:World} {R:Bool->Sl},(∀w',Ex w w'->R (t.ev T.gd1) w')->Sm 112 #[.string (ai t.text)] w (an [.b] R):=by
 intro n
 induction n with
 | zero=>intro t h;have :=a8 t;omega
 | succ n ih=>
  intro t hn ok w R h;refine pS _ w R ?_;dsimp only [go_sem];dsimp only [go_sem,UInt8.reduceOfNat,UInt32.reduceOfNat,Nat.reduceAdd];refine de ok λv w3 α hs=>?_
  obtain⟨a,cap,hv⟩:=hs.slice;rw [O8]at hv;rw [ID]at h;refine⟨a,t.parts.length,cap,hv,λx w'=>Ex w3 w'/\∃k:Nat,x=k/\k<=t.parts.length/\(t.parts.take k).all (λq=>(!decide (t.kind=43)||q.gp)&&q.ev T.gd1)=true,λx _=>((t.parts.length:Int) - x).toNat,⟨Ex.refl _,0,rfl,by omega,rfl⟩,λx w4 hI=>?_⟩;obtain⟨H,k,rfl,hk,J⟩:=hI;refine⟨λhc=>?_,λhc=>?_⟩
  ·have G:k< t.parts.length:=by simpa using hc
   have Z:t.parts[k]∈t.parts:=OP G;have β:=ok.parts _ Z;have γ:=eA Z;refine hs.get H (i:=k) (by omega) (x:=(t.parts[k]).text) (by simp [G]) ?_;have key:∀{w':World},Ex w3 w'->(!decide (t.kind=43)||t.parts[k].gp)=true->∀V,Ex w' V->((!t.parts[k].ev T.gd1)=true->R false V)/\((!t.parts[k].ev T.gd1)=false->a7 ((k:Int)+1)/\(Ex w3 V/\∃j:Nat,(k:Int)+1=j/\j<=t.parts.length/\(t.parts.take j).all (λq=>(!decide (t.kind=43)||q.gp)&&q.ev T.gd1)=true)/\((t.parts.length:Int) - ((k:Int)+1)).toNat< ((t.parts.length:Int) - k).toNat):=λ{w'} x1 hg V x2=>by
    have hx:=Ex.trans x1 x2;refine⟨λW=>?_,λW=>⟨by unfold a7;have :=dY t;omega,⟨hx,k+1,by omega,G,?_⟩,by omega⟩⟩
    ·have :=h V (Ex.trans α hx);rw [all_false G (by rw [hg];simpa using W)]at this;exact this
    ·rw [Ba G,J,hg];simpa using W
   refine aO ok ⟨λhc=>aO β (iR (by simp) ⟨λW=>?_,λW=>?_⟩),λhc=>?_⟩
   ·rw [EW]at W;have hg:t.parts[k].gp=true:=by simpa using W
    exact ih (by omega) β λV x5=>key H (by rw [hg];simp) V x5
   ·rw [EW]at W;have hg:t.parts[k].gp=false:=by simpa using W
    have :=h w4 (Ex.trans α H);rw [all_false G (by rw [hc,hg];rfl)]at this;exact this
   ·exact ih (by omega) β λV x5=>key H (by rw [hc];rfl) V x5
  ·have G:k=t.parts.length:=by simp at hc;omega
   subst G;rw [Pa]at J;have :=h w4 (Ex.trans α H);rw [J]at this;exact this
theorem Dn:∀(n:Nat) {t:P},t.size<=n->Ok t->∀{w:World} {R:Bool->Sl},(∀w',Ex w w'->R (t.ev T.rp1) w')->Sm 113 #[.string (ai t.text)] w (an [.b] R):=by
 intro n
 induction n with
 | zero=>intro t h;have :=a8 t;omega
 | succ n ih=>
  intro t hn ok w R h;refine qH _ w R ?_;dsimp only [go_sem];dsimp only [go_sem,UInt8.reduceOfNat,UInt32.reduceOfNat,Nat.reduceAdd];refine de ok λv w3 α hs=>?_
  obtain⟨a,cap,hv⟩:=hs.slice;rw [O8]at hv;rw [IT]at h;refine⟨a,t.parts.length,cap,hv,λx w'=>Ex w3 w'/\∃k:Nat,x=k/\k<=t.parts.length/\(t.parts.take k).all (λq=>(!decide (t.kind=42)||q.isR)&&q.ev T.rp1)=true,λx _=>((t.parts.length:Int) - x).toNat,⟨Ex.refl _,0,rfl,by omega,rfl⟩,λx w4 hI=>?_⟩;obtain⟨H,k,rfl,hk,J⟩:=hI;refine⟨λhc=>?_,λhc=>?_⟩
  ·have G:k< t.parts.length:=by simpa using hc
   have Z:t.parts[k]∈t.parts:=OP G;have β:=ok.parts _ Z;have γ:=eA Z;refine hs.get H (i:=k) (by omega) (x:=(t.parts[k]).text) (by simp [G]) ?_;have key:∀{w':World},Ex w3 w'->(!decide (t.kind=42)||t.parts[k].isR)=true->∀V,Ex w' V->((!t.parts[k].ev T.rp1)=true->R false V)/\((!t.parts[k].ev T.rp1)=false->a7 ((k:Int)+1)/\(Ex w3 V/\∃j:Nat,(k:Int)+1=j/\j<=t.parts.length/\(t.parts.take j).all (λq=>(!decide (t.kind=42)||q.isR)&&q.ev T.rp1)=true)/\((t.parts.length:Int) - ((k:Int)+1)).toNat< ((t.parts.length:Int) - k).toNat):=λ{w'} x1 hg V x2=>by
    have hx:=Ex.trans x1 x2;refine⟨λW=>?_,λW=>⟨by unfold a7;have :=dY t;omega,⟨hx,k+1,by omega,G,?_⟩,by omega⟩⟩
    ·have :=h V (Ex.trans α hx);rw [all_false G (by rw [hg];simpa using W)]at this;exact this
    ·rw [Ba G,J,hg];simpa using W
   refine aO ok ⟨λhc=>aO β ⟨λW=>?_,λW=>?_⟩,λhc=>?_⟩
   ·rw [AG]at W;have hg:t.parts[k].isR=true:=by simpa using W
    exact ih (by omega) β λV x5=>key H (by rw [hg];simp) V x5
   ·rw [AG]at W;have hg:t.parts[k].isR=false:=by simpa using W
    have :=h w4 (Ex.trans α H);rw [all_false G (by rw [hc,hg];rfl)]at this;exact this
   ·exact ih (by omega) β λV x5=>key H (by rw [hc];rfl) V x5
  ·have G:k=t.parts.length:=by simp at hc;omega
   subst G;rw [Pa]at J;have :=h w4 (Ex.trans α H);rw [J]at this;exact this
theorem Dp {t:P}(ok:Ok t){w:World}{R:Bool->Sl}(h:∀w',Ex w w'->R t.smp w'):Sm 66 #[.string (ai t.text)] w (an [.b] R):=by
 refine qy _ w R ?_;dsimp only [go_sem];dsimp only [go_sem,UInt8.reduceOfNat,UInt32.reduceOfNat,Nat.reduceAdd];refine Bs _ (OQ _) ok λw1 H=>⟨λG=>?_,λG=>?_⟩
 ·refine Dn _ (OQ _) ok λw2 J=>?_
  have :=h w2 (Ex.trans H J);rw [eL,G,QC]at this;exact this
 ·have :=h w1 H;rw [eL,G,Sf]at this;exact this
theorem xi {p:Tx}:(∃t:P,Good t/\t.text=p)↔∃t:P,t.Al (λc=>lt c=true)/\t.text=p/\dG p:=by
 constructor
 ·rintro⟨t,h,rfl⟩
  exact⟨t,jF.1 h.lw,rfl,mi.1 ⟨t,h,rfl⟩⟩
 ·rintro⟨t,H,rfl,G⟩
  exact mi.2 G
theorem HG {t:P}(h:t.Al λc=>lt c=true)(g:dG t.text):Ok t:=⟨h.wf,by have :=g.1;omega⟩
theorem JG {t:P}(h:t.Al λc=>lt c=true)(g:dG t.text):t.size<=60:=by
 obtain⟨_,J,G,h2,H⟩:=g;have :=fT G.wf h.wf h2;subst this;exact H
theorem MH {p:Tx}{w:World}{R:Bool->Sl}(h:∀b w',Ex w w'->(b=true->∃t:P,t.Al (λc=>lt c=true)/\t.text=p/\dG p)->(b=false->¬M0 p)->R b w'):Sm 65 #[.string (ai p)] w (an [.b] R):=
 xu λb w' x hb=>h b w' x (λe=>xi.1 (hb.1 e)) λe ⟨t,G,h2,H,_⟩=>by
  have :=hb.2 (xi.2 ⟨t,G,h2,H⟩);rw [e]at this;cases this
theorem JV {t:P}(h:t.Al λc=>lt c=true)(G:t.smp=false):¬M0 t.text:=fun⟨J,H,h2,_,h4⟩=>by
 have :=fT H.wf h.wf h2;subst this;rw [G]at h4;cases h4
theorem JU {t:P}(h:t.Al λc=>lt c=true)(g:dG t.text):pI 0 t σ0 (num t e0 0).1:=by
 have G:=JG h g;have :=cd t;have nu:=lP h;exact⟨⟨h.wf,by have :=g.1;omega,⟨h.eb 0,by omega⟩,lJ h,λy z _ _ e=>by unfold σ0 at e;omega,nu.uq⟩,λz H J=>absurd J (eM (tw (h.free z H))),nu,λ _ _=>rfl⟩
theorem jg {p:Tx}{w:World}{R:aB->Bool->Sl}(h:∀w',Ex w w'->(∀s,bX p=some s->R s true w')/\(bX p=none->R [] false w')):Sm 101 #[.string (ai p)] w (an [.s,.b] R):=by
 refine rK _ w R ?_;dsimp only [go_sem];dsimp only [go_sem,UInt8.reduceOfNat,UInt32.reduceOfNat,Nat.reduceAdd];refine MH λb w1 J V W=>⟨λhb=>?_,λhb=>?_⟩
 ·have hb:b=true:=by simpa using hb
  obtain⟨t,H,rfl,Z⟩:=V hb;refine Dp (HG H Z) λw2 x2=>⟨λG=>?_,λG=>?_⟩
  ·have G:t.smp=false:=by simpa using G
   exact(h w2 (Ex.trans J x2)).2 (iI (JV H G))
  ·have G:t.smp=true:=by simpa using G
   refine CQ (JU H Z) λw3 x3=>?_
   have :=h w3 (Ex.trans (Ex.trans J x2) x3);rw [qI H Z G]at this;exact this
 ·have hb:b=false:=by simpa using hb
  exact(h w1 J).2 (iI (W hb))
def T.Gh:P->P
 | .res _ p=>p.Gh
 | t=>t
theorem wY:∀{t:P},Ok t->Ok t.Gh/\t.Gh.ths=t.ths/\t.Gh.frL=[]/\t.Gh.text.length<=t.text.length/\(t.Nr->t.Gh.Nr)
 | .res x p,ok=>by
  have h:=wY (t:=p) (ok.parts p (by simp [T.parts]));refine⟨h.1,h.2.1,h.2.2.1,?_,λn=>h.2.2.2.2 n.2⟩;have :=h.2.2.2.1;show p.Gh.text.length<=(35::x::46::p.text).length;simp only [OF];omega
 | .nil,ok=>⟨ok,rfl,rfl,OQ _,id⟩
 | .snd ..,ok=>⟨ok,rfl,rfl,OQ _,id⟩
 | .rcv ..,ok=>⟨ok,rfl,rfl,OQ _,id⟩
 | .tau ..,ok=>⟨ok,rfl,rfl,OQ _,id⟩
 | .sum ..,ok=>⟨ok,rfl,rfl,OQ _,id⟩
 | .par ..,ok=>⟨ok,rfl,rfl,OQ _,id⟩
 | .mat ..,ok=>⟨ok,rfl,rfl,OQ _,id⟩
 | .rep ..,ok=>⟨ok,rfl,rfl,OQ _,id⟩
theorem DM (t:P):t.frL.length<=t.text.length:=by
 induction t with
 | res x p G=>
  show(x::p.frL).length<=(35::x::46::p.text).length;simp only [OF];omega
 | _=>simp [T.frL]
theorem qR {t:P}(ok:Ok t){w:World}{R:aB->aB->Sl}(h:R t.frL t.Gh.text w):Sm 143 #[.string (ai t.text)] w (an [.s,.s] R):=by
 refine si _ w R ?_;dsimp only [go_sem];dsimp only [go_sem,UInt8.reduceOfNat,UInt32.reduceOfNat,Nat.reduceAdd];refine⟨λs f w'=>w'=w/\∃q:P,s=q.text/\Ok q/\t.frL=f++q.frL/\t.Gh=q.Gh,λs _ _=>s.length,⟨rfl,t,rfl,ok,rfl,rfl⟩,λs f w' J=>?_⟩;obtain⟨rfl,q,rfl,G,H,hb⟩:=J;have hlen:=DM t;have W:=ok.len;refine aO G ⟨λhc=>?_,λhc=>?_⟩
 ·cases q<;>simp [T.kind]at hc
  rename_i x p;have e:(T.res x p).text=35::x::46::p.text:=rfl;rw [e];have V:f.length+1<=t.frL.length:=by
   have :=PS List.length H;simp only [T.frL,OM,OF]at this;omega
  refine⟨⟨by omega,by omega,by simp only [OF];omega⟩,by simp;omega,⟨by omega,by simp only [OF];omega⟩,⟨rfl,p,rfl,G.parts p (by simp [T.parts]),?_,hb⟩,?_⟩
  ·rw [H];show f++(x::p.frL)=(f++[x])++p.frL;simp
  ·show p.text.length< (35::x::46::p.text).length;simp only [OF];omega
 ·have h2:q.frL=[]/\q.Gh=q:=by cases q<;>simp [T.kind]at hc<;>exact⟨rfl,rfl⟩
  rw [h2.1,Po]at H;rw [<-H];rw [hb,h2.2]at h;exact h
theorem q9 {t:P}(ok:Ok t)(n:t.Nr){w:World}{R:Value->Sl}(h:∀v w',Ex w w'->Own w.heap.size w' v (t.ths.map T.text)->R v w'):Sm 144 #[.string (ai t.text)] w (an [.v] R):=by
 refine po _ w R ?_;dsimp only [go_sem];dsimp only [go_sem,UInt8.reduceOfNat,UInt32.reduceOfNat,Nat.reduceAdd];obtain⟨W,β,ν,hbl,ξ⟩:=wY ok;have nb:=ξ n;rw [<-β]at h;refine qR ok ?_;have hl:=W.len;generalize t.Gh=q at*;refine aO W ⟨λhc=>?_,λhc=>?_⟩
 ·cases q<;>simp [T.kind]at hc
  exact h _ w (Ex.refl w) (Own.nil _ _)
 ·have hq:q.th=true\/q.isP=true:=by cases q<;>simp [T.kind,T.th,T.isP,T.frL]at hc ν|-
  refine⟨λs out w'=>Ex w w'/\∃(r:P) (l:List P),s=r.text/\Ok r/\r.Nr/\(r.th=true\/r.isP=true)/\q.ths=l++r.ths/\l.length+r.text.length<=q.text.length/\Own w.heap.size w' out (l.map T.text),λs _ _=>s.length,⟨Ex.refl w,q,[],rfl,W,nb,hq,rfl,by simp,Own.nil _ _⟩,λs out w' hI=>?_⟩;obtain⟨x,r,l,rfl,Z,nr,hr,γ,hl3,ho⟩:=hI;have hpos:1<=r.text.length:=by cases r<;>simp [T.text]
  refine aO Z ⟨λhc=>?_,λhc=>?_⟩
  ·cases r<;>simp [T.kind]at hc
   rename_i a b;refine p9 Z λv1 w1 x1 δ ο=>?_
   have ς:=Ex.trans x x1;refine δ.get (Ex.refl _) (i:=0) (x:=a.text) (by omega) rfl (Q:=λn=>_) λb21 υ ε G=>?_
   have α:Ex w1 υ:=G▸Ex.alloc w1 _;have H:=Ex.trans ς α;refine Own.push ((ho.ex x1).ex α) H.size (Strs.one ε G) (by simp only [O8,OF,OX];omega) λv28 φ χ ζ hg hn=>?_
   have η:=Ex.below H χ;have θ:Strs φ v1 ((T.par a b).parts.map T.text):=by
    refine(δ.ex α).grown hg λg ψ e=>?_
    have h1:=(ho.block g e).2;have h2:=ο g ψ;omega
   refine θ.get (Ex.refl _) (i:=1) (x:=b.text) (by omega) rfl (Q:=λn=>_) ⟨⟨η,b,l++[a],rfl,Z.parts b (by simp [T.parts]),nr.2.2,nr.1.2,?_,?_,by simpa using ζ⟩,?_⟩
   ·rw [γ];simp [T.ths]
   ·have:(T.par a b).text.length=a.text.length+b.text.length+3:=by simp [T.text];omega
    simp only [OM,OF,OX];omega
   ·have:(T.par a b).text.length=a.text.length+b.text.length+3:=by simp [T.text];omega
    show b.text.length< (T.par a b).text.length;omega
  ·have ω:r.th=true:=hr.resolve_right λe=>by cases r<;>simp [T.isP]at e;simp [T.kind]at hc
   intro b35 w36 ι J;have κ:Ex w' w36:=J▸Ex.alloc w' _;have V:=Ex.trans x κ;refine Own.push (ho.ex κ) V.size (Strs.one ι J) (by simp only [O8,OF,OX];omega) λv42 w43 b43 μ hg hn=>h _ w43 (Ex.below V b43) ?_
   rw [γ,nR ω];simpa using μ
theorem mw {w:World}{v:Value}{l:List Tx}(hs:Strs w v l)(hl:l.length<=1000000000){i j:Nat}{R:Value->Sl}(h:∀v' w',Ex w w'->Own w.heap.size w' v' (wo l i j)->R v' w'):
  Sm 152 #[v,.int .i64 i,.int .i64 j] w (an [.v] R):=by
 refine oV v i j w R ?_;dsimp only [go_sem];dsimp only [go_sem,UInt8.reduceOfNat,UInt32.reduceOfNat,Nat.reduceAdd];obtain⟨a,cap,hv⟩:=hs.slice;refine⟨a,_,cap,hv,λout x w'=>Ex w w'/\∃k:Nat,x=k/\k<=l.length/\Own w.heap.size w' out (wo (l.take k) i j)/\(wo (l.take k) i j).length<=k,λ _ x _=>((l.length:Int) - x).toNat,⟨Ex.refl w,0,rfl,Px _,Own.nil _ _,OQ _⟩,λout x w' hI=>?_⟩;obtain⟨x,k,rfl,hk,ho,δ⟩:=hI;refine⟨λhc=>?_,λhc=>?_⟩
 ·have G:=oL hc;have hm:=@tN l.length k (by omega);have e:wo (l.take (k+1)) i j=wo (l.take k) i j++if !(k==i)&& !(k==j)then [l[k]]else []:=by
   unfold wo;rw [OK G,List.zipIdx_append,Qy,PH]
   congr 1
   have:(l.take k).length=k:=by rw [Pt];omega
   simp only [List.zipIdx_cons,List.zipIdx_nil,Ph,this,List.filter_cons,List.filter_nil];split<;>rfl
  have skip:(!(k==i)&& !(k==j))=false->a7 ((k:Int)+1)/\(Ex w w'/\∃V:Nat,(k:Int)+1=V/\V<=l.length/\Own w.heap.size w' out (wo (l.take V) i j)/\(wo (l.take V) i j).length<=V)/\((l.length:Int) - ((k:Int)+1)).toNat< ((l.length:Int) - k).toNat:=λh=>by
   refine⟨by omega,⟨x,k+1,by omega,G,?_⟩,hm⟩;rw [e,h];simp only [Qx,Rm,Po];exact⟨ho,by omega⟩
  refine hs.get x (i:=k) (x:=l[k]) (by omega) (by simp [G]) (Q:=λn=>_) ⟨λhi=>⟨λhj=>?_,λhj=>?_⟩,λhi=>?_⟩
  ·have hi:k≠i:=by simp at hi;omega
   have hj:k≠j:=by simp at hj;omega
   intro ε β W H;have Z:Ex w' β:=H▸Ex.alloc w' _;have J:=Ex.trans x Z;refine Own.push (ho.ex Z) J.size (Strs.one W H) (by simp only [OF,OX];omega) λv24 ζ γ α hg hn=>⟨by omega,⟨Ex.below J γ,k+1,by omega,G,?_⟩,hm⟩
   rw [e];have:(!(k==i)&& !(k==j))=true:=by simp [hi,hj]
   rw [this,Pj rfl];exact⟨α,by simp only [OM,OF,OX];omega⟩
  ·have hj:k=j:=by simp at hj;omega
   exact skip (by simp [hj])
  ·have hi:k=i:=by simp at hi;omega
   exact skip (by simp [hi])
 ·have:k=l.length:=by simp at hc;omega
  subst this;rw [Pa]at ho;exact h _ w' x ho
theorem Ip {w:World}{v:Value}{l:List Tx}(hs:Strs w v l)(hl:l.length<=1000000000){R:Value->Sl}(h:∀v' w',Ex w w'->Own w.heap.size w' v' (dd (a6 l))->R v' w'):
  Sm 97 #[v] w (an [.v] R):=by
 refine uk v w R ?_;dsimp only [go_sem];dsimp only [go_sem,UInt8.reduceOfNat,UInt32.reduceOfNat,Nat.reduceAdd];refine nW hs (by omega) λv2 w3 x3 ι=>?_
 have hlen:(a6 l).length=l.length:=(aR l).length_eq;generalize a6 l=m at*;have ε:=ι.strs;obtain⟨a,cap,hv⟩:=ε.slice;refine⟨a,_,cap,hv,λout x w'=>Ex w3 w'/\∃k:Nat,x=k/\k<=m.length/\Own w3.heap.size w' out (dd (m.take k)),λ _ x _=>((m.length:Int) - x).toNat,⟨Ex.refl w3,0,rfl,Px _,Own.nil _ _⟩,λout x w' hI=>?_⟩;obtain⟨x,k,rfl,hk,ho⟩:=hI;refine⟨λhc=>?_,λhc=>?_⟩
 ·have β:=oL hc;have hm:=@tN m.length k (by omega);have e:dd (m.take (k+1))=FP (dd (m.take k)) m[k]:=by rw [OK β,jW]
  have κ:=G6 (m.take k);rw [Pt]at κ;have push:∀(W:Nat) (G:World),W=w'.heap.size->G=w'.alloc (.cells #[.string (ai m[k])] 9)->(dd (m.take k)).getLast?≠some m[k]->∀{K:Value->Sl},(∀α Z,(Ex w3 Z/\∃k':Nat,(k:Int)+1=k'/\k'<=m.length/\Own w3.heap.size Z α (dd (m.take k')))->K α Z)->
    ∃(base n k:Nat) (xs news:List Value),World.ownsRow G base 9 1 out n xs/\base<=Array.size (World.heap G)/\dW G (.slice (some ⟨W,0,none⟩) 1 1) k 1 news/\(n+k<=maxLen/\(n+k)* 16<=140737488355328)/\
   ∀(v':Value) (w':World),World.ownsRow w' base 9 1 v' (n+k) (xs++news)->World.grownBy G w' (Value.ownBlock out)->(∀b:Nat,Value.ownBlock v'=some b->Value.ownBlock out=some b\/Array.size (World.heap G)<=b)->K v' w':=λW G V H J {K} hK=>by
   have ζ:Ex w' G:=H▸Ex.alloc w' _;have γ:=Ex.trans x ζ;refine Own.push (ho.ex ζ) γ.size (Strs.one V H) (by simp only [OF,OX];omega) λα Z μ η hg hn=>hK _ _ ⟨Ex.below γ μ,k+1,by omega,β,?_⟩
   rw [e];unfold FP;rw [O1 J];exact η
  refine ε.get x (i:=k) (x:=m[k]) (by omega) (by simp [β]) (Q:=λn=>_) ?_;obtain⟨ao,δ,θ⟩:=ho.strs.slice;refine⟨ao,_,δ,θ,λhz=>?_,λhz=>?_⟩
  ·have hz:(dd (m.take k)).length≠0:=by
    intro e0;simp [e0]at hz
   refine⟨ao,_,δ,θ,by omega,ho.strs.get (Ex.refl _) (i:=((dd (m.take k)).length:Int) - 1) (x:=(dd (m.take k)).getLast (λe=>hz (by rw [e];rfl))) (by omega) ?_ (Q:=λn=>_) ⟨λJ=>?_,λJ=>?_⟩⟩
   ·rw [show(((dd (m.take k)).length:Int) - 1).toNat=(dd (m.take k)).length - 1 by omega,<-Rk,List.getLast?_eq_some_getLast]
   ·have J:(dd (m.take k)).getLast?≠some m[k]:=by
     rw [List.getLast?_eq_some_getLast (λe=>hz (by rw [e];rfl))];simpa using J
    exact λW G V H=>push W G V H J λα Z hI=>⟨by omega,hI,hm⟩
   ·have J:(dd (m.take k)).getLast?=some m[k]:=by
     rw [List.getLast?_eq_some_getLast (λe=>hz (by rw [e];rfl))];simpa using J
    exact⟨by omega,⟨x,k+1,by omega,β,by rw [e];unfold FP;rw [Pj J];exact ho⟩,hm⟩
  ·have hz:dd (m.take k)=[]:=by
    refine Pg ?_;simpa using hz
   exact λW G V H=>push W G V H (by rw [hz];simp) λα Z hI=>⟨by omega,hI,hm⟩
 ·have:k=m.length:=by simp at hc;omega
  subst this;rw [Pa]at ho;exact h _ w' (Ex.trans x3 x) (ho.mono x3.size)
end Go.Proofs.YtdecokaadekjnaaGreat
namespace Go.Proofs.YtdecokaadekjnaaGreat
open Go Go.RowKit
def cK (B:Nat)(w:World)(v:Value)(n:Nat)(xs:List Value):Prop:=w.ownsRow B 160 5 v n xs
theorem cK.nil (B:Nat)(w:World):cK B w (.slice none 0 0) 0 []:=World.ownsRow_nil _ _ _ _
theorem cK.block {B:Nat}{w:World}{v:Value}{n:Nat}{xs:List Value}(h:cK B w v n xs):∀b,v.ownBlock=some b->B<=b/\b< w.heap.size:=Rx h
theorem cK.kp {B:Nat}{w w':World}{S:Nat->Prop}{v:Value}{n:Nat}{xs:List Value}(h:cK B w v n xs)(k:Kp w w' S)(H:∀g,v.ownBlock=some g->¬S g):cK B w' v n xs:=by
 refine⟨h.1,?_⟩;rcases h.2 with J | ⟨g,cap,cur,rfl,hb,G,rest⟩
 ·exact .inl J
 ·exact .inr ⟨g,cap,cur,rfl,hb,by rw [k.block g (Ps.1 G).1 (H g rfl)];exact G,rest⟩
theorem cK.ex {B:Nat}{w w':World}{v:Value}{n:Nat}{xs:List Value}(h:cK B w v n xs)(x:Ex w w'):cK B w' v n xs:=h.kp (Kp.af x λ _=>False) λ _ _ h=>h
theorem cK.mono {B G:Nat}{w:World}{v:Value}{n:Nat}{xs:List Value}(h:cK B w v n xs)(hb:G<=B):cK G w v n xs:=Sa h hb
theorem cK.zero {w w':World}{B b:Nat}(hB:B<=w.heap.size)(hb:b=w.heap.size)(h:w'=w.alloc (.cells #[] 160)):cK B w' (.slice (some ⟨b,0,none⟩) 0 0) 0 []:=by
 subst hb h;refine⟨rfl,.inr ⟨_,0,#[],rfl,hB,?_,by simp,by unfold maxLen;omega,rfl,rfl⟩⟩;unfold World.alloc;simp
theorem cK.one {w w':World}{B b:Nat}{cs:List Value}(hc:cs.length=5)(hB:B<=w.heap.size)(hb:b=w.heap.size)(h:w'=w.alloc (.cells cs.toArray 160)):cK B w' (.slice (some ⟨b,0,none⟩) 1 1) 1 cs:=by
 subst hb h;refine⟨by rw [hc],.inr ⟨_,1,cs.toArray,rfl,hB,?_,by simp,by unfold maxLen;omega,by simp [hc],RB (by simp [hc])⟩⟩;unfold World.alloc;simp
theorem cK.cell {B:Nat}{w:World}{v:Value}{n:Nat}{xs:List Value}(h:cK B w v n xs):(v= .slice none 0 0/\n=0/\xs=[])\/∃g cap,v= .slice (some ⟨g,0,none⟩) n cap/\g< w.heap.size/\∀j u,xs[j]?=some u->w.cell? ⟨g,0+j,none⟩=some u:=by
 have G:=h.1;rcases h.2 with⟨V,H⟩ | ⟨g,cap,cur,rfl,hb,J,W,h2,Z,h4⟩
 ·left;refine⟨V,H,Pg (by rw [G,H])⟩
 ·refine .inr ⟨g,cap,rfl,(Ps.1 J).1,λj u hu=>?_⟩;have hj:j< xs.length:=(PB.1 hu).1;unfold World.cell?;simp only [J,Ph];rw [<-h4,Qm (by rw [<-G];exact hj),Qj]at hu;exact hu
theorem cK.src {B:Nat}{w:World}{v:Value}{n:Nat}{xs:List Value}(h:cK B w v n xs)(ha:xs.all ay=true):dW w v n 5 xs:=by
 refine⟨h.1,ha,?_⟩;rcases h.cell with⟨rfl,rfl,_⟩ | ⟨g,cap,rfl,_,hc⟩
 ·exact .inl ⟨rfl,rfl⟩
 ·exact .inr ⟨g,0,cap,rfl,hc⟩
theorem cK.push {B:Nat}{w:World}{v x:Value}{n m:Nat}{xs H:List Value}(h:cK B w v n xs)(hB:B<=w.heap.size)(J:dW w x m 5 H)(hl:n+m<=1099511627776){K:Value->Sl}
  (V:∀v' w',cK B w' v' (n+m) (xs++H)->w.grownBy w' v.ownBlock->(∀b,v'.ownBlock=some b->v.ownBlock=some b\/w.heap.size<=b)->K v' w'):
  ∃(base n' m':Nat) (G news:List Value),World.ownsRow w base 160 5 v n' G/\base<=Array.size (World.heap w)/\dW w x m' 5 news/\(n'+m'<=maxLen/\(n'+m')* 40<=140737488355328)/\
   ∀(v':Value) (w':World),World.ownsRow w' base 160 5 v' (n'+m') (G++news)->World.grownBy w w' (Value.ownBlock v)->(∀b:Nat,Value.ownBlock v'=some b->Value.ownBlock v=some b\/Array.size (World.heap w)<=b)->K v' w':=
 ⟨B,n,m,xs,H,h,hB,J,⟨by unfold maxLen;omega,by omega⟩,λv' w' W Z hw=>V v' w' W Z hw⟩
def cX (k:UInt8)(a b:Nat)(vr:Value)(s:Bool):List Value:=[.int .u8 k.toNat,iv a,iv b,vr,.bool s]
def lk (D:Nat->Prop)(w:World):Off Nat->List Value->Prop
 | .tau p,cs=>∃a b vr s,cs=cX 126 a b vr s/\aC D w (td p) vr
 | .snd a b p,cs=>∃vr s,cs=cX 33 a b vr s/\aC D w (td p) vr
 | .rcv a x q s,cs=>∃vr,cs=cX 63 a x vr s/\aC D w (td q) vr
theorem lk.ex {D:Nat->Prop}{w w':World}{o:Off Nat}{cs:List Value}(h:lk D w o cs)(x:Ex w w'):lk D w' o cs:=by
 cases o with
 | tau p=>obtain⟨a,b,vr,s,G,h2⟩:=h;exact⟨a,b,vr,s,G,aC.ex h2 x⟩
 | snd a b p=>obtain⟨vr,s,G,h2⟩:=h;exact⟨vr,s,G,aC.ex h2 x⟩
 | rcv a b p s=>obtain⟨vr,G,h2⟩:=h;exact⟨vr,G,aC.ex h2 x⟩
theorem lk.kp {D S:Nat->Prop}{w w':World}{o:Off Nat}{cs:List Value}(h:lk D w o cs)(k:Kp w w' S)(H:∀g,D g->¬S g):lk D w' o cs:=by
 cases o with
 | tau p=>obtain⟨a,b,vr,s,G,h2⟩:=h;exact⟨a,b,vr,s,G,aC.kp h2 k H⟩
 | snd a b p=>obtain⟨vr,s,G,h2⟩:=h;exact⟨vr,s,G,aC.kp h2 k H⟩
 | rcv a b p s=>obtain⟨vr,G,h2⟩:=h;exact⟨vr,G,aC.kp h2 k H⟩
theorem lk.len {D:Nat->Prop}{w:World}{o:Off Nat}{cs:List Value}(h:lk D w o cs):cs.length=5/\cs.all ay=true:=by
 cases o with
 | tau p=>obtain⟨a,b,vr,s,rfl,h2⟩:=h;exact⟨rfl,by have :=h2.one;simp only [cX,PZ,RD,Ra,this]⟩
 | snd a b p=>obtain⟨vr,s,rfl,h2⟩:=h;exact⟨rfl,by have :=h2.one;simp only [cX,PZ,RD,Ra,this]⟩
 | rcv a b p s=>obtain⟨vr,rfl,h2⟩:=h;exact⟨rfl,by have :=h2.one;simp only [cX,PZ,RD,Ra,this]⟩
def OffsM (D:Nat->Prop)(w:World):List (Off Nat)->List Value->Prop
 | [],xs=>xs=[]
 | o::os,xs=>∃cs G,xs=cs++G/\lk D w o cs/\OffsM D w os G
section
variable {D S:Nat->Prop} {w w':World}
theorem OffsM.kp (k:Kp w w' S)(G:∀g,D g->¬S g):∀{os:List (Off Nat)} {xs:List Value},OffsM D w os xs->OffsM D w' os xs
 | [],_,h=>h
 | _::_,_,⟨cs,H,J,h2,V⟩=>⟨cs,H,J,h2.kp k G,OffsM.kp k G V⟩
theorem OffsM.ex {os:List (Off Nat)}{xs:List Value}(h:OffsM D w os xs)(x:Ex w w'):OffsM D w' os xs:=OffsM.kp (Kp.af x λ _=>False) (λ _ _ h=>h) h
theorem OffsM.app:∀{os G:List (Off Nat)} {xs H:List Value},OffsM D w os xs->OffsM D w G H->OffsM D w (os++G) (xs++H)
 | [],_,_,_,h,k=>by cases h;exact k
 | _::_,_,_,_,⟨cs,zs,J,h2,V⟩,k=>by subst J;exact⟨cs,zs++_,by rw [Pv],h2,OffsM.app V k⟩
theorem OffsM.len:∀{os:List (Off Nat)} {xs:List Value},OffsM D w os xs->xs.length=os.length* 5/\xs.all ay=true
 | [],_,h=>by cases h;exact⟨rfl,rfl⟩
 | o::os,_,⟨cs,ys,G,h2,H⟩=>by
  subst G;obtain⟨J,V⟩:=h2.len;obtain⟨W,Z⟩:=OffsM.len H;refine⟨by rw [OM,J,W,OF];omega,by rw [Rl,V,Z];rfl⟩
theorem OffsM.at:∀{os:List (Off Nat)} {xs:List Value},OffsM D w os xs->∀{i:Nat} (hi:i< os.length),∃cs,lk D w os[i] cs/\∀j,j< 5->xs[i* 5+j]?=cs[j]?
 | o::os,_,⟨cs,V,G,h2,J⟩,0,hi=>by
  subst G;refine⟨cs,h2,λj hj=>?_⟩;rw [List.getElem?_append_left (by rw [h2.len.1];omega)]
  congr 1;omega
 | o::os,_,⟨cs,V,G,h2,J⟩,i+1,hi=>by
  subst G;obtain⟨H,W,Z⟩:=OffsM.at J (i:=i) (by simpa using hi);refine⟨H,W,λj hj=>?_⟩;rw [<-Z j hj,List.getElem?_append_right (by rw [h2.len.1];omega),h2.len.1]
  congr 1;omega
theorem OffsM.one {o:Off Nat}{cs:List Value}(h:lk D w o cs):OffsM D w [o] cs:=⟨cs,[],by simp,h,rfl⟩
end
def pre:U->Bool
 | .snd .. =>true | .rcv .. =>true | .tau .. =>true | _=>false
theorem xF {u:U}(h:pre u=true):∃o,offs u=[o]:=by cases u<;>first | exact⟨_,rfl⟩ | cases h
theorem Ib {D:Nat->Prop}{w:World}{u:U}{v:Value}(hp:pre u=true)(h:ah D w (tl [u]) [v]):∃(g:Nat) (k:UInt8) (a b:Nat) (vr:Value) (r:U),v=ptr g/\D g/\g< w.heap.size/\w.cell? ⟨g,0,none⟩=some (.int .u8 k.toNat)/\w.cell? ⟨g,1,none⟩=some (iv a)/\w.cell? ⟨g,2,none⟩=some (iv b)/\w.cell? ⟨g,3,none⟩=some vr/\
  (k=126\/k=33\/k=63)/\aC D w (td r) vr/\(∀s,k=63->∀a' x q,u= .rcv a' x q->lk D w (.rcv a' x q s) (cX k a b vr s))/\(∀s o,offs u=[o]->k≠63->lk D w o (cX k a b vr s))/\(∀o,offs u=[o]->lk D w o (cX k a b vr false))/\(k=63↔∃a' x q,u= .rcv a' x q):=by
 cases u<;>try cases hp
 ·rename_i a b p;obtain⟨t,V,a',J,vr,W,⟨g,Z,hD,hl,c0,c1,c2,c3,c4⟩,hk,G,_⟩:=h;obtain⟨rfl,rfl⟩:=PQ W;obtain⟨rfl,rfl⟩:a'=a/\J=b:=by rcases hk with h | h | h<;>first | exact h | cases h
  refine⟨g,33,a',J,vr,p,Z,hD,hl,c0,c1,c2,c3,.inr (.inl rfl),G,λs h=>absurd h (by decide),λs o H _=>?_,λo H=>?_,⟨λh=>absurd h (by decide),fun⟨_,_,_,h⟩=>by cases h⟩⟩
  ·cases H;exact⟨vr,s,rfl,G⟩
  ·cases H;exact⟨vr,false,rfl,G⟩
 ·rename_i a b p;obtain⟨t,V,a',J,vr,W,⟨g,Z,hD,hl,c0,c1,c2,c3,c4⟩,hk,G,_⟩:=h;obtain⟨rfl,rfl⟩:=PQ W;obtain⟨rfl,rfl⟩:a'=a/\J=b:=by rcases hk with h | h | h<;>first | exact h | cases h
  refine⟨g,63,a',J,vr,p,Z,hD,hl,c0,c1,c2,c3,.inr (.inr rfl),G,λs _ a2 x q e=>?_,λs o H h=>absurd rfl h,λo H=>?_,⟨λ _=>⟨_,_,_,rfl⟩,λ _=>rfl⟩⟩
  ·cases e;exact⟨vr,rfl,G⟩
  ·cases H;exact⟨vr,rfl,G⟩
 ·rename_i p;obtain⟨t,V,a',J,vr,W,⟨g,Z,hD,hl,c0,c1,c2,c3,c4⟩,hk,G,_⟩:=h;obtain⟨rfl,rfl⟩:=PQ W;refine⟨g,126,a',J,vr,p,Z,hD,hl,c0,c1,c2,c3,.inl rfl,G,λs h=>absurd h (by decide),λs o H _=>?_,λo H=>?_,⟨λh=>absurd h (by decide),fun⟨_,_,_,h⟩=>by cases h⟩⟩
  ·cases H;exact⟨a',J,vr,s,rfl,G⟩
  ·cases H;exact⟨a',J,vr,false,rfl,G⟩
theorem IN {u:U}(n:u.Nr):offs u=u.mX.flatMap offs:=by
 induction u with
 | sum p q H G=>
  have :=G n.2.2;simp only [offs,T.mX,Qh];rw [this]
 | _=>simp [T.mX]
theorem Kx {u:U}(n:u.Nr)(G:u.smp=true)(V:u.gp=true)(hd:u.dead=false):∀s∈u.mX,pre s=true/\s.Nr/\(∀x∈BV s,x∈BV u)/\(BV s).Sublist (BV u):=by
 induction u with
 | sum p q ih H=>
  simp only [T.smp,OJ]at G;intro s h;rcases O4.1 h with rfl | h
  ·refine⟨?_,n.2.1,λx J=>Pm _ J,QZ _ _⟩;have W:=n.1.2.2;have h2:=G.1.1;have Z:=n.1.1;cases s<;>first | rfl | (cases h2;done) | (cases W;done) | (cases Z;done)
  ·obtain⟨k1,k2,k3,k4⟩:=H n.2.2 G.2.2 G.1.2 n.1.2.1 s h;exact⟨k1,k2,λx J=>Pf _ (k3 x J),k4.trans (Qk _ _)⟩
 | nil=>cases hd
 | snd a b p=>intro s h;cases OO.1 h;exact⟨rfl,n,λ _ h=>h,PY _⟩
 | rcv a b p=>intro s h;cases OO.1 h;exact⟨rfl,n,λ _ h=>h,PY _⟩
 | tau p=>intro s h;cases OO.1 h;exact⟨rfl,n,λ _ h=>h,PY _⟩
 | _=>cases V
theorem KS {D:Nat->Prop}{w:World}:∀{l:List U} {us:List Value},ah D w (tp l) us->us.length=l.length/\∀j (h:j< l.length) (h':j< us.length),aC D w (td l[j]) us[j]
 | [],us,h=>by cases h;exact⟨rfl,λj h=>by cases h⟩
 | u::l,_,⟨v,G,e,H,h2⟩=>by
  subst e;obtain⟨J,V⟩:=KS h2;refine⟨by simp [J],λj h h'=>?_⟩;cases j with
  | zero=>exact H
  | succ j=>simpa using V j (by simpa using h) (by simpa using h')
theorem DH {D:Nat->Prop}{w:World}:∀{l:List U} {us:List Value},(∀u∈l,u.th=true)->ah D w (tl l) us->us.length=l.length/\∀j (h:j< l.length) (h':j< us.length),ah D w (tl [l[j]]) [us[j]]
 | [],us,_,h=>by cases h;exact⟨rfl,λj h=>by cases h⟩
 | u::l,us,H,h=>by
  have h0:=H u (by simp);have key:∃v G,us=v::G/\ah D w (tl [u]) [v]/\ah D w (tl l) G:=by
   cases u<;>try cases h0
   all_goals
    first
    | (obtain⟨t,G,a',b',vr,e,J,V,W,Z⟩:=h;exact⟨t,G,e,⟨t,[],a',b',vr,rfl,J,V,W,rfl⟩,Z⟩)
    | (obtain⟨t,G,a',b',vp,α,e,J,V,W,Z⟩:=h;exact⟨t,G,e,⟨t,[],a',b',vp,α,rfl,J,V,W,rfl⟩,Z⟩)
  obtain⟨v,G,e,J,V⟩:=key;subst e;obtain⟨W,Z⟩:=DH (λu hu=>H u (OZ _ hu)) V;refine⟨by simp [W],λj h h'=>?_⟩;cases j with
  | zero=>exact J
  | succ j=>simpa using Z j (by simpa using h) (by simpa using h')
theorem HN {D:Nat->Prop}{w:World}{u:U}{v:Value}(hp:pre u=true)(h:ah D w (tl [u]) [v]){R:Value->Sl}(hR:∀v' w' xs,Ex w w'->cK w.heap.size w' v' (offs u).length xs->OffsM D w' (offs u) xs->R v' w'):
  Sm 140 #[v] w (an [.v] R):=by
 refine eU v w R ?_;obtain⟨o,ho⟩:=xF hp;obtain⟨g,k,a,b,vr,r,J,hD,hl,c0,c1,c2,c3,hk,α,_,_,β,_⟩:=Ib hp h;refine⟨g,0,J,k,c0,λx w'=>w'=w/\x=true,?_,λx V hJ=>?_⟩
 ·rcases hk with rfl | rfl | rfl
  ·exact⟨λ _=>⟨rfl,by decide⟩,λh=>absurd h (by decide)⟩
  ·exact⟨λh=>absurd h (by decide),λ _=>⟨λ _=>⟨rfl,by decide⟩,λh=>absurd h (by decide)⟩⟩
  ·exact⟨λh=>absurd h (by decide),λ _=>⟨λh=>absurd h (by decide),λ _=>⟨rfl,by decide⟩⟩⟩
 ·obtain⟨rfl,rfl⟩:=hJ;refine⟨λ _=>⟨λw'=>Ex V w',λw9 γ=>?_⟩,λh=>by cases h⟩;have x9:Ex V w9:=γ▸Ex.drew V;have cg:∀{w':World},Ex V w'->∀j,w'.cell? ⟨g,j,none⟩=V.cell? ⟨g,j,none⟩:=λx j=>x.cell (show g< _ from hl)
  refine⟨x9,g,0,J,k,λw' x=>by rw [cg x];exact c0,g,0,J,a,λw' x=>by rw [cg x];exact c1,g,0,J,b,λw' x=>by rw [cg x];exact c2,g,0,J,vr,λw' x=>by rw [cg x];exact c3,α.one,λε W Z H=>?_⟩;have δ:Ex w9 W:=H▸Ex.alloc w9 _;have G:=Ex.trans x9 δ;refine⟨G,hR _ W (cX k a b vr false) G ?_ ?_⟩
  ·rw [ho];exact cK.one rfl x9.size Z H
  ·rw [ho];exact OffsM.one ((β o ho).ex G)
theorem tK {D:Nat->Prop}{w:World}{u:U}{v:Value}(hth:u.th=true)(hq:Uq u)(n:u.Nr)(hs:u.smp=true)(hz:u.size<=1000000)(hDw:∀g,D g->g< w.heap.size)(h:ah D w (tl [u]) [v]){R:Value->Sl}(hR:∀v' w' xs,Ex w w'->cK w.heap.size w' v' (offs u).length xs->OffsM D w' (offs u) xs->R v' w'):
  Sm 140 #[v] w (an [.v] R):=by
 by_cases hp:pre u=true
 ·exact HN hp h hR
 refine eU v w R ?_;cases u<;>first | (exact absurd rfl hp) | (cases hth;done) | skip
 case mat a b p=>
  obtain⟨t,ts',a',b',vr,e1,⟨g,hg,hD,hl,c0,c1,c2,c3,c4⟩,hk,δ,_⟩:=h;obtain⟨rfl,rfl⟩:=PQ e1;refine⟨g,0,hg,_,c0,λx w'=>w'=w/\x=false,⟨λh=>absurd h (by decide),λ _=>⟨λh=>absurd h (by decide),λ _=>⟨rfl,by decide⟩⟩⟩,λx H hJ=>?_⟩;obtain⟨rfl,rfl⟩:=hJ;refine⟨λh=>(by cases h),λ _=>aW (by decide) (aW (by decide) (hR _ H [] (Ex.refl _) (cK.nil _ _) rfl))⟩
 case rep p=>
  simp only [T.smp,OJ]at hs;cases p<;>try (simp [T.isR]at hs)
  rename_i a x q;obtain⟨t,ts',a',b',vr,e1,⟨g,hg,hD,hl,c0,c1,c2,c3,c4⟩,hk,δ,_⟩:=h;obtain⟨rfl,rfl⟩:=PQ e1;have etd:td (.rcv a x q)=([],tl [.rcv a x q]):=jh hq.rep n.2;rw [etd]at δ;obtain⟨br,vo2,θ,ι,rfl,k2,k3,k4,k5,k6,k7,k8⟩:=δ;obtain⟨hl2,hat⟩:=DH (l:=[T.rcv a x q]) (λu hu=>by cases OO.1 hu;rfl) k8;obtain⟨v2,rfl⟩:∃v2,ι=[v2]:=by
   match ι,hl2 with
   | [v2],_=>exact⟨v2,rfl⟩
  have hp2:=Ib (u:= .rcv a x q) rfl (hat 0 (by simp) (by simp));obtain⟨g2,kk,a2,b2,vr2,r2,hg2,hD2,hlt2,d0,d1,d2,d3,hkk,hlv2,hof,_,_,hiff⟩:=hp2;have hk63:kk=63:=hiff.2 ⟨_,_,_,rfl⟩;subst hk63;obtain⟨at_,κ,hvt⟩:=k7.slice;refine⟨g,0,hg,_,c0,λx w'=>w'=w/\x=false,⟨λh=>absurd h (by decide),λ _=>⟨λh=>absurd h (by decide),λ _=>⟨rfl,by decide⟩⟩⟩,λy H hJ=>?_⟩;obtain⟨rfl,rfl⟩:=hJ;refine⟨λh=>(by cases h),λ _=>dc (by decide) λb24 w25 hb24 hw25=>?_⟩;have x25:Ex H w25:=hw25▸Ex.alloc H _;refine⟨g,0,hg,ptr br,by rw [x25.cell (show g< _ from hl)];exact c3,br,0,rfl,θ,by rw [x25.cell (show br< _ from k3)];exact k5,at_,_,κ,hvt,λout i w'=>(i=0/\Ex H w'/\cK H.heap.size w' out 0 [])\/(i=1/\Ex H w'/\cK H.heap.size w' out 1 (cX 63 a2 b2 vr2 true)),λ _ i _=>(1 - i).toNat,.inl ⟨rfl,x25,cK.zero (OQ _) hb24 hw25⟩,λout i w36 hI=>?_⟩;rcases hI with⟨rfl,ε,V⟩ | ⟨rfl,ε,V⟩
  ·obtain⟨bt,ot,G,μ,Z,hbl,hcl⟩:∃bt ot G,θ= .slice (some ⟨bt,ot,none⟩) 1 G/\D bt/\bt< H.heap.size/\H.cell? ⟨bt,ot+0,none⟩=some v2:=by
    rcases k7 with⟨_,h0⟩ | ⟨bt,ot,G,e,Z,ν,J⟩
    ·cases h0
    ·exact⟨bt,ot,G,e,Z,ν,J 0 _ rfl⟩
   refine dc (by simp) ⟨bt,ot,1,G,μ,by omega,by omega,v2,?_,g2,0,hg2,63,?_,dc (by decide) ⟨λw'=>Ex H w',λw46 hw46=>?_⟩⟩
   ·rw [show(0:Int).toNat* 1=0 from rfl,ε.cell (show bt< _ from hbl)];exact hcl
   ·rw [ε.cell (show g2< _ from hlt2)];exact d0
   have x46':Ex w36 w46:=hw46▸Ex.drew w36;have x46:=Ex.trans ε x46';have cg:∀{w':World},Ex H w'->∀j,w'.cell? ⟨g2,j,none⟩=H.cell? ⟨g2,j,none⟩:=λx j=>x.cell (show g2< _ from hlt2)
   refine⟨x46,g2,0,hg2,a2,λw' x=>by rw [cg x];exact d1,g2,0,hg2,b2,λw' x=>by rw [cg x];exact d2,g2,0,hg2,vr2,λw' x=>by rw [cg x];exact d3,hlv2.one,λb56 w57 hb56 hw57=>?_⟩;have x57':Ex w46 w57:=hw57▸Ex.alloc w46 _;have ζ:=Ex.trans x46 x57';have o1:cK w46.heap.size w57 (.slice (some ⟨b56,0,none⟩) 1 1) 1 (cX 63 a2 b2 vr2 true):=cK.one rfl (OQ _) hb56 hw57;have hone:(cX 63 a2 b2 vr2 true).all ay=true:=by have :=hlv2.one;simp only [cX,PZ,RD,Ra,this]
   refine⟨ζ,cK.push (V.ex (Ex.trans x46' x57')) (by have :=ζ.size;omega) (o1.src hone) (by omega) λv63 w64 ho64 hg64 _=>⟨?_,by omega,.inr ⟨rfl,?_,?_⟩,by show(1 - (0+1):Int).toNat< (1 - 0:Int).toNat;decide⟩⟩
   ·exact Ex.below ζ (Kp.below (Kp.aJ (S:=λg=>out.ownBlock=some g) hg64 λ _ h=>h) ζ.size λg hg e=>by have :=(V.block g e).1;omega)
   ·exact Ex.below ζ (Kp.below (Kp.aJ (S:=λg=>out.ownBlock=some g) hg64 λ _ h=>h) ζ.size λg hg e=>by have :=(V.block g e).1;omega)
   ·simpa using ho64
  ·refine aW (by simp) (hR out w36 _ ε V ?_);exact OffsM.one ((hof true rfl a x q rfl).ex ε)
 case sum p q=>
  have hlive:(T.sum p q).dead=false:=n.sT rfl;have hsm:=Kx n hs rfl hlive;have hofs:=IN n;have etl:tl [T.sum p q]= .sum (tp (T.sum p q).mX) .nil:=by
   simp only [tl,T.mX];rw [eQ hq.eD n.2.1 n.1.1,eQ hq.dS n.2.2 n.1.2.1,T.gF n.1.2.2];rfl
  rw [etl]at h;obtain⟨t,ts',a',b',vp,us,e1,⟨g,hg,hD,hl,c0,c1,c2,c3,c4⟩,hus,hps,_⟩:=h;obtain⟨rfl,rfl⟩:=PQ e1;obtain⟨hul,hua⟩:=KS hps;generalize hS:(T.sum p q).mX=S at*;have hSl:S.length<=1000000:=by
   have:∀u:U,u.mX.length<=u.size:=by
    intro u
    induction u with
    | sum p q _ ih=>simp only [T.mX,OF,T.size];omega
    | _=>simp only [T.mX,OF,OX,T.size];omega
   have :=this (T.sum p q);rw [hS]at this;omega
  have hol:∀i,((S.take i).flatMap offs).length=(S.take i).length:=by
   have:∀l:List U,(∀s∈l,pre s=true)->(l.flatMap offs).length=l.length:=by
    intro l
    induction l with
    | nil=>intro _;rfl
    | cons s l ih=>
     intro hl;obtain⟨o,ho⟩:=xF (hl s (by simp));simp only [Qh,ho,OM,OF,OX,ih λx hx=>hl x (by simp [hx])];omega
   exact λi=>this _ λs α=>(hsm s (List.mem_of_mem_take α)).1
  obtain⟨au,cau,hvu⟩:=hus.slice;refine⟨g,0,hg,43,c0,λx w'=>w'=w/\x=false,⟨λh=>absurd h (by decide),λ _=>⟨λh=>absurd h (by decide),λ _=>⟨rfl,by decide⟩⟩⟩,λy H hJ=>?_⟩;obtain⟨rfl,rfl⟩:=hJ;refine⟨λh=>(by cases h),λ _=>aW (by decide) (dc (by decide) λb68 w69 hb68 hw69=>?_)⟩;have x69:Ex H w69:=hw69▸Ex.alloc H _;refine⟨g,0,hg,vp,by rw [x69.cell (show g< _ from hl)];exact c4,au,_,cau,hvu,λout i w'=>∃(j:Nat) (xs:List Value),i=j/\j<=us.length/\Ex H w'/\cK H.heap.size w' out ((S.take j).flatMap offs).length xs/\OffsM D w' ((S.take j).flatMap offs) xs,λ _ i _=>(us.length - i).toNat,⟨0,[],rfl,Px _,x69,by simpa using cK.zero (OQ _) hb68 hw69,by simp [OffsM]⟩,λout i w80 hI=>?_⟩;obtain⟨j,xs,rfl,hj,x80,ξ,ο⟩:=hI;refine⟨λhlt=>?_,λhge=>?_⟩;rotate_left
  ·have:j=S.length:=by simp only [OV]at hge;omega
   rw [this,Pa]at ξ ο;rw [hofs]at hR;exact hR out w80 xs x80 ξ ο
  have hjl:=oL hlt;have hjS:j< S.length:=by omega
  have η:=hsm S[j] (OP hjS);obtain⟨bu,ou,β,hvu',Z,hbu,hcu⟩:∃bu ou β,vp= .slice (some ⟨bu,ou,none⟩) us.length β/\D bu/\bu< H.heap.size/\H.cell? ⟨bu,ou+j,none⟩=some us[j]:=by
   rcases hus with⟨_,h0⟩ | ⟨bt,ot,G,e,Z,ν,J⟩
   ·rw [h0]at hjl;simp at hjl
   ·exact⟨bt,ot,G,e,Z,ν,J j _ (OH hjl)⟩
  have δ:=hua j hjS hjl;have huqS:Uq S[j]:=by
   refine⟨hq.nd.sublist η.2.2.2,λx hx hf=>?_⟩;have hfr:∀u:U,∀s∈u.mX,∀z,s.Fr z->u.Fr z:=by
    intro u
    induction u with
    | sum p q _ ih=>
     intro s α z hz;rcases O4.1 α with rfl | α
     ·exact .inl hz
     ·exact .inr (ih s α z hz)
    | _=>intro s α z hz;cases OO.1 α;exact hz
   exact hq.nf x (η.2.2.1 x hx) (hfr _ S[j] (by rw [hS];exact OP hjS) x hf)
  have ς:(S[j]).th=true:=by
   have h1:=η.1;revert h1;cases S[j]<;>first | (intro _;rfl) | (intro h;cases h)
  have etd:td S[j]=([],tl [S[j]]):=by rw [jh huqS η.2.1,T.iO ς,T.nR ς]
  rw [etd]at δ;obtain⟨br,vo2,θ,ι,hbr,k2,k3,k4,k5,k6,k7,k8⟩:=δ;obtain⟨hl2,hat⟩:=DH (l:=[S[j]]) (λu hu=>by cases OO.1 hu;exact ς) k8;obtain⟨v2,rfl⟩:∃v2,ι=[v2]:=by
   match ι,hl2 with
   | [v2],_=>exact⟨v2,rfl⟩
  have ha2:=hat 0 (by simp) (by simp);obtain⟨at_,κ,hvt⟩:=k7.slice;have htk:(S.take (j+1)).flatMap offs=(S.take j).flatMap offs++offs S[j]:=by rw [OK hjS,P2];simp
  refine⟨bu,ou,_,β,hvu',by omega,by omega,us[j],?_,br,0,hbr,θ,by rw [x80.cell (show br< _ from k3)];exact k5,at_,_,κ,hvt,λout i w'=>(i=0/\∃xs,Ex H w'/\cK H.heap.size w' out ((S.take j).flatMap offs).length xs/\OffsM D w' ((S.take j).flatMap offs) xs)\/(i=1/\∃xs,Ex H w'/\cK H.heap.size w' out ((S.take (j+1)).flatMap offs).length xs/\OffsM D w' ((S.take (j+1)).flatMap offs) xs),
   λ _ i _=>(1 - i).toNat,.inl ⟨rfl,xs,x80,ξ,ο⟩,λout2 i w93 hI2=>?_⟩
  ·rw [OU,Pn,x80.cell (show bu< _ from hbu)];exact hcu
  rcases hI2 with⟨rfl,xs2,υ,W,φ⟩ | ⟨rfl,xs2,υ,W,φ⟩
  ·obtain⟨bt,ot,G,μ,hbD2,hbl,hcl⟩:∃bt ot G,θ= .slice (some ⟨bt,ot,none⟩) 1 G/\D bt/\bt< H.heap.size/\H.cell? ⟨bt,ot+0,none⟩=some v2:=by
    rcases k7 with⟨_,h0⟩ | ⟨bt,ot,G,e,Z,ν,J⟩
    ·cases h0
    ·exact⟨bt,ot,G,e,Z,ν,J 0 _ rfl⟩
   refine dc (by simp) ⟨bt,ot,1,G,μ,by omega,by omega,v2,?_,HN η.1 (ah.ex ha2 υ) λv99 w100 ys χ ho100 ψ=>?_⟩
   ·rw [show(0:Int).toNat* 1=0 from rfl,υ.cell (show bt< _ from hbl)];exact hcl
   have γ:=Ex.trans υ χ;have hlen1:=hol j;rw [Pt,QU (by omega)]at hlen1;obtain⟨o,hoo⟩:=xF η.1;have hlo:(offs S[j]).length=1:=by rw [hoo];rfl
   refine cK.push (W.ex χ) γ.size (ho100.src ψ.len.2) (by omega) λv106 w107 ho107 ω _=>⟨by omega,.inr ⟨rfl,xs2++ys,?_,?_,?_⟩,by show(1 - (0+1):Int).toNat< (1 - 0:Int).toNat;decide⟩
   ·exact Ex.below γ (Kp.below (Kp.aJ (S:=λg=>out2.ownBlock=some g) ω λ _ h=>h) γ.size λg hg e=>by have :=(W.block g e).1;omega)
   ·rw [htk,OM];exact ho107
   ·rw [htk];exact OffsM.kp (Kp.aJ (S:=λg=>out2.ownBlock=some g) ω λ _ h=>h) (λg hgD e=>by have :=(W.block g e).1;have :=hDw g hgD;omega) ((φ.ex χ).app ψ)
  ·refine aW (by simp) ⟨by omega,⟨j+1,xs2,by omega,by omega,υ,W,φ⟩,tN (by omega)⟩
end Go.Proofs.YtdecokaadekjnaaGreat
namespace Go.Proofs.YtdecokaadekjnaaGreat
open Go Go.RowKit T
structure rA (b b2 n0 c:Nat)(w0 w':World)(acc:List U)(M:Nat->Prop):Prop where
 km:Km b w0 w'
 rs:Ms w0.heap.size w' b2 (outs acc) (!jl acc) M
 mc:∃n,Mk w' b n/\n0<=n/\n<=n0+c
 hb:b< w0.heap.size
section
variable {b b2 n0 c:Nat} {w0 w w':World} {acc:List U} {M:Nat->Prop}
theorem rA.nb (h:rA b b2 n0 c w0 w acc M):¬M b:=λG=>by have :=(h.rs.mr b G).1;have :=h.hb;omega
theorem rA.ex (h:rA b b2 n0 c w0 w acc M)(x:Ex w w'):rA b b2 n0 c w0 w' acc M:=by
 obtain⟨n,G,h2⟩:=h.mc;exact⟨h.km.out (Kp.af x λ _=>False) (λ _ _ h=>h) h.hb,h.rs.kp (Kp.af x λ _=>False) λ _ _ h=>h,⟨n,G.ex x,h2⟩,h.hb⟩
theorem MY (h:rA b b2 n0 c w0 w acc M)(hl:acc.length<=1000000000){vg vo vm:Value}{v:U}(hv:∀{R:aB->Bool->Sl},(∀w',Ex w w'->(∀s,kL v=some s->R s true w')/\(kL v=none->R [] false w'))->Sm 176 #[ptr b,vg,vo,vm] w (an [.s,.b] R))
  {S J:Sl} (hS:∀w',Kp w w' M->S w') (hJ:∀G H,rA b b2 n0 c w0 G (acc++[v]) H->Kp w G M->(∀g,H g->M g\/w.heap.size<=g)->J G):
  Sm 176 #[ptr b,vg,vo,vm] w (an [.s,.b] fun(s:aB) (q:Bool) (w2:World)=>S w2/\Sm 99 #[ptr b2,.string (ai s),.bool q] w2 (an [] fun(G:World)=>S G/\J G)):=by
 have fin:∀(s:aB) (q:Bool) (w2:World),Ex w w2->s=(kL v).getD []->q=(kL v).isSome->S w2/\Sm 99 #[ptr b2,.string (ai s),.bool q] w2 (an [] fun(G:World)=>S G/\J G):=by
  intro s q w2 x V hq;have h2:=h.ex x;have α:(outs acc).length=acc.length:=by unfold outs;simp
  refine⟨hS w2 (Kp.af x _),Mt h2.rs (by omega) λG H W r3 Z=>?_⟩;have k:=Kp.trans (Kp.af x M) W λ _ _ h=>h
  obtain⟨n,m1,m2,m3⟩:=h2.mc;refine⟨hS G k,hJ G H ⟨h2.km.out W (λg hg hM=>by have :=(h2.rs.mr g hM).1;omega) h.hb,?_,⟨n,m1.kp W h2.nb,m2,m3⟩,h.hb⟩ k λg hg=>(Z g hg).imp id λh=>PN x.size h⟩;have e1:outs (acc++[v])=outs acc++[s]:=by rw [BA,V];rfl
  have e2:(!jl (acc++[v]))=((!jl acc)|| !q):=by
   rw [xj,hq,Bool.not_and];simp [jl]
  rw [e1,e2];exact r3
 refine hv λw2 x=>⟨λs V=>fin s true w2 x (by rw [V];rfl) (by rw [V];rfl),λhn=>fin [] false w2 x (by rw [hn];rfl) (by rw [hn];rfl)⟩
end
theorem Ei {t:P}{u:U}(su:SU t u){D:Nat->Prop}{w:World}{v:Value}(h:aC D w (td u) v):∃b vo vt ts,v=ptr b/\D b/\b< w.heap.size/\w.cell? ⟨b,0,none⟩=some vo/\w.cell? ⟨b,1,none⟩=some vt/\eP D w vo (u.frL.map iv)/\eP D w vt ts/\ts.length=u.ths.length/\∀i (h:i< u.ths.length) (h':i< ts.length),ah D w (tl [u.ths[i]]) [ts[i]]:=by
 rw [jh su.nu.uq su.nr]at h;obtain⟨b,vo,vt,ts,G,h2,H,h4,h5,J,V,h8⟩:=h;obtain⟨W,Z⟩:=DH (λq hq=>(su.nr.ths q hq).1) h8;exact⟨b,vo,vt,ts,G,h2,H,h4,h5,J,V,W,Z⟩
theorem SU.th {t:P}{u:U}(su:SU t u):∀q∈u.ths,q.th=true/\Uq q/\q.Nr:=λq G=>by
 obtain⟨i,hi,rfl⟩:=PD.1 G;exact⟨(su.nr.ths _ G).1,su.ly hi (Sub.refl _) (PY _),(su.nr.ths _ G).2⟩
theorem pJ (u:U):(td u).1.length+(td u).2.tot<=4* u.size:=by
 have G:=oW (flat u).1 (flat u).2;have h2:=cG u;have e:Lv.tidy (flat u).1 (flat u).2=td u:=rfl;rw [e]at G;omega
theorem ku (f:Nat->Nat):∀l:Lv,(l.map f).tot=l.tot
 | .nil=>rfl
 | .thr k a b o r n=>by simp only [Lv.map,Lv.tot,ku f r,ku f n,O8]
 | .sum ps n=>by simp only [Lv.map,Lv.tot,ku f ps,ku f n]
 | .part o q n=>by simp only [Lv.map,Lv.tot,ku f q,ku f n,O8]
theorem Bq {t:P}{u:U}(su:SU t u)(θ:u.size<=1000){w:World}{b:Nat}{vl vg vo vm:Value}{gl:List Nat}{mvs:List Value}{zs:List ((List Nat×Lv)×U)}{W:U}(Z:w.cell? ⟨b,2,none⟩=some vl)(α:b< w.heap.size)(hl:aC (λg=>g< w.heap.size) w (td u) vl)(hg:eP (λg=>g< w.heap.size) w vg (gl.map iv))(β:gl.length<=1000)
  (ho:eP (λg=>g< w.heap.size) w vo (u.frL.map iv)) (hm:eP (λg=>g< w.heap.size) w vm mvs) (γ:aP (λL v=>aC (λg=>g< w.heap.size) w L v) (zs.map (·.1)) mvs) (δ:mvs.length<=1000) (hz:∀z∈zs,Pc z.1 z.2) (ι:(joinL (zs.map (·.1))).1.length+(joinL (zs.map (·.1))).2.tot<=1000000)
  {P:Nat->Bool} (hP:∀i,P i=decide (i∈gl)) (H:Nu (resL u.frL (parL (kG P u.ths 0++zs.map (·.2))))) (ε:kL (resL u.frL (parL (kG P u.ths 0++zs.map (·.2))))=kL W) {R:aB->Bool->Sl} (hR:∀w',Ex w w'->(∀s,kL W=some s->R s true w')/\(kL W=none->R [] false w')):
  Sm 176 #[ptr b,vg,vo,vm] w (an [.s,.b] R):=by
 have J:=jh su.nu.uq su.nr;have V:=su.th;have e:=Fo u.frL (K:=kG P u.ths 0) (λt ht=>V t (sE ht)) hz;have G:=pJ u;rw [J]at hl G;have ζ:∀x∈zs.map (·.1),x.2.sh true=true:=λx hx=>by
  obtain⟨z,h1,rfl⟩:=Pw.1 hx;exact(hz z h1).sh
 have η:(tl u.ths).sh true=true:=by have :=Ej u;rw [J]at this;exact this
 simp only at G;refine JN (res:=(u.frL++(joinL (zs.map (·.1))).1,(tl (kG P u.ths 0)).app (joinL (zs.map (·.1))).2)) Z α hl hg β ho hm γ δ η ζ (by omega) hP (by rw [Mi λt ht=>(V t ht).1]) ?_ ?_ λw' x=>?_
 ·rw [e];exact Dl H.uq H.bv
 ·rw [e];exact K9 H
 ·rw [e];have:Cs (td (resL u.frL (parL (kG P u.ths 0++zs.map (·.2)))))=kL W:=ε;rw [this];exact hR w' x
theorem aP.M9 {A B:Type}{R:A->B->Prop}:aP R [] []:=⟨rfl,λi a b h=>by simp at h⟩
theorem NI {w w1:World}{e g:Nat}{x:Value}(H:g=w.heap.size)(hw:w1=w.alloc (.cells #[x] e)):eP (λg=>g< w1.heap.size) w1 (.slice (some ⟨g,0,none⟩) 1 1) [x]:=by
 subst H hw;refine .inr ⟨w.heap.size,0,1,rfl,by rw [size_alloc];omega,by rw [size_alloc];omega,λi y G=>?_⟩;cases i with
 | zero=>simp only [P3,Qf]at G;subst G;exact aa rfl
 | succ i=>simp at G
theorem OD {w w1:World}{e g:Nat}{x z:Value}(H:g=w.heap.size)(hw:w1=w.alloc (.cells #[x,z] e)):eP (λg=>g< w1.heap.size) w1 (.slice (some ⟨g,0,none⟩) 2 2) [x,z]:=by
 subst H hw;refine .inr ⟨w.heap.size,0,2,rfl,by rw [size_alloc];omega,by rw [size_alloc];omega,λi y G=>?_⟩
 match i,G with
 | 0,G=>simp only [P3,Qf]at G;subst G;exact aa rfl
 | 1,G=>simp only [List.getElem?_cons_succ,P3,Qf]at G;subst G;exact aa rfl
 | i+2,G=>simp at G
theorem NY {D:Nat->Prop}{w w1:World}{v:Value}{l:List Value}(h:eP D w v l)(x:Ex w w1):eP (λg=>g< w1.heap.size) w1 v l:=(h.ex x).sub λg G _=>G
theorem gZ:∀u:U,(BV u).length<=u.size
 | .nil=>by simp [BV]
 | .snd a b p=>by have :=gZ p;simp only [BV,T.size];omega
 | .mat a b p=>by have :=gZ p;simp only [BV,T.size];omega
 | .rcv a b p=>by have :=gZ p;simp only [BV,T.size,OF];omega
 | .res b p=>by have :=gZ p;simp only [BV,T.size,OF];omega
 | .tau p=>by have :=gZ p;simp only [BV,T.size];omega
 | .rep p=>by have :=gZ p;simp only [BV,T.size];omega
 | .sum p q=>by have :=gZ p;have :=gZ q;simp only [BV,T.size,OM];omega
 | .par p q=>by have :=gZ p;have :=gZ q;simp only [BV,T.size,OM];omega
theorem eO:∀u:U,∀q∈u.ths,q.size<=u.size:=by
 intro u
 induction u with
 | nil=>intro q h;cases h
 | res x p H=>intro q h;have :=H q h;simp only [T.size];omega
 | par p r H G=>
  intro q h;simp only [T.size];rcases O4.1 h with rfl | h
  ·omega
  ·have :=G q h;omega
 | _=>intro q h;cases OO.1 h;exact OQ _
section
variable {t:P} {u:U} {b b2 n0 c:Nat} {w w1:World} {acc:List U} {M D:Nat->Prop}
theorem LJ (ok:mO t)(su:SU t u)(hsz:u.size<=60)(h:rA b b2 n0 c w w1 acc M){bl:Nat}(hcl:w1.cell? ⟨b,2,none⟩=some (ptr bl))(hl:aC D w1 (td u) (ptr bl))(hD:∀g,D g->g≠b/\g< w.heap.size){i:Nat}{p:U}(hi:i< u.ths.length)(ho:Off.tau p∈offs u.ths[i]){α:Nat}{vr:Value}(c3:w1.cell? ⟨α,3,none⟩=some vr)(hb40:α< w1.heap.size)(hMb:¬M α)(μ:aC D w1 (td p) vr)
  (hacc:acc.length<=1000000000) {J:Sl} (hJ:∀w3 M',rA b b2 n0 c w w3 (acc++[MP u i p]) M'->Kp w1 w3 M->(∀g,M' g->M g\/w1.heap.size<=g)->J w3):
  ∃G:Sl,∀H:World,H=World.drew w1->G H/\∃(b47 o48:Nat),ptr b=Value.pointer (some ⟨b47,o48,none⟩)/\∃v49:Value,(∀w',G w'->World.cell? w' ⟨b47,(o48+2),none⟩=some v49)/\∃(b50 o51:Nat),v49=Value.pointer (some ⟨b50,o51,none⟩)/\∃ν:Value,(∀w',G w'->World.cell? w' ⟨b50,(o51+0),none⟩=some ν)/\∃v53:Value,(∀w',G w'->World.cell? w' ⟨α,3,none⟩=some v53)/\(∀(ξ:Nat) (V:World),ξ=Array.size (World.heap H)->V=World.alloc H (Obj.cells #[(Value.int IntKind.i64 (i:Int))] 3)->G V/\ay v53=true/\∀(ο:Nat) (β:World),ο=Array.size (World.heap V)->β=World.alloc V (Obj.cells #[v53] 146)->G β/\Sm 176 #[ptr b,(Value.slice (some ⟨ξ,0,none⟩) 1 1),ν,(Value.slice (some ⟨ο,0,none⟩) 1 1)] β (an [.s,.b] fun(ς:aB) (υ:Bool) (δ:World)=>G δ/\Sm 99 #[(Value.pointer (some ⟨b2,0,none⟩)),(Value.string (ai ς)),(Value.bool υ)] δ (an [] fun(ε:World)=>G ε/\J ε)))/\
   (ay v53=true/\∀(φ:Nat) (W:World),φ=Array.size (World.heap H)->W=World.alloc H (Obj.cells #[v53] 146)->G W/\∀(χ:Nat) (γ:World),χ=Array.size (World.heap W)->γ=World.alloc W (Obj.cells #[(Value.int IntKind.i64 (i:Int))] 3)->G γ/\Sm 176 #[ptr b,(Value.slice (some ⟨χ,0,none⟩) 1 1),ν,(Value.slice (some ⟨φ,0,none⟩) 1 1)] γ (an [.s,.b] fun(s66:aB) (q67:Bool) (w68:World)=>G w68/\Sm 99 #[(Value.pointer (some ⟨b2,0,none⟩)),(Value.string (ai s66)),(Value.bool q67)] w68 (an [] fun(w69:World)=>G w69/\J w69))):=by
 have hb:=h.hb;have s0:=h.km.size;have hDM:∀g,D g->¬M g:=λg hg hM=>by have :=(hD g hg).2;have :=(h.rs.mr g hM).1;omega
 obtain⟨bl',vo,vt,ts,e1,k2,k3,k4,k5,k6,k7,k8,k9⟩:=Ei su hl;cases e1;have hNu:=(H7 ok su hi ho).1;obtain⟨sU,_⟩:=aZ (su.smp _ (OP hi)) _ ho;have uqp:Uq p:=(su.ly hi sU (gH _ ho)).tau;have nrp:p.Nr:=sU.nr (su.nrs _ (OP hi));have hwo:kG (λn=>n==i||n==i) u.ths 0=wo u.ths i i:=(C6 _ _ _).symm;have htp:=pJ p;have hps:p.size<=60:=by have h1:=sU.size;have h2:=eO u _ (OP hi);simp only [Off.tm,T.size]at h1;omega
 have go:∀(wc:World) (vg vm:Value),Ex w1 wc->eP (λg=>g< wc.heap.size) wc vg [iv i]->eP (λg=>g< wc.heap.size) wc vm [vr]->Sm 176 #[ptr b,vg,vo,vm] wc (an [.s,.b] fun(ς:aB) (υ:Bool) (δ:World)=>Kp w1 δ M/\Sm 99 #[(Value.pointer (some ⟨b2,0,none⟩)),(Value.string (ai ς)),(Value.bool υ)] δ (an [] fun(ε:World)=>Kp w1 ε M/\J ε)):=by
  intro wc vg vm xc hg hm;have sc:=xc.size;have kc:Kp w1 wc M:=Kp.af xc _;refine MY (h.ex xc) hacc (λhR=>?_) (λw' k=>Kp.trans kc k λ _ _ h=>h) λw3 M' r3 k3 hM'=>hJ w3 M' r3 (Kp.trans kc k3 λ _ _ h=>h) λg hg=>(hM' g hg).imp id λh=>by omega
  refine Bq su (by omega) (zs:=[(td p,p)]) (gl:=[i]) (P:=λn=>n==i||n==i) (mvs:=[vr]) (by rw [xc.cell (show b< _ by omega)];exact hcl) (by omega) (aC.sub (aC.ex hl xc) λg hg _=>hg) hg (by simp) (NY k6 xc) hm (aP.cons (aC.sub (aC.ex μ xc) λg hg _=>hg) aP.M9) (by simp) (λz hz=>by cases OO.1 hz;exact Pc.nr uqp nrp) ?_ (λj=>?_) ?_ ?_ hR
  ·simp only [Pk,QL,pW];omega
  ·simp [jP]
  ·rw [hwo];exact hNu
  ·rw [hwo];rfl
 have c3':∀w',Kp w1 w' M->w'.cell? ⟨α,3,none⟩=some vr:=λw' k=>by rw [OG (w:=w1) (k.block α hb40 hMb)];exact c3
 refine⟨λw'=>Kp w1 w' M,λH ζ=>⟨ζ▸Kp.af (Ex.drew w1) _,b,0,rfl,ptr bl,λw' k=>by rw [OG (w:=w1) (k.block b (by omega) h.nb)];exact hcl,bl,0,rfl,vo,λw' k=>by rw [OG (w:=w1) (k.block bl k3 (hDM bl k2))];exact k4,vr,c3',λξ V hb54 η=>?_,μ.one,λφ W hb62 θ=>?_⟩⟩
 ·have Z:Ex w1 H:=ζ▸Ex.drew w1;have ψ:Ex H V:=η▸Ex.alloc _ _;refine⟨Kp.af (Ex.trans Z ψ) _,μ.one,λο β hb56 ι=>?_⟩;have ω:Ex V β:=ι▸Ex.alloc _ _;exact⟨Kp.af (Ex.trans (Ex.trans Z ψ) ω) _,go β _ _ (Ex.trans (Ex.trans Z ψ) ω) (NY (NI hb54 η) ω) (NI hb56 ι)⟩
 ·have Z:Ex w1 H:=ζ▸Ex.drew w1;have x63:Ex H W:=θ▸Ex.alloc _ _;refine⟨Kp.af (Ex.trans Z x63) _,λχ γ hb64 κ=>?_⟩;have x65:Ex W γ:=κ▸Ex.alloc _ _;exact⟨Kp.af (Ex.trans (Ex.trans Z x63) x65) _,go γ _ _ (Ex.trans (Ex.trans Z x63) x65) (NI hb64 κ) (NY (NI hb62 θ) x65)⟩
theorem mO.bound (ok:mO t)(su:SU t (num t e0 0).1):∀z,(z∈(num t e0 0).1.frL\/z∈(num t e0 0).1.ths.flatMap BV\/∃q∈(num t e0 0).1.ths,q.Fr z)->z<=(num t e0 0).2+100:=by
 have H:=su.nr.shape;have G:BV (num t e0 0).1=(num t e0 0).1.frL++(num t e0 0).1.ths.flatMap BV:=by
  have:BV (num t e0 0).1=BV (resL (num t e0 0).1.frL (parL (num t e0 0).1.ths)):=by rw [<-H]
  rw [this,gD,gK]
 have key:∀z∈BV (num t e0 0).1,z<=(num t e0 0).2+100:=λz J=>((eV t e0 0).2 z J).2
 intro z J;rcases J with h | h | h
 ·exact key z (by rw [G];exact Pm _ h)
 ·exact key z (by rw [G];exact Pf _ h)
 ·rcases su.free z h with h | h
  ·exact key z (by rw [G];exact Pm _ h)
  ·omega
theorem KC (hu:u=(num t e0 0).1)(hn0:n0=(num t e0 0).2)(ok:mO t)(su:SU t u)(hsz:u.size<=60)(h:rA b b2 n0 c w w1 acc M){bl:Nat}(hcl:w1.cell? ⟨b,2,none⟩=some (ptr bl))(hl:aC D w1 (td u) (ptr bl))(hD:∀g,D g->g≠b/\g< w.heap.size){i k:Nat}{e d x:Nat}{p q:U}{s:Bool}(hi:i< u.ths.length)(hk:k< u.ths.length)(hik:i≠k)(ho:Off.snd e d p∈offs u.ths[i])(hr:Off.rcv e x q s∈offs u.ths[k])
  {ι H:Nat} {vr vq:Value} (c403:w1.cell? ⟨ι,3,none⟩=some vr) (c402:w1.cell? ⟨ι,2,none⟩=some (iv d)) (χ:ι< w1.heap.size) (hMb:¬M ι) (hbb:ι≠b) (hvr:aC D w1 (td p) vr) (c108:∀j,j< 5->w1.cell? ⟨H,j,none⟩=(cX 63 e x vq s)[j]?) (hb108:H< w1.heap.size) (hMb2:¬M H) (hbb2:H≠b) (hvq:aC D w1 (td q) vq)
  {gone:Value} (hgone:eP (λg=>g< w1.heap.size/\¬(g=b\/M g)) w1 gone ((if s then [i]else [i,k]).map iv)) (hacc:acc.length<=1000000000) (hc:n0+c<=4294966000) {J:Sl}
  (hJ:∀w3 M',rA b b2 n0 (c+60) w w3 (acc++[Gj u i k p (q.map (Ff (NN u) q x d)) s]) M'->Kp w1 w3 (λg=>g=b\/M g)->(∀g,M' g->M g\/w1.heap.size<=g)->J w3):
  ∃V:Sl,∀α:World,α=World.drew w1->V α/\∃(ψ ω:Nat),ptr b=Value.pointer (some ⟨ψ,ω,none⟩)/\∃v127:Value,(∀w',V w'->World.cell? w' ⟨ψ,(ω+2),none⟩=some v127)/\∃(b128 o129:Nat),v127=Value.pointer (some ⟨b128,o129,none⟩)/\∃v130:Value,(∀w',V w'->World.cell? w' ⟨b128,(o129+0),none⟩=some v130)/\∃v131:Value,(∀w',V w'->World.cell? w' ⟨ι,3,none⟩=some v131)/\∃c132:UInt8,∃n133:Int,∃n134:Int,∃v135:Value,∃q136:Bool,(∀w',V w'->World.cell? w' ⟨H,0,none⟩=some (Value.int IntKind.u8 (UInt8.toNat c132))/\World.cell? w' ⟨H,1,none⟩=some (Value.int IntKind.i64 n133)/\World.cell? w' ⟨H,2,none⟩=some (Value.int IntKind.i64 n134)/\World.cell? w' ⟨H,3,none⟩=some v135/\World.cell? w' ⟨H,4,none⟩=some (Value.bool q136)/\True)/\∃n137:Int,(∀w',V w'->World.cell? w' ⟨ι,2,none⟩=some (Value.int IntKind.i64 n137))/\
   Sm 177 #[ptr b,(Value.agg #[(Value.int IntKind.u8 (UInt8.toNat c132)),(Value.int IntKind.i64 n133),(Value.int IntKind.i64 n134),v135,(Value.bool q136)]),(Value.int IntKind.i64 n137)] α (an [.v] fun(v138:Value) (Z:World)=>V Z/\ay v131=true/\ay v138=true/\∀(η:Nat) (G:World),η=Array.size (World.heap Z)->G=World.alloc Z (Obj.cells #[v131,v138] 146)->V G/\Sm 176 #[ptr b,gone,v130,(Value.slice (some ⟨η,0,none⟩) 2 2)] G (an [.s,.b] fun(ν:aB) (ξ:Bool) (β:World)=>V β/\Sm 99 #[(Value.pointer (some ⟨b2,0,none⟩)),(Value.string (ai ν)),(Value.bool ξ)] β (an [] fun(γ:World)=>V γ/\J γ))):=by
 have hb:=h.hb;have s0:=h.km.size;have φ:∀g,D g->¬M g:=λg hg hM=>by have :=(hD g hg).2;have :=(h.rs.mr g hM).1;omega
 obtain⟨bl',vo,vt,ts,e1,k2,k3,k4,k5,k6,k7,k8,k9⟩:=Ei su hl;cases e1;obtain⟨sU,_⟩:=aZ (su.smp _ (OP hi)) _ ho;have uqp:Uq p:=(su.ly hi sU (gH _ ho)).snd;have nrp:p.Nr:=sU.nr (su.nrs _ (OP hi));obtain⟨rU,_⟩:=aZ (su.smp _ (OP hk)) _ hr;have cU:=gH _ hr;have uqr:=su.ly hk rU cU;have uqq:Uq q:=uqr.rcv;have nrq:q.Nr:=rU.nr (su.nrs _ (OP hk));have hps:p.size<=60:=by have h1:=sU.size;have h2:=eO u _ (OP hi);simp only [Off.tm,T.size]at h1;omega
 have hqs:q.size<=60:=by have h1:=rU.size;have h2:=eO u _ (OP hk);simp only [Off.tm,T.size]at h1;omega
 have htp:=pJ p;have htq:=pJ q;have hbvq:=Is _ (OQ _) uqq nrq;have hbvl:=gZ q;have hql:(td q).1.length+(td q).2.bvs.length=(BV q).length:=by rw [<-hbvq,OM]
 have hq26:∀z∈BV q,26<=z:=λz hz=>su.ge z (Pf _ (PE.2 ⟨_,OP hk,cU.subset (OZ _ hz)⟩))
 have hMb':∀g,g< w.heap.size->g≠b->¬(g=b\/M g):=λg h1 h2 e=>e.elim h2 λhM=>by have :=(h.rs.mr g hM).1;omega
 have st:∀{w':World},Kp w1 w' (λg=>g=b\/M g)->∀{g:Nat},g< w1.heap.size->g≠b->¬M g->∀j,w'.cell? ⟨g,j,none⟩=w1.cell? ⟨g,j,none⟩:=λk g h1 h2 h3 j=>OG (w:=w1) (k.block g h1 λe=>e.elim h2 h3)
 refine⟨λw'=>Kp w1 w' (λg=>g=b\/M g)/\w'.cell? ⟨b,2,none⟩=some (ptr bl),λα hw124=>?_⟩;have θ:Ex w1 α:=hw124▸Ex.drew w1;have hbl:b< w1.heap.size:=by omega
 have S124:Kp w1 α (λg=>g=b\/M g)/\α.cell? ⟨b,2,none⟩=some (ptr bl):=⟨Kp.af θ _,by rw [θ.cell (show b< _ from hbl)];exact hcl⟩
 refine⟨S124,b,0,rfl,ptr bl,λw' k=>k.2,bl,0,rfl,vo,λw' k=>by rw [st k.1 k3 (hD _ k2).1 (φ _ k2)];exact k4,vr,λw' k=>by rw [st k.1 χ hbb hMb];exact c403,63,e,x,vq,s,λw' k=>?_,d,λw' k=>by rw [st k.1 χ hbb hMb];exact c402,?_⟩
 ·have hc:∀j,j< 5->w'.cell? ⟨H,j,none⟩=(cX 63 e x vq s)[j]?:=λj hj=>by rw [st k.1 hb108 hbb2 hMb2];exact c108 j hj
  exact⟨hc 0 (by omega),hc 1 (by omega),hc 2 (by omega),hc 3 (by omega),hc 4 (by omega),trivial⟩
 have μ:=h.ex θ;obtain⟨n,mn,hn1,hn2⟩:=μ.mc;refine LG mn (aC.ex hvq θ) (λg hg=>(hD g hg).1) (Ej q) (Dl uqq hq26) (by omega) (by omega) λv138 Z F' n' ζ mk139 W l139=>?_
 have ο:Kp w1 Z (λg=>g=b\/M g):=Kp.trans (Kp.af θ _) (Kp.mono (λ _ e=> .inl e) ζ.kp) λ _ _ h=>h
 have c139:Z.cell? ⟨b,2,none⟩=some (ptr bl):=by rw [ζ.ce 2 (by omega)];exact S124.2
 refine⟨⟨ο,c139⟩,hvr.one,l139.one,λη G hb140 κ=>?_⟩;have δ:Ex Z G:=κ▸Ex.alloc _ _;have s141:G.heap.size=Z.heap.size+1:=by rw [κ,size_alloc]
 have s139:=ο.size;have ε:Kp w1 G (λg=>g=b\/M g):=Kp.trans ο (Kp.af δ λ _=>False) λ _ _ h=>h.elim
 have ς:G.cell? ⟨b,2,none⟩=some (ptr bl):=by rw [δ.cell (show b< _ by omega)];exact c139
 refine⟨⟨ε,ς⟩,?_⟩;have rl:=W.len;rw [OM]at rl;have r141:rA b b2 n0 (c+60) w G acc M:=by
  have km:Km b w Z:=Km.trans μ.km ζ;exact⟨km.out (Kp.af δ λ _=>False) (λ _ _ h=>h) hb,(μ.rs.kp ζ.kp λg hM e=>μ.nb (e▸hM)).kp (Kp.af δ λ _=>False) λ _ _ h=>h,⟨n',mk139.ex δ,by have :=W.le;omega,by omega⟩,hb⟩
 have hF:I0 (n+100) q x d F':=by
  rw [hbvq]at W;refine⟨?_,λz h1 h2=>?_,λz hz=>(W.rng z hz).1,λz hz y hy e=>W.inj z hz y hy e⟩
  ·rw [W.out x uqr.lQ];simp [aI]
  ·rw [W.out z h2];simp [aI,h1]
 have hNn:∀z,(z∈u.frL\/z∈u.ths.flatMap BV\/∃q∈u.ths,q.Fr z)->z<=n+100:=λz hz=>by
  subst hu;have :=mO.bound ok su z hz;omega
 have hcok:=sM w1 ok su hi hk hik ho hr hF hNn (by omega);have υ:=Fg w1 ok su hi hk hik ho hr hF hNn (by omega) (Dd (NN u) d uqr.lQ) su.bound (by unfold NN;omega);have ezs:([((td p),p),(Lv.eE F' (td q),q.map F')]:List ((List Nat×Lv)×U)).map (·.2)=[p,q.map F']:=rfl;have s1:=h.km.size;have hm2:eP (λg=>g< G.heap.size) G (.slice (some ⟨η,0,none⟩) 2 2) [vr,v138]:=OD hb140 κ;have hlS:aC (λg=>g< G.heap.size) G (td u) (ptr bl):=aC.sub (aC.kp hl ε λg hg e=>e.elim (hD g hg).1 (φ g hg)) λg hg _=>hg
 have hvoS:eP (λg=>g< G.heap.size) G vo (u.frL.map iv):=(k6.kp ε λg hg e=>e.elim (hD g hg).1 (φ g hg)).sub λg hg _=>hg
 have hvrS:aC (λg=>g< G.heap.size) G (td p) vr:=aC.sub (aC.kp hvr ε λg hg e=>e.elim (hD g hg).1 (φ g hg)) λg hg _=>hg
 have hv138:aC (λg=>g< G.heap.size) G (Lv.eE F' (td q)) v138:=aC.sub (aC.ex l139 δ) λg hg _=>hg
 have hgS:eP (λg=>g< G.heap.size) G gone ((if s then [i]else [i,k]).map iv):=(hgone.kp ε λg hg=>hg.2).sub λg hg _=>hg
 have hlen:(joinL ([((td p),p),(Lv.eE F' (td q),q.map F')].map (·.1):List (List Nat×Lv))).1.length+(joinL ([((td p),p),(Lv.eE F' (td q),q.map F')].map (·.1):List (List Nat×Lv))).2.tot<=1000000:=by
  simp only [Pk,QL,joinL,OM,O8,OX,Lv.cn,ku,Lv.tot];omega
 have hz:∀z∈([((td p),p),(Lv.eE F' (td q),q.map F')]:List ((List Nat×Lv)×U)),Pc z.1 z.2:=λz hz=>by
  rcases O4.1 hz with rfl | hz
  ·exact Pc.nr uqp nrp
  ·cases OO.1 hz;exact Pc.map F' uqq nrq
 have hms:aP (λL v=>aC (λg=>g< G.heap.size) G L v) ([((td p),p),(Lv.eE F' (td q),q.map F')].map (·.1):List (List Nat×Lv)) [vr,v138]:=aP.cons hvrS (aP.cons hv138 aP.M9);have kJ:∀w',Kp G w' M->Kp w1 w' (λg=>g=b\/M g)/\w'.cell? ⟨b,2,none⟩=some (ptr bl):=λw' k=>⟨Kp.trans ε k λ _ _ h=> .inr h,by rw [OG (w:=G) (k.block b (by omega) h.nb)];exact ς⟩
 have aft:∀{P:Nat->Bool} {gl:List Nat},eP (λg=>g< G.heap.size) G gone (gl.map iv)->gl.length<=2->(∀j,P j=decide (j∈gl))->Nu (resL u.frL (parL (kG P u.ths 0++[p,q.map F'])))->kL (resL u.frL (parL (kG P u.ths 0++[p,q.map F'])))=kL (Gj u i k p (q.map (Ff (NN u) q x d)) s)->
   Sm 176 #[ptr b,gone,vo,(Value.slice (some ⟨η,0,none⟩) 2 2)] G (an [.s,.b] fun(ν:aB) (ξ:Bool) (β:World)=>(Kp w1 β (λg=>g=b\/M g)/\β.cell? ⟨b,2,none⟩=some (ptr bl))/\Sm 99 #[(Value.pointer (some ⟨b2,0,none⟩)),(Value.string (ai ν)),(Value.bool ξ)] β (an [] fun(γ:World)=>(Kp w1 γ (λg=>g=b\/M g)/\γ.cell? ⟨b,2,none⟩=some (ptr bl))/\J γ)):=by
  intro P gl hg hgl hP hv hn;refine MY r141 hacc (λhR=>Bq su (by omega) (zs:=[((td p),p),(Lv.eE F' (td q),q.map F')]) (gl:=gl) (P:=P) (mvs:=[vr,v138]) ς (by omega) hlS hg (by omega) hvoS hm2 hms (by simp) hz hlen hP hv hn hR) kJ λw3 M' r3 k3 hM'=>hJ w3 M' r3 (kJ w3 k3).1 λg hg=>(hM' g hg).imp id λh=>by omega
 have egd:u.ths.getD k .nil=u.ths[k]:=cP hk;cases s
 ·have e1:kG (λn=>n==i||n==k) u.ths 0++[p,q.map F']=bM u.ths i k p (q.map F') false u.ths[k]:=by
   unfold bM;rw [C6];simp
  refine aft (P:=λn=>n==i||n==k) (gl:=[i,k]) hgS (by simp) (λj=>?_) (by rw [e1];exact hcok.1) (by rw [e1];unfold Gj;rw [egd];exact υ);simp [jP,Bool.decide_or]
 ·have e1:kG (λn=>n==i||n==i) u.ths 0++[p,q.map F']=wo u.ths i i++[p,q.map F']:=by rw [C6]
  have hp:=FC hi hk hik p (q.map F');refine aft (P:=λn=>n==i||n==i) (gl:=[i]) hgS (by simp) (λj=>?_) (by rw [e1];exact Ki hp.symm hcok.1) (by rw [e1];unfold Gj;rw [egd];exact(Hw hp).trans υ);simp [jP]
end
end Go.Proofs.YtdecokaadekjnaaGreat
