/- Part 4 of a proof of what the last text states; no condition. -/
import Derived.Test.YthekamjhgabkjaaGreatAg3
set_option maxRecDepth 100000
set_option maxHeartbeats 4000000
set_option linter.defProp false
set_option linter.unusedVariables false
set_option linter.unusedSimpArgs false
namespace Go.Proofs.YthekamjhgabkjaaGreat
open Go Go.RowKit
def aB.at {e B:Nat}{w:World}{g cap n j:Nat}{o:List Nat}(h:aB e B w (.slice (some ⟨g,0,none⟩) n cap) (o.map iv))(Z:j< o.length):w.cell? ⟨g,0+j,none⟩=some (iv o[j])/\w.frozen? ⟨g,0+j,none⟩=false/\g< w.heap.size/\n=o.length:=by
 have fr:=h.fr (g:=g) rfl (0+j);have hb:=h.block g rfl;rcases h.2 with⟨H,_⟩ | ⟨g',G,cur,J,β,hg,h1,h2,h3,h4⟩
 ·cases H
 ·cases J;refine⟨?_,fr,hb.2,by simp⟩;rcases h.Aq (D:=λ _=>True) λ _ _=>trivial with⟨H,_⟩ | ⟨b,off,G,J,_,_,hc⟩
  ·cases H
  ·cases J;exact hc j _ (by simp [Z])
def swp (π:List Nat)(a i:Nat)(ha:a< π.length)(hi:i< π.length):List Nat:=(π.set a π[i]).set i π[a]
def lF (π:List Nat)(a i:Nat)(ha:a< π.length)(hi:i< π.length)(H:a<=i):
  (swp π a i ha hi).Perm π/\(swp π a i ha hi).length=π.length/\(swp π a i ha hi).take (a+1)=π.take a++[π[i]]:=by
 have G:(swp π a i ha hi).Perm π:=by
  have :=List.set_set_perm hi ha;unfold swp;by_cases h:a=i
  ·subst h;simp
  ·rw [List.set_comm _ _ h];exact this
 have J:(swp π a i ha hi).length=π.length:=G.length_eq;refine⟨G,J,?_⟩;rw [NG (by omega)]
 congr 1
 ·unfold swp;rw [PF (by omega),PF (by omega)]
 ·unfold swp;by_cases h:a=i
  ·subst h;simp
  ·simp [List.getElem_set,Qu h]
def H4 (π:List Nat)(a:Nat)(ha:a< π.length)(σ:List Nat):
  (∃i,∃hi:i< π.length,a<=i/\∃τ:List Nat,τ.Perm ((swp π a i ha hi).drop (a+1))/\σ=(swp π a i ha hi).take (a+1)++τ)↔∃τ:List Nat,τ.Perm (π.drop a)/\σ=π.take a++τ:=by
 have key:∀i (hi:i< π.length),a<=i->(π[i]::(swp π a i ha hi).drop (a+1)).Perm (π.drop a):=λi hi G=>by
  obtain⟨h1,J,H⟩:=lF π a i ha hi G;have h4:(π.take a++(π[i]::(swp π a i ha hi).drop (a+1))).Perm (π.take a++π.drop a):=by
   rw [OL,List.append_cons,<-H,OL];exact h1
  exact(List.perm_append_left_iff _).1 h4
 constructor
 ·rintro⟨i,hi,G,τ,h1,rfl⟩
  obtain⟨J,H,h4⟩:=lF π a i ha hi G;refine⟨π[i]::τ,(h1.cons _).trans (key i hi G),?_⟩;rw [h4,Oi];rfl
 ·rintro⟨τ,h1,rfl⟩
  cases τ with
  | nil=>have :=h1.length_eq;rw [O3]at this;simp at this;omega
  | cons y τ=>
   have Z:=h1.subset (Oa ..);obtain⟨j,hj,e⟩:=OG.1 Z;rw [O3]at hj;rw [List.getElem_drop]at e;have hi:a+j< π.length:=by omega
   obtain⟨J,H,h4⟩:=lF π a (a+j) ha hi (by omega);refine⟨a+j,hi,by omega,τ,?_,?_⟩
   ·have :=key (a+j) hi (by omega);rw [e]at this;exact(List.perm_cons y).1 (h1.trans this.symm)
   ·rw [h4,e,Oi];rfl
def KN (π:List Nat)(a i:Nat)(ha:a< π.length)(hi:i< π.length)(h1:i< (swp π a i ha hi).length)(G:a< (swp π a i ha hi).length):(swp π a i ha hi)[i]=π[a]/\(swp π a i ha hi)[a]=π[i]:=by
 simp only [swp,List.getElem_set];refine⟨N' trivial,?_⟩;by_cases h:i=a
 ·subst h;simp
 ·simp [h]
def Nb (B:Nat)(v:Value)(o:List Nat)(Inv:List (List Nat)->QU)(f:Nat)(ca:List Value):Prop:=
 ∀(acc:List (List Nat)) (π:List Nat) (w:World),Inv acc w->aB 3 B w v (π.map iv)->π.Perm o->∀{R:QU},(∀w',Inv (acc++[π]) w'->aB 3 B w' v (π.map iv)->R w')->QV f (List.toArray ca) w (ax [] R)
def Ak {B:Nat}{v:Value}{o:List Nat}{Inv:List (List Nat)->QU}{f:Nat}{ca:List Value}(hf:hasR ga f=true)(ς:Nb B v o Inv f ca)(hinv:∀acc w w',Inv acc w->Kp w w' (λg=>v.ownBlock=some g)->Inv acc w')(ho:o.length<=1099511627776):
  ∀(d:Nat) (a:Nat) (π:List Nat) (acc:List (List Nat)) (w:World),a+d=π.length->Inv acc w->aB 3 B w v (π.map iv)->π.Perm o->∀{R:QU},
   (∀w' ι,Inv (acc++ι) w'->aB 3 B w' v (π.map iv)->(∀σ,σ∈ι↔∃τ:List Nat,τ.Perm (π.drop a)/\σ=π.take a++τ)->R w')->
   QV 225 #[v,iv a,.func (.func f) #[] (List.toArray ca)] w (ax [] R)
 | 0,a,π,acc,w,hd,hI,hw,hp,R,hR=>by
  refine lu v a _ w R ?_;dsimp only [go_sem];obtain⟨ad,cap,hv⟩:=(hw.Aq (D:=λ _=>True) λ _ _=>trivial).slice;rw [NH]at hv;refine⟨ad,_,cap,hv,cL (by omega) ⟨f,ca,rfl,hf,?_⟩⟩;rw [Om];refine ς acc π w hI hw hp λw' hI' hw'=>hR w' [π] hI' hw' λσ=>?_
  rw [show a=π.length by omega,Po,Od];simp only [NT,List.perm_nil];constructor
  ·rintro rfl;exact⟨[],rfl,by simp⟩
  ·rintro⟨τ,rfl,rfl⟩;simp
 | d+1,a,π,acc,w,hd,hI,hw,hp,R,hR=>by
  refine lu v a _ w R ?_;dsimp only [go_sem];dsimp only [go_sem,Nat.reduceAdd];have ha:a< π.length:=by omega
  have hpl:=hp.length_eq;obtain⟨g,cap,hv⟩:∃g cap,v= .slice (some ⟨g,0,none⟩) π.length cap:=by
   rcases hw.2 with⟨_,h0⟩ | ⟨g,cap,cur,hv,_⟩
   ·rw [NH]at h0;omega
   ·rw [NH]at hv;exact⟨g,cap,hv⟩
  subst hv;have kg:∀{w1 w2:World} {j:Nat} {x:Value},w2=w1.setCell ⟨g,j,none⟩ x->Kp w1 w2 (λb=>(Value.slice (some ⟨g,0,none⟩) π.length cap).ownBlock=some b):=λh=>h▸Kp.mono (λb hb=>by rw [hb];rfl) (Kr.set _ _ _)
  refine⟨_,_,cap,rfl,aR (by omega) ⟨λi w'=>∃(j:Nat) (G:List (List Nat)),i=j/\a<=j/\j<=π.length/\Inv (acc++G) w'/\aB 3 B w' (.slice (some ⟨g,0,none⟩) π.length cap) (π.map iv)/\∀σ,σ∈G↔∃i,∃hi:i< π.length,(a<=i/\i< j)/\∃τ:List Nat,τ.Perm ((swp π a i ha hi).drop (a+1))/\σ=(swp π a i ha hi).take (a+1)++τ,
   λi _=>(π.length - i).toNat,⟨a,[],rfl,ND _,by omega,by rw [N9];exact hI,hw,λσ=>⟨λh=>(by cases h),fun⟨i,_,h,_⟩=>by omega⟩⟩,λi μ hJ=>?_⟩⟩
  obtain⟨j,G,rfl,υ,hjl,φ,ζ,κ⟩:=hJ;refine⟨_,_,cap,rfl,λhlt=>?_,λhge=>?_⟩;rotate_left
  ·have:j=π.length:=by simp only [NQ]at hge;omega
   refine hR μ G φ ζ λσ=>?_
   rw [κ,<-H4 π a ha];constructor
   ·rintro⟨i,hi,⟨h1,_⟩,h2⟩;exact⟨i,hi,h1,h2⟩
   ·rintro⟨i,hi,h1,h2⟩;exact⟨i,hi,⟨h1,by omega⟩,h2⟩
  have H:=oL hlt;obtain⟨cj,fj,hgb,_⟩:=ζ.at H;obtain⟨ca',fa,_,_⟩:=ζ.at ha;obtain⟨s1,s2,s3⟩:=lF π a j ha H υ;refine⟨λw'=>aB 3 B w' (.slice (some ⟨g,0,none⟩) π.length cap) (π.map iv),λw18 χ=>?_⟩;have ψ:Ex μ w18:=χ▸Ex.drew μ;have η:=ζ.kp (Kp.ah ψ λ _=>False) λ _ _ h=>h
  have I18:=hinv _ _ _ φ (Kp.ah ψ _);refine⟨η,g,0,_,cap,rfl,by omega,by omega,π[j],λw' ho=>by rw [NF,N7];exact(ho.at H).1,g,0,_,cap,rfl,by omega,by omega,π[a],λw' ho=>by rw [NF,N7];exact(ho.at ha).1,g,0,_,cap,rfl,by omega,by omega,⟨⟨_,by rw [NF,N7];exact(η.at ha).1⟩,by rw [NF,N7];exact(η.at ha).2.1⟩,λw34 β=>?_⟩;rw [NF,N7,N2]at β;have ν:=η.set β (by simpa using ha);rw [<-PU]at ν;have ω:j< (π.set a π[j]).length:=by rw [OT];exact H
  obtain⟨c34,f34,_,_⟩:=ν.at ω;refine⟨g,0,_,cap,rfl,by omega,by omega,⟨⟨_,by rw [NF,N7];exact c34⟩,by rw [NF,N7];exact f34⟩,λw40 γ=>⟨by omega,?_⟩⟩;rw [NF,N7,N2]at γ;have o40:=ν.set γ (by simpa using H);rw [<-PU]at o40;have o40':aB 3 B w40 (.slice (some ⟨g,0,none⟩) π.length cap) ((swp π a j ha H).map iv):=o40;have I40:=hinv _ _ _ (hinv _ _ _ I18 (kg β)) (kg γ);refine Ak hf ς hinv ho d (a+1) (swp π a j ha H) (acc++G) w40 (by omega) I40 o40' (s1.trans hp) λw41 acc2 I41 o41 hm2=>?_
  have Z:j< (swp π a j ha H).length:=by omega
  have J:a< (swp π a j ha H).length:=by omega
  obtain⟨ej,ea⟩:=KN π a j ha H Z J;refine⟨λw'=>aB 3 B w' (.slice (some ⟨g,0,none⟩) π.length cap) ((swp π a j ha H).map iv),λw43 hw43=>?_⟩;have x43:Ex w41 w43:=hw43▸Ex.drew w41;have θ:=o41.kp (Kp.ah x43 λ _=>False) λ _ _ h=>h
  have I43:=hinv _ _ _ I41 (Kp.ah x43 _);refine⟨θ,g,0,_,cap,rfl,by omega,by omega,((swp π a j ha H)[j]:Nat),λw' ho=>by rw [NF,N7];exact(ho.at Z).1,g,0,_,cap,rfl,by omega,by omega,((swp π a j ha H)[a]:Nat),λw' ho=>by rw [NF,N7];exact(ho.at J).1,g,0,_,cap,rfl,by omega,by omega,⟨⟨_,by rw [NF,N7];exact(θ.at J).1⟩,by rw [NF,N7];exact(θ.at J).2.1⟩,λw59 δ=>?_⟩;rw [NF,N7,N2]at δ;have ξ:=θ.set δ (by rw [NH];exact J);rw [<-PU]at ξ;have hj59:j< ((swp π a j ha H).set a (swp π a j ha H)[j]).length:=by rw [OT];exact Z
  obtain⟨c59,f59,_,_⟩:=ξ.at hj59;refine⟨g,0,_,cap,rfl,by omega,by omega,⟨⟨_,by rw [NF,N7];exact c59⟩,by rw [NF,N7];exact f59⟩,λw65 ε=>⟨by omega,⟨j+1,G++acc2,by omega,by omega,by omega,?_,?_,λσ=>?_⟩,tN (by omega)⟩⟩
  ·rw [<-Oi];exact hinv _ _ _ (hinv _ _ _ I43 (kg δ)) (kg ε)
  ·rw [NF,N7,N2]at ε;have ο:=ξ.set ε (by rw [NH,OT];exact Z);rw [<-PU]at ο;have e:((swp π a j ha H).set a (swp π a j ha H)[j]).set j (swp π a j ha H)[a]=π:=by
    rw [ej,ea];unfold swp;apply PW
    ·simp
    ·intro k h1 h2;simp only [List.getElem_set];split
     ·rename_i h;subst h;rfl
     ·split
      ·rename_i h;subst h;rfl
      ·rfl
   rw [e]at ο;exact ο
  ·rw [NI,κ,hm2];constructor
   ·rintro(⟨i,hi,⟨h1,h2⟩,h3⟩ | ⟨τ,h1,h2⟩)
    ·exact⟨i,hi,⟨h1,by omega⟩,h3⟩
    ·exact⟨j,H,⟨υ,by omega⟩,τ,h1,h2⟩
   ·rintro⟨i,hi,⟨h1,h2⟩,h3⟩
    by_cases h:i=j
    ·subst h;right;exact h3
    ·left;exact⟨i,hi,⟨h1,by omega⟩,h3⟩
structure za (w:World)(b30 b3 b5 b16 b18 nn:Nat)(vo vl:Value)(x:UInt32)(best:Tx):Prop where
 l:∀b,(b=b30\/b=b3\/b=b5\/b=b16\/b=b18)->b< w.heap.size
 c30:w.cell? ⟨b30,0,none⟩=some vo
 c3:w.cell? ⟨b3,0,none⟩=some (ptr nn)
 c5:w.cell? ⟨b5,0,none⟩=some vl
 c16:w.cell? ⟨b16,0,none⟩=some (.string (ay best))
 c18:w.cell? ⟨b18,0,none⟩=some (.int .u32 x.toNat)
 f16:w.frozen? ⟨b16,0,none⟩=false
 ne:b16≠b30/\b16≠b3/\b16≠b5/\b16≠b18
section
variable {w w':World} {b30 b3 b5 b16 b18 nn:Nat} {vo vl:Value} {x:UInt32} {best best':Tx} {S:Nat->Prop}
def za.kp (h:za w b30 b3 b5 b16 b18 nn vo vl x best)(k:Kp w w' S)(G:∀b,(b=b30\/b=b3\/b=b5\/b=b16\/b=b18)->¬S b):za w' b30 b3 b5 b16 b18 nn vo vl x best:=by
 have e:∀b,(b=b30\/b=b3\/b=b5\/b=b16\/b=b18)->w'.heap[b]?=w.heap[b]?:=λb hb=>k.block b (h.l b hb) (G b hb)
 exact⟨λb hb=>N0 (h.l b hb) k.size,by rw [Nw (w:=w) (e b30 (by simp))];exact h.c30,by rw [Nw (w:=w) (e b3 (by simp))];exact h.c3,by rw [Nw (w:=w) (e b5 (by simp))];exact h.c5,
  by rw [Nw (w:=w) (e b16 (by simp))];exact h.c16,by rw [Nw (w:=w) (e b18 (by simp))];exact h.c18,by rw [N5 (w:=w) (e b16 (by simp))];exact h.f16,h.ne⟩
def za.ex (h:za w b30 b3 b5 b16 b18 nn vo vl x best)(k:Ex w w'):za w' b30 b3 b5 b16 b18 nn vo vl x best:=h.kp (Kp.ah k λ _=>False) λ _ _ h=>h
def za.F0 (h:za w b30 b3 b5 b16 b18 nn vo vl x best)(hw:w'=w.setCell ⟨b16,0,none⟩ (.string (ay best'))):za w' b30 b3 b5 b16 b18 nn vo vl x best':=by
 subst hw;have k:=Kr.set (r:=b16) w 0 (.string (ay best'));have ne:∀b,b16≠b->(w.setCell ⟨b16,0,none⟩ (.string (ay best'))).cell? ⟨b,0,none⟩=w.cell? ⟨b,0,none⟩:=λb hb=>NC _ _ _ _ (λe=>by injection e with Z e2;omega)
 obtain⟨n1,G,H,J⟩:=h.ne;exact⟨λb hb=>N0 (h.l b hb) k.size,by rw [ne _ n1];exact h.c30,by rw [ne _ G];exact h.c3,by rw [ne _ H];exact h.c5,NW _ _ _ h.c16,by rw [ne _ J];exact h.c18,by rw [NY];exact h.f16,h.ne⟩
end
def np (l:Lv)(ls:List UInt8)(ρ:Rh)(tk:Tk)(π:List Nat):Tx:=wrap ls []++joinS 38 (bk (thS l (asg π ls ρ) (addK ls tk)))
def EK (c:UInt8)(l:List UInt8):wrap (c::l) []=[35]++[c]++[46]++wrap l []:=rfl
def GG {n:Nat}(ht:Is n){D:Nat->Prop}{w:World}{b30 b3 b5 b16 b18 nn r:Nat}{vo vl:Value}{x:UInt32}{best:Tx}{o π:List Nat}{l:Lv}{ρ:Rh}{tk:Tk}{bad:Bool}{B:Nat}(hs:za w b30 b3 b5 b16 b18 nn vo vl x best)
  (hb:∀b,(b=b30\/b=b3\/b=b5\/b=b16\/b=b18)->¬(b=nn\/b=r)) (ho:aB 3 B w vo (π.map iv)) (hob:∀g,vo.ownBlock=some g->¬(g=nn\/g=r)) (hp:π.Perm o) (hN:Nm w nn r ρ tk bad) (hx:po x tk)
  (hn:l.sz<=n) (hsh:l.sh true=true) (hsm:l.sm=true) (huq:ur o l) (h:gg D w vl o (ab D w l)) (hD:∀g,D g->¬(g=nn\/g=r)) (hne:l.isNil=false) (htot:o.length+l.tot<=4294967296) {R:QU}
  (hR:∀w' ρ' best',Kp w w' (λg=>g=nn\/g=r\/g=b16)->za w' b30 b3 b5 b16 b18 nn vo vl x best'->Nm w' nn r ρ' tk (bad||(gi o.length tk||thBad l (addK (lets o.length tk) tk)))->(∀z,z∉o->z∉l.bvs->ρ' z=ρ z)->
   best'=(if best=[]\/np l (lets o.length tk) ρ tk π< best then np l (lets o.length tk) ρ tk π else best)->R w'):
  QV 226 #[ptr b30,ptr b3,ptr b5,ptr b16,ptr b18] w (ax [] R):=by
 refine jU _ _ _ _ _ w R ?_;dsimp only [go_sem];dsimp only [go_sem,Nat.reduceAdd];have χ:=hp.length_eq;obtain⟨ao,capo,hvo⟩:=(ho.Aq (D:=λ _=>True) λ _ _=>trivial).slice;rw [NH]at hvo;have hge:=huq.ge;refine⟨b30,0,rfl,vo,hs.c30,ao,_,capo,hvo,λhd y w'=>∃(j:Nat) (H:Rh) (G:Tk) (J:Bool),y=j/\j<=π.length/\Kn nn r w w'/\Nm w' nn r H G J/\hd.length=3* j/\asg (π.drop j) (lets (π.length - j) G) H=asg π (lets o.length tk) ρ/\addK (lets (π.length - j) G) G=addK (lets o.length tk) tk/\
   (J||gi (π.length - j) G)=(bad||gi o.length tk)/\hd++wrap (lets (π.length - j) G) []=wrap (lets o.length tk) []/\∀z,z∉o->H z=ρ z,λ _ y _=>(π.length - y).toNat,⟨0,ρ,tk,bad,rfl,OA _,Kn.ex (Ex.refl w),hN,rfl,by rw [Pu,QD,χ],by rw [QD,χ],by rw [QD,χ],by rw [QD,χ];rfl,λ _ _=>rfl⟩,λhd y ψ hI=>?_⟩
 obtain⟨j,H,G,J,rfl,hj,ξ,n16,hhd,e1,e2,e3,e4,e5⟩:=hI;have s16:za ψ b30 b3 b5 b16 b18 nn vo vl x best:=hs.kp ξ hb;refine⟨λhlt=>?_,λhge2=>?_⟩
 ·have κ:=oL hlt;obtain⟨g,cap,hvo2⟩:∃g cap,vo= .slice (some ⟨g,0,none⟩) π.length cap:=by
   rcases ho.2 with⟨_,h0⟩ | ⟨g,cap,cur,hv,_⟩
   ·rw [NH]at h0;omega
   ·rw [NH]at hv;exact⟨g,cap,hv⟩
  have o16:=ho.kp ξ λg hg=>hob g hg
  have hx26:26<=π[j]:=hge _ (Ob _ (hp.subset (NO κ)));have ε:ψ.cell? ⟨g,0+Int.toNat (j:Int)* 1,none⟩=some (iv π[j]):=by
   rw [hvo2]at o16;rw [NF,N7];exact(o16.at κ).1
  refine⟨g,0,_,cap,hvo2,by omega,by omega,π[j],ε,b3,0,rfl,ptr nn,s16.c3,GI n16 hx26 λy' w26 _ k26 n26=>⟨b3,0,rfl,ptr nn,(s16.kp k26 hb).c3,jy n26 ⟨by simp,by simp,?_,by omega,⟨j+1,_,_,_,by omega,by omega,Kn.trans ξ k26,n26,?_,?_,?_,?_,?_,λz hz=>?_⟩,tN (by omega)⟩⟩⟩
  all_goals have ed:π.drop j=π[j]::π.drop (j+1):=Oq κ
  all_goals have el:π.length - j=(π.length - (j+1))+1:=by omega
  all_goals rw [el]at e1 e2 e3 e4
  ·simp;omega
  ·simp;omega
  ·rw [ed]at e1;exact e1
  ·exact e2
  ·rw [<-e3];simp only [gi,Pa]
  ·rw [<-e4,lets,EK];simp [aG]
  ·rw [<-e5 z hz];refine NS λe=>hz ?_
   rw [e];exact hp.subset (NO κ)
 ·have κ:=oE hge2 (by omega);subst κ;rw [Nat.sub_self]at e1 e2 e3 e4;rw [Po]at e1;simp only [lets,asg,addK,gi,wrap,PV,N9]at e1 e2 e3 e4;intro b32 w33 hb32 hw33;have x33:Ex ψ w33:=hw33▸Ex.alloc ψ _;have s33:=s16.ex x33;have n33:=n16.ex x33;have k33:Kn nn r w w33:=Kn.trans ξ (Kn.ex x33);obtain⟨bl,vo2,vt,ts,rfl,h2,h3,h4,h5,h6,h7,h8⟩:=h;obtain⟨at_,capt,hvt⟩:=h7.slice;have hlen:=h8.len;have hel:=Lv.cA l;have hlt:=bK l;have hbl:=hD bl h2;have sz33:=k33.size;have hlb:∀b,(b=b30\/b=b3\/b=b5\/b=b16\/b=b18)->b< w.heap.size:=hs.l;refine⟨b5,0,rfl,ptr bl,s33.c5,bl,0,rfl,vt,by rw [Nw (w:=w) (k33.block bl h3 hbl)];exact h5,at_,_,capt,hvt,λtx y w'=>∃(j:Nat) (β:Rh),y=j/\j<=ts.length/\Kn nn r w w'/\Nm w' nn r β G (J||thBad (l.take j) G)/\(∀z,z∉(l.take j).bvs->β z=H z)/\Own w.heap.size w' tx (thS (l.take j) H G),
   λ _ y _=>(ts.length - y).toNat,⟨0,H,rfl,OA _,k33,by simpa [Lv.take,thBad]using n33,λ _ _=>rfl,Own.none (by have :=ξ.size;omega) hb32 hw33⟩,λtx y w47 hI=>?_⟩
  obtain⟨j,β,rfl,hj,ο,n47,η,θ⟩:=hI;have hnl:=hN.lt;have hnr:=hN.lr;have Z:∀g',tx.ownBlock=some g'->w.heap.size<=g':=λg' h'=>(θ.block g' h').1
  refine⟨λhlt2=>?_,λhge3=>?_⟩
  ·have ω:=oL hlt2;have hje:j< l.bc.length:=by omega
   have s47:za w47 b30 b3 b5 b16 b18 nn vo (ptr bl) x best:=hs.kp ο hb;obtain⟨bu,ou,ζ,hvu',hcu⟩:∃bu ou ζ,vt= .slice (some ⟨bu,ou,none⟩) ts.length ζ/\w47.cell? ⟨bu,ou+j,none⟩=some ts[j]:=by
    rcases h7 with⟨_,h0⟩ | ⟨bt,ot,capt',e,hbD,hb',ε⟩
    ·rw [h0]at ω;simp at ω
    ·exact⟨bt,ot,capt',e,by rw [Nw (w:=w) (ο.block bt hb' (hD bt hbD))];exact ε j _ (Ny ω)⟩
   obtain⟨e,hf1,μ,hf3⟩:=aO.single h8.bc (Ny ω);have hf4:l.bc[j]=e:=by rw [Ny hje]at hf1;exact Oh hf1
   have ι:=Lv.take_succ l j hje;rw [hf4]at ι;have hsz2:=Lv.eA l e μ;have htot2:=Lv.gd l e μ;have hfe:thS e β G=thS e H G:=tK e β H G λz hz=>η z λhb=>huq.nf z (Lv.ln l j z hb) (Lv.px l e μ hz)
   refine⟨bu,ou,_,ζ,hvu',by omega,by omega,ts[j],by rw [NF,N7];exact hcu,b3,0,rfl,ptr nn,s47.c3,?_⟩;refine ht (by omega) (Lv.jB hsh e μ) (Lv.sj hsm e μ) (huq.bc μ) (hf3.kp ο hD) hD n47 (by omega) λt w57 ρ3 hthS k57 n57 hρ3 b58 w59 hb58 hw59=>?_
   have x59:Ex w57 w59:=hw59▸Ex.alloc w57 _;have k1:Kn nn r w w57:=Kn.trans ο k57;have ho59:Own w.heap.size w59 tx (thS (l.take j) H G):=(θ.kp k57 λg' h'=>(by have :=Z g' h';omega)).ex x59;have hl3:(thS (l.take j) H G).length<=ts.length:=by
    rw [bw];have :=Lv.gR l j;omega
   refine Own.push ho59 (by have :=k1.size;have :=x59.size;omega) (Strs.one hb58 hw59) (by simp only [Nv,NR];omega) λv65 w66 _ ho66 hg66 _=>⟨by omega,⟨j+1,ρ3,by omega,by omega,?_,?_,?_,?_⟩,tN (by omega)⟩
   ·exact Kp.new (Kn.trans k1 (Kn.ex x59)) hg66 Z
   ·have e1:(J||thBad (l.take (j+1)) G)=(J||thBad (l.take j) G||thBad e G):=by rw [ι,cI,Pa]
    rw [e1];refine(n57.ex x59).kp (Kp.aF (S:=λg=>tx.ownBlock=some g) hg66 λ _ h=>h) (λh'=>by have :=Z _ h';omega) λh'=>by have :=Z _ h';omega
   ·intro z hz;rw [ι,Lv.bX,NI,QP]at hz;rw [hρ3 z hz.2,η z hz.1]
   ·rw [ι,gj,<-hfe,hthS];exact ho66
  ·have hjt:j=l.bc.length:=by simp only [NQ]at hge3;omega
   rw [hjt,Lv.cP]at n47 θ η;have hsum:=gh l H G;have hln:=bw l H G;have hne':thS l H G≠[]:=λe=>by
    rw [e]at hln;rw [Lv.cS]at hne;simp only [NR]at hln;simp [<-hln]at hne
   have eT:hd++joinS 38 (bk (thS l H G))=np l (lets o.length tk) ρ tk π:=by
    unfold np;rw [<-e4,<-e1,<-e2]
   have hjl2:=gM 38 (bk (thS l H G));rw [iA (aS _)]at hjl2;refine Ga θ hne' (by rw [hln];omega) (by omega) λν k68=>⟨by omega,?_⟩
   have ς:Kn nn r w ν:=Kp.trans ο k68 λg' hg' h'=>by have :=Z g' h';omega
   have γ:za ν b30 b3 b5 b16 b18 nn vo (ptr bl) x best:=hs.kp ς hb;have n68:Nm ν nn r β G (J||thBad l G):=n47.kp k68 (λh'=>by have :=Z _ h';omega) λh'=>by have :=Z _ h';omega
   have kq:∀{w1:World},Kn nn r w w1->Kp w w1 (λg=>g=nn\/g=r\/g=b16):=λk=>Kp.mono (λg hg=>hg.elim .inl λh=> .inr (.inl h)) k
   rw [eT];have fin:∀w1 best',Kp w w1 (λg=>g=nn\/g=r\/g=b16)->za w1 b30 b3 b5 b16 b18 nn vo (ptr bl) x best'->Nm w1 nn r β G (J||thBad l G)->best'=(if best=[]\/np l (lets o.length tk) ρ tk π< best then np l (lets o.length tk) ρ tk π else best)->
     ∃(b79 o80:Nat),ptr b3=Value.pointer (some ⟨b79,o80,none⟩)/\∃v81:Value,World.cell? w1 ⟨b79,o80,none⟩=some v81/\∃(b82 o83:Nat),ptr b18=Value.pointer (some ⟨b82,o83,none⟩)/\∃m84:UInt32,World.cell? w1 ⟨b82,o83,none⟩=some (Value.int IntKind.u32 (UInt32.toNat m84))/\∃(b85 o86:Nat),v81=Value.pointer (some ⟨b85,o86,none⟩)/\((∃u87:Value,World.cell? w1 ⟨b85,(o86+1),none⟩=some u87)/\World.frozen? w1 ⟨b85,(o86+1),none⟩=false)/\∀w88:World,w88=World.setCell w1 ⟨b85,(o86+1),none⟩ (Value.int IntKind.u32 (UInt32.toNat m84))->R w88:=by
    intro w1 best' k1 s1 n1 hbest;obtain⟨z,hz,_⟩:=n1.c1;refine⟨b3,0,rfl,ptr nn,s1.c3,b18,0,rfl,x,s1.c18,nn,0,rfl,⟨⟨_,hz⟩,n1.f 1⟩,λw88 υ=>hR w88 β best' ?_ ?_ ?_ (λz hz hz'=>?_) hbest⟩
    ·exact Kp.trans k1 (υ▸Kr.set _ _ _) λg _ e=> .inl e
    ·exact s1.kp (υ▸Kr.set w1 1 _) λb hb' e=>hb b hb' (.inl e)
    ·refine n1.set (tk':=tk) υ (.inl ⟨rfl,?_,x,rfl,hx⟩);rw [<-Pa,<-e3,<-e2]
    ·rw [η z hz',e5 z hz]
   have st:∀w1,w1=ν.setCell ⟨b16,0,none⟩ (.string (ay (np l (lets o.length tk) ρ tk π)))->Kp w w1 (λg=>g=nn\/g=r\/g=b16)/\za w1 b30 b3 b5 b16 b18 nn vo (ptr bl) x (np l (lets o.length tk) ρ tk π)/\Nm w1 nn r β G (J||thBad l G):=λw1 hw1=>by
    have kb:Kr b16 ν w1:=hw1▸Kr.set _ _ _;have h16:=hb b16 (by simp);exact⟨Kp.trans (kq ς) kb λg _ e=> .inr (.inr e),γ.F0 hw1,n68.kp kb (λe=>h16 (.inl e.symm)) λe=>h16 (.inr e.symm)⟩
   refine⟨b16,0,rfl,best,γ.c16,λφ=>?_,λφ=>?_⟩
   ·simp only [NQ]at φ;refine⟨b16,0,rfl,best,γ.c16,λδ=>⟨b16,0,rfl,⟨⟨_,γ.c16⟩,γ.f16⟩,λw78 hw78=>?_⟩,λδ=>?_⟩
    ·rw [PD,NL]at δ;obtain⟨k1,k2,k3⟩:=st w78 hw78;exact fin w78 _ k1 k2 k3 (by rw [N' (.inr δ)])
    ·rw [PD,NQ]at δ;exact fin ν best (kq ς) γ n68 (by rw [NS (λh=>h.elim φ δ)])
   ·simp only [NL]at φ;refine⟨b16,0,rfl,⟨⟨_,γ.c16⟩,γ.f16⟩,λw102 hw102=>?_⟩;obtain⟨k1,k2,k3⟩:=st w102 hw102;exact fin w102 _ k1 k2 k3 (by rw [N' (.inl φ)])
def Bx (a:Tx):bF [a]=a:=gv (by simp) λs G=>by simp at G;subst G;simp [jg]
def zQ {l:List Tx}(h:l≠[])(a:Tx):bF (l++[a])=if a< bF l then a else bF l:=by
 obtain⟨h1,J⟩:=ct h;split
 ·rename_i H;refine gv (by simp) λs G=>?_
  rcases NI.1 G with G | G
  ·refine gF _ _ _ ?_ (J s G);simp only [jg,NL];exact List.le_of_lt H
  ·simp at G;subst G;simp [jg]
 ·rename_i H;refine gv (Ob _ h1) λs G=>?_
  rcases NI.1 G with G | G
  ·exact J s G
  ·simp at G;subst G;simp only [jg,NL];exact List.not_lt.1 H
def HS {l:Lv}{o π:List Nat}(Z:π.Perm o)(H:ur o l){ls:List UInt8}(J:π.length=ls.length){ρ ρ':Rh}(h:∀z,z∉o->z∉l.bvs->ρ' z=ρ z)(tk:Tk):np l ls ρ' tk π=np l ls ρ tk π:=by
 unfold np;rw [tK l (asg π ls ρ') (asg π ls ρ) (addK ls tk) λz hz=>?_];by_cases G:z∈π
 ·exact xD π ls ρ' ρ z G J
 ·rw [bz _ _ _ _ G,bz _ _ _ _ G];exact h z (λh'=>G (Z.symm.subset h')) λhb=>H.nf z hb hz
structure OI (w w':World)(b30 b3 b5 b16 b18 nn r:Nat)(vo vl:Value)(x:UInt32)(o:List Nat)(l:Lv)(ρ:Rh)(tk:Tk)(bad:Bool)(acc:List (List Nat)):Prop where
 ex:∃(ρ':Rh) (best:Tx),za w' b30 b3 b5 b16 b18 nn vo vl x best/\Nm w' nn r ρ' tk (bad||(!acc.isEmpty&&(gi o.length tk||thBad l (addK (lets o.length tk) tk))))/\(∀z,z∉o->z∉l.bvs->ρ' z=ρ z)/\
  ((acc=[]/\best=[])\/(acc≠[]/\best=bF (acc.map (np l (lets o.length tk) ρ tk))))
 kn:Kn nn r w w'
def wK {n:Nat}(ht:Is n):Lx n:=by
 intro D w v o l nn r ρ tk bad R hn hsh hsm huq h hD hN htot hR;refine me (ptr nn) v w R ?_;dsimp only [go_sem];have hv1:=h.one;refine⟨rfl,λb3 w4 hb3 hw4=>⟨hv1,λb5 w6 hb5 hw6=>?_⟩⟩;have x4:Ex w w4:=hw4▸Ex.alloc w _;have x6':Ex w4 w6:=hw6▸Ex.alloc w4 _;have x6:Ex w w6:=Ex.trans x4 x6';have s4:w4.heap.size=w.heap.size+1:=by rw [hw4,size_alloc]
 have s6:w6.heap.size=w4.heap.size+1:=by rw [hw6,size_alloc]
 have c3:w6.cell? ⟨b3,0,none⟩=some (ptr nn):=by rw [x6'.cell (show b3< _ by omega),hw4,hb3];exact aa rfl
 have c5:w6.cell? ⟨b5,0,none⟩=some v:=by rw [hw6,hb5];exact aa rfl
 have hnl:=hN.lt;have hnr:=hN.lr;refine⟨v,c5,lV (gg.ex h x6) ⟨λhe=>?_,λhe=>?_⟩⟩
 ·have e:aQ o (thS l) ρ tk=[48]:=by
   unfold aQ;rw [N'];cases l<;>first | rfl | cases he
  rw [<-e];refine hR w6 ρ (Kn.ex x6) ?_ λ _ _ _=>rfl
  rw [he];simpa [gP]using hN.ex x6
 ·refine⟨λw'=>Ex w6 w',λw11 hw11=>?_⟩;have φ:Ex w6 w11:=hw11▸Ex.drew w6;have n11:=hN.ex (Ex.trans x6 φ);obtain⟨x,hx,hxt⟩:=(hN.ex x6).c1;have s11:=φ.size;have rest:∀(b16 b18:Nat) (G:World),Ex w6 G->G.cell? ⟨b16,0,none⟩=some (.string (ay []))->G.cell? ⟨b18,0,none⟩=some (.int .u32 x.toNat)->G.frozen? ⟨b16,0,none⟩=false->b16≠b18->w6.heap.size<=b16->w6.heap.size<=b18->b16< G.heap.size->b18< G.heap.size->
    ∃v24:Value,World.cell? G ⟨b5,0,none⟩=some v24/\∃(b25 o26:Nat),v24=Value.pointer (some ⟨b25,o26,none⟩)/\∃v27:Value,World.cell? G ⟨b25,(o26+0),none⟩=some v27/\QV 151 #[v27] G (ax [.v] fun(v28:Value) (ξ:World)=>∀(b30:Nat) (ε:World),b30=Array.size (World.heap ξ)->ε=World.alloc ξ (Obj.cells #[(Value.slice none 0 0)] 126)->oneV v28=true/\((∃u32:Value,World.cell? ε ⟨b30,0,none⟩=some u32)/\World.frozen? ε ⟨b30,0,none⟩=false)/\
     ∀ζ:World,ζ=World.setCell ε ⟨b30,0,none⟩ v28->∃v34:Value,World.cell? ζ ⟨b30,0,none⟩=some v34/\QV 225 #[v34,(Value.int IntKind.i64 0),(Value.func (Fn.func 226) #[] #[(Value.pointer (some ⟨b30,0,none⟩)),(Value.pointer (some ⟨b3,0,none⟩)),(Value.pointer (some ⟨b5,0,none⟩)),(Value.pointer (some ⟨b16,0,none⟩)),(Value.pointer (some ⟨b18,0,none⟩))])] ζ (ax [] fun(w35:World)=>∃s36:aH,World.cell? w35 ⟨b16,0,none⟩=some (Value.string (ay s36))/\R (s36) w35)):=by
   intro b16 b18 G ι c16 c18 f16 hne h16 h18 l16 l18;have h':=h;obtain⟨bl,vo,vt,ts,rfl,h2,h3,h4,h5,h6,h7,h8⟩:=h';have ς:Ex w G:=Ex.trans x6 ι;have c5':G.cell? ⟨b5,0,none⟩=some (ptr bl):=by rw [ι.cell (show b5< _ by omega)];exact c5
   have c3':G.cell? ⟨b3,0,none⟩=some (ptr nn):=by rw [ι.cell (show b3< _ by omega)];exact c3
   refine⟨ptr bl,c5',bl,0,rfl,vo,by rw [ς.cell (show bl< _ from h3)];exact h4,?_⟩;refine rN (h6.ex ς) (by omega) λv28 ξ x29 o29 b30 ε hb30 υ=>?_
   have x31:Ex ξ ε:=υ▸Ex.alloc ξ _;have s31:ε.heap.size=ξ.heap.size+1:=by rw [υ,size_alloc]
   have s29:=x29.size;have s23:=ι.size;have c30:ε.cell? ⟨b30,0,none⟩=some (.slice none 0 0):=by rw [υ,hb30];exact aa rfl
   have f30:ε.frozen? ⟨b30,0,none⟩=false:=by rw [υ,hb30];exact aV _ _ _ _
   refine⟨o29.qV,⟨⟨_,c30⟩,f30⟩,λζ hw33=>?_⟩;have k33:Kr b30 ε ζ:=hw33▸Kr.set _ _ _;have κ:Ex G ζ:=Ex.below (Ex.trans x29 x31) (Kp.below k33 (Ex.trans x29 x31).size λg hg e=>by omega);have hob:∀g,v28.ownBlock=some g->G.heap.size<=g/\g< ξ.heap.size:=o29.block;have o33:aB 3 G.heap.size ζ v28 (o.map iv):=(o29.kp (Kp.ah x31 λ _=>False) λ _ _ h=>h).kp k33 λg hg e=>by have :=hob g hg;omega
   have c30':ζ.cell? ⟨b30,0,none⟩=some v28:=by rw [hw33];exact NW _ _ _ c30
   have ds:za ζ b30 b3 b5 b16 b18 nn v28 (ptr bl) x []:=by
    have s33:=κ.size;have s33':=k33.size;refine⟨λb hb=>?_,c30',?_,?_,?_,?_,?_,by omega,by omega,by omega,hne⟩
    ·rcases hb with rfl | rfl | rfl | rfl | rfl<;>omega
    ·rw [κ.cell (show b3< _ by omega)];exact c3'
    ·rw [κ.cell (show b5< _ by omega)];exact c5'
    ·rw [κ.cell (show b16< _ by omega)];exact c16
    ·rw [κ.cell (show b18< _ by omega)];exact c18
    ·rw [Pw κ l16];exact f16
   have hbx:∀b,(b=b30\/b=b3\/b=b5\/b=b16\/b=b18)->w.heap.size<=b/\¬v28.ownBlock=some b:=λb hb=>by
    refine⟨by rcases hb with rfl | rfl | rfl | rfl | rfl<;>omega,λe=>?_⟩;have :=hob b e;rcases hb with rfl | rfl | rfl | rfl | rfl<;>omega
   have hlev:∀{w1:World},Kn nn r w w1->gg D w1 (ptr bl) o (ab D w1 l):=λk=>h.kp k hD λl h=>h.kp k hD
   have χ:∀g,v28.ownBlock=some g->¬(g=nn\/g=r):=λg hg=>by have :=hob g hg;omega
   refine⟨v28,c30',?_⟩;refine Ak (o:=o) (ca:=[ptr b30,ptr b3,ptr b5,ptr b16,ptr b18]) (Inv:=λacc w'=>OI w w' b30 b3 b5 b16 b18 nn r v28 (ptr bl) x o l ρ tk bad acc) (by kernel_rfl) ?_ ?_ (by omega) o.length 0 o [] ζ (by omega) ⟨⟨ρ,[],ds,?_,λ _ _ _=>rfl,.inl ⟨rfl,rfl⟩⟩,Kn.ex (Ex.trans ς κ)⟩ o33 (OY _) λw35 acc I35 o35 hacc=>?_
   ·intro acc π w1 hI how hp R' hR';obtain⟨⟨ρ1,best,d1,n1,e1,e2⟩,kn⟩:=hI;have hpl:=hp.length_eq;refine GG ht d1 (λb hb=>by have :=(hbx b hb).1;omega) how χ hp n1 hxt hn hsh hsm huq (hlev kn) hD he htot λw2 ρ2 best2 k2 d2 n2 e3 e4=>hR' w2 ⟨⟨ρ2,best2,d2,?_,λz hz hz'=>by rw [e3 z hz hz',e1 z hz hz'],?_⟩,?_⟩ ?_
    ·have:(bad||(!acc.isEmpty&&(gi o.length tk||thBad l (addK (lets o.length tk) tk)))||(gi o.length tk||thBad l (addK (lets o.length tk) tk)))=(bad||(!(acc++[π]).isEmpty&&(gi o.length tk||thBad l (addK (lets o.length tk) tk)))):=by
      cases acc<;>simp [Pa]
     rw [<-this];exact n2
    ·right;refine⟨by simp,?_⟩;have eT:=HS hp huq (ls:=lets o.length tk) (by rw [ft];exact hpl) e1 tk;rw [eT]at e4;rw [Oj];simp only [N4,PE];rcases e2 with⟨rfl,rfl⟩ | ⟨ha,rfl⟩
     ·rw [N' (.inl rfl)]at e4;rw [e4,PE,Om,Bx]
     ·rw [zQ (by simpa using ha),e4];have hne2:bF (acc.map (np l (lets o.length tk) ρ tk))≠[]:=by
       obtain⟨h1,_⟩:=ct (l:=acc.map (np l (lets o.length tk) ρ tk)) (by simpa using ha);obtain⟨σ,_,e⟩:=Oe.1 h1;rw [<-e];unfold np;intro e5;refine qf (pL ?_) (λt ht=>lS l hsm _ _ t ((aS _).subset ht)) (List.append_eq_nil_iff.1 e5).2;intro e6;have :=bw l (asg σ (lets o.length tk) ρ) (addK (lets o.length tk) tk);rw [e6]at this;rw [Lv.cS]at he;simp only [NR]at this;simp [<-this]at he
      simp only [hne2,QT]
    ·exact Kp.trans kn k2 λg hg e=>by have :=(hbx b16 (by simp)).1;omega
    ·exact how.kp k2 λg hg e=>by
      rcases e with e | e | e
      ·exact χ g hg (.inl e)
      ·exact χ g hg (.inr e)
      ·exact(hbx b16 (by simp)).2 (e▸hg)
   ·intro acc w1 w2 hI k;obtain⟨⟨ρ1,best,d1,n1,e1,e2⟩,kn⟩:=hI;refine⟨⟨ρ1,best,d1.kp k λb hb=>(hbx b hb).2,n1.kp k (λe=>χ nn e (.inl rfl)) λe=>χ r e (.inr rfl),e1,e2⟩,Kp.trans kn k λg hg e=>by have :=hob g e;omega⟩
   ·have :=hN.ex (Ex.trans ς κ);simpa using this
   ·obtain⟨⟨ρ1,best,d1,n1,e1,e2⟩,kn⟩:=I35;rw [Om]at n1 e2;have hmem:∀σ,σ∈acc↔σ.Perm o:=λσ=>by
     rw [hacc];simp only [Pu,List.take_zero,Om];exact⟨fun⟨τ,h,e⟩=>e▸h,λh=>⟨σ,h,rfl⟩⟩
    have ψ:acc≠[]:=λe=>by have :=(hmem o).2 (OY _);rw [e]at this;cases this
    have eb:best=aQ o (thS l) ρ tk:=by
     rcases e2 with⟨h0,_⟩ | ⟨_,rfl⟩
     ·exact absurd h0 ψ
     ·unfold aQ;have hemp:¬(thS l ρ tk).isEmpty=true:=λe=>by
       rw [List.isEmpty_iff_length_eq_zero,bw]at e;rw [Lv.cS]at he;simp [e]at he
      rw [NS hemp];show _=wrap _ (bF _);rw [A9,<-tU _ (λe=>oH o (Qc.1 e)),OJ];refine nT λs=>?_
      simp only [Oe,hmem,cH];rfl
    rw [<-eb]at hR;refine⟨best,d1.c16,hR w35 ρ1 kn ?_ e1⟩;have:(bad||(!acc.isEmpty&&(gi o.length tk||thBad l (addK (lets o.length tk) tk))))=(bad||gP o.length l.isNil (thBad l) tk):=by
     have:acc.isEmpty=false:=by cases acc<;>first | exact absurd rfl ψ | rfl
     rw [this,he];rfl
    rw [<-this];exact n1
  refine⟨φ,ptr nn,λw' x'=>by rw [x'.cell (show b3< _ by omega)];exact c3,nn,0,rfl,x,λw' x'=>by rw [x'.cell (show nn< _ by omega)];exact hx,λb16 η μ β=>?_,λb18 η ν β=>?_⟩
  ·have ο:Ex w6 η:=β▸Ex.trans φ (Ex.alloc _ _);refine⟨ο,λb18 Z ν γ=>?_⟩;have θ:Ex η Z:=γ▸Ex.alloc _ _;have s17:η.heap.size=w11.heap.size+1:=by rw [β,size_alloc]
   have s19:Z.heap.size=η.heap.size+1:=by rw [γ,size_alloc]
   have c16:Z.cell? ⟨b16,0,none⟩=some (.string ⟨#[]⟩):=by rw [θ.cell (show b16< _ by omega),β,μ];exact aa rfl
   have f16:Z.frozen? ⟨b16,0,none⟩=false:=by rw [Pw θ (show b16< _ by omega),β,μ];exact aV _ _ _ _
   have c18:Z.cell? ⟨b18,0,none⟩=some (.int .u32 0):=by rw [γ,ν];exact aa rfl
   have f18:Z.frozen? ⟨b18,0,none⟩=false:=by rw [γ,ν];exact aV _ _ _ _
   refine⟨Ex.trans ο θ,⟨⟨_,c16⟩,f16⟩,λδ H=>?_⟩;have ω:Ex w6 δ:=H▸Ex.own (Ex.trans ο θ) (by omega) _;have s21:δ.heap.size=Z.heap.size:=by rw [H,Of]
   have d16:δ.cell? ⟨b16,0,none⟩=some (.string (ay [])):=by rw [H];exact NW _ _ _ c16
   have d18:δ.cell? ⟨b18,0,none⟩=some (.int .u32 0):=by rw [H,NC _ _ _ _ (λe=>by injection e with e1 e2;omega)];exact c18
   refine⟨ω,⟨⟨_,d18⟩,by rw [H,NY];exact f18⟩,λG J=>?_⟩;have ι:Ex w6 G:=J▸Ex.own ω (by omega) _;have s23:G.heap.size=δ.heap.size:=by rw [J,Of]
   refine rest b16 b18 G ι ?_ ?_ ?_ (by omega) (by omega) (by omega) (by omega) (by omega)
   ·rw [J,NC _ _ _ _ (λe=>by injection e with e1 e2;omega)];exact d16
   ·rw [J];exact NW _ _ _ d18
   ·rw [J,NY,H,NY];exact f16
  ·have ο:Ex w6 η:=β▸Ex.trans φ (Ex.alloc _ _);refine⟨ο,λb16 Z μ γ=>?_⟩;have θ:Ex η Z:=γ▸Ex.alloc _ _;have s17:η.heap.size=w11.heap.size+1:=by rw [β,size_alloc]
   have s19:Z.heap.size=η.heap.size+1:=by rw [γ,size_alloc]
   have c18:Z.cell? ⟨b18,0,none⟩=some (.int .u32 0):=by rw [θ.cell (show b18< _ by omega),β,ν];exact aa rfl
   have f18:Z.frozen? ⟨b18,0,none⟩=false:=by rw [Pw θ (show b18< _ by omega),β,ν];exact aV _ _ _ _
   have c16:Z.cell? ⟨b16,0,none⟩=some (.string ⟨#[]⟩):=by rw [γ,μ];exact aa rfl
   have f16:Z.frozen? ⟨b16,0,none⟩=false:=by rw [γ,μ];exact aV _ _ _ _
   refine⟨Ex.trans ο θ,⟨⟨_,c16⟩,f16⟩,λδ H=>?_⟩;have ω:Ex w6 δ:=H▸Ex.own (Ex.trans ο θ) (by omega) _;have s21:δ.heap.size=Z.heap.size:=by rw [H,Of]
   have d16:δ.cell? ⟨b16,0,none⟩=some (.string (ay [])):=by rw [H];exact NW _ _ _ c16
   have d18:δ.cell? ⟨b18,0,none⟩=some (.int .u32 0):=by rw [H,NC _ _ _ _ (λe=>by injection e with e1 e2;omega)];exact c18
   refine⟨ω,⟨⟨_,d18⟩,by rw [H,NY];exact f18⟩,λG J=>?_⟩;have ι:Ex w6 G:=J▸Ex.own ω (by omega) _;have s23:G.heap.size=δ.heap.size:=by rw [J,Of]
   refine rest b16 b18 G ι ?_ ?_ ?_ (by omega) (by omega) (by omega) (by omega) (by omega)
   ·rw [J,NC _ _ _ _ (λe=>by injection e with e1 e2;omega)];exact d16
   ·rw [J];exact NW _ _ _ d18
   ·rw [J,NY,H,NY];exact f16
def JR:∀n,Is n
 | 0=>by
  intro G H;rcases H with⟨k,a,b,o,q,rfl,Z⟩ | ⟨ps,rfl,J⟩<;>simp [Lv.sz]at G
 | n+1=>DQ (wK (JR n))
def LO (n:Nat):Lx n:=wK (JR n)
namespace Lv
def PNf:Lv->Prop
 | nil=>True
 | thr _ _ _ _ _ n=>n.PNf
 | sum ps n=>ps.PNf/\n.PNf
 | part o q n=>((∀x∈o,q.has x=true)/\q≠nil/\∀ps,q=sum ps nil->o≠[])/\n.PNf
def rM:∀{l m:Lv},(l.app m).PNf↔l.PNf/\m.PNf
 | nil,m=>by simp [app,PNf]
 | thr k a b o r n,m=>by simp only [app,PNf,rM (l:=n)]
 | sum ps n,m=>by simp only [app,PNf,rM (l:=n),PM]
 | part o q n,m=>by simp only [app,PNf,rM (l:=n),PM]
def vL:Lv->Prop
 | nil=>True
 | thr _ _ _ _ _ n=>n.vL
 | sum ps n=>(ps.PNf/\ps.vL)/\n.vL
 | part _ q n=>q.vL/\n.vL
def lX:∀{l m:Lv},(l.app m).vL↔l.vL/\m.vL
 | nil,m=>by simp [app,vL]
 | thr k a b o r n,m=>by simp only [app,vL,lX (l:=n)]
 | sum ps n,m=>by simp only [app,vL,lX (l:=n),PM]
 | part o q n,m=>by simp only [app,vL,lX (l:=n),PM]
def Ji {ps:Lv}{n:List Nat×Lv}(h:ps.PNf/\ps.vL)(G:n.2.vL):(spl ps n).2.vL:=by
 unfold spl;split
 ·exact G
 ·exact lX.2 ⟨h.2.1,G⟩
 ·exact⟨h,G⟩
def LB {o:List Nat}{q n:Lv}(H:∀x∈o,q.has x=true)(h:q.vL)(G:n.PNf/\n.vL):(prt o q n).PNf/\(prt o q n).vL:=by
 unfold prt;split
 ·exact G
 ·rename_i ps;split
  ·exact⟨rM.2 ⟨h.1.1,G.1⟩,lX.2 ⟨h.1.2,G.2⟩⟩
  ·rename_i h1;exact⟨⟨⟨H,by simp,λ _ _ e=>h1 (by rw [e];rfl)⟩,G.1⟩,h,G.2⟩
 ·rename_i Z h1 J;exact⟨⟨⟨H,h1,λps e=>(J ps e).elim⟩,G.1⟩,h,G.2⟩
def mX:∀(l:Lv),(l.sh true=true->(tid l).2.vL)/\(l.sh false=true->(tid l).2.PNf/\(tid l).2.vL)
 | nil=>⟨λ _=>trivial,λ _=>⟨trivial,trivial⟩⟩
 | thr k a b o r n=>by
  refine⟨λh=>?_,λh=>by simp [sh]at h⟩;simp only [sh,Nz]at h;have h1:=(mX r).1 h.1;have G:=(mX n).1 h.2;have h4:(kept o (tid r)).2=(tid r).2:=rfl;simp only [tid];split
  ·exact lX.2 ⟨h1,G⟩
  ·split
   ·exact G
   ·exact G
 | sum ps n=>by
  refine⟨λh=>?_,λh=>by simp [sh]at h⟩;simp only [sh,Nz]at h;simp only [tid];exact Ji ((mX ps).2 h.1) ((mX n).1 h.2)
 | part o q n=>by
  refine⟨λh=>by simp [sh]at h,λh=>?_⟩;simp only [sh,Nz]at h;simp only [tid];exact LB (se o (tid q)) ((mX q).1 h.1) ((mX n).2 h.2)
def Ia {Z:Lv}(h:Z.PNf)(J:Z.sh false=true):prt (kept [] (spl Z ([],nil))).1 (kept [] (spl Z ([],nil))).2 nil=Z:=by
 unfold spl;split
 ·rfl
 ·rename_i o q;have e:(kept [] (o++(([],nil):List Nat×Lv).1,q.app (([],nil):List Nat×Lv).2))=(o,q):=by
   simp only [kept,N9,aU,Om]
   congr 1
   exact Pr.2 h.1.1
  rw [e];obtain⟨_,G,H⟩:=h.1;show prt o q nil=_;unfold prt;split
  ·exact absurd rfl G
  ·rw [NS];intro e;exact H _ rfl (by simpa using e)
  ·rfl
 ·simp only [kept,N9,List.filter_nil,prt,List.isEmpty_nil,PG,aU]
def Ig {o:List Nat}{q:Lv}{Z:Lv}(h:Z≠nil)(n:List Nat×Lv):spl (part o q Z) n=(n.1,sum (part o q Z) n.2):=by
 cases Z with
 | nil=>exact absurd rfl h
 | _=>rfl
end Lv
open T in
def fL {u:U}(G:Uq u)(n:u.Nr)(H:u.th=true):Lv.tid (flat u).2=([],tl [u])/\(flat u).1=[]:=by
 cases u with
 | nil=>cases H
 | par p q=>cases H
 | res x p=>cases H
 | snd a b p=>exact⟨by simp only [flat,Lv.tid,tl];simp [td,Lv.tidy],rfl⟩
 | rcv a x p=>exact⟨by simp only [flat,Lv.tid,tl];simp [td,Lv.tidy],rfl⟩
 | tau p=>exact⟨by simp only [flat,Lv.tid,tl];simp [td,Lv.tidy],rfl⟩
 | mat a b p=>refine⟨?_,rfl⟩;rw [oe,NS n.1.1,di,n.1.2];rfl
 | rep p=>refine⟨?_,rfl⟩;rw [oR,di,n.1];rfl
 | sum p q=>
  refine⟨?_,rfl⟩;rw [oI,(fW p G.dO).2.2,(fW q G.dG).2.2,<-tv];have h1:=pj n.1.1 G.dO;have J:=pj n.1.2.1 G.dG;simp only [tl];cases Z:ak p with
  | nil=>exact absurd Z h1
  | cons t l=>
   rw [Oz,tp,Lv.Ig];intro h0;have :=Cu (l++ak q);rw [h0]at this;simp only [Lv.len,NB]at this;exact J (N3 (by omega))
open T in
def py:∀{u:U},Uq u->u.Nr->Lv.tid (flat u).2=([],tl u.ths)/\(flat u).1=u.frL
 | .nil,_,_=>⟨rfl,rfl⟩
 | .res x p,G,n=>by
  obtain⟨h1,H⟩:=py G.res n.2;exact⟨h1,by simp only [flat,frL,H]⟩
 | .par p q,G,n=>by
  obtain⟨h1,H⟩:=fL G.fX n.2.1 n.1.1;obtain⟨J,h4⟩:=py G.fD n.2.2;have h5:q.frL=[]:=by
   rcases n.1.2 with h | h
   ·exact fQ h
   ·cases q<;>first | rfl | (cases h;done)
  refine⟨?_,by simp only [flat,frL,H,h4,h5,N9]⟩;simp only [flat];rw [Lv.cK _ _ (bY p),h1,J];simp only [T.ths,N9];rw [show p::q.ths=[p]++q.ths from rfl,dX]
 | .snd a b p,G,n=>fL G n rfl
 | .rcv a b p,G,n=>fL G n rfl
 | .tau p,G,n=>fL G n rfl
 | .sum p q,G,n=>fL G n rfl
 | .mat a b p,G,n=>fL G n rfl
 | .rep p,G,n=>fL G n rfl
open T in
def Kg {u:U}(H:Uq u)(n:u.Nr):∀x∈u.frL,(td u).2.has x=true:=by
 induction u with
 | res y p J=>
  intro x G;rcases NV.1 G with rfl | G
  ·exact(fP p x H.fY).2 n.1
  ·exact J H.res n.2 x G
 | _=>intro x G;cases G
open T in
def eF {u:U}(G:Uq u)(n:u.Nr):td u=(u.frL,tl u.ths):=by
 obtain⟨h1,J⟩:=py G n;have H:=Kg G n;have e:(td u).2=tl u.ths:=by rw [rf,h1]
 rw [e]at H;show Lv.kept (flat u).1 (Lv.tid (flat u).2)=_;rw [h1,J];simp only [Lv.kept,N9]
 congr 1
 exact Pr.2 H
def cx:∀u:U,(flat u).2.sh true=true
 | .nil=>rfl
 | .snd a b p=>by simp only [flat,Lv.sh,cx p,O1]
 | .rcv a b p=>by simp only [flat,Lv.sh,cx p,O1]
 | .tau p=>by simp only [flat,Lv.sh,cx p,O1]
 | .mat a b p=>by simp only [flat,Lv.sh,cx p,O1]
 | .rep p=>by simp only [flat,Lv.sh,cx p,O1]
 | .res x p=>cx p
 | .par p q=>by simp only [flat];exact Lv.fO (cx p) (cx q)
 | .sum p q=>by simp only [flat,Lv.sh,cx p,cx q,O1]
def zJ (u:U):(td u).2.sh true=true:=Lv.dE _ _ (cx u)
def gU (f:Nat->Nat):∀(l:Lv) (b:Bool),(l.map f).sh b=l.sh b
 | .nil,_=>by simp [Lv.map,Lv.sh]
 | .thr k a b o r n,c=>by cases c<;>simp only [Lv.map,Lv.sh,gU f r,gU f n]
 | .sum ps n,c=>by cases c<;>simp only [Lv.map,Lv.sh,gU f ps,gU f n]
 | .part o q n,c=>by cases c<;>simp only [Lv.map,Lv.sh,gU f q,gU f n]
def oQ (o:List Nat)(q n:Lv):(Lv.tid (.part o q n)).2=Lv.prt (Lv.kept o (Lv.tid q)).1 (Lv.kept o (Lv.tid q)).2 (Lv.tid n).2:=rfl
open T in
def gA (f:Nat->Nat):∀(n:Nat) {u:U},u.size<=n->Uq u->u.Nr->
  Lv.tid ((td u).2.map f)=Lv.tid ((flat u).2.map f)/\(u.dead=false->(Lv.tid ((tp u.l5).map f)).2=Lv.prt (Lv.kept ((flat u).1.map f) (Lv.tid ((flat u).2.map f))).1 (Lv.kept ((flat u).1.map f) (Lv.tid ((flat u).2.map f))).2 .nil)
 | 0,u,h,_,_=>by cases u<;>simp [T.size]at h
 | k+1,u,h,G,n=>by
  have ih:∀p:U,p.size<=k->Uq p->p.Nr->Lv.kept ((td p).1.map f) (Lv.tid ((td p).2.map f))=Lv.kept ((flat p).1.map f) (Lv.tid ((flat p).2.map f)):=λp J G n=>by
   rw [(gA f k J G n).1,eF G n,(py G n).2]
  have key:∀(kk:K) (a b:Nat) (p:U),p.size<=k->Uq p->p.Nr->Lv.tid ((Lv.thr kk a b (td p).1 (td p).2 .nil).map f)=Lv.tid ((Lv.thr kk a b (flat p).1 (flat p).2 .nil).map f):=λkk a b p J G n=>by
   simp only [Lv.map,Lv.tid,ih p J G n]
  have one:Lv.tid ((td u).2.map f)=Lv.tid ((flat u).2.map f)->u.isS=false->(Lv.tid ((tp u.l5).map f)).2=Lv.prt (Lv.kept ((flat u).1.map f) (Lv.tid ((flat u).2.map f))).1 (Lv.kept ((flat u).1.map f) (Lv.tid ((flat u).2.map f))).2 .nil:=λe hs=>by
   rw [gb hs,tp];simp only [Lv.map,tp];rw [oQ,e,eF G n,(py G n).2];rfl
  have H:u.th=true->(td u).2=tl [u]:=λht=>by rw [rf,(fL G n ht).1]
  cases u with
  | nil=>exact⟨rfl,λh=>by cases h⟩
  | snd a b p=>
   have e:Lv.tid ((td (.snd a b p)).2.map f)=Lv.tid ((flat (.snd a b p)).2.map f):=by rw [H rfl];exact key .s a b p (by simp only [T.size]at h;omega) G.snd n
   exact⟨e,λ _=>one e rfl⟩
  | rcv a b p=>
   have e:Lv.tid ((td (.rcv a b p)).2.map f)=Lv.tid ((flat (.rcv a b p)).2.map f):=by rw [H rfl];exact key .r a b p (by simp only [T.size]at h;omega) G.rcv n
   exact⟨e,λ _=>one e rfl⟩
  | tau p=>
   have e:Lv.tid ((td (.tau p)).2.map f)=Lv.tid ((flat (.tau p)).2.map f):=by rw [H rfl];exact key .t 0 0 p (by simp only [T.size]at h;omega) G.tau n
   exact⟨e,λ _=>one e rfl⟩
  | mat a b p=>
   have e:Lv.tid ((td (.mat a b p)).2.map f)=Lv.tid ((flat (.mat a b p)).2.map f):=by rw [H rfl];exact key .m a b p (by simp only [T.size]at h;omega) G.mat n.2
   exact⟨e,λ _=>one e rfl⟩
  | rep p=>
   have e:Lv.tid ((td (.rep p)).2.map f)=Lv.tid ((flat (.rep p)).2.map f):=by rw [H rfl];exact key .p 0 0 p (by simp only [T.size]at h;omega) G.rep n.2
   exact⟨e,λ _=>one e rfl⟩
  | res x p=>
   have e:Lv.tid ((td (.res x p)).2.map f)=Lv.tid ((flat (.res x p)).2.map f):=(gA f k (by simp only [T.size]at h;omega) G.res n.2).1;exact⟨e,λ _=>one e rfl⟩
  | par p q=>
   simp only [T.size]at h;have e:Lv.tid ((td (.par p q)).2.map f)=Lv.tid ((flat (.par p q)).2.map f):=by
    have h1:=(gA f k (by omega) G.fX n.2.1).1;have h2:=(gA f k (by omega) G.fD n.2.2).1;have e:(td (.par p q)).2=(td p).2.app (td q).2:=by simp only [rf,flat,Lv.cK _ _ (bY p)]
    rw [e];simp only [flat,Lv.eu];rw [Lv.cK _ _ (Lv.lD (by rw [gU];exact zJ p)),Lv.cK _ _ (Lv.lD (by rw [gU];exact cx p)),h1,h2]
   exact⟨e,λ _=>one e rfl⟩
  | sum p q=>
   simp only [T.size]at h;have hs:tl [T.sum p q]= .sum (tp (p::q.l5)) .nil:=by
    simp only [tl];rw [dR G.dO n.2.1 n.1.1,dR G.dG n.2.2 n.1.2.1,gb n.1.2.2];rfl
   have hz:(Lv.tid ((tp (p::q.l5)).map f)).2=(Lv.tid ((Lv.part (flat p).1 (flat p).2 (.part (flat q).1 (flat q).2 .nil)).map f)).2:=by
    rw [tp];simp only [Lv.map];rw [oQ,oQ,oQ,ih p (by omega) G.dO n.2.1,(gA f k (by omega) G.dG n.2.2).2 n.1.2.1];rfl
   have e:Lv.tid ((td (.sum p q)).2.map f)=Lv.tid ((flat (.sum p q)).2.map f):=by
    rw [H rfl,hs];simp only [flat,Lv.map,Lv.tid];rw [hz];simp only [Lv.map];rfl
   refine⟨e,λ _=>?_⟩;have Z:((Lv.part (flat p).1 (flat p).2 (.part (flat q).1 (flat q).2 .nil)).map f).sh false=true:=by rw [gU];simp only [Lv.sh,cx,O1]
   show(Lv.tid ((tp (p::q.l5)).map f)).2=_;rw [hz];have J:=(Lv.mX ((Lv.part (flat p).1 (flat p).2 (.part (flat q).1 (flat q).2 .nil)).map f)).2 Z;have :=Lv.Ia J.1 (Lv.dE _ _ Z);simp only [flat,Lv.map,PE,Lv.tid]at this|-;exact this.symm
structure Pc (x:List Nat×Lv)(t:U):Prop where
 own:x.1=(flat t).1
 sh:x.2.sh true=true
 tid:Lv.tid x.2=Lv.tid (flat t).2
def joinL:List (List Nat×Lv)->List Nat×Lv
 | []=>([],.nil)
 | x::l=>(x.1++(joinL l).1,x.2.app (joinL l).2)
def lC:∀l m:List (List Nat×Lv),joinL (l++m)=((joinL l).1++(joinL m).1,(joinL l).2.app (joinL m).2)
 | [],m=>rfl
 | x::l,m=>by simp only [Oz,joinL,lC l m,Oi,Lv.cX]
def lJ (x:List Nat×Lv):joinL [x]=x:=by simp only [joinL,N9,Lv.aU]
def pH:∀l:List U,flat (T.parL l)=joinL (l.map flat)
 | []=>rfl
 | [t]=>by simp only [T.parL,N4,PE,lJ]
 | t::u::l=>by
  have :=pH (u::l);simp only [T.parL,flat,this,N4,joinL]
def vZ (p:U):∀o:List Nat,flat (T.resL o p)=(o++(flat p).1,(flat p).2)
 | []=>rfl
 | x::o=>by simp only [T.resL,flat,vZ p o,Oz]
def Pc.join:∀{zs:List ((List Nat×Lv)×U)},(∀z∈zs,Pc z.1 z.2)->Pc (joinL (zs.map (·.1))) (T.parL (zs.map (·.2)))
 | [],_=>⟨rfl,rfl,rfl⟩
 | z::zs,h=>by
  have h1:=h z (by simp);have G:=Pc.join (zs:=zs) λy J=>h y (by simp [J])
  have e:flat (T.parL ((z::zs).map (·.2)))=joinL ((z::zs).map (λy=>flat y.2)):=by rw [pH,OJ];rfl
  have H:flat (T.parL (zs.map (·.2)))=joinL (zs.map (λy=>flat y.2)):=by rw [pH,OJ];rfl
  refine⟨?_,?_,?_⟩
  ·rw [e];simp only [N4,joinL];rw [h1.own,G.own,H]
  ·simp only [N4,joinL];exact Lv.fO h1.sh G.sh
  ·rw [e];simp only [N4,joinL];rw [Lv.cK _ _ (Lv.lD h1.sh),Lv.cK _ _ (bY z.2),h1.tid,G.tid,H]
def A6 {own:List Nat}{x:List Nat×Lv}{t:U}(h:Pc x t):Lv.tidy (own++x.1) x.2=td (T.resL own t):=by
 show _=Lv.tidy (flat (T.resL own t)).1 (flat (T.resL own t)).2;rw [vZ];simp only [Lv.tidy,h.own,h.tid]
def Pc.map (f:Nat->Nat){q:U}(G:Uq q)(n:q.Nr):Pc (Lv.dC f (td q)) (q.map f):=by
 have h:=(gA f _ (ND _) G n).1;refine⟨?_,by rw [gU];exact zJ q,?_⟩
 ·rw [ch,eF G n];show(T.frL q).map f=((flat q).1).map f;rw [(py G n).2]
 ·rw [ch];exact h
def map_id:∀l:Lv,l.map id=l
 | .nil=>rfl
 | .thr k a b o r n=>by simp only [Lv.map,map_id r,map_id n,List.map_id,id,ite_self]
 | .sum ps n=>by simp only [Lv.map,map_id ps,map_id n]
 | .part o q n=>by simp only [Lv.map,map_id q,map_id n,List.map_id]
def dU:∀u:U,u.map id=u
 | .nil=>rfl
 | .snd a b p=>by simp only [T.map,dU p,id]
 | .rcv a b p=>by simp only [T.map,dU p,id]
 | .tau p=>by simp only [T.map,dU p]
 | .sum p q=>by simp only [T.map,dU p,dU q]
 | .par p q=>by simp only [T.map,dU p,dU q]
 | .res x p=>by simp only [T.map,dU p,id]
 | .mat a b p=>by simp only [T.map,dU p,id]
 | .rep p=>by simp only [T.map,dU p]
def Pc.nr {q:U}(G:Uq q)(n:q.Nr):Pc (td q) q:=by
 have h:=Pc.map id G n;rw [dU]at h;have e:Lv.dC id (td q)=td q:=by simp only [Lv.dC,map_id,List.map_id]
 rwa [e]at h
structure E8 (l m:Lv):Prop where
 s:∀ρ tk,(thS l ρ tk).Perm (thS m ρ tk)
 bad:∀tk,thBad l tk=thBad m tk
 all:thAll l=thAll m
 most:an l=an m
 has:∀x,l.has x=m.has x
 nil:l.isNil=m.isNil
def E8.refl (l:Lv):E8 l l:=⟨λ _ _=>OY _,λ _=>rfl,rfl,rfl,λ _=>rfl,rfl⟩
def E8.trans {a b c:Lv}(h:E8 a b)(k:E8 b c):E8 a c:=⟨λρ tk=>(h.s ρ tk).trans (k.s ρ tk),λtk=>(h.bad tk).trans (k.bad tk),h.all.trans k.all,h.most.trans k.most,λx=>(h.has x).trans (k.has x),h.nil.trans k.nil⟩
def lY (l m:Lv):(l.app m).isNil=(l.isNil&&m.isNil):=by cases l<;>simp [Lv.app,Lv.isNil]
def E8.app {a b c d:Lv}(h:E8 a b)(k:E8 c d):E8 (a.app c) (b.app d):=
 ⟨λρ tk=>by rw [gj,gj];exact(h.s ρ tk).append (k.s ρ tk),λtk=>by rw [cI,cI,h.bad,k.bad],by rw [bR,bR,h.all,k.all],by rw [bV,bV,h.most,k.most],λx=>by rw [Lv.cM,Lv.cM,h.has,k.has],by rw [lY,lY,h.nil,k.nil]⟩
def E8.comm (a b:Lv):E8 (a.app b) (b.app a):=
 ⟨λρ tk=>by rw [gj,gj];exact Qo,λtk=>by rw [cI,cI,Bool.or_comm],by rw [bR,bR];omega,by rw [bV,bV];omega,λx=>by rw [Lv.cM,Lv.cM,Bool.or_comm],by rw [lY,lY,Bool.and_comm]⟩
def ρN:Rh:=λx=>if x< 26 then UInt8.ofNat (97+x)else 0
def MO:MI (fk []) ρN:=λx=>by
 unfold ρN;refine⟨?_,λh=>N' h,λh=> .inr ⟨rfl,NS (by omega)⟩⟩;split
 ·rename_i h;revert h;revert x;decide+kernel
 ·decide
def HT {x:Nat}(h:x< 26):AL 1 x=rq (UInt8.ofNat (97+x))/\lt (UInt8.ofNat (97+x))=true/\e0 (UInt8.ofNat (97+x))=x:=by
 have G:lt (UInt8.ofNat (97+x))=true:=by revert x;decide+kernel
 have H:(UInt8.ofNat (97+x)).toNat=97+x:=by rw [ON];omega
 refine⟨?_,G,by unfold e0;rw [H];omega⟩;unfold rq;rw [gN G,H,show 97+x - 97=x by omega]
def E7 (l:Lv)(i:Nat):Tk:=λc=>lt c&&(decide (c.toNat - 97< i)&&l.has (e0 c))
def Gl (l:Lv)(c:UInt8):E7 l 0 c=false:=by simp [E7]
def HY (l:Lv):E7 l 26=pq l:=by
 funext c
 unfold E7 pq;cases h:lt c
 ·rfl
 ·have :=a6 h;simp [show c.toNat - 97< 26 by omega]
def po.congr {x:UInt32}{tk tk':Tk}(h:po x tk)(e:∀c,lt c=true->tk c=tk' c):po x tk':=λc G=>by rw [h c G,e c G]
def LV {w:World}{n r:Nat}{ρ:Rh}{tk tk':Tk}{bad:Bool}(h:Nm w n r ρ tk bad)(e:∀c,lt c=true->tk c=tk' c):Nm w n r ρ tk' bad:=by
 obtain⟨x,h1,G⟩:=h.c1;exact⟨h.lt,h.lr,h.ne,h.c0,h.mp,⟨x,h1,G.congr e⟩,h.c2,h.f⟩
def zV {l:Lv}{i:Nat}(hi:i< 26)(c:UInt8)(H:lt c=true):(l.has i=true->cD (E7 l i) (UInt8.ofNat (97+i)) c=E7 l (i+1) c)/\(l.has i=false->E7 l i c=E7 l (i+1) c):=by
 have h1:=a6 H;have Z:(UInt8.ofNat (97+i)).toNat=97+i:=by rw [ON];omega
 have he:e0 c=c.toNat - 97:=rfl;unfold cD E7;rw [H,he];by_cases h:c.toNat - 97=i
 ·have e:c=UInt8.ofNat (97+i):=N6.1 (by omega);rw [h];constructor
  ·intro G;have hb:(c==UInt8.ofNat (97+i))=true:=by rw [e];exact beq_self_eq_true _
   rw [hb,G];simp
  ·intro G;simp [G]
 ·have e:c≠UInt8.ofNat (97+i):=λe=>h (by rw [e,Z];omega)
  have J:decide (c.toNat - 97< i)=decide (c.toNat - 97< i+1):=by
   rw [Pp];omega
  constructor
  ·intro _;rw [show(c==UInt8.ofNat (97+i))=false by simpa using e,J];simp
  ·intro _;rw [J]
def p8 {D:Nat->Prop}{w:World}{v:Value}{o:List Nat}{l:Lv}(h:gg D w v o (ab D w l))(φ:l.sh true=true)(htot:o.length+l.tot<=4294967295)(huq:ur (Lv.tidy o l).1 (Lv.tidy o l).2)(hfr:∀x,x∉(Lv.tidy o l).1->(Lv.tidy o l).2.fh x->x< 26){R:aH->Bool->QU}
  (hR:∀w',Ex w w'->(∀s,DO (Lv.tidy o l)=some s->R s true w')/\(DO (Lv.tidy o l)=none->R [] false w')):QV 117 #[v] w (ax [.s,.b] R):=by
 refine lq v w R ?_;dsimp only [go_sem];dsimp only [go_sem,UInt8.reduceOfNat,UInt32.reduceOfNat,Nat.reduceAdd];refine HN _ (ND _) φ h (by omega) λv2 w3 x3 h2=>?_
 have htt:=oY o l;have β:(Lv.tidy o l).2.sh true=true:=Lv.dE _ _ φ;have χ:(Lv.tidy o l).2.sm=true:=Lv.nC _;generalize hr:Lv.tidy o l=r at*;obtain⟨Z,G⟩:=r;simp only at*;have hst:=Lv.jJ G;have hN:∀b,DO (Z,G)=b->(b=none->∀w',Ex w w'->R [] false w'):=λb e1 e2 w' x=>(hR w' x).2 (e1.trans e2)
 refine G9 _ (o:=Z) (l:=G) (ND _) β h2 (by show Z.length+G.tot<=_;omega) λw6 x6=>?_
 have ν:Ex w w6:=Ex.trans x3 x6;have γ:¬(max Z.length (an G)<=5/\Z.length+thAll G<=8)->DO (Z,G)=none:=λhc=>by unfold DO;rw [NS (λh=>hc h.1)]
 by_cases h5:5< max Z.length (an G)
 ·exact dB (by omega) ((hR w6 ν).2 (γ (by omega)))
 refine ck (by omega) ?_;by_cases h8:8< Z.length+thAll G
 ·exact cL (by omega) ((hR w6 ν).2 (γ (by omega)))
 refine aR (by omega) λb7 w8 hb7 ξ=>⟨trivial,λb9 ζ η J=>?_⟩
 have x8:Ex w6 w8:=ξ▸Ex.alloc w6 _;have ψ:Ex w8 ζ:=J▸Ex.alloc w8 _;have s8:w8.heap.size=w6.heap.size+1:=by rw [ξ,size_alloc]
 have s10:ζ.heap.size=w8.heap.size+1:=by rw [J,size_alloc]
 have s6:=x6.size;have s3:=x3.size;have e7:ζ.heap[b7]?=some (.map #[] 0):=by
  rw [ψ.block b7 (by omega),ξ,hb7];unfold World.alloc;simp
 have n10:Nm ζ b9 b7 ρN (E7 G 0) false:=by
  refine⟨by omega,by omega,by omega,by rw [J,η];exact aa rfl,⟨fk [],⟨#[],0,e7,⟨by simp,by simp,by simp⟩,by simp,λq=>rfl⟩,MO⟩,⟨0,by rw [J,η];exact aa rfl,λc _=>?_⟩,by rw [J,η];exact aa rfl,λj=>by rw [J,η];exact aV _ _ _ _⟩;rw [Gl];simp
 have h3:gg (λg=>D9 w g/\g< w3.heap.size) w3 v2 Z (ab (λg=>D9 w g/\g< w3.heap.size) w3 G):=aJ.sub (L:=(Z,G)) h2 λg hg hd=>⟨hd,hg⟩
 have hD:∀g,(D9 w g/\g< w3.heap.size)->¬(g=b9\/g=b7):=λg hg=>by omega
 have ι:∀{w1:World},Ex w3 w1->gg (λg=>D9 w g/\g< w3.heap.size) w1 v2 Z (ab (λg=>D9 w g/\g< w3.heap.size) w1 G):=λk=>gg.ex h3 k
 refine⟨λx w'=>∃i:Nat,x=i/\i<=26/\Ex w6 w'/\Nm w' b9 b7 ρN (E7 G i) false,λx _=>(26 - x).toNat,⟨0,rfl,by omega,Ex.trans x8 ψ,n10⟩,λx w14 hI=>?_⟩;obtain⟨i,rfl,hi,δ,n14⟩:=hI;refine⟨λhlt=>?_,λhge=>?_⟩
 ·have ο:i< 26:=by simp only [NL]at hlt;omega
  obtain⟨eb1,eb2,eb3⟩:=HT ο;refine J4 _ (ND _) β (ι (Ex.trans x6 δ)) (by omega) λθ ω=>?_
  have n16:=n14.ex ω;have κ:Ex w6 θ:=Ex.trans δ ω;refine⟨λhh=>⟨λw'=>Ex θ w',λw18 hw18=>?_⟩,λhh=>⟨by omega,⟨i+1,by omega,by omega,κ,LV n16 λc hc=>(zV ο c hc).2 hh⟩,by show((26:Int) - ((i:Int)+1)).toNat< ((26:Int) - i).toNat;omega⟩⟩;have ς:Ex θ w18:=hw18▸Ex.drew θ;obtain⟨y,hy,hyt⟩:=n16.c1;have n18:=n16.ex ς;obtain⟨y',hy',_⟩:=n18.c1;refine⟨ς,y,λw' x'=>by rw [x'.cell (show b9< _ from n16.lt)];exact hy,by omega,⟨⟨_,hy'⟩,n18.f 1⟩,λw21 μ=>⟨by omega,⟨i+1,by omega,by omega,?_,?_⟩,by show((26:Int) - ((i:Int)+1)).toNat< ((26:Int) - i).toNat;omega⟩⟩
  ·exact μ▸Ex.own (Ex.trans κ ς) (by omega) _
  ·refine LV (n18.set (tk':=cD (E7 G i) (UInt8.ofNat (97+i))) (bad':=false) μ (.inl ⟨rfl,rfl,_,rfl,?_⟩)) λc hc=>(zV ο c hc).1 hh
   rw [NF,eb1];exact hyt.add eb2
 ·have:i=26:=by simp only [NQ]at hge;omega
  subst this;rw [HY]at n14;have hlS:aQ Z (thS G) ρN (pq G)=aQ Z (thS G) ρ0 (pq G):=dN (H:=λx=>G.fh x) (λρ ρ' tk=>im G ρ ρ' tk) (λρ ρ' tk h=>tK G ρ ρ' tk h) λx hx hf=>by
   have :=hfr x hx hf;unfold ρN ρ0;rw [N' this]
  refine LO _ (ND _) β χ huq (ι (Ex.trans x6 δ)) hD n14 (by omega) λυ ρ' k23 n23 _=>⟨_,n23.c2,?_⟩
  rw [hlS,Ql];have x23:Ex w6 υ:=Ex.below δ (Kp.below k23 δ.size λg hg e=>by omega);have ε:Ex w υ:=Ex.trans ν x23;refine⟨λhb=>Bc λq w26 x26 hq=>⟨λh=>(hR w26 (Ex.trans ε x26)).2 ?_,λh=>(hR w26 (Ex.trans ε x26)).1 _ ?_⟩,λhb=>(hR υ ε).2 ?_⟩
  ·unfold DO;have:¬da (aQ Z (thS G) ρ0 (pq G)):=λhg=>by rw [hq.2 hg]at h;cases h
   rw [NS (λh=>this h.2.2)]
  ·unfold DO;have:da (aQ Z (thS G) ρ0 (pq G)):=hq.1 (by cases q<;>first | rfl | cases h);rw [N' ⟨⟨by show max Z.length (an G)<=5;omega,by show Z.length+thAll G<=8;omega⟩,hb,this⟩]
  ·unfold DO;rw [NS (λh=>by have :=h.2.1;rw [hb]at this;cases this)]
attribute [go_sem] Tryz.f55
def xi (n1:aH)(w:World)(R:Value->QU)(h:vc az (aZ [] [] [(3,true,.lt 0 (.lt 1 (.lt 2 (.lt 3 (.lt 4 (.one .n 5 (.one .n 6 (.one .n 7 (.lt 8 (.lt 9 (.one .n 10 .done)))))))))))]) (af Tryz.f55) (ai 0 [.s n1]) w (fin az [.tmp 2 .v] R)):
  QV 55 #[(.string (ay n1))] w (ax [.v] R):=
 bj Tryz.func55 (by kernel_rfl) h
attribute [go_sem] Tryz.f44
def qN (G:aH)(w:World)(R:Value->Bool->QU)(h:vc az (aZ [] [] []) (af Tryz.f44) (ai 0 [.s G]) w (fin az [.tmp 2 .v,.tmp 3 .b] R)):
  QV 44 #[(.string (ay G))] w (ax [.v,.b] R):=
 bj Tryz.func44 (by kernel_rfl) h
def eC (t1:Value)(w:World)(R:Value->QU)(h:bS t1 λb2 o3=>C6 w b2 (o3+0) λc4=>∃J5:Bool->QU,(dD (decide (c4=126)) (J5 ((decide (c4=126))) w) (dD (decide (c4=33)) (J5 ((decide (c4=33))) w) (J5 ((decide (c4=63))) w)))/\∀(x6:Bool) (w7:World),J5 x6 w7->dD x6 (lx w7 λS8 w9=>bS t1 λb10 o11=>JE S8 b10 (o11+0) λc12=>bS t1 λb13 o14=>ux S8 b13 (o14+1) λn15=>bS t1 λb16 o17=>ux S8 b16 (o17+2) λn18=>bS t1 λb19 o20=>fN S8 b19 (o20+3) λv21=>oneV v21=true/\hZ w9 (.cells #[(.int .u8 c12.toNat),(.int .i64 n15),(.int .i64 n18),v21,(.bool false)] 134) λb22 ν=>S8 ν/\R ((.slice (some ⟨b22,0,none⟩) 1 1)) ν) (dD (decide (c4=42)) (hZ w7 (.cells #[] 134) λb24 ι=>bS t1 λb26 o27=>eG ι b26 (o27+3) λv28=>bS v28 λb29 o30=>eG ι b29 (o30+1) λv31=>uw v31 λl33=>G5 ((.slice (some ⟨b24,0,none⟩) 0 0)) 0 ι λξ ζ β G H=>dD (decide (G< (l33:Int))) (uv v31 G λb40 o41=>eG H b40 (o41+G.toNat* 1) λv44=>bS v44 λb45 o46=>C6 H b45 (o46+0) λc47=>dD (decide (c47=63)) (lx H λγ w49=>bS v44 λb50 o51=>ux γ b50 (o51+1) λn52=>bS v44 λb53 o54=>ux γ b53 (o54+2) λn55=>bS v44 λb56 o57=>fN γ b56 (o57+3) λv58=>oneV v58=true/\hZ w49 (.cells #[(.int .u8 (UInt8.toNat 63)),(.int .i64 n52),(.int .i64 n55),v58,(.bool true)] 134) λb59 ο=>γ ο/\zc 134 5 40 ο β (.slice (some ⟨b59,0,none⟩) 1 1) λv66 κ=>γ κ/\cR (G+1)/\ξ v66 (G+1) κ/\ζ v66 (G+1) κ< ζ β G H) (cR (G+1)/\ξ β (G+1) H/\ζ β (G+1) H< ζ β G H)) (R β H)) (dD (decide (c4=43)) (hZ w7 (.cells #[] 134) λb68 ς=>bS t1 λb70 o71=>eG ς b70 (o71+4) λv72=>uw v72 λl74=>G5 ((.slice (some ⟨b68,0,none⟩) 0 0)) 0 ς λI76 υ μ J δ=>dD (decide (J< (l74:Int))) (uv v72 J λb81 o82=>eG δ b81 (o82+J.toNat* 1) λv85=>bS v85 λb86 o87=>eG δ b86 (o87+1) λφ=>uw φ λl90=>G5 μ 0 δ λI92 χ η Z ε=>dD (decide (Z< (l90:Int))) (uv φ Z λb97 o98=>eG ε b97 (o98+Z.toNat* 1) λψ=>uu 113 #[ψ] ε λω w103=>zc 134 5 40 w103 η ω λv109 θ=>cR (Z+1)/\I92 v109 (Z+1) θ/\χ v109 (Z+1) θ< χ η Z ε) (cR (J+1)/\I76 η (J+1) ε/\υ η (J+1) ε< υ μ J δ)) (R μ δ)) (R (.slice none 0 0) w7)))):
  QV 113 #[t1] w (ax [.v] R):=
 LG (aZ [(9,[(3,.v),(48,.i)]),(18,[(6,.v),(83,.i)]),(21,[(6,.v),(92,.i)])] [(5,[(15,.b)])] [(5,true,.lt 0 (.lt 1 (.lt 2 (.lt 3 (.lt 4 (.lt 5 (.lt 6 (.lt 7 (.lt 8 (.lt 9 (.lt 10 (.lt 11 (.lt 12 (.lt 13 (.lt 14 (.lt 15 (.lt 16 (.one .g 17 (.lt 18 .done))))))))))))))))))),(12,true,.lt 0 (.lt 1 (.lt 2 (.lt 3 (.lt 4 (.lt 5 (.lt 6 (.lt 7 (.lt 8 (.lt 9 (.lt 10 (.lt 11 (.lt 12 (.lt 13 (.one .g 14 (.one .g 15 (.lt 16 .done)))))))))))))))))]) [.tmp 2 .v] [.v t1] Tryz.func113 (by kernel_rfl) h
attribute [go_sem] Tryz.f222
def mi (s1:Value)(v2:Int)(w:World)(R:Int->QU)(h:vc az (aZ [(2,[(8,.i)])] [] []) (af Tryz.f222) (ai 0 [.v s1,.i v2]) w (fin az [.tmp 4 .i] R)):
  QV 222 #[s1,(.int .i64 v2)] w (ax [.i] R):=
 bj Tryz.func222 (by kernel_rfl) h
attribute [go_sem] Tryz.f183
def jj (s1:Value)(v2:Int)(w:World)(R:Bool->QU)(h:vc az (aZ [] [] []) (af Tryz.f183) (ai 0 [.v s1,.i v2]) w (fin az [.tmp 4 .b] R)):
  QV 183 #[s1,(.int .i64 v2)] w (ax [.b] R):=
 bj Tryz.func183 (by kernel_rfl) h
attribute [go_sem] Tryz.f114
def mE (s1:Value)(g2:Value)(G:Value)(m4:Value)(w:World)(R:aH->Bool->QU)(h:vc az (aZ [(3,[(27,.i)]),(9,[(49,.i)])] [] []) (af Tryz.f114) (ai 0 [.v s1,.v g2,.v G,.v m4]) w (fin az [.tmp 8 .s,.tmp 9 .b] R)):
  QV 114 #[s1,g2,G,m4] w (ax [.s,.b] R):=
 bj Tryz.func114 (by kernel_rfl) h
attribute [go_sem] Tryz.f61
attribute [go_sem] Tryz.f198
def jo (G:Int)(c2:Value)(w:World)(R:Int->QU)(h:vc az (aZ [] [] []) (af Tryz.f198) (ai 0 [.i G,.v c2]) w (fin az [.tmp 3 .i] R)):
  QV 198 #[(.int .i64 G),c2] w (ax [.i] R):=
 bj Tryz.func198 (by kernel_rfl) h
def kX (m1:Value)(l2:Value)(t3:Value)(w:World)(R:Value->QU)(h:oneV t3=true/\hZ w (.cells #[t3] 179) λb4 w5=>hZ w5 (.cells #[(.slice none 0 0),(.slice none 0 0)] 129) λb6 w7=>bS l2 λb8 o9=>eG w7 b8 (o9+0) λv10=>uw v10 λl12=>CE 0 w7 λI14 m15 β ι=>dD (decide (β< (l12:Int))) (uv v10 β λb18 o19=>KW ι b18 (o19+β.toNat* 1) λn22=>lx ι λS23 w24=>fN S23 b4 0 λv25=>HP 172 #[m1] w24 λn26 w27=>S23 w27/\∃(υ:Nat) (m29:Value->Option Value),v25= .map (some υ)/\IsMap w27 υ (.int .i64) m29/\∀w30:World,IsMap w30 υ (.int .i64) (fU m29 (.int .i64 n22) (.int .i64 n26))->df w27 w30 υ->lx w30 λκ Bj=>fN κ b6 0 λv33=>fN κ b4 0 λv34=>∃(r35:Nat) (m36:Value->Option Value),v34= .map (some r35)/\IsMap Bj r35 (.int .i64) m36/\∃y37:Int,∃g38:Bool,((g38=true/\m36 (.int .i64 n22)=some (.int .i64 y37))\/(g38=false/\m36 (.int .i64 n22)=none/\(Value.int .i64 y37)=(.int .i64 0)))/\κ Bj/\hZ Bj (.cells #[(.int .i64 y37)] 3) λb39 w40=>κ w40/\zc 3 1 8 w40 v33 (.slice (some ⟨b39,0,none⟩) 1 1) λv46 w47=>κ w47/\oneV v46=true/\nG w47 b6 0 v46 λw49=>cR (β+1)/\I14 (β+1) w49/\m15 (β+1) w49< m15 β ι) (bS l2 λb50 o51=>eG ι b50 (o51+1) λv52=>uw v52 λl54=>CE 0 ι λI56 m57 γ μ=>dD (decide (γ< (l54:Int))) (uv v52 γ λb60 o61=>eG μ b60 (o61+γ.toNat* 1) λv64=>bS v64 λb65 o66=>C6 μ b65 (o66+0) λc67=>hZ μ (.cells #[(.int .u8 c67.toNat),(.int .i64 0),(.int .i64 0),(.pointer none),(.slice none 0 0)] 191) λH δ=>∃θ:QU,(bS v64 λb71 o72=>C6 δ b71 (o72+0) λφ=>dD (decide (φ=63)) (bS v64 λb74 o75=>KW δ b74 (o75+1) λn76=>∃(f77:Nat) (c78:List Value),(Value.func (.func 198) #[] #[(.pointer (some ⟨b4,0,none⟩))])= .func (.func f77) #[] (List.toArray c78)/\hasR ga f77=true/\HP f77 (List.toArray ([(.int .i64 n76)]++c78)) δ λn79 w80=>nG w80 H 1 (.int .i64 n79) λw82=>lx w82 λS83 w84=>fN S83 b4 0 λv85=>bS v64 λb86 o87=>ux S83 b86 (o87+2) λn88=>HP 172 #[m1] w84 λn89 w90=>S83 w90/\∃(χ:Nat) (m92:Value->Option Value),v85= .map (some χ)/\IsMap w90 χ (.int .i64) m92/\∀w93:World,IsMap w93 χ (.int .i64) (fU m92 (.int .i64 n88) (.int .i64 n89))->df w90 w93 χ->lx w93 λS94 w95=>fN S94 b4 0 λv96=>bS v64 λb97 o98=>ux S94 b97 (o98+2) λn99=>∃(ψ:Nat) (ν:Value->Option Value),v96= .map (some ψ)/\IsMap w95 ψ (.int .i64) ν/\∃ξ:Int,∃ω:Bool,((ω=true/\ν (.int .i64 n99)=some (.int .i64 ξ))\/(ω=false/\ν (.int .i64 n99)=none/\(Value.int .i64 ξ)=(.int .i64 0)))/\nG w95 H 2 (.int .i64 ξ) λw105=>θ w105) (dD (decide (φ=33)) (dD (decide (φ=33)) (lx δ λε w107=>bS v64 λb108 o109=>ux ε b108 (o109+1) λn110=>bS v64 λb111 o112=>ux ε b111 (o112+2) λn113=>∃(f114:Nat) (c115:List Value),(Value.func (.func 198) #[] #[(.pointer (some ⟨b4,0,none⟩))])= .func (.func f114) #[] (List.toArray c115)/\hasR ga f114=true/\HP f114 (List.toArray ([(.int .i64 n110)]++c115)) w107 λn116 w117=>ε w117/\∃(f118:Nat) (c119:List Value),(Value.func (.func 198) #[] #[(.pointer (some ⟨b4,0,none⟩))])= .func (.func f118) #[] (List.toArray c119)/\hasR ga f118=true/\HP f118 (List.toArray ([(.int .i64 n113)]++c119)) w117 λn120 w121=>ε w121/\nG w121 H 1 (.int .i64 n116) λw123=>nG w123 H 2 (.int .i64 n120) λw125=>θ w125) (θ δ)) (dD (decide (φ=61)) (lx δ λζ w127=>bS v64 λb128 o129=>ux ζ b128 (o129+1) λn130=>bS v64 λb131 o132=>ux ζ b131 (o132+2) λn133=>∃(f134:Nat) (c135:List Value),(Value.func (.func 198) #[] #[(.pointer (some ⟨b4,0,none⟩))])= .func (.func f134) #[] (List.toArray c135)/\hasR ga f134=true/\HP f134 (List.toArray ([(.int .i64 n130)]++c135)) w127 λn136 w137=>ζ w137/\∃(f138:Nat) (c139:List Value),(Value.func (.func 198) #[] #[(.pointer (some ⟨b4,0,none⟩))])= .func (.func f138) #[] (List.toArray c139)/\hasR ga f138=true/\HP f138 (List.toArray ([(.int .i64 n133)]++c139)) w137 λn140 w141=>ζ w141/\nG w141 H 1 (.int .i64 n136) λw143=>nG w143 H 2 (.int .i64 n140) λw145=>θ w145) (θ δ))))/\∀(η:World),θ η->∃ο:QU,(bS v64 λb148 o149=>eG η b148 (o149+3) λv150=>∃q151:Option Addr,v150= .pointer q151/\dD (!Option.isNone q151) (lx η λS152 w153=>bS v64 λb154 o155=>fN S152 b154 (o155+3) λv156=>fN S152 b4 0 λv157=>uu 154 #[m1,v156,v157] w153 λv158 w159=>oneV v158=true/\nG w159 H 3 v158 λw161=>ο w161) (ο η))/\∀(ς:World),ο ς->bS v64 λb163 o164=>eG ς b163 (o164+4) λv165=>uw v165 λl167=>CE 0 ς λI169 m170 G J=>dD (decide (G< (l167:Int))) (uv v165 G λb173 o174=>eG J b173 (o174+G.toNat* 1) λv177=>lx J λZ w179=>fN Z H 4 λv180=>fN Z b4 0 λv181=>uu 154 #[m1,v177,v181] w179 λv182 w183=>Z w183/\oneV v182=true/\hZ w183 (.cells #[v182] 59) λb184 w185=>Z w185/\zc 59 1 8 w185 v180 (.slice (some ⟨b184,0,none⟩) 1 1) λv191 w192=>Z w192/\oneV v191=true/\nG w192 H 4 v191 λw194=>cR (G+1)/\I169 (G+1) w194/\m170 (G+1) w194< m170 G J) (eG J b6 1 λv195=>hZ J (.cells #[(.pointer (some ⟨H,0,none⟩))] 130) λb196 w197=>zc 130 1 8 w197 v195 (.slice (some ⟨b196,0,none⟩) 1 1) λv203 w204=>oneV v203=true/\nG w204 b6 1 v203 λw206=>cR (γ+1)/\I56 (γ+1) w206/\m57 (γ+1) w206< m57 γ μ)) (R ((.pointer (some ⟨b6,0,none⟩))) μ))):
  QV 154 #[m1,l2,t3] w (ax [.v] R):=
 LG (aZ [(3,[(23,.i)]),(10,[(50,.i)]),(24,[(132,.i)])] [(21,[]),(23,[])] [(5,true,.lt 0 (.lt 1 (.lt 2 (.one .g 3 (.one .n 4 .done))))),(6,true,.lt 0 (.lt 1 (.lt 2 (.lt 3 (.lt 4 (.lt 5 (.lt 6 (.one .g 7 (.one .g 8 (.one .g 9 (.lt 10 (.lt 11 (.one .n 12 .done))))))))))))),(16,true,.lt 0 (.lt 1 (.lt 2 (.lt 3 (.lt 4 (.lt 5 (.one .g 6 (.one .n 7 .done)))))))),(17,true,.lt 0 (.lt 1 (.lt 2 (.lt 3 (.lt 4 (.lt 5 (.one .n 6 (.lt 7 (.lt 8 (.one .n 9 .done)))))))))),(20,true,.lt 0 (.lt 1 (.lt 2 (.lt 3 (.lt 4 (.lt 5 (.lt 6 (.lt 8 (.lt 9 (.lt 10 (.lt 11 (.lt 12 (.one .g 7 (.one .g 13 (.lt 14 (.lt 15 (.one .n 16 (.lt 17 (.lt 18 (.one .n 19 .done)))))))))))))))))))),(22,true,.lt 0 (.lt 1 (.lt 2 (.lt 3 (.lt 4 (.lt 5 (.lt 6 (.one .n 7 (.lt 8 (.lt 9 (.one .n 10 .done))))))))))),(26,true,.lt 0 (.lt 1 (.lt 2 (.lt 3 (.lt 4 (.lt 5 (.lt 6 (.lt 7 (.one .g 8 (.one .g 9 (.one .g 10 (.lt 11 (.lt 12 (.one .n 13 .done))))))))))))))]) [.tmp 6 .v] [.v m1,.v l2,.v t3] Tryz.func154 (by kernel_rfl) h
attribute [go_sem] Tryz.f115
attribute [go_sem] Tryz.f51
def Hi {j:Nat}(G:j< 26):(List.replicate 26 (iv 0))[j]?=some (iv 0):=by rw [List.getElem?_replicate,N' G]
def J2 {j:Nat}(G:j< 26):(List.replicate 26 (iv 0)).toArray[j]?=some (iv 0):=by rw [Qm];exact Hi G
def qC {w:World}{R:Value->QU}(hR:∀w' cs,Ex w w'->Ih cs e0->R (.agg cs.toArray) w'):QV 105 #[] w (ax [.v] R):=by
 refine pg w R ?_;dsimp only [go_sem];dsimp only [go_sem,Nat.reduceAdd];intro b1 w2 δ J b3 w4 ε Z;have x2:Ex w w2:=J▸Ex.alloc w _;have x4:Ex w2 w4:=Z▸Ex.alloc w2 _;have s2:w2.heap.size=w.heap.size+1:=by rw [J,size_alloc]
 have s4:w4.heap.size=w2.heap.size+1:=by rw [Z,size_alloc]
 have c3:∀j,j< 26->w4.cell? ⟨b3,0+j,none⟩=some (iv 0):=λj G=>by
  rw [Z,ε];refine aa ?_;rw [N2];exact J2 G
 have c1:∀j,j< 26->w4.cell? ⟨b1,0+j,none⟩=some (iv 0):=λj G=>by
  rw [x4.cell (show b1< _ by omega),J,δ];refine aa ?_;rw [N2];exact J2 G
 have f3:∀j,w4.frozen? ⟨b3,j,none⟩=false:=λj=>by rw [Z,ε];exact aV _ _ _ _
 have f1:∀j,w4.frozen? ⟨b1,j,none⟩=false:=λj=>by rw [Pw x4 (show b1< _ by omega),J,δ];exact aV _ _ _ _
 refine⟨⟨rfl,rfl,λj G=>⟨⟨_,c3 j G⟩,f3 _⟩⟩,λw5 μ=>?_⟩;obtain⟨k5,γ,_,ζ⟩:=a8 (b:=b3) _ w4 0;rw [<-μ]at k5 γ ζ;have η:∀j,j< 26->w5.cell? ⟨b3,0+j,none⟩=some (iv 0):=λj G=>by
  rw [ζ j (λi hi=>⟨_,c3 i hi⟩) G];exact Hi G
 have x5:Ex w w5:=Ex.below (Ex.trans x2 x4) (Kp.below k5 (Ex.trans x2 x4).size λg hg e=>by omega);have s5:=k5.size;have d1:∀j,j< 26->w5.cell? ⟨b1,0+j,none⟩=some (iv 0):=λj G=>by rw [Nw (w:=w4) (k5.block b1 (by omega) (by omega))];exact c1 j G
 refine⟨λx w'=>∃i:Nat,x=i/\i<=26/\Ex w w'/\b3< w'.heap.size/\(∀j,j< 26->w'.cell? ⟨b1,0+j,none⟩=some (iv 0))/\(∀j,w'.frozen? ⟨b1,j,none⟩=false)/\(∀j,w'.frozen? ⟨b3,j,none⟩=false)/\∀j,j< 26->w'.cell? ⟨b3,0+j,none⟩=some (iv (if j< i then j else 0)),
  λx _=>(26 - x).toNat,⟨0,rfl,by omega,x5,by omega,d1,λj=>by rw [γ];exact f1 j,λj=>by rw [γ];exact f3 j,λj G=>by rw [NS (by omega)];exact η j G⟩,λx w9 hI=>?_⟩
 obtain⟨i,rfl,hi,x9,l9,e1,g1,g3,e3⟩:=hI;refine⟨λν=>?_,λξ=>?_⟩
 ·have ο:i< 26:=by simp only [NL]at ν;omega
  rw [NF,N7];refine⟨⟨by omega,by omega⟩,⟨⟨_,e3 i ο⟩,g3 _⟩,λφ H=>⟨by omega,⟨i+1,by omega,by omega,?_,?_,λj G=>?_,λj=>?_,λj=>?_,λj G=>?_⟩,by show((26:Int) - ((i:Int)+1)).toNat< ((26:Int) - i).toNat;omega⟩⟩
  ·exact H▸Ex.own x9 (by omega) _
  ·rw [H,Of];exact l9
  ·rw [H,NC _ _ _ _ (λe=>by injection e with e1 e2;omega)];exact e1 j G
  ·rw [H,NY];exact g1 j
  ·rw [H,NY];exact g3 j
  ·by_cases ς:j=i
   ·subst ς;rw [H,N' (by omega)];exact NW _ _ _ (e3 j G)
   ·rw [H,NC _ _ _ _ (λe=>by injection e with e1 e2;omega),e3 j G]
    congr 2
    split<;>split<;>omega
 ·have:i=26:=by simp only [NQ]at ξ;omega
  subst this;have θ:∀j,j< 26->((List.range 26).map iv)[j]?=some (iv j):=λj G=>by simp [G]
  refine⟨(List.range 26).map iv,rfl,λj G=>by rw [e3 j G,θ j G,N' G],⟨rfl,rfl,λj G=>⟨⟨_,e1 j G⟩,g1 _⟩⟩,λυ ι=>?_⟩;obtain⟨κ,_,_,β⟩:=a8 (b:=b1) ((List.range 26).map iv) w9 0;rw [<-ι]at κ β;refine⟨(List.range 26).map iv,rfl,λj G=>β j (λi hi=>⟨_,e1 i (by simpa using hi)⟩) (by simpa using G),hR υ _ ?_ ⟨rfl,λc hc=>?_⟩⟩
  ·exact Ex.below x9 (Kp.below κ x9.size λg hg e=>by omega)
  ·have :=a6 hc;exact θ _ (by omega)
def JA {t:P}(h:Lt t):Nu (num t e0 0).1:=by
 obtain⟨_,G,H,h4⟩:=rD (p:=t) λc J=>T.Al.free h c J
 exact⟨G,λy Z=>H y (T.bf Z),h4⟩
def bZ:∀u:U,(flat u).1.length+(flat u).2.tot<=4* u.size
 | .nil=>by simp [flat,Lv.tot]
 | .snd a b p=>by have :=bZ p;simp only [flat,Lv.tot,T.size,NR];omega
 | .rcv a b p=>by have :=bZ p;simp only [flat,Lv.tot,T.size,NR];omega
 | .tau p=>by have :=bZ p;simp only [flat,Lv.tot,T.size,NR];omega
 | .mat a b p=>by have :=bZ p;simp only [flat,Lv.tot,T.size,NR];omega
 | .rep p=>by have :=bZ p;simp only [flat,Lv.tot,T.size,NR];omega
 | .res x p=>by have :=bZ p;simp only [flat,T.size,Nv];omega
 | .par p q=>by have :=bZ p;have :=bZ q;simp only [flat,Lv.bP,T.size,NB];omega
 | .sum p q=>by have :=bZ p;have :=bZ q;simp only [flat,Lv.tot,T.size,NR];omega
def Gj {u:U}(h:Nu u):∀x,x∉(td u).1->(td u).2.fh x->x< 26:=λx h1 G=>h.fr x (Ac _ u (ND _) h.uq x G h1)
def wL {D:Nat->Prop}{w:World}{t:P}{v:Value}(h:aI D w t v)(hD:∀g,D g->g< w.heap.size)(hl:Lt t)(hs:t.size<=1000000){R:aH->Bool->QU}
  (hR:∀w',Ex w w'->(∀s,iz (num t e0 0).1=some s->R s true w')/\(iz (num t e0 0).1=none->R [] false w')):QV 62 #[v] w (ax [.s,.b] R):=by
 refine mo v w R ?_;dsimp only [go_sem];intro b2 Z J G;have x3:Ex w Z:=G▸Ex.alloc w _;have s3:Z.heap.size=w.heap.size+1:=by rw [G,size_alloc]
 refine qC λw5 cs x5 β=>?_
 have H:Ex w w5:=Ex.trans x3 x5;have mk:Mk Z b2 0:=⟨by omega,by rw [G,J];exact aa rfl,by rw [G,J];exact aV _ _ _ _⟩
 have γ:aI D w5 t v:=aI.kp (Kp.ah H λ _=>False) (λ _ _ h=>h) h;refine JF t γ (λg hg e=>by have :=hD g hg;omega) (mk.ex x5) β hl (by omega) λv' w7 k7 _ h7=>?_
 have nu:=JA hl;have ζ:=(bJ t e0 0).1;have η:=bZ (num t e0 0).1;have e:Lv.tidy (flat (num t e0 0).1).1 (flat (num t e0 0).1).2=td (num t e0 0).1:=rfl;refine p8 h7 (cx _) (by omega) (by rw [e];exact BS nu.uq nu.bv) (by rw [e];exact Gj nu) λδ ε=>?_
 have x7:Ex w w7:=Ex.below H (Kp.below k7.kp H.size λg hg e=>by omega);rw [e];exact hR δ (Ex.trans x7 ε)
structure LU (w:World)(D:Nat->Prop)(b:Nat)(n:Nat)(s:Tx)(L:List Nat×Lv):Prop where
 mc:Mk w b n
 tx:w.cell? ⟨b,1,none⟩=some (.string (ay s))
 l:∃v,w.cell? ⟨b,2,none⟩=some v/\aJ D w L v
def Lw {t:P}{w:World}(hl:Lt t)(hs:t.size<=1000000)(hlen:t.text.length<=1099511627776){R:Value->QU}
  (hR:∀b w',Ex w w'->w.heap.size<=b->LU w' (λg=>w.heap.size<=g/\g≠b/\g< w'.heap.size) b (num t e0 0).2 t.text (td (num t e0 0).1)->R (ptr b) w'):QV 55 #[.string (ay t.text)] w (ax [.v] R):=by
 refine xi t.text w R ?_;dsimp only [go_sem];dsimp only [go_sem,Nat.reduceAdd];refine xH hlen λv2 q w4 x4 χ ψ=>?_
 have hq:q=true:=by
  cases q
  ·exact absurd rfl (ψ rfl t hl)
  ·rfl
 obtain⟨t',ω,et,ht'⟩:=χ hq;have:t'=t:=dY (T.Al.wf ω) (T.Al.wf hl) et.symm;subst this;intro b5 w6 γ Z;have x6:Ex w4 w6:=Z▸Ex.alloc w4 _;have s6:w6.heap.size=w4.heap.size+1:=by rw [Z,size_alloc]
 refine⟨λw'=>Ex w6 w',λw8 κ=>⟨κ▸Ex.drew w6,?_⟩⟩;have x8:Ex w6 w8:=κ▸Ex.drew w6;have s4:=x4.size;have s8:=x8.size;have mk6:Mk w6 b5 0:=⟨by omega,by rw [Z,γ];exact aa rfl,by rw [Z,γ];exact aV _ _ _ _⟩
 have t6:w6.cell? ⟨b5,1,none⟩=some (.string (ay t'.text)):=by rw [Z,γ];exact aa rfl
 have l6:w6.cell? ⟨b5,2,none⟩=some (.pointer none):=by rw [Z,γ];exact aa rfl
 have f6:∀j,w6.frozen? ⟨b5,j,none⟩=false:=λj=>by rw [Z,γ];exact aV _ _ _ _
 refine qC λw10 cs μ hcs=>?_
 have G:=Ex.trans x8 μ;have ν:aI (λg=>D9 w g/\g< w4.heap.size) w10 t' v2:=aI.kp (Kp.ah (Ex.trans x6 G) λ _=>False) (λ _ _ h=>h) ht'.bound;refine JF t' ν (λg hg e=>by omega) (mk6.ex G) hcs hl (by omega) λv11 ε δ ζ h12=>?_
 have hsz:=(bJ t' e0 0).1;have htt:=bZ (num t' e0 0).1;refine HN _ (ND _) (cx _) h12 (by omega) λv13 β H ξ=>⟨ξ.one,?_⟩
 have x14':Ex ε β:=H;have s12:=δ.size;have s10:=μ.size;have η:b5< ε.heap.size:=ζ.lt;have f14:∀j,β.frozen? ⟨b5,j,none⟩=false:=λj=>by rw [Pw H η,δ.fz,Pw G (show b5< _ by omega)];exact f6 j
 have t14:β.cell? ⟨b5,1,none⟩=some (.string (ay t'.text)):=by rw [H.cell (show b5< _ from η),δ.ce 1 (by omega),G.cell (show b5< _ by omega)];exact t6
 have ο:β.cell? ⟨b5,2,none⟩=some (.pointer none):=by rw [H.cell (show b5< _ from η),δ.ce 2 (by omega),G.cell (show b5< _ by omega)];exact l6
 have ς:=ζ.ex H;refine⟨⟨⟨_,ο⟩,f14 2⟩,λθ J=>?_⟩;have ι:Kr b5 β θ:=J▸Kr.set _ _ _;have υ:θ.cell? ⟨b5,0,none⟩=some (iv (num t' e0 0).2):=by rw [J,NC _ _ _ _ (λe=>by injection e with e1 e2;omega)];exact ς.c
 have φ:Ex w ε:=Ex.below (Ex.trans x4 (Ex.trans x6 G)) (Kp.below δ.kp (Ex.trans x4 (Ex.trans x6 G)).size λg hg e=>by omega);have s14:=H.size;have s16:=ι.size;refine hR b5 θ (Ex.below (Ex.trans φ H) (Kp.below ι (Ex.trans φ H).size λg hg e=>by omega)) (by omega) ⟨⟨by omega,υ,by rw [J,NY];exact f14 0⟩,?_,v13,?_,?_⟩
 ·rw [J,NC _ _ _ _ (λe=>by injection e with e1 e2;omega)];exact t14
 ·rw [J];exact NW _ _ _ ο
 ·exact aJ.sub (aJ.kp (aJ.sub (E:=λg=>ε.heap.size<=g/\g< β.heap.size) ξ λg hg hd=>⟨hd,hg⟩) ι λg hg e=>by omega) λg hg hd=>⟨by omega,by omega,by omega⟩
section
open T
def Gn {u G:U}(h:Nu u)(h':Nu G)(ae:AE σ0 u σ0 G):iz u=iz G:=by
 have hi:∀y z:Nat,σ0 y=σ0 z->y=z:=λy z e=>by unfold σ0 at e;omega
 have H:∀y,u.Us y↔G.Us y:=λy=>by
  constructor
  ·intro J;obtain⟨z,Z,e⟩:=ae.used (λy z _ _ e=>hi y z e) (λy z _ _ e=>hi y z e) y J;rw [<-hi z y e];exact Z
  ·intro J;obtain⟨z,Z,e⟩:=ae.symm.used (λy z _ _ e=>hi y z e) (λy z _ _ e=>hi y z e) y J;rw [<-hi z y e];exact Z
 have β:pq (td u).2=pq (td G).2:=by
  funext c
  rw [OD,pJ h,pJ h',H]
 have key:=λtk=>JX (ρ:=ρ0) (ρ':=ρ0) ae h.uq h'.uq (λy z _ _ e=>hi y z e) (λy z _ _ e=>hi y z e) (λy y' _ _ e=>by rw [hi y y' e]) tk
 obtain⟨_,k2,k3,k4⟩:=key (pq (td u).2);rw [iq,iq,<-β,(key (pq (td u).2)).1,k2,k3,k4]
structure nE (t:P):Prop where
 al:t.Al λc=>lt c=true
 nr:t.Nr
 smp:t.smp=true
 len:t.text.length<=300
 size:t.size<=60
 most:aX (num t e0 0).1<=5
 all:cz (num t e0 0).1<=8
 nf:iz (num t e0 0).1=some t.text
def IE {t:P}(h:t.Al λc=>lt c=true):∀y,(num t e0 0).1.Fr y->y< 26:=(rD (p:=t) λc G=>T.Al.free h c G).2.2.1
def ki {t:P}(h:t.Al λc=>lt c=true):AE UInt8.toNat t σ0 (num t e0 0).1:=(rD (p:=t) λc G=>T.Al.free h c G).1
def j8 {t:P}(h:t.Al λc=>lt c=true):Nu (num t e0 0).1:=by
 obtain⟨_,G,H,h4⟩:=rD (p:=t) λc J=>T.Al.free h c J
 exact⟨G,λy Z=>H y (T.bf Z),h4⟩
def Lh.Nh {u:U}{s:Tx}{t:P}{v:U}(h:Nu u)(n:Lh u s t v)(hs:u.smp=true):nE t:=by
 have G:Nu v:=⟨n.arr.uq,λy hy=>h.fr y ((n.arr.us y).1 hy),λx hx=>h.bv x (n.arr.bv x hx)⟩
 have hv:∀y,v.Fr y->(ρ0 y).toNat=σ0 y:=λy hy=>de (G.fr y (n.arr.nr.iy hy))
 have ae:AE UInt8.toNat t σ0 v:=n.ae.congr (λ _ _=>rfl) hv;have H:=j8 n.al;have J:AE σ0 v σ0 (num t e0 0).1:=ae.symm.trans (ki n.al);have Z:∀p:U,eQ σ0 p:=λp y z _ _ e=>by unfold σ0 at e;omega
 have β:pq (td v).2=pq (td u).2:=by
  funext c
  rw [OD,pJ G,pJ h,n.arr.us]
 have hi:∀y z:Nat,σ0 y=σ0 z->y=z:=λy z e=>by unfold σ0 at e;omega
 obtain⟨_,k2,k3,k4⟩:=JX (ρ:=ρ0) (ρ':=ρ0) J G.uq H.uq (λy z _ _ e=>hi y z e) (λy z _ _ e=>hi y z e) (λy y' _ _ e=>by rw [hi y y' e]) (pq (td v).2);refine⟨n.al,AE.nr ae.symm (Z v) (eM t) n.arr.nr,by rw [xk ae];exact n.arr.smp hs,by rw [n.text];exact n.len,n.size,by rw [<-k4,n.arr.most];exact n.most,by rw [<-k3,n.arr.all];exact n.all,?_⟩;have e1:LS v ρ0 (pq (td v).2)=s:=by rw [β,n.arr.ls];exact n.ls.symm
 have hg:da s:=⟨n.len,t,n.al,n.text,n.size⟩
 rw [<-Gn G H J,iq,e1,N' ⟨⟨by rw [n.arr.most];exact n.most,by rw [n.arr.all];exact n.all⟩,by rw [β,n.arr.bad];exact n.bad,hg⟩,n.text]
section
variable {A B:Type} [DecidableEq A] [DecidableEq B]
inductive Off (A:Type) where
 | tau (p:T A)
 | snd (a b:A) (p:T A)
 | rcv (a x:A) (q:T A) (again:Bool)
def Off.stay:Off A->Off A
 | .rcv a x q _=> .rcv a x q true
 | o=>o
def offs:T A->List (Off A)
 | .tau p=>[.tau p]
 | .snd a b p=>[.snd a b p]
 | .rcv a x p=>[.rcv a x p false]
 | .sum p q=>offs p++offs q
 | .rep p=>(offs p).map Off.stay
 | _=>[]
def wo {X:Type}(l:List X)(i j:Nat):List X:=(l.zipIdx.filter λz=> !(z.2==i)&& !(z.2==j)).map (·.1)
def AH (ρ:A->Nat)(σ:B->Nat):Off A->Off B->Prop
 | .tau p,.tau q=>AE ρ p σ q
 | .snd a b p,.snd c d q=>ρ a=σ c/\ρ b=σ d/\AE ρ p σ q
 | .rcv a x p s,.rcv c y q G=>ρ a=σ c/\(∀v,AE (aG ρ x v) p (aG σ y v) q)/\s=G
 | _,_=>False
inductive gD {X Y:Type} (R:X->Y->Prop):List X->List Y->Prop
 | nil:gD R [] []
 | cons {x y l m}:R x y->gD R l m->gD R (x::l) (y::m)
def gD.app {X Y:Type}{R:X->Y->Prop}{l G:List X}{m m':List Y}(h:gD R l m)(k:gD R G m'):gD R (l++G) (m++m'):=by
 induction h with
 | nil=>exact k
 | cons h _ H=>exact .cons h H
def gD.map {X Y G H:Type}{R:X->Y->Prop}{S:G->H->Prop}{f:X->G}{g:Y->H}(J:∀x y,R x y->S (f x) (g y)){l:List X}{m:List Y}(h:gD R l m):gD S (l.map f) (m.map g):=by
 induction h with
 | nil=>exact .nil
 | cons h _ Z=>exact .cons (J _ _ h) Z
def gD.len {X Y:Type}{R:X->Y->Prop}{l:List X}{m:List Y}(h:gD R l m):l.length=m.length:=by
 induction h with
 | nil=>rfl
 | cons _ _ G=>simp [G]
def gD.get {X Y:Type}{R:X->Y->Prop}{l:List X}{m:List Y}(h:gD R l m):∀{i:Nat} (hi:i< l.length) (G:i< m.length),R l[i] m[i]:=by
 induction h with
 | nil=>intro i hi;cases hi
 | cons h _ H=>
  intro i hi G;cases i with
  | zero=>exact h
  | succ i=>simpa using H (by simpa using hi) (by simpa using G)
def gD.wo {X Y:Type}{R:X->Y->Prop}{l:List X}{m:List Y}(h:gD R l m)(i j:Nat):gD R (wo l i j) (wo m i j):=by
 unfold Go.Proofs.YthekamjhgabkjaaGreat.wo;have:∀k,gD R ((l.zipIdx k).filter (λz=> !(z.2==i)&& !(z.2==j)) |>.map (·.1)) ((m.zipIdx k).filter (λz=> !(z.2==i)&& !(z.2==j)) |>.map (·.1)):=by
  induction h with
  | nil=>intro k;exact .nil
  | cons h _ G=>
   intro k;simp only [List.zipIdx_cons,List.filter_cons];split
   ·simp only [N4];exact .cons h (G _)
   ·exact G _
 exact this 0
def Du:∀{p:T A} {q:T B} {ρ:A->Nat} {σ:B->Nat},AE ρ p σ q->gD (AH ρ σ) (offs p) (offs q):=by
 intro p
 induction p with
 | nil=>intro q ρ σ h;cases q<;>first | exact .nil | cases h
 | par p Z=>intro q ρ σ h;cases q<;>first | exact .nil | cases h
 | res x p=>intro q ρ σ h;cases q<;>first | exact .nil | cases h
 | mat a b p=>intro q ρ σ h;cases q<;>first | exact .nil | cases h
 | tau p=>intro q ρ σ h;cases q<;>first | exact .cons h .nil | cases h
 | snd a b p=>intro q ρ σ h;cases q<;>first | exact .cons h .nil | cases h
 | rcv a b p=>intro q ρ σ h;cases q<;>first | exact .cons ⟨h.1,h.2,rfl⟩ .nil | cases h
 | sum p Z H J=>
  intro q ρ σ h;cases q<;>first | exact(H h.1).app (J h.2) | cases h
 | rep p H=>
  intro q ρ σ h;cases q<;>try cases h
  refine(H h).map λx y G=>?_
  cases x<;>cases y<;>first | exact G | (exact⟨G.1,G.2.1,rfl⟩) | cases G
end
def AE.open:∀{t:P} {u:U} {ρ:Rh},AE UInt8.toNat t (λz=>(ρ z).toNat) u->t.Nr->t.frL.length=u.frL.length/\gD (λp q=>AE UInt8.toNat p (λz=>(asg u.frL t.frL ρ z).toNat) q) t.ths u.ths:=by
 intro t
 induction t with
 | nil=>intro u ρ h n;cases u<;>first | exact⟨rfl,.nil⟩ | cases h
 | snd a b p=>intro u ρ h n;cases u<;>first | exact⟨rfl,.cons h .nil⟩ | cases h
 | rcv a b p=>intro u ρ h n;cases u<;>first | exact⟨rfl,.cons h .nil⟩ | cases h
 | tau p=>intro u ρ h n;cases u<;>first | exact⟨rfl,.cons h .nil⟩ | cases h
 | sum p q=>intro u ρ h n;cases u<;>first | exact⟨rfl,.cons h .nil⟩ | cases h
 | mat a b p=>intro u ρ h n;cases u<;>first | exact⟨rfl,.cons h .nil⟩ | cases h
 | rep p=>intro u ρ h n;cases u<;>first | exact⟨rfl,.cons h .nil⟩ | cases h
 | par p q ih J=>
  intro u ρ h n;cases u<;>try cases h
  rename_i p' q' h1 h2;have h0:q.frL=[]:=by
   rcases n.1.2 with h | h
   ·exact fQ h
   ·cases q<;>first | rfl | (cases h;done)
  obtain⟨G,H⟩:=J h2 n.2.2;have Z:q'.frL=[]:=by rw [h0]at G;exact N3 G.symm
  rw [h0,Z]at H;exact⟨rfl,.cons h1 H⟩
 | res x p ih=>
  intro u ρ h n;cases u<;>try cases h
  rename_i y q;have h1:=h x.toNat;have e1:aG UInt8.toNat x x.toNat=UInt8.toNat:=by funext c;unfold aG;split<;>simp_all
  have e2:aG (λz=>(ρ z).toNat) y x.toNat=λz=>(aG ρ y x z).toNat:=by funext z;unfold aG;split<;>rfl
  rw [e1,e2]at h1;obtain⟨G,H⟩:=ih h1 n.2;exact⟨by simp [frL,G],H⟩
def AE.tM {D:Nat->Prop}{f:Nat->Nat}:∀{q:U} {σ τ:Nat->Nat},(∀z,q.Fr z->D z/\σ z=τ (f z))->(∀x∈BV q,D x/\∀z,D z->z≠x->f z≠f x)->AE σ q τ (q.map f)
 | .nil,_,_,_,_=>trivial
 | .snd a b p,σ,τ,h,k=>⟨(h a (.inl rfl)).2,(h b (.inr (.inl rfl))).2,AE.tM (λz G=>h z (.inr (.inr G))) k⟩
 | .mat a b p,σ,τ,h,k=>⟨(h a (.inl rfl)).2,(h b (.inr (.inl rfl))).2,AE.tM (λz G=>h z (.inr (.inr G))) k⟩
 | .tau p,σ,τ,h,k=>AE.tM (q:=p) h k
 | .rep p,σ,τ,h,k=>AE.tM (q:=p) h k
 | .sum p q,σ,τ,h,k=>⟨AE.tM (λz G=>h z (.inl G)) λx J=>k x (Ob _ J),AE.tM (λz G=>h z (.inr G)) λx J=>k x (N1 _ J)⟩
 | .par p q,σ,τ,h,k=>⟨AE.tM (λz G=>h z (.inl G)) λx J=>k x (Ob _ J),AE.tM (λz G=>h z (.inr G)) λx J=>k x (N1 _ J)⟩
 | .rcv a x p,σ,τ,h,k=>by
  have Z:=k x (Oa ..);refine⟨(h a (.inl rfl)).2,λv=>AE.tM (D:=D) (λz G=>?_) λy hy=>k y (NJ _ hy)⟩;by_cases e:z=x
  ·subst e;exact⟨Z.1,by simp [aG]⟩
  ·have H:=h z (.inr ⟨e,G⟩);have :=Z.2 z H.1 e;refine⟨H.1,?_⟩;simp only [aG,NS e,NS this];exact H.2
 | .res x p,σ,τ,h,k=>by
  have Z:=k x (Oa ..);refine λv=>AE.tM (D:=D) (λz G=>?_) λy hy=>k y (NJ _ hy)
  by_cases e:z=x
  ·subst e;exact⟨Z.1,by simp [aG]⟩
  ·have H:=h z ⟨e,G⟩;have :=Z.2 z H.1 e;refine⟨H.1,?_⟩;simp only [aG,NS e,NS this];exact H.2
def dS (f:Nat->Nat):∀u:U,BV (u.map f)=(BV u).map f
 | .nil=>rfl
 | .snd a b p=>dS f p
 | .mat a b p=>dS f p
 | .tau p=>dS f p
 | .rep p=>dS f p
 | .rcv a x p=>by simp only [T.map,BV,dS f p,N4]
 | .res x p=>by simp only [T.map,BV,dS f p,N4]
 | .sum p q=>by simp only [T.map,BV,dS f p,dS f q,Oj]
 | .par p q=>by simp only [T.map,BV,dS f p,dS f q,Oj]
def Off.tm {A:Type}:Off A->T A
 | .tau p=> .tau p
 | .snd a b p=> .snd a b p
 | .rcv a x q _=> .rcv a x q
structure Sub {A:Type}(s t:T A):Prop where
 smp:t.smp=true->s.smp=true
 nr:t.Nr->s.Nr
 fr:∀z,s.Fr z->t.Fr z
 rd:s.rd<=t.rd
 ow:s.ow<=t.ow
 size:s.size<=t.size
 al:∀D:A->Prop,t.Al D->s.Al D
def Sub.refl {A:Type}(t:T A):Sub t t:=⟨id,id,λ _=>id,ND _,ND _,ND _,λ _=>id⟩
def bM {A:Type}:∀{t:T A},t.smp=true->∀o∈offs t,Sub o.tm t/\(∀a x q,o= .rcv a x q true->t= .rep (.rcv a x q)):=by
 intro t
 induction t with
 | nil=>intro _ o h;cases h
 | par p q=>intro _ o h;cases h
 | res x p=>intro _ o h;cases h
 | mat a b p=>intro _ o h;cases h
 | tau p=>intro _ o h;rw [offs,NT]at h;subst h;exact⟨Sub.refl _,λ _ _ _ h=>by cases h⟩
 | snd a b p=>intro _ o h;rw [offs,NT]at h;subst h;exact⟨Sub.refl _,λ _ _ _ h=>by cases h⟩
 | rcv a b p=>intro _ o h;rw [offs,NT]at h;subst h;exact⟨Sub.refl _,λ _ _ _ h=>by cases h⟩
 | sum p q ih β=>
  intro G o h;simp only [smp,Nz]at G;rw [offs,NI]at h;rcases h with h | h
  ·obtain⟨k,kr⟩:=ih G.2.1 o h;refine⟨⟨λ _=>k.smp G.2.1,λn=>k.nr n.2.1,λz H=> .inl (k.fr z H),OC k.rd (Nat.le_max_left _ _),by have :=k.ow;simp only [ow];omega,by have :=k.size;simp only [size];omega,λD J=>k.al D J.1⟩,λa x Z e=>?_⟩;have e2:=kr a x Z e;rw [e2]at G;simp [gp]at G
  ·obtain⟨k,kr⟩:=β G.2.2 o h;refine⟨⟨λ _=>k.smp G.2.2,λn=>k.nr n.2.2,λz H=> .inr (k.fr z H),OC k.rd (Nat.le_max_right _ _),by have :=k.ow;simp only [ow];omega,by have :=k.size;simp only [size];omega,λD J=>k.al D J.2⟩,λa x Z e=>?_⟩;have e2:=kr a x Z e;rw [e2]at G;simp [gp]at G
 | rep p ih=>
  intro G o h;simp only [smp,Nz]at G;cases p<;>try (simp [isR]at G)
  rename_i a x q;simp only [offs,N4,PE,NT,Off.stay]at h;subst h;refine⟨⟨λh=>?_,λn=>n.2,λz H=>H,ND _,ND _,by simp only [Off.tm,size];omega,λD J=>J⟩,λa' x' Z e=>?_⟩
  ·simp only [smp,Nz]at h;exact h.2
  ·cases e;rfl
def il:∀{t:U},∀o∈offs t,(BV o.tm).Sublist (BV t):=by
 intro t
 induction t with
 | nil=>intro o h;cases h
 | par p q=>intro o h;cases h
 | res x p=>intro o h;cases h
 | mat a b p=>intro o h;cases h
 | tau p=>intro o h;rw [offs,NT]at h;subst h;exact Ov _
 | snd a b p=>intro o h;rw [offs,NT]at h;subst h;exact Ov _
 | rcv a b p=>intro o h;rw [offs,NT]at h;subst h;exact Ov _
 | sum p q G H=>
  intro o h;rw [offs,NI]at h;rcases h with h | h
  ·exact(G o h).trans (Pv _ _)
  ·exact(H o h).trans (O9 _ _)
 | rep p G=>
  intro o h;obtain⟨J,h1,rfl⟩:=Oe.1 h;have :=G J h1;cases J<;>exact this
section
variable {X:Type}
def kQ (P:Nat->Bool)(l:List X)(k:Nat):List X:=((l.zipIdx k).filter λz=> !P z.2).map (·.1)
def gk (P:Nat->Bool)(k:Nat):kQ P ([]:List X) k=[]:=rfl
def bO (P:Nat->Bool)(x:X)(l:List X)(k:Nat):kQ P (x::l) k=if P k then kQ P l (k+1)else x::kQ P l (k+1):=by
 unfold kQ;simp only [List.zipIdx_cons,List.filter_cons];cases P k<;>simp
def wE {P Q:Nat->Bool}:∀{l:List X} {k:Nat},(∀i,k<=i->P i=Q i)->kQ P l k=kQ Q l k
 | [],_,_=>rfl
 | x::l,k,h=>by rw [bO,bO,h k (ND _),wE (l:=l) λi hi=>h i (by omega)]
def C1 {P:Nat->Bool}:∀{l:List X} {k:Nat},(∀i,k<=i->P i=false)->kQ P l k=l
 | [],_,_=>rfl
 | x::l,k,h=>by rw [bO,h k (ND _),C1 (l:=l) λi hi=>h i (by omega)];rfl
def DE:∀(l:List X) (k i:Nat) (h:i< l.length),l.Perm (l[i]::kQ (λn=>n==k+i) l k)
 | [],_,_,h=>by cases h
 | x::l,k,0,h=>by
  rw [bO,N' (by simp),C1 λi hi=>by simp;omega];exact OY _
 | x::l,k,i+1,h=>by
  rw [bO,NS (by simp)];have :=DE l (k+1) i (by simpa using h);rw [show k+1+i=k+(i+1) by omega]at this;exact(this.cons x).trans (List.Perm.swap _ _ _)
def BC (l:List X)(i j:Nat):wo l i j=kQ (λn=>n==i||n==j) l 0:=by
 unfold wo kQ
 congr 2
 funext z
 simp
def xr (l:List X)(i:Nat)(h:i< l.length):l.Perm (l[i]::wo l i i):=by
 have :=DE l 0 i h;rw [BC,wE (Q:=λn=>n==0+i) λn _=>by simp];exact this
def eX {l:List X}{i j:Nat}{x:X}(h:x∈wo l i j):x∈l:=by
 unfold wo at h;obtain⟨z,G,rfl⟩:=Oe.1 h;have :=(List.mem_filter.1 G).1;rw [List.mem_zipIdx_iff_getElem?]at this;exact Py this
end
structure EZ (N:Nat)(q:U)(x b:Nat)(f:Nat->Nat):Prop where
 fx:f x=b
 fo:∀z,z≠x->z∉BV q->f z=z
 fb:∀z∈BV q,N< f z
 fi:∀z∈BV q,∀z'∈BV q,f z=f z'->z=z'
def EZ.ae {N:Nat}{q:U}{x b:Nat}{f:Nat->Nat}(h:EZ N q x b f)(Z:Uq q)(hx:x∉BV q)(hN:∀z,q.Fr z->z<=N)(hb:b<=N)(β:∀z∈BV q,z<=N)(σ:Nat->Nat):AE (aG σ x (σ b)) q σ (q.map f):=by
 refine AE.tM (D:=λz=>q.Fr z\/z∈BV q) (λz G=>⟨.inl G,?_⟩) λy H=>⟨.inr H,λz G J=>?_⟩
 ·by_cases e:z=x
  ·subst e;rw [h.fx,cB]
  ·rw [bB _ _ e,h.fo z e λhb=>Z.nf z hb G]
 ·have γ:=h.fb y H;rcases G with G | G
  ·by_cases e:z=x
   ·rw [e,h.fx];omega
   ·rw [h.fo z e λhb=>Z.nf z hb G];have :=hN z G;omega
  ·exact λe=>J (h.fi z G y H e)
def EZ.fr {N:Nat}{q:U}{x b:Nat}{f:Nat->Nat}(h:EZ N q x b f)(hq:Uq q):∀z,(q.map f).Fr z->z=b\/(z≠x/\q.Fr z):=by
 have key:∀(q:U) (z:Nat),(q.map f).Fr z->∃y,q.Fr y/\f y=z:=by
  intro q
  induction q with
  | nil=>intro z h;exact h.elim
  | snd a b p H=>
   intro z h;rcases h with h | h | h
   ·exact⟨a,.inl rfl,h.symm⟩
   ·exact⟨b,.inr (.inl rfl),h.symm⟩
   ·obtain⟨y,h1,G⟩:=H z h;exact⟨y,.inr (.inr h1),G⟩
  | mat a b p H=>
   intro z h;rcases h with h | h | h
   ·exact⟨a,.inl rfl,h.symm⟩
   ·exact⟨b,.inr (.inl rfl),h.symm⟩
   ·obtain⟨y,h1,G⟩:=H z h;exact⟨y,.inr (.inr h1),G⟩
  | rcv a x p H=>
   intro z h;rcases h with h | ⟨h,Z⟩
   ·exact⟨a,.inl rfl,h.symm⟩
   ·obtain⟨y,h1,G⟩:=H z Z;exact⟨y,.inr ⟨λe=>h (by rw [<-G,e]),h1⟩,G⟩
  | res x p H=>
   intro z ⟨h,Z⟩;obtain⟨y,h1,G⟩:=H z Z;exact⟨y,⟨λe=>h (by rw [<-G,e]),h1⟩,G⟩
  | tau p H=>exact H
  | rep p H=>exact H
  | sum p q H J=>
   intro z h;rcases h with h | h
   ·obtain⟨y,h1,G⟩:=H z h;exact⟨y,.inl h1,G⟩
   ·obtain⟨y,h1,G⟩:=J z h;exact⟨y,.inr h1,G⟩
  | par p q H J=>
   intro z h;rcases h with h | h
   ·obtain⟨y,h1,G⟩:=H z h;exact⟨y,.inl h1,G⟩
   ·obtain⟨y,h1,G⟩:=J z h;exact⟨y,.inr h1,G⟩
 intro z hz;obtain⟨y,h1,G⟩:=key q z hz;by_cases e:y=x
 ·left;rw [<-G,e,h.fx]
 ·right;rw [h.fo y e λhb=>hq.nf y hb h1]at G;subst G;exact⟨e,h1⟩
end
def jq (w:World)(r:Nat)(F:Nat->Nat):Prop:=∃mm,IsMap w r (.int .i64) mm/\∀x:Nat,mm (iv x)=some (iv (F x))\/(mm (iv x)=none/\F x=x)
def jc {w w':World}{r:Nat}{d:TypeDesc}{m:Value->Option Value}(h:IsMap w r d m)(e:w'.heap[r]?=w.heap[r]?):IsMap w' r d m:=by
 obtain⟨es,cl,h1,G⟩:=h;exact⟨es,cl,by rw [e];exact h1,G⟩
def iZ {w:World}{r:Nat}{d:TypeDesc}{m:Value->Option Value}(h:IsMap w r d m):r< w.heap.size:=by
 obtain⟨es,cl,h1,G⟩:=h;exact(N8.1 h1).1
def jq.lt {w:World}{r:Nat}{F:Nat->Nat}(h:jq w r F):r< w.heap.size:=by
 obtain⟨mm,h1,_⟩:=h;exact iZ h1
def jq.kp {w w':World}{r:Nat}{F:Nat->Nat}{S:Nat->Prop}(h:jq w r F)(k:Kp w w' S)(G:¬S r):jq w' r F:=by
 have H:=h.lt;obtain⟨mm,h1,J⟩:=h;exact⟨mm,jc h1 (k.block r H G),J⟩
def sB {w:World}{r:Nat}{mm:Value->Option Value}{F:Nat->Nat}(G:∀x:Nat,mm (iv x)=some (iv (F x))\/(mm (iv x)=none/\F x=x)){x y:Nat}(h:IsMap w r (.int .i64) (fU mm (iv x) (iv y))):jq w r (aG F x y):=by
 refine⟨_,h,λz=>?_⟩;unfold fU aG;by_cases e:z=x
 ·subst e;left;simp
 ·have:iv z≠iv x:=λH=>e (by injection H with _ J;omega)
  simp only [NS e,NS this];exact G z
structure Rn (n n':Nat)(xs:List Nat)(F F':Nat->Nat):Prop where
 le:n<=n'
 len:n'<=n+xs.length
 out:∀x,x∉xs->F' x=F x
 rng:∀x∈xs,n+100< F' x/\F' x<=n'+100
 inj:∀x∈xs,∀y∈xs,F' x=F' y->x=y
def Rn.refl (n:Nat)(F:Nat->Nat):Rn n n [] F F:=⟨ND _,by simp,λ _ _=>rfl,λ _ h=>(by cases h),λ _ h=>(by cases h)⟩
def Rn.one (n x:Nat)(F:Nat->Nat):Rn n (n+1) [x] F (aG F x (n+101)):=by
 refine⟨by omega,by simp,λy G=>NS (by simpa using G),λy G=>?_,λy G z H _=>?_⟩
 ·cases NT.1 G;simp only [aG,PG];omega
 ·cases NT.1 G;cases NT.1 H;rfl
def Rn.app {n m p:Nat}{xs ys:List Nat}{F G H:Nat->Nat}(h:Rn n m xs F G)(k:Rn m p ys G H)(hd:∀x∈xs,x∉ys):Rn n p (xs++ys) F H:=by
 have Z:∀x∈xs,H x=G x:=λx Z=>k.out x (hd x Z)
 refine⟨OC h.le k.le,by have :=h.len;have :=k.len;rw [NB];omega,λx J=>?_,λx J=>?_,λx J y β e=>?_⟩
 ·rw [NI,QP]at J;rw [k.out x J.2,h.out x J.1]
 ·have :=h.le;have :=k.le;rcases NI.1 J with h1 | h1
  ·rw [Z x h1];have :=h.rng x h1;omega
  ·have :=k.rng x h1;omega
 ·rcases NI.1 J with h1 | h1<;>rcases NI.1 β with h2 | h2
  ·rw [Z x h1,Z y h2]at e;exact h.inj x h1 y h2 e
  ·rw [Z x h1]at e;have :=h.rng x h1;have :=k.rng y h2;omega
  ·rw [Z y h2]at e;have :=h.rng y h2;have :=k.rng x h1;omega
  ·exact k.inj x h1 y h2 e
structure Kq (m r:Nat)(w w':World):Prop where
 kp:Kp w w' λg=>g=m\/g=r
 ce:∀j,j≠0->w'.cell? ⟨m,j,none⟩=w.cell? ⟨m,j,none⟩
 fz:∀j,w'.frozen? ⟨m,j,none⟩=w.frozen? ⟨m,j,none⟩
section
variable {m r:Nat} {w w0 w' w'':World}
def Kq.size (h:Kq m r w w'):w.heap.size<=w'.heap.size:=h.kp.size
def Kq.trans (h:Kq m r w w')(k:Kq m r w' w''):Kq m r w w'':=⟨Kp.trans h.kp k.kp λ _ _ h=>h,λj G=>(k.ce j G).trans (h.ce j G),λj=>(k.fz j).trans (h.fz j)⟩
def Kq.refl (m r:Nat)(w:World):Kq m r w w:=⟨Kp.ah (Ex.refl w) _,λ _ _=>rfl,λ _=>rfl⟩
def Kq.out {S:Nat->Prop}(h:Kq m r w0 w)(k:Kp w w' S)(H:∀g,g< w0.heap.size->S g->g=r/\g≠m)(hm:m< w0.heap.size):Kq m r w0 w':=by
 have e:=k.block m (N0 hm h.kp.size) λG=>(H m hm G).2 rfl
 exact⟨Kp.trans h.kp k λg J G=> .inr (H g J G).1,λj Z=>by rw [Nw (w:=w) e];exact h.ce j Z,λj=>by rw [N5 (w:=w) e];exact h.fz j⟩
def Kq.ex (h:Kq m r w0 w)(x:Ex w w')(hm:m< w0.heap.size):Kq m r w0 w':=h.out (Kp.ah x λ _=>False) (λ _ _ h=>h.elim) hm
def Kq.km (h:Kq m r w0 w)(k:Km m w w'):Kq m r w0 w':=h.trans ⟨Kp.mono (λ _ e=> .inl e) k.kp,k.ce,k.fz⟩
def Kq.blk (h:Kq m r w0 w)(k:df w w' r)(hm:m< w0.heap.size)(hr:m≠r):Kq m r w0 w':=
 h.out (S:=λg=>g=r) ⟨k.os,k.tape,k.output,by rw [k.size];exact ND _,λg _ G=>k.block g G⟩ (λg _ e=>⟨e,λh=>hr (h.symm.trans e)⟩) hm
end
structure CI (w w':World)(m r b4 b6 n n1:Nat)(xs:List Nat)(F F1:Nat->Nat)(O:List Nat)(L:Lv)(ts:List Value)(M:Nat->Prop):Prop where
 kq:Kq m r w w'
 mc:Mk w' m n1
 mf:jq w' r F1
 rn:Rn n n1 xs F F1
 c4:w'.cell? ⟨b4,0,none⟩=some (.map (some r))
 l4:b4< w'.heap.size
 h4:w.heap.size<=b4
 m4:¬M b4
 bd:jr w.heap.size w' b6 O ts M
 th:ab (λg=>(w.heap.size<=g/\¬M g/\g≠b4)/\g< w'.heap.size) w' L ts
 lm:m< w.heap.size
 lr:r< w.heap.size
 ne:m≠r
def B7 {w:World}{b4 r x:Nat}{F:Nat->Nat}(c4:w.cell? ⟨b4,0,none⟩=some (.map (some r)))(mf:jq w r F){R:Int->QU}(hR:R (F x:Int) w):
  QV 198 #[iv x,ptr b4] w (ax [.i] R):=by
 refine jo x (ptr b4) w R ?_;dsimp only [go_sem];obtain⟨mm,h1,G⟩:=mf;refine⟨b4,0,rfl,_,c4,r,mm,rfl,h1,?_⟩;rcases G x with h | ⟨h,e⟩
 ·exact⟨F x,true,.inl ⟨rfl,h⟩,λ _=>hR,λh=>(by cases h)⟩
 ·exact⟨0,false,.inr ⟨rfl,h,rfl⟩,λh=>(by cases h),λ _=>by rw [e]at hR;exact hR⟩
def jr.LM {B:Nat}{w w1 H:World}{b:Nat}{o o':List Nat}{ts:List Value}{M:Nat->Prop}(h:jr B w b o ts M){vo v':Value}(β:w.cell? ⟨b,0,none⟩=some vo)(k:Kp w w1 λg=>vo.ownBlock=some g)(ho:aB 3 B w1 v' (o'.map iv))
  (hv:∀g,v'.ownBlock=some g->vo.ownBlock=some g\/w.heap.size<=g) (hw:H=w1.setCell ⟨b,0,none⟩ v'):jr B H b o' ts (λg=>M g\/v'.ownBlock=some g)/\Kp w H M:=by
 obtain⟨h1,hle,h3,hr,h4,γ,vt,h5,h6,h7,h8,h9,h10,J⟩:=h;have:γ=vo:=Oh (h5.symm.trans β);subst this;have s1:=k.size;have kb:Kr b w1 H:=hw▸Kr.set w1 0 v';have e1:=k.block b h1 λe=>(h9 b e).2 rfl
 have Z:∀g,v'.ownBlock=some g->g≠b:=λg G=>(hv g G).elim (λe=>(h9 g e).2) λe=>by omega
 have kM:Kp w H M:=Kp.trans (Kp.mono (λg e=>(h9 g e).1) k) kb λg _ e=>by rw [e];exact h3
 have s2:=kb.size;refine⟨⟨by omega,hle,.inl h3,λg G=>?_,λj=>?_,v',vt,?_,?_,ho.kp kb Z,?_,λg G=>⟨.inr G,Z g G⟩,λg G=>⟨.inl (h10 g G).1,(h10 g G).2⟩,λg G e=>?_⟩,kM⟩
 ·rcases G with G | G
  ·have :=hr g G;omega
  ·have :=ho.block g G;omega
 ·rw [hw,NY,N5 (w:=w) e1];exact h4 j
 ·rw [hw];exact NW _ _ _ (by rw [Nw (w:=w) e1];exact h5)
 ·rw [hw,NC _ _ _ _ (by simp),Nw (w:=w) e1];exact h6
 ·exact(h8.kp k λg G e=>J g e G).kp kb λg G=>(h10 g G).2
 ·rcases hv g G with h | h
  ·exact J g h e
  ·have :=(h8.block g e).2;omega
def jr.L6 {B:Nat}{w w1 H:World}{b:Nat}{o:List Nat}{ts J:List Value}{M:Nat->Prop}(h:jr B w b o ts M){vt v':Value}(γ:w.cell? ⟨b,1,none⟩=some vt)(k:Kp w w1 λg=>vt.ownBlock=some g)(ho:aB 130 B w1 v' J)
  (hv:∀g,v'.ownBlock=some g->vt.ownBlock=some g\/w.heap.size<=g) (hw:H=w1.setCell ⟨b,1,none⟩ v'):jr B H b o J (λg=>M g\/v'.ownBlock=some g)/\Kp w H M:=by
 obtain⟨h1,hle,h3,hr,h4,vo,δ,h5,h6,h7,h8,h9,h10,Z⟩:=h;have:δ=vt:=Oh (h6.symm.trans γ);subst this;have s1:=k.size;have kb:Kr b w1 H:=hw▸Kr.set w1 1 v';have e1:=k.block b h1 λe=>(h10 b e).2 rfl
 have β:∀g,v'.ownBlock=some g->g≠b:=λg G=>(hv g G).elim (λe=>(h10 g e).2) λe=>by omega
 have kM:Kp w H M:=Kp.trans (Kp.mono (λg e=>(h10 g e).1) k) kb λg _ e=>by rw [e];exact h3
 have s2:=kb.size;refine⟨⟨by omega,hle,.inl h3,λg G=>?_,λj=>?_,vo,v',?_,?_,?_,ho.kp kb β,λg G=>⟨.inl (h9 g G).1,(h9 g G).2⟩,λg G=>⟨.inr G,β g G⟩,λg G e=>?_⟩,kM⟩
 ·rcases G with G | G
  ·have :=hr g G;omega
  ·have :=ho.block g G;omega
 ·rw [hw,NY,N5 (w:=w) e1];exact h4 j
 ·rw [hw,NC _ _ _ _ (by simp),Nw (w:=w) e1];exact h5
 ·rw [hw];exact NW _ _ _ (by rw [Nw (w:=w) e1];exact h6)
 ·exact(h7.kp k λg G e=>Z g G e).kp kb λg G=>(h9 g G).2
 ·rcases hv g e with h | h
  ·exact Z g G h
  ·have :=(h7.block g G).2;omega
def cu {f g:Nat->Nat}:∀{l:Lv},(∀x,(x∈l.bvs\/l.fh x)->f x=g x)->l.map f=l.map g
 | .nil,_=>rfl
 | .thr k a b o r n,h=>by
  have hr:=cu (f:=f) (g:=g) (l:=r) λx G=>h x (by
   rcases G with G | G
   ·left;simp [Lv.bvs,G]
   ·by_cases H:x∈o
    ·left;simp [Lv.bvs,H]
    ·by_cases hb:k= .r/\x=b
     ·left;simp [Lv.bvs,hb.1,hb.2]
     ·right;exact .inr (.inr (.inl ⟨H,hb,G⟩)))
  have J:=cu (f:=f) (g:=g) (l:=n) λx G=>h x (by
   rcases G with G | G
   ·left;simp [Lv.bvs,G]
   ·right;exact .inr (.inr (.inr G)))
  have H:o.map f=o.map g:=OU λx G=>h x (.inl (by simp [Lv.bvs,G]))
  simp only [Lv.map,hr,J,H];cases k<;>simp only [reduceCtorEq,or_self,or_true,true_or,QS,PG]
  ·rw [h a (.inr (.inl ⟨.inl rfl,.inl rfl⟩)),h b (.inr (.inl ⟨.inl rfl,.inr rfl⟩))]
  ·rw [h a (.inr (.inr (.inl ⟨rfl,rfl⟩))),h b (.inl (by simp [Lv.bvs]))]
  ·rw [h a (.inr (.inl ⟨.inr rfl,.inl rfl⟩)),h b (.inr (.inl ⟨.inr rfl,.inr rfl⟩))]
 | .sum ps n,h=>by
  have hr:=cu (f:=f) (g:=g) (l:=ps) λx G=>h x (by
   rcases G with G | G
   ·left;simp [Lv.bvs,G]
   ·right;exact .inl G)
  have J:=cu (f:=f) (g:=g) (l:=n) λx G=>h x (by
   rcases G with G | G
   ·left;simp [Lv.bvs,G]
   ·right;exact .inr G)
  simp only [Lv.map,hr,J]
 | .part o q n,h=>by
  have hr:=cu (f:=f) (g:=g) (l:=q) λx G=>h x (by
   rcases G with G | G
   ·left;simp [Lv.bvs,G]
   ·by_cases H:x∈o
    ·left;simp [Lv.bvs,H]
    ·right;exact .inl ⟨H,G⟩)
  have J:=cu (f:=f) (g:=g) (l:=n) λx G=>h x (by
   rcases G with G | G
   ·left;simp [Lv.bvs,G]
   ·right;exact .inr G)
  have H:o.map f=o.map g:=OU λx G=>h x (.inl (by simp [Lv.bvs,G]))
  simp only [Lv.map,hr,J,H]
def oh {x:Nat}:∀(l:Lv) (i:Nat),(l.take i).fh x->l.fh x
 | _,0,h=>h.elim
 | .nil,i+1,h=>h
 | .thr k a b o r n,i+1,h=>by
  rcases h with h | h | h | h
  ·exact .inl h
  ·exact .inr (.inl h)
  ·exact .inr (.inr (.inl h))
  ·exact .inr (.inr (.inr (oh n i h)))
 | .sum ps n,i+1,h=>h.elim .inl λh=> .inr (oh n i h)
 | .part o q n,i+1,h=>h.elim .inl λh=> .inr (oh n i h)
def J' (k:Nat):Prop:=∀{D:Nat->Prop} {w:World} {v:Value} {o:List Nat} {l:Lv} {m r n:Nat} {F:Nat->Nat} {R:Value->QU},l.sz<=k->l.sh true=true->gg D w v o (ab D w l)->(∀g,D g->¬(g=m\/g=r))->ur o l->Mk w m n->jq w r F->m≠r->n+o.length+l.bvs.length<=4294967296->o.length+l.tot<=4294967296->
 (∀v' w' F' n',Kq m r w w'->Mk w' m n'->jq w' r F'->Rn n n' (o++l.bvs) F F'->aJ (D9 w) w' (o.map F',l.map F') v'->R v' w')->QV 154 #[ptr m,v,.map (some r)] w (ax [.v] R)
def C3 (f:Nat->Nat):∀l:Lv,(l.map f).len=l.len:=by intro l;induction l<;>simp_all [Lv.map,Lv.len]
def GN:∀(l:Lv) (i:Nat),(l.take i).bvs.Sublist l.bvs:=by
 intro l
 induction l with
 | nil=>intro i;cases i<;>simp [Lv.take,Lv.bvs]
 | thr k a b o r n _ G=>
  intro i;cases i with
  | zero=>simp [Lv.take,Lv.bvs]
  | succ i=>exact Pe (Ov _) (Pe (Ov _) (Pe (Ov _) (G i)))
 | sum ps n _ G=>
  intro i;cases i with
  | zero=>simp [Lv.take,Lv.bvs]
  | succ i=>exact Pe (Ov _) (G i)
 | part o q n _ G=>
  intro i;cases i with
  | zero=>simp [Lv.take,Lv.bvs]
  | succ i=>exact Pe (Ov _) (Pe (Ov _) (G i))
def Gi {o:List Nat}{l e:Lv}{i:Nat}(h:ur o l)(Z:l.take (i+1)=(l.take i).app e):(∀x∈o++(l.take i).bvs,x∉e.bvs)/\(l.take i).bvs.length+e.bvs.length<=l.bvs.length:=by
 have G:((l.take i).bvs++e.bvs).Sublist l.bvs:=by rw [<-Lv.bX,<-Z];exact GN l _
 have H:=Oc.1 h.nd;refine⟨λx hx J=>?_,by have :=G.length_le;rwa [NB]at this⟩;rcases NI.1 hx with h | h
 ·exact H.2.2 x h x (G.subset (N1 _ J)) rfl
 ·exact(Oc.1 (H.2.1.sublist G)).2.2 x h x J rfl
def AO (k:Nat)(ih:∀j,j< k->J' j):J' k:=by
 intro D w v o l m r n F R hn hsh h hD huq hmk hmf ψ hnn htot hR;refine kX (ptr m) v (.map (some r)) w R ?_;refine⟨rfl,λb4 w5 hb4 hw5 b6 w7 hb6 hw7=>?_⟩;have x5:Ex w w5:=hw5▸Ex.alloc w _;have x57:Ex w5 w7:=hw7▸Ex.alloc w5 _;have x7:=Ex.trans x5 x57;have s5:w5.heap.size=w.heap.size+1:=by rw [hw5,size_alloc]
 have s7:w7.heap.size=w5.heap.size+1:=by rw [hw7,size_alloc]
 have hlm:=hmk.lt;have hlr:=hmf.lt;obtain⟨bl,vo,vt,ts,rfl,h2,h3,h4,h5,h6,h7,h8⟩:=h;obtain⟨ao,capo,hvo⟩:=h6.slice;rw [NH]at hvo;obtain⟨at_,capt,hvt⟩:=h7.slice;have hlen:=h8.len;have hel:=Lv.cA l;have hlt:=bK l;have nd:=huq.nd;have ndo:=Oc.1 nd;have cbl:∀{w1:World},Kq m r w w1->∀{j:Nat} {u:Value},w.cell? ⟨bl,j,none⟩=some u->w1.cell? ⟨bl,j,none⟩=some u:=λx j u hu=>by
  rw [Nw (w:=w) (x.kp.block bl h3 (hD bl h2))];exact hu
 have bd7:jr w.heap.size w7 b6 [] [] λg=>g=b6:=jr.new (by omega) hb6 hw7
 have ci7:CI w w7 m r b4 b6 n n [] F F [] .nil [] λg=>g=b6:=
  ⟨(Kq.refl m r w).ex x7 hlm,hmk.ex x7,hmf.kp (Kp.ah x7 λ _=>False) (λh=>h),Rn.refl n F,by rw [x57.cell (show b4< _ by omega),hw5,hb4];exact aa rfl,by omega,by omega,by omega,bd7,rfl,hlm,hlr,ψ⟩
 refine⟨bl,0,rfl,vo,cbl ci7.kq h4,ao,_,capo,hvo,λx w'=>∃(j n1:Nat) (F1:Nat->Nat) (M:Nat->Prop),x=j/\j<=o.length/\CI w w' m r b4 b6 n n1 (o.take j) F F1 ((o.take j).map F1) .nil [] M,λx _=>(o.length - x).toNat,⟨0,n,F,_,rfl,OA _,ci7⟩,λx w17 hI=>?_⟩;obtain⟨j,n1,F1,M,rfl,hj,ci⟩:=hI;refine⟨λhlt0=>?_,λhge=>?_⟩
 ·
  have hjo:=oL hlt0;obtain⟨bo,oo,ω,hvo',hco⟩:∃bo oo ω,vo= .slice (some ⟨bo,oo,none⟩) o.length ω/\w17.cell? ⟨bo,oo+j,none⟩=some (iv o[j]):=by
   rcases h6 with⟨_,h0⟩ | ⟨bo,oo,ω,e,hbD,hb',hcell⟩
   ·rw [Qc]at h0;rw [h0]at hjo;simp at hjo
   ·rw [NH]at e;exact⟨bo,oo,ω,e,by rw [Nw (w:=w) (ci.kq.kp.block bo hb' (hD bo hbD))];exact hcell j _ (by simp [hjo])⟩
  refine⟨bo,oo,_,ω,hvo',by omega,by omega,(o[j]:Nat),by rw [NF,N7];exact hco,λw'=>Kq m r w17 w',λw24 hw24=>?_⟩;have x24:Ex w17 w24:=hw24▸Ex.drew w17;have l17m:=ci.mc.lt;have l17r:=ci.mf.lt;have h4':=ci.h4;have rn1:=ci.rn.len;rw [Og,Px hj]at rn1;have q24:Kq m r w17 w24:=(Kq.refl m r w17).ex x24 l17m;have c4:∀{w1:World},Kq m r w17 w1->w1.cell? ⟨b4,0,none⟩=some (.map (some r)):=λq=>by rw [Nw (w:=w17) (q.kp.block b4 ci.l4 (λe=>by rcases e with e | e<;>omega))];exact ci.c4
  refine⟨q24,_,λw' q=>c4 q,r6 (ci.mc.ex x24) (by omega) λw27 k27 m27=>?_⟩;have q27:Kq m r w17 w27:=q24.km k27;have mf27:jq w27 r F1:=(ci.mf.kp (Kp.ah x24 λ _=>False) (λh=>h)).kp k27.kp (λe=>ψ e.symm);obtain⟨mm,hm1,hm2⟩:=mf27;refine⟨q27,r,mm,rfl,hm1,λw30 hm30 hb30=>?_⟩;have q30:Kq m r w17 w30:=q27.blk hb30 l17m ψ;have mk30:Mk w30 m (n1+1):=m27.kp (S:=λg=>g=r) ⟨hb30.os,hb30.tape,hb30.output,by rw [hb30.size];exact ND _,λg _ H=>hb30.block g H⟩ ψ;have mf30:jq w30 r (aG F1 o[j] (n1+101)):=sB hm2 hm30;have hMr:∀g,M g->¬(g=m\/g=r):=λg H e=>by have :=(ci.bd.mr g H).1;omega
  have bd30:=ci.bd.kp q30.kp hMr;obtain⟨vo1,vt1,d0,d1,d2,d3,d4,d5,d6⟩:=bd30.sl;refine⟨λw'=>Kp w30 w' λg=>vo1.ownBlock=some g,λBj hw32=>?_⟩;have x32:Ex w30 Bj:=hw32▸Ex.drew w30;have s30:=q30.size;have nob6:¬vo1.ownBlock=some b6:=λe=>(d4 b6 e).2 rfl
  have nob4:¬vo1.ownBlock=some b4:=λe=>ci.m4 (d4 b4 e).1
  refine⟨Kp.ah x32 _,vo1,λw' k=>by rw [Nw (w:=w30) (k.block b6 bd30.lt nob6)];exact d0,.map (some r),λw' k=>by rw [Nw (w:=w30) (k.block b4 (by have :=ci.l4;omega) nob4)];exact c4 q30,r,_,rfl,jc hm30 (x32.block r (iZ hm30)),((n1+101:Nat):Int),true,.inl ⟨rfl,?_⟩,Kp.ah x32 _,λb39 w40 hb39 hw40=>?_⟩
  ·unfold fU;simp
  have x40:Ex Bj w40:=hw40▸Ex.alloc Bj _;have ε:=Ex.trans x32 x40;have bd40:=bd30.ex ε;have s40:=ε.size;have hB40:w.heap.size<=w40.heap.size:=by have :=ci.kq.size;omega
  refine⟨Kp.ah ε _,aB.push (d2.kp (Kp.ah ε λ _=>False) λ _ _ h=>h) hB40 (m:=[iv (n1+101)]) (D:=λ _=>True) (.inr ⟨b39,0,1,rfl,trivial,by rw [hw40,size_alloc,hb39];omega,λi y hy=>?_⟩) (by rfl) (by omega) (by simp only [NH,Nv,NR,Og];omega) λv46 w47 ho47 hg47 hn47=>?_⟩
  ·cases i with
   | zero=>simp only [Pz,O4]at hy;subst hy;rw [hw40,hb39];exact aa rfl
   | succ i=>simp at hy
  have k47:Kp w40 w47 λg=>vo1.ownBlock=some g:=Kp.aF hg47 λ _ h=>h
  have e6:=k47.block b6 bd40.lt nob6;have c60:w40.cell? ⟨b6,0,none⟩=some vo1:=by rw [ε.cell (show b6< _ from bd30.lt)];exact d0
  refine⟨Kp.trans (Kp.ah ε _) k47 λ _ _ h=>h,ho47.qV,⟨⟨vo1,by rw [Nw (w:=w40) e6];exact c60⟩,by rw [N5 (w:=w40) e6];exact bd40.fr 0⟩,λw49 hw49=>⟨by omega,?_,tN (by omega)⟩⟩;have hoj:o[j]∉o.take j:=λhm=>by
   have h1:=ndo.1;rw [<-OL j o,Oq hjo]at h1;exact(Oc.1 h1).2.2 _ hm _ (Oa ..) rfl
  have hmapj:(o.take j).map F1=(o.take j).map (aG F1 o[j] (n1+101)):=OU λx hx=>by
   have:x≠o[j]:=λe=>hoj (by rw [<-e];exact hx)
   simp only [aG,NS this]
  have ho47':aB 3 w.heap.size w47 v46 (((o.take (j+1)).map (aG F1 o[j] (n1+101))).map iv):=by
   rw [NG hjo,Oj,Oj,<-hmapj];simp only [N4,PE,aG,PG];exact ho47
  obtain⟨bd49,k49⟩:=bd40.LM c60 k47 ho47' hn47 hw49;have κ:∀g,M g->w.heap.size<=g:=λg H=>(ci.bd.mr g H).1
  have hnewg:∀g,v46.ownBlock=some g->M g\/w40.heap.size<=g:=λg H=>(hn47 g H).imp (λe=>(d4 g e).1) id
  have q17:Kq m r w w30:=ci.kq.trans q30;refine⟨j+1,n1+1,aG F1 o[j] (n1+101),λg=>M g\/v46.ownBlock=some g,by omega,by omega,?_⟩;refine⟨(q17.ex ε hlm).out k49 (λg H hM=>by have :=κ g hM;omega) hlm,(mk30.ex ε).kp k49 λhM=>by have :=κ _ hM;omega,(mf30.kp (Kp.ah ε λ _=>False) (λh=>h)).kp k49 λhM=>by have :=κ _ hM;omega,?_,?_,?_,h4',?_,bd49,rfl,hlm,hlr,ψ⟩
  ·rw [NG hjo];exact ci.rn.app (Rn.one n1 o[j] F1) λx hx hx'=>hoj (by cases NT.1 hx';exact hx)
  ·rw [Nw (w:=w40) (k49.block b4 (by have :=ci.l4;omega) ci.m4),ε.cell (show b4< _ by have :=ci.l4;omega)];exact c4 q30
  ·have :=k49.size;have :=ci.l4;omega
  ·intro hM;rcases hM with hM | hM
   ·exact ci.m4 hM
   ·rcases hnewg b4 hM with h | h
    ·exact ci.m4 h
    ·have :=ci.l4;omega
 ·
  have hjo:=oE hge (by omega);subst hjo;rw [Od]at ci;refine⟨bl,0,rfl,vt,cbl ci.kq h5,at_,_,capt,hvt,λx w'=>∃(i n2:Nat) (F2:Nat->Nat) (M2:Nat->Prop) (ts2:List Value),x=i/\i<=ts.length/\CI w w' m r b4 b6 n n2 (o++(l.take i).bvs) F F2 (o.map F2) ((l.take i).map F2) ts2 M2,λx _=>(ts.length - x).toNat,⟨0,n1,F1,M,[],rfl,OA _,by simpa [Lv.take,Lv.bvs,Lv.map]using ci⟩,λx β hI=>?_⟩;obtain⟨i,n2,F2,M2,ts2,rfl,hi,γ⟩:=hI;refine⟨λhlt1=>?_,λhge1=>?_⟩;rotate_left
  ·have hie:i=l.bc.length:=by simp only [NQ]at hge1;omega
   rw [hie,Lv.cP]at γ;exact hR _ β F2 n2 γ.kq γ.mc γ.mf γ.rn (γ.bd.Md (λg _ H=>H) (ab.sub (λg _ H=>H.1.1) γ.th))
  have hil:=oL hlt1;have hie:i< l.bc.length:=by omega
  have q59:=γ.kq;obtain⟨bt,ot,μ,hvt',hct⟩:∃bt ot μ,vt= .slice (some ⟨bt,ot,none⟩) ts.length μ/\β.cell? ⟨bt,ot+i,none⟩=some ts[i]:=by
   rcases h7 with⟨_,h0⟩ | ⟨bt,ot,μ,e,hbD,hb',hcell⟩
   ·rw [h0]at hil;simp at hil
   ·exact⟨bt,ot,μ,e,by rw [Nw (w:=w) (q59.kp.block bt hb' (hD bt hbD))];exact hcell i _ (Ny hil)⟩
  obtain⟨e,he1,he2,he3⟩:=aO.single h8.bc (Ny hil);have he4:l.bc[i]=e:=by rw [Ny hie]at he1;exact Oh he1
  have hts:=Lv.take_succ l i hie;rw [he4]at hts;have hsz:=Lv.eA l e he2;have htt:=Lv.gd l e he2;have huqe:=huq.bc he2;have J:=γ.mc.lt;have hl59r:=γ.mf.lt;have s59:=q59.size;have h4':=γ.h4;have rn2:=γ.rn.len;have bvs2:(l.take (i+1)).bvs=(l.take i).bvs++e.bvs:=by rw [hts,Lv.bX]
  rw [NB]at rn2;obtain⟨hdis,bvt⟩:=Gi huq hts;have keepO:∀{n3 F3},Rn n2 n3 e.bvs F2 F3->o.map F3=o.map F2/\(l.take i).map F3=(l.take i).map F2:=λ{n3 F3} rn=>by
   refine⟨OU λx hx=>rn.out x (hdis x (Ob _ hx)),cu λx hx=>rn.out x λhxe=>?_⟩;rcases hx with hx | hx
   ·exact hdis x (N1 _ hx) hxe
   ·exact huq.nf x ((Lv.lR l e he2).subset hxe) (oh l i hx)
  have fin:∀(G:Nat) (Z:World) (n3:Nat) (F3:Nat->Nat),β.heap.size<=G->G< Z.heap.size->Kq m r β Z->Mk Z m n3->jq Z r F3->Rn n2 n3 e.bvs F2 F3->ab (λg=>β.heap.size<=g/\g< Z.heap.size) Z (e.map F3) [ptr G]->
    ∃v195:Value,World.cell? Z ⟨b6,1,none⟩=some v195/\∀(b196:Nat) (δ:World),b196=Array.size (World.heap Z)->δ=World.alloc Z (Obj.cells #[(Value.pointer (some ⟨G,0,none⟩))] 130)->∃(base198 n199 m200:Nat) (xs201 news202:List Value),World.ownsRow δ base198 130 1 v195 n199 xs201/\base198<=Array.size (World.heap δ)/\dw δ (Value.slice (some ⟨b196,0,none⟩) 1 1) m200 1 news202/\(n199+m200<=maxLen/\(n199+m200)* 8<=140737488355328)/\
     ∀(v203:Value) (w204:World),World.ownsRow w204 base198 130 1 v203 (n199+m200) (xs201++news202)->World.grownBy δ w204 (Value.ownBlock v195)->(∀b:Nat,Value.ownBlock v203=some b->Value.ownBlock v195=some b\/Array.size (World.heap δ)<=b)->oneV v203=true/\((∃u205:Value,World.cell? w204 ⟨b6,1,none⟩=some u205)/\World.frozen? w204 ⟨b6,1,none⟩=false)/\∀φ:World,φ=World.setCell w204 ⟨b6,1,none⟩ v203->
      cR ((i:Int)+1)/\(∃(i2 n4:Nat) (F4:Nat->Nat) (M4:Nat->Prop) (ts4:List Value),(i:Int)+1=i2/\i2<=ts.length/\CI w φ m r b4 b6 n n4 (o++(l.take i2).bvs) F F4 (o.map F4) ((l.take i2).map F4) ts4 M4)/\((ts.length:Int) - ((i:Int)+1)).toNat< ((ts.length:Int) - i).toNat:=by
   intro G Z n3 F3 h68 l68 η mk172 mf172 ν θ;have hMr:∀g,M2 g->¬(g=m\/g=r):=λg H e=>by
    have :=(γ.bd.mr g H).1;rcases e with e | e<;>omega
   obtain⟨ko,kl⟩:=keepO ν;have bd172:=γ.bd.kp η.kp hMr;obtain⟨vo1,vt1,d0,d1,d2,d3,d4,d5,d6⟩:=bd172.sl;refine⟨vt1,d1,λb196 δ hb196 hw197=>?_⟩;have ξ:Ex Z δ:=hw197▸Ex.alloc Z _;have s197:δ.heap.size=Z.heap.size+1:=by rw [hw197,size_alloc]
   have s172:=η.size;have bd197:=bd172.ex ξ;have hlts:ts2.length<=ts.length:=by
    have h1:=γ.th.len;have h2:=C3 F2 (l.take i);have :=Lv.gR l i;omega
   refine aB.push (d3.kp (Kp.ah ξ λ _=>False) λ _ _ h=>h) (by omega) (m:=[ptr G]) (D:=λ _=>True) (.inr ⟨b196,0,1,rfl,trivial,by omega,λi y hy=>?_⟩) (by rfl) (by omega) (by simp only [Nv,NR];omega) λv203 w204 ho204 hg204 hn204=>?_
   ·cases i with
    | zero=>simp only [Pz,O4]at hy;subst hy;rw [hw197,hb196];exact aa rfl
    | succ i=>simp at hy
   have k204:Kp δ w204 λg=>vt1.ownBlock=some g:=Kp.aF hg204 λ _ h=>h
   have e6:=k204.block b6 bd197.lt λe=>(d5 b6 e).2 rfl
   have c61:δ.cell? ⟨b6,1,none⟩=some vt1:=by rw [ξ.cell (show b6< _ from bd172.lt)];exact d1
   refine⟨ho204.qV,⟨⟨vt1,by rw [Nw (w:=δ) e6];exact c61⟩,by rw [N5 (w:=δ) e6];exact bd197.fr 1⟩,λφ hw206=>⟨by omega,?_,by omega⟩⟩;obtain⟨bd206,k206⟩:=bd197.L6 c61 k204 ho204 hn204 hw206;have κ:∀g,M2 g->w.heap.size<=g/\g< β.heap.size:=γ.bd.mr;have hnewg:∀g,v203.ownBlock=some g->M2 g\/δ.heap.size<=g:=λg H=>(hn204 g H).imp (λe=>(d5 g e).1) id
   have q206:Kq m r w φ:=((q59.trans η).ex ξ hlm).out k206 (λg H hM=>by have :=(κ g hM).1;omega) hlm;have s206:=k206.size;have l4:=γ.l4;have hth1:ab (λg=>(w.heap.size<=g/\¬(M2 g\/v203.ownBlock=some g)/\g≠b4)/\g< φ.heap.size) φ ((l.take i).map F3) ts2:=by
    rw [kl];refine ab.sub (λg _ H=>⟨⟨H.1.1,λhM=>hM.elim H.1.2.1 λe=>(hnewg g e).elim H.1.2.1 λh=>by omega,H.1.2.2⟩,by omega⟩) (ab.kp k206 (λg H hM=>H.1.2.1 hM) (ab.ex (ab.kp η.kp (λg H e=>by
     have :=H.1.1;rcases e with e | e<;>omega) γ.th) ξ))
   have hth2:ab (λg=>(w.heap.size<=g/\¬(M2 g\/v203.ownBlock=some g)/\g≠b4)/\g< φ.heap.size) φ (e.map F3) [ptr G]:=
    ab.sub (λg _ H=>⟨⟨by omega,λhM=>hM.elim (λh=>by have :=(κ g h).2;omega) λe=>(hnewg g e).elim (λh=>by have :=(κ g h).2;omega) λh=>by omega,by omega⟩,by omega⟩) (ab.kp k206 (λg H hM=>by have :=(κ g hM).2;omega) (ab.ex θ ξ))
   refine⟨i+1,n3,F3,λg=>M2 g\/v203.ownBlock=some g,ts2++[ptr G],by omega,by omega,⟨q206,(mk172.ex ξ).kp k206 λhM=>by have :=(κ _ hM).1;omega,(mf172.kp (Kp.ah ξ λ _=>False) (λh=>h)).kp k206 λhM=>by have :=(κ _ hM).1;omega,?_,?_,by omega,h4',λhM=>?_,by rw [ko];exact bd206,?_,hlm,hlr,ψ⟩⟩
   ·rw [bvs2,<-Oi];exact γ.rn.app ν hdis
   ·rw [Nw (w:=δ) (k206.block b4 (by omega) γ.m4),ξ.cell (show b4< _ by omega),Nw (w:=β) (η.kp.block b4 l4 λe=>by rcases e with e | e<;>omega)];exact γ.c4
   ·rcases hM with hM | hM
    ·exact γ.m4 hM
    ·rcases hnewg b4 hM with h | h
     ·exact γ.m4 h
     ·omega
   ·rw [hts,Lv.eu];exact ab.app hth1 hth2
  refine⟨bt,ot,_,μ,hvt',by omega,by omega,ts[i],by rw [NF,N7];exact hct,?_⟩;have h26:=huqe.ge;have l4:=γ.l4;have c4b:∀{w1:World},Kq m r β w1->w1.cell? ⟨b4,0,none⟩=some (.map (some r)):=λq=>by
   rw [Nw (w:=β) (q.kp.block b4 l4 λe=>by rcases e with e | e<;>omega)];exact γ.c4
  rcases Lv.jB hsh e he2 with⟨kk,a,b,o',q,rfl,hq⟩ | ⟨ps,rfl,hps⟩
  ·obtain⟨t,ts',a',b',vr,e1,ht,hkk,hlv,_⟩:=he3;obtain⟨rfl,rfl⟩:=Ow e1;obtain⟨g,H,hgD,hg2,c0,c1,c2,c3,c4'⟩:=ht;have cg:∀{w1:World},Kq m r β w1->∀{j:Nat} {u:Value},w.cell? ⟨g,j,none⟩=some u->w1.cell? ⟨g,j,none⟩=some u:=λx j u hu=>by
    rw [Nw (w:=w) ((q59.trans x).kp.block g hg2 (hD g hgD))];exact hu
   have q0:=Kq.refl m r β;simp only [Lv.sz]at hsz;simp only [Lv.tot]at htt;obtain⟨u1,u2⟩:=huqe.thr;have ebv:(Lv.thr kk a b o' q .nil).bvs=(if kk= .r then [b]else [])++(o'++q.bvs):=by simp [Lv.bvs]
   rw [ebv]at bvt;simp only [NB]at bvt;refine⟨g,0,H,kk.byte,cg q0 c0,λG ζ hb68 hw69=>⟨λw'=>∃(n3:Nat) (F3:Nat->Nat) (a1 b1:Nat),Kq m r β w'/\Mk w' m n3/\jq w' r F3/\Rn n2 n3 (if kk= .r then [b]else []) F2 F3/\jZ w' G kk.byte a1 b1 (.pointer none) (.slice none 0 0)/\(kk= .t\/kk= .p\/(a1=F3 a/\b1=F3 b)),⟨g,0,H,kk.byte,?_,?_⟩,λw146 hJ=>?_⟩⟩
   all_goals have x69:Ex β ζ:=hw69▸Ex.alloc β _
   all_goals have υ:Kq m r β ζ:=q0.ex x69 J
   ·exact cg υ c0
   ·have th69:jZ ζ G kk.byte 0 0 (.pointer none) (.slice none 0 0):=jZ.new hb68 hw69;have mk69:=γ.mc.ex x69;have mf69:=γ.mf.kp (Kp.ah x69 λ _=>False) (λh=>h);have two:(kk= .s\/kk= .m)->∃S106:QU,∀χ:World,χ=World.drew ζ->S106 χ/\∃(b108 o109:Nat),ts[i]=Value.pointer (some ⟨b108,o109,none⟩)/\∃n110:Int,(∀w',S106 w'->World.cell? w' ⟨b108,(o109+1),none⟩=some (Value.int IntKind.i64 n110))/\∃(b111 o112:Nat),ts[i]=Value.pointer (some ⟨b111,o112,none⟩)/\∃n113:Int,(∀w',S106 w'->World.cell? w' ⟨b111,(o112+2),none⟩=some (Value.int IntKind.i64 n113))/\∃(f114:Nat) (ca115:List Value),(Value.func (Fn.func 198) #[] #[(Value.pointer (some ⟨b4,0,none⟩))])=Value.func (Fn.func f114) #[] (List.toArray ca115)/\hasR ga f114=true/\QV f114 (List.toArray ([(Value.int IntKind.i64 n110)]++ca115)) χ (ax [.i] fun(n116:Int) (w117:World)=>S106 w117/\∃(f118:Nat) (ca119:List Value),(Value.func (Fn.func 198) #[] #[(Value.pointer (some ⟨b4,0,none⟩))])=Value.func (Fn.func f118) #[] (List.toArray ca119)/\hasR ga f118=true/\QV f118 (List.toArray ([(Value.int IntKind.i64 n113)]++ca119)) w117 (ax [.i] fun(n120:Int) (w121:World)=>S106 w121/\((∃u122:Value,World.cell? w121 ⟨G,1,none⟩=some u122)/\World.frozen? w121 ⟨G,1,none⟩=false)/\∀w123:World,w123=World.setCell w121 ⟨G,1,none⟩ (Value.int IntKind.i64 n116)->((∃u124:Value,World.cell? w123 ⟨G,2,none⟩=some u124)/\World.frozen? w123 ⟨G,2,none⟩=false)/\∀w125:World,w125=World.setCell w123 ⟨G,2,none⟩ (Value.int IntKind.i64 n120)->
      ∃(n3:Nat) (F3:Nat->Nat) (a1 b1:Nat),Kq m r β w125/\Mk w125 m n3/\jq w125 r F3/\Rn n2 n3 (if kk= .r then [b]else []) F2 F3/\jZ w125 G kk.byte a1 b1 (.pointer none) (.slice none 0 0)/\(kk= .t\/kk= .p\/(a1=F3 a/\b1=F3 b)))):=by
     intro hk2;obtain⟨rfl,rfl⟩:a'=a/\b'=b:=by
      rcases hkk with h | h | h
      ·rw [h]at hk2;simp at hk2
      ·rw [h]at hk2;simp at hk2
      ·exact h
     refine⟨λw'=>Ex ζ w',λχ hw107=>⟨hw107▸Ex.drew ζ,g,0,H,a',λw' x=>cg (υ.ex x J) c1,g,0,H,b',λw' x=>cg (υ.ex x J) c2,198,[ptr b4],rfl,by kernel_rfl,?_⟩⟩;have x107:Ex ζ χ:=hw107▸Ex.drew ζ;have q107:=υ.ex x107 J;have mf107:=mf69.kp (Kp.ah x107 λ _=>False) (λh=>h);refine B7 (c4b q107) mf107 ⟨x107,198,[ptr b4],rfl,by kernel_rfl,B7 (c4b q107) mf107 ⟨x107,?_⟩⟩;have th107:jZ χ G kk.byte 0 0 (.pointer none) (.slice none 0 0):=th69.kp (Kp.ah x107 λ _=>False) λh=>h
     refine⟨⟨⟨_,th107.c1⟩,th107.f 1⟩,λw123 hw123=>?_⟩;have th123:=th107.zo (x:=F2 a') hw123;refine⟨⟨⟨_,th123.c2⟩,th123.f 2⟩,λw125 hw125=>?_⟩;have th125:=th123.tc (x:=F2 b') hw125;have kb:Kr G χ w125:=Kr.trans (hw123▸Kr.set χ 1 _) (hw125▸Kr.set w123 2 _);have hkr:¬kk= .r:=λe=>by rw [e]at hk2;simp at hk2
     rw [NS hkr];exact⟨n2,F2,F2 a',F2 b',q107.out kb (λg H e=>by omega) J,(mk69.ex x107).kp kb (by omega),mf107.kp kb (by omega),Rn.refl n2 F2,th125,.inr (.inr ⟨rfl,rfl⟩)⟩
    have zero:(kk= .t\/kk= .p)->∃(n3:Nat) (F3:Nat->Nat) (a1 b1:Nat),Kq m r β ζ/\Mk ζ m n3/\jq ζ r F3/\Rn n2 n3 (if kk= .r then [b]else []) F2 F3/\jZ ζ G kk.byte a1 b1 (.pointer none) (.slice none 0 0)/\(kk= .t\/kk= .p\/(a1=F3 a/\b1=F3 b)):=by
     intro hk2;have hkr:¬kk= .r:=λe=>by rw [e]at hk2;simp at hk2
     rw [NS hkr];exact⟨n2,F2,0,0,υ,mk69,mf69,Rn.refl n2 F2,th69,hk2.elim .inl λh=> .inr (.inl h)⟩
    cases kk
    case s=>exact aR (by decide) ⟨λ _=>cL (by decide) (two (.inl rfl)),λh=>absurd h (by decide)⟩
    case m=>exact aR (by decide) ⟨λh=>absurd h (by decide),λ _=>cL (by decide) (two (.inr rfl))⟩
    case t=>exact aR (by decide) ⟨λh=>absurd h (by decide),λ _=>aR (by decide) (zero (.inl rfl))⟩
    case p=>exact aR (by decide) ⟨λh=>absurd h (by decide),λ _=>aR (by decide) (zero (.inr rfl))⟩
    case r=>
     obtain⟨rfl,rfl⟩:a'=a/\b'=b:=by rcases hkk with h | h | h<;>first | exact h | cases h
     obtain⟨v1,v2,v3,v4⟩:=u2 rfl;simp only [PG,Nv,NR]at bvt;refine cL (by decide) ⟨g,0,H,a',cg υ c1,198,[ptr b4],rfl,by kernel_rfl,B7 (c4b υ) mf69 ⟨⟨⟨_,th69.c1⟩,th69.f 1⟩,λw82 hw82=>⟨λw'=>Kq m r β w',λw84 hw84=>?_⟩⟩⟩;have th82:=th69.zo (x:=F2 a') hw82;have kb82:Kr G ζ w82:=hw82▸Kr.set ζ 1 _;have x84:Ex w82 w84:=hw84▸Ex.drew w82;have q82:Kq m r β w82:=υ.out kb82 (λg H e=>by omega) J;have q84:=q82.ex x84 J;have mk82:=mk69.kp kb82 (by omega);have mf82:=mf69.kp kb82 (by omega);refine⟨q84,_,λw' q=>c4b q,g,0,H,b',λw' q=>cg q c2,r6 (mk82.ex x84) (by omega) λw90 k90 m90=>?_⟩;have q90:=q84.km k90;have th90:=(th82.kp (Kp.ah x84 λ _=>False) λh=>h).kp k90.kp (by omega);obtain⟨mm,hm1,hm2⟩:=(mf82.kp (Kp.ah x84 λ _=>False) (λh=>h)).kp k90.kp (λe=>ψ e.symm);refine⟨q90,r,mm,rfl,hm1,λw93 hm93 hb93=>?_⟩;have kr93:Kp w90 w93 (λg=>g=r):=⟨hb93.os,hb93.tape,hb93.output,by rw [hb93.size];exact ND _,λg _ H=>hb93.block g H⟩
     have q93:=q90.blk hb93 J ψ;have mk93:=m90.kp kr93 ψ;have th93:=th90.kp kr93 (by omega);refine⟨λw'=>Ex w93 w',λw95 hw95=>?_⟩;have x95:Ex w93 w95:=hw95▸Ex.drew w93;have q95:=q93.ex x95 J;have th95:=th93.kp (Kp.ah x95 λ _=>False) λh=>h
     refine⟨x95,_,λw' x=>c4b (q93.ex x J),g,0,H,b',λw' x=>cg (q93.ex x J) c2,r,_,rfl,jc hm93 (x95.block r (iZ hm93)),((n2+101:Nat):Int),true,.inl ⟨rfl,by unfold fU;simp⟩,⟨⟨_,th95.c2⟩,th95.f 2⟩,λw105 hw105=>?_⟩;have kb105:Kr G w95 w105:=hw105▸Kr.set w95 2 _;refine⟨n2+1,aG F2 b' (n2+101),F2 a',n2+101,q95.out kb105 (λg H e=>by omega) J,(mk93.ex x95).kp kb105 (by omega),((sB hm2 hm93).kp (Kp.ah x95 λ _=>False) (λh=>h)).kp kb105 (by omega),Rn.one n2 b' F2,th95.tc hw105,.inr (.inr ⟨?_,?_⟩)⟩
     ·exact(NS λe=>v2 e.symm).symm
     ·simp [aG]
   ·obtain⟨n3,F3,a1,b1,q146,mk146,mf146,rn146,th146,hab⟩:=hJ;have hbr:∃br,vr=ptr br:=by obtain⟨br,_,_,_,e,_⟩:=hlv;exact⟨br,e⟩
    obtain⟨br,rfl⟩:=hbr;have h68:β.heap.size<=G:=by omega
    refine⟨λw'=>∃(n4:Nat) (F4:Nat->Nat) (vr2:Value),Kq m r β w'/\Mk w' m n4/\jq w' r F4/\Rn n2 n4 ((if kk= .r then [b]else [])++(o'++q.bvs)) F2 F4/\jZ w' G kk.byte a1 b1 vr2 (.slice none 0 0)/\aJ (λg=>β.heap.size<=g/\g< w'.heap.size) w' (o'.map F4,q.map F4) vr2/\(kk= .t\/kk= .p\/(a1=F4 a/\b1=F4 b)),⟨g,0,H,ptr br,cg q146 c3,some ⟨br,0,none⟩,rfl,λ _=>⟨λw'=>Kq m r β w',λw153 hw153=>?_⟩,λh=>by cases h⟩,λw162 hJ=>?_⟩
    ·have x153:Ex w146 w153:=hw153▸Ex.drew w146;have q153:=q146.ex x153 J;have rl:=rn146.len;have hb1:(if kk= .r then [b]else []).length=if kk= .r then 1 else 0:=by split<;>rfl
     have hl153:gg D w153 (ptr br) o' (ab D w153 q):=hlv.kp (q59.trans q153).kp hD λl h=>h.kp (q59.trans q153).kp hD
     refine⟨q153,g,0,H,ptr br,λw' x=>cg x c3,_,λw' x=>c4b x,ih q.sz (by omega) (ND _) hq hl153 hD u1 (mk146.ex x153) (mf146.kp (Kp.ah x153 λ _=>False) (λh=>h)) ψ (by omega) (by omega) λv158 w159 F4 n4 q159 mk159 mf159 rn159 l159=>?_⟩;have s153:=x153.size;have hb68l:=th146.lt;have th159:=(th146.kp (Kp.ah x153 λ _=>False) λh=>h).kp q159.kp (by omega);refine⟨l159.one,⟨⟨_,th159.c3⟩,th159.f 3⟩,λw161 hw161=>?_⟩;have kb161:Kr G w159 w161:=hw161▸Kr.set w159 3 _;have s159:=q159.size;have s161:=kb161.size;have ndb:=huqe.nd;rw [Om,ebv]at ndb;have nfb:=huqe.nf;rw [ebv]at nfb;have hdis2:=(Oc.1 ndb).2.2;refine⟨n4,F4,v158,(q153.trans q159).out kb161 (λg H e=>by omega) J,mk159.kp kb161 (by omega),mf159.kp kb161 (by omega),rn146.app rn159 (λx hx hx'=>hdis2 x hx x hx' rfl),th159.Eg hw161,?_,?_⟩
     ·exact aJ.sub (aJ.kp (aJ.sub (E:=λg=>w153.heap.size<=g/\g< w159.heap.size) l159 λg H hd=>⟨hd,H⟩) kb161 λg H e=>by omega) λg _ H=>⟨by have :=q153.size;omega,by omega⟩
     ·rcases hab with h | h | ⟨ha,hb⟩
      ·exact .inl h
      ·exact .inr (.inl h)
      ·by_cases hkt:kk= .t\/kk= .p
       ·exact hkt.elim .inl λh=> .inr (.inl h)
       ·right;right;have hfa:a∉o'++q.bvs:=λhm=>nfb a (N1 _ hm) (by
         cases kk
         ·exact .inl ⟨.inl rfl,.inl rfl⟩
         ·exact .inr (.inl ⟨rfl,rfl⟩)
         ·exact absurd (.inl rfl) hkt
         ·exact .inl ⟨.inr rfl,.inl rfl⟩
         ·exact absurd (.inr rfl) hkt)
        have hfb:b∉o'++q.bvs:=λhm=>by
         by_cases hkr:kk= .r
         ·have :=u2 hkr;exact(NI.1 hm).elim this.2.2.1 this.2.2.2
         ·exact nfb b (N1 _ hm) (by
           cases kk
           ·exact .inl ⟨.inl rfl,.inr rfl⟩
           ·exact absurd rfl hkr
           ·exact absurd (.inl rfl) hkt
           ·exact .inl ⟨.inr rfl,.inr rfl⟩
           ·exact absurd (.inr rfl) hkt)
        rw [rn159.out a hfa,rn159.out b hfb];exact⟨ha,hb⟩
    ·obtain⟨n4,F4,vr2,q162,mk162,mf162,rn162,th162,l162,hab4⟩:=hJ;refine⟨g,0,H,.slice none 0 0,cg q162 c4',none,0,0,rfl,λy w'=>y=0/\w'=w162,λ _ _=>0,⟨rfl,rfl⟩,λy Z hy=>?_⟩;obtain⟨rfl,rfl⟩:=hy;refine⟨λh=>by simp at h,λ _=>fin G Z n4 F4 h68 th162.lt q162 mk162 mf162 (by rw [ebv];exact rn162) ?_⟩;refine⟨ptr G,[],a1,b1,vr2,rfl,th162.uC ⟨h68,th162.lt⟩,?_,l162,rfl⟩;rcases hab4 with h | h | ⟨h1,h2⟩
     ·exact .inl h
     ·exact .inr (.inl h)
     ·by_cases hkt:kk= .t\/kk= .p
      ·exact hkt.elim .inl λh=> .inr (.inl h)
      ·exact .inr (.inr ⟨by rw [NS hkt];exact h1,by rw [NS hkt];exact h2⟩)
  ·obtain⟨t,ts',a',b',vp,us,e1,ht,hus,hps2,_⟩:=he3;obtain⟨rfl,rfl⟩:=Ow e1;obtain⟨g,H,hgD,hg2,c0,c1,c2,c3,c4'⟩:=ht;have cg:∀{w1:World},Kq m r β w1->∀{j:Nat} {u:Value},w.cell? ⟨g,j,none⟩=some u->w1.cell? ⟨g,j,none⟩=some u:=λx j u hu=>by
    rw [Nw (w:=w) ((q59.trans x).kp.block g hg2 (hD g hgD))];exact hu
   have q0:=Kq.refl m r β;have uq:=huqe.sum;have ebv:(Lv.sum ps .nil).bvs=ps.bvs:=by simp [Lv.bvs]
   rw [ebv]at bvt;simp only [Lv.sz]at hsz;simp only [Lv.tot]at htt;obtain⟨au,cau,hvu⟩:=hus.slice;have hul:=hps2.len;have hpl:=Lv.cA ps;have hpt:=bK ps;refine⟨g,0,H,43,cg q0 c0,λG ζ hb68 hw69=>⟨λw'=>w'=ζ,⟨g,0,H,43,?_,aR (by decide) ⟨λh=>absurd h (by decide),λ _=>aR (by decide) rfl⟩⟩,λw146 hJ=>⟨λw'=>w'=ζ,?_,λw162 hJ2=>?_⟩⟩⟩
   all_goals have x69:Ex β ζ:=hw69▸Ex.alloc β _
   all_goals have υ:Kq m r β ζ:=q0.ex x69 J
   ·exact cg υ c0
   ·subst hJ;exact⟨g,0,H,.pointer none,cg υ c3,none,rfl,λh=>(by cases h),λ _=>rfl⟩
   subst hJ2;have h68:β.heap.size<=G:=by omega
   have th69:jZ w162 G 43 0 0 (.pointer none) (.slice none 0 0):=jZ.new hb68 hw69;refine⟨g,0,H,vp,cg υ c4',au,_,cau,hvu,λy w'=>∃(j n3:Nat) (F3:Nat->Nat) (ι:Value) (us2:List Value),y=j/\j<=us.length/\Kq m r β w'/\Mk w' m n3/\jq w' r F3/\Rn n2 n3 (ps.take j).bvs F2 F3/\jZ w' G 43 0 0 (.pointer none) ι/\aB 59 β.heap.size w' ι us2/\(∀g,ι.ownBlock=some g->g≠G)/\ab (λg=>(β.heap.size<=g/\g≠G/\ι.ownBlock≠some g)/\g< w'.heap.size) w' ((ps.take j).map F3) us2,
    λy _=>(us.length - y).toNat,⟨0,n2,F2,.slice none 0 0,[],rfl,OA _,υ,γ.mc.ex x69,γ.mf.kp (Kp.ah x69 λ _=>False) (λh=>h),Rn.refl n2 F2,th69,aB.nil _ _ _,λg H=>(by cases H),rfl⟩,λy Z hI2=>?_⟩
   obtain⟨j,n3,F3,ι,us2,rfl,hj,η,mk172,mf172,ν,θ,ho172,hnb,ht172⟩:=hI2;refine⟨λhlt2=>?_,λhge2=>?_⟩;rotate_left
   ·have hje:j=ps.bc.length:=by simp only [NQ]at hge2;omega
    rw [hje,Lv.cP]at ν ht172;refine fin G Z n3 F3 h68 θ.lt η mk172 mf172 (by rw [ebv];exact ν) ⟨ptr G,[],0,0,ι,us2,rfl,θ.uC ⟨h68,θ.lt⟩,ho172.Aq (λg H=>ho172.block g H),ab.sub (λg _ H=>⟨H.1.1,H.2⟩) ht172,rfl⟩
   have hju:=oL hlt2;have hje:j< ps.bc.length:=by omega
   obtain⟨bu,ou,capu',hvu',hcu⟩:∃bu ou capu',vp= .slice (some ⟨bu,ou,none⟩) us.length capu'/\Z.cell? ⟨bu,ou+j,none⟩=some us[j]:=by
    rcases hus with⟨_,h0⟩ | ⟨bt,ot,μ,e,hbD,hb',hcell⟩
    ·rw [h0]at hju;simp at hju
    ·exact⟨bt,ot,μ,e,by rw [Nw (w:=w) ((q59.trans η).kp.block bt hb' (hD bt hbD))];exact hcell j _ (Ny hju)⟩
   obtain⟨e,hf1,hf2,hf3⟩:=aO.single hps2.bc (Ny hju);have hf4:ps.bc[j]=e:=by rw [Ny hje]at hf1;exact Oh hf1
   have hts2:=Lv.take_succ ps j hje;rw [hf4]at hts2;obtain⟨hdis2,bvt2⟩:=Gi uq hts2;have huqe2:=uq.bc hf2;have hsz2:=Lv.eA ps e hf2;have htt2:=Lv.gd ps e hf2;obtain⟨o2,q,rfl,hq⟩:=Lv.lG hps e hf2;simp only [Lv.sz]at hsz2;simp only [Lv.tot]at htt2;have ebv2:(Lv.part o2 q .nil).bvs=o2++q.bvs:=by simp [Lv.bvs]
   rw [ebv2]at bvt2 hdis2;rw [NB]at bvt2;obtain⟨v2,ts3,e2,hlv2,_⟩:=hf3;obtain⟨rfl,rfl⟩:=Ow e2;have rl:=ν.len;have s172:=η.size;refine⟨bu,ou,_,capu',hvu',by omega,by omega,us[j],by rw [NF,N7];exact hcu,λw'=>Kp Z w' λg=>g=m\/g=r\/ι.ownBlock=some g,λw179 hw179=>?_⟩;have ο:Ex Z w179:=hw179▸Ex.drew Z;have q179:=η.ex ο J;have hob:=ho172.block;have hb68l:=θ.lt;have nb68:¬(G=m\/G=r\/ι.ownBlock=some G):=λe=>by
    rcases e with e | e | e
    ·omega
    ·omega
    ·exact hnb _ e rfl
   have nb4:¬(b4=m\/b4=r\/ι.ownBlock=some b4):=λe=>by
    rcases e with e | e | e
    ·omega
    ·omega
    ·have :=hob _ e;omega
   have hl179:gg D w179 us[j] o2 (ab D w179 q):=hlv2.kp (q59.trans q179).kp hD λl h=>h.kp (q59.trans q179).kp hD
   refine⟨Kp.ah ο _,ι,λw' k=>by rw [Nw (w:=Z) (k.block G hb68l nb68)];exact θ.c4,.map (some r),λw' k=>by rw [Nw (w:=Z) (k.block b4 (by omega) nb4)];exact c4b η,?_⟩;refine ih q.sz (by omega) (ND _) hq hl179 hD huqe2.part (mk172.ex ο) (mf172.kp (Kp.ah ο λ _=>False) (λh=>h)) ψ (by omega) (by omega) λv182 w183 F4 n4 q183 mk183 mf183 rn183 l183=>?_
   have k183:Kp Z w183 λg=>g=m\/g=r\/ι.ownBlock=some g:=Kp.trans (Kp.ah ο _) (Kp.mono (λg e=>e.elim .inl λe=> .inr (.inl e)) q183.kp) λ _ _ h=>h
   refine⟨k183,l183.one,λb184 w185 hb184 hw185=>?_⟩;have ς:Ex w183 w185:=hw185▸Ex.alloc w183 _;have s185:w185.heap.size=w183.heap.size+1:=by rw [hw185,size_alloc]
   have s179:=ο.size;have s183:=q183.size;have hMr:∀g,ι.ownBlock=some g->¬(g=m\/g=r):=λg H e=>by
    have :=hob g H;rcases e with e | e<;>omega
   have ho185:aB 59 β.heap.size w185 ι us2:=((ho172.kp (Kp.ah ο λ _=>False) λ _ _ h=>h).kp q183.kp hMr).kp (Kp.ah ς λ _=>False) λ _ _ h=>h
   have hlu:us2.length<=us.length:=by
    have h1:=ht172.len;have h2:=C3 F3 (ps.take j);have :=Lv.gR ps j;omega
   refine⟨Kp.trans k183 (Kp.ah ς λ _=>False) λ _ _ h=>h.elim,aB.push ho185 (by omega) (m:=[v182]) (D:=λ _=>True) (.inr ⟨b184,0,1,rfl,trivial,by omega,λi y hy=>?_⟩) (by simp only [OM,Qj,P'];exact l183.one) (by omega) (by simp only [Nv,NR];omega) λv191 w192 ho192 hg192 hn192=>?_⟩
   ·cases i with
    | zero=>simp only [Pz,O4]at hy;subst hy;rw [hw185,hb184];exact aa rfl
    | succ i=>simp at hy
   have k192:Kp w185 w192 λg=>ι.ownBlock=some g:=Kp.aF hg192 λ _ h=>h
   have th185:=((θ.kp (Kp.ah ο λ _=>False) λh=>h).kp q183.kp (λe=>by rcases e with e | e<;>omega)).kp (Kp.ah ς λ _=>False) λh=>h
   have th192:=th185.kp k192 λe=>hnb _ e rfl
   refine⟨Kp.trans (Kp.trans k183 (Kp.ah ς λ _=>False) λ _ _ h=>h.elim) k192 λg _ h=> .inr (.inr h),ho192.qV,⟨⟨_,th192.c4⟩,th192.f 4⟩,λw194 hw194=>⟨by omega,?_,tN (by omega)⟩⟩;have kb194:Kr G w192 w194:=hw194▸Kr.set w192 4 _;have k194:Kp w185 w194 λg=>ι.ownBlock=some g\/g=G:=Kp.trans (Kp.mono (λ _ h=> .inl h) k192) kb194 λ _ _ h=> .inr h
   have s194:=k194.size;have hnew:∀g,v191.ownBlock=some g->ι.ownBlock=some g\/w185.heap.size<=g:=hn192;have q185:Kq m r β w185:=(q179.trans q183).ex ς J;have keep:(ps.take j).map F4=(ps.take j).map F3:=cu λx hx=>rn183.out x λhxe=>by
    rcases hx with hx | hx
    ·exact hdis2 x hx hxe
    ·exact uq.nf x ((Lv.lR ps _ hf2).subset (by rw [ebv2];exact hxe)) (oh ps j hx)
   have hS:∀g,(ι.ownBlock=some g\/g=G)->β.heap.size<=g:=λg e=>e.elim (λe=>(hob g e).1) λe=>by omega
   refine⟨j+1,n4,F4,v191,us2++[v182],by omega,by omega,q185.out k194 (λg H e=>by have :=hS g e;omega) J,(mk183.ex ς).kp k194 (λe=>by have :=hS _ e;omega),(mf183.kp (Kp.ah ς λ _=>False) (λh=>h)).kp k194 (λe=>by have :=hS _ e;omega),?_,th192.KZ hw194,ho192.kp kb194 (λg H e=>?_),λg H e=>?_,?_⟩
   ·rw [hts2,Lv.bX,ebv2];exact ν.app rn183 hdis2
   ·rcases hnew g H with h | h
    ·exact hnb g h e
    ·omega
   ·rcases hnew g H with h | h
    ·exact hnb g h e
    ·omega
   ·rw [hts2,Lv.eu,keep];refine ab.app ?_ ?_
    ·refine ab.sub (λg _ H=>⟨⟨H.1.1,H.1.2.1,λe=>(hnew g e).elim H.1.2.2 λh=>by omega⟩,by omega⟩) (ab.kp k194 (λg H e=>e.elim H.1.2.2 H.1.2.1) (ab.ex (ab.kp q183.kp (λg H e=>by
      have :=H.1.1;rcases e with e | e<;>omega) (ab.ex ht172 ο)) ς))
    ·refine⟨v182,[],rfl,?_,rfl⟩;have l183':=aJ.sub (E:=λg=>w179.heap.size<=g/\g< w183.heap.size) l183 λg H hd=>⟨hd,H⟩
     exact aJ.sub (aJ.kp (aJ.ex l183' ς) k194 λg H e=>by
      rcases e with e | e
      ·have :=hob g e;omega
      ·omega) λg _ H=>⟨⟨by omega,by omega,λe=>(hnew g e).elim (λh=>by have :=hob g h;omega) λh=>by omega⟩,by omega⟩
def G1 (k:Nat):J' k:=by
 induction k using Nat.strongRecOn with
 | _ k G=>exact AO k G
def No (acc:List Tx)(s:Tx):List Tx:=if acc.getLast?=some s then acc else acc++[s]
def dd (l:List Tx):List Tx:=l.foldl No []
structure Mq (B:Nat)(w:World)(r:Nat)(l:List Tx)(bad:Bool)(M:Nat->Prop):Prop where
 lt:r< w.heap.size
 mb:M r
 mr:∀g,M g->B<=g/\g< w.heap.size
 f:∀j,w.frozen? ⟨r,j,none⟩=false
 c1:w.cell? ⟨r,1,none⟩=some (.bool bad)
 sl:∃v,w.cell? ⟨r,0,none⟩=some v/\Own B w v l/\∀g,v.ownBlock=some g->M g/\g≠r
def Mq.kp {B:Nat}{w w':World}{r:Nat}{l:List Tx}{bad:Bool}{M S:Nat->Prop}(h:Mq B w r l bad M)(k:Kp w w' S)(H:∀g,M g->¬S g):Mq B w' r l bad M:=by
 have e:=k.block r h.lt (H r h.mb);obtain⟨v,h1,Z,J⟩:=h.sl;exact⟨N0 h.lt k.size,h.mb,λg G=>⟨(h.mr g G).1,N0 (h.mr g G).2 k.size⟩,λj=>by rw [N5 (w:=w) e];exact h.f j,by rw [Nw (w:=w) e];exact h.c1,v,by rw [Nw (w:=w) e];exact h1,Z.kp k λg G=>H g (J g G).1,J⟩
def Own.qV {B:Nat}{w:World}{v:Value}{l:List Tx}(h:Own B w v l):oneV v=true:=by
 rcases h.2 with⟨rfl,_⟩ | ⟨g,cap,cur,rfl,_⟩<;>rfl
def Ft {B:Nat}{w w':World}{g cap n j:Nat}{l:List Tx}{x:Tx}(h:Own B w (.slice (some ⟨g,0,none⟩) n cap) l)(hw:w'=w.setCell ⟨g,j,none⟩ (.string (ay x)))(G:j< l.length):Own B w' (.slice (some ⟨g,0,none⟩) n cap) (l.set j x):=by
 have H:aB 9 B w (.slice (some ⟨g,0,none⟩) n cap) (l.map sv):=by unfold aB;rw [NH];exact h
 have :=H.set hw (by simpa using G);rw [show Value.string (ay x)=sv x from rfl,<-PU]at this;unfold aB at this;rw [NH]at this;exact this
attribute [go_sem] Tryz.f167
attribute [go_sem] Tryz.f97
attribute [go_sem] Tryz.f103
attribute [go_sem] Tryz.f53
attribute [go_sem] Tryz.f147
def mg (s1:Value)(G:Int)(w:World)(R:Bool->QU)(h:vc az (aZ [] [] []) (af Tryz.f147) (ai 0 [.v s1,.i G]) w (fin az [.tmp 4 .b] R)):
  QV 147 #[s1,(.int .i64 G)] w (ax [.b] R):=
 bj Tryz.func147 (by kernel_rfl) h
attribute [go_sem] Tryz.f200
def Cx {D:Nat->Prop}{w:World}{v:Value}{o:List Nat}{x:Nat}(h:ew D w v (o.map iv))(hl:o.length<=1099511627776){R:Bool->QU}(hR:R (decide (x∈o)) w):
  QV 183 #[v,iv x] w (ax [.b] R):=by
 refine jj v x w R ?_;dsimp only [go_sem];refine mi v x w _ ?_;dsimp only [go_sem];dsimp only [go_sem,Nat.reduceAdd];obtain⟨ao,cap,hv⟩:=h.slice;rw [NH]at hv;refine⟨ao,_,cap,hv,λi w'=>∃j:Nat,i=j/\j<=o.length/\w'=w/\x∉o.take j,λi _=>(o.length - i).toNat,⟨0,rfl,OA _,rfl,by simp⟩,λi w' hI=>?_⟩;obtain⟨j,rfl,hj,rfl,hm⟩:=hI;refine⟨λJ=>?_,λZ=>?_⟩
 ·have G:=oL J;refine h.Mi (Int.natCast_nonneg j) (gE G) (Q:=λn=>_) ⟨λhe=>?_,λH=>?_⟩
  ·have he:x=o[j]:=by simp only [NL]at he;omega
   show R (decide (0<=(j:Int))) _;rw [Ph (show(0:Int)<=(j:Int) by omega)];rw [Ph (show x∈o by rw [he];exact NO G)]at hR;exact hR
  ·have H:x≠o[j]:=by simp only [NQ]at H;omega
   refine⟨by omega,⟨j+1,by omega,by omega,rfl,?_⟩,tN (by omega)⟩;rw [NG G,NI,NT];exact λh=>h.elim hm H
 ·have:j=o.length:=by simp only [NQ]at Z;omega
  rw [this,Od]at hm;show R (decide ((0:Int)<= -1)) _;rw [O6 (show ¬(0:Int)<= -1 by omega)];rw [O6 hm]at hR;exact hR
def zu {X:Type}(P:Nat->Bool)(x:X):∀(l:List X) (k:Nat),kQ P (l++[x]) k=kQ P l k++if P (k+l.length)then []else [x]
 | [],k=>by rw [Om,bO,gk];simp [gk]
 | y::l,k=>by
  rw [Oz,bO,bO,zu P x l (k+1),Nv,show k+1+l.length=k+(l.length+1) by omega];split<;>simp
def elsL:List Lv->Lv
 | []=> .nil
 | e::r=>e.app (elsL r)
def zT:∀l m:List Lv,elsL (l++m)=(elsL l).app (elsL m)
 | [],m=>rfl
 | e::l,m=>by simp only [Oz,elsL,zT l m,Lv.cX]
def Gv (e:Lv):elsL [e]=e:=Lv.aU e
def rI {X:Type}{P:Nat->Bool}:∀{l:List X} {k:Nat} {x:X},x∈kQ P l k->x∈l
 | [],k,x,h=>by rw [gk]at h;cases h
 | y::l,k,x,h=>by
  rw [bO]at h;split at h
  ·exact NJ _ (rI h)
  ·rcases NV.1 h with rfl | h
   ·exact Oa ..
   ·exact NJ _ (rI h)
def nO {X:Type}(P:Nat->Bool):∀(l:List X) (k:Nat),(kQ P l k).Sublist l
 | [],k=>by rw [gk];exact Ov _
 | y::l,k=>by
  rw [bO];split
  ·exact(nO P l (k+1)).trans (List.sublist_cons_self ..)
  ·exact(nO P l (k+1)).cons_cons y
def mZ (l:List Lv):Nat:=(l.map Lv.tot).sum
def gQ:∀l:List Lv,(elsL l).tot=mZ l
 | []=>rfl
 | e::l=>by simp only [elsL,Lv.bP,gQ l,mZ,N4,OE]
def sZ {l m:List Lv}(h:l.Sublist m):mZ l<=mZ m:=by
 induction h with
 | slnil=>exact ND _
 | cons a _ G=>simp only [mZ,N4,OE]at*;omega
 | cons_cons a _ G=>simp only [mZ,N4,OE]at*;omega
def j6:∀l:Lv,elsL l.bc=l
 | .nil=>rfl
 | .thr k a b o r n=>by simp only [Lv.bc,elsL,j6 n,Lv.app]
 | .sum ps n=>by simp only [Lv.bc,elsL,j6 n,Lv.app]
 | .part o q n=>by simp only [Lv.bc,elsL,j6 n,Lv.app]
def DC {b:Bool}:∀{l:List Lv},(∀e∈l,e.sh b=true)->(elsL l).sh b=true
 | [],_=>by cases b<;>rfl
 | e::l,h=>Lv.fO (h e (by simp)) (DC λx G=>h x (by simp [G]))
def HX:∀{l:Lv},l.sh true=true->∀e∈l.bc,e.sh true=true:=λ{l} h e he=>by
 rcases Lv.jB h e he with⟨k,a,b,o,r,rfl,hr⟩ | ⟨ps,rfl,G⟩
 ·simp only [Lv.sh,hr,O1]
 ·simp only [Lv.sh,G,O1]
def tX:∀{l:List (List Nat×Lv)},(∀x∈l,x.2.sh true=true)->(joinL l).2.sh true=true
 | [],_=>rfl
 | x::l,h=>Lv.fO (h x (by simp)) (tX λy G=>h y (by simp [G]))
def lk:∀(l:List (List Nat×Lv)) (j:Nat),(joinL (l.take j)).1.length<=(joinL l).1.length/\(joinL (l.take j)).2.tot<=(joinL l).2.tot
 | [],j=>by simp [joinL]
 | x::l,0=>by simp [joinL,Lv.tot]
 | x::l,j+1=>by
  obtain⟨h1,G⟩:=lk l j;simp only [Qb,joinL,NB,Lv.bP];omega
def Jr {D:Nat->Prop}{w:World}{s:Nat}{O:List Nat}{l:Lv}{vl vg vo vm:Value}{gl:List Nat}{ms:List (List Nat×Lv)}{mvs:List Value}(hcl:w.cell? ⟨s,2,none⟩=some vl)(hls:s< w.heap.size)(hl:aJ D w (O,l) vl)(H:ew D w vg (gl.map iv))(hgl:gl.length<=1000)(ho:ew D w vo (O.map iv))(hm:ew D w vm mvs)
  (hms:aO (λL v=>aJ D w L v) ms mvs) (hml:mvs.length<=1000) (hsh:l.sh true=true) (hmsh:∀x∈ms,x.2.sh true=true) (htot:O.length+(joinL ms).1.length+(l.tot+(joinL ms).2.tot)<=4294967295)
  {P:Nat->Bool} (hP:∀i,P i=decide (i∈gl)) {res:List Nat×Lv} (ξ:res=(O++(joinL ms).1,(elsL (kQ P l.bc 0)).app (joinL ms).2)) (huq:ur (Lv.tidy res.1 res.2).1 (Lv.tidy res.1 res.2).2) (hfr:∀x,x∉(Lv.tidy res.1 res.2).1->(Lv.tidy res.1 res.2).2.fh x->x< 26)
  {R:aH->Bool->QU} (hR:∀w',Ex w w'->(∀s,DO (Lv.tidy res.1 res.2)=some s->R s true w')/\(DO (Lv.tidy res.1 res.2)=none->R [] false w')):
  QV 114 #[ptr s,vg,vo,vm] w (ax [.s,.b] R):=by
 refine mE (ptr s) vg vo vm w R ?_;dsimp only [go_sem];dsimp only [go_sem,Nat.reduceAdd];refine rN ho (by omega) λv5 w6 x6 ho6=>⟨ho6.qV,λb7 w8 hb7 ο=>?_⟩
 have x8':Ex w6 w8:=ο▸Ex.alloc w6 _;have x8:=Ex.trans x6 x8';have s8:w8.heap.size=w6.heap.size+1:=by rw [ο,size_alloc]
 have s6:=x6.size;have bd8:jr w.heap.size w8 b7 O [] λg=>g=b7\/v5.ownBlock=some g:=by
  refine⟨by omega,by omega,.inl rfl,λg H=>?_,λj=>?_,v5,.slice none 0 0,?_,?_,ho6.kp (Kp.ah x8' λ _=>False) (λ _ _ h=>h),aB.nil _ _ _,λg H=>⟨.inr H,?_⟩,λg H=>(by cases H),λg _ H=>(by cases H)⟩
  ·rcases H with rfl | H
   ·omega
   ·have :=ho6.block g H;omega
  ·rw [ο,hb7];exact aV _ _ _ _
  ·rw [ο,hb7];exact aa rfl
  ·rw [ο,hb7];exact aa rfl
  ·have :=ho6.block g H;omega
 obtain⟨bl,vo',vt,ts,rfl,h2,h3,h4,h5,h6,h7,h8⟩:=aJ.sub (E:=λg=>g< w.heap.size) hl λg H _=>H
 obtain⟨at_,capt,hvt⟩:=h7.slice;have hlen:ts.length=l.len:=h8.len;have hel:=Lv.cA l;have hlt:=bK l;have ς:∀i,mZ (kQ P (l.bc.take i) 0)<=l.tot:=λi=>by
  have h1:=sZ ((nO P (l.bc.take i) 0).trans (List.take_sublist i l.bc));have h2:=gQ l.bc;rw [j6]at h2;omega
 refine⟨s,0,rfl,ptr bl,by rw [x8.cell (show s< _ from hls)];exact hcl,bl,0,rfl,vt,by rw [x8.cell (show bl< _ from h3)];exact h5,at_,_,capt,hvt,λx w'=>∃(i:Nat) (β:List Value) (M:Nat->Prop),x=i/\i<=ts.length/\Ex w w'/\jr w.heap.size w' b7 O β M/\ab (λg=>g< w.heap.size) w' (elsL (kQ P (l.bc.take i) 0)) β,
  λx _=>(ts.length - x).toNat,⟨0,[],_,rfl,OA _,x8,bd8,by rw [List.take_zero,gk];rfl⟩,λx w21 hI=>?_⟩
 obtain⟨i,β,M,rfl,hi,θ,J,γ⟩:=hI;have hl1:β.length<=l.tot:=by
  have h1:=γ.len;have h2:=bK (elsL (kQ P (l.bc.take i) 0));rw [gQ]at h2;have :=ς i;omega
 refine⟨λhlt1=>?_,λhge1=>?_⟩
 ·have ι:i< ts.length:=by simp only [NL]at hlt1;omega
  have hie:i< l.bc.length:=by omega
  obtain⟨bt,ot,G,hvt',hct⟩:∃bt ot G,vt= .slice (some ⟨bt,ot,none⟩) ts.length G/\w21.cell? ⟨bt,ot+i,none⟩=some ts[i]:=by
   rcases h7 with⟨_,h0⟩ | ⟨bt,ot,G,e,hbD,hb',δ⟩
   ·rw [h0]at ι;simp at ι
   ·exact⟨bt,ot,G,e,by rw [θ.cell (show bt< _ from hb')];exact δ i _ (Ny ι)⟩
  obtain⟨e,he1,he2,he3⟩:=aO.single h8.bc (Ny ι);have he4:l.bc[i]=e:=by rw [Ny hie]at he1;exact Oh he1
  have hts:kQ P (l.bc.take (i+1)) 0=kQ P (l.bc.take i) 0++if P i then []else [e]:=by
   rw [NG hie,zu,he4,N2,Og,Px (by omega)]
  refine⟨bt,ot,_,G,hvt',by omega,by omega,ts[i],by rw [NF,N7];exact hct,Cx (H.ex θ) (by omega) ?_⟩;have hPi:=hP i;refine⟨λhq=>?_,λhq=>⟨by omega,⟨i+1,β,M,by omega,by omega,θ,J,?_⟩,tN (by omega)⟩⟩;rotate_left
  ·have hPt:P i=true:=by rw [hPi];cases h:decide (i∈gl)<;>first | rfl | (rw [h]at hq;cases hq)
   rw [hts,N' hPt,N9];exact γ
  have hPt:P i=false:=by rw [hPi];cases h:decide (i∈gl)<;>first | rfl | (rw [h]at hq;cases hq)
  obtain⟨vo1,vt1,d0,d1,d2,d3,d4,d5,d6⟩:=J.sl;have υ:=he3.all;simp only [OM,Qj,P']at υ;refine⟨vt1,d1,υ,λb30 κ hb30 φ=>?_⟩;have χ:Ex w21 κ:=φ▸Ex.alloc w21 _;have s31:κ.heap.size=w21.heap.size+1:=by rw [φ,size_alloc]
  have s21:=θ.size;have ψ:=J.ex χ;refine aB.push (d3.kp (Kp.ah χ λ _=>False) λ _ _ h=>h) (by omega) (m:=[ts[i]]) (D:=λ _=>True) (.inr ⟨b30,0,1,rfl,trivial,by omega,λi' y hy=>?_⟩) (by simp only [OM,Qj,P'];exact υ) (by omega) (by simp only [Nv,NR];omega) λv37 w38 ho38 hg38 hn38=>?_
  ·cases i' with
   | zero=>simp only [Pz,O4]at hy;subst hy;rw [φ,hb30];exact aa rfl
   | succ i=>simp at hy
  have k38:Kp κ w38 λg=>vt1.ownBlock=some g:=Kp.aF hg38 λ _ h=>h
  have e7:=k38.block b7 ψ.lt λe=>(d5 b7 e).2 rfl
  have c71:κ.cell? ⟨b7,1,none⟩=some vt1:=by rw [χ.cell (show b7< _ from J.lt)];exact d1
  refine⟨ho38.qV,⟨⟨vt1,by rw [Nw (w:=κ) e7];exact c71⟩,by rw [N5 (w:=κ) e7];exact ψ.fr 1⟩,λw40 hw40=>⟨by omega,?_,tN (by omega)⟩⟩;obtain⟨bd40,k40⟩:=ψ.L6 c71 k38 ho38 hn38 hw40;have ω:=Ex.trans θ χ;have x40:Ex w w40:=Ex.below ω (Kp.below k40 ω.size λg H hM=>by have :=(J.mr g hM).1;omega);refine⟨i+1,β++[ts[i]],_,by omega,by omega,x40,bd40,?_⟩;rw [hts,NS (by rw [hPt];simp),zT,Gv];exact ab.app (ab.kp k40 (λg H hM=>by have :=(J.mr g hM).1;omega) (ab.ex γ χ)) (ab.ex he3 x40)
 ·have ι:i=l.bc.length:=by simp only [NQ]at hge1;omega
  rw [ι,Od]at γ;obtain⟨am,capm,hvm⟩:=hm.slice;have hl2:β.length<=l.tot:=hl1;have hmsl:=hms.1;refine⟨am,_,capm,hvm,λx w'=>∃(j:Nat) (ts2:List Value) (M2:Nat->Prop),x=j/\j<=mvs.length/\Ex w w'/\jr w.heap.size w' b7 (O++(joinL (ms.take j)).1) ts2 M2/\ab (λg=>g< w.heap.size) w' ((elsL (kQ P l.bc 0)).app (joinL (ms.take j)).2) ts2,λx _=>(mvs.length - x).toNat,⟨0,β,M,rfl,OA _,θ,by simpa [joinL]using J,by simpa [joinL,Lv.aU]using γ⟩,λx w47 hI=>?_⟩;obtain⟨j,ts2,M2,rfl,hj,μ,Z,η⟩:=hI;refine⟨λhlt2=>?_,λhge2=>?_⟩
  ·have ν:j< mvs.length:=by simp only [NL]at hlt2;omega
   obtain⟨bm,om,ε,hvm',hcm⟩:∃bm om ε,vm= .slice (some ⟨bm,om,none⟩) mvs.length ε/\w47.cell? ⟨bm,om+j,none⟩=some mvs[j]:=by
    rcases hm with⟨_,h0⟩ | ⟨bt,ot,G,e,hbD,hb',δ⟩
    ·rw [h0]at ν;simp at ν
    ·exact⟨bt,ot,G,e,by rw [μ.cell (show bt< _ from hb')];exact δ j _ (Ny ν)⟩
   obtain⟨L,hL1,hL2,hL3⟩:=aO.single hms (Ny ν);have hjm:j< ms.length:=by omega
   have hL4:ms[j]=L:=by rw [Ny hjm]at hL1;exact Oh hL1
   have ζ:joinL (ms.take (j+1))=((joinL (ms.take j)).1++L.1,(joinL (ms.take j)).2.app L.2):=by
    rw [NG hjm,lC,hL4,lJ]
   obtain⟨k1,k2⟩:=lk ms (j+1);rw [ζ]at k1 k2;simp only [NB,Lv.bP]at k1 k2;obtain⟨ts3,hl3,ht3⟩:=aJ.ths (aJ.ex (aJ.sub (E:=λg=>g< w.heap.size) hL3 λg H _=>H) μ);have h47:=η.len;have h47':=bK ((elsL (kQ P l.bc 0)).app (joinL (ms.take j)).2);rw [Lv.bP,gQ]at h47';have hp:=ς l.bc.length;rw [Od]at hp;have h3l:=ht3.len;have h3t:=bK L.2;refine⟨bm,om,_,ε,hvm',by omega,by omega,mvs[j],by rw [NF,N7];exact hcm,nU Z μ.size hl3 ht3.all (λg H hM=>by have :=(Z.mr g hM).1;omega) ⟨by simp only [NB];omega,by omega⟩ λw53 M3 k53 bd53 _=>⟨by omega,?_,tN (by omega)⟩⟩;have x53:Ex w w53:=Ex.below μ (Kp.below k53 μ.size λg H hM=>by have :=(Z.mr g hM).1;omega);refine⟨j+1,ts2++ts3,M3,by omega,by omega,x53,?_,?_⟩
   ·rw [ζ,<-Oi];exact bd53
   ·rw [ζ,<-Lv.cX];exact ab.app (ab.kp k53 (λg H hM=>by have :=(Z.mr g hM).1;omega) η) (ab.kp k53 (λg H hM=>by have :=(Z.mr g hM).1;omega) ht3)
  ·have ν:j=ms.length:=by simp only [NQ]at hge2;omega
   rw [ν,Od]at Z η;have hp:=ς l.bc.length;rw [Od]at hp;have hLv:gg (λg=>g< w47.heap.size) w47 (ptr b7) res.1 (ab (λg=>g< w47.heap.size) w47 res.2):=by
    rw [ξ];exact Z.Md (λg H _=>H) (ab.sub (λg H _=>H) η)
   refine p8 hLv ?_ ?_ huq hfr λw56 x56=>hR w56 (Ex.trans μ x56)
   ·rw [ξ];exact Lv.fO (DC λe he=>HX hsh e (rI he)) (tX hmsh)
   ·rw [ξ];simp only [NB,Lv.bP,gQ];omega
section
open T
structure LH (O:List Nat)(F:List UInt8)(p:P)(q:U):Prop where
 ae:AE UInt8.toNat p (λz=>(asg O F ρ0 z).toNat) q
 wf:p.wf=true
 eb:Eb 0 p
 fr:∀z,q.Fr z->z∈O\/(z< 26/\ρ0 z∉F)
def DH {z:Nat}(h:z< 26):lt (ρ0 z)=true:=rJ (by rw [de h];unfold σ0;omega)
def AE.Lp {ρ:UInt8->Nat}{σ:Nat->Nat}:∀{ps:List P} {us:List U},gD (λp q=>AE ρ p σ q) ps us->AE ρ (T.parL ps) σ (T.parL us)
 | [],[],_=>trivial
 | [p],[q],.cons h _=>h
 | p::G::ps,q::H::us,.cons h k=>⟨h,AE.Lp k⟩
def gD.mono {X Y:Type}{R S:X->Y->Prop}(G:∀x y,R x y->S x y){l:List X}{m:List Y}(h:gD R l m):gD S l m:=by
 induction h with
 | nil=>exact .nil
 | cons h _ H=>exact .cons (G _ _ h) H
def gD.Jw {X Y:Type}{R:X->Y->Prop}{l:List X}{m:List Y}(h:gD R l m){x:X}(G:x∈l):∃y∈m,R x y:=by
 induction h with
 | nil=>cases G
 | cons h _ H=>
  rcases NV.1 G with rfl | G
  ·exact⟨_,Oa ..,h⟩
  ·obtain⟨y,h1,J⟩:=H G;exact⟨y,NJ _ h1,J⟩
def gD.AF {X Y:Type}{R:X->Y->Prop}{l:List X}{m:List Y}(h:gD R l m){y:Y}(G:y∈m):∃x∈l,R x y:=by
 induction h with
 | nil=>cases G
 | cons h _ H=>
  rcases NV.1 G with rfl | G
  ·exact⟨_,Oa ..,h⟩
  ·obtain⟨y,h1,J⟩:=H G;exact⟨y,NJ _ h1,J⟩
def wW:∀{l:List P},(∀p∈l,p.wf=true)->(parL l).wf=true
 | [],_=>rfl
 | [p],h=>h p (by simp)
 | p::q::l,h=>by
  have G:=wW (l:=q::l) λx H=>h x (NJ _ H)
  simp only [parL,wf,Nz];exact⟨h p (by simp),G⟩
def wV {p:P}(G:p.wf=true):∀{l:List UInt8},(∀c∈l,lt c=true)->(resL l p).wf=true
 | [],_=>G
 | c::l,h=>by
  simp only [resL,wf,Nz];exact⟨iE (h c (by simp)),wV G λx H=>h x (NJ _ H)⟩
def xg {k:Nat}:∀{l:List P},(∀p∈l,Eb k p)->Eb k (parL l)
 | [],_=>trivial
 | [p],h=>h p (by simp)
 | p::q::l,h=>⟨h p (by simp),xg (l:=q::l) λx G=>h x (NJ _ G)⟩
def yi {c:UInt8}(h:lt c=true)(k:Nat):okn k c:=by have :=a6 h;unfold okn;omega
def Dy {p:P}(H:∀z,p.Fr z->lt z=true):∀{l:List UInt8} {k:Nat},Eb k p->(∀c∈l,lt c=true)->Eb k (resL l p)
 | [],_,G,_=>G
 | c::l,k,G,h=>by
  refine⟨⟨nj (h c (by simp)),λz J _=>yi (H z (c8.1 J).2) k⟩,Dy H (G.mono (by omega)) λx Z=>h x (NJ _ Z)⟩
def rB {A:Type}(p:T A):∀l:List A,(resL l p).rd=p.rd/\(resL l p).ow=l.length+p.ow/\(resL l p).size=l.length+p.size/\(resL l p).aK=3* l.length+p.aK
 | []=>by simp [resL]
 | c::l=>by
  obtain⟨h1,G,H,h4⟩:=rB p l;simp only [resL,rd,ow,size,aK,Nv];refine⟨h1,?_,?_,?_⟩<;>omega
def yI {A:Type}(p:T A):∀l:List A,(resL l p).pm=l.length+p.pm
 | []=>by simp [resL]
 | c::l=>by simp only [resL,pm,yI p l,Nv];omega
def yD {A:Type}{R:Nat}:∀{l:List (T A)},(∀p∈l,p.rd+p.ow<=R)->(parL l).pm<=R
 | [],_=>OA _
 | [p],h=>OC (fK p) (h p (by simp))
 | p::q::l,h=>by
  have h1:=yD (l:=q::l) λx G=>h x (NJ _ G)
  have H:=OC (fK p) (h p (by simp));simp only [parL,pm];omega
def zD {t p:U}:∀{l:List Nat},t∈(aj (resL l p)).2->t∈(aj p).2
 | [],h=>h
 | _::l,h=>zD (l:=l) h
def zP {t:U}:∀{l:List U},t∈(aj (parL l)).2->∃x∈l,t∈(aj x).2
 | [],h=>by cases h
 | [p],h=>⟨p,by simp,h⟩
 | p::q::l,h=>by
  rcases NI.1 h with h | h
  ·exact⟨p,by simp,h⟩
  ·obtain⟨x,h1,G⟩:=zP (l:=q::l) h;exact⟨x,NJ _ h1,G⟩
def Dc {O:List Nat}{us:List U}(H:(resL O (parL us)).ow<=64)(h:∀x∈us,x.rd+x.ow<=59):Lb 0 (resL O (parL us)):=⟨H,λZ t G=>by
 obtain⟨x,J,G⟩:=zP (zD G);have :=C0 x t G;have :=h x J;omega⟩
def GJ {O:List Nat}{F:List UInt8}(hl:O.length=F.length)(hF:F.Nodup)(β:∀c∈F,lt c=true)(ho:∀x∈O,26<=x){ps:List P}{us:List U}(h:gD (LH O F) ps us)(nd:(O++us.flatMap BV).Nodup)(bv:∀x∈us.flatMap BV,26<=x)
  (hb:∀p∈ps,F.length+p.rd+p.ow<=59) (κ:F.length+(parL ps).ow<=64) (ξ:(parL ps).aK<=1000000000) (ο:F.length<=300):hU 0 (resL F (parL ps)) σ0 (resL O (parL us)):=by
 have H:∀z,(resL O (parL us)).Fr z->z< 26/\ρ0 z∉F:=λz J=>by
  obtain⟨h1,h2⟩:=c8.1 J;obtain⟨q,hq,γ⟩:=iw.1 h2;obtain⟨p,Z,δ⟩:=h.AF hq;exact(δ.fr z γ).resolve_left h1
 have ε:AE UInt8.toNat (parL ps) (λz=>(asg O F ρ0 z).toNat) (parL us):=AE.Lp (h.mono λp q k=>k.ae);have μ:AE UInt8.toNat (resL F (parL ps)) (λz=>(ρ0 z).toNat) (resL O (parL us)):=AE.DM O F ρ0 hl hF (λz J G=>(H z (c8.2 ⟨G,J⟩)).2) ε;have ae:AE UInt8.toNat (resL F (parL ps)) σ0 (resL O (parL us)):=μ.congr (λ _ _=>rfl) λz J=>de (H z J).1
 have ζ:∀c,(parL ps).Fr c->lt c=true:=λc hc=>by
  obtain⟨z,J,e⟩:=ε.free c hc;have e:=N6.1 e;obtain⟨q,hq,γ⟩:=iw.1 J;obtain⟨p,Z,δ⟩:=h.AF hq;by_cases G:z∈O
  ·rw [<-e];exact β _ (cZ O F ρ0 z G hl)
  ·rw [<-e,bz _ _ _ _ G];exact DH ((δ.fr z γ).resolve_left G).1
 have η:BV (resL O (parL us))=O++us.flatMap BV:=by rw [dP,dT]
 have θ:∀x∈BV (resL O (parL us)),26<=x:=λx hx=>by
  rw [η]at hx;exact(NI.1 hx).elim (ho x) (bv x)
 have ι:Uq (resL O (parL us)):=⟨by rw [η];exact nd,λx hx hf=>by have :=θ x hx;have :=(H x hf).1;omega⟩
 obtain⟨k1,k2,k3,k4⟩:=rB (parL ps) F;have ν:(resL F (parL ps)).wf=true:=wV (wW λp Z=>by obtain⟨q,_,k⟩:=h.Jw Z;exact k.wf) β;refine⟨⟨ν,by rw [aP,k4];omega,⟨Dy ζ (xg λp Z=>by obtain⟨q,_,k⟩:=h.Jw Z;exact k.eb) β,by have :=yD (R:=64 - F.length) (l:=ps) λp Z=>(by have :=hb p Z;omega);rw [yI];omega⟩,ae,λy z _ _ e=>by unfold σ0 at e;omega,ι⟩,λz J hG=>?_,⟨ι,λy hy=>(H y (bf hy)).1,θ⟩,λ _ _=>rfl,Dc (by rw [nM ae,k2];exact κ) λq hq=>?_⟩;rotate_left
 ·obtain⟨p,Z,k⟩:=h.AF hq;have :=hb p Z;rw [Cy k.ae,nM k.ae];omega
 have :=ζ z (c8.1 J).2;exact absurd hG (dx (nj this))
def LW:∀{u:U},Uq u->u.Nr->cz u=u.ow/\(u.dead=false->thAll (tp u.l5)=u.ow):=by
 intro u;have one:∀{u:U},u.isS=false->cz u=u.ow->cz u=u.ow/\(u.dead=false->thAll (tp u.l5)=u.ow):=λ{u} hs h=>⟨h,λ _=>by rw [gb hs];simp only [tp,thAll,PS];exact h⟩
 have all:∀{u:U},Uq u->u.Nr->cz u=u.frL.length+thAll (tl u.ths):=λ{u} G n=>by unfold cz;rw [eF G n]
 induction u with
 | nil=>intro G n;exact one rfl (by rw [all G n];rfl)
 | snd a b p H=>intro G n;exact one rfl (by rw [all G n];have :=(H G.snd n).1;unfold cz at this;simp only [frL,T.ths,tl,thAll,NR,ow];omega)
 | rcv a b p H=>intro G n;exact one rfl (by rw [all G n];have :=(H G.rcv n).1;unfold cz at this;simp only [frL,T.ths,tl,thAll,NR,ow];omega)
 | tau p H=>intro G n;exact one rfl (by rw [all G n];have :=(H G.tau n).1;unfold cz at this;simp only [frL,T.ths,tl,thAll,NR,ow];omega)
 | mat a b p H=>intro G n;exact one rfl (by rw [all G n];have :=(H G.mat n.2).1;unfold cz at this;simp only [frL,T.ths,tl,thAll,NR,ow];omega)
 | rep p H=>intro G n;exact one rfl (by rw [all G n];have :=(H G.rep n.2).1;unfold cz at this;simp only [frL,T.ths,tl,thAll,NR,ow];omega)
 | res x p H=>intro G n;exact one rfl (by rw [all G n];have :=(H G.res n.2).1;rw [all G.res n.2]at this;simp only [frL,T.ths,Nv,ow];omega)
 | par p q H J=>
  intro G n;refine one rfl ?_;have h1:=(H G.fX n.2.1).1;have Z:=(J G.fD n.2.2).1;have h0:q.frL=[]:=by
   rcases n.1.2 with h | h
   ·exact fQ h
   ·cases q<;>first | rfl | (cases h;done)
  rw [all G.fD n.2.2,h0]at Z;rw [all G.fX n.2.1,fQ n.1.1,jH n.1.1]at h1;rw [all G n];simp only [frL,T.ths,ow,NR]at*;rw [show p::q.ths=[p]++q.ths from rfl,dX,bR];omega
 | sum p q H J=>
  intro G n;have h1:=(H G.dO n.2.1).2 n.1.1;have Z:=(J G.dG n.2.2).2 n.1.2.1;have h3:thAll (tp (T.sum p q).l5)=(T.sum p q).ow:=by
   rw [gb n.1.2.2]at h1;simp only [T.l5,ow];rw [show p::q.l5=[p]++q.l5 from rfl,tv,bR,h1,Z]
  refine⟨?_,λ _=>h3⟩;rw [all G n,<-h3];simp only [frL,T.ths,tl,thAll,NR,T.l5];rw [dR G.dO n.2.1 n.1.1,dR G.dG n.2.2 n.1.2.1,gb n.1.2.2];simp
def ky {A B:Type}[DecidableEq A][DecidableEq B]:∀{p:T A} {q:T B} {ρ:A->Nat} {σ:B->Nat},AE ρ p σ q->p.ow=q.ow/\p.rd=q.rd/\p.size=q.size:=by
 intro p
 induction p with
 | nil=>intro q ρ σ h;cases q<;>first | exact⟨rfl,rfl,rfl⟩ | cases h
 | snd a b p G=>intro q ρ σ h;cases q<;>first | (have :=G h.2.2;simp only [ow,rd,size];omega) | cases h
 | mat a b p G=>intro q ρ σ h;cases q<;>first | (have :=G h.2.2;simp only [ow,rd,size];omega) | cases h
 | rcv a b p G=>intro q ρ σ h;cases q<;>first | (have :=G (h.2 0);simp only [ow,rd,size];omega) | cases h
 | res b p G=>intro q ρ σ h;cases q<;>first | (have :=G (h 0);simp only [ow,rd,size];omega) | cases h
 | tau p G=>intro q ρ σ h;cases q<;>first | (have :=G h;simp only [ow,rd,size];omega) | cases h
 | rep p G=>intro q ρ σ h;cases q<;>first | (have :=G h;simp only [ow,rd,size];omega) | cases h
 | sum p J G H=>intro q ρ σ h;cases q<;>first | (have :=G h.1;have :=H h.2;simp only [ow,rd,size];omega) | cases h
 | par p J G H=>intro q ρ σ h;cases q<;>first | (have :=G h.1;have :=H h.2;simp only [ow,rd,size];omega) | cases h
def jz {A:Type}:∀p:T A,p.rd+p.ow+1<=p.size:=by
 intro p
 induction p<;>simp only [rd,ow,size]<;>omega
def ke {A:Type}(l:List (T A)):Nat:=(l.map T.ow).sum
def qz {A:Type}(l:List (T A)):Nat:=(l.map T.size).sum
def zA {A:Type}(l:List (T A)):Nat:=(l.map T.rd).sum
def en {A:Type}(l:List (T A)):Nat:=(l.map T.aK).sum
def lB {A:Type}:∀(l:List (T A)),(parL l).ow=ke l/\(l≠[]->qz l+l.length<=(parL l).size+1)/\(parL l).rd<=zA l/\(parL l).aK<=en l+3* l.length+1/\∀R,(∀p∈l,p.rd<=R)->(parL l).rd<=R
 | []=>by simp [parL,ke,qz,zA,en,ow,rd,aK]
 | [p]=>by simp [parL,ke,qz,zA,en];omega
 | p::q::l=>by
  obtain⟨h1,G,J,h4,h5⟩:=lB (q::l);have G:=G (by simp);simp only [parL,ow,size,rd,aK,ke,qz,zA,en,N4,OE,Nv]at*;refine⟨by omega,λ _=>by omega,by omega,by omega,λR hR=>?_⟩;have :=h5 R λx H=>hR x (NJ _ H)
  have :=hR p (by simp);omega
structure SU (t:P)(u:U):Prop where
 nr:u.Nr
 nu:Nu u
 fr:∀z,u.Fr z->z< 26
 ae:AE UInt8.toNat t (λy=>(ρ0 y).toNat) u
 len:u.frL.length=t.frL.length
 two:gD (λp q=>AE UInt8.toNat p (λz=>(asg u.frL t.frL ρ0 z).toNat) q) t.ths u.ths
 fn:t.frL.Nodup
 fl:∀c∈t.frL,lt c=true
 free:∀z,(∃q∈u.ths,q.Fr z)->z∈u.frL\/(z< 26/\ρ0 z∉t.frL)
 nd:(u.frL++u.ths.flatMap BV).Nodup
 ge:∀x∈u.frL++u.ths.flatMap BV,26<=x
 smp:∀q∈u.ths,q.smp=true
 smpP:∀q∈t.ths,q.smp=true
 nrs:∀q∈u.ths,q.Nr
 al:∀p∈t.ths,p.Al λc=>lt c=true
def De {A:Type}:∀{t:T A},t.smp=true->∀q∈t.ths,q.smp=true:=by
 intro t
 induction t with
 | nil=>intro _ q h;cases h
 | res x p H=>intro h;exact H h
 | par p q H G=>
  intro h r hr;simp only [smp,Nz]at h;rcases NV.1 hr with rfl | hr
  ·exact h.1
  ·exact G h.2 r hr
 | _=>intro h q J;cases NT.1 J;exact h
def Lk {A:Type}{D:A->Prop}:∀{t:T A},t.Al D->(∀q∈t.ths,q.Al D)/\∀c∈t.frL,D c:=by
 intro t
 induction t with
 | nil=>intro _;exact⟨λq h=>(by cases h),λc h=>(by cases h)⟩
 | res x p J=>
  intro h;obtain⟨h1,Z⟩:=J h.2;exact⟨h1,λc G=>(NV.1 G).elim (λe=>e▸h.1) (Z c)⟩
 | par p q J H=>
  intro h;refine⟨λr hr=>?_,λc G=>(by cases G)⟩;rcases NV.1 hr with rfl | hr
  ·exact h.1
  ·exact(H h.2).1 r hr
 | _=>intro h;exact⟨λq hq=>(by cases NT.1 hq;exact h),λc G=>(by cases G)⟩
def nE.su {t:P}(ok:nE t):SU t (num t e0 0).1:=by
 have nu:=j8 ok.al;have H:=ki ok.al;have G:=IE ok.al;have ae:AE UInt8.toNat t (λy=>(ρ0 y).toNat) (num t e0 0).1:=H.congr (λ _ _=>rfl) λy hy=>(de (G y hy)).symm
 have nr:(num t e0 0).1.Nr:=AE.nr H (eM t) (λy z _ _ e=>by unfold σ0 at e;omega) ok.nr;obtain⟨hl,J⟩:=ae.open ok.nr;have Z:=nr.shape;have β:=ok.nr.shape;have γ:BV (num t e0 0).1=(num t e0 0).1.frL++(num t e0 0).1.ths.flatMap BV:=by
  have:BV (num t e0 0).1=BV (resL (num t e0 0).1.frL (parL (num t e0 0).1.ths)):=by rw [<-Z]
  rw [this,dP,dT]
 obtain⟨ζ,η⟩:=Lk ok.al;refine⟨nr,nu,G,ae,hl.symm,J,(ok.nr.Ha).1,η,λz ⟨q,hq,hz⟩=>?_,by rw [<-γ];exact nu.uq.nd,λx hx=>nu.bv x (by rw [γ];exact hx),De (by rw [<-xk ae];exact ok.smp),De ok.smp,λq hq=>(nr.ths q hq).2,ζ⟩;by_cases δ:z∈(num t e0 0).1.frL
 ·exact .inl δ
 ·right;have ε:(num t e0 0).1.Fr z:=by rw [Z];exact c8.2 ⟨δ,iw.2 ⟨q,hq,hz⟩⟩
  refine⟨G z ε,λhF=>?_⟩;obtain⟨c,hc,e⟩:=ae.symm.free z ε;have e:=N6.1 e;rw [β]at hc;have :=(c8.1 hc).1;rw [e]at this;exact this hF
section
variable {t:P} {u:U}
def SU.inj (su:SU t u){z y:Nat}(J:∃q∈u.ths,q.Fr z)(Z:∃q∈u.ths,q.Fr y)(e:asg u.frL t.frL ρ0 z=asg u.frL t.frL ρ0 y):z=y:=by
 by_cases h1:z∈u.frL<;>by_cases G:y∈u.frL
 ·exact rP u.frL t.frL ρ0 z y h1 G su.len su.fn e
 ·have H:=cZ u.frL t.frL ρ0 z h1 su.len;rw [e,bz _ _ _ _ G]at H;exact absurd H ((su.free y Z).resolve_left G).2
 ·have H:=cZ u.frL t.frL ρ0 y G su.len;rw [<-e,bz _ _ _ _ h1]at H;exact absurd H ((su.free z J).resolve_left h1).2
 ·rw [bz _ _ _ _ h1,bz _ _ _ _ G]at e;have k1:=((su.free z J).resolve_left h1).1;have k2:=((su.free y Z).resolve_left G).1;have :=Ot UInt8.toNat e;rw [de k1,de k2]at this;unfold σ0 at this;omega
def SU.MZ (su:SU t u):gD (LH u.frL t.frL) t.ths u.ths:=by
 have key:∀{ps:List P} {us:List U},gD (λp q=>AE UInt8.toNat p (λz=>(asg u.frL t.frL ρ0 z).toNat) q) ps us->(∀p∈ps,p∈t.ths)->(∀q∈us,q∈u.ths)->gD (LH u.frL t.frL) ps us:=by
  intro ps us h
  induction h with
  | nil=>intro _ _;exact .nil
  | cons h _ H=>
   intro h1 G;have ha:=su.al _ (h1 _ (Oa ..));refine .cons ⟨h,T.Al.wf ha,T.Al.eb 0 ha,λz J=>su.free z ⟨_,G _ (Oa ..),J⟩⟩ (H (λp Z=>h1 p (NJ _ Z)) λq hq=>G q (NJ _ hq))
 exact key su.two (λ _ h=>h) λ _ h=>h
def bT {X:Type}{l m:List X}(h:l.Perm m)(g:X->Nat):(l.map g).sum=(m.map g).sum:=iJ (h.map g)
def count_flatMap {X:Type}(g:X->List Nat)(x:Nat):∀l:List X,(l.flatMap g).count x=(l.map λy=>(g y).count x).sum
 | []=>rfl
 | y::l=>by simp only [Ou,Oo,N4,OE,count_flatMap g x l]
def nE.Im (ok:nE t):t.frL.length+ke t.ths=t.ow/\t.rd=(parL t.ths).rd/\(t.ths≠[]->t.frL.length+qz t.ths+t.ths.length<=t.size+1)/\t.frL.length+3* t.frL.length+t.ths.length<=400/\en t.ths<=400/\t.ow<=8:=by
 have hs:=ok.nr.shape;obtain⟨h1,Z,h3,h4⟩:=rB (parL t.ths) t.frL;obtain⟨k1,k2,k3,k4,_⟩:=lB t.ths;rw [<-hs]at h1 Z h3 h4;have hlen:=ok.len;rw [aP,h4]at hlen;have β:=ok.size;have G:∀l:List P,en l<=(parL l).aK/\l.length<=(parL l).aK:=λl=>by
  have:∀l:List P,en l+3* l.length<=(parL l).aK+3:=by
   intro l
   induction l with
   | nil=>simp [en,parL,T.aK]
   | cons p l ih=>
    cases l with
    | nil=>simp [en,parL]
    | cons q l=>
     simp only [parL,T.aK,en,N4,OE,Nv]at ih|-;omega
  have h1:∀p:P,1<=p.aK:=λp=>by cases p<;>simp only [T.aK]<;>omega
  cases l with
  | nil=>simp [en]
  | cons p l=>
   have k1:=this (p::l);have k2:=h1 p;have k3:1<=en (p::l):=by simp only [en,N4,OE];omega
   have k4:1<=(p::l).length:=by simp
   omega
 have H:t.ow<=8:=by
  have su:=ok.su;have :=(LW su.nu.uq su.nr).1;have h8:=ok.all;have h9:=(ky su.ae).1;omega
 refine⟨by rw [Z,k1],h1,λJ=>by have :=k2 J;omega,?_,?_,H⟩
 ·have :=(G t.ths).2;omega
 ·have :=(G t.ths).1;omega
def SU.cnt (su:SU t u)(x:Nat):u.frL.count x+(u.ths.map λy=>(BV y).count x).sum<=1:=by
 have h1:=P5.1 su.nd x;rw [Oo,count_flatMap]at h1;exact h1
def iL {A:Type}:∀p:T A,p.aK<=5* p.size:=by intro p;induction p<;>simp only [aK,size]<;>omega
def nE.th (ok:nE t){x:P}(G:x∈t.ths):t.frL.length+x.rd+x.ow<=59:=by
 obtain⟨_,_,H,_⟩:=ok.Im;have H:=H (λe=>by rw [e]at G;cases G);have J:=ok.size;have :=jz x;have h1:x.size<=qz t.ths:=yK (Oe.2 ⟨_,G,rfl⟩);have :=List.length_pos_of_mem G;omega
def one_den (ok:nE t)(su:SU t u){i:Nat}(hi:i< t.ths.length)(β:i< u.ths.length){o:Off UInt8}{o':Off Nat}{p:P}{J:U}(ho:o∈offs t.ths[i])(η:o'∈offs u.ths[i])(hp:p.rd<=o.tm.rd/\p.ow<=o.tm.ow/\p.size<=o.tm.size)(al:p.Al λc=>lt c=true)
  (θ:AE UInt8.toNat p (λz=>(asg u.frL t.frL ρ0 z).toNat) J) (ι:∀z,J.Fr z->∃q∈u.ths,q.Fr z) (κ:(BV J).Sublist (BV o'.tm)) (μ:u.ths[i].smp=true->J.smp=true):
  hU 0 (resL t.frL (parL (wo t.ths i i++[p]))) σ0 (resL u.frL (parL (wo u.ths i i++[J])))/\(resL u.frL (parL (wo u.ths i i++[J]))).smp=true:=by
 have γ:=NO hi;have δ:=NO β;obtain⟨sP,_⟩:=bM (su.smpP _ γ) _ ho;have bU:=κ.trans (il _ η);have G:=xr t.ths i hi;have Z:=xr u.ths i β;obtain⟨n1,n2,n3,n4,n5,n6⟩:=ok.Im;have ξ:=ok.size;obtain⟨k1,k2,k3,k4,k5⟩:=lB (wo t.ths i i++[p]);have ε:=G.length_eq;have so:=bT G T.ow;have ss:=bT G T.size;have st:=bT G T.aK;simp only [N4,OE,Nv]at so ss st ε;have s1:=sP.ow;have s2:=sP.size;have s3:=sP.rd;have ο:=iL p;have ν:t.ths≠[]:=λe=>by rw [e]at hi;cases hi
 have n3:=n3 ν;have ς:=ok.th γ;simp only [ke,qz,en,zA,Oj,PN,N4,PE,OE,List.sum_nil,NB,Nv,NR]at*;refine⟨GJ su.len su.fn su.fl (λx H=>su.ge x (Ob _ H)) (us:=wo u.ths i i++[J]) ?_ ?_ ?_ (λx H=>?_) ?_ ?_ ?_,?_⟩
 ·exact(su.MZ.wo i i).app (.cons ⟨θ,T.Al.wf al,T.Al.eb 0 al,λz hz=>su.free z (ι z hz)⟩ .nil)
 ·rw [P5];intro x;have h1:u.frL.count x+(u.ths.map λy=>(BV y).count x).sum<=1:=su.cnt x;have h2:(BV J).count x<=(BV u.ths[i]).count x:=bU.count_le x;have h3:(u.ths.map λy=>(BV y).count x).sum=(BV u.ths[i]).count x+((wo u.ths i i).map λy=>(BV y).count x).sum:=by
   have :=bT Z λy=>(BV y).count x
   simpa only [N4,OE]using this
  have h4:(u.frL++(wo u.ths i i++[J]).flatMap BV).count x=u.frL.count x+(((wo u.ths i i).map λy=>(BV y).count x).sum+(BV J).count x):=by
   rw [Oo,count_flatMap];simp
  have:u.frL.count x+(((wo u.ths i i).map λy=>(BV y).count x).sum+(BV J).count x)<=1:=by omega
  exact OC (Nat.le_of_eq h4) this
 ·intro x H;refine su.ge x (N1 _ ?_);obtain⟨q,hq,ζ⟩:=OF.1 H;rcases NI.1 hq with hq | hq
  ·exact OF.2 ⟨q,eX hq,ζ⟩
  ·rw [NT]at hq;subst hq;exact OF.2 ⟨_,δ,bU.subset ζ⟩
 ·rcases NI.1 H with H | H
  ·exact ok.th (eX H)
  ·rw [NT]at H;subst H;omega
 ·omega
 ·omega
 ·omega
 ·rw [AV];refine AS λx H=>?_
  rcases NI.1 H with H | H
  ·exact su.smp x (eX H)
  ·rw [NT]at H;subst H;exact μ (su.smp _ δ)
def Mm (ok:nE t)(su:SU t u){i:Nat}(hi:i< t.ths.length)(G:i< u.ths.length){p:P}{J:U}(ho:Off.tau p∈offs t.ths[i])(H:Off.tau J∈offs u.ths[i])(Z:AH UInt8.toNat (λz=>(asg u.frL t.frL ρ0 z).toNat) (.tau p) (.tau J)):
  hU 0 (resL t.frL (parL (wo t.ths i i++[p]))) σ0 (resL u.frL (parL (wo u.ths i i++[J])))/\(resL u.frL (parL (wo u.ths i i++[J]))).smp=true:=by
 obtain⟨sP,_⟩:=bM (su.smpP _ (NO hi)) _ ho;obtain⟨sU,_⟩:=bM (su.smp _ (NO G)) _ H;exact one_den ok su hi G ho H ⟨ND _,ND _,by simp only [Off.tm,size];omega⟩ (sP.al _ (su.al _ (NO hi))) Z (λz hz=>⟨_,NO G,sU.fr z hz⟩) (Ov _) sU.smp
def C4 (ok:nE t)(su:SU t u){i:Nat}(hi:i< t.ths.length)(G:i< u.ths.length){a b:UInt8}{c d:Nat}{p:P}{J:U}(ho:Off.snd a b p∈offs t.ths[i])(H:Off.snd c d J∈offs u.ths[i])(Z:AH UInt8.toNat (λz=>(asg u.frL t.frL ρ0 z).toNat) (.snd a b p) (.snd c d J)):
  hU 0 (resL t.frL (parL (wo t.ths i i++[p]))) σ0 (resL u.frL (parL (wo u.ths i i++[J])))/\(resL u.frL (parL (wo u.ths i i++[J]))).smp=true:=by
 obtain⟨sP,_⟩:=bM (su.smpP _ (NO hi)) _ ho;obtain⟨sU,_⟩:=bM (su.smp _ (NO G)) _ H;exact one_den ok su hi G ho H ⟨ND _,ND _,by simp only [Off.tm,size];omega⟩ (sP.al _ (su.al _ (NO hi))).2.2 Z.2.2 (λz hz=>⟨_,NO G,sU.fr z (.inr (.inr hz))⟩) (Ov _) sU.smp
end
section
variable {t:P} {u:U}
def SU.xp (su:SU t u){k:Nat}(hk:k< u.ths.length){r:U}(J:Sub r u.ths[k])(hb:(BV r).Sublist (BV u.ths[k])):Uq r:=by
 have hm:=NO hk;have G:(BV u.ths[k]).Sublist (u.ths.flatMap BV):=by
  rw [List.flatMap_def];exact List.sublist_flatten_of_mem (Pd hm)
 have H:=(Oc.1 su.nd)
 refine⟨H.2.1.sublist (hb.trans G),λx Z hf=>?_⟩;have h1:=G.subset (hb.subset Z);have β:=su.ge x (N1 _ h1);rcases su.free x ⟨_,hm,J.fr x hf⟩with h | h
 ·exact H.2.2 x h x h1 rfl
 ·omega
def tu {p q:P}(h:p.shp=q.shp):p.rd=q.rd/\p.ow=q.ow/\p.aK=q.aK:=by
 have key:∀p:P,p.shp.rd=p.rd/\p.shp.ow=p.ow:=λp=>by
  unfold T.shp
  induction p<;>simp_all [T.map,T.rd,T.ow]
 refine⟨by rw [<-(key p).1,<-(key q).1,h],by rw [<-(key p).2,<-(key q).2,h],gI h⟩
def L8 {A:Type}(l:List (T A))(i k:Nat)(p q:T A)(s:Bool)(x:T A):List (T A):=wo l i k++[p,q]++if s then [x]else []
end
def xt:∀u:U,u.ths.length<=u.size:=by
 intro u
 induction u with
 | par p q _ G=>simp only [T.ths,Nv,T.size];omega
 | res x p G=>simp only [T.ths,T.size];omega
 | _=>simp [T.ths,T.size]
def Ff (N:Nat)(q:U)(x b:Nat):Nat->Nat:=λz=>if z=x then b else if z∈BV q then z+N+1 else z
def Hg (N:Nat){q:U}{x:Nat}(b:Nat)(H:x∉BV q):EZ N q x b (Ff N q x b):=by
 refine⟨N' rfl,λz h1 J=>?_,λz G=>?_,λz G y Z e=>?_⟩
 ·simp only [Ff,NS h1,NS J]
 ·have h1:z≠x:=λe=>H (e▸G)
  simp only [Ff,NS h1,N' G];omega
 ·have h1:z≠x:=λe=>H (e▸G)
  have J:y≠x:=λe=>H (e▸Z)
  simp only [Ff,NS h1,N' G,NS J,N' Z]at e;omega
def NN (u:U):Nat:=(BV u).sum+26
def EF (u:U)(i:Nat)(p:U):U:=resL u.frL (parL (wo u.ths i i++[p]))
def Ng (u:U)(i k:Nat)(p q:U)(s:Bool):U:=resL u.frL (parL (L8 u.ths i k p q s (u.ths.getD k .nil)))
def E3 (u:U)(i k c d:Nat)(p:U):Off Nat->List U
 | .rcv e x q s=>if e=c then [Ng u i k p (q.map (Ff (NN u) q x d)) s]else []
 | _=>[]
def E2 (u:U)(i c d:Nat)(p:U)(k:Nat):List U:=if i=k then []else(offs (u.ths.getD k .nil)).flatMap (E3 u i k c d p)
def E1 (u:U)(i:Nat):Off Nat->List U
 | .tau p=>[EF u i p]
 | .snd c d p=>(List.range u.ths.length).flatMap (E2 u i c d p)
 | .rcv .. =>[]
def E0 (u:U)(i:Nat):List U:=(offs (u.ths.getD i .nil)).flatMap (E1 u i)
def JL (u:U):List U:=(List.range u.ths.length).flatMap (E0 u)
noncomputable def outs (l:List U):List Tx:=l.map λv=>(iz v).getD []
noncomputable def Hl (l:List U):Bool:=l.all λv=>(iz v).isSome
noncomputable def Cd (u:U):Option (List Tx):=if Hl (JL u)then some (dd (bk (outs (JL u))))else none
section
variable {t:P} {u:U}
def SU.bound (su:SU t u):∀z,(z∈u.frL\/z∈u.ths.flatMap BV\/∃q∈u.ths,q.Fr z)->z<=NN u:=by
 have H:=su.nr.shape;have G:BV u=u.frL++u.ths.flatMap BV:=by
  have:BV u=BV (resL u.frL (parL u.ths)):=by rw [<-H]
  rw [this,dP,dT]
 have key:∀z∈BV u,z<=NN u:=λz J=>by have :=yK J;unfold NN;omega
 intro z J;rcases J with h | h | h
 ·exact key z (by rw [G];exact Ob _ h)
 ·exact key z (by rw [G];exact N1 _ h)
 ·rcases su.free z h with h | h
  ·exact key z (by rw [G];exact Ob _ h)
  ·unfold NN;omega
def dW {l:List U}{k:Nat}(h:k< l.length):l.getD k .nil=l[k]:=by simp [List.getD,h]
end
def FM:∀l:List U,(tp l).bvs=l.flatMap λs=>(td s).1++(td s).2.bvs
 | []=>rfl
 | u::l=>by simp only [tp,Lv.bvs,Ou,FM l,Oi]
def Ln:∀u:U,BV u=u.l5.flatMap BV:=by
 intro u
 induction u with
 | sum p q H G=>simp only [BV,T.l5,Ou];rw [<-G]
 | _=>simp [T.l5]
def yW:∀(n:Nat) {u:U},u.size<=n->Uq u->u.Nr->(td u).1++(td u).2.bvs=BV u
 | 0,u,h,_,_=>by cases u<;>simp [T.size]at h
 | n+1,u,h,G,nr=>by
  have H:=λ{p:U} (hp:p.size<=n) (G:Uq p) (nr:p.Nr)=>yW n hp G nr
  have e:=eF G nr;cases u with
  | nil=>rw [e];rfl
  | snd a b p=>rw [e];have :=H (by simp only [T.size]at h;omega) G.snd nr;simpa [frL,T.ths,tl,Lv.bvs,BV]using this
  | mat a b p=>rw [e];have :=H (by simp only [T.size]at h;omega) G.mat nr.2;simpa [frL,T.ths,tl,Lv.bvs,BV]using this
  | tau p=>rw [e];have :=H (by simp only [T.size]at h;omega) G.tau nr;simpa [frL,T.ths,tl,Lv.bvs,BV]using this
  | rep p=>rw [e];have :=H (by simp only [T.size]at h;omega) G.rep nr.2;simpa [frL,T.ths,tl,Lv.bvs,BV]using this
  | rcv a x p=>rw [e];have :=H (by simp only [T.size]at h;omega) G.rcv nr;simp only [frL,T.ths,tl,Lv.bvs,BV,PG,N9,Om,this];rfl
  | res x p=>
   have :=H (by simp only [T.size]at h;omega) G.res nr.2;rw [eF G.res nr.2]at this;rw [e];simp only [frL,T.ths,BV,Oz];rw [<-this]
  | par p q=>
   simp only [T.size]at h;have h1:=H (p:=p) (by omega) G.fX nr.2.1;have Z:=H (p:=q) (by omega) G.fD nr.2.2;rw [eF G.fX nr.2.1,fQ nr.1.1,jH nr.1.1]at h1;have h0:q.frL=[]:=by
    rcases nr.1.2 with h | h
    ·exact fQ h
    ·cases q<;>first | rfl | (cases h;done)
   rw [eF G.fD nr.2.2,h0]at Z;simp only [Om]at h1 Z;rw [e];simp only [frL,T.ths,BV,Om];rw [show p::q.ths=[p]++q.ths from rfl,dX,Lv.bX,h1,Z]
  | sum p q=>
   simp only [T.size]at h;rw [e];simp only [frL,T.ths,tl,Lv.bvs,Om,N9];rw [dR G.dO nr.2.1 nr.1.1,dR G.dG nr.2.2 nr.1.2.1,gb nr.1.2.2];rw [FM,Ln (.sum p q)];have key:∀s∈[p]++q.l5,(td s).1++(td s).2.bvs=BV s:=by
    intro s J;rcases NI.1 J with J | J
    ·cases NT.1 J;exact H (by omega) G.dO nr.2.1
    ·have:∀q:U,Uq q->q.Nr->∀s∈q.l5,s.size<=q.size/\Uq s/\s.Nr:=by
      intro q
      induction q with
      | sum p q _ H=>
       intro G nr s J;rcases NV.1 J with rfl | J
       ·exact⟨by simp only [T.size];omega,G.dO,nr.2.1⟩
       ·obtain⟨k1,k2,k3⟩:=H G.dG nr.2.2 s J;exact⟨by simp only [T.size];omega,k2,k3⟩
      | _=>intro G nr s J;cases NT.1 J;exact⟨ND _,G,nr⟩
     obtain⟨k1,k2,k3⟩:=this q G.dG nr.2.2 s J;exact H (by omega) k2 k3
   have fm:∀l:List U,(∀s∈l,(td s).1++(td s).2.bvs=BV s)->(l.flatMap λs=>(td s).1++(td s).2.bvs)=l.flatMap BV:=by
    intro l
    induction l with
    | nil=>intro _;rfl
    | cons s l H=>intro h;rw [Ou,Ou,h s (by simp),H λx hx=>h x (by simp [hx])]
   exact fm _ key
def oy:∀{K:List U},(∀t∈K,t.th=true/\Uq t/\t.Nr)->joinL (K.map td)=([],tl K)
 | [],_=>rfl
 | t::K,h=>by
  obtain⟨h1,G,H⟩:=h t (by simp);simp only [N4,joinL];rw [oy (K:=K) λx J=>h x (by simp [J]),eF G H,fQ h1,jH h1,show t::K=[t]++K from rfl,dX];rfl
def vE (O:List Nat){K:List U}(G:∀t∈K,t.th=true/\Uq t/\t.Nr){zs:List ((List Nat×Lv)×U)}(Z:∀z∈zs,Pc z.1 z.2):Lv.tidy (O++(joinL (zs.map (·.1))).1) ((tl K).app (joinL (zs.map (·.1))).2)=td (resL O (parL (K++zs.map (·.2)))):=by
 have h:=A6 (own:=O) (Pc.join (zs:=K.map (λt=>(td t,t))++zs) λz H=>by
  rcases NI.1 H with h | h
  ·obtain⟨t,J,rfl⟩:=Oe.1 h;exact Pc.nr (G t J).2.1 (G t J).2.2
  ·exact Z z h)
 rw [Oj,Oj,OJ,OJ,lC]at h;have e1:K.map ((λz:(List Nat×Lv)×U=>z.1)∘λt=>(td t,t))=K.map td:=rfl;have e2:K.map ((λz:(List Nat×Lv)×U=>z.2)∘λt=>(td t,t))=K:=List.map_id K;rw [e1,e2,oy G]at h;exact h
def FB:∀{l:List U},(∀t∈l,t.th=true)->(tl l).bc=l.map λt=>tl [t]
 | [],_=>rfl
 | t::l,h=>by
  have G:=h t (by simp);have H:=FB (l:=l) λx J=>h x (by simp [J])
  cases t<;>first | (cases G;done) | simp only [tl,Lv.bc,H,N4]
def xx {X Y:Type}(f:X->Y)(P:Nat->Bool):∀(l:List X) (k:Nat),kQ P (l.map f) k=(kQ P l k).map f
 | [],k=>by rw [PE,gk,gk];rfl
 | x::l,k=>by
  rw [N4,bO,bO,xx f P l (k+1)];split<;>simp
def Dv:∀l:List U,elsL (l.map λt=>tl [t])=tl l
 | []=>rfl
 | t::l=>by rw [N4,elsL,Dv l,<-dX];rfl
def GP {l:List U}(h:∀t∈l,t.th=true)(P:Nat->Bool):elsL (kQ P (tl l).bc 0)=tl (kQ P l 0):=by
 rw [FB h,xx,Dv]
end
section
open T Classical
def St (s:Tx):Prop:=∃t,nE t/\t.text=s
def nE.uniq {t G:P}(a:nE t)(b:nE G)(h:t.text=G.text):t=G:=dY a.al.wf b.al.wf h
noncomputable def M8 (s:Tx):Option (List Tx):=if h:St s then Cd (num h.choose e0 0).1 else none
def FE {u:U}(h:Nu u)(G:u.smp=true){s:Tx}(e:iz u=some s):St s:=by
 obtain⟨t,v,n⟩:=Hn h e;exact⟨t,n.Nh h G,n.text⟩
def Mj (s:Tx):Prop:=∃t:P,t.Al (λc=>lt c=true)/\t.text=s/\da s/\t.smp=true
noncomputable def fS (s:Tx):Option Tx:=if h:Mj s then iz (num h.choose e0 0).1 else none
def vX {t:P}(al:t.Al λc=>lt c=true)(g:da t.text)(G:t.smp=true):fS t.text=iz (num t e0 0).1:=by
 have h:Mj t.text:=⟨t,al,rfl,g,G⟩
 unfold fS;rw [dif_pos h,dY h.choose_spec.1.wf al.wf h.choose_spec.2.1]
def ir {s:Tx}(h:¬Mj s):fS s=none:=by unfold fS;rw [dif_neg h]
def vQ {s n:Tx}(h:fS s=some n):St n:=by
 unfold fS at h;split at h
 ·rename_i G;exact FE (j8 G.choose_spec.1) ((xk (ki G.choose_spec.1)).symm.trans G.choose_spec.2.2.2) h
 ·cases h
def nE.good {t:P}(ok:nE t):da t.text:=⟨ok.len,t,ok.al,rfl,ok.size⟩
def Off.over {A:Type}(k:UInt8):Off A->Option A
 | .tau _=>none
 | .snd a _ _=>if k=33 then some a else none
 | .rcv a _ _ _=>if k=63 then some a else none
end
attribute [go_sem] Tryz.f41
def qW (G:aH)(w:World)(R:aH->Bool->QU)(h:vc az (aZ [] [] []) (af Tryz.f41) (ai 0 [.s G]) w (fin az [.tmp 2 .s,.tmp 3 .b] R)):
  QV 41 #[(.string (ay G))] w (ax [.s,.b] R):=
 bj Tryz.func41 (by kernel_rfl) h
attribute [go_sem] Tryz.f107
def rm (G:aH)(w:World)(R:aH->aH->QU)(h:vc az (aZ [(2,[(0,.s),(4,.s)])] [] []) (af Tryz.f107) (ai 0 [.s G]) w (fin az [.tmp 2 .s,.tmp 3 .s] R)):
  QV 107 #[(.string (ay G))] w (ax [.s,.s] R):=
 bj Tryz.func107 (by kernel_rfl) h
attribute [go_sem] Tryz.f108
def oM (G:aH)(w:World)(R:Value->QU)(h:vc az (aZ [(5,[(0,.s),(3,.v)])] [] []) (af Tryz.f108) (ai 0 [.s G]) w (fin az [.tmp 2 .v] R)):
  QV 108 #[(.string (ay G))] w (ax [.v] R):=
 bj Tryz.func108 (by kernel_rfl) h
attribute [go_sem] Tryz.f109
def qh (t1:aH)(w:World)(R:Value->QU)(h:vc az (aZ [(13,[(47,.i)])] [] [(4,false,.lt 0 (.lt 2 (.lt 3 (.lt 4 (.lt 5 (.lt 6 (.lt 7 (.one .h 1 (.lt 8 (.one .h 9 (.lt 10 .done))))))))))),(9,false,.lt 0 (.lt 1 (.lt 2 (.lt 4 (.lt 5 (.lt 6 (.one .h 3 (.one .h 7 (.one .h 8 (.lt 9 .done))))))))))]) (af Tryz.f109) (ai 0 [.s t1]) w (fin az [.tmp 2 .v] R)):
  QV 109 #[(.string (ay t1))] w (ax [.v] R):=
 bj Tryz.func109 (by kernel_rfl) h
attribute [go_sem] Tryz.f111
def nR (t1:Value)(i2:Int)(G:Int)(w:World)(R:Value->QU)(h:vc az (aZ [(3,[(7,.v),(12,.i)])] [] []) (af Tryz.f111) (ai 0 [.v t1,.i i2,.i G]) w (fin az [.tmp 6 .v] R)):
  QV 111 #[t1,(.int .i64 i2),(.int .i64 G)] w (ax [.v] R):=
 bj Tryz.func111 (by kernel_rfl) h
attribute [go_sem] Tryz.f110
attribute [go_sem] Tryz.f52
section
open T Classical
def HJ (t:P):t.ev T.gd1=t.parts.all λq=>(!decide (t.kind=43)||q.gp)&&q.ev T.gd1:=by
 rw [sD];cases t<;>simp [T.gd1,T.parts,T.kind]
 case sum p q=>
  cases p.gp<;>cases q.gp<;>cases p.ev T.gd1<;>cases q.ev T.gd1<;>rfl
def FV (t:P):t.ev T.rp1=t.parts.all λq=>(!decide (t.kind=42)||q.isR)&&q.ev T.rp1:=by
 rw [sD];cases t<;>simp [T.rp1,T.parts,T.kind]
def CP (q:P):decide (q.kind∈([33,63,126,43,48]:Tx))=q.gp:=by cases q<;>simp [T.kind,T.gp]
def As (q:P):decide (q.kind=63)=q.isR:=by cases q<;>rfl
def Af {X:Type}{l:List X}{f:X->Bool}{k:Nat}(h:k< l.length):(l.take (k+1)).all f=((l.take k).all f&&f l[k]):=by
 rw [NG h,P4];simp
def all_false {X:Type}{l:List X}{f:X->Bool}{k:Nat}(h:k< l.length)(G:f l[k]=false):l.all f=false:=by
 rw [List.all_eq_false];exact⟨_,NO h,by rw [G];simp⟩
def AA:∀(n:Nat) {t:P},t.size<=n->Ok t->∀{w:World} {R:Bool->QU},(∀w',Ex w w'->R (t.ev T.gd1) w')->QV 160 #[.string (ay t.text)] w (ax [.b] R):=by
 intro n
 induction n with
 | zero=>intro t h;have :=aT t;omega
 | succ n ih=>
  intro t hn ok w R h;refine oN _ w R ?_;dsimp only [go_sem];dsimp only [go_sem,UInt8.reduceOfNat];refine cG ok λv w3 γ hs=>?_
  obtain⟨a,cap,hv⟩:=hs.slice;rw [NH]at hv;rw [HJ]at h;refine⟨a,t.parts.length,cap,hv,λx w'=>Ex w3 w'/\∃k:Nat,x=k/\k<=t.parts.length/\(t.parts.take k).all (λq=>(!decide (t.kind=43)||q.gp)&&q.ev T.gd1)=true,λx _=>((t.parts.length:Int) - x).toNat,⟨Ex.refl _,0,rfl,by omega,rfl⟩,λx w4 hI=>?_⟩;obtain⟨H,k,rfl,hk,J⟩:=hI;refine⟨λhc=>?_,λhc=>?_⟩
  ·have G:k< t.parts.length:=by simpa using hc
   have β:t.parts[k]∈t.parts:=NO G;have δ:=ok.parts _ β;have ε:=dJ β;refine hs.get H (i:=k) (by omega) (x:=(t.parts[k]).text) (by simp [G]) ?_;have key:∀{w':World},Ex w3 w'->(!decide (t.kind=43)||t.parts[k].gp)=true->∀Z,Ex w' Z->((!t.parts[k].ev T.gd1)=true->R false Z)/\((!t.parts[k].ev T.gd1)=false->cR ((k:Int)+1)/\(Ex w3 Z/\∃j:Nat,(k:Int)+1=j/\j<=t.parts.length/\(t.parts.take j).all (λq=>(!decide (t.kind=43)||q.gp)&&q.ev T.gd1)=true)/\((t.parts.length:Int) - ((k:Int)+1)).toNat< ((t.parts.length:Int) - k).toNat):=λ{w'} x1 hg Z x2=>by
    have hx:=Ex.trans x1 x2;refine⟨λhq=>?_,λhq=>⟨by unfold cR;have :=cW t;omega,⟨hx,k+1,by omega,G,?_⟩,by omega⟩⟩
    ·have :=h Z (Ex.trans γ hx);rw [all_false G (by rw [hg];simpa using hq)]at this;exact this
    ·rw [Af G,J,hg];simpa using hq
   refine aM ok ⟨λhc=>aM δ (fg (by simp) ⟨λhq=>?_,λhq=>?_⟩),λhc=>?_⟩
   ·rw [CP]at hq;have hg:t.parts[k].gp=true:=by simpa using hq
    exact ih (by omega) δ λZ x5=>key H (by rw [hg];simp) Z x5
   ·rw [CP]at hq;have hg:t.parts[k].gp=false:=by simpa using hq
    have :=h w4 (Ex.trans γ H);rw [all_false G (by rw [hc,hg];rfl)]at this;exact this
   ·exact ih (by omega) δ λZ x5=>key H (by rw [hc];rfl) Z x5
  ·have G:k=t.parts.length:=by simp at hc;omega
   subst G;rw [Od]at J;have :=h w4 (Ex.trans γ H);rw [J]at this;exact this
def Bg:∀(n:Nat) {t:P},t.size<=n->Ok t->∀{w:World} {R:Bool->QU},(∀w',Ex w w'->R (t.ev T.rp1) w')->QV 161 #[.string (ay t.text)] w (ax [.b] R):=by
 intro n
 induction n with
 | zero=>intro t h;have :=aT t;omega
 | succ n ih=>
  intro t hn ok w R h;refine qi _ w R ?_;dsimp only [go_sem];dsimp only [go_sem,UInt8.reduceOfNat];refine cG ok λv w3 γ hs=>?_
  obtain⟨a,cap,hv⟩:=hs.slice;rw [NH]at hv;rw [FV]at h;refine⟨a,t.parts.length,cap,hv,λx w'=>Ex w3 w'/\∃k:Nat,x=k/\k<=t.parts.length/\(t.parts.take k).all (λq=>(!decide (t.kind=42)||q.isR)&&q.ev T.rp1)=true,λx _=>((t.parts.length:Int) - x).toNat,⟨Ex.refl _,0,rfl,by omega,rfl⟩,λx w4 hI=>?_⟩;obtain⟨H,k,rfl,hk,J⟩:=hI;refine⟨λhc=>?_,λhc=>?_⟩
  ·have G:k< t.parts.length:=by simpa using hc
   have β:t.parts[k]∈t.parts:=NO G;have δ:=ok.parts _ β;have ε:=dJ β;refine hs.get H (i:=k) (by omega) (x:=(t.parts[k]).text) (by simp [G]) ?_;have key:∀{w':World},Ex w3 w'->(!decide (t.kind=42)||t.parts[k].isR)=true->∀Z,Ex w' Z->((!t.parts[k].ev T.rp1)=true->R false Z)/\((!t.parts[k].ev T.rp1)=false->cR ((k:Int)+1)/\(Ex w3 Z/\∃j:Nat,(k:Int)+1=j/\j<=t.parts.length/\(t.parts.take j).all (λq=>(!decide (t.kind=42)||q.isR)&&q.ev T.rp1)=true)/\((t.parts.length:Int) - ((k:Int)+1)).toNat< ((t.parts.length:Int) - k).toNat):=λ{w'} x1 hg Z x2=>by
    have hx:=Ex.trans x1 x2;refine⟨λhq=>?_,λhq=>⟨by unfold cR;have :=cW t;omega,⟨hx,k+1,by omega,G,?_⟩,by omega⟩⟩
    ·have :=h Z (Ex.trans γ hx);rw [all_false G (by rw [hg];simpa using hq)]at this;exact this
    ·rw [Af G,J,hg];simpa using hq
   refine aM ok ⟨λhc=>aM δ ⟨λhq=>?_,λhq=>?_⟩,λhc=>?_⟩
   ·rw [As]at hq;have hg:t.parts[k].isR=true:=by simpa using hq
    exact ih (by omega) δ λZ x5=>key H (by rw [hg];simp) Z x5
   ·rw [As]at hq;have hg:t.parts[k].isR=false:=by simpa using hq
    have :=h w4 (Ex.trans γ H);rw [all_false G (by rw [hc,hg];rfl)]at this;exact this
   ·exact ih (by omega) δ λZ x5=>key H (by rw [hc];rfl) Z x5
  ·have G:k=t.parts.length:=by simp at hc;omega
   subst G;rw [Od]at J;have :=h w4 (Ex.trans γ H);rw [J]at this;exact this
def Bu {t:P}(ok:Ok t){w:World}{R:Bool->QU}(h:∀w',Ex w w'->R t.smp w'):QV 89 #[.string (ay t.text)] w (ax [.b] R):=by
 refine pt _ w R ?_;dsimp only [go_sem];refine AA _ (ND _) ok λw1 H=>⟨λG=>?_,λG=>?_⟩
 ·refine Bg _ (ND _) ok λJ Z=>?_
  have :=h J (Ex.trans H Z);rw [dQ,G,Pt]at this;exact this
 ·have :=h w1 H;rw [dQ,G,Bool.false_and]at this;exact this
def vV {p:Tx}:(∃t:P,Good t/\t.text=p)↔∃t:P,t.Al (λc=>lt c=true)/\t.text=p/\da p:=by
 constructor
 ·rintro⟨t,h,rfl⟩
  exact⟨t,iV.1 h.lw,rfl,lg.1 ⟨t,h,rfl⟩⟩
 ·rintro⟨t,h1,rfl,G⟩
  exact lg.2 G
def GD {t:P}(h:t.Al λc=>lt c=true)(g:da t.text):Ok t:=⟨h.wf,by have :=g.1;omega⟩
def IH {t:P}(h:t.Al λc=>lt c=true)(g:da t.text):t.size<=60:=by
 obtain⟨_,J,h1,G,H⟩:=g;have :=dY h1.wf h.wf G;subst this;exact H
def Kf {p:Tx}{w:World}{R:Bool->QU}(h:∀b w',Ex w w'->(b=true->∃t:P,t.Al (λc=>lt c=true)/\t.text=p/\da p)->(b=false->¬Mj p)->R b w'):QV 88 #[.string (ay p)] w (ax [.b] R):=
 wh λb w' x hb=>h b w' x (λe=>vV.1 (hb.1 e)) λe ⟨t,h1,G,H,_⟩=>by
  have :=hb.2 (vV.2 ⟨t,h1,G,H⟩);rw [e]at this;cases this
def Ja {t:P}(h:t.Al λc=>lt c=true)(G:t.smp=false):¬Mj t.text:=fun⟨J,h1,H,_,h4⟩=>by
 have :=dY h1.wf h.wf H;subst this;rw [G]at h4;cases h4
def Io {t:P}(h:t.Al λc=>lt c=true)(g:da t.text):hU 0 t σ0 (num t e0 0).1:=by
 have G:=IH h g;have :=jz t;have nu:=j8 h;have :=T.fK t;have d:Den 0 t σ0 (num t e0 0).1:=⟨h.wf,by have :=g.1;omega,⟨h.eb 0,by omega⟩,ki h,λy z _ _ e=>by unfold σ0 at e;omega,nu.uq⟩
 exact⟨d,λz H J=>absurd J (dx (nj (h.free z H))),nu,λ _ _=>rfl,d.lb (by omega)⟩
def D7 {p:Tx}{w:World}{R:aH->Bool->QU}(h:∀w',Ex w w'->(∀s,fS p=some s->R s true w')/\(fS p=none->R [] false w')):QV 41 #[.string (ay p)] w (ax [.s,.b] R):=by
 refine qW _ w R ?_;dsimp only [go_sem];refine Kf λb w1 H J Z=>⟨λhb=>?_,λhb=>?_⟩
 ·have hb:b=true:=by simpa using hb
  obtain⟨t,h1,rfl,h3⟩:=J hb;refine Bu (GD h1 h3) λw2 x2=>⟨λG=>?_,λG=>?_⟩
  ·have G:t.smp=false:=by simpa using G
   exact(h w2 (Ex.trans H x2)).2 (ir (Ja h1 G))
  ·have G:t.smp=true:=by simpa using G
   refine GB (Io h1 h3) λw3 x3=>?_
   have :=h w3 (Ex.trans (Ex.trans H x2) x3);rw [vX h1 h3 G]at this;exact this
 ·have hb:b=false:=by simpa using hb
  exact(h w1 H).2 (ir (Z hb))
def T.E4:P->P
 | .res _ p=>p.E4
 | t=>t
def wu:∀{t:P},Ok t->Ok t.E4/\t.E4.ths=t.ths/\t.E4.frL=[]/\t.E4.text.length<=t.text.length/\(t.Nr->t.E4.Nr)
 | .res x p,ok=>by
  have h:=wu (t:=p) (ok.parts p (by simp [T.parts]));refine⟨h.1,h.2.1,h.2.2.1,?_,λn=>h.2.2.2.2 n.2⟩;have :=h.2.2.2.1;show p.E4.text.length<=(35::x::46::p.text).length;simp only [Nv];omega
 | .nil,ok=>⟨ok,rfl,rfl,ND _,id⟩
 | .snd ..,ok=>⟨ok,rfl,rfl,ND _,id⟩
 | .rcv ..,ok=>⟨ok,rfl,rfl,ND _,id⟩
 | .tau ..,ok=>⟨ok,rfl,rfl,ND _,id⟩
 | .sum ..,ok=>⟨ok,rfl,rfl,ND _,id⟩
 | .par ..,ok=>⟨ok,rfl,rfl,ND _,id⟩
 | .mat ..,ok=>⟨ok,rfl,rfl,ND _,id⟩
 | .rep ..,ok=>⟨ok,rfl,rfl,ND _,id⟩
def HU (t:P):t.frL.length<=t.text.length:=by
 induction t with
 | res x p G=>
  show(x::p.frL).length<=(35::x::46::p.text).length;simp only [Nv];omega
 | _=>simp [T.frL]
def wC {t:P}(ok:Ok t){w:World}{R:aH->aH->QU}(h:R t.frL t.E4.text w):QV 107 #[.string (ay t.text)] w (ax [.s,.s] R):=by
 refine rm _ w R ?_;dsimp only [go_sem];refine⟨λs f w'=>w'=w/\∃q:P,s=q.text/\Ok q/\t.frL=f++q.frL/\t.E4=q.E4,λs _ _=>s.length,⟨rfl,t,rfl,ok,rfl,rfl⟩,λs f w' hI=>?_⟩;obtain⟨rfl,q,rfl,G,H,hb⟩:=hI;have hlen:=HU t;have hl:=ok.len;refine aM G ⟨λJ=>?_,λJ=>?_⟩
 ·cases q<;>simp [T.kind]at J
  rename_i x p;have e:(T.res x p).text=35::x::46::p.text:=rfl;rw [e];have β:f.length+1<=t.frL.length:=by
   have :=Ot List.length H;simp only [T.frL,NB,Nv]at this;omega
  refine⟨⟨by omega,by omega,by simp only [Nv];omega⟩,by simp;omega,⟨by omega,by simp only [Nv];omega⟩,⟨rfl,p,rfl,G.parts p (by simp [T.parts]),?_,hb⟩,?_⟩
  ·rw [H];show f++(x::p.frL)=(f++[x])++p.frL;simp
  ·show p.text.length< (35::x::46::p.text).length;simp only [Nv];omega
 ·have Z:q.frL=[]/\q.E4=q:=by cases q<;>simp [T.kind]at J<;>exact⟨rfl,rfl⟩
  rw [Z.1,N9]at H;rw [<-H];rw [hb,Z.2]at h;exact h
def Ba {t:P}(ok:Ok t)(n:t.Nr){w:World}{R:Value->QU}(h:∀v w',Ex w w'->Own w.heap.size w' v (t.ths.map T.text)->R v w'):QV 108 #[.string (ay t.text)] w (ax [.v] R):=by
 refine oM _ w R ?_;dsimp only [go_sem];dsimp only [go_sem,Nat.reduceAdd];obtain⟨β,ε,ς,hbl,υ⟩:=wu ok;have nb:=υ n;rw [<-ε]at h;refine wC ok ?_;have hl:=β.len;generalize t.E4=q at*;refine aM β ⟨λhc=>?_,λhc=>?_⟩
 ·cases q<;>simp [T.kind]at hc
  exact h _ w (Ex.refl w) (Own.nil _ _)
 ·have hq:q.th=true\/q.isP=true:=by cases q<;>simp [T.kind,T.th,T.isP,T.frL]at hc ς|-
  refine⟨λs out w'=>Ex w w'/\∃(r:P) (l:List P),s=r.text/\Ok r/\r.Nr/\(r.th=true\/r.isP=true)/\q.ths=l++r.ths/\l.length+r.text.length<=q.text.length/\Own w.heap.size w' out (l.map T.text),λs _ _=>s.length,⟨Ex.refl w,q,[],rfl,β,nb,hq,rfl,by simp,Own.nil _ _⟩,λs out w' hI=>?_⟩;obtain⟨x,r,l,rfl,γ,nr,hr,ζ,hl3,ho⟩:=hI;have hpos:1<=r.text.length:=by cases r<;>simp [T.text]
  refine aM γ ⟨λhc=>?_,λhc=>?_⟩
  ·cases r<;>simp [T.kind]at hc
   rename_i a b;refine pN γ λv1 w1 x1 η φ=>?_
   have χ:=Ex.trans x x1;refine η.get (Ex.refl _) (i:=0) (x:=a.text) (by omega) rfl (Q:=λn=>_) λb21 ψ θ G=>?_
   have δ:Ex w1 ψ:=G▸Ex.alloc w1 _;have H:=Ex.trans χ δ;refine Own.push ((ho.ex x1).ex δ) H.size (Strs.one θ G) (by simp only [NH,Nv,NR];omega) λv28 ω b29 ι hg hn=>?_
   have κ:=Ex.below H b29;have μ:Strs ω v1 ((T.par a b).parts.map T.text):=by
    refine(η.ex δ).grown hg λg hg' e=>?_
    have h1:=(ho.block g e).2;have h2:=φ g hg';omega
   refine μ.get (Ex.refl _) (i:=1) (x:=b.text) (by omega) rfl (Q:=λn=>_) ⟨⟨κ,b,l++[a],rfl,γ.parts b (by simp [T.parts]),nr.2.2,nr.1.2,?_,?_,by simpa using ι⟩,?_⟩
   ·rw [ζ];simp [T.ths]
   ·have:(T.par a b).text.length=a.text.length+b.text.length+3:=by simp [T.text];omega
    simp only [NB,Nv,NR];omega
   ·have:(T.par a b).text.length=a.text.length+b.text.length+3:=by simp [T.text];omega
    show b.text.length< (T.par a b).text.length;omega
  ·have hrt:r.th=true:=hr.resolve_right λe=>by cases r<;>simp [T.isP]at e;simp [T.kind]at hc
   intro b35 w36 ν J;have ξ:Ex w' w36:=J▸Ex.alloc w' _;have Z:=Ex.trans x ξ;refine Own.push (ho.ex ξ) Z.size (Strs.one ν J) (by simp only [NH,Nv,NR];omega) λv42 w43 b43 ο hg hn=>h _ w43 (Ex.below Z b43) ?_
   rw [ζ,jH hrt];simpa using ο
def qI {w:World}{v:Value}{l:List Tx}(hs:Strs w v l)(hl:l.length<=1000000000){i j:Nat}{R:Value->QU}(h:∀v' w',Ex w w'->Own w.heap.size w' v' (wo l i j)->R v' w'):
  QV 111 #[v,.int .i64 i,.int .i64 j] w (ax [.v] R):=by
 refine nR v i j w R ?_;dsimp only [go_sem];dsimp only [go_sem,Nat.reduceAdd];obtain⟨a,cap,hv⟩:=hs.slice;refine⟨a,_,cap,hv,λout x w'=>Ex w w'/\∃k:Nat,x=k/\k<=l.length/\Own w.heap.size w' out (wo (l.take k) i j)/\(wo (l.take k) i j).length<=k,λ _ x _=>((l.length:Int) - x).toNat,⟨Ex.refl w,0,rfl,OA _,Own.nil _ _,ND _⟩,λout x w' hI=>?_⟩;obtain⟨x,k,rfl,hk,ho,η⟩:=hI;refine⟨λhc=>?_,λhc=>?_⟩
 ·have G:=oL hc;have hm:=@tN l.length k (by omega);have e:wo (l.take (k+1)) i j=wo (l.take k) i j++if !(k==i)&& !(k==j)then [l[k]]else []:=by
   unfold wo;rw [NG G,List.zipIdx_append,OO,Oj]
   congr 1
   have:(l.take k).length=k:=by rw [Og];omega
   simp only [List.zipIdx_cons,List.zipIdx_nil,N2,this,List.filter_cons,List.filter_nil];split<;>rfl
  have skip:(!(k==i)&& !(k==j))=false->cR ((k:Int)+1)/\(Ex w w'/\∃k':Nat,(k:Int)+1=k'/\k'<=l.length/\Own w.heap.size w' out (wo (l.take k') i j)/\(wo (l.take k') i j).length<=k')/\((l.length:Int) - ((k:Int)+1)).toNat< ((l.length:Int) - k).toNat:=λh=>by
   refine⟨by omega,⟨x,k+1,by omega,G,?_⟩,hm⟩;rw [e,h];simp only [Bool.false_eq_true,QS,N9];exact⟨ho,by omega⟩
  refine hs.get x (i:=k) (x:=l[k]) (by omega) (by simp [G]) (Q:=λn=>_) ⟨λhi=>⟨λZ=>?_,λZ=>?_⟩,λhi=>?_⟩
  ·have hi:k≠i:=by simp at hi;omega
   have Z:k≠j:=by simp at Z;omega
   intro θ ε β H;have γ:Ex w' ε:=H▸Ex.alloc w' _;have J:=Ex.trans x γ;refine Own.push (ho.ex γ) J.size (Strs.one β H) (by simp only [Nv,NR];omega) λv24 ι ζ δ hg hn=>⟨by omega,⟨Ex.below J ζ,k+1,by omega,G,?_⟩,hm⟩
   rw [e];have:(!(k==i)&& !(k==j))=true:=by simp [hi,Z]
   rw [this,N' rfl];exact⟨δ,by simp only [NB,Nv,NR];omega⟩
  ·have Z:k=j:=by simp at Z;omega
   exact skip (by simp [Z])
  ·have hi:k=i:=by simp at hi;omega
   exact skip (by simp [hi])
 ·have:k=l.length:=by simp at hc;omega
  subst this;rw [Od]at ho;exact h _ w' x ho
end
def cc (B:Nat)(w:World)(v:Value)(n:Nat)(xs:List Value):Prop:=w.ownsRow B 134 5 v n xs
def cc.nil (B:Nat)(w:World):cc B w (.slice none 0 0) 0 []:=Qv _ _ _ _
def cc.block {B:Nat}{w:World}{v:Value}{n:Nat}{xs:List Value}(h:cc B w v n xs):∀b,v.ownBlock=some b->B<=b/\b< w.heap.size:=PX h
def cc.kp {B:Nat}{w w':World}{S:Nat->Prop}{v:Value}{n:Nat}{xs:List Value}(h:cc B w v n xs)(k:Kp w w' S)(H:∀g,v.ownBlock=some g->¬S g):cc B w' v n xs:=by
 refine⟨h.1,?_⟩;rcases h.2 with J | ⟨g,cap,cur,rfl,hb,G,rest⟩
 ·exact .inl J
 ·exact .inr ⟨g,cap,cur,rfl,hb,by rw [k.block g (N8.1 G).1 (H g rfl)];exact G,rest⟩
def cc.ex {B:Nat}{w w':World}{v:Value}{n:Nat}{xs:List Value}(h:cc B w v n xs)(x:Ex w w'):cc B w' v n xs:=h.kp (Kp.ah x λ _=>False) λ _ _ h=>h
def cc.mono {B G:Nat}{w:World}{v:Value}{n:Nat}{xs:List Value}(h:cc B w v n xs)(hb:G<=B):cc G w v n xs:=Qh h hb
def cc.zero {w w':World}{B b:Nat}(hB:B<=w.heap.size)(hb:b=w.heap.size)(h:w'=w.alloc (.cells #[] 134)):cc B w' (.slice (some ⟨b,0,none⟩) 0 0) 0 []:=by
 subst hb h;refine⟨rfl,.inr ⟨_,0,#[],rfl,hB,?_,by simp,by unfold maxLen;omega,rfl,rfl⟩⟩;unfold World.alloc;simp
def cc.one {w w':World}{B b:Nat}{cs:List Value}(G:cs.length=5)(hB:B<=w.heap.size)(hb:b=w.heap.size)(h:w'=w.alloc (.cells cs.toArray 134)):cc B w' (.slice (some ⟨b,0,none⟩) 1 1) 1 cs:=by
 subst hb h;refine⟨by rw [G],.inr ⟨_,1,cs.toArray,rfl,hB,?_,by simp,by unfold maxLen;omega,by simp [G],Qg (by simp [G])⟩⟩;unfold World.alloc;simp
def cc.cell {B:Nat}{w:World}{v:Value}{n:Nat}{xs:List Value}(h:cc B w v n xs):(v= .slice none 0 0/\n=0/\xs=[])\/∃g cap,v= .slice (some ⟨g,0,none⟩) n cap/\g< w.heap.size/\∀j u,xs[j]?=some u->w.cell? ⟨g,0+j,none⟩=some u:=by
 have G:=h.1;rcases h.2 with⟨Z,H⟩ | ⟨g,cap,cur,rfl,hb,J,h1,h2,h3,h4⟩
 ·left;refine⟨Z,H,N3 (by rw [G,H])⟩
 ·refine .inr ⟨g,cap,rfl,(N8.1 J).1,λj u hu=>?_⟩;have hj:j< xs.length:=(On.1 hu).1;unfold World.cell?;simp only [J,N2];rw [<-h4,Ox (by rw [<-G];exact hj),Oy]at hu;exact hu
def cc.src {B:Nat}{w:World}{v:Value}{n:Nat}{xs:List Value}(h:cc B w v n xs)(ha:xs.all oneV=true):dw w v n 5 xs:=by
 refine⟨h.1,ha,?_⟩;rcases h.cell with⟨rfl,rfl,_⟩ | ⟨g,cap,rfl,_,G⟩
 ·exact .inl ⟨rfl,rfl⟩
 ·exact .inr ⟨g,0,cap,rfl,G⟩
def cc.push {B:Nat}{w:World}{v x:Value}{n m:Nat}{xs H:List Value}(h:cc B w v n xs)(hB:B<=w.heap.size)(J:dw w x m 5 H)(hl:n+m<=1099511627776){K:Value->QU}
  (Z:∀v' w',cc B w' v' (n+m) (xs++H)->w.grownBy w' v.ownBlock->(∀b,v'.ownBlock=some b->v.ownBlock=some b\/w.heap.size<=b)->K v' w'):
  ∃(base n' m':Nat) (G news:List Value),World.ownsRow w base 134 5 v n' G/\base<=Array.size (World.heap w)/\dw w x m' 5 news/\(n'+m'<=maxLen/\(n'+m')* 40<=140737488355328)/\
   ∀(v':Value) (w':World),World.ownsRow w' base 134 5 v' (n'+m') (G++news)->World.grownBy w w' (Value.ownBlock v)->(∀b:Nat,Value.ownBlock v'=some b->Value.ownBlock v=some b\/Array.size (World.heap w)<=b)->K v' w':=
 ⟨B,n,m,xs,H,h,hB,J,⟨by unfold maxLen;omega,by omega⟩,λv' w' ho hg hw=>Z v' w' ho hg hw⟩
def fB (k:UInt8)(a b:Nat)(vr:Value)(s:Bool):List Value:=[.int .u8 k.toNat,iv a,iv b,vr,.bool s]
def jW (D:Nat->Prop)(w:World):Off Nat->List Value->Prop
 | .tau p,cs=>∃a b vr s,cs=fB 126 a b vr s/\aJ D w (td p) vr
 | .snd a b p,cs=>∃vr s,cs=fB 33 a b vr s/\aJ D w (td p) vr
 | .rcv a x q s,cs=>∃vr,cs=fB 63 a x vr s/\aJ D w (td q) vr
def jW.ex {D:Nat->Prop}{w w':World}{o:Off Nat}{cs:List Value}(h:jW D w o cs)(x:Ex w w'):jW D w' o cs:=by
 cases o with
 | tau p=>obtain⟨a,b,vr,s,h1,G⟩:=h;exact⟨a,b,vr,s,h1,aJ.ex G x⟩
 | snd a b p=>obtain⟨vr,s,h1,G⟩:=h;exact⟨vr,s,h1,aJ.ex G x⟩
 | rcv a b p s=>obtain⟨vr,h1,G⟩:=h;exact⟨vr,h1,aJ.ex G x⟩
def jW.kp {D S:Nat->Prop}{w w':World}{o:Off Nat}{cs:List Value}(h:jW D w o cs)(k:Kp w w' S)(H:∀g,D g->¬S g):jW D w' o cs:=by
 cases o with
 | tau p=>obtain⟨a,b,vr,s,h1,G⟩:=h;exact⟨a,b,vr,s,h1,aJ.kp G k H⟩
 | snd a b p=>obtain⟨vr,s,h1,G⟩:=h;exact⟨vr,s,h1,aJ.kp G k H⟩
 | rcv a b p s=>obtain⟨vr,h1,G⟩:=h;exact⟨vr,h1,aJ.kp G k H⟩
def jW.len {D:Nat->Prop}{w:World}{o:Off Nat}{cs:List Value}(h:jW D w o cs):cs.length=5/\cs.all oneV=true:=by
 cases o with
 | tau p=>obtain⟨a,b,vr,s,rfl,G⟩:=h;exact⟨rfl,by have :=G.one;simp only [fB,OM,Qj,P',this]⟩
 | snd a b p=>obtain⟨vr,s,rfl,G⟩:=h;exact⟨rfl,by have :=G.one;simp only [fB,OM,Qj,P',this]⟩
 | rcv a b p s=>obtain⟨vr,rfl,G⟩:=h;exact⟨rfl,by have :=G.one;simp only [fB,OM,Qj,P',this]⟩
def OffsM (D:Nat->Prop)(w:World):List (Off Nat)->List Value->Prop
 | [],xs=>xs=[]
 | o::os,xs=>∃cs G,xs=cs++G/\jW D w o cs/\OffsM D w os G
section
variable {D S:Nat->Prop} {w w':World}
def OffsM.kp (k:Kp w w' S)(G:∀g,D g->¬S g):∀{os:List (Off Nat)} {xs:List Value},OffsM D w os xs->OffsM D w' os xs
 | [],_,h=>h
 | _::_,_,⟨cs,H,h1,J,Z⟩=>⟨cs,H,h1,J.kp k G,OffsM.kp k G Z⟩
def OffsM.ex {os:List (Off Nat)}{xs:List Value}(h:OffsM D w os xs)(x:Ex w w'):OffsM D w' os xs:=OffsM.kp (Kp.ah x λ _=>False) (λ _ _ h=>h) h
def OffsM.app:∀{os G:List (Off Nat)} {xs H:List Value},OffsM D w os xs->OffsM D w G H->OffsM D w (os++G) (xs++H)
 | [],_,_,_,h,k=>by cases h;exact k
 | _::_,_,_,_,⟨cs,zs,h1,J,Z⟩,k=>by subst h1;exact⟨cs,zs++_,by rw [Oi],J,OffsM.app Z k⟩
def OffsM.len:∀{os:List (Off Nat)} {xs:List Value},OffsM D w os xs->xs.length=os.length* 5/\xs.all oneV=true
 | [],_,h=>by cases h;exact⟨rfl,rfl⟩
 | o::os,_,⟨cs,ys,h1,G,H⟩=>by
  subst h1;obtain⟨J,Z⟩:=G.len;obtain⟨k3,k4⟩:=OffsM.len H;refine⟨by rw [NB,J,k3,Nv];omega,by rw [P4,Z,k4];rfl⟩
def OffsM.at:∀{os:List (Off Nat)} {xs:List Value},OffsM D w os xs->∀{i:Nat} (hi:i< os.length),∃cs,jW D w os[i] cs/\∀j,j< 5->xs[i* 5+j]?=cs[j]?
 | o::os,_,⟨cs,ys,h1,G,J⟩,0,hi=>by
  subst h1;refine⟨cs,G,λj Z=>?_⟩;rw [List.getElem?_append_left (by rw [G.len.1];omega)]
  congr 1;omega
 | o::os,_,⟨cs,ys,h1,G,J⟩,i+1,hi=>by
  subst h1;obtain⟨H,k1,k2⟩:=OffsM.at J (i:=i) (by simpa using hi);refine⟨H,k1,λj Z=>?_⟩;rw [<-k2 j Z,List.getElem?_append_right (by rw [G.len.1];omega),G.len.1]
  congr 1;omega
def OffsM.one {o:Off Nat}{cs:List Value}(h:jW D w o cs):OffsM D w [o] cs:=⟨cs,[],by simp,h,rfl⟩
end
def pre:U->Bool
 | .snd .. =>true | .rcv .. =>true | .tau .. =>true | _=>false
def xv {u:U}(h:pre u=true):∃o,offs u=[o]:=by cases u<;>first | exact⟨_,rfl⟩ | cases h
def Gu {D:Nat->Prop}{w:World}{u:U}{v:Value}(hp:pre u=true)(h:ab D w (tl [u]) [v]):∃(g:Nat) (k:UInt8) (a b:Nat) (vr:Value) (r:U),v=ptr g/\D g/\g< w.heap.size/\w.cell? ⟨g,0,none⟩=some (.int .u8 k.toNat)/\w.cell? ⟨g,1,none⟩=some (iv a)/\w.cell? ⟨g,2,none⟩=some (iv b)/\w.cell? ⟨g,3,none⟩=some vr/\
  (k=126\/k=33\/k=63)/\aJ D w (td r) vr/\(∀s,k=63->∀a' x q,u= .rcv a' x q->jW D w (.rcv a' x q s) (fB k a b vr s))/\(∀s o,offs u=[o]->k≠63->jW D w o (fB k a b vr s))/\(∀o,offs u=[o]->jW D w o (fB k a b vr false))/\(k=63↔∃a' x q,u= .rcv a' x q):=by
 cases u<;>try cases hp
 ·rename_i a b p;obtain⟨t,Z,a',J,vr,e1,⟨g,hg,hD,hl,c0,c1,c2,c3,c4⟩,hk,G,_⟩:=h;obtain⟨rfl,rfl⟩:=Ow e1;obtain⟨rfl,rfl⟩:a'=a/\J=b:=by rcases hk with h | h | h<;>first | exact h | cases h
  refine⟨g,33,a',J,vr,p,hg,hD,hl,c0,c1,c2,c3,.inr (.inl rfl),G,λs h=>absurd h (by decide),λs o H _=>?_,λo H=>?_,⟨λh=>absurd h (by decide),fun⟨_,_,_,h⟩=>by cases h⟩⟩
  ·cases H;exact⟨vr,s,rfl,G⟩
  ·cases H;exact⟨vr,false,rfl,G⟩
 ·rename_i a b p;obtain⟨t,Z,a',J,vr,e1,⟨g,hg,hD,hl,c0,c1,c2,c3,c4⟩,hk,G,_⟩:=h;obtain⟨rfl,rfl⟩:=Ow e1;obtain⟨rfl,rfl⟩:a'=a/\J=b:=by rcases hk with h | h | h<;>first | exact h | cases h
  refine⟨g,63,a',J,vr,p,hg,hD,hl,c0,c1,c2,c3,.inr (.inr rfl),G,λs _ a2 x q e=>?_,λs o H h=>absurd rfl h,λo H=>?_,⟨λ _=>⟨_,_,_,rfl⟩,λ _=>rfl⟩⟩
  ·cases e;exact⟨vr,rfl,G⟩
  ·cases H;exact⟨vr,rfl,G⟩
 ·rename_i p;obtain⟨t,Z,a',J,vr,e1,⟨g,hg,hD,hl,c0,c1,c2,c3,c4⟩,hk,G,_⟩:=h;obtain⟨rfl,rfl⟩:=Ow e1;refine⟨g,126,a',J,vr,p,hg,hD,hl,c0,c1,c2,c3,.inl rfl,G,λs h=>absurd h (by decide),λs o H _=>?_,λo H=>?_,⟨λh=>absurd h (by decide),fun⟨_,_,_,h⟩=>by cases h⟩⟩
  ·cases H;exact⟨a',J,vr,s,rfl,G⟩
  ·cases H;exact⟨a',J,vr,false,rfl,G⟩
def FF {u:U}(n:u.Nr):offs u=u.l5.flatMap offs:=by
 induction u with
 | sum p q H G=>
  have :=G n.2.2;simp only [offs,T.l5,Ou];rw [this]
 | _=>simp [T.l5]
def IM {u:U}(n:u.Nr)(G:u.smp=true)(Z:u.gp=true)(hd:u.dead=false):∀s∈u.l5,pre s=true/\s.Nr/\(∀x∈BV s,x∈BV u)/\(BV s).Sublist (BV u):=by
 induction u with
 | sum p q ih H=>
  simp only [T.smp,Nz]at G;intro s h;rcases NV.1 h with rfl | h
  ·refine⟨?_,n.2.1,λx J=>Ob _ J,Pv _ _⟩;have h1:=n.1.2.2;have h2:=G.1.1;have h3:=n.1.1;cases s<;>first | rfl | (cases h2;done) | (cases h1;done) | (cases h3;done)
  ·obtain⟨k1,k2,k3,k4⟩:=H n.2.2 G.2.2 G.1.2 n.1.2.1 s h;exact⟨k1,k2,λx J=>N1 _ (k3 x J),k4.trans (O9 _ _)⟩
 | nil=>cases hd
 | snd a b p=>intro s h;cases NT.1 h;exact⟨rfl,n,λ _ h=>h,Ov _⟩
 | rcv a b p=>intro s h;cases NT.1 h;exact⟨rfl,n,λ _ h=>h,Ov _⟩
 | tau p=>intro s h;cases NT.1 h;exact⟨rfl,n,λ _ h=>h,Ov _⟩
 | _=>cases Z
def JS {D:Nat->Prop}{w:World}:∀{l:List U} {us:List Value},ab D w (tp l) us->us.length=l.length/\∀j (h:j< l.length) (G:j< us.length),aJ D w (td l[j]) us[j]
 | [],us,h=>by cases h;exact⟨rfl,λj h=>by cases h⟩
 | u::l,_,⟨v,H,e,h1,J⟩=>by
  subst e;obtain⟨Z,k2⟩:=JS J;refine⟨by simp [Z],λj h G=>?_⟩;cases j with
  | zero=>exact h1
  | succ j=>simpa using k2 j (by simpa using h) (by simpa using G)
def CD {D:Nat->Prop}{w:World}:∀{l:List U} {us:List Value},(∀u∈l,u.th=true)->ab D w (tl l) us->us.length=l.length/\∀j (h:j< l.length) (h':j< us.length),ab D w (tl [l[j]]) [us[j]]
 | [],us,_,h=>by cases h;exact⟨rfl,λj h=>by cases h⟩
 | u::l,us,H,h=>by
  have h0:=H u (by simp);have key:∃v G,us=v::G/\ab D w (tl [u]) [v]/\ab D w (tl l) G:=by
   cases u<;>try cases h0
   all_goals
    first
    | (obtain⟨t,G,a',b',vr,e,J,Z,k3,k4⟩:=h;exact⟨t,G,e,⟨t,[],a',b',vr,rfl,J,Z,k3,rfl⟩,k4⟩)
    | (obtain⟨t,G,a',b',vp,β,e,J,Z,k3,k4⟩:=h;exact⟨t,G,e,⟨t,[],a',b',vp,β,rfl,J,Z,k3,rfl⟩,k4⟩)
  obtain⟨v,G,e,J,Z⟩:=key;subst e;obtain⟨k3,k4⟩:=CD (λu hu=>H u (NJ _ hu)) Z;refine⟨by simp [k3],λj h h'=>?_⟩;cases j with
  | zero=>exact J
  | succ j=>simpa using k4 j (by simpa using h) (by simpa using h')
def Fy {D:Nat->Prop}{w:World}{u:U}{v:Value}(hp:pre u=true)(h:ab D w (tl [u]) [v]){R:Value->QU}(hR:∀v' w' xs,Ex w w'->cc w.heap.size w' v' (offs u).length xs->OffsM D w' (offs u) xs->R v' w'):
  QV 113 #[v] w (ax [.v] R):=by
 refine eC v w R ?_;obtain⟨o,ho⟩:=xv hp;obtain⟨g,k,a,b,vr,r,J,hD,hl,c0,c1,c2,c3,hk,δ,_,_,ε,_⟩:=Gu hp h;refine⟨g,0,J,k,c0,λx w'=>w'=w/\x=true,?_,λx Z hJ=>?_⟩
 ·rcases hk with rfl | rfl | rfl
  ·exact⟨λ _=>⟨rfl,by decide⟩,λh=>absurd h (by decide)⟩
  ·exact⟨λh=>absurd h (by decide),λ _=>⟨λ _=>⟨rfl,by decide⟩,λh=>absurd h (by decide)⟩⟩
  ·exact⟨λh=>absurd h (by decide),λ _=>⟨λh=>absurd h (by decide),λ _=>⟨rfl,by decide⟩⟩⟩
 ·obtain⟨rfl,rfl⟩:=hJ;refine⟨λ _=>⟨λw'=>Ex Z w',λw9 ζ=>?_⟩,λh=>by cases h⟩;have x9:Ex Z w9:=ζ▸Ex.drew Z;have cg:∀{w':World},Ex Z w'->∀j,w'.cell? ⟨g,j,none⟩=Z.cell? ⟨g,j,none⟩:=λx j=>x.cell (show g< _ from hl)
  refine⟨x9,g,0,J,k,λw' x=>by rw [cg x];exact c0,g,0,J,a,λw' x=>by rw [cg x];exact c1,g,0,J,b,λw' x=>by rw [cg x];exact c2,g,0,J,vr,λw' x=>by rw [cg x];exact c3,δ.one,λθ β γ H=>?_⟩;have η:Ex w9 β:=H▸Ex.alloc w9 _;have G:=Ex.trans x9 η;refine⟨G,hR _ β (fB k a b vr false) G ?_ ?_⟩
  ·rw [ho];exact cc.one rfl x9.size γ H
  ·rw [ho];exact OffsM.one ((ε o ho).ex G)
def Fh {D:Nat->Prop}{w:World}{u:U}{v:Value}(hth:u.th=true)(hq:Uq u)(n:u.Nr)(hs:u.smp=true)(hz:u.size<=1000000)(hDw:∀g,D g->g< w.heap.size)(h:ab D w (tl [u]) [v]){R:Value->QU}(hR:∀v' w' xs,Ex w w'->cc w.heap.size w' v' (offs u).length xs->OffsM D w' (offs u) xs->R v' w'):
  QV 113 #[v] w (ax [.v] R):=by
 by_cases hp:pre u=true
 ·exact Fy hp h hR
 refine eC v w R ?_;cases u<;>first | (exact absurd rfl hp) | (cases hth;done) | skip
 case mat a b p=>
  obtain⟨t,ts',a',b',vr,e1,⟨g,hg,hD,hl,c0,c1,c2,c3,c4⟩,hk,η,_⟩:=h;obtain⟨rfl,rfl⟩:=Ow e1;refine⟨g,0,hg,_,c0,λx w'=>w'=w/\x=false,⟨λh=>absurd h (by decide),λ _=>⟨λh=>absurd h (by decide),λ _=>⟨rfl,by decide⟩⟩⟩,λx H hJ=>?_⟩;obtain⟨rfl,rfl⟩:=hJ;refine⟨λh=>(by cases h),λ _=>aR (by decide) (aR (by decide) (hR _ H [] (Ex.refl _) (cc.nil _ _) rfl))⟩
 case rep p=>
  simp only [T.smp,Nz]at hs;cases p<;>try (simp [T.isR]at hs)
  rename_i a x q;obtain⟨t,ts',a',b',vr,e1,⟨g,hg,hD,hl,c0,c1,c2,c3,c4⟩,hk,η,_⟩:=h;obtain⟨rfl,rfl⟩:=Ow e1;have etd:td (.rcv a x q)=([],tl [.rcv a x q]):=eF hq.rep n.2;rw [etd]at η;obtain⟨br,vo2,μ,ν,rfl,k2,k3,k4,k5,k6,k7,k8⟩:=η;obtain⟨hl2,hat⟩:=CD (l:=[T.rcv a x q]) (λu hu=>by cases NT.1 hu;rfl) k8;obtain⟨v2,rfl⟩:∃v2,ν=[v2]:=by
   match ν,hl2 with
   | [v2],_=>exact⟨v2,rfl⟩
  have hp2:=Gu (u:= .rcv a x q) rfl (hat 0 (by simp) (by simp));obtain⟨g2,kk,a2,b2,vr2,r2,hg2,hD2,hlt2,d0,d1,d2,d3,hkk,hlv2,hof,_,_,hiff⟩:=hp2;have hk63:kk=63:=hiff.2 ⟨_,_,_,rfl⟩;subst hk63;obtain⟨at_,ξ,hvt⟩:=k7.slice;refine⟨g,0,hg,_,c0,λx w'=>w'=w/\x=false,⟨λh=>absurd h (by decide),λ _=>⟨λh=>absurd h (by decide),λ _=>⟨rfl,by decide⟩⟩⟩,λy H hJ=>?_⟩;obtain⟨rfl,rfl⟩:=hJ;refine⟨λh=>(by cases h),λ _=>cL (by decide) λb24 w25 hb24 hw25=>?_⟩;have x25:Ex H w25:=hw25▸Ex.alloc H _;refine⟨g,0,hg,ptr br,by rw [x25.cell (show g< _ from hl)];exact c3,br,0,rfl,μ,by rw [x25.cell (show br< _ from k3)];exact k5,at_,_,ξ,hvt,λout i w'=>(i=0/\Ex H w'/\cc H.heap.size w' out 0 [])\/(i=1/\Ex H w'/\cc H.heap.size w' out 1 (fB 63 a2 b2 vr2 true)),λ _ i _=>(1 - i).toNat,.inl ⟨rfl,x25,cc.zero (ND _) hb24 hw25⟩,λout i w36 hI=>?_⟩;rcases hI with⟨rfl,θ,Z⟩ | ⟨rfl,θ,Z⟩
  ·obtain⟨bt,ot,G,ο,γ,hbl,hcl⟩:∃bt ot G,μ= .slice (some ⟨bt,ot,none⟩) 1 G/\D bt/\bt< H.heap.size/\H.cell? ⟨bt,ot+0,none⟩=some v2:=by
    rcases k7 with⟨_,h0⟩ | ⟨bt,ot,G,e,γ,ς,J⟩
    ·cases h0
    ·exact⟨bt,ot,G,e,γ,ς,J 0 _ rfl⟩
   refine cL (by simp) ⟨bt,ot,1,G,ο,by omega,by omega,v2,?_,g2,0,hg2,63,?_,cL (by decide) ⟨λw'=>Ex H w',λw46 hw46=>?_⟩⟩
   ·rw [show(0:Int).toNat* 1=0 from rfl,θ.cell (show bt< _ from hbl)];exact hcl
   ·rw [θ.cell (show g2< _ from hlt2)];exact d0
   have x46':Ex w36 w46:=hw46▸Ex.drew w36;have x46:=Ex.trans θ x46';have cg:∀{w':World},Ex H w'->∀j,w'.cell? ⟨g2,j,none⟩=H.cell? ⟨g2,j,none⟩:=λx j=>x.cell (show g2< _ from hlt2)
   refine⟨x46,g2,0,hg2,a2,λw' x=>by rw [cg x];exact d1,g2,0,hg2,b2,λw' x=>by rw [cg x];exact d2,g2,0,hg2,vr2,λw' x=>by rw [cg x];exact d3,hlv2.one,λb56 w57 hb56 hw57=>?_⟩;have x57':Ex w46 w57:=hw57▸Ex.alloc w46 _;have ι:=Ex.trans x46 x57';have o1:cc w46.heap.size w57 (.slice (some ⟨b56,0,none⟩) 1 1) 1 (fB 63 a2 b2 vr2 true):=cc.one rfl (ND _) hb56 hw57;have hone:(fB 63 a2 b2 vr2 true).all oneV=true:=by have :=hlv2.one;simp only [fB,OM,Qj,P',this]
   refine⟨ι,cc.push (Z.ex (Ex.trans x46' x57')) (by have :=ι.size;omega) (o1.src hone) (by omega) λv63 w64 ho64 hg64 _=>⟨?_,by omega,.inr ⟨rfl,?_,?_⟩,by show(1 - (0+1):Int).toNat< (1 - 0:Int).toNat;decide⟩⟩
   ·exact Ex.below ι (Kp.below (Kp.aF (S:=λg=>out.ownBlock=some g) hg64 λ _ h=>h) ι.size λg hg e=>by have :=(Z.block g e).1;omega)
   ·exact Ex.below ι (Kp.below (Kp.aF (S:=λg=>out.ownBlock=some g) hg64 λ _ h=>h) ι.size λg hg e=>by have :=(Z.block g e).1;omega)
   ·simpa using ho64
  ·refine aR (by simp) (hR out w36 _ θ Z ?_);exact OffsM.one ((hof true rfl a x q rfl).ex θ)
 case sum p q=>
  have hlive:(T.sum p q).dead=false:=n.rL rfl;have hsm:=IM n hs rfl hlive;have hofs:=FF n;have etl:tl [T.sum p q]= .sum (tp (T.sum p q).l5) .nil:=by
   simp only [tl,T.l5];rw [dR hq.dO n.2.1 n.1.1,dR hq.dG n.2.2 n.1.2.1,T.gb n.1.2.2];rfl
  rw [etl]at h;obtain⟨t,ts',a',b',vp,us,e1,⟨g,hg,hD,hl,c0,c1,c2,c3,c4⟩,hus,hps,_⟩:=h;obtain⟨rfl,rfl⟩:=Ow e1;obtain⟨hul,hua⟩:=JS hps;generalize hS:(T.sum p q).l5=S at*;have hSl:S.length<=1000000:=by
   have:∀u:U,u.l5.length<=u.size:=by
    intro u
    induction u with
    | sum p q _ ih=>simp only [T.l5,Nv,T.size];omega
    | _=>simp only [T.l5,Nv,NR,T.size];omega
   have :=this (T.sum p q);rw [hS]at this;omega
  have hol:∀i,((S.take i).flatMap offs).length=(S.take i).length:=by
   have:∀l:List U,(∀s∈l,pre s=true)->(l.flatMap offs).length=l.length:=by
    intro l
    induction l with
    | nil=>intro _;rfl
    | cons s l ih=>
     intro hl;obtain⟨o,ho⟩:=xv (hl s (by simp));simp only [Ou,ho,NB,Nv,NR,ih λx hx=>hl x (by simp [hx])];omega
   exact λi=>this _ λs δ=>(hsm s (List.mem_of_mem_take δ)).1
  obtain⟨au,cau,hvu⟩:=hus.slice;refine⟨g,0,hg,43,c0,λx w'=>w'=w/\x=false,⟨λh=>absurd h (by decide),λ _=>⟨λh=>absurd h (by decide),λ _=>⟨rfl,by decide⟩⟩⟩,λy H hJ=>?_⟩;obtain⟨rfl,rfl⟩:=hJ;refine⟨λh=>(by cases h),λ _=>aR (by decide) (cL (by decide) λb68 w69 hb68 hw69=>?_)⟩;have x69:Ex H w69:=hw69▸Ex.alloc H _;refine⟨g,0,hg,vp,by rw [x69.cell (show g< _ from hl)];exact c4,au,_,cau,hvu,λout i w'=>∃(j:Nat) (xs:List Value),i=j/\j<=us.length/\Ex H w'/\cc H.heap.size w' out ((S.take j).flatMap offs).length xs/\OffsM D w' ((S.take j).flatMap offs) xs,λ _ i _=>(us.length - i).toNat,⟨0,[],rfl,OA _,x69,by simpa using cc.zero (ND _) hb68 hw69,by simp [OffsM]⟩,λout i w80 hI=>?_⟩;obtain⟨j,xs,rfl,hj,x80,υ,φ⟩:=hI;refine⟨λhlt=>?_,λhge=>?_⟩;rotate_left
  ·have:j=S.length:=by simp only [NQ]at hge;omega
   rw [this,Od]at υ φ;rw [hofs]at hR;exact hR out w80 xs x80 υ φ
  have hjl:=oL hlt;have hjS:j< S.length:=by omega
  have κ:=hsm S[j] (NO hjS);obtain⟨bu,ou,ε,hvu',γ,hbu,hcu⟩:∃bu ou ε,vp= .slice (some ⟨bu,ou,none⟩) us.length ε/\D bu/\bu< H.heap.size/\H.cell? ⟨bu,ou+j,none⟩=some us[j]:=by
   rcases hus with⟨_,h0⟩ | ⟨bt,ot,G,e,γ,ς,J⟩
   ·rw [h0]at hjl;simp at hjl
   ·exact⟨bt,ot,G,e,γ,ς,J j _ (Ny hjl)⟩
  have η:=hua j hjS hjl;have huqS:Uq S[j]:=by
   refine⟨hq.nd.sublist κ.2.2.2,λx hx hf=>?_⟩;have hfr:∀u:U,∀s∈u.l5,∀z,s.Fr z->u.Fr z:=by
    intro u
    induction u with
    | sum p q _ ih=>
     intro s δ z hz;rcases NV.1 δ with rfl | δ
     ·exact .inl hz
     ·exact .inr (ih s δ z hz)
    | _=>intro s δ z hz;cases NT.1 δ;exact hz
   exact hq.nf x (κ.2.2.1 x hx) (hfr _ S[j] (by rw [hS];exact NO hjS) x hf)
  have χ:(S[j]).th=true:=by
   have h1:=κ.1;revert h1;cases S[j]<;>first | (intro _;rfl) | (intro h;cases h)
  have etd:td S[j]=([],tl [S[j]]):=by rw [eF huqS κ.2.1,T.fQ χ,T.jH χ]
  rw [etd]at η;obtain⟨br,vo2,μ,ν,hbr,k2,k3,k4,k5,k6,k7,k8⟩:=η;obtain⟨hl2,hat⟩:=CD (l:=[S[j]]) (λu hu=>by cases NT.1 hu;exact χ) k8;obtain⟨v2,rfl⟩:∃v2,ν=[v2]:=by
   match ν,hl2 with
   | [v2],_=>exact⟨v2,rfl⟩
  have ha2:=hat 0 (by simp) (by simp);obtain⟨at_,ξ,hvt⟩:=k7.slice;have htk:(S.take (j+1)).flatMap offs=(S.take j).flatMap offs++offs S[j]:=by rw [NG hjS,OZ];simp
  refine⟨bu,ou,_,ε,hvu',by omega,by omega,us[j],?_,br,0,hbr,μ,by rw [x80.cell (show br< _ from k3)];exact k5,at_,_,ξ,hvt,λout i w'=>(i=0/\∃xs,Ex H w'/\cc H.heap.size w' out ((S.take j).flatMap offs).length xs/\OffsM D w' ((S.take j).flatMap offs) xs)\/(i=1/\∃xs,Ex H w'/\cc H.heap.size w' out ((S.take (j+1)).flatMap offs).length xs/\OffsM D w' ((S.take (j+1)).flatMap offs) xs),
   λ _ i _=>(1 - i).toNat,.inl ⟨rfl,xs,x80,υ,φ⟩,λout2 i w93 hI2=>?_⟩
  ·rw [NF,N7,x80.cell (show bu< _ from hbu)];exact hcu
  rcases hI2 with⟨rfl,xs2,ψ,β,ω⟩ | ⟨rfl,xs2,ψ,β,ω⟩
  ·obtain⟨bt,ot,G,ο,hbD2,hbl,hcl⟩:∃bt ot G,μ= .slice (some ⟨bt,ot,none⟩) 1 G/\D bt/\bt< H.heap.size/\H.cell? ⟨bt,ot+0,none⟩=some v2:=by
    rcases k7 with⟨_,h0⟩ | ⟨bt,ot,G,e,γ,ς,J⟩
    ·cases h0
    ·exact⟨bt,ot,G,e,γ,ς,J 0 _ rfl⟩
   refine cL (by simp) ⟨bt,ot,1,G,ο,by omega,by omega,v2,?_,Fy κ.1 (ab.ex ha2 ψ) λv99 w100 ys x100 ho100 hm100=>?_⟩
   ·rw [show(0:Int).toNat* 1=0 from rfl,ψ.cell (show bt< _ from hbl)];exact hcl
   have ζ:=Ex.trans ψ x100;have hlen1:=hol j;rw [Og,Px (by omega)]at hlen1;obtain⟨o,hoo⟩:=xv κ.1;have hlo:(offs S[j]).length=1:=by rw [hoo];rfl
   refine cc.push (β.ex x100) ζ.size (ho100.src hm100.len.2) (by omega) λv106 w107 ho107 hg107 _=>⟨by omega,.inr ⟨rfl,xs2++ys,?_,?_,?_⟩,by show(1 - (0+1):Int).toNat< (1 - 0:Int).toNat;decide⟩
   ·exact Ex.below ζ (Kp.below (Kp.aF (S:=λg=>out2.ownBlock=some g) hg107 λ _ h=>h) ζ.size λg hg e=>by have :=(β.block g e).1;omega)
   ·rw [htk,NB];exact ho107
   ·rw [htk];exact OffsM.kp (Kp.aF (S:=λg=>out2.ownBlock=some g) hg107 λ _ h=>h) (λg hgD e=>by have :=(β.block g e).1;have :=hDw g hgD;omega) ((ω.ex x100).app hm100)
  ·refine aR (by simp) ⟨by omega,⟨j+1,xs2,by omega,by omega,ψ,β,ω⟩,tN (by omega)⟩
section
open T
structure J3 (b b2 n0 c:Nat)(w0 w':World)(acc:List U)(M:Nat->Prop):Prop where
 km:Km b w0 w'
 rs:Mq w0.heap.size w' b2 (outs acc) (!Hl acc) M
 mc:∃n,Mk w' b n/\n0<=n/\n<=n0+c
 hb:b< w0.heap.size
section
variable {b b2 n0 c:Nat} {w0 w w':World} {acc:List U} {M:Nat->Prop}
def J3.nb (h:J3 b b2 n0 c w0 w acc M):¬M b:=λG=>by have :=(h.rs.mr b G).1;have :=h.hb;omega
def J3.ex (h:J3 b b2 n0 c w0 w acc M)(x:Ex w w'):J3 b b2 n0 c w0 w' acc M:=by
 obtain⟨n,h1,G⟩:=h.mc;exact⟨h.km.out (Kp.ah x λ _=>False) (λ _ _ h=>h) h.hb,h.rs.kp (Kp.ah x λ _=>False) λ _ _ h=>h,⟨n,h1.ex x,G⟩,h.hb⟩
end
def CS {t:P}{u:U}(su:SU t u){D:Nat->Prop}{w:World}{v:Value}(h:aJ D w (td u) v):∃b vo vt ts,v=ptr b/\D b/\b< w.heap.size/\w.cell? ⟨b,0,none⟩=some vo/\w.cell? ⟨b,1,none⟩=some vt/\ew D w vo (u.frL.map iv)/\ew D w vt ts/\ts.length=u.ths.length/\∀i (h:i< u.ths.length) (h':i< ts.length),ab D w (tl [u.ths[i]]) [ts[i]]:=by
 rw [eF su.nu.uq su.nr]at h;obtain⟨b,vo,vt,ts,h1,G,H,h4,h5,J,Z,h8⟩:=h;obtain⟨k1,k2⟩:=CD (λq hq=>(su.nr.ths q hq).1) h8;exact⟨b,vo,vt,ts,h1,G,H,h4,h5,J,Z,k1,k2⟩
def SU.th {t:P}{u:U}(su:SU t u):∀q∈u.ths,q.th=true/\Uq q/\q.Nr:=λq G=>by
 obtain⟨i,hi,rfl⟩:=OG.1 G;exact⟨(su.nr.ths _ G).1,su.xp hi (Sub.refl _) (Ov _),(su.nr.ths _ G).2⟩
def gO (u:U):(td u).1.length+(td u).2.tot<=4* u.size:=by
 have h1:=oY (flat u).1 (flat u).2;have G:=bZ u;have e:Lv.tidy (flat u).1 (flat u).2=td u:=rfl;rw [e]at h1;omega
def jI (f:Nat->Nat):∀l:Lv,(l.map f).tot=l.tot
 | .nil=>rfl
 | .thr k a b o r n=>by simp only [Lv.map,Lv.tot,jI f r,jI f n,NH]
 | .sum ps n=>by simp only [Lv.map,Lv.tot,jI f ps,jI f n]
 | .part o q n=>by simp only [Lv.map,Lv.tot,jI f q,jI f n,NH]
def FU {t:P}{u:U}(su:SU t u)(κ:u.size<=1000){w:World}{b:Nat}{vl vg vo vm:Value}{gl:List Nat}{mvs:List Value}{zs:List ((List Nat×Lv)×U)}{vv:U}(β:w.cell? ⟨b,2,none⟩=some vl)(γ:b< w.heap.size)(hl:aJ (λg=>g< w.heap.size) w (td u) vl)(hg:ew (λg=>g< w.heap.size) w vg (gl.map iv))(δ:gl.length<=1000)
  (ho:ew (λg=>g< w.heap.size) w vo (u.frL.map iv)) (hm:ew (λg=>g< w.heap.size) w vm mvs) (ε:aO (λL v=>aJ (λg=>g< w.heap.size) w L v) (zs.map (·.1)) mvs) (ζ:mvs.length<=1000) (hz:∀z∈zs,Pc z.1 z.2) (μ:(joinL (zs.map (·.1))).1.length+(joinL (zs.map (·.1))).2.tot<=1000000)
  {P:Nat->Bool} (hP:∀i,P i=decide (i∈gl)) (H:Nu (resL u.frL (parL (kQ P u.ths 0++zs.map (·.2))))) (η:iz (resL u.frL (parL (kQ P u.ths 0++zs.map (·.2))))=iz vv) {R:aH->Bool->QU} (hR:∀w',Ex w w'->(∀s,iz vv=some s->R s true w')/\(iz vv=none->R [] false w')):
  QV 114 #[ptr b,vg,vo,vm] w (ax [.s,.b] R):=by
 have J:=eF su.nu.uq su.nr;have Z:=su.th;have e:=vE u.frL (K:=kQ P u.ths 0) (λt ht=>Z t (rI ht)) hz;have G:=gO u;rw [J]at hl G;have θ:∀x∈zs.map (·.1),x.2.sh true=true:=λx hx=>by
  obtain⟨z,h1,rfl⟩:=Oe.1 hx;exact(hz z h1).sh
 have ι:(tl u.ths).sh true=true:=by have :=zJ u;rw [J]at this;exact this
 simp only at G;refine Jr (res:=(u.frL++(joinL (zs.map (·.1))).1,(tl (kQ P u.ths 0)).app (joinL (zs.map (·.1))).2)) β γ hl hg δ ho hm ε ζ ι θ (by omega) hP (by rw [GP λt ht=>(Z t ht).1]) ?_ ?_ λw' x=>?_
 ·rw [e];exact BS H.uq H.bv
 ·rw [e];exact Gj H
 ·rw [e];have:DO (td (resL u.frL (parL (kQ P u.ths 0++zs.map (·.2)))))=iz vv:=η;rw [this];exact hR w' x
def aO.MR {A B:Type}{R:A->B->Prop}:aO R [] []:=⟨rfl,λi a b h=>by simp at h⟩
def Mo {w w1:World}{e g:Nat}{x:Value}(H:g=w.heap.size)(hw:w1=w.alloc (.cells #[x] e)):ew (λg=>g< w1.heap.size) w1 (.slice (some ⟨g,0,none⟩) 1 1) [x]:=by
 subst H hw;refine .inr ⟨w.heap.size,0,1,rfl,by rw [size_alloc];omega,by rw [size_alloc];omega,λi y G=>?_⟩;cases i with
 | zero=>simp only [Pz,O4]at G;subst G;exact aa rfl
 | succ i=>simp at G
def LQ {D:Nat->Prop}{w w1:World}{v:Value}{l:List Value}(h:ew D w v l)(x:Ex w w1):ew (λg=>g< w1.heap.size) w1 v l:=(h.ex x).sub λg G _=>G
def fT:∀u:U,(BV u).length<=u.size
 | .nil=>by simp [BV]
 | .snd a b p=>by have :=fT p;simp only [BV,T.size];omega
 | .mat a b p=>by have :=fT p;simp only [BV,T.size];omega
 | .rcv a b p=>by have :=fT p;simp only [BV,T.size,Nv];omega
 | .res b p=>by have :=fT p;simp only [BV,T.size,Nv];omega
 | .tau p=>by have :=fT p;simp only [BV,T.size];omega
 | .rep p=>by have :=fT p;simp only [BV,T.size];omega
 | .sum p q=>by have :=fT p;have :=fT q;simp only [BV,T.size,NB];omega
 | .par p q=>by have :=fT p;have :=fT q;simp only [BV,T.size,NB];omega
def kc:∀u:U,∀q∈u.ths,q.size<=u.size:=by
 intro u
 induction u with
 | nil=>intro q h;cases h
 | res x p H=>intro q h;have :=H q h;simp only [T.size];omega
 | par p r H G=>
  intro q h;simp only [T.size];rcases NV.1 h with rfl | h
  ·omega
  ·have :=G q h;omega
 | _=>intro q h;cases NT.1 h;exact ND _
section
variable {t:P} {u:U} {b b2 n0 c:Nat} {w w1:World} {acc:List U} {M D:Nat->Prop}
def nE.bound (ok:nE t)(su:SU t (num t e0 0).1):∀z,(z∈(num t e0 0).1.frL\/z∈(num t e0 0).1.ths.flatMap BV\/∃q∈(num t e0 0).1.ths,q.Fr z)->z<=(num t e0 0).2+100:=by
 have H:=su.nr.shape;have G:BV (num t e0 0).1=(num t e0 0).1.frL++(num t e0 0).1.ths.flatMap BV:=by
  have:BV (num t e0 0).1=BV (resL (num t e0 0).1.frL (parL (num t e0 0).1.ths)):=by rw [<-H]
  rw [this,dP,dT]
 have key:∀z∈BV (num t e0 0).1,z<=(num t e0 0).2+100:=λz J=>((eJ t e0 0).2 z J).2
 intro z J;rcases J with h | h | h
 ·exact key z (by rw [G];exact Ob _ h)
 ·exact key z (by rw [G];exact N1 _ h)
 ·rcases su.free z h with h | h
  ·exact key z (by rw [G];exact Ob _ h)
  ·omega
end
def Ki {w w1:World}{g e:Nat}{cs:List Value}(β:cs.length=5)(hg:g=w.heap.size)(G:w1=w.alloc (.cells #[.int .u8 0,.int .i64 0,.int .i64 0,.pointer none,.bool false] e)):
  (∀j,j< 5->(∃u,w1.cell? ⟨g,0+j,none⟩=some u)/\w1.frozen? ⟨g,0+j,none⟩=false)/\∀H,H=World.setCells w1 g 0 cs->Ex w H/\g< H.heap.size/\∀j,j< 5->H.cell? ⟨g,j,none⟩=cs[j]?:=by
 have hc:∀j,j< 5->∃u,w1.cell? ⟨g,0+j,none⟩=some u:=λj J=>by
  rw [G,hg];have:∃u,(#[.int .u8 0,.int .i64 0,.int .i64 0,.pointer none,.bool false]:Array Value)[0+j]?=some u:=by
   rw [N2];exact⟨_,P3 (by simpa using J)⟩
  obtain⟨u,hu⟩:=this;exact⟨u,aa hu⟩
 refine⟨λj J=>⟨hc j J,by rw [G,hg];exact aV _ _ _ _⟩,λH Z=>?_⟩;obtain⟨k,_,_,sc⟩:=a8 (b:=g) cs w1 0;rw [<-Z]at k sc;have x1:Ex w w1:=G▸Ex.alloc _ _;have s1:w1.heap.size=w.heap.size+1:=by rw [G,size_alloc]
 have s2:=k.size;refine⟨Ex.below x1 (Kp.below k x1.size λb hb e=>by omega),by omega,λj J=>?_⟩;have :=sc j (λi hi=>hc i (by omega)) (by omega)
 rwa [N2]at this
def oS {A:Type}:∀t:T A,(offs t).length<=t.size:=by
 intro t
 induction t with
 | sum p q G H=>simp only [offs,NB,T.size];omega
 | rep p G=>simp only [offs,NH,T.size];omega
 | _=>simp [offs,T.size]
def sF {X Y:Type}{f:X->List Y}{c:Nat}:∀{l:List X},(∀x∈l,(f x).length<=c)->(l.flatMap f).length<=l.length* c
 | [],_=>by simp
 | x::l,h=>by
  have h1:=h x (by simp);have H:=sF (f:=f) (c:=c) (l:=l) λy G=>h y (by simp [G])
  simp only [Ou,NB,Nv,Nat.succ_mul];omega
def jW.any {D:Nat->Prop}{w:World}{o:Off Nat}{cs:List Value}(h:jW D w o cs):∃(k:UInt8) (a b:Nat) (vr:Value) (s:Bool),cs=fB k a b vr s/\oneV vr=true:=by
 cases o with
 | tau p=>obtain⟨a,b,vr,s,h1,G⟩:=h;exact⟨126,a,b,vr,s,h1,G.one⟩
 | snd a b p=>obtain⟨vr,s,h1,G⟩:=h;exact⟨33,a,b,vr,s,h1,G.one⟩
 | rcv a b p s=>obtain⟨vr,h1,G⟩:=h;exact⟨63,a,b,vr,s,h1,G.one⟩
def GM {k:UInt8}{a b:Nat}{vr:Value}{s:Bool}(h:oneV vr=true):(fB k a b vr s).all oneV=true:=by simp only [fB,OM,Qj,P',h]
def H2 {D:Nat->Prop}{B:Nat}{w:World}{v:Value}{os:List (Off Nat)}{xs:List Value}(G:cc B w v os.length xs)(hm:OffsM D w os xs){j:Nat}(H:j< os.length):∃(g cap:Nat) (cs:List Value),v= .slice (some ⟨g,0,none⟩) os.length cap/\jW D w os[j] cs/\∀i u,cs[i]?=some u->∀off,off=j* 5+i->i< 5->w.cell? ⟨g,off,none⟩=some u:=by
 obtain⟨cs,h1,J⟩:=hm.at H;rcases G.cell with⟨_,h0,_⟩ | ⟨g,cap,rfl,_,Z⟩
 ·omega
 ·refine⟨g,cap,cs,rfl,h1,λi u hu off he hi=>?_⟩;have :=Z (j* 5+i) u (by rw [J i hi];exact hu);rw [he];rwa [N2]at this
section
variable {t:P} {u:U} {b b2 n0:Nat} {w:World} {D:Nat->Prop}
def Rel (b:Nat)(w1:World)(G:Nat->Prop)(H:World)(M2:Nat->Prop):Prop:=Kp w1 H (λg=>g=b\/G g)/\∀g,M2 g->G g\/w1.heap.size<=g
def Rel.refl (b:Nat)(w:World)(M:Nat->Prop):Rel b w M w M:=⟨Kp.ah (Ex.refl w) _,λ _ h=> .inl h⟩
def Rel.trans {b:Nat}{w1 G H:World}{J M2 Z:Nat->Prop}(h:Rel b w1 J G M2)(k:Rel b G M2 H Z):Rel b w1 J H Z:=
 ⟨Kp.trans h.1 k.1 λg hg e=>e.elim .inl λhM=>(h.2 g hM).elim .inr λh=>by omega,λg hg=>(k.2 g hg).elim (h.2 g) λh'=> .inr (OC h.1.size h')⟩
def Rel.ex {b:Nat}{w1 G H:World}{J M2:Nat->Prop}(h:Rel b w1 J G M2)(x:Ex G H):Rel b w1 J H M2:=h.trans ⟨Kp.ah x _,λ _ h=> .inl h⟩
def J3.mono {c G:Nat}{w w':World}{acc:List U}{M:Nat->Prop}(h:J3 b b2 n0 c w w' acc M)(J:c<=G):J3 b b2 n0 G w w' acc M:=by
 obtain⟨n,h1,H,Z⟩:=h.mc;exact⟨h.km,h.rs,⟨n,h1,H,by omega⟩,h.hb⟩
end
end
section
open T Classical
def cy (e B:Nat)(w:World)(v:Value)(n:Nat)(xs:List Value):Prop:=w.ownsRow B e 5 v n xs
section
variable {e B:Nat} {w w':World} {v:Value} {n:Nat} {xs:List Value}
def cy.nil (e B:Nat)(w:World):cy e B w (.slice none 0 0) 0 []:=Qv _ _ _ _
def cy.block (h:cy e B w v n xs):∀b,v.ownBlock=some b->B<=b/\b< w.heap.size:=PX h
def cy.mono {G:Nat}(h:cy e B w v n xs)(hb:G<=B):cy e G w v n xs:=Qh h hb
def cy.kp {S:Nat->Prop}(h:cy e B w v n xs)(k:Kp w w' S)(H:∀g,v.ownBlock=some g->¬S g):cy e B w' v n xs:=by
 refine⟨h.1,?_⟩;rcases h.2 with J | ⟨g,cap,cur,rfl,hb,G,rest⟩
 ·exact .inl J
 ·exact .inr ⟨g,cap,cur,rfl,hb,by rw [k.block g (N8.1 G).1 (H g rfl)];exact G,rest⟩
def cy.ex (h:cy e B w v n xs)(x:Ex w w'):cy e B w' v n xs:=h.kp (Kp.ah x λ _=>False) λ _ _ h=>h
def cy.cell (h:cy e B w v n xs):(v= .slice none 0 0/\n=0/\xs=[])\/∃g cap,v= .slice (some ⟨g,0,none⟩) n cap/\g< w.heap.size/\∀j u,xs[j]?=some u->w.cell? ⟨g,0+j,none⟩=some u:=by
 have G:=h.1;rcases h.2 with⟨Z,H⟩ | ⟨g,cap,cur,rfl,hb,J,h1,h2,h3,h4⟩
 ·left;refine⟨Z,H,N3 (by rw [G,H])⟩
 ·refine .inr ⟨g,cap,rfl,(N8.1 J).1,λj u hu=>?_⟩;have hj:j< xs.length:=(On.1 hu).1;unfold World.cell?;simp only [J,N2];rw [<-h4,Ox (by rw [<-G];exact hj),Oy]at hu;exact hu
def cy.src (h:cy e B w v n xs)(ha:xs.all oneV=true):dw w v n 5 xs:=by
 refine⟨h.1,ha,?_⟩;rcases h.cell with⟨rfl,rfl,_⟩ | ⟨g,cap,rfl,_,G⟩
 ·exact .inl ⟨rfl,rfl⟩
 ·exact .inr ⟨g,0,cap,rfl,G⟩
def cy.one {b:Nat}{cs:List Value}(G:cs.length=5)(hB:B<=w.heap.size)(hb:b=w.heap.size)(h:w'=w.alloc (.cells cs.toArray e)):cy e B w' (.slice (some ⟨b,0,none⟩) 1 1) 1 cs:=by
 subst hb h;refine⟨by rw [G],.inr ⟨_,1,cs.toArray,rfl,hB,?_,by simp,by unfold maxLen;omega,by simp [G],Qg (by simp [G])⟩⟩;unfold World.alloc;simp
def cy.push {x:Value}{m by_:Nat}{H:List Value}(h:cy e B w v n xs)(hB:B<=w.heap.size)(Z:dw w x m 5 H)(J:by_<=48)(hl:n+m<=1099511627776){K:Value->QU}
  (hK:∀v' w',cy e B w' v' (n+m) (xs++H)->w.grownBy w' v.ownBlock->(∀b,v'.ownBlock=some b->v.ownBlock=some b\/w.heap.size<=b)->K v' w'):
  ∃(base n' m':Nat) (G news:List Value),World.ownsRow w base e 5 v n' G/\base<=Array.size (World.heap w)/\dw w x m' 5 news/\(n'+m'<=maxLen/\(n'+m')* by_<=140737488355328)/\
   ∀(v':Value) (w':World),World.ownsRow w' base e 5 v' (n'+m') (G++news)->World.grownBy w w' (Value.ownBlock v)->(∀b:Nat,Value.ownBlock v'=some b->Value.ownBlock v=some b\/Array.size (World.heap w)<=b)->K v' w':=
 ⟨B,n,m,xs,H,h,hB,Z,⟨by unfold maxLen;omega,by have :=QL (ND (n+m)) J;omega⟩,λv' w' ho hg hw=>hK v' w' ho hg hw⟩
def cy.set {g cap j:Nat}{x:Value}(h:cy e B w (.slice (some ⟨g,0,none⟩) n cap) n xs)(hw:w'=w.setCell ⟨g,j,none⟩ x)(hj:j< xs.length):cy e B w' (.slice (some ⟨g,0,none⟩) n cap) n (xs.set j x):=by
 subst hw;rcases h.2 with⟨H,_⟩ | ⟨g',G,cur,J,hb,Z,h1,h2,h3,h4⟩
 ·cases H
 ·cases J;have hl:=h.1;have e:(w.setCell ⟨g,j,none⟩ x).heap[g]?=some (.cells (cur.setIfInBounds j x) e (0,0)):=by
   rw [Sort.setCell_eq];simp [Sort.mapBlock,OW,Z,Sort.onCells]
  refine⟨by rw [OT];exact hl,.inr ⟨g,cap,_,by simp,hb,e,by simpa using h1,h2,by simpa using h3,?_⟩⟩;rw [Array.toList_setIfInBounds,List.take_set,h4]
def cy.fr (h:cy e B w v n xs){g:Nat}(H:v.ownBlock=some g)(j:Nat):w.frozen? ⟨g,j,none⟩=false:=by
 rcases h.2 with⟨rfl,Z⟩ | ⟨J,cap,cur,rfl,hb,G,_⟩
 ·cases H
 ·have e:J=g:=Oh H;subst e;unfold World.frozen?;simp only [G];simp
end
def my (k a b:UInt8)(s:Tx)(q:Bool):List Value:=[.int .u8 k.toNat,.int .u8 a.toNat,.int .u8 b.toNat,.string (ay s),.bool q]
def B4:Off UInt8->List Value->Prop
 | .tau p,cs=>∃a b s,cs=my 126 a b p.text s
 | .snd a b p,cs=>∃s,cs=my 33 a b p.text s
 | .rcv a x q s,cs=>cs=my 63 a x q.text s
def fE:List (Off UInt8)->List Value->Prop
 | [],xs=>xs=[]
 | o::os,xs=>∃cs G,xs=cs++G/\B4 o cs/\fE os G
def B4.any {o:Off UInt8}{cs:List Value}(h:B4 o cs):∃(k a b:UInt8) (s:Tx) (q:Bool),cs=my k a b s q:=by
 cases o with
 | tau p=>obtain⟨a,b,s,h⟩:=h;exact⟨_,_,_,_,_,h⟩
 | snd a b p=>obtain⟨s,h⟩:=h;exact⟨_,_,_,_,_,h⟩
 | rcv a b p s=>exact⟨_,_,_,_,_,h⟩
def fE.app:∀{os G:List (Off UInt8)} {xs H:List Value},fE os xs->fE G H->fE (os++G) (xs++H)
 | [],_,xs,H,h,k=>by cases h;exact k
 | o::os,_,xs,H,⟨cs,zs,h1,J,Z⟩,k=>⟨cs,zs++H,by rw [h1,Oi],J,Z.app k⟩
def fE.len:∀{os:List (Off UInt8)} {xs:List Value},fE os xs->xs.length=os.length* 5/\xs.all oneV=true
 | [],xs,h=>by cases h;exact⟨rfl,rfl⟩
 | o::os,xs,⟨cs,zs,h1,G,H⟩=>by
  obtain⟨h4,h5⟩:=H.len;obtain⟨k,a,b,s,q,e⟩:=G.any;subst h1 e;exact⟨by simp [my,h4];omega,by rw [P4,h5];rfl⟩
def fE.at:∀{os:List (Off UInt8)} {xs:List Value},fE os xs->∀{i:Nat} (hi:i< os.length),∃cs,B4 os[i] cs/\∀j,j< 5->xs[i* 5+j]?=cs[j]?
 | o::os,xs,⟨cs,zs,h1,G,J⟩,0,_=>⟨cs,G,λj Z=>by
   obtain⟨k,a,b,s,q,e⟩:=G.any;have hl:cs.length=5:=by rw [e];rfl
   rw [h1,List.getElem?_append_left (by omega)];congr 1;omega⟩
 | o::os,xs,⟨cs,zs,h1,G,J⟩,i+1,hi=>by
   obtain⟨H,k1,k2⟩:=J.at (i:=i) (by simpa using hi);refine⟨H,k1,λj Z=>?_⟩;obtain⟨k,a,b,s,q,e⟩:=G.any;have hl:cs.length=5:=by rw [e];rfl
   rw [h1,List.getElem?_append_right (by omega),<-k2 j Z];congr 1;omega
def fE.one {o:Off UInt8}{cs:List Value}(h:B4 o cs):fE [o] cs:=⟨cs,[],by simp,h,rfl⟩
abbrev tO:Nat:=122
def Cf:∀(n:Nat) {t:P},t.size<=n->Ok t->t.smp=true->t.size<=1000000->∀{w:World} {R:Value->QU},(∀v w' xs,Ex w w'->cy tO w.heap.size w' v (offs t).length xs->fE (offs t) xs->R v w')->QV 109 #[.string (ay t.text)] w (ax [.v] R):=by
 intro n
 induction n with
 | zero=>intro t h;have :=aT t;omega
 | succ n ih=>
  intro t hn ok hs hsz w R h;refine qh _ w R ?_;dsimp only [go_sem];dsimp only [go_sem,Nat.reduceAdd];refine aM ok ?_;have none_:offs t=[]->R (.slice none 0 0) w:=λe=>by
   have :=h (.slice none 0 0) w [] (Ex.refl w);rw [e]at this;exact this (cy.nil _ _ _) rfl
  cases t with
  | nil=>repeat' first | exact none_ rfl | refine aR (by simp [T.kind]) ?_
  | par p q=>repeat' first | exact none_ rfl | refine aR (by simp [T.kind]) ?_
  | res x p=>repeat' first | exact none_ rfl | refine aR (by simp [T.kind]) ?_
  | mat a b p=>repeat' first | exact none_ rfl | refine aR (by simp [T.kind]) ?_
  | snd a b p=>
   refine cL rfl (cL rfl ⟨λ _=>True,λw5 θ=>⟨trivial,⟨by omega,by simp [T.text];omega⟩,⟨by omega,by simp [T.text];omega⟩,⟨by omega,by simp [T.text];omega⟩,aM ok ⟨trivial,λb8 w9 J G=>⟨trivial,?_⟩⟩⟩⟩);have x5:Ex w w5:=θ▸Ex.drew w;exact h _ w9 _ (Ex.trans x5 (G▸Ex.alloc w5 _)) (cy.one (cs:=my 33 a b p.text false) rfl x5.size J G) (fE.one ⟨false,rfl⟩)
  | rcv a b p=>
   refine aR (by simp [T.kind]) (cL rfl ⟨λ _=>True,λw5 θ=>⟨trivial,⟨by omega,by simp [T.text];omega⟩,⟨by omega,by simp [T.text];omega⟩,⟨by omega,by simp [T.text];omega⟩,aM ok ⟨trivial,λb8 w9 J G=>⟨trivial,?_⟩⟩⟩⟩);have x5:Ex w w5:=θ▸Ex.drew w;exact h _ w9 _ (Ex.trans x5 (G▸Ex.alloc w5 _)) (cy.one (cs:=my 63 a b p.text false) rfl x5.size J G) (fE.one rfl)
  | tau p=>
   refine aR (by simp [T.kind]) (aR (by simp [T.kind]) (cL rfl ⟨⟨by omega,by simp [T.text];omega⟩,λb8 w9 J G=>?_⟩));exact h _ w9 _ (G▸Ex.alloc w _) (cy.one (cs:=my 126 0 0 p.text false) rfl (ND _) J G) (fE.one ⟨0,0,false,rfl⟩)
  | sum p q=>
   have hs:(p.gp&&q.gp&&(p.smp&&q.smp))=true:=hs;simp only [Nz]at hs;have ι:=ok.parts p (by simp [T.parts]);have χ:=ok.parts q (by simp [T.parts]);have e:(T.sum p q).size=p.size+q.size+1:=by simp only [T.size]
   refine aR (by simp [T.kind]) (aR (by simp [T.kind]) (aR (by simp [T.kind]) (cL rfl (cG ok λv1 w1 x1 ξ=>⟨λw'=>Ex w1 w',λψ ζ=>⟨ζ▸Ex.drew w1,?_⟩⟩))));have H:Ex w1 ψ:=ζ▸Ex.drew w1;refine ξ.FO (i:=0) (x:=p.text) (by omega) rfl (Q:=λn=>_) (ξ.FO (i:=1) (x:=q.text) (by omega) rfl (Q:=λn=>_) ?_);have Z:=Ex.trans x1 H;refine ih (by omega) ι hs.2.1 (by omega) λv26 w27 xs β γ ο=>⟨Ex.trans H β,ih (by omega) χ hs.2.2 (by omega) λv28 ω ys δ ς η=>⟨Ex.trans H (Ex.trans β δ),?_⟩⟩
   have ε:=Ex.trans Z (Ex.trans β δ);have l1:=oS p;have l2:=oS q;refine cy.push ((γ.ex δ).mono Z.size) ε.size (ς.src η.len.2) (by omega) (by omega) λv35 υ ho hg hn=>?_
   have b36:Below w.heap.size ω υ:=Below.grown (QK _ _) hg ε.size λk hk=>by have :=(γ.block k hk).1;have :=Z.size;omega
   refine⟨Below.trans (Ex.trans H (Ex.trans β δ)) ?_,h _ υ _ (Ex.below ε b36) (by rw [show(offs (T.sum p q)).length=(offs p).length+(offs q).length from NB];exact ho) (ο.app η)⟩;exact Below.grown (QK _ _) hg (Ex.trans H (Ex.trans β δ)).size λk hk=>by have :=(γ.block k hk).1;have :=H.size;omega
  | rep p=>
   have κ:(p.isR&&p.smp)=true:=hs;simp only [Nz]at κ;have ι:=ok.parts p (by simp [T.parts]);refine aR (by simp [T.kind]) (aR (by simp [T.kind]) (aR (by simp [T.kind]) (aR (by simp [T.kind]) (cL rfl ⟨⟨by omega,by simp [T.text];omega⟩,?_⟩))));have e:(T.rep p).size=p.size+1:=by simp only [T.size]
   refine ih (t:=p) (by omega) ι κ.2 (by omega) λv w1 xs x1 ho hm=>?_
   cases p<;>try (simp [T.isR]at κ;done)
   rename_i a b q;obtain⟨cs,ys,rfl,μ,rfl⟩:=hm;have μ:cs=my 63 a b q.text false:=μ;subst μ;have hl1:(offs (T.rcv a b q)).length=1:=rfl;rw [hl1]at ho;rcases ho.cell with⟨_,h0,_⟩ | ⟨g,cap,rfl,hg,hc⟩
   ·cases h0
   have hfr:=ho.fr (g:=g) rfl;have hgb:=(ho.block g rfl).1;refine⟨_,_,cap,rfl,λx w'=>(x=0/\w'=w1)\/(x=1/\w'=w1.setCell ⟨g,4,none⟩ (.bool true)),λx _=>(1 - x).toNat,.inl ⟨rfl,rfl⟩,λx w' hI=>⟨λν=>?_,λν=>?_⟩⟩
   ·rcases hI with⟨rfl,rfl⟩ | ⟨rfl,_⟩
    ·have c4:w'.cell? ⟨g,4,none⟩=some (.bool false):=hc 4 _ rfl;refine⟨g,0,_,cap,rfl,by omega,by omega,⟨⟨_,c4⟩,hfr 4⟩,λw51 φ=>⟨by omega,.inr ⟨rfl,φ⟩,by show((1:Int) - (0+1)).toNat< ((1:Int) - 0).toNat;decide⟩⟩
    ·simp at ν
   ·rcases hI with⟨rfl,_⟩ | ⟨_,rfl⟩
    ·simp at ν
    ·exact h _ _ _ (Ex.own x1 hgb _) (ho.set rfl (by simp [my])) (fE.one rfl)
structure Jv (B b r:Nat)(fs:Tx)(w:World)(all:List Tx)(n:Nat)(mm:Value->Option Value)(L:Nat->Prop):Prop where
 lb:B<=b
 lt:b< w.heap.size
 lr:B<=r
 br:b≠r
 f:∀j,w.frozen? ⟨b,j,none⟩=false
 c0:w.cell? ⟨b,0,none⟩=some (.string (ay fs))
 c2:w.cell? ⟨b,2,none⟩=some (.map (some r))
 mp:IsMap w r .string mm
 ml:∀g,L g->B<=g/\g< w.heap.size/\g≠b/\g≠r
 sl:∃v,w.cell? ⟨b,1,none⟩=some v/\Own B w v all/\∀g,v.ownBlock=some g->g≠b/\g≠r/\¬L g
 nx:∀j (h:j< all.length),j< n->∃v l,mm (.string (ay all[j]))=some v/\M8 all[j]=some l/\Strs w v l/\∀g,v.ownBlock=some g->L g
section
variable {B b r n:Nat} {fs:Tx} {w w':World} {all:List Tx} {mm:Value->Option Value} {L:Nat->Prop}
def Jv.ex (h:Jv B b r fs w all n mm L)(x:Ex w w'):Jv B b r fs w' all n mm L:=by
 obtain⟨v,h1,H,J⟩:=h.sl;have s:=x.size;refine⟨h.lb,by have :=h.lt;omega,h.lr,h.br,λj=>by rw [Pw x h.lt];exact h.f j,by rw [x.cell (a:=⟨b,0,none⟩) h.lt];exact h.c0,by rw [x.cell (a:=⟨b,2,none⟩) h.lt];exact h.c2,jc h.mp (x.block r (iZ h.mp)),λg G=>⟨(h.ml g G).1,by have :=(h.ml g G).2.1;omega,(h.ml g G).2.2⟩,⟨v,by rw [x.cell (a:=⟨b,1,none⟩) h.lt];exact h1,H.ex x,J⟩,λj Z hn=>?_⟩;obtain⟨v',l,h4,h5,h6,h7⟩:=h.nx j Z hn;exact⟨v',l,h4,h5,h6.ex x,h7⟩
def Kp.Ks (k:df w w' r):Kp w w' λg=>g=r:=⟨k.os,k.tape,k.output,Nat.le_of_eq k.size.symm,λg _ G=>k.block g G⟩
def ub {v:Value}{g off m cap:Nat}(h:v= .slice (some ⟨g,off,none⟩) m cap):v.ownBlock=some g:=by rw [h];rfl
def Jv.aG (h:Jv B b r fs w all n mm L)(hB:B<=w.heap.size){w1:World}(x:Ex w w1)(hn:n< all.length){v:Value}{l:List Tx}(hl:M8 all[n]=some l)(hm:IsMap w' r .string (fU mm (.string (ay all[n])) v))(k:df w1 w' r)(hs:Strs w1 v l)(H:∀g,v.ownBlock=some g->w.heap.size<=g):
  Jv B b r fs w' all (n+1) (fU mm (.string (ay all[n])) v) λg=>L g\/v.ownBlock=some g:=by
 have h1:=h.ex x;have θ:=h.lt;have hr:=iZ h.mp;have kp:=Kp.Ks k;have eb:=k.block b h.br;have γ:∀g,v.ownBlock=some g->g< w1.heap.size:=λg G=>by
  rcases hs with⟨e,_⟩ | ⟨b',off,cap,e,h2,_⟩
  ·rw [e]at G;cases G
  ·rw [e]at G;cases G;exact h2
 obtain⟨vo,k1,k2,k3⟩:=h1.sl;obtain⟨δ,ε,ζ,ι⟩:=h.sl;have η:vo=δ:=by
  have :=x.cell (a:=⟨b,1,none⟩) h.lt;rw [k1,ε]at this;exact Oh this
 subst η;refine⟨h.lb,by have :=k.size;have :=h1.lt;omega,h.lr,h.br,λj=>by rw [N5 (w:=w1) eb];exact h1.f j,by rw [Nw (w:=w1) eb];exact h1.c0,by rw [Nw (w:=w1) eb];exact h1.c2,hm,λg G=>?_,⟨vo,by rw [Nw (w:=w1) eb];exact k1,k2.kp kp λg G=>(k3 g G).2.1,λg G=>⟨(k3 g G).1,(k3 g G).2.1,λe=>e.elim (k3 g G).2.2 λe=>?_⟩⟩,λj hj κ=>?_⟩
 ·rcases G with G | G
  ·have :=h1.ml g G;exact⟨this.1,by have :=k.size;omega,this.2.2⟩
  ·have h2:=H g G;have h3:=γ g G;exact⟨by omega,by have :=k.size;omega,by omega,by omega⟩
 ·have h2:=H g e;have h3:=ζ.block g G;omega
 ·have J:∀{v':Value} {l':List Tx},Strs w1 v' l'->(∀g,v'.ownBlock=some g->g≠r)->Strs w' v' l':=λhs H=>hs.kp kp λb' off n' cap e Z=>H b' (ub e) Z
  by_cases e:all[j]=all[n]
  ·refine⟨v,l,by rw [e];unfold fU;simp,by rw [e];exact hl,J hs λg G=>by have :=H g G;omega,λg G=> .inr G⟩
  ·have β:j< n:=by
    have:j≠n:=λZ=>e (by subst Z;rfl)
    omega
   obtain⟨v',l',h4,h5,h6,h7⟩:=h1.nx j hj β;refine⟨v',l',?_,h5,J h6 λg G=>(h1.ml g (h7 g G)).2.2.2,λg G=> .inl (h7 g G)⟩;unfold fU;rw [NS]
   ·exact h4
   ·intro Z;exact e (DA (Value.string.inj Z))
def Jv.app (h:Jv B b r fs w all n mm L)(hn:n<=all.length)(hB:B<=w.heap.size){v:Value}(hv:w.cell? ⟨b,1,none⟩=some v){s:Tx}{w1 G:World}(x:Ex w w1){v':Value}(ho:Own B G v' (all++[s]))(H:w1.grownBy G v.ownBlock)(γ:∀g,v'.ownBlock=some g->v.ownBlock=some g\/w1.heap.size<=g):
  ((∃u,G.cell? ⟨b,1,none⟩=some u)/\G.frozen? ⟨b,1,none⟩=false)/\∀w',w'=G.setCell ⟨b,1,none⟩ v'->Jv B b r fs w' (all++[s]) n mm L/\Below B w w':=by
 have h1:=h.ex x;obtain⟨vo,k1,k2,k3⟩:=h1.sl;have δ:vo=v:=by
  have :=x.cell (a:=⟨b,1,none⟩) h.lt;rw [k1,hv]at this;exact Oh this
 subst δ;have k:Kp w1 G λg=>vo.ownBlock=some g:=Kp.aF H λ _ h=>h
 have s1:=x.size;have ε:=h1.lt;have e2:=k.block b ε λe=>(k3 b e).1 rfl
 have c1:G.cell? ⟨b,1,none⟩=some vo:=by rw [Nw (w:=w1) e2];exact k1
 have f2:∀j,G.frozen? ⟨b,j,none⟩=false:=λj=>by rw [N5 (w:=w1) e2];exact h1.f j
 refine⟨⟨⟨_,c1⟩,f2 1⟩,λw' J=>?_⟩;have kr:Kr b G w':=J▸Kr.set G 1 _;have sk:=k.size;have sr:=kr.size;have ζ:=iZ h1.mp;have Z:∀g,v'.ownBlock=some g->g≠b/\g≠r/\¬L g:=λg H=>(γ g H).elim (k3 g) λe=>⟨by omega,by omega,λhL=>by have :=(h1.ml g hL).2.1;omega⟩
 have η:∀{g},g≠b->g< w1.heap.size->vo.ownBlock≠some g->w'.heap[g]?=w1.heap[g]?:=λ{g} h3 h4 h5=>(kr.block g (by omega) h3).trans (k.block g h4 h5)
 refine⟨⟨h.lb,by omega,h.lr,h.br,λj=>by rw [J,NY];exact f2 j,?_,?_,jc h1.mp (η h.br.symm ζ λe=>(k3 r e).2.1 rfl),λg H=>⟨(h1.ml g H).1,by have :=(h1.ml g H).2.1;omega,(h1.ml g H).2.2⟩,⟨v',by rw [J];exact NW _ _ _ c1,ho.kp kr λg H=>(Z g H).1,Z⟩,λj hj θ=>?_⟩,?_⟩
 ·rw [J,NC _ _ _ _ (by simp),Nw (w:=w1) e2];exact h1.c0
 ·rw [J,NC _ _ _ _ (by simp),Nw (w:=w1) e2];exact h1.c2
 ·have β:j< all.length:=by omega
  rw [Qa β];obtain⟨v2,l2,h4,h5,h6,h7⟩:=h1.nx j β θ;have kk:Kp w1 w' λg=>vo.ownBlock=some g\/g=b:=Kp.trans (Kp.mono (λ _ h=> .inl h) k) kr λ _ _ h=> .inr h
  exact⟨v2,l2,h4,h5,h6.kp kk λb' off n' cap e e'=>e'.elim (λe'=>(k3 b' e').2.2 (h7 b' (ub e))) λe'=>(h1.ml b' (h7 b' (ub e))).2.2.1 e',h7⟩
 ·have b1:Below B w w1:=Below.mono x hB;have b2:Below B w1 G:=Kp.below k (by omega) λg H e=>by have :=(k2.block g e).1;omega
  have b3:Below B G w':=Kp.below kr (by omega) λg H e=>by have :=h.lb;omega
  exact Below.trans (Below.trans b1 b2) b3
end
def Gr (w0:World)(o0:Value)(w:World)(o:Value):Prop:=Kp w0 w (λg=>o0.ownBlock=some g)/\∀g,o.ownBlock=some g->o0.ownBlock=some g\/w0.heap.size<=g
def Gr.refl (w:World)(o:Value):Gr w o w o:=⟨Kp.ah (Ex.refl w) _,λ _ h=> .inl h⟩
def Gr.size {w0 w:World}{o0 o:Value}(h:Gr w0 o0 w o):w0.heap.size<=w.heap.size:=h.1.size
def Gr.trans {a b c:World}{G H J:Value}(h:Gr a G b H)(k:Gr b H c J):Gr a G c J:=
 ⟨Kp.trans h.1 k.1 λg Z e=>(h.2 g e).resolve_right λe'=>by omega,λg Z=>(k.2 g Z).elim (λe=>h.2 g e) λe=> .inr (OC h.1.size e)⟩
def Gr.ex {w0 w w':World}{o0 o:Value}(h:Gr w0 o0 w o)(x:Ex w w'):Gr w0 o0 w' o:=h.trans ⟨Kp.ah x _,λ _ e=> .inl e⟩
def Gr.grown {w0 w w':World}{o0 o G:Value}(h:Gr w0 o0 w o)(H:w.grownBy w' o.ownBlock)(J:∀g,G.ownBlock=some g->o.ownBlock=some g\/w.heap.size<=g):Gr w0 o0 w' G:=
 h.trans ⟨Kp.aF H λ _ e=>e,J⟩
def Gr.nil {w0 w:World}{o0 o:Value}(h:Gr w0 o0 w o)(G:o0.ownBlock=none):Ex w0 w:=by
 obtain⟨k,_⟩:=h;exact⟨k.os,k.tape,k.output,k.size,λg H=>k.block g H (by rw [G];simp)⟩
structure E6 (B:Nat)(w0:World)(o0:Value)(fine:Bool)(out:Value)(w:World)(acc:List U):Prop where
 gr:Gr w0 o0 w out
 ow:Own B w out (outs acc)
 fi:fine=Hl acc
 hB:B<=w0.heap.size
section
variable {B:Nat} {w0 w w':World} {o0 out:Value} {fine:Bool} {acc:List U}
def E6.ex (h:E6 B w0 o0 fine out w acc)(x:Ex w w'):E6 B w0 o0 fine out w' acc:=⟨h.gr.ex x,h.ow.ex x,h.fi,h.hB⟩
def E6.start (h:E6 B w0 o0 fine out w acc):E6 B w out fine out w acc:=⟨Gr.refl _ _,h.ow,h.fi,OC h.hB h.gr.size⟩
def E6.back {w1:World}{H J:Value}{f2:Bool}{G:List U}(h:E6 B w0 o0 fine H w1 acc)(k:E6 B w1 H f2 J w G):E6 B w0 o0 f2 J w G:=⟨h.gr.trans k.gr,k.ow,k.fi,h.hB⟩
def E6.lt (h:E6 B w0 o0 fine out w acc):∀g,out.ownBlock=some g->g< w.heap.size:=λg G=>(h.ow.block g G).2
end
def CJ {c:Nat}:∀{l:List Tx},(∀s∈l,s.length<=c)->dh l<=l.length* (c+3)
 | [],_=>by simp [dh]
 | s::l,h=>by
  have h1:=h s (by simp);have H:=CJ (c:=c) (l:=l) λx G=>h x (by simp [G])
  rw [dK,Nv,Nat.succ_mul];omega
def FX {X:Type}(l:List X)(i j:Nat):(wo l i j).length<=l.length:=by
 unfold wo;rw [NH];exact OC (PH _ _) (by simp)
def Ls {X Y:Type}(f:X->Y)(l:List X)(i j:Nat):wo (l.map f) i j=(wo l i j).map f:=by
 rw [BC,BC,xx]
def lens {u:U}(ζ:u.size<=60):u.ths.length<=60/\(∀i (h:i< u.ths.length),(offs u.ths[i]).length<=60)/\(∀i k c d p (l:List (Off Nat)),l.length<=60->(l.flatMap (E3 u i k c d p)).length<=60)/\(∀i c d p k,k<=u.ths.length->((List.range k).flatMap (E2 u i c d p)).length<=3600)/\
  (∀i j (h:i< u.ths.length),(((offs u.ths[i]).take j).flatMap (E1 u i)).length<=216000)/\∀i,i<=u.ths.length->((List.range i).flatMap (E0 u)).length<=12960000:=by
 have Z:u.ths.length<=60:=by have :=xt u;omega
 have J:∀i (h:i< u.ths.length),(offs u.ths[i]).length<=60:=λi h=>by
  have h1:=oS u.ths[i];have h2:=kc u _ (NO h);omega
 have β:∀i k c d p (l:List (Off Nat)),l.length<=60->(l.flatMap (E3 u i k c d p)).length<=60:=λi k c d p l hl=>by
  have h1:=sF (f:=E3 u i k c d p) (c:=1) (l:=l) λx _=>by
   cases x with
   | rcv e' x q s=>unfold E3;simp only;split<;>simp
   | _=>simp [E3]
  omega
 have δ:∀i c d p k,k< u.ths.length->(E2 u i c d p k).length<=60:=λi c d p k hk=>by
  unfold E2;split
  ·simp
  ·rw [dW hk];exact β i k c d p _ (J k hk)
 have G:∀i c d p k,k<=u.ths.length->((List.range k).flatMap (E2 u i c d p)).length<=3600:=λi c d p k hk=>by
  have h1:=sF (f:=E2 u i c d p) (c:=60) (l:=List.range k) λx hx=>δ i c d p x (by have :=Pg.1 hx;omega)
  rw [Qr]at h1;omega
 have ε:∀i o,(E1 u i o).length<=3600:=λi o=>by
  cases o with
  | tau p=>simp [E1]
  | rcv=>simp [E1]
  | snd c d p=>exact G i c d p _ (ND _)
 have H:∀i j (h:i< u.ths.length),(((offs u.ths[i]).take j).flatMap (E1 u i)).length<=216000:=λi j h=>by
  have h1:=sF (f:=E1 u i) (c:=3600) (l:=(offs u.ths[i]).take j) λx _=>ε i x
  rw [Og]at h1;have :=J i h;omega
 refine⟨Z,J,β,G,H,λi hi=>?_⟩;have h1:=sF (f:=E0 u) (c:=216000) (l:=List.range i) λx hx=>by
  have hx:=Pg.1 hx;have γ:x< u.ths.length:=by omega
  have :=H x (offs u.ths[x]).length γ;rw [Od]at this;unfold E0;rw [dW γ];exact this
 rw [Qr]at h1;omega
abbrev tS:Nat:=9
def MH (w:World)(v src:Value)(K:Value->QU):Prop:=
 ∃(base n m:Nat) (xs news:List Value),World.ownsRow w base tS 1 v n xs/\base<=Array.size (World.heap w)/\dw w src m 1 news/\(n+m<=maxLen/\(n+m)* 16<=140737488355328)/\
  ∀(v':Value) (w':World),World.ownsRow w' base tS 1 v' (n+m) (xs++news)->World.grownBy w w' (Value.ownBlock v)->(∀b:Nat,Value.ownBlock v'=some b->Value.ownBlock v=some b\/Array.size (World.heap w)<=b)->K v' w'
def J0 {B:Nat}{w:World}{v x:Value}{l m:List Tx}(h:Own B w v l)(hB:B<=w.heap.size)(G:Strs w x m)(H:l.length+m.length<=1099511627776){K:Value->QU}(J:∀v' w',Below B w w'->Own B w' v' (l++m)->K v' w'):MH w v x K:=
 Own.push h hB G H λv' w' b o _ _=>J v' w' b o
def Mb {ps:List P}(h:∀q∈ps,q.aK<=300)(G:ps.length<=63):dh (ps.map T.text)<=1000000000:=by
 have h1:=CJ (c:=300) (l:=ps.map T.text) λs H=>by
  obtain⟨q,J,rfl⟩:=Oe.1 H;rw [aP];exact h q J
 rw [NH]at h1;have :=QL G (ND 303);omega
def Kj {t:P}(ok:nE t):t.ths.length<=60/\∀q∈t.ths,q.size<=60/\q.aK<=300:=by
 have H:=ok.size;have h1:∀t:P,t.ths.length<=t.size/\∀q∈t.ths,q.size<=t.size:=by
  intro t
  induction t with
  | nil=>simp [T.ths]
  | par p q _ G=>
   refine⟨by have :=G.1;simp only [T.ths,Nv,T.size];omega,λr hr=>?_⟩;rcases NV.1 hr with rfl | hr
   ·simp only [T.size];omega
   ·have :=G.2 r hr;simp only [T.size];omega
  | res x p G=>exact⟨by have :=G.1;simp only [T.ths,T.size];omega,λr hr=>by have :=G.2 r hr;simp only [T.size];omega⟩
  | _=>simp [T.ths,T.size]
 refine⟨by have :=(h1 t).1;omega,λq J=>?_⟩;have Z:=(h1 t).2 q J;have h3:=iL q;omega
section
variable {t:P} {u:U} {w:World} {v5 out:Value} {b1 b2 B:Nat} {fine:Bool} {acc:List U}
end
def HG {e B:Nat}{w:World}{v:Value}{os:List (Off UInt8)}{xs:List Value}(G:cy e B w v os.length xs)(hm:fE os xs){j:Nat}(H:j< os.length):∃(g cap:Nat) (cs:List Value),v= .slice (some ⟨g,0,none⟩) os.length cap/\B4 os[j] cs/\∀i u,cs[i]?=some u->∀off,off=j* 5+i->i< 5->w.cell? ⟨g,off,none⟩=some u:=by
 obtain⟨cs,h1,J⟩:=hm.at H;rcases G.cell with⟨_,h0,_⟩ | ⟨g,cap,rfl,_,Z⟩
 ·omega
 ·refine⟨g,cap,cs,rfl,h1,λi u hu off he hi=>?_⟩;have :=Z (j* 5+i) u (by rw [J i hi];exact hu);rw [he];rwa [N2]at this
def Mx {w w1:World}{g e:Nat}{cs:List Value}{c0:Array Value}(β:cs.length=5)(h0:c0.size=5)(hg:g=w.heap.size)(G:w1=w.alloc (.cells c0 e)):
  (∀j,j< 5->(∃u,w1.cell? ⟨g,0+j,none⟩=some u)/\w1.frozen? ⟨g,0+j,none⟩=false)/\∀H,H=World.setCells w1 g 0 cs->Ex w H/\g< H.heap.size/\∀j,j< 5->H.cell? ⟨g,j,none⟩=cs[j]?:=by
 have hc:∀j,j< 5->∃u,w1.cell? ⟨g,0+j,none⟩=some u:=λj J=>by
  rw [G,hg];have:∃u,c0[0+j]?=some u:=by
   rw [N2];exact⟨_,P3 (by omega)⟩
  obtain⟨u,hu⟩:=this;exact⟨u,aa hu⟩
 refine⟨λj J=>⟨hc j J,by rw [G,hg];exact aV _ _ _ _⟩,λH Z=>?_⟩;obtain⟨k,_,_,sc⟩:=a8 (b:=g) cs w1 0;rw [<-Z]at k sc;have x1:Ex w w1:=G▸Ex.alloc _ _;have s1:w1.heap.size=w.heap.size+1:=by rw [G,size_alloc]
 have s2:=k.size;refine⟨Ex.below x1 (Kp.below k x1.size λb hb e=>by omega),by omega,λj J=>?_⟩;have :=sc j (λi hi=>hc i (by omega)) (by omega)
 rwa [N2]at this
def Gz {k a b:UInt8}{s:Tx}{q:Bool}:(my k a b s q).all oneV=true:=rfl
def Gr.cell {w0 w:World}{o0 o:Value}(h:Gr w0 o0 w o){a:Addr}(ha:a.block< w0.heap.size)(G:o0.ownBlock≠some a.block):w.cell? a=w0.cell? a:=by
 cases a with
 | mk b i t=>exact Nw (w:=w0) (h.1.block b ha G)
def Gr.strs {w0 w:World}{o0 o v:Value}{l:List Tx}(h:Gr w0 o0 w o)(H:Strs w0 v l)(G:∀g,v.ownBlock=some g->o0.ownBlock≠some g):Strs w v l:=
 H.kp h.1 λb off n cap e J=>G b (ub e) J
def cy.gr {e B:Nat}{w0 w:World}{o0 o v:Value}{n:Nat}{xs:List Value}(h:cy e B w0 v n xs)(k:Gr w0 o0 w o)(G:∀g,v.ownBlock=some g->o0.ownBlock≠some g):cy e B w v n xs:=
 h.kp k.1 G
def cy.slice {e B:Nat}{w:World}{v:Value}{n:Nat}{xs:List Value}(h:cy e B w v n xs):∃a cap,v= .slice a n cap:=by
 rcases h.cell with⟨h1,G,_⟩ | ⟨g,cap,h1,_⟩
 ·exact⟨none,0,by rw [h1,G]⟩
 ·exact⟨_,cap,h1⟩
def ρZ (d:Nat):Rh:=λz=>if z=d then 90 else ρ0 z
structure MT (O:List Nat)(F:List UInt8)(d:Nat)(p:P)(q:U):Prop where
 ae:AE UInt8.toNat p (λz=>(asg O F (ρZ d) z).toNat) q
 wf:p.wf=true
 eb:Eb 0 p
 fr:∀z,q.Fr z->z∈O\/z=d\/(z< 26/\ρ0 z∉F)
def JV (k:Nat):okn k 90:= .inl (by show(90:UInt8).toNat< _;have:(90:UInt8).toNat=90:=rfl;omega)
def Dg {p:P}(H:∀z,p.Fr z->lt z=true\/z=90):∀{l:List UInt8} {k:Nat},Eb k p->(∀c∈l,lt c=true)->Eb k (resL l p)
 | [],_,G,_=>G
 | c::l,k,G,h=>by
  refine⟨⟨nj (h c (by simp)),λz J _=>?_⟩,Dg H (G.mono (by omega)) λx Z=>h x (NJ _ Z)⟩;rcases H z (c8.1 J).2 with e | rfl
  ·exact yi e k
  ·exact JV k
structure LF (d:Nat)(W:P)(V:U):Prop where
 ae:AE UInt8.toNat W (λz=>(ρZ d z).toNat) V
 wf:W.wf=true
 eb:Eb 0 W
 bd:W.pm<=64
 len:W.aK<=1000000000
 fr:∀z,V.Fr z->z=d\/z< 26
 uq:Uq V
 bv:∀x∈BV V,26<=x
 lb:∀f:Nat->Nat,Lb 0 (V.map f)
def pc {A B:Type}(f:A->B)(p:T A):∀l:List A,(resL l p).map f=resL (l.map f) (p.map f)
 | []=>rfl
 | c::l=>by simp only [resL,N4,T.map,pc f p l]
def nJ {A B:Type}(f:A->B):∀l:List (T A),(parL l).map f=parL (l.map (T.map f))
 | []=>rfl
 | [p]=>rfl
 | p::q::l=>by simp only [parL,N4,T.map];rw [nJ f (q::l)];rfl
def Gp {O:List Nat}{F:List UInt8}{d:Nat}(hd:26<=d)(θ:d∉O)(hl:O.length=F.length)(hF:F.Nodup)(H:∀c∈F,lt c=true)(ho:∀x∈O,26<=x){ps:List P}{us:List U}(h:gD (MT O F d) ps us)(nd:(O++us.flatMap BV).Nodup)(bv:∀x∈us.flatMap BV,26<=x)(ι:d∉us.flatMap BV)
  (hb:∀p∈ps,F.length+p.rd+p.ow<=59) (κ:F.length+(parL ps).ow<=64) (ο:(parL ps).aK<=900000000) (ς:F.length<=300):LF d (resL F (parL ps)) (resL O (parL us)):=by
 have μ:lt 90=false:=by decide
 have β:∀z,(resL O (parL us)).Fr z->z=d\/(z< 26/\ρ0 z∉F):=λz J=>by
  obtain⟨h1,h2⟩:=c8.1 J;obtain⟨q,hq,γ⟩:=iw.1 h2;obtain⟨p,Z,δ⟩:=h.AF hq;exact(δ.fr z γ).resolve_left h1
 have ζ:AE UInt8.toNat (parL ps) (λz=>(asg O F (ρZ d) z).toNat) (parL us):=AE.Lp (h.mono λp q k=>k.ae);have nF:∀z,z=d\/(z< 26/\ρ0 z∉F)->ρZ d z∉F:=λz J hm=>by
  unfold ρZ at hm;rcases J with rfl | ⟨h1,h2⟩
  ·rw [N' rfl]at hm;have :=H _ hm;rw [μ]at this;cases this
  ·rw [NS (by omega)]at hm;exact h2 hm
 have ae:AE UInt8.toNat (resL F (parL ps)) (λz=>(ρZ d z).toNat) (resL O (parL us)):=AE.DM O F (ρZ d) hl hF (λz J G=>nF z (β z (c8.2 ⟨G,J⟩))) ζ;have ν:∀c,(parL ps).Fr c->lt c=true\/c=90:=λc hc=>by
  obtain⟨z,J,e⟩:=ζ.free c hc;have e:=N6.1 e;obtain⟨q,hq,γ⟩:=iw.1 J;obtain⟨p,Z,δ⟩:=h.AF hq;by_cases G:z∈O
  ·left;rw [<-e];exact H _ (cZ O F _ z G hl)
  ·rw [<-e,bz _ _ _ _ G];unfold ρZ;rcases(δ.fr z γ).resolve_left G with rfl | ⟨h1,_⟩
   ·right;exact N' rfl
   ·left;rw [NS (by omega)];exact DH h1
 have ε:BV (resL O (parL us))=O++us.flatMap BV:=by rw [dP,dT]
 have η:∀x∈BV (resL O (parL us)),26<=x:=λx hx=>by
  rw [ε]at hx;exact(NI.1 hx).elim (ho x) (bv x)
 have ξ:Uq (resL O (parL us)):=⟨by rw [ε];exact nd,λx hx hf=>by
  have h1:=η x hx;rcases β x hf with rfl | h2
  ·rw [ε]at hx;exact(NI.1 hx).elim θ ι
  ·omega⟩
 obtain⟨k1,k2,k3,k4⟩:=rB (parL ps) F;refine⟨ae,wV (wW λp Z=>by obtain⟨q,_,k⟩:=h.Jw Z;exact k.wf) H,Dg ν (xg λp Z=>by obtain⟨q,_,k⟩:=h.Jw Z;exact k.eb) H,by have :=yD (R:=64 - F.length) (l:=ps) λp Z=>(by have :=hb p Z;omega);rw [yI];omega,by rw [k4];omega,λz J=>(β z J).imp id And.left,ξ,η,λf=>?_⟩;rw [pc,nJ];refine Dc (by rw [<-nJ,<-pc,yf,nM ae,k2];exact κ) λx hx=>?_
 obtain⟨q,hq,rfl⟩:=Oe.1 hx;obtain⟨p,Z,k⟩:=h.AF hq;have :=hb p Z;rw [Cq,yf,Cy k.ae,nM k.ae];omega
def LF.ok {d:Nat}{W:P}{V:U}(h:LF d W V):Ok W/\Eb 0 W/\0+W.bd<=64:=⟨⟨h.wf,by rw [aP];have :=h.len;omega⟩,h.eb,by have :=T.tD W;have :=h.bd;omega⟩
def EZ.uq {N d c:Nat}{q:U}{f:Nat->Nat}(J:EZ N q d c f)(hq:Uq q)(hN:∀z,q.Fr z->z<=N)(hc:c<=N):Uq (q.map f):=by
 have hm:∀z∈BV (q.map f),N< z:=λz G=>by
  rw [dS]at G;obtain⟨y,hy,rfl⟩:=Oe.1 G;exact J.fb y hy
 refine⟨?_,λz G Z=>?_⟩
 ·rw [dS];have:∀l:List Nat,l.Nodup->(∀z∈l,z∈BV q)->(l.map f).Nodup:=by
   intro l
   induction l with
   | nil=>intro _ _;exact O8
   | cons y l ih=>
    intro H hm;have H:=OB.1 H;refine OB.2 ⟨λh=>?_,ih H.2 λz G=>hm z (NJ _ G)⟩;obtain⟨z,G,e⟩:=Oe.1 h;exact H.1 (J.fi z (hm z (NJ _ G)) y (hm y (Oa ..)) e▸G)
  exact this _ hq.nd λ _ h=>h
 ·have h1:=hm z G;rcases J.fr hq z Z with rfl | ⟨_,h2⟩
  ·omega
  ·have :=hN z h2;omega
def LF.den {d N c:Nat}{W W2:P}{V:U}{f:Nat->Nat}(h:LF d W V)(hc:c< 26)(β:d∉BV V)(hf:EZ N V d c f)(hN:∀z,V.Fr z->z<=N)(hB:∀z∈BV V,z<=N)(ζ:25<=N)(hr:eo 0 W 90 (ρ0 c) W2):hU 0 W2 σ0 (V.map f):=by
 have γ:=AE.renamed hr.ok (u:=V) (ρ:=UInt8.toNat) (λx _ e=>N6.1 e) h.ae;have δ:AE UInt8.toNat W2 (aG σ0 d (σ0 c)) V:=γ.congr (λ _ _=>rfl) λz G=>by
  by_cases e:z=d
  ·subst e;have:(ρZ z z).toNat=(90:UInt8).toNat:=by unfold ρZ;rw [N' rfl]
   rw [this,N' rfl,cB];exact de hc
  ·have ε:z< 26:=(h.fr z G).resolve_left e;have h1:(ρZ d z).toNat=σ0 z:=by unfold ρZ;rw [NS e];exact de ε
   have h2:(90:UInt8).toNat=90:=rfl;rw [h1,h2,bB _ _ e,NS];unfold σ0;omega
 have ae:=δ.trans (hf.ae h.uq β hN (by omega) hB σ0);have H:=hf.uq h.uq hN (by omega);obtain⟨g1,g2,g3⟩:=tu hr.shp;have J:∀z,(V.map f).Fr z->z< 26:=λz G=>by
  rcases hf.fr h.uq z G with rfl | ⟨h1,h2⟩
  ·exact hc
  ·exact(h.fr z h2).resolve_left h1
 refine⟨⟨hr.wf,by rw [aP,g3];have :=h.len;omega,⟨hr.eb,by rw [T.sC hr.shp];have :=h.bd;omega⟩,ae,λy z _ _ e=>by unfold σ0 at e;omega,H⟩,λz G hG=>?_,⟨H,λy Z=>J y (bf Z),λx hx=>?_⟩,λ _ _=>rfl,h.lb f⟩
 ·obtain⟨y,Z,e⟩:=ae.free z G;have h1:=J y Z;have:z=ρ0 y:=N6.1 (by rw [de h1];exact e.symm);exact absurd hG (dx (nj (this▸DH h1)))
 ·rw [dS]at hx;obtain⟨y,Z,rfl⟩:=Oe.1 hx;have :=hf.fb y Z;omega
def hU.Np {W G:P}{u:U}{old nw:UInt8}(h:hU 0 W σ0 u)(J:¬W.Fr old)(hr:eo 0 W old nw G):hU 0 G σ0 u:=by
 have k:=hr.ok UInt8.toNat;have H:AE UInt8.toNat W UInt8.toNat G:=k.congr (λx Z=>bB _ _ λe=>J (e▸Z)) λ _ _=>rfl
 obtain⟨g1,g2,g3⟩:=tu hr.shp;have ae:=H.symm.trans h.den.ae;have b:=h.den.bd.le;have l:=h.den.len;rw [aP]at l;refine⟨⟨hr.wf,by rw [aP,g3];exact l,⟨hr.eb,by rw [T.sC hr.shp];exact b⟩,ae,h.den.inj,h.den.uq⟩,λz hz hG=>?_,h.nu,h.σ,h.lb⟩;obtain⟨y,hy,e⟩:=H.symm.free z hz;exact h.gf z (N6.1 e▸hy) hG
end
section
open T
def no {X:Type}[DecidableEq X](l:List X)(x:X):List X:=l.filter λy=>decide (y≠x)
def JI {X:Type}[DecidableEq X]{l:List X}{x:X}(h:x∉l):no l x=l:=Pr.2 λy G=>by simp;rintro rfl;exact h G
def eR {X:Type}[DecidableEq X]{l:List X}{x y:X}:y∈no l x↔y∈l/\y≠x:=by unfold no;simp
def qc {X:Type}[DecidableEq X](l:List X)(x:X):(no l x).Sublist l:=List.filter_sublist
def Bp:∀(O:List Nat) (F:List UInt8) (ρ:Rh) (d:Nat),O.Nodup->F.Nodup->O.length=F.length->d∈O->
  (no O d).length=(no F (asg O F ρ d)).length/\∀z,z≠d->asg (no O d) (no F (asg O F ρ d)) ρ z=asg O F ρ z
 | [],_,_,_,_,_,_,h=>by cases h
 | _::_,[],_,_,_,_,h,_=>by cases h
 | x::π,c::l,ρ,d,hO,hF,hl,hd=>by
  have G:=OB.1 hO;have H:=OB.1 hF;have J:π.length=l.length:=by simpa using hl
  by_cases e:x=d
  ·subst e;have e1:asg (x::π) (c::l) ρ x=c:=by rw [asg,bz _ _ _ _ G.1];exact N' rfl
   have e2:no (x::π) x=π:=by unfold no;rw [List.filter_cons_of_neg (by simp)];exact JI G.1
   have e3:no (c::l) c=l:=by unfold no;rw [List.filter_cons_of_neg (by simp)];exact JI H.1
   rw [e1,e2,e3];refine⟨J,λz hz=>?_⟩;rw [asg];exact iK π l _ _ z (by unfold aG;rw [NS hz])
  ·have Z:d∈π:=(NV.1 hd).resolve_left λh=>e h.symm
   have hb:asg (x::π) (c::l) ρ d∈l:=by rw [asg];exact cZ π l _ d Z J
   have β:c≠asg (x::π) (c::l) ρ d:=λh=>H.1 (h▸hb)
   have e2:no (x::π) d=x::no π d:=by unfold no;exact List.filter_cons_of_pos (by simpa using e)
   have e3:no (c::l) (asg (x::π) (c::l) ρ d)=c::no l (asg (x::π) (c::l) ρ d):=by unfold no;exact List.filter_cons_of_pos (by simpa using β)
   have eb:asg (x::π) (c::l) ρ d=asg π l (aG ρ x c) d:=by rw [asg]
   obtain⟨k1,k2⟩:=Bp π l (aG ρ x c) d G.2 H.2 J Z;rw [e2,e3,eb];refine⟨by simp only [Nv];omega,λz hz=>?_⟩;rw [asg,k2 z hz,asg]
section
variable {t:P} {u:U}
def LH.out {O:List Nat}{F:List UInt8}{d:Nat}{p r:P}{q:U}(hO:O.Nodup)(hF:F.Nodup)(J:O.length=F.length)(hd:d∈O)(k:LH O F p q)(hr:eo 0 p (asg O F ρ0 d) 90 r):MT (no O d) (no F (asg O F ρ0 d)) d r q:=by
 have Z:=AE.renamed hr.ok (u:=q) (ρ:=UInt8.toNat) (λx _ e=>N6.1 e) k.ae;have eb:asg O F (ρZ d) d=asg O F ρ0 d:=xD O F _ _ d hd J;have hs:∀z,z≠d->asg (no O d) (no F (asg O F ρ0 d)) (ρZ d) z=asg O F ρ0 z:=λz H=>by
  have h1:=(Bp O F (ρZ d) d hO hF J hd).2 z H;rw [eb]at h1;rw [h1];exact iK O F _ _ z (NS H)
 refine⟨Z.congr (λ _ _=>rfl) λz H=>?_,hr.wf,hr.eb,λz H=>?_⟩
 ·by_cases e:z=d
  ·subst e;rw [N' rfl,bz _ _ _ _ λh=>(eR.1 h).2 rfl];unfold ρZ;rw [N' rfl]
  ·rw [NS,hs z e];intro h;have h:=N6.1 h;by_cases G:z∈O
   ·exact e (rP O F ρ0 z d G hd J hF h)
   ·rw [bz _ _ _ _ G]at h;exact((k.fr z H).resolve_left G).2 (h▸cZ O F ρ0 d hd J)
 ·by_cases e:z=d
  ·exact .inr (.inl e)
  ·rcases k.fr z H with h | ⟨h1,h2⟩
   ·exact .inl (eR.2 ⟨h,e⟩)
   ·exact .inr (.inr ⟨h1,λh=>h2 (eR.1 h).1⟩)
def gD.comp {X Y Z:Type}{R:X->Y->Prop}{S:X->Z->Prop}{Q:Z->Y->Prop}(G:∀x y z,R x y->S x z->Q z y):∀{l:List X} {m:List Y} {n:List Z},gD R l m->gD S l n->gD Q n m
 | _,_,_,.nil,.nil=> .nil
 | _,_,_,.cons h1 H,.cons J k2=> .cons (G _ _ _ h1 J) (gD.comp G H k2)
def zq {k:Nat}{a b:UInt8}{ps rs:List P}(h:gD (λp r=>eo k p a b r) ps rs):ke rs=ke ps/\en rs=en ps/\rs.length=ps.length/\∀r∈rs,∃p∈ps,r.rd=p.rd/\r.ow=p.ow:=by
 induction h with
 | nil=>exact⟨rfl,rfl,rfl,λ _ h=>by cases h⟩
 | cons h _ G=>
  obtain⟨g1,g2,g3⟩:=tu h.shp;obtain⟨i1,i2,i3,i4⟩:=G;refine⟨?_,?_,by simp [i3],λr hr=>?_⟩
  ·simp only [ke,N4,OE]at*;omega
  ·simp only [en,N4,OE]at*;omega
  ·rcases NV.1 hr with rfl | hr
   ·exact⟨_,Oa ..,g1,g2⟩
   ·obtain⟨p,h1,H⟩:=i4 r hr;exact⟨p,NJ _ h1,H⟩
def nE.Jj (ok:nE t){i:Nat}(hi:i< t.ths.length){p:P}(h1:p.rd<=t.ths[i].rd)(h2:p.ow<=t.ths[i].ow)(h3:p.size<=t.ths[i].size):
  (∀x∈wo t.ths i i++[p],t.frL.length+x.rd+x.ow<=59)/\t.frL.length+ke (wo t.ths i i++[p])<=8/\en (wo t.ths i i++[p])<=1000/\(wo t.ths i i++[p]).length<=400:=by
 have hm:=NO hi;have hb:=ok.th hm;obtain⟨n1,n2,J,n4,n5,n6⟩:=ok.Im;have J:=J λe=>by rw [e]at hi;cases hi
 have G:=xr t.ths i hi;have Z:=bT G T.ow;have st:=bT G T.aK;have sl:=G.length_eq;have ss:=bT G T.size;have tl:=iL p;have β:=ok.size;simp only [N4,OE,Nv]at Z st sl ss;simp only [ke,en,qz,Oj,PN,N4,PE,OE,List.sum_nil,NB,Nv,NR]at*;refine⟨λx H=>?_,by omega,by omega,by omega⟩;rcases NI.1 H with H | H
 ·exact ok.th (eX H)
 ·cases NT.1 H;omega
def SU.Jz (su:SU t u){i:Nat}(hi:i< u.ths.length){p:U}(hb:(BV p).Sublist (BV u.ths[i])):(u.frL++(wo u.ths i i++[p]).flatMap BV).Nodup/\∀x∈(wo u.ths i i++[p]).flatMap BV,x∈u.ths.flatMap BV:=by
 refine⟨P5.2 λx=>?_,λx J=>?_⟩
 ·have h1:u.frL.count x+(u.ths.map λy=>(BV y).count x).sum<=1:=su.cnt x;have Z:(BV p).count x<=(BV u.ths[i]).count x:=hb.count_le x;have h3:(u.ths.map λy=>(BV y).count x).sum=(BV u.ths[i]).count x+((wo u.ths i i).map λy=>(BV y).count x).sum:=by
   have :=bT (xr u.ths i hi) λy=>(BV y).count x
   simpa only [N4,OE]using this
  have h4:(u.frL++(wo u.ths i i++[p]).flatMap BV).count x=u.frL.count x+(((wo u.ths i i).map λy=>(BV y).count x).sum+(BV p).count x):=by
   rw [Oo,count_flatMap];simp
  omega
 ·obtain⟨q,G,H⟩:=OF.1 J;rcases NI.1 G with G | G
  ·exact OF.2 ⟨q,eX G,H⟩
  ·cases NT.1 G;exact OF.2 ⟨_,NO hi,hb.subset H⟩
def CY (ok:nE t)(su:SU t u){i:Nat}(hi:i< t.ths.length)(G:i< u.ths.length){a b:UInt8}{c d:Nat}{p:P}{H:U}(ho:Off.snd a b p∈offs t.ths[i])(J:Off.snd c d H∈offs u.ths[i])(Z:AH UInt8.toNat (λz=>(asg u.frL t.frL ρ0 z).toNat) (.snd a b p) (.snd c d H))(hd:d∈u.frL)
  {rs:List P} (β:gD (λp r=>eo 0 p b 90 r) (wo t.ths i i++[p]) rs):LF d (resL (no t.frL b) (parL rs)) (resL (no u.frL d) (parL (wo u.ths i i++[H]))):=by
 obtain⟨sP,_⟩:=bM (su.smpP _ (NO hi)) _ ho;obtain⟨sU,_⟩:=bM (su.smp _ (NO G)) _ J;have al:=(sP.al _ (su.al _ (NO hi))).2.2;have hb:b=asg u.frL t.frL ρ0 d:=N6.1 Z.2.1;subst hb;have s1:=sP.rd;have s2:=sP.ow;have s3:=sP.size;simp only [Off.tm,T.rd,T.ow,T.size]at s1 s2 s3;obtain⟨b1,b2,b3,b4⟩:=ok.Jj hi (p:=p) s1 s2 (by omega);obtain⟨r1,r2,r3,r4⟩:=zq β;obtain⟨k1,_,_,k4,_⟩:=lB rs;have hO:u.frL.Nodup:=(Oc.1 su.nd).1;have hl:=su.len;have e1:=(Bp u.frL t.frL ρ0 d hO su.fn hl hd).1;have e2:(no t.frL (asg u.frL t.frL ρ0 d)).length<=t.frL.length:=(qc _ _).length_le;obtain⟨c1,c2⟩:=su.Jz G ((Ov _).trans (il _ J):(BV H).Sublist (BV u.ths[i]));have γ:=su.ge d (Ob _ hd);have δ:gD (LH u.frL t.frL) (wo t.ths i i++[p]) (wo u.ths i i++[H]):=(su.MZ.wo i i).app (.cons ⟨Z.2.2,T.Al.wf al,T.Al.eb 0 al,λz hz=>su.free z ⟨_,NO G,sU.fr z (.inr (.inr hz))⟩⟩ .nil);refine Gp γ (λh=>(eR.1 h).2 rfl) e1 ((qc _ _).nodup su.fn) (λc hc=>su.fl c (eR.1 hc).1) (λx hx=>su.ge x (Ob _ (eR.1 hx).1)) (δ.comp (λx y z h1 h2=>h1.out hO su.fn hl hd h2) β) ((Pe (qc _ _) (Ov _)).nodup c1) (λx hx=>su.ge x (N1 _ (c2 x hx))) (λh=>(Oc.1 su.nd).2.2 d hd d (c2 d h) rfl) (λr hr=>?_) (by rw [k1,r1];omega) (by omega) (by omega);obtain⟨p1,h1,h2,h3⟩:=r4 r hr;have :=b1 p1 h1;omega
end
section
variable {t:P} {u:U}
def SU.BL (su:SU t u){i:Nat}(hi:i< u.ths.length){c x:Nat}{q:U}{s:Bool}(hr:Off.rcv c x q s∈offs u.ths[i]):Uq q/\x∉BV q/\(∀z,q.Fr z->z=x\/u.ths[i].Fr z)/\∀z∈x::BV q,z∈u.ths.flatMap BV:=by
 have hm:=NO hi;obtain⟨J,_⟩:=bM (su.smp _ hm) _ hr;have Z:=il _ hr;have G:=su.xp hi J Z;exact⟨G.rcv,G.BL,λz H=>(Decidable.em (z=x)).imp id λh=>J.fr z (.inr ⟨h,H⟩),λz H=>OF.2 ⟨_,hm,Z.subset H⟩⟩
end
def kf (u:U)(i:Nat)(p:U)(d:Nat):U:=resL (no u.frL d) (parL (wo u.ths i i++[p]))
def EY (u:U)(i:Nat)(p:U)(d c:Nat):U:=(kf u i p d).map (Ff (NN u) (kf u i p d) d c)
section
variable {t:P} {u:U}
def JO (u:U):26<=NN u:=by unfold NN;omega
def I8 (ok:nE t)(su:SU t u){i:Nat}(hi:i< t.ths.length)(H:i< u.ths.length){a b:UInt8}{c d:Nat}{p:P}{G:U}(ho:Off.snd a b p∈offs t.ths[i])(J:Off.snd c d G∈offs u.ths[i])(γ:AH UInt8.toNat (λz=>(asg u.frL t.frL ρ0 z).toNat) (.snd a b p) (.snd c d G))(hd:d∈u.frL)
  {rs:List P} (δ:gD (λp r=>eo 0 p b 90 r) (wo t.ths i i++[p]) rs) {n:Nat} (hn:n< 26) {W2:P} (hW:eo 0 (resL (no t.frL b) (parL rs)) 90 (ρ0 n) W2):hU 0 W2 σ0 (EY u i G d n):=by
 have oz:=CY ok su hi H ho J γ hd δ;obtain⟨c1,c2⟩:=su.Jz H (p:=G) (il _ J);have hN:=su.bound;have ε:=JO u;have Z:BV (kf u i G d)=no u.frL d++(wo u.ths i i++[G]).flatMap BV:=by unfold kf;rw [dP,dT]
 have β:d∉BV (kf u i G d):=λh=>by
  rw [Z]at h;rcases NI.1 h with h | h
  ·exact(eR.1 h).2 rfl
  ·exact(Oc.1 su.nd).2.2 d hd d (c2 d h) rfl
 have hB:∀z∈BV (kf u i G d),z<=NN u:=λz hz=>by
  rw [Z]at hz;rcases NI.1 hz with h | h
  ·exact hN z (.inl (eR.1 h).1)
  ·exact hN z (.inr (.inl (c2 z h)))
 have hF:∀z,(kf u i G d).Fr z->z<=NN u:=λz hz=>by
  rcases oz.fr z hz with rfl | h
  ·exact hN z (.inl hd)
  ·omega
 exact oz.den hn β (Hg (NN u) n β) hF hB (by omega) hW
end
abbrev Ev:=Tx×Option Tx
noncomputable def bn (u:U)(o:UInt8)(i:Nat):Off Nat->List Ev
 | .snd a b p=>if a∈u.frL then []else if b∈u.frL then [([ρ0 a,33,35,o],if lt o=true then iz (EY u i p b (e0 o))else none)]else [([ρ0 a,33,ρ0 b],iz (EF u i p))]
 | _=>[]
def uz (E:Nat->Off Nat->List Ev)(u:U)(i:Nat):List Ev:=(offs (u.ths.getD i .nil)).flatMap (E i)
def zh (E:Nat->Off Nat->List Ev)(u:U):List Ev:=(List.range u.ths.length).flatMap (uz E u)
def wt (want:Tx)(e:Ev):Bool:=decide (want=[])||decide (e.1=want)
def sm (p:Tx×Tx):Ev:=(p.1,some p.2)
def C5 {X:Type}{c:Prop}[Decidable c]{l m:List X}{n:Nat}(h:l.length<=n)(k:m.length<=n):(if c then l else m).length<=n:=by split<;>assumption
def gT (u:U)(o:UInt8)(i:Nat)(x:Off Nat):(bn u o i x).length<=1:=by
 cases x with
 | snd a b p=>exact C5 (OA _) (C5 (ND _) (ND _))
 | _=>exact OA _
def qg {X Y:Type}{f:X->List Y}(h:∀x,(f x).length<=1):∀l:List X,(l.flatMap f).length<=l.length
 | []=>ND _
 | x::l=>by have :=h x;have :=qg h l;simp only [Ou,NB,Nv];omega
def SU.own {t:P}{u:U}(su:SU t u){z:Nat}(H:∃q∈u.ths,q.Fr z):(asg u.frL t.frL ρ0 z∈t.frL↔z∈u.frL)/\(z∉u.frL->asg u.frL t.frL ρ0 z=ρ0 z/\z< 26):=by
 by_cases h:z∈u.frL
 ·exact⟨⟨λ _=>h,λ _=>cZ u.frL t.frL ρ0 z h su.len⟩,λG=>absurd h G⟩
 ·obtain⟨h1,J⟩:=(su.free z H).resolve_left h;have e:=bz u.frL t.frL ρ0 z h;exact⟨⟨λG=>absurd (e▸G) J,λG=>absurd G h⟩,λ _=>⟨e,h1⟩⟩
end
section
open T Classical
def Ht {f:Tx}{ps:List P}{v:Value}{w:World}{nw:UInt8}{a:Option Tx}(hs:Strs w v (ps.map T.text))(hl:dh (ps.map T.text)<=1000000000)(hW:Ok (resL f (parL ps))/\Eb 0 (resL f (parL ps))/\0+(resL f (parL ps)).bd<=64)(hn:nm nw=true)(hk:okn 0 nw)
  (hd:∀W2,eo 0 (resL f (parL ps)) 90 nw W2->∃u,hU 0 W2 σ0 u/\iz u=a) {R:aH->Bool->QU} (h:∀s q w',Ex w w'->s=a.getD []->q=a.isSome->R s q w'):QV 118 #[.string (ay f),v,.int .u8 nw.toNat] w (ax [.s,.b] R):=by
 refine sO f v nw w R ?_;dsimp only [go_sem];dsimp only [go_sem,Nat.reduceAdd];obtain⟨b,cap,hv⟩:=hs.slice;have β:=hW.1.2;have H:=pY (parL ps) f;rw [H,gL]at β;refine⟨λs w'=>s=(parL ps).text/\w=w',⟨b,_,cap,hv,λG=>?_,λG=>?_⟩,λs w' hJ=>?_⟩
 ·have J:ps≠[]:=by
   intro e;simp [e]at G
  refine rW hs (by simpa using J) (by omega) ⟨(pC J).symm,rfl⟩
 ·cases ps with
  | nil=>exact⟨rfl,rfl⟩
  | cons=>simp at G
 obtain⟨rfl,rfl⟩:=hJ;generalize (parL ps).text=body at*;refine⟨by omega,λs i w'=>w'=w/\∃m:Nat,i=(m:Int) - 1/\m<=f.length/\s=wrap (f.drop m) body,λ _ i _=>(i+1).toNat,⟨rfl,f.length,rfl,ND _,by rw [Po];rfl⟩,λs i w' hI=>?_⟩;obtain⟨rfl,m,rfl,hm,rfl⟩:=hI;refine⟨λG=>?_,λG=>?_⟩
 ·obtain⟨m,rfl⟩:∃k,m=k+1:=⟨m - 1,by simp at G;omega⟩
  have Z:m< f.length:=by omega
  have e:(((m+1:Nat):Int) - 1)=(m:Int):=by omega
  have γ:=vP Z body;have δ:=gL (f.drop (m+1)) body;rw [O3]at δ;rw [e,BN Z];refine⟨by omega,⟨by omega,by omega,by omega⟩,by simp,by simp,by simp only [NB,Nv,NR];omega,by omega,⟨rfl,m,rfl,by omega,?_⟩,by show((m:Int) - 1+1).toNat< ((m:Int)+1).toNat;omega⟩;rw [γ];rfl
 ·have:m=0:=by simp at G;omega
  subst this;rw [Pu,<-H];refine gW _ (ND _) hW.1 hW.2.1 hW.2.2 hn hk λq w2 x2 hq=>?_
  obtain⟨u,d,e⟩:=hd q hq;refine GB d λw3 x3=>⟨λs es=>h s true w3 (Ex.trans x2 x3) ?_ ?_,λes=>h [] false w3 (Ex.trans x2 x3) ?_ ?_⟩
  all_goals rw [<-e,es];rfl
def qK (p:Tx×Tx):List Value:=[.string (ay p.1),.string (ay p.2)]
def cd (B:Nat)(w:World)(v:Value)(l:List (Tx×Tx)):Prop:=w.ownsRow B 96 2 v l.length (l.flatMap qK)
section
variable {B:Nat} {w w':World} {v:Value} {l:List (Tx×Tx)}
def rA:∀l:List (Tx×Tx),(l.flatMap qK).length=l.length* 2
 | []=>rfl
 | p::l=>by rw [Ou,NB,rA l];simp only [qK,Nv,NR];omega
def Da:∀{l:List (Tx×Tx)} {i:Nat} {p:Tx×Tx},l[i]?=some p->(l.flatMap qK)[i* 2]?=some (.string (ay p.1))/\(l.flatMap qK)[i* 2+1]?=some (.string (ay p.2))
 | q::l,0,p,h=>by cases h;exact⟨rfl,rfl⟩
 | q::l,i+1,p,h=>by
  have :=Da (l:=l) (i:=i) (p:=p) (by simpa using h);have e:(i+1)* 2=i* 2+2:=by omega
  rw [e];exact this
def yP:∀l:List (Tx×Tx),(l.flatMap qK).all oneV=true
 | []=>rfl
 | p::l=>by rw [Ou,P4,yP l];rfl
def cd.nil (B:Nat)(w:World):cd B w (.slice none 0 0) []:=Qv _ _ _ _
def cd.block (h:cd B w v l):∀b,v.ownBlock=some b->B<=b/\b< w.heap.size:=PX h
def cd.mono {G:Nat}(h:cd B w v l)(hb:G<=B):cd G w v l:=Qh h hb
def cd.kp {S:Nat->Prop}(h:cd B w v l)(k:Kp w w' S)(H:∀g,v.ownBlock=some g->¬S g):cd B w' v l:=by
 refine⟨h.1,?_⟩;rcases h.2 with J | ⟨g,cap,cur,rfl,hb,G,rest⟩
 ·exact .inl J
 ·exact .inr ⟨g,cap,cur,rfl,hb,by rw [k.block g (N8.1 G).1 (H g rfl)];exact G,rest⟩
def cd.ex (h:cd B w v l)(x:Ex w w'):cd B w' v l:=h.kp (Kp.ah x λ _=>False) λ _ _ h=>h
def cd.slice (h:cd B w v l):∃a cap,v= .slice a l.length cap:=by
 rcases h.2 with⟨rfl,G⟩ | ⟨g,cap,cur,rfl,_⟩
 ·exact⟨none,0,by rw [G]⟩
 ·exact⟨_,cap,rfl⟩
def cd.get (h:cd B w v l){i:Nat}(hi:i< l.length):∃g cap,v= .slice (some ⟨g,0,none⟩) l.length cap/\g< w.heap.size/\w.cell? ⟨g,i* 2,none⟩=some (.string (ay l[i].1))/\w.cell? ⟨g,i* 2+1,none⟩=some (.string (ay l[i].2)):=by
 have J:=h.1;rcases h.2 with⟨hv,hn⟩ | ⟨g,cap,cur,rfl,hb,H,h1,h2,h3,h4⟩
 ·omega
 ·obtain⟨Z,k2⟩:=Da (Ny hi);have key:∀{j:Nat} {x:Value},(l.flatMap qK)[j]?=some x->w.cell? ⟨g,j,none⟩=some x:=λ{j x} G=>by
   have hj:j< (l.flatMap qK).length:=(On.1 G).1;unfold World.cell?;simp only [H];rw [<-h4,Ox (by rw [<-J];exact hj),Oy]at G;exact G
  exact⟨g,cap,rfl,(N8.1 H).1,key Z,key k2⟩
def cd.push {p:Tx×Tx}{b:Nat}(h:cd B w v l)(hB:B<=w.heap.size)(hb:b=w.heap.size)(hw:w'=w.alloc (.cells #[.string (ay p.1),.string (ay p.2)] 96))(hl:l.length<=1000000000){K:Value->QU}
  (H:∀v' G,cd B G v' (l++[p])->w'.grownBy G v.ownBlock->(∀b,v'.ownBlock=some b->v.ownBlock=some b\/w'.heap.size<=b)->K v' G):
  ∃(base n m:Nat) (xs news:List Value),World.ownsRow w' base 96 2 v n xs/\base<=Array.size (World.heap w')/\dw w' (.slice (some ⟨b,0,none⟩) 1 1) m 2 news/\(n+m<=maxLen/\(n+m)* 32<=140737488355328)/\
   ∀(v':Value) (G:World),World.ownsRow G base 96 2 v' (n+m) (xs++news)->World.grownBy w' G (Value.ownBlock v)->(∀b:Nat,Value.ownBlock v'=some b->Value.ownBlock v=some b\/Array.size (World.heap w')<=b)->K v' G:=by
 have x:Ex w w':=hw▸Ex.alloc w _;refine⟨B,l.length,1,l.flatMap qK,qK p,h.ex x,OC hB x.size,⟨rfl,rfl,.inr ⟨b,0,1,rfl,λj u hu=>?_⟩⟩,⟨by unfold maxLen;omega,by omega⟩,λv' G J Z hn=>H v' G ?_ Z hn⟩
 ·subst hb hw;rw [N2];exact aa (by simpa [qK]using hu)
 ·unfold cd;rw [NB,OZ,show [p].flatMap qK=qK p by simp];exact J
def LZ {l:List Tx}(h:Own B w v l){g:Nat}(H:v.ownBlock=some g)(j:Nat):w.frozen? ⟨g,j,none⟩=false:=by
 rcases h.2 with⟨rfl,Z⟩ | ⟨J,cap,cur,rfl,hb,G,_⟩
 ·cases H
 ·have e:J=g:=Oh H;subst e;unfold World.frozen?;simp only [G];simp
def Ku {l:List Tx}(h:Own B w v l){i:Nat}(hi:i< l.length):∃g cap,v= .slice (some ⟨g,0,none⟩) l.length cap/\B<=g/\g< w.heap.size/\w.cell? ⟨g,i,none⟩=some (.string (ay l[i])):=by
 obtain⟨a,cap,hv⟩:=h.strs.slice;obtain⟨b,o,G,H,e2,J⟩:=h.strs.at hi;rcases h.2 with⟨rfl,hn⟩ | ⟨g,Z,cur,e4,hb,hg,_⟩
 ·omega
 ·rw [e4]at H;cases H;exact⟨_,_,e4,hb,e2,by rw [N2]at J;exact J⟩
end
structure uo (B:Nat)(w0:World)(o0:Value)(want:Tx)(out:Value)(w:World)(L:List Ev):Prop where
 gr:Gr w0 o0 w out
 hB:B<=w0.heap.size
 ex:∃acc,cd B w out acc/\L.filter (wt want)=acc.map sm
section
variable {B:Nat} {w0 w w':World} {o0 out:Value} {want:Tx} {L M:List Ev}
def uo.JM (h:uo B w0 o0 want out w L)(x:Ex w w'):uo B w0 o0 want out w' L:=by
 obtain⟨acc,h1,G⟩:=h.ex;exact⟨h.gr.ex x,h.hB,acc,h1.ex x,G⟩
def uo.start (h:uo B w0 o0 want out w L):uo B w out want out w L:=⟨Gr.refl _ _,OC h.hB h.gr.size,h.ex⟩
def uo.back {w1:World}{G H:Value}(h:uo B w0 o0 want G w1 L)(k:uo B w1 G want H w M):uo B w0 o0 want H w M:=⟨h.gr.trans k.gr,h.hB,k.ex⟩
def uo.lt (h:uo B w0 o0 want out w L):∀g,out.ownBlock=some g->g< w.heap.size:=λg G=>by
 obtain⟨acc,h1,_⟩:=h.ex;exact(h1.block g G).2
def uo.skip (h:uo B w0 o0 want out w L){e:Ev}(he:wt want e=false):uo B w0 o0 want out w (L++[e]):=by
 obtain⟨acc,h1,G⟩:=h.ex;exact⟨h.gr,h.hB,acc,h1,by rw [OO,G,List.filter_cons_of_neg (by simp [he])];simp⟩
def uo.push (h:uo B w0 o0 want out w L)(hl:L.length<=1000000){G s:Tx}(he:wt want (G,some s)=true){K:Value->QU}(hK:∀v' H,uo B w0 o0 want v' H (L++[(G,some s)])->K v' H):
  ∀(b:Nat) (w1:World),b=Array.size (World.heap w)->w1=World.alloc w (Obj.cells #[.string (ay G),.string (ay s)] 96)->
  ∃(base n m:Nat) (xs news:List Value),World.ownsRow w1 base 96 2 out n xs/\base<=Array.size (World.heap w1)/\dw w1 (.slice (some ⟨b,0,none⟩) 1 1) m 2 news/\(n+m<=maxLen/\(n+m)* 32<=140737488355328)/\
   ∀(v':Value) (H:World),World.ownsRow H base 96 2 v' (n+m) (xs++news)->World.grownBy w1 H (Value.ownBlock out)->(∀b:Nat,Value.ownBlock v'=some b->Value.ownBlock out=some b\/Array.size (World.heap w1)<=b)->K v' H:=λb w1 hb J=>by
 obtain⟨acc,h1,Z⟩:=h.ex;have β:acc.length<=L.length:=by
  have :=PH (wt want) L;rw [Z,NH]at this;exact this
 have x1:Ex w w1:=J▸Ex.alloc w _;refine h1.push (p:=(G,s)) (OC h.hB h.gr.size) hb J (by omega) λv' H k1 k2 k3=>hK v' H ⟨(h.gr.ex x1).grown k2 k3,h.hB,_,k1,?_⟩
 rw [OO,Z,Oj,List.filter_cons_of_pos (by exact he)];rfl
end
def IX {w w1 G:World}{b e:Nat}(cs:List UInt8)(hb:b=w.heap.size)(hw:w1=w.alloc (.cells (cs.map λc=>Value.int .u8 c.toNat).toArray e))(x:Ex w1 G){K:aH->Prop}(J:K cs):
  ∃(H o n c:Nat) (l:aH),Value.slice (some ⟨b,0,none⟩) cs.length cs.length=Value.slice (some ⟨H,o,none⟩) n c/\List.length l=n/\(∀(j:Nat) (y:UInt8),l[j]?=some y->G.cell? ⟨H,o+j,none⟩=some (.int .u8 y.toNat))/\K l:=by
 refine⟨b,0,cs.length,cs.length,cs,rfl,rfl,λj y Z=>?_,J⟩;have hl:b< w1.heap.size:=by rw [hw,size_alloc];omega
 rw [N2,x.cell hl,hw,hb];exact aa (by simp [Z])
def LN {E:Nat->Off Nat->List Ev}{u:U}{i:Nat}(hi:i< u.ths.length){o:Off Nat}(G:o∈offs u.ths[i]){e:Ev}(he:e∈E i o):e∈zh E u:=by
 refine OF.2 ⟨i,Pg.2 hi,OF.2 ⟨o,?_,he⟩⟩;rw [dW hi];exact G
def L4 {c:UInt8}(h:lt c=true):ρ0 (e0 c)=c/\e0 c< 26:=by
 have :=a6 h;have G:e0 c< 26:=by unfold e0;omega
 refine⟨N6.1 ?_,G⟩;rw [de G];unfold σ0 e0;omega
def I4 {B:Nat}{w w':World}{g cap k n:Nat}{rs ps:List P}{q:P}(h:Own B w (.slice (some ⟨g,0,none⟩) n cap) (rs.map T.text++(ps.drop k).map T.text))(hr:rs.length=k)(hk:k< ps.length)(hw:w'=w.setCell ⟨g,k,none⟩ (.string (ay q.text))):Own B w' (.slice (some ⟨g,0,none⟩) n cap) ((rs++[q]).map T.text++(ps.drop (k+1)).map T.text):=by
 have :=Ft h hw (by simp;omega);have e:(rs.map T.text++(ps.drop k).map T.text).set k q.text=(rs++[q]).map T.text++(ps.drop (k+1)).map T.text:=by
  rw [Oq hk,N4,List.set_append_right _ _ (by simp [hr]),NH,hr,Nat.sub_self,List.set_cons_zero];simp
 rw [e]at this;exact this
def gD.snoc {X Y:Type}{R:X->Y->Prop}{l:List X}{m:List Y}{x:X}{y:Y}(h:gD R l m)(k:R x y):gD R (l++[x]) (m++[y]):=h.app (.cons k .nil)
def Lu {p:P}(al:p.Al λc=>lt c=true)(G:p.size<=60):Ok p/\Eb 0 p/\0+p.bd<=64:=by
 have :=jz p;have :=T.wq p;have :=iL p;exact⟨⟨T.Al.wf al,by rw [aP];omega⟩,T.Al.eb 0 al,by omega⟩
def Ex.set {w w':World}(x:Ex w w'){g j:Nat}(G:w.heap.size<=g)(v:Value):Ex w (w'.setCell ⟨g,j,none⟩ v):=by
 have k:=Kp.set (i:=j) (Kp.ah x λb=>b=g) rfl v;exact⟨k.os,k.tape,k.output,k.size,λb hb=>k.block b hb (by omega)⟩
def I9 {W:P}{u:U}(h:hU 0 W σ0 u):¬W.Fr 90:=λG=>by
 obtain⟨y,_,e⟩:=h.den.ae.free 90 G;have H:(90:UInt8).toNat=90:=rfl;unfold σ0 at e;omega
def Li {W:P}{u:U}(h:hU 0 W σ0 u):Ok W/\Eb 0 W/\0+W.bd<=64:=⟨⟨h.den.wf,h.den.len⟩,h.den.bd.eb,h.den.bd.bd⟩
def zj {t:P}(ok:nE t){o:UInt8}(ho:lt o=true\/122< o){want:Tx}{w:World}{R:Value->Bool->QU}(hR1:(∃e∈zh (bn (num t e0 0).1 o) (num t e0 0).1,wt want e=true/\e.2=none)->∀w',Ex w w'->R (.slice none 0 0) false w')
  (hR2:∀acc,(zh (bn (num t e0 0).1 o) (num t e0 0).1).filter (wt want)=acc.map sm->∀v w',Ex w w'->cd w.heap.size w' v acc->R v true w'):QV 77 #[.string (ay t.text),.int .u8 o.toNat,.string (ay want)] w (ax [.v,.b] R):=by
 have su:=ok.su;have hszt:=ok.size;have hsh:=(ky su.ae).2.2;generalize hu:(num t e0 0).1=u at*;have hsz:u.size<=60:=by omega
 obtain⟨hthl,hol,_⟩:=lens hsz;obtain⟨hn,hts⟩:=Kj ok;have hlen:=su.two.len;have okt:Ok t:=GD ok.al ok.good;have okth:∀q∈t.ths,Ok q:=λq hq=>⟨(su.al q hq).wf,by rw [aP];have :=(hts q hq).2;omega⟩
 have hfl:t.frL.length<=1099511627776:=by have :=ok.Im.2.2.2.1;omega
 have hlE:∀i,i<=u.ths.length->((List.range i).flatMap (uz (bn u o) u)).length<=3600:=λi hi=>by
  have h1:=sF (f:=uz (bn u o) u) (c:=60) (l:=List.range i) λx hx=>by
   have hx:=Pg.1 hx;have h2:=qg (gT u o x) (offs (u.ths.getD x .nil));rw [dW (by omega)]at h2;have :=hol x (by omega);unfold uz;rw [dW (by omega)];omega
  rw [Qr]at h1;omega
 refine oW t.text o want w R ?_;refine wC okt (Ba okt ok.nr λv5 w6 x6 o5=>?_);have hv5:=o5.strs;obtain⟨a,cap,hv⟩:=hv5.slice;rw [NH]at hv;refine⟨a,_,cap,hv,λout x w'=>∃i:Nat,x=i/\i<=t.ths.length/\uo w6.heap.size w6 (.slice none 0 0) want out w' ((List.range i).flatMap (uz (bn u o) u)),λ _ x _=>(t.ths.length - x).toNat,⟨0,rfl,OA _,⟨Gr.refl _ _,ND _,[],cd.nil _ _,rfl⟩⟩,λφ x w15 hI=>?_⟩;obtain⟨i,rfl,hi,μ⟩:=hI;have x15:Ex w6 w15:=μ.gr.nil rfl;refine⟨λhlt=>?_,λhge=>?_⟩;rotate_left
 ·have hil:i=u.ths.length:=by simp only [NQ]at hge;omega
  rw [hil]at μ;obtain⟨acc,h1,h2⟩:=μ.ex;exact hR2 acc h2 _ w15 (Ex.trans x6 x15) (h1.mono x6.size)
 have hi':i< t.ths.length:=by simp only [NL]at hlt;omega
 have ζ:i< u.ths.length:=by omega
 have η:=NO hi';have hmiu:=NO ζ;have two1:=Du (su.two.get hi' ζ);have hlo:=two1.len;have hacc1:=hlE i (by omega);have ek:(List.range (i+1)).flatMap (uz (bn u o) u)=(List.range i).flatMap (uz (bn u o) u)++uz (bn u o) u i:=by rw [QJ,OZ];simp
 have eE0:uz (bn u o) u i=(offs u.ths[i]).flatMap (bn u o i):=by unfold uz;rw [dW ζ]
 refine hv5.get x15 (i:=i) (x:=t.ths[i].text) (by omega) (by simp [hi']) (Q:=λn=>_) (Cf _ (ND _) (okth _ η) (su.smpP _ η) (by have :=(hts _ η).1;omega) λv21 w22 xs x22 o21 m21=>?_);have h22:=(μ.JM x22).start;have n21:∀g,v21.ownBlock=some g->φ.ownBlock≠some g:=λg hg e=>by
  have h1:=(o21.block g hg).1;have h2:=μ.lt g e;omega
 obtain⟨a23,cap23,hv21⟩:=o21.slice;have hm1:=@tN t.ths.length i (by omega);generalize hA:(List.range i).flatMap (uz (bn u o) u)=A at*;have hol1:=hol i ζ;refine⟨a23,_,cap23,hv21,λout x w'=>∃j:Nat,x=j/\j<=(offs t.ths[i]).length/\uo w6.heap.size w22 φ want out w' (A++((offs u.ths[i]).take j).flatMap (bn u o i)),λ _ x _=>((offs t.ths[i]).length - x).toNat,⟨0,rfl,OA _,by simpa using h22⟩,λout2 x w31 hI=>?_⟩;obtain⟨j,rfl,hj,h31⟩:=hI;refine⟨λhlt2=>?_,λhge2=>?_⟩;rotate_left
 ·have hjl:j=(offs u.ths[i]).length:=by simp only [NQ]at hge2;omega
  rw [hjl,Od,<-eE0,<-ek]at h31;exact⟨by omega,⟨i+1,by omega,by omega,(μ.JM x22).back h31⟩,hm1⟩
 have hjP:j< (offs t.ths[i]).length:=by simp only [NL]at hlt2;omega
 have hjU:j< (offs u.ths[i]).length:=by omega
 have hm2:=@tN (offs t.ths[i]).length j hjP;have hae:=two1.get hjP hjU;have hmP:=NO hjP;have hmU:=NO hjU;obtain⟨g,capg,cs,hvg,H,δ⟩:=HG (o21.gr h31.gr n21) m21 hjP;obtain⟨kk,ca,cb,cs3,cq,rfl⟩:=H.any;have etk:((offs u.ths[i]).take (j+1)).flatMap (bn u o i)=((offs u.ths[i]).take j).flatMap (bn u o i)++bn u o i (offs u.ths[i])[j]:=by rw [NG hjU,OZ];simp
 have hacc2:(A++((offs u.ths[i]).take j).flatMap (bn u o i)).length<=4000:=by
  have h1:=qg (gT u o i) ((offs u.ths[i]).take j);rw [Og]at h1;rw [NB];omega
 rw [hv21]at hvg;refine⟨g,0,_,capg,hv21.trans hvg,by omega,by omega,kk,ca,cb,cs3,cq,⟨δ 0 _ rfl _ (by omega) (by omega),δ 1 _ rfl _ (by omega) (by omega),δ 2 _ rfl _ (by omega) (by omega),δ 3 _ rfl _ (by omega) (by omega),δ 4 _ rfl _ (by omega) (by omega),trivial⟩,λb41 w42 hb41 hw42=>?_⟩;obtain⟨box1,Er⟩:=Mx (cs:=my kk ca cb cs3 cq) rfl rfl hb41 hw42;refine⟨⟨rfl,Gz,box1⟩,λG hw43=>?_⟩;obtain⟨x43,l43,c43⟩:=Er G hw43;have h43:=h31.JM x43;have x643:Ex w6 G:=Ex.trans ((μ.gr.ex x22).trans h31.gr |>.nil rfl) x43;have γ:∀{w':World},Ex G w'->∀{n:Nat} {v:Value},n< 5->(my kk ca cb cs3 cq)[n]?=some v->w'.cell? ⟨b41,n,none⟩=some v:=λ{w'} x {n v} hn hv=>by rw [x.cell (a:=⟨b41,n,none⟩) l43,c43 n hn];exact hv
 generalize hA2:A++((offs u.ths[i]).take j).flatMap (bn u o i)=A2 at*;have J:∀{v:Value} {w':World},uo w6.heap.size w22 φ want v w' (A2++bn u o i (offs u.ths[i])[j])->cR ((j:Int)+1)/\(∃j':Nat,(j:Int)+1=j'/\j'<=(offs t.ths[i]).length/\uo w6.heap.size w22 φ want v w' (A++((offs u.ths[i]).take j').flatMap (bn u o i)))/\(((offs t.ths[i]).length:Int) - ((j:Int)+1)).toNat< (((offs t.ths[i]).length:Int) - j).toNat:=λ{v w'} h=>by
  refine⟨by omega,⟨j+1,by omega,by omega,?_⟩,hm2⟩;rw [etk,<-Oi,hA2];exact h
 have hin:∀e∈bn u o i (offs u.ths[i])[j],e∈zh (bn u o) u:=λe he=>LN ζ hmU he
 generalize (offs t.ths[i])[j]=oP at*;generalize (offs u.ths[i])[j]=oU at*;have hno:kk≠33->bn u o i oU=[]->∀(c:UInt8),c=kk->(!decide (c=33))=true:=λh _ c hc=>by rw [hc];simp [h]
 cases oP<;>cases oU<;>try exact hae.elim
 ·obtain⟨_,_,_,H⟩:=H;unfold my at H;simp only [O5,Qk,QR,P0]at H;have e1:kk=126:=N6.1 (by omega);subst e1;exact⟨126,γ (Ex.refl _) (by omega) rfl,(λh=>by cases h),λ _=>J (by rw [show bn u o i (.tau _)=[]from rfl,N9];exact h43)⟩
 rotate_left
 ·have H:=H.symm.symm;unfold B4 my at H;simp only [O5,Qk,QR,P0]at H;have e1:kk=63:=N6.1 (by omega);subst e1;exact⟨63,γ (Ex.refl _) (by omega) rfl,(λh=>by cases h),λ _=>J (by rw [show bn u o i (.rcv _ _ _ _)=[]from rfl,N9];exact h43)⟩
 rename_i ca' cb' p c d p';obtain⟨_,H⟩:=H;unfold my at H;simp only [O5,Qk,Value.string.injEq,QR,P0]at H;have e1:kk=33:=N6.1 (by omega);have e2:cs3=p.text:=DA H.2.2.2.1;have e3:ca=ca':=N6.1 (by omega);have e4:cb=cb':=N6.1 (by omega);subst e1 e2 e3 e4;obtain⟨sU,_⟩:=bM (su.smp _ hmiu) _ hmU;have ec:ca=asg u.frL t.frL ρ0 c:=N6.1 hae.1;have ed:cb=asg u.frL t.frL ρ0 d:=N6.1 hae.2.1;obtain⟨oc1,oc2⟩:=su.own ⟨_,hmiu,sU.fr c (.inl rfl)⟩;obtain⟨od1,od2⟩:=su.own ⟨_,hmiu,sU.fr d (.inr (.inl rfl))⟩;rw [<-ec]at oc1 oc2;rw [<-ed]at od1 od2;have eE:bn u o i (.snd c d p')=if c∈u.frL then []else if d∈u.frL then [([ρ0 c,33,35,o],if lt o=true then iz (EY u i p' d (e0 o))else none)]else [([ρ0 c,33,ρ0 d],iz (EF u i p'))]:=rfl
 refine⟨33,γ (Ex.refl _) (by omega) rfl,λ _=>⟨ca,γ (Ex.refl _) (by omega) rfl,fg hfl ⟨λhin'=>J ?_,λhout=>?_⟩⟩,(λh=>by cases h)⟩
 ·rw [eE,N' (oc1.1 (by simpa using hin')),N9];exact h43
 have hcO:c∉u.frL:=λh=>by simp [oc1.2 h]at hout
 obtain⟨ec2,hc26⟩:=oc2 hcO;rw [NS hcO]at eE;subst ec2;refine⟨λl h w'=>l=[ρ0 c,33,cb]/\h=decide (cb∈t.frL)/\Ex G w',⟨λw'=>Ex G w',λw50 hw50=>?_⟩,λl79 h80 w81 hJ=>?_⟩
 ·have ν:Ex G w50:=hw50▸Ex.drew G;refine⟨ν,ρ0 c,λw' x=>γ x (by omega) rfl,cb,λw' x=>γ x (by omega) rfl,cb,λw' x=>γ x (by omega) rfl,λb54 w55 hb54 hw55=>?_,fg hfl ⟨ν,λb72 w73 hb72 hw73=>?_⟩⟩
  ·have ξ:Ex G w55:=Ex.trans ν (hw55▸Ex.alloc w50 _);exact⟨ξ,IX [ρ0 c,33,cb] hb54 hw55 (Ex.refl _) ⟨ξ,fg hfl ⟨ξ,rfl,rfl,ξ⟩⟩,fg hfl ⟨ξ,IX [ρ0 c,33,cb] hb54 hw55 (Ex.refl _) ⟨ξ,rfl,rfl,ξ⟩⟩⟩
  ·have x73:Ex G w73:=Ex.trans ν (hw73▸Ex.alloc w50 _);exact⟨x73,IX [ρ0 c,33,cb] hb72 hw73 (Ex.refl _) ⟨x73,rfl,rfl,x73⟩⟩
 obtain⟨rfl,rfl,x81⟩:=hJ;obtain⟨lab,hlab⟩:∃lab:Tx,lab=if cb∈t.frL then [ρ0 c,33,35,o]else [ρ0 c,33,cb]:=⟨_,rfl⟩
 refine⟨λl w'=>l=lab/\Ex G w',⟨λhh=>⟨ρ0 c,γ x81 (by omega) rfl,λb84 w85 hb84 hw85=>IX [ρ0 c,33,35,o] hb84 hw85 (Ex.refl _) ⟨by rw [hlab,N' (by simpa using hh)],Ex.trans x81 (hw85▸Ex.alloc w81 _)⟩⟩,λhh=>⟨by rw [hlab,NS (by simpa using hh)],x81⟩⟩,λl91 w92 hJ=>?_⟩;obtain⟨rfl,x92⟩:=hJ;obtain⟨res,Z⟩:∃res:Option Tx,bn u o i (.snd c d p')=[(l91,res)]:=by
  rw [eE,hlab];by_cases hd:d∈u.frL
  ·rw [N' hd,N' (od1.2 hd)];exact⟨_,rfl⟩
  ·rw [NS hd,NS λh=>hd (od1.1 h),(od2 hd).1];exact⟨_,rfl⟩
 rw [Z]at J hin;refine⟨λw'=>wt want (l91,res)=true/\Ex G w',⟨λhw=>⟨λhl=>J ((h43.JM x92).skip ?_),λhl=>⟨?_,x92⟩⟩,λhw=>⟨?_,x92⟩⟩,λw94 hJ=>?_⟩
 ·unfold wt;simp_all
 ·unfold wt;simp_all
 ·unfold wt;simp_all
 obtain⟨hwt,x94⟩:=hJ;have hbad:res=none->∀w',Ex G w'->R (.slice none 0 0) false w':=λhr w' x'=>hR1 ⟨_,hin _ (NT.2 rfl),hwt,hr⟩ w' (Ex.trans (Ex.trans x6 x643) x')
 have e:wo (t.ths.map T.text) i i++[p.text]=(wo t.ths i i++[p]).map T.text:=by rw [Ls,Oj];rfl
 have hwl:=FX t.ths i i;have hpl:p.aK<=300:=by
  have h1:=(bM (su.smpP _ η) _ hmP).1.size;have h2:=(hts _ η).1;have h3:=iL p;simp only [Off.tm,T.size]at h1;omega
 have hlw:(wo (t.ths.map T.text) i i).length+[p.text].length<=1099511627776:=by
  have :=FX (t.ths.map T.text) i i;rw [NH]at this;simp only [Nv,NR];omega
 have hal:∀q∈wo t.ths i i++[p],(q.Al λc=>lt c=true)/\q.size<=60:=λq hq=>by
  rcases NI.1 hq with hq | hq
  ·exact⟨su.al _ (eX hq),(hts _ (eX hq)).1⟩
  ·cases NT.1 hq;have sP:=(bM (su.smpP _ η) _ hmP).1;have h1:=sP.size;have h2:=(hts _ η).1;simp only [Off.tm,T.size]at h1;exact⟨(sP.al _ (su.al _ η)).2.2,by omega⟩
 have sden:=C4 ok su hi' ζ hmP hmU hae;have oden:=λhd=>@I8 t u ok su i hi' ζ _ _ _ _ _ _ hmP hmU hae hd
 have oopz:=λhd=>@CY t u ok su i hi' ζ _ _ _ _ _ _ hmP hmU hae hd
 generalize hps:wo t.ths i i++[p]=ps at*;have hpsl:ps.length<=61:=by rw [<-hps,NB,OS];omega
 have htl:∀q∈ps,q.aK<=300:=λq hq=>by
  rw [<-hps]at hq;rcases NI.1 hq with hq | hq
  ·exact(hts _ (eX hq)).2
  ·cases NT.1 hq;exact hpl
 refine⟨λr w'=>Ex G w'/\Own G.heap.size w' r (ps.map T.text),⟨λw'=>Ex G w',λw97 hw97=>?_⟩,λr121 w122 hJ=>?_⟩
 ·have ο:Ex G w97:=Ex.trans x94 (hw97▸Ex.drew w94);refine⟨ο,p.text,λw' x=>γ x (by omega) rfl,?_,λb76 w77 hb76 hw77=>?_⟩
  ·refine qI (hv5.ex (Ex.trans x643 ο)) (by rw [NH];omega) λv49 w50 ν o50=>⟨Ex.trans ο ν,λb51 w52 hb51 hw52=>?_⟩
   have x52:Ex w50 w52:=hw52▸Ex.alloc w50 _;have ς:=Ex.trans ν x52;refine⟨Ex.trans ο ς,J0 (o50.ex x52) ς.size (Strs.one hb51 hw52) hlw λv58 w59 b59 o59=>?_⟩;have x59:=Ex.trans ο (Ex.below ς b59);exact⟨x59,x59,e▸o59.mono ο.size⟩
  ·have x77:Ex w97 w77:=hw77▸Ex.alloc w97 _;have θ:=Ex.trans ο x77;refine⟨θ,qI (hv5.ex (Ex.trans x643 θ)) (by rw [NH];omega) λv78 w79 x79 o79=>⟨Ex.trans θ x79,J0 o79 x79.size ((Strs.one hb76 hw77).ex x79) hlw λv85 w86 b86 o86=>?_⟩⟩;have x86:=Ex.trans θ (Ex.below x79 b86);exact⟨x86,x86,e▸o86.mono θ.size⟩
 obtain⟨x122,o121⟩:=hJ;refine⟨λw'=>Ex G w',λw124 hw124=>?_⟩;have xd:Ex w122 w124:=hw124▸Ex.drew w122;have χ:=Ex.trans x122 xd;have o124:=o121.ex xd;refine⟨χ,cb,λw' x=>γ x (by omega) rfl,λf n w'=>Ex G w'/\∃rs:List P,Own G.heap.size w' r121 (rs.map T.text)/\((d∉u.frL/\f=t.frL/\n=cb/\rs=ps)\/(d∈u.frL/\f=no t.frL cb/\n=o/\lt o=true/\gD (λp r=>eo 0 p cb 90 r) ps rs)),⟨λhh=>⟨λho'=>?_,λho'=>?_⟩,λhh=>⟨χ,ps,o124,.inl ⟨λh=>by simp [od1.2 h]at hh,rfl,rfl,rfl⟩⟩⟩,λψ n154 w155 hJ=>?_⟩
 ·refine hbad ?_ _ χ;rw [eE,N' (od1.1 (by simpa using hh))]at Z;have ho':122< o:=by simpa using ho'
  have β:lt o=false:=by
   unfold lt;have:¬o<=122:=UInt8.not_le.2 ho';simp [this]
  rw [β]at Z;have :=Ow Z;exact(Ot Prod.snd this.1).symm
 ·have β:lt o=true:=ho.resolve_right (by simpa using ho');obtain⟨a125,cap125,hv125⟩:=o124.strs.slice;rw [NH]at hv125;refine⟨a125,_,cap125,hv125,λx w'=>∃k:Nat,x=k/\k<=ps.length/\Ex G w'/\∃rs:List P,gD (λp r=>eo 0 p cb 90 r) (ps.take k) rs/\Own G.heap.size w' r121 (rs.map T.text++(ps.drop k).map T.text),λx _=>(ps.length - x).toNat,⟨0,rfl,OA _,χ,[],.nil,o124⟩,λx w133 hI=>?_⟩;obtain⟨k,rfl,hk,ω,rs,ε,ι⟩:=hI;refine⟨λhlt3=>?_,λhge3=>⟨cb,γ ω (by omega) rfl,sS hfl ⟨ω,rs,?_,.inr ⟨od1.1 (by simpa using hh),rfl,rfl,β,?_⟩⟩⟩⟩
  ·have hk':k< ps.length:=by simp only [NL]at hlt3;omega
   have hrl:rs.length=k:=by rw [<-ε.len,Og];omega
   have hlk:(rs.map T.text++(ps.drop k).map T.text).length=ps.length:=by simp;omega
   have hgk:(rs.map T.text++(ps.drop k).map T.text)[k]'(by omega)=ps[k].text:=by
    rw [List.getElem_append_right (by simp [hrl])];simp [hrl]
   obtain⟨g2,cap2,hv2,hg2,hl2,hc2⟩:=Ku ι (i:=k) (by omega);rw [hgk]at hc2;rw [hlk]at hv2;refine⟨λw'=>Ex w133 w',λw135 hw135=>?_⟩;have κ:Ex w133 w135:=hw135▸Ex.drew w133;have hmk:=NO hk';obtain⟨p1,p2,p3⟩:=Lu (hal _ hmk).1 (hal _ hmk).2;refine⟨κ,g2,0,ps.length,cap2,hv2,by omega,by omega,ps[k].text,λw' x=>by rw [x.cell (a:=⟨g2,_,none⟩) hl2,N2,N7];exact hc2,cb,λw' x=>γ (Ex.trans ω x) (by omega) rfl,gW _ (ND _) p1 p2 p3 (by decide) (JV 0) λq w143 x143 hq=>⟨g2,0,ps.length,cap2,hv2,by omega,by omega,⟨⟨_,by rw [(Ex.trans κ x143).cell (a:=⟨g2,_,none⟩) hl2,N2,N7];exact hc2⟩,LZ (ι.ex (Ex.trans κ x143)) (by rw [hv2];rfl) _⟩,λw149 υ=>?_⟩⟩;rw [show 0+Int.toNat (k:Int)* 1=k by simp]at υ;refine⟨by omega,⟨k+1,by omega,by omega,υ▸(Ex.trans ω (Ex.trans κ x143)).set hg2 _,rs++[q],?_,?_⟩,tN hk'⟩
   ·rw [NG hk'];exact ε.snoc hq
   ·rw [hv2];exact I4 (by rw [<-hv2];exact ι.ex (Ex.trans κ x143)) hrl hk' υ
  ·have hkl:k=ps.length:=by simp only [NQ]at hge3;omega
   rw [hkl,Po,PE,N9]at ι;exact ι
  ·have hkl:k=ps.length:=by simp only [NQ]at hge3;omega
   rw [hkl,Od]at ε;exact ε
 obtain⟨x155,rs,o155,hcase⟩:=hJ;have key:dh (rs.map T.text)<=1000000000/\(Ok (resL ψ (parL rs))/\Eb 0 (resL ψ (parL rs))/\0+(resL ψ (parL rs)).bd<=64)/\nm n154=true/\okn 0 n154/\∀W2,eo 0 (resL ψ (parL rs)) 90 n154 W2->∃v,hU 0 W2 σ0 v/\iz v=res:=by
  rcases hcase with⟨hd,rfl,rfl,rfl⟩ | ⟨hd,rfl,rfl,β,ε⟩
  ·rw [NS hd]at eE;rw [eE]at Z;have er:iz (EF u i p')=res:=Ot Prod.snd (Ow Z).1;obtain⟨ed1,ed2⟩:=od2 hd;have hlt:=DH ed2;rw [<-ed1]at hlt;refine⟨Mb htl (by omega),Li sden.1,iE hlt,yi hlt 0,λW2 hW=>⟨_,sden.1.Np (I9 sden.1) hW,er⟩⟩
  ·rw [N' hd,β,N' rfl]at eE;rw [eE]at Z;have er:iz (EY u i p' d (e0 n154))=res:=Ot Prod.snd (Ow Z).1;obtain⟨f1,f2⟩:=L4 β;obtain⟨_,_,r3,r4⟩:=zq ε;refine⟨Mb (λr hr=>?_) (by omega),(oopz hd ε).ok,iE β,yi β 0,λW2 hW=>⟨_,oden hd ε f2 (by rw [f1];exact hW),er⟩⟩;obtain⟨q,hq,h⟩:=ε.AF hr;rw [gI h.shp];exact htl q hq
 obtain⟨k1,k2,k3,k4,k5⟩:=key;refine Ht o155.strs k1 k2 k3 k4 k5 λs q w158 x158 e1 e2=>?_
 have x458:=Ex.trans x155 x158;cases res with
 | none=>
  subst e2;exact⟨λ _=>hbad rfl _ x458,λh=>(by cases h)⟩
 | some s'=>
  subst e1 e2;exact⟨λh=>(by cases h),λ _=>(h43.JM x458).push (by omega) hwt λv166 w167 h=>J h⟩
def used (u:U):Tx->Prop
 | [_,_,_,b]=>u.Fr (e0 b)
 | _=>False
def Er {w w1:World}{g e:Nat}{cs:List Value}{c0:Array Value}(β:cs.length=2)(h0:c0.size=2)(hg:g=w.heap.size)(G:w1=w.alloc (.cells c0 e)):
  (∀j,j< 2->(∃u,w1.cell? ⟨g,0+j,none⟩=some u)/\w1.frozen? ⟨g,0+j,none⟩=false)/\∀H,H=World.setCells w1 g 0 cs->Ex w H/\g< H.heap.size/\∀j,j< 2->H.cell? ⟨g,j,none⟩=cs[j]?:=by
 have hc:∀j,j< 2->∃u,w1.cell? ⟨g,0+j,none⟩=some u:=λj J=>by
  rw [G,hg];have:∃u,c0[0+j]?=some u:=by
   rw [N2];exact⟨_,P3 (by omega)⟩
  obtain⟨u,hu⟩:=this;exact⟨u,aa hu⟩
 refine⟨λj J=>⟨hc j J,by rw [G,hg];exact aV _ _ _ _⟩,λH Z=>?_⟩;obtain⟨k,_,_,sc⟩:=a8 (b:=g) cs w1 0;rw [<-Z]at k sc;have x1:Ex w w1:=G▸Ex.alloc _ _;have s1:w1.heap.size=w.heap.size+1:=by rw [G,size_alloc]
 have s2:=k.size;refine⟨Ex.below x1 (Kp.below k x1.size λb hb e=>by omega),by omega,λj J=>?_⟩;have :=sc j (λi hi=>hc i (by omega)) (by omega)
 rwa [N2]at this
abbrev Pq:=Tx×Tx
def oJ (a b:Pq):Prop:=a.1< b.1\/(a.1=b.1/\a.2< b.2)
def rH (a:Pq):¬oJ a a:=λh=>h.elim (QO _) λh=>QO _ h.2
def lM {a b c:Pq}(h:oJ a b)(k:oJ b c):oJ a c:=by
 rcases h with h | ⟨h1,H⟩<;>rcases k with k | ⟨G,J⟩
 ·exact .inl (List.lt_trans h k)
 ·exact .inl (G▸h)
 ·exact .inl (h1▸k)
 ·exact .inr ⟨h1.trans G,List.lt_trans H J⟩
def FC (a b:Tx):a< b\/a=b\/b< a:=by
 by_cases h:a<=b
 ·by_cases k:b<=a
  ·exact .inr (.inl (List.le_antisymm h k))
  ·exact .inl (List.not_le.1 k)
 ·exact .inr (.inr (List.not_le.1 h))
def yd (a b:Pq):oJ a b\/a=b\/oJ b a:=by
 obtain⟨G,a2⟩:=a;obtain⟨b1,b2⟩:=b;rcases FC G b1 with h | rfl | h
 ·exact .inl (.inl h)
 ·rcases FC a2 b2 with h | rfl | h
  ·exact .inl (.inr ⟨rfl,h⟩)
  ·exact .inr (.inl rfl)
  ·exact .inr (.inr (.inr ⟨rfl,h⟩))
 ·exact .inr (.inr (.inl h))
def uF (l:List Pq):Prop:=l.Pairwise oJ
def uF.uniq:∀{a b:List Pq},uF a->uF b->(∀x,x∈a↔x∈b)->a=b
 | [],[],_,_,_=>rfl
 | [],y::b,_,_,h=>absurd ((h y).2 (Oa ..)) (by simp)
 | x::a,[],_,_,h=>absurd ((h x).1 (Oa ..)) (by simp)
 | x::a,y::b,h1,h2,h=>by
  obtain⟨J,p2⟩:=Pk.1 h1;obtain⟨Z,q2⟩:=Pk.1 h2;have e:x=y:=by
   rcases NV.1 ((h x).1 (Oa ..))with e | e
   ·exact e
   ·rcases NV.1 ((h y).2 (Oa ..))with H | H
    ·exact H.symm
    ·exact absurd (lM (Z x e) (J y H)) (rH _)
  subst e;refine Ot _ (uF.uniq p2 q2 λz=>⟨λG=>?_,λG=>?_⟩)
  ·rcases NV.1 ((h z).1 (NJ _ G))with e | e
   ·exact absurd (e▸J z G) (rH _)
   ·exact e
  ·rcases NV.1 ((h z).2 (NJ _ G))with e | e
   ·exact absurd (e▸Z z G) (rH _)
   ·exact e
noncomputable def insP:List Pq->Pq->List Pq
 | [],s=>[s]
 | x::l,s=>if oJ x s then x::insP l s else if x=s then x::l else s::x::l
noncomputable def ia (l:List Pq):List Pq:=l.foldl insP []
def xR:∀{l:List Pq} {s x:Pq},x∈insP l s↔x=s\/x∈l
 | [],s,x=>by simp [insP]
 | y::l,s,x=>by
  unfold insP;split
  ·rw [NV,xR,NV];constructor
   ·rintro(h | h | h)
    ·exact .inr (.inl h)
    ·exact .inl h
    ·exact .inr (.inr h)
   ·rintro(h | h | h)
    ·exact .inr (.inl h)
    ·exact .inl h
    ·exact .inr (.inr h)
  ·split
   ·rename_i h;subst h;simp
   ·simp
def Ds:∀{l:List Pq} {s:Pq},uF l->uF (insP l s)
 | [],s,_=>List.pairwise_singleton _ _
 | y::l,s,h=>by
  obtain⟨h1,h2⟩:=Pk.1 h;unfold insP;split
  ·rename_i H;refine Pk.2 ⟨λz G=>?_,Ds h2⟩;rcases xR.1 G with rfl | G
   ·exact H
   ·exact h1 z G
  ·rename_i H;split
   ·exact h
   ·rename_i J;have Z:oJ s y:=(yd y s).resolve_left H |>.resolve_left J;refine Pk.2 ⟨λz G=>?_,h⟩;rcases NV.1 G with rfl | G
    ·exact Z
    ·exact lM Z (h1 z G)
def vG (l:List Pq)(s:Pq):ia (l++[s])=insP (ia l) s:=by unfold ia;rw [List.foldl_append];rfl
def sa:∀n (l:List Pq),l.length=n->uF (ia l)/\∀x,x∈ia l↔x∈l
 | 0,l,h=>by
  obtain rfl:l=[]:=N3 h;exact⟨List.Pairwise.nil,λx=>Qt⟩
 | n+1,l,h=>by
  rcases List.eq_nil_or_concat l with rfl | ⟨m,s,rfl⟩
  ·simp at h
  ·rw [List.concat_eq_append]at h|-;obtain⟨h1,G⟩:=sa n m (by simpa using h);rw [vG];refine⟨Ds h1,λx=>?_⟩;rw [xR,G,NI,NT];exact Or.comm
def zw (l:List Pq):uF (ia l):=(sa _ l rfl).1
def F5 {l:List Pq}{x:Pq}:x∈ia l↔x∈l:=(sa _ l rfl).2 x
def Jm {l m:List Pq}(h:uF m)(k:∀x,x∈m↔x∈l):ia l=m:=(zw l).uniq h λx=>F5.trans (k x).symm
def Dd:∀(l:List Pq) (s:Pq),(insP l s).length<=l.length+1
 | [],s=>by simp [insP]
 | y::l,s=>by
  unfold insP;split
  ·have :=Dd l s;simp only [Nv];omega
  ·split
   ·simp
   ·simp
def tG (l:List Pq):(ia l).length<=l.length:=by
 have:∀(l a:List Pq),(l.foldl insP a).length<=a.length+l.length:=by
  intro l
  induction l with
  | nil=>intro a;simp
  | cons x l G=>
   intro a;have h1:=G (insP a x);have H:=Dd a x;simp only [List.foldl_cons,Nv];omega
 have h:=this l [];simpa [ia]using h
def Gg:∀(l:List Pq) (s:Pq) (k:Nat),k<=l.length->(∀j (h:j< l.length),j< k->oJ l[j] s)->(∀h:k< l.length,¬oJ l[k] s)->insP l s=if l[k]?=some s then l else l.take k++s::l.drop k
 | [],s,k,hk,_,_=>by
  have:k=0:=by simpa using hk
  subst this;simp [insP]
 | y::l,s,0,_,_,h=>by
  have h:=h (by simp);have h:¬oJ y s:=h;unfold insP;rw [NS h];by_cases e:y=s
  ·simp [e]
  ·simp [e]
 | y::l,s,k+1,hk,h1,G=>by
  have H:oJ y s:=h1 0 (by simp) (by omega);have J:=Gg l s k (by simpa using hk) (λj Z β=>h1 (j+1) (by simpa using Z) (by omega)) λh=>G (by simpa using h)
  unfold insP;rw [N' H,J];by_cases e:l[k]?=some s
  ·simp [e]
  ·simp [e]
def Mn (acc:List Pq)(s:Pq):List Pq:=if acc.getLast?=some s then acc else acc++[s]
def dq (l:List Pq):List Pq:=l.foldl Mn []
def Dr (l:List Pq)(s:Pq):dq (l++[s])=Mn (dq l) s:=by unfold dq;rw [List.foldl_append];rfl
end
end Go.Proofs.YthekamjhgabkjaaGreat
