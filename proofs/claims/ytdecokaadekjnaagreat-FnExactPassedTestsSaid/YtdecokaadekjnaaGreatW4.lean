/- Part 4 of a proof of what the last text states; no condition. -/
import Derived.Test.YtdecokaadekjnaaGreatW3
namespace Go.Proofs.YtdecokaadekjnaaGreat
open Go Go.RowKit
theorem BP {n:Nat}(hl:G4 n):Gb (n+1):=by
 intro D w v e nn r ρ tk bad R hn hsh ζ huq h hD hN ο hR;refine kW (ptr nn) v w R ?_;rcases hsh with⟨k,a,b,o,q,rfl,hq⟩ | ⟨J,rfl,hps⟩
 ·obtain⟨t,ts',a',W,vr,e1,ht,hk,hlv,_⟩:=h;obtain⟨rfl,rfl⟩:=KG e1;obtain⟨g,V,hgD,hg2,c0,c1,c2,c3,c4⟩:=ht;obtain⟨u1,u2⟩:=huq.thr;simp only [Lv.sz]at hn;simp only [Lv.tot]at ο;simp only [Lv.sm,JF]at ζ;have hgn:=hD g hgD;have cell:∀{w':World},Kn nn r w w'->∀j,w'.cell? ⟨g,j,none⟩=w.cell? ⟨g,j,none⟩:=λx j=>JB (w:=w) (x.block g hg2 hgn)
  have hlen:∀ρ tk,(aR o (thS q) ρ tk).length<=1099511627776:=λρ tk=>by
   have :=nI (λρ tk=>fY q ρ tk) ρ tk (own:=o);omega
  have ι:∀{w1:World} {Z:Rh} {μ:Tk} {ς:Bool} {R:ay->World->Prop},Kn nn r w w1->Nm w1 nn r Z μ ς->(∀w' ρ',Kn nn r w1 w'->Nm w' nn r ρ' μ (ς||fv o.length q.isNil (thBad q) μ)->(∀x,x∉o->x∉q.bvs->ρ' x=Z x)->R (aR o (thS q) Z μ) w')->Calls Tryz.prog 237 #[ptr nn,vr] w1 (an [.s] R):=λk1 n1 hR=>
   hl (by omega) hq ζ.1 u1 (hlv.kp k1 hD λl h=>h.kp k1 hD) hD n1 (by omega) hR
  cases k
  case p=>
   refine⟨g,0,V,_,c0,aS (by decide) (cS (by decide) ⟨g,0,V,vr,c3,ι (Kn.ex (Ex.refl w)) hN λw' ρ' k' n' H=>⟨by have :=hlen ρ tk;simp only [JA,JQ];omega,hR _ w' ρ' (by simp only [thS,kText];rfl) k' ?_ λx G=>?_⟩⟩)⟩
   ·simpa [thBad]using n'
   ·simp only [Lv.bvs,Kb,JN,M5]at G;exact H x G.2.1 G.2.2
  case t=>
   refine⟨g,0,V,_,c0,aS (by decide) (aS (by decide) (cS (by decide) ⟨g,0,V,vr,c3,ι (Kn.ex (Ex.refl w)) hN λw' ρ' k' n' H=>⟨by have :=hlen ρ tk;simp only [JA,JQ];omega,hR _ w' ρ' (by simp only [thS,kText];rfl) k' ?_ λx G=>?_⟩⟩))⟩
   ·simpa [thBad]using n'
   ·simp only [Lv.bvs,Kb,JN,M5]at G;exact H x G.2.1 G.2.2
  case m=>
   obtain⟨rfl,rfl⟩:a'=a/\W=b:=by rcases hk with h | h | h<;>first | exact h | cases h
   refine⟨g,0,V,_,c0,aS (by decide) (aS (by decide) (aS (by decide) (cS (by decide) ⟨λw'=>Kn nn r w w',λw48 α=>?_⟩)))⟩;have I:Kn nn r w w48:=Kn.ex (α▸Ex.drew w);have β:=hN.ex (α▸Ex.drew w);refine⟨I,g,0,V,a',λw' x=>by rw [cell x];exact c1,g,0,V,W,λw' x=>by rw [cell x];exact c2,jO β ⟨I,jO β ⟨I,?_,?_,?_,?_,g,0,V,vr,by rw [cell I];exact c3,ι I β λw' ρ' k' n' H=>⟨?_,hR _ w' ρ' ?_ (Kn.trans I k') ?_ λx G=>?_⟩⟩⟩⟩
   ·split<;>simp
   ·split<;>simp
   ·split<;>split<;>simp
   ·split<;>split<;>simp
   ·have :=hlen ρ tk;split<;>split<;>(simp only [JJ,JA,JQ];omega)
   ·simp only [thS,kText,Jx,Kw,Mb];by_cases h1:ρ a'< ρ W
    ·have h2:¬ρ W< ρ a':=λh2=>by rw [Ko]at h1 h2;omega
     simp [h1,h2]
    ·by_cases h2:ρ W< ρ a'
     ·have h3:ρ a'≠ρ W:=λe=>by rw [e,Ko]at h2;omega
      simp [h1,h2,h3]
     ·have h3:ρ a'=ρ W:=by
       rw [Ko]at h1 h2;exact J4.1 (by omega)
      simp [h1,h2,h3]
   ·simpa [thBad]using n'
   ·simp only [Lv.bvs,Kb,JN,M5]at G;exact H x G.2.1 G.2.2
  case s=>
   obtain⟨rfl,rfl⟩:a'=a/\W=b:=by rcases hk with h | h | h<;>first | exact h | cases h
   refine⟨g,0,V,_,c0,aS (by decide) (aS (by decide) (aS (by decide) (aS (by decide) (aS (by decide) ⟨λw'=>Kn nn r w w',λw48 α=>?_⟩))))⟩;have I:Kn nn r w w48:=Kn.ex (α▸Ex.drew w);have β:=hN.ex (α▸Ex.drew w);refine⟨I,g,0,V,a',λw' x=>by rw [cell x];exact c1,g,0,V,W,λw' x=>by rw [cell x];exact c2,g,0,V,vr,λw' x=>by rw [cell x];exact c3,jO β ⟨I,by simp,jO β ⟨I,by simp,by simp,ι I β λw' ρ' k' n' H=>⟨Kn.trans I k',?_,hR _ w' ρ' ?_ (Kn.trans I k') ?_ λx G=>?_⟩⟩⟩⟩
   ·have :=hlen ρ tk;simp only [JJ,JA,JQ];omega
   ·simp only [thS,kText];simp
   ·simpa [thBad]using n'
   ·simp only [Lv.bvs,Kb,JN,M5]at G;exact H x G.2.1 G.2.2
  case r=>
   obtain⟨rfl,rfl⟩:a'=a/\W=b:=by rcases hk with h | h | h<;>first | exact h | cases h
   obtain⟨u3,u4,u5,u6⟩:=u2 rfl;refine⟨g,0,V,_,c0,aS (by decide) (aS (by decide) (aS (by decide) (aS (by decide) (cS (by decide) ⟨g,0,V,W,c2,DT hN u3 λy w68 hy k68 n68=>⟨λw'=>Kn nn r w w',λw70 υ=>?_⟩⟩))))⟩;have η:Kn nn r w w70:=Kn.trans k68 (Kn.ex (υ▸Ex.drew w68));have n70:=n68.ex (υ▸Ex.drew w68);refine⟨η,g,0,V,a',λw' x=>by rw [cell x];exact c1,g,0,V,W,λw' x=>by rw [cell x];exact c2,g,0,V,vr,λw' x=>by rw [cell x];exact c3,jO n70 ⟨η,by simp,jO n70 ⟨η,by simp,by simp,ι η n70 λw' ρ' k' n' H=>⟨Kn.trans η k',?_,nn,0,rfl,?_,λw89 φ=>hR _ w89 ρ' ?_ (Kn.trans (Kn.trans η k') (φ▸Kn.set _ _ _)) ?_ λx G=>?_⟩⟩⟩⟩
   ·have :=hlen (aF ρ W (iC tk)) (ch tk (iC tk));simp only [JJ,JA,JQ];omega
   ·obtain⟨z,hz,_⟩:=n'.c1;exact⟨⟨_,hz⟩,n'.f 1⟩
   ·simp only [thS,kText,KB,KC,Kg];rw [show aF ρ W (iC tk) a'=ρ a' from JV (ME u4),show aF ρ W (iC tk) W=iC tk from Ka rfl]
   ·have :=n'.set (tk':=tk) (bad':=(bad||thBad (.thr .r a' W o q .nil) tk)) φ (.inl ⟨rfl,?_,y,rfl,hy⟩)
    ·exact this
    ·simp [thBad,K6]
   ·simp only [Lv.bvs,Kb,JN,M5,Ls,JO]at G;rw [H x G.2.1 G.2.2];exact JV G.1
 ·obtain⟨t,ts',a',W,vp,us,e1,ht,hus,χ,_⟩:=h;obtain⟨rfl,rfl⟩:=KG e1;obtain⟨g,V,hgD,hg2,c0,c1,c2,c3,c4⟩:=ht;have uq:=huq.sum;simp only [Lv.sz]at hn;simp only [Lv.tot]at ο;simp only [Lv.sm,JF,Lu]at ζ;obtain⟨au,cau,hvu⟩:=hus.slice;have hul:=χ.len;have hpl:=Lv.cK J;have hpt:=bT J;have hln:∀ρ tk,(thS J ρ tk).length=J.len:=λρ tk=>bB J ρ tk
  refine⟨g,0,V,_,c0,cS (by decide) λb6 w7 hb6 hw7=>?_⟩;have x7:Ex w w7:=hw7▸Ex.alloc w _;refine⟨g,0,V,vp,by rw [x7.cell (show g< _ from hg2)];exact c4,au,_,cau,hvu,λtx x w'=>∃(j:Nat) (ρ':Rh),x=j/\j<=us.length/\Kn nn r w w'/\Nm w' nn r ρ' tk (bad||thBad (J.take j) tk)/\(∀x,x∉(J.take j).bvs->ρ' x=ρ x)/\Own w.heap.size w' tx (thS (J.take j) ρ tk),λ _ x _=>(us.length - x).toNat,⟨0,ρ,rfl,Ks _,Kn.ex x7,by simpa [Lv.take,thBad]using hN.ex x7,λ _ _=>rfl,Own.none (JL _) hb6 hw7⟩,λtx x w18 hI=>?_⟩;obtain⟨j,Z,rfl,hj,κ,n18,H,ho⟩:=hI;refine⟨λhlt=>?_,λhge=>?_⟩;rotate_left
  ·have:j=J.bn.length:=by simp only [JE]at hge;omega
   rw [this,Lv.de]at n18 ho H;have hlen:=fY J ρ tk;refine DV ho (λe=>?_) (by rw [hln];omega) (by omega) λw36 k36=>hR _ w36 Z rfl ?_ ?_ λx G=>H x ?_
   ·have :=hln ρ tk;rw [e]at this;rw [Lv.du]at ζ;simp only [JQ]at this;simp [<-this]at ζ
   ·exact Kp.trans κ k36 λg' hg' h'=>by have :=(ho.block g' h').1;omega
   ·have hb:∀g',tx.ownBlock=some g'->w.heap.size<=g':=λg' h'=>(ho.block g' h').1
    have :=hN.lt;have :=hN.lr;have e:(bad||thBad (.sum J .nil) tk)=(bad||thBad J tk):=by simp [thBad]
    rw [e];exact n18.kp k36 (λh'=>by have :=hb _ h';omega) λh'=>by have :=hb _ h';omega
   ·simpa [Lv.bvs]using G
  have ν:j< us.length:=by simp only [JD]at hlt;omega
  have hje:j< J.bn.length:=by omega
  obtain⟨bu,ou,γ,hvu',hcu⟩:∃bu ou γ,vp= .slice (some ⟨bu,ou,none⟩) us.length γ/\w18.cell? ⟨bu,ou+j,none⟩=some us[j]:=by
   rcases hus with⟨_,h0⟩ | ⟨bt,ot,capt',e,hbD,hb',hcell⟩
   ·rw [h0]at ν;simp at ν
   ·exact⟨bt,ot,capt',e,by rw [JB (w:=w) (κ.block bt hb' (hD bt hbD))];exact hcell j _ (JC ν)⟩
  obtain⟨e,hf1,θ,hf3⟩:=aK.single χ.bn (JC ν);have hf4:J.bn[j]=e:=by rw [JC hje]at hf1;exact Kt hf1
  have δ:=Lv.take_succ J j hje;rw [hf4]at δ;have huqe:=uq.bn θ;have ψ:=Lv.tJ ζ.2.1 e θ;have hsz2:=Lv.ee J e θ;have htot2:=Lv.gd J e θ;have hfe:thS e Z tk=thS e ρ tk:=sJ e Z ρ tk λx G=>H x λhb=>uq.nf x (Lv.lD J j x hb) (Lv.pE J e θ G)
  obtain⟨o2,q,rfl,hq⟩:=Lv.lX hps e θ;simp only [Lv.sz]at hsz2;simp only [Lv.tot]at htot2;simp only [Lv.sm,JF]at ψ;obtain⟨v2,ts2,e2,hlv2,_⟩:=hf3;obtain⟨rfl,rfl⟩:=KG e2;refine⟨bu,ou,_,γ,hvu',by omega,by omega,us[j],by rw [JI,Kc];exact hcu,?_⟩;refine hl (by omega) hq ψ.1 huqe.part (hlv2.kp κ hD λl h=>h.kp κ hD) hD n18 (by omega) λw25 ρ2 k25 n25 hρ2 b26 w27 hb26 ω=>?_
  have ξ:Ex w25 w27:=ω▸Ex.alloc w25 _;have k1:Kn nn r w w25:=Kn.trans κ k25;have ε:∀g',tx.ownBlock=some g'->w.heap.size<=g'/\¬(g'=nn\/g'=r):=λg' h'=>by
   have h1:=(ho.block g' h').1;have :=hN.lt;have :=hN.lr;exact⟨h1,by omega⟩
  have ho27:Own w.heap.size w27 tx (thS (J.take j) ρ tk):=(ho.kp k25 λg' h'=>(ε g' h').2).ex ξ;have hl3:(thS (J.take j) ρ tk).length<=us.length:=by
   rw [bB];have :=Lv.gP J j;omega
  refine Own.push ho27 (by have :=k1.size;have :=ξ.size;omega) (Strs.one hb26 ω) (by simp only [JA,JQ];omega) λv33 w34 _ ho34 hg34 _=>⟨by unfold aj;omega,⟨j+1,ρ2,by omega,by omega,?_,?_,?_,?_⟩,by show((us.length:Int) - ((j:Int)+1)).toNat< ((us.length:Int) - j).toNat;omega⟩
  ·exact Kp.new (Kn.trans k1 (Kn.ex ξ)) hg34 λg' h'=>(ε g' h').1
  ·have e1:(bad||thBad (J.take (j+1)) tk)=(bad||thBad (J.take j) tk||fv o2.length q.isNil (thBad q) tk):=by rw [δ,cT];simp [thBad,K6]
   rw [e1];refine(n25.ex ξ).kp (Kp.aP (S:=λg=>tx.ownBlock=some g) hg34 λ _ h=>h) (λh'=>(ε _ h').2 (.inl rfl)) λh'=>(ε _ h').2 (.inr rfl)
  ·intro x G;rw [δ,Lv.dj]at G;simp only [Lv.bvs,Kb,JN,M5]at G;rw [hρ2 x G.2.1 G.2.2,H x G.1]
  ·rw [δ,ga];have e3:thS (.part o2 q .nil) ρ tk=[aR o2 (thS q) Z tk]:=by rw [<-hfe];simp only [thS]
   rw [e3];exact ho34
theorem aD.set {e B:Nat}{w w':World}{g cap n j:Nat}{l:List Value}{x:Value}(h:aD e B w (.slice (some ⟨g,0,none⟩) n cap) l)(hw:w'=w.setCell ⟨g,j,none⟩ x)(Z:j< l.length):aD e B w' (.slice (some ⟨g,0,none⟩) n cap) (l.set j x):=by
 subst hw;rcases h.2 with⟨H,_⟩ | ⟨g',z,cur,I,hb,J,V,W,G,h4⟩
 ·cases H
 ·cases I;have hl:=h.1;rw [Kc]at G h4;have e:(w.setCell ⟨g,j,none⟩ x).heap[g]?=some (.cells (cur.setIfInBounds j x) e (0,0)):=by
   rw [Sort.setCell_eq];simp [Sort.mapBlock,Lx,J,Sort.onCells]
  refine⟨by simp,.inr ⟨g,cap,_,by simp,hb,e,by simpa using V,W,by simpa using G,?_⟩⟩;rw [Kc,La,Array.toList_setIfInBounds,List.take_set,h4]
theorem aD.at {e B:Nat}{w:World}{g cap n j:Nat}{o:List Nat}(h:aD e B w (.slice (some ⟨g,0,none⟩) n cap) (o.map iv))(I:j< o.length):w.cell? ⟨g,0+j,none⟩=some (iv o[j])/\w.frozen? ⟨g,0+j,none⟩=false/\g< w.heap.size/\n=o.length:=by
 have fr:=h.fr (g:=g) rfl (0+j);have hb:=h.block g rfl;rcases h.2 with⟨G,_⟩ | ⟨W,z,cur,H,J,Z,h1,h2,h3,h4⟩
 ·cases G
 ·cases H;refine⟨?_,fr,hb.2,by simp⟩;rcases h.Cg (D:=λ _=>True) λ _ _=>trivial with⟨G,_⟩ | ⟨b,off,z,H,_,_,V⟩
  ·cases G
  ·cases H;exact V j _ (by simp [I])
def swp (π:List Nat)(a i:Nat)(ha:a< π.length)(z:i< π.length):List Nat:=(π.set a π[i]).set i π[a]
theorem lV (π:List Nat)(a i:Nat)(ha:a< π.length)(z:i< π.length)(H:a<=i):
  (swp π a i ha z).Perm π/\(swp π a i ha z).length=π.length/\(swp π a i ha z).take (a+1)=π.take a++[π[i]]:=by
 have G:(swp π a i ha z).Perm π:=by
  have :=List.set_set_perm z ha;unfold swp;by_cases h:a=i
  ·subst h;simp
  ·rw [List.set_comm _ _ h];exact this
 have I:(swp π a i ha z).length=π.length:=G.length_eq;refine⟨G,I,?_⟩;rw [JG (by omega)]
 congr 1
 ·unfold swp;rw [MM (by omega),MM (by omega)]
 ·unfold swp;by_cases h:a=i
  ·subst h;simp
  ·simp [List.getElem_set,ME h]
theorem E5 (π:List Nat)(a:Nat)(ha:a< π.length)(σ:List Nat):
  (∃i,∃z:i< π.length,a<=i/\∃τ:List Nat,τ.Perm ((swp π a i ha z).drop (a+1))/\σ=(swp π a i ha z).take (a+1)++τ)↔∃τ:List Nat,τ.Perm (π.drop a)/\σ=π.take a++τ:=by
 have key:∀i (z:i< π.length),a<=i->(π[i]::(swp π a i ha z).drop (a+1)).Perm (π.drop a):=λi z G=>by
  obtain⟨H,J,I⟩:=lV π a i ha z G;have h4:(π.take a++(π[i]::(swp π a i ha z).drop (a+1))).Perm (π.take a++π.drop a):=by
   rw [KT,List.append_cons,<-I,KT];exact H
  exact(List.perm_append_left_iff _).1 h4
 constructor
 ·rintro⟨i,z,G,τ,H,rfl⟩
  obtain⟨J,I,h4⟩:=lV π a i ha z G;refine⟨π[i]::τ,(H.cons _).trans (key i z G),?_⟩;rw [h4,Kg];rfl
 ·rintro⟨τ,H,rfl⟩
  cases τ with
  | nil=>have :=H.length_eq;rw [K1]at this;simp at this;omega
  | cons y τ=>
   have V:=H.subset (Kl ..);obtain⟨j,W,e⟩:=KA.1 V;rw [K1]at W;rw [List.getElem_drop]at e;have z:a+j< π.length:=by omega
   obtain⟨J,I,h4⟩:=lV π a (a+j) ha z (by omega);refine⟨a+j,z,by omega,τ,?_,?_⟩
   ·have :=key (a+j) z (by omega);rw [e]at this;exact(MS y).1 (H.trans this.symm)
   ·rw [h4,e,Kg];rfl
theorem G3 (π:List Nat)(a i:Nat)(ha:a< π.length)(z:i< π.length)(G:i< (swp π a i ha z).length)(H:a< (swp π a i ha z).length):(swp π a i ha z)[i]=π[a]/\(swp π a i ha z)[a]=π[i]:=by
 simp only [swp,List.getElem_set];refine⟨Ka trivial,?_⟩;by_cases h:i=a
 ·subst h;simp
 ·simp [h]
def Js (B:Nat)(v:Value)(o:List Nat)(Inv:List (List Nat)->World->Prop)(f:Nat)(ca:List Value):Prop:=
 ∀(acc:List (List Nat)) (π:List Nat) (w:World),Inv acc w->aD 3 B w v (π.map iv)->π.Perm o->∀{R:World->Prop},(∀w',Inv (acc++[π]) w'->aD 3 B w' v (π.map iv)->R w')->Calls Tryz.prog f (List.toArray ca) w (an [] R)
theorem yp {B:Nat}{v:Value}{o:List Nat}{Inv:List (List Nat)->World->Prop}{f:Nat}{ca:List Value}(hf:dD.contains f=true)(κ:Js B v o Inv f ca)(hinv:∀acc w w',Inv acc w->Kp w w' (λg=>v.ownBlock=some g)->Inv acc w')(ho:o.length<=1099511627776):
  ∀(d:Nat) (a:Nat) (π:List Nat) (acc:List (List Nat)) (w:World),a+d=π.length->Inv acc w->aD 3 B w v (π.map iv)->π.Perm o->∀{R:World->Prop},
   (∀w' δ,Inv (acc++δ) w'->aD 3 B w' v (π.map iv)->(∀σ,σ∈δ↔∃τ:List Nat,τ.Perm (π.drop a)/\σ=π.take a++τ)->R w')->
   Calls Tryz.prog 250 #[v,iv a,.func (.func f) #[] (List.toArray ca)] w (an [] R)
 | 0,a,π,acc,w,hd,hI,hw,hp,R,hR=>by
  refine kR v a _ w R ?_;obtain⟨ad,cap,hv⟩:=(hw.Cg (D:=λ _=>True) λ _ _=>trivial).slice;rw [JY]at hv;refine⟨ad,_,cap,hv,cS (by omega) ⟨f,ca,rfl,hf,?_⟩⟩;rw [KB];refine κ acc π w hI hw hp λw' hI' hw'=>hR w' [π] hI' hw' λσ=>?_
  rw [show a=π.length by omega,Ld,J3];simp only [JO,List.perm_nil];constructor
  ·rintro rfl;exact⟨[],rfl,by simp⟩
  ·rintro⟨τ,rfl,rfl⟩;simp
 | d+1,a,π,acc,w,hd,hI,hw,hp,R,hR=>by
  refine kR v a _ w R ?_;have ha:a< π.length:=by omega
  have hpl:=hp.length_eq;obtain⟨g,cap,hv⟩:∃g cap,v= .slice (some ⟨g,0,none⟩) π.length cap:=by
   rcases hw.2 with⟨_,h0⟩ | ⟨g,cap,cur,hv,_⟩
   ·rw [JY]at h0;omega
   ·rw [JY]at hv;exact⟨g,cap,hv⟩
  subst hv;have kg:∀{w1 w2:World} {j:Nat} {x:Value},w2=w1.setCell ⟨g,j,none⟩ x->Kp w1 w2 (λb=>(Value.slice (some ⟨g,0,none⟩) π.length cap).ownBlock=some b):=λh=>h▸Kp.mono (λb hb=>by rw [hb];rfl) (Kr.set _ _ _)
  refine⟨_,_,cap,rfl,aS (by omega) ⟨λi w'=>∃(j:Nat) (z:List (List Nat)),i=j/\a<=j/\j<=π.length/\Inv (acc++z) w'/\aD 3 B w' (.slice (some ⟨g,0,none⟩) π.length cap) (π.map iv)/\∀σ,σ∈z↔∃i,∃hi:i< π.length,(a<=i/\i< j)/\∃τ:List Nat,τ.Perm ((swp π a i ha hi).drop (a+1))/\σ=(swp π a i ha hi).take (a+1)++τ,
   λi _=>(π.length - i).toNat,⟨a,[],rfl,JL _,by omega,by rw [Kb];exact hI,hw,λσ=>⟨λh=>(by cases h),fun⟨i,_,h,_⟩=>by omega⟩⟩,λi ζ hJ=>?_⟩⟩
  obtain⟨j,z,rfl,μ,hjl,ν,α,ε⟩:=hJ;refine⟨_,_,cap,rfl,λhlt=>?_,λhge=>?_⟩;rotate_left
  ·have:j=π.length:=by simp only [JE]at hge;omega
   refine hR ζ z ν α λσ=>?_
   rw [ε,<-E5 π a ha];constructor
   ·rintro⟨i,hi,⟨h1,_⟩,h2⟩;exact⟨i,hi,h1,h2⟩
   ·rintro⟨i,hi,h1,h2⟩;exact⟨i,hi,⟨h1,by omega⟩,h2⟩
  have G:j< π.length:=by simp only [JD]at hlt;omega
  obtain⟨cj,fj,hgb,_⟩:=α.at G;obtain⟨ca',fa,_,_⟩:=α.at ha;obtain⟨s1,s2,s3⟩:=lV π a j ha G μ;refine⟨λw'=>aD 3 B w' (.slice (some ⟨g,0,none⟩) π.length cap) (π.map iv),λw18 ξ=>?_⟩;have ο:Ex ζ w18:=ξ▸Ex.drew ζ;have β:=α.kp (Kp.ah ο λ _=>False) λ _ _ h=>h
  have I18:=hinv _ _ _ ν (Kp.ah ο _);refine⟨β,g,0,_,cap,rfl,by omega,by omega,π[j],λw' ho=>by rw [JI,Kc];exact(ho.at G).1,g,0,_,cap,rfl,by omega,by omega,π[a],λw' ho=>by rw [JI,Kc];exact(ho.at ha).1,g,0,_,cap,rfl,by omega,by omega,⟨⟨_,by rw [JI,Kc];exact(β.at ha).1⟩,by rw [JI,Kc];exact(β.at ha).2.1⟩,λw34 J=>?_⟩;rw [JI,Kc,J']at J;have η:=β.set J (by simpa using ha);rw [<-MJ]at η;have ς:j< (π.set a π[j]).length:=by rw [La];exact G
  obtain⟨c34,f34,_,_⟩:=η.at ς;refine⟨g,0,_,cap,rfl,by omega,by omega,⟨⟨_,by rw [JI,Kc];exact c34⟩,by rw [JI,Kc];exact f34⟩,λυ V=>⟨by unfold aj;omega,?_⟩⟩;rw [JI,Kc,J']at V;have φ:=η.set V (by simpa using G);rw [<-MJ]at φ;have χ:aD 3 B υ (.slice (some ⟨g,0,none⟩) π.length cap) ((swp π a j ha G).map iv):=φ;have I40:=hinv _ _ _ (hinv _ _ _ I18 (kg J)) (kg V);refine yp hf κ hinv ho d (a+1) (swp π a j ha G) (acc++z) υ (by omega) I40 χ (s1.trans hp) λψ ω I41 o41 hm2=>?_
  have I:j< (swp π a j ha G).length:=by omega
  have H:a< (swp π a j ha G).length:=by omega
  obtain⟨ej,ea⟩:=G3 π a j ha G I H;refine⟨λw'=>aD 3 B w' (.slice (some ⟨g,0,none⟩) π.length cap) ((swp π a j ha G).map iv),λw43 hw43=>?_⟩;have x43:Ex ψ w43:=hw43▸Ex.drew ψ;have γ:=o41.kp (Kp.ah x43 λ _=>False) λ _ _ h=>h
  have I43:=hinv _ _ _ I41 (Kp.ah x43 _);refine⟨γ,g,0,_,cap,rfl,by omega,by omega,((swp π a j ha G)[j]:Nat),λw' ho=>by rw [JI,Kc];exact(ho.at I).1,g,0,_,cap,rfl,by omega,by omega,((swp π a j ha G)[a]:Nat),λw' ho=>by rw [JI,Kc];exact(ho.at H).1,g,0,_,cap,rfl,by omega,by omega,⟨⟨_,by rw [JI,Kc];exact(γ.at H).1⟩,by rw [JI,Kc];exact(γ.at H).2.1⟩,λw59 W=>?_⟩;rw [JI,Kc,J']at W;have θ:=γ.set W (by rw [JY];exact H);rw [<-MJ]at θ;have hj59:j< ((swp π a j ha G).set a (swp π a j ha G)[j]).length:=by rw [La];exact I
  obtain⟨c59,f59,_,_⟩:=θ.at hj59;refine⟨g,0,_,cap,rfl,by omega,by omega,⟨⟨_,by rw [JI,Kc];exact c59⟩,by rw [JI,Kc];exact f59⟩,λw65 Z=>⟨by unfold aj;omega,⟨j+1,z++ω,by omega,by omega,by omega,?_,?_,λσ=>?_⟩,by show((π.length:Int) - ((j:Int)+1)).toNat< ((π.length:Int) - j).toNat;omega⟩⟩
  ·rw [<-Kg];exact hinv _ _ _ (hinv _ _ _ I43 (kg W)) (kg Z)
  ·rw [JI,Kc,J']at Z;have ι:=θ.set Z (by rw [JY,La];exact I);rw [<-MJ]at ι;have e:((swp π a j ha G).set a (swp π a j ha G)[j]).set j (swp π a j ha G)[a]=π:=by
    rw [ej,ea];unfold swp;apply Mg
    ·simp
    ·intro k h1 h2;simp only [List.getElem_set];split
     ·rename_i h;subst h;rfl
     ·split
      ·rename_i h;subst h;rfl
      ·rfl
   rw [e]at ι;exact ι
  ·rw [JN,ε,hm2];constructor
   ·rintro(⟨i,hi,⟨h1,h2⟩,h3⟩ | ⟨τ,h1,h2⟩)
    ·exact⟨i,hi,⟨h1,by omega⟩,h3⟩
    ·exact⟨j,G,⟨μ,by omega⟩,τ,h1,h2⟩
   ·rintro⟨i,hi,⟨h1,h2⟩,h3⟩
    by_cases h:i=j
    ·subst h;right;exact h3
    ·left;exact⟨i,hi,⟨h1,by omega⟩,h3⟩
structure wU (w:World)(b30 b3 b5 b16 b18 nn:Nat)(vo vl:Value)(x:UInt32)(best:Tx):Prop where
 l:∀b,(b=b30\/b=b3\/b=b5\/b=b16\/b=b18)->b< w.heap.size
 c30:w.cell? ⟨b30,0,none⟩=some vo
 c3:w.cell? ⟨b3,0,none⟩=some (ptr nn)
 c5:w.cell? ⟨b5,0,none⟩=some vl
 c16:w.cell? ⟨b16,0,none⟩=some (.string (ab best))
 c18:w.cell? ⟨b18,0,none⟩=some (.int .u32 x.toNat)
 f16:w.frozen? ⟨b16,0,none⟩=false
 ne:b16≠b30/\b16≠b3/\b16≠b5/\b16≠b18
section
variable {w w':World} {b30 b3 b5 b16 b18 nn:Nat} {vo vl:Value} {x:UInt32} {best best':Tx} {S:Nat->Prop}
theorem wU.kp (h:wU w b30 b3 b5 b16 b18 nn vo vl x best)(k:Kp w w' S)(z:∀b,(b=b30\/b=b3\/b=b5\/b=b16\/b=b18)->¬S b):wU w' b30 b3 b5 b16 b18 nn vo vl x best:=by
 have e:∀b,(b=b30\/b=b3\/b=b5\/b=b16\/b=b18)->w'.heap[b]?=w.heap[b]?:=λb hb=>k.block b (h.l b hb) (z b hb)
 exact⟨λb hb=>J2 (h.l b hb) k.size,by rw [JB (w:=w) (e b30 (by simp))];exact h.c30,by rw [JB (w:=w) (e b3 (by simp))];exact h.c3,by rw [JB (w:=w) (e b5 (by simp))];exact h.c5,
  by rw [JB (w:=w) (e b16 (by simp))];exact h.c16,by rw [JB (w:=w) (e b18 (by simp))];exact h.c18,by rw [J8 (w:=w) (e b16 (by simp))];exact h.f16,h.ne⟩
theorem wU.ex (h:wU w b30 b3 b5 b16 b18 nn vo vl x best)(k:Ex w w'):wU w' b30 b3 b5 b16 b18 nn vo vl x best:=h.kp (Kp.ah k λ _=>False) λ _ _ h=>h
theorem wU.C' (h:wU w b30 b3 b5 b16 b18 nn vo vl x best)(hw:w'=w.setCell ⟨b16,0,none⟩ (.string (ab best'))):wU w' b30 b3 b5 b16 b18 nn vo vl x best':=by
 subst hw;have k:=Kr.set (r:=b16) w 0 (.string (ab best'));have ne:∀b,b16≠b->(w.setCell ⟨b16,0,none⟩ (.string (ab best'))).cell? ⟨b,0,none⟩=w.cell? ⟨b,0,none⟩:=λb hb=>JH _ _ _ _ (λe=>by injection e with I J;omega)
 obtain⟨n1,z,G,H⟩:=h.ne;exact⟨λb hb=>J2 (h.l b hb) k.size,by rw [ne _ n1];exact h.c30,by rw [ne _ z];exact h.c3,by rw [ne _ G];exact h.c5,JT _ _ _ h.c16,by rw [ne _ H];exact h.c18,by rw [JU];exact h.f16,h.ne⟩
end
def nk (l:Lv)(ls:List UInt8)(ρ:Rh)(tk:Tk)(π:List Nat):Tx:=wrap ls []++joinS 38 (aX (thS l (asg π ls ρ) (addK ls tk)))
theorem BW (c:UInt8)(l:List UInt8):wrap (c::l) []=[35]++[c]++[46]++wrap l []:=rfl
theorem Eo {n:Nat}(ht:Gb n){D:Nat->Prop}{w:World}{b30 b3 b5 b16 b18 nn r:Nat}{vo vl:Value}{x:UInt32}{best:Tx}{o π:List Nat}{l:Lv}{ρ:Rh}{tk:Tk}{bad:Bool}{B:Nat}(hs:wU w b30 b3 b5 b16 b18 nn vo vl x best)
  (hb:∀b,(b=b30\/b=b3\/b=b5\/b=b16\/b=b18)->¬(b=nn\/b=r)) (ho:aD 3 B w vo (π.map iv)) (hob:∀g,vo.ownBlock=some g->¬(g=nn\/g=r)) (hp:π.Perm o) (hN:Nm w nn r ρ tk bad) (hx:qG x tk)
  (hn:l.sz<=n) (hsh:l.sh true=true) (hsm:l.sm=true) (huq:tN o l) (h:fS D w vl o (af D w l)) (hD:∀g,D g->¬(g=nn\/g=r)) (hne:l.isNil=false) (htot:o.length+l.tot<=4294967296) {R:World->Prop}
  (hR:∀w' ρ' best',Kp w w' (λg=>g=nn\/g=r\/g=b16)->wU w' b30 b3 b5 b16 b18 nn vo vl x best'->Nm w' nn r ρ' tk (bad||(fV o.length tk||thBad l (addK (lets o.length tk) tk)))->(∀z,z∉o->z∉l.bvs->ρ' z=ρ z)->
   best'=(if best=[]\/nk l (lets o.length tk) ρ tk π< best then nk l (lets o.length tk) ρ tk π else best)->R w'):
  Calls Tryz.prog 251 #[ptr b30,ptr b3,ptr b5,ptr b16,ptr b18] w (an [] R):=by
 refine j6 _ _ _ _ _ w R ?_;have ο:=hp.length_eq;obtain⟨ao,capo,hvo⟩:=(ho.Cg (D:=λ _=>True) λ _ _=>trivial).slice;rw [JY]at hvo;have hge:=huq.ge;refine⟨b30,0,rfl,vo,hs.c30,ao,_,capo,hvo,λhd y w'=>∃(j:Nat) (H:Rh) (G:Tk) (I:Bool),y=j/\j<=π.length/\Kn nn r w w'/\Nm w' nn r H G I/\hd.length=3* j/\asg (π.drop j) (lets (π.length - j) G) H=asg π (lets o.length tk) ρ/\addK (lets (π.length - j) G) G=addK (lets o.length tk) tk/\
   (I||fV (π.length - j) G)=(bad||fV o.length tk)/\hd++wrap (lets (π.length - j) G) []=wrap (lets o.length tk) []/\∀z,z∉o->H z=ρ z,λ _ y _=>(π.length - y).toNat,⟨0,ρ,tk,bad,rfl,Ks _,Kn.ex (Ex.refl w),hN,rfl,by rw [Ll,Nat.sub_zero,ο],by rw [Nat.sub_zero,ο],by rw [Nat.sub_zero,ο],by rw [Nat.sub_zero,ο];rfl,λ _ _=>rfl⟩,λhd y ς hI=>?_⟩
 obtain⟨j,H,G,I,rfl,hj,ι,n16,hhd,e1,e2,e3,e4,e5⟩:=hI;have s16:wU ς b30 b3 b5 b16 b18 nn vo vl x best:=hs.kp ι hb;refine⟨λhlt=>?_,λhge2=>?_⟩
 ·have ζ:j< π.length:=by simp only [JD]at hlt;omega
  obtain⟨g,cap,hvo2⟩:∃g cap,vo= .slice (some ⟨g,0,none⟩) π.length cap:=by
   rcases ho.2 with⟨_,h0⟩ | ⟨g,cap,cur,hv,_⟩
   ·rw [JY]at h0;omega
   ·rw [JY]at hv;exact⟨g,cap,hv⟩
  have o16:=ho.kp ι λg hg=>hob g hg
  have hx26:26<=π[j]:=hge _ (Ke _ (hp.subset (JM ζ)));have α:ς.cell? ⟨g,0+Int.toNat (j:Int)* 1,none⟩=some (iv π[j]):=by
   rw [hvo2]at o16;rw [JI,Kc];exact(o16.at ζ).1
  refine⟨g,0,_,cap,hvo2,by omega,by omega,π[j],α,b3,0,rfl,ptr nn,s16.c3,DT n16 hx26 λy' w26 _ k26 n26=>⟨b3,0,rfl,ptr nn,(s16.kp k26 hb).c3,jO n26 ⟨by simp,by simp,?_,by unfold aj;omega,⟨j+1,_,_,_,by omega,by omega,Kn.trans ι k26,n26,?_,?_,?_,?_,?_,λz hz=>?_⟩,by show((π.length:Int) - ((j:Int)+1)).toNat< ((π.length:Int) - j).toNat;omega⟩⟩⟩
  all_goals have ed:π.drop j=π[j]::π.drop (j+1):=Kx ζ
  all_goals have el:π.length - j=(π.length - (j+1))+1:=by omega
  all_goals rw [el]at e1 e2 e3 e4
  ·simp;omega
  ·simp;omega
  ·rw [ed]at e1;exact e1
  ·exact e2
  ·rw [<-e3];simp only [fV,K6]
  ·rw [<-e4,lets,BW];simp [aF]
  ·rw [<-e5 z hz];refine JV λe=>hz ?_
   rw [e];exact hp.subset (JM ζ)
 ·have ζ:j=π.length:=by simp only [JE]at hge2;omega
  subst ζ;rw [MY]at e1 e2 e3 e4;rw [Ld]at e1;simp only [lets,asg,addK,fV,wrap,LW,Kb]at e1 e2 e3 e4;intro b32 w33 hb32 hw33;have x33:Ex ς w33:=hw33▸Ex.alloc ς _;have s33:=s16.ex x33;have n33:=n16.ex x33;have k33:Kn nn r w w33:=Kn.trans ι (Kn.ex x33);obtain⟨bl,vo2,vt,ts,rfl,h2,h3,h4,h5,h6,h7,h8⟩:=h;obtain⟨at_,capt,hvt⟩:=h7.slice;have hlen:=h8.len;have hel:=Lv.cK l;have hlt:=bT l;have hbl:=hD bl h2;have sz33:=k33.size;have hlb:∀b,(b=b30\/b=b3\/b=b5\/b=b16\/b=b18)->b< w.heap.size:=hs.l;refine⟨b5,0,rfl,ptr bl,s33.c5,bl,0,rfl,vt,by rw [JB (w:=w) (k33.block bl h3 hbl)];exact h5,at_,_,capt,hvt,λtx y w'=>∃(j:Nat) (V:Rh),y=j/\j<=ts.length/\Kn nn r w w'/\Nm w' nn r V G (I||thBad (l.take j) G)/\(∀z,z∉(l.take j).bvs->V z=H z)/\Own w.heap.size w' tx (thS (l.take j) H G),
   λ _ y _=>(ts.length - y).toNat,⟨0,H,rfl,Ks _,k33,by simpa [Lv.take,thBad]using n33,λ _ _=>rfl,Own.none (by have :=ι.size;omega) hb32 hw33⟩,λtx y w47 hI=>?_⟩
  obtain⟨j,V,rfl,hj,κ,n47,γ,δ⟩:=hI;have hnl:=hN.lt;have hnr:=hN.lr;have J:∀g',tx.ownBlock=some g'->w.heap.size<=g':=λg' h'=>(δ.block g' h').1
  refine⟨λhlt2=>?_,λhge3=>?_⟩
  ·have υ:j< ts.length:=by simp only [JD]at hlt2;omega
   have hje:j< l.bn.length:=by omega
   have s47:wU w47 b30 b3 b5 b16 b18 nn vo (ptr bl) x best:=hs.kp κ hb;obtain⟨bu,ou,β,hvu',hcu⟩:∃bu ou β,vt= .slice (some ⟨bu,ou,none⟩) ts.length β/\w47.cell? ⟨bu,ou+j,none⟩=some ts[j]:=by
    rcases h7 with⟨_,h0⟩ | ⟨bt,ot,capt',e,hbD,hb',α⟩
    ·rw [h0]at υ;simp at υ
    ·exact⟨bt,ot,capt',e,by rw [JB (w:=w) (κ.block bt hb' (hD bt hbD))];exact α j _ (JC υ)⟩
   obtain⟨e,hf1,η,hf3⟩:=aK.single h8.bn (JC υ);have hf4:l.bn[j]=e:=by rw [JC hje]at hf1;exact Kt hf1
   have ε:=Lv.take_succ l j hje;rw [hf4]at ε;have hsz2:=Lv.ee l e η;have htot2:=Lv.gd l e η;have hfe:thS e V G=thS e H G:=sJ e V H G λz hz=>γ z λhb=>huq.nf z (Lv.lD l j z hb) (Lv.pE l e η hz)
   refine⟨bu,ou,_,β,hvu',by omega,by omega,ts[j],by rw [JI,Kc];exact hcu,b3,0,rfl,ptr nn,s47.c3,?_⟩;refine ht (by omega) (Lv.jE hsh e η) (Lv.tJ hsm e η) (huq.bn η) (hf3.kp κ hD) hD n47 (by omega) λt w57 ρ3 hthS k57 n57 hρ3 b58 w59 hb58 hw59=>?_
   have φ:Ex w57 w59:=hw59▸Ex.alloc w57 _;have k1:Kn nn r w w57:=Kn.trans κ k57;have ho59:Own w.heap.size w59 tx (thS (l.take j) H G):=(δ.kp k57 λg' h'=>(by have :=J g' h';omega)).ex φ;have hl3:(thS (l.take j) H G).length<=ts.length:=by
    rw [bB];have :=Lv.gP l j;omega
   refine Own.push ho59 (by have :=k1.size;have :=φ.size;omega) (Strs.one hb58 hw59) (by simp only [JA,JQ];omega) λv65 w66 _ ho66 hg66 _=>⟨by unfold aj;omega,⟨j+1,ρ3,by omega,by omega,?_,?_,?_,?_⟩,by show((ts.length:Int) - ((j:Int)+1)).toNat< ((ts.length:Int) - j).toNat;omega⟩
   ·exact Kp.new (Kn.trans k1 (Kn.ex φ)) hg66 J
   ·have e1:(I||thBad (l.take (j+1)) G)=(I||thBad (l.take j) G||thBad e G):=by rw [ε,cT,K6]
    rw [e1];refine(n57.ex φ).kp (Kp.aP (S:=λg=>tx.ownBlock=some g) hg66 λ _ h=>h) (λh'=>by have :=J _ h';omega) λh'=>by have :=J _ h';omega
   ·intro z hz;rw [ε,Lv.dj,JN,M5]at hz;rw [hρ3 z hz.2,γ z hz.1]
   ·rw [ε,ga,<-hfe,hthS];exact ho66
  ·have hjt:j=l.bn.length:=by simp only [JE]at hge3;omega
   rw [hjt,Lv.de]at n47 δ γ;have hsum:=fY l H G;have χ:=bB l H G;have hne':thS l H G≠[]:=λe=>by
    rw [e]at χ;rw [Lv.du]at hne;simp only [JQ]at χ;simp [<-χ]at hne
   have eT:hd++joinS 38 (aX (thS l H G))=nk l (lets o.length tk) ρ tk π:=by
    unfold nk;rw [<-e4,<-e1,<-e2]
   have hjl2:=gC 38 (aX (thS l H G));rw [gZ (aN _)]at hjl2;refine DV δ hne' (by rw [χ];omega) (by omega) λθ k68=>⟨by omega,?_⟩
   have μ:Kn nn r w θ:=Kp.trans κ k68 λg' hg' h'=>by have :=J g' h';omega
   have W:wU θ b30 b3 b5 b16 b18 nn vo (ptr bl) x best:=hs.kp μ hb;have n68:Nm θ nn r V G (I||thBad l G):=n47.kp k68 (λh'=>by have :=J _ h';omega) λh'=>by have :=J _ h';omega
   have kq:∀{w1:World},Kn nn r w w1->Kp w w1 (λg=>g=nn\/g=r\/g=b16):=λk=>Kp.mono (λg hg=>hg.elim .inl λh=> .inr (.inl h)) k
   rw [eT];have fin:∀w1 best',Kp w w1 (λg=>g=nn\/g=r\/g=b16)->wU w1 b30 b3 b5 b16 b18 nn vo (ptr bl) x best'->Nm w1 nn r V G (I||thBad l G)->best'=(if best=[]\/nk l (lets o.length tk) ρ tk π< best then nk l (lets o.length tk) ρ tk π else best)->
     ∃(b79 o80:Nat),ptr b3=Value.pointer (some ⟨b79,o80,none⟩)/\∃v81:Value,World.cell? w1 ⟨b79,o80,none⟩=some v81/\∃(b82 o83:Nat),ptr b18=Value.pointer (some ⟨b82,o83,none⟩)/\∃m84:UInt32,World.cell? w1 ⟨b82,o83,none⟩=some (Value.int IntKind.u32 (UInt32.toNat m84))/\∃(ψ ω:Nat),v81=Value.pointer (some ⟨ψ,ω,none⟩)/\((∃u87:Value,World.cell? w1 ⟨ψ,(ω+1),none⟩=some u87)/\World.frozen? w1 ⟨ψ,(ω+1),none⟩=false)/\∀w88:World,w88=World.setCell w1 ⟨ψ,(ω+1),none⟩ (Value.int IntKind.u32 (UInt32.toNat m84))->R w88:=by
    intro w1 best' k1 s1 n1 hbest;obtain⟨z,hz,_⟩:=n1.c1;refine⟨b3,0,rfl,ptr nn,s1.c3,b18,0,rfl,x,s1.c18,nn,0,rfl,⟨⟨_,hz⟩,n1.f 1⟩,λw88 ν=>hR w88 V best' ?_ ?_ ?_ (λz hz hz'=>?_) hbest⟩
    ·exact Kp.trans k1 (ν▸Kr.set _ _ _) λg _ e=> .inl e
    ·exact s1.kp (ν▸Kr.set w1 1 _) λb hb' e=>hb b hb' (.inl e)
    ·refine n1.set (tk':=tk) ν (.inl ⟨rfl,?_,x,rfl,hx⟩);rw [<-K6,<-e3,<-e2]
    ·rw [γ z hz',e5 z hz]
   have st:∀w1,w1=θ.setCell ⟨b16,0,none⟩ (.string (ab (nk l (lets o.length tk) ρ tk π)))->Kp w w1 (λg=>g=nn\/g=r\/g=b16)/\wU w1 b30 b3 b5 b16 b18 nn vo (ptr bl) x (nk l (lets o.length tk) ρ tk π)/\Nm w1 nn r V G (I||thBad l G):=λw1 hw1=>by
    have kb:Kr b16 θ w1:=hw1▸Kr.set _ _ _;have h16:=hb b16 (by simp);exact⟨Kp.trans (kq μ) kb λg _ e=> .inr (.inr e),W.C' hw1,n68.kp kb (λe=>h16 (.inl e.symm)) λe=>h16 (.inr e.symm)⟩
   refine⟨b16,0,rfl,best,W.c16,λξ=>?_,λξ=>?_⟩
   ·simp only [JE]at ξ;refine⟨b16,0,rfl,best,W.c16,λZ=>⟨b16,0,rfl,⟨⟨_,W.c16⟩,W.f16⟩,λw78 hw78=>?_⟩,λZ=>?_⟩
    ·rw [MT,JD]at Z;obtain⟨k1,k2,k3⟩:=st w78 hw78;exact fin w78 _ k1 k2 k3 (by rw [Ka (.inr Z)])
    ·rw [MT,JE]at Z;exact fin θ best (kq μ) W n68 (by rw [JV (λh=>h.elim ξ Z)])
   ·simp only [JD]at ξ;refine⟨b16,0,rfl,⟨⟨_,W.c16⟩,W.f16⟩,λw102 hw102=>?_⟩;obtain⟨k1,k2,k3⟩:=st w102 hw102;exact fin w102 _ k1 k2 k3 (by rw [Ka (.inl ξ)])
theorem yY (a:Tx):bH [a]=a:=gu (by simp) λs z=>by simp at z;subst z;simp [jk]
theorem yJ {l:List Tx}(h:l≠[])(a:Tx):bH (l++[a])=if a< bH l then a else bH l:=by
 obtain⟨I,H⟩:=cG h;split
 ·rename_i G;refine gu (by simp) λs z=>?_
  rcases JN.1 z with z | z
  ·refine gk _ _ _ ?_ (H s z);simp only [jk,JD];exact List.le_of_lt G
  ·simp at z;subst z;simp [jk]
 ·rename_i G;refine gu (Ke _ I) λs z=>?_
  rcases JN.1 z with z | z
  ·exact H s z
  ·simp at z;subst z;simp only [jk,JD];exact List.not_lt.1 G
theorem FN {l:Lv}{o π:List Nat}(J:π.Perm o)(H:tN o l){ls:List UInt8}(I:π.length=ls.length){ρ ρ':Rh}(h:∀z,z∉o->z∉l.bvs->ρ' z=ρ z)(tk:Tk):nk l ls ρ' tk π=nk l ls ρ tk π:=by
 unfold nk;rw [sJ l (asg π ls ρ') (asg π ls ρ) (addK ls tk) λz V=>?_];by_cases G:z∈π
 ·exact zb π ls ρ' ρ z G I
 ·rw [bN _ _ _ _ G,bN _ _ _ _ G];exact h z (λW=>G (J.symm.subset W)) λhb=>H.nf z hb V
structure OI (w w':World)(b30 b3 b5 b16 b18 nn r:Nat)(vo vl:Value)(x:UInt32)(o:List Nat)(l:Lv)(ρ:Rh)(tk:Tk)(bad:Bool)(acc:List (List Nat)):Prop where
 ex:∃(ρ':Rh) (best:Tx),wU w' b30 b3 b5 b16 b18 nn vo vl x best/\Nm w' nn r ρ' tk (bad||(!acc.isEmpty&&(fV o.length tk||thBad l (addK (lets o.length tk) tk))))/\(∀z,z∉o->z∉l.bvs->ρ' z=ρ z)/\
  ((acc=[]/\best=[])\/(acc≠[]/\best=bH (acc.map (nk l (lets o.length tk) ρ tk))))
 kn:Kn nn r w w'
theorem uP {n:Nat}(ht:Gb n):G4 n:=by
 intro D w v o l nn r ρ tk bad R hn hsh hsm huq h hD hN htot hR;refine mC (ptr nn) v w R ?_;have hv1:=h.one;refine⟨rfl,λb3 w4 hb3 hw4=>⟨hv1,λb5 w6 hb5 hw6=>?_⟩⟩;have x4:Ex w w4:=hw4▸Ex.alloc w _;have x6':Ex w4 w6:=hw6▸Ex.alloc w4 _;have x6:Ex w w6:=Ex.trans x4 x6';have s4:w4.heap.size=w.heap.size+1:=by rw [hw4,size_alloc]
 have s6:w6.heap.size=w4.heap.size+1:=by rw [hw6,size_alloc]
 have c3:w6.cell? ⟨b3,0,none⟩=some (ptr nn):=by rw [x6'.cell (show b3< _ by omega),hw4,hb3];exact aa rfl
 have c5:w6.cell? ⟨b5,0,none⟩=some v:=by rw [hw6,hb5];exact aa rfl
 have hnl:=hN.lt;have hnr:=hN.lr;refine⟨v,c5,lR (fS.ex h x6) ⟨λhe=>?_,λhe=>?_⟩⟩
 ·have e:aR o (thS l) ρ tk=[48]:=by
   unfold aR;rw [Ka];cases l<;>first | rfl | cases he
  rw [<-e];refine hR w6 ρ (Kn.ex x6) ?_ λ _ _ _=>rfl
  rw [he];simpa [fv]using hN.ex x6
 ·refine⟨λw'=>Ex w6 w',λw11 hw11=>?_⟩;have ξ:Ex w6 w11:=hw11▸Ex.drew w6;have n11:=hN.ex (Ex.trans x6 ξ);obtain⟨x,hx,hxt⟩:=(hN.ex x6).c1;have s11:=ξ.size;have rest:∀(b16 b18:Nat) (G:World),Ex w6 G->G.cell? ⟨b16,0,none⟩=some (.string (ab []))->G.cell? ⟨b18,0,none⟩=some (.int .u32 x.toNat)->G.frozen? ⟨b16,0,none⟩=false->b16≠b18->w6.heap.size<=b16->w6.heap.size<=b18->b16< G.heap.size->b18< G.heap.size->
    ∃v24:Value,World.cell? G ⟨b5,0,none⟩=some v24/\∃(b25 o26:Nat),v24=Value.pointer (some ⟨b25,o26,none⟩)/\∃v27:Value,World.cell? G ⟨b25,(o26+0),none⟩=some v27/\Calls Tryz.prog 180 #[v27] G (an [.v] fun(v28:Value) (ι:World)=>∀(b30:Nat) (α:World),b30=Array.size (World.heap ι)->α=World.alloc ι (Obj.cells #[(Value.slice none 0 0)] 36)->oneV v28=true/\((∃u32:Value,World.cell? α ⟨b30,0,none⟩=some u32)/\World.frozen? α ⟨b30,0,none⟩=false)/\
     ∀β:World,β=World.setCell α ⟨b30,0,none⟩ v28->∃v34:Value,World.cell? β ⟨b30,0,none⟩=some v34/\Calls Tryz.prog 250 #[v34,(Value.int IntKind.i64 0),(Value.func (Fn.func 251) #[] #[(Value.pointer (some ⟨b30,0,none⟩)),(Value.pointer (some ⟨b3,0,none⟩)),(Value.pointer (some ⟨b5,0,none⟩)),(Value.pointer (some ⟨b16,0,none⟩)),(Value.pointer (some ⟨b18,0,none⟩))])] β (an [] fun(φ:World)=>∃s36:ay,World.cell? φ ⟨b16,0,none⟩=some (Value.string (ab s36))/\R (s36) φ)):=by
   intro b16 b18 G ε c16 c18 f16 hne h16 h18 l16 l18;have h':=h;obtain⟨bl,vo,vt,ts,rfl,h2,h3,h4,h5,h6,h7,h8⟩:=h';have μ:Ex w G:=Ex.trans x6 ε;have c5':G.cell? ⟨b5,0,none⟩=some (ptr bl):=by rw [ε.cell (show b5< _ by omega)];exact c5
   have c3':G.cell? ⟨b3,0,none⟩=some (ptr nn):=by rw [ε.cell (show b3< _ by omega)];exact c3
   refine⟨ptr bl,c5',bl,0,rfl,vo,by rw [μ.cell (show bl< _ from h3)];exact h4,?_⟩;refine vZ (h6.ex μ) (by omega) λv28 ι x29 o29 b30 α hb30 ν=>?_
   have x31:Ex ι α:=ν▸Ex.alloc ι _;have s31:α.heap.size=ι.heap.size+1:=by rw [ν,size_alloc]
   have s29:=x29.size;have s23:=ε.size;have c30:α.cell? ⟨b30,0,none⟩=some (.slice none 0 0):=by rw [ν,hb30];exact aa rfl
   have f30:α.frozen? ⟨b30,0,none⟩=false:=by rw [ν,hb30];exact aO _ _ _ _
   refine⟨o29.ka,⟨⟨_,c30⟩,f30⟩,λβ hw33=>?_⟩;have k33:Kr b30 α β:=hw33▸Kr.set _ _ _;have ζ:Ex G β:=Ex.below (Ex.trans x29 x31) (Kp.below k33 (Ex.trans x29 x31).size λg hg e=>by omega);have χ:∀g,v28.ownBlock=some g->G.heap.size<=g/\g< ι.heap.size:=o29.block;have o33:aD 3 G.heap.size β v28 (o.map iv):=(o29.kp (Kp.ah x31 λ _=>False) λ _ _ h=>h).kp k33 λg hg e=>by have :=χ g hg;omega
   have c30':β.cell? ⟨b30,0,none⟩=some v28:=by rw [hw33];exact JT _ _ _ c30
   have ds:wU β b30 b3 b5 b16 b18 nn v28 (ptr bl) x []:=by
    have s33:=ζ.size;have s33':=k33.size;refine⟨λb hb=>?_,c30',?_,?_,?_,?_,?_,by omega,by omega,by omega,hne⟩
    ·rcases hb with rfl | rfl | rfl | rfl | rfl<;>omega
    ·rw [ζ.cell (show b3< _ by omega)];exact c3'
    ·rw [ζ.cell (show b5< _ by omega)];exact c5'
    ·rw [ζ.cell (show b16< _ by omega)];exact c16
    ·rw [ζ.cell (show b18< _ by omega)];exact c18
    ·rw [K4 ζ l16];exact f16
   have ψ:∀b,(b=b30\/b=b3\/b=b5\/b=b16\/b=b18)->w.heap.size<=b/\¬v28.ownBlock=some b:=λb hb=>by
    refine⟨by rcases hb with rfl | rfl | rfl | rfl | rfl<;>omega,λe=>?_⟩;have :=χ b e;rcases hb with rfl | rfl | rfl | rfl | rfl<;>omega
   have hlev:∀{w1:World},Kn nn r w w1->fS D w1 (ptr bl) o (af D w1 l):=λk=>h.kp k hD λl h=>h.kp k hD
   have ο:∀g,v28.ownBlock=some g->¬(g=nn\/g=r):=λg hg=>by have :=χ g hg;omega
   refine⟨v28,c30',?_⟩;refine yp (o:=o) (ca:=[ptr b30,ptr b3,ptr b5,ptr b16,ptr b18]) (Inv:=λacc w'=>OI w w' b30 b3 b5 b16 b18 nn r v28 (ptr bl) x o l ρ tk bad acc) (by kernel_rfl) ?_ ?_ (by omega) o.length 0 o [] β (by omega) ⟨⟨ρ,[],ds,?_,λ _ _ _=>rfl,.inl ⟨rfl,rfl⟩⟩,Kn.ex (Ex.trans μ ζ)⟩ o33 (KK _) λφ acc I35 o35 hacc=>?_
   ·intro acc π w1 hI how hp R' hR';obtain⟨⟨ω,best,d1,n1,e1,e2⟩,kn⟩:=hI;have hpl:=hp.length_eq;refine Eo ht d1 (λb hb=>by have :=(ψ b hb).1;omega) how ο hp n1 hxt hn hsh hsm huq (hlev kn) hD he htot λw2 ρ2 best2 k2 d2 n2 e3 e4=>hR' w2 ⟨⟨ρ2,best2,d2,?_,λz hz hz'=>by rw [e3 z hz hz',e1 z hz hz'],?_⟩,?_⟩ ?_
    ·have:(bad||(!acc.isEmpty&&(fV o.length tk||thBad l (addK (lets o.length tk) tk)))||(fV o.length tk||thBad l (addK (lets o.length tk) tk)))=(bad||(!(acc++[π]).isEmpty&&(fV o.length tk||thBad l (addK (lets o.length tk) tk)))):=by
      cases acc<;>simp [K6]
     rw [<-this];exact n2
    ·right;refine⟨by simp,?_⟩;have eT:=FN hp huq (ls:=lets o.length tk) (by rw [fy];exact hpl) e1 tk;rw [eT]at e4;rw [Kz];simp only [J9,Lj];rcases e2 with⟨rfl,rfl⟩ | ⟨ha,rfl⟩
     ·rw [Ka (.inl rfl)]at e4;rw [e4,Lj,KB,yY]
     ·rw [yJ (by simpa using ha),e4];have hne2:bH (acc.map (nk l (lets o.length tk) ρ tk))≠[]:=by
       obtain⟨h1,_⟩:=cG (l:=acc.map (nk l (lets o.length tk) ρ tk)) (by simpa using ha);obtain⟨σ,_,e⟩:=Kk.1 h1;rw [<-e];unfold nk;intro e5;refine pY (qf ?_) (λt ht=>lL l hsm _ _ t ((aN _).subset ht)) (List.append_eq_nil_iff.1 e5).2;intro e6;have :=bB l (asg σ (lets o.length tk) ρ) (addK (lets o.length tk) tk);rw [e6]at this;rw [Lv.du]at he;simp only [JQ]at this;simp [<-this]at he
      simp only [hne2,M6]
    ·exact Kp.trans kn k2 λg hg e=>by have :=(ψ b16 (by simp)).1;omega
    ·exact how.kp k2 λg hg e=>by
      rcases e with e | e | e
      ·exact ο g hg (.inl e)
      ·exact ο g hg (.inr e)
      ·exact(ψ b16 (by simp)).2 (e▸hg)
   ·intro acc w1 w2 hI k;obtain⟨⟨ω,best,d1,n1,e1,e2⟩,kn⟩:=hI;refine⟨⟨ω,best,d1.kp k λb hb=>(ψ b hb).2,n1.kp k (λe=>ο nn e (.inl rfl)) λe=>ο r e (.inr rfl),e1,e2⟩,Kp.trans kn k λg hg e=>by have :=χ g e;omega⟩
   ·have :=hN.ex (Ex.trans μ ζ);simpa using this
   ·obtain⟨⟨ω,best,d1,n1,e1,e2⟩,kn⟩:=I35;rw [KB]at n1 e2;have hmem:∀σ,σ∈acc↔σ.Perm o:=λσ=>by
     rw [hacc];simp only [Ll,List.take_zero,KB];exact⟨fun⟨τ,h,e⟩=>e▸h,λh=>⟨σ,h,rfl⟩⟩
    have ς:acc≠[]:=λe=>by have :=(hmem o).2 (KK _);rw [e]at this;cases this
    have eb:best=aR o (thS l) ρ tk:=by
     rcases e2 with⟨h0,_⟩ | ⟨_,rfl⟩
     ·exact absurd h0 ς
     ·unfold aR;have hemp:¬(thS l ρ tk).isEmpty=true:=λe=>by
       rw [List.isEmpty_iff_length_eq_zero,bB]at e;rw [Lv.du]at he;simp [e]at he
      rw [JV hemp];show _=wrap _ (bH _);rw [xy,<-sC _ (λe=>oO o (Mf.1 e)),Li];refine ph λs=>?_
      simp only [Kk,hmem,cW];rfl
    rw [<-eb]at hR;refine⟨best,d1.c16,hR φ ω kn ?_ e1⟩;have:(bad||(!acc.isEmpty&&(fV o.length tk||thBad l (addK (lets o.length tk) tk))))=(bad||fv o.length l.isNil (thBad l) tk):=by
     have:acc.isEmpty=false:=by cases acc<;>first | exact absurd rfl ς | rfl
     rw [this,he];rfl
    rw [<-this];exact n1
  refine⟨ξ,ptr nn,λw' x'=>by rw [x'.cell (show b3< _ by omega)];exact c3,nn,0,rfl,x,λw' x'=>by rw [x'.cell (show nn< _ by omega)];exact hx,λb16 γ η V=>?_,λb18 γ θ V=>?_⟩
  ·have κ:Ex w6 γ:=V▸Ex.trans ξ (Ex.alloc _ _);refine⟨κ,λb18 J θ W=>?_⟩;have δ:Ex γ J:=W▸Ex.alloc _ _;have s17:γ.heap.size=w11.heap.size+1:=by rw [V,size_alloc]
   have s19:J.heap.size=γ.heap.size+1:=by rw [W,size_alloc]
   have c16:J.cell? ⟨b16,0,none⟩=some (.string ⟨#[]⟩):=by rw [δ.cell (show b16< _ by omega),V,η];exact aa rfl
   have f16:J.frozen? ⟨b16,0,none⟩=false:=by rw [K4 δ (show b16< _ by omega),V,η];exact aO _ _ _ _
   have c18:J.cell? ⟨b18,0,none⟩=some (.int .u32 0):=by rw [W,θ];exact aa rfl
   have f18:J.frozen? ⟨b18,0,none⟩=false:=by rw [W,θ];exact aO _ _ _ _
   refine⟨Ex.trans κ δ,⟨⟨_,c16⟩,f16⟩,λZ H=>?_⟩;have υ:Ex w6 Z:=H▸Ex.own (Ex.trans κ δ) (by omega) _;have s21:Z.heap.size=J.heap.size:=by rw [H,Ki]
   have d16:Z.cell? ⟨b16,0,none⟩=some (.string (ab [])):=by rw [H];exact JT _ _ _ c16
   have d18:Z.cell? ⟨b18,0,none⟩=some (.int .u32 0):=by rw [H,JH _ _ _ _ (λe=>by injection e with e1 e2;omega)];exact c18
   refine⟨υ,⟨⟨_,d18⟩,by rw [H,JU];exact f18⟩,λG I=>?_⟩;have ε:Ex w6 G:=I▸Ex.own υ (by omega) _;have s23:G.heap.size=Z.heap.size:=by rw [I,Ki]
   refine rest b16 b18 G ε ?_ ?_ ?_ (by omega) (by omega) (by omega) (by omega) (by omega)
   ·rw [I,JH _ _ _ _ (λe=>by injection e with e1 e2;omega)];exact d16
   ·rw [I];exact JT _ _ _ d18
   ·rw [I,JU,H,JU];exact f16
  ·have κ:Ex w6 γ:=V▸Ex.trans ξ (Ex.alloc _ _);refine⟨κ,λb16 J η W=>?_⟩;have δ:Ex γ J:=W▸Ex.alloc _ _;have s17:γ.heap.size=w11.heap.size+1:=by rw [V,size_alloc]
   have s19:J.heap.size=γ.heap.size+1:=by rw [W,size_alloc]
   have c18:J.cell? ⟨b18,0,none⟩=some (.int .u32 0):=by rw [δ.cell (show b18< _ by omega),V,θ];exact aa rfl
   have f18:J.frozen? ⟨b18,0,none⟩=false:=by rw [K4 δ (show b18< _ by omega),V,θ];exact aO _ _ _ _
   have c16:J.cell? ⟨b16,0,none⟩=some (.string ⟨#[]⟩):=by rw [W,η];exact aa rfl
   have f16:J.frozen? ⟨b16,0,none⟩=false:=by rw [W,η];exact aO _ _ _ _
   refine⟨Ex.trans κ δ,⟨⟨_,c16⟩,f16⟩,λZ H=>?_⟩;have υ:Ex w6 Z:=H▸Ex.own (Ex.trans κ δ) (by omega) _;have s21:Z.heap.size=J.heap.size:=by rw [H,Ki]
   have d16:Z.cell? ⟨b16,0,none⟩=some (.string (ab [])):=by rw [H];exact JT _ _ _ c16
   have d18:Z.cell? ⟨b18,0,none⟩=some (.int .u32 0):=by rw [H,JH _ _ _ _ (λe=>by injection e with e1 e2;omega)];exact c18
   refine⟨υ,⟨⟨_,d18⟩,by rw [H,JU];exact f18⟩,λG I=>?_⟩;have ε:Ex w6 G:=I▸Ex.own υ (by omega) _;have s23:G.heap.size=Z.heap.size:=by rw [I,Ki]
   refine rest b16 b18 G ε ?_ ?_ ?_ (by omega) (by omega) (by omega) (by omega) (by omega)
   ·rw [I,JH _ _ _ _ (λe=>by injection e with e1 e2;omega)];exact d16
   ·rw [I];exact JT _ _ _ d18
   ·rw [I,JU,H,JU];exact f16
theorem Gy:∀n,Gb n
 | 0=>by
  intro z G;rcases G with⟨k,a,b,o,q,rfl,I⟩ | ⟨J,rfl,H⟩<;>simp [Lv.sz]at z
 | n+1=>BP (uP (Gy n))
theorem It (n:Nat):G4 n:=uP (Gy n)
end Go.Proofs.YtdecokaadekjnaaGreat
namespace Go.Proofs.YtdecokaadekjnaaGreat
namespace Lv
def PNf:Lv->Prop
 | nil=>True
 | thr _ _ _ _ _ n=>n.PNf
 | sum z n=>z.PNf/\n.PNf
 | part o q n=>((∀x∈o,q.has x=true)/\q≠nil/\∀z,q=sum z nil->o≠[])/\n.PNf
theorem ra:∀{l m:Lv},(l.app m).PNf↔l.PNf/\m.PNf
 | nil,m=>by simp [app,PNf]
 | thr k a b o r n,m=>by simp only [app,PNf,ra (l:=n)]
 | sum z n,m=>by simp only [app,PNf,ra (l:=n),LP]
 | part o q n,m=>by simp only [app,PNf,ra (l:=n),LP]
def uZ:Lv->Prop
 | nil=>True
 | thr _ _ _ _ _ n=>n.uZ
 | sum z n=>(z.PNf/\z.uZ)/\n.uZ
 | part _ q n=>q.uZ/\n.uZ
theorem lT:∀{l m:Lv},(l.app m).uZ↔l.uZ/\m.uZ
 | nil,m=>by simp [app,uZ]
 | thr k a b o r n,m=>by simp only [app,uZ,lT (l:=n)]
 | sum z n,m=>by simp only [app,uZ,lT (l:=n),LP]
 | part o q n,m=>by simp only [app,uZ,lT (l:=n),LP]
theorem F9 {z:Lv}{n:List Nat×Lv}(h:z.PNf/\z.uZ)(G:n.2.uZ):(spl z n).2.uZ:=by
 unfold spl;split
 ·exact G
 ·exact lT.2 ⟨h.2.1,G⟩
 ·exact⟨h,G⟩
theorem Ha {o:List Nat}{q n:Lv}(H:∀x∈o,q.has x=true)(h:q.uZ)(z:n.PNf/\n.uZ):(prt o q n).PNf/\(prt o q n).uZ:=by
 unfold prt;split
 ·exact z
 ·rename_i I;split
  ·exact⟨ra.2 ⟨h.1.1,z.1⟩,lT.2 ⟨h.1.2,z.2⟩⟩
  ·rename_i G;exact⟨⟨⟨H,by simp,λ _ _ e=>G (by rw [e];rfl)⟩,z.1⟩,h,z.2⟩
 ·rename_i V G J;exact⟨⟨⟨H,G,λI e=>(J I e).elim⟩,z.1⟩,h,z.2⟩
theorem nz:∀(l:Lv),(l.sh true=true->(tid l).2.uZ)/\(l.sh false=true->(tid l).2.PNf/\(tid l).2.uZ)
 | nil=>⟨λ _=>trivial,λ _=>⟨trivial,trivial⟩⟩
 | thr k a b o r n=>by
  refine⟨λh=>?_,λh=>by simp [sh]at h⟩;simp only [sh,JF]at h;have G:=(nz r).1 h.1;have z:=(nz n).1 h.2;have h4:(kept o (tid r)).2=(tid r).2:=rfl;simp only [tid];split
  ·exact lT.2 ⟨G,z⟩
  ·split
   ·exact z
   ·exact z
 | sum H n=>by
  refine⟨λh=>?_,λh=>by simp [sh]at h⟩;simp only [sh,JF]at h;simp only [tid];exact F9 ((nz H).2 h.1) ((nz n).1 h.2)
 | part o q n=>by
  refine⟨λh=>by simp [sh]at h,λh=>?_⟩;simp only [sh,JF]at h;simp only [tid];exact Ha (rH o (tid q)) ((nz q).1 h.1) ((nz n).2 h.2)
theorem Fj {Z:Lv}(h:Z.PNf)(H:Z.sh false=true):prt (kept [] (spl Z ([],nil))).1 (kept [] (spl Z ([],nil))).2 nil=Z:=by
 unfold spl;split
 ·rfl
 ·rename_i o q;have e:(kept [] (o++(([],nil):List Nat×Lv).1,q.app (([],nil):List Nat×Lv).2))=(o,q):=by
   simp only [kept,Kb,aV,KB]
   congr 1
   exact MN.2 h.1.1
  rw [e];obtain⟨_,z,G⟩:=h.1;show prt o q nil=_;unfold prt;split
  ·exact absurd rfl z
  ·rw [JV];intro e;exact G _ rfl (by simpa using e)
  ·rfl
 ·simp only [kept,Kb,List.filter_nil,prt,List.isEmpty_nil,Ls,aV]
theorem Fm {o:List Nat}{q:Lv}{Z:Lv}(h:Z≠nil)(n:List Nat×Lv):spl (part o q Z) n=(n.1,sum (part o q Z) n.2):=by
 cases Z with
 | nil=>exact absurd rfl h
 | _=>rfl
end Lv
open T in
theorem fq {u:U}(z:Uq u)(n:u.Nr)(G:u.th=true):Lv.tid (flat u).2=([],tl [u])/\(flat u).1=[]:=by
 cases u with
 | nil=>cases G
 | par p q=>cases G
 | res x p=>cases G
 | snd a b p=>exact⟨by simp only [flat,Lv.tid,tl];simp [td,Lv.tidy],rfl⟩
 | rcv a x p=>exact⟨by simp only [flat,Lv.tid,tl];simp [td,Lv.tidy],rfl⟩
 | tau p=>exact⟨by simp only [flat,Lv.tid,tl];simp [td,Lv.tidy],rfl⟩
 | mat a b p=>refine⟨?_,rfl⟩;rw [oZ,JV n.1.1,dF,n.1.2];rfl
 | rep p=>refine⟨?_,rfl⟩;rw [n7,dF,n.1];rfl
 | sum p q=>
  refine⟨?_,rfl⟩;rw [oK,(fL p z.dX).2.2,(fL q z.dJ).2.2,<-sd];have H:=od n.1.1 z.dX;have I:=od n.1.2.1 z.dJ;simp only [tl];cases J:aw p with
  | nil=>exact absurd J H
  | cons t l=>
   rw [KC,tp,Lv.Fm];intro V;have :=zQ (l++aw q);rw [V]at this;simp only [Lv.len,JJ]at this;exact I (J6 (by omega))
open T in
theorem p6:∀{u:U},Uq u->u.Nr->Lv.tid (flat u).2=([],tl u.ths)/\(flat u).1=u.frL
 | .nil,_,_=>⟨rfl,rfl⟩
 | .res x p,z,n=>by
  obtain⟨G,H⟩:=p6 z.res n.2;exact⟨G,by simp only [flat,frL,H]⟩
 | .par p q,z,n=>by
  obtain⟨G,H⟩:=fq z.fQ n.2.1 n.1.1;obtain⟨I,h4⟩:=p6 z.fk n.2.2;have h5:q.frL=[]:=by
   rcases n.1.2 with h | h
   ·exact il h
   ·cases q<;>first | rfl | (cases h;done)
  refine⟨?_,by simp only [flat,frL,H,h4,h5,Kb]⟩;simp only [flat];rw [Lv.cO _ _ (cf p),G,I];simp only [T.ths,Kb];rw [show p::q.ths=[p]++q.ths from rfl,gL]
 | .snd a b p,z,n=>fq z n rfl
 | .rcv a b p,z,n=>fq z n rfl
 | .tau p,z,n=>fq z n rfl
 | .sum p q,z,n=>fq z n rfl
 | .mat a b p,z,n=>fq z n rfl
 | .rep p,z,n=>fq z n rfl
open T in
theorem HL {u:U}(G:Uq u)(n:u.Nr):∀x∈u.frL,(td u).2.has x=true:=by
 induction u with
 | res y p H=>
  intro x z;rcases JX.1 z with rfl | z
  ·exact(fM p x G.fP).2 n.1
  ·exact H G.res n.2 x z
 | _=>intro x z;cases z
open T in
theorem jg {u:U}(z:Uq u)(n:u.Nr):td u=(u.frL,tl u.ths):=by
 obtain⟨G,I⟩:=p6 z n;have H:=HL z n;have e:(td u).2=tl u.ths:=by rw [qS,G]
 rw [e]at H;show Lv.kept (flat u).1 (Lv.tid (flat u).2)=_;rw [G,I];simp only [Lv.kept,Kb]
 congr 1
 exact MN.2 H
theorem cJ:∀u:U,(flat u).2.sh true=true
 | .nil=>rfl
 | .snd a b p=>by simp only [flat,Lv.sh,cJ p,K0]
 | .rcv a b p=>by simp only [flat,Lv.sh,cJ p,K0]
 | .tau p=>by simp only [flat,Lv.sh,cJ p,K0]
 | .mat a b p=>by simp only [flat,Lv.sh,cJ p,K0]
 | .rep p=>by simp only [flat,Lv.sh,cJ p,K0]
 | .res x p=>cJ p
 | .par p q=>by simp only [flat];exact Lv.gH (cJ p) (cJ q)
 | .sum p q=>by simp only [flat,Lv.sh,cJ p,cJ q,K0]
theorem AD (u:U):(td u).2.sh true=true:=Lv.dL _ _ (cJ u)
theorem iF (f:Nat->Nat):∀(l:Lv) (b:Bool),(l.map f).sh b=l.sh b
 | .nil,_=>by simp [Lv.map,Lv.sh]
 | .thr k a b o r n,c=>by cases c<;>simp only [Lv.map,Lv.sh,iF f r,iF f n]
 | .sum z n,c=>by cases c<;>simp only [Lv.map,Lv.sh,iF f z,iF f n]
 | .part o q n,c=>by cases c<;>simp only [Lv.map,Lv.sh,iF f q,iF f n]
theorem nT (o:List Nat)(q n:Lv):(Lv.tid (.part o q n)).2=Lv.prt (Lv.kept o (Lv.tid q)).1 (Lv.kept o (Lv.tid q)).2 (Lv.tid n).2:=rfl
open T in
theorem gi (f:Nat->Nat):∀(n:Nat) {u:U},u.size<=n->Uq u->u.Nr->
  Lv.tid ((td u).2.map f)=Lv.tid ((flat u).2.map f)/\(u.dead=false->(Lv.tid ((tp u.mi).map f)).2=Lv.prt (Lv.kept ((flat u).1.map f) (Lv.tid ((flat u).2.map f))).1 (Lv.kept ((flat u).1.map f) (Lv.tid ((flat u).2.map f))).2 .nil)
 | 0,u,h,_,_=>by cases u<;>simp [T.size]at h
 | k+1,u,h,z,n=>by
  have W:∀p:U,p.size<=k->Uq p->p.Nr->Lv.kept ((td p).1.map f) (Lv.tid ((td p).2.map f))=Lv.kept ((flat p).1.map f) (Lv.tid ((flat p).2.map f)):=λp H z n=>by
   rw [(gi f k H z n).1,jg z n,(p6 z n).2]
  have key:∀(J:K) (a b:Nat) (p:U),p.size<=k->Uq p->p.Nr->Lv.tid ((Lv.thr J a b (td p).1 (td p).2 .nil).map f)=Lv.tid ((Lv.thr J a b (flat p).1 (flat p).2 .nil).map f):=λJ a b p H z n=>by
   simp only [Lv.map,Lv.tid,W p H z n]
  have one:Lv.tid ((td u).2.map f)=Lv.tid ((flat u).2.map f)->u.isS=false->(Lv.tid ((tp u.mi).map f)).2=Lv.prt (Lv.kept ((flat u).1.map f) (Lv.tid ((flat u).2.map f))).1 (Lv.kept ((flat u).1.map f) (Lv.tid ((flat u).2.map f))).2 .nil:=λe V=>by
   rw [fU V,tp];simp only [Lv.map,tp];rw [nT,e,jg z n,(p6 z n).2];rfl
  have G:u.th=true->(td u).2=tl [u]:=λht=>by rw [qS,(fq z n ht).1]
  cases u with
  | nil=>exact⟨rfl,λh=>by cases h⟩
  | snd a b p=>
   have e:Lv.tid ((td (.snd a b p)).2.map f)=Lv.tid ((flat (.snd a b p)).2.map f):=by rw [G rfl];exact key .s a b p (by simp only [T.size]at h;omega) z.snd n
   exact⟨e,λ _=>one e rfl⟩
  | rcv a b p=>
   have e:Lv.tid ((td (.rcv a b p)).2.map f)=Lv.tid ((flat (.rcv a b p)).2.map f):=by rw [G rfl];exact key .r a b p (by simp only [T.size]at h;omega) z.rcv n
   exact⟨e,λ _=>one e rfl⟩
  | tau p=>
   have e:Lv.tid ((td (.tau p)).2.map f)=Lv.tid ((flat (.tau p)).2.map f):=by rw [G rfl];exact key .t 0 0 p (by simp only [T.size]at h;omega) z.tau n
   exact⟨e,λ _=>one e rfl⟩
  | mat a b p=>
   have e:Lv.tid ((td (.mat a b p)).2.map f)=Lv.tid ((flat (.mat a b p)).2.map f):=by rw [G rfl];exact key .m a b p (by simp only [T.size]at h;omega) z.mat n.2
   exact⟨e,λ _=>one e rfl⟩
  | rep p=>
   have e:Lv.tid ((td (.rep p)).2.map f)=Lv.tid ((flat (.rep p)).2.map f):=by rw [G rfl];exact key .p 0 0 p (by simp only [T.size]at h;omega) z.rep n.2
   exact⟨e,λ _=>one e rfl⟩
  | res x p=>
   have e:Lv.tid ((td (.res x p)).2.map f)=Lv.tid ((flat (.res x p)).2.map f):=(gi f k (by simp only [T.size]at h;omega) z.res n.2).1;exact⟨e,λ _=>one e rfl⟩
  | par p q=>
   simp only [T.size]at h;have e:Lv.tid ((td (.par p q)).2.map f)=Lv.tid ((flat (.par p q)).2.map f):=by
    have h1:=(gi f k (by omega) z.fQ n.2.1).1;have h2:=(gi f k (by omega) z.fk n.2.2).1;have e:(td (.par p q)).2=(td p).2.app (td q).2:=by simp only [qS,flat,Lv.cO _ _ (cf p)]
    rw [e];simp only [flat,Lv.eZ];rw [Lv.cO _ _ (Lv.lO (by rw [iF];exact AD p)),Lv.cO _ _ (Lv.lO (by rw [iF];exact cJ p)),h1,h2]
   exact⟨e,λ _=>one e rfl⟩
  | sum p q=>
   simp only [T.size]at h;have V:tl [T.sum p q]= .sum (tp (p::q.mi)) .nil:=by
    simp only [tl];rw [en z.dX n.2.1 n.1.1,en z.dJ n.2.2 n.1.2.1,fU n.1.2.2];rfl
   have Z:(Lv.tid ((tp (p::q.mi)).map f)).2=(Lv.tid ((Lv.part (flat p).1 (flat p).2 (.part (flat q).1 (flat q).2 .nil)).map f)).2:=by
    rw [tp];simp only [Lv.map];rw [nT,nT,nT,W p (by omega) z.dX n.2.1,(gi f k (by omega) z.dJ n.2.2).2 n.1.2.1];rfl
   have e:Lv.tid ((td (.sum p q)).2.map f)=Lv.tid ((flat (.sum p q)).2.map f):=by
    rw [G rfl,V];simp only [flat,Lv.map,Lv.tid];rw [Z];simp only [Lv.map];rfl
   refine⟨e,λ _=>?_⟩;have I:((Lv.part (flat p).1 (flat p).2 (.part (flat q).1 (flat q).2 .nil)).map f).sh false=true:=by rw [iF];simp only [Lv.sh,cJ,K0]
   show(Lv.tid ((tp (p::q.mi)).map f)).2=_;rw [Z];have H:=(Lv.nz ((Lv.part (flat p).1 (flat p).2 (.part (flat q).1 (flat q).2 .nil)).map f)).2 I;have :=Lv.Fj H.1 (Lv.dL _ _ I);simp only [flat,Lv.map,Lj,Lv.tid]at this|-;exact this.symm
structure Pc (x:List Nat×Lv)(t:U):Prop where
 own:x.1=(flat t).1
 sh:x.2.sh true=true
 tid:Lv.tid x.2=Lv.tid (flat t).2
def joinL:List (List Nat×Lv)->List Nat×Lv
 | []=>([],.nil)
 | x::l=>(x.1++(joinL l).1,x.2.app (joinL l).2)
theorem pn:∀l m:List (List Nat×Lv),joinL (l++m)=((joinL l).1++(joinL m).1,(joinL l).2.app (joinL m).2)
 | [],m=>rfl
 | x::l,m=>by simp only [KC,joinL,pn l m,Kg,Lv.cw]
theorem pP (x:List Nat×Lv):joinL [x]=x:=by simp only [joinL,Kb,Lv.aV]
theorem lH:∀l:List U,flat (T.parL l)=joinL (l.map flat)
 | []=>rfl
 | [t]=>by simp only [T.parL,J9,Lj,pP]
 | t::u::l=>by
  have :=lH (u::l);simp only [T.parL,flat,this,J9,joinL]
theorem pw (p:U):∀o:List Nat,flat (T.resL o p)=(o++(flat p).1,(flat p).2)
 | []=>rfl
 | x::o=>by simp only [T.resL,flat,pw p o,KC]
theorem Pc.join:∀{zs:List ((List Nat×Lv)×U)},(∀z∈zs,Pc z.1 z.2)->Pc (joinL (zs.map (·.1))) (T.parL (zs.map (·.2)))
 | [],_=>⟨rfl,rfl,rfl⟩
 | z::zs,h=>by
  have G:=h z (by simp);have H:=Pc.join (zs:=zs) λy J=>h y (by simp [J])
  have e:flat (T.parL ((z::zs).map (·.2)))=joinL ((z::zs).map (λy=>flat y.2)):=by rw [lH,Li];rfl
  have I:flat (T.parL (zs.map (·.2)))=joinL (zs.map (λy=>flat y.2)):=by rw [lH,Li];rfl
  refine⟨?_,?_,?_⟩
  ·rw [e];simp only [J9,joinL];rw [G.own,H.own,I]
  ·simp only [J9,joinL];exact Lv.gH G.sh H.sh
  ·rw [e];simp only [J9,joinL];rw [Lv.cO _ _ (Lv.lO G.sh),Lv.cO _ _ (cf z.2),G.tid,H.tid,I]
theorem yk {own:List Nat}{x:List Nat×Lv}{t:U}(h:Pc x t):Lv.tidy (own++x.1) x.2=td (T.resL own t):=by
 show _=Lv.tidy (flat (T.resL own t)).1 (flat (T.resL own t)).2;rw [pw];simp only [Lv.tidy,h.own,h.tid]
theorem Pc.map (f:Nat->Nat){q:U}(z:Uq q)(n:q.Nr):Pc (Lv.dV f (td q)) (q.map f):=by
 have h:=(gi f _ (JL _) z n).1;refine⟨?_,by rw [iF];exact AD q,?_⟩
 ·rw [cz,jg z n];show(T.frL q).map f=((flat q).1).map f;rw [(p6 z n).2]
 ·rw [cz];exact h
theorem map_id:∀l:Lv,l.map id=l
 | .nil=>rfl
 | .thr k a b o r n=>by simp only [Lv.map,map_id r,map_id n,List.map_id,id,ite_self]
 | .sum z n=>by simp only [Lv.map,map_id z,map_id n]
 | .part o q n=>by simp only [Lv.map,map_id q,map_id n,List.map_id]
theorem ef:∀u:U,u.map id=u
 | .nil=>rfl
 | .snd a b p=>by simp only [T.map,ef p,id]
 | .rcv a b p=>by simp only [T.map,ef p,id]
 | .tau p=>by simp only [T.map,ef p]
 | .sum p q=>by simp only [T.map,ef p,ef q]
 | .par p q=>by simp only [T.map,ef p,ef q]
 | .res x p=>by simp only [T.map,ef p,id]
 | .mat a b p=>by simp only [T.map,ef p,id]
 | .rep p=>by simp only [T.map,ef p]
theorem Pc.nr {q:U}(z:Uq q)(n:q.Nr):Pc (td q) q:=by
 have h:=Pc.map id z n;rw [ef]at h;have e:Lv.dV id (td q)=td q:=by simp only [Lv.dV,map_id,List.map_id]
 rwa [e]at h
structure wV (l m:Lv):Prop where
 s:∀ρ tk,(thS l ρ tk).Perm (thS m ρ tk)
 bad:∀tk,thBad l tk=thBad m tk
 all:thAll l=thAll m
 most:ax l=ax m
 has:∀x,l.has x=m.has x
 nil:l.isNil=m.isNil
theorem wV.refl (l:Lv):wV l l:=⟨λ _ _=>KK _,λ _=>rfl,rfl,rfl,λ _=>rfl,rfl⟩
theorem wV.trans {a b c:Lv}(h:wV a b)(k:wV b c):wV a c:=⟨λρ tk=>(h.s ρ tk).trans (k.s ρ tk),λtk=>(h.bad tk).trans (k.bad tk),h.all.trans k.all,h.most.trans k.most,λx=>(h.has x).trans (k.has x),h.nil.trans k.nil⟩
theorem mj (l m:Lv):(l.app m).isNil=(l.isNil&&m.isNil):=by cases l<;>simp [Lv.app,Lv.isNil]
theorem wV.app {a b c d:Lv}(h:wV a b)(k:wV c d):wV (a.app c) (b.app d):=
 ⟨λρ tk=>by rw [ga,ga];exact(h.s ρ tk).append (k.s ρ tk),λtk=>by rw [cT,cT,h.bad,k.bad],by rw [bZ,bZ,h.all,k.all],by rw [cn,cn,h.most,k.most],λx=>by rw [Lv.db,Lv.db,h.has,k.has],by rw [mj,mj,h.nil,k.nil]⟩
theorem wV.comm (a b:Lv):wV (a.app b) (b.app a):=
 ⟨λρ tk=>by rw [ga,ga];exact LF,λtk=>by rw [cT,cT,Bool.or_comm],by rw [bZ,bZ];omega,by rw [cn,cn];omega,λx=>by rw [Lv.db,Lv.db,Bool.or_comm],by rw [mj,mj,Bool.and_comm]⟩
theorem DG {r r':List Nat×Lv}(h:r.1.Perm r'.1)(k:wV r.2 r'.2):zm r=zm r':=by
 have z:kv r.2=kv r'.2:=by funext c;unfold kv;rw [k.has]
 have G:aR r.1 (thS r.2) ρ0 (kv r.2)=aR r'.1 (thS r'.2) ρ0 (kv r'.2):=by rw [z];exact kO h k.s _ _
 have H:fv r.1.length r.2.isNil (thBad r.2) (kv r.2)=fv r'.1.length r'.2.isNil (thBad r'.2) (kv r'.2):=by
  rw [z,h.length_eq,k.nil,show thBad r.2=thBad r'.2 from funext k.bad]
 unfold zm;rw [G,H,h.length_eq,k.most,k.all]
theorem xP:∀ts:List U,Lv.tid (joinL (ts.map flat)).2=joinL (ts.map λt=>Lv.tid (flat t).2)
 | []=>rfl
 | t::ts=>by simp only [J9,joinL,Lv.cO _ _ (cf t),xP ts]
theorem uj {l m:List (List Nat×Lv)}(h:l.Perm m):(joinL l).1.Perm (joinL m).1/\wV (joinL l).2 (joinL m).2:=by
 induction h with
 | nil=>exact⟨KK _,wV.refl _⟩
 | cons x _ H=>exact⟨(KK _).append H.1,(wV.refl _).app H.2⟩
 | swap x y l=>
  simp only [joinL];refine⟨?_,?_⟩
  ·rw [<-Kg,<-Kg];exact LF.append (KK _)
  ·rw [<-Lv.cw,<-Lv.cw];exact(wV.comm _ _).app (wV.refl _)
 | trans _ _ z G=>exact⟨z.1.trans G.1,z.2.trans G.2⟩
theorem DP {own:List Nat}{ts z:List U}(h:ts.Perm z):jY (T.resL own (T.parL ts))=jY (T.resL own (T.parL z)):=by
 unfold jY;have e:∀ts:List U,td (T.resL own (T.parL ts))=Lv.kept (own++(joinL (ts.map flat)).1) (joinL (ts.map λt=>Lv.tid (flat t).2)):=λts=>by
  show Lv.tidy (flat _).1 (flat _).2=_;rw [pw,lH];simp only [Lv.tidy,xP]
 rw [e,e];have H:=uj (h.map flat);have G:=uj (h.map λt=>Lv.tid (flat t).2);refine DG ?_ G.2;simp only [Lv.kept];rw [show(λx=>(joinL (ts.map λt=>Lv.tid (flat t).2)).2.has x)=λx=>(joinL (z.map λt=>Lv.tid (flat t).2)).2.has x from funext G.2.has];exact(((KK _).append H.1).append G.1).filter _
end Go.Proofs.YtdecokaadekjnaaGreat
namespace Go.Proofs.YtdecokaadekjnaaGreat
open Go Go.RowKit
def ρN:Rh:=λx=>if x< 26 then UInt8.ofNat (97+x)else 0
theorem IU:IY (dc []) ρN:=λx=>by
 unfold ρN;refine⟨?_,λh=>Ka h,λh=> .inr ⟨rfl,JV (by omega)⟩⟩;split
 ·rename_i h;revert h;revert x;decide+kernel
 ·decide
theorem F6 {x:Nat}(h:x< 26):mZ 1 x=nv (UInt8.ofNat (97+x))/\lt (UInt8.ofNat (97+x))=true/\e0 (UInt8.ofNat (97+x))=x:=by
 have z:lt (UInt8.ofNat (97+x))=true:=by revert x;decide+kernel
 have G:(UInt8.ofNat (97+x)).toNat=97+x:=by rw [KJ];omega
 refine⟨?_,z,by unfold e0;rw [G];omega⟩;unfold nv;rw [gz z,G,show 97+x - 97=x by omega]
def Ck (l:Lv)(i:Nat):Tk:=λc=>lt c&&(decide (c.toNat - 97< i)&&l.has (e0 c))
theorem EA (l:Lv)(c:UInt8):Ck l 0 c=false:=by simp [Ck]
theorem Gd (l:Lv):Ck l 26=kv l:=by
 funext c
 unfold Ck kv;cases h:lt c
 ·rfl
 ·have :=bc h;simp [show c.toNat - 97< 26 by omega]
theorem qG.congr {x:UInt32}{tk tk':Tk}(h:qG x tk)(e:∀c,lt c=true->tk c=tk' c):qG x tk':=λc z=>by rw [h c z,e c z]
theorem Ih {w:World}{n r:Nat}{ρ:Rh}{tk tk':Tk}{bad:Bool}(h:Nm w n r ρ tk bad)(e:∀c,lt c=true->tk c=tk' c):Nm w n r ρ tk' bad:=by
 obtain⟨x,z,G⟩:=h.c1;exact⟨h.lt,h.lr,h.ne,h.c0,h.mp,⟨x,z,G.congr e⟩,h.c2,h.f⟩
theorem ya {l:Lv}{i:Nat}(J:i< 26)(c:UInt8)(G:lt c=true):(l.has i=true->ch (Ck l i) (UInt8.ofNat (97+i)) c=Ck l (i+1) c)/\(l.has i=false->Ck l i c=Ck l (i+1) c):=by
 have V:=bc G;have I:(UInt8.ofNat (97+i)).toNat=97+i:=by rw [KJ];omega
 have he:e0 c=c.toNat - 97:=rfl;unfold ch Ck;rw [G,he];by_cases h:c.toNat - 97=i
 ·have e:c=UInt8.ofNat (97+i):=J4.1 (by omega);rw [h];constructor
  ·intro z;have hb:(c==UInt8.ofNat (97+i))=true:=by rw [e];exact beq_self_eq_true _
   rw [hb,z];simp
  ·intro z;simp [z]
 ·have e:c≠UInt8.ofNat (97+i):=λe=>h (by rw [e,I];omega)
  have H:decide (c.toNat - 97< i)=decide (c.toNat - 97< i+1):=by
   rw [LK];omega
  constructor
  ·intro _;rw [show(c==UInt8.ofNat (97+i))=false by simpa using e,H];simp
  ·intro _;rw [H]
theorem uV {D:Nat->Prop}{w:World}{v:Value}{o:List Nat}{l:Lv}(h:fS D w v o (af D w l))(ς:l.sh true=true)(htot:o.length+l.tot<=4294967295)(huq:tN (Lv.tidy o l).1 (Lv.tidy o l).2)(hfr:∀x,x∉(Lv.tidy o l).1->(Lv.tidy o l).2.fh x->x< 26){R:ay->Bool->World->Prop}
  (hR:∀w',Ex w w'->(∀s,zm (Lv.tidy o l)=some s->R s true w')/\(zm (Lv.tidy o l)=none->R [] false w')):Calls Tryz.prog 216 #[v] w (an [.s,.b] R):=by
 refine kC v w R ?_;refine DO _ (JL _) ς h (by omega) λv2 w3 x3 h2=>?_
 have htt:=og o l;have J:(Lv.tidy o l).2.sh true=true:=Lv.dL _ _ ς;have υ:(Lv.tidy o l).2.sm=true:=Lv.nO _;generalize hr:Lv.tidy o l=r at*;obtain⟨I,z⟩:=r;simp only at*;have hst:=Lv.jP z;have hN:∀b,zm (I,z)=b->(b=none->∀w',Ex w w'->R [] false w'):=λb e1 e2 w' x=>(hR w' x).2 (e1.trans e2)
 refine CG _ (o:=I) (l:=z) (JL _) J h2 (by show I.length+z.tot<=_;omega) λw6 x6=>?_
 have θ:Ex w w6:=Ex.trans x3 x6;have V:¬(max I.length (ax z)<=5/\I.length+thAll z<=8)->zm (I,z)=none:=λhc=>by unfold zm;rw [JV (λh=>hc h.1)]
 by_cases h5:5< max I.length (ax z)
 ·exact dK (by omega) ((hR w6 θ).2 (V (by omega)))
 refine cu (by omega) ?_;by_cases h8:8< I.length+thAll z
 ·exact cS (by omega) ((hR w6 θ).2 (V (by omega)))
 refine aS (by omega) λb7 w8 hb7 ι=>⟨rfl,λb9 α β G=>?_⟩
 have x8:Ex w6 w8:=ι▸Ex.alloc w6 _;have φ:Ex w8 α:=G▸Ex.alloc w8 _;have s8:w8.heap.size=w6.heap.size+1:=by rw [ι,size_alloc]
 have s10:α.heap.size=w8.heap.size+1:=by rw [G,size_alloc]
 have s6:=x6.size;have s3:=x3.size;have e7:α.heap[b7]?=some (.map #[] 0):=by
  rw [φ.block b7 (by omega),ι,hb7];unfold World.alloc;simp
 have n10:Nm α b9 b7 ρN (Ck z 0) false:=by
  refine⟨by omega,by omega,by omega,by rw [G,β];exact aa rfl,⟨dc [],⟨#[],0,e7,⟨by simp,by simp,by simp⟩,by simp,λq=>rfl⟩,IU⟩,⟨0,by rw [G,β];exact aa rfl,λc _=>?_⟩,by rw [G,β];exact aa rfl,λj=>by rw [G,β];exact aO _ _ _ _⟩;rw [EA];simp
 have h3:fS (λg=>yP w g/\g< w3.heap.size) w3 v2 I (af (λg=>yP w g/\g< w3.heap.size) w3 z):=aB.sub (L:=(I,z)) h2 λg hg hd=>⟨hd,hg⟩
 have hD:∀g,(yP w g/\g< w3.heap.size)->¬(g=b9\/g=b7):=λg hg=>by omega
 have ε:∀{w1:World},Ex w3 w1->fS (λg=>yP w g/\g< w3.heap.size) w1 v2 I (af (λg=>yP w g/\g< w3.heap.size) w1 z):=λk=>fS.ex h3 k
 refine⟨λx w'=>∃i:Nat,x=i/\i<=26/\Ex w6 w'/\Nm w' b9 b7 ρN (Ck z i) false,λx _=>(26 - x).toNat,⟨0,rfl,by omega,Ex.trans x8 φ,n10⟩,λx w14 hI=>?_⟩;obtain⟨i,rfl,hi,W,κ⟩:=hI;refine⟨λhlt=>?_,λhge=>?_⟩
 ·have μ:i< 26:=by simp only [JD]at hlt;omega
  obtain⟨eb1,eb2,eb3⟩:=F6 μ;refine Hg _ (JL _) J (ε (Ex.trans x6 W)) (by omega) λγ χ=>?_
  have δ:=κ.ex χ;have ζ:Ex w6 γ:=Ex.trans W χ;refine⟨λhh=>⟨λw'=>Ex γ w',λw18 ψ=>?_⟩,λhh=>⟨by unfold aj;omega,⟨i+1,by omega,by omega,ζ,Ih δ λc hc=>(ya μ c hc).2 hh⟩,by show((26:Int) - ((i:Int)+1)).toNat< ((26:Int) - i).toNat;omega⟩⟩;have ν:Ex γ w18:=ψ▸Ex.drew γ;obtain⟨y,hy,hyt⟩:=δ.c1;have ξ:=δ.ex ν;obtain⟨y',hy',_⟩:=ξ.c1;refine⟨ν,y,λw' x'=>by rw [x'.cell (show b9< _ from δ.lt)];exact hy,by omega,⟨⟨_,hy'⟩,ξ.f 1⟩,λw21 η=>⟨by unfold aj;omega,⟨i+1,by omega,by omega,?_,?_⟩,by show((26:Int) - ((i:Int)+1)).toNat< ((26:Int) - i).toNat;omega⟩⟩
  ·exact η▸Ex.own (Ex.trans ζ ν) (by omega) _
  ·refine Ih (ξ.set (tk':=ch (Ck z i) (UInt8.ofNat (97+i))) (bad':=false) η (.inl ⟨rfl,rfl,_,rfl,?_⟩)) λc hc=>(ya μ c hc).1 hh
   rw [JI,eb1];exact hyt.add eb2
 ·have:i=26:=by simp only [JE]at hge;omega
  subst this;rw [Gd]at κ;have hlS:aR I (thS z) ρN (kv z)=aR I (thS z) ρ0 (kv z):=dU (H:=λx=>z.fh x) (λρ ρ' tk=>hZ z ρ ρ' tk) (λρ ρ' tk h=>sJ z ρ ρ' tk h) λx hx hf=>by
   have :=hfr x hx hf;unfold ρN ρ0;rw [Ka this]
  refine It _ (JL _) J υ huq (ε (Ex.trans x6 W)) hD κ (by omega) λο ρ' k23 n23 _=>⟨_,n23.c2,?_⟩
  rw [hlS,Mc];have x23:Ex w6 ο:=Ex.below W (Kp.below k23 W.size λg hg e=>by omega);have Z:Ex w ο:=Ex.trans θ x23;refine⟨λhb=>xO λq ω x26 hq=>⟨λh=>(hR ω (Ex.trans Z x26)).2 ?_,λh=>(hR ω (Ex.trans Z x26)).1 _ ?_⟩,λhb=>(hR ο Z).2 ?_⟩
  ·unfold zm;have:¬cZ (aR I (thS z) ρ0 (kv z)):=λhg=>by rw [hq.2 hg]at h;cases h
   rw [JV (λh=>this h.2.2)]
  ·unfold zm;have:cZ (aR I (thS z) ρ0 (kv z)):=hq.1 (by cases q<;>first | rfl | cases h);rw [Ka ⟨⟨by show max I.length (ax z)<=5;omega,by show I.length+thAll z<=8;omega⟩,hb,this⟩]
  ·unfold zm;rw [JV (λh=>by have :=h.2.1;rw [hb]at this;cases this)]
end Go.Proofs.YtdecokaadekjnaaGreat
namespace Go.Proofs.YtdecokaadekjnaaGreat
open Go
set_option maxRecDepth 100000
theorem we (n1:ay)(w:World)(R:Value->World->Prop)(h:jd 123 #[(.string (ab n1))] w λv2 q3 V=>aQ V (.cells #[(.int .i64 0),(.string (ab n1)),(.pointer none)] 148) λb5 W=>bL W λS7 Z=>bW 138 #[] Z λv9 G=>bW 137 #[(.pointer (some ⟨b5,0,none⟩)),v2,v9] G λv11 H=>bW 139 #[v11] H λz I=>oneV z=true/\bf I b5 2 z λJ=>R ((.pointer (some ⟨b5,0,none⟩))) J):
  Calls Tryz.prog 92 #[(.string (ab n1))] w (an [.v] R):=
 aY (aZ [] [] [3]) [.tmp 2 .v] [.s n1] Tryz.func92 (by kernel_rfl) h
theorem qH (z:ay)(w:World)(R:Value->Bool->World->Prop)(h:jd 79 #[(.string (ab z))] w λv2 V H=>fE (!V) (bO 80 #[v2] H λW I=>ai (!W) (R (.pointer none) false I) (iX 175 #[v2] I λZ q8 J=>ai (!q8) (R (.pointer none) false J) (bW 92 #[(.string (ab Z))] J λv10 G=>R v10 true G))) (R (.pointer none) false H)):
  Calls Tryz.prog 135 #[(.string (ab z))] w (an [.v,.b] R):=
 aY (aZ [] [] []) [.tmp 2 .v,.tmp 3 .b] [.s z] Tryz.func135 (by kernel_rfl) h
theorem eG (t1:Value)(w:World)(R:Value->World->Prop)(h:az t1 λb2 o3=>fR w b2 (o3+0) λc4=>∃J5:Bool->World->Prop,(ai (decide (c4=126)) (J5 ((decide (c4=126))) w) (ai (decide (c4=33)) (J5 ((decide (c4=33))) w) (J5 ((decide (c4=63))) w)))/\∀(x6:Bool) (w7:World),J5 x6 w7->ai x6 (bL w7 λS8 w9=>az t1 λb10 ω=>H8 S8 b10 (ω+0) λc12=>az t1 λb13 o14=>ji S8 b13 (o14+1) λn15=>az t1 λb16 o17=>ji S8 b16 (o17+2) λn18=>az t1 λb19 o20=>cC S8 b19 (o20+3) λv21=>oneV v21=true/\aQ w9 (.cells #[(.int .u8 c12.toNat),(.int .i64 n15),(.int .i64 n18),v21,(.bool false)] 160) λb22 θ=>S8 θ/\R ((.slice (some ⟨b22,0,none⟩) 1 1)) θ) (ai (decide (c4=42)) (aQ w7 (.cells #[] 160) λb24 ε=>az t1 λb26 o27=>aU ε b26 (o27+3) λv28=>az v28 λb29 o30=>aU ε b29 (o30+1) λv31=>bz v31 λl33=>mT ((.slice (some ⟨b24,0,none⟩) 0 0)) 0 ε λι α J z G=>ai (decide (z< (l33:Int))) (aH v31 z λb40 o41=>aU G b40 (o41+z.toNat* 1) λβ=>az β λb45 o46=>fR G b45 (o46+0) λc47=>ai (decide (c47=63)) (bL G λV w49=>az β λb50 o51=>ji V b50 (o51+1) λn52=>az β λb53 o54=>ji V b53 (o54+2) λn55=>az β λb56 o57=>cC V b56 (o57+3) λκ=>oneV κ=true/\aQ w49 (.cells #[(.int .u8 (UInt8.toNat 63)),(.int .i64 n52),(.int .i64 n55),κ,(.bool true)] 160) λb59 μ=>V μ/\eE 160 5 40 μ J (.slice (some ⟨b59,0,none⟩) 1 1) λν ζ=>V ζ/\aj (z+1)/\ι ν (z+1) ζ/\α ν (z+1) ζ< α J z G) (aj (z+1)/\ι J (z+1) G/\α J (z+1) G< α J z G)) (R J G)) (ai (decide (c4=43)) (aQ w7 (.cells #[] 160) λb68 ξ=>az t1 λb70 o71=>aU ξ b70 (o71+4) λv72=>bz v72 λl74=>mT ((.slice (some ⟨b68,0,none⟩) 0 0)) 0 ξ λI76 ο η H W=>ai (decide (H< (l74:Int))) (aH v72 H λb81 o82=>aU W b81 (o82+H.toNat* 1) λv85=>az v85 λb86 o87=>aU W b86 (o87+1) λς=>bz ς λl90=>mT η 0 W λI92 υ γ I Z=>ai (decide (I< (l90:Int))) (aH ς I λb97 o98=>aU Z b97 (o98+I.toNat* 1) λφ=>bW 140 #[φ] Z λχ ψ=>eE 160 5 40 ψ γ χ λv109 δ=>aj (I+1)/\I92 v109 (I+1) δ/\υ v109 (I+1) δ< υ γ I Z) (aj (H+1)/\I76 γ (H+1) Z/\ο γ (H+1) Z< ο η H W)) (R η W)) (R (.slice none 0 0) w7)))):
  Calls Tryz.prog 140 #[t1] w (an [.v] R):=
 aY (aZ [(9,[(3,.v),(48,.i)]),(18,[(6,.v),(83,.i)]),(21,[(6,.v),(92,.i)])] [(5,[(15,.b)])] [5,12]) [.tmp 2 .v] [.v t1] Tryz.func140 (by kernel_rfl) h
theorem mJ (s1:Value)(v2:Int)(w:World)(R:Int->World->Prop)(h:bz s1 λl4=>fJ 0 w λV J z G=>ai (decide (z< (l4:Int))) (aH s1 z λb10 H=>oH G b10 (H+z.toNat* 1) λI=>ai (decide (v2=I)) (R z G) (aj (z+1)/\V (z+1) G/\J (z+1) G< J z G)) (R (-1) G)):
  Calls Tryz.prog 223 #[s1,(.int .i64 v2)] w (an [.i] R):=
 aY (aZ [(2,[(8,.i)])] [] []) [.tmp 4 .i] [.v s1,.i v2] Tryz.func223 (by kernel_rfl) h
theorem jW (s1:Value)(v2:Int)(w:World)(R:Bool->World->Prop)(h:gn 223 #[s1,(.int .i64 v2)] w λz G=>R ((decide (0<=z))) G):
  Calls Tryz.prog 188 #[s1,(.int .i64 v2)] w (an [.b] R):=
 aY (aZ [] [] []) [.tmp 4 .b] [.v s1,.i v2] Tryz.func188 (by kernel_rfl) h
theorem mw (s1:Value)(g2:Value)(o3:Value)(m4:Value)(w:World)(R:ay->Bool->World->Prop)(h:bW 180 #[o3] w λv5 w6=>oneV v5=true/\aQ w6 (.cells #[v5,(.slice none 0 0)] 155) λb7 w8=>az s1 λb9 ε=>aU w8 b9 (ε+2) λv11=>az v11 λζ η=>aU w8 ζ (η+1) λW=>bz W λθ=>fJ 0 w8 λZ I z H=>ai (decide (z< (θ:Int))) (aH W z λι κ=>aU H ι (κ+z.toNat* 1) λα=>bO 188 #[g2,(.int .i64 z)] H λμ J=>ai (!μ) (aU J b7 1 λν=>oneV α=true/\aQ J (.cells #[α] 156) λb30 ξ=>eE 156 1 8 ξ ν (.slice (some ⟨b30,0,none⟩) 1 1) λv37 ο=>oneV v37=true/\bf ο b7 1 v37 λβ=>aj (z+1)/\Z (z+1) β/\I (z+1) β< I z H) (aj (z+1)/\Z (z+1) J/\I (z+1) J< I z H)) (bz m4 λς=>fJ 0 H λυ γ G V=>ai (decide (G< (ς:Int))) (aH m4 G λφ χ=>aU V φ (χ+G.toNat* 1) λψ=>fC 179 #[(.pointer (some ⟨b7,0,none⟩)),ψ] V λδ=>aj (G+1)/\υ (G+1) δ/\γ (G+1) δ< γ G V) (iX 216 #[(.pointer (some ⟨b7,0,none⟩))] V λω q55 w56=>R ω q55 w56))):
  Calls Tryz.prog 176 #[s1,g2,o3,m4] w (an [.s,.b] R):=
 aY (aZ [(3,[(27,.i)]),(9,[(49,.i)])] [] []) [.tmp 8 .s,.tmp 9 .b] [.v s1,.v g2,.v o3,.v m4] Tryz.func176 (by kernel_rfl) h
theorem mz (z:Value)(s2:ay)(I:Bool)(w:World)(R:World->Prop)(h:az z λb4 o5=>aU w b4 (o5+0) λv6=>aQ w (.cells #[(.string (ab s2))] 9) λb7 w8=>eE 9 1 16 w8 v6 (.slice (some ⟨b7,0,none⟩) 1 1) λH J=>az z λb16 V=>oneV H=true/\bf J b16 (V+0) H λG=>az z λW Z=>B1 G W (Z+1) λα=>fE α (az z λβ γ=>bf G β (γ+1) (.bool (!I)) λδ=>R δ) (az z λε ζ=>bf G ε (ζ+1) (.bool true) λη=>R η)):
  Calls Tryz.prog 99 #[z,(.string (ab s2)),(.bool I)] w (an [] R):=
 aY (aZ [] [] []) [] [.v z,.s s2,.b I] Tryz.func99 (by kernel_rfl) h
theorem jG (z:Int)(c2:Value)(w:World)(R:Int->World->Prop)(h:az c2 λb3 J=>aU w b3 J λv5=>∃(I:Nat) (G:Value->Option Value),v5= .map (some I)/\IsMap w I (.int .i64) G/\∃H:Int,∃g9:Bool,((g9=true/\G (.int .i64 z)=some (.int .i64 H))\/(g9=false/\G (.int .i64 z)=none/\(Value.int .i64 H)=(.int .i64 0)))/\ai g9 (R H w) (R z w)):
  Calls Tryz.prog 239 #[(.int .i64 z),c2] w (an [.i] R):=
 aY (aZ [] [] []) [.tmp 3 .i] [.i z,.v c2] Tryz.func239 (by kernel_rfl) h
theorem lj (m1:Value)(l2:Value)(t3:Value)(w:World)(R:Value->World->Prop)(h:oneV t3=true/\aQ w (.cells #[t3] 226) λb4 w5=>aQ w5 (.cells #[(.slice none 0 0),(.slice none 0 0)] 155) λb6 w7=>az l2 λb8 o9=>aU w7 b8 (o9+0) λv10=>bz v10 λl12=>fJ 0 w7 λI14 m15 V ε=>ai (decide (V< (l12:Int))) (aH v10 V λb18 o19=>oH ε b18 (o19+V.toNat* 1) λn22=>bL ε λS23 w24=>cC S23 b4 0 λv25=>gn 178 #[m1] w24 λn26 w27=>S23 w27/\∃(ν:Nat) (m29:Value->Option Value),v25= .map (some ν)/\IsMap w27 ν (.int .i64) m29/\∀w30:World,IsMap w30 ν (.int .i64) (dz m29 (.int .i64 n22) (.int .i64 n26))->bY w27 w30 ν->bL w30 λζ kf=>cC ζ b6 0 λv33=>cC ζ b4 0 λv34=>∃(r35:Nat) (m36:Value->Option Value),v34= .map (some r35)/\IsMap kf r35 (.int .i64) m36/\∃y37:Int,∃g38:Bool,((g38=true/\m36 (.int .i64 n22)=some (.int .i64 y37))\/(g38=false/\m36 (.int .i64 n22)=none/\(Value.int .i64 y37)=(.int .i64 0)))/\ζ kf/\aQ kf (.cells #[(.int .i64 y37)] 3) λb39 w40=>ζ w40/\eE 3 1 8 w40 v33 (.slice (some ⟨b39,0,none⟩) 1 1) λv46 w47=>ζ w47/\oneV v46=true/\bf w47 b6 0 v46 λw49=>aj (V+1)/\I14 (V+1) w49/\m15 (V+1) w49< m15 V ε) (az l2 λb50 o51=>aU ε b50 (o51+1) λv52=>bz v52 λl54=>fJ 0 ε λI56 m57 W η=>ai (decide (W< (l54:Int))) (aH v52 W λb60 o61=>aU η b60 (o61+W.toNat* 1) λz=>az z λb65 o66=>fR η b65 (o66+0) λc67=>aQ η (.cells #[(.int .u8 c67.toNat),(.int .i64 0),(.int .i64 0),(.pointer none),(.slice none 0 0)] 201) λH Z=>∃δ:World->Prop,(az z λb71 o72=>fR Z b71 (o72+0) λξ=>ai (decide (ξ=63)) (az z λb74 o75=>oH Z b74 (o75+1) λn76=>∃(f77:Nat) (c78:List Value),(Value.func (.func 239) #[] #[(.pointer (some ⟨b4,0,none⟩))])= .func (.func f77) #[] (List.toArray c78)/\List.contains dD f77=true/\gn f77 (List.toArray ([(.int .i64 n76)]++c78)) Z λn79 w80=>bf w80 H 1 (.int .i64 n79) λw82=>bL w82 λS83 w84=>cC S83 b4 0 λv85=>az z λb86 o87=>ji S83 b86 (o87+2) λn88=>gn 178 #[m1] w84 λn89 w90=>S83 w90/\∃(ο:Nat) (m92:Value->Option Value),v85= .map (some ο)/\IsMap w90 ο (.int .i64) m92/\∀w93:World,IsMap w93 ο (.int .i64) (dz m92 (.int .i64 n88) (.int .i64 n89))->bY w90 w93 ο->bL w93 λS94 w95=>cC S94 b4 0 λv96=>az z λb97 o98=>ji S94 b97 (o98+2) λn99=>∃(ς:Nat) (θ:Value->Option Value),v96= .map (some ς)/\IsMap w95 ς (.int .i64) θ/\∃ι:Int,∃υ:Bool,((υ=true/\θ (.int .i64 n99)=some (.int .i64 ι))\/(υ=false/\θ (.int .i64 n99)=none/\(Value.int .i64 ι)=(.int .i64 0)))/\bf w95 H 2 (.int .i64 ι) λw105=>δ w105) (ai (decide (ξ=33)) (ai (decide (ξ=33)) (bL Z λα w107=>az z λb108 o109=>ji α b108 (o109+1) λn110=>az z λb111 o112=>ji α b111 (o112+2) λn113=>∃(f114:Nat) (φ:List Value),(Value.func (.func 239) #[] #[(.pointer (some ⟨b4,0,none⟩))])= .func (.func f114) #[] (List.toArray φ)/\List.contains dD f114=true/\gn f114 (List.toArray ([(.int .i64 n110)]++φ)) w107 λn116 χ=>α χ/\∃(f118:Nat) (ψ:List Value),(Value.func (.func 239) #[] #[(.pointer (some ⟨b4,0,none⟩))])= .func (.func f118) #[] (List.toArray ψ)/\List.contains dD f118=true/\gn f118 (List.toArray ([(.int .i64 n113)]++ψ)) χ λn120 ω=>α ω/\bf ω H 1 (.int .i64 n116) λw123=>bf w123 H 2 (.int .i64 n120) λw125=>δ w125) (δ Z)) (ai (decide (ξ=61)) (bL Z λβ w127=>az z λb128 o129=>ji β b128 (o129+1) λn130=>az z λb131 o132=>ji β b131 (o132+2) λn133=>∃(f134:Nat) (c135:List Value),(Value.func (.func 239) #[] #[(.pointer (some ⟨b4,0,none⟩))])= .func (.func f134) #[] (List.toArray c135)/\List.contains dD f134=true/\gn f134 (List.toArray ([(.int .i64 n130)]++c135)) w127 λn136 w137=>β w137/\∃(f138:Nat) (c139:List Value),(Value.func (.func 239) #[] #[(.pointer (some ⟨b4,0,none⟩))])= .func (.func f138) #[] (List.toArray c139)/\List.contains dD f138=true/\gn f138 (List.toArray ([(.int .i64 n133)]++c139)) w137 λn140 w141=>β w141/\bf w141 H 1 (.int .i64 n136) λw143=>bf w143 H 2 (.int .i64 n140) λw145=>δ w145) (δ Z))))/\∀(γ:World),δ γ->∃κ:World->Prop,(az z λb148 o149=>aU γ b148 (o149+3) λv150=>∃q151:Option Addr,v150= .pointer q151/\ai (!Option.isNone q151) (bL γ λS152 w153=>az z λb154 o155=>cC S152 b154 (o155+3) λv156=>cC S152 b4 0 λv157=>bW 217 #[m1,v156,v157] w153 λv158 w159=>oneV v158=true/\bf w159 H 3 v158 λw161=>κ w161) (κ γ))/\∀(μ:World),κ μ->az z λb163 o164=>aU μ b163 (o164+4) λv165=>bz v165 λl167=>fJ 0 μ λI169 m170 G I=>ai (decide (G< (l167:Int))) (aH v165 G λb173 o174=>aU I b173 (o174+G.toNat* 1) λv177=>bL I λJ w179=>cC J H 4 λv180=>cC J b4 0 λv181=>bW 217 #[m1,v177,v181] w179 λv182 w183=>J w183/\oneV v182=true/\aQ w183 (.cells #[v182] 146) λb184 w185=>J w185/\eE 146 1 8 w185 v180 (.slice (some ⟨b184,0,none⟩) 1 1) λv191 w192=>J w192/\oneV v191=true/\bf w192 H 4 v191 λw194=>aj (G+1)/\I169 (G+1) w194/\m170 (G+1) w194< m170 G I) (aU I b6 1 λv195=>aQ I (.cells #[(.pointer (some ⟨H,0,none⟩))] 156) λb196 w197=>eE 156 1 8 w197 v195 (.slice (some ⟨b196,0,none⟩) 1 1) λv203 w204=>oneV v203=true/\bf w204 b6 1 v203 λw206=>aj (W+1)/\I56 (W+1) w206/\m57 (W+1) w206< m57 W η)) (R ((.pointer (some ⟨b6,0,none⟩))) η))):
  Calls Tryz.prog 217 #[m1,l2,t3] w (an [.v] R):=
 aY (aZ [(3,[(23,.i)]),(10,[(50,.i)]),(24,[(132,.i)])] [(21,[]),(23,[])] [5,6,16,17,20,22,26]) [.tmp 6 .v] [.v m1,.v l2,.v t3] Tryz.func217 (by kernel_rfl) h
theorem jK (s1:Value)(Z:Value)(n3:Int)(w:World)(R:Value->World->Prop)(h:∃c4:List Value,Z= .agg (List.toArray c4)/\aQ w (.cells (List.toArray c4) 160) λb5 w6=>bL w6 λI w8=>az s1 λb9 α=>cC I b5 3 λv11=>ji I b5 2 λβ=>aQ w8 (Obj.map #[] 0) λJ H=>I H/\∃(z:Nat) (V:Value->Option Value),(Value.map (some J))= .map (some z)/\IsMap H z (.int .i64) V/\∀G:World,IsMap G z (.int .i64) (dz V (.int .i64 β) (.int .i64 n3))->bY H G z->I G/\bW 217 #[(.pointer (some ⟨b9,(α+0),none⟩)),v11,(.map (some J))] G λγ W=>I W/\R γ W):
  Calls Tryz.prog 177 #[s1,Z,(.int .i64 n3)] w (an [.v] R):=
 aY (aZ [] [] [1]) [.tmp 6 .v] [.v s1,.v Z,.i n3] Tryz.func177 (by kernel_rfl) h
theorem iy (s1:Value)(w:World)(R:Value->World->Prop)(h:bz s1 λl3=>ai (decide ((l3:Int)< 2)) (R s1 w) (fJ 1 w λI5 m6 H w8=>bz s1 λφ=>ai (decide (H< (φ:Int))) (bL w8 λμ θ=>aH s1 H λχ ψ=>jh μ χ (ψ+H.toNat* 1) λω=>aj (H - 1)/\aH s1 (H - 1) λb19 o20=>jh μ b19 (o20+Int.toNat (H - 1)* 1) λs23=>ai (decide (ω=s23)) (∃(a24:Option Addr) (J I:Nat),s1= .slice a24 J I/\0<=(H:Int)/\(H:Int)<=(J:Int)/\(J:Int)<=(I:Int)/\ve H 1 θ λν W z G V=>bz (.slice (if I=H.toNat then a24 else Option.map (·.add (H.toNat* 1)) a24) (Int.toNat (J:Int) - H.toNat) (I - H.toNat)) λl33=>ai (decide (G< (l33:Int))) (bL V λξ Z=>aH (.slice (if I=H.toNat then a24 else Option.map (·.add (H.toNat* 1)) a24) (Int.toNat (J:Int) - H.toNat) (I - H.toNat)) G λb37 o38=>jh ξ b37 (o38+G.toNat* 1) λs41=>aj (G - 1)/\aH (.slice (if I=H.toNat then a24 else Option.map (·.add (H.toNat* 1)) a24) (Int.toNat (J:Int) - H.toNat) (I - H.toNat)) (G - 1) λb42 o43=>jh ξ b42 (o43+Int.toNat (G - 1)* 1) λs46=>ai (!decide (s41=s46)) (aH (.slice (if I=H.toNat then a24 else Option.map (·.add (H.toNat* 1)) a24) (Int.toNat (J:Int) - H.toNat) (I - H.toNat)) G λb47 o48=>ct Z b47 (o48+G.toNat* 1) λs51=>aH s1 z λb52 o53=>bf Z b52 (o53+z.toNat* 1) (.string (ab s51)) λο=>aj (z+1)/\aj (G+1)/\ν (z+1) (G+1) ο/\W (z+1) (G+1) ο< W z G V) (aj (G+1)/\ν z (G+1) Z/\W z (G+1) Z< W z G V)) (∃(ι:Option Addr) (α β:Nat),s1= .slice ι α β/\0<=(z:Int)/\(z:Int)<=(α:Int)/\(α:Int)<=(β:Int)/\∃(ς:Option Addr) (γ c63:Nat),(Value.slice (if β=z.toNat then ι else Option.map (·.add (z.toNat* 1)) ι) (Int.toNat (α:Int) - z.toNat) (β - z.toNat))= .slice ς γ c63/\((γ=0/\∃(κ:Option Addr) (l68 δ:Nat),s1= .slice κ l68 δ/\0<=(0:Int)/\(0:Int)<=z/\z<=(δ:Int)/\R ((.slice (if δ=Int.toNat 0 then κ else Option.map (·.add (Int.toNat 0* 1)) κ) (z.toNat - Int.toNat 0) (δ - Int.toNat 0))) V)\/∃(ε ζ:Nat),ς=some ⟨ε,ζ,none⟩/\(∀j,j< γ->(∃u,World.cell? V ⟨ε,ζ+j,none⟩=some u)/\World.frozen? V ⟨ε,ζ+j,none⟩=false)/\∀υ:World,υ=World.setCells V ε ζ (List.replicate γ (.string ⟨#[]⟩))->∃(a70:Option Addr) (l71 η:Nat),s1= .slice a70 l71 η/\0<=(0:Int)/\(0:Int)<=z/\z<=(η:Int)/\R ((.slice (if η=Int.toNat 0 then a70 else Option.map (·.add (Int.toNat 0* 1)) a70) (z.toNat - Int.toNat 0) (η - Int.toNat 0))) υ))) (aj (H+1)/\I5 (H+1) θ/\m6 (H+1) θ< m6 H w8)) (R s1 w8))):
  Calls Tryz.prog 149 #[s1] w (an [.v] R):=
 aY (aZ [(4,[(3,.i)]),(9,[(3,.i),(5,.i)])] [] [6,11]) [.tmp 2 .v] [.v s1] Tryz.func149 (by kernel_rfl) h
theorem ly (z:Value)(w:World)(R:Value->Bool->World->Prop)(h:az z λb2 J=>B1 w b2 (J+1) λV=>ai V (R (.slice none 0 0) false w) (az z λb5 W=>aU w b5 (W+0) λZ=>fC 115 #[Z] w λI=>az z λb9 G=>aU I b9 (G+0) λv11=>bW 149 #[v11] I λv12 H=>R v12 true H)):
  Calls Tryz.prog 100 #[z] w (an [.v,.b] R):=
 aY (aZ [] [] []) [.tmp 2 .v,.tmp 3 .b] [.v z] Tryz.func100 (by kernel_rfl) h
theorem ir (s1:Value)(w:World)(R:Value->Bool->World->Prop)(h:aQ w (.cells #[(.slice none 0 0),(.bool false)] 115) λb2 w3=>az s1 λb4 o5=>aU w3 b4 (o5+2) λv6=>az v6 λb7 o8=>aU w3 b7 (o8+1) λv9=>bz v9 λl11=>fJ 0 w3 λI13 m14 W υ=>ai (decide (W< (l11:Int))) (aH v9 W λb17 o18=>aU υ b17 (o18+W.toNat* 1) λv21=>bW 140 #[v21] υ λv22 w23=>bz v22 λl25=>fJ 0 w23 λI27 φ H α=>ai (decide (H< (l25:Int))) (aH v22 H λθ ι=>∃c35:UInt8,∃n36:Int,∃n37:Int,∃v38:Value,∃q39:Bool,(World.cell? α ⟨θ,(ι+H.toNat* 5),none⟩=some (.int .u8 c35.toNat)/\World.cell? α ⟨θ,((ι+H.toNat* 5)+1),none⟩=some (.int .i64 n36)/\World.cell? α ⟨θ,(((ι+H.toNat* 5)+1)+1),none⟩=some (.int .i64 n37)/\World.cell? α ⟨θ,((((ι+H.toNat* 5)+1)+1)+1),none⟩=some v38/\World.cell? α ⟨θ,(((((ι+H.toNat* 5)+1)+1)+1)+1),none⟩=some (.bool q39)/\True)/\aQ α (.cells #[(.int .u8 0),(.int .i64 0),(.int .i64 0),(.pointer none),(.bool false)] 160) λε w41=>vE w41 ε 0 5 [(.int .u8 c35.toNat),(.int .i64 n36),(.int .i64 n37),v38,(.bool q39)] λw42=>∃χ:World->Prop,(fR w42 ε 0 λc44=>ai (decide (c44=126)) (bL w42 λZ w46=>az s1 λb47 o48=>cC Z b47 (o48+2) λv49=>az v49 λb50 o51=>cC Z b50 (o51+0) λv52=>cC Z ε 3 λv53=>(aQ w46 (.cells #[(.int .i64 W)] 3) λb54 w55=>Z w55/\oneV v53=true/\aQ w55 (.cells #[v53] 146) λb56 w57=>Z w57/\iX 176 #[s1,(.slice (some ⟨b54,0,none⟩) 1 1),v52,(.slice (some ⟨b56,0,none⟩) 1 1)] w57 λs58 q59 w60=>Z w60/\fC 99 #[(.pointer (some ⟨b2,0,none⟩)),(.string (ab s58)),(.bool q59)] w60 λw61=>Z w61/\χ w61)/\(oneV v53=true/\aQ w46 (.cells #[v53] 146) λb62 w63=>Z w63/\aQ w63 (.cells #[(.int .i64 W)] 3) λb64 w65=>Z w65/\iX 176 #[s1,(.slice (some ⟨b64,0,none⟩) 1 1),v52,(.slice (some ⟨b62,0,none⟩) 1 1)] w65 λs66 q67 w68=>Z w68/\fC 99 #[(.pointer (some ⟨b2,0,none⟩)),(.string (ab s66)),(.bool q67)] w68 λw69=>Z w69/\χ w69)) (χ w42))/\∀(ζ:World),χ ζ->fR ζ ε 0 λc71=>ai (!decide (c71=33)) (aj (H+1)/\I27 (H+1) ζ/\φ (H+1) ζ< φ H α) (az s1 λb72 o73=>aU ζ b72 (o73+2) λv74=>az v74 λb75 o76=>aU ζ b75 (o76+1) λv77=>bz v77 λl79=>fJ 0 ζ λI81 m82 β κ=>ai (decide (β< (l79:Int))) (aH v77 β λb85 o86=>aU κ b85 (o86+β.toNat* 1) λv89=>bW 140 #[v89] κ λv90 w91=>bz v90 λl93=>fJ 0 w91 λψ γ z V=>ai (decide (z< (l93:Int))) (aH v90 z λμ δ=>∃ω:UInt8,∃n104:Int,∃n105:Int,∃v106:Value,∃q107:Bool,(World.cell? V ⟨μ,(δ+z.toNat* 5),none⟩=some (.int .u8 ω.toNat)/\World.cell? V ⟨μ,((δ+z.toNat* 5)+1),none⟩=some (.int .i64 n104)/\World.cell? V ⟨μ,(((δ+z.toNat* 5)+1)+1),none⟩=some (.int .i64 n105)/\World.cell? V ⟨μ,((((δ+z.toNat* 5)+1)+1)+1),none⟩=some v106/\World.cell? V ⟨μ,(((((δ+z.toNat* 5)+1)+1)+1)+1),none⟩=some (.bool q107)/\True)/\aQ V (.cells #[(.int .u8 0),(.int .i64 0),(.int .i64 0),(.pointer none),(.bool false)] 160) λI w109=>vE w109 I 0 5 [(.int .u8 ω.toNat),(.int .i64 n104),(.int .i64 n105),v106,(.bool q107)] λG=>fE (decide (β=W)) (fR G I 0 λc111=>fE (!decide (c111=63)) (oH G I 1 λn112=>oH G ε 1 λn113=>ai (!decide (n112=n113)) (aj (z+1)/\ψ (z+1) G/\γ (z+1) G< γ z V) (aQ G (.cells #[(.int .i64 W),(.int .i64 β)] 3) λb114 ν=>∃ξ:Value->World->Prop,(B1 ν I 4 λq117=>ai q117 (∃(ο:Option Addr) (l119 η:Nat),(Value.slice (some ⟨b114,0,none⟩) 2 2)= .slice ο l119 η/\0<=(0:Int)/\(0:Int)<=1/\1<=(η:Int)/\ξ ((.slice (if η=Int.toNat 0 then ο else Option.map (·.add (Int.toNat 0* 1)) ο) (Int.toNat 1 - Int.toNat 0) (η - Int.toNat 0))) ν) (ξ ((.slice (some ⟨b114,0,none⟩) 2 2)) ν))/\∀(g121:Value) (w122:World),ξ g121 w122->bL w122 λJ w124=>az s1 λb125 o126=>cC J b125 (o126+2) λv127=>az v127 λb128 o129=>cC J b128 (o129+0) λv130=>cC J ε 3 λv131=>∃c132:UInt8,∃n133:Int,∃n134:Int,∃v135:Value,∃q136:Bool,(∀w',J w'->World.cell? w' ⟨I,0,none⟩=some (.int .u8 c132.toNat)/\World.cell? w' ⟨I,1,none⟩=some (.int .i64 n133)/\World.cell? w' ⟨I,2,none⟩=some (.int .i64 n134)/\World.cell? w' ⟨I,3,none⟩=some v135/\World.cell? w' ⟨I,4,none⟩=some (.bool q136)/\True)/\ji J ε 2 λn137=>bW 177 #[s1,(.agg #[(.int .u8 c132.toNat),(.int .i64 n133),(.int .i64 n134),v135,(.bool q136)]),(.int .i64 n137)] w124 λv138 w139=>J w139/\oneV v131=true/\oneV v138=true/\aQ w139 (.cells #[v131,v138] 146) λb140 w141=>J w141/\iX 176 #[s1,g121,v130,(.slice (some ⟨b140,0,none⟩) 2 2)] w141 λs142 q143 w144=>J w144/\fC 99 #[(.pointer (some ⟨b2,0,none⟩)),(.string (ab s142)),(.bool q143)] w144 λς=>J ς/\aj (z+1)/\ψ (z+1) ς/\γ (z+1) ς< γ z V)) (aj (z+1)/\ψ (z+1) G/\γ (z+1) G< γ z V)) (aj (z+1)/\ψ (z+1) G/\γ (z+1) G< γ z V)) (aj (β+1)/\I81 (β+1) V/\m82 (β+1) V< m82 β κ)) (aj (H+1)/\I27 (H+1) κ/\φ (H+1) κ< φ H α))) (aj (W+1)/\I13 (W+1) α/\m14 (W+1) α< m14 W υ)) (jd 100 #[(.pointer (some ⟨b2,0,none⟩))] υ λv146 q147 w148=>R v146 q147 w148)):
  Calls Tryz.prog 136 #[s1] w (an [.v,.b] R):=
 aY (aZ [(3,[(24,.i)]),(6,[(32,.i)]),(12,[(68,.i)]),(15,[(76,.i)])] [(10,[]),(21,[(13,.v)])] [9,21]) [.tmp 2 .v,.tmp 3 .b] [.v s1] Tryz.func136 (by kernel_rfl) h
end Go.Proofs.YtdecokaadekjnaaGreat
namespace Go.Proofs.YtdecokaadekjnaaGreat
open Go Go.RowKit
theorem Dc {j:Nat}(z:j< 26):(List.replicate 26 (iv 0))[j]?=some (iv 0):=by rw [List.getElem?_replicate,Ka z]
theorem GM {j:Nat}(z:j< 26):(List.replicate 26 (iv 0)).toArray[j]?=some (iv 0):=by rw [Mr];exact Dc z
theorem qt {w:World}{R:Value->World->Prop}(hR:∀w' cs,Ex w w'->Gg cs e0->R (.agg cs.toArray) w'):Calls Tryz.prog 138 #[] w (an [.v] R):=by
 refine oJ w R ?_;intro b1 w2 Z H b3 J α I;have x2:Ex w w2:=H▸Ex.alloc w _;have x4:Ex w2 J:=I▸Ex.alloc w2 _;have s2:w2.heap.size=w.heap.size+1:=by rw [H,size_alloc]
 have s4:J.heap.size=w2.heap.size+1:=by rw [I,size_alloc]
 have c3:∀j,j< 26->J.cell? ⟨b3,0+j,none⟩=some (iv 0):=λj z=>by
  rw [I,α];refine aa ?_;rw [J'];exact GM z
 have c1:∀j,j< 26->J.cell? ⟨b1,0+j,none⟩=some (iv 0):=λj z=>by
  rw [x4.cell (show b1< _ by omega),H,Z];refine aa ?_;rw [J'];exact GM z
 have f3:∀j,J.frozen? ⟨b3,j,none⟩=false:=λj=>by rw [I,α];exact aO _ _ _ _
 have f1:∀j,J.frozen? ⟨b1,j,none⟩=false:=λj=>by rw [K4 x4 (show b1< _ by omega),H,Z];exact aO _ _ _ _
 refine⟨⟨rfl,rfl,λj z=>⟨⟨_,c3 j z⟩,f3 _⟩⟩,λw5 η=>?_⟩;obtain⟨k5,W,_,β⟩:=a7 (b:=b3) _ J 0;rw [<-η]at k5 W β;have γ:∀j,j< 26->w5.cell? ⟨b3,0+j,none⟩=some (iv 0):=λj z=>by
  rw [β j (λi hi=>⟨_,c3 i hi⟩) z];exact Dc z
 have x5:Ex w w5:=Ex.below (Ex.trans x2 x4) (Kp.below k5 (Ex.trans x2 x4).size λg hg e=>by omega);have s5:=k5.size;have d1:∀j,j< 26->w5.cell? ⟨b1,0+j,none⟩=some (iv 0):=λj z=>by rw [JB (w:=J) (k5.block b1 (by omega) (by omega))];exact c1 j z
 refine⟨λx w'=>∃i:Nat,x=i/\i<=26/\Ex w w'/\b3< w'.heap.size/\(∀j,j< 26->w'.cell? ⟨b1,0+j,none⟩=some (iv 0))/\(∀j,w'.frozen? ⟨b1,j,none⟩=false)/\(∀j,w'.frozen? ⟨b3,j,none⟩=false)/\∀j,j< 26->w'.cell? ⟨b3,0+j,none⟩=some (iv (if j< i then j else 0)),
  λx _=>(26 - x).toNat,⟨0,rfl,by omega,x5,by omega,d1,λj=>by rw [W];exact f1 j,λj=>by rw [W];exact f3 j,λj z=>by rw [JV (by omega)];exact γ j z⟩,λx w9 hI=>?_⟩
 obtain⟨i,rfl,hi,x9,l9,e1,g1,g3,e3⟩:=hI;refine⟨λθ=>?_,λι=>?_⟩
 ·have κ:i< 26:=by simp only [JD]at θ;omega
  rw [JI,Kc];refine⟨⟨by omega,by omega⟩,⟨⟨_,e3 i κ⟩,g3 _⟩,λξ G=>⟨by unfold aj;omega,⟨i+1,by omega,by omega,?_,?_,λj z=>?_,λj=>?_,λj=>?_,λj z=>?_⟩,by show((26:Int) - ((i:Int)+1)).toNat< ((26:Int) - i).toNat;omega⟩⟩
  ·exact G▸Ex.own x9 (by omega) _
  ·rw [G,Ki];exact l9
  ·rw [G,JH _ _ _ _ (λe=>by injection e with e1 e2;omega)];exact e1 j z
  ·rw [G,JU];exact g1 j
  ·rw [G,JU];exact g3 j
  ·by_cases μ:j=i
   ·subst μ;rw [G,Ka (by omega)];exact JT _ _ _ (e3 j z)
   ·rw [G,JH _ _ _ _ (λe=>by injection e with e1 e2;omega),e3 j z]
    congr 2
    split<;>split<;>omega
 ·have:i=26:=by simp only [JE]at ι;omega
  subst this;have δ:∀j,j< 26->((List.range 26).map iv)[j]?=some (iv j):=λj z=>by simp [z]
  refine⟨(List.range 26).map iv,rfl,λj z=>by rw [e3 j z,δ j z,Ka z],⟨rfl,rfl,λj z=>⟨⟨_,e1 j z⟩,g1 _⟩⟩,λν ε=>?_⟩;obtain⟨ζ,_,_,V⟩:=a7 (b:=b1) ((List.range 26).map iv) w9 0;rw [<-ε]at ζ V;refine⟨(List.range 26).map iv,rfl,λj z=>V j (λi hi=>⟨_,e1 i (by simpa using hi)⟩) (by simpa using z),hR ν _ ?_ ⟨rfl,λc hc=>?_⟩⟩
  ·exact Ex.below x9 (Kp.below ζ x9.size λg hg e=>by omega)
  ·have :=bc hc;exact δ _ (by omega)
theorem FC {t:P}(h:Lt t):Nu (num t e0 0).1:=by
 obtain⟨_,z,G,h4⟩:=rB (p:=t) λc H=>T.Al.free h c H
 exact⟨z,λy I=>G y (T.bC I),h4⟩
theorem cB:∀u:U,(flat u).1.length+(flat u).2.tot<=4* u.size
 | .nil=>by simp [flat,Lv.tot]
 | .snd a b p=>by have :=cB p;simp only [flat,Lv.tot,T.size,JQ];omega
 | .rcv a b p=>by have :=cB p;simp only [flat,Lv.tot,T.size,JQ];omega
 | .tau p=>by have :=cB p;simp only [flat,Lv.tot,T.size,JQ];omega
 | .mat a b p=>by have :=cB p;simp only [flat,Lv.tot,T.size,JQ];omega
 | .rep p=>by have :=cB p;simp only [flat,Lv.tot,T.size,JQ];omega
 | .res x p=>by have :=cB p;simp only [flat,T.size,JA];omega
 | .par p q=>by have :=cB p;have :=cB q;simp only [flat,Lv.bV,T.size,JJ];omega
 | .sum p q=>by have :=cB p;have :=cB q;simp only [flat,Lv.tot,T.size,JQ];omega
theorem Gx {u:U}(h:Nu u):∀x,x∉(td u).1->(td u).2.fh x->x< 26:=λx z G=>h.fr x (DA _ u (JL _) h.uq x G z)
theorem wk {D:Nat->Prop}{w:World}{t:P}{v:Value}(h:aI D w t v)(hD:∀g,D g->g< w.heap.size)(hl:Lt t)(hs:t.size<=1000000){R:ay->Bool->World->Prop}
  (hR:∀w',Ex w w'->(∀s,jY (num t e0 0).1=some s->R s true w')/\(jY (num t e0 0).1=none->R [] false w')):Calls Tryz.prog 175 #[v] w (an [.s,.b] R):=by
 refine mF v w R ?_;intro b2 I H z;have x3:Ex w I:=z▸Ex.alloc w _;have s3:I.heap.size=w.heap.size+1:=by rw [z,size_alloc]
 refine qt λw5 cs x5 J=>?_
 have G:Ex w w5:=Ex.trans x3 x5;have mk:Mk I b2 0:=⟨by omega,by rw [z,H];exact aa rfl,by rw [z,H];exact aO _ _ _ _⟩
 have V:aI D w5 t v:=aI.kp (Kp.ah G λ _=>False) (λ _ _ h=>h) h;refine GK t V (λg hg e=>by have :=hD g hg;omega) (mk.ex x5) J hl (by omega) λv' w7 k7 _ h7=>?_
 have nu:=FC hl;have α:=(bP t e0 0).1;have β:=cB (num t e0 0).1;have e:Lv.tidy (flat (num t e0 0).1).1 (flat (num t e0 0).1).2=td (num t e0 0).1:=rfl;refine uV h7 (cJ _) (by omega) (by rw [e];exact ze nu.uq nu.bv) (by rw [e];exact Gx nu) λW Z=>?_
 have x7:Ex w w7:=Ex.below G (Kp.below k7.kp G.size λg hg e=>by omega);rw [e];exact hR W (Ex.trans x7 Z)
structure FA (w:World)(D:Nat->Prop)(b:Nat)(n:Nat)(s:Tx)(L:List Nat×Lv):Prop where
 mc:Mk w b n
 tx:w.cell? ⟨b,1,none⟩=some (.string (ab s))
 l:∃v,w.cell? ⟨b,2,none⟩=some v/\aB D w L v
theorem zi {t:P}{w:World}(hl:Lt t)(hs:t.size<=1000000)(hlen:t.text.length<=1099511627776){R:Value->World->Prop}
  (hR:∀b w',Ex w w'->w.heap.size<=b->FA w' (λg=>w.heap.size<=g/\g≠b/\g< w'.heap.size) b (num t e0 0).2 t.text (td (num t e0 0).1)->R (ptr b) w'):Calls Tryz.prog 92 #[.string (ab t.text)] w (an [.v] R):=by
 refine we t.text w R ?_;refine AN hlen λv2 q w4 x4 ο ς=>?_
 have hq:q=true:=by
  cases q
  ·exact absurd rfl (ς rfl t hl)
  ·rfl
 obtain⟨t',υ,et,φ⟩:=ο hq;have:t'=t:=eu (T.Al.wf υ) (T.Al.wf hl) et.symm;subst this;intro b5 Z V I;have x6:Ex w4 Z:=I▸Ex.alloc w4 _;have s6:Z.heap.size=w4.heap.size+1:=by rw [I,size_alloc]
 refine⟨λw'=>Ex Z w',λw8 ζ=>⟨ζ▸Ex.drew Z,?_⟩⟩;have x8:Ex Z w8:=ζ▸Ex.drew Z;have s4:=x4.size;have s8:=x8.size;have χ:Mk Z b5 0:=⟨by omega,by rw [I,V];exact aa rfl,by rw [I,V];exact aO _ _ _ _⟩
 have t6:Z.cell? ⟨b5,1,none⟩=some (.string (ab t'.text)):=by rw [I,V];exact aa rfl
 have l6:Z.cell? ⟨b5,2,none⟩=some (.pointer none):=by rw [I,V];exact aa rfl
 have f6:∀j,Z.frozen? ⟨b5,j,none⟩=false:=λj=>by rw [I,V];exact aO _ _ _ _
 refine qt λψ cs η ω=>?_
 have z:=Ex.trans x8 η;have θ:aI (λg=>yP w g/\g< w4.heap.size) ψ t' v2:=aI.kp (Kp.ah (Ex.trans x6 z) λ _=>False) (λ _ _ h=>h) φ.bound;refine GK t' θ (λg hg e=>by omega) (χ.ex z) ω hl (by omega) λv11 α W β h12=>?_
 have hsz:=(bP t' e0 0).1;have htt:=cB (num t' e0 0).1;refine DO _ (JL _) (cJ _) h12 (by omega) λv13 J G ι=>⟨ι.one,?_⟩
 have x14':Ex α J:=G;have s12:=W.size;have s10:=η.size;have γ:b5< α.heap.size:=β.lt;have f14:∀j,J.frozen? ⟨b5,j,none⟩=false:=λj=>by rw [K4 G γ,W.fz,K4 z (show b5< _ by omega)];exact f6 j
 have t14:J.cell? ⟨b5,1,none⟩=some (.string (ab t'.text)):=by rw [G.cell (show b5< _ from γ),W.ce 1 (by omega),z.cell (show b5< _ by omega)];exact t6
 have κ:J.cell? ⟨b5,2,none⟩=some (.pointer none):=by rw [G.cell (show b5< _ from γ),W.ce 2 (by omega),z.cell (show b5< _ by omega)];exact l6
 have μ:=β.ex G;refine⟨⟨⟨_,κ⟩,f14 2⟩,λδ H=>?_⟩;have ε:Kr b5 J δ:=H▸Kr.set _ _ _;have ν:δ.cell? ⟨b5,0,none⟩=some (iv (num t' e0 0).2):=by rw [H,JH _ _ _ _ (λe=>by injection e with e1 e2;omega)];exact μ.c
 have ξ:Ex w α:=Ex.below (Ex.trans x4 (Ex.trans x6 z)) (Kp.below W.kp (Ex.trans x4 (Ex.trans x6 z)).size λg hg e=>by omega);have s14:=G.size;have s16:=ε.size;refine hR b5 δ (Ex.below (Ex.trans ξ G) (Kp.below ε (Ex.trans ξ G).size λg hg e=>by omega)) (by omega) ⟨⟨by omega,ν,by rw [H,JU];exact f14 0⟩,?_,v13,?_,?_⟩
 ·rw [H,JH _ _ _ _ (λe=>by injection e with e1 e2;omega)];exact t14
 ·rw [H];exact JT _ _ _ κ
 ·exact aB.sub (aB.kp (aB.sub (E:=λg=>α.heap.size<=g/\g< J.heap.size) ι λg hg hd=>⟨hd,hg⟩) ε λg hg e=>by omega) λg hg hd=>⟨by omega,by omega,by omega⟩
end Go.Proofs.YtdecokaadekjnaaGreat
namespace Go.Proofs.YtdecokaadekjnaaGreat
open T
theorem Dz {u H:U}(h:Nu u)(Z:Nu H)(ae:AE σ0 u σ0 H):jY u=jY H:=by
 have G:∀y z:Nat,σ0 y=σ0 z->y=z:=λy z e=>by unfold σ0 at e;omega
 have I:∀y,u.Us y↔H.Us y:=λy=>by
  constructor
  ·intro J;obtain⟨z,V,e⟩:=ae.used (λy z _ _ e=>G y z e) (λy z _ _ e=>G y z e) y J;rw [<-G z y e];exact V
  ·intro J;obtain⟨z,V,e⟩:=ae.symm.used (λy z _ _ e=>G y z e) (λy z _ _ e=>G y z e) y J;rw [<-G z y e];exact V
 have W:kv (td u).2=kv (td H).2:=by
  funext c
  rw [KE,pH h,pH Z,I]
 have key:=λtk=>GI (ρ:=ρ0) (ρ':=ρ0) ae h.uq Z.uq (λy z _ _ e=>G y z e) (λy z _ _ e=>G y z e) (λy y' _ _ e=>by rw [G y y' e]) tk
 obtain⟨_,k2,k3,k4⟩:=key (kv (td u).2);rw [ic,ic,<-W,(key (kv (td u).2)).1,k2,k3,k4]
structure lZ (t:P):Prop where
 al:t.Al λc=>lt c=true
 nr:t.Nr
 smp:t.smp=true
 len:t.text.length<=300
 size:t.size<=60
 most:bg (num t e0 0).1<=5
 all:cL (num t e0 0).1<=8
 nf:jY (num t e0 0).1=some t.text
theorem FG {t:P}(h:t.Al λc=>lt c=true):∀y,(num t e0 0).1.Fr y->y< 26:=(rB (p:=t) λc z=>T.Al.free h c z).2.2.1
theorem kL {t:P}(h:t.Al λc=>lt c=true):AE UInt8.toNat t σ0 (num t e0 0).1:=(rB (p:=t) λc z=>T.Al.free h c z).1
theorem ku {t:P}(h:t.Al λc=>lt c=true):Nu (num t e0 0).1:=by
 obtain⟨_,z,G,h4⟩:=rB (p:=t) λc H=>T.Al.free h c H
 exact⟨z,λy I=>G y (T.bC I),h4⟩
theorem HF.Jy {u:U}{s:Tx}{t:P}{v:U}(h:Nu u)(n:HF u s t v)(hs:u.smp=true):lZ t:=by
 have G:Nu v:=⟨n.arr.uq,λy W=>h.fr y ((n.arr.us y).1 W),λx hx=>h.bv x (n.arr.bv x hx)⟩
 have hv:∀y,v.Fr y->(ρ0 y).toNat=σ0 y:=λy W=>eV (G.fr y (n.arr.nr.ig W))
 have ae:AE UInt8.toNat t σ0 v:=n.ae.congr (λ _ _=>rfl) hv;have H:=ku n.al;have I:AE σ0 v σ0 (num t e0 0).1:=ae.symm.trans (kL n.al);have J:∀p:U,eM σ0 p:=λp y z _ _ e=>by unfold σ0 at e;omega
 have V:kv (td v).2=kv (td u).2:=by
  funext c
  rw [KE,pH G,pH h,n.arr.us]
 have Z:∀y z:Nat,σ0 y=σ0 z->y=z:=λy z e=>by unfold σ0 at e;omega
 obtain⟨_,k2,k3,k4⟩:=GI (ρ:=ρ0) (ρ':=ρ0) I G.uq H.uq (λy z _ _ e=>Z y z e) (λy z _ _ e=>Z y z e) (λy y' _ _ e=>by rw [Z y y' e]) (kv (td v).2);refine⟨n.al,AE.nr ae.symm (J v) (eR t) n.arr.nr,by rw [r9 ae];exact n.arr.smp hs,by rw [n.text];exact n.len,n.size,by rw [<-k4,n.arr.most];exact n.most,by rw [<-k3,n.arr.all];exact n.all,?_⟩;have e1:LS v ρ0 (kv (td v).2)=s:=by rw [V,n.arr.ls];exact n.ls.symm
 have hg:cZ s:=⟨n.len,t,n.al,n.text,n.size⟩
 rw [<-Dz G H I,ic,e1,Ka ⟨⟨by rw [n.arr.most];exact n.most,by rw [n.arr.all];exact n.all⟩,by rw [V,n.arr.bad];exact n.bad,hg⟩,n.text]
section
variable {A B:Type} [DecidableEq A] [DecidableEq B]
inductive Off (A:Type) where
 | tau (p:T A)
 | snd (a b:A) (p:T A)
 | rcv (a x:A) (q:T A) (again:Bool)
def Off.stay:Off A->Off A
 | .rcv a x q _=> .rcv a x q true
 | o=>o
def offs:T A->List (Off A)
 | .tau p=>[.tau p]
 | .snd a b p=>[.snd a b p]
 | .rcv a x p=>[.rcv a x p false]
 | .sum p q=>offs p++offs q
 | .rep p=>(offs p).map Off.stay
 | _=>[]
def wo {X:Type}(l:List X)(i j:Nat):List X:=(l.zipIdx.filter λz=> !(z.2==i)&& !(z.2==j)).map (·.1)
def qz (ρ:A->Nat)(σ:B->Nat):Off A->Off B->Prop
 | .tau p,.tau q=>AE ρ p σ q
 | .snd a b p,.snd c d q=>ρ a=σ c/\ρ b=σ d/\AE ρ p σ q
 | .rcv a x p s,.rcv c y q z=>ρ a=σ c/\(∀v,AE (aF ρ x v) p (aF σ y v) q)/\s=z
 | _,_=>False
inductive ki {X Y:Type} (R:X->Y->Prop):List X->List Y->Prop
 | nil:ki R [] []
 | cons {x y l m}:R x y->ki R l m->ki R (x::l) (y::m)
theorem ki.app {X Y:Type}{R:X->Y->Prop}{l z:List X}{m m':List Y}(h:ki R l m)(k:ki R z m'):ki R (l++z) (m++m'):=by
 induction h with
 | nil=>exact k
 | cons h _ G=>exact .cons h G
theorem ki.map {X Y z G:Type}{R:X->Y->Prop}{S:z->G->Prop}{f:X->z}{g:Y->G}(H:∀x y,R x y->S (f x) (g y)){l:List X}{m:List Y}(h:ki R l m):ki S (l.map f) (m.map g):=by
 induction h with
 | nil=>exact .nil
 | cons h _ I=>exact .cons (H _ _ h) I
theorem ki.len {X Y:Type}{R:X->Y->Prop}{l:List X}{m:List Y}(h:ki R l m):l.length=m.length:=by
 induction h with
 | nil=>rfl
 | cons _ _ z=>simp [z]
theorem ki.get {X Y:Type}{R:X->Y->Prop}{l:List X}{m:List Y}(h:ki R l m):∀{i:Nat} (z:i< l.length) (G:i< m.length),R l[i] m[i]:=by
 induction h with
 | nil=>intro i z;cases z
 | cons h _ H=>
  intro i z G;cases i with
  | zero=>exact h
  | succ i=>simpa using H (by simpa using z) (by simpa using G)
theorem ki.wo {X Y:Type}{R:X->Y->Prop}{l:List X}{m:List Y}(h:ki R l m)(i j:Nat):ki R (wo l i j) (wo m i j):=by
 unfold Go.Proofs.YtdecokaadekjnaaGreat.wo;have:∀k,ki R ((l.zipIdx k).filter (λz=> !(z.2==i)&& !(z.2==j)) |>.map (·.1)) ((m.zipIdx k).filter (λz=> !(z.2==i)&& !(z.2==j)) |>.map (·.1)):=by
  induction h with
  | nil=>intro k;exact .nil
  | cons h _ G=>
   intro k;simp only [List.zipIdx_cons,MF];split
   ·simp only [J9];exact .cons h (G _)
   ·exact G _
 exact this 0
theorem jo:∀{p:T A} {q:T B} {ρ:A->Nat} {σ:B->Nat},AE ρ p σ q->ki (qz ρ σ) (offs p) (offs q):=by
 intro p
 induction p with
 | nil=>intro q ρ σ h;cases q<;>first | exact .nil | cases h
 | par p I=>intro q ρ σ h;cases q<;>first | exact .nil | cases h
 | res x p=>intro q ρ σ h;cases q<;>first | exact .nil | cases h
 | mat a b p=>intro q ρ σ h;cases q<;>first | exact .nil | cases h
 | tau p=>intro q ρ σ h;cases q<;>first | exact .cons h .nil | cases h
 | snd a b p=>intro q ρ σ h;cases q<;>first | exact .cons h .nil | cases h
 | rcv a b p=>intro q ρ σ h;cases q<;>first | exact .cons ⟨h.1,h.2,rfl⟩ .nil | cases h
 | sum p I G H=>
  intro q ρ σ h;cases q<;>first | exact(G h.1).app (H h.2) | cases h
 | rep p G=>
  intro q ρ σ h;cases q<;>try cases h
  refine(G h).map λx y z=>?_
  cases x<;>cases y<;>first | exact z | (exact⟨z.1,z.2.1,rfl⟩) | cases z
end
theorem AE.open:∀{t:P} {u:U} {ρ:Rh},AE UInt8.toNat t (λz=>(ρ z).toNat) u->t.Nr->t.frL.length=u.frL.length/\ki (λp q=>AE UInt8.toNat p (λz=>(asg u.frL t.frL ρ z).toNat) q) t.ths u.ths:=by
 intro t
 induction t with
 | nil=>intro u ρ h n;cases u<;>first | exact⟨rfl,.nil⟩ | cases h
 | snd a b p=>intro u ρ h n;cases u<;>first | exact⟨rfl,.cons h .nil⟩ | cases h
 | rcv a b p=>intro u ρ h n;cases u<;>first | exact⟨rfl,.cons h .nil⟩ | cases h
 | tau p=>intro u ρ h n;cases u<;>first | exact⟨rfl,.cons h .nil⟩ | cases h
 | sum p q=>intro u ρ h n;cases u<;>first | exact⟨rfl,.cons h .nil⟩ | cases h
 | mat a b p=>intro u ρ h n;cases u<;>first | exact⟨rfl,.cons h .nil⟩ | cases h
 | rep p=>intro u ρ h n;cases u<;>first | exact⟨rfl,.cons h .nil⟩ | cases h
 | par p q W J=>
  intro u ρ h n;cases u<;>try cases h
  rename_i p' q' G h2;have Z:q.frL=[]:=by
   rcases n.1.2 with h | h
   ·exact il h
   ·cases q<;>first | rfl | (cases h;done)
  obtain⟨H,I⟩:=J h2 n.2.2;have V:q'.frL=[]:=by rw [Z]at H;exact J6 H.symm
  rw [Z,V]at I;exact⟨rfl,.cons G I⟩
 | res x p W=>
  intro u ρ h n;cases u<;>try cases h
  rename_i y q;have G:=h x.toNat;have e1:aF UInt8.toNat x x.toNat=UInt8.toNat:=by funext c;unfold aF;split<;>simp_all
  have e2:aF (λz=>(ρ z).toNat) y x.toNat=λz=>(aF ρ y x z).toNat:=by funext z;unfold aF;split<;>rfl
  rw [e1,e2]at G;obtain⟨H,I⟩:=W G n.2;exact⟨by simp [frL,H],I⟩
theorem AE.sM {D:Nat->Prop}{f:Nat->Nat}:∀{q:U} {σ τ:Nat->Nat},(∀z,q.Fr z->D z/\σ z=τ (f z))->(∀x∈BV q,D x/\∀z,D z->z≠x->f z≠f x)->AE σ q τ (q.map f)
 | .nil,_,_,_,_=>trivial
 | .snd a b p,σ,τ,h,k=>⟨(h a (.inl rfl)).2,(h b (.inr (.inl rfl))).2,AE.sM (λz G=>h z (.inr (.inr G))) k⟩
 | .mat a b p,σ,τ,h,k=>⟨(h a (.inl rfl)).2,(h b (.inr (.inl rfl))).2,AE.sM (λz G=>h z (.inr (.inr G))) k⟩
 | .tau p,σ,τ,h,k=>AE.sM (q:=p) h k
 | .rep p,σ,τ,h,k=>AE.sM (q:=p) h k
 | .sum p q,σ,τ,h,k=>⟨AE.sM (λz G=>h z (.inl G)) λx I=>k x (Ke _ I),AE.sM (λz G=>h z (.inr G)) λx I=>k x (J7 _ I)⟩
 | .par p q,σ,τ,h,k=>⟨AE.sM (λz G=>h z (.inl G)) λx I=>k x (Ke _ I),AE.sM (λz G=>h z (.inr G)) λx I=>k x (J7 _ I)⟩
 | .rcv a x p,σ,τ,h,k=>by
  have J:=k x (Kl ..);refine⟨(h a (.inl rfl)).2,λv=>AE.sM (D:=D) (λz G=>?_) λy V=>k y (JR _ V)⟩;by_cases e:z=x
  ·subst e;exact⟨J.1,by simp [aF]⟩
  ·have H:=h z (.inr ⟨e,G⟩);have :=J.2 z H.1 e;refine⟨H.1,?_⟩;simp only [aF,JV e,JV this];exact H.2
 | .res x p,σ,τ,h,k=>by
  have J:=k x (Kl ..);refine λv=>AE.sM (D:=D) (λz G=>?_) λy V=>k y (JR _ V)
  by_cases e:z=x
  ·subst e;exact⟨J.1,by simp [aF]⟩
  ·have H:=h z ⟨e,G⟩;have :=J.2 z H.1 e;refine⟨H.1,?_⟩;simp only [aF,JV e,JV this];exact H.2
theorem fO (f:Nat->Nat):∀u:U,BV (u.map f)=(BV u).map f
 | .nil=>rfl
 | .snd a b p=>fO f p
 | .mat a b p=>fO f p
 | .tau p=>fO f p
 | .rep p=>fO f p
 | .rcv a x p=>by simp only [T.map,BV,fO f p,J9]
 | .res x p=>by simp only [T.map,BV,fO f p,J9]
 | .sum p q=>by simp only [T.map,BV,fO f p,fO f q,Kz]
 | .par p q=>by simp only [T.map,BV,fO f p,fO f q,Kz]
def Off.tm {A:Type}:Off A->T A
 | .tau p=> .tau p
 | .snd a b p=> .snd a b p
 | .rcv a x q _=> .rcv a x q
structure Sub {A:Type}(s t:T A):Prop where
 smp:t.smp=true->s.smp=true
 nr:t.Nr->s.Nr
 fr:∀z,s.Fr z->t.Fr z
 rd:s.rd<=t.rd
 ow:s.ow<=t.ow
 size:s.size<=t.size
 al:∀D:A->Prop,t.Al D->s.Al D
theorem Sub.refl {A:Type}(t:T A):Sub t t:=⟨id,id,λ _=>id,JL _,JL _,JL _,λ _=>id⟩
theorem aW {A:Type}:∀{t:T A},t.smp=true->∀o∈offs t,Sub o.tm t/\(∀a x q,o= .rcv a x q true->t= .rep (.rcv a x q)):=by
 intro t
 induction t with
 | nil=>intro _ o h;cases h
 | par p q=>intro _ o h;cases h
 | res x p=>intro _ o h;cases h
 | mat a b p=>intro _ o h;cases h
 | tau p=>intro _ o h;rw [offs,JO]at h;subst h;exact⟨Sub.refl _,λ _ _ _ h=>by cases h⟩
 | snd a b p=>intro _ o h;rw [offs,JO]at h;subst h;exact⟨Sub.refl _,λ _ _ _ h=>by cases h⟩
 | rcv a b p=>intro _ o h;rw [offs,JO]at h;subst h;exact⟨Sub.refl _,λ _ _ _ h=>by cases h⟩
 | sum p q Z V=>
  intro G o h;simp only [smp,JF]at G;rw [offs,JN]at h;rcases h with h | h
  ·obtain⟨k,kr⟩:=Z G.2.1 o h;refine⟨⟨λ _=>k.smp G.2.1,λn=>k.nr n.2.1,λz H=> .inl (k.fr z H),KD k.rd (Nat.le_max_left _ _),by have :=k.ow;simp only [ow];omega,by have :=k.size;simp only [size];omega,λD I=>k.al D I.1⟩,λa x J e=>?_⟩;have W:=kr a x J e;rw [W]at G;simp [gp]at G
  ·obtain⟨k,kr⟩:=V G.2.2 o h;refine⟨⟨λ _=>k.smp G.2.2,λn=>k.nr n.2.2,λz H=> .inr (k.fr z H),KD k.rd (Nat.le_max_right _ _),by have :=k.ow;simp only [ow];omega,by have :=k.size;simp only [size];omega,λD I=>k.al D I.2⟩,λa x J e=>?_⟩;have W:=kr a x J e;rw [W]at G;simp [gp]at G
 | rep p Z=>
  intro G o h;simp only [smp,JF]at G;cases p<;>try (simp [isR]at G)
  rename_i a x q;simp only [offs,J9,Lj,JO,Off.stay]at h;subst h;refine⟨⟨λh=>?_,λn=>n.2,λz H=>H,JL _,JL _,by simp only [Off.tm,size];omega,λD I=>I⟩,λa' x' J e=>?_⟩
  ·simp only [smp,JF]at h;exact h.2
  ·cases e;rfl
theorem fZ:∀{t:U},∀o∈offs t,(BV o.tm).Sublist (BV t):=by
 intro t
 induction t with
 | nil=>intro o h;cases h
 | par p q=>intro o h;cases h
 | res x p=>intro o h;cases h
 | mat a b p=>intro o h;cases h
 | tau p=>intro o h;rw [offs,JO]at h;subst h;exact KL _
 | snd a b p=>intro o h;rw [offs,JO]at h;subst h;exact KL _
 | rcv a b p=>intro o h;rw [offs,JO]at h;subst h;exact KL _
 | sum p q z G=>
  intro o h;rw [offs,JN]at h;rcases h with h | h
  ·exact(z o h).trans (LL _ _)
  ·exact(G o h).trans (K3 _ _)
 | rep p z=>
  intro o h;obtain⟨H,I,rfl⟩:=Kk.1 h;have :=z H I;cases H<;>exact this
section
variable {X:Type}
def jX (P:Nat->Bool)(l:List X)(k:Nat):List X:=((l.zipIdx k).filter λz=> !P z.2).map (·.1)
theorem jw (P:Nat->Bool)(k:Nat):jX P ([]:List X) k=[]:=rfl
theorem ck (P:Nat->Bool)(x:X)(l:List X)(k:Nat):jX P (x::l) k=if P k then jX P l (k+1)else x::jX P l (k+1):=by
 unfold jX;simp only [List.zipIdx_cons,MF];cases P k<;>simp
theorem lJ {P Q:Nat->Bool}:∀{l:List X} {k:Nat},(∀i,k<=i->P i=Q i)->jX P l k=jX Q l k
 | [],_,_=>rfl
 | x::l,k,h=>by rw [ck,ck,h k (JL _),lJ (l:=l) λi z=>h i (by omega)]
theorem AB {P:Nat->Bool}:∀{l:List X} {k:Nat},(∀i,k<=i->P i=false)->jX P l k=l
 | [],_,_=>rfl
 | x::l,k,h=>by rw [ck,h k (JL _),AB (l:=l) λi z=>h i (by omega)];rfl
theorem vL:∀(l:List X) (k i:Nat) (h:i< l.length),l.Perm (l[i]::jX (λn=>n==k+i) l k)
 | [],_,_,h=>by cases h
 | x::l,k,0,h=>by
  rw [ck,Ka (by simp),AB λi z=>by simp;omega];exact KK _
 | x::l,k,i+1,h=>by
  rw [ck,JV (by simp)];have :=vL l (k+1) i (by simpa using h);rw [show k+1+i=k+(i+1) by omega]at this;exact(this.cons x).trans (List.Perm.swap _ _ _)
theorem vu:∀(l:List X) (k i j:Nat) (G:i< l.length) (z:j< l.length),i< j->l.Perm (l[i]::l[j]::jX (λn=>n==k+i||n==k+j) l k)
 | [],_,_,_,h,_,_=>by cases h
 | x::l,k,0,j+1,_,z,_=>by
  rw [ck,Ka (by simp)];have :=vL l (k+1) j (by simpa using z);rw [lJ (P:=λn=>n==k+0||n==k+(j+1)) (Q:=λn=>n==k+1+j) λn I=>by
   rw [KE];simp only [KX,MZ];omega]
  exact this.cons x
 | x::l,k,i+1,j+1,G,z,H=>by
  rw [ck,JV (by simp)];have :=vu l (k+1) i j (by simpa using G) (by simpa using z) (by omega);rw [show k+1+i=k+(i+1) by omega,show k+1+j=k+(j+1) by omega]at this;exact((this.cons x).trans (List.Perm.swap _ _ _)).trans ((List.Perm.swap _ _ _).cons _)
theorem zL (l:List X)(i j:Nat):wo l i j=jX (λn=>n==i||n==j) l 0:=by
 unfold wo jX
 congr 2
 funext z
 simp
theorem zn (l:List X)(i:Nat)(h:i< l.length):l.Perm (l[i]::wo l i i):=by
 have :=vL l 0 i h;rw [zL,lJ (Q:=λn=>n==0+i) λn _=>by simp];exact this
theorem yS (l:List X)(i j:Nat)(G:i< l.length)(H:j< l.length)(z:i≠j):l.Perm (l[i]::l[j]::wo l i j):=by
 rw [zL];rcases Nat.lt_or_gt_of_ne z with h | h
 ·have :=vu l 0 i j G H h;simpa using this
 ·have :=vu l 0 j i H G h;rw [lJ (P:=λn=>n==i||n==j) (Q:=λn=>n==0+j||n==0+i) λn _=>by simp [Bool.or_comm]];exact this.trans (List.Perm.swap _ _ _)
theorem Gp (l:List X)(i j:Nat)(G:i< l.length)(H:j< l.length)(z:i≠j):(wo l i i).Perm (wo l i j++[l[j]]):=by
 have I:=zn l i G;have J:=yS l i j G H z;exact((MS _).1 (I.symm.trans J)).trans (LF (l₁:=[l[j]]) (l₂:=wo l i j))
theorem lE {l:List X}{i j:Nat}{x:X}(h:x∈wo l i j):x∈l:=by
 unfold wo at h;obtain⟨z,G,rfl⟩:=Kk.1 h;have :=(L8.1 G).1;rw [List.mem_zipIdx_iff_getElem?]at this;exact LB this
end
structure EC (N:Nat)(q:U)(x b:Nat)(f:Nat->Nat):Prop where
 fx:f x=b
 fo:∀z,z≠x->z∉BV q->f z=z
 fb:∀z∈BV q,N< f z
 fi:∀z∈BV q,∀z'∈BV q,f z=f z'->z=z'
theorem EC.ae {N:Nat}{q:U}{x b:Nat}{f:Nat->Nat}(h:EC N q x b f)(J:Uq q)(hx:x∉BV q)(V:∀z,q.Fr z->z<=N)(hb:b<=N)(W:∀z∈BV q,z<=N)(σ:Nat->Nat):AE (aF σ x (σ b)) q σ (q.map f):=by
 refine AE.sM (D:=λz=>q.Fr z\/z∈BV q) (λz G=>⟨.inl G,?_⟩) λy H=>⟨.inr H,λz G I=>?_⟩
 ·by_cases e:z=x
  ·subst e;rw [h.fx,cY]
  ·rw [bK _ _ e,h.fo z e λhb=>J.nf z hb G]
 ·have Z:=h.fb y H;rcases G with G | G
  ·by_cases e:z=x
   ·rw [e,h.fx];omega
   ·rw [h.fo z e λhb=>J.nf z hb G];have :=V z G;omega
  ·exact λe=>I (h.fi z G y H e)
theorem EC.fr {N:Nat}{q:U}{x b:Nat}{f:Nat->Nat}(h:EC N q x b f)(W:Uq q):∀z,(q.map f).Fr z->z=b\/(z≠x/\q.Fr z):=by
 have key:∀(q:U) (z:Nat),(q.map f).Fr z->∃y,q.Fr y/\f y=z:=by
  intro q
  induction q with
  | nil=>intro z h;exact h.elim
  | snd a b p I=>
   intro z h;rcases h with h | h | h
   ·exact⟨a,.inl rfl,h.symm⟩
   ·exact⟨b,.inr (.inl rfl),h.symm⟩
   ·obtain⟨y,H,G⟩:=I z h;exact⟨y,.inr (.inr H),G⟩
  | mat a b p I=>
   intro z h;rcases h with h | h | h
   ·exact⟨a,.inl rfl,h.symm⟩
   ·exact⟨b,.inr (.inl rfl),h.symm⟩
   ·obtain⟨y,H,G⟩:=I z h;exact⟨y,.inr (.inr H),G⟩
  | rcv a x p I=>
   intro z h;rcases h with h | ⟨h,V⟩
   ·exact⟨a,.inl rfl,h.symm⟩
   ·obtain⟨y,H,G⟩:=I z V;exact⟨y,.inr ⟨λe=>h (by rw [<-G,e]),H⟩,G⟩
  | res x p I=>
   intro z ⟨h,V⟩;obtain⟨y,H,G⟩:=I z V;exact⟨y,⟨λe=>h (by rw [<-G,e]),H⟩,G⟩
  | tau p I=>exact I
  | rep p I=>exact I
  | sum p q I J=>
   intro z h;rcases h with h | h
   ·obtain⟨y,H,G⟩:=I z h;exact⟨y,.inl H,G⟩
   ·obtain⟨y,H,G⟩:=J z h;exact⟨y,.inr H,G⟩
  | par p q I J=>
   intro z h;rcases h with h | h
   ·obtain⟨y,H,G⟩:=I z h;exact⟨y,.inl H,G⟩
   ·obtain⟨y,H,G⟩:=J z h;exact⟨y,.inr H,G⟩
 intro z Z;obtain⟨y,H,G⟩:=key q z Z;by_cases e:y=x
 ·left;rw [<-G,e,h.fx]
 ·right;rw [h.fo y e λhb=>W.nf y hb H]at G;subst G;exact⟨e,H⟩
end Go.Proofs.YtdecokaadekjnaaGreat
namespace Go.Proofs.YtdecokaadekjnaaGreat
open Go Go.RowKit
def jM (w:World)(r:Nat)(F:Nat->Nat):Prop:=∃mm,IsMap w r (.int .i64) mm/\∀x:Nat,mm (iv x)=some (iv (F x))\/(mm (iv x)=none/\F x=x)
theorem gm {w w':World}{r:Nat}{d:TypeDesc}{m:Value->Option Value}(h:IsMap w r d m)(e:w'.heap[r]?=w.heap[r]?):IsMap w' r d m:=by
 obtain⟨es,cl,z,G⟩:=h;exact⟨es,cl,by rw [e];exact z,G⟩
theorem gD {w:World}{r:Nat}{d:TypeDesc}{m:Value->Option Value}(h:IsMap w r d m):r< w.heap.size:=by
 obtain⟨es,cl,z,G⟩:=h;exact(Kj.1 z).1
theorem jM.lt {w:World}{r:Nat}{F:Nat->Nat}(h:jM w r F):r< w.heap.size:=by
 obtain⟨mm,z,_⟩:=h;exact gD z
theorem jM.kp {w w':World}{r:Nat}{F:Nat->Nat}{S:Nat->Prop}(h:jM w r F)(k:Kp w w' S)(z:¬S r):jM w' r F:=by
 have G:=h.lt;obtain⟨mm,H,I⟩:=h;exact⟨mm,gm H (k.block r G z),I⟩
theorem te {w:World}{r:Nat}{mm:Value->Option Value}{F:Nat->Nat}(G:∀x:Nat,mm (iv x)=some (iv (F x))\/(mm (iv x)=none/\F x=x)){x y:Nat}(h:IsMap w r (.int .i64) (dz mm (iv x) (iv y))):jM w r (aF F x y):=by
 refine⟨_,h,λz=>?_⟩;unfold dz aF;by_cases e:z=x
 ·subst e;left;simp
 ·have:iv z≠iv x:=λH=>e (by injection H with _ I;omega)
  simp only [JV e,JV this];exact G z
structure Rn (n n':Nat)(xs:List Nat)(F F':Nat->Nat):Prop where
 le:n<=n'
 len:n'<=n+xs.length
 out:∀x,x∉xs->F' x=F x
 rng:∀x∈xs,n+100< F' x/\F' x<=n'+100
 inj:∀x∈xs,∀y∈xs,F' x=F' y->x=y
theorem Rn.refl (n:Nat)(F:Nat->Nat):Rn n n [] F F:=⟨JL _,by simp,λ _ _=>rfl,λ _ h=>(by cases h),λ _ h=>(by cases h)⟩
theorem Rn.one (n x:Nat)(F:Nat->Nat):Rn n (n+1) [x] F (aF F x (n+101)):=by
 refine⟨by omega,by simp,λy G=>JV (by simpa using G),λy G=>?_,λy G z H _=>?_⟩
 ·cases JO.1 G;simp only [aF,Ls];omega
 ·cases JO.1 G;cases JO.1 H;rfl
theorem Rn.app {n m p:Nat}{xs W:List Nat}{F G H:Nat->Nat}(h:Rn n m xs F G)(k:Rn m p W G H)(hd:∀x∈xs,x∉W):Rn n p (xs++W) F H:=by
 have J:∀x∈xs,H x=G x:=λx J=>k.out x (hd x J)
 refine⟨KD h.le k.le,by have :=h.len;have :=k.len;rw [JJ];omega,λx z=>?_,λx z=>?_,λx z y Z e=>?_⟩
 ·rw [JN,M5]at z;rw [k.out x z.2,h.out x z.1]
 ·have :=h.le;have :=k.le;rcases JN.1 z with I | I
  ·rw [J x I];have :=h.rng x I;omega
  ·have :=k.rng x I;omega
 ·rcases JN.1 z with I | I<;>rcases JN.1 Z with V | V
  ·rw [J x I,J y V]at e;exact h.inj x I y V e
  ·rw [J x I]at e;have :=h.rng x I;have :=k.rng y V;omega
  ·rw [J y V]at e;have :=h.rng y V;have :=k.rng x I;omega
  ·exact k.inj x I y V e
structure Kq (m r:Nat)(w w':World):Prop where
 kp:Kp w w' λg=>g=m\/g=r
 ce:∀j,j≠0->w'.cell? ⟨m,j,none⟩=w.cell? ⟨m,j,none⟩
 fz:∀j,w'.frozen? ⟨m,j,none⟩=w.frozen? ⟨m,j,none⟩
section
variable {m r:Nat} {w w0 w' w'':World}
theorem Kq.size (h:Kq m r w w'):w.heap.size<=w'.heap.size:=h.kp.size
theorem Kq.trans (h:Kq m r w w')(k:Kq m r w' w''):Kq m r w w'':=⟨Kp.trans h.kp k.kp λ _ _ h=>h,λj z=>(k.ce j z).trans (h.ce j z),λj=>(k.fz j).trans (h.fz j)⟩
theorem Kq.refl (m r:Nat)(w:World):Kq m r w w:=⟨Kp.ah (Ex.refl w) _,λ _ _=>rfl,λ _=>rfl⟩
theorem Kq.out {S:Nat->Prop}(h:Kq m r w0 w)(k:Kp w w' S)(G:∀g,g< w0.heap.size->S g->g=r/\g≠m)(hm:m< w0.heap.size):Kq m r w0 w':=by
 have e:=k.block m (J2 hm h.kp.size) λz=>(G m hm z).2 rfl
 exact⟨Kp.trans h.kp k λg H z=> .inr (G g H z).1,λj I=>by rw [JB (w:=w) e];exact h.ce j I,λj=>by rw [J8 (w:=w) e];exact h.fz j⟩
theorem Kq.ex (h:Kq m r w0 w)(x:Ex w w')(hm:m< w0.heap.size):Kq m r w0 w':=h.out (Kp.ah x λ _=>False) (λ _ _ h=>h.elim) hm
theorem Kq.km (h:Kq m r w0 w)(k:Km m w w'):Kq m r w0 w':=h.trans ⟨Kp.mono (λ _ e=> .inl e) k.kp,k.ce,k.fz⟩
theorem Kq.blk (h:Kq m r w0 w)(k:bY w w' r)(hm:m< w0.heap.size)(hr:m≠r):Kq m r w0 w':=
 h.out (S:=λg=>g=r) ⟨k.os,k.tape,k.output,by rw [k.size];exact JL _,λg _ z=>k.block g z⟩ (λg _ e=>⟨e,λh=>hr (h.symm.trans e)⟩) hm
end
structure CI (w w':World)(m r b4 b6 n n1:Nat)(xs:List Nat)(F F1:Nat->Nat)(O:List Nat)(L:Lv)(ts:List Value)(M:Nat->Prop):Prop where
 kq:Kq m r w w'
 mc:Mk w' m n1
 mf:jM w' r F1
 rn:Rn n n1 xs F F1
 c4:w'.cell? ⟨b4,0,none⟩=some (.map (some r))
 l4:b4< w'.heap.size
 h4:w.heap.size<=b4
 m4:¬M b4
 bd:jZ w.heap.size w' b6 O ts M
 th:af (λg=>(w.heap.size<=g/\¬M g/\g≠b4)/\g< w'.heap.size) w' L ts
 lm:m< w.heap.size
 lr:r< w.heap.size
 ne:m≠r
theorem za {w:World}{b4 r x:Nat}{F:Nat->Nat}(c4:w.cell? ⟨b4,0,none⟩=some (.map (some r)))(mf:jM w r F){R:Int->World->Prop}(z:R (F x:Int) w):
  Calls Tryz.prog 239 #[iv x,ptr b4] w (an [.i] R):=by
 refine jG x (ptr b4) w R ?_;obtain⟨mm,G,H⟩:=mf;refine⟨b4,0,rfl,_,c4,r,mm,rfl,G,?_⟩;rcases H x with h | ⟨h,e⟩
 ·exact⟨F x,true,.inl ⟨rfl,h⟩,λ _=>z,λh=>(by cases h)⟩
 ·exact⟨0,false,.inr ⟨rfl,h,rfl⟩,λh=>(by cases h),λ _=>by rw [e]at z;exact z⟩
theorem jZ.IS {B:Nat}{w w1 w2:World}{b:Nat}{o Z:List Nat}{ts:List Value}{M:Nat->Prop}(h:jZ B w b o ts M){vo v':Value}(J:w.cell? ⟨b,0,none⟩=some vo)(k:Kp w w1 λg=>vo.ownBlock=some g)(ho:aD 3 B w1 v' (Z.map iv))
  (hv:∀g,v'.ownBlock=some g->vo.ownBlock=some g\/w.heap.size<=g) (hw:w2=w1.setCell ⟨b,0,none⟩ v'):jZ B w2 b Z ts (λg=>M g\/v'.ownBlock=some g)/\Kp w w2 M:=by
 obtain⟨h1,hle,h3,hr,h4,V,vt,h5,h6,h7,h8,h9,h10,G⟩:=h;have:V=vo:=Kt (h5.symm.trans J);subst this;have s1:=k.size;have I:Kr b w1 w2:=hw▸Kr.set w1 0 v';have W:=k.block b h1 λe=>(h9 b e).2 rfl
 have H:∀g,v'.ownBlock=some g->g≠b:=λg z=>(hv g z).elim (λe=>(h9 g e).2) λe=>by omega
 have kM:Kp w w2 M:=Kp.trans (Kp.mono (λg e=>(h9 g e).1) k) I λg _ e=>by rw [e];exact h3
 have s2:=I.size;refine⟨⟨by omega,hle,.inl h3,λg z=>?_,λj=>?_,v',vt,?_,?_,ho.kp I H,?_,λg z=>⟨.inr z,H g z⟩,λg z=>⟨.inl (h10 g z).1,(h10 g z).2⟩,λg z e=>?_⟩,kM⟩
 ·rcases z with z | z
  ·have :=hr g z;omega
  ·have :=ho.block g z;omega
 ·rw [hw,JU,J8 (w:=w) W];exact h4 j
 ·rw [hw];exact JT _ _ _ (by rw [JB (w:=w) W];exact h5)
 ·rw [hw,JH _ _ _ _ (by simp),JB (w:=w) W];exact h6
 ·exact(h8.kp k λg z e=>G g e z).kp I λg z=>(h10 g z).2
 ·rcases hv g z with h | h
  ·exact G g h e
  ·have :=(h8.block g e).2;omega
theorem jZ.Ib {B:Nat}{w w1 w2:World}{b:Nat}{o:List Nat}{ts G:List Value}{M:Nat->Prop}(h:jZ B w b o ts M){vt v':Value}(V:w.cell? ⟨b,1,none⟩=some vt)(k:Kp w w1 λg=>vt.ownBlock=some g)(ho:aD 156 B w1 v' G)
  (hv:∀g,v'.ownBlock=some g->vt.ownBlock=some g\/w.heap.size<=g) (hw:w2=w1.setCell ⟨b,1,none⟩ v'):jZ B w2 b o G (λg=>M g\/v'.ownBlock=some g)/\Kp w w2 M:=by
 obtain⟨h1,hle,h3,hr,h4,vo,W,h5,h6,h7,h8,h9,h10,H⟩:=h;have:W=vt:=Kt (h6.symm.trans V);subst this;have s1:=k.size;have J:Kr b w1 w2:=hw▸Kr.set w1 1 v';have Z:=k.block b h1 λe=>(h10 b e).2 rfl
 have I:∀g,v'.ownBlock=some g->g≠b:=λg z=>(hv g z).elim (λe=>(h10 g e).2) λe=>by omega
 have kM:Kp w w2 M:=Kp.trans (Kp.mono (λg e=>(h10 g e).1) k) J λg _ e=>by rw [e];exact h3
 have s2:=J.size;refine⟨⟨by omega,hle,.inl h3,λg z=>?_,λj=>?_,vo,v',?_,?_,?_,ho.kp J I,λg z=>⟨.inl (h9 g z).1,(h9 g z).2⟩,λg z=>⟨.inr z,I g z⟩,λg z e=>?_⟩,kM⟩
 ·rcases z with z | z
  ·have :=hr g z;omega
  ·have :=ho.block g z;omega
 ·rw [hw,JU,J8 (w:=w) Z];exact h4 j
 ·rw [hw,JH _ _ _ _ (by simp),JB (w:=w) Z];exact h5
 ·rw [hw];exact JT _ _ _ (by rw [JB (w:=w) Z];exact h6)
 ·exact(h7.kp k λg z e=>H g z e).kp J λg z=>(h9 g z).2
 ·rcases hv g e with h | h
  ·exact H g z h
  ·have :=(h7.block g z).2;omega
theorem cH {f g:Nat->Nat}:∀{l:Lv},(∀x,(x∈l.bvs\/l.fh x)->f x=g x)->l.map f=l.map g
 | .nil,_=>rfl
 | .thr k a b o r n,h=>by
  have hr:=cH (f:=f) (g:=g) (l:=r) λx z=>h x (by
   rcases z with z | z
   ·left;simp [Lv.bvs,z]
   ·by_cases G:x∈o
    ·left;simp [Lv.bvs,G]
    ·by_cases hb:k= .r/\x=b
     ·left;simp [Lv.bvs,hb.1,hb.2]
     ·right;exact .inr (.inr (.inl ⟨G,hb,z⟩)))
  have H:=cH (f:=f) (g:=g) (l:=n) λx z=>h x (by
   rcases z with z | z
   ·left;simp [Lv.bvs,z]
   ·right;exact .inr (.inr (.inr z)))
  have G:o.map f=o.map g:=KU λx z=>h x (.inl (by simp [Lv.bvs,z]))
  simp only [Lv.map,hr,H,G];cases k<;>simp only [reduceCtorEq,or_self,or_true,true_or,Mo,Ls]
  ·rw [h a (.inr (.inl ⟨.inl rfl,.inl rfl⟩)),h b (.inr (.inl ⟨.inl rfl,.inr rfl⟩))]
  ·rw [h a (.inr (.inr (.inl ⟨rfl,rfl⟩))),h b (.inl (by simp [Lv.bvs]))]
  ·rw [h a (.inr (.inl ⟨.inr rfl,.inl rfl⟩)),h b (.inr (.inl ⟨.inr rfl,.inr rfl⟩))]
 | .sum I n,h=>by
  have hr:=cH (f:=f) (g:=g) (l:=I) λx z=>h x (by
   rcases z with z | z
   ·left;simp [Lv.bvs,z]
   ·right;exact .inl z)
  have H:=cH (f:=f) (g:=g) (l:=n) λx z=>h x (by
   rcases z with z | z
   ·left;simp [Lv.bvs,z]
   ·right;exact .inr z)
  simp only [Lv.map,hr,H]
 | .part o q n,h=>by
  have hr:=cH (f:=f) (g:=g) (l:=q) λx z=>h x (by
   rcases z with z | z
   ·left;simp [Lv.bvs,z]
   ·by_cases G:x∈o
    ·left;simp [Lv.bvs,G]
    ·right;exact .inl ⟨G,z⟩)
  have H:=cH (f:=f) (g:=g) (l:=n) λx z=>h x (by
   rcases z with z | z
   ·left;simp [Lv.bvs,z]
   ·right;exact .inr z)
  have G:o.map f=o.map g:=KU λx z=>h x (.inl (by simp [Lv.bvs,z]))
  simp only [Lv.map,hr,H,G]
theorem oe {x:Nat}:∀(l:Lv) (i:Nat),(l.take i).fh x->l.fh x
 | _,0,h=>h.elim
 | .nil,i+1,h=>h
 | .thr k a b o r n,i+1,h=>by
  rcases h with h | h | h | h
  ·exact .inl h
  ·exact .inr (.inl h)
  ·exact .inr (.inr (.inl h))
  ·exact .inr (.inr (.inr (oe n i h)))
 | .sum z n,i+1,h=>h.elim .inl λh=> .inr (oe n i h)
 | .part o q n,i+1,h=>h.elim .inl λh=> .inr (oe n i h)
def Hs (k:Nat):Prop:=∀{D:Nat->Prop} {w:World} {v:Value} {o:List Nat} {l:Lv} {m r n:Nat} {F:Nat->Nat} {R:Value->World->Prop},l.sz<=k->l.sh true=true->fS D w v o (af D w l)->(∀g,D g->¬(g=m\/g=r))->tN o l->Mk w m n->jM w r F->m≠r->n+o.length+l.bvs.length<=4294967296->o.length+l.tot<=4294967296->
 (∀v' w' F' n',Kq m r w w'->Mk w' m n'->jM w' r F'->Rn n n' (o++l.bvs) F F'->aB (yP w) w' (o.map F',l.map F') v'->R v' w')->Calls Tryz.prog 217 #[ptr m,v,.map (some r)] w (an [.v] R)
theorem zY (f:Nat->Nat):∀l:Lv,(l.map f).len=l.len:=by intro l;induction l<;>simp_all [Lv.map,Lv.len]
theorem DM:∀(l:Lv) (i:Nat),(l.take i).bvs.Sublist l.bvs:=by
 intro l
 induction l with
 | nil=>intro i;cases i<;>simp [Lv.take,Lv.bvs]
 | thr k a b o r n _ z=>
  intro i;cases i with
  | zero=>simp [Lv.take,Lv.bvs]
  | succ i=>exact Lf (KL _) (Lf (KL _) (Lf (KL _) (z i)))
 | sum G n _ z=>
  intro i;cases i with
  | zero=>simp [Lv.take,Lv.bvs]
  | succ i=>exact Lf (KL _) (z i)
 | part o q n _ z=>
  intro i;cases i with
  | zero=>simp [Lv.take,Lv.bvs]
  | succ i=>exact Lf (KL _) (Lf (KL _) (z i))
theorem CF {o:List Nat}{l e:Lv}{i:Nat}(h:tN o l)(I:l.take (i+1)=(l.take i).app e):(∀x∈o++(l.take i).bvs,x∉e.bvs)/\(l.take i).bvs.length+e.bvs.length<=l.bvs.length:=by
 have z:((l.take i).bvs++e.bvs).Sublist l.bvs:=by rw [<-Lv.dj,<-I];exact DM l _
 have G:=Kh.1 h.nd;refine⟨λx J H=>?_,by have :=z.length_le;rwa [JJ]at this⟩;rcases JN.1 J with h | h
 ·exact G.2.2 x h x (z.subset (J7 _ H)) rfl
 ·exact(Kh.1 (G.2.1.sublist z)).2.2 x h x H rfl
theorem xI (k:Nat)(ih:∀j,j< k->Hs j):Hs k:=by
 intro D w v o l m r n F R hn hsh h hD huq hmk hmf ο hnn htot hR;refine lj (ptr m) v (.map (some r)) w R ?_;refine⟨rfl,λb4 w5 hb4 hw5 b6 w7 hb6 hw7=>?_⟩;have x5:Ex w w5:=hw5▸Ex.alloc w _;have x57:Ex w5 w7:=hw7▸Ex.alloc w5 _;have x7:=Ex.trans x5 x57;have s5:w5.heap.size=w.heap.size+1:=by rw [hw5,size_alloc]
 have s7:w7.heap.size=w5.heap.size+1:=by rw [hw7,size_alloc]
 have hlm:=hmk.lt;have hlr:=hmf.lt;obtain⟨bl,vo,vt,ts,rfl,h2,h3,h4,h5,h6,h7,h8⟩:=h;obtain⟨ao,capo,hvo⟩:=h6.slice;rw [JY]at hvo;obtain⟨at_,capt,hvt⟩:=h7.slice;have hlen:=h8.len;have hel:=Lv.cK l;have hlt:=bT l;have nd:=huq.nd;have ndo:=Kh.1 nd;have cbl:∀{w1:World},Kq m r w w1->∀{j:Nat} {u:Value},w.cell? ⟨bl,j,none⟩=some u->w1.cell? ⟨bl,j,none⟩=some u:=λx j u hu=>by
  rw [JB (w:=w) (x.kp.block bl h3 (hD bl h2))];exact hu
 have bd7:jZ w.heap.size w7 b6 [] [] λg=>g=b6:=jZ.new (by omega) hb6 hw7
 have ci7:CI w w7 m r b4 b6 n n [] F F [] .nil [] λg=>g=b6:=
  ⟨(Kq.refl m r w).ex x7 hlm,hmk.ex x7,hmf.kp (Kp.ah x7 λ _=>False) (λh=>h),Rn.refl n F,by rw [x57.cell (show b4< _ by omega),hw5,hb4];exact aa rfl,by omega,by omega,by omega,bd7,rfl,hlm,hlr,ο⟩
 refine⟨bl,0,rfl,vo,cbl ci7.kq h4,ao,_,capo,hvo,λx w'=>∃(j n1:Nat) (F1:Nat->Nat) (M:Nat->Prop),x=j/\j<=o.length/\CI w w' m r b4 b6 n n1 (o.take j) F F1 ((o.take j).map F1) .nil [] M,λx _=>(o.length - x).toNat,⟨0,n,F,_,rfl,Ks _,ci7⟩,λx w17 hI=>?_⟩;obtain⟨j,n1,F1,M,rfl,hj,ci⟩:=hI;refine⟨λhlt0=>?_,λhge=>?_⟩
 ·
  have hjo:j< o.length:=by simp only [JD]at hlt0;omega
  obtain⟨bo,oo,ς,hvo',hco⟩:∃bo oo ς,vo= .slice (some ⟨bo,oo,none⟩) o.length ς/\w17.cell? ⟨bo,oo+j,none⟩=some (iv o[j]):=by
   rcases h6 with⟨_,h0⟩ | ⟨bo,oo,ς,e,hbD,hb',υ⟩
   ·rw [Mf]at h0;rw [h0]at hjo;simp at hjo
   ·rw [JY]at e;exact⟨bo,oo,ς,e,by rw [JB (w:=w) (ci.kq.kp.block bo hb' (hD bo hbD))];exact υ j _ (by simp [hjo])⟩
  refine⟨bo,oo,_,ς,hvo',by omega,by omega,(o[j]:Nat),by rw [JI,Kc];exact hco,λw'=>Kq m r w17 w',λw24 hw24=>?_⟩;have x24:Ex w17 w24:=hw24▸Ex.drew w17;have l17m:=ci.mc.lt;have l17r:=ci.mf.lt;have h4':=ci.h4;have rn1:=ci.rn.len;rw [Kf,LU hj]at rn1;have q24:Kq m r w17 w24:=(Kq.refl m r w17).ex x24 l17m;have c4:∀{w1:World},Kq m r w17 w1->w1.cell? ⟨b4,0,none⟩=some (.map (some r)):=λq=>by rw [JB (w:=w17) (q.kp.block b4 ci.l4 (λe=>by rcases e with e | e<;>omega))];exact ci.c4
  refine⟨q24,_,λw' q=>c4 q,tD (ci.mc.ex x24) (by omega) λw27 k27 m27=>?_⟩;have q27:Kq m r w17 w27:=q24.km k27;have mf27:jM w27 r F1:=(ci.mf.kp (Kp.ah x24 λ _=>False) (λh=>h)).kp k27.kp (λe=>ο e.symm);obtain⟨mm,hm1,hm2⟩:=mf27;refine⟨q27,r,mm,rfl,hm1,λw30 hm30 hb30=>?_⟩;have q30:Kq m r w17 w30:=q27.blk hb30 l17m ο;have mk30:Mk w30 m (n1+1):=m27.kp (S:=λg=>g=r) ⟨hb30.os,hb30.tape,hb30.output,by rw [hb30.size];exact JL _,λg _ G=>hb30.block g G⟩ ο;have mf30:jM w30 r (aF F1 o[j] (n1+101)):=te hm2 hm30;have hMr:∀g,M g->¬(g=m\/g=r):=λg G e=>by have :=(ci.bd.mr g G).1;omega
  have bd30:=ci.bd.kp q30.kp hMr;obtain⟨vo1,vt1,d0,d1,d2,d3,d4,d5,d6⟩:=bd30.sl;refine⟨λw'=>Kp w30 w' λg=>vo1.ownBlock=some g,λkf hw32=>?_⟩;have x32:Ex w30 kf:=hw32▸Ex.drew w30;have s30:=q30.size;have nob6:¬vo1.ownBlock=some b6:=λe=>(d4 b6 e).2 rfl
  have nob4:¬vo1.ownBlock=some b4:=λe=>ci.m4 (d4 b4 e).1
  refine⟨Kp.ah x32 _,vo1,λw' k=>by rw [JB (w:=w30) (k.block b6 bd30.lt nob6)];exact d0,.map (some r),λw' k=>by rw [JB (w:=w30) (k.block b4 (by have :=ci.l4;omega) nob4)];exact c4 q30,r,_,rfl,gm hm30 (x32.block r (gD hm30)),((n1+101:Nat):Int),true,.inl ⟨rfl,?_⟩,Kp.ah x32 _,λb39 w40 hb39 hw40=>?_⟩
  ·unfold dz;simp
  have x40:Ex kf w40:=hw40▸Ex.alloc kf _;have Z:=Ex.trans x32 x40;have bd40:=bd30.ex Z;have s40:=Z.size;have hB40:w.heap.size<=w40.heap.size:=by have :=ci.kq.size;omega
  refine⟨Kp.ah Z _,aD.push (d2.kp (Kp.ah Z λ _=>False) λ _ _ h=>h) hB40 (m:=[iv (n1+101)]) (D:=λ _=>True) (.inr ⟨b39,0,1,rfl,trivial,by rw [hw40,size_alloc,hb39];omega,λi y hy=>?_⟩) (by rfl) (by omega) (by simp only [JY,JA,JQ,Kf];omega) λv46 w47 ho47 hg47 hn47=>?_⟩
  ·cases i with
   | zero=>simp only [KS,KP]at hy;subst hy;rw [hw40,hb39];exact aa rfl
   | succ i=>simp at hy
  have k47:Kp w40 w47 λg=>vo1.ownBlock=some g:=Kp.aP hg47 λ _ h=>h
  have e6:=k47.block b6 bd40.lt nob6;have c60:w40.cell? ⟨b6,0,none⟩=some vo1:=by rw [Z.cell (show b6< _ from bd30.lt)];exact d0
  refine⟨Kp.trans (Kp.ah Z _) k47 λ _ _ h=>h,ho47.ka,⟨⟨vo1,by rw [JB (w:=w40) e6];exact c60⟩,by rw [J8 (w:=w40) e6];exact bd40.fr 0⟩,λw49 hw49=>⟨by unfold aj;omega,?_,by show((o.length:Int) - ((j:Int)+1)).toNat< ((o.length:Int) - j).toNat;omega⟩⟩;have hoj:o[j]∉o.take j:=λhm=>by
   have h1:=ndo.1;rw [<-KT j o,Kx hjo]at h1;exact(Kh.1 h1).2.2 _ hm _ (Kl ..) rfl
  have hmapj:(o.take j).map F1=(o.take j).map (aF F1 o[j] (n1+101)):=KU λx hx=>by
   have:x≠o[j]:=λe=>hoj (by rw [<-e];exact hx)
   simp only [aF,JV this]
  have ho47':aD 3 w.heap.size w47 v46 (((o.take (j+1)).map (aF F1 o[j] (n1+101))).map iv):=by
   rw [JG hjo,Kz,Kz,<-hmapj];simp only [J9,Lj,aF,Ls];exact ho47
  obtain⟨bd49,k49⟩:=bd40.IS c60 k47 ho47' hn47 hw49;have ε:∀g,M g->w.heap.size<=g:=λg G=>(ci.bd.mr g G).1
  have φ:∀g,v46.ownBlock=some g->M g\/w40.heap.size<=g:=λg G=>(hn47 g G).imp (λe=>(d4 g e).1) id
  have q17:Kq m r w w30:=ci.kq.trans q30;refine⟨j+1,n1+1,aF F1 o[j] (n1+101),λg=>M g\/v46.ownBlock=some g,by omega,by omega,?_⟩;refine⟨(q17.ex Z hlm).out k49 (λg G hM=>by have :=ε g hM;omega) hlm,(mk30.ex Z).kp k49 λhM=>by have :=ε _ hM;omega,(mf30.kp (Kp.ah Z λ _=>False) (λh=>h)).kp k49 λhM=>by have :=ε _ hM;omega,?_,?_,?_,h4',?_,bd49,rfl,hlm,hlr,ο⟩
  ·rw [JG hjo];exact ci.rn.app (Rn.one n1 o[j] F1) λx hx hx'=>hoj (by cases JO.1 hx';exact hx)
  ·rw [JB (w:=w40) (k49.block b4 (by have :=ci.l4;omega) ci.m4),Z.cell (show b4< _ by have :=ci.l4;omega)];exact c4 q30
  ·have :=k49.size;have :=ci.l4;omega
  ·intro hM;rcases hM with hM | hM
   ·exact ci.m4 hM
   ·rcases φ b4 hM with h | h
    ·exact ci.m4 h
    ·have :=ci.l4;omega
 ·
  have hjo:j=o.length:=by simp only [JE]at hge;omega
  subst hjo;rw [J3]at ci;refine⟨bl,0,rfl,vt,cbl ci.kq h5,at_,_,capt,hvt,λx w'=>∃(i n2:Nat) (F2:Nat->Nat) (M2:Nat->Prop) (ts2:List Value),x=i/\i<=ts.length/\CI w w' m r b4 b6 n n2 (o++(l.take i).bvs) F F2 (o.map F2) ((l.take i).map F2) ts2 M2,λx _=>(ts.length - x).toNat,⟨0,n1,F1,M,[],rfl,Ks _,by simpa [Lv.take,Lv.bvs,Lv.map]using ci⟩,λx J hI=>?_⟩;obtain⟨i,n2,F2,M2,ts2,rfl,hi,V⟩:=hI;refine⟨λhlt1=>?_,λhge1=>?_⟩;rotate_left
  ·have hie:i=l.bn.length:=by simp only [JE]at hge1;omega
   rw [hie,Lv.de]at V;exact hR _ J F2 n2 V.kq V.mc V.mf V.rn (V.bd.IL (λg _ G=>G) (af.sub (λg _ G=>G.1.1) V.th))
  have hil:i< ts.length:=by simp only [JD]at hlt1;omega
  have hie:i< l.bn.length:=by omega
  have q59:=V.kq;obtain⟨bt,ot,ζ,hvt',hct⟩:∃bt ot ζ,vt= .slice (some ⟨bt,ot,none⟩) ts.length ζ/\J.cell? ⟨bt,ot+i,none⟩=some ts[i]:=by
   rcases h7 with⟨_,h0⟩ | ⟨bt,ot,ζ,e,hbD,hb',υ⟩
   ·rw [h0]at hil;simp at hil
   ·exact⟨bt,ot,ζ,e,by rw [JB (w:=w) (q59.kp.block bt hb' (hD bt hbD))];exact υ i _ (JC hil)⟩
  obtain⟨e,he1,he2,he3⟩:=aK.single h8.bn (JC hil);have he4:l.bn[i]=e:=by rw [JC hie]at he1;exact Kt he1
  have hts:=Lv.take_succ l i hie;rw [he4]at hts;have hsz:=Lv.ee l e he2;have htt:=Lv.gd l e he2;have huqe:=huq.bn he2;have H:=V.mc.lt;have hl59r:=V.mf.lt;have s59:=q59.size;have h4':=V.h4;have rn2:=V.rn.len;have bvs2:(l.take (i+1)).bvs=(l.take i).bvs++e.bvs:=by rw [hts,Lv.dj]
  rw [JJ]at rn2;obtain⟨hdis,bvt⟩:=CF huq hts;have keepO:∀{n3 F3},Rn n2 n3 e.bvs F2 F3->o.map F3=o.map F2/\(l.take i).map F3=(l.take i).map F2:=λ{n3 F3} rn=>by
   refine⟨KU λx hx=>rn.out x (hdis x (Ke _ hx)),cH λx hx=>rn.out x λhxe=>?_⟩;rcases hx with hx | hx
   ·exact hdis x (J7 _ hx) hxe
   ·exact huq.nf x ((Lv.lS l e he2).subset hxe) (oe l i hx)
  have fin:∀(z:Nat) (I:World) (n3:Nat) (F3:Nat->Nat),J.heap.size<=z->z< I.heap.size->Kq m r J I->Mk I m n3->jM I r F3->Rn n2 n3 e.bvs F2 F3->af (λg=>J.heap.size<=g/\g< I.heap.size) I (e.map F3) [ptr z]->
    ∃v195:Value,World.cell? I ⟨b6,1,none⟩=some v195/\∀(b196:Nat) (W:World),b196=Array.size (World.heap I)->W=World.alloc I (Obj.cells #[(Value.pointer (some ⟨z,0,none⟩))] 156)->∃(χ n199 m200:Nat) (xs201 news202:List Value),World.ownsRow W χ 156 1 v195 n199 xs201/\χ<=Array.size (World.heap W)/\dN W (Value.slice (some ⟨b196,0,none⟩) 1 1) m200 1 news202/\(n199+m200<=maxLen/\(n199+m200)* 8<=140737488355328)/\
     ∀(v203:Value) (ψ:World),World.ownsRow ψ χ 156 1 v203 (n199+m200) (xs201++news202)->World.grownBy W ψ (Value.ownBlock v195)->(∀b:Nat,Value.ownBlock v203=some b->Value.ownBlock v195=some b\/Array.size (World.heap W)<=b)->oneV v203=true/\((∃u205:Value,World.cell? ψ ⟨b6,1,none⟩=some u205)/\World.frozen? ψ ⟨b6,1,none⟩=false)/\∀ν:World,ν=World.setCell ψ ⟨b6,1,none⟩ v203->
      aj ((i:Int)+1)/\(∃(i2 n4:Nat) (F4:Nat->Nat) (M4:Nat->Prop) (ts4:List Value),(i:Int)+1=i2/\i2<=ts.length/\CI w ν m r b4 b6 n n4 (o++(l.take i2).bvs) F F4 (o.map F4) ((l.take i2).map F4) ts4 M4)/\((ts.length:Int) - ((i:Int)+1)).toNat< ((ts.length:Int) - i).toNat:=by
   intro z I n3 F3 h68 l68 β mk172 mf172 η γ;have hMr:∀g,M2 g->¬(g=m\/g=r):=λg G e=>by
    have :=(V.bd.mr g G).1;rcases e with e | e<;>omega
   obtain⟨ko,kl⟩:=keepO η;have bd172:=V.bd.kp β.kp hMr;obtain⟨vo1,vt1,d0,d1,d2,d3,d4,d5,d6⟩:=bd172.sl;refine⟨vt1,d1,λb196 W hb196 hw197=>?_⟩;have θ:Ex I W:=hw197▸Ex.alloc I _;have s197:W.heap.size=I.heap.size+1:=by rw [hw197,size_alloc]
   have s172:=β.size;have bd197:=bd172.ex θ;have hlts:ts2.length<=ts.length:=by
    have h1:=V.th.len;have h2:=zY F2 (l.take i);have :=Lv.gP l i;omega
   refine aD.push (d3.kp (Kp.ah θ λ _=>False) λ _ _ h=>h) (by omega) (m:=[ptr z]) (D:=λ _=>True) (.inr ⟨b196,0,1,rfl,trivial,by omega,λi y hy=>?_⟩) (by rfl) (by omega) (by simp only [JA,JQ];omega) λv203 ψ ho204 hg204 hn204=>?_
   ·cases i with
    | zero=>simp only [KS,KP]at hy;subst hy;rw [hw197,hb196];exact aa rfl
    | succ i=>simp at hy
   have k204:Kp W ψ λg=>vt1.ownBlock=some g:=Kp.aP hg204 λ _ h=>h
   have e6:=k204.block b6 bd197.lt λe=>(d5 b6 e).2 rfl
   have c61:W.cell? ⟨b6,1,none⟩=some vt1:=by rw [θ.cell (show b6< _ from bd172.lt)];exact d1
   refine⟨ho204.ka,⟨⟨vt1,by rw [JB (w:=W) e6];exact c61⟩,by rw [J8 (w:=W) e6];exact bd197.fr 1⟩,λν hw206=>⟨by unfold aj;omega,?_,by omega⟩⟩;obtain⟨bd206,ω⟩:=bd197.Ib c61 k204 ho204 hn204 hw206;have ε:∀g,M2 g->w.heap.size<=g/\g< J.heap.size:=V.bd.mr;have φ:∀g,v203.ownBlock=some g->M2 g\/W.heap.size<=g:=λg G=>(hn204 g G).imp (λe=>(d5 g e).1) id
   have q206:Kq m r w ν:=((q59.trans β).ex θ hlm).out ω (λg G hM=>by have :=(ε g hM).1;omega) hlm;have s206:=ω.size;have l4:=V.l4;have hth1:af (λg=>(w.heap.size<=g/\¬(M2 g\/v203.ownBlock=some g)/\g≠b4)/\g< ν.heap.size) ν ((l.take i).map F3) ts2:=by
    rw [kl];refine af.sub (λg _ G=>⟨⟨G.1.1,λhM=>hM.elim G.1.2.1 λe=>(φ g e).elim G.1.2.1 λh=>by omega,G.1.2.2⟩,by omega⟩) (af.kp ω (λg G hM=>G.1.2.1 hM) (af.ex (af.kp β.kp (λg G e=>by
     have :=G.1.1;rcases e with e | e<;>omega) V.th) θ))
   have hth2:af (λg=>(w.heap.size<=g/\¬(M2 g\/v203.ownBlock=some g)/\g≠b4)/\g< ν.heap.size) ν (e.map F3) [ptr z]:=
    af.sub (λg _ G=>⟨⟨by omega,λhM=>hM.elim (λh=>by have :=(ε g h).2;omega) λe=>(φ g e).elim (λh=>by have :=(ε g h).2;omega) λh=>by omega,by omega⟩,by omega⟩) (af.kp ω (λg G hM=>by have :=(ε g hM).2;omega) (af.ex γ θ))
   refine⟨i+1,n3,F3,λg=>M2 g\/v203.ownBlock=some g,ts2++[ptr z],by omega,by omega,⟨q206,(mk172.ex θ).kp ω λhM=>by have :=(ε _ hM).1;omega,(mf172.kp (Kp.ah θ λ _=>False) (λh=>h)).kp ω λhM=>by have :=(ε _ hM).1;omega,?_,?_,by omega,h4',λhM=>?_,by rw [ko];exact bd206,?_,hlm,hlr,ο⟩⟩
   ·rw [bvs2,<-Kg];exact V.rn.app η hdis
   ·rw [JB (w:=W) (ω.block b4 (by omega) V.m4),θ.cell (show b4< _ by omega),JB (w:=J) (β.kp.block b4 l4 λe=>by rcases e with e | e<;>omega)];exact V.c4
   ·rcases hM with hM | hM
    ·exact V.m4 hM
    ·rcases φ b4 hM with h | h
     ·exact V.m4 h
     ·omega
   ·rw [hts,Lv.eZ];exact af.app hth1 hth2
  refine⟨bt,ot,_,ζ,hvt',by omega,by omega,ts[i],by rw [JI,Kc];exact hct,?_⟩;have h26:=huqe.ge;have l4:=V.l4;have c4b:∀{w1:World},Kq m r J w1->w1.cell? ⟨b4,0,none⟩=some (.map (some r)):=λq=>by
   rw [JB (w:=J) (q.kp.block b4 l4 λe=>by rcases e with e | e<;>omega)];exact V.c4
  rcases Lv.jE hsh e he2 with⟨kk,a,b,o',q,rfl,hq⟩ | ⟨ps,rfl,hps⟩
  ·obtain⟨t,ts',a',b',vr,e1,ht,hkk,hlv,_⟩:=he3;obtain⟨rfl,rfl⟩:=KG e1;obtain⟨g,G,hgD,hg2,c0,c1,c2,c3,c4'⟩:=ht;have cg:∀{w1:World},Kq m r J w1->∀{j:Nat} {u:Value},w.cell? ⟨g,j,none⟩=some u->w1.cell? ⟨g,j,none⟩=some u:=λx j u hu=>by
    rw [JB (w:=w) ((q59.trans x).kp.block g hg2 (hD g hgD))];exact hu
   have q0:=Kq.refl m r J;simp only [Lv.sz]at hsz;simp only [Lv.tot]at htt;obtain⟨u1,u2⟩:=huqe.thr;have ebv:(Lv.thr kk a b o' q .nil).bvs=(if kk= .r then [b]else [])++(o'++q.bvs):=by simp [Lv.bvs]
   rw [ebv]at bvt;simp only [JJ]at bvt;refine⟨g,0,G,kk.byte,cg q0 c0,λz α hb68 hw69=>⟨λw'=>∃(n3:Nat) (F3:Nat->Nat) (a1 b1:Nat),Kq m r J w'/\Mk w' m n3/\jM w' r F3/\Rn n2 n3 (if kk= .r then [b]else []) F2 F3/\kh w' z kk.byte a1 b1 (.pointer none) (.slice none 0 0)/\(kk= .t\/kk= .p\/(a1=F3 a/\b1=F3 b)),⟨g,0,G,kk.byte,?_,?_⟩,λw146 hJ=>?_⟩⟩
   all_goals have x69:Ex J α:=hw69▸Ex.alloc J _
   all_goals have μ:Kq m r J α:=q0.ex x69 H
   ·exact cg μ c0
   ·have th69:kh α z kk.byte 0 0 (.pointer none) (.slice none 0 0):=kh.new hb68 hw69;have mk69:=V.mc.ex x69;have mf69:=V.mf.kp (Kp.ah x69 λ _=>False) (λh=>h);have two:(kk= .s\/kk= .m)->∃S106:World->Prop,∀ξ:World,ξ=World.drew α->S106 ξ/\∃(b108 o109:Nat),ts[i]=Value.pointer (some ⟨b108,o109,none⟩)/\∃n110:Int,(∀w',S106 w'->World.cell? w' ⟨b108,(o109+1),none⟩=some (Value.int IntKind.i64 n110))/\∃(b111 o112:Nat),ts[i]=Value.pointer (some ⟨b111,o112,none⟩)/\∃n113:Int,(∀w',S106 w'->World.cell? w' ⟨b111,(o112+2),none⟩=some (Value.int IntKind.i64 n113))/\∃(f114:Nat) (ca115:List Value),(Value.func (Fn.func 239) #[] #[(Value.pointer (some ⟨b4,0,none⟩))])=Value.func (Fn.func f114) #[] (List.toArray ca115)/\List.contains dD f114=true/\Calls Tryz.prog f114 (List.toArray ([(Value.int IntKind.i64 n110)]++ca115)) ξ (an [.i] fun(n116:Int) (w117:World)=>S106 w117/\∃(f118:Nat) (ca119:List Value),(Value.func (Fn.func 239) #[] #[(Value.pointer (some ⟨b4,0,none⟩))])=Value.func (Fn.func f118) #[] (List.toArray ca119)/\List.contains dD f118=true/\Calls Tryz.prog f118 (List.toArray ([(Value.int IntKind.i64 n113)]++ca119)) w117 (an [.i] fun(n120:Int) (w121:World)=>S106 w121/\((∃u122:Value,World.cell? w121 ⟨z,1,none⟩=some u122)/\World.frozen? w121 ⟨z,1,none⟩=false)/\∀w123:World,w123=World.setCell w121 ⟨z,1,none⟩ (Value.int IntKind.i64 n116)->((∃u124:Value,World.cell? w123 ⟨z,2,none⟩=some u124)/\World.frozen? w123 ⟨z,2,none⟩=false)/\∀w125:World,w125=World.setCell w123 ⟨z,2,none⟩ (Value.int IntKind.i64 n120)->
      ∃(n3:Nat) (F3:Nat->Nat) (a1 b1:Nat),Kq m r J w125/\Mk w125 m n3/\jM w125 r F3/\Rn n2 n3 (if kk= .r then [b]else []) F2 F3/\kh w125 z kk.byte a1 b1 (.pointer none) (.slice none 0 0)/\(kk= .t\/kk= .p\/(a1=F3 a/\b1=F3 b)))):=by
     intro hk2;obtain⟨rfl,rfl⟩:a'=a/\b'=b:=by
      rcases hkk with h | h | h
      ·rw [h]at hk2;simp at hk2
      ·rw [h]at hk2;simp at hk2
      ·exact h
     refine⟨λw'=>Ex α w',λξ hw107=>⟨hw107▸Ex.drew α,g,0,G,a',λw' x=>cg (μ.ex x H) c1,g,0,G,b',λw' x=>cg (μ.ex x H) c2,239,[ptr b4],rfl,by kernel_rfl,?_⟩⟩;have x107:Ex α ξ:=hw107▸Ex.drew α;have q107:=μ.ex x107 H;have mf107:=mf69.kp (Kp.ah x107 λ _=>False) (λh=>h);refine za (c4b q107) mf107 ⟨x107,239,[ptr b4],rfl,by kernel_rfl,za (c4b q107) mf107 ⟨x107,?_⟩⟩;have th107:kh ξ z kk.byte 0 0 (.pointer none) (.slice none 0 0):=th69.kp (Kp.ah x107 λ _=>False) λh=>h
     refine⟨⟨⟨_,th107.c1⟩,th107.f 1⟩,λw123 hw123=>?_⟩;have th123:=th107.xG (x:=F2 a') hw123;refine⟨⟨⟨_,th123.c2⟩,th123.f 2⟩,λw125 hw125=>?_⟩;have th125:=th123.rI (x:=F2 b') hw125;have kb:Kr z ξ w125:=Kr.trans (hw123▸Kr.set ξ 1 _) (hw125▸Kr.set w123 2 _);have hkr:¬kk= .r:=λe=>by rw [e]at hk2;simp at hk2
     rw [JV hkr];exact⟨n2,F2,F2 a',F2 b',q107.out kb (λg G e=>by omega) H,(mk69.ex x107).kp kb (by omega),mf107.kp kb (by omega),Rn.refl n2 F2,th125,.inr (.inr ⟨rfl,rfl⟩)⟩
    have zero:(kk= .t\/kk= .p)->∃(n3:Nat) (F3:Nat->Nat) (a1 b1:Nat),Kq m r J α/\Mk α m n3/\jM α r F3/\Rn n2 n3 (if kk= .r then [b]else []) F2 F3/\kh α z kk.byte a1 b1 (.pointer none) (.slice none 0 0)/\(kk= .t\/kk= .p\/(a1=F3 a/\b1=F3 b)):=by
     intro hk2;have hkr:¬kk= .r:=λe=>by rw [e]at hk2;simp at hk2
     rw [JV hkr];exact⟨n2,F2,0,0,μ,mk69,mf69,Rn.refl n2 F2,th69,hk2.elim .inl λh=> .inr (.inl h)⟩
    cases kk
    case s=>exact aS (by decide) ⟨λ _=>cS (by decide) (two (.inl rfl)),λh=>absurd h (by decide)⟩
    case m=>exact aS (by decide) ⟨λh=>absurd h (by decide),λ _=>cS (by decide) (two (.inr rfl))⟩
    case t=>exact aS (by decide) ⟨λh=>absurd h (by decide),λ _=>aS (by decide) (zero (.inl rfl))⟩
    case p=>exact aS (by decide) ⟨λh=>absurd h (by decide),λ _=>aS (by decide) (zero (.inr rfl))⟩
    case r=>
     obtain⟨rfl,rfl⟩:a'=a/\b'=b:=by rcases hkk with h | h | h<;>first | exact h | cases h
     obtain⟨v1,v2,v3,v4⟩:=u2 rfl;simp only [Ls,JA,JQ]at bvt;refine cS (by decide) ⟨g,0,G,a',cg μ c1,239,[ptr b4],rfl,by kernel_rfl,za (c4b μ) mf69 ⟨⟨⟨_,th69.c1⟩,th69.f 1⟩,λw82 hw82=>⟨λw'=>Kq m r J w',λw84 hw84=>?_⟩⟩⟩;have th82:=th69.xG (x:=F2 a') hw82;have kb82:Kr z α w82:=hw82▸Kr.set α 1 _;have x84:Ex w82 w84:=hw84▸Ex.drew w82;have q82:Kq m r J w82:=μ.out kb82 (λg G e=>by omega) H;have q84:=q82.ex x84 H;have mk82:=mk69.kp kb82 (by omega);have mf82:=mf69.kp kb82 (by omega);refine⟨q84,_,λw' q=>c4b q,g,0,G,b',λw' q=>cg q c2,tD (mk82.ex x84) (by omega) λw90 k90 m90=>?_⟩;have q90:=q84.km k90;have th90:=(th82.kp (Kp.ah x84 λ _=>False) λh=>h).kp k90.kp (by omega);obtain⟨mm,hm1,hm2⟩:=(mf82.kp (Kp.ah x84 λ _=>False) (λh=>h)).kp k90.kp (λe=>ο e.symm);refine⟨q90,r,mm,rfl,hm1,λw93 hm93 hb93=>?_⟩;have kr93:Kp w90 w93 (λg=>g=r):=⟨hb93.os,hb93.tape,hb93.output,by rw [hb93.size];exact JL _,λg _ G=>hb93.block g G⟩
     have q93:=q90.blk hb93 H ο;have mk93:=m90.kp kr93 ο;have th93:=th90.kp kr93 (by omega);refine⟨λw'=>Ex w93 w',λw95 hw95=>?_⟩;have x95:Ex w93 w95:=hw95▸Ex.drew w93;have q95:=q93.ex x95 H;have th95:=th93.kp (Kp.ah x95 λ _=>False) λh=>h
     refine⟨x95,_,λw' x=>c4b (q93.ex x H),g,0,G,b',λw' x=>cg (q93.ex x H) c2,r,_,rfl,gm hm93 (x95.block r (gD hm93)),((n2+101:Nat):Int),true,.inl ⟨rfl,by unfold dz;simp⟩,⟨⟨_,th95.c2⟩,th95.f 2⟩,λw105 hw105=>?_⟩;have kb105:Kr z w95 w105:=hw105▸Kr.set w95 2 _;refine⟨n2+1,aF F2 b' (n2+101),F2 a',n2+101,q95.out kb105 (λg G e=>by omega) H,(mk93.ex x95).kp kb105 (by omega),((te hm2 hm93).kp (Kp.ah x95 λ _=>False) (λh=>h)).kp kb105 (by omega),Rn.one n2 b' F2,th95.rI hw105,.inr (.inr ⟨?_,?_⟩)⟩
     ·exact(JV λe=>v2 e.symm).symm
     ·simp [aF]
   ·obtain⟨n3,F3,a1,b1,q146,mk146,mf146,rn146,th146,hab⟩:=hJ;have hbr:∃br,vr=ptr br:=by obtain⟨br,_,_,_,e,_⟩:=hlv;exact⟨br,e⟩
    obtain⟨br,rfl⟩:=hbr;have h68:J.heap.size<=z:=by omega
    refine⟨λw'=>∃(n4:Nat) (F4:Nat->Nat) (vr2:Value),Kq m r J w'/\Mk w' m n4/\jM w' r F4/\Rn n2 n4 ((if kk= .r then [b]else [])++(o'++q.bvs)) F2 F4/\kh w' z kk.byte a1 b1 vr2 (.slice none 0 0)/\aB (λg=>J.heap.size<=g/\g< w'.heap.size) w' (o'.map F4,q.map F4) vr2/\(kk= .t\/kk= .p\/(a1=F4 a/\b1=F4 b)),⟨g,0,G,ptr br,cg q146 c3,some ⟨br,0,none⟩,rfl,λ _=>⟨λw'=>Kq m r J w',λw153 hw153=>?_⟩,λh=>by cases h⟩,λw162 hJ=>?_⟩
    ·have x153:Ex w146 w153:=hw153▸Ex.drew w146;have q153:=q146.ex x153 H;have rl:=rn146.len;have hb1:(if kk= .r then [b]else []).length=if kk= .r then 1 else 0:=by split<;>rfl
     have hl153:fS D w153 (ptr br) o' (af D w153 q):=hlv.kp (q59.trans q153).kp hD λl h=>h.kp (q59.trans q153).kp hD
     refine⟨q153,g,0,G,ptr br,λw' x=>cg x c3,_,λw' x=>c4b x,ih q.sz (by omega) (JL _) hq hl153 hD u1 (mk146.ex x153) (mf146.kp (Kp.ah x153 λ _=>False) (λh=>h)) ο (by omega) (by omega) λv158 w159 F4 n4 q159 mk159 mf159 rn159 l159=>?_⟩;have s153:=x153.size;have hb68l:=th146.lt;have th159:=(th146.kp (Kp.ah x153 λ _=>False) λh=>h).kp q159.kp (by omega);refine⟨l159.one,⟨⟨_,th159.c3⟩,th159.f 3⟩,λw161 hw161=>?_⟩;have kb161:Kr z w159 w161:=hw161▸Kr.set w159 3 _;have s159:=q159.size;have s161:=kb161.size;have ndb:=huqe.nd;rw [KB,ebv]at ndb;have nfb:=huqe.nf;rw [ebv]at nfb;have hdis2:=(Kh.1 ndb).2.2;refine⟨n4,F4,v158,(q153.trans q159).out kb161 (λg G e=>by omega) H,mk159.kp kb161 (by omega),mf159.kp kb161 (by omega),rn146.app rn159 (λx hx hx'=>hdis2 x hx x hx' rfl),th159.Bw hw161,?_,?_⟩
     ·exact aB.sub (aB.kp (aB.sub (E:=λg=>w153.heap.size<=g/\g< w159.heap.size) l159 λg G hd=>⟨hd,G⟩) kb161 λg G e=>by omega) λg _ G=>⟨by have :=q153.size;omega,by omega⟩
     ·rcases hab with h | h | ⟨ha,hb⟩
      ·exact .inl h
      ·exact .inr (.inl h)
      ·by_cases hkt:kk= .t\/kk= .p
       ·exact hkt.elim .inl λh=> .inr (.inl h)
       ·right;right;have hfa:a∉o'++q.bvs:=λhm=>nfb a (J7 _ hm) (by
         cases kk
         ·exact .inl ⟨.inl rfl,.inl rfl⟩
         ·exact .inr (.inl ⟨rfl,rfl⟩)
         ·exact absurd (.inl rfl) hkt
         ·exact .inl ⟨.inr rfl,.inl rfl⟩
         ·exact absurd (.inr rfl) hkt)
        have hfb:b∉o'++q.bvs:=λhm=>by
         by_cases hkr:kk= .r
         ·have :=u2 hkr;exact(JN.1 hm).elim this.2.2.1 this.2.2.2
         ·exact nfb b (J7 _ hm) (by
           cases kk
           ·exact .inl ⟨.inl rfl,.inr rfl⟩
           ·exact absurd rfl hkr
           ·exact absurd (.inl rfl) hkt
           ·exact .inl ⟨.inr rfl,.inr rfl⟩
           ·exact absurd (.inr rfl) hkt)
        rw [rn159.out a hfa,rn159.out b hfb];exact⟨ha,hb⟩
    ·obtain⟨n4,F4,vr2,q162,mk162,mf162,rn162,th162,l162,hab4⟩:=hJ;refine⟨g,0,G,.slice none 0 0,cg q162 c4',none,0,0,rfl,λy w'=>y=0/\w'=w162,λ _ _=>0,⟨rfl,rfl⟩,λy I hy=>?_⟩;obtain⟨rfl,rfl⟩:=hy;refine⟨λh=>by simp at h,λ _=>fin z I n4 F4 h68 th162.lt q162 mk162 mf162 (by rw [ebv];exact rn162) ?_⟩;refine⟨ptr z,[],a1,b1,vr2,rfl,th162.H2 ⟨h68,th162.lt⟩,?_,l162,rfl⟩;rcases hab4 with h | h | ⟨h1,h2⟩
     ·exact .inl h
     ·exact .inr (.inl h)
     ·by_cases hkt:kk= .t\/kk= .p
      ·exact hkt.elim .inl λh=> .inr (.inl h)
      ·exact .inr (.inr ⟨by rw [JV hkt];exact h1,by rw [JV hkt];exact h2⟩)
  ·obtain⟨t,ts',a',b',vp,us,e1,ht,hus,hps2,_⟩:=he3;obtain⟨rfl,rfl⟩:=KG e1;obtain⟨g,G,hgD,hg2,c0,c1,c2,c3,c4'⟩:=ht;have cg:∀{w1:World},Kq m r J w1->∀{j:Nat} {u:Value},w.cell? ⟨g,j,none⟩=some u->w1.cell? ⟨g,j,none⟩=some u:=λx j u hu=>by
    rw [JB (w:=w) ((q59.trans x).kp.block g hg2 (hD g hgD))];exact hu
   have q0:=Kq.refl m r J;have uq:=huqe.sum;have ebv:(Lv.sum ps .nil).bvs=ps.bvs:=by simp [Lv.bvs]
   rw [ebv]at bvt;simp only [Lv.sz]at hsz;simp only [Lv.tot]at htt;obtain⟨au,cau,hvu⟩:=hus.slice;have hul:=hps2.len;have hpl:=Lv.cK ps;have hpt:=bT ps;refine⟨g,0,G,43,cg q0 c0,λz α hb68 hw69=>⟨λw'=>w'=α,⟨g,0,G,43,?_,aS (by decide) ⟨λh=>absurd h (by decide),λ _=>aS (by decide) rfl⟩⟩,λw146 hJ=>⟨λw'=>w'=α,?_,λw162 hJ2=>?_⟩⟩⟩
   all_goals have x69:Ex J α:=hw69▸Ex.alloc J _
   all_goals have μ:Kq m r J α:=q0.ex x69 H
   ·exact cg μ c0
   ·subst hJ;exact⟨g,0,G,.pointer none,cg μ c3,none,rfl,λh=>(by cases h),λ _=>rfl⟩
   subst hJ2;have h68:J.heap.size<=z:=by omega
   have th69:kh w162 z 43 0 0 (.pointer none) (.slice none 0 0):=kh.new hb68 hw69;refine⟨g,0,G,vp,cg μ c4',au,_,cau,hvu,λy w'=>∃(j n3:Nat) (F3:Nat->Nat) (δ:Value) (us2:List Value),y=j/\j<=us.length/\Kq m r J w'/\Mk w' m n3/\jM w' r F3/\Rn n2 n3 (ps.take j).bvs F2 F3/\kh w' z 43 0 0 (.pointer none) δ/\aD 146 J.heap.size w' δ us2/\(∀g,δ.ownBlock=some g->g≠z)/\af (λg=>(J.heap.size<=g/\g≠z/\δ.ownBlock≠some g)/\g< w'.heap.size) w' ((ps.take j).map F3) us2,
    λy _=>(us.length - y).toNat,⟨0,n2,F2,.slice none 0 0,[],rfl,Ks _,μ,V.mc.ex x69,V.mf.kp (Kp.ah x69 λ _=>False) (λh=>h),Rn.refl n2 F2,th69,aD.nil _ _ _,λg G=>(by cases G),rfl⟩,λy I hI2=>?_⟩
   obtain⟨j,n3,F3,δ,us2,rfl,hj,β,mk172,mf172,η,γ,ho172,hnb,ht172⟩:=hI2;refine⟨λhlt2=>?_,λhge2=>?_⟩;rotate_left
   ·have hje:j=ps.bn.length:=by simp only [JE]at hge2;omega
    rw [hje,Lv.de]at η ht172;refine fin z I n3 F3 h68 γ.lt β mk172 mf172 (by rw [ebv];exact η) ⟨ptr z,[],0,0,δ,us2,rfl,γ.H2 ⟨h68,γ.lt⟩,ho172.Cg (λg G=>ho172.block g G),af.sub (λg _ G=>⟨G.1.1,G.2⟩) ht172,rfl⟩
   have hju:j< us.length:=by simp only [JD]at hlt2;omega
   have hje:j< ps.bn.length:=by omega
   obtain⟨bu,ou,capu',hvu',hcu⟩:∃bu ou capu',vp= .slice (some ⟨bu,ou,none⟩) us.length capu'/\I.cell? ⟨bu,ou+j,none⟩=some us[j]:=by
    rcases hus with⟨_,h0⟩ | ⟨bt,ot,ζ,e,hbD,hb',υ⟩
    ·rw [h0]at hju;simp at hju
    ·exact⟨bt,ot,ζ,e,by rw [JB (w:=w) ((q59.trans β).kp.block bt hb' (hD bt hbD))];exact υ j _ (JC hju)⟩
   obtain⟨e,hf1,hf2,hf3⟩:=aK.single hps2.bn (JC hju);have hf4:ps.bn[j]=e:=by rw [JC hje]at hf1;exact Kt hf1
   have hts2:=Lv.take_succ ps j hje;rw [hf4]at hts2;obtain⟨hdis2,bvt2⟩:=CF uq hts2;have huqe2:=uq.bn hf2;have hsz2:=Lv.ee ps e hf2;have htt2:=Lv.gd ps e hf2;obtain⟨o2,q,rfl,hq⟩:=Lv.lX hps e hf2;simp only [Lv.sz]at hsz2;simp only [Lv.tot]at htt2;have ebv2:(Lv.part o2 q .nil).bvs=o2++q.bvs:=by simp [Lv.bvs]
   rw [ebv2]at bvt2 hdis2;rw [JJ]at bvt2;obtain⟨v2,ts3,e2,hlv2,_⟩:=hf3;obtain⟨rfl,rfl⟩:=KG e2;have rl:=η.len;have s172:=β.size;refine⟨bu,ou,_,capu',hvu',by omega,by omega,us[j],by rw [JI,Kc];exact hcu,λw'=>Kp I w' λg=>g=m\/g=r\/δ.ownBlock=some g,λw179 hw179=>?_⟩;have ι:Ex I w179:=hw179▸Ex.drew I;have q179:=β.ex ι H;have hob:=ho172.block;have hb68l:=γ.lt;have nb68:¬(z=m\/z=r\/δ.ownBlock=some z):=λe=>by
    rcases e with e | e | e
    ·omega
    ·omega
    ·exact hnb _ e rfl
   have nb4:¬(b4=m\/b4=r\/δ.ownBlock=some b4):=λe=>by
    rcases e with e | e | e
    ·omega
    ·omega
    ·have :=hob _ e;omega
   have hl179:fS D w179 us[j] o2 (af D w179 q):=hlv2.kp (q59.trans q179).kp hD λl h=>h.kp (q59.trans q179).kp hD
   refine⟨Kp.ah ι _,δ,λw' k=>by rw [JB (w:=I) (k.block z hb68l nb68)];exact γ.c4,.map (some r),λw' k=>by rw [JB (w:=I) (k.block b4 (by omega) nb4)];exact c4b β,?_⟩;refine ih q.sz (by omega) (JL _) hq hl179 hD huqe2.part (mk172.ex ι) (mf172.kp (Kp.ah ι λ _=>False) (λh=>h)) ο (by omega) (by omega) λv182 w183 F4 n4 q183 mk183 mf183 rn183 l183=>?_
   have k183:Kp I w183 λg=>g=m\/g=r\/δ.ownBlock=some g:=Kp.trans (Kp.ah ι _) (Kp.mono (λg e=>e.elim .inl λe=> .inr (.inl e)) q183.kp) λ _ _ h=>h
   refine⟨k183,l183.one,λb184 w185 hb184 hw185=>?_⟩;have κ:Ex w183 w185:=hw185▸Ex.alloc w183 _;have s185:w185.heap.size=w183.heap.size+1:=by rw [hw185,size_alloc]
   have s179:=ι.size;have s183:=q183.size;have hMr:∀g,δ.ownBlock=some g->¬(g=m\/g=r):=λg G e=>by
    have :=hob g G;rcases e with e | e<;>omega
   have ho185:aD 146 J.heap.size w185 δ us2:=((ho172.kp (Kp.ah ι λ _=>False) λ _ _ h=>h).kp q183.kp hMr).kp (Kp.ah κ λ _=>False) λ _ _ h=>h
   have hlu:us2.length<=us.length:=by
    have h1:=ht172.len;have h2:=zY F3 (ps.take j);have :=Lv.gP ps j;omega
   refine⟨Kp.trans k183 (Kp.ah κ λ _=>False) λ _ _ h=>h.elim,aD.push ho185 (by omega) (m:=[v182]) (D:=λ _=>True) (.inr ⟨b184,0,1,rfl,trivial,by omega,λi y hy=>?_⟩) (by simp only [KR,Mm,LY];exact l183.one) (by omega) (by simp only [JA,JQ];omega) λv191 w192 ho192 hg192 hn192=>?_⟩
   ·cases i with
    | zero=>simp only [KS,KP]at hy;subst hy;rw [hw185,hb184];exact aa rfl
    | succ i=>simp at hy
   have k192:Kp w185 w192 λg=>δ.ownBlock=some g:=Kp.aP hg192 λ _ h=>h
   have th185:=((γ.kp (Kp.ah ι λ _=>False) λh=>h).kp q183.kp (λe=>by rcases e with e | e<;>omega)).kp (Kp.ah κ λ _=>False) λh=>h
   have th192:=th185.kp k192 λe=>hnb _ e rfl
   refine⟨Kp.trans (Kp.trans k183 (Kp.ah κ λ _=>False) λ _ _ h=>h.elim) k192 λg _ h=> .inr (.inr h),ho192.ka,⟨⟨_,th192.c4⟩,th192.f 4⟩,λw194 hw194=>⟨by unfold aj;omega,?_,by show((us.length:Int) - ((j:Int)+1)).toNat< ((us.length:Int) - j).toNat;omega⟩⟩;have kb194:Kr z w192 w194:=hw194▸Kr.set w192 4 _;have k194:Kp w185 w194 λg=>δ.ownBlock=some g\/g=z:=Kp.trans (Kp.mono (λ _ h=> .inl h) k192) kb194 λ _ _ h=> .inr h
   have s194:=k194.size;have hnew:∀g,v191.ownBlock=some g->δ.ownBlock=some g\/w185.heap.size<=g:=hn192;have q185:Kq m r J w185:=(q179.trans q183).ex κ H;have xq:(ps.take j).map F4=(ps.take j).map F3:=cH λx hx=>rn183.out x λhxe=>by
    rcases hx with hx | hx
    ·exact hdis2 x hx hxe
    ·exact uq.nf x ((Lv.lS ps _ hf2).subset (by rw [ebv2];exact hxe)) (oe ps j hx)
   have hS:∀g,(δ.ownBlock=some g\/g=z)->J.heap.size<=g:=λg e=>e.elim (λe=>(hob g e).1) λe=>by omega
   refine⟨j+1,n4,F4,v191,us2++[v182],by omega,by omega,q185.out k194 (λg G e=>by have :=hS g e;omega) H,(mk183.ex κ).kp k194 (λe=>by have :=hS _ e;omega),(mf183.kp (Kp.ah κ λ _=>False) (λh=>h)).kp k194 (λe=>by have :=hS _ e;omega),?_,th192.Hn hw194,ho192.kp kb194 (λg G e=>?_),λg G e=>?_,?_⟩
   ·rw [hts2,Lv.dj,ebv2];exact η.app rn183 hdis2
   ·rcases hnew g G with h | h
    ·exact hnb g h e
    ·omega
   ·rcases hnew g G with h | h
    ·exact hnb g h e
    ·omega
   ·rw [hts2,Lv.eZ,xq];refine af.app ?_ ?_
    ·refine af.sub (λg _ G=>⟨⟨G.1.1,G.1.2.1,λe=>(hnew g e).elim G.1.2.2 λh=>by omega⟩,by omega⟩) (af.kp k194 (λg G e=>e.elim G.1.2.2 G.1.2.1) (af.ex (af.kp q183.kp (λg G e=>by
      have :=G.1.1;rcases e with e | e<;>omega) (af.ex ht172 ι)) κ))
    ·refine⟨v182,[],rfl,?_,rfl⟩;have l183':=aB.sub (E:=λg=>w179.heap.size<=g/\g< w183.heap.size) l183 λg G hd=>⟨hd,G⟩
     exact aB.sub (aB.kp (aB.ex l183' κ) k194 λg G e=>by
      rcases e with e | e
      ·have :=hob g e;omega
      ·omega) λg _ G=>⟨⟨by omega,by omega,λe=>(hnew g e).elim (λh=>by have :=hob g h;omega) λh=>by omega⟩,by omega⟩
theorem Ee (k:Nat):Hs k:=by
 induction k using Nat.strongRecOn with
 | _ k z=>exact xI k z
def Ce (acc:List Tx)(s:Tx):List Tx:=if acc.getLast?=some s then acc else acc++[s]
def dd (l:List Tx):List Tx:=l.foldl Ce []
theorem jI (l:List Tx)(s:Tx):dd (l++[s])=Ce (dd l) s:=by unfold dd;rw [List.foldl_append];rfl
theorem Fa:∀l:List Tx,(dd l).getLast?=l.getLast?:=by
 intro l;rcases List.eq_nil_or_concat l with rfl | ⟨l,s,rfl⟩
 ·rfl
 ·rw [List.concat_eq_append,jI];unfold Ce;split
  ·rename_i h;rw [h];simp
  ·simp
theorem Da (l:List Tx):(dd l).length<=l.length:=by
 have:∀n (l:List Tx),l.length=n->(dd l).length<=l.length:=by
  intro n
  induction n with
  | zero=>intro l h;have :=J6 h;subst this;exact JL _
  | succ n z=>
   intro l h;rcases List.eq_nil_or_concat l with rfl | ⟨l,s,rfl⟩
   ·exact JL _
   ·rw [List.concat_eq_append]at h|-;rw [jI];have G:=z l (by simpa using h);unfold Ce;split
    ·simp;omega
    ·simp;omega
 exact this _ l rfl
theorem G6 {l:List Tx}:∀s,s∈dd l↔s∈l:=by
 have:∀n (l:List Tx),l.length=n->∀s,s∈dd l↔s∈l:=by
  intro n
  induction n with
  | zero=>intro l h;have :=J6 h;subst this;intro s;exact Ml
  | succ n G=>
   intro l h s;rcases List.eq_nil_or_concat l with rfl | ⟨l,x,rfl⟩
   ·exact Ml
   ·rw [List.concat_eq_append]at h|-;rw [jI];have z:=G l (by simpa using h);unfold Ce;split
    ·rename_i H;rw [z,JN,JO];refine⟨.inl,λh=>h.elim id λe=>?_⟩;subst e;exact(z s).1 (List.mem_of_getLast? H)
    ·simp [z]
 exact this _ l rfl
structure HO (B:Nat)(w:World)(r:Nat)(l:List Tx)(bad:Bool)(M:Nat->Prop):Prop where
 lt:r< w.heap.size
 mb:M r
 mr:∀g,M g->B<=g/\g< w.heap.size
 f:∀j,w.frozen? ⟨r,j,none⟩=false
 c1:w.cell? ⟨r,1,none⟩=some (.bool bad)
 sl:∃v,w.cell? ⟨r,0,none⟩=some v/\Own B w v l/\∀g,v.ownBlock=some g->M g/\g≠r
theorem HO.kp {B:Nat}{w w':World}{r:Nat}{l:List Tx}{bad:Bool}{M S:Nat->Prop}(h:HO B w r l bad M)(k:Kp w w' S)(G:∀g,M g->¬S g):HO B w' r l bad M:=by
 have e:=k.block r h.lt (G r h.mb);obtain⟨v,I,J,H⟩:=h.sl;exact⟨J2 h.lt k.size,h.mb,λg z=>⟨(h.mr g z).1,J2 (h.mr g z).2 k.size⟩,λj=>by rw [J8 (w:=w) e];exact h.f j,by rw [JB (w:=w) e];exact h.c1,v,by rw [JB (w:=w) e];exact I,J.kp k λg z=>G g (H g z).1,H⟩
theorem Own.ka {B:Nat}{w:World}{v:Value}{l:List Tx}(h:Own B w v l):oneV v=true:=by
 rcases h.2 with⟨rfl,_⟩ | ⟨g,cap,cur,rfl,_⟩<;>rfl
theorem Hr {B:Nat}{w:World}{r:Nat}{l:List Tx}{bad:Bool}{M:Nat->Prop}{s:Tx}{ok:Bool}(h:HO B w r l bad M)(hl:l.length<=1099511627775){R:World->Prop}
  (hR:∀w' M',Kp w w' M->HO B w' r (l++[s]) (bad|| !ok) M'->(∀g,M' g->M g\/w.heap.size<=g)->R w'):Calls Tryz.prog 99 #[ptr r,.string (ab s),.bool ok] w (an [] R):=by
 refine mz (ptr r) s ok w R ?_;obtain⟨v,h1,h2,h3⟩:=h.sl;refine⟨r,0,rfl,v,h1,λb7 w8 η Z=>?_⟩;have x8:Ex w w8:=Z▸Ex.alloc w _;have s8:w8.heap.size=w.heap.size+1:=by rw [Z,size_alloc]
 have hB:=(h.mr r h.mb).1;have α:=h.lt;refine Own.push (h2.ex x8) (by omega) (Strs.one η Z) (by simp only [JA,JQ];omega) λβ H _ J ε W=>?_
 have γ:Kp w8 H λg=>v.ownBlock=some g:=Kp.aP ε λ _ h=>h
 have δ:=γ.block r (by omega) λe=>(h3 r e).2 rfl
 have ι:=γ.size;have c0:H.cell? ⟨r,0,none⟩=some v:=by rw [JB (w:=w8) δ,x8.cell (show r< _ from α)];exact h1
 have c1:H.cell? ⟨r,1,none⟩=some (.bool bad):=by rw [JB (w:=w8) δ,x8.cell (show r< _ from α)];exact h.c1
 have f15:∀j,H.frozen? ⟨r,j,none⟩=false:=λj=>by rw [J8 (w:=w8) δ,K4 x8 α];exact h.f j
 refine⟨r,0,rfl,J.ka,⟨⟨_,c0⟩,f15 0⟩,λθ z=>⟨r,0,rfl,bad,?_,λhb=>⟨r,0,rfl,⟨⟨.bool bad,?_⟩,?_⟩,λV G=>?_⟩,λhb=>⟨r,0,rfl,⟨⟨.bool bad,?_⟩,?_⟩,λV G=>?_⟩⟩⟩
 ·rw [z,JH _ _ _ _ (by simp)];exact c1
 ·rw [z,JH _ _ _ _ (by simp)];exact c1
 ·rw [z,JU];exact f15 1
 rotate_left
 ·rw [z,JH _ _ _ _ (by simp)];exact c1
 ·rw [z,JU];exact f15 1
 all_goals
  have kk:Kr r H V:=Kr.trans (z▸Kr.set H 0 _) (G▸Kr.set θ 1 _);have κ:=kk.size;have ζ:∀g,β.ownBlock=some g->g≠r:=λg I=>(W g I).elim (λe=>(h3 g e).2) λe=>by omega
  have kM:Kp w V M:=Kp.trans (Kp.trans (Kp.ah x8 M) (Kp.mono (λg e=>(h3 g e).1) γ) λ _ _ h=>h) kk λg _ e=>by rw [e];exact h.mb
  refine hR V (λg=>M g\/β.ownBlock=some g) kM ⟨by omega,.inl h.mb,λg I=>?_,λj=>?_,?_,β,?_,J.kp kk ζ,λg I=>⟨.inr I,ζ g I⟩⟩ λg I=>I.elim .inl λe=>(W g e).elim (λe=> .inl (h3 g e).1) λh=> .inr (by omega)
  ·rcases I with I | I
   ·have :=h.mr g I;omega
   ·have :=J.block g I;omega
  ·rw [G,JU,z,JU];exact f15 j
  ·rw [G]
   first
    | (rw [hb,Mc];exact JT _ _ _ (u:= .bool bad) (by rw [z,JH _ _ _ _ (by simp)];exact c1))
    | (rw [hb,Bool.true_or];exact JT _ _ _ (u:= .bool bad) (by rw [z,JH _ _ _ _ (by simp)];exact c1))
  ·rw [G,JH _ _ _ _ (by simp),z];exact JT _ _ _ c0
theorem Fo {w:World}{R:World->Prop}(z:R w):Calls Tryz.prog 115 #[.slice none 0 0] w (an [] R):=by
 refine(Any.slices_Sort_string_none zJ none 0 w).mono ?_
 rintro e w' ⟨rfl,rfl⟩
 exact⟨rfl,z⟩
theorem xv {l:List Tx}(h:l.length< 2):dd l=l:=by
 match l,h with
 | [],_=>rfl
 | [a],_=>rfl
theorem CV {B:Nat}{w w':World}{g cap n j:Nat}{l:List Tx}{x:Tx}(h:Own B w (.slice (some ⟨g,0,none⟩) n cap) l)(hw:w'=w.setCell ⟨g,j,none⟩ (.string (ab x)))(z:j< l.length):Own B w' (.slice (some ⟨g,0,none⟩) n cap) (l.set j x):=by
 have G:aD 9 B w (.slice (some ⟨g,0,none⟩) n cap) (l.map sv):=by unfold aD;rw [JY];exact h
 have :=G.set hw (by simpa using z);rw [show Value.string (ab x)=sv x from rfl,<-MJ]at this;unfold aD at this;rw [JY]at this;exact this
theorem nt {B:Nat}{w:World}{g cap n j:Nat}{l:List Tx}(h:Own B w (.slice (some ⟨g,0,none⟩) n cap) l)(I:j< l.length):w.cell? ⟨g,j,none⟩=some (.string (ab l[j]))/\w.frozen? ⟨g,j,none⟩=false/\n=l.length/\l.length<=cap:=by
 rcases h.2 with⟨G,_⟩ | ⟨g',z,cur,H,J,V,W,h2,h3,h4⟩
 ·cases G
 ·cases H;refine⟨?_,?_,rfl,W⟩
  ·rcases h.strs with⟨G,_⟩ | ⟨b,off,z,H,_,Z⟩
   ·cases G
   ·cases H;have :=Z j _ (JC I)
    rwa [J']at this
  ·unfold World.frozen?;simp [V]
theorem um {B:Nat}{w:World}{v:Value}{l:List Tx}(h:Own B w v l)(hl:l.length<=1099511627776){R:Value->World->Prop}
  (hR:∀v' w',Kp w w' (λg=>v.ownBlock=some g)->Strs w' v' (dd l)->(∀g,v'.ownBlock=some g->v.ownBlock=some g)->R v' w'):Calls Tryz.prog 149 #[v] w (an [.v] R):=by
 refine iy v w R ?_;obtain⟨ao,cap,hv⟩:=h.strs.slice;have kx:∀{w1:World},Ex w w1->Kp w w1 (λg=>v.ownBlock=some g):=λx=>Kp.ah x _
 refine⟨ao,_,cap,hv,λhs=>?_,λhs=>?_⟩
 ·have h2:l.length< 2:=by simp only [JD]at hs;omega
  refine hR v w (kx (Ex.refl w)) ?_ λ _ h=>h
  rw [xv h2];exact h.strs
 have h2:2<=l.length:=by simp only [JE]at hs;omega
 obtain⟨g,rfl⟩:∃g,v= .slice (some ⟨g,0,none⟩) l.length cap:=by
  rcases h.2 with⟨_,h0⟩ | ⟨g,cap',cur,η,_⟩
  ·omega
  ·rw [η]at hv;cases hv;exact⟨g,η⟩
 have hcap:=(nt h (j:=0) (by omega)).2.2.2;refine⟨λk w'=>∃n:Nat,k=n/\1<=n/\n<=l.length/\dd (l.take n)=l.take n/\Ex w w',λk _=>(l.length - k).toNat,⟨1,rfl,JL _,by omega,by rw [xv];rw [Kf];omega,Ex.refl w⟩,λk w8 hI=>?_⟩;obtain⟨z,rfl,hk1,θ,Z,x8⟩:=hI;refine⟨_,_,cap,rfl,λhlt=>?_,λhge=>?_⟩;rotate_left
 ·have:z=l.length:=by simp only [JE]at hge;omega
  rw [this,J3]at Z;refine hR _ w8 (kx x8) ?_ λ _ h=>h
  rw [Z];exact h.strs.ex x8
 have δ:z< l.length:=by simp only [JD]at hlt;omega
 refine⟨λw'=>Ex w8 w',λw13 ι=>?_⟩;have κ:Ex w8 w13:=ι▸Ex.drew w8;have I:=Ex.trans x8 κ;have o13:=h.ex I;refine⟨κ,g,0,_,cap,rfl,by omega,by omega,l[z],λw' x=>?_,by unfold aj;omega,g,0,_,cap,rfl,by omega,by omega,l[z - 1]'(by omega),λw' x=>?_,λheq=>?_,λJ=>?_⟩
 ·rw [JI,Kc,J'];exact(nt (h.ex (Ex.trans x8 x)) δ).1
 ·rw [show((z:Int) - 1).toNat=z - 1 by omega,Kc,J'];exact(nt (h.ex (Ex.trans x8 x)) (by omega)).1
 rotate_left
 ·simp only [JE]at J;refine⟨by unfold aj;omega,⟨z+1,by omega,by omega,by omega,?_,I⟩,by show((l.length:Int) - ((z:Int)+1)).toNat< ((l.length:Int) - z).toNat;omega⟩;rw [JG δ,jI,Z];unfold Ce;have:(l.take z).getLast?≠some l[z]:=λe=>by
   rw [L7,Kf,LU θ,K7 (by omega),JC (by omega)]at e;exact J (Kt e).symm
  rw [JV this]
 simp only [JD]at heq;have hsl:(if cap=(z:Int).toNat then(some ⟨g,0,none⟩:Option Addr)else Option.map (λx:Addr=>x.add ((z:Int).toNat* 1)) (some ⟨g,0,none⟩))=some ⟨g,z,none⟩:=by
  rw [JV (by omega),Lz,add_plain,JI,Kc,J']
 refine⟨_,_,cap,rfl,by omega,by omega,by omega,λk kk w'=>∃(n i:Nat) (C:List Tx),k=n/\kk=i/\1<=i/\z+i<=l.length/\n< z+i/\C.length=l.length/\Own B w' (.slice (some ⟨g,0,none⟩) l.length cap) C/\C.take n=dd (l.take (z+i))/\C.drop (z+i - 1)=l.drop (z+i - 1)/\Kp w w' (λb=>(Value.slice (some ⟨g,0,none⟩) l.length cap).ownBlock=some b),
  λ _ kk _=>(l.length - kk).toNat,⟨z,1,l,rfl,rfl,JL _,by omega,by omega,rfl,o13,?_,rfl,kx I⟩,λk kk V hI=>?_⟩
 ·rw [JG δ,jI,Z];unfold Ce;rw [Ka];rw [L7,Kf,LU θ,K7 (by omega),JC (by omega),heq]
 obtain⟨n,i,C,rfl,rfl,hi1,hi2,hn,hC,G,ht,hd,μ⟩:=hI;have hnC:n<=C.length:=by omega
 rw [hsl];refine⟨_,_,_,rfl,λν=>?_,λξ=>?_⟩
 ·have α:z+i< l.length:=by simp only [JD]at ν;omega
  have e1:C[z+i]'(by omega)=l[z+i]:=by
   have :=KO (fun(x:List Tx)=>x[1]?) hd;simp only [List.getElem?_drop]at this;rw [show z+i - 1+1=z+i by omega,JC (by omega),JC α]at this;exact Kt this
  have e2:C[z+i - 1]'(by omega)=l[z+i - 1]'(by omega):=by
   have :=KO (fun(x:List Tx)=>x[0]?) hd;simp only [List.getElem?_drop]at this;rw [Ma,JC (by omega),JC (by omega)]at this;exact Kt this
  refine⟨λw'=>Ex V w',λο ς=>?_⟩;have β:Ex V ο:=ς▸Ex.drew V;have ε:=G.ex β;have υ:=Kp.trans μ (Kp.ah β λ _=>False) λ _ _ h=>h.elim
  have rd:∀{w':World},Ex V w'->∀j (hj:j< C.length),w'.cell? ⟨g,j,none⟩=some (.string (ab C[j])):=λx j hj=>(nt (G.ex x) hj).1
  have W:(dd (l.take (z+i))).getLast?=some (l[z+i - 1]'(by omega)):=by
   rw [Fa,L7,Kf,LU hi2,K7 (by omega),JC (by omega)]
  have φ:dd (l.take (z+(i+1)))=Ce (dd (l.take (z+i))) l[z+i]:=by
   rw [<-LX,JG α,jI]
  refine⟨β,g,z,_,_,rfl,by omega,by omega,C[z+i]'(by omega),λw' x=>?_,by unfold aj;omega,g,z,_,_,rfl,by omega,by omega,C[z+i - 1]'(by omega),λw' x=>?_,λJ=>?_,λγ=>?_⟩
  ·rw [JI,Kc];exact rd x _ _
  ·rw [show z+((i:Int) - 1).toNat* 1=z+i - 1 by omega];exact rd x _ _
  ·have χ:l[z+i]≠l[z+i - 1]'(by omega):=by
    rw [<-e1,<-e2];intro e;rw [e]at J;simp at J
   refine⟨g,z,_,_,rfl,by omega,by omega,C[z+i]'(by omega),by rw [JI,Kc];exact rd β _ _,g,0,_,cap,rfl,by omega,by omega,?_,λw57 H=>⟨by unfold aj;omega,by unfold aj;omega,⟨n+1,i+1,C.set n (C[z+i]'(by omega)),by omega,by omega,by omega,by omega,by omega,by simpa using hC,?_,?_,?_,?_⟩,by show((l.length:Int) - ((i:Int)+1)).toNat< ((l.length:Int) - i).toNat;omega⟩⟩
   ·rw [JI,Kc,J'];have :=nt ε (j:=n) (by omega);exact⟨⟨_,this.1⟩,this.2.1⟩
   ·rw [JI,Kc,J']at H;exact CV ε H (by omega)
   ·rw [JG (by simpa using(by omega:n< C.length)),MM (JL _),ht,φ];unfold Ce;rw [W,JV (λe=>χ (Kt e).symm),List.getElem_set_self,e1]
   ·have:C.drop (z+i)=l.drop (z+i):=by
     have :=KO (fun(x:List Tx)=>x.drop 1) hd;simp only [Mw]at this
     rwa [show z+i - 1+1=z+i by omega]at this
    rw [show z+(i+1) - 1=z+i by omega,List.drop_set_of_lt hn,this]
   ·rw [JI,Kc,J']at H;exact Kp.trans υ (H▸Kr.set ο n _) λb _ e=>by rw [e];rfl
  ·have ψ:l[z+i]=l[z+i - 1]'(by omega):=by
    rw [<-e1,<-e2];have:decide (C[z+i]'(by omega)=C[z+i - 1]'(by omega))=true:=by
     cases hd:decide (C[z+i]'(by omega)=C[z+i - 1]'(by omega))with
     | true=>rfl
     | false=>rw [hd]at γ;cases γ
    exact J0 this
   refine⟨by unfold aj;omega,⟨n,i+1,C,rfl,by omega,by omega,by omega,by omega,hC,ε,?_,?_,υ⟩,by show((l.length:Int) - ((i:Int)+1)).toNat< ((l.length:Int) - i).toNat;omega⟩
   ·rw [ht,φ];unfold Ce;rw [W,Ka (by rw [ψ])]
   ·have :=KO (fun(x:List Tx)=>x.drop 1) hd;simp only [Mw]at this;rw [show z+i - 1+1=z+i by omega]at this;rw [show z+(i+1) - 1=z+i by omega];exact this
 ·have α:z+i=l.length:=by simp only [JE]at ξ;omega
  rw [α,J3]at ht;have hs2:(if cap=(n:Int).toNat then(some ⟨g,0,none⟩:Option Addr)else Option.map (λx:Addr=>x.add ((n:Int).toNat* 1)) (some ⟨g,0,none⟩))=some ⟨g,n,none⟩:=by
   rw [JV (by omega),Lz,add_plain,JI,Kc,J']
  have hs3:(if cap=(0:Int).toNat then(some ⟨g,0,none⟩:Option Addr)else Option.map (λx:Addr=>x.add ((0:Int).toNat* 1)) (some ⟨g,0,none⟩))=some ⟨g,0,none⟩:=by
   rw [JV (by have:(0:Int).toNat=0:=rfl;omega),Lz,add_plain];rfl
  refine⟨_,_,cap,rfl,by omega,by omega,by omega,_,_,_,rfl,.inr ⟨g,n,hs2,λj hj=>?_,λw66 ω=>⟨_,_,cap,rfl,by omega,by omega,by omega,?_⟩⟩⟩
  ·have :=nt G (j:=n+j) (by omega);exact⟨⟨_,this.1⟩,this.2.1⟩
  rw [hs3];obtain⟨ζ,_,c66,_⟩:=a7 (b:=g) (List.replicate (Int.toNat (l.length:Int) - Int.toNat (n:Int)) (.string ⟨#[]⟩)) V n;rw [<-ω]at ζ c66;have hdl:(dd l).length=n:=by rw [<-ht,Kf];omega
  have hb31:=(G.block g rfl).2;have s66:=ζ.size;refine hR _ w66 (Kp.trans μ ζ λb _ e=>by rw [e];rfl) (.inr ⟨g,0,cap,?_,by omega,λj x hx=>?_⟩) λb hb=>by cases hb;rfl
  ·rw [hdl];simp
  ·have hj:j< n:=by
    have :=(Ky.1 hx).1;omega
   rw [J',c66 j hj,(nt G (j:=j) (by omega)).1];rw [<-ht,K7 hj,JC (by omega)]at hx;rw [Kt hx]
end Go.Proofs.YtdecokaadekjnaaGreat
namespace Go.Proofs.YtdecokaadekjnaaGreat
open Go
set_option maxRecDepth 100000
theorem jF (s1:Value)(v2:ay)(w:World)(R:Int->World->Prop)(h:bz s1 λl4=>fJ 0 w λV J z G=>ai (decide (z< (l4:Int))) (aH s1 z λb10 H=>ct G b10 (H+z.toNat* 1) λI=>ai (decide (v2=I)) (R z G) (aj (z+1)/\V (z+1) G/\J (z+1) G< J z G)) (R (-1) G)):
  Calls Tryz.prog 107 #[s1,(.string (ab v2))] w (an [.i] R):=
 aY (aZ [(2,[(8,.i)])] [] []) [.tmp 4 .i] [.v s1,.s v2] Tryz.func107 (by kernel_rfl) h
theorem gT (s1:Value)(v2:ay)(w:World)(R:Bool->World->Prop)(h:gn 107 #[s1,(.string (ab v2))] w λz G=>R ((decide (0<=z))) G):
  Calls Tryz.prog 63 #[s1,(.string (ab v2))] w (an [.b] R):=
 aY (aZ [] [] []) [.tmp 4 .b] [.v s1,.s v2] Tryz.func63 (by kernel_rfl) h
theorem qE (p1:ay)(w:World)(R:Value->Bool->World->Prop)(h:jd 135 #[(.string (ab p1))] w λv2 q3 w4=>ai (!q3) (R (.pointer none) false w4) (bL w4 λS5 w6=>az v2 λb7 o8=>jh S5 b7 (o8+1) λs9=>az v2 λb10 o11=>jh S5 b10 (o11+1) λψ=>(aQ w6 (.cells #[(.string (ab ψ))] 9) λω w14=>S5 w14/\aQ w14 (Obj.map #[] 0) λb15 w16=>S5 w16/\oneV (.slice (some ⟨ω,0,none⟩) 1 1)=true/\oneV (.map (some b15))=true/\aQ w16 (.cells #[(.string (ab s9)),(.slice (some ⟨ω,0,none⟩) 1 1),(.map (some b15))] 59) λI w18=>S5 w18/\fJ 0 w18 λI19 m20 i21 β=>aU β I 1 λv23=>bz v23 λl25=>ai (decide (i21< (l25:Int))) (aU β I 1 λv27=>aH v27 i21 λb28 o29=>ct β b28 (o29+i21.toNat* 1) λs32=>bW 92 #[(.string (ab s32))] β λv33 w34=>jd 136 #[v33] w34 λυ q36 w37=>ai (!q36) (R (.pointer none) false w37) (bL w37 λφ w39=>cC φ I 2 λv40=>cC φ I 1 λv41=>aH v41 i21 λb42 o43=>jh φ b42 (o43+i21.toNat* 1) λs46=>∃(η:Nat) (m48:Value->Option Value),v40= .map (some η)/\IsMap w39 η .string m48/\∀χ:World,IsMap χ η .string (dz m48 (.string (ab s46)) υ)->bY w39 χ η->bz υ λl51=>fJ 0 χ λI53 θ H J=>ai (decide (H< (l51:Int))) (aH υ H λb57 o58=>ct J b57 (o58+H.toNat* 1) λs61=>aU J I 1 λv62=>bO 63 #[v62,(.string (ab s61))] J λq63 ι=>ai (!q63) (aU ι I 1 λv65=>aQ ι (.cells #[(.string (ab s61))] 9) λb66 w67=>eE 9 1 16 w67 v65 (.slice (some ⟨b66,0,none⟩) 1 1) λv73 w74=>oneV v73=true/\bf w74 I 1 v73 λw76=>aj (H+1)/\I53 (H+1) w76/\θ (H+1) w76< θ H J) (aj (H+1)/\I53 (H+1) ι/\θ (H+1) ι< θ H J)) (aU J I 1 λv77=>bz v77 λl79=>ai (decide (60< (l79:Int))) (R (.pointer none) false J) (aj (i21+1)/\I19 (i21+1) J/\m20 (i21+1) J< m20 i21 β)))) (R ((.pointer (some ⟨I,0,none⟩))) true β))/\(aQ w6 (Obj.map #[] 0) λb81 w82=>S5 w82/\aQ w82 (.cells #[(.string (ab ψ))] 9) λb83 w84=>S5 w84/\oneV (.slice (some ⟨b83,0,none⟩) 1 1)=true/\oneV (.map (some b81))=true/\aQ w84 (.cells #[(.string (ab s9)),(.slice (some ⟨b83,0,none⟩) 1 1),(.map (some b81))] 59) λV w86=>S5 w86/\fJ 0 w86 λI87 m88 i89 γ=>aU γ V 1 λv91=>bz v91 λl93=>ai (decide (i89< (l93:Int))) (aU γ V 1 λv95=>aH v95 i89 λb96 o97=>ct γ b96 (o97+i89.toNat* 1) λs100=>bW 92 #[(.string (ab s100))] γ λv101 w102=>jd 136 #[v101] w102 λδ q104 κ=>ai (!q104) (R (.pointer none) false κ) (bL κ λε μ=>cC ε V 2 λv108=>cC ε V 1 λv109=>aH v109 i89 λb110 o111=>jh ε b110 (o111+i89.toNat* 1) λs114=>∃(W:Nat) (ν:Value->Option Value),v108= .map (some W)/\IsMap μ W .string ν/\∀ζ:World,IsMap ζ W .string (dz ν (.string (ab s114)) δ)->bY μ ζ W->bz δ λl119=>fJ 0 ζ λξ Z z G=>ai (decide (z< (l119:Int))) (aH δ z λb125 o126=>ct G b125 (o126+z.toNat* 1) λο=>aU G V 1 λv130=>bO 63 #[v130,(.string (ab ο))] G λq131 α=>ai (!q131) (aU α V 1 λv133=>aQ α (.cells #[(.string (ab ο))] 9) λb134 w135=>eE 9 1 16 w135 v133 (.slice (some ⟨b134,0,none⟩) 1 1) λv141 w142=>oneV v141=true/\bf w142 V 1 v141 λς=>aj (z+1)/\ξ (z+1) ς/\Z (z+1) ς< Z z G) (aj (z+1)/\ξ (z+1) α/\Z (z+1) α< Z z G)) (aU G V 1 λv145=>bz v145 λl147=>ai (decide (60< (l147:Int))) (R (.pointer none) false G) (aj (i89+1)/\I87 (i89+1) G/\m88 (i89+1) G< m88 i89 γ)))) (R ((.pointer (some ⟨V,0,none⟩))) true γ)))):
  Calls Tryz.prog 90 #[(.string (ab p1))] w (an [.v,.b] R):=
 aY (aZ [(6,[(7,.i)]),(13,[(68,.i)])] [] [4,11]) [.tmp 2 .v,.tmp 3 .b] [.s p1] Tryz.func90 (by kernel_rfl) h
theorem tF (z:ay)(t2:ay)(w:World)(R:Value->Bool->World->Prop)(h:jd 67 #[(.string (ab z))] w λv3 V I=>ai (!V) (R (.pointer none) false I) (jd 67 #[(.string (ab t2))] I λv6 W J=>ai (!W) (R (.pointer none) false J) ((List.length [40]+z.length<=4611686018427387904)/\(List.length ([40]++z)+List.length [38]<=4611686018427387904)/\(List.length (([40]++z)++[38])+t2.length<=4611686018427387904)/\(List.length ((([40]++z)++[38])++t2)+List.length [41]<=4611686018427387904)/\jd 90 #[(.string (ab (((([40]++z)++[38])++t2)++[41])))] J λv9 G H=>R v9 G H))):
  Calls Tryz.prog 46 #[(.string (ab z)),(.string (ab t2))] w (an [.v,.b] R):=
 aY (aZ [] [] []) [.tmp 4 .v,.tmp 5 .b] [.s z,.s t2] Tryz.func46 (by kernel_rfl) h
theorem df (s1:Value)(f2:Value)(w:World)(R:Int->World->Prop)(h:bz s1 λl4=>fJ 0 w λZ W z H=>ai (decide (z< (l4:Int))) (aH s1 z λb10 I=>ct H b10 (I+z.toNat* 1) λJ=>∃(f15:Nat) (c16:List Value),f2= .func (.func f15) #[] (List.toArray c16)/\List.contains dD f15=true/\bO f15 (List.toArray ([(.string (ab J))]++c16)) H λV G=>ai V (R z G) (aj (z+1)/\Z (z+1) G/\W (z+1) G< W z H)) (R (-1) H)):
  Calls Tryz.prog 61 #[s1,f2] w (an [.i] R):=
 aY (aZ [(2,[(8,.i)])] [] []) [.tmp 4 .i] [.v s1,.v f2] Tryz.func61 (by kernel_rfl) h
theorem cF (s1:Value)(f2:Value)(w:World)(R:Bool->World->Prop)(h:gn 61 #[s1,f2] w λz G=>R ((decide (0<=z))) G):
  Calls Tryz.prog 47 #[s1,f2] w (an [.b] R):=
 aY (aZ [] [] []) [.tmp 4 .b] [.v s1,.v f2] Tryz.func47 (by kernel_rfl) h
theorem mB (s1:Value)(z:Int)(w:World)(R:Bool->World->Prop)(h:az s1 λb3 H=>aU w b3 (H+2) λv5=>az v5 λb6 I=>aU w b6 (I+0) λJ=>bO 188 #[J,(.int .i64 z)] w λV G=>R V G):
  Calls Tryz.prog 141 #[s1,(.int .i64 z)] w (an [.b] R):=
 aY (aZ [] [] []) [.tmp 4 .b] [.v s1,.i z] Tryz.func141 (by kernel_rfl) h
theorem qQ (s1:UInt32)(w:World)(R:ay->World->Prop)(h:I' ([]) 97 w λJ G z c5 H=>ai (decide (c5<=122)) (F0 59 #[(.int .u8 c5.toNat)] H λV I=>ai (!decide ((s1 &&& V:UInt32)=0)) ((0<=(UInt8.toNat c5:Int)/\(UInt8.toNat c5:Int)< 128)/\(z.length+List.length [UInt8.ofNat (Int.toNat (UInt8.toNat c5:Int))]<=4611686018427387904)/\J ((z++[UInt8.ofNat (Int.toNat (UInt8.toNat c5:Int))])) (c5+1:UInt8) I/\G ((z++[UInt8.ofNat (Int.toNat (UInt8.toNat c5:Int))])) (c5+1:UInt8) I< G z c5 H) (J z (c5+1:UInt8) I/\G z (c5+1:UInt8) I< G z c5 H)) (R z H)):
  Calls Tryz.prog 82 #[(.int .u32 (UInt32.toNat s1))] w (an [.s] R):=
 aY (aZ [(3,[(3,.s),(4,.c)])] [] []) [.tmp 2 .s] [.w s1] Tryz.func82 (by kernel_rfl) h
theorem my (s1:Value)(k2:UInt8)(w:World)(R:ay->World->Prop)(h:az s1 λb3 o4=>aU w b3 (o4+2) λv5=>az v5 λb6 o7=>aU w b6 (o7+1) λv8=>bz v8 λο=>HT 0 0 w λς η δ I β=>ai (decide (I< (ο:Int))) (aH v8 I λυ φ=>aU β υ (φ+I.toNat* 1) λv21=>bW 140 #[v21] β λθ χ=>bz θ λψ=>HT δ 0 χ λε J G z H=>ai (decide (z< (ψ:Int))) (aH θ z λV W=>∃ι:UInt8,∃κ:Int,∃μ:Int,∃ν:Value,∃ξ:Bool,(World.cell? H ⟨V,(W+z.toNat* 5),none⟩=some (.int .u8 ι.toNat)/\World.cell? H ⟨V,((W+z.toNat* 5)+1),none⟩=some (.int .i64 κ)/\World.cell? H ⟨V,(((W+z.toNat* 5)+1)+1),none⟩=some (.int .i64 μ)/\World.cell? H ⟨V,((((W+z.toNat* 5)+1)+1)+1),none⟩=some ν/\World.cell? H ⟨V,(((((W+z.toNat* 5)+1)+1)+1)+1),none⟩=some (.bool ξ)/\True)/\aQ H (.cells #[(.int .u8 0),(.int .i64 0),(.int .i64 0),(.pointer none),(.bool false)] 160) λγ ω=>vE ω γ 0 5 [(.int .u8 ι.toNat),(.int .i64 κ),(.int .i64 μ),ν,(.bool ξ)] λZ=>fR Z γ 0 λc44=>ai (decide (c44=k2)) (oH Z γ 1 λn45=>bO 141 #[s1,(.int .i64 n45)] Z λq46 α=>ai (!q46) (oH α γ 1 λζ=>0<=(ζ:Int)/\aj (z+1)/\ε ((G ||| (mZ 1 ζ.toNat):UInt32)) (z+1) α/\J ((G ||| (mZ 1 ζ.toNat):UInt32)) (z+1) α< J G z H) (aj (z+1)/\ε G (z+1) α/\J G (z+1) α< J G z H)) (aj (z+1)/\ε G (z+1) Z/\J G (z+1) Z< J G z H)) (aj (I+1)/\ς G (I+1) H/\η G (I+1) H< η δ I β)) (bj 82 #[(.int .u32 (UInt32.toNat δ))] β λs49 w50=>R s49 w50)):
  Calls Tryz.prog 93 #[s1,(.int .u8 k2.toNat)] w (an [.s] R):=
 aY (aZ [(3,[(5,.w),(18,.i)]),(6,[(5,.w),(25,.i)])] [] []) [.tmp 4 .s] [.v s1,.c k2] Tryz.func93 (by kernel_rfl) h
theorem tW (s1:ay)(w:World)(R:UInt32->World->Prop)(h:HT 0 0 w λW I G z H=>ai (decide (z< (s1.length:Int))) ((0<=(z:Int)/\(z:Int)< s1.length)/\F0 59 #[(.int .u8 (UInt8.toNat (bt s1 z.toNat)))] H λJ V=>aj (z+1)/\W (G ||| J:UInt32) (z+1) V/\I (G ||| J:UInt32) (z+1) V< I G z H) (R G H)):
  Calls Tryz.prog 91 #[(.string (ab s1))] w (an [.w] R):=
 aY (aZ [(3,[(3,.w),(7,.i)])] [] []) [.tmp 2 .w] [.s s1] Tryz.func91 (by kernel_rfl) h
theorem rX (n1:ay)(w:World)(R:Bool->World->Prop)(h:bW 92 #[(.string (ab n1))] w λv2 z=>bj 93 #[v2,(.int .u8 (UInt8.toNat 33))] z λG H=>F0 91 #[(.string (ab G))] H λI J=>F0 59 #[(.int .u8 (UInt8.toNat 119))] J λV W=>R ((!decide ((I &&& V:UInt32)=0))) W):
  Calls Tryz.prog 48 #[(.string (ab n1))] w (an [.b] R):=
 aY (aZ [] [] []) [.tmp 2 .b] [.s n1] Tryz.func48 (by kernel_rfl) h
end Go.Proofs.YtdecokaadekjnaaGreat
namespace Go.Proofs.YtdecokaadekjnaaGreat
open Go Go.RowKit
theorem Hj {B:Nat}{w:World}{r:Nat}{l:List Tx}{bad:Bool}{M:Nat->Prop}(h:HO B w r l bad M)(hl:l.length<=1099511627776){R:Value->Bool->World->Prop}
  (V:bad=true->R (.slice none 0 0) false w) (G:bad=false->∀v' w',Kp w w' M->Strs w' v' (dd (aX l))->(∀g,v'.ownBlock=some g->M g)->R v' true w'):Calls Tryz.prog 100 #[ptr r] w (an [.v,.b] R):=by
 refine ly (ptr r) w R ?_;obtain⟨v,W,Z,z⟩:=h.sl;refine⟨r,0,rfl,bad,h.c1,V,λhb=>⟨r,0,rfl,v,W,?_⟩⟩;have α:(aX l).length=l.length:=(aN l).length_eq;by_cases H:l=[]
 ·subst H;have I:v= .slice none 0 0\/∃g cap,v= .slice (some ⟨g,0,none⟩) 0 cap:=by
   rcases Z.2 with⟨h0,_⟩ | ⟨g,cap,cur,J,_⟩
   ·exact .inl h0
   ·exact .inr ⟨g,cap,J⟩
  have hs:∀{R:World->Prop},R w->Calls Tryz.prog 115 #[v] w (an [] R):=λ{R} hR=>by
   rcases I with rfl | ⟨g,cap,rfl⟩
   ·exact Fo hR
   ·refine(Any.slices_Sort_string_none zJ (some ⟨g,0,none⟩) cap w).mono ?_
    rintro e w' ⟨rfl,rfl⟩
    exact⟨rfl,hR⟩
  refine hs ⟨r,0,rfl,v,W,um Z (by simp) λv' w' k s J=>G hb v' w' (Kp.mono (λg e=>(z g e).1) k) ?_ λg hg=>(z g (J g hg)).1⟩;have:aX []=[]:=J6 α;rw [this];exact s
 ·refine sort_k Z H hl λw8 k8 o8=>⟨r,0,rfl,v,?_,um o8 (by omega) λv' w' k s J=>G hb v' w' (Kp.trans (Kp.mono (λg e=>(z g e).1) k8) k λg _ e=>(z g e).1) s λg hg=>(z g (J g hg)).1⟩
  rw [JB (w:=w) (k8.block r h.lt λe=>(z r e).2 rfl)];exact W
theorem Ak {D:Nat->Prop}{w:World}{v:Value}{o:List Nat}{x:Nat}(h:ec D w v (o.map iv))(hl:o.length<=1099511627776){R:Bool->World->Prop}(H:R (decide (x∈o)) w):
  Calls Tryz.prog 188 #[v,iv x] w (an [.b] R):=by
 refine jW v x w R ?_;refine mJ v x w _ ?_;obtain⟨W,cap,V⟩:=h.slice;rw [JY]at V;refine⟨W,_,cap,V,λi w'=>∃j:Nat,i=j/\j<=o.length/\w'=w/\x∉o.take j,λi _=>(o.length - i).toNat,⟨0,rfl,Ks _,rfl,by simp⟩,λi w' Z=>?_⟩;obtain⟨j,rfl,hj,rfl,hm⟩:=Z;refine⟨λI=>?_,λJ=>?_⟩
 ·have z:j< o.length:=by simp only [JD]at I;omega
  refine h.H' (i:=j) (x:=o[j]) (by omega) (by rw [JI];exact JC z) (Q:=λn=>_) ⟨λhe=>?_,λG=>?_⟩
  ·have he:x=o[j]:=by simp only [JD]at he;omega
   show R (decide (0<=(j:Int))) _;rw [KH (show(0:Int)<=(j:Int) by omega)];rw [KH (show x∈o by rw [he];exact JM z)]at H;exact H
  ·have G:x≠o[j]:=by simp only [JE]at G;omega
   refine⟨by unfold aj;omega,⟨j+1,by omega,by omega,rfl,?_⟩,by show((o.length:Int) - ((j:Int)+1)).toNat< ((o.length:Int) - j).toNat;omega⟩;rw [JG z,JN,JO];exact λh=>h.elim hm G
 ·have:j=o.length:=by simp only [JE]at J;omega
  rw [this,J3]at hm;show R (decide ((0:Int)<= -1)) _;rw [KI (show ¬(0:Int)<= -1 by omega)];rw [KI hm]at H;exact H
theorem Fi {w:World}{v:Value}{l:List Tx}{x:Tx}(h:Strs w v l)(hl:l.length<=1099511627776){R:Bool->World->Prop}(I:R (decide (x∈l)) w):
  Calls Tryz.prog 63 #[v,.string (ab x)] w (an [.b] R):=by
 refine gT v x w R ?_;refine jF v x w _ ?_;obtain⟨Z,cap,hv⟩:=h.slice;refine⟨Z,_,cap,hv,λi w'=>∃j:Nat,i=j/\j<=l.length/\w'=w/\x∉l.take j,λi _=>(l.length - i).toNat,⟨0,rfl,Ks _,rfl,by simp⟩,λi w' hI=>?_⟩;obtain⟨j,rfl,hj,rfl,hm⟩:=hI;refine⟨λJ=>?_,λV=>?_⟩
 ·have z:j< l.length:=by simp only [JD]at J;omega
  obtain⟨b,off,H,W,_,hc⟩:=h.at z;refine⟨b,off,_,H,W,by omega,by omega,l[j],by rw [JI,Kc];exact hc,λhe=>?_,λG=>?_⟩
  ·have he:x=l[j]:=by simpa using he
   show R (decide (0<=(j:Int))) _;rw [KH (show(0:Int)<=(j:Int) by omega)];rw [KH (show x∈l by rw [he];exact JM z)]at I;exact I
  ·have G:x≠l[j]:=by simpa using G
   refine⟨by unfold aj;omega,⟨j+1,by omega,by omega,rfl,?_⟩,by show((l.length:Int) - ((j:Int)+1)).toNat< ((l.length:Int) - j).toNat;omega⟩;rw [JG z,JN,JO];exact λh=>h.elim hm G
 ·have:j=l.length:=by simp only [JE]at V;omega
  rw [this,J3]at hm;show R (decide ((0:Int)<= -1)) _;rw [KI (show ¬(0:Int)<= -1 by omega)];rw [KI hm]at I;exact I
theorem Ht {D:Nat->Prop}{w:World}{s n x nm:Nat}{o:List Nat}{l:Lv}{c0 c1 c4 vr:Value}(η:Mk w s n)(h:fS D w vr o (af D w l))(hD:∀g,D g->g≠s)(ψ:l.sh true=true)(ω:tN o l)(hnn:n+o.length+l.bvs.length<=4294967296)(θ:o.length+l.tot<=4294967296){R:Value->World->Prop}
  (hR:∀v' w' F' n',Km s w w'->Mk w' s n'->Rn n n' (o++l.bvs) (aF id x nm) F'->aB (yP w) w' (o.map F',l.map F') v'->R v' w'):
  Calls Tryz.prog 177 #[ptr s,.agg (List.toArray [c0,c1,iv x,vr,c4]),iv nm] w (an [.v] R):=by
 refine jK (ptr s) _ nm w R ?_;refine⟨_,rfl,λb5 H ι α=>⟨λw'=>Kp H w' (λg=>g=s\/H.heap.size<=g),λw8 κ=>?_⟩⟩;have x6:Ex w H:=α▸Ex.alloc w _;have s6:H.heap.size=w.heap.size+1:=by rw [α,size_alloc]
 have x8:Ex H w8:=κ▸Ex.drew H;have s8:w8.heap.size=H.heap.size:=by rw [κ];rfl
 have μ:=η.lt;have ν:¬(b5=s\/H.heap.size<=b5):=λe=>by rcases e with e | e<;>omega
 have d3:H.cell? ⟨b5,3,none⟩=some vr:=by rw [α,ι];exact aa rfl
 have d2:H.cell? ⟨b5,2,none⟩=some (iv x):=by rw [α,ι];exact aa rfl
 have l5:b5< H.heap.size:=by omega
 refine⟨Kp.ah x8 _,s,0,rfl,vr,λw' k=>by rw [JB (w:=H) (k.block b5 l5 ν)];exact d3,x,λw' k=>by rw [JB (w:=H) (k.block b5 l5 ν)];exact d2,λβ γ ξ I=>?_⟩;have δ:Ex w8 γ:=I▸Ex.alloc w8 _;have s14:γ.heap.size=w8.heap.size+1:=by rw [I,size_alloc]
 have ο:IsMap γ β (.int .i64) (dc []):=⟨#[],0,by rw [I,ξ];unfold World.alloc;simp,⟨by simp,by simp,by simp⟩,by simp,λq=>rfl⟩
 refine⟨Kp.ah (Ex.trans x8 δ) _,β,_,rfl,ο,λJ ς G=>?_⟩;have ζ:Kp γ J (λg=>g=β):=⟨G.os,G.tape,G.output,by rw [G.size];exact JL _,λg _ Z=>G.block g Z⟩
 have s17:=ζ.size;have ε:Kp H J (λg=>g=s\/H.heap.size<=g):=Kp.trans (Kp.ah (Ex.trans x8 δ) _) ζ λg _ e=> .inr (by omega)
 have V:Ex w J:=Ex.below (Ex.trans (Ex.trans x6 x8) δ) (Kp.below ζ (Ex.trans (Ex.trans x6 x8) δ).size λg Z e=>by omega);refine⟨ε,?_⟩;have υ:jM J β (aF id x nm):=te (F:=id) (λz=> .inr ⟨rfl,rfl⟩) ς;have h':fS (λg=>D g/\g< w.heap.size) w vr o (af (λg=>D g/\g< w.heap.size) w l):=aB.sub (L:=(o,l)) h λg Z hd=>⟨hd,Z⟩
 refine Ee _ (JL _) ψ (fS.ex h' V) (λg Z e=>?_) ω (η.ex V) υ (by omega) hnn θ λv18 w19 F' n' W φ mf19 χ l19=>?_
 ·rcases e with e | e
  ·exact hD g Z.1 e
  ·omega
 ·have s19:=W.size;refine⟨Kp.trans ε (Kp.mono (λg e=>e) W.kp) λg Z e=>e.elim .inl λe=> .inr (by omega),hR v18 w19 F' n' ⟨?_,λj hj=>?_,λj=>?_⟩ φ χ (aB.sub l19 λg _ Z=>by show w.heap.size<=g;have:J.heap.size<=g:=Z;omega)⟩
  ·exact Kp.trans (Kp.ah V _) W.kp λg Z e=>e.elim id λe=>by omega
  ·rw [W.ce j hj,V.cell (show s< _ from μ)]
  ·rw [W.fz j,K4 V μ]
theorem xJ {X:Type}(P:Nat->Bool)(x:X):∀(l:List X) (k:Nat),jX P (l++[x]) k=jX P l k++if P (k+l.length)then []else [x]
 | [],k=>by rw [KB,ck,jw];simp [jw]
 | y::l,k=>by
  rw [KC,ck,ck,xJ P x l (k+1),JA,show k+1+l.length=k+(l.length+1) by omega];split<;>simp
def elsL:List Lv->Lv
 | []=> .nil
 | e::r=>e.app (elsL r)
theorem yb:∀l m:List Lv,elsL (l++m)=(elsL l).app (elsL m)
 | [],m=>rfl
 | e::l,m=>by simp only [KC,elsL,yb l m,Lv.cw]
theorem Dx (e:Lv):elsL [e]=e:=Lv.aV e
theorem rD {X:Type}{P:Nat->Bool}:∀{l:List X} {k:Nat} {x:X},x∈jX P l k->x∈l
 | [],k,x,h=>by rw [jw]at h;cases h
 | y::l,k,x,h=>by
  rw [ck]at h;split at h
  ·exact JR _ (rD h)
  ·rcases JX.1 h with rfl | h
   ·exact Kl ..
   ·exact JR _ (rD h)
theorem vf {X:Type}(P:Nat->Bool):∀(l:List X) (k:Nat),(jX P l k).Sublist l
 | [],k=>by rw [jw];exact KL _
 | y::l,k=>by
  rw [ck];split
  ·exact(vf P l (k+1)).trans (List.sublist_cons_self ..)
  ·exact(vf P l (k+1)).cons_cons y
def mS (l:List Lv):Nat:=(l.map Lv.tot).sum
theorem lx:∀l:List Lv,(elsL l).tot=mS l
 | []=>rfl
 | e::l=>by simp only [elsL,Lv.bV,lx l,mS,J9,KN]
theorem yX {l m:List Lv}(h:l.Sublist m):mS l<=mS m:=by
 induction h with
 | slnil=>exact JL _
 | cons a _ z=>simp only [mS,J9,KN]at*;omega
 | cons_cons a _ z=>simp only [mS,J9,KN]at*;omega
theorem oh:∀l:Lv,elsL l.bn=l
 | .nil=>rfl
 | .thr k a b o r n=>by simp only [Lv.bn,elsL,oh n,Lv.app]
 | .sum z n=>by simp only [Lv.bn,elsL,oh n,Lv.app]
 | .part o q n=>by simp only [Lv.bn,elsL,oh n,Lv.app]
theorem Be {b:Bool}:∀{l:List Lv},(∀e∈l,e.sh b=true)->(elsL l).sh b=true
 | [],_=>by cases b<;>rfl
 | e::l,h=>Lv.gH (h e (by simp)) (Be λx z=>h x (by simp [z]))
theorem Fl:∀{l:Lv},l.sh true=true->∀e∈l.bn,e.sh true=true:=λ{l} h e he=>by
 rcases Lv.jE h e he with⟨k,a,b,o,r,rfl,hr⟩ | ⟨G,rfl,z⟩
 ·simp only [Lv.sh,hr,K0]
 ·simp only [Lv.sh,z,K0]
theorem yf:∀{l:List (List Nat×Lv)},(∀x∈l,x.2.sh true=true)->(joinL l).2.sh true=true
 | [],_=>rfl
 | x::l,h=>Lv.gH (h x (by simp)) (yf λy z=>h y (by simp [z]))
theorem lf:∀(l:List (List Nat×Lv)) (j:Nat),(joinL (l.take j)).1.length<=(joinL l).1.length/\(joinL (l.take j)).2.tot<=(joinL l).2.tot
 | [],j=>by simp [joinL]
 | x::l,0=>by simp [joinL,Lv.tot]
 | x::l,j+1=>by
  obtain⟨z,G⟩:=lf l j;simp only [List.take_succ_cons,joinL,JJ,Lv.bV];omega
theorem Gh {D:Nat->Prop}{w:World}{s:Nat}{O:List Nat}{l:Lv}{vl vg vo vm:Value}{gl:List Nat}{ms:List (List Nat×Lv)}{mvs:List Value}(hcl:w.cell? ⟨s,2,none⟩=some vl)(hls:s< w.heap.size)(hl:aB D w (O,l) vl)(G:ec D w vg (gl.map iv))(hgl:gl.length<=1000)(ho:ec D w vo (O.map iv))(hm:ec D w vm mvs)
  (hms:aK (λL v=>aB D w L v) ms mvs) (hml:mvs.length<=1000) (hsh:l.sh true=true) (hmsh:∀x∈ms,x.2.sh true=true) (htot:O.length+(joinL ms).1.length+(l.tot+(joinL ms).2.tot)<=4294967295)
  {P:Nat->Bool} (hP:∀i,P i=decide (i∈gl)) {res:List Nat×Lv} (θ:res=(O++(joinL ms).1,(elsL (jX P l.bn 0)).app (joinL ms).2)) (huq:tN (Lv.tidy res.1 res.2).1 (Lv.tidy res.1 res.2).2) (hfr:∀x,x∉(Lv.tidy res.1 res.2).1->(Lv.tidy res.1 res.2).2.fh x->x< 26)
  {R:ay->Bool->World->Prop} (hR:∀w',Ex w w'->(∀s,zm (Lv.tidy res.1 res.2)=some s->R s true w')/\(zm (Lv.tidy res.1 res.2)=none->R [] false w')):
  Calls Tryz.prog 176 #[ptr s,vg,vo,vm] w (an [.s,.b] R):=by
 refine mw (ptr s) vg vo vm w R ?_;refine vZ ho (by omega) λv5 w6 x6 φ=>⟨φ.ka,λb7 w8 hb7 ι=>?_⟩
 have x8':Ex w6 w8:=ι▸Ex.alloc w6 _;have x8:=Ex.trans x6 x8';have s8:w8.heap.size=w6.heap.size+1:=by rw [ι,size_alloc]
 have s6:=x6.size;have bd8:jZ w.heap.size w8 b7 O [] λg=>g=b7\/v5.ownBlock=some g:=by
  refine⟨by omega,by omega,.inl rfl,λg G=>?_,λj=>?_,v5,.slice none 0 0,?_,?_,φ.kp (Kp.ah x8' λ _=>False) (λ _ _ h=>h),aD.nil _ _ _,λg G=>⟨.inr G,?_⟩,λg G=>(by cases G),λg _ G=>(by cases G)⟩
  ·rcases G with rfl | G
   ·omega
   ·have :=φ.block g G;omega
  ·rw [ι,hb7];exact aO _ _ _ _
  ·rw [ι,hb7];exact aa rfl
  ·rw [ι,hb7];exact aa rfl
  ·have :=φ.block g G;omega
 obtain⟨bl,vo',vt,ts,rfl,h2,h3,h4,h5,h6,h7,h8⟩:=aB.sub (E:=λg=>g< w.heap.size) hl λg G _=>G
 obtain⟨at_,capt,hvt⟩:=h7.slice;have hlen:ts.length=l.len:=h8.len;have hel:=Lv.cK l;have hlt:=bT l;have κ:∀i,mS (jX P (l.bn.take i) 0)<=l.tot:=λi=>by
  have h1:=yX ((vf P (l.bn.take i) 0).trans (List.take_sublist i l.bn));have h2:=lx l.bn;rw [oh]at h2;omega
 refine⟨s,0,rfl,ptr bl,by rw [x8.cell (show s< _ from hls)];exact hcl,bl,0,rfl,vt,by rw [x8.cell (show bl< _ from h3)];exact h5,at_,_,capt,hvt,λx w'=>∃(i:Nat) (J:List Value) (M:Nat->Prop),x=i/\i<=ts.length/\Ex w w'/\jZ w.heap.size w' b7 O J M/\af (λg=>g< w.heap.size) w' (elsL (jX P (l.bn.take i) 0)) J,
  λx _=>(ts.length - x).toNat,⟨0,[],_,rfl,Ks _,x8,bd8,by rw [List.take_zero,jw];rfl⟩,λx χ hI=>?_⟩
 obtain⟨i,J,M,rfl,hi,γ,H,V⟩:=hI;have hl1:J.length<=l.tot:=by
  have h1:=V.len;have h2:=bT (elsL (jX P (l.bn.take i) 0));rw [lx]at h2;have :=κ i;omega
 refine⟨λhlt1=>?_,λhge1=>?_⟩
 ·have δ:i< ts.length:=by simp only [JD]at hlt1;omega
  have hie:i< l.bn.length:=by omega
  obtain⟨bt,ot,z,hvt',hct⟩:∃bt ot z,vt= .slice (some ⟨bt,ot,none⟩) ts.length z/\χ.cell? ⟨bt,ot+i,none⟩=some ts[i]:=by
   rcases h7 with⟨_,h0⟩ | ⟨bt,ot,z,e,hbD,hb',W⟩
   ·rw [h0]at δ;simp at δ
   ·exact⟨bt,ot,z,e,by rw [γ.cell (show bt< _ from hb')];exact W i _ (JC δ)⟩
  obtain⟨e,he1,he2,he3⟩:=aK.single h8.bn (JC δ);have he4:l.bn[i]=e:=by rw [JC hie]at he1;exact Kt he1
  have hts:jX P (l.bn.take (i+1)) 0=jX P (l.bn.take i) 0++if P i then []else [e]:=by
   rw [JG hie,xJ,he4,J',Kf,LU (by omega)]
  refine⟨bt,ot,_,z,hvt',by omega,by omega,ts[i],by rw [JI,Kc];exact hct,Ak (G.ex γ) (by omega) ?_⟩;have hPi:=hP i;refine⟨λhq=>?_,λhq=>⟨by unfold aj;omega,⟨i+1,J,M,by omega,by omega,γ,H,?_⟩,by show((ts.length:Int) - ((i:Int)+1)).toNat< ((ts.length:Int) - i).toNat;omega⟩⟩;rotate_left
  ·have hPt:P i=true:=by rw [hPi];cases h:decide (i∈gl)<;>first | rfl | (rw [h]at hq;cases hq)
   rw [hts,Ka hPt,Kb];exact V
  have hPt:P i=false:=by rw [hPi];cases h:decide (i∈gl)<;>first | rfl | (rw [h]at hq;cases hq)
  obtain⟨vo1,ψ,d0,d1,d2,d3,d4,d5,d6⟩:=H.sl;have μ:=he3.all;simp only [KR,Mm,LY]at μ;refine⟨ψ,d1,μ,λb30 ε hb30 ν=>?_⟩;have ξ:Ex χ ε:=ν▸Ex.alloc χ _;have s31:ε.heap.size=χ.heap.size+1:=by rw [ν,size_alloc]
  have s21:=γ.size;have ο:=H.ex ξ;refine aD.push (d3.kp (Kp.ah ξ λ _=>False) λ _ _ h=>h) (by omega) (m:=[ts[i]]) (D:=λ _=>True) (.inr ⟨b30,0,1,rfl,trivial,by omega,λi' y hy=>?_⟩) (by simp only [KR,Mm,LY];exact μ) (by omega) (by simp only [JA,JQ];omega) λv37 w38 ho38 hg38 hn38=>?_
  ·cases i' with
   | zero=>simp only [KS,KP]at hy;subst hy;rw [ν,hb30];exact aa rfl
   | succ i=>simp at hy
  have k38:Kp ε w38 λg=>ψ.ownBlock=some g:=Kp.aP hg38 λ _ h=>h
  have e7:=k38.block b7 ο.lt λe=>(d5 b7 e).2 rfl
  have c71:ε.cell? ⟨b7,1,none⟩=some ψ:=by rw [ξ.cell (show b7< _ from H.lt)];exact d1
  refine⟨ho38.ka,⟨⟨ψ,by rw [JB (w:=ε) e7];exact c71⟩,by rw [J8 (w:=ε) e7];exact ο.fr 1⟩,λw40 hw40=>⟨by unfold aj;omega,?_,by show((ts.length:Int) - ((i:Int)+1)).toNat< ((ts.length:Int) - i).toNat;omega⟩⟩;obtain⟨bd40,k40⟩:=ο.Ib c71 k38 ho38 hn38 hw40;have ς:=Ex.trans γ ξ;have x40:Ex w w40:=Ex.below ς (Kp.below k40 ς.size λg G hM=>by have :=(H.mr g hM).1;omega);refine⟨i+1,J++[ts[i]],_,by omega,by omega,x40,bd40,?_⟩;rw [hts,JV (by rw [hPt];simp),yb,Dx];exact af.app (af.kp k40 (λg G hM=>by have :=(H.mr g hM).1;omega) (af.ex V ξ)) (af.ex he3 x40)
 ·have δ:i=l.bn.length:=by simp only [JE]at hge1;omega
  rw [δ,J3]at V;obtain⟨am,capm,hvm⟩:=hm.slice;have hl2:J.length<=l.tot:=hl1;have hmsl:=hms.1;refine⟨am,_,capm,hvm,λx w'=>∃(j:Nat) (ω:List Value) (M2:Nat->Prop),x=j/\j<=mvs.length/\Ex w w'/\jZ w.heap.size w' b7 (O++(joinL (ms.take j)).1) ω M2/\af (λg=>g< w.heap.size) w' ((elsL (jX P l.bn 0)).app (joinL (ms.take j)).2) ω,λx _=>(mvs.length - x).toNat,⟨0,J,M,rfl,Ks _,γ,by simpa [joinL]using H,by simpa [joinL,Lv.aV]using V⟩,λx υ hI=>?_⟩;obtain⟨j,ω,M2,rfl,hj,ζ,I,β⟩:=hI;refine⟨λhlt2=>?_,λhge2=>?_⟩
  ·have η:j< mvs.length:=by simp only [JD]at hlt2;omega
   obtain⟨bm,om,Z,hvm',hcm⟩:∃bm om Z,vm= .slice (some ⟨bm,om,none⟩) mvs.length Z/\υ.cell? ⟨bm,om+j,none⟩=some mvs[j]:=by
    rcases hm with⟨_,h0⟩ | ⟨bt,ot,z,e,hbD,hb',W⟩
    ·rw [h0]at η;simp at η
    ·exact⟨bt,ot,z,e,by rw [ζ.cell (show bt< _ from hb')];exact W j _ (JC η)⟩
   obtain⟨L,hL1,hL2,hL3⟩:=aK.single hms (JC η);have hjm:j< ms.length:=by omega
   have hL4:ms[j]=L:=by rw [JC hjm]at hL1;exact Kt hL1
   have α:joinL (ms.take (j+1))=((joinL (ms.take j)).1++L.1,(joinL (ms.take j)).2.app L.2):=by
    rw [JG hjm,pn,hL4,pP]
   obtain⟨k1,k2⟩:=lf ms (j+1);rw [α]at k1 k2;simp only [JJ,Lv.bV]at k1 k2;obtain⟨ts3,hl3,ht3⟩:=aB.ths (aB.ex (aB.sub (E:=λg=>g< w.heap.size) hL3 λg G _=>G) ζ);have h47:=β.len;have h47':=bT ((elsL (jX P l.bn 0)).app (joinL (ms.take j)).2);rw [Lv.bV,lx]at h47';have hp:=κ l.bn.length;rw [J3]at hp;have h3l:=ht3.len;have h3t:=bT L.2;refine⟨bm,om,_,Z,hvm',by omega,by omega,mvs[j],by rw [JI,Kc];exact hcm,tL I ζ.size hl3 ht3.all (λg G hM=>by have :=(I.mr g hM).1;omega) ⟨by simp only [JJ];omega,by omega⟩ λw53 M3 k53 bd53 _=>⟨by unfold aj;omega,?_,by show((mvs.length:Int) - ((j:Int)+1)).toNat< ((mvs.length:Int) - j).toNat;omega⟩⟩;have x53:Ex w w53:=Ex.below ζ (Kp.below k53 ζ.size λg G hM=>by have :=(I.mr g hM).1;omega);refine⟨j+1,ω++ts3,M3,by omega,by omega,x53,?_,?_⟩
   ·rw [α,<-Kg];exact bd53
   ·rw [α,<-Lv.cw];exact af.app (af.kp k53 (λg G hM=>by have :=(I.mr g hM).1;omega) β) (af.kp k53 (λg G hM=>by have :=(I.mr g hM).1;omega) ht3)
  ·have η:j=ms.length:=by simp only [JE]at hge2;omega
   rw [η,J3]at I β;have hp:=κ l.bn.length;rw [J3]at hp;have hLv:fS (λg=>g< υ.heap.size) υ (ptr b7) res.1 (af (λg=>g< υ.heap.size) υ res.2):=by
    rw [θ];exact I.IL (λg G _=>G) (af.sub (λg G _=>G) β)
   refine uV hLv ?_ ?_ huq hfr λw56 x56=>hR w56 (Ex.trans ζ x56)
   ·rw [θ];exact Lv.gH (Be λe he=>Fl hsh e (rD he)) (yf hmsh)
   ·rw [θ];simp only [JJ,Lv.bV,lx];omega
def cE (B:Nat)(w:World)(v:Value)(n:Nat)(xs:List Value):Prop:=w.ownsRow B 160 5 v n xs
theorem cE.nil (B:Nat)(w:World):cE B w (.slice none 0 0) 0 []:=World.ownsRow_nil _ _ _ _
theorem cE.block {B:Nat}{w:World}{v:Value}{n:Nat}{xs:List Value}(h:cE B w v n xs):∀b,v.ownBlock=some b->B<=b/\b< w.heap.size:=MH h
theorem cE.kp {B:Nat}{w w':World}{S:Nat->Prop}{v:Value}{n:Nat}{xs:List Value}(h:cE B w v n xs)(k:Kp w w' S)(G:∀g,v.ownBlock=some g->¬S g):cE B w' v n xs:=by
 refine⟨h.1,?_⟩;rcases h.2 with H | ⟨g,cap,cur,rfl,hb,z,rest⟩
 ·exact .inl H
 ·exact .inr ⟨g,cap,cur,rfl,hb,by rw [k.block g (Kj.1 z).1 (G g rfl)];exact z,rest⟩
theorem cE.ex {B:Nat}{w w':World}{v:Value}{n:Nat}{xs:List Value}(h:cE B w v n xs)(x:Ex w w'):cE B w' v n xs:=h.kp (Kp.ah x λ _=>False) λ _ _ h=>h
theorem cE.mono {B z:Nat}{w:World}{v:Value}{n:Nat}{xs:List Value}(h:cE B w v n xs)(hb:z<=B):cE z w v n xs:=MR h hb
theorem cE.zero {w w':World}{B b:Nat}(hB:B<=w.heap.size)(hb:b=w.heap.size)(h:w'=w.alloc (.cells #[] 160)):cE B w' (.slice (some ⟨b,0,none⟩) 0 0) 0 []:=by
 subst hb h;refine⟨rfl,.inr ⟨_,0,#[],rfl,hB,?_,by simp,by unfold maxLen;omega,rfl,rfl⟩⟩;unfold World.alloc;simp
theorem cE.one {w w':World}{B b:Nat}{cs:List Value}(z:cs.length=5)(hB:B<=w.heap.size)(hb:b=w.heap.size)(h:w'=w.alloc (.cells cs.toArray 160)):cE B w' (.slice (some ⟨b,0,none⟩) 1 1) 1 cs:=by
 subst hb h;refine⟨by rw [z],.inr ⟨_,1,cs.toArray,rfl,hB,?_,by simp,by unfold maxLen;omega,by simp [z],Mj (by simp [z])⟩⟩;unfold World.alloc;simp
theorem cE.cell {B:Nat}{w:World}{v:Value}{n:Nat}{xs:List Value}(h:cE B w v n xs):(v= .slice none 0 0/\n=0/\xs=[])\/∃g cap,v= .slice (some ⟨g,0,none⟩) n cap/\g< w.heap.size/\∀j u,xs[j]?=some u->w.cell? ⟨g,0+j,none⟩=some u:=by
 have z:=h.1;rcases h.2 with⟨I,G⟩ | ⟨g,cap,cur,rfl,hb,H,V,W,Z,h4⟩
 ·left;refine⟨I,G,J6 (by rw [z,G])⟩
 ·refine .inr ⟨g,cap,rfl,(Kj.1 H).1,λj u hu=>?_⟩;have J:j< xs.length:=(Ky.1 hu).1;unfold World.cell?;simp only [H,J'];rw [<-h4,K7 (by rw [<-z];exact J),Lg]at hu;exact hu
theorem cE.src {B:Nat}{w:World}{v:Value}{n:Nat}{xs:List Value}(h:cE B w v n xs)(ha:xs.all oneV=true):dN w v n 5 xs:=by
 refine⟨h.1,ha,?_⟩;rcases h.cell with⟨rfl,rfl,_⟩ | ⟨g,cap,rfl,_,z⟩
 ·exact .inl ⟨rfl,rfl⟩
 ·exact .inr ⟨g,0,cap,rfl,z⟩
theorem cE.push {B:Nat}{w:World}{v x:Value}{n m:Nat}{xs G:List Value}(h:cE B w v n xs)(hB:B<=w.heap.size)(H:dN w x m 5 G)(W:n+m<=1099511627776){K:Value->World->Prop}
  (I:∀v' w',cE B w' v' (n+m) (xs++G)->w.grownBy w' v.ownBlock->(∀b,v'.ownBlock=some b->v.ownBlock=some b\/w.heap.size<=b)->K v' w'):
  ∃(base n' m':Nat) (z news:List Value),World.ownsRow w base 160 5 v n' z/\base<=Array.size (World.heap w)/\dN w x m' 5 news/\(n'+m'<=maxLen/\(n'+m')* 40<=140737488355328)/\
   ∀(v':Value) (w':World),World.ownsRow w' base 160 5 v' (n'+m') (z++news)->World.grownBy w w' (Value.ownBlock v)->(∀b:Nat,Value.ownBlock v'=some b->Value.ownBlock v=some b\/Array.size (World.heap w)<=b)->K v' w':=
 ⟨B,n,m,xs,G,h,hB,H,⟨by unfold maxLen;omega,by omega⟩,λv' w' J V hw=>I v' w' J V hw⟩
def cQ (k:UInt8)(a b:Nat)(vr:Value)(s:Bool):List Value:=[.int .u8 k.toNat,iv a,iv b,vr,.bool s]
def lA (D:Nat->Prop)(w:World):Off Nat->List Value->Prop
 | .tau p,cs=>∃a b vr s,cs=cQ 126 a b vr s/\aB D w (td p) vr
 | .snd a b p,cs=>∃vr s,cs=cQ 33 a b vr s/\aB D w (td p) vr
 | .rcv a x q s,cs=>∃vr,cs=cQ 63 a x vr s/\aB D w (td q) vr
theorem lA.ex {D:Nat->Prop}{w w':World}{o:Off Nat}{cs:List Value}(h:lA D w o cs)(x:Ex w w'):lA D w' o cs:=by
 cases o with
 | tau p=>obtain⟨a,b,vr,s,z,G⟩:=h;exact⟨a,b,vr,s,z,aB.ex G x⟩
 | snd a b p=>obtain⟨vr,s,z,G⟩:=h;exact⟨vr,s,z,aB.ex G x⟩
 | rcv a b p s=>obtain⟨vr,z,G⟩:=h;exact⟨vr,z,aB.ex G x⟩
theorem lA.kp {D S:Nat->Prop}{w w':World}{o:Off Nat}{cs:List Value}(h:lA D w o cs)(k:Kp w w' S)(H:∀g,D g->¬S g):lA D w' o cs:=by
 cases o with
 | tau p=>obtain⟨a,b,vr,s,z,G⟩:=h;exact⟨a,b,vr,s,z,aB.kp G k H⟩
 | snd a b p=>obtain⟨vr,s,z,G⟩:=h;exact⟨vr,s,z,aB.kp G k H⟩
 | rcv a b p s=>obtain⟨vr,z,G⟩:=h;exact⟨vr,z,aB.kp G k H⟩
theorem lA.len {D:Nat->Prop}{w:World}{o:Off Nat}{cs:List Value}(h:lA D w o cs):cs.length=5/\cs.all oneV=true:=by
 cases o with
 | tau p=>obtain⟨a,b,vr,s,rfl,z⟩:=h;exact⟨rfl,by have :=z.one;simp only [cQ,KR,Mm,LY,this];rfl⟩
 | snd a b p=>obtain⟨vr,s,rfl,z⟩:=h;exact⟨rfl,by have :=z.one;simp only [cQ,KR,Mm,LY,this];rfl⟩
 | rcv a b p s=>obtain⟨vr,rfl,z⟩:=h;exact⟨rfl,by have :=z.one;simp only [cQ,KR,Mm,LY,this];rfl⟩
def OffsM (D:Nat->Prop)(w:World):List (Off Nat)->List Value->Prop
 | [],xs=>xs=[]
 | o::os,xs=>∃cs z,xs=cs++z/\lA D w o cs/\OffsM D w os z
section
variable {D S:Nat->Prop} {w w':World}
theorem OffsM.kp (k:Kp w w' S)(z:∀g,D g->¬S g):∀{os:List (Off Nat)} {xs:List Value},OffsM D w os xs->OffsM D w' os xs
 | [],_,h=>h
 | _::_,_,⟨cs,G,H,I,J⟩=>⟨cs,G,H,I.kp k z,OffsM.kp k z J⟩
theorem OffsM.ex {os:List (Off Nat)}{xs:List Value}(h:OffsM D w os xs)(x:Ex w w'):OffsM D w' os xs:=OffsM.kp (Kp.ah x λ _=>False) (λ _ _ h=>h) h
theorem OffsM.app:∀{os z:List (Off Nat)} {xs G:List Value},OffsM D w os xs->OffsM D w z G->OffsM D w (os++z) (xs++G)
 | [],_,_,_,h,k=>by cases h;exact k
 | _::_,_,_,_,⟨cs,zs,H,I,J⟩,k=>by subst H;exact⟨cs,zs++_,by rw [Kg],I,OffsM.app J k⟩
theorem OffsM.len:∀{os:List (Off Nat)} {xs:List Value},OffsM D w os xs->xs.length=os.length* 5/\xs.all oneV=true
 | [],_,h=>by cases h;exact⟨rfl,rfl⟩
 | o::os,_,⟨cs,Z,z,G,H⟩=>by
  subst z;obtain⟨I,J⟩:=G.len;obtain⟨V,W⟩:=OffsM.len H;refine⟨by rw [JJ,I,V,JA];omega,by rw [L9,J,W];rfl⟩
theorem OffsM.at:∀{os:List (Off Nat)} {xs:List Value},OffsM D w os xs->∀{i:Nat} (G:i< os.length),∃cs,lA D w os[i] cs/\∀j,j< 5->xs[i* 5+j]?=cs[j]?
 | o::os,_,⟨cs,W,H,z,J⟩,0,G=>by
  subst H;refine⟨cs,z,λj V=>?_⟩;rw [List.getElem?_append_left (by rw [z.len.1];omega)]
  congr 1;omega
 | o::os,_,⟨cs,W,H,z,J⟩,i+1,G=>by
  subst H;obtain⟨I,Z,k2⟩:=OffsM.at J (i:=i) (by simpa using G);refine⟨I,Z,λj V=>?_⟩;rw [<-k2 j V,List.getElem?_append_right (by rw [z.len.1];omega),z.len.1]
  congr 1;omega
theorem OffsM.one {o:Off Nat}{cs:List Value}(h:lA D w o cs):OffsM D w [o] cs:=⟨cs,[],by simp,h,rfl⟩
end
def pre:U->Bool
 | .snd .. =>true | .rcv .. =>true | .tau .. =>true | _=>false
theorem wC {u:U}(h:pre u=true):∃o,offs u=[o]:=by cases u<;>first | exact⟨_,rfl⟩ | cases h
theorem Cr {D:Nat->Prop}{w:World}{u:U}{v:Value}(hp:pre u=true)(h:af D w (tl [u]) [v]):∃(g:Nat) (k:UInt8) (a b:Nat) (vr:Value) (r:U),v=ptr g/\D g/\g< w.heap.size/\w.cell? ⟨g,0,none⟩=some (.int .u8 k.toNat)/\w.cell? ⟨g,1,none⟩=some (iv a)/\w.cell? ⟨g,2,none⟩=some (iv b)/\w.cell? ⟨g,3,none⟩=some vr/\
  (k=126\/k=33\/k=63)/\aB D w (td r) vr/\(∀s,k=63->∀a' x q,u= .rcv a' x q->lA D w (.rcv a' x q s) (cQ k a b vr s))/\(∀s o,offs u=[o]->k≠63->lA D w o (cQ k a b vr s))/\(∀o,offs u=[o]->lA D w o (cQ k a b vr false))/\(k=63↔∃a' x q,u= .rcv a' x q):=by
 cases u<;>try cases hp
 ·rename_i a b p;obtain⟨t,I,a',H,vr,J,⟨g,V,W,Z,c0,c1,c2,c3,c4⟩,hk,z,_⟩:=h;obtain⟨rfl,rfl⟩:=KG J;obtain⟨rfl,rfl⟩:a'=a/\H=b:=by rcases hk with h | h | h<;>first | exact h | cases h
  refine⟨g,33,a',H,vr,p,V,W,Z,c0,c1,c2,c3,.inr (.inl rfl),z,λs h=>absurd h (by decide),λs o G _=>?_,λo G=>?_,⟨λh=>absurd h (by decide),fun⟨_,_,_,h⟩=>by cases h⟩⟩
  ·cases G;exact⟨vr,s,rfl,z⟩
  ·cases G;exact⟨vr,false,rfl,z⟩
 ·rename_i a b p;obtain⟨t,I,a',H,vr,J,⟨g,V,W,Z,c0,c1,c2,c3,c4⟩,hk,z,_⟩:=h;obtain⟨rfl,rfl⟩:=KG J;obtain⟨rfl,rfl⟩:a'=a/\H=b:=by rcases hk with h | h | h<;>first | exact h | cases h
  refine⟨g,63,a',H,vr,p,V,W,Z,c0,c1,c2,c3,.inr (.inr rfl),z,λs _ a2 x q e=>?_,λs o G h=>absurd rfl h,λo G=>?_,⟨λ _=>⟨_,_,_,rfl⟩,λ _=>rfl⟩⟩
  ·cases e;exact⟨vr,rfl,z⟩
  ·cases G;exact⟨vr,rfl,z⟩
 ·rename_i p;obtain⟨t,I,a',H,vr,J,⟨g,V,W,Z,c0,c1,c2,c3,c4⟩,hk,z,_⟩:=h;obtain⟨rfl,rfl⟩:=KG J;refine⟨g,126,a',H,vr,p,V,W,Z,c0,c1,c2,c3,.inl rfl,z,λs h=>absurd h (by decide),λs o G _=>?_,λo G=>?_,⟨λh=>absurd h (by decide),fun⟨_,_,_,h⟩=>by cases h⟩⟩
  ·cases G;exact⟨a',H,vr,s,rfl,z⟩
  ·cases G;exact⟨a',H,vr,false,rfl,z⟩
theorem Ea {u:U}(n:u.Nr):offs u=u.mi.flatMap offs:=by
 induction u with
 | sum p q G z=>
  have :=z n.2.2;simp only [offs,T.mi,Lb];rw [this]
 | _=>simp [T.mi]
theorem E6 {u:U}(n:u.Nr)(z:u.smp=true)(I:u.gp=true)(hd:u.dead=false):∀s∈u.mi,pre s=true/\s.Nr/\(∀x∈BV s,x∈BV u)/\(BV s).Sublist (BV u):=by
 induction u with
 | sum p q ih G=>
  simp only [T.smp,JF]at z;intro s h;rcases JX.1 h with rfl | h
  ·refine⟨?_,n.2.1,λx H=>Ke _ H,LL _ _⟩;have J:=n.1.2.2;have V:=z.1.1;have W:=n.1.1;cases s<;>first | rfl | (cases V;done) | (cases J;done) | (cases W;done)
  ·obtain⟨Z,k2,k3,k4⟩:=G n.2.2 z.2.2 z.1.2 n.1.2.1 s h;exact⟨Z,k2,λx H=>J7 _ (k3 x H),k4.trans (K3 _ _)⟩
 | nil=>cases hd
 | snd a b p=>intro s h;cases JO.1 h;exact⟨rfl,n,λ _ h=>h,KL _⟩
 | rcv a b p=>intro s h;cases JO.1 h;exact⟨rfl,n,λ _ h=>h,KL _⟩
 | tau p=>intro s h;cases JO.1 h;exact⟨rfl,n,λ _ h=>h,KL _⟩
 | _=>cases I
theorem GH {D:Nat->Prop}{w:World}:∀{l:List U} {us:List Value},af D w (tp l) us->us.length=l.length/\∀j (h:j< l.length) (z:j< us.length),aB D w (td l[j]) us[j]
 | [],us,h=>by cases h;exact⟨rfl,λj h=>by cases h⟩
 | u::l,_,⟨v,G,e,H,I⟩=>by
  subst e;obtain⟨J,V⟩:=GH I;refine⟨by simp [J],λj h z=>?_⟩;cases j with
  | zero=>exact H
  | succ j=>simpa using V j (by simpa using h) (by simpa using z)
theorem AS {D:Nat->Prop}{w:World}:∀{l:List U} {us:List Value},(∀u∈l,u.th=true)->af D w (tl l) us->us.length=l.length/\∀j (h:j< l.length) (h':j< us.length),af D w (tl [l[j]]) [us[j]]
 | [],us,_,h=>by cases h;exact⟨rfl,λj h=>by cases h⟩
 | u::l,us,G,h=>by
  have h0:=G u (by simp);have key:∃v z,us=v::z/\af D w (tl [u]) [v]/\af D w (tl l) z:=by
   cases u<;>try cases h0
   all_goals
    first
    | (obtain⟨t,z,a',W,vr,e,H,I,J,V⟩:=h;exact⟨t,z,e,⟨t,[],a',W,vr,rfl,H,I,J,rfl⟩,V⟩)
    | (obtain⟨t,z,a',W,vp,Z,e,H,I,J,V⟩:=h;exact⟨t,z,e,⟨t,[],a',W,vp,Z,rfl,H,I,J,rfl⟩,V⟩)
  obtain⟨v,z,e,H,I⟩:=key;subst e;obtain⟨J,V⟩:=AS (λu hu=>G u (JR _ hu)) I;refine⟨by simp [J],λj h h'=>?_⟩;cases j with
  | zero=>exact H
  | succ j=>simpa using V j (by simpa using h) (by simpa using h')
theorem Ep {D:Nat->Prop}{w:World}{u:U}{v:Value}(hp:pre u=true)(h:af D w (tl [u]) [v]){R:Value->World->Prop}(hR:∀v' w' xs,Ex w w'->cE w.heap.size w' v' (offs u).length xs->OffsM D w' (offs u) xs->R v' w'):
  Calls Tryz.prog 140 #[v] w (an [.v] R):=by
 refine eG v w R ?_;obtain⟨o,W⟩:=wC hp;obtain⟨g,k,a,b,vr,r,H,hD,hl,c0,c1,c2,c3,hk,Z,_,_,α,_⟩:=Cr hp h;refine⟨g,0,H,k,c0,λx w'=>w'=w/\x=true,?_,λx I hJ=>?_⟩
 ·rcases hk with rfl | rfl | rfl
  ·exact⟨λ _=>⟨rfl,by decide⟩,λh=>absurd h (by decide)⟩
  ·exact⟨λh=>absurd h (by decide),λ _=>⟨λ _=>⟨rfl,by decide⟩,λh=>absurd h (by decide)⟩⟩
  ·exact⟨λh=>absurd h (by decide),λ _=>⟨λh=>absurd h (by decide),λ _=>⟨rfl,by decide⟩⟩⟩
 ·obtain⟨rfl,rfl⟩:=hJ;refine⟨λ _=>⟨λw'=>Ex I w',λw9 β=>?_⟩,λh=>by cases h⟩;have x9:Ex I w9:=β▸Ex.drew I;have cg:∀{w':World},Ex I w'->∀j,w'.cell? ⟨g,j,none⟩=I.cell? ⟨g,j,none⟩:=λx j=>x.cell (show g< _ from hl)
  refine⟨x9,g,0,H,k,λw' x=>by rw [cg x];exact c0,g,0,H,a,λw' x=>by rw [cg x];exact c1,g,0,H,b,λw' x=>by rw [cg x];exact c2,g,0,H,vr,λw' x=>by rw [cg x];exact c3,Z.one,λδ J V G=>?_⟩;have γ:Ex w9 J:=G▸Ex.alloc w9 _;have z:=Ex.trans x9 γ;refine⟨z,hR _ J (cQ k a b vr false) z ?_ ?_⟩
  ·rw [W];exact cE.one rfl x9.size V G
  ·rw [W];exact OffsM.one ((α o W).ex z)
theorem rM {D:Nat->Prop}{w:World}{u:U}{v:Value}(hth:u.th=true)(hq:Uq u)(n:u.Nr)(hs:u.smp=true)(hz:u.size<=1000000)(hDw:∀g,D g->g< w.heap.size)(h:af D w (tl [u]) [v]){R:Value->World->Prop}(hR:∀v' w' xs,Ex w w'->cE w.heap.size w' v' (offs u).length xs->OffsM D w' (offs u) xs->R v' w'):
  Calls Tryz.prog 140 #[v] w (an [.v] R):=by
 by_cases hp:pre u=true
 ·exact Ep hp h hR
 refine eG v w R ?_;cases u<;>first | (exact absurd rfl hp) | (cases hth;done) | skip
 case mat a b p=>
  obtain⟨t,ts',a',b',vr,e1,⟨g,hg,hD,hl,c0,c1,c2,c3,c4⟩,hk,δ,_⟩:=h;obtain⟨rfl,rfl⟩:=KG e1;refine⟨g,0,hg,_,c0,λx w'=>w'=w/\x=false,⟨λh=>absurd h (by decide),λ _=>⟨λh=>absurd h (by decide),λ _=>⟨rfl,by decide⟩⟩⟩,λx H hJ=>?_⟩;obtain⟨rfl,rfl⟩:=hJ;refine⟨λh=>(by cases h),λ _=>aS (by decide) (aS (by decide) (hR _ H [] (Ex.refl _) (cE.nil _ _) rfl))⟩
 case rep p=>
  simp only [T.smp,JF]at hs;cases p<;>try (simp [T.isR]at hs)
  rename_i a x q;obtain⟨t,ts',a',b',vr,e1,⟨g,hg,hD,hl,c0,c1,c2,c3,c4⟩,hk,δ,_⟩:=h;obtain⟨rfl,rfl⟩:=KG e1;have etd:td (.rcv a x q)=([],tl [.rcv a x q]):=jg hq.rep n.2;rw [etd]at δ;obtain⟨br,vo2,θ,ι,rfl,k2,k3,k4,k5,k6,k7,k8⟩:=δ;obtain⟨hl2,hat⟩:=AS (l:=[T.rcv a x q]) (λu hu=>by cases JO.1 hu;rfl) k8;obtain⟨v2,rfl⟩:∃v2,ι=[v2]:=by
   match ι,hl2 with
   | [v2],_=>exact⟨v2,rfl⟩
  have hp2:=Cr (u:= .rcv a x q) rfl (hat 0 (by simp) (by simp));obtain⟨g2,kk,a2,b2,vr2,r2,hg2,hD2,hlt2,d0,d1,d2,d3,hkk,hlv2,hof,_,_,hiff⟩:=hp2;have hk63:kk=63:=hiff.2 ⟨_,_,_,rfl⟩;subst hk63;obtain⟨at_,κ,hvt⟩:=k7.slice;refine⟨g,0,hg,_,c0,λx w'=>w'=w/\x=false,⟨λh=>absurd h (by decide),λ _=>⟨λh=>absurd h (by decide),λ _=>⟨rfl,by decide⟩⟩⟩,λy H hJ=>?_⟩;obtain⟨rfl,rfl⟩:=hJ;refine⟨λh=>(by cases h),λ _=>cS (by decide) λb24 w25 hb24 hw25=>?_⟩;have x25:Ex H w25:=hw25▸Ex.alloc H _;refine⟨g,0,hg,ptr br,by rw [x25.cell (show g< _ from hl)];exact c3,br,0,rfl,θ,by rw [x25.cell (show br< _ from k3)];exact k5,at_,_,κ,hvt,λout i w'=>(i=0/\Ex H w'/\cE H.heap.size w' out 0 [])\/(i=1/\Ex H w'/\cE H.heap.size w' out 1 (cQ 63 a2 b2 vr2 true)),λ _ i _=>(1 - i).toNat,.inl ⟨rfl,x25,cE.zero (JL _) hb24 hw25⟩,λout i w36 hI=>?_⟩;rcases hI with⟨rfl,ε,J⟩ | ⟨rfl,ε,J⟩
  ·obtain⟨bt,W,G,μ,Z,hbl,hcl⟩:∃bt W G,θ= .slice (some ⟨bt,W,none⟩) 1 G/\D bt/\bt< H.heap.size/\H.cell? ⟨bt,W+0,none⟩=some v2:=by
    rcases k7 with⟨_,h0⟩ | ⟨bt,W,G,e,Z,ν,I⟩
    ·cases h0
    ·exact⟨bt,W,G,e,Z,ν,I 0 _ rfl⟩
   refine cS (by simp) ⟨bt,W,1,G,μ,by omega,by omega,v2,?_,g2,0,hg2,63,?_,cS (by decide) ⟨λw'=>Ex H w',λw46 hw46=>?_⟩⟩
   ·rw [show(0:Int).toNat* 1=0 from rfl,ε.cell (show bt< _ from hbl)];exact hcl
   ·rw [ε.cell (show g2< _ from hlt2)];exact d0
   have x46':Ex w36 w46:=hw46▸Ex.drew w36;have x46:=Ex.trans ε x46';have cg:∀{w':World},Ex H w'->∀j,w'.cell? ⟨g2,j,none⟩=H.cell? ⟨g2,j,none⟩:=λx j=>x.cell (show g2< _ from hlt2)
   refine⟨x46,g2,0,hg2,a2,λw' x=>by rw [cg x];exact d1,g2,0,hg2,b2,λw' x=>by rw [cg x];exact d2,g2,0,hg2,vr2,λw' x=>by rw [cg x];exact d3,hlv2.one,λb56 w57 hb56 hw57=>?_⟩;have x57':Ex w46 w57:=hw57▸Ex.alloc w46 _;have ζ:=Ex.trans x46 x57';have o1:cE w46.heap.size w57 (.slice (some ⟨b56,0,none⟩) 1 1) 1 (cQ 63 a2 b2 vr2 true):=cE.one rfl (JL _) hb56 hw57;have hone:(cQ 63 a2 b2 vr2 true).all oneV=true:=by have :=hlv2.one;simp only [cQ,KR,Mm,LY,this];rfl
   refine⟨ζ,cE.push (J.ex (Ex.trans x46' x57')) (by have :=ζ.size;omega) (o1.src hone) (by omega) λv63 w64 ho64 hg64 _=>⟨?_,by unfold aj;omega,.inr ⟨rfl,?_,?_⟩,by show(1 - (0+1):Int).toNat< (1 - 0:Int).toNat;decide⟩⟩
   ·exact Ex.below ζ (Kp.below (Kp.aP (S:=λg=>out.ownBlock=some g) hg64 λ _ h=>h) ζ.size λg hg e=>by have :=(J.block g e).1;omega)
   ·exact Ex.below ζ (Kp.below (Kp.aP (S:=λg=>out.ownBlock=some g) hg64 λ _ h=>h) ζ.size λg hg e=>by have :=(J.block g e).1;omega)
   ·simpa using ho64
  ·refine aS (by simp) (hR out w36 _ ε J ?_);exact OffsM.one ((hof true rfl a x q rfl).ex ε)
 case sum p q=>
  have hlive:(T.sum p q).dead=false:=n.rE rfl;have hsm:=E6 n hs rfl hlive;have hofs:=Ea n;have etl:tl [T.sum p q]= .sum (tp (T.sum p q).mi) .nil:=by
   simp only [tl,T.mi];rw [en hq.dX n.2.1 n.1.1,en hq.dJ n.2.2 n.1.2.1,T.fU n.1.2.2];rfl
  rw [etl]at h;obtain⟨t,ts',a',b',vp,us,e1,⟨g,hg,hD,hl,c0,c1,c2,c3,c4⟩,hus,hps,_⟩:=h;obtain⟨rfl,rfl⟩:=KG e1;obtain⟨hul,hua⟩:=GH hps;generalize hS:(T.sum p q).mi=S at*;have hSl:S.length<=1000000:=by
   have:∀u:U,u.mi.length<=u.size:=by
    intro u
    induction u with
    | sum p q _ ih=>simp only [T.mi,JA,T.size];omega
    | _=>simp only [T.mi,JA,JQ,T.size];omega
   have :=this (T.sum p q);rw [hS]at this;omega
  have hol:∀i,((S.take i).flatMap offs).length=(S.take i).length:=by
   have:∀l:List U,(∀s∈l,pre s=true)->(l.flatMap offs).length=l.length:=by
    intro l
    induction l with
    | nil=>intro _;rfl
    | cons s l ih=>
     intro hl;obtain⟨o,ho⟩:=wC (hl s (by simp));simp only [Lb,ho,JJ,JA,JQ,ih λx hx=>hl x (by simp [hx])];omega
   exact λi=>this _ λs α=>(hsm s (List.mem_of_mem_take α)).1
  obtain⟨au,cau,hvu⟩:=hus.slice;refine⟨g,0,hg,43,c0,λx w'=>w'=w/\x=false,⟨λh=>absurd h (by decide),λ _=>⟨λh=>absurd h (by decide),λ _=>⟨rfl,by decide⟩⟩⟩,λy H hJ=>?_⟩;obtain⟨rfl,rfl⟩:=hJ;refine⟨λh=>(by cases h),λ _=>aS (by decide) (cS (by decide) λb68 w69 hb68 hw69=>?_)⟩;have x69:Ex H w69:=hw69▸Ex.alloc H _;refine⟨g,0,hg,vp,by rw [x69.cell (show g< _ from hl)];exact c4,au,_,cau,hvu,λout i w'=>∃(j:Nat) (xs:List Value),i=j/\j<=us.length/\Ex H w'/\cE H.heap.size w' out ((S.take j).flatMap offs).length xs/\OffsM D w' ((S.take j).flatMap offs) xs,λ _ i _=>(us.length - i).toNat,⟨0,[],rfl,Ks _,x69,by simpa using cE.zero (JL _) hb68 hw69,by simp [OffsM]⟩,λout i w80 hI=>?_⟩;obtain⟨j,xs,rfl,hj,x80,ξ,ο⟩:=hI;refine⟨λhlt=>?_,λhge=>?_⟩;rotate_left
  ·have:j=S.length:=by simp only [JE]at hge;omega
   rw [this,J3]at ξ ο;rw [hofs]at hR;exact hR out w80 xs x80 ξ ο
  have hjl:j< us.length:=by simp only [JD]at hlt;omega
  have hjS:j< S.length:=by omega
  have η:=hsm S[j] (JM hjS);obtain⟨bu,ou,β,hvu',Z,hbu,hcu⟩:∃bu ou β,vp= .slice (some ⟨bu,ou,none⟩) us.length β/\D bu/\bu< H.heap.size/\H.cell? ⟨bu,ou+j,none⟩=some us[j]:=by
   rcases hus with⟨_,h0⟩ | ⟨bt,W,G,e,Z,ν,I⟩
   ·rw [h0]at hjl;simp at hjl
   ·exact⟨bt,W,G,e,Z,ν,I j _ (JC hjl)⟩
  have δ:=hua j hjS hjl;have huqS:Uq S[j]:=by
   refine⟨hq.nd.sublist η.2.2.2,λx hx hf=>?_⟩;have hfr:∀u:U,∀s∈u.mi,∀z,s.Fr z->u.Fr z:=by
    intro u
    induction u with
    | sum p q _ ih=>
     intro s α z hz;rcases JX.1 α with rfl | α
     ·exact .inl hz
     ·exact .inr (ih s α z hz)
    | _=>intro s α z hz;cases JO.1 α;exact hz
   exact hq.nf x (η.2.2.1 x hx) (hfr _ S[j] (by rw [hS];exact JM hjS) x hf)
  have ς:(S[j]).th=true:=by
   have h1:=η.1;revert h1;cases S[j]<;>first | (intro _;rfl) | (intro h;cases h)
  have etd:td S[j]=([],tl [S[j]]):=by rw [jg huqS η.2.1,T.il ς,T.nh ς]
  rw [etd]at δ;obtain⟨br,vo2,θ,ι,hbr,k2,k3,k4,k5,k6,k7,k8⟩:=δ;obtain⟨hl2,hat⟩:=AS (l:=[S[j]]) (λu hu=>by cases JO.1 hu;exact ς) k8;obtain⟨v2,rfl⟩:∃v2,ι=[v2]:=by
   match ι,hl2 with
   | [v2],_=>exact⟨v2,rfl⟩
  have ha2:=hat 0 (by simp) (by simp);obtain⟨at_,κ,hvt⟩:=k7.slice;have htk:(S.take (j+1)).flatMap offs=(S.take j).flatMap offs++offs S[j]:=by rw [JG hjS,KV];simp
  refine⟨bu,ou,_,β,hvu',by omega,by omega,us[j],?_,br,0,hbr,θ,by rw [x80.cell (show br< _ from k3)];exact k5,at_,_,κ,hvt,λout i w'=>(i=0/\∃xs,Ex H w'/\cE H.heap.size w' out ((S.take j).flatMap offs).length xs/\OffsM D w' ((S.take j).flatMap offs) xs)\/(i=1/\∃xs,Ex H w'/\cE H.heap.size w' out ((S.take (j+1)).flatMap offs).length xs/\OffsM D w' ((S.take (j+1)).flatMap offs) xs),
   λ _ i _=>(1 - i).toNat,.inl ⟨rfl,xs,x80,ξ,ο⟩,λout2 i w93 hI2=>?_⟩
  ·rw [JI,Kc,x80.cell (show bu< _ from hbu)];exact hcu
  rcases hI2 with⟨rfl,xs2,υ,V,φ⟩ | ⟨rfl,xs2,υ,V,φ⟩
  ·obtain⟨bt,W,G,μ,hbD2,hbl,hcl⟩:∃bt W G,θ= .slice (some ⟨bt,W,none⟩) 1 G/\D bt/\bt< H.heap.size/\H.cell? ⟨bt,W+0,none⟩=some v2:=by
    rcases k7 with⟨_,h0⟩ | ⟨bt,W,G,e,Z,ν,I⟩
    ·cases h0
    ·exact⟨bt,W,G,e,Z,ν,I 0 _ rfl⟩
   refine cS (by simp) ⟨bt,W,1,G,μ,by omega,by omega,v2,?_,Ep η.1 (af.ex ha2 υ) λv99 w100 ys χ ho100 ψ=>?_⟩
   ·rw [show(0:Int).toNat* 1=0 from rfl,υ.cell (show bt< _ from hbl)];exact hcl
   have γ:=Ex.trans υ χ;have hlen1:=hol j;rw [Kf,LU (by omega)]at hlen1;obtain⟨o,hoo⟩:=wC η.1;have hlo:(offs S[j]).length=1:=by rw [hoo];rfl
   refine cE.push (V.ex χ) γ.size (ho100.src ψ.len.2) (by omega) λv106 w107 ho107 ω _=>⟨by unfold aj;omega,.inr ⟨rfl,xs2++ys,?_,?_,?_⟩,by show(1 - (0+1):Int).toNat< (1 - 0:Int).toNat;decide⟩
   ·exact Ex.below γ (Kp.below (Kp.aP (S:=λg=>out2.ownBlock=some g) ω λ _ h=>h) γ.size λg hg e=>by have :=(V.block g e).1;omega)
   ·rw [htk,JJ];exact ho107
   ·rw [htk];exact OffsM.kp (Kp.aP (S:=λg=>out2.ownBlock=some g) ω λ _ h=>h) (λg hgD e=>by have :=(V.block g e).1;have :=hDw g hgD;omega) ((φ.ex χ).app ψ)
  ·refine aS (by simp) ⟨by unfold aj;omega,⟨j+1,xs2,by omega,by omega,υ,V,φ⟩,by show((us.length:Int) - ((j:Int)+1)).toNat< ((us.length:Int) - j).toNat;omega⟩
theorem js {α β:Type}{g:α->β}:∀{l:List α} {m:List β},m.Perm (l.map g)->∃π:List α,π.Perm l/\m=π.map g
 | [],m,h=>⟨[],KK _,by simpa using h⟩
 | a::l,m,h=>by
  have hm:g a∈m:=h.symm.subset (by simp);obtain⟨s,t,rfl⟩:=List.append_of_mem hm;have z:(s++t).Perm (l.map g):=(MS (g a)).1 (Mi.symm.trans (by simpa using h));obtain⟨π,G,h4⟩:=js z;obtain⟨x,y,rfl,h5,H⟩:=List.append_eq_map_iff.1 h4;refine⟨x++a::y,Mi.trans (List.Perm.cons a G),?_⟩;simp [h5,H]
def rnv:List UInt8->List UInt8->Nat->Nat
 | o::os,l::ls,n=>rnv os ls (if n=o.toNat then l.toNat else n)
 | _,_,n=>n
theorem yK:∀(os ls:List UInt8) (o l:UInt8) (n:Nat),os.length=ls.length->rnv (os++[o]) (ls++[l]) n=if rnv os ls n=o.toNat then l.toNat else rnv os ls n
 | [],[],o,l,n,_=>rfl
 | [],_::_,_,_,_,h=>by cases h
 | _::_,[],_,_,_,h=>by cases h
 | a::os,b::ls,o,l,n,h=>by
  simp only [KC,rnv];exact yK os ls o l _ (by simpa using h)
theorem vS:∀(os ls:List UInt8) (n:Nat),(∀o∈os,n≠o.toNat)->rnv os ls n=n
 | [],_,_,_=>by simp [rnv]
 | _::_,[],_,_=>by simp [rnv]
 | a::os,b::ls,n,h=>by
  rw [rnv,JV (h a (by simp))];exact vS os ls n λo z=>h o (JR _ z)
theorem z7:∀(π:List Nat) (os ls:List UInt8) (g:Nat->Nat) (ρ:Rh) (y:Nat),os.map UInt8.toNat=π.map g->π.length=ls.length->(∀l∈ls,l∉os)->y∈π->(∀z∈π,g z=g y->z=y)->os.Nodup->
  rnv os ls (g y)=(asg π ls ρ y).toNat
 | [],_,_,_,_,_,_,_,_,h,_,_=>by cases h
 | z::π,[],_,_,_,_,h,_,_,_,_,_=>by simp at h
 | _::_,_::_,[],_,_,_,_,h,_,_,_,_=>by cases h
 | z::π,o::os,l::ls,g,ρ,y,h,hl,hd,hy,Z,G=>by
  simp only [J9,Kw]at h;have G:=KF.1 G;have H:∀I∈os,l.toNat≠I.toNat:=λI ho e=>hd l (by simp) (by rw [J4.1 e];exact JR _ ho)
  rw [rnv,asg];by_cases e:y=z
  ·subst e;rw [Ka h.1.symm,vS os ls _ H];by_cases hyp:y∈π
   ·exfalso;have:g y∈π.map g:=K9 hyp;rw [<-h.2,<-h.1]at this;obtain⟨I,h1,h2⟩:=Kk.1 this;exact G.1 (J4.1 h2▸h1)
   ·rw [bN π ls _ y hyp];simp [aF]
  ·have hyp:y∈π:=(JX.1 hy).resolve_left e;have J:¬g y=o.toNat:=λh'=>e ((Z z (by simp) (h.1.symm.trans h'.symm)).symm)
   rw [JV J];exact z7 π os ls g _ y h.2 (by simpa using hl) (λl' V W=>hd l' (JR _ V) (JR _ W)) hyp (λx hx=>Z x (JR _ hx)) G.2
structure DS (k m:Nat)(Θ ls A:Tx):Prop where
 len:ls.length=m
 nd:ls.Nodup
 ok:∀c∈ls,c∉Θ/\okn (k+m) c/\ngr c/\nm c=true
 srt:jm A
 mem:∀c,c∈A↔c∈Θ\/c∈ls
theorem TR.env {on:Bool}{u:U}{σ τ:Nat->Nat}{Θ r:Tx}(h:TR on u σ Θ r)(he:∀y,u.Us y->σ y=τ y):TR on u τ Θ r:=
 ⟨h.ne,h.len,h.cnt,h.bad,λa b c ρ G=>h.eq a b c ρ λy z=>(G y z).trans (he y z).symm⟩
theorem TR.le {on:Bool}{u:U}{k:Nat}{p:P}{σ τ:Nat->Nat}{Θ r:Tx}(h:TR on u τ Θ r)(d:Den k p σ u):r.length<=p.text.length:=by
 have z:=h.len;have G:=nQ d.ae;rw [T.aT];omega
structure IM (M:Nat)(p:P)(t:U)(τ:Nat->Nat)(Θ o ls:Tx)(i:Nat)(q:P):Prop where
 den:Den M q (λy=>rnv (o.take i) (ls.take i) (τ y)) t
 shp:q.shp=p.shp
 gf:∀z,q.Fr z->Gz z->z∈o.drop i
 cov:∀y,t.Us y->∃c:UInt8,c.toNat=rnv (o.take i) (ls.take i) (τ y)/\(c∈Θ\/c∈ls.take i\/c∈o.drop i)
theorem qZ {l:Tx}{i:Nat}(h:i< l.length):l.drop i=bt l i::l.drop (i+1):=bE h
theorem ij {l:Tx}{i:Nat}(h:i< l.length):l.take (i+1)=l.take i++[bt l i]:=by
 rw [JG h];simp [bt,h]
theorem IM.step {M k m:Nat}{p q q':P}{t:U}{τ:Nat->Nat}{Θ o ls A:Tx}{i:Nat}(h:IM M p t τ Θ o ls i q)(η:∀c∈Θ,ngr c)(α:DS k m Θ ls A)(ho:o.length=m)(β:∀c∈o,Gz c)(hi:i< m)
  (hr:iA M q (bt o i) (bt ls i) q'):IM M p t τ Θ o ls (i+1) q':=by
 have Z:i< o.length:=by omega
 have W:i< ls.length:=by rw [α.len];exact hi
 have hlen:(o.take i).length=(ls.take i).length:=by rw [Kf,Kf];omega
 have e:∀y,rnv (o.take (i+1)) (ls.take (i+1)) (τ y)=if rnv (o.take i) (ls.take i) (τ y)=(bt o i).toNat then(bt ls i).toNat else rnv (o.take i) (ls.take i) (τ y):=λy=>by
  rw [ij Z,ij W,yK _ _ _ _ _ hlen]
 have H:=α.ok _ (kX W);have ε:bt ls i∉ls.take i:=λhm=>by
  have γ:=α.nd;rw [<-KT i ls,qZ W]at γ;exact(Kh.1 γ).2.2 _ hm _ (by simp) rfl
 have ζ:bt ls i∉o.drop i:=λhm=>dZ H.2.2.1 (β _ (List.mem_of_mem_drop hm))
 have I:∀y,t.Us y->rnv (o.take i) (ls.take i) (τ y)≠(bt ls i).toNat:=λy hy he=>by
  obtain⟨c,J,G⟩:=h.cov y hy;have hc:c=bt ls i:=J4.1 (J.trans he);rcases G with G | G | G
  ·exact H.1 (hc▸G)
  ·exact ε (hc▸G)
  ·exact ζ (hc▸G)
 refine⟨⟨hr.wf,?_,⟨hr.eb,?_⟩,?_,?_,h.den.uq⟩,hr.shp.trans h.shp,λz hz hg=>?_,λy hy=>?_⟩
 ·have :=h.den.len;rw [T.aT,T.iY hr.shp,<-T.aT];exact this
 ·rw [T.zj hr.shp,T.wR hr.shp];exact h.den.bd.le
 ·have hh:=h.den.ae.renamed hr.ok (λx _ e=>J4.1 e);have e':(λy=>rnv (o.take (i+1)) (ls.take (i+1)) (τ y))=λy=>if rnv (o.take i) (ls.take i) (τ y)=(bt o i).toNat then(bt ls i).toNat else rnv (o.take i) (ls.take i) (τ y):=funext e
  rw [e'];exact hh
 ·intro y z hy hz V;simp only [e]at V;have δ:=h.den.inj y z hy hz;split at V<;>split at V
  ·rename_i J G;exact δ (J.trans G.symm)
  ·exact absurd V.symm (I z hz)
  ·exact absurd V (I y hy)
  ·exact δ V
 ·rcases hr.ok.free z hz with J | J | J
  ·exact absurd hg (dZ (J▸H.2.2.1))
  ·have :=h.gf z J.2 hg;rw [qZ Z]at this;exact(JX.1 this).resolve_left J.1
  ·have hh:=β _ (kX Z);rw [J.2.2]at hh;exact absurd hh (dZ H.2.2.1)
 ·obtain⟨c,J,G⟩:=h.cov y hy;rw [e];by_cases hc:rnv (o.take i) (ls.take i) (τ y)=(bt o i).toNat
  ·rw [Ka hc];exact⟨bt ls i,rfl,.inr (.inl (by rw [ij W];simp))⟩
  ·rw [JV hc];refine⟨c,J,?_⟩;rcases G with G | G | G
   ·exact .inl G
   ·exact .inr (.inl (by rw [ij W];simp [G]))
   ·rw [qZ Z]at G;rcases JX.1 G with h3 | h3
    ·exact absurd (J.symm.trans (by rw [h3])) hc
    ·exact .inr (.inr h3)
theorem aK.Ej {on:Bool}{σ:Nat->Nat}{Θ:Tx}:∀{rs:List Tx} {us:List U},aK (λr u=>TR on u σ Θ r) rs us->Proofs.YtdecokaadekjnaaGreat.dy rs<=jR us
 | [],[],_=>by simp [Proofs.YtdecokaadekjnaaGreat.dy,jR]
 | [],_::_,h=>by have :=h.1;simp at this
 | _::_,[],h=>by have :=h.1;simp at this
 | r::rs,u::us,h=>by
  have G:=(h.2 0 r u rfl rfl).len;have z:=aK.Ej (rs:=rs) (us:=us) (on:=on) (σ:=σ) (Θ:=Θ) ⟨by have :=h.1;simpa using this,λi a b ha hb=>h.2 (i+1) a b (by simpa using ha) (by simpa using hb)⟩;rw [dP];simp only [jR,J9,KN,JA]at z|-;omega
def vI (on:Bool)(σ:Nat->Nat)(u:U)(o ls A r:Tx):Prop:=
 ∃rs:List Tx,r=joinS 38 (aX rs)/\aK (λr t=>TR on t (λy=>rnv o ls (asgN (ak u).1 0 σ y)) A r) rs (ak u).2
theorem EL {n:Nat}(iht:vj n){k:Nat}{σ:Nat->Nat}{u:U}{Θ A o ls:Tx}{W:List P}{on br:Bool}{bm B:Nat}{vt:Value}{w:World}{R:ay->World->Prop}
  (hu:Uq u) (hne:(ak u).2≠[]) (hb:∀p∈W,k+(ak u).1.length+p.rd+p.ow<=64) (hsz:∀p∈W,p.size<=n) (γ:wQ k Θ σ u) (ο:aK (Gc k σ u 0) W (ak u).2) (G:DS k (ak u).1.length Θ ls A) (ho:o.Perm (gV (ak u).1.length))
  (hm64:(ak u).1.length<=64) (δ:Own B w vt (W.map T.text)) (hB:bm< B) (ς:MK w bm br on) (htl:jR (ak u).2<=1099511627776+3)
  (h:∀r w',Kp w w' (λg=>g=bm)->MK w' bm (br||(ak u).2.any λt=>decide (5< ax (tl [t]))) on->vI on σ u o ls A r->R r w'):
  Calls Tryz.prog 244 #[.pointer (some ⟨bm,0,none⟩),vt,.string (ab o),.string (ab ls),.string (ab A)] w (an [.s] R):=by
 refine lv _ vt o ls A w R ?_;have υ:o.length=(ak u).1.length:=by rw [ho.length_eq,gX]
 have hog:∀c∈o,Gz c:=λc hc=>by
  obtain⟨j,h1,rfl⟩:=ib.1 (ho.subset hc);exact vT (by omega)
 have hlen:=ο.1;have hbm:=ς.lt;have hlu:3* (ak u).2.length<=jR (ak u).2:=by unfold jR;omega
 obtain⟨av,cap,hv⟩:=δ.strs.slice;rw [JY]at hv;refine⟨av,_,cap,hv,λlist x w'=>∃(i:Nat) (rs:List Tx),x=i/\i<=(ak u).2.length/\Kp w w' (λg=>g=bm)/\MK w' bm (br||((ak u).2.take i).any λt=>decide (5< ax (tl [t]))) on/\
   Own w.heap.size w' list rs/\Own B w' vt (W.map T.text)/\aK (λr t=>TR on t (λy=>rnv o ls (asgN (ak u).1 0 σ y)) A r) rs ((ak u).2.take i),λ _ x _=>((ak u).2.length - x).toNat,?_,λlist x w3 hI=>?_⟩
 ·exact⟨0,[],rfl,by omega,Kp.ah (Ex.refl w) _,by simpa using ς,Own.nil _ _,δ,aK.nil⟩
 obtain⟨i,rs,rfl,hi,ι,κ,μ,φ,V⟩:=hI;have hs3:=ι.size;refine⟨λhc=>?_,λhc=>?_⟩
 ·have hc:=J0 hc;have χ:i< W.length:=by omega
  have ν:i< (ak u).2.length:=by omega
  refine φ.strs.get (Ex.refl w3) (i:=i) (x:=(W[i]).text) (by omega) (by simp [χ]) ?_;obtain⟨m0,τ,hkm,dp,ψ,hgf⟩:=ο.2 i _ _ (JC χ) (JC ν);have J:(ak u).2[i]∈(ak u).2:=JM _;have ω:W[i]∈W:=JM _;have hbp:=hb _ ω;have hszp:=hsz _ ω;generalize hM:max m0 (k+(ak u).1.length)=M;have hM1:m0<=M:=by omega
  have hM2:k+(ak u).1.length<=M:=by omega
  have hle:=dp.bd.le;have dM:Den M W[i] τ (ak u).2[i]:=⟨dp.wf,dp.len,⟨dp.bd.eb.mono hM1,by omega⟩,dp.ae,dp.inj,dp.uq⟩
  have hus:=kN u hu _ J;refine⟨λs j w'=>Ex w3 w'/\∃(j':Nat) (q:P),j=j'/\j'<=o.length/\s=q.text/\IM M W[i] (ak u).2[i] τ Θ o ls j' q,λ _ j _=>(o.length - j).toNat,⟨Ex.refl w3,0,W[i],rfl,by omega,rfl,?_⟩,λs j w4 hJ=>?_⟩
  ·refine⟨by simpa [rnv]using dM,rfl,λz hz hg=>?_,λy hy=>?_⟩
   ·obtain⟨j,h1,Z⟩:=hgf z hz hg;rw [Ll];exact ho.symm.subset (ib.2 ⟨j,by omega,Z⟩)
   ·simp only [List.take_zero,rnv,Ll];rw [ψ y hy];by_cases α:y∈(ak u).1
    ·obtain⟨j,hj,e⟩:=KA.1 α;refine⟨gl j,?_,.inr (.inr (ho.symm.subset (ib.2 ⟨j,hj,rfl⟩)))⟩;rw [<-e,jU _ _ _ _ hj (gj u hu),J']
    ·rw [ja _ _ _ _ α];obtain⟨c,h1,Z⟩:=γ.cov y ((hus y hy).resolve_right α);exact⟨c,Z,.inl h1⟩
  obtain⟨H,j',q,rfl,hj,rfl,hq⟩:=hJ;refine⟨λβ=>?_,λβ=>?_⟩
  ·have β:=J0 β;have hj':j'< o.length:=by omega
   refine⟨λ _=>True,λw5 hw5=>⟨trivial,⟨by omega,by omega⟩,⟨by omega,by rw [G.len];omega⟩,?_⟩⟩;have hx5:Ex w4 w5:=hw5▸Ex.drew w4;have hlq:=G.ok _ (kX (s:=ls) (i:=j') (by rw [G.len];omega));have hbd:=T.yd q;have hqle:=hq.den.bd.le;rw [JI];refine gF _ (JL _) hq.den.ok hq.den.bd.eb (by omega) hlq.2.2.2 (hlq.2.1.mono hM2) λq' w6 I hq'=>⟨trivial,by unfold aj;omega,⟨(H.trans hx5).trans I,j'+1,q',by omega,by omega,rfl,?_⟩,by dsimp only;omega⟩
   exact hq.step (λc hc=>(γ.okn c hc).2) G υ hog (by omega) hq'
  ·have β:=J1 β;have ej:j'=o.length:=by omega
   subst ej;have ζ:=hq.den;have e1:o.take o.length=o:=J3;have e2:ls.take o.length=ls:=by rw [υ,<-G.len];exact J3
   have η:=hq.cov;simp only [e1,e2]at ζ η;have hm4:=κ.ex H;have hszq:=T.ox hq.shp;refine iht (by omega) ζ (vA u _ J) (tj u _ J).1 (tj u _ J).2 (λz hz hg=>?_) ⟨G.srt,λc hc=>?_,λy hy=>?_⟩ hm4 λr w5 ε hm5 hr=>?_
   ·have :=hq.gf z hz hg;rw [Ld]at this;cases this
   ·rcases(G.mem c).1 hc with h1 | h1
    ·exact⟨(γ.okn c h1).1.mono (by omega),(γ.okn c h1).2⟩
    ·have :=G.ok c h1;exact⟨this.2.1.mono hM2,this.2.2.1⟩
   ·obtain⟨c,h1,Z⟩:=η y hy;refine⟨c,(G.mem c).2 ?_,h1⟩;rcases Z with Z | Z | Z
    ·exact .inl Z
    ·exact .inr Z
    ·rw [Ld]at Z;cases Z
   ·intro b6 w6 hb6 hw6;have I:Ex w5 w6:=hw6▸Ex.alloc w5 _;have hbl:∀g,list.ownBlock=some g->¬g=bm:=λg hg e=>by have :=(μ.block g hg).1;omega
    have ho5:Own w.heap.size w6 list rs:=((μ.ex H).kp ε hbl).ex I;have z4:=H.size;have z5:=ε.size;have z6:=I.size;have θ:rs.length=i:=by rw [V.1,Kf];omega
    refine Own.push ho5 (by omega) (Strs.one hb6 hw6) (by simp only [JA,JQ];omega) λv7 w7 ξ ho7 hg7 _=>?_
    refine⟨by unfold aj;omega,⟨i+1,rs++[r],by omega,by omega,?_,?_,ho7,?_,?_⟩,by dsimp only;omega⟩
    ·exact Kp.Df (Kp.trans (Kp.trans (Kp.trans ι (Kp.ah H _) λ _ _ h=>h) ε λ _ _ h=>h) (Kp.ah I _) λ _ _ h=>h) ξ (JL _)
    ·have hm6:=(hm5.ex I).below ξ hbm;rw [JG ν,List.any_append,<-K6];simpa using hm6
    ·have hvn:∀g,vt.ownBlock=some g->¬g=bm:=λg hg e=>by have :=(δ.block g hg).1;omega
     exact(((φ.ex H).kp ε hvn).ex I).below ξ λg hg=>(δ.block g hg).2
    ·rw [JG ν];refine V.snoc (hr.env λy hy=>?_);show rnv o ls (τ y)=_;rw [ψ y hy]
 ·have hc:=J1 hc;have e:i=(ak u).2.length:=by omega
  subst e;rw [J3]at κ V;have θ:rs.length=(ak u).2.length:=V.1;have hrs:rs≠[]:=λe=>hne (J6 (by rw [<-θ,e];rfl))
  refine nF μ.strs (by omega) λv4 w4 H ho4=>?_
  have hsn:aX rs≠[]:=λe=>hrs (by have :=aN rs;rw [e]at this;exact this.symm.eq_nil)
  have hll:dy rs<=jR (ak u).2:=V.Ej;refine tM ho4.strs hsn (by rw [lP (aN rs)];omega) ?_;exact h _ w4 (Kp.trans ι (Kp.ah H _) λ _ _ h=>h) (κ.ex H) ⟨rs,rfl,V⟩
theorem uH:∀(n:Nat) (tk:Tk),lets (n+1) tk=lets n tk++[iC (addK (lets n tk) tk)]
 | 0,tk=>rfl
 | n+1,tk=>by
  rw [lets,uH n,lets];rfl
theorem qc:∀(n:Nat) (tk:Tk),fV (n+1) tk=(fV n tk||(tR (addK (lets n tk) tk)).isNone)
 | 0,tk=>by simp [fV,lets,addK]
 | n+1,tk=>by
  rw [fV,qc n,fV];rw [lets,addK,K6]
theorem fA:∀(l:List UInt8) (s:Tx),(wrap l s).length=3* l.length+s.length
 | [],s=>by simp [wrap]
 | c::l,s=>by simp only [wrap,JA,fA l s];omega
theorem ta:∀{l:List UInt8} (s:Tx),(∀c∈l,¬c=35)->(wrap l s).count 35=l.length+s.count 35
 | [],s,_=>by simp [wrap]
 | c::l,s,h=>by
  have z:=ta (l:=l) s λc G=>h c (JR _ G)
  simp only [wrap,JA];rw [List.count_cons,bk (h c (by simp)),bk (by decide),z];simp;omega
theorem oS:∀{l:List UInt8} {s:Tx} {c:UInt8},(c∈l\/c∈s)->c∈wrap l s
 | [],s,c,h=>by simpa [wrap]using h
 | d::l,s,c,h=>by
  simp only [wrap,JX];rcases h with h | h
  ·rcases JX.1 h with h | h
   ·exact .inr (.inl h)
   ·exact .inr (.inr (.inr (oS (.inl h))))
  ·exact .inr (.inr (.inr (oS (.inr h))))
theorem gg {k m:Nat}{Θ ls A:Tx}(h:DS k m Θ ls A):cI A=addK ls (cI Θ):=by
 funext c
 rw [vh,cI,cI,KE];simp only [JD,KX];exact h.mem c
structure Gw (k i:Nat)(Θ ls A:Tx):Prop where
 ok:DS k i Θ ls A
 good:fV i (cI Θ)=false->ls=lets i (cI Θ)
 bad:fV i (cI Θ)=true->∃c∈ls,128<=c
theorem Gw.zero {k:Nat}{Θ:Tx}(h:jm Θ):Gw k 0 Θ [] Θ:=
 ⟨⟨rfl,K5,λc z=>(by cases z),h,λc=>by simp⟩,λ _=>rfl,λh=>by simp [fV]at h⟩
theorem Gw.snoc {k i:Nat}{Θ ls A V:Tx}{c:UInt8}(h:Gw k i Θ ls A)(G:yI (k+i) A c)(W:jm V)(Z:∀x,x∈V↔x=c\/x∈A):Gw k (i+1) Θ (ls++[c]) V:=by
 have I:c∉ls:=λhm=>G.nin ((h.ok.mem c).2 (.inr hm))
 have J:c∉Θ:=λhm=>G.nin ((h.ok.mem c).2 (.inl hm))
 refine⟨⟨by simp [h.ok.len],?_,λd hd=>?_,W,λd=>?_⟩,λhb=>?_,λhb=>?_⟩
 ·refine Kh.2 ⟨h.ok.nd,by simp,λa ha b hb e=>?_⟩;have:b=c:=by simpa using hb
  subst this;subst e;exact I ha
 ·rcases JN.1 hd with hd | hd
  ·have :=h.ok.ok d hd;exact⟨this.1,this.2.1.mono (by omega),this.2.2⟩
  ·have:d=c:=by simpa using hd
   subst this;exact⟨J,by rw [<-LX];exact G.okn,G.ngr,G.nm⟩
 ·rw [Z,h.ok.mem,JN,JO];constructor
  ·rintro(h | h | h)
   ·exact .inr (.inr h)
   ·exact .inl h
   ·exact .inr (.inl h)
  ·rintro(h | h | h)
   ·exact .inr (.inl h)
   ·exact .inr (.inr h)
   ·exact .inl h
 ·rw [qc,KZ]at hb;have e:=h.good hb.1;rw [uH,<-e]
  congr 2
  have z:=hb.2;rw [<-e,<-gg h.ok]at z;rw [<-gg h.ok];exact G.good z
 ·rw [qc,KX]at hb;cases H:fV i (cI Θ)with
  | true=>
   obtain⟨d,h1,h2⟩:=h.bad H;exact⟨d,by simp [h1],h2⟩
  | false=>
   rw [H]at hb;have z:=hb.resolve_left (by simp);rw [<-h.good H,<-gg h.ok]at z;exact⟨c,by simp,G.bad z⟩
theorem uY:∀n,n<=90->(gV n).Nodup
 | 0,_=>K5
 | n+1,h=>by
  rw [xS];refine Kh.2 ⟨uY n (by omega),by simp,λa ha b hb e=>?_⟩;have hb:b=gl n:=by simpa using hb
  obtain⟨j,G,z⟩:=ib.1 ha;have :=wv (by omega) (by omega) (z.symm.trans (e.trans hb));omega
structure zX (on:Bool)(σ:Nat->Nat)(u:U)(Lo:List Tx)(ls A best:Tx):Prop where
 mem:∃o∈Lo,vI on σ u o ls A best
 le:∀o∈Lo,∃r,vI on σ u o ls A r/\jk best r=true
theorem vI.ne {on:Bool}{σ:Nat->Nat}{u:U}{o ls A r:Tx}(h:vI on σ u o ls A r)(z:(ak u).2≠[]):r≠[]:=by
 obtain⟨rs,rfl,ha⟩:=h;have G:=aN rs;refine yg (λs H=>?_) λe=>z (J6 ?_)
 ·obtain⟨t,_,I⟩:=ha.get' (G.subset H);exact I.ne
 ·rw [e]at G;rw [<-ha.1,G.symm.eq_nil];rfl
theorem vI.text {k:Nat}{σ:Nat->Nat}{u:U}{Θ o ls A r:Tx}{π:List Nat}(h:vI false σ u o ls A r)(hu:Uq u)(V:wQ k Θ σ u)(W:DS k (ak u).1.length Θ ls A)(H:π.Perm (ak u).1)
  (ho:o.map UInt8.toNat=π.map (asgN (ak u).1 0 σ)) (I:o.Perm (gV (ak u).1.length)) (hm:(ak u).1.length<=64) (J:∀t∈(ak u).2,ax (tl [t])<=5) (Z:∀t∈(ak u).2,thBad (tl [t]) (cI A)=false) {ρ:Rh} (hc:Compat ρ σ u):
  r=joinS 38 (aX ((ak u).2.map λt=>thU t (asg π ls ρ) (cI A))):=by
 obtain⟨rs,rfl,ha⟩:=h
 congr 2
 have β:∀y∈(ak u).1,∀z∈(ak u).1,asgN (ak u).1 0 σ z=asgN (ak u).1 0 σ y->z=y:=by
  intro y hy z hz e;obtain⟨i,hi,rfl⟩:=KA.1 hy;obtain⟨j,hj,rfl⟩:=KA.1 hz;rw [jU _ _ _ _ hi (gj u hu),jU _ _ _ _ hj (gj u hu),J',J']at e;have :=wv (by omega) (by omega) (J4.1 e);subst this;rfl
 have γ:o.Nodup:=I.nodup_iff.2 (uY _ (by omega));have :=aK.map_eq (f:=λr:Tx=>r) (g:=λt=>thU t (asg π ls ρ) (cI A)) (ha.mono λr t _ ht hw=>hw.eq (J t ht) rfl (Z t ht) (asg π ls ρ) λy hy=>?_)
 ·simpa using this
 ·show(asg π ls ρ y).toNat=rnv o ls (asgN (ak u).1 0 σ y);by_cases G:y∈(ak u).1
  ·refine(z7 π o ls _ ρ y ho (by rw [H.length_eq,W.len]) (λl hl δ=>?_) (H.symm.subset G) (λz hz e=>β y G z (H.subset hz) e) γ).symm;obtain⟨j,h1,rfl⟩:=ib.1 (I.subset δ);exact dZ (W.ok _ hl).2.2.1 (vT (by omega))
  ·have α:=(kN u hu t ht y hy).resolve_right G;rw [bN π ls ρ y λh=>G (H.subset h),ja _ _ _ _ G,vS,hc y α];intro o' ε e;obtain⟨c,h1,h2⟩:=V.cov y α;obtain⟨j,h3,rfl⟩:=ib.1 (I.subset ε);have:c=gl j:=J4.1 (h2.trans e);exact dZ (V.okn c h1).2 (this▸vT (by omega))
theorem rA {u:U}(hu:Uq u):bg u<=5->(ak u).1.length<=5/\∀t∈(ak u).2,ax (tl [t])<=5:=by
 intro h;obtain⟨z,G,_⟩:=fL u hu;unfold bg at h;rw [z,G.length_eq]at h;exact⟨by omega,(rb _ _).1 (by omega)⟩
theorem yG {u:U}(hu:Uq u):decide (5< bg u)=(decide (5< (ak u).1.length)||(ak u).2.any λt=>decide (5< ax (tl [t]))):=by
 rw [KE,KX,JD,JD,LC];constructor
 ·intro h;rcases K8 5 (ak u).1.length with z | z
  ·exact .inl z
  ·right;refine KM λJ=>?_
   have G:∀t∈(ak u).2,ax (tl [t])<=5:=λt W=>by
    rcases K8 5 (ax (tl [t]))with H | H
    ·exact absurd ⟨t,W,KH H⟩ J
    ·exact H
   obtain⟨V,I,_⟩:=fL u hu;unfold bg at h;rw [V,I.length_eq]at h;have :=(rb (ak u).2 5).2 G;omega
 ·intro h;refine KM λJ=>?_
  obtain⟨V,I⟩:=rA hu (by omega);rcases h with h | ⟨t,z,G⟩
  ·omega
  ·have :=I t z;have :=J0 G;omega
theorem WR.EG {on:Bool}{k:Nat}{σ:Nat->Nat}{u:U}{Θ ls A best:Tx}{Lo:List Tx}(hu:Uq u)(I:(ak u).2≠[])(β:wQ k Θ σ u)(hl:Gw k (ak u).1.length Θ ls A)(hm:(ak u).1.length<=64)
  (γ:∀o∈Lo,o.Perm (gV (ak u).1.length)) (δ:on=false->∀o,o.Perm (gV (ak u).1.length)->o∈Lo) (h:zX on σ u Lo ls A best):WR on u σ Θ (wrap ls best):=by
 obtain⟨o0,ε,hN⟩:=h.mem;have ζ:=hN.ne I;obtain⟨rs,z,ha⟩:=hN;have G:=hl.ok;have hp:=aN rs;have θ:rs≠[]:=λe=>I (J6 (by rw [<-ha.1,e];rfl))
 have ι:aX rs≠[]:=λe=>θ (by rw [e]at hp;exact hp.symm.eq_nil)
 have κ:∀c∈ls,¬c=35:=λc hc=>jy (G.ok c hc).2.2.2
 obtain⟨g1,g2,_⟩:=fL u hu;have J:(td u).2.isNil=false:=by
  rw [dF];cases hd:u.dead with
  | false=>rfl
  | true=>rw [dh u hu hd]at I;exact absurd rfl I
 refine⟨λe=>?_,?_,λhM=>?_,λhM Z hb=>?_,λhM Z hb ρ hc=>?_⟩
 ·have :=fA ls best;rw [e]at this;have V:best.length≠0:=λe=>ζ (J6 e)
  simp at this;omega
 ·have H:=mQ 38 _ ι;have V:=lP hp;have h3:=ha.Ej;have h4:=fB u;rw [fA,G.len,z];omega
 ·obtain⟨m1,m2⟩:=rA hu hM;rw [ta _ κ,G.len,z,lg (by decide),iN (hp.map _)];unfold cL;rw [g1,g2.length_eq,yR]
  congr 2
  exact aK.map_eq (ha.mono λr t _ ht hw=>hw.cnt (m2 t ht))
 ·obtain⟨m1,m2⟩:=rA hu hM;unfold dk fv at hb;rw [J,g2.length_eq]at hb;simp only [Bool.not_false,Ln,KX]at hb;cases α:fV (ak u).1.length (cI Θ)with
  | true=>
   obtain⟨c,H,V⟩:=hl.bad α;exact⟨c,oS (.inl H),V⟩
  | false=>
   rw [α]at hb;have hb:=hb.resolve_left (by simp);rw [<-hl.good α,<-gg G,g1,tr,LC]at hb;obtain⟨t,H,V⟩:=hb;obtain⟨r,h3,h4⟩:=ha.get H;obtain⟨c,h5,h6⟩:=h4.bad (m2 t H) Z V;refine⟨c,oS (.inr ?_),h6⟩;rw [z];exact pq (hp.symm.subset h3) h5
 ·obtain⟨m1,m2⟩:=rA hu hM;subst Z;unfold dk fv at hb;rw [J,g2.length_eq]at hb;simp only [Bool.not_false,Ln,KZ]at hb;have e:=hl.good hb.1;have W:=hb.2;rw [<-e,<-gg G,g1,tr,List.any_eq_false]at W;have W:∀t∈(ak u).2,thBad (tl [t]) (cI A)=false:=λt ht=>by simpa using W t ht
  rw [wM hu];unfold aR;rw [JV (by simpa using I)];show _=wrap (lets _ (cI Θ)) (bH (List.map (λπ=>joinS 38 (aX ((ak u).2.map λt=>thU t (asg π (lets _ (cI Θ)) ρ) (addK (lets _ (cI Θ)) (cI Θ))))) _));rw [<-e,<-gg G]
  congr 1
  symm
  have η:∀o:Tx,o.Perm (gV (ak u).1.length)->∃π:List Nat,π.Perm (ak u).1/\o.map UInt8.toNat=π.map (asgN (ak u).1 0 σ):=λo ho=>by
   refine js ((ho.map UInt8.toNat).trans ?_);have:(gV (ak u).1.length).map UInt8.toNat=(ak u).1.map (asgN (ak u).1 0 σ):=by
    refine Mg (by simp [gX]) λi H V=>?_
    simp only [MB];have hi:i< (ak u).1.length:=by simpa using V
    rw [jU _ _ _ _ hi (gj u hu),J'];simp [gV]
   rw [this]
  refine gu ?_ λs hs=>?_
  ·obtain⟨π,H,V⟩:=η o0 (γ _ ε);refine Kk.2 ⟨π,(cW _ _).2 H,?_⟩;exact(vI.text ⟨rs,z,ha⟩ hu β G H V (γ _ ε) hm m2 W hc).symm
  ·obtain⟨π,H,rfl⟩:=Kk.1 hs;have H:=(cW _ _).1 H;have h3:(π.map (asgN (ak u).1 0 σ)).Perm ((gV (ak u).1.length).map UInt8.toNat):=by
    have:(gV (ak u).1.length).map UInt8.toNat=(ak u).1.map (asgN (ak u).1 0 σ):=by
     refine Mg (by simp [gX]) λi H V=>?_
     simp only [MB];have hi:i< (ak u).1.length:=by simpa using V
     rw [jU _ _ _ _ hi (gj u hu),J'];simp [gV]
    rw [this];exact H.map _
   obtain⟨o,h4,h5⟩:=js h3;obtain⟨r,h6,h7⟩:=h.le o (δ rfl o h4);rw [<-h6.text hu β G H h5.symm h4 hm m2 W hc];exact h7
theorem WR.EO {on:Bool}{u:U}{σ:Nat->Nat}{Θ:Tx}(hu:Uq u)(hd:u.dead=true):WR on u σ Θ [48]:=by
 obtain⟨z,G,H,h4⟩:=oM hu hd;exact⟨by simp,yv u,λ _=>by rw [H];rfl,λ _ _ hb=>(by rw [G]at hb;cases hb),λ _ _ _ ρ _=>by rw [z]⟩
theorem WR.Bj {on:Bool}{u:U}{σ:Nat->Nat}{Θ:Tx}(h:5< bg u):WR on u σ Θ [48]:=
 ⟨by simp,yv u,λhm=>by omega,λhm=>by omega,λhm=>by omega⟩
theorem Ex.aP {w w':World}(h:w.grownBy w' none):Ex w w':=⟨h.os,h.tape,h.output,h.size,λg z=>h.block g z (by simp)⟩
theorem Gk:∀(u:U),∀t∈(ak u).2,t.ow+(ak u).1.length<=u.ow/\t.rd<=u.rd:=by
 intro u
 induction u with
 | nil=>intro t h;simp [ak]at h
 | snd=>intro t h;simp [ak]at h;subst h;simp [ak]
 | rcv=>intro t h;simp [ak]at h;subst h;simp [ak]
 | tau=>intro t h;simp [ak]at h;subst h;simp [ak]
 | sum p q z G=>
  intro t h;simp only [ak]at h|-;split at h
  ·rename_i e;rw [Ka e];have :=G t h;simp only [T.ow,T.rd];omega
  ·rename_i e;rw [JV e];split at h
   ·rename_i H;rw [Ka H];have :=z t h;simp only [T.ow,T.rd];omega
   ·rename_i H;rw [JV H];simp at h;subst h;simp
 | par p q z G=>
  intro t h;simp only [ak,JN]at h;simp only [ak,T.ow,T.rd,JJ];have I:=iu p;have J:=iu q;rcases h with h | h
  ·have :=z t h;omega
  ·have :=G t h;omega
 | res x p z=>
  intro t h;have :=z t h;simp only [ak,T.ow,T.rd];split
  ·simp only [JA];omega
  ·omega
 | mat a b p z=>
  intro t h;simp only [ak]at h|-;split at h
  ·rename_i e;rw [Ka e];exact z t h
  ·rename_i e;rw [JV e];split at h
   ·simp at h
   ·rename_i H;rw [JV H];simp at h;subst h;simp
 | rep p z=>
  intro t h;simp only [ak]at h|-;split at h
  ·simp at h
  ·rename_i H;rw [JV H];simp at h;subst h;simp
theorem GB {p:P}{u:U}{ρ:UInt8->Nat}{σ:Nat->Nat}(h:AE ρ p σ u):u.rd=p.rd:=by
 induction p generalizing u ρ σ<;>cases u<;>simp only [AE]at h<;>simp only [T.rd]
 case snd.snd z _ _ _=>exact z h.2.2
 case mat.mat z _ _ _=>exact z h.2.2
 case rcv.rcv z _ _ _=>rw [z (h.2 0)]
 case res.res z _ _=>exact z (h 0)
 case tau.tau z _=>exact z h
 case rep.rep z _=>exact z h
 case sum.sum z G _ _=>rw [z h.1,G h.2]
 case par.par z G _ _=>rw [z h.1,G h.2]
theorem vP {l:Tx}{i:Nat}(h:i< l.length):List.drop (Int.toNat (i:Int)) (List.take (Int.toNat ((i:Int)+1)) l)=[bt l i]:=by
 have e:Int.toNat ((i:Int)+1)=i+1:=by omega
 rw [e,JI,ij h];exact List.drop_left' (by rw [Kf];omega)
theorem AA {l:Tx}{i:Nat}(h:i< l.length):List.drop i (List.take (Int.toNat ((i:Int)+1)) l)=[bt l i]:=by
 have :=vP h
 rwa [JI]at this
theorem pX {l:Tx}{i:Nat}(h:i< l.length)(s:Tx):wrap (l.drop i) s=35::bt l i::46::wrap (l.drop (i+1)) s:=by
 rw [qZ h];rfl
theorem AY:∀n,Dg n:=by
 intro n
 induction n with
 | zero=>intro k p σ u Θ w bm br on R h;have :=a6 p;omega
 | succ n ih=>
  have iht:vj (n+1):=Ew ih;intro k p σ u Θ w bm br on R hn d hgf υ hmk h;refine kD _ _ _ w R ?_;intro b4 w5 α ν;have φ:Ex w w5:=ν▸Ex.alloc w _;have hsz5:w5.heap.size=b4+1:=by rw [ν,size_alloc,<-α]
  have hbm:bm< b4:=by rw [α];exact hmk.lt
  have hle:=d.bd.le;have hGL:GL b4 w5 b4 (gV 0) (.slice none 0 0) []:=by
   refine⟨by omega,JL _,?_,?_,Own.nil _ _,(λe=>by cases e),?_,?_⟩
   ·rw [ν,α];exact aa rfl
   ·rw [ν,α];exact aa rfl
   ·rw [ν,α];unfold World.frozen? World.alloc;simp
   ·rw [ν,α];unfold World.frozen? World.alloc;simp
  have hl:=d.len;have hszt:=bs p;refine DK _ hn d hgf (by omega) hGL (by simp only [JQ];omega) λw6 v6 ps χ hv6 β hps=>?_
  rw [KB,J']at β;have hx6:Ex w w6:=⟨χ.os.trans φ.os,χ.tape.trans φ.tape,χ.output.trans φ.output,KD φ.size χ.size,λg hg=>by
   rw [χ.block g (by rw [hsz5];omega) (λhS=>by
    rcases hS with H | H
    ·omega
    ·cases H)]
   exact φ.block g hg⟩
  have hpl:=hps.1;have hmlen:=iu u;rw [A9 d.ae]at hmlen;have hm64:(ak u).1.length<=64:=by omega
  have hgs:=fH u;have hus:=d.ae.size;obtain⟨av,cap,hv⟩:=β.own.strs.slice;rw [JY]at hv;refine⟨v6,β.c1,av,_,cap,hv,λused x w'=>Ex w6 w'/\∃i:Nat,x=i/\i<=ps.length/\jm used/\∀c,c∈used↔∃q∈ps.take i,q.Us c,λ _ x _=>(ps.length - x).toNat,⟨Ex.refl w6,0,rfl,by omega,List.Pairwise.nil,by simp⟩,λused x w7 hI=>?_⟩;obtain⟨hx7,i,rfl,hi,hsu,hmu⟩:=hI;have W:∀i (hi:i< ps.length),∃m τ,k<=m/\Den m ps[i] τ ((ak u).2[i]'(by omega))/\(∀y,((ak u).2[i]'(by omega)).Us y->τ y=asgN (ak u).1 0 σ y)/\GF (0+(ak u).1.length) ps[i]:=λi hi=>
   hps.2 i _ _ (JC hi) (JC (by omega))
  refine⟨λhc=>?_,λhc=>?_⟩
  ·have hc:=J0 hc;have hip:i< ps.length:=by omega
   refine β.own.strs.get hx7 (i:=i) (x:=(ps[i]).text) (by omega) (by simp [hip]) ?_;obtain⟨_,_,_,dp,_⟩:=W i hip;refine oE _ (JL _) dp.ok λs w8 ψ hss hms=>?_
   refine jf hsu (by have :=hss.bound;omega) λs' w9 ξ hs9 hm9=>?_
   refine⟨by unfold aj;omega,⟨(hx7.trans ψ).trans ξ,i+1,by omega,by omega,hs9,λc=>?_⟩,by dsimp only;omega⟩;rw [hm9,hmu,hms,List.take_succ_eq_append_getElem hip];simp only [JN,JO];constructor
   ·rintro(⟨q,H,h2⟩ | H)
    ·exact⟨q,.inl H,h2⟩
    ·exact⟨_,.inr rfl,H⟩
   ·rintro⟨q,H | rfl,h2⟩
    ·exact .inl ⟨q,H,h2⟩
    ·exact .inr h2
  have hc:=J1 hc;have e:i=ps.length:=by omega
  subst e;rw [J3]at hmu;have hGL7:=β.ex hx7;have ω:∀i,i< (ak u).1.length->gl i∈used:=λi hi=>by
   obtain⟨t,ht,hty⟩:=xK u d.uq _ (JM hi);obtain⟨j,hj,e⟩:=KA.1 ht;have hjp:j< ps.length:=by omega
   obtain⟨m,τ,_,dp,hτ,_⟩:=W j hjp;subst e;obtain⟨c,H,h2⟩:=dp.ae.symm.used dp.inj (eR _) _ hty;rw [hτ _ hty,jU _ _ _ _ hi (gj u d.uq),J']at h2;have:c=gl i:=J4.1 h2;exact(hmu _).2 ⟨_,JM hjp,this▸H⟩
  have hglen:=gX (ak u).1.length;refine⟨λfront i w'=>Ex w7 w'/\∃j:Nat,i=j/\j<=(ak u).1.length/\front=(gV (ak u).1.length).take j,λ _ i _=>((ak u).1.length - i).toNat,⟨Ex.refl w7,0,rfl,by omega,rfl⟩,λfront i w8 hI=>?_⟩;obtain⟨ψ,j,rfl,hj,rfl⟩:=hI;have γ:=hGL7.ex ψ;refine⟨gV (ak u).1.length,γ.c0,λhc2=>?_,λhc2=>?_⟩
  ·have hc2:=J0 hc2;have hj':j< (ak u).1.length:=by omega
   have hbt:bt (gV (ak u).1.length) j=gl j:=by simp [bt,gV,hj']
   refine⟨λfront w'=>Ex w7 w'/\front=(gV (ak u).1.length).take (j+1),⟨gV (ak u).1.length,γ.c0,⟨by omega,by omega⟩,?_⟩,λfront w9 hJ=>?_⟩
   ·rw [JI,hbt];refine gE (by have :=hsu.bound;omega) ⟨λ _=>⟨gV (ak u).1.length,γ.c0,by unfold aj;omega,⟨by omega,by omega,by omega⟩,?_,ψ,?_⟩,λhq=>absurd (ω j hj') (J1 hq)⟩
    ·rw [AA (by omega)];simp only [Kf,JA,JQ];omega
    ·rw [AA (by omega),ij (by omega)]
   ·obtain⟨ξ,rfl⟩:=hJ;exact⟨by unfold aj;omega,⟨ξ,j+1,by omega,by omega,rfl⟩,by dsimp only;omega⟩
  have hc2:=J1 hc2;have e:j=(ak u).1.length:=by omega
  subst e;rw [show(gV (ak u).1.length).take (ak u).1.length=gV (ak u).1.length from Mj (by omega)];have κ:Ex w w8:=(hx6.trans hx7).trans ψ;have I:=hmk.ex κ;refine⟨v6,γ.c1,av,_,cap,hv,λο=>?_,λο=>?_⟩
  ·have ο:=J0 ο;have hd:=FL d.uq (J6 (by omega));have hm0:=(oM d.uq hd).2.2.2;refine h _ w8 (Kp.ah κ _) ?_ (WR.EO d.uq hd);rw [hm0];simpa using I
  have ο:=J1 ο;have hne:(ak u).2≠[]:=λe=>ο (by rw [e]at hpl;simp only [JQ]at hpl;omega)
  refine⟨λhc4=>?_,λhc4=>?_⟩
  ·have hc4:=J0 hc4;have hlm:5< bg u:=by
    have :=yG d.uq;have h5:decide (5< (ak u).1.length)=true:=KH (by omega);rw [h5,Bool.true_or]at this;exact J0 this
   refine⟨bm,0,rfl,⟨⟨_,I.c0⟩,I.f0⟩,λw9 hw9=>?_⟩;subst hw9;refine h _ _ (Kp.set (S:=λg=>g=bm) (Kp.ah κ _) rfl _) ?_ (WR.Bj hlm);have e5:decide (5< bg u)=true:=KH hlm;rw [e5,Bool.or_true];exact⟨by rw [Ki];exact I.lt,JT _ _ _ I.c0,by rw [JH _ _ _ _ (by simp)];exact I.c1,by rw [JU];exact I.f0⟩
  have hc4:=J1 hc4;have hm5:(ak u).1.length<=5:=by omega
  intro b9 cap9 w9 hb9 _ hg9;have ξ:Ex w8 w9:=Ex.aP hg9;have hx69:Ex w w9:=κ.trans ξ;refine⟨_,_,cap9,rfl,λz all x w'=>Ex w9 w'/\∃i:Nat,x=i/\i<=(ak u).1.length/\Gw k i Θ z all,λ _ _ x _=>((ak u).1.length - x).toNat,⟨Ex.refl w9,0,rfl,by omega,Gw.zero υ.srt⟩,λz all x w10 hI=>?_⟩;obtain⟨hx10,i,rfl,hi,G⟩:=hI;refine⟨λhc5=>?_,λhc5=>?_⟩
  ·have hc5:=J0 hc5;have hi':i< (ak u).1.length:=by omega
   have ω:∀c∈all,okn (k+i) c/\ngr c:=λc hc=>by
    rcases(G.ok.mem c).1 hc with H | H
    ·exact⟨(υ.okn c H).1.mono (by omega),(υ.okn c H).2⟩
    ·exact⟨(G.ok.ok c H).2.1,(G.ok.ok c H).2.2.1⟩
   refine iJ (by have :=G.ok.srt.bound;omega) λc hc=>?_
   have hfr:yI (k+i) all c:=yI.of (by omega) ω hc;intro b11 ς hb11 hw11;have δ:Ex w10 ς:=hw11▸Ex.alloc w10 _;refine⟨b11,0,1,1,[c],rfl,rfl,ln _ hb11 hw11,by rw [G.ok.len];simp;omega,?_⟩;refine fc G.ok.srt λs' η hx12 hs12 hm12=>?_
   exact⟨by unfold aj;omega,⟨(hx10.trans δ).trans hx12,i+1,by omega,by omega,G.snoc hfr hs12 hm12⟩,by dsimp only;omega⟩
  have hc5:=J1 hc5;have e:i=(ak u).1.length:=by omega
  subst e;have hx610:Ex w w10:=hx69.trans hx10;have hls:=G.ok;refine yQ 5 (by omega) (JL _) λv11 ς L δ ε hL hmL=>?_
  have hx611:Ex w ς:=hx610.trans δ;have θ:=hmk.ex hx611;have hLne:L≠[]:=λe=>by
   have :=(hmL (gV (ak u).1.length)).2 (KK _);rw [e]at this;cases this
  have hLlen:L.length<=7776:=by
   have:(6:Nat)^(gV (ak u).1.length).length<=6^5:=Nat.pow_le_pow_right (by omega) (by omega);omega
  have hLpos:0< L.length:=Me.2 hLne;refine⟨λv w'=>w'=ς/\∃Lo:List Tx,Strs ς v Lo/\(∀b off n c,v= .slice (some ⟨b,off,none⟩) n c->w10.heap.size<=b)/\Lo≠[]/\Lo.length<=7776/\(∀o∈Lo,o.Perm (gV (ak u).1.length))/\(on=false->∀o,o.Perm (gV (ak u).1.length)->o∈Lo),⟨bm,0,rfl,on,θ.c1,λhon=>?_,λhon=>?_⟩,λorders η hJ=>?_⟩
  ·obtain⟨g,V,cur,hvL,hbL,_⟩:∃g cap cur,v11= .slice (some ⟨g,0,none⟩) L.length cap/\w10.heap.size<=g/\ς.heap[g]?=some cur:=by
    rcases ε.2 with⟨_,hn⟩ | ⟨g,cap,cur,e,hb,hg,_⟩
    ·omega
    ·exact⟨g,cap,_,e,hb,hg⟩
   have hcap:L.length<=V:=by
    rcases ε.2 with⟨_,hn⟩ | ⟨g',cap',cur',e,hb,hg,H,h2,h3,h4⟩
    ·omega
    ·rw [hvL]at e;cases e;exact H
   refine⟨_,_,V,hvL,by omega,by omega,by omega,rfl,L.take 1,?_,λb off n c e=>?_,?_,?_,λo J=>(hmL o).1 (List.mem_of_mem_take J),λhf=>by rw [hon]at hf;cases hf⟩
   ·have hs:=ε.strs;rw [hvL]at hs;exact hs.take (k:=1) (by omega) (by omega)
   ·have ecap:¬V=Int.toNat 0:=by show ¬V=0;omega
    rw [JV ecap]at e;simp [Addr.add]at e;omega
   ·match L,hLne with
    | a::l,_=>simp
   ·rw [Kf];omega
  ·refine⟨rfl,L,ε.strs,λb off n c e=>(ε.block b (by rw [e];rfl)).1,hLne,hLlen,λo J=>(hmL o).1 J,λ _ o J=>(hmL o).2 J⟩
  obtain⟨rfl,Lo,hsL,hbL,hLo,hLol,hLop,hLoa⟩:=hJ;have hLopos:0< Lo.length:=Me.2 hLo;obtain⟨aL,V,hvL⟩:=hsL.slice;have Z:GL b4 η b4 (gV (ak u).1.length) v6 (ps.map T.text):=((γ.ex ξ).ex hx10).ex δ;have hb12:=Z.lt;have hbp:∀p∈ps,k+(ak u).1.length+p.rd+p.ow<=64:=λq hq=>by
   obtain⟨i,hi,rfl⟩:=KA.1 hq;obtain⟨_,_,_,dp,_⟩:=W i hi;have :=Gk u _ (JM (show i< (ak u).2.length by omega));rw [A9 dp.ae,GB dp.ae,A9 d.ae,GB d.ae]at this;omega
  have hszp:∀p∈ps,p.size<=n+1:=λq hq=>by
   obtain⟨i,hi,rfl⟩:=KA.1 hq;obtain⟨_,_,_,dp,_⟩:=W i hi;have :=zd u _ (JM (show i< (ak u).2.length by omega));rw [dp.ae.size];omega
  have htl:=fB u;rw [nQ d.ae,<-T.aT]at htl;generalize hbr:(br||(ak u).2.any λt=>decide (5< ax (tl [t])))=br' at*;refine⟨aL,_,V,hvL,λbest x w'=>∃i:Nat,x=i/\i<=Lo.length/\Kp η w' (λg=>g=bm)/\MK w' bm (if i=0 then br else br') on/\(i=0->best=[])/\(0< i->zX on σ u (Lo.take i) z all best),λ _ x _=>(Lo.length - x).toNat,⟨0,rfl,by omega,Kp.ah (Ex.refl η) _,by simpa using θ,λ _=>rfl,λh=>by omega⟩,λbest x w13 hI=>?_⟩;obtain⟨i,rfl,hi,ζ,hm13,hb0,hb1⟩:=hI;refine⟨λhc6=>?_,λhc6=>?_⟩
  ·have hc6:=J0 hc6;have hi':i< Lo.length:=by omega
   refine⟨λbest w'=>Kp η w' (λg=>g=bm)/\MK w' bm br' on/\zX on σ u (Lo.take (i+1)) z all best,?_,λbest' w14 hJ=>?_⟩
   ·have hsL13:Strs w13 orders Lo:=hsL.kp ζ λb off n c e hS=>by have :=hbL b off n c e;have :=θ.lt;have :=δ.size;have :=(hmk.ex hx610).lt;omega
    refine hsL13.get (Ex.refl w13) (i:=i) (x:=Lo[i]) (by omega) (by simp [hi']) ?_;have α:w13.heap[b4]?=η.heap[b4]?:=ζ.block b4 hb12 (by omega);refine⟨v6,by rw [JB (w:=η) α];exact Z.c1,?_⟩;have hvt:Own b4 w13 v6 (ps.map T.text):=Z.own.kp ζ λg hg e=>by have :=(Z.own.block g hg).1;omega
    refine EL iht d.uq hne hbp hszp υ hps hls (hLop _ (JM hi')) hm64 hvt hbm hm13 (by omega) λr w14 hk14 μ hr=>?_
    have ι:MK w14 bm br' on:=by
     rw [<-hbr];by_cases h0:i=0
     ·rw [Ka h0]at μ;exact μ
     ·rw [JV h0,<-hbr,K6,Bool.or_self]at μ;exact μ
    have hk':=Kp.trans ζ hk14 λ _ _ h=>h
    have hrne:=hr.ne hne;have tk:Lo.take (i+1)=Lo.take i++[Lo[i]]:=JG hi';have new:(∀o∈Lo.take i,∃r',vI on σ u o z all r'/\jk r r'=true)->zX on σ u (Lo.take (i+1)) z all r:=λhh=>by
     rw [tk];refine⟨⟨Lo[i],J7 _ (JO.2 rfl),hr⟩,λo J=>?_⟩;rcases JN.1 J with J | J
     ·exact hh o J
     ·have:o=Lo[i]:=by simpa using J
      subst this;exact⟨r,hr,by simp [jk]⟩
    refine⟨λhq=>⟨λG=>⟨hk',ι,?_⟩,λG=>⟨hk',ι,?_⟩⟩,λhq=>⟨hk',ι,?_⟩⟩
    ·have hi0:0< i:=by
      rcases L3 i with h0 | h0
      ·exact absurd (hb0 h0) (J1 hq)
      ·exact h0
     rw [MT,JD]at G;refine new λo J=>?_
     obtain⟨r',H,h2⟩:=(hb1 hi0).le o J;exact⟨r',H,gk _ _ _ (by simp only [jk,JD];exact List.le_of_lt G) h2⟩
    ·have hi0:0< i:=by
      rcases L3 i with h0 | h0
      ·exact absurd (hb0 h0) (J1 hq)
      ·exact h0
     rw [MT,JE]at G;have hble:jk best r=true:=by simp only [jk,JD];exact List.not_lt.1 G
     obtain⟨⟨o,H,h2⟩,h3⟩:=hb1 hi0;rw [tk];refine⟨⟨o,Ke _ H,h2⟩,λo' J=>?_⟩;rcases JN.1 J with J | J
     ·exact h3 o' J
     ·have:o'=Lo[i]:=by simpa using J
      subst this;exact⟨r,hr,hble⟩
    ·have hq:=J0 hq;have hi0:i=0:=by
      rcases L3 i with h0 | h0
      ·exact h0
      ·obtain⟨⟨o,H,h2⟩,_⟩:=hb1 h0;exact absurd hq (h2.ne hne)
     exact new λo J=>by rw [hi0]at J;simp at J
   ·obtain⟨j1,j2,j3⟩:=hJ;exact⟨by unfold aj;omega,⟨i+1,by omega,by omega,j1,by simpa using j2,(λh=>by omega),λ _=>j3⟩,by dsimp only;omega⟩
  have hc6:=J1 hc6;have e:i=Lo.length:=by omega
  subst e;have hbest:=hb1 hLopos;rw [J3]at hbest;rw [JV (by omega)]at hm13;have hW:=WR.EG d.uq hne υ G hm64 hLop hLoa hbest;have hWl:=hW.len;rw [fA,hls.len,nQ d.ae,<-T.aT]at hWl;have hll:=hls.len;refine⟨by unfold aj;omega,λb i w'=>w'=w13/\∃j:Nat,i=(j:Int) - 1/\j<=(ak u).1.length/\b=wrap (z.drop j) best,λ _ i _=>(i+1).toNat,⟨rfl,(ak u).1.length,by omega,by omega,?_⟩,λb i w14 hI=>?_⟩
  ·rw [Lc (by omega)];rfl
  obtain⟨rfl,j,rfl,hj,rfl⟩:=hI;refine⟨λhc7=>?_,λhc7=>?_⟩
  ·have hc7:=J0 hc7;obtain⟨j,rfl⟩:∃j',j=j'+1:=⟨j - 1,by omega⟩
   have ej:((j+1:Nat):Int) - 1=(j:Int):=by omega
   rw [ej];have hjl:j< z.length:=by omega
   have hdl:(z.drop (j+1)).length<=64:=by rw [K1];omega
   rw [vP hjl];refine⟨by unfold aj;omega,⟨by omega,by omega,by omega⟩,by simp,by simp,?_,by unfold aj;omega,⟨rfl,j,rfl,by omega,?_⟩,by dsimp only;omega⟩
   ·rw [fA];simp only [JJ,JA,JQ];omega
   ·rw [pX hjl];rfl
  ·have hc7:=J1 hc7;have e:j=0:=by omega
   subst e;rw [Ll];refine h _ w14 ?_ ?_ hW
   ·exact Kp.trans (Kp.ah hx611 _) ζ λ _ _ h=>h
   ·rw [yG d.uq];have h5:decide (5< (ak u).1.length)=false:=KI (by omega);rw [h5,Mc,hbr];exact hm13
theorem je:∀{t:P},t.lw=true↔t.Al λc=>lt c=true
 | .nil=>by simp [T.lw,T.Al]
 | .snd a b p=>by simp [T.lw,T.Al,je (t:=p),LP]
 | .rcv a b p=>by simp [T.lw,T.Al,je (t:=p),LP]
 | .mat a b p=>by simp [T.lw,T.Al,je (t:=p),LP]
 | .tau p=>by simp [T.lw,T.Al,je (t:=p)]
 | .rep p=>by simp [T.lw,T.Al,je (t:=p)]
 | .res x p=>by simp [T.lw,T.Al,je (t:=p)]
 | .sum p q=>by simp [T.lw,T.Al,je (t:=p),je (t:=q)]
 | .par p q=>by simp [T.lw,T.Al,je (t:=p),je (t:=q)]
theorem lk {s:Tx}:(∃t:P,Good t/\t.text=s)↔cZ s:=by
 constructor
 ·rintro⟨t,h,rfl⟩
  exact⟨h.len,t,je.1 h.lw,rfl,h.size⟩
 ·rintro⟨h,t,z,rfl,G⟩
  exact⟨t,⟨je.2 z,h,G⟩,rfl⟩
theorem zG {s:Tx}(h:cZ s):∀c∈s,¬128<=c:=by
 obtain⟨t,z,rfl⟩:=lk.2 h;intro c G;have :=Lp.1 (iI z.lw).2 c G;simp only [dI,Lu,KZ,JE]at this;exact this.2
theorem HD {p:Tx}(H:p.length<=1099511627776){w:World}{R:ay->Bool->World->Prop}(h:∀w',Ex w w'->(cZ p->R p true w')/\(¬cZ p->R [] false w')):Calls Tryz.prog 190 #[.string (ab p)] w (an [.s,.b] R):=by
 refine vB p w R ?_;refine Ez H λb w' G hb=>⟨λz=>(h w' G).2 λI=>?_,λz=>(h w' G).1 (lk.1 (hb.1 (by simpa using z)))⟩
 have :=hb.2 (lk.2 I);rw [this]at z;cases z
structure nY (k:Nat)(p:P)(σ:Nat->Nat)(u:U):Prop where
 den:Den k p σ u
 gf:GF 0 p
 nu:Nu u
 σ:∀y,u.Us y->σ y=σ0 y
theorem nY.lt {k:Nat}{p:P}{σ:Nat->Nat}{u:U}(d:nY k p σ u):(∀c,p.Us c->lt c=true/\u.Us (e0 c))/\∀y,u.Us y->p.Us (ρ0 y):=by
 constructor
 ·intro c I;obtain⟨y,z,G⟩:=d.den.ae.used (eR p) d.den.inj c I;have J:=d.nu.fr y z;rw [d.σ y z]at G;unfold σ0 at G;have:e0 c=y:=by unfold e0;omega
  exact⟨nU (by omega),this▸z⟩
 ·intro y H;obtain⟨c,z,G⟩:=d.den.ae.symm.used d.den.inj (eR p) y H;have:c=ρ0 y:=J4.1 (by rw [eV (d.nu.fr y H),G,d.σ y H]);exact this▸z
theorem nY.tk {k:Nat}{p:P}{σ:Nat->Nat}{u:U}(d:nY k p σ u){s:Tx}(hm:∀c,c∈s↔p.Us c):cI s=kv (td u).2:=by
 funext c
 rw [KE,pH d.nu];unfold cI;rw [JD,hm];refine⟨d.lt.1 c,fun⟨z,G⟩=>?_⟩;have :=d.lt.2 _ G;have e:ρ0 (e0 c)=c:=by
  have :=bc z;apply J4.1;unfold ρ0 e0;rw [KJ];omega
 rwa [e]at this
theorem nY.Ic {k:Nat}{p:P}{σ:Nat->Nat}{u:U}(d:nY k p σ u){s:Tx}(H:jm s)(hm:∀c,c∈s↔p.Us c):wQ k s σ u:=by
 refine⟨H,λc G=>⟨d.den.bd.eb.free c (T.bC ((hm c).1 G)),?_⟩,λy z=>?_⟩
 ·have :=bc (d.lt.1 c ((hm c).1 G)).1;right;omega
 ·refine⟨ρ0 y,(hm _).2 (d.lt.2 y z),?_⟩;rw [eV (d.nu.fr y z),d.σ y z]
theorem HB {k:Nat}{p:P}{σ:Nat->Nat}{u:U}(d:nY k p σ u){w:World}{R:ay->Bool->World->Prop}
  (h:∀w',Ex w w'->(¬(bg u<=5/\cL u<=8)->R [] false w')/\∀s out,(bg u<=5/\cL u<=8)->cI s=kv (td u).2->WR false u σ s out->R out true w'):
  Calls Tryz.prog 189 #[.string (ab p.text)] w (an [.s,.b] R):=by
 refine wz _ w R ?_;intro b2 w3 hb2 ξ;have hx3:Ex w w3:=ξ▸Ex.alloc w _;have mk:∀{wx wy:World} {b:Nat} (x:Bool),b=wx.heap.size->wy=wx.alloc (.cells #[.bool false,.bool x] 233)->MK wy b false x:=by
  rintro wx wy b x rfl rfl
  refine⟨by rw [size_alloc];omega,aa rfl,aa rfl,?_⟩;unfold World.frozen? World.alloc;simp
 have hm3:=mk true hb2 ξ;refine oE _ (JL _) d.den.ok λs w5 ο hss hms=>?_
 refine AY _ (JL _) d.den d.gf (d.Ic hss hms) (hm3.ex ο) λr w7 V hm7 hr=>?_
 have G:Ex w w5:=hx3.trans ο;have hx7:Ex w w7:=⟨V.os.trans G.os,V.tape.trans G.tape,V.output.trans G.output,KD G.size V.size,λg hg=>by
  rw [V.block g (J2 hg G.size) (by omega)];exact G.block g hg⟩
 intro b8 γ ς hb8 hbr δ;have I:Ex w ς:=hx7.trans (Ex.aP δ);have hrl:=hr.le d.den;have hlen:=d.den.len;obtain⟨cur,lo,hi,υ,ν,hle,_⟩:=hbr;refine⟨_,_,γ,rfl,λown x w'=>w'=ς/\∃i:Nat,x=i/\i<=r.length/\own=((r.take i).count 35:Nat),λ _ x _=>(r.length - x).toNat,⟨rfl,0,rfl,by omega,by simp⟩,λown x α hI=>?_⟩;obtain⟨rfl,i,rfl,hi,rfl⟩:=hI;refine⟨λhc=>?_,λhc=>?_⟩
 ·have hc:=J0 hc;have W:i< r.length:=by omega
  have ε:(r.take i).count 35<=i:=KD (List.count_le_length ..) (by rw [Kf];omega);refine⟨b8,0,_,γ,rfl,by omega,by omega,bt r i,?_,λJ=>?_,λJ=>?_⟩
  ·unfold World.cell?;simp only [υ,JI,J',Kc];have e:=KO (λl=>l[i]?) ν;simp only [dE,Lw]at e;rw [L5,Ka W]at e;simp only [JC W,Lz]at e;simpa [bt,W]using e
  ·have J:=J0 J;have e:(r.take (i+1)).count 35=(r.take i).count 35+1:=by
    rw [ij W,Ku,J];simp
   exact⟨by unfold aj;omega,by unfold aj;omega,⟨rfl,i+1,by omega,by omega,by rw [e];omega⟩,by dsimp only;omega⟩
  ·have J:=J1 J;have e:(r.take (i+1)).count 35=(r.take i).count 35:=by
    rw [ij W,Ku,bk J];simp
   exact⟨by unfold aj;omega,⟨rfl,i+1,by omega,by omega,by rw [e]⟩,by dsimp only;omega⟩
 have hc:=J1 hc;have e:i=r.length:=by omega
 subst e;rw [J3];have ζ:=hm7.ex (Ex.aP δ);rw [Mc]at ζ;refine⟨decide (5< bg u),ζ.c0,λJ=>?_,λJ=>?_⟩
 ·have J:=J1 J;have ε:=hr.cnt (by omega);rw [ε];refine⟨λZ=>?_,λZ=>?_⟩
  ·have Z:=J0 Z;exact(h α I).1 (by omega)
  ·have Z:=J1 Z;intro b25 w26 φ η;have χ:Ex α w26:=η▸Ex.alloc α _;have ψ:=mk false φ η;refine oE _ (JL _) d.den.ok λs' w28 θ ω ι=>?_
   refine AY _ (JL _) d.den d.gf (d.Ic ω ι) (ψ.ex θ) λr' β H κ hr'=>?_
   have z:Ex w w28:=(I.trans χ).trans θ;have hsz:=I.size;have hx30:Ex w β:=⟨H.os.trans z.os,H.tape.trans z.tape,H.output.trans z.output,KD z.size H.size,λg hg=>by
    rw [H.block g (J2 hg z.size) (by omega)];exact z.block g hg⟩
   have hb:decide (5< bg u)=false:=KI (by omega);rw [hb,Bool.or_self]at κ;refine⟨λw'=>Ex β w',λkf μ=>⟨μ▸Ex.drew β,false,λw' hw'=>(κ.ex hw').c0,?_⟩⟩;exact(h kf (hx30.trans (μ▸Ex.drew β))).2 s' r' ⟨by omega,by omega⟩ (d.tk ι) hr'
 ·have J:=J0 J;exact(h α I).1 (by omega)
theorem zu {k:Nat}{p:P}{σ:Nat->Nat}{u:U}(d:nY k p σ u){w:World}{R:ay->Bool->World->Prop}
  (h:∀w',Ex w w'->(∀s,jY u=some s->R s true w')/\(jY u=none->R [] false w')):
  Calls Tryz.prog 150 #[.string (ab p.text)] w (an [.s,.b] R):=by
 refine vH _ w R ?_;refine HB d λw' hx=>⟨λhn=>⟨λ _=>(h w' hx).2 ?_,λV=>by cases V⟩,λs out hb G hr=>⟨λV=>(by cases V),λ _=>?_⟩⟩
 ·rw [ic,JV λJ=>hn J.1]
 ·have hlen:=d.den.len;have β:=hr.le d.den;refine HD (by omega) λw2 W=>?_
  have Z:Compat ρ0 σ u:=λy hy=>by rw [eV (d.nu.fr y hy),d.σ y hy]
  have H:=h w2 (hx.trans W);cases z:dk u (kv (td u).2)with
  | true=>
   obtain⟨c,h1,h2⟩:=hr.bad hb.1 rfl (by rw [G];exact z);have α:¬cZ out:=λI=>zG I c h1 h2
   refine⟨λI=>absurd I α,λ _=>H.2 ?_⟩;rw [ic,JV λJ=>by rw [z]at J;cases J.2.1]
  | false=>
   have e:=hr.eq hb.1 rfl (by rw [G];exact z) ρ0 Z;rw [G]at e;subst e;refine⟨λI=>H.1 _ ?_,λI=>H.2 ?_⟩
   ·rw [ic,Ka ⟨hb,z,I⟩]
   ·rw [ic,JV λJ=>I J.2.2]
end Go.Proofs.YtdecokaadekjnaaGreat
namespace Go.Proofs.YtdecokaadekjnaaGreat
open T
structure Jc (O:List Nat)(F:List UInt8)(p:P)(q:U):Prop where
 ae:AE UInt8.toNat p (λz=>(asg O F ρ0 z).toNat) q
 wf:p.wf=true
 eb:Eb 0 p
 fr:∀z,q.Fr z->z∈O\/(z< 26/\ρ0 z∉F)
theorem AJ {z:Nat}(h:z< 26):lt (ρ0 z)=true:=nU (by rw [eV h];unfold σ0;omega)
theorem AE.Iu {ρ:UInt8->Nat}{σ:Nat->Nat}:∀{z:List P} {us:List U},ki (λp q=>AE ρ p σ q) z us->AE ρ (T.parL z) σ (T.parL us)
 | [],[],_=>trivial
 | [p],[q],.cons h _=>h
 | p::G::z,q::H::us,.cons h k=>⟨h,AE.Iu k⟩
theorem ki.mono {X Y:Type}{R S:X->Y->Prop}(z:∀x y,R x y->S x y){l:List X}{m:List Y}(h:ki R l m):ki S l m:=by
 induction h with
 | nil=>exact .nil
 | cons h _ G=>exact .cons (z _ _ h) G
theorem ki.Hq {X Y:Type}{R:X->Y->Prop}{l:List X}{m:List Y}(h:ki R l m){x:X}(z:x∈l):∃y∈m,R x y:=by
 induction h with
 | nil=>cases z
 | cons h _ G=>
  rcases JX.1 z with rfl | z
  ·exact⟨_,Kl ..,h⟩
  ·obtain⟨y,H,I⟩:=G z;exact⟨y,JR _ H,I⟩
theorem ki.BF {X Y:Type}{R:X->Y->Prop}{l:List X}{m:List Y}(h:ki R l m){y:Y}(z:y∈m):∃x∈l,R x y:=by
 induction h with
 | nil=>cases z
 | cons h _ G=>
  rcases JX.1 z with rfl | z
  ·exact⟨_,Kl ..,h⟩
  ·obtain⟨y,H,I⟩:=G z;exact⟨y,JR _ H,I⟩
theorem Ay:∀{l:List P},(∀p∈l,p.wf=true)->(parL l).wf=true
 | [],_=>rfl
 | [p],h=>h p (by simp)
 | p::q::l,h=>by
  have z:=Ay (l:=q::l) λx G=>h x (JR _ G)
  simp only [parL,wf,JF];exact⟨h p (by simp),z⟩
theorem AT {p:P}(z:p.wf=true):∀{l:List UInt8},(∀c∈l,lt c=true)->(resL l p).wf=true
 | [],_=>z
 | c::l,h=>by
  simp only [resL,wf,JF];exact⟨im (h c (by simp)),AT z λx G=>h x (JR _ G)⟩
theorem zV {k:Nat}:∀{l:List P},(∀p∈l,Eb k p)->Eb k (parL l)
 | [],_=>trivial
 | [p],h=>h p (by simp)
 | p::q::l,h=>⟨h p (by simp),zV (l:=q::l) λx z=>h x (JR _ z)⟩
theorem zk {c:UInt8}(h:lt c=true)(k:Nat):okn k c:=by have :=bc h;unfold okn;omega
theorem Af {p:P}(H:∀z,p.Fr z->lt z=true):∀{l:List UInt8} {k:Nat},Eb k p->(∀c∈l,lt c=true)->Eb k (resL l p)
 | [],_,G,_=>G
 | c::l,k,G,h=>by
  refine⟨⟨sS (h c (by simp)),λz I _=>zk (H z (fg.1 I).2) k⟩,Af H (G.mono (by omega)) λx J=>h x (JR _ J)⟩
theorem vO {A:Type}(p:T A):∀l:List A,(resL l p).rd=p.rd/\(resL l p).ow=l.length+p.ow/\(resL l p).size=l.length+p.size/\(resL l p).aJ=3* l.length+p.aJ
 | []=>by simp [resL]
 | c::l=>by
  obtain⟨z,G,H,h4⟩:=vO p l;simp only [resL,rd,ow,size,aJ,JA];refine⟨z,?_,?_,?_⟩<;>omega
theorem xu {O:List Nat}{F:List UInt8}(hl:O.length=F.length)(hF:F.Nodup)(V:∀c∈F,lt c=true)(ho:∀x∈O,26<=x){G:List P}{us:List U}(h:ki (Jc O F) G us)(nd:(O++us.flatMap BV).Nodup)(bv:∀x∈us.flatMap BV,26<=x)
  (hb:(parL G).rd+F.length+(parL G).ow<=64) (θ:(parL G).aJ<=1000000000) (ι:F.length<=300):nY 0 (resL F (parL G)) σ0 (resL O (parL us)):=by
 have I:∀z,(resL O (parL us)).Fr z->z< 26/\ρ0 z∉F:=λz J=>by
  obtain⟨h1,h2⟩:=fg.1 J;obtain⟨q,hq,W⟩:=lQ.1 h2;obtain⟨p,hp,Z⟩:=h.BF hq;exact(Z.fr z W).resolve_left h1
 have α:AE UInt8.toNat (parL G) (λz=>(asg O F ρ0 z).toNat) (parL us):=AE.Iu (h.mono λp q k=>k.ae);have ζ:AE UInt8.toNat (resL F (parL G)) (λz=>(ρ0 z).toNat) (resL O (parL us)):=AE.CM O F ρ0 hl hF (λz J H=>(I z (fg.2 ⟨H,J⟩)).2) α;have ae:AE UInt8.toNat (resL F (parL G)) σ0 (resL O (parL us)):=ζ.congr (λ _ _=>rfl) λz J=>eV (I z J).1
 have β:∀c,(parL G).Fr c->lt c=true:=λc hc=>by
  obtain⟨z,J,e⟩:=α.free c hc;have e:=J4.1 e;obtain⟨q,hq,W⟩:=lQ.1 J;obtain⟨p,hp,Z⟩:=h.BF hq;by_cases H:z∈O
  ·rw [<-e];exact V _ (e9 O F ρ0 z H hl)
  ·rw [<-e,bN _ _ _ _ H];exact AJ ((Z.fr z W).resolve_left H).1
 have γ:BV (resL O (parL us))=O++us.flatMap BV:=by rw [gb,fX]
 have δ:∀x∈BV (resL O (parL us)),26<=x:=λx hx=>by
  rw [γ]at hx;exact(JN.1 hx).elim (ho x) (bv x)
 have ε:Uq (resL O (parL us)):=⟨by rw [γ];exact nd,λx hx hf=>by have :=δ x hx;have :=(I x hf).1;omega⟩
 obtain⟨k1,k2,k3,k4⟩:=vO (parL G) F;have η:(resL F (parL G)).wf=true:=AT (Ay λp hp=>by obtain⟨q,_,k⟩:=h.Hq hp;exact k.wf) V;refine⟨⟨η,by rw [aT,k4];omega,⟨Af β (zV λp hp=>by obtain⟨q,_,k⟩:=h.Hq hp;exact k.eb) V,by rw [k1,k2];omega⟩,ae,λy z _ _ e=>by unfold σ0 at e;omega,ε⟩,λz J hG=>?_,⟨ε,λy hy=>(I y (bC hy)).1,δ⟩,λ _ _=>rfl⟩;have :=β z (fg.1 J).2;exact absurd hG (dZ (sS this))
theorem Ij:∀{u:U},Uq u->u.Nr->cL u=u.ow/\(u.dead=false->thAll (tp u.mi)=u.ow):=by
 intro u;have one:∀{u:U},u.isS=false->cL u=u.ow->cL u=u.ow/\(u.dead=false->thAll (tp u.mi)=u.ow):=λ{u} W h=>⟨h,λ _=>by rw [fU W];simp only [tp,thAll,Ma];exact h⟩
 have all:∀{u:U},Uq u->u.Nr->cL u=u.frL.length+thAll (tl u.ths):=λ{u} z n=>by unfold cL;rw [jg z n]
 induction u with
 | nil=>intro z n;exact one rfl (by rw [all z n];rfl)
 | snd a b p G=>intro z n;exact one rfl (by rw [all z n];have :=(G z.snd n).1;unfold cL at this;simp only [frL,T.ths,tl,thAll,JQ,ow];omega)
 | rcv a b p G=>intro z n;exact one rfl (by rw [all z n];have :=(G z.rcv n).1;unfold cL at this;simp only [frL,T.ths,tl,thAll,JQ,ow];omega)
 | tau p G=>intro z n;exact one rfl (by rw [all z n];have :=(G z.tau n).1;unfold cL at this;simp only [frL,T.ths,tl,thAll,JQ,ow];omega)
 | mat a b p G=>intro z n;exact one rfl (by rw [all z n];have :=(G z.mat n.2).1;unfold cL at this;simp only [frL,T.ths,tl,thAll,JQ,ow];omega)
 | rep p G=>intro z n;exact one rfl (by rw [all z n];have :=(G z.rep n.2).1;unfold cL at this;simp only [frL,T.ths,tl,thAll,JQ,ow];omega)
 | res x p G=>intro z n;exact one rfl (by rw [all z n];have :=(G z.res n.2).1;rw [all z.res n.2]at this;simp only [frL,T.ths,JA,ow];omega)
 | par p q G H=>
  intro z n;refine one rfl ?_;have I:=(G z.fQ n.2.1).1;have J:=(H z.fk n.2.2).1;have Z:q.frL=[]:=by
   rcases n.1.2 with h | h
   ·exact il h
   ·cases q<;>first | rfl | (cases h;done)
  rw [all z.fk n.2.2,Z]at J;rw [all z.fQ n.2.1,il n.1.1,nh n.1.1]at I;rw [all z n];simp only [frL,T.ths,ow,JQ]at*;rw [show p::q.ths=[p]++q.ths from rfl,gL,bZ];omega
 | sum p q G H=>
  intro z n;have I:=(G z.dX n.2.1).2 n.1.1;have J:=(H z.dJ n.2.2).2 n.1.2.1;have V:thAll (tp (T.sum p q).mi)=(T.sum p q).ow:=by
   rw [fU n.1.2.2]at I;simp only [T.mi,ow];rw [show p::q.mi=[p]++q.mi from rfl,sd,bZ,I,J]
  refine⟨?_,λ _=>V⟩;rw [all z n,<-V];simp only [frL,T.ths,tl,thAll,JQ,T.mi];rw [en z.dX n.2.1 n.1.1,en z.dJ n.2.2 n.1.2.1,fU n.1.2.2];simp
theorem kA {A B:Type}[DecidableEq A][DecidableEq B]:∀{p:T A} {q:T B} {ρ:A->Nat} {σ:B->Nat},AE ρ p σ q->p.ow=q.ow/\p.rd=q.rd/\p.size=q.size:=by
 intro p
 induction p with
 | nil=>intro q ρ σ h;cases q<;>first | exact⟨rfl,rfl,rfl⟩ | cases h
 | snd a b p z=>intro q ρ σ h;cases q<;>first | (have :=z h.2.2;simp only [ow,rd,size];omega) | cases h
 | mat a b p z=>intro q ρ σ h;cases q<;>first | (have :=z h.2.2;simp only [ow,rd,size];omega) | cases h
 | rcv a b p z=>intro q ρ σ h;cases q<;>first | (have :=z (h.2 0);simp only [ow,rd,size];omega) | cases h
 | res b p z=>intro q ρ σ h;cases q<;>first | (have :=z (h 0);simp only [ow,rd,size];omega) | cases h
 | tau p z=>intro q ρ σ h;cases q<;>first | (have :=z h;simp only [ow,rd,size];omega) | cases h
 | rep p z=>intro q ρ σ h;cases q<;>first | (have :=z h;simp only [ow,rd,size];omega) | cases h
 | sum p H z G=>intro q ρ σ h;cases q<;>first | (have :=z h.1;have :=G h.2;simp only [ow,rd,size];omega) | cases h
 | par p H z G=>intro q ρ σ h;cases q<;>first | (have :=z h.1;have :=G h.2;simp only [ow,rd,size];omega) | cases h
theorem bS {A:Type}:∀p:T A,p.rd+p.ow+1<=p.size:=by
 intro p
 induction p<;>simp only [rd,ow,size]<;>omega
theorem D5 {A:Type}:∀{p:T A},(∃a b r,Off.snd a b r∈offs p)->p.rd+p.ow+2<=p.size:=by
 intro p
 induction p with
 | snd a b p=>intro _;have :=bS p;simp only [rd,ow,size];omega
 | sum p q z G=>
  rintro⟨a,b,r,h⟩
  rw [offs,JN]at h;have I:=bS p;have H:=bS q;simp only [rd,ow,size];rcases h with h | h
  ·have :=z ⟨a,b,r,h⟩;omega
  ·have :=G ⟨a,b,r,h⟩;omega
 | rep p z=>
  rintro⟨a,b,r,h⟩
  obtain⟨o,I,H⟩:=Kk.1 h;have:o= .snd a b r:=by cases o<;>simp [Off.stay]at H;simp [H]
  have :=z ⟨a,b,r,this▸I⟩;simp only [rd,ow,size];omega
 | _=>rintro⟨a,b,r,h⟩;simp [offs]at h
def gG {A:Type}(l:List (T A)):Nat:=(l.map T.ow).sum
def iR {A:Type}(l:List (T A)):Nat:=(l.map T.size).sum
def mP {A:Type}(l:List (T A)):Nat:=(l.map T.rd).sum
def eF {A:Type}(l:List (T A)):Nat:=(l.map T.aJ).sum
theorem gh {A:Type}:∀(l:List (T A)),(parL l).ow=gG l/\(l≠[]->iR l+l.length<=(parL l).size+1)/\(parL l).rd<=mP l/\(parL l).aJ<=eF l+3* l.length+1/\∀R,(∀p∈l,p.rd<=R)->(parL l).rd<=R
 | []=>by simp [parL,gG,iR,mP,eF,ow,rd,aJ]
 | [p]=>by simp [parL,gG,iR,mP,eF];omega
 | p::q::l=>by
  obtain⟨I,z,J,h4,h5⟩:=gh (q::l);have z:=z (by simp);simp only [parL,ow,size,rd,aJ,gG,iR,mP,eF,J9,KN,JA]at*;refine⟨by omega,λ _=>by omega,by omega,by omega,λR G=>?_⟩;have :=h5 R λx H=>G x (JR _ H)
  have :=G p (by simp);omega
structure SU (t:P)(u:U):Prop where
 nr:u.Nr
 nu:Nu u
 fr:∀z,u.Fr z->z< 26
 ae:AE UInt8.toNat t (λy=>(ρ0 y).toNat) u
 len:u.frL.length=t.frL.length
 two:ki (λp q=>AE UInt8.toNat p (λz=>(asg u.frL t.frL ρ0 z).toNat) q) t.ths u.ths
 fn:t.frL.Nodup
 fl:∀c∈t.frL,lt c=true
 free:∀z,(∃q∈u.ths,q.Fr z)->z∈u.frL\/(z< 26/\ρ0 z∉t.frL)
 nd:(u.frL++u.ths.flatMap BV).Nodup
 ge:∀x∈u.frL++u.ths.flatMap BV,26<=x
 smp:∀q∈u.ths,q.smp=true
 smpP:∀q∈t.ths,q.smp=true
 nrs:∀q∈u.ths,q.Nr
 al:∀p∈t.ths,p.Al λc=>lt c=true
theorem A5 {A:Type}:∀{t:T A},t.smp=true->∀q∈t.ths,q.smp=true:=by
 intro t
 induction t with
 | nil=>intro _ q h;cases h
 | res x p G=>intro h;exact G h
 | par p q G z=>
  intro h r hr;simp only [smp,JF]at h;rcases JX.1 hr with rfl | hr
  ·exact h.1
  ·exact z h.2 r hr
 | _=>intro h q H;cases JO.1 H;exact h
theorem H0 {A:Type}{D:A->Prop}:∀{t:T A},t.Al D->(∀q∈t.ths,q.Al D)/\∀c∈t.frL,D c:=by
 intro t
 induction t with
 | nil=>intro _;exact⟨λq h=>(by cases h),λc h=>(by cases h)⟩
 | res x p H=>
  intro h;obtain⟨I,J⟩:=H h.2;exact⟨I,λc z=>(JX.1 z).elim (λe=>e▸h.1) (J c)⟩
 | par p q H G=>
  intro h;refine⟨λr hr=>?_,λc z=>(by cases z)⟩;rcases JX.1 hr with rfl | hr
  ·exact h.1
  ·exact(G h.2).1 r hr
 | _=>intro h;exact⟨λq V=>(by cases JO.1 V;exact h),λc z=>(by cases z)⟩
theorem lZ.su {t:P}(ok:lZ t):SU t (num t e0 0).1:=by
 have nu:=ku ok.al;have H:=kL ok.al;have G:=FG ok.al;have ae:AE UInt8.toNat t (λy=>(ρ0 y).toNat) (num t e0 0).1:=H.congr (λ _ _=>rfl) λy hy=>(eV (G y hy)).symm
 have nr:(num t e0 0).1.Nr:=AE.nr H (eR t) (λy z _ _ e=>by unfold σ0 at e;omega) ok.nr;obtain⟨hl,I⟩:=ae.open ok.nr;have J:=nr.shape;have V:=ok.nr.shape;have W:BV (num t e0 0).1=(num t e0 0).1.frL++(num t e0 0).1.ths.flatMap BV:=by
  have:BV (num t e0 0).1=BV (resL (num t e0 0).1.frL (parL (num t e0 0).1.ths)):=by rw [<-J]
  rw [this,gb,fX]
 obtain⟨β,γ⟩:=H0 ok.al;refine⟨nr,nu,G,ae,hl.symm,I,(ok.nr.Co).1,γ,λz ⟨q,hq,hz⟩=>?_,by rw [<-W];exact nu.uq.nd,λx hx=>nu.bv x (by rw [W];exact hx),A5 (by rw [<-r9 ae];exact ok.smp),A5 ok.smp,λq hq=>(nr.ths q hq).2,β⟩;by_cases Z:z∈(num t e0 0).1.frL
 ·exact .inl Z
 ·right;have α:(num t e0 0).1.Fr z:=by rw [J];exact fg.2 ⟨Z,lQ.2 ⟨q,hq,hz⟩⟩
  refine⟨G z α,λhF=>?_⟩;obtain⟨c,hc,e⟩:=ae.symm.free z α;have e:=J4.1 e;rw [V]at hc;have :=(fg.1 hc).1;rw [e]at this;exact this hF
section
variable {t:P} {u:U}
theorem SU.inj (su:SU t u){z y:Nat}(J:∃q∈u.ths,q.Fr z)(V:∃q∈u.ths,q.Fr y)(e:asg u.frL t.frL ρ0 z=asg u.frL t.frL ρ0 y):z=y:=by
 by_cases G:z∈u.frL<;>by_cases H:y∈u.frL
 ·exact wj u.frL t.frL ρ0 z y G H su.len su.fn e
 ·have I:=e9 u.frL t.frL ρ0 z G su.len;rw [e,bN _ _ _ _ H]at I;exact absurd I ((su.free y V).resolve_left H).2
 ·have I:=e9 u.frL t.frL ρ0 y H su.len;rw [<-e,bN _ _ _ _ G]at I;exact absurd I ((su.free z J).resolve_left G).2
 ·rw [bN _ _ _ _ G,bN _ _ _ _ H]at e;have W:=((su.free z J).resolve_left G).1;have Z:=((su.free y V).resolve_left H).1;have :=KO UInt8.toNat e;rw [eV W,eV Z]at this;unfold σ0 at this;omega
theorem SU.I4 (su:SU t u):ki (Jc u.frL t.frL) t.ths u.ths:=by
 have key:∀{G:List P} {us:List U},ki (λp q=>AE UInt8.toNat p (λz=>(asg u.frL t.frL ρ0 z).toNat) q) G us->(∀p∈G,p∈t.ths)->(∀q∈us,q∈u.ths)->ki (Jc u.frL t.frL) G us:=by
  intro G us h
  induction h with
  | nil=>intro _ _;exact .nil
  | cons h _ J=>
   intro H I;have ha:=su.al _ (H _ (Kl ..));refine .cons ⟨h,T.Al.wf ha,T.Al.eb 0 ha,λz V=>su.free z ⟨_,I _ (Kl ..),V⟩⟩ (J (λp W=>H p (JR _ W)) λq Z=>I q (JR _ Z))
 exact key su.two (λ _ h=>h) λ _ h=>h
theorem bQ {X:Type}{l m:List X}(h:l.Perm m)(g:X->Nat):(l.map g).sum=(m.map g).sum:=iN (h.map g)
theorem count_flatMap {X:Type}(g:X->List Nat)(x:Nat):∀l:List X,(l.flatMap g).count x=(l.map λy=>(g y).count x).sum
 | []=>rfl
 | y::l=>by simp only [Lb,Ku,J9,KN,count_flatMap g x l]
theorem lZ.HJ (ok:lZ t):t.frL.length+gG t.ths=t.ow/\t.rd=(parL t.ths).rd/\(t.ths≠[]->t.frL.length+iR t.ths+t.ths.length<=t.size+1)/\t.frL.length+3* t.frL.length+t.ths.length<=400/\eF t.ths<=400/\t.ow<=8:=by
 have Z:=ok.nr.shape;obtain⟨G,J,h3,h4⟩:=vO (parL t.ths) t.frL;obtain⟨V,W,k3,k4,_⟩:=gh t.ths;rw [<-Z]at G J h3 h4;have hlen:=ok.len;rw [aT,h4]at hlen;have α:=ok.size;have z:∀l:List P,eF l<=(parL l).aJ/\l.length<=(parL l).aJ:=λl=>by
  have:∀l:List P,eF l+3* l.length<=(parL l).aJ+3:=by
   intro l
   induction l with
   | nil=>simp [eF,parL,T.aJ]
   | cons p l ih=>
    cases l with
    | nil=>simp [eF,parL]
    | cons q l=>
     simp only [parL,T.aJ,eF,J9,KN,JA]at ih|-;omega
  have G:∀p:P,1<=p.aJ:=λp=>by cases p<;>simp only [T.aJ]<;>omega
  cases l with
  | nil=>simp [eF]
  | cons p l=>
   have V:=this (p::l);have W:=G p;have k3:1<=eF (p::l):=by simp only [eF,J9,KN];omega
   have k4:1<=(p::l).length:=by simp
   omega
 have H:t.ow<=8:=by
  have su:=ok.su;have :=(Ij su.nu.uq su.nr).1;have h8:=ok.all;have h9:=(kA su.ae).1;omega
 refine⟨by rw [J,V],G,λI=>by have :=W I;omega,?_,?_,H⟩
 ·have :=(z t.ths).2;omega
 ·have :=(z t.ths).1;omega
theorem SU.cnt (su:SU t u)(x:Nat):u.frL.count x+(u.ths.map λy=>(BV y).count x).sum<=1:=by
 have z:=LN.1 su.nd x;rw [Ku,count_flatMap]at z;exact z
theorem dQ {A:Type}:∀p:T A,p.aJ<=5* p.size:=by intro p;induction p<;>simp only [aJ,size]<;>omega
theorem AR (ok:lZ t)(su:SU t u){i:Nat}(hi:i< t.ths.length)(α:i< u.ths.length){p:P}{I:U}(ho:Off.tau p∈offs t.ths[i])(β:Off.tau I∈offs u.ths[i])(ε:qz UInt8.toNat (λz=>(asg u.frL t.frL ρ0 z).toNat) (.tau p) (.tau I)):
  nY 0 (resL t.frL (parL (wo t.ths i i++[p]))) σ0 (resL u.frL (parL (wo u.ths i i++[I])))/\(resL u.frL (parL (wo u.ths i i++[I]))).smp=true:=by
 have V:=JM hi;have J:=JM α;obtain⟨sP,_⟩:=aW (su.smpP _ V) _ ho;obtain⟨sU,_⟩:=aW (su.smp _ J) _ β;have bU:=fZ _ β;have al:=sP.al _ (su.al _ V);have H:=zn t.ths i hi;have W:=zn u.ths i α;obtain⟨n1,n2,n3,n4,n5,n6⟩:=ok.HJ;have η:=ok.size;obtain⟨k1,k2,k3,k4,k5⟩:=gh (wo t.ths i i++[p]);have γ:=H.length_eq;have so:=bQ H T.ow;have ss:=bQ H T.size;have st:=bQ H T.aJ;simp only [J9,KN,JA]at so ss st γ;have s1:=sP.ow;have s2:=sP.size;have s3:=sP.rd;simp only [Off.tm,ow,size,rd]at s1 s2 s3;have θ:=dQ p;have ι:=bS t;have ζ:t.ths≠[]:=λe=>by rw [e]at hi;cases hi
 have n3:=n3 ζ;simp only [gG,iR,eF,mP,Kz,MQ,J9,Lj,KN,List.sum_nil,JJ,JA,JQ]at*;have κ:(parL (wo t.ths i i++[p])).rd<=t.rd:=by
  refine k5 t.rd λx G=>?_
  rw [n2];have h6:∀x∈t.ths,x.rd<=(parL t.ths).rd:=by
   have:∀l:List P,∀x∈l,x.rd<=(parL l).rd:=by
    intro l
    induction l with
    | nil=>intro x h;cases h
    | cons p l ih=>
     intro x G;cases l with
     | nil=>rw [JO]at G;subst G;exact JL _
     | cons q l=>
      simp only [parL,T.rd];rcases JX.1 G with rfl | G
      ·exact Nat.le_max_left _ _
      ·exact KD (ih x G) (Nat.le_max_right _ _)
   exact this t.ths
  rcases JN.1 G with G | G
  ·exact h6 x (lE G)
  ·rw [JO]at G;subst G;exact KD s3 (h6 _ V)
 refine⟨xu su.len su.fn su.fl (λx G=>su.ge x (Ke _ G)) (us:=wo u.ths i i++[I]) ?_ ?_ ?_ ?_ ?_ ?_,?_⟩
 ·refine(su.I4.wo i i).app (.cons ⟨ε,T.Al.wf al,T.Al.eb 0 al,λz hz=>su.free z ⟨_,J,sU.fr z hz⟩⟩ .nil)
 ·rw [LN];intro x;have h1:u.frL.count x+(u.ths.map λy=>(BV y).count x).sum<=1:=su.cnt x;have h2:(BV I).count x<=(BV u.ths[i]).count x:=bU.count_le x;have h3:(u.ths.map λy=>(BV y).count x).sum=(BV u.ths[i]).count x+((wo u.ths i i).map λy=>(BV y).count x).sum:=by
   have :=bQ W λy=>(BV y).count x
   simpa only [J9,KN]using this
  have h4:(u.frL++(wo u.ths i i++[I]).flatMap BV).count x=u.frL.count x+(((wo u.ths i i).map λy=>(BV y).count x).sum+(BV I).count x):=by
   rw [Ku,count_flatMap];simp
  have:u.frL.count x+(((wo u.ths i i).map λy=>(BV y).count x).sum+(BV I).count x)<=1:=by omega
  exact KD (Nat.le_of_eq h4) this
 ·intro x G;refine su.ge x (J7 _ ?_);obtain⟨q,Z,δ⟩:=Kv.1 G;rcases JN.1 Z with Z | Z
  ·exact Kv.2 ⟨q,lE Z,δ⟩
  ·rw [JO]at Z;subst Z;exact Kv.2 ⟨_,J,bU.subset δ⟩
 ·omega
 ·omega
 ·omega
 ·rw [sf];refine sD λx G=>?_
  rcases JN.1 G with G | G
  ·exact su.smp x (lE G)
  ·rw [JO]at G;subst G;exact sU.smp (su.smp _ J)
end
section
variable {t:P} {u:U}
theorem SU.kH (su:SU t u){k:Nat}(I:k< u.ths.length){r:U}(J:Sub r u.ths[k])(hb:(BV r).Sublist (BV u.ths[k])):Uq r:=by
 have hm:=JM I;have z:(BV u.ths[k]).Sublist (u.ths.flatMap BV):=by
  rw [List.flatMap_def];exact List.sublist_flatten_of_mem (K9 hm)
 have G:=(Kh.1 su.nd)
 refine⟨G.2.1.sublist (hb.trans z),λx V W=>?_⟩;have H:=z.subset (hb.subset V);have Z:=su.ge x (J7 _ H);rcases su.free x ⟨_,hm,J.fr x W⟩with h | h
 ·exact G.2.2 x h x H rfl
 ·omega
theorem Ix {A:Type}:∀l:List (T A),mP l+gG l+l.length<=iR l
 | []=>by simp [mP,gG,iR]
 | p::l=>by
  have z:=Ix l;have G:=bS p;simp only [mP,gG,iR,J9,KN,JA]at*;omega
theorem FQ {A:Type}:∀l:List (T A),∀x∈l,x.rd<=(parL l).rd:=by
 intro l
 induction l with
 | nil=>intro x h;cases h
 | cons p l G=>
  intro x z;cases l with
  | nil=>cases JO.1 z;exact JL _
  | cons q l=>
   simp only [parL,T.rd];rcases JX.1 z with rfl | z
   ·exact Nat.le_max_left _ _
   ·exact KD (G x z) (Nat.le_max_right _ _)
theorem yA {p q:P}(h:p.shp=q.shp):p.rd=q.rd/\p.ow=q.ow/\p.aJ=q.aJ:=by
 have key:∀p:P,p.shp.rd=p.rd/\p.shp.ow=p.ow:=λp=>by
  unfold T.shp
  induction p<;>simp_all [T.map,T.rd,T.ow]
 refine⟨by rw [<-(key p).1,<-(key q).1,h],by rw [<-(key p).2,<-(key q).2,h],iY h⟩
def bG {A:Type}(l:List (T A))(i k:Nat)(p q:T A)(s:Bool)(x:T A):List (T A):=wo l i k++[p,q]++if s then [x]else []
theorem xt (ok:lZ t)(su:SU t u){i k:Nat}(hi:i< t.ths.length)(θ:i< u.ths.length)(hk:k< t.ths.length)(β:k< u.ths.length)(ι:i≠k){a b:UInt8}{p:P}{c d:Nat}{p':U}(ho:Off.snd a b p∈offs t.ths[i])(κ:Off.snd c d p'∈offs u.ths[i])
  (hae:qz UInt8.toNat (λz=>(asg u.frL t.frL ρ0 z).toNat) (.snd a b p) (.snd c d p')) {e x:UInt8} {q:P} {s:Bool} {e' x':Nat} {H:U} {s':Bool} (hr:Off.rcv e x q s∈offs t.ths[k]) (μ:Off.rcv e' x' H s'∈offs u.ths[k])
  (har:qz UInt8.toNat (λz=>(asg u.frL t.frL ρ0 z).toNat) (.rcv e x q s) (.rcv e' x' H s')) {f:Nat->Nat} {N:Nat} (hf:EC N H x' d f) (hN:∀z,(z∈u.frL\/z∈u.ths.flatMap BV\/∃q∈u.ths,q.Fr z)->z<=N) (h25:25<=N) {Z:P} (γ:iA 0 q x b Z):
  nY 0 (resL t.frL (parL (bG t.ths i k p Z s t.ths[k]))) σ0 (resL u.frL (parL (bG u.ths i k p' (H.map f) s' u.ths[k])))/\(resL u.frL (parL (bG u.ths i k p' (H.map f) s' u.ths[k]))).smp=true:=by
 obtain⟨_,hbd,ν⟩:=hae;obtain⟨_,ξ,rfl⟩:=har;have ε:=JM hi;have W:=JM θ;have ζ:=JM hk;have J:=JM β;obtain⟨sP,_⟩:=aW (su.smpP _ ε) _ ho;obtain⟨sU,_⟩:=aW (su.smp _ W) _ κ;obtain⟨rP,rR⟩:=aW (su.smpP _ ζ) _ hr;obtain⟨rU,_⟩:=aW (su.smp _ J) _ μ;have bU:=fZ _ κ;have cU:=fZ _ μ;have al:=(sP.al _ (su.al _ ε)).2.2;have G:=yS t.ths i k hi hk ι;have η:=yS u.ths i k θ β ι;have ο:=su.kH β rU cU;have δ:Uq H:=ο.rcv;have ς:x'∉BV H:=ο.kV;have hd:d<=N:=hN d (.inr (.inr ⟨_,W,sU.fr d (.inr (.inl rfl))⟩));have υ:∀z,H.Fr z->z<=N:=λz I=>by
  by_cases h:z=x'
  ·subst h;exact hN z (.inr (.inl (Kv.2 ⟨_,J,cU.subset (Kl ..)⟩)))
  ·exact hN z (.inr (.inr ⟨_,J,rU.fr z (.inr ⟨h,I⟩)⟩))
 have φ:∀z∈BV H,z<=N:=λz I=>hN z (.inr (.inl (Kv.2 ⟨_,J,cU.subset (JR _ I)⟩)))
 have ae2:AE UInt8.toNat Z (λz=>(asg u.frL t.frL ρ0 z).toNat) (H.map f):=by
  have k1:=(γ.ok UInt8.toNat).symm;have k2:=ξ b.toNat;have k3:=hf.ae δ ς υ hd φ (λz=>(asg u.frL t.frL ρ0 z).toNat);rw [show b.toNat=(asg u.frL t.frL ρ0 d).toNat from hbd]at k1 k2;exact(k1.trans k2).trans k3
 have χ:∀z,(H.map f).Fr z->∃q∈u.ths,q.Fr z:=λz I=>by
  rcases hf.fr δ z I with h | ⟨h,h'⟩
  ·subst h;exact⟨_,W,sU.fr z (.inr (.inl rfl))⟩
  ·exact⟨_,J,rU.fr z (.inr ⟨h,h'⟩)⟩
 obtain⟨n1,n2,n3,n4,n5,n6⟩:=ok.HJ;have hsz:=ok.size;obtain⟨g1,g2,g3⟩:=yA γ.shp;have ψ:=G.length_eq;have so:=bQ G T.ow;have ss:=bQ G T.size;have st:=bQ G T.aJ;have sr:=bQ G T.rd;simp only [J9,KN,JA]at so ss st sr ψ;have s1:=sP.ow;have s2:=sP.size;have s3:=sP.rd;have r1:=rP.ow;have r2:=rP.size;have r3:=rP.rd;simp only [Off.tm,ow,size,rd]at s1 s2 s3 r1 r2 r3;have tl1:=dQ p;have tl2:=dQ q;have hro:=bS t;have hne:t.ths≠[]:=λe=>by rw [e]at hi;cases hi
 have n3:=n3 hne;have sum:=Ix (wo t.ths i k);have snd2:=D5 ⟨a,b,p,ho⟩;have rk:=bS t.ths[k];have rdt:=(gh t.ths).2.2.1;have h6:=FQ t.ths;have hrd:(parL (bG t.ths i k p Z s t.ths[k])).rd<=t.rd:=by
  refine(gh _).2.2.2.2 t.rd λx V=>?_
  rw [n2];unfold bG at V;rcases JN.1 V with V | V
  ·rcases JN.1 V with V | V
   ·exact h6 x (lE V)
   ·rcases JX.1 V with rfl | V
    ·exact KD s3 (h6 _ ε)
    ·cases JO.1 V;have :=h6 _ ζ;omega
  ·cases s
   ·cases V
   ·cases JO.1 V;exact h6 _ ζ
 obtain⟨k1,_,_,k4,_⟩:=gh (bG t.ths i k p Z s t.ths[k]);have kow:gG (bG t.ths i k p Z s t.ths[k])=gG (wo t.ths i k)+p.ow+Z.ow+if s then t.ths[k].ow else 0:=by
  unfold bG gG;cases s<;>simp<;>omega
 have ktl:eF (bG t.ths i k p Z s t.ths[k])+3* (bG t.ths i k p Z s t.ths[k]).length<=eF (wo t.ths i k)+3* (wo t.ths i k).length+p.aJ+Z.aJ+t.ths[k].aJ+9:=by
  unfold bG eF;cases s<;>simp<;>omega
 have hbound:(parL (bG t.ths i k p Z s t.ths[k])).rd+t.frL.length+(parL (bG t.ths i k p Z s t.ths[k])).ow<=64:=by
  rw [k1,kow];cases s
  ·simp only [LA,Mo,gG,iR,mP]at*;omega
  ·have e2:=rR e x q rfl;have e3:t.ths[k].ow=q.ow/\t.ths[k].rd=q.rd+1/\t.ths[k].size=q.size+2:=by rw [e2];simp [T.ow,T.rd,T.size]
   have rq:=bS q;simp only [Ls,gG,iR,mP]at*;omega
 refine⟨xu su.len su.fn su.fl (λx V=>su.ge x (Ke _ V)) (us:=bG u.ths i k p' (H.map f) s u.ths[k]) ?_ ?_ ?_ hbound ?_ ?_,?_⟩
 ·unfold bG;refine((su.I4.wo i k).app (.cons ⟨ν,T.Al.wf al,T.Al.eb 0 al,λz I=>su.free z ⟨_,W,sU.fr z (.inr (.inr I))⟩⟩ (.cons ⟨ae2,γ.wf,γ.eb,λz I=>su.free z (χ z I)⟩ .nil))).app ?_;cases s
  ·exact .nil
  ·exact .cons (su.I4.get hk β) .nil
 ·rw [LN];intro z;have h1:u.frL.count z+(u.ths.map λy=>(BV y).count z).sum<=1:=su.cnt z;have h2:(BV p').count z<=(BV u.ths[i]).count z:=bU.count_le z;have h3:(u.ths.map λy=>(BV y).count z).sum=(BV u.ths[i]).count z+((BV u.ths[k]).count z+((wo u.ths i k).map λy=>(BV y).count z).sum):=by
   have :=bQ η λy=>(BV y).count z
   simpa only [J9,KN]using this
  have h4:(u.frL++(bG u.ths i k p' (H.map f) s u.ths[k]).flatMap BV).count z=u.frL.count z+(((wo u.ths i k).map λy=>(BV y).count z).sum+(BV p').count z+(BV (H.map f)).count z+if s then(BV u.ths[k]).count z else 0):=by
   unfold bG;rw [Ku,count_flatMap];cases s<;>simp<;>omega
  have ω:(BV (H.map f)).count z=0\/(N< z/\(BV (H.map f)).count z<=1):=by
   rw [fO];by_cases h:z∈(BV H).map f
   ·right;obtain⟨y,hy,e⟩:=Kk.1 h;refine⟨by rw [<-e];exact hf.fb y hy,?_⟩;have:((BV H).map f).Nodup:=by
     have:∀l:List Nat,l.Nodup->(∀z∈l,z∈BV H)->(l.map f).Nodup:=by
      intro l
      induction l with
      | nil=>intro _ _;exact K5
      | cons y l ih=>
       intro hn hm;have hn:=KF.1 hn;refine KF.2 ⟨λh=>?_,ih hn.2 λz I=>hm z (JR _ I)⟩;obtain⟨z,I,e⟩:=Kk.1 h;have :=hf.fi z (hm z (JR _ I)) y (hm y (Kl ..)) e;exact hn.1 (this▸I)
     exact this (BV H) δ.nd λ _ h=>h
    exact LN.1 this z
   ·exact .inl (List.count_eq_zero.2 h)
  have hbig:N< z->u.frL.count z+(u.ths.map λy=>(BV y).count z).sum=0:=λI=>by
   rw [<-count_flatMap,<-Ku];refine List.count_eq_zero.2 λhm=>?_
   have :=hN z ((JN.1 hm).imp id .inl);omega
  have:u.frL.count z+(((wo u.ths i k).map λy=>(BV y).count z).sum+(BV p').count z+(BV (H.map f)).count z+if s then(BV u.ths[k]).count z else 0)<=1:=by
   rcases ω with h | ⟨I,h⟩
   ·cases s<;>simp only [Ls,LA,Mo]<;>omega
   ·have :=hbig I;cases s<;>simp only [Ls,LA,Mo]<;>omega
  exact KD (Nat.le_of_eq h4) this
 ·intro z I;obtain⟨r,hr2,α⟩:=Kv.1 I;have old:∀r∈u.ths,z∈BV r->26<=z:=λr h1 h2=>su.ge z (J7 _ (Kv.2 ⟨r,h1,h2⟩))
  unfold bG at hr2;rcases JN.1 hr2 with h | h
  ·rcases JN.1 h with h | h
   ·exact old r (lE h) α
   ·rcases JX.1 h with rfl | h
    ·exact old _ W (bU.subset α)
    ·cases JO.1 h;rw [fO]at α;obtain⟨y,hy,e⟩:=Kk.1 α;have :=hf.fb y hy;omega
  ·cases s
   ·cases h
   ·cases JO.1 h;exact old _ J α
 ·simp only [eF,iR,gG]at*;omega
 ·omega
 ·rw [sf];have hsm:(H.map f).smp=true:=by
   have h1:=hf.ae δ ς υ hd φ id;rw [<-r9 h1];have :=rU.smp (su.smp _ J);exact this
  refine sD λy hy=>?_
  unfold bG at hy;rcases JN.1 hy with h | h
  ·rcases JN.1 h with h | h
   ·exact su.smp y (lE h)
   ·rcases JX.1 h with rfl | h
    ·exact sU.smp (su.smp _ W)
    ·cases JO.1 h;exact hsm
  ·cases s
   ·cases h
   ·cases JO.1 h;exact su.smp _ J
end
end Go.Proofs.YtdecokaadekjnaaGreat
namespace Go.Proofs.YtdecokaadekjnaaGreat
open Go Go.RowKit T
theorem HE (w:World){t:P}{k:Nat}{old nw:UInt8}(ok:Ok t)(eb:Eb k t)(hb:k+t.bd<=64)(z:nm nw=true)(G:okn k nw):∃q,iA k t old nw q:=by
 have h:=gF t.size (old:=old) (JL _) ok eb hb z G (w:=w) (R:=λ _ _=>∃q,iA k t old nw q) λq w' _ H=>⟨q,H⟩
 obtain⟨e,w',fr,hr,_⟩:=h [];obtain⟨_,hr⟩:=hr;exact hr.2
def Ff (N:Nat)(q:U)(x b:Nat):Nat->Nat:=λz=>if z=x then b else if z∈BV q then z+N+1 else z
theorem y7 (N:Nat){q:U}{x:Nat}(b:Nat)(I:x∉BV q):EC N q x b (Ff N q x b):=by
 refine⟨Ka rfl,λz G J=>?_,λz H=>?_,λz H y V e=>?_⟩
 ·simp only [Ff,JV G,JV J]
 ·have G:z≠x:=λe=>I (e▸H)
  simp only [Ff,JV G,Ka H];omega
 ·have G:z≠x:=λe=>I (e▸H)
  have J:y≠x:=λe=>I (e▸V)
  simp only [Ff,JV G,Ka H,JV J,Ka V]at e;omega
def NN (u:U):Nat:=(BV u).sum+26
def H6 (u:U)(i:Nat)(p:U):U:=resL u.frL (parL (wo u.ths i i++[p]))
def Ci (u:U)(i k:Nat)(p q:U)(s:Bool):U:=resL u.frL (parL (bG u.ths i k p q s (u.ths.getD k .nil)))
def E3 (u:U)(i k c d:Nat)(p:U):Off Nat->List U
 | .rcv e x q s=>if e=c then [Ci u i k p (q.map (Ff (NN u) q x d)) s]else []
 | _=>[]
def E2 (u:U)(i c d:Nat)(p:U)(k:Nat):List U:=if i=k then []else(offs (u.ths.getD k .nil)).flatMap (E3 u i k c d p)
def E1 (u:U)(i:Nat):Off Nat->List U
 | .tau p=>[H6 u i p]
 | .snd c d p=>(List.range u.ths.length).flatMap (E2 u i c d p)
 | .rcv .. =>[]
def E0 (u:U)(i:Nat):List U:=(offs (u.ths.getD i .nil)).flatMap (E1 u i)
def gN (u:U):List U:=(List.range u.ths.length).flatMap (E0 u)
noncomputable def outs (l:List U):List Tx:=l.map λv=>(jY v).getD []
noncomputable def jb (l:List U):Bool:=l.all λv=>(jY v).isSome
noncomputable def Cm (u:U):Option (List Tx):=if jb (gN u)then some (dd (aX (outs (gN u))))else none
theorem yz (l m:List U):outs (l++m)=outs l++outs m:=Kz ..
theorem uC (l m:List U):jb (l++m)=(jb l&&jb m):=L9 ..
section
variable {t:P} {u:U}
theorem SU.bound (su:SU t u):∀z,(z∈u.frL\/z∈u.ths.flatMap BV\/∃q∈u.ths,q.Fr z)->z<=NN u:=by
 have H:=su.nr.shape;have G:BV u=u.frL++u.ths.flatMap BV:=by
  have:BV u=BV (resL u.frL (parL u.ths)):=by rw [<-H]
  rw [this,gb,fX]
 have key:∀z∈BV u,z<=NN u:=λz I=>by have :=wJ I;unfold NN;omega
 intro z I;rcases I with h | h | h
 ·exact key z (by rw [G];exact Ke _ h)
 ·exact key z (by rw [G];exact J7 _ h)
 ·rcases su.free z h with h | h
  ·exact key z (by rw [G];exact Ke _ h)
  ·unfold NN;omega
theorem Cq (ok:lZ t)(su:SU t u){i:Nat}(I:i< u.ths.length){p:U}(J:Off.tau p∈offs u.ths[i]):Nu (H6 u i p)/\(H6 u i p).smp=true:=by
 have hl:=su.two.len;have z:i< t.ths.length:=by omega
 obtain⟨V,H,G⟩:=(jo (su.two.get z I)).BF J;cases V<;>try cases G
 obtain⟨W,Z⟩:=AR ok su z I H J G;exact⟨W.nu,Z⟩
theorem H9 (ok:lZ t)(su:SU t u){k:Nat}(z:k< t.ths.length){e x:UInt8}{q:P}{s:Bool}(hr:Off.rcv e x q s∈offs t.ths[k]):Ok q/\Eb 0 q/\0+q.bd<=64:=by
 have hm:=JM z;obtain⟨sub,_⟩:=aW (su.smpP _ hm) _ hr;have al:=sub.al _ (su.al _ hm);have J:=sub.size;obtain⟨_,_,G,_,_,_⟩:=ok.HJ;have G:=G (λe=>by rw [e]at z;cases z);have V:=ok.size;have H:t.ths[k].size<=iR t.ths:=wJ (Kk.2 ⟨_,hm,rfl⟩);simp only [Off.tm,size]at J;have :=bS q;have :=T.yd q;have :=dQ q;have I:1<=t.ths.length:=by omega
 exact⟨⟨T.Al.wf al.2.2,by rw [aT];omega⟩,T.Al.eb 0 al.2.2,by omega⟩
theorem rh (w:World)(ok:lZ t)(su:SU t u){i k:Nat}(hi:i< u.ths.length)(hk:k< u.ths.length)(W:i≠k){c d:Nat}{p:U}(ho:Off.snd c d p∈offs u.ths[i]){e x:Nat}{q:U}{s:Bool}(hr:Off.rcv e x q s∈offs u.ths[k])
  {f:Nat->Nat} {N:Nat} (hf:EC N q x d f) (hN:∀z,(z∈u.frL\/z∈u.ths.flatMap BV\/∃q∈u.ths,q.Fr z)->z<=N) (Z:25<=N):Nu (resL u.frL (parL (bG u.ths i k p (q.map f) s u.ths[k])))/\(resL u.frL (parL (bG u.ths i k p (q.map f) s u.ths[k]))).smp=true:=by
 have hl:=su.two.len;have G:i< t.ths.length:=by omega
 have H:k< t.ths.length:=by omega
 obtain⟨o',I,α⟩:=(jo (su.two.get G hi)).BF ho;obtain⟨r',J,β⟩:=(jo (su.two.get H hk)).BF hr;cases o'<;>try cases α
 cases r'<;>try cases β
 rename_i a b p' γ δ e' x' q' s' ε ζ;obtain⟨h1,h2,h3⟩:=H9 ok su H J;have V:=JM G;obtain⟨sP,_⟩:=aW (su.smpP _ V) _ I;have al:=(sP.al _ (su.al _ V)).2.1;obtain⟨q2,η⟩:=HE w h1 h2 h3 (old:=x') (nw:=b) (im al) (zk al 0);obtain⟨k1,k2⟩:=xt ok su G hi H hk W I ho ⟨γ,δ⟩ J hr ⟨ε,ζ⟩ hf hN Z η;exact⟨k1.nu,k2⟩
theorem AE.Ii {p q:U}(h:∀σ:Nat->Nat,AE σ p σ q):∀(o:List Nat) (σ:Nat->Nat),AE σ (resL o p) σ (resL o q)
 | [],σ=>h σ
 | x::o,σ=>λv=>AE.Ii h o (aF σ x v)
theorem Bu (w:World)(ok:lZ t)(su:SU t u){i k:Nat}(hi:i< u.ths.length)(hk:k< u.ths.length)(I:i≠k){c d:Nat}{p:U}(ho:Off.snd c d p∈offs u.ths[i]){e x:Nat}{q:U}{s:Bool}(hr:Off.rcv e x q s∈offs u.ths[k])
  {f f':Nat->Nat} {N N':Nat} (hf:EC N q x d f) (hN:∀z,(z∈u.frL\/z∈u.ths.flatMap BV\/∃q∈u.ths,q.Fr z)->z<=N) (α:25<=N) (J:EC N' q x d f') (V:∀z,(z∈u.frL\/z∈u.ths.flatMap BV\/∃q∈u.ths,q.Fr z)->z<=N') (W:25<=N'):
  jY (resL u.frL (parL (bG u.ths i k p (q.map f) s u.ths[k])))=jY (resL u.frL (parL (bG u.ths i k p (q.map f') s u.ths[k]))):=by
 have G:=JM hk;have Z:=JM hi;obtain⟨sU,_⟩:=aW (su.smp _ Z) _ ho;obtain⟨rU,_⟩:=aW (su.smp _ G) _ hr;have cU:=fZ _ hr;have H:=su.kH hk rU cU;have nq:∀M,(∀z,(z∈u.frL\/z∈u.ths.flatMap BV\/∃q∈u.ths,q.Fr z)->z<=M)->(∀z,q.Fr z->z<=M)/\d<=M/\∀z∈BV q,z<=M:=λM hM=>by
  refine⟨λz hz=>?_,hM d (.inr (.inr ⟨_,Z,sU.fr d (.inr (.inl rfl))⟩)),λz hz=>hM z (.inr (.inl (Kv.2 ⟨_,G,cU.subset (JR _ hz)⟩)))⟩;by_cases h:z=x
  ·subst h;exact hM z (.inr (.inl (Kv.2 ⟨_,G,cU.subset (Kl ..)⟩)))
  ·exact hM z (.inr (.inr ⟨_,G,rU.fr z (.inr ⟨h,hz⟩)⟩))
 obtain⟨a1,a2,a3⟩:=nq N hN;obtain⟨b1,b2,b3⟩:=nq N' V;have hq:∀σ:Nat->Nat,AE σ (q.map f) σ (q.map f'):=λσ=>(hf.ae H.rcv H.kV a1 a2 a3 σ).symm.trans (J.ae H.rcv H.kV b1 b2 b3 σ)
 refine Dz (rh w ok su hi hk I ho hr hf hN α).1 (rh w ok su hi hk I ho hr J V W).1 (AE.Ii (λσ=>?_) _ _);have refl:∀l:List U,ki (λp q=>AE σ p σ q) l l:=λl=>by
  induction l with
  | nil=>exact .nil
  | cons p l ih=>exact .cons (AE.refl p σ) ih
 have:ki (λp q=>AE σ p σ q) (bG u.ths i k p (q.map f) s u.ths[k]) (bG u.ths i k p (q.map f') s u.ths[k]):=by
  unfold bG;exact((refl _).app (.cons (AE.refl p σ) (.cons (hq σ) .nil))).app (refl _)
 have key:∀{ps us:List U},ki (λp q=>AE σ p σ q) ps us->AE σ (T.parL ps) σ (T.parL us):=by
  intro ps us h
  induction h with
  | nil=>trivial
  | cons h k ih=>
   cases k with
   | nil=>exact h
   | cons h' k'=>exact⟨h,ih⟩
 exact key this
theorem cN {l:List U}{k:Nat}(h:k< l.length):l.getD k .nil=l[k]:=by simp [List.getD,h]
theorem CD (w:World)(ok:lZ t)(su:SU t u):∀v∈gN u,Nu v/\v.smp=true:=by
 intro v z;unfold gN E0 at z;obtain⟨i,I,z⟩:=Kv.1 z;rw [K2]at I;rw [cN I]at z;obtain⟨o,Z,z⟩:=Kv.1 z;cases o with
 | tau p=>cases JO.1 z;exact Cq ok su I Z
 | rcv=>cases z
 | snd c d p=>
  obtain⟨k,G,z⟩:=Kv.1 z;rw [K2]at G;unfold E2 at z;split at z
  ·cases z
  ·rename_i J;rw [cN G]at z;obtain⟨r,hr,z⟩:=Kv.1 z;cases r with
   | tau=>cases z
   | snd=>cases z
   | rcv e x q s=>
    have z:v∈(if e=c then [Ci u i k p (q.map (Ff (NN u) q x d)) s]else []):=z;by_cases H:e=c
    ·rw [Ka H]at z;cases JO.1 z;unfold Ci;rw [cN G];have V:=JM G;have W:=su.kH G (aW (su.smp _ V) _ hr).1 (fZ _ hr);exact rh w ok su I G J Z hr (y7 (NN u) d W.kV) su.bound (by unfold NN;omega)
    ·rw [JV H]at z;cases z
end
end Go.Proofs.YtdecokaadekjnaaGreat
