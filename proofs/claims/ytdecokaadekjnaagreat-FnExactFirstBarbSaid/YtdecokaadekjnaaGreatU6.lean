/- Part 6 of a proof of what the last text states; no condition. -/
import Derived.Test.YtdecokaadekjnaaGreatU5
namespace Go.Proofs.YtdecokaadekjnaaGreat
open Go Go.RowKit T Classical
set_option maxHeartbeats 1000000 in
theorem DA {w:World}{ra b r:Nat}{vo:Value}{all:List Tx}{mm:Value->Option Value}(h:C2 w ra b r vo all mm)(hl:all.length<=120)(hst:∀s∈all,St s)(ha:∃m0,IsMap w ra aT m0/\∀s t,m0 (Cs s t)=none){R:World->Prop}
  (hR:∀w',Kp w w' (λg=>g=ra)->C2 w' ra b r vo all mm->sE w' ra all (λ _ _=>True) Is->R w'):Calls Tryz.prog 105 #[ptr b] w (ax [] R):=by
 refine ni _ w R ?_;have hcl:Cl all:=λs hs=>by obtain⟨v,l,_,h2,h3,_⟩:=h.nm.nx s hs;exact⟨l,h2,h3⟩
 obtain⟨m0,V,I⟩:=ha;have lra:=bX V;refine⟨rfl,λb2 w3 hb2 ν b4 w5 hb4 ξ b6 w7 hb6 ο b8 w9 hb8 δ=>?_⟩;have x3:Ex w w3:=ν▸Ex.alloc w _;have x5:Ex w3 w5:=ξ▸Ex.alloc w3 _;have x7:Ex w5 w7:=ο▸Ex.alloc w5 _;have x9:Ex w7 w9:=δ▸Ex.alloc w7 _;have s3:w3.heap.size=w.heap.size+1:=by rw [ν,size_alloc]
 have s5:w5.heap.size=w3.heap.size+1:=by rw [ξ,size_alloc]
 have s7:w7.heap.size=w5.heap.size+1:=by rw [ο,size_alloc]
 have s9:w9.heap.size=w7.heap.size+1:=by rw [δ,size_alloc]
 have c9:w9.cell? ⟨b8,0,none⟩=some (.map none):=by rw [δ,hb8];exact aa rfl
 refine⟨rfl,⟨⟨_,c9⟩,by rw [δ,hb8];exact aG _ _ _ _⟩,λG ε=>?_⟩;have β:Kp w9 G (λg=>g=b8):=ε▸Kr.set w9 0 _;have s11:=β.size;have x39:=Ex.trans x5 (Ex.trans x7 x9);have x11:Ex w G:=Ex.below (Ex.trans x3 x39) (Kp.below β (by omega) λg hg e=>by omega);have c2:G.cell? ⟨b2,0,none⟩=some (ptr b):=by
  rw [J1 (w:=w3) ((β.block b2 (by omega) (by omega)).trans (x39.block b2 (by omega))),ν,hb2];exact aa rfl
 have em4:G.heap[b4]?=some (.map #[] 0):=by rw [β.block b4 (by omega) (by omega),(Ex.trans x7 x9).block b4 (by omega),ξ,hb4];unfold World.alloc;simp
 have em6:G.heap[b6]?=some (.map #[] 0):=by rw [β.block b6 (by omega) (by omega),x9.block b6 (by omega),ο,hb6];unfold World.alloc;simp
 have i11:R1 w ra G.heap.size b b2 b4 b6 b8 (λs=>s∈all.take 0) (λs=>s∈all.take 0) G:=⟨Kp.ah x11 _,lra,⟨by omega,by omega⟩,⟨by omega,by omega⟩,⟨by omega,by omega⟩,⟨by omega,by omega⟩,Kb _,by omega,by omega,by omega,by omega,by omega,c2,by rw [ε];exact Kj _ _ _ c9,⟨cH [],⟨#[],0,em4,⟨by simp,by simp,by simp⟩,by simp,λq=>rfl⟩,λs hs=>by simp at hs⟩,cH [],⟨#[],0,em6,⟨by simp,by simp,by simp⟩,by simp,λq=>rfl⟩,λs hs=>by simp at hs⟩
 have ω:∃m0,IsMap G ra aT m0/\∀s t,m0 (Cs s t)=none:=⟨m0,aU V (x11.block ra lra),I⟩
 clear em4 em6 c2 β c9 ε δ ο ξ ν x39 x9 x7 x5 x3 s9 s7 s5 s3 hb2 hb4 hb6 hb8 V I;generalize hQ:G.heap.size=Q at i11;obtain⟨a,cap,hv⟩:=h.so.slice;have hB:∀{w'},Kp w w' (λg=>g=ra)->C2 w' ra b r vo all mm:=λ{w'} k=>h.kp k
 refine⟨_,i11.c2,b,0,rfl,vo,(hB i11.kp).c1,a,_,cap,hv,λx w'=>∃j:Nat,x=j/\j<=all.length/\R1 w ra Q b b2 b4 b6 b8 (λs=>s∈all.take j) (λs=>s∈all.take j) w'/\∃m0,IsMap w' ra aT m0/\∀s t,m0 (Cs s t)=none,λx _=>(all.length - x).toNat,
  ⟨0,rfl,KT _,i11,ω⟩,λx γ hI=>?_⟩
 clear i11 ω x11 s11 hQ;obtain⟨j,rfl,hj,i22,m0,V,I⟩:=hI;have ς:=hB i22.kp;refine⟨λhlt=>?_,λυ=>?_⟩
 ·have z:j< all.length:=by simp only [J4]at hlt;omega
  have ζ:=Kg z;have hm1:((all.length:Int) - ((j:Int)+1)).toNat< ((all.length:Int) - j).toNat:=by omega
  refine ς.so.get (Ex.refl _) (i:=j) (x:=all[j]) (by omega) (by rw [J9];exact J2 z) (Q:=λn=>_) ?_;refine⟨λw'=>Ex γ w',λw29 hw29=>⟨hw29▸Ex.drew γ,_,λw' x=>(i22.ex x).c2,b,0,rfl,_,λw' x=>(i22.ex x).c2,b,0,rfl,?_⟩⟩;have φ:Ex γ w29:=hw29▸Ex.drew γ;refine qj (ς.nm.ex φ) hl hst ζ (k:=33) (by decide) λx w37 x37 hx hx2=>⟨Ex.trans φ x37,qj (ς.nm.ex (Ex.trans φ x37)) hl hst ζ (k:=63) (by decide) λy w39 x39 hy hy2=>?_⟩
  have W:=Ex.trans φ (Ex.trans x37 x39);have i39:=i22.ex W;obtain⟨mb,η,_⟩:=i39.mb;refine⟨W,b4,mb,rfl,η,λθ hm42 k42=>?_⟩;have i42:=i39.Jh η hm42 k42 hx hx2 hy hy2;have a42:IsMap θ ra aT m0:=aU (aU V (W.block ra (bX V))) (k42.block ra (by have :=i22.l4;have :=i22.lra;omega));have h42:=hB i42.kp;refine⟨λw'=>Ex θ w',λw44 hw44=>⟨hw44▸Ex.drew θ,_,λw' x=>(i42.ex x).c8,_,λw' x=>(i42.ex x).c2,b,0,rfl,?_⟩⟩;have x44:Ex θ w44:=hw44▸Ex.drew θ;refine Cz (h42.nm.ex x44) hl ζ λv l w50 x50 o50 hr h120=>?_
  have Z:=Ex.trans x44 x50;have i50:=i42.ex Z;obtain⟨mq,hmq,_⟩:=i50.mq;refine⟨Z,b6,mq,rfl,hmq,λw53 hm53 k53=>⟨by unfold aj;omega,⟨j+1,by omega,by omega,?_,m0,?_,I⟩,hm1⟩⟩
  ·have i53:=i50.Jr hmq hm53 k53 o50.strs hr h120 λg hg=>by have :=(o50.block g hg).1;have :=i42.lq;have :=x44.size;omega
   refine i53.mono (λs hs=>?_) λs hs=>?_
   ·rw [J8 z,Ke,Kf]at hs;exact hs
   ·rw [J8 z,Ke,Kf]at hs;exact hs
  ·exact aU (aU a42 (Z.block ra (bX a42))) (k53.block ra (by have :=i22.l6;have :=i22.lra;omega))
 have e:j=all.length:=by simp only [J6]at υ;omega
 subst e;rw [KA]at i22;refine⟨_,i22.c2,b,0,rfl,vo,ς.c1,a,_,cap,hv,λx w'=>∃j:Nat,x=j/\j<=all.length/\Kp γ w' (λg=>g=ra)/\sE w' ra all (Pr all j 0) (ap 0),λx _=>(all.length - x).toNat,
  ⟨0,rfl,KT _,Kp.ah (Ex.refl _) _,m0,V,λs _ t _=>by rw [I,Ko];simp [rH]⟩,λx ι hI=>?_⟩
 clear hj υ;obtain⟨j,rfl,hj,k64,hA64⟩:=hI;have i64:=i22.to k64;have h64:=hB i64.kp;refine⟨λhlt=>?_,λυ=>?_⟩
 ·have z:j< all.length:=by simp only [J4]at hlt;omega
  have ζ:=Kg z;refine h64.so.get (Ex.refl _) (i:=j) (x:=all[j]) (by omega) (by rw [J9];exact J2 z) (Q:=λn=>_) ?_;refine⟨_,i64.c2,b,0,rfl,vo,h64.c1,a,_,cap,hv,λx w'=>∃i:Nat,x=i/\i<=all.length/\Kp γ w' (λg=>g=ra)/\sE w' ra all (Pr all j i) (ap 0),λx _=>(all.length - x).toNat,
   ⟨0,rfl,KT _,k64,hA64⟩,λx w80 hI=>?_⟩
  obtain⟨i,rfl,hi,χ,α⟩:=hI;have i80:=i22.to χ;have h80:=hB i80.kp;refine⟨λhlt2=>?_,λhge2=>?_⟩;rotate_left
  ·have e:i=all.length:=by simp only [J6]at hge2;omega
   subst e;exact⟨by unfold aj;omega,⟨j+1,by omega,by omega,χ,α.congr λs _ t _=>by simp only [CU z]⟩,by show((all.length:Int) - ((j:Int)+1)).toNat< ((all.length:Int) - j).toNat;omega⟩
  have ψ:i< all.length:=by simp only [J4]at hlt2;omega
  have him:=Kg ψ;have hm2:((all.length:Int) - ((i:Int)+1)).toNat< ((all.length:Int) - i).toNat:=by omega
  refine h80.so.get (Ex.refl _) (i:=i) (x:=all[i]) (by omega) (by rw [J9];exact J2 ψ) (Q:=λn=>_) ?_;obtain⟨mb,η,hmbs⟩:=i80.mb;obtain⟨x1,y1,e1,p1,q1,r1,t1⟩:=hmbs _ ζ;obtain⟨x2,y2,e2,p2,q2,r2,t2⟩:=hmbs _ him;refine⟨b4,mb,rfl,η,_,true,.inl ⟨rfl,e1⟩,b4,mb,rfl,η,_,true,.inl ⟨rfl,e2⟩,x1,y1,x2,y2,rfl,rfl,?_⟩;have hbar:(x1=x2/\y1=y2)↔Iw all[j] all[i]:=and_congr (Bc p1 p2 q1 q2) (Bc r1 r2 t1 t2);refine⟨λhq=>?_,λhq=>?_⟩
  ·have hnb:¬Iw all[j] all[i]:=λhb=>by
    obtain⟨rfl,rfl⟩:=hbar.2 hb;simp at hq
   have e0:ap 0 all[j] all[i]=some 0:=by unfold ap;rw [Ko hnb]
   obtain⟨m,hm,_⟩:=id α;refine⟨_,i80.c2,b,0,rfl,_,by rw [KF];exact h80.c5,ra,m,rfl,hm,λw104 hm104 k104=>⟨by unfold aj;omega,⟨i+1,by omega,by omega,?_,?_⟩,hm2⟩⟩
   ·exact Kp.trans χ (Kp.jI k104) λ _ _ h=>h
   ·refine(α.set (n:=0) hm hm104).congr λs _ t _=>?_
    simp only [rJ z ψ];by_cases e:s=all[j]/\t=all[i]
    ·obtain⟨rfl,rfl⟩:=e;simp [e0]
    ·simp only [e,Mq,ME]
  ·have hb:Iw all[j] all[i]:=hbar.1 (by simpa using hq);have e0:ap 0 all[j] all[i]=none:=by unfold ap;rw [KG hb]
   refine⟨by unfold aj;omega,⟨i+1,by omega,by omega,χ,α.congr λs _ t _=>?_⟩,hm2⟩;simp only [rJ z ψ];by_cases e:s=all[j]/\t=all[i]
   ·obtain⟨rfl,rfl⟩:=e;simp [e0]
   ·simp only [e,Mq]
 have e:j=all.length:=by simp only [J6]at υ;omega
 subst e;have hA:sE ι ra all (λ _ _=>True) (ap 0):=hA64.congr λs hs t ht=>by rw [KG (CD.2 ⟨hs,ht⟩),KG trivial]
 intro b105 J κ H;have x106:Ex ι J:=H▸Ex.alloc ι _;have s106:J.heap.size=ι.heap.size+1:=by rw [H,size_alloc]
 have c106:J.cell? ⟨b105,0,none⟩=some .nilFunc:=by rw [H,κ];exact aa rfl
 refine⟨rfl,⟨⟨_,c106⟩,by rw [H,κ];exact aG _ _ _ _⟩,λw108 μ=>?_⟩;have k108:Kp J w108 (λg=>g=b105):=μ▸Kr.set J 0 _;have x108:Ex ι w108:=Ex.below x106 (Kp.below k108 (by omega) λg hg e=>by omega);have i108:=i64.ex x108;have s108:=k108.size;have s64:=i64.kp.size;exact Co hcl hl ⟨i108,hB i108.kp,by rw [μ];exact Kj _ _ _ c106,by omega,by omega⟩ (hA.ex x108) hR
structure E4 (w8 wb:World)(b r ra:Nat)(E:Nat->Prop)(a0 b0:Tx)(vo:Value)(all:List Tx)(mm:Value->Option Value)(w:World):Prop where
 ex:Ex w8 w
 lb:w8.heap.size<=b
 lt:b< w.heap.size
 lr:w8.heap.size<=r
 br:b≠r
 f:∀j,w.frozen? ⟨b,j,none⟩=false
 c1:w.cell? ⟨b,1,none⟩=some vo
 c2:w.cell? ⟨b,2,none⟩=some (.map (some r))
 c3:w.cell? ⟨b,3,none⟩=some (.string (ab a0))
 c4:w.cell? ⟨b,4,none⟩=some (.string (ab b0))
 c5:w.cell? ⟨b,5,none⟩=some (.map (some ra))
 mp:IsMap w r .string mm
 pv:∀g,E g->g< w.heap.size/\w.heap[g]?=wb.heap[g]?
 en:∀g,E g->g≠b/\g≠r
 sl:Own w8.heap.size w vo all
 so:∀g,vo.ownBlock=some g->g≠b/\g≠r/\¬E g
 nx:∀s∈all,∃v l,mm (.string (ab s))=some v/\tF s=some l/\Strs w8 v l
 nn:∀s,s∉all->mm (.string (ab s))=none
section
variable {w8 wb w:World} {b r ra:Nat} {E:Nat->Prop} {a0 b0:Tx} {vo:Value} {all:List Tx} {mm:Value->Option Value}
theorem E4.to (h:E4 w8 wb b r ra E a0 b0 vo all mm w){w':World}(x:Ex w w'):E4 w8 wb b r ra E a0 b0 vo all mm w':=by
 have s:=x.size;have lt:=h.lt;have c:∀j,w'.cell? ⟨b,j,none⟩=w.cell? ⟨b,j,none⟩:=λj=>x.cell (a:=⟨b,j,none⟩) lt
 exact⟨Ex.trans h.ex x,h.lb,by omega,h.lr,h.br,λj=>by rw [Lr x lt];exact h.f j,by rw [c];exact h.c1,by rw [c];exact h.c2,by rw [c];exact h.c3,by rw [c];exact h.c4,by rw [c];exact h.c5,aU h.mp (x.block r (bX h.mp)),λg z=>⟨by have :=(h.pv g z).1;omega,by rw [x.block g (h.pv g z).1];exact(h.pv g z).2⟩,h.en,h.sl.ex x,h.so,h.nx,h.nn⟩
theorem E4.add (h:E4 w8 wb b r ra E a0 b0 vo all mm w){s:Tx}(hs:s∉all){v:Value}{l:List Tx}(hl:tF s=some l)(hv:Strs w8 v l){I w2:World}(x:Ex w I){v':Value}(ho:Own w8.heap.size w2 v' (all++[s]))(z:I.grownBy w2 vo.ownBlock)(hn:∀g,v'.ownBlock=some g->vo.ownBlock=some g\/I.heap.size<=g):
  (Ex w8 w2/\w2.cell? ⟨b,1,none⟩=some vo/\w2.cell? ⟨b,2,none⟩=some (.map (some r))/\IsMap w2 r .string mm)/\
  (((∃u,w2.cell? ⟨b,1,none⟩=some u)/\w2.frozen? ⟨b,1,none⟩=false)/\∀w',w'=w2.setCell ⟨b,1,none⟩ v'->IsMap w' r .string mm/\
   ∀(u:Value) (w3:World),bc w' w3 r->∀H,IsMap H r .string (bK (bK mm (.string (ab s)) u) (.string (ab s)) v)->bc w3 H r->E4 w8 wb b r ra E a0 b0 v' (all++[s]) (bK (bK mm (.string (ab s)) u) (.string (ab s)) v) H):=by
 have se:=h.ex.size;have lt:=h.lt;have lr:=h.lr;obtain⟨f1,f2⟩:=vJ (v':=v') lt h.lb se (λg z=>⟨(h.sl.block g z).1,(h.sl.block g z).2,(h.so g z).1⟩) ⟨_,h.c1⟩ h.f x z;have G:Kp I w2 λg=>vo.ownBlock=some g:=Kp.aQ z λ _ h=>h
 have ha:=h.to x;have sx:=x.size;have γ:=G.size;have eb:=G.block b ha.lt λe=>(h.so b e).1 rfl
 have mr:=bX h.mp;have er:=G.block r (by omega) λe=>(h.so r e).2.1 rfl
 have J:IsMap w2 r .string mm:=aU ha.mp er;refine⟨⟨Ex.below ha.ex (Kp.below G (by omega) λg z e=>by have :=(h.sl.block g e).1;omega),by rw [J1 (w:=I) eb];exact ha.c1,by rw [J1 (w:=I) eb];exact ha.c2,J⟩,f1,λw' α=>?_⟩;obtain⟨k1,V,k3,k4,k5,k6⟩:=f2 w' α;refine⟨aU J (k6.block r (by omega) λe=>h.br e.symm),λu w3 g3 H β g4=>?_⟩;have W:Kp w' H λg=>g=r:=Kp.trans (Kp.jI g3) (Kp.jI g4) λ _ _ h=>h
 have e4:=(g4.block b h.br).trans (g3.block b h.br);have c:∀j,H.cell? ⟨b,j,none⟩=w'.cell? ⟨b,j,none⟩:=λj=>J1 (w:=w') e4
 have s4:=k4.size;have s5:=W.size;have δ:=k6.size;have dv:∀g,v'.ownBlock=some g->g≠b/\g≠r/\¬E g:=λg z=>(hn g z).elim (h.so g) λe=>⟨by omega,by omega,λe'=>by have :=(h.pv g e').1;omega⟩
 have kk:Kp w H λg=>(vo.ownBlock=some g\/g=b)\/g=r:=Kp.trans (Kp.mono (λ _ h=> .inl h) k4) W λ _ _ h=> .inr h
 refine⟨?_,h.lb,by omega,h.lr,h.br,λj=>by rw [KC (w:=w') e4];exact k3 j,by rw [c];exact k1,by rw [c];exact(V 2 (by omega)).trans h.c2,by rw [c];exact(V 3 (by omega)).trans h.c3,by rw [c];exact(V 4 (by omega)).trans h.c4,by rw [c];exact(V 5 (by omega)).trans h.c5,β,λg z=>?_,h.en,?_,dv,λt Z=>?_,λt Z=>?_⟩
 ·exact Ex.below (Ex.below h.ex k5) (Kp.below W (by omega) λg z e=>by omega)
 ·have hp:=h.pv g z;refine⟨by omega,(kk.block g hp.1 λe=>?_).trans hp.2⟩;rcases e with(e | e) | e
  ·exact(h.so g e).2.2 z
  ·exact(h.en g z).1 e
  ·exact(h.en g z).2 e
 ·exact ho.kp (Kp.trans (Kp.mono (T:=λg=>g=b\/g=r) (λ _ h=> .inl h) k6) W λ _ _ h=> .inr h) λg z e=>e.elim (dv g z).1 (dv g z).2.1
 ·by_cases e:t=s
  ·subst e;exact⟨v,l,by unfold bK;simp,hl,hv⟩
  ·obtain⟨v1,l1,h1,h2,h3⟩:=h.nx t ((Ke.1 Z).resolve_right λh=>e (Kf.1 h));have ne:¬((Value.string (ab t))= .string (ab s)):=λh=>e (eg (MQ h))
   exact⟨v1,l1,by unfold bK;rw [Ko ne,Ko ne];exact h1,h2,h3⟩
 ·have e:t≠s:=λe=>Z (Ke.2 (.inr (Kf.2 e)))
  have ne:¬((Value.string (ab t))= .string (ab s)):=λh=>e (eg (MQ h))
  unfold bK;rw [Ko ne,Ko ne];exact h.nn t λh=>Z (KH _ h)
end
theorem uU {p q a0 b0:Tx}{la lb:List Tx}(ha:cc p=some a0)(hb:cc q=some b0)(z:bT p=some la)(G:bT q=some lb):jO p q=some (a0,b0):=by
 unfold jO;rw [z,G,ha,hb];rfl
theorem HX:Cl []:=λ _ h=>by cases h
set_option maxHeartbeats 1000000 in
theorem HI {p q:Tx}{w:World}{R:Value->Bool->World->Prop}(hR1:jO p q=none->∀w',Ex w w'->R (.pointer none) false w')
  (hR2:∀a0 b0 all,jO p q=some (a0,b0)->a0∈all->b0∈all->(∀s∈all,St s)->all.length<=120->∀ra b r vo mm w',Ex w w'->C2 w' ra b r vo all mm->sE w' ra all (λ _ _=>True) Is->w'.cell? ⟨b,3,none⟩=some (.string (ab a0))->w'.cell? ⟨b,4,none⟩=some (.string (ab b0))->R (ptr b) true w'):
  Calls Tryz.prog 57 #[.string (ab p),.string (ab q)] w (ax [.v,.b] R):=by
 refine xb p q w R ?_;have δ:bT p=none->jO p q=none:=λh=>by unfold jO;rw [h]
 have ν:bT q=none->jO p q=none:=λh=>by unfold jO;rw [h];cases bT p<;>rfl
 refine qw (λhn w5 x5=>?_) λa0 la ha ga sa na bp rp mp Lp w5 x5 hp=>?_
 ·exact qw (λ _ w8 x8=>⟨(λh=>by cases h),λ _=>hR1 (δ hn) w8 (Ex.trans x5 x8)⟩) λb0 lb hb gb sb nb bq rq mq Lq w8 x8 hq=>⟨(λh=>by cases h),λ _=>hR1 (δ hn) w8 (Ex.trans x5 x8)⟩
 refine qw (λhn w8 x8=>⟨λ _=>⟨λ _=>hR1 (ν hn) w8 (Ex.trans x5 x8),(λh=>by cases h)⟩,(λh=>by cases h)⟩) λb0 lb hb gb sb nb bq rq mq Lq w8 x8 hq=>⟨λ _=>⟨(λh=>by cases h),λ _=>?_⟩,(λh=>by cases h)⟩
 have hp:=hp.ex x8;have x08:=Ex.trans x5 x8;have htol:=uU ha hb ga gb;clear hR1 δ ν x5 x8;refine⟨λw'=>Ex w8 w',λw10 ξ=>⟨ξ▸Ex.drew w8,bp,0,rfl,a0,λw' x=>(hp.ex x).c0,bq,0,rfl,b0,λw' x=>(hq.ex x).c0,λra ο hra θ=>?_⟩⟩;have ς:Ex w8 w10:=ξ▸Ex.drew w8;have x18:Ex w10 ο:=θ▸Ex.alloc w10 _;have s18:ο.heap.size=w10.heap.size+1:=by rw [θ,size_alloc]
 refine⟨Ex.trans ς x18,rfl,λb ε ι I=>?_⟩;have x20:Ex ο ε:=I▸Ex.alloc ο _;have s20:ε.heap.size=ο.heap.size+1:=by rw [I,size_alloc]
 refine⟨Ex.trans ς (Ex.trans x18 x20),λr ζ hr κ=>⟨rfl,?_⟩⟩;have υ:Ex ε ζ:=κ▸Ex.alloc ε _;have s22:ζ.heap.size=ε.heap.size+1:=by rw [κ,size_alloc]
 have c20:∀j,ζ.cell? ⟨b,j,none⟩=ε.cell? ⟨b,j,none⟩:=λj=>υ.cell (a:=⟨b,j,none⟩) (show b< _ by omega)
 have c22:ζ.cell? ⟨b,2,none⟩=some (.map none):=by rw [c20,I,ι];exact aa rfl
 have f22:∀j,ζ.frozen? ⟨b,j,none⟩=false:=λj=>by rw [Lr υ (show b< _ by omega),I,ι];exact aG _ _ _ _
 refine⟨⟨⟨_,c22⟩,f22 2⟩,λw24 V=>⟨rfl,rfl,λe z he W=>?_⟩⟩;have φ:Kp ζ w24 (λg=>g=b):=V▸Kr.set ζ 2 _;have s24:=φ.size;have η:Ex w24 z:=W▸Ex.alloc w24 _;have s26:z.heap.size=w24.heap.size+1:=by rw [W,size_alloc]
 have s10:=ς.size;have x826:Ex w8 z:=Ex.trans (Ex.below (Ex.trans ς (Ex.trans x18 (Ex.trans x20 υ))) (Kp.below φ (by omega) λg hg e=>by omega)) η;have c26:∀j,j≠2->z.cell? ⟨b,j,none⟩=ε.cell? ⟨b,j,none⟩:=λj hj=>by rw [η.cell (a:=⟨b,j,none⟩) (show b< _ by omega),V,J7 _ _ _ _ (λe=>by injection e with e1 e2;exact hj e2.symm),c20]
 have d26:z.cell? ⟨b,2,none⟩=some (.map (some r)):=by rw [η.cell (a:=⟨b,2,none⟩) (show b< _ by omega),V];exact Kj _ _ _ c22
 have er:z.heap[r]?=some (.map #[] 0):=by rw [η.block r (by omega),φ.block r (by omega) (by omega),κ,hr];unfold World.alloc;simp
 have ea:z.heap[ra]?=some (.map #[] 0):=by rw [η.block ra (by omega),φ.block ra (by omega) (by omega),υ.block ra (by omega),x20.block ra (by omega),θ,hra];unfold World.alloc;simp
 have e0:z.cell? ⟨e,0,none⟩=some (ptr bp):=by rw [W,he];exact aa rfl
 have e1:z.cell? ⟨e,1,none⟩=some (ptr bq):=by rw [W,he];exact aa rfl
 have i26:E4 w8 z b r ra (λg=>g=ra\/g=e) a0 b0 (.slice none 0 0) [] (cH []) z:=by
  refine⟨x826,by omega,by omega,by omega,by omega,λj=>by rw [Lr η (show b< _ by omega),V,Kt];exact f22 j,?_,d26,?_,?_,?_,⟨#[],0,er,⟨by simp,by simp,by simp⟩,by simp,λq=>rfl⟩,λg hg=>⟨by omega,rfl⟩,λg hg=>by omega,Own.nil _ _,(λg hg=>by cases hg),(λs hs=>by cases hs),λs _=>rfl⟩
  all_goals (rw [c26 _ (by omega),I,ι];exact aa rfl)
 have lra:w8.heap.size<=ra:=by omega
 clear ξ θ I κ V W c20 c22 f22 c26 d26 er ς x18 x20 υ φ η s10 s18 s20 s22 s24 s26 hra ι hr he x826;have hla:=nI ha ga;have hlb:=nI hb gb
 let un:Nat->List Tx:=λj=>match j with | 0=>[] | 1=>bC [] la | _=>bC (bC [] la) lb
 have hul:∀j,(un j).length<=120:=λj=>by
  have h1:=jg la [];have h2:=jg lb (bC [] la);simp only [Kh]at h1
  match j with
  | 0=>exact KT _
  | 1=>show(bC [] la).length<=120;omega
  | j+2=>show(bC (bC [] la) lb).length<=120;omega
 refine⟨_,2,2,rfl,λx w'=>∃(j:Nat) (vo:Value) (mm:Value->Option Value),x=j/\j<=2/\E4 w8 z b r ra (λg=>g=ra\/g=e) a0 b0 vo (un j) mm w',λx _=>(2 - x).toNat,⟨0,_,_,rfl,KT _,i26⟩,λx w33 hI=>?_⟩;clear i26;obtain⟨j,vo,mm,rfl,hj,i33⟩:=hI;have s33:=i33.ex.size;refine⟨λhlt=>?_,λhge=>?_⟩;rotate_left
 ·have ej:j=2:=by simp only [J6]at hge;omega
  subst ej;have hcl:Cl (un 2):=Cl.add (Cl.add HX hla.1.Jo) hlb.1.Jo;have χ:∀s,s∈un 2↔s∈la\/s∈lb:=λs=>by
   show s∈bC (bC [] la) lb↔_;simp only [dG,LY,NJ]
  have hn:=i33.en ra (.inl rfl);have hval:∀s∈un 2,∀v,mm (.string (ab s))=some v->∀g,v.ownBlock=some g->g≠ra:=λs hs v hv g hg=>by
   obtain⟨v1,l1,h1,_,h3⟩:=i33.nx s hs;rw [hv]at h1;cases h1;rcases h3 with⟨rfl,_⟩ | ⟨b',off,cap,rfl,h2,_⟩
   ·cases hg
   ·cases hg;show b'≠ra;omega
  have hB:C2 w33 ra b r vo (un 2) mm:=⟨⟨i33.c2,i33.lt,i33.mp,λs hs=>by
   obtain⟨v,l,h1,h2,h3⟩:=i33.nx s hs;obtain⟨l',h4,h5⟩:=hcl s hs;rw [h2]at h4;cases h4;exact⟨v,l,h1,h2,h5,h3.ex i33.ex⟩⟩,i33.c1,i33.sl.strs,i33.c5,hn.1.symm,hn.2.symm,λg hg e=>(i33.so g hg).2.2 (.inl e),hval⟩
  have hst:∀s∈un 2,St s:=λs hs=>((χ s).1 hs).elim (sa s) (sb s)
  refine DA hB (hul 2) hst ⟨cH [],⟨#[],0,(i33.pv ra (.inl rfl)).2.trans ea,⟨by simp,by simp,by simp⟩,by simp,λq=>rfl⟩,λ _ _=>rfl⟩ λw141 k141 h141 hA=>?_
  have eb:=k141.block b i33.lt hn.1.symm;refine hR2 a0 b0 (un 2) htol ((χ a0).2 (.inl (hla.2.subset (by simp)))) ((χ b0).2 (.inr (hlb.2.subset (by simp)))) hst (hul 2) ra b r vo mm w141 ?_ h141 hA ?_ ?_
  ·have :=x08.size;exact Ex.below (Ex.trans x08 i33.ex) (Kp.below k141 (by omega) λg hg e=>by omega)
  ·rw [J1 (w:=w33) eb];exact i33.c3
  ·rw [J1 (w:=w33) eb];exact i33.c4
 have hj2:j< 2:=by simp only [J4]at hlt;omega
 have ee:=(i33.pv e (.inr rfl)).2;have hx:∃(bx rx Bx:Nat) (n0:Tx) (l:List Tx) (mx:Value->Option Value) (Lx:Nat->Prop),xj Bx bx rx n0 w8 l l.length mx Lx/\l.length<=60/\w33.cell? ⟨e,0+(j:Int).toNat* 1,none⟩=some (ptr bx)/\un (j+1)=bC (un j) l:=by
  match j,hj2 with
  | 0,_=>exact⟨_,_,_,_,la,_,_,hp,na,by rw [J1 (w:=z) ee];exact e0,rfl⟩
  | 1,_=>exact⟨_,_,_,_,lb,_,_,hq,nb,by rw [J1 (w:=z) ee];exact e1,rfl⟩
 obtain⟨bx,rx,Bx,n0,l,mx,Lx,hx,hl,hc,hun⟩:=hx;obtain⟨vl,v1,v2,_⟩:=hx.sl;obtain⟨a,cap,hv⟩:=v2.strs.slice;refine⟨e,0,2,2,rfl,by omega,by omega,ptr bx,hc,bx,0,rfl,vl,by rw [i33.ex.cell (a:=⟨bx,0+1,none⟩) hx.lt];exact v1,a,_,cap,hv,λx w'=>∃(i:Nat) (vo:Value) (mm:Value->Option Value),x=i/\i<=l.length/\E4 w8 z b r ra (λg=>g=ra\/g=e) a0 b0 vo (bC (un j) (l.take i)) mm w',λx _=>(l.length - x).toNat,⟨0,vo,mm,rfl,KT _,i33⟩,λx Z hI=>?_⟩;clear i33 ee hc;obtain⟨i,vo,mm,rfl,hi,i48⟩:=hI;refine⟨λhlt2=>?_,λhge2=>?_⟩;rotate_left
 ·have ei:i=l.length:=by simp only [J6]at hge2;omega
  subst ei;rw [KA,<-hun]at i48;exact⟨by unfold aj;omega,⟨j+1,vo,mm,by omega,by omega,i48⟩,by show(2 - ((j:Int)+1)).toNat< (2 - (j:Int)).toNat;omega⟩
 have hil:i< l.length:=by simp only [J4]at hlt2;omega
 have hcl:=jg (l.take i) (un j);rw [KP]at hcl;have hu:=hul j;have et:bC (un j) (l.take (i+1))=ie (bC (un j) (l.take i)) l[i]:=ju hil;refine⟨λw'=>∃(vo:Value) (mm:Value->Option Value),E4 w8 z b r ra (λg=>g=ra\/g=e) a0 b0 vo (ie (bC (un j) (l.take i)) l[i]) mm w',v2.strs.get i48.ex (i:=i) (x:=l[i]) (by omega) (by rw [J9];exact J2 hil) (Q:=λn=>_) ⟨_,i48.c2,r,mm,rfl,i48.mp,?_⟩,λw140 h=>?_⟩;rotate_left
 ·obtain⟨vo',mm',h⟩:=h;exact⟨by unfold aj;omega,⟨i+1,vo',mm',by omega,by omega,by rw [et];exact h⟩,by show((l.length:Int) - ((i:Int)+1)).toNat< ((l.length:Int) - i).toNat;omega⟩
 generalize bC (un j) (l.take i)=cur at*;by_cases hs:l[i]∈cur
 ·obtain⟨y,l1,y1,_⟩:=i48.nx _ hs;exact⟨y,true,.inl ⟨rfl,y1⟩,(λh=>by cases h),λ _=>⟨vo,mm,by unfold ie;rw [KG hs];exact i48⟩⟩
 refine⟨_,false,.inr ⟨rfl,i48.nn _ hs,rfl⟩,λ _=>?_,(λh=>by cases h)⟩;obtain⟨vn,ln,n1,n2,n3,_⟩:=hx.nx i hil hil;have ea:ie cur l[i]=cur++[l[i]]:=Ko hs;rw [ea];have s48:=i48.ex.size;have S:∀{w':World},Ex Z w'->Ex w8 w'/\w'.cell? ⟨b,1,none⟩=some vo/\w'.cell? ⟨b,2,none⟩=some (.map (some r)):=λx=>⟨(i48.to x).ex,(i48.to x).c1,(i48.to x).c2⟩
 refine⟨λw'=>Ex w8 w'/\w'.cell? ⟨b,1,none⟩=some vo/\w'.cell? ⟨b,2,none⟩=some (.map (some r)),λw61 ψ=>⟨S (ψ▸Ex.drew Z),_,λw' h=>h.2.2,_,λw' h=>h.2.1,bx,0,rfl,_,λw' h=>(hx.ex h.1).c2,λb67 w68 μ J=>?_,?_⟩⟩
 ·have ω:Ex Z w61:=ψ▸Ex.drew Z;have G:Ex Z w68:=Ex.trans ω (J▸Ex.alloc w61 _);have s68:=G.size;refine⟨S G,?_,rx,mx,rfl,(hx.ex (i48.to G).ex).mp,vn,true,.inl ⟨rfl,n1⟩,S G,?_⟩
  ·refine Own.push (i48.to G).sl (by omega) (Strs.one μ J) (by simp only [J0,Kh];omega) λv' w75 _ ho hg hn=>?_
   obtain⟨⟨q1,q2,q3,q4⟩,f1,f2⟩:=i48.add hs n2 n3 G ho hg hn;exact⟨⟨q1,q2,q3⟩,rx,mx,rfl,(hx.ex q1).mp,vn,true,.inl ⟨rfl,n1⟩,⟨q1,q2,q3⟩,ho.iL,f1,λα H=>⟨r,mm,rfl,(f2 α H).1,λu s w86 β g86 en=>⟨r,.string,_,_,rfl,β,en,λw91 γ g91=>⟨v',_,(f2 α H).2 u w86 g86 w91 γ g91⟩⟩⟩⟩
  ·refine Own.push (i48.to G).sl (by omega) (Strs.one μ J) (by simp only [J0,Kh];omega) λv' w75 _ ho hg hn=>?_
   obtain⟨⟨q1,q2,q3,q4⟩,f1,f2⟩:=i48.add hs n2 n3 G ho hg hn;exact⟨⟨q1,q2,q3⟩,ho.iL,f1,λα H=>⟨r,mm,rfl,(f2 α H).1,λu s w86 β g86 en=>⟨r,.string,_,_,rfl,β,en,λw91 γ g91=>⟨v',_,(f2 α H).2 u w86 g86 w91 γ g91⟩⟩⟩⟩
 ·have ω:Ex Z w61:=ψ▸Ex.drew Z;refine⟨rx,mx,rfl,(hx.ex (i48.to ω).ex).mp,vn,true,.inl ⟨rfl,n1⟩,S ω,λb67 w68 μ J=>?_⟩;have G:Ex Z w68:=Ex.trans ω (J▸Ex.alloc w61 _);have s68:=G.size;refine⟨S G,?_⟩;refine Own.push (i48.to G).sl (by omega) (Strs.one μ J) (by simp only [J0,Kh];omega) λv' w75 _ ho hg hn=>?_
  obtain⟨⟨q1,q2,q3,q4⟩,f1,f2⟩:=i48.add hs n2 n3 G ho hg hn;exact⟨⟨q1,q2,q3⟩,ho.iL,f1,λα H=>⟨r,mm,rfl,(f2 α H).1,λu s w86 β g86 en=>⟨r,.string,_,_,rfl,β,en,λw91 γ g91=>⟨v',_,(f2 α H).2 u w86 g86 w91 γ g91⟩⟩⟩⟩
end Go.Proofs.YtdecokaadekjnaaGreat
namespace Go.Proofs.YtdecokaadekjnaaGreat
open Go
set_option maxRecDepth 100000
theorem oC (p1:ay)(q2:ay)(w:World)(R:ay->Bool->World->Prop)(h:oA 57 #[(.string (ab p1)),(.string (ab q2))] w λv3 q4 w5=>ai (!q4) (R ([]) false w5) (bO w5 λG w7=>az v3 λb8 o9=>az v3 λb10 γ=>iq G b10 (γ+3) λδ=>az v3 λε ζ=>az v3 λη θ=>iq G η (θ+4) λι=>az v3 λb18 κ=>az v3 λμ ν=>iq G μ (ν+3) λξ=>az v3 λο ς=>az v3 λυ φ=>iq G υ (φ+4) λχ=>y3 58 #[(.pointer (some ⟨b8,(o9+0),none⟩)),(.string (ab δ)),(.int .u8 (UInt8.toNat 33))] w7 λψ J=>G J/\y3 58 #[(.pointer (some ⟨ε,(ζ+0),none⟩)),(.string (ab ι)),(.int .u8 (UInt8.toNat 33))] J λω V=>G V/\y3 58 #[(.pointer (some ⟨b18,(κ+0),none⟩)),(.string (ab ξ)),(.int .u8 (UInt8.toNat 63))] V λm32 W=>G W/\y3 58 #[(.pointer (some ⟨ο,(ς+0),none⟩)),(.string (ab χ)),(.int .u8 (UInt8.toNat 63))] W λm34 Z=>G Z/\Ir 97 Z λI36 α z H=>ai (decide (z<=122)) (y3 59 #[(.int .u8 z.toNat)] H λm40 β=>ai (!decide (((ψ^^^ω:UInt32) &&& m40:UInt32)=0)) ((0<=(UInt8.toNat z:Int)/\(UInt8.toNat z:Int)< 128)/\(List.length [33]+List.length [UInt8.ofNat (Int.toNat (UInt8.toNat z:Int))]<=4611686018427387904)/\R (([33]++[UInt8.ofNat (Int.toNat (UInt8.toNat z:Int))])) true β) (y3 59 #[(.int .u8 z.toNat)] β λm42 I=>ai (!decide (((m32^^^m34:UInt32) &&& m42:UInt32)=0)) ((0<=(UInt8.toNat z:Int)/\(UInt8.toNat z:Int)< 128)/\(List.length [63]+List.length [UInt8.ofNat (Int.toNat (UInt8.toNat z:Int))]<=4611686018427387904)/\R (([63]++[UInt8.ofNat (Int.toNat (UInt8.toNat z:Int))])) true I) (I36 (z+1:UInt8) I/\α (z+1:UInt8) I< α z H))) (R ([]) false H))):
  Calls Tryz.prog 23 #[(.string (ab p1)),(.string (ab q2))] w (ax [.s,.b] R):=
 bs (bn [(6,[(10,.c)])] [] [4]) [.tmp 4 .s,.tmp 5 .b] [.s p1,.s q2] Tryz.func23 (by kernel_rfl) h
theorem oE (p1:ay)(q2:ay)(w:World)(R:ay->Bool->World->Prop)(h:oA 54 #[(.string (ab p1))] w λv3 q4 w5=>aN w5 (.cells #[(.slice none 0 0),(.slice none 0 0),(.slice none 0 0)] 49) λb6 w7=>∃c8:List Value,v3= .agg (List.toArray c8)/\xh w7 b6 0 3 c8 λw9=>oA 54 #[(.string (ab q2))] w9 λv10 ς υ=>aN υ (.cells #[(.slice none 0 0),(.slice none 0 0),(.slice none 0 0)] 49) λH φ=>∃Z:List Value,v10= .agg (List.toArray Z)/\xh φ H 0 3 Z λG=>iz (!q4) (ai (!ς) (R ([]) false G) (∃α:Value,∃β:Value,∃γ:Value,(World.cell? G ⟨b6,0,none⟩=some α/\World.cell? G ⟨b6,1,none⟩=some β/\World.cell? G ⟨b6,2,none⟩=some γ/\True)/\BJ 55 #[(.agg #[α,β,γ])] G λχ ψ I=>∃δ:Value,∃v24:Value,∃ε:Value,(World.cell? I ⟨H,0,none⟩=some δ/\World.cell? I ⟨H,1,none⟩=some v24/\World.cell? I ⟨H,2,none⟩=some ε/\True)/\BJ 55 #[(.agg #[δ,v24,ε])] I λω s27 w28=>Ir 97 w28 λI29 ζ z jm=>ai (decide (z<=122)) (ck 56 #[(.string (ab χ)),(.int .u8 z.toNat)] jm λq33 w34=>ck 56 #[(.string (ab ω)),(.int .u8 z.toNat)] w34 λq35 η=>ai (!(q33==q35)) (aN η (.cells #[(.int .u8 z.toNat)] 5) λb37 θ=>∃(b39 ι κ c42:Nat) (J:ay),(Value.slice (some ⟨b37,0,none⟩) 1 1)= .slice (some ⟨b39,ι,none⟩) κ c42/\J.length=κ/\(∀(j:Nat) (x:UInt8),J[j]?=some x->World.cell? θ ⟨b39,ι+j,none⟩=some (.int .u8 x.toNat))/\(List.length [33]+J.length<=4611686018427387904)/\R ([33]++J) true θ) (ck 56 #[(.string (ab ψ)),(.int .u8 z.toNat)] η λq44 w45=>ck 56 #[(.string (ab s27)),(.int .u8 z.toNat)] w45 λq46 W=>ai (!(q44==q46)) (aN W (.cells #[(.int .u8 z.toNat)] 5) λb48 μ=>∃(ν ξ ο c53:Nat) (V:ay),(Value.slice (some ⟨b48,0,none⟩) 1 1)= .slice (some ⟨ν,ξ,none⟩) ο c53/\V.length=ο/\(∀(j:Nat) (x:UInt8),V[j]?=some x->World.cell? μ ⟨ν,ξ+j,none⟩=some (.int .u8 x.toNat))/\(List.length [63]+V.length<=4611686018427387904)/\R ([63]++V) true μ) (I29 (z+1:UInt8) W/\ζ (z+1:UInt8) W< ζ z jm))) (R ([]) false jm))) (R ([]) false G)):
  Calls Tryz.prog 22 #[(.string (ab p1)),(.string (ab q2))] w (ax [.s,.b] R):=
 bs (bn [(8,[(14,.c)])] [] []) [.tmp 4 .s,.tmp 5 .b] [.s p1,.s q2] Tryz.func22 (by kernel_rfl) h
theorem iE (z:ay)(a2:ay)(w:World)(R:Bool->World->Prop)(h:ai (decide (1048576< (z.length:Int))) (R true w) (ai (decide (1048576< (a2.length:Int))) (R true w) (hZ 22 #[(.string (ab z)),(.string (ab a2))] w λG H I=>hZ 23 #[(.string (ab z)),(.string (ab a2))] I λJ V w8=>iz (!decide (J=G)) (ai (!(V==H)) (R false w8) (R true w8)) (R false w8)))):
  Calls Tryz.prog 6 #[(.string (ab z)),(.string (ab a2))] w (ax [.b] R):=
 bs (bn [] [] []) [.tmp 4 .b] [.s z,.s a2] Tryz.func6 (by kernel_rfl) h
end Go.Proofs.YtdecokaadekjnaaGreat
namespace Go.Proofs.YtdecokaadekjnaaGreat
open Go Go.RowKit T Classical
theorem yQ {p:UInt8->Bool}{c:UInt8}(hc:lt c=true)(z:p c=true)(G:∀d,lt d=true->d< c->p d=false):iO.find? p=some c:=by
 have H:=aW hc;have I:iO.length=26:=by simp [iO]
 refine List.find?_eq_some_iff_getElem.2 ⟨z,c.toNat - 97,by omega,?_,λj J=>?_⟩
 ·rw [sQ,<-Ky,K2];omega
 ·rw [sQ];have e:(UInt8.ofNat (97+j)).toNat=97+j:=by rw [K2];omega
  rw [G _ (iy ⟨by omega,by omega⟩) (by rw [KI];omega)];rfl
theorem EB {p:UInt8->Bool}(z:∀d,lt d=true->p d=false):iO.find? p=none:=
 Ny.2 λd hd=>by rw [z d (mL.1 hd)];simp
section
variable {p q a b:Tx} {c:UInt8}
theorem yc (z:jO p q=none):fY p q=([],false):=by unfold fY;rw [z]
theorem uQ (z:jO p q=some (a,b))(hc:lt c=true)(G:∀d,lt d=true->d< c->¬(kN 33 a b d\/kN 63 a b d))(h:kN 33 a b c):fY p q=([33,c],true):=by
 unfold fY;rw [z];show(match iO.find? λc=>decide (kN 33 a b c\/kN 63 a b c)with | none=>(([]:Tx),false) | some c=>(if kN 33 a b c then [33,c]else [63,c],true))=_;rw [yQ hc (Lc (.inl h)) λd H h2=>Lj (G d H h2)];show(if kN 33 a b c then [33,c]else [63,c],true)=_;rw [KG h]
theorem uX (z:jO p q=some (a,b))(hc:lt c=true)(G:∀d,lt d=true->d< c->¬(kN 33 a b d\/kN 63 a b d))(H:¬kN 33 a b c)(h:kN 63 a b c):fY p q=([63,c],true):=by
 unfold fY;rw [z];show(match iO.find? λc=>decide (kN 33 a b c\/kN 63 a b c)with | none=>(([]:Tx),false) | some c=>(if kN 33 a b c then [33,c]else [63,c],true))=_;rw [yQ hc (Lc (.inr h)) λd I h2=>Lj (G d I h2)];show(if kN 33 a b c then [33,c]else [63,c],true)=_;rw [Ko H]
theorem uP (z:jO p q=some (a,b))(G:∀d,lt d=true->¬(kN 33 a b d\/kN 63 a b d)):fY p q=([],false):=by
 unfold fY;rw [z];show(match iO.find? λc=>decide (kN 33 a b c\/kN 63 a b c)with | none=>(([]:Tx),false) | some c=>(if kN 33 a b c then [33,c]else [63,c],true))=_;rw [EB λd H=>Lj (G d H)]
end
theorem sq {z:UInt32}{c:UInt8}(hc:lt c=true):(z &&& jc c=0)↔z.toNat.testBit (c.toNat - 97)=false:=by
 rw [<-Nc,UInt32.toNat_and,si hc];generalize c.toNat - 97=i;show z.toNat &&& 2^i=0↔_;constructor
 ·intro G;have :=Lb (λn=>n.testBit i) G;simpa [Nat.testBit_and,Nat.testBit_two_pow_self]using this
 ·intro G;apply Nat.eq_of_testBit_eq;intro j;rw [Nat.testBit_and,Nat.testBit_two_pow];by_cases H:i=j
  ·subst H;simp [G]
  ·simp [H]
theorem rT {x y:UInt32}{k:UInt8}{a b:Tx}(h:iX x λc=>decide (c∈pC k a))(g:iX y λc=>decide (c∈pC k b)){c:UInt8}(hc:lt c=true):(x^^^y) &&& jc c=0↔¬kN k a b c:=by
 have z:x.toNat.testBit (c.toNat - 97)=false↔¬c∈pC k a:=by
  rw [<-sq hc,<-decide_eq_true_iff (p:=x &&& jc c=0),h c hc];simp
 have h2:y.toNat.testBit (c.toNat - 97)=false↔¬c∈pC k b:=by
  rw [<-sq hc,<-decide_eq_true_iff (p:=y &&& jc c=0),g c hc];simp
 rw [sq hc,UInt32.toNat_xor,Nat.testBit_xor];unfold kN;by_cases G:c∈pC k a<;>by_cases H:c∈pC k b<;>simp [G,H]at z h2|-<;>simp [z,h2]
theorem GR {c:UInt8}(h:c.toNat<=122):(c+1).toNat=c.toNat+1/\∀d:UInt8,d< c+1↔d< c\/d=c:=by
 have z:(c+1).toNat=c.toNat+1:=by rw [MB];show(c.toNat+1) % 256=_;omega
 exact⟨z,λd=>by rw [KI,KI,z,<-Ky];omega⟩
theorem C5 {p q:Tx}{w:World}{R:ay->Bool->World->Prop}(hR:∀w',Ex w w'->R (fY p q).1 (fY p q).2 w'):
  Calls Tryz.prog 23 #[.string (ab p),.string (ab q)] w (ax [.s,.b] R):=by
 refine oC p q w R (HI (λW I x5=>⟨λ _=>?_,(λh=>by cases h)⟩) λa0 b0 all ht ha hb G hl ra b r vo mm I x5 hB hA c3 c4=>⟨(λh=>by cases h),λ _=>?_⟩)
 ·have :=hR I x5;rw [yc W]at this;exact this
 have lt:=hB.nm.lt;have g3:∀w',Ex I w'->w'.cell? ⟨b,0+3,none⟩=some (.string (ab a0)):=λw' x=>by rw [x.cell (a:=⟨b,0+3,none⟩) lt];exact c3
 have g4:∀w',Ex I w'->w'.cell? ⟨b,0+4,none⟩=some (.string (ab b0)):=λw' x=>by rw [x.cell (a:=⟨b,0+4,none⟩) lt];exact c4
 refine⟨λw'=>Ex I w',λw7 α=>⟨α▸Ex.drew I,b,0,rfl,b,0,rfl,a0,g3,b,0,rfl,b,0,rfl,b0,g4,b,0,rfl,b,0,rfl,a0,g3,b,0,rfl,b,0,rfl,b0,g4,?_⟩⟩;have x7:Ex I w7:=α▸Ex.drew I;refine qj (hB.nm.ex x7) hl G ha (k:=33) (by decide) λm1 w1 Z t1 _=>⟨Ex.trans x7 Z,?_⟩
 have Z:=Ex.trans x7 Z;refine qj (hB.nm.ex Z) hl G hb (k:=33) (by decide) λm2 w2 x2 t2 _=>⟨Ex.trans Z x2,?_⟩
 have x2:=Ex.trans Z x2;refine qj (hB.nm.ex x2) hl G ha (k:=63) (by decide) λm3 w3 x3 t3 _=>⟨Ex.trans x2 x3,?_⟩
 have x3:=Ex.trans x2 x3;refine qj (hB.nm.ex x3) hl G hb (k:=63) (by decide) λm4 w4 x4 t4 _=>⟨Ex.trans x3 x4,?_⟩
 have x4:=Ex.trans x3 x4;refine⟨λc w'=>w'=w4/\97<=c.toNat/\c.toNat<=123/\∀d,Proofs.YtdecokaadekjnaaGreat.lt d=true->d< c->¬(kN 33 a0 b0 d\/kN 63 a0 b0 d),λc _=>123 - c.toNat,⟨rfl,by decide,by decide,λd hd z=>?_⟩,λc w' hI=>?_⟩
 ·have :=aW hd;rw [KI]at z;have h2:d.toNat< 97:=z;omega
 obtain⟨rfl,h3,h4,W⟩:=hI;have hw:=hR w' (Ex.trans x5 x4);refine⟨λhc=>uE ?_,λhc=>?_⟩;rotate_left
 ·simp only [J6,Kl]at hc;have J:¬c.toNat<=122:=hc;rw [uP ht λd hd=>W d hd (by have :=aW hd;rw [KI];omega)]at hw;exact hw
 simp only [J4,Kl]at hc;have J:c.toNat<=122:=hc;have z:Proofs.YtdecokaadekjnaaGreat.lt c=true:=iy ⟨h3,J⟩;have e2:UInt8.ofNat (Int.toNat (c.toNat:Int))=c:=by rw [J9];exact UInt8.ofNat_toNat
 refine⟨λhe=>?_,λhe=>uE ⟨λH=>?_,λH=>?_⟩⟩
 ·have hd:kN 33 a0 b0 c:=Classical.not_not.1 λh=>by
   rw [Lc ((rT t1 t2 z).2 h)]at he;cases he
  rw [uQ ht z W hd]at hw;refine⟨⟨by omega,by omega⟩,by simp only [J0,Kh];omega,?_⟩;rw [e2];exact hw
 all_goals
  have hd:¬kN 33 a0 b0 c:=(rT t1 t2 z).1 (by simpa using he)
 ·have V:kN 63 a0 b0 c:=Classical.not_not.1 λh=>by
   rw [Lc ((rT t3 t4 z).2 h)]at H;cases H
  rw [uX ht z W hd V]at hw;refine⟨⟨by omega,by omega⟩,by simp only [J0,Kh];omega,?_⟩;rw [e2];exact hw
 ·have V:¬kN 63 a0 b0 c:=(rT t3 t4 z).1 (by simpa using H);obtain⟨e1,e3⟩:=GR J;refine⟨⟨rfl,by omega,by omega,λd h1 h2=>?_⟩,by show 123 - (c+1).toNat< 123 - c.toNat;omega⟩;rcases(e3 d).1 h2 with h2 | rfl
  ·exact W d h1 h2
  ·exact λh=>h.elim hd V
end Go.Proofs.YtdecokaadekjnaaGreat
namespace Go.Proofs.YtdecokaadekjnaaGreat
open Go
set_option maxRecDepth 100000
theorem um (g1:Value)(w:World)(R:ay->ay->World->Prop)(h:∃c2:List Value,g1= .agg (List.toArray c2)/\aN w (.cells (List.toArray c2) 49) λb3 w4=>aS w4 b3 0 λv5=>bM v5 λl7=>GZ ([]) ([]) 0 w4 λI9 J H I z G=>ai (decide (z< (l7:Int))) (aJ v5 z λα β=>bZ G α (β+z.toNat* 1) λγ=>BJ 103 #[(.string (ab γ))] G λδ ε ζ=>bw 104 #[(.string (ab H)),(.string (ab δ))] ζ λV w24=>bw 104 #[(.string (ab I)),(.string (ab ε))] w24 λW Z=>aj (z+1)/\I9 V W (z+1) Z/\J V W (z+1) Z< J H I z G) (R H I G)):
  Calls Tryz.prog 55 #[g1] w (ax [.s,.s] R):=
 bs (bn [(3,[(4,.s),(5,.s),(13,.i)])] [] []) [.tmp 2 .s,.tmp 3 .s] [.v g1] Tryz.func55 (by kernel_rfl) h
end Go.Proofs.YtdecokaadekjnaaGreat
namespace Go.Proofs.YtdecokaadekjnaaGreat
open Go Go.RowKit T Classical
theorem E7 {s:Tx}(h:ib s)(ha:∀c∈s,c∈iO):s.length<=26:=by
 have z:iO.length=26:=by simp [iO]
 have:s.Nodup:=h.imp λh=>by
  rintro rfl
  rw [KI]at h;omega
 have :=this.length_le_of_subset (l₂:=iO) λc hc=>ha c hc
 omega
theorem Av {w:World}{va vn vx:Value}{l:List Tx}(h:Strs w va l)(hl:l.length<=1099511627776)(hs:∀s∈l,St s){R:ay->ay->World->Prop}(hR:∀w' s r,Ex w w'->ib s->ib r->(∀c,c∈s↔∃t∈l,c∈ji 33 t)->(∀c,c∈r↔∃t∈l,c∈ji 63 t)->R s r w'):
  Calls Tryz.prog 55 #[.agg #[va,vn,vx]] w (ax [.s,.s] R):=by
 refine um _ w R ?_;refine⟨[va,vn,vx],rfl,λb3 w4 W I=>?_⟩;have x4:Ex w w4:=I▸Ex.alloc w _;have hc:w4.cell? ⟨b3,0,none⟩=some va:=by rw [I,W];exact aa rfl
 obtain⟨ao,cap,hv⟩:=h.slice;refine⟨va,hc,ao,_,cap,hv,λs r i w'=>∃j:Nat,i=j/\j<=l.length/\Ex w w'/\ib s/\ib r/\(∀c,c∈s↔∃t∈l.take j,c∈ji 33 t)/\(∀c,c∈r↔∃t∈l.take j,c∈ji 63 t),λ _ _ i _=>(l.length - i).toNat,⟨0,rfl,KT _,x4,List.Pairwise.nil,List.Pairwise.nil,by simp,by simp⟩,λs r i w' hI=>?_⟩;obtain⟨j,rfl,hj,x,s1,r1,z,G⟩:=hI;refine⟨λZ=>?_,λα=>?_⟩;rotate_left
 ·have:j=l.length:=by simp only [J6]at α;omega
  rw [this,KA]at z G;exact hR w' s r x s1 r1 z G
 have H:j< l.length:=by simp only [J4]at Z;omega
 refine h.get x (i:=j) (x:=l[j]) (by omega) (by rw [J9];exact J2 H) (Q:=λn=>_) ?_;have b1:=xK 33 l[j];have b2:=xK 63 l[j];have mem:∀{k:UInt8} {s V:Tx},(∀c,c∈s↔∃t∈l.take j,c∈ji k t)->(∀c,c∈V↔c∈s\/c∈ji k l[j])->∀c,c∈V↔∃t∈l.take (j+1),c∈ji k t:=λ{k s V} h1 h2 c=>by
  rw [h2,h1,J8 H];simp only [Ke,Kf];constructor
  ·rintro(⟨t,J,h4⟩ | J)
   ·exact⟨t,.inl J,h4⟩
   ·exact⟨_,.inr rfl,J⟩
  ·rintro⟨t,J | rfl,h4⟩
   ·exact .inl ⟨t,J,h4⟩
   ·exact .inr h4
 refine B0 (hs _ (Kg H)) λw1 x1=>fy s1 (by omega) λV w2 x2 s2 β=>fy r1 (by omega) λr' w3 x3 r2 γ=>?_
 exact⟨by unfold aj;omega,⟨j+1,by omega,by omega,Ex.trans x (Ex.trans x1 (Ex.trans x2 x3)),s2,r2,mem z β,mem G γ⟩,by show((l.length:Int) - ((j:Int)+1)).toNat< ((l.length:Int) - j).toNat;omega⟩
theorem rW {k:UInt8}{p n0:Tx}{l:List Tx}{r:Tx}(G:cc p=some n0)(H:bT p=some l)(h:∀c,c∈r↔∃t∈l,c∈ji k t):∀c,c∈r↔c∈pC k n0:=λc=>by
 rw [h,AH];have :=y7 G H;exact⟨fun⟨t,z,h2⟩=>⟨t,(this t).1 z,h2⟩,fun⟨t,z,h2⟩=>⟨t,(this t).2 z,h2⟩⟩
theorem yg {w w':World}{b:Nat}{c:UInt8}(hb:b=w.heap.size)(h:w'=w.alloc (.cells #[.int .u8 c.toNat] 5)):∀(j:Nat) (x:UInt8),[c][j]?=some x->w'.cell? ⟨b,0+j,none⟩=some (.int .u8 x.toNat):=λj x z=>by
 match j,z with
 | 0,z=>
  cases z;rw [h,hb];exact aa rfl
theorem pS {w:World}{e:Nat}{x y z:Value}(W:oneV x=true)(Z:oneV y=true)(hz:oneV z=true){K:Nat->World->Prop}(hK:∀b w',Ex w w'->(∀w2,Ex w' w2->World.cell? w2 ⟨b,0,none⟩=some x/\World.cell? w2 ⟨b,1,none⟩=some y/\World.cell? w2 ⟨b,2,none⟩=some z/\True)->K b w'):
  aN w (.cells #[.slice none 0 0,.slice none 0 0,.slice none 0 0] e) λb w2=>∃c:List Value,(.agg #[x,y,z]:Value)= .agg (List.toArray c)/\xh w2 b 0 3 c λI=>K b I:=by
 intro b w2 hb G;have x2:Ex w w2:=G▸Ex.alloc w _;have s2:w2.heap.size=w.heap.size+1:=by rw [G,size_alloc]
 refine⟨[x,y,z],rfl,⟨rfl,by simp [W,Z,hz],λj J=>by rw [KF];exact DI hb G (Ex.refl _) j J⟩,λI V=>?_⟩;obtain⟨k,_,_,H⟩:=aX (b:=b) [x,y,z] w2 0;rw [show World.setCells w2 b 0 [x,y,z]=I from V.symm]at k H;have H:=λj (J:j< 3)=>H j (λi hi=>by rw [KF];exact(DI hb G (Ex.refl _) i hi).1) J
 simp only [KF]at H;have s3:=k.size;have x3:Ex w I:=Ex.below x2 (Kp.below k (by omega) λg hg e=>by omega);refine hK b I x3 λw4 x4=>?_
 have c:∀j,w4.cell? ⟨b,j,none⟩=I.cell? ⟨b,j,none⟩:=λj=>x4.cell (a:=⟨b,j,none⟩) (show b< _ by omega)
 exact⟨(c 0).trans (H 0 (by omega)),(c 1).trans (H 1 (by omega)),(c 2).trans (H 2 (by omega)),trivial⟩
theorem rA {k c:UInt8}{a b s z:Tx}(h:∀c,c∈s↔c∈pC k a)(G:∀c,c∈z↔c∈pC k b){d:Decidable (c∈s)}{H:Decidable (c∈z)}:(!(@decide (c∈s) d==@decide (c∈z) H))=true↔kN k a b c:=by
 unfold kN;rw [<-h,<-G];by_cases e:c∈s<;>by_cases I:c∈z<;>simp [e,I]
set_option maxHeartbeats 1000000 in
theorem Dj {p q:Tx}{w:World}{R:ay->Bool->World->Prop}(hR:∀w',Ex w w'->R (fY p q).1 (fY p q).2 w'):
  Calls Tryz.prog 22 #[.string (ab p),.string (ab q)] w (ax [.s,.b] R):=by
 refine oE p q w R ?_;have bad:jO p q=none->∀w',Ex w w'->R [] false w':=λV w' x=>by
  have :=hR w' x;rw [yc V]at this;exact this
 have W:bT p=none->jO p q=none:=λh=>by unfold jO;rw [h]
 have ζ:bT q=none->jO p q=none:=λh=>by unfold jO;rw [h];cases bT p<;>rfl
 refine ql (λV a1 a2 a3 w5 o1 o2 o3 x5=>pS o1 o2 o3 λb6 w9 x9 _=>?_) λn0 la h0 hg ξ hl B b va vn vx ns vs L w5 x5 hB hG hlen=>pS hG.p7.1 hG.p7.2.1 hG.p7.2.2 λb6 w9 x9 c6=>?_
 ·have x9:=Ex.trans x5 x9;exact ql (λ _ a1 a2 a3 η o1 o2 o3 H=>pS o1 o2 o3 λθ I z _=>⟨(λh=>by cases h),λ _=>bad (W V) I (Ex.trans x9 (Ex.trans H z))⟩) λ _ _ _ _ _ _ B b va vn vx ns vs L η H hB hG hlen=>pS hG.p7.1 hG.p7.2.1 hG.p7.2.2 λθ I z _=>⟨(λh=>by cases h),λ _=>bad (W V) I (Ex.trans x9 (Ex.trans H z))⟩
 have hS:=hG.a.strs.ex x9;have x9:=Ex.trans x5 x9;clear hG;refine ql (λV a1 a2 a3 η o1 o2 o3 H=>pS o1 o2 o3 λθ I z _=>⟨λ _=>⟨λ _=>bad (ζ V) I (Ex.trans x9 (Ex.trans H z)),(λh=>by cases h)⟩,(λh=>by cases h)⟩) λm0 lb k0 kg ο kl B' b' ς υ φ ns' vs' L' η H hB' Z χ=>pS Z.p7.1 Z.p7.2.1 Z.p7.2.2 λθ I z ψ=>⟨λ _=>⟨(λh=>by cases h),λ _=>?_⟩,(λh=>by cases h)⟩
 have ω:=Z.a.strs.ex z;clear Z;have J:=Ex.trans H z;have ht:=uU h0 k0 hg kg;refine⟨va,vn,vx,c6 I J,Av (hS.ex J) (by omega) ξ λw22 s r ι s1 r1 hs hr=>⟨ς,υ,φ,ψ w22 ι,Av (ω.ex ι) (by omega) ο λw28 s' r' x28 s2 r2 α β=>?_⟩⟩;have xx:=Ex.trans x9 (Ex.trans J (Ex.trans ι x28));have ln:∀{k:UInt8} {s l:_},ib s->(∀c,c∈s↔∃t∈(l:List Tx),c∈ji k t)->s.length<=1099511627776:=λh1 h2=>by
  have :=E7 h1 λc hc=>by obtain⟨t,_,h3⟩:=(h2 c).1 hc;exact xA h3
  omega
 have l1:=ln s1 hs;have l2:=ln r1 hr;have l3:=ln s2 α;have l4:=ln r2 β;have hs:=rW h0 hg hs;have hr:=rW h0 hg hr;have α:=rW k0 kg α;have β:=rW k0 kg β;refine⟨λc w'=>w'=w28/\97<=c.toNat/\c.toNat<=123/\∀d,lt d=true->d< c->¬(kN 33 n0 m0 d\/kN 63 n0 m0 d),λc _=>123 - c.toNat,⟨rfl,by decide,by decide,λd hd γ=>?_⟩,λc w' hI=>?_⟩
 ·have :=aW hd;rw [KI]at γ;have h2:d.toNat< 97:=γ;omega
 obtain⟨rfl,h3,h4,V⟩:=hI;refine⟨λhc=>?_,λhc=>?_⟩;rotate_left
 ·simp only [J6,Kl]at hc;have κ:¬c.toNat<=122:=hc;have hw:=hR w' xx;rw [uP ht λd hd=>V d hd (by have :=aW hd;rw [KI];omega)]at hw;exact hw
 simp only [J4,Kl]at hc;have κ:c.toNat<=122:=hc;have γ:lt c=true:=iy ⟨h3,κ⟩;refine eH l1 (eH l3 ⟨λhe μ ν δ G=>?_,λhe=>eH l2 (eH l4 ⟨λε μ ν δ G=>?_,λε=>?_⟩)⟩)
 ·have hw:=hR ν (Ex.trans xx (G▸Ex.alloc w' _));rw [uQ ht γ V ((rA hs α).1 he)]at hw;exact⟨μ,0,1,1,[c],rfl,rfl,yg δ G,by simp only [J0,Kh];omega,hw⟩
 all_goals
  have hd:¬kN 33 n0 m0 c:=λh=>by rw [(rA hs α).2 h]at he;cases he
 ·have hw:=hR ν (Ex.trans xx (G▸Ex.alloc w' _));rw [uX ht γ V hd ((rA hr β).1 ε)]at hw;exact⟨μ,0,1,1,[c],rfl,rfl,yg δ G,by simp only [J0,Kh];omega,hw⟩
 ·have hd2:¬kN 63 n0 m0 c:=λh=>by rw [(rA hr β).2 h]at ε;cases ε
  obtain⟨e1,e3⟩:=GR κ;refine⟨⟨rfl,by omega,by omega,λd h1 h2=>?_⟩,by show 123 - (c+1).toNat< 123 - c.toNat;omega⟩;rcases(e3 d).1 h2 with h2 | rfl
  ·exact V d h1 h2
  ·exact λh=>h.elim hd hd2
end Go.Proofs.YtdecokaadekjnaaGreat
