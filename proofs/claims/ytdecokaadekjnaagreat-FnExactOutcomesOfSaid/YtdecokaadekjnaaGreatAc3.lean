/- Part 3 of a proof of what the last text states; no condition. -/
import Derived.Test.YtdecokaadekjnaaGreatAc2
set_option maxRecDepth 100000
set_option maxHeartbeats 4000000
namespace Go.Proofs.YtdecokaadekjnaaGreat
open Go Go.RowKit
structure Rs (D:Nat->Prop)(w:World)(s:Tx)(i j:Nat)(bad bad':Bool)(v:Value):Prop where
 le:i<=j
 ptr:∃b,v=ptr b
 fine:bad'=false->bad=false/\∃t:P,t.Al (λc=>lt c=true)/\s.drop i=t.text++s.drop j/\aK D w t v
 good:bad=false->(∃(t:P) (r':Tx),t.Al (λc=>lt c=true)/\s.drop i=t.text++r')->bad'=false
def vH (s:Tx)(n:Nat):Prop:=∀{r i:Nat} {bad:Bool} {w:World} {R:Value->PV},Rd w r s i bad->(bad=false->s.length - i< n)->
 (∀v w' j bad',Kr r w w'->Rd w' r s j bad'->Rs (λg=>w.heap.size<=g) w' s i j bad bad' v->R v w')->PW 166 #[Proofs.YtdecokaadekjnaaGreat.ptr r] w (aw [.v] R)
theorem Fi {s:Tx}{n:Nat}(ε:vH s n){w0 w:World}{r b i:Nat}{bad:Bool}{k a c:UInt8}{vs:Value}(h:TS w0 w r b s i bad k a c vs)(hm:bad=false->s.length - i< n){R:Value->PV}
  (hR:∀w' j bad' x W,TS w0 w' r b s j bad' k a c W->dV (λg=>w0.heap.size<=g) w' W [x]->Rs (λg=>w0.heap.size<=g) w' s i j bad bad' x->R (ptr b) w'):
  PW 166 #[ptr r] w (aw [.v] fun(v28:Value) (Z:World)=>aB v28=true/\∀(b30:Nat) (G:World),b30=Array.size (World.heap Z)->G=World.alloc Z (Obj.cells #[v28] 88)->
   aB (Value.slice (some ⟨b30,0,none⟩) 1 1)=true/\((∃u32:Value,World.cell? G ⟨b,3,none⟩=some u32)/\World.frozen? G ⟨b,3,none⟩=false)/\∀α:World,α=World.setCell G ⟨b,3,none⟩ (Value.slice (some ⟨b30,0,none⟩) 1 1)->R (Value.pointer (some ⟨b,0,none⟩)) α):=by
 refine ε h.rd hm λv w1 j bad' k1 h1 hs=>?_
 obtain⟨bv,ζ⟩:=hs.ptr;have t1:=h.go k1 h1;refine⟨by rw [ζ],λb2 w2 β J=>⟨rfl,?_⟩⟩;have γ:Ex w1 w2:=J▸Ex.alloc w1 _;have t2:=t1.ex γ;refine⟨t2.cell.2.2.2.1,λw3 H=>?_⟩;have t3:=t2.DZ H;have hb:=h.hb;have ν:=t2.nd.lt;have ι:=k1.size;have κ:=h.kr.size;have μ:=t1.nd.lt;have hK:Kp w2 w3 λg=>g=b:=H▸Kp.set (S:=λg=>g=b) (Kp.ah (Ex.refl w2) _) rfl _
 have ξ:b< w.heap.size:=h.nd.lt;refine hR w3 j bad' v _ t3 (.inr ⟨b2,0,1,rfl,by omega,?_,λi x V=>?_⟩) ⟨hs.le,hs.ptr,λη=>?_,hs.good⟩
 ·rw [H,M9,J,size_alloc,<-β];omega
 ·match i,V with
  | 0,V=>
   simp at V;subst V;rw [H,Mr _ _ _ _ (by simp),J,β];exact aa rfl
  | i+1,V=>simp at V
 ·obtain⟨e1,t,ht,e2,θ⟩:=hs.fine η;refine⟨e1,t,ht,e2,?_⟩;have δ:aK (λg=>w.heap.size<=g) w2 t v:=aK.kp (Kp.ah γ λ _=>False) (λ _ _ h=>h) θ;exact aK.mono (λg hg=>by omega) (aK.kp hK (λg hg e=>by omega) δ)
theorem aZ {s:Tx}{i:Nat}(h:i< s.length):s.drop i=bt s i::s.drop (i+1):=bB h
theorem eQ.of {D:Nat->Prop}{w0 w:World}{r b:Nat}{s:Tx}{i:Nat}{bad:Bool}{k a c:UInt8}{vs:Value}{l:List Value}{K:List Value->Prop}(h:TS w0 w r b s i bad k a c vs)(G:D b)(H:dV D w vs l)(J:K l):eQ D w (ptr b) k a c K:=
 ⟨b,vs,l,rfl,G,h.nd.lt,h.nd.c0,h.nd.c1,h.nd.c2,h.nd.c3,H,J⟩
theorem c8 {s:Tx}{i:Nat}{c:UInt8}{r:Tx}(h:s.drop i=c::r):i< s.length/\bt s i=c/\s.drop (i+1)=r:=drop_cons h
theorem JR (s:Tx)(hs:s.length<=1099511627776):∀n,vH s n:=by
 intro n;have main:∀n,(∀m,m+1=n->vH s m)->vH s n:=by
  intro n ih r i bad w R hrd hm hR;refine mA _ w R ?_;dsimp only [go_sem];dsimp only [go_sem,UInt8.reduceOfNat,UInt32.reduceOfNat,Nat.reduceAdd];intro b w1 hb hw1;have υ:Ex w w1:=hw1▸Ex.alloc w _;have hrl:=hrd.lt;have hsz1:w1.heap.size=w.heap.size+1:=by rw [hw1,size_alloc]
  have t1:TS w w1 r b s i bad 48 0 0 (.slice none 0 0):=by
   refine⟨hrd.same υ.size (υ.block r hrl),⟨by omega,?_,?_,?_,?_,λj=>?_⟩,Kr.ex υ,hrl,by omega⟩
   ·rw [hw1,hb];exact aa rfl
   ·rw [hw1,hb];exact aa rfl
   ·rw [hw1,hb];exact aa rfl
   ·rw [hw1,hb];exact aa rfl
   ·rw [hw1,hb];unfold World.frozen? World.alloc;simp
  have hD:w.heap.size<=b:=by omega
  refine⟨r,0,rfl,bad,t1.rd.c2,λhq=>?_,λhq=>?_⟩
  ·exact hR _ _ _ _ t1.kr t1.rd ⟨Mu _,⟨b,rfl⟩,λH=>(by rw [hq]at H;cases H),λH=>(by rw [hq]at H;cases H)⟩
  obtain⟨n,rfl⟩:∃m,n=m+1:=⟨n - 1,by have :=hm hq;omega⟩
  have iht:vH s n:=ih n rfl;have hm:=hm hq;subst hq;refine nG hs t1.rd λc7 j7 bad7 w8 k8 h8 hn=>?_
  have t8:=t1.go k8 h8;have hj7:=h8.le;have first:bad7=false->i< s.length/\j7=i+1/\c7=bt s i:=λH=>by
   obtain⟨_,a,b,c,_⟩:=hn.fine H;exact⟨a,b,c⟩
  have G:∀{c:UInt8} {x:Tx},s.drop i=c::x->bad7=false/\c7=c/\s.drop j7=x:=λh=>by
   obtain⟨a,b,c⟩:=c8 h;have H:=hn.good rfl a trivial;obtain⟨_,e1,e2⟩:=first H;exact⟨H,by rw [e2,b],by rw [e1];exact c⟩
  refine⟨λV=>?_,λV=>?_⟩
  ·have V:=MN V;refine hR _ _ j7 bad7 t8.kr t8.rd ⟨hn.le,⟨b,rfl⟩,λH=>?_,λ _ ⟨t,r',ht,e⟩=>?_⟩
   ·obtain⟨a1,a2,a3⟩:=first H;refine⟨rfl,.nil,trivial,?_,eQ.of t8 hD (.inl ⟨rfl,rfl⟩) rfl⟩;rw [aZ a1,<-a3,V,a2];rfl
   ·cases ht':t.text with
    | nil=>have :=Fu t;rw [ht']at this;simp at this
    | cons d x=>rw [ht',Ns]at e;exact(G e).1
  have hc0:c7≠48:=MO V;refine sE ⟨λhl=>?_,λhl=>?_⟩
  ·
   refine nG hs t8.rd λW j11 Z w12 k12 h12 ω=>?_
   have t12:=t8.go k12 h12;refine⟨t12.cell.2.1,λw14 hw14=>?_⟩;have t14:=t12.zV hw14;refine⟨t14.cell.1,λw16 hw16=>?_⟩;have t16:=t14.De hw16;have rest:∀{wx:World} {J:Bool},TS w wx r b s j11 J W c7 0 (.slice none 0 0)->(J=false->Z=false/\(W=33\/W=63))->(Z=false->(W=33\/W=63)->J=false)->
     ∀{K:UInt8->PV},(∀μ φ β w24,TS w w24 r b s φ β W c7 0 (.slice none 0 0)->Nx s j11 J (λc=>lt c=true) μ φ β->K μ w24)->
     PW 208 #[ptr r] wx (aw [.c] K):=by
    intro wx J tx _ _ K hK;exact xH hs tx.rd λc j bad' w' k' h' hn'=>hK c j bad' w' (tx.go k' h') hn'
   have fin:∀{J:Bool} {μ:UInt8} {φ:Nat} {β:Bool} {w24 w26:World},(J=false->Z=false/\(W=33\/W=63))->(Z=false->(W=33\/W=63)->J=false)->Nx s j11 J (λc=>lt c=true) μ φ β->
     TS w w26 r b s φ β W c7 μ (.slice none 0 0)->PW 209 #[ptr r,.int .u8 46] w26 (aw [] λw27=>PW 166 #[ptr r] w27 (aw [.v] fun(v28:Value) (w29:World)=>aB v28=true/\∀(b30:Nat) (χ:World),b30=Array.size (World.heap w29)->χ=World.alloc w29 (Obj.cells #[v28] 88)->
      aB (Value.slice (some ⟨b30,0,none⟩) 1 1)=true/\((∃u32:Value,World.cell? χ ⟨b,3,none⟩=some u32)/\World.frozen? χ ⟨b,3,none⟩=false)/\∀w33:World,w33=World.setCell χ ⟨b,3,none⟩ (Value.slice (some ⟨b30,0,none⟩) 1 1)->R (Value.pointer (some ⟨b,0,none⟩)) w33)):=by
    intro J μ φ β w24 w26 υ hx2 ε t26;refine pe (c:=46) hs t26.rd λj27 bad27 w27 k27 h27 hn27=>?_
    have t27:=t26.go k27 h27;refine Fi iht t27 (λH=>?_) λw' j bad' x vs' t' hsl hrs=>?_
    ·obtain⟨a1,a2,a3,_⟩:=hn27.fine H;obtain⟨b1,b2,b3,_⟩:=ε.fine a1;obtain⟨c1,c2,c3,_⟩:=ω.fine (υ b1).1;obtain⟨_,d2,d3⟩:=first c1;omega
    ·refine hR _ _ j bad' t'.kr t'.rd ⟨?_,⟨b,rfl⟩,λH=>?_,λ _ ⟨t,r',ht,e⟩=>?_⟩
     ·have :=hn.le;have :=ω.le;have :=ε.le;have :=hn27.le;have :=hrs.le;omega
     ·obtain⟨e1,t,ht,e2,hat⟩:=hrs.fine H;obtain⟨a1,a2,a3,a4,a5⟩:=hn27.fine e1;obtain⟨b1,b2,b3,b4,b5⟩:=ε.fine a1;obtain⟨b0,hk⟩:=υ b1;obtain⟨c1,c2,c3,c4,_⟩:=ω.fine b0;obtain⟨d1,d2,d3⟩:=first c1;have ζ:s.drop i=c7::W::μ::46::(t.text++s.drop j):=by
       rw [aZ d1,<-d3,<-d2,aZ c2,<-c4,<-c3,aZ b2,<-b4,<-b3,aZ a2,<-a4,<-a3,e2]
      rcases hk with hk | hk
      ·subst hk;exact⟨rfl,.snd c7 μ t,⟨hl,b5,ht⟩,ζ,eQ.of t' hD hsl ⟨x,rfl,hat⟩⟩
      ·subst hk;exact⟨rfl,.rcv c7 μ t,⟨hl,b5,ht⟩,ζ,eQ.of t' hD hsl ⟨x,rfl,hat⟩⟩
     ·have key:∀{a d x:UInt8} {p:P},(d=33\/d=63)->lt x=true->p.Al (λc=>lt c=true)->s.drop i=a::d::x::46::(p.text++r')->bad'=false:=by
       intro a d x p hd hx hp he;obtain⟨f1,f2,f3⟩:=G he;obtain⟨g1,g2,g3⟩:=c8 f3;have f4:=ω.good f1 g1 trivial;obtain⟨_,_,h3,h4,_⟩:=ω.fine f4;rw [<-h3]at g3;obtain⟨k1,k2,k3⟩:=c8 g3;have hkd:W=33\/W=63:=by rw [h4,g2];exact hd
       have f5:=ε.good (hx2 f4 hkd) k1 (by rw [k2];exact hx);obtain⟨_,_,l3,l4,_⟩:=ε.fine f5;rw [<-l3]at k3;obtain⟨m1,m2,m3⟩:=c8 k3;have f6:=hn27.good f5 m1 m2;obtain⟨_,_,o3,o4,_⟩:=hn27.fine f6;rw [<-o3]at m3;exact hrs.good f6 ⟨p,r',hp,m3⟩
      cases t with
      | snd a x p=>exact key (.inl rfl) ht.2.1 ht.2.2 e
      | rcv a x p=>exact key (.inr rfl) ht.2.1 ht.2.2 e
      | nil=>exact absurd (G (c:=48) e).2.1 hc0
      | tau p=>have :=(G (c:=126) e).2.1;rw [this]at hl;exact absurd hl (by decide)
      | res y p=>have :=(G (c:=35) e).2.1;rw [this]at hl;exact absurd hl (by decide)
      | mat y z p=>have :=(G (c:=91) e).2.1;rw [this]at hl;exact absurd hl (by decide)
      | rep p=>have :=(G (c:=42) e).2.1;rw [this]at hl;exact absurd hl (by decide)
      | sum p q=>have :=(G (c:=40) e).2.1;rw [this]at hl;exact absurd hl (by decide)
      | par p q=>have :=(G (c:=40) e).2.1;rw [this]at hl;exact absurd hl (by decide)
   refine⟨W,t16.nd.c0,λι=>⟨W,t16.nd.c0,λκ=>⟨r,0,rfl,t16.cell.2.2.2.2,λw22 hw22=>?_⟩,λκ=>?_⟩,λι=>?_⟩
   ·have t22:=t16.Gq hw22;have ι:¬W=33:=by simpa using ι
    have κ:¬W=63:=by simpa using κ
    have x1:true=false->Z=false/\(W=33\/W=63):=λh=>by cases h
    have x2:Z=false->(W=33\/W=63)->true=false:=λ _ h=>by rcases h with h | h<;>contradiction
    refine rest t22 x1 x2 λμ φ β w24 t24 ε=>⟨t24.cell.2.2.1,λw26 hw26=>fin (w24:=w24) x1 x2 ε (t24.rJ hw26)⟩
   ·have κ:W=63:=by simpa using κ
    have x1:Z=false->Z=false/\(W=33\/W=63):=λh=>⟨h,.inr κ⟩
    have x2:Z=false->(W=33\/W=63)->Z=false:=λh _=>h
    refine rest t16 x1 x2 λμ φ β w24 t24 ε=>⟨t24.cell.2.2.1,λw26 hw26=>fin (w24:=w24) x1 x2 ε (t24.rJ hw26)⟩
   ·have ι:W=33:=by simpa using ι
    have x1:Z=false->Z=false/\(W=33\/W=63):=λh=>⟨h,.inl ι⟩
    have x2:Z=false->(W=33\/W=63)->Z=false:=λh _=>h
    refine rest t16 x1 x2 λμ φ β w24 t24 ε=>⟨t24.cell.2.2.1,λw26 hw26=>fin (w24:=w24) x1 x2 ε (t24.rJ hw26)⟩
  have α:∀{a:UInt8} {x:Tx},lt a=true->s.drop i=a::x->False:=λha he=>by
   rw [(G he).2.1]at hl;rw [hl]at ha;cases ha
  have one:∀{wx:World} {jx:Nat} {J:Bool} {k a c:UInt8} (hd:Tx) (mk:P->P),TS w wx r b s jx J k a c (.slice none 0 0)->i<=jx->
    (J=false->i< jx/\s.drop i=hd++s.drop jx)->(J=false->∀p,(mk p).text=hd++p.text)->(J=false->∀p:P,p.Al (λc=>lt c=true)->(mk p).Al (λc=>lt c=true))->
    (∀{D:Nat->Prop} {w':World} {v:Value} {p:P},(eQ D w' v k a c λl=>∃x,l=[x]/\aK D w' p x)->J=false->aK D w' (mk p) v)->
    (∀(t:P) (r':Tx),t.Al (λc=>lt c=true)->s.drop i=t.text++r'->J=false/\∃p:P,p.Al (λc=>lt c=true)/\s.drop jx=p.text++r')->
    PW 166 #[ptr r] wx (aw [.v] fun(v28:Value) (w29:World)=>aB v28=true/\∀(b30:Nat) (χ:World),b30=Array.size (World.heap w29)->χ=World.alloc w29 (Obj.cells #[v28] 88)->
     aB (Value.slice (some ⟨b30,0,none⟩) 1 1)=true/\((∃u32:Value,World.cell? χ ⟨b,3,none⟩=some u32)/\World.frozen? χ ⟨b,3,none⟩=false)/\∀w33:World,w33=World.setCell χ ⟨b,3,none⟩ (Value.slice (some ⟨b30,0,none⟩) 1 1)->R (Value.pointer (some ⟨b,0,none⟩)) w33):=by
   intro wx jx J k a c hd mk tx hle hpos htx hal hat hgood;have hjx:=tx.rd.le;refine Fi iht tx (λH=>by have :=(hpos H).1;omega) λw' j bad' x vs' t' hsl hrs=>?_
   refine hR _ _ j bad' t'.kr t'.rd ⟨by have :=hrs.le;omega,⟨b,rfl⟩,λH=>?_,λ _ ⟨t,r',ht,e⟩=>?_⟩
   ·obtain⟨e1,p,hp,e2,hpa⟩:=hrs.fine H;refine⟨rfl,mk p,hal e1 p hp,?_,hat (eQ.of t' hD hsl ⟨x,rfl,hpa⟩) e1⟩;rw [(hpos e1).2,htx e1,e2,M8]
   ·obtain⟨e1,p,hp,e2⟩:=hgood t r' ht e;exact hrs.good e1 ⟨p,r',hp,e2⟩
  refine⟨λV=>?_,λV=>?_⟩
  ·
   have V:c7=126:=MN V;refine⟨t8.cell.1,λw57 ν=>?_⟩;rw [V]at ν;have t57:=t8.De ν;refine pe (c:=46) hs t57.rd λj58 bad58 w58 k58 h58 hn58=>?_
   have t58:=t57.go k58 h58;refine one [126,46] .tau t58 (by have :=hn.le;have :=hn58.le;omega) (λH=>?_) (λ _ p=>rfl) (λ _ p hp=>hp) (λh _=>h) λt r' ht e=>?_
   ·obtain⟨a1,a2,a3,a4,a5⟩:=hn58.fine H;obtain⟨d1,d2,d3⟩:=first a1;refine⟨by omega,?_⟩;rw [aZ d1,<-d3,<-d2,aZ a2,<-a4,<-a3,V];rfl
   ·cases t with
    | tau p=>
     obtain⟨f1,f2,f3⟩:=G (c:=126) e;obtain⟨g1,g2,g3⟩:=c8 (c:=46) f3;have f4:=hn58.good f1 g1 g2;obtain⟨_,_,h3,_⟩:=hn58.fine f4;exact⟨f4,p,ht,by rw [h3];exact g3⟩
    | nil=>exact absurd (G (c:=48) e).2.1 hc0
    | snd a x p=>exact(α ht.1 e).elim
    | rcv a x p=>exact(α ht.1 e).elim
    | res y p=>have :=(G (c:=35) e).2.1;rw [this]at V;exact absurd V (by decide)
    | mat y z p=>have :=(G (c:=91) e).2.1;rw [this]at V;exact absurd V (by decide)
    | rep p=>have :=(G (c:=42) e).2.1;rw [this]at V;exact absurd V (by decide)
    | sum p q=>have :=(G (c:=40) e).2.1;rw [this]at V;exact absurd V (by decide)
    | par p q=>have :=(G (c:=40) e).2.1;rw [this]at V;exact absurd V (by decide)
  have hc1:c7≠126:=MO V;refine⟨λV=>?_,λV=>?_⟩
  ·
   have V:c7=35:=MN V;refine xH hs t8.rd λc65 j65 bad65 w66 k66 h66 hn66=>?_
   have t66:=t8.go k66 h66;refine⟨t66.cell.1,λw68 hw68=>?_⟩;rw [V]at hw68;have t68:=t66.De hw68;refine⟨t68.cell.2.2.1,λw70 hw70=>?_⟩;have t70:=t68.rJ hw70;refine pe (c:=46) hs t70.rd λj71 bad71 w71 k71 h71 hn71=>?_
   have t71:=t70.go k71 h71;have fx:bad71=false->lt c65=true:=λH=>(hn66.fine (hn71.fine H).1).2.2.2.2
   refine one [35,c65,46] (.res c65) t71 (by have :=hn.le;have :=hn66.le;have :=hn71.le;omega) (λH=>?_) (λ _ p=>rfl) (λH p hp=>⟨fx H,hp⟩) (λh _=>h) λt r' ht e=>?_
   ·obtain⟨a1,a2,a3,a4,a5⟩:=hn71.fine H;obtain⟨b1,b2,b3,b4,b5⟩:=hn66.fine a1;obtain⟨d1,d2,d3⟩:=first b1;refine⟨by omega,?_⟩;rw [aZ d1,<-d3,<-d2,aZ b2,<-b4,<-b3,aZ a2,<-a4,<-a3,V];rfl
   ·cases t with
    | res y p=>
     obtain⟨f1,f2,f3⟩:=G (c:=35) e;obtain⟨g1,g2,g3⟩:=c8 (c:=y) f3;have f4:=hn66.good f1 g1 (by rw [g2];exact ht.1);obtain⟨_,_,h3,h4,_⟩:=hn66.fine f4;rw [<-h3]at g3;obtain⟨m1,m2,m3⟩:=c8 (c:=46) g3;have f6:=hn71.good f4 m1 m2;obtain⟨_,_,o3,_⟩:=hn71.fine f6;exact⟨f6,p,ht.2,by rw [o3];exact m3⟩
    | nil=>exact absurd (G (c:=48) e).2.1 hc0
    | snd a x p=>exact(α ht.1 e).elim
    | rcv a x p=>exact(α ht.1 e).elim
    | tau p=>exact absurd (G (c:=126) e).2.1 hc1
    | mat y z p=>have :=(G (c:=91) e).2.1;rw [this]at V;exact absurd V (by decide)
    | rep p=>have :=(G (c:=42) e).2.1;rw [this]at V;exact absurd V (by decide)
    | sum p q=>have :=(G (c:=40) e).2.1;rw [this]at V;exact absurd V (by decide)
    | par p q=>have :=(G (c:=40) e).2.1;rw [this]at V;exact absurd V (by decide)
  have hc2:c7≠35:=MO V;refine⟨λV=>?_,λV=>?_⟩
  ·
   have V:c7=91:=MN V;refine xH hs t8.rd λc78 j78 bad78 w79 k79 h79 hn79=>?_
   have t79:=t8.go k79 h79;refine⟨t79.cell.1,λw80 hw80=>?_⟩;have t80:=t79.De (x:=61) hw80;refine⟨t80.cell.2.1,λw81 hw81=>?_⟩;have t81:=t80.zV hw81;refine pe (c:=61) hs t81.rd λj82 bad82 w82 k82 h82 hn82=>?_
   have t82:=t81.go k82 h82;refine xH hs t82.rd λc83 j83 bad83 w83 k83 h83 hn83=>?_
   have t83:=t82.go k83 h83;refine⟨t83.cell.2.2.1,λw84 hw84=>?_⟩;have t84:=t83.rJ hw84;refine pe (c:=93) hs t84.rd λj85 bad85 w85 k85 h85 hn85=>?_
   have t85:=t84.go k85 h85;have fx:bad85=false->lt c78=true/\lt c83=true:=λH=>by
    obtain⟨a1,_⟩:=hn85.fine H;obtain⟨b1,_,_,_,b5⟩:=hn83.fine a1;obtain⟨c1,_⟩:=hn82.fine b1;exact⟨(hn79.fine c1).2.2.2.2,b5⟩
   refine one [91,c78,61,c83,93] (.mat c78 c83) t85 (by have :=hn.le;have :=hn79.le;have :=hn82.le;have :=hn83.le;have :=hn85.le;omega) (λH=>?_) (λ _ p=>rfl) (λH p hp=>⟨(fx H).1,(fx H).2,hp⟩) (λh _=>h) λt r' ht e=>?_
   ·obtain⟨a1,a2,a3,a4,a5⟩:=hn85.fine H;obtain⟨b1,b2,b3,b4,b5⟩:=hn83.fine a1;obtain⟨c1,c2,c3,c4,c5⟩:=hn82.fine b1;obtain⟨e1,e2,e3,e4,e5⟩:=hn79.fine c1;obtain⟨d1,d2,d3⟩:=first e1;refine⟨by omega,?_⟩;rw [aZ d1,<-d3,<-d2,aZ e2,<-e4,<-e3,aZ c2,<-c4,<-c3,aZ b2,<-b4,<-b3,aZ a2,<-a4,<-a3,V];rfl
   ·cases t with
    | mat y z p=>
     obtain⟨f1,f2,f3⟩:=G (c:=91) e;obtain⟨g1,g2,g3⟩:=c8 (c:=y) f3;have f4:=hn79.good f1 g1 (by rw [g2];exact ht.1);obtain⟨_,_,h3,h4,_⟩:=hn79.fine f4;rw [<-h3]at g3;obtain⟨m1,m2,m3⟩:=c8 (c:=61) g3;have f6:=hn82.good f4 m1 m2;obtain⟨_,_,o3,_⟩:=hn82.fine f6;rw [<-o3]at m3;obtain⟨p1,p2,p3⟩:=c8 (c:=z) m3;have f7:=hn83.good f6 p1 (by rw [p2];exact ht.2.1);obtain⟨_,_,q3,_⟩:=hn83.fine f7;rw [<-q3]at p3;obtain⟨s1,s2,s3⟩:=c8 (c:=93) p3;have f8:=hn85.good f7 s1 s2;obtain⟨_,_,u3,_⟩:=hn85.fine f8;exact⟨f8,p,ht.2.2,by rw [u3];exact s3⟩
    | nil=>exact absurd (G (c:=48) e).2.1 hc0
    | snd a x p=>exact(α ht.1 e).elim
    | rcv a x p=>exact(α ht.1 e).elim
    | tau p=>exact absurd (G (c:=126) e).2.1 hc1
    | res y p=>exact absurd (G (c:=35) e).2.1 hc2
    | rep p=>have :=(G (c:=42) e).2.1;rw [this]at V;exact absurd V (by decide)
    | sum p q=>have :=(G (c:=40) e).2.1;rw [this]at V;exact absurd V (by decide)
    | par p q=>have :=(G (c:=40) e).2.1;rw [this]at V;exact absurd V (by decide)
  have hc3:c7≠91:=MO V;refine⟨λV=>?_,λV=>?_⟩
  ·
   have V:c7=42:=MN V;refine⟨t8.cell.1,λw57 ν=>?_⟩;rw [V]at ν;have t57:=t8.De ν;refine one [42] .rep t57 hn.le (λH=>?_) (λ _ p=>rfl) (λ _ p hp=>hp) (λh _=>h) λt r' ht e=>?_
   ·obtain⟨d1,d2,d3⟩:=first H;refine⟨by omega,?_⟩;rw [aZ d1,<-d3,<-d2,V];rfl
   ·cases t with
    | rep p=>
     obtain⟨f1,f2,f3⟩:=G (c:=42) e;exact⟨f1,p,ht,f3⟩
    | nil=>exact absurd (G (c:=48) e).2.1 hc0
    | snd a x p=>exact(α ht.1 e).elim
    | rcv a x p=>exact(α ht.1 e).elim
    | tau p=>exact absurd (G (c:=126) e).2.1 hc1
    | res y p=>exact absurd (G (c:=35) e).2.1 hc2
    | mat y z p=>exact absurd (G (c:=91) e).2.1 hc3
    | sum p q=>have :=(G (c:=40) e).2.1;rw [this]at V;exact absurd V (by decide)
    | par p q=>have :=(G (c:=40) e).2.1;rw [this]at V;exact absurd V (by decide)
  have hc4:c7≠42:=MO V;refine⟨λV=>?_,λV=>?_⟩
  ·
   have V:c7=40:=MN V;refine iht t8.rd (λH=>by have :=(first H).2.1;have :=(first H).1;omega) λv1 w105 j105 bad105 k105 h105 hs1=>?_
   obtain⟨bv1,hbv1⟩:=hs1.ptr;have t105:=t8.go k105 h105;refine nG hs t105.rd λγ j106 bad106 w107 k107 h107 ξ=>?_
   have t107:=t105.go k107 h107;refine⟨t107.cell.1,λw109 hw109=>?_⟩;have t109:=t107.De hw109;have sz8:=t8.nd.lt;have szk:=k105.size;have hrw8:r< w8.heap.size:=h8.lt;have kK:∀{wa wb:World},Kr r wa wb->Kp wa wb λg=>g=r\/g=b:=λh=>⟨h.os,h.tape,h.output,h.size,λg hg hn=>h.block g hg λe=>hn (.inl e)⟩
   have kS:∀{wa wb:World} {j:Nat} {v:Value},wb=wa.setCell ⟨b,j,none⟩ v->Kp wa wb λg=>g=r\/g=b:=λ{wa wb j v} h=>h▸Kp.set (S:=λg=>g=r\/g=b) (Kp.ah (Ex.refl wa) _) (.inr rfl) v
   have kT:∀{wa wb wc:World},(Kp wa wb λg=>g=r\/g=b)->(Kp wb wc λg=>g=r\/g=b)->Kp wa wc λg=>g=r\/g=b:=λh k=>Kp.trans h k λ _ _ h=>h
   have q109:Kp w105 w109 λg=>g=r\/g=b:=kT (kK k107) (kS hw109)
   have rest:∀{wx:World} {J:Bool},TS w wx r b s j106 J γ 0 0 (.slice none 0 0)->(Kp w105 wx λg=>g=r\/g=b)->(J=false->bad106=false/\(γ=43\/γ=38))->(bad106=false->(γ=43\/γ=38)->J=false)->
     PW 166 #[ptr r] wx (aw [.v] fun(v116:Value) (ο:World)=>aB v1=true/\aB v116=true/\∀(δ:Nat) (η:World),δ=Array.size (World.heap ο)->η=World.alloc ο (Obj.cells #[v1,v116] 88)->
      aB (Value.slice (some ⟨δ,0,none⟩) 2 2)=true/\((∃u120:Value,World.cell? η ⟨b,3,none⟩=some u120)/\World.frozen? η ⟨b,3,none⟩=false)/\∀w121:World,w121=World.setCell η ⟨b,3,none⟩ (Value.slice (some ⟨δ,0,none⟩) 2 2)->
      PW 209 #[ptr r,.int .u8 41] w121 (aw [] λθ=>R (Value.pointer (some ⟨b,0,none⟩)) θ)):=by
    intro wx J tx qx υ hx2;have szx:=qx.size;refine iht tx.rd (λH=>?_) λv2 ο j117 bad117 k117 h117 hs2=>?_
    ·obtain⟨a1,a2,a3,_⟩:=ξ.fine (υ H).1;have :=(hs1.fine a1).1;have :=(first this).2.1;have :=hs1.le;omega
    obtain⟨bv2,hbv2⟩:=hs2.ptr;have t117:=tx.go k117 h117;refine⟨by rw [hbv1],by rw [hbv2],λδ η hb118 ψ=>⟨rfl,?_⟩⟩;have hx119:Ex ο η:=ψ▸Ex.alloc ο _;have t119:=t117.ex hx119;refine⟨t119.cell.2.2.2.1,λw121 ς=>?_⟩;have t121:=t119.DZ ς;refine pe (c:=41) hs t121.rd λj122 bad122 θ k122 h122 hn122=>?_
    have t122:=t121.go k122 h122;have sz117:=k117.size;have q119:Kp ο η λg=>g=r\/g=b:=Kp.ah hx119 _
    have q122:Kp ο θ λg=>g=r\/g=b:=kT (kT q119 (kS ς)) (kK k122)
    have qall:Kp w105 θ λg=>g=r\/g=b:=kT (kT qx (kK k117)) q122
    have hbl:δ< θ.heap.size:=by
     have :=k122.size;rw [ς,M9,ψ,size_alloc,<-hb118]at this;omega
    have hkr:=t8.kr.size;have hsl:dV (λg=>w.heap.size<=g) θ (.slice (some ⟨δ,0,none⟩) 2 2) [v1,v2]:=by
     refine .inr ⟨δ,0,2,rfl,by omega,hbl,λi x hx=>?_⟩;have hne:δ≠b:=by omega
     have hblk:θ.heap[δ]?=η.heap[δ]?:=by
      rw [k122.block δ (by rw [ς,M9,ψ,size_alloc];omega) (by omega),ς,O3 _ _ _ _ (show δ≠b from hne)]
     rw [Mn (w:=η) hblk,ψ,hb118]
     match i,hx with
     | 0,hx=>simp at hx;subst hx;exact aa rfl
     | 1,hx=>simp at hx;subst hx;exact aa rfl
     | i+2,hx=>simp at hx
    refine hR _ _ j122 bad122 t122.kr t122.rd ⟨by have :=hn.le;have :=hs1.le;have :=ξ.le;have :=hs2.le;have :=hn122.le;omega,⟨b,rfl⟩,λH=>?_,λ _ ⟨t,r',ht,e⟩=>?_⟩
    ·obtain⟨a1,a2,a3,a4,a5⟩:=hn122.fine H;obtain⟨b1,q,hq,b2,b3⟩:=hs2.fine a1;obtain⟨b0,hk⟩:=υ b1;obtain⟨c1,c2,c3,c4,_⟩:=ξ.fine b0;obtain⟨e1,p,hp,e2,e3⟩:=hs1.fine c1;obtain⟨d1,d2,d3⟩:=first e1;have ζ:s.drop i=40::(p.text++(γ::(q.text++(41::s.drop j122)))):=by
      rw [aZ d1,<-d3,<-d2,e2,aZ c2,<-c4,<-c3,b2,aZ a2,<-a4,<-a3,V]
     have k1:aK (λg=>w.heap.size<=g) θ p v1:=aK.mono (λg hg=>by omega) (aK.kp qall (λg hg hS=>by rcases hS with h | h<;>omega) e3);have k2:aK (λg=>w.heap.size<=g) θ q v2:=aK.mono (λg hg=>by omega) (aK.kp q122 (λg hg hS=>by rcases hS with h | h<;>omega) b3);rcases hk with hk | hk
     ·subst hk;exact⟨rfl,.sum p q,⟨hp,hq⟩,by rw [ζ];simp [T.text],eQ.of t122 hD hsl ⟨v1,v2,rfl,k1,k2⟩⟩
     ·subst hk;exact⟨rfl,.par p q,⟨hp,hq⟩,by rw [ζ];simp [T.text],eQ.of t122 hD hsl ⟨v1,v2,rfl,k1,k2⟩⟩
    ·have key:∀{d:UInt8} {p q:P},(d=43\/d=38)->p.Al (λc=>lt c=true)->q.Al (λc=>lt c=true)->s.drop i=40::(p.text++(d::(q.text++(41::r'))))->bad122=false:=by
      intro d p q hd hp hq he;obtain⟨f1,f2,f3⟩:=G he;have g1:=hs1.good f1 ⟨p,_,hp,f3⟩;obtain⟨_,p',hp',g2,_⟩:=hs1.fine g1;rw [g2]at f3;obtain⟨rfl,g3⟩:=kv hp'.wf hp.wf f3;obtain⟨k1,k2,k3⟩:=c8 g3;have f4:=ξ.good g1 k1 trivial;obtain⟨_,_,h3,h4,_⟩:=ξ.fine f4;have f5:=hx2 f4 (by rw [h4,k2];exact hd);rw [<-h3]at k3;have f6:=hs2.good f5 ⟨q,_,hq,k3⟩;obtain⟨_,q',hq',g4,_⟩:=hs2.fine f6;rw [g4]at k3;obtain⟨rfl,g5⟩:=kv hq'.wf hq.wf k3;obtain⟨l1,l2,l3⟩:=c8 g5;exact hn122.good f6 l1 l2
     cases t with
     | sum p q=>exact key (.inl rfl) ht.1 ht.2 (by rw [e];simp [T.text])
     | par p q=>exact key (.inr rfl) ht.1 ht.2 (by rw [e];simp [T.text])
     | nil=>exact absurd (G (c:=48) e).2.1 hc0
     | snd a x p=>exact(α ht.1 e).elim
     | rcv a x p=>exact(α ht.1 e).elim
     | tau p=>exact absurd (G (c:=126) e).2.1 hc1
     | res y p=>exact absurd (G (c:=35) e).2.1 hc2
     | mat y z p=>exact absurd (G (c:=91) e).2.1 hc3
     | rep p=>exact absurd (G (c:=42) e).2.1 hc4
   refine⟨γ,t109.nd.c0,λι=>⟨γ,t109.nd.c0,λκ=>⟨r,0,rfl,t109.cell.2.2.2.2,λw22 hw22=>?_⟩,λκ=>?_⟩,λι=>?_⟩
   ·have ι:¬γ=43:=by simpa using ι
    have κ:¬γ=38:=by simpa using κ
    exact rest (t109.Gq hw22) (kT q109 (kK (hw22▸Kr.set w109 2 _))) (λh=>by cases h) (λ _ h=>by rcases h with h | h<;>contradiction)
   ·have κ:γ=38:=by simpa using κ
    exact rest t109 q109 (λh=>⟨h,.inr κ⟩) (λh _=>h)
   ·have ι:γ=43:=by simpa using ι
    exact rest t109 q109 (λh=>⟨h,.inl ι⟩) (λh _=>h)
  ·
   have hc5:c7≠40:=MO V;refine⟨r,0,rfl,t8.cell.2.2.2.2,λw57 ν=>?_⟩;have t57:=t8.Gq ν;refine one [] .tau t57 hn.le (λH=>by cases H) (λH=>by cases H) (λ _ p hp=>hp) (λh H=>by cases H) λt r' ht e=>?_
   exfalso;cases t with
   | nil=>exact absurd (G (c:=48) e).2.1 hc0
   | snd a x p=>exact(α ht.1 e).elim
   | rcv a x p=>exact(α ht.1 e).elim
   | tau p=>exact absurd (G (c:=126) e).2.1 hc1
   | res y p=>exact absurd (G (c:=35) e).2.1 hc2
   | mat y z p=>exact absurd (G (c:=91) e).2.1 hc3
   | rep p=>exact absurd (G (c:=42) e).2.1 hc4
   | sum p q=>exact absurd (G (c:=40) e).2.1 hc5
   | par p q=>exact absurd (G (c:=40) e).2.1 hc5
 induction n with
 | zero=>exact main 0 λm hm=>by omega
 | succ n ih=>exact main (n+1) λm hm=>(show n=m by omega)▸ih
def Mg:Shelf.Ren where
 f:=λx=>if x=137 then 168 else if x=217 then 210 else if x=266 then 232 else x
 t:=λx=>if x=3 then 3 else if x=5 then 5 else if x=9 then 9 else x
 g:=λx=>x
theorem Kb:Lays.n137 Tryz.prog Mg where
 mixed:=Eq.refl true
 f137:=Of Tryz.func168 (by kernel_rfl)
 f217:=Of Tryz.func210 (by kernel_rfl)
 f266:=Of Tryz.func232 (by kernel_rfl)
 t3:=Tryz.underlying3
 a3:=Tryz.isAgg3
 z3:=Tryz.sizeOf3
 v3:=Tryz.zeroValue3
 t5:=Tryz.underlying5
 a5:=Tryz.isAgg5
 z5:=Tryz.sizeOf5
 v5:=Tryz.zeroValue5
 t9:=Tryz.underlying9
 a9:=Tryz.isAgg9
 z9:=Tryz.sizeOf9
 v9:=Tryz.zeroValue9
theorem qd {s:Tx}{c:UInt8}{w:World}{R:Int->PV}(h:R (Lib.indexByte s c) w):
  PW 168 #[.string (ax s),.int .u8 c.toNat] w (aw [.i] R):=by
 refine(Any.strings_IndexByte Kb (ax s) c.toNat w).mono ?_
 rintro e w' ⟨rfl,rfl⟩
 have H:UInt8.ofNat c.toNat=c:=by simp
 have G:(Int.toNat (c.toNat:Int)).toUInt8=c:=by simp
 rw [G];exact⟨_,rfl,h⟩
abbrev Lt (t:P):Prop:=t.Al λc=>lt c=true
abbrev Da (w:World):Nat->Prop:=λg=>w.heap.size<=g
theorem Cw {s:Tx}(hs:s.length<=1099511627776){w:World}{R:Value->Bool->PV}
  (hR:∀v q w',Ex w w'->(q=true->∃t:P,Lt t/\s=t.text/\aK (Da w) w' t v)->(q=false->∀t:P,Lt t->s≠t.text)->R v q w'):
  PW 123 #[.string (ax s)] w (aw [.v,.b] R):=by
 refine ux s w R ?_;dsimp only [go_sem];dsimp only [go_sem,UInt8.reduceOfNat,UInt32.reduceOfNat,Nat.reduceAdd];intro b w1 hb G;have β:Ex w w1:=G▸Ex.alloc w _;have δ:w1.heap.size=w.heap.size+1:=by rw [G,size_alloc]
 have h1:Rd w1 b s 0 false:=by
  refine⟨by omega,Nl _,?_,?_,?_,?_,?_⟩
  ·rw [G,hb];exact aa rfl
  ·rw [G,hb];exact aa rfl
  ·rw [G,hb];exact aa rfl
  ·rw [G,hb];unfold World.frozen? World.alloc;simp
  ·rw [G,hb];unfold World.frozen? World.alloc;simp
 have hT:vH s (s.length+1):=JR s hs (s.length+1);refine hT h1 (λ _=>by omega) λv w2 j bad k2 V hr=>?_
 refine⟨λw'=>Ex w2 w',λw3 W=>⟨W▸Ex.drew w2,bad,λw' Z=>(V.same Z.size (Z.block b V.lt)).c2,?_⟩⟩;have α:Ex w2 w3:=W▸Ex.drew w2;have hex:Ex w w3:=by
  exact Ex.trans (Ex.below β (Kp.below (B:=w.heap.size) k2 (by omega) (λg hg e=>by omega))) α
 refine⟨λH=>?_,λH=>?_⟩
 ·have H:bad=false:=by simpa using H
  obtain⟨_,t,ht,e,γ⟩:=hr.fine H;refine⟨j,λw' Z=>(V.same Z.size (Z.block b V.lt)).c1,hR _ _ _ hex (λhd=>?_) λhd t' J e'=>?_⟩
  ·have hd:=MN hd;have:s.drop j=[]:=N7 (by omega);rw [this,Oe,MY]at e;exact⟨t,ht,e,aK.mono (λg hg=>by omega) (aK.kp (Kp.ah α λ _=>False) (λ _ _ h=>h) γ)⟩
  ·have hd:=MO hd;rw [Oe]at e;have e2:t'.text++[]=t.text++s.drop j:=by rw [MY,<-e'];exact e
   obtain⟨_,e3⟩:=kv J.wf ht.wf e2;have :=List.drop_eq_nil_iff.1 e3.symm;have :=V.le;omega
 ·have H:bad=true:=by simpa using H
  refine hR _ _ _ hex (λh=>by cases h) λ _ t' J e'=>?_
  have :=hr.good rfl ⟨t',[],J,by rw [Oe,MY,e']⟩;rw [H]at this;cases this
theorem mO {t:P}(J:Lt t):di t.text↔t.text.length<=300/\t.size<=60:=by
 constructor
 ·rintro⟨G,u,H,V,h4⟩
  have :=eZ H.wf J.wf V;subst this;exact⟨G,h4⟩
 ·rintro⟨G,H⟩
  exact⟨G,t,J,rfl,H⟩
theorem FR {s:Tx}{w:World}{R:Value->Bool->PV}
  (hR:∀v q w',Ex w w'->(q=true->di s/\∃t:P,Lt t/\s=t.text/\aK (Da w) w' t v)->(q=false->¬di s)->R v q w'):
  PW 79 #[.string (ax s)] w (aw [.v,.b] R):=by
 refine xP s w R ?_;dsimp only [go_sem];dsimp only [go_sem,UInt8.reduceOfNat,UInt32.reduceOfNat,Nat.reduceAdd];refine⟨λG=>?_,λG=>?_⟩
 ·have G:=MN G;refine hR _ _ _ (Ex.refl w) (λh=>by cases h) λ _ Z=>?_
  have :=Z.1;omega
 ·have G:=MO G;refine Cw (by omega) λv q w' W h1 h2=>⟨λV=>?_,λV=>?_⟩
  ·obtain⟨t,H,e,J⟩:=h1 V;have hs:=bj t;refine Hy t.size (Mu _) J (by rw [<-e]at hs;omega) (hR _ _ _ W (λhd=>?_) λhd=>?_)
   ·have hd:=MN hd;exact⟨by rw [e];exact(mO H).2 ⟨by rw [<-e];omega,by omega⟩,t,H,e,J⟩
   ·have hd:=MO hd;rw [e,mO H];omega
  ·exact hR _ _ _ W (λh=>by cases h) λ _ ⟨_,t,H,e,_⟩=>h2 V t H e.symm
theorem zn {s:Tx}{w:World}{R:Bool->PV}(hR:∀q w',Ex w w'->(q=true↔di s)->R q w'):
  PW 238 #[.string (ax s)] w (aw [.b] R):=by
 refine oH s w R ?_;dsimp only [go_sem];dsimp only [go_sem,UInt8.reduceOfNat,UInt32.reduceOfNat,Nat.reduceAdd];refine FR λv q w' G H J=>hR q w' G ⟨λh=>(H h).1,λh=>?_⟩
 cases q
 ·exact absurd h (J rfl)
 ·rfl
theorem HW {D:Nat->Prop}{t:P}{v:Value}{w:World}(h:aK D w t v){R:Bool->PV}(hR:R (decide (t.kind=63)||decide (t.kind=35)) w):
  PW 129 #[v] w (aw [.b] R):=by
 refine mQ v w R ?_;dsimp only [go_sem];dsimp only [go_sem,UInt8.reduceOfNat,UInt32.reduceOfNat,Nat.reduceAdd];obtain⟨b,vs,l,rfl,J,V,H,h4,h5,W,Z,h8⟩:=h.inv;refine⟨b,0,rfl,t.kind,H,λG=>⟨b,0,rfl,t.kind,H,?_⟩,λG=>?_⟩
 ·rw [G,O9]at hR;exact hR
 ·rw [G,Bool.true_or]at hR;exact hR
def T.ev (p:P->Bool):P->Bool
 | .nil=>p .nil
 | .snd a b q=>p (.snd a b q)&&q.ev p
 | .rcv a b q=>p (.rcv a b q)&&q.ev p
 | .tau q=>p (.tau q)&&q.ev p
 | .sum q r=>p (.sum q r)&&(q.ev p&&r.ev p)
 | .par q r=>p (.par q r)&&(q.ev p&&r.ev p)
 | .res a q=>p (.res a q)&&q.ev p
 | .mat a b q=>p (.mat a b q)&&q.ev p
 | .rep q=>p (.rep q)&&q.ev p
theorem se (p:P->Bool)(t:P):t.ev p=(p t&&t.parts.all (·.ev p)):=by cases t<;>simp [T.ev,T.parts]
def z7 (f:Nat)(p:P->Bool):Prop:=hasR fV f=true/\∀{D:Nat->Prop} {t:P} {v:Value} {w:World} {R:Bool->PV},aK D w t v->R (p t) w->PW f #[v] w (aw [.b] R)
structure wL (w:World)(bo bh f:Nat)(q:Bool):Prop where
 lt:bo< w.heap.size
 lh:bh< w.heap.size
 ne:bh≠bo
 c:w.cell? ⟨bo,0,none⟩=some (.bool q)
 fr:w.frozen? ⟨bo,0,none⟩=false
 h:w.cell? ⟨bh,0,none⟩=some (.func (.func f) #[] #[])
theorem wL.set {w:World}{bo bh f:Nat}{q:Bool}(h:wL w bo bh f q)(x:Bool):wL (w.setCell ⟨bo,0,none⟩ (.bool x)) bo bh f x:=
 ⟨by rw [M9];exact h.lt,by rw [M9];exact h.lh,h.ne,MI _ _ _ h.c,by rw [MG];exact h.fr,by
  rw [Mr _ _ _ _ (by have :=h.ne;simp [this])];exact h.h⟩
theorem Kl {f:Nat}{p:P->Bool}(V:z7 f p){D:Nat->Prop}{t:P}{v:Value}{w:World}{bo bh:Nat}{q:Bool}(W:aK D w t v)(G:wL w bo bh f q){R:PV}
  (hR:∀w',Kr bo w w'->wL w' bo bh f (q&&p t)->R w'):PW 170 #[v,ptr bo,ptr bh] w (aw [] R):=by
 refine nz v _ _ w R ?_;dsimp only [go_sem];dsimp only [go_sem,UInt8.reduceOfNat,UInt32.reduceOfNat,Nat.reduceAdd];refine⟨bo,0,rfl,q,G.c,λJ=>⟨bh,0,rfl,_,G.h,f,[],rfl,V.1,V.2 W ⟨bo,0,rfl,⟨⟨_,G.c⟩,G.fr⟩,λw' H=>?_⟩⟩,λJ=>⟨bo,0,rfl,⟨⟨_,G.c⟩,G.fr⟩,λw' H=>?_⟩⟩
 ·subst H;refine hR _ (Kr.set w 0 _) ?_;rw [J,Oh];exact G.set _
 ·subst H;refine hR _ (Kr.set w 0 _) ?_;rw [J,PN];exact G.set _
theorem Kt {f:Nat}{p:P->Bool}(hp:z7 f p):∀(n:Nat) {D:Nat->Prop} {t:P} {v:Value} {w:World} {bo bh:Nat} {q:Bool},t.size<=n->aK D w t v->(∀g,D g->¬g=bo)->wL w bo bh f q->∀{R:PV},
  (∀w',Kr bo w w'->wL w' bo bh f (q&&t.ev p)->R w')->PW 169 #[v,.func (.func 170) #[] #[ptr bo,ptr bh]] w (aw [] R):=by
 intro n
 induction n with
 | zero=>intro D t v w _ _ _ h;have :=aY t;omega
 | succ n ih=>
  intro D t v w bo bh q hn ht V hs R hR;refine nR v _ w R ?_;dsimp only [go_sem];dsimp only [go_sem,UInt8.reduceOfNat,UInt32.reduceOfNat,Nat.reduceAdd];refine⟨170,[ptr bo,ptr bh],rfl,by kernel_rfl,?_⟩;refine Kl hp ht hs λw1 k1 h1=>?_
  have W:=aK.kp k1 V ht;obtain⟨b,vs,l,rfl,g1,g2,g3,g4,g5,g6,g7,g8⟩:=W.inv;obtain⟨a,cap,hv⟩:=g7.slice;have e:=tu t;refine⟨b,0,rfl,vs,g6,a,_,cap,hv,λx w'=>∃i:Nat,x=i/\i<=l.length/\Kr bo w w'/\Kr bo w1 w'/\wL w' bo bh f ((q&&p t)&&(t.parts.take i).all (·.ev p)),λx _=>(l.length - x).toNat,⟨0,rfl,by omega,k1,Kr.refl _ _,by simpa using h1⟩,λx w2 hI=>?_⟩;obtain⟨i,rfl,hi,k2,Z,h2⟩:=hI;refine⟨λJ=>?_,λJ=>?_⟩
  ·have J:=MN J;have G:i< l.length:=by omega
   have H:i< t.parts.length:=by rw [<-g8.1];exact G
   refine(g7.kp Z V).get (i:=i) (x:=l[i]) (by omega) (by simp [G]) ?_;have hk:=g8.2 i _ _ (Mo G) (Mo H);have hk:=aK.kp Z V hk;obtain⟨α,β⟩:=vS T.size t.parts H;have γ:=dN t;refine ih (by omega) hk V h2 λw4 k4 h4=>⟨by omega,⟨i+1,by omega,by omega,Kr.trans k2 k4,Kr.trans Z k4,?_⟩,by dsimp only;omega⟩
   rw [Mq H,O6,<-PO];simpa using h4
  ·have J:=MO J;have:i=t.parts.length:=by rw [<-g8.1];omega
   subst this;rw [MR,PO,<-se]at h2;exact hR _ k2 h2
theorem Jh {f:Nat}{p:P->Bool}(hp:z7 f p){D:Nat->Prop}{t:P}{v:Value}{w:World}(ht:aK D w t v)(hD:∀g,D g->g< w.heap.size){R:Bool->PV}(hR:∀w',Ex w w'->R (t.ev p) w'):
  PW 126 #[v,.func (.func f) #[] #[]] w (aw [.b] R):=by
 refine pJ v _ w R ?_;dsimp only [go_sem];dsimp only [go_sem,UInt8.reduceOfNat,UInt32.reduceOfNat,Nat.reduceAdd];refine⟨rfl,λb1 w1 W H b2 w2 J G=>?_⟩;have x1:Ex w w1:=H▸Ex.alloc w _;have Z:Ex w1 w2:=G▸Ex.alloc w1 _;have s1:w1.heap.size=w.heap.size+1:=by rw [H,size_alloc]
 have s2:w2.heap.size=w1.heap.size+1:=by rw [G,size_alloc]
 have c2:w2.cell? ⟨b2,0,none⟩=some (.bool false):=by rw [G,J];exact aa rfl
 have f2:w2.frozen? ⟨b2,0,none⟩=false:=by rw [G,J];unfold World.frozen? World.alloc;simp
 have c1:w2.cell? ⟨b1,0,none⟩=some (.func (.func f) #[] #[]):=by
  rw [Z.cell (show b1< _ by omega),H,W];exact aa rfl
 have hA:wL w2 b2 b1 f false:=⟨by omega,by omega,by omega,c2,f2,c1⟩
 refine⟨⟨⟨_,c2⟩,f2⟩,λw3 α=>?_⟩;subst α;have β:aK D w2 t v:=aK.kp (Kp.ah (Ex.trans x1 Z) λ _=>False) (λ _ _ h=>h) ht;have V:∀g,D g->¬g=b2:=λg hg e=>by have :=hD g hg;omega
 have γ:aK D (w2.setCell ⟨b2,0,none⟩ (.bool true)) t v:=aK.kp (Kr.set w2 0 _) V β;refine Kt hp t.size (Mu _) γ V (hA.set true) λw4 k4 h4=>⟨_,h4.c,?_⟩
 rw [Oh];exact hR w4 (Ex.below (Ex.trans x1 Z) (Kp.below (B:=w.heap.size) (Kr.trans (Kr.set w2 0 _) k4) (by omega) λg hg e=>by omega))
def T.gd1:P->Bool
 | .sum p q=>p.gp&&q.gp
 | _=>true
def T.rp1:P->Bool
 | .rep p=>p.isR
 | _=>true
theorem dW:∀t:P,t.smp=(t.ev T.gd1&&t.ev T.rp1)
 | .nil=>rfl
 | .snd _ _ p=>by have :=dW p;simp [T.smp,T.ev,T.gd1,T.rp1,this]
 | .rcv _ _ p=>by have :=dW p;simp [T.smp,T.ev,T.gd1,T.rp1,this]
 | .tau p=>by have :=dW p;simp [T.smp,T.ev,T.gd1,T.rp1,this]
 | .res _ p=>by have :=dW p;simp [T.smp,T.ev,T.gd1,T.rp1,this]
 | .mat _ _ p=>by have :=dW p;simp [T.smp,T.ev,T.gd1,T.rp1,this]
 | .rep p=>by have :=dW p;simp only [T.smp,T.ev,T.gd1,T.rp1,this,Oh];cases p.isR<;>simp
 | .par p q=>by have :=dW p;have h:=dW q;simp only [T.smp,T.ev,T.gd1,T.rp1,this,h,Oh];ac_rfl
 | .sum p q=>by have :=dW p;have h:=dW q;simp only [T.smp,T.ev,T.gd1,T.rp1,this,h,Oh];ac_rfl
theorem FA (t:P):decide (0<=Lib.indexByte [33,63,126,43,48] t.kind)=t.gp:=by cases t<;>rfl
theorem A7:z7 167 T.gd1:=by
 refine⟨by kernel_rfl,λ{D t v w R} J hR=>?_⟩;refine jq v w R ?_;dsimp only [go_sem];dsimp only [go_sem,UInt8.reduceOfNat,UInt32.reduceOfNat,Nat.reduceAdd];obtain⟨b,vs,l,rfl,g1,g2,g3,g4,g5,g6,g7,g8⟩:=J.inv;refine⟨b,0,rfl,_,g3,λH=>?_,λH=>?_⟩
 ·obtain⟨p,q,rfl⟩:∃p q,t= .sum p q:=by cases t<;>simp [T.kind]at H|-
  have V:l.length=2:=g8.1;obtain⟨x,y,rfl⟩:∃x y,l=[x,y]:=by
   match l,V with
   | [x,y],_=>exact⟨x,y,rfl⟩
  have W:=g8.2 0 x p rfl rfl;have Z:=g8.2 1 y q rfl rfl;obtain⟨b1,_,_,e1,_,_,i1,_⟩:=W.inv;obtain⟨b2,_,_,e2,_,_,i2,_⟩:=Z.inv;refine⟨b,0,rfl,vs,g6,g7.get (i:=0) (x:=x) (by omega) rfl ⟨b1,0,e1,_,i1,qd ⟨λG=>⟨b,0,rfl,vs,g6,g7.get (i:=1) (x:=y) (by omega) rfl ⟨b2,0,e2,_,i2,qd ?_⟩⟩,λG=>?_⟩⟩⟩
  ·rw [FA]at G|-;rw [T.gd1,G]at hR;exact hR
  ·rw [FA]at G;rw [T.gd1,G]at hR;exact hR
 ·have:T.gd1 t=true:=by cases t<;>first | rfl | simp [T.kind]at H
  rw [this]at hR;exact hR
theorem DV:z7 127 T.rp1:=by
 refine⟨by kernel_rfl,λ{D t v w R} H hR=>?_⟩;refine jV v w R ?_;dsimp only [go_sem];dsimp only [go_sem,UInt8.reduceOfNat,UInt32.reduceOfNat,Nat.reduceAdd];obtain⟨b,vs,l,rfl,g1,g2,g3,g4,g5,g6,g7,g8⟩:=H.inv;refine⟨b,0,rfl,_,g3,λG=>?_,λG=>?_⟩
 ·obtain⟨p,rfl⟩:∃p,t= .rep p:=by cases t<;>simp [T.kind]at G|-
  have J:l.length=1:=g8.1;obtain⟨x,rfl⟩:∃x,l=[x]:=by
   match l,J with
   | [x],_=>exact⟨x,rfl⟩
  have V:=g8.2 0 x p rfl rfl;obtain⟨b1,_,_,W,_,_,i1,_⟩:=V.inv;refine⟨b,0,rfl,vs,g6,g7.get (i:=0) (x:=x) (by omega) rfl ⟨b1,0,W,_,i1,?_⟩⟩;have:decide (p.kind=63)=p.isR:=by cases p<;>rfl
  show R (decide (p.kind=63)) _;rw [this];exact hR
 ·have:T.rp1 t=true:=by cases t<;>first | rfl | simp [T.kind]at G
  rw [this]at hR;exact hR
theorem FC {D:Nat->Prop}{t:P}{v:Value}{w:World}(J:aK D w t v)(V:∀g,D g->g< w.heap.size){R:Bool->PV}(hR:∀w',Ex w w'->R t.smp w'):
  PW 80 #[v] w (aw [.b] R):=by
 refine mh v w R ?_;dsimp only [go_sem];dsimp only [go_sem,UInt8.reduceOfNat,UInt32.reduceOfNat,Nat.reduceAdd];refine kz v w _ ?_;dsimp only [go_sem];dsimp only [go_sem,UInt8.reduceOfNat,UInt32.reduceOfNat,Nat.reduceAdd];refine Jh A7 J V λw1 G=>⟨λH=>?_,λH=>?_⟩
 ·refine Jh DV (aK.kp (Kp.ah G λ _=>False) (λ _ _ h=>h) J) (λg W=>by have :=V g W;have :=G.size;omega) λw2 Z=>?_
  have :=hR w2 (Ex.trans G Z);rw [dW,H,Oh]at this;exact this
 ·have :=hR w1 G;rw [dW,H,PN]at this;exact this
theorem aK.bound {D:Nat->Prop}{w:World}:∀{t:P} {v:Value},aK D w t v->aK (λg=>D g/\g< w.heap.size) w t v:=by
 have key:∀{v:Value} {k a c:UInt8} {K Z:List Value->Prop},eQ D w v k a c K->(∀l,K l->Z l)->eQ (λg=>D g/\g< w.heap.size) w v k a c Z:=by
  rintro v k a c K Z ⟨b,vs,l,G,H,W,h4,h5,h6,h7,h8,h9⟩ hK
  refine⟨b,vs,l,G,⟨H,W⟩,W,h4,h5,h6,h7,?_,hK l h9⟩;rcases h8 with h | ⟨b',off,cap,i1,i2,i3,i4⟩
  ·exact .inl h
  ·exact .inr ⟨b',off,cap,i1,⟨i2,i3⟩,i3,i4⟩
 intro t
 induction t with
 | nil=>exact λh=>key h λ _ h=>h
 | snd _ _ p J=>exact λh=>key h λ _ ⟨x,G,H⟩=>⟨x,G,J H⟩
 | rcv _ _ p J=>exact λh=>key h λ _ ⟨x,G,H⟩=>⟨x,G,J H⟩
 | tau p J=>exact λh=>key h λ _ ⟨x,G,H⟩=>⟨x,G,J H⟩
 | res _ p J=>exact λh=>key h λ _ ⟨x,G,H⟩=>⟨x,G,J H⟩
 | mat _ _ p J=>exact λh=>key h λ _ ⟨x,G,H⟩=>⟨x,G,J H⟩
 | rep p J=>exact λh=>key h λ _ ⟨x,G,H⟩=>⟨x,G,J H⟩
 | sum p q J V=>exact λh=>key h λ _ ⟨x,y,G,H,W⟩=>⟨x,y,G,J H,V W⟩
 | par p q J V=>exact λh=>key h λ _ ⟨x,y,G,H,W⟩=>⟨x,y,G,J H,V W⟩
end Go.Proofs.YtdecokaadekjnaaGreat
namespace Go.Proofs.YtdecokaadekjnaaGreat
open Go
attribute [go_sem] Tryz.f138
theorem n9 (w:World)(R:Value->PV)(h:vc ay (a6 [(3,[(4,.i)])] [] []) (ab Tryz.f138) (ai 0 []) w (fin ay [.agg 0 150] R)):
  PW 138 #[] w (aw [.v] R):=
 bc Tryz.func138 (by kernel_rfl) h
attribute [go_sem] Tryz.f178
theorem ky (G:Value)(w:World)(R:Int->PV)(h:vc ay (a6 [] [] []) (ab Tryz.f178) (ai 0 [.v G]) w (fin ay [.tmp 2 .i] R)):
  PW 178 #[G] w (aw [.i] R):=
 bc Tryz.func178 (by kernel_rfl) h
attribute [go_sem] Tryz.f179
theorem kB (G:Value)(H:Value)(w:World)(R:PV)(h:vc ay (a6 [] [] [(0,true,.lt 0 (.lt 1 (.lt 2 (.lt 3 (.lt 4 (.lt 5 (.lt 6 (.lt 7 (.lt 8 (.lt 9 (.lt 11 (.lt 12 (.lt 13 (.lt 14 (.lt 15 (.lt 16 (.lt 17 (.lt 18 (.one .g 10 (.one .g 19 (.lt 20 (.lt 21 (.one .n 22 (.lt 23 (.lt 24 (.one .n 25 .done))))))))))))))))))))))))))]) (ab Tryz.f179) (ai 0 [.v G,.v H]) w (fin ay [] R)):
  PW 179 #[G,H] w (aw [] R):=
 bc Tryz.func179 (by kernel_rfl) h
attribute [go_sem] Tryz.f137
theorem oQ (G:Value)(t2:Value)(H:Value)(w:World)(R:Value->PV)(h:vc ay (a6 [] [(4,[]),(6,[]),(8,[]),(23,[])] [(5,true,.lt 0 (.lt 1 (.lt 2 (.lt 3 (.lt 4 (.lt 5 (.one .g 6 (.lt 7 (.one .n 8 .done))))))))),(10,true,.lt 0 (.lt 1 (.lt 2 (.lt 3 (.lt 4 (.lt 5 (.lt 6 (.lt 7 (.lt 8 (.one .g 9 (.lt 10 (.lt 11 (.one .n 12 .done))))))))))))),(14,true,.lt 0 (.lt 1 (.lt 2 (.lt 3 (.lt 4 (.lt 5 (.lt 6 (.lt 7 (.lt 8 (.one .g 9 (.one .g 10 .done))))))))))),(15,true,.lt 0 (.lt 1 (.lt 2 (.lt 3 (.lt 4 (.lt 5 (.lt 6 (.lt 7 (.lt 8 (.one .g 9 (.one .g 10 .done))))))))))),(19,true,.lt 0 (.lt 1 (.lt 2 (.lt 3 (.lt 4 (.lt 5 (.lt 6 (.lt 7 (.lt 8 (.one .g 9 (.one .g 10 .done))))))))))),(22,true,.lt 0 (.lt 1 (.lt 2 (.lt 3 (.lt 4 (.lt 5 (.lt 6 (.lt 7 (.lt 8 (.lt 10 (.lt 11 (.lt 12 (.lt 13 (.lt 14 (.lt 15 (.lt 16 (.lt 17 (.one .g 9 (.one .g 18 (.one .g 19 (.lt 20 (.lt 21 (.one .n 22 .done)))))))))))))))))))))))]) (ab Tryz.f137) (ai 0 [.v G,.v t2,.v H]) w (fin ay [.tmp 6 .v] R)):
  PW 137 #[G,t2,H] w (aw [.v] R):=
 bc Tryz.func137 (by kernel_rfl) h
end Go.Proofs.YtdecokaadekjnaaGreat
namespace Go.Proofs.YtdecokaadekjnaaGreat
open Go Go.RowKit
abbrev iv (n:Nat):Value:= .int .i64 n
def K.byte:K->UInt8
 | .s=>33 | .r=>63 | .t=>126 | .m=>61 | .p=>42
theorem dV.sub {D E:Nat->Prop}{w:World}{v:Value}{l:List Value}(h:dV D w v l)(hd:∀g,g< w.heap.size->D g->E g):dV E w v l:=by
 rcases h with h | ⟨b,off,cap,H,J,G,h4⟩
 ·exact .inl h
 ·exact .inr ⟨b,off,cap,H,hd b G J,G,h4⟩
def fK (D:Nat->Prop)(w:World)(v:Value)(o:List Nat)(K:List Value->Prop):Prop:=
 ∃b vo vt ts,v=ptr b/\D b/\b< w.heap.size/\w.cell? ⟨b,0,none⟩=some vo/\w.cell? ⟨b,1,none⟩=some vt/\dV D w vo (o.map iv)/\dV D w vt ts/\K ts
def Ha (D:Nat->Prop)(w:World)(v:Value)(k:UInt8)(a b:Nat)(vr vp:Value):Prop:=
 ∃g,v=ptr g/\D g/\g< w.heap.size/\w.cell? ⟨g,0,none⟩=some (.int .u8 k.toNat)/\w.cell? ⟨g,1,none⟩=some (iv a)/\w.cell? ⟨g,2,none⟩=some (iv b)/\w.cell? ⟨g,3,none⟩=some vr/\w.cell? ⟨g,4,none⟩=some vp
def af (D:Nat->Prop)(w:World):Lv->List Value->Prop
 | .nil,ts=>ts=[]
 | .thr k a b o r n,ts=>∃t G a' H vr,ts=t::G/\Ha D w t k.byte a' H vr (.slice none 0 0)/\(k= .t\/k= .p\/(a'=a/\H=b))/\fK D w vr o (af D w r)/\af D w n G
 | .sum ps n,ts=>∃t G a' H vp us,ts=t::G/\Ha D w t 43 a' H (.pointer none) vp/\dV D w vp us/\af D w ps us/\af D w n G
 | .part o q n,ts=>∃v G,ts=v::G/\fK D w v o (af D w q)/\af D w n G
def az (D:Nat->Prop)(w:World)(L:List Nat×Lv)(v:Value):Prop:=fK D w v L.1 (af D w L.2)
section
variable {D E S:Nat->Prop} {w w':World}
theorem fK.kp {v:Value}{o:List Nat}{K H:List Value->Prop}(h:fK D w v o K)(k:Kp w w' S)(G:∀g,D g->¬S g)(W:∀l,K l->H l):fK D w' v o H:=by
 obtain⟨b,vo,vt,ts,Z,J,V,h4,h5,h6,h7,h8⟩:=h;have hb:=k.block b V (G b J);refine⟨b,vo,vt,ts,Z,J,MP V k.size,?_,?_,h6.kp k G,h7.kp k G,W _ h8⟩<;>rw [Mn (w:=w) hb]<;>assumption
theorem fK.sub {v:Value}{o:List Nat}{K G:List Value->Prop}(h:fK D w v o K)(hd:∀g,g< w.heap.size->D g->E g)(J:∀l,K l->G l):fK E w v o G:=by
 obtain⟨b,vo,vt,ts,V,W,H,h4,h5,Z,h7,h8⟩:=h;exact⟨b,vo,vt,ts,V,hd b H W,H,h4,h5,Z.sub hd,h7.sub hd,J _ h8⟩
theorem Ha.kp {v:Value}{k:UInt8}{a b:Nat}{vr vp:Value}(h:Ha D w v k a b vr vp)(kp:Kp w w' S)(J:∀g,D g->¬S g):Ha D w' v k a b vr vp:=by
 obtain⟨g,V,G,H,h4,h5,W,Z,h8⟩:=h;have hb:=kp.block g H (J g G);refine⟨g,V,G,MP H kp.size,?_,?_,?_,?_,?_⟩<;>rw [Mn (w:=w) hb]<;>assumption
theorem Ha.sub {v:Value}{k:UInt8}{a b:Nat}{vr vp:Value}(h:Ha D w v k a b vr vp)(hd:∀g,g< w.heap.size->D g->E g):Ha E w v k a b vr vp:=by
 obtain⟨g,H,J,G,h4,h5,V,W,Z⟩:=h;exact⟨g,H,hd g G J,G,h4,h5,V,W,Z⟩
theorem af.kp (k:Kp w w' S)(G:∀g,D g->¬S g):∀{l:Lv} {ts:List Value},af D w l ts->af D w' l ts
 | .nil,_,h=>h
 | .thr _ _ _ _ r n,_,⟨t,H,a',Z,vr,J,V,W,h4,h5⟩=>⟨t,H,a',Z,vr,J,V.kp k G,W,h4.kp k G λ _ h=>af.kp k G (l:=r) h,af.kp k G (l:=n) h5⟩
 | .sum ps n,_,⟨t,H,a',Z,vp,us,J,V,W,h4,h5⟩=>⟨t,H,a',Z,vp,us,J,V.kp k G,W.kp k G,af.kp k G (l:=ps) h4,af.kp k G (l:=n) h5⟩
 | .part o q n,_,⟨v,H,J,V,W⟩=>⟨v,H,J,V.kp k G λ _ h=>af.kp k G (l:=q) h,af.kp k G (l:=n) W⟩
theorem af.sub (hd:∀g,g< w.heap.size->D g->E g):∀{l:Lv} {ts:List Value},af D w l ts->af E w l ts
 | .nil,_,h=>h
 | .thr _ _ _ _ r n,_,⟨t,G,a',W,vr,H,J,V,h4,h5⟩=>⟨t,G,a',W,vr,H,J.sub hd,V,h4.sub hd λ _ h=>af.sub hd (l:=r) h,af.sub hd (l:=n) h5⟩
 | .sum ps n,_,⟨t,G,a',W,vp,us,H,J,V,h4,h5⟩=>⟨t,G,a',W,vp,us,H,J.sub hd,V.sub hd,af.sub hd (l:=ps) h4,af.sub hd (l:=n) h5⟩
 | .part o q n,_,⟨v,G,H,J,V⟩=>⟨v,G,H,J.sub hd λ _ h=>af.sub hd (l:=q) h,af.sub hd (l:=n) V⟩
theorem az.kp {L:List Nat×Lv}{v:Value}(h:az D w L v)(k:Kp w w' S)(G:∀g,D g->¬S g):az D w' L v:=fK.kp h k G λ _ h=>af.kp k G h
theorem az.sub {L:List Nat×Lv}{v:Value}(h:az D w L v)(hd:∀g,g< w.heap.size->D g->E g):az E w L v:=fK.sub h hd λ _ h=>af.sub hd h
theorem az.ex {L:List Nat×Lv}{v:Value}(h:az D w L v)(x:Ex w w'):az D w' L v:=h.kp (Kp.ah x λ _=>False) λ _ _ h=>h
theorem af.ex {l:Lv}{ts:List Value}(h:af D w l ts)(x:Ex w w'):af D w' l ts:=af.kp (Kp.ah x λ _=>False) (λ _ _ h=>h) h
theorem af.app:∀{l m:Lv} {ts us:List Value},af D w l ts->af D w m us->af D w (l.app m) (ts++us)
 | .nil,_,_,_,h,H=>by cases h;exact H
 | .thr _ _ _ _ r n,_,_,_,⟨t,G,a',Z,vr,J,V,W,h4,h5⟩,H=>⟨t,G++_,a',Z,vr,by rw [J];rfl,V,W,h4,af.app (l:=n) h5 H⟩
 | .sum ps n,_,_,_,⟨t,G,a',Z,vp,us,J,V,W,h4,h5⟩,H=>⟨t,G++_,a',Z,vp,us,by rw [J];rfl,V,W,h4,af.app (l:=n) h5 H⟩
 | .part o q n,_,_,_,⟨v,G,J,V,W⟩,H=>⟨v,G++_,by rw [J];rfl,V,af.app (l:=n) W H⟩
theorem af.len:∀{l:Lv} {ts:List Value},af D w l ts->ts.length=l.len
 | .nil,_,h=>by cases h;rfl
 | .thr _ _ _ _ r n,_,⟨t,G,a',W,vr,H,V,J,h4,h5⟩=>by rw [H,Mm,af.len (l:=n) h5,Lv.len]
 | .sum ps n,_,⟨t,G,a',W,vp,us,H,V,J,h4,h5⟩=>by rw [H,Mm,af.len (l:=n) h5,Lv.len]
 | .part o q n,_,⟨v,G,H,V,J⟩=>by rw [H,Mm,af.len (l:=n) J,Lv.len]
end
def aM (e:Nat)(B:Nat)(w:World)(v:Value)(l:List Value):Prop:=w.ownsRow B e 1 v l.length l
theorem aM.nil (e B:Nat)(w:World):aM e B w (.slice none 0 0) []:=Pt _ _ _ _
theorem aM.block {e B:Nat}{w:World}{v:Value}{l:List Value}(h:aM e B w v l):∀b,v.ownBlock=some b->B<=b/\b< w.heap.size:=PD h
theorem aM.mono {e B G:Nat}{w:World}{v:Value}{l:List Value}(h:aM e B w v l)(hb:G<=B):aM e G w v l:=PI h hb
theorem aM.kp {e B:Nat}{w w':World}{S:Nat->Prop}{v:Value}{l:List Value}(h:aM e B w v l)(k:Kp w w' S)(H:∀g,v.ownBlock=some g->¬S g):aM e B w' v l:=by
 refine⟨h.1,?_⟩;rcases h.2 with J | ⟨g,cap,cur,rfl,hb,G,rest⟩
 ·exact .inl J
 ·exact .inr ⟨g,cap,cur,rfl,hb,by rw [k.block g (Na.1 G).1 (H g rfl)];exact G,rest⟩
theorem aM.Dv {e B:Nat}{w:World}{v:Value}{l:List Value}(h:aM e B w v l){D:Nat->Prop}(J:∀g,v.ownBlock=some g->D g):dV D w v l:=by
 rcases h.2 with⟨rfl,V⟩ | ⟨g,cap,cur,rfl,hb,G,W,Z,h3,h4⟩
 ·exact .inl ⟨rfl,MS V⟩
 ·refine .inr ⟨g,0,cap,rfl,J g rfl,(Na.1 G).1,λi x H=>?_⟩;unfold World.cell?;simp only [G,MX];have e:=Nz (λl=>l[i]?) h4;obtain⟨hi,_⟩:=No.1 H;simp only [MW,O1,hi,Ol,H]at e;rw [<-N0];exact e
theorem aM.one {e:Nat}{w w':World}{B b:Nat}{x:Value}(hB:B<=w.heap.size)(hb:b=w.heap.size)(h:w'=w.alloc (.cells #[x] e)):aM e B w' (.slice (some ⟨b,0,none⟩) 1 1) [x]:=by
 subst hb h;refine⟨rfl,.inr ⟨_,1,#[x],rfl,hB,?_,by simp,by unfold maxLen;omega,rfl,rfl⟩⟩;unfold World.alloc;simp
theorem aM.push {e B by_:Nat}{w:World}{v:Value}{l:List Value}(h:aM e B w v l)(hB:B<=w.heap.size){D:Nat->Prop}{x:Value}{m:List Value}(H:dV D w x m)(hm:m.all aB=true)(G:by_<=16)(J:l.length+m.length<=1099511627776){K:Value->PV}
  (V:∀v' w',aM e B w' v' (l++m)->w.grownBy w' v.ownBlock->(∀b,v'.ownBlock=some b->v.ownBlock=some b\/w.heap.size<=b)->K v' w'):
  ∃(base n k:Nat) (xs news:List Value),World.ownsRow w base e 1 v n xs/\base<=Array.size (World.heap w)/\dI w x k 1 news/\(n+k<=maxLen/\(n+k)* by_<=140737488355328)/\
   ∀(v':Value) (w':World),World.ownsRow w' base e 1 v' (n+k) (xs++news)->World.grownBy w w' (Value.ownBlock v)->(∀b:Nat,Value.ownBlock v'=some b->Value.ownBlock v=some b\/Array.size (World.heap w)<=b)->K v' w':=by
 refine⟨B,l.length,m.length,l,m,h,hB,?_,⟨by unfold maxLen;omega,?_⟩,λv' w' W Z hw=>V v' w' ?_ Z hw⟩
 ·refine⟨by simp,hm,?_⟩;rcases H with⟨rfl,rfl⟩ | ⟨b,off,cap,rfl,_,hb,hc⟩
  ·exact .inl ⟨rfl,rfl⟩
  ·exact .inr ⟨b,off,cap,rfl,hc⟩
 ·have:(l.length+m.length)* by_<=1099511627776* 16:=PM J G;omega
 ·unfold aM;rw [Mt];exact W
theorem Kp.aQ {w w':World}{row:Option Nat}{S:Nat->Prop}(G:w.grownBy w' row)(hr:∀g,row=some g->S g):Kp w w' S:=
 ⟨G.os,G.tape,G.output,G.size,λg H J=>G.block g H λe=>J (hr g e.symm)⟩
theorem Kp.mono {w w':World}{S T:Nat->Prop}(G:∀g,S g->T g)(h:Kp w w' S):Kp w w' T:=⟨h.os,h.tape,h.output,h.size,λg H J=>h.block g H λe=>J (G g e)⟩
structure jO (B:Nat)(w:World)(b:Nat)(o:List Nat)(ts:List Value)(M:Nat->Prop):Prop where
 lt:b< w.heap.size
 le:B<=b
 mb:M b
 mr:∀g,M g->B<=g/\g< w.heap.size
 fr:∀j,w.frozen? ⟨b,j,none⟩=false
 sl:∃vo vt,w.cell? ⟨b,0,none⟩=some vo/\w.cell? ⟨b,1,none⟩=some vt/\aM 3 B w vo (o.map iv)/\aM 156 B w vt ts/\(∀g,vo.ownBlock=some g->M g/\g≠b)/\(∀g,vt.ownBlock=some g->M g/\g≠b)/\∀g,vo.ownBlock=some g->vt.ownBlock≠some g
theorem jO.kp {B:Nat}{w w':World}{b:Nat}{o:List Nat}{ts:List Value}{M S:Nat->Prop}(h:jO B w b o ts M)(k:Kp w w' S)(H:∀g,M g->¬S g):jO B w' b o ts M:=by
 obtain⟨V,Z,W,hr,h4,vo,vt,h5,h6,h7,h8,h9,h10,J⟩:=h;have hb:=k.block b V (H b W);refine⟨MP V k.size,Z,W,λg G=>⟨(hr g G).1,MP (hr g G).2 k.size⟩,λj=>by rw [MU (w:=w) hb];exact h4 j,vo,vt,?_,?_,h7.kp k λg G=>H g (h9 g G).1,h8.kp k λg G=>H g (h10 g G).1,h9,h10,J⟩<;>rw [Mn (w:=w) hb]<;>assumption
theorem jO.ex {B:Nat}{w w':World}{b:Nat}{o:List Nat}{ts:List Value}{M:Nat->Prop}(h:jO B w b o ts M)(x:Ex w w'):jO B w' b o ts M:=h.kp (Kp.ah x λ _=>False) λ _ _ h=>h
theorem jO.Ln {B:Nat}{w:World}{b:Nat}{o:List Nat}{ts:List Value}{M D:Nat->Prop}(h:jO B w b o ts M)(H:∀g,g< w.heap.size->B<=g->D g){K:List Value->Prop}(Z:K ts):fK D w (ptr b) o K:=by
 obtain⟨W,h2,h3,hr,h4,vo,vt,h5,h6,J,V,h9,h10,α⟩:=h;exact⟨b,vo,vt,ts,rfl,H b W h2,W,h5,h6,J.Dv λg G=>H g (J.block g G).2 (J.block g G).1,V.Dv λg G=>H g (V.block g G).2 (V.block g G).1,Z⟩
theorem EM (o:List Nat):(o.map iv).all aB=true:=by simp [aB]
theorem af.all {D:Nat->Prop}{w:World}:∀{l:Lv} {ts:List Value},af D w l ts->ts.all aB=true
 | .nil,_,h=>by cases h;rfl
 | .thr _ _ _ _ r n,_,⟨t,G,a',V,vr,H,⟨g,e,_⟩,J,h4,h5⟩=>by rw [H,ND,af.all (l:=n) h5,e];rfl
 | .sum ps n,_,⟨t,G,a',V,vp,us,H,⟨g,e,_⟩,J,h4,h5⟩=>by rw [H,ND,af.all (l:=n) h5,e];rfl
 | .part o q n,_,⟨v,G,H,⟨g,_,_,_,e,_⟩,J⟩=>by rw [H,ND,af.all (l:=n) J,e];rfl
theorem tc {B:Nat}{w:World}{b:Nat}{o:List Nat}{ts:List Value}{M:Nat->Prop}(h:jO B w b o ts M)(hB:B<=w.heap.size){D:Nat->Prop}{v:Value}{o2:List Nat}{W:List Value}(h2:fK D w v o2 λl=>l=W)(ς:W.all aB=true)
  (hM:∀g,D g->¬M g) (hl:o.length+o2.length<=1099511627776/\ts.length+W.length<=1099511627776) {R:PV}
  (hR:∀w' M',Kp w w' M->jO B w' b (o++o2) (ts++W) M'->(∀g,M' g->M g\/w.heap.size<=g)->R w'):PW 179 #[ptr b,v] w (aw [] R):=by
 refine kB _ v w R ?_;dsimp only [go_sem];dsimp only [go_sem,UInt8.reduceOfNat,UInt32.reduceOfNat,Nat.reduceAdd];obtain⟨b2,υ,φ,ts3,rfl,g1,g2,g3,g4,g5,g6,e3⟩:=h2;subst e3;obtain⟨h1,hle,h3,hr,h4,vo,vt,h5,h6,h7,h8,h9,h10,ε⟩:=h;have Z:¬M b2:=hM b2 g1;refine⟨λw'=>Kp w w' λg=>vo.ownBlock=some g\/vt.ownBlock=some g,λw1 ζ=>⟨ζ▸Kp.ah (Ex.drew w) _,b,0,rfl,vo,λw' k=>?_,b2,0,rfl,υ,λw' k=>?_,b,0,rfl,vt,λw' k=>?_,b2,0,rfl,φ,λw' k=>?_,?_⟩⟩
 ·rw [Mn (w:=w) (k.block b h1 λh=>h.elim (λe=>(h9 b e).2 rfl) λe=>(h10 b e).2 rfl)];exact h5
 ·rw [Mn (w:=w) (k.block b2 g2 λh=>h.elim (λe=>Z (h9 b2 e).1) λe=>Z (h10 b2 e).1)];exact g3
 ·rw [Mn (w:=w) (k.block b h1 λh=>h.elim (λe=>(h9 b e).2 rfl) λe=>(h10 b e).2 rfl)];exact h6
 ·rw [Mn (w:=w) (k.block b2 g2 λh=>h.elim (λe=>Z (h9 b2 e).1) λe=>Z (h10 b2 e).1)];exact g4
 have x1:Ex w w1:=ζ▸Ex.drew w;have k1:Kp w w1 λ _=>False:=Kp.ah x1 _
 have s1:w1.heap.size=w.heap.size:=by rw [ζ];rfl
 refine aM.push (h7.kp k1 λ _ _ h=>h) (by omega) (g5.kp k1 λ _ _ h=>h) (EM o2) (by omega) (by simp;exact hl.1) λJ w2 α χ ψ=>?_
 have k2:Kp w1 w2 λg=>vo.ownBlock=some g:=Kp.aQ χ λg h=>h
 have η:Kp w w2 λg=>vo.ownBlock=some g:=Kp.trans (Kp.ah x1 _) k2 λg _ h=>h
 refine⟨Kp.trans (Kp.ah x1 _) k2 λg _ h=> .inl h,?_⟩;have s2:=k2.size;have ω:=g6.kp η λg G e=>hM g G (h9 g e).1
 have h8':aM 156 B w2 vt ts:=h8.kp η λg G e=>ε g e G
 refine aM.push h8' (by omega) ω ς (by omega) hl.2 λV w3 θ hg3 hn3=>?_
 have k3:Kp w2 w3 λg=>vt.ownBlock=some g:=Kp.aQ hg3 λg h=>h
 have ι:Kp w w3 λg=>vo.ownBlock=some g\/vt.ownBlock=some g:=Kp.trans (Kp.mono (λg h=> .inl h) η) k3 λg _ h=> .inr h
 have s3:=k3.size;have hv1:aB J=true:=by
  rcases α.2 with⟨rfl,_⟩ | ⟨g,cap,cur,rfl,_⟩<;>rfl
 have hv2:aB V=true:=by
  rcases θ.2 with⟨rfl,_⟩ | ⟨g,cap,cur,rfl,_⟩<;>rfl
 have κ:=ι.block b h1 λh=>h.elim (λe=>(h9 b e).2 rfl) λe=>(h10 b e).2 rfl
 have c30:w3.cell? ⟨b,0,none⟩=some vo:=by rw [Mn (w:=w) κ];exact h5
 have ν:w3.cell? ⟨b,1,none⟩=some vt:=by rw [Mn (w:=w) κ];exact h6
 have f3:∀j,w3.frozen? ⟨b,j,none⟩=false:=λj=>by rw [MU (w:=w) κ];exact h4 j
 refine⟨ι,b,0,rfl,hv1,⟨⟨_,c30⟩,f3 0⟩,λw4 H=>⟨b,0,rfl,hv2,⟨⟨vt,?_⟩,?_⟩,λw5 β=>?_⟩⟩
 ·rw [H,Mr _ _ _ _ (by simp)];exact ν
 ·rw [H,MG];exact f3 1
 have γ:Kp w3 w5 λg=>g=b:=by
  rw [β,H];exact Kp.set (Kp.set (S:=λg=>g=b) (Kp.ah (Ex.refl w3) _) rfl _) rfl _
 have δ:∀g,J.ownBlock=some g->(vo.ownBlock=some g\/w.heap.size<=g):=λg G=>(ψ g G).elim .inl λh=> .inr (by omega)
 have μ:∀g,V.ownBlock=some g->(vt.ownBlock=some g\/w2.heap.size<=g):=λg G=>hn3 g G
 have ξ:∀g,J.ownBlock=some g->g≠b:=λg G=>(δ g G).elim (λe=>(h9 g e).2) λe=>by omega
 have ο:∀g,V.ownBlock=some g->g≠b:=λg G=>(μ g G).elim (λe=>(h10 g e).2) λe=>by omega
 have hot:∀g,J.ownBlock=some g->V.ownBlock≠some g:=λg G e=>by
  have hlt:=(α.block g G).2;rcases μ g e with e1 | e1
  ·rcases δ g G with e2 | e2
   ·exact ε g e2 e1
   ·have :=(h8.block g e1).2;omega
  ·omega
 have s5:=γ.size;refine hR w5 (λg=>M g\/(w.heap.size<=g/\g< w5.heap.size)) ?_ ⟨?_,hle,.inl h3,λg G=>?_,λj=>?_,J,V,?_,?_,?_,?_,λg G=>⟨?_,ξ g G⟩,λg G=>⟨?_,ο g G⟩,hot⟩ λg h=>h.elim .inl λh=> .inr h.1
 ·refine Kp.trans (Kp.mono (λg h=>h.elim (λe=>(h9 g e).1) λe=>(h10 g e).1) ι) γ λg _ e=>?_
  rw [e];exact h3
 ·omega
 ·rcases G with G | G
  ·have :=hr g G;omega
  ·omega
 ·rw [β,MG,H,MG];exact f3 j
 ·rw [β,Mr _ _ _ _ (by simp),H];exact MI _ _ _ c30
 ·rw [β];refine MI _ _ _ (u:=vt) ?_;rw [H,Mr _ _ _ _ (by simp)];exact ν
 ·rw [Nq];refine(α.kp k3 λg G e=>?_).kp γ ξ;rcases δ g G with e2 | e2
  ·exact ε g e2 e
  ·have :=(h8.block g e).2;omega
 ·exact θ.kp γ ο
 ·have :=(α.block g G).2;exact(δ g G).elim (λe=> .inl (h9 g e).1) λe=> .inr ⟨e,by omega⟩
 ·have :=(θ.block g G).2;exact(μ g G).elim (λe=> .inl (h10 g e).1) λe=> .inr ⟨by omega,by omega⟩
theorem gi {c:UInt8}(h:lt c=true):(c - 97:UInt8).toNat=c.toNat - 97:=by
 have :=bg h;rw [UInt8.toNat_sub_of_le]
 ·rfl
 ·exact ML.2 (by simpa using this.1)
structure Mk (w:World)(m n:Nat):Prop where
 lt:m< w.heap.size
 c:w.cell? ⟨m,0,none⟩=some (iv n)
 f:w.frozen? ⟨m,0,none⟩=false
theorem Mk.kp {w w':World}{m n:Nat}{S:Nat->Prop}(h:Mk w m n)(k:Kp w w' S)(G:¬S m):Mk w' m n:=by
 have hb:=k.block m h.lt G;exact⟨MP h.lt k.size,by rw [Mn (w:=w) hb];exact h.c,by rw [MU (w:=w) hb];exact h.f⟩
theorem Mk.ex {w w':World}{m n:Nat}(h:Mk w m n)(x:Ex w w'):Mk w' m n:=h.kp (Kp.ah x λ _=>False) λh=>h
structure Km (m:Nat)(w w':World):Prop where
 kp:Kr m w w'
 ce:∀j,j≠0->w'.cell? ⟨m,j,none⟩=w.cell? ⟨m,j,none⟩
 fz:∀j,w'.frozen? ⟨m,j,none⟩=w.frozen? ⟨m,j,none⟩
theorem Km.size {m:Nat}{w w':World}(h:Km m w w'):w.heap.size<=w'.heap.size:=h.kp.size
theorem Km.trans {m:Nat}{a b c:World}(h:Km m a b)(k:Km m b c):Km m a c:=⟨Kr.trans h.kp k.kp,λj G=>(k.ce j G).trans (h.ce j G),λj=>(k.fz j).trans (h.fz j)⟩
theorem Km.out {m:Nat}{w0 w w':World}{S:Nat->Prop}(h:Km m w0 w)(k:Kp w w' S)(H:∀g,g< w0.heap.size->¬S g)(hm:m< w0.heap.size):Km m w0 w':=by
 have e:=k.block m (MP hm h.kp.size) (H m hm);exact⟨Kp.trans h.kp k λg J G=>absurd G (H g J),λj V=>by rw [Mn (w:=w) e];exact h.ce j V,λj=>by rw [MU (w:=w) e];exact h.fz j⟩
theorem Km.refl (m:Nat)(w:World):Km m w w:=⟨Kr.refl m w,λ _ _=>rfl,λ _=>rfl⟩
theorem Km.ex {m:Nat}{w w':World}(h:Ex w w')(hm:m< w.heap.size):Km m w w':=(Km.refl m w).out (Kp.ah h λ _=>False) (λ _ _ h=>h) hm
theorem Km.set (m:Nat)(w:World)(v:Value):Km m w (w.setCell ⟨m,0,none⟩ v):=⟨Kr.set w 0 v,λj G=>Mr _ _ _ _ (λe=>by injection e with H J;omega),λj=>MG _ _ _ _⟩
theorem sY {w:World}{m n:Nat}(h:Mk w m n)(J:n<=1099511627776){R:Int->PV}(hR:∀w',Km m w w'->Mk w' m (n+1)->R ((n+101:Nat):Int) w'):PW 178 #[ptr m] w (aw [.i] R):=by
 refine ky _ w R ?_;dsimp only [go_sem];dsimp only [go_sem,UInt8.reduceOfNat,UInt32.reduceOfNat,Nat.reduceAdd];refine⟨m,0,rfl,n,h.c,by omega,m,0,rfl,⟨⟨_,h.c⟩,h.f⟩,λw1 G=>⟨m,0,rfl,(n:Int)+1,?_,by omega,?_⟩⟩
 ·rw [G];exact MI _ _ _ h.c
 ·have e:((n:Int)+1+100)=((n+101:Nat):Int):=by omega
  have H:((n:Int)+1)=((n+1:Nat):Int):=by omega
  rw [e];rw [H]at G;refine hR w1 (G▸Km.set m w _) ⟨?_,?_,?_⟩
  ·rw [G,M9];exact h.lt
  ·rw [G];exact MI _ _ _ h.c
  ·rw [G,MG];exact h.f
def Iw (cs:List Value)(e:UInt8->Nat):Prop:=cs.length=26/\∀c,lt c=true->cs[c.toNat - 97]?=some (iv (e c))
structure kZ (w:World)(b:Nat)(e:UInt8->Nat):Prop where
 hb:b< w.heap.size
 f:∀j,w.frozen? ⟨b,j,none⟩=false
 c:∃cs,Iw cs e/\∀j,j< 26->w.cell? ⟨b,0+j,none⟩=cs[j]?
theorem kZ.kp {w w':World}{b:Nat}{e:UInt8->Nat}{S:Nat->Prop}(h:kZ w b e)(k:Kp w w' S)(G:¬S b):kZ w' b e:=by
 have hb:=k.block b h.hb G;obtain⟨H,J,cs,V,h4⟩:=h;exact⟨MP H k.size,λj=>by rw [MU (w:=w) hb];exact J j,cs,V,λj W=>by rw [Mn (w:=w) hb];exact h4 j W⟩
theorem kZ.get {w:World}{b:Nat}{e:UInt8->Nat}(h:kZ w b e){c:UInt8}(G:lt c=true):w.cell? ⟨b,0+Int.toNat ((c - 97:UInt8).toNat:Int)* 1,none⟩=some (iv (e c)):=by
 obtain⟨J,V,cs,H,h4⟩:=h;have :=bg G;rw [gi G,MW,Mv,h4 _ (by omega)];exact H.2 c G
theorem kZ.set {w w':World}{b:Nat}{e:UInt8->Nat}(h:kZ w b e){c:UInt8}(J:lt c=true){n:Nat}(hw:w'=w.setCell ⟨b,0+Int.toNat ((c - 97:UInt8).toNat:Int)* 1,none⟩ (iv n)):kZ w' b (aI e c n):=by
 have V:=h.get J;obtain⟨Z,h2,cs,H,h4⟩:=h;have hl:=bg J;rw [gi J,MW,Mv]at hw V;refine⟨by rw [hw,M9];exact Z,λj=>by rw [hw,MG];exact h2 j,cs.set (c.toNat - 97) (iv n),⟨by rw [NU];exact H.1,λd hd=>?_⟩,λj hj=>?_⟩
 ·have α:=bg hd;rw [List.getElem?_set];by_cases G:d=c
  ·subst G;rw [MZ rfl,MZ (by rw [H.1];omega)];simp [aI]
  ·have W:¬c.toNat - 97=d.toNat - 97:=λW=>G (MQ.1 (by omega))
   rw [MJ W,H.2 d hd];simp [aI,G]
 ·rw [List.getElem?_set];by_cases G:c.toNat - 97=j
  ·subst G;rw [MZ rfl,MZ (by rw [H.1];omega),hw];exact MI _ _ _ V
  ·rw [MJ G,hw,Mr _ _ _ _ (by simp)];exact h4 j hj
structure jQ (w:World)(g:Nat)(k:UInt8)(a b:Nat)(vr vp:Value):Prop where
 lt:g< w.heap.size
 c0:w.cell? ⟨g,0,none⟩=some (.int .u8 k.toNat)
 c1:w.cell? ⟨g,1,none⟩=some (iv a)
 c2:w.cell? ⟨g,2,none⟩=some (iv b)
 c3:w.cell? ⟨g,3,none⟩=some vr
 c4:w.cell? ⟨g,4,none⟩=some vp
 f:∀j,w.frozen? ⟨g,j,none⟩=false
section
variable {w w':World} {g a b x:Nat} {k:UInt8} {vr vp v:Value} {S:Nat->Prop}
theorem jQ.kp (h:jQ w g k a b vr vp)(kp:Kp w w' S)(G:¬S g):jQ w' g k a b vr vp:=by
 have hb:=kp.block g h.lt G;refine⟨MP h.lt kp.size,?_,?_,?_,?_,?_,λj=>?_⟩
 ·rw [Mn (w:=w) hb];exact h.c0
 ·rw [Mn (w:=w) hb];exact h.c1
 ·rw [Mn (w:=w) hb];exact h.c2
 ·rw [Mn (w:=w) hb];exact h.c3
 ·rw [Mn (w:=w) hb];exact h.c4
 ·rw [MU (w:=w) hb];exact h.f j
theorem jQ.zV (h:jQ w g k a b vr vp)(hw:w'=w.setCell ⟨g,1,none⟩ (iv x)):jQ w' g k x b vr vp:=by
 subst hw;exact⟨by rw [M9];exact h.lt,by rw [Mr _ _ _ _ (by simp)];exact h.c0,MI _ _ _ h.c1,by rw [Mr _ _ _ _ (by simp)];exact h.c2,
  by rw [Mr _ _ _ _ (by simp)];exact h.c3,by rw [Mr _ _ _ _ (by simp)];exact h.c4,λj=>by rw [MG];exact h.f j⟩
theorem jQ.rJ (h:jQ w g k a b vr vp)(hw:w'=w.setCell ⟨g,2,none⟩ (iv x)):jQ w' g k a x vr vp:=by
 subst hw;exact⟨by rw [M9];exact h.lt,by rw [Mr _ _ _ _ (by simp)];exact h.c0,by rw [Mr _ _ _ _ (by simp)];exact h.c1,MI _ _ _ h.c2,
  by rw [Mr _ _ _ _ (by simp)];exact h.c3,by rw [Mr _ _ _ _ (by simp)];exact h.c4,λj=>by rw [MG];exact h.f j⟩
theorem jQ.DZ (h:jQ w g k a b vr vp)(hw:w'=w.setCell ⟨g,3,none⟩ v):jQ w' g k a b v vp:=by
 subst hw;exact⟨by rw [M9];exact h.lt,by rw [Mr _ _ _ _ (by simp)];exact h.c0,by rw [Mr _ _ _ _ (by simp)];exact h.c1,by rw [Mr _ _ _ _ (by simp)];exact h.c2,
  MI _ _ _ h.c3,by rw [Mr _ _ _ _ (by simp)];exact h.c4,λj=>by rw [MG];exact h.f j⟩
theorem jQ.Kh (h:jQ w g k a b vr vp)(hw:w'=w.setCell ⟨g,4,none⟩ v):jQ w' g k a b vr v:=by
 subst hw;exact⟨by rw [M9];exact h.lt,by rw [Mr _ _ _ _ (by simp)];exact h.c0,by rw [Mr _ _ _ _ (by simp)];exact h.c1,by rw [Mr _ _ _ _ (by simp)];exact h.c2,
  by rw [Mr _ _ _ _ (by simp)];exact h.c3,MI _ _ _ h.c4,λj=>by rw [MG];exact h.f j⟩
theorem jQ.new {e:Nat}(G:g=w.heap.size)(hw:w'=w.alloc (.cells #[.int .u8 k.toNat,iv a,iv b,vr,vp] e)):jQ w' g k a b vr vp:=by
 subst G hw;refine⟨by rw [size_alloc];omega,aa rfl,aa rfl,aa rfl,aa rfl,aa rfl,λj=>?_⟩;unfold World.frozen? World.alloc;simp
theorem jQ.KI (h:jQ w g k a b vr vp){D:Nat->Prop}(G:D g):Ha D w (ptr g) k a b vr vp:=⟨g,rfl,G,h.lt,h.c0,h.c1,h.c2,h.c3,h.c4⟩
end
structure RS (w0 w:World)(m n:Nat)(e:UInt8->Nat)(b5 b10:Nat)(k:UInt8)(a b:Nat):Prop where
 kp:Km m w0 w
 mc:Mk w m n
 hm:m< w0.heap.size
 env:kZ w b5 e
 h5:w0.heap.size<=b5
 h10:w0.heap.size<=b10
 ne:b5≠b10
 th:jQ w b10 k a b (.pointer none) (.slice none 0 0)
section
variable {w0 w w':World} {m n b5 b10 a b x:Nat} {e:UInt8->Nat} {k c:UInt8}
theorem RS.go (h:RS w0 w m n e b5 b10 k a b){n':Nat}(kr:Km m w w')(mk:Mk w' m n'):RS w0 w' m n' e b5 b10 k a b:=by
 have G:=h.hm;have H:=h.h5;have J:=h.h10;exact⟨Km.trans h.kp kr,mk,h.hm,h.env.kp kr.kp (by omega),h.h5,h.h10,h.ne,h.th.kp kr.kp (by omega)⟩
theorem RS.ex (h:RS w0 w m n e b5 b10 k a b)(G:Ex w w'):RS w0 w' m n e b5 b10 k a b:=h.go (Km.ex G h.mc.lt) (h.mc.ex G)
theorem RS.own (h:RS w0 w m n e b5 b10 k a b){S:Nat->Prop}(kp:Kp w w' S)(H:∀g,S g->w0.heap.size<=g/\g≠b5/\g≠b10):RS w0 w' m n e b5 b10 k a b:=by
 have J:=h.hm;refine⟨h.kp.out kp (λg V G=>(by have :=(H g G).1;omega)) J,h.mc.kp kp λG=>(by have :=(H m G).1;omega),h.hm,h.env.kp kp λG=>(H _ G).2.1 rfl,h.h5,h.h10,h.ne,h.th.kp kp λG=>(H _ G).2.2 rfl⟩
theorem RS.zV (h:RS w0 w m n e b5 b10 k a b)(hw:w'=w.setCell ⟨b10,1,none⟩ (iv x)):RS w0 w' m n e b5 b10 k x b:=by
 have G:=h.hm;have H:=h.h10;have kp:Kr b10 w w':=hw▸Kr.set w 1 _;exact⟨h.kp.out kp (λg J e=>(by omega)) G,h.mc.kp kp (by omega),h.hm,h.env.kp kp h.ne,h.h5,h.h10,h.ne,h.th.zV hw⟩
theorem RS.rJ (h:RS w0 w m n e b5 b10 k a b)(hw:w'=w.setCell ⟨b10,2,none⟩ (iv x)):RS w0 w' m n e b5 b10 k a x:=by
 have G:=h.hm;have H:=h.h10;have kp:Kr b10 w w':=hw▸Kr.set w 2 _;exact⟨h.kp.out kp (λg J e=>(by omega)) G,h.mc.kp kp (by omega),h.hm,h.env.kp kp h.ne,h.h5,h.h10,h.ne,h.th.rJ hw⟩
theorem RS.Lx (h:RS w0 w m n e b5 b10 k a b)(G:lt c=true)(hw:w'=w.setCell ⟨b5,0+Int.toNat ((c - 97:UInt8).toNat:Int)* 1,none⟩ (iv x)):RS w0 w' m n (aI e c x) b5 b10 k a b:=by
 have H:=h.hm;have J:=h.h5;have kp:Kr b5 w w':=hw▸Kr.set w _ _;exact⟨h.kp.out kp (λg V e=>(by omega)) H,h.mc.kp kp (by omega),h.hm,h.env.set G hw,h.h5,h.h10,h.ne,h.th.kp kp (PB h.ne)⟩
end
def Dj (t:P):Prop:=∀{D:Nat->Prop} {v:Value} {w:World} {m n:Nat} {cs:List Value} {e:UInt8->Nat} {R:Value->PV},aK D w t v->(∀g,D g->¬g=m)->Mk w m n->Iw cs e->Lt t->n+t.size<=1099511627776->
 (∀v' w',Km m w w'->Mk w' m (num t e n).2->az (Da w) w' (flat (num t e n).1) v'->R v' w')->PW 137 #[ptr m,v,.agg cs.toArray] w (aw [.v] R)
def T.bnd:P->Bool
 | .rcv .. =>true | .res .. =>true | _=>false
theorem zI (t:P):(decide (t.kind=63)||decide (t.kind=35))=t.bnd:=by cases t<;>rfl
theorem K4 {t:P}(h:Lt t)(G:t.ca≠0):lt t.ca=true:=by
 cases t<;>first | exact h.1 | exact absurd rfl G
theorem KR {t:P}(h:Lt t)(G:t.cb≠0):lt t.cb=true:=by
 cases t<;>first | exact h.2.1 | exact h.1 | exact absurd rfl G
theorem J7 {t:P}(h:Lt t)(hb:t.bnd=true):lt t.cb=true:=by
 cases t<;>first | exact h.2.1 | exact h.1 | cases hb
theorem bK:∀(t:P) (e:UInt8->Nat) (n:Nat),(num t e n).1.size=t.size/\(num t e n).2<=n+t.size
 | .nil,_,n=>⟨rfl,by simp [num,T.size]⟩
 | .snd _ _ p,e,n=>by have :=bK p e n;exact⟨by simp [num,T.size,this.1],by simp only [num,T.size];omega⟩
 | .mat _ _ p,e,n=>by have :=bK p e n;exact⟨by simp [num,T.size,this.1],by simp only [num,T.size];omega⟩
 | .tau p,e,n=>by have :=bK p e n;exact⟨by simp [num,T.size,this.1],by simp only [num,T.size];omega⟩
 | .rep p,e,n=>by have :=bK p e n;exact⟨by simp [num,T.size,this.1],by simp only [num,T.size];omega⟩
 | .rcv _ x p,e,n=>by have :=bK p (aI e x (n+101)) (n+1);exact⟨by simp [num,T.size,this.1],by simp only [num,T.size];omega⟩
 | .res x p,e,n=>by have :=bK p (aI e x (n+101)) (n+1);exact⟨by simp [num,T.size,this.1],by simp only [num,T.size];omega⟩
 | .sum p q,e,n=>by have :=bK p e n;have h:=bK q e (num p e n).2;exact⟨by simp [num,T.size,this.1,h.1],by simp only [num,T.size];omega⟩
 | .par p q,e,n=>by have :=bK p e n;have h:=bK q e (num p e n).2;exact⟨by simp [num,T.size,this.1,h.1],by simp only [num,T.size];omega⟩
theorem iG:∀u:U,(flat u).1.length<=u.size/\(flat u).2.len<=u.size
 | .nil=>by simp [flat,Lv.len]
 | .snd .. =>by simp [flat,Lv.len,T.size]
 | .rcv .. =>by simp [flat,Lv.len,T.size]
 | .tau .. =>by simp [flat,Lv.len,T.size]
 | .sum .. =>by simp [flat,Lv.len,T.size]
 | .mat .. =>by simp [flat,Lv.len,T.size]
 | .rep .. =>by simp [flat,Lv.len,T.size]
 | .res x p=>by have :=iG p;simp only [flat,T.size,Mm];omega
 | .par p q=>by have :=iG p;have :=iG q;simp only [flat,T.size,Mt,Lv.dS];omega
theorem jO.new {w w':World}{b B e:Nat}(hB:B<=w.heap.size)(hb:b=w.heap.size)(hw:w'=w.alloc (.cells #[.slice none 0 0,.slice none 0 0] e)):jO B w' b [] [] (λg=>g=b):=by
 subst hb hw;refine⟨by rw [size_alloc];omega,hB,rfl,λg G=>⟨by omega,by rw [size_alloc];omega⟩,λj=>?_,_,_,aa rfl,aa rfl,aM.nil _ _ _,aM.nil _ _ _,λg h=>(by cases h),λg h=>(by cases h),λg h=>(by cases h)⟩;unfold World.frozen? World.alloc;simp
theorem C9 {D Q:Nat->Prop}{w1:World}{t p:P}{v:Value}{b5:Nat}{e:UInt8->Nat}(h:aK D w1 t v)(hD:∀g,D g->¬Q g)(hE:kZ w1 b5 e)(h5:¬Q b5){i:Int}(h0:0<=i)(hp:t.parts[i.toNat]?=some p){K:Value->List Value->Prop}(hK:∀x cs,aK D w1 p x->Iw cs e->K x cs):
  ∃(b o:Nat),v=Value.pointer (some ⟨b,o,none⟩)/\∃W:Value,(∀w',Kp w1 w' Q->World.cell? w' ⟨b,(o+3),none⟩=some W)/\∃(Z α G J:Nat),W=Value.slice (some ⟨Z,α,none⟩) G J/\0<=i/\i< G/\
   ∃β:Value,(∀w',Kp w1 w' Q->World.cell? w' ⟨Z,(α+Int.toNat i* 1),none⟩=some β)/\∃H:List Value,List.length H=26/\(∀w',Kp w1 w' Q->∀j,j< 26->World.cell? w' ⟨b5,0+j,none⟩=H[j]?)/\K β H:=by
 obtain⟨b,vs,l,rfl,h1,h2,h3,h4,δ,h6,h7,h8⟩:=h.inv;obtain⟨hi,ε⟩:=No.1 hp;have V:i.toNat< l.length:=by rw [h8.1];exact hi
 have hx:=h8.2 i.toNat l[i.toNat] p (Mo V) hp;refine⟨b,0,rfl,vs,λw' k=>?_,?_⟩
 ·rw [Mn (w:=w1) (k.block b h2 (hD b h1))];exact h6
 rcases h7 with⟨_,rfl⟩ | ⟨b',off,cap,rfl,i1,i2,i3⟩
 ·simp at V
 obtain⟨cs,hc,γ⟩:=hE.c;refine⟨b',off,l.length,cap,rfl,h0,by omega,l[i.toNat],λw' k=>?_,cs,hc.1,λw' k j hj=>?_,hK _ _ hx hc⟩
 ·rw [Mn (w:=w1) (k.block b' i2 (hD b' i1)),MW];exact i3 _ _ (Mo V)
 ·rw [Mn (w:=w1) (k.block b5 hE.hb h5)];exact γ j hj
theorem az.ths {D:Nat->Prop}{w:World}{L:List Nat×Lv}{v:Value}(h:az D w L v):∃ts,fK D w v L.1 (λl=>l=ts)/\af D w L.2 ts:=by
 obtain⟨b,vo,vt,ts,G,H,J,h4,h5,V,W,Z⟩:=h;exact⟨ts,⟨b,vo,vt,ts,G,H,J,h4,h5,V,W,rfl⟩,Z⟩
theorem fK.one {D:Nat->Prop}{w:World}{v:Value}{o:List Nat}{K:List Value->Prop}(h:fK D w v o K):aB v=true:=by
 obtain⟨b,_,_,_,rfl,_⟩:=h;rfl
theorem jO.LD {B b g n e:Nat}{w w1 w2:World}(h:jO B w b [] [] λg=>g=b)(V:g=w.heap.size)(J:w1=w.alloc (.cells #[iv n] 3))(H:w2=w1.setCell ⟨b,0,none⟩ (.slice (some ⟨g,0,none⟩) 1 1)):jO B w2 b [n] [] λx=>x=b\/x=g:=by
 have G:Ex w w1:=J▸Ex.alloc w _;have W:=h.ex G;have Z:=h.lt;have hle:=h.le;have ho:aM 3 B w1 (.slice (some ⟨g,0,none⟩) 1 1) [iv n]:=aM.one (by omega) V J;have s1:w1.heap.size=w.heap.size+1:=by rw [J,size_alloc]
 obtain⟨h1,h2,h3,hr,h4,vo,vt,h5,h6,h7,h8,h9,h10,α⟩:=W;have k:Kr b w1 w2:=H▸Kr.set w1 0 _;refine⟨by rw [H,M9];exact h1,h2,.inl rfl,λx G=>?_,λj=>by rw [H,MG];exact h4 j,_,vt,?_,?_,ho.kp k λx G=>?_,?_,λx G=>?_,λx G=>⟨.inl (h10 x G).1,(h10 x G).2⟩,λx G e=>?_⟩
 ·have :=k.size;rcases G with rfl | rfl<;>omega
 ·rw [H];exact MI _ _ _ h5
 ·rw [H,Mr _ _ _ _ (by simp)];exact h6
 ·have e:g=x:=Ng G;omega
 ·exact h8.kp k λx G=>(h10 x G).2
 ·have e:g=x:=Ng G;exact⟨.inr e.symm,by omega⟩
 ·have :=(h10 x e)
  exact absurd this.1 this.2
theorem jO.LJ {B b g:Nat}{w w1 w2:World}{x:Value}(h:jO B w b [] [] λg=>g=b)(V:g=w.heap.size)(J:w1=w.alloc (.cells #[x] 156))(H:w2=w1.setCell ⟨b,1,none⟩ (.slice (some ⟨g,0,none⟩) 1 1)):jO B w2 b [] [x] λx=>x=b\/x=g:=by
 have G:Ex w w1:=J▸Ex.alloc w _;have W:=h.ex G;have Z:=h.lt;have hle:=h.le;have ho:aM 156 B w1 (.slice (some ⟨g,0,none⟩) 1 1) [x]:=aM.one (by omega) V J;have s1:w1.heap.size=w.heap.size+1:=by rw [J,size_alloc]
 obtain⟨h1,h2,h3,hr,h4,vo,vt,h5,h6,h7,h8,h9,h10,α⟩:=W;have k:Kr b w1 w2:=H▸Kr.set w1 1 _;refine⟨by rw [H,M9];exact h1,h2,.inl rfl,λx G=>?_,λj=>by rw [H,MG];exact h4 j,vo,_,?_,?_,?_,ho.kp k λx G=>?_,λx G=>⟨.inl (h9 x G).1,(h9 x G).2⟩,λx G=>?_,λx e G=>?_⟩
 ·have :=k.size;rcases G with rfl | rfl<;>omega
 ·rw [H,Mr _ _ _ _ (by simp)];exact h5
 ·rw [H];exact MI _ _ _ h6
 ·exact h7.kp k λx G=>(h9 x G).2
 ·have e:g=x:=Ng G;omega
 ·have e:g=x:=Ng G;exact⟨.inr e.symm,by omega⟩
 ·have :=(h9 x e)
  exact absurd this.1 this.2
def T.eB (t:P)(e:UInt8->Nat)(n:Nat):UInt8->Nat:=if t.bnd=true then aI e t.cb (n+101)else e
def T.nB (t:P)(n:Nat):Nat:=if t.bnd=true then n+1 else n
def T.aA (t:P)(e:UInt8->Nat):Nat:=if t.ca=0 then 0 else e t.ca
def T.bA (t:P)(e:UInt8->Nat)(n:Nat):Nat:=if t.cb=0 then 0 else t.eB e n t.cb
structure RW (D:Nat->Prop)(w w':World)(m n:Nat)(e:UInt8->Nat)(b5 b10 b47:Nat)(t:P)(v:Value):Prop where
 rs:RS w w' m (t.nB n) (t.eB e n) b5 b10 t.kind (t.aA e) (t.bA e n)
 bd:jO w.heap.size w' b47 [] [] λg=>g=b47
 n5:b47≠b5
 n10:b47≠b10
 tm:aK D w' t v
 d:∀g,D g->g< w.heap.size/\¬g=m
def RJ (w w':World)(m n:Nat)(e:UInt8->Nat)(b47 b10:Nat)(t:P):Prop:=
 Km m w w'/\Mk w' m (num t e n).2/\jO w.heap.size w' b47 [] [] (λg=>g=b47)/\(flat (num t e n).1).1=[]/\af (λg=>(w.heap.size<=g/\g≠b47)/\g< w'.heap.size) w' (flat (num t e n).1).2 [ptr b10]
theorem Ie {t:P}{w G:World}{m n:Nat}{e:UInt8->Nat}{b47 b10:Nat}{R:Value->PV}(hm:m< w.heap.size)(hJ:RJ w G m n e b47 b10 t)(hR:∀v' w',Km m w w'->Mk w' m (num t e n).2->az (Da w) w' (flat (num t e n).1) v'->R v' w'):
  ∀(J:Nat) (H:World),J=Array.size (World.heap G)->H=World.alloc G (Obj.cells #[(Value.pointer (some ⟨b10,0,none⟩))] 156)->aB (Value.slice (some ⟨J,0,none⟩) 1 1)=true/\
   ((∃W:Value,World.cell? H ⟨b47,1,none⟩=some W)/\World.frozen? H ⟨b47,1,none⟩=false)/\∀V:World,V=World.setCell H ⟨b47,1,none⟩ (Value.slice (some ⟨J,0,none⟩) 1 1)->R ((Value.pointer (some ⟨b47,0,none⟩))) V:=by
 obtain⟨k,mk,bd,ho,β⟩:=hJ;intro g w1 hg Z;have hx:Ex G w1:=Z▸Ex.alloc G _;have γ:=bd.ex hx;have ε:=bd.lt;have hle:=bd.le;refine⟨rfl,?_,λw2 α=>?_⟩
 ·obtain⟨h1,h2,h3,hr,h4,vo,vt,h5,h6,_⟩:=γ;exact⟨⟨_,h6⟩,h4 1⟩
 ·have δ:=bd.LJ hg Z α;have kk:Kr b47 w1 w2:=α▸Kr.set w1 1 _;have k2:Kp G w2 λg=>g=b47:=Kp.trans (Kp.ah hx _) kk λg _ h=>h
  refine hR _ w2 (k.out k2 (λg hg e=>by omega) hm) (mk.kp k2 (by omega)) ?_;unfold az;rw [ho];exact δ.Ln (λg _ h=>h) (af.sub (λg _ h=>h.1.1) (af.kp k2 (λg h e=>h.1.2 e) β))
section
variable {D:Nat->Prop} {w w':World} {m n b5 b10 b47:Nat} {e:UInt8->Nat} {t p:P} {v:Value}
def RQ (w:World)(m b5 b10:Nat):Nat->Prop:=λg=>g=m\/(w.heap.size<=g/\g≠b5/\g≠b10)
theorem RW.fine (h:RW D w w' m n e b5 b10 b47 t v):(∀g,D g->¬RQ w m b5 b10 g)/\¬RQ w m b5 b10 b5/\RQ w m b5 b10 b47:=by
 have J:=h.rs.hm;have V:=h.rs.h5;have G:=h.bd.le;refine⟨λg H e=>?_,λe=>?_,.inr ⟨G,h.n5,h.n10⟩⟩
 ·have :=h.d g H;rcases e with e | e<;>omega
 ·rcases e with e | e
  ·omega
  ·exact e.2.1 rfl
structure RP (D:Nat->Prop)(w w':World)(m n:Nat)(b5 b10 b47:Nat)(e:UInt8->Nat)(t:P)(v:Value)(o:List Nat)(l:Lv)(ts:List Value)(M:Nat->Prop):Prop where
 kp:Km m w w'
 mc:Mk w' m n
 hm:m< w.heap.size
 env:kZ w' b5 e
 h5:w.heap.size<=b5
 h10:b10< w'.heap.size
 tm:aK D w' t v
 d:∀g,D g->g< w.heap.size/\¬g=m
 bd:jO w.heap.size w' b47 o ts M
 mq:∀g,M g->RQ w m b5 b10 g
 th:af (λg=>(w.heap.size<=g/\¬M g)/\g< w'.heap.size) w' l ts
theorem RP.step {w1:World}{o:List Nat}{l:Lv}{ts:List Value}{M:Nat->Prop}(h:RP D w w1 m n b5 b10 b47 e t v o l ts M)(hp:Dj p){i:Int}(h0:0<=i)(hi:t.parts[i.toNat]?=some p)(ψ:Lt p)
  (hn:n+p.size<=1099511627776) (hol:o.length+p.size<=1099511627776) (hll:l.len+p.size<=1099511627776) {R:PV}
  (hR:∀w2 ω M',RP D w w2 m (num p e n).2 b5 b10 b47 e t v (o++(flat (num p e n).1).1) (l.app (flat (num p e n).1).2) ω M'->R w2):
  ∃H:PV,∀α:World,α=World.drew w1->H α/\∃(ζ η:Nat),v=Value.pointer (some ⟨ζ,η,none⟩)/\∃θ:Value,(∀w',H w'->World.cell? w' ⟨ζ,(η+3),none⟩=some θ)/\
   ∃(ι κ J β:Nat),θ=Value.slice (some ⟨ι,κ,none⟩) J β/\0<=i/\i< J/\∃μ:Value,(∀w',H w'->World.cell? w' ⟨ι,(κ+Int.toNat i* 1),none⟩=some μ)/\
   ∃V:List Value,List.length V=26/\(∀w',H w'->∀j,j< 26->World.cell? w' ⟨b5,0+j,none⟩=V[j]?)/\PW 137 #[ptr m,μ,(Value.agg (List.toArray V))] α (aw [.v] fun(v64:Value) (ν:World)=>
    H ν/\PW 179 #[(Value.pointer (some ⟨b47,0,none⟩)),v64] ν (aw [] fun(ξ:World)=>H ξ/\R ξ)):=by
 have h5:=h.h5;have hm:=h.hm;have hD:∀g,D g->¬RQ w m b5 b10 g:=λg G e=>by
  have :=h.d g G;rcases e with e | e<;>omega
 have ο:¬RQ w m b5 b10 b5:=λe=>by
  rcases e with e | e
  ·omega
  ·exact e.2.1 rfl
 refine⟨λw'=>Kp (w1.drew) w' (RQ w m b5 b10),λw2 Z=>⟨Z▸Kp.ah (Ex.refl _) _,?_⟩⟩;have x2:Ex w1 w2:=Z▸Ex.drew w1;have hs12:w2.heap.size=w1.heap.size:=by rw [Z];rfl
 rw [<-Z];have kx:Kr m w1 w2:=Kr.ex x2;have ς:¬M m:=λW=>by
  have :=(h.bd.mr m W).1;omega
 refine C9 (aK.kp (Kp.ah x2 λ _=>False) (λ _ _ h=>h) h.tm) hD (h.env.kp (Kp.ah x2 λ _=>False) λh=>h) ο h0 hi λx cs hx hcs=>?_
 refine hp hx (λg G=>(h.d g G).2) (h.mc.ex x2) hcs ψ hn λv3 w3 k3 m3 l3=>?_
 have s3:=k3.size;have s1:=h.bd.lt;have s0:=h.kp.size;have γ:Kr m w1 w3:=Kr.trans kx k3.kp;have υ:Km m w1 w3:=Km.trans (Km.ex x2 h.mc.lt) k3;refine⟨Kp.mono (λg G=> .inl G) k3.kp,?_⟩;obtain⟨ts2,hl3,δ⟩:=az.ths (l3.sub (E:=λg=>w2.heap.size<=g/\g< w3.heap.size) λg G hd=>⟨hd,G⟩);have hfs:=iG (num p e n).1;rw [(bK p e n).1]at hfs;have bd3:jO w.heap.size w3 b47 o ts M:=h.bd.kp γ λg G e=>ς (e▸G)
 refine tc bd3 (by omega) hl3 δ.all (λg G W=>by have :=(h.bd.mr g W).2;omega) ⟨by omega,by rw [δ.len,h.th.len];omega⟩ λw4 M' k4 bd4 ε=>?_
 have φ:Kp w3 w4 (RQ w m b5 b10):=Kp.mono h.mq k4;refine⟨Kp.trans (Kp.mono (λg G=> .inl G) k3.kp) φ λg _ h=>h,?_⟩;have s4:=k4.size;have χ:Kp w1 w4 (RQ w m b5 b10):=Kp.trans (Kp.mono (λg G=> .inl G) γ) φ λg _ h=>h
 have hb5:=h.env.hb;refine hR w4 (ts++ts2) M' ⟨?_,m3.kp k4 ς,hm,h.env.kp χ ο,h5,by have :=h.h10;omega,aK.kp χ hD h.tm,h.d,bd4,λg G=>?_,?_⟩
 ·exact(Km.trans h.kp υ).out k4 (λg G W=>by have :=(h.bd.mr g W).1;omega) hm
 ·rcases ε g G with h1 | h1
  ·exact h.mq g h1
  ·exact .inr ⟨by omega,by omega,by have :=h.h10;omega⟩
 ·refine af.app ?_ ?_
  ·refine af.sub (λg _ G=>?_) (af.kp k4 (λg G e=>G.1.2 e) (af.kp γ (λg G e=>?_) h.th))
   ·refine⟨⟨G.1.1,λW=>?_⟩,by omega⟩;rcases ε g W with h1 | h1
    ·exact G.1.2 h1
    ·omega
   ·have :=G.1.1;omega
  ·refine af.sub (λg _ G=>?_) (af.kp k4 (λg G W=>?_) δ)
   ·refine⟨⟨by omega,λW=>?_⟩,by omega⟩;rcases ε g W with h1 | h1
    ·have :=(h.bd.mr g h1).2;omega
    ·omega
   ·have :=(h.bd.mr g W).2;omega
theorem RP.done {w':World}{o:List Nat}{l:Lv}{ts:List Value}{M:Nat->Prop}(h:RP D w w' m n b5 b10 b47 e t v o l ts M):az (Da w) w' (o,l) (ptr b47):=
 h.bd.Ln (λg _ h=>h) (af.sub (λg _ G=>G.1.1) h.th)
end
theorem Gz {t:P}(ih:∀p∈t.parts,Dj p):Dj t:=by
 intro D v w m n cs e R ht hD hmk ι J hn hR;obtain⟨D,ht,hD⟩:∃D',aK D' w t v/\∀g,D' g->g< w.heap.size/\¬g=m:=⟨_,ht.bound,λg G=>⟨G.2,hD g G.1⟩⟩
 refine oQ _ v _ w R ?_;dsimp only [go_sem];dsimp only [go_sem,UInt8.reduceOfNat,UInt32.reduceOfNat,Nat.reduceAdd];refine⟨cs,rfl,λb5 w6 hb5 δ=>?_⟩;have x6:Ex w w6:=δ▸Ex.alloc w _;have s6:w6.heap.size=w.heap.size+1:=by rw [δ,size_alloc]
 have t6:aK D w6 t v:=aK.kp (Kp.ah x6 λ _=>False) (λ _ _ h=>h) ht;have c0:∀{w':World},aK D w' t v->∃b,v=ptr b/\w'.cell? ⟨b,0+0,none⟩=some (.int .u8 t.kind.toNat)/\w'.cell? ⟨b,0+1,none⟩=some (.int .u8 t.ca.toNat)/\w'.cell? ⟨b,0+2,none⟩=some (.int .u8 t.cb.toNat):=λh=>by
  obtain⟨b,vs,l,h0,W,h2,h3,h4,h5,_⟩:=h.inv;exact⟨b,h0,h3,h4,h5⟩
 obtain⟨b7,hv,q0,_,_⟩:=c0 t6;refine⟨b7,0,hv,t.kind,q0,λb10 w11 hb10 ν=>?_⟩;have χ:Ex w6 w11:=ν▸Ex.alloc w6 _;have s11:w11.heap.size=w6.heap.size+1:=by rw [ν,size_alloc]
 have kt:∀{w':World},Kr m w w'->aK D w' t v:=λk=>aK.kp k (λg G=>(hD g G).2) ht
 have ε:=hmk.lt;have κ:RS w w11 m n e b5 b10 t.kind 0 0:=by
  refine⟨Km.ex (Ex.trans x6 χ) ε,hmk.ex (Ex.trans x6 χ),ε,⟨by omega,λj=>?_,cs,ι,λj hj=>?_⟩,by omega,by omega,by omega,jQ.new hb10 ν⟩
  ·rw [MU (w:=w6) (χ.block b5 (by omega)),δ,hb5];unfold World.frozen? World.alloc;simp
  ·rw [χ.cell (show b5< _ by omega),δ,hb5,MX];have :=ι.1;unfold World.cell? World.alloc;simp
 obtain⟨b13,hv13,_,q1,_⟩:=c0 (kt κ.kp.kp);refine⟨λw'=>RS w w' m n e b5 b10 t.kind (t.aA e) 0,⟨b13,0,hv13,t.ca,q1,λhc=>?_,λhc=>?_⟩,λψ Z=>?_⟩
 ·have hc:t.ca≠0:=by simpa using hc
  have hl:=K4 J hc;have hb:=bg hl;refine⟨b13,0,hv13,t.ca,q1,⟨by omega,by rw [gi hl];omega⟩,_,κ.env.get hl,⟨⟨_,κ.th.c1⟩,κ.th.f 1⟩,λw21 ξ=>?_⟩;have:t.aA e=e t.ca:=MJ hc;rw [this];exact κ.zV ξ
 ·have hc:t.ca=0:=by simpa using hc
  have:t.aA e=0:=MZ hc;rw [this];exact κ
 refine⟨λw'=>RS w w' m (t.nB n) (t.eB e n) b5 b10 t.kind (t.aA e) 0,HW (kt Z.kp.kp) ⟨λhq=>?_,λhq=>?_⟩,λw35 μ=>?_⟩
 ·rw [zI]at hq;have hl:=J7 J hq;have hb:=bg hl;refine⟨λw'=>Kr m ψ w',λw27 hw27=>⟨hw27▸Kr.ex (Ex.drew ψ),?_⟩⟩;have ω:Ex ψ w27:=hw27▸Ex.drew ψ;obtain⟨b28,hv28,_,_,q2⟩:=c0 (kt Z.kp.kp);refine⟨b28,0,hv28,t.cb,λw' k=>?_,?_⟩
  ·obtain⟨b29,hv29,_,_,q3⟩:=c0 (kt (Kr.trans Z.kp.kp k));have:b29=b28:=by
    have :=hv28.symm.trans hv29
    injection this with W
    injection W with W
    injection W with W
    exact W.symm
   rw [<-this];exact q3
  refine sY (Z.mc.ex ω) (by omega) λA9 k32 m32=>⟨Kr.trans (Kr.ex ω) k32.kp,⟨by omega,by rw [gi hl];omega⟩,?_,λw34 hw34=>?_⟩
  ·have :=(Z.go (Km.trans (Km.ex ω Z.mc.lt) k32) m32).env;exact⟨⟨_,this.get hl⟩,this.f _⟩
  ·have e1:t.nB n=n+1:=MZ hq;have e2:t.eB e n=aI e t.cb (n+101):=MZ hq;rw [e1,e2];exact(Z.go (Km.trans (Km.ex ω Z.mc.lt) k32) m32).Lx hl hw34
 ·rw [zI]at hq;have e1:t.nB n=n:=MJ (by rw [hq];simp);have e2:t.eB e n=e:=MJ (by rw [hq];simp);rw [e1,e2];exact Z
 obtain⟨b37,hv37,_,_,q2⟩:=c0 (kt μ.kp.kp);refine⟨λw'=>RS w w' m (t.nB n) (t.eB e n) b5 b10 t.kind (t.aA e) (t.bA e n),⟨b37,0,hv37,t.cb,q2,λhc=>?_,λhc=>?_⟩,λw46 r46 b47 V hb47 hw48=>?_⟩
 ·have hc:t.cb≠0:=by simpa using hc
  have hl:=KR J hc;have hb:=bg hl;refine⟨b37,0,hv37,t.cb,q2,⟨by omega,by rw [gi hl];omega⟩,_,μ.env.get hl,⟨⟨_,μ.th.c2⟩,μ.th.f 2⟩,λw21 ξ=>?_⟩;have:t.bA e n=t.eB e n t.cb:=MJ hc;rw [this];exact μ.rJ ξ
 ·have hc:t.cb=0:=by simpa using hc
  have:t.bA e n=0:=MZ hc;rw [this];exact μ
 have x48:Ex w46 V:=hw48▸Ex.alloc w46 _;have H:=r46.ex x48;have hs46:=r46.kp.size;have bd:jO w.heap.size V b47 [] [] λg=>g=b47:=jO.new hs46 hb47 hw48
 have hn5:b47≠b5:=by have :=r46.env.hb;omega
 have hn10:b47≠b10:=by have :=r46.th.lt;omega
 have h105:=H.h5;have ο:=H.h10;have rp:RP D w V m (t.nB n) b5 b10 b47 (t.eB e n) t v [] .nil [] (λg=>g=b47):=
  ⟨H.kp,H.mc,H.hm,H.env,H.h5,H.th.lt,kt H.kp.kp,hD,bd,λg G=> .inr ⟨by have :=bd.le;omega,by omega,by omega⟩,rfl⟩
 obtain⟨b50,hv50,q0',_,_⟩:=c0 (kt H.kp.kp);refine⟨λw'=>RJ w w' m n e b47 b10 t,⟨b50,0,hv50,t.kind,q0',?_⟩,λw143 hJ=>Ie ε hJ hR⟩;have hRQ:∀g,D g->¬RQ w m b5 b10 g:=λg G e=>by
  have :=hD g G;rcases e with e | e<;>omega
 have hq5:¬RQ w m b5 b10 b5:=λe=>by
  rcases e with e | e
  ·omega
  ·exact e.2.1 rfl
 have hb47:=bd.le;have β:∀{p:P},t.parts[0]?=some p->Dj p->Lt p->t.nB n+p.size<=1099511627776->(num t e n).2=(num p (t.eB e n) (t.nB n)).2->(∀a b vr (w':World),a=t.aA e->b=t.bA e n->Ha (λg=>(w.heap.size<=g/\g≠b47)/\g< w'.heap.size) w' (ptr b10) t.kind a b vr (.slice none 0 0)->
   az (λg=>(w.heap.size<=g/\g≠b47)/\g< w'.heap.size) w' (flat (num p (t.eB e n) (t.nB n)).1) vr->(flat (num t e n).1).1=[]/\af (λg=>(w.heap.size<=g/\g≠b47)/\g< w'.heap.size) w' (flat (num t e n).1).2 [ptr b10])->
   ∃γ:PV,∀ς:World,ς=World.drew V->γ ς/\∃(b130 o131:Nat),v=Value.pointer (some ⟨b130,o131,none⟩)/\∃v132:Value,(∀w',γ w'->World.cell? w' ⟨b130,(o131+3),none⟩=some v132)/\∃(b133 o134 η cap136:Nat),v132=Value.slice (some ⟨b133,o134,none⟩) η cap136/\0<=(0:Int)/\(0:Int)< η/\
    ∃v137:Value,(∀w',γ w'->World.cell? w' ⟨b133,(o134+Int.toNat 0* 1),none⟩=some v137)/\∃ζ:List Value,List.length ζ=26/\(∀w',γ w'->∀j,j< 26->World.cell? w' ⟨b5,0+j,none⟩=ζ[j]?)/\PW 137 #[ptr m,v137,(Value.agg (List.toArray ζ))] ς (aw [.v] fun(v139:Value) (θ:World)=>
     γ θ/\aB v139=true/\((∃u141:Value,World.cell? θ ⟨b10,3,none⟩=some u141)/\World.frozen? θ ⟨b10,3,none⟩=false)/\∀w142:World,w142=World.setCell θ ⟨b10,3,none⟩ v139->RJ w w142 m n e b47 b10 t):=by
  intro p hi hp hlp hnp e2 hth;refine⟨λw'=>Kp V.drew w' (RQ w m b5 b10),λw2 α=>⟨α▸Kp.ah (Ex.refl _) _,?_⟩⟩;have x2:Ex V w2:=α▸Ex.drew V;rw [<-α];have hs12:w2.heap.size=V.heap.size:=by rw [α];rfl
  have r2:=H.ex x2;refine C9 (kt r2.kp.kp) hRQ r2.env hq5 (i:=0) (by omega) hi λx cs hx ι=>?_
  refine hp hx (λg G=>(hD g G).2) r2.mc ι hlp hnp λv3 w3 k3 m3 l3=>?_
  have r3:=r2.go k3 m3;have s3:=k3.size;have l3':az (λg=>w2.heap.size<=g/\g< w3.heap.size) w3 (flat (num p (t.eB e n) (t.nB n)).1) v3:=l3.sub λg G hd=>⟨hd,G⟩
  have hb10lt:=r2.th.lt;have hb47lt:=bd.lt;refine⟨Kp.mono (λg G=> .inl G) k3.kp,fK.one l3,⟨⟨_,r3.th.c3⟩,r3.th.f 3⟩,λw4 hw4=>?_⟩;have k4:Kr b10 w3 w4:=hw4▸Kr.set w3 3 _;have s4:=k4.size;have th4:=r3.th.DZ hw4;have s2:=r2.kp.size;have hl4:az (λg=>(w.heap.size<=g/\g≠b47)/\g< w4.heap.size) w4 (flat (num p (t.eB e n) (t.nB n)).1) v3:=az.sub (az.kp l3' k4 λg G e=>by omega) λg _ G=>⟨⟨by omega,by omega⟩,by omega⟩
  obtain⟨e4,h4⟩:=hth _ _ v3 w4 rfl rfl (th4.KI ⟨⟨ο,PB hn10⟩,th4.lt⟩) hl4;refine⟨r3.kp.out k4 (λg G e=>by omega) ε,?_,?_,e4,h4⟩
  ·rw [e2];exact m3.kp k4 (by omega)
  ·exact((bd.ex x2).kp k3.kp λg G e=>by omega).kp k4 λg G e=>by omega
 have hn0:∀{i:Int},0<=i->i.toNat=i.toNat:=λ _=>rfl
 cases t with
 | nil=>exact cN rfl (hR _ _ H.kp H.mc rp.done)
 | par p q=>
  refine aT (by dsimp only [T.kind];decide) (cN rfl ?_);have e1:n+(1+p.size+q.size)<=1099511627776:=by simpa only [T.size,OU,Nat.add_comm,Nat.add_left_comm]using hn
  have W:=bK p e n;have h2:=iG (num p e n).1;rw [W.1]at h2;refine rp.step (i:=0) (ih p (by simp [T.parts])) (by omega) rfl J.1 (show n+p.size<=_ by omega) (by simp only [MB];omega) (by simp only [Lv.len];omega) λw2 ts2 M2 h=>?_
  refine h.step (i:=1) (ih q (by simp [T.parts])) (by omega) rfl J.2 (show(num p e n).2+q.size<=_ by omega) ?_ ?_ λw3 ts3 M3 h=>hR _ _ h.kp h.mc h.done
  ·show(flat (num p e n).1).1.length+q.size<=_;omega
  ·show(flat (num p e n).1).2.len+q.size<=_;omega
 | res x p=>
  refine aT (by dsimp only [T.kind];decide) (aT (by dsimp only [T.kind];decide) (cN rfl ?_));have e1:n+(1+p.size)<=1099511627776:=by simpa only [T.size,OU,Nat.add_comm,Nat.add_left_comm]using hn
  have hx0:x≠0:=λhx=>by have :=bg J.1;rw [hx]at this;exact absurd this.1 (by decide)
  have e2:T.bA (.res x p) e n=n+101:=by simp [T.bA,T.cb,hx0,T.eB,T.bnd,aI]
  refine⟨_,H.th.c2,λb82 w83 hb82 υ=>?_⟩;have x83:Ex V w83:=υ▸Ex.alloc V _;have bd83:=bd.ex x83;obtain⟨vo,_,hvo,_⟩:=bd83.sl;refine⟨rfl,⟨⟨vo,hvo⟩,bd83.fr 0⟩,λw85 hw85=>?_⟩;rw [e2]at υ;have bd85:=bd.LD (e:=0) hb82 υ hw85;have φ:Kr b47 V w85:=Kp.trans (Kp.ah x83 _) (hw85▸Kr.set w83 0 _) λ _ _ h=>h
  have s85:=φ.size;have hl5:=H.env.hb;have hl10:=H.th.lt;have hs48:=H.kp.size;have rp85:RP D w w85 m (n+1) b5 b10 b47 (aI e x (n+101)) (.res x p) v [n+101] .nil [] (λg=>g=b47\/g=b82):=
   ⟨H.kp.out φ (λg G e=>by omega) ε,H.mc.kp φ (by omega),ε,H.env.kp φ (by omega),h105,by omega,aK.kp φ (λg G e=>by have :=hD g G;omega) rp.tm,hD,bd85,λg G=> .inr (by
    rcases G with rfl | rfl
    ·exact⟨by omega,by omega,by omega⟩
    ·exact⟨by omega,by omega,by omega⟩),rfl⟩
  exact rp85.step (i:=0) (ih p (by simp [T.parts])) (by omega) rfl J.2 (by omega) (by simp only [Mm,MB];omega) (by simp only [Lv.len];omega) λw2 ts2 M2 h=>hR _ _ h.kp h.mc h.done
 | sum p q=>
  refine aT (by dsimp only [T.kind];decide) (aT (by dsimp only [T.kind];decide) (aT (by dsimp only [T.kind];decide) (cN rfl ?_)));have e1:n+(1+p.size+q.size)<=1099511627776:=by simpa only [T.size,OU,Nat.add_comm,Nat.add_left_comm]using hn
  have W:=bK p e n;refine⟨λw'=>Kp V.drew w' (RQ w m b5 b10),λw2 α=>⟨α▸Kp.ah (Ex.refl _) _,?_⟩⟩;have x2:Ex V w2:=α▸Ex.drew V;rw [<-α];have hs12:w2.heap.size=V.heap.size:=by rw [α];rfl
  have r2:=H.ex x2;refine C9 (kt r2.kp.kp) hRQ r2.env hq5 (i:=0) (by omega) rfl λx cs hx ι=>?_
  refine C9 (kt r2.kp.kp) hRQ r2.env hq5 (i:=1) (by omega) rfl λy cs' hy hcs'=>?_
  refine ih p (by simp [T.parts]) hx (λg G=>(hD g G).2) r2.mc ι J.1 (show n+p.size<=_ by omega) λv3 w3 k3 m3 l3=>?_
  have r3:=r2.go k3 m3;have s3:=k3.size;have l3':az (λg=>w2.heap.size<=g/\g< w3.heap.size) w3 (flat (num p e n).1) v3:=l3.sub λg G hd=>⟨hd,G⟩
  refine⟨Kp.mono (λg G=> .inl G) k3.kp,?_⟩;refine ih q (by simp [T.parts]) (aK.kp k3.kp (λg G=>(hD g G).2) hy) (λg G=>(hD g G).2) m3 hcs' J.2 (show(num p e n).2+q.size<=_ by omega) λv4 w4 k4 m4 l4=>?_
  have r4:=r3.go k4 m4;have s4:=k4.size;have l4':az (λg=>w3.heap.size<=g/\g< w4.heap.size) w4 (flat (num q e (num p e n).2).1) v4:=l4.sub λg G hd=>⟨hd,G⟩
  have k24:Kr m w2 w4:=Kr.trans k3.kp k4.kp;refine⟨Kp.mono (λg G=> .inl G) k24,fK.one l3,fK.one l4,λb124 w5 hb124 hw5=>?_⟩;have x5:Ex w4 w5:=hw5▸Ex.alloc w4 _;have s5:w5.heap.size=w4.heap.size+1:=by rw [hw5,size_alloc]
  have r5:=r4.ex x5;refine⟨Kp.trans (Kp.mono (λg G=> .inl G) k24) (Kp.ah x5 λ _=>False) λ _ _ h=>h.elim,rfl,⟨⟨_,r5.th.c4⟩,r5.th.f 4⟩,λw6 δ=>?_⟩;have k6:Kr b10 w5 w6:=δ▸Kr.set w5 4 _;have s6:=k6.size;have th6:=r5.th.Kh δ;have s2:=r2.kp.size;have hb10lt:=r2.th.lt;have hb47lt:=bd.lt;refine⟨r5.kp.out k6 (λg G e=>by omega) ε,r5.mc.kp k6 (by omega),?_,rfl,?_⟩
  ·exact(((bd.ex x2).kp k24 λg G e=>by omega).ex x5).kp k6 λg G e=>by omega
  ·have hl3:az (λg=>(w.heap.size<=g/\g≠b47)/\g< w6.heap.size) w6 (flat (num p e n).1) v3:=az.sub (az.kp (az.ex (az.kp l3' k4.kp λg G e=>by omega) x5) k6 λg G e=>by omega) λg _ G=>⟨⟨by omega,by omega⟩,by omega⟩
   have hl4:az (λg=>(w.heap.size<=g/\g≠b47)/\g< w6.heap.size) w6 (flat (num q e (num p e n).2).1) v4:=az.sub (az.kp (az.ex l4' x5) k6 λg G e=>by omega) λg _ G=>⟨⟨by omega,by omega⟩,by omega⟩
   refine⟨_,_,_,_,_,[v3,v4],rfl,th6.KI ⟨⟨ο,PB hn10⟩,th6.lt⟩,.inr ⟨b124,0,2,rfl,⟨⟨by omega,by omega⟩,by omega⟩,by omega,λi z hz=>?_⟩,⟨v3,_,rfl,hl3,⟨v4,_,rfl,hl4,rfl⟩⟩,rfl⟩;rw [Mn (w:=w5) (k6.block b124 (by omega) (by omega)),hw5,hb124,MX];refine aa ?_
   match i,hz with
   | 0,hz=>simpa using hz
   | 1,hz=>simpa using hz
   | i+2,hz=>simp at hz
 | snd a b p=>
  refine aT (by dsimp only [T.kind];decide) (aT (by dsimp only [T.kind];decide) (aT (by dsimp only [T.kind];decide) (aT (by dsimp only [T.kind];decide) ?_)));refine β rfl (ih p (by simp [T.parts])) J.2.2 (show n+p.size<=_ by simp only [T.size]at hn;omega) rfl λa' b' vr w' ha hb W h2=>⟨rfl,?_⟩
  have ea:a'=e a:=by rw [ha];exact MJ λhx=>by have :=bg J.1;rw [show a=0 from hx]at this;exact absurd this.1 (by decide)
  have eb:b'=e b:=by rw [hb];exact MJ λhx=>by have :=bg J.2.1;rw [show b=0 from hx]at this;exact absurd this.1 (by decide)
  exact⟨_,_,_,_,_,rfl,W,.inr (.inr ⟨ea,eb⟩),h2,rfl⟩
 | mat a b p=>
  refine aT (by dsimp only [T.kind];decide) (aT (by dsimp only [T.kind];decide) (aT (by dsimp only [T.kind];decide) (aT (by dsimp only [T.kind];decide) ?_)));refine β rfl (ih p (by simp [T.parts])) J.2.2 (show n+p.size<=_ by simp only [T.size]at hn;omega) rfl λa' b' vr w' ha hb W h2=>⟨rfl,?_⟩
  have ea:a'=e a:=by rw [ha];exact MJ λhx=>by have :=bg J.1;rw [show a=0 from hx]at this;exact absurd this.1 (by decide)
  have eb:b'=e b:=by rw [hb];exact MJ λhx=>by have :=bg J.2.1;rw [show b=0 from hx]at this;exact absurd this.1 (by decide)
  exact⟨_,_,_,_,_,rfl,W,.inr (.inr ⟨ea,eb⟩),h2,rfl⟩
 | rcv a b p=>
  refine aT (by dsimp only [T.kind];decide) (aT (by dsimp only [T.kind];decide) (aT (by dsimp only [T.kind];decide) (aT (by dsimp only [T.kind];decide) ?_)));refine β rfl (ih p (by simp [T.parts])) J.2.2 (show n+1+p.size<=_ by simp only [T.size]at hn;omega) rfl λa' b' vr w' ha hb W h2=>⟨rfl,?_⟩
  have ea:a'=e a:=by rw [ha];exact MJ λhx=>by have :=bg J.1;rw [show a=0 from hx]at this;exact absurd this.1 (by decide)
  have eb:b'=n+101:=by
   rw [hb];refine(MJ λhx=>by have :=bg J.2.1;rw [show b=0 from hx]at this;exact absurd this.1 (by decide)).trans ?_;simp [T.eB,T.bnd,aI,T.cb]
  exact⟨_,_,_,_,_,rfl,W,.inr (.inr ⟨ea,eb⟩),h2,rfl⟩
 | tau p=>
  refine aT (by dsimp only [T.kind];decide) (aT (by dsimp only [T.kind];decide) (aT (by dsimp only [T.kind];decide) (aT (by dsimp only [T.kind];decide) ?_)));exact β rfl (ih p (by simp [T.parts])) J (show n+p.size<=_ by simp only [T.size]at hn;omega) rfl λa' b' vr w' ha hb W h2=>⟨rfl,⟨_,_,_,_,_,rfl,W,.inl rfl,h2,rfl⟩⟩
 | rep p=>
  refine aT (by dsimp only [T.kind];decide) (aT (by dsimp only [T.kind];decide) (aT (by dsimp only [T.kind];decide) (aT (by dsimp only [T.kind];decide) ?_)));exact β rfl (ih p (by simp [T.parts])) J (show n+p.size<=_ by simp only [T.size]at hn;omega) rfl λa' b' vr w' ha hb W h2=>⟨rfl,⟨_,_,_,_,_,rfl,W,.inr (.inl rfl),h2,rfl⟩⟩
theorem yk:∀{l:List Nat} {x:Nat},x∈l->x<=l.sum
 | y::l,x,h=>by
  rw [NF];rcases MH.1 h with rfl | h
  ·omega
  ·have :=yk h;omega
theorem Ji:∀t:P,Dj t:=by
 have:∀(k:Nat) (t:P),t.size<=k->Dj t:=by
  intro k
  induction k with
  | zero=>intro t h;have :=aY t;omega
  | succ k G=>
   intro t h;refine Gz λp H=>G p ?_
   have e:=tu t;have:p.size<=(t.parts.map T.size).sum:=yk (Nb.2 ⟨p,H,rfl⟩);omega
 exact λt=>this t.size t (Mu _)
end Go.Proofs.YtdecokaadekjnaaGreat
namespace Go.Proofs.YtdecokaadekjnaaGreat
open Go
attribute [go_sem] Tryz.f180
theorem mv (s1:Value)(w:World)(R:Value->PV)(h:vc ay (a6 [] [] []) (ab Tryz.f180) (ai 0 [.v s1]) w (fin ay [.tmp 2 .v] R)):
  PW 180 #[s1] w (aw [.v] R):=
 bc Tryz.func180 (by kernel_rfl) h
attribute [go_sem] Tryz.f181
theorem jR (G:Value)(w:World)(R:Bool->PV)(h:vc ay (a6 [] [] []) (ab Tryz.f181) (ai 0 [.v G]) w (fin ay [.tmp 2 .b] R)):
  PW 181 #[G] w (aw [.b] R):=
 bc Tryz.func181 (by kernel_rfl) h
attribute [go_sem] Tryz.f182
theorem mo (G:Value)(w:World)(R:Bool->PV)(h:vc ay (a6 [] [] []) (ab Tryz.f182) (ai 0 [.v G]) w (fin ay [.tmp 2 .b] R)):
  PW 182 #[G] w (aw [.b] R):=
 bc Tryz.func182 (by kernel_rfl) h
attribute [go_sem] Tryz.f240
theorem mi (t1:Value)(c2:Value)(w:World)(R:Bool->PV)(h:vc ay (a6 [] [] []) (ab Tryz.f240) (ai 0 [.v t1,.v c2]) w (fin ay [.tmp 3 .b] R)):
  PW 240 #[t1,c2] w (aw [.b] R):=
 bc Tryz.func240 (by kernel_rfl) h
attribute [go_sem] Tryz.f219
theorem gm (s1:Value)(f2:Value)(w:World)(R:Int->PV)(h:vc ay (a6 [(2,[(8,.i)])] [] []) (ab Tryz.f219) (ai 0 [.v s1,.v f2]) w (fin ay [.tmp 4 .i] R)):
  PW 219 #[s1,f2] w (aw [.i] R):=
 bc Tryz.func219 (by kernel_rfl) h
attribute [go_sem] Tryz.f185
theorem e9 (s1:Value)(f2:Value)(w:World)(R:Bool->PV)(h:vc ay (a6 [] [] []) (ab Tryz.f185) (ai 0 [.v s1,.v f2]) w (fin ay [.tmp 4 .b] R)):
  PW 185 #[s1,f2] w (aw [.b] R):=
 bc Tryz.func185 (by kernel_rfl) h
attribute [go_sem] Tryz.f220
theorem oT (G:Value)(H:Int)(w:World)(R:Bool->PV)(h:vc ay (a6 [] [] []) (ab Tryz.f220) (ai 0 [.v G,.i H]) w (fin ay [.tmp 4 .b] R)):
  PW 220 #[G,(.int .i64 H)] w (aw [.b] R):=
 bc Tryz.func220 (by kernel_rfl) h
attribute [go_sem] Tryz.f222
theorem j8 (G:Value)(c2:Value)(w:World)(R:Bool->PV)(h:vc ay (a6 [] [] []) (ab Tryz.f222) (ai 0 [.v G,.v c2]) w (fin ay [.tmp 3 .b] R)):
  PW 222 #[G,c2] w (aw [.b] R):=
 bc Tryz.func222 (by kernel_rfl) h
attribute [go_sem] Tryz.f241
theorem gH (s1:Value)(f2:Value)(w:World)(R:Int->PV)(h:vc ay (a6 [(2,[(8,.i)])] [] []) (ab Tryz.f241) (ai 0 [.v s1,.v f2]) w (fin ay [.tmp 4 .i] R)):
  PW 241 #[s1,f2] w (aw [.i] R):=
 bc Tryz.func241 (by kernel_rfl) h
attribute [go_sem] Tryz.f221
theorem fH (s1:Value)(f2:Value)(w:World)(R:Bool->PV)(h:vc ay (a6 [] [] []) (ab Tryz.f221) (ai 0 [.v s1,.v f2]) w (fin ay [.tmp 4 .b] R)):
  PW 221 #[s1,f2] w (aw [.b] R):=
 bc Tryz.func221 (by kernel_rfl) h
attribute [go_sem] Tryz.f187
theorem mY (t1:Value)(G:Int)(w:World)(R:Bool->PV)(h:vc ay (a6 [] [(2,[(5,.b)]),(4,[])] [(2,true,.lt 0 (.lt 1 (.lt 2 (.lt 3 (.lt 4 (.lt 5 (.lt 6 (.lt 7 (.lt 8 (.lt 9 (.lt 10 (.lt 11 (.lt 12 (.lt 13 (.lt 14 (.lt 15 (.lt 16 .done))))))))))))))))),(4,true,.lt 0 (.lt 1 (.lt 2 (.lt 3 (.lt 4 (.lt 5 (.lt 6 (.lt 7 (.lt 8 (.lt 9 (.lt 10 (.one .g 11 (.lt 12 (.lt 13 (.lt 14 (.lt 15 (.lt 16 (.lt 17 (.lt 18 (.one .g 19 (.lt 20 (.lt 21 .done))))))))))))))))))))))]) (ab Tryz.f187) (ai 0 [.v t1,.i G]) w (fin ay [.tmp 4 .b] R)):
  PW 187 #[t1,(.int .i64 G)] w (aw [.b] R):=
 bc Tryz.func187 (by kernel_rfl) h
attribute [go_sem] Tryz.f186
theorem hZ (t1:Value)(c2:Value)(w:World)(R:Bool->PV)(h:vc ay (a6 [] [] []) (ab Tryz.f186) (ai 0 [.v t1,.v c2]) w (fin ay [.tmp 3 .b] R)):
  PW 186 #[t1,c2] w (aw [.b] R):=
 bc Tryz.func186 (by kernel_rfl) h
attribute [go_sem] Tryz.f184
theorem jo (G:Int)(c2:Value)(w:World)(R:Bool->PV)(h:vc ay (a6 [] [] []) (ab Tryz.f184) (ai 0 [.i G,.v c2]) w (fin ay [.tmp 3 .b] R)):
  PW 184 #[(.int .i64 G),c2] w (aw [.b] R):=
 bc Tryz.func184 (by kernel_rfl) h
attribute [go_sem] Tryz.f218
theorem iM (s1:Value)(f2:Value)(w:World)(R:Int->PV)(h:vc ay (a6 [(2,[(8,.i)])] [] []) (ab Tryz.f218) (ai 0 [.v s1,.v f2]) w (fin ay [.tmp 4 .i] R)):
  PW 218 #[s1,f2] w (aw [.i] R):=
 bc Tryz.func218 (by kernel_rfl) h
attribute [go_sem] Tryz.f183
theorem ib (s1:Value)(d2:Value)(w:World)(R:Value->PV)(h:vc ay (a6 [(5,[(5,.i),(6,.i)])] [] []) (ab Tryz.f183) (ai 0 [.v s1,.v d2]) w (fin ay [.tmp 4 .v] R)):
  PW 183 #[s1,d2] w (aw [.v] R):=
 bc Tryz.func183 (by kernel_rfl) h
theorem j6 (l1:Value)(w:World)(R:Value->PV)(h:cw l1 λb2 o3=>cY w b2 (o3+0) λv4=>xL 180 #[v4] w λv5 w6=>aB v5=true/\dQ w6 (.cells #[v5,(.slice none 0 0)] 155) λb7 w8=>dQ w8 (.cells #[(.pointer none)] 146) λb9 w10=>jW w10 b9 0 (.pointer (some ⟨b7,0,none⟩)) λw12=>cw l1 λb13 o14=>cY w12 b13 (o14+1) λv15=>jS v15 λl17=>tY 0 w12 λZ H G V=>bS (decide (G< (l17:Int))) (jc v15 G λb23 o24=>cY V b23 (o24+G.toNat* 1) λα=>j4 V λS28 w29=>cw α λb30 o31=>KZ S28 b30 (o31+0) λc32=>cw α λb33 o34=>wk S28 b33 (o34+1) λn35=>cw α λb36 o37=>wk S28 b36 (o37+2) λn38=>dQ w29 (.cells #[(.int .u8 c32.toNat),(.int .i64 n35),(.int .i64 n38),(.pointer none),(.slice none 0 0)] 201) λb39 ν=>S28 ν/\cw α λb41 o42=>zR ν b41 (o42+0) λc43=>bS (decide (c43=43)) (cw α λb44 o45=>cY ν b44 (o45+4) λv46=>jS v46 λl48=>tY 0 ν λI50 ξ W β=>bS (decide (W< (l48:Int))) (jc v46 W λb54 o55=>cY β b54 (o55+W.toNat* 1) λv58=>xL 139 #[v58] β λv59 w60=>Hb 181 #[v59] w60 λq61 w62=>bS q61 (bJ (W+1)/\I50 (W+1) w62/\ξ (W+1) w62< ξ W β) (Hb 182 #[v59] w62 λq63 w64=>bS q63 (j4 w64 λο w66=>eo ο b39 4 λv67=>cw v59 λb68 o69=>eo ο b68 (o69+1) λv70=>jc v70 0 λb71 o72=>eo ο b71 (o72+Int.toNat 0* 1) λv75=>cw v75 λb76 o77=>eo ο b76 (o77+4) λv78=>nJ 146 1 8 w66 v67 v78 λv84 w85=>ο w85/\aB v84=true/\jW w85 b39 4 v84 λw87=>bJ (W+1)/\I50 (W+1) w87/\ξ (W+1) w87< ξ W β) (cY w64 b39 4 λv88=>aB v59=true/\dQ w64 (.cells #[v59] 146) λb89 w90=>nJ 146 1 8 w90 v88 (.slice (some ⟨b89,0,none⟩) 1 1) λv96 w97=>aB v96=true/\jW w97 b39 4 v96 λw99=>bJ (W+1)/\I50 (W+1) w99/\ξ (W+1) w99< ξ W β))) (cY β b39 4 λv100=>jS v100 λl102=>bS (decide ((l102:Int)=0)) (bJ (G+1)/\Z (G+1) β/\H (G+1) β< H G V) (bS (decide ((l102:Int)=1)) (j4 β λκ w105=>eo κ b9 0 λv106=>eo κ b39 4 λv107=>jc v107 0 λb108 o109=>eo κ b108 (o109+Int.toNat 0* 1) λv112=>fC 179 #[v106,v112] w105 λς=>κ ς/\bJ (G+1)/\Z (G+1) ς/\H (G+1) ς< H G V) (j4 β λγ w115=>eo γ b9 0 λv116=>eo γ b9 0 λv117=>cw v117 λb118 o119=>eo γ b118 (o119+1) λv120=>dQ w115 (.cells #[(.pointer (some ⟨b39,0,none⟩))] 156) λb121 w122=>γ w122/\nJ 156 1 8 w122 v120 (.slice (some ⟨b121,0,none⟩) 1 1) λv128 w129=>γ w129/\cw v116 λb130 o131=>aB v128=true/\jW w129 b130 (o131+1) v128 λw133=>bJ (G+1)/\Z (G+1) w133/\H (G+1) w133< H G V)))) (cw α λb134 o135=>cY ν b134 (o135+3) λv136=>xL 139 #[v136] ν λv137 w138=>aB v137=true/\jW w138 b39 3 v137 λw140=>j4 w140 λυ J=>cw α λb143 o144=>KZ υ b143 (o144+0) λc145=>bS (decide (c145=61)) (cw α λb146 o147=>wk υ b146 (o147+1) λn148=>cw α λb149 o150=>wk υ b149 (o150+2) λn151=>bS (decide (n148=n151)) (j4 J λS152 w153=>eo S152 b9 0 λv154=>eo S152 b39 3 λv155=>fC 179 #[v154,v155] w153 λw156=>bJ (G+1)/\Z (G+1) w156/\H (G+1) w156< H G V) (cw α λb157 o158=>zR J b157 (o158+0) λc159=>Hg (decide (c159=61)) (cw α λb160 o161=>zR J b160 (o161+0) λc162=>bS (decide (c162=42)) (cY J b39 3 λv163=>Hb 181 #[v163] J λq164 φ=>bS q164 (bJ (G+1)/\Z (G+1) φ/\H (G+1) φ< H G V) (j4 φ λδ w167=>eo δ b9 0 λv168=>eo δ b9 0 λv169=>cw v169 λb170 o171=>eo δ b170 (o171+1) λv172=>dQ w167 (.cells #[(.pointer (some ⟨b39,0,none⟩))] 156) λb173 w174=>δ w174/\nJ 156 1 8 w174 v172 (.slice (some ⟨b173,0,none⟩) 1 1) λv180 w181=>δ w181/\cw v168 λb182 o183=>aB v180=true/\jW w181 b182 (o183+1) v180 λw185=>bJ (G+1)/\Z (G+1) w185/\H (G+1) w185< H G V)) (j4 J λε w187=>eo ε b9 0 λv188=>eo ε b9 0 λv189=>cw v189 λb190 o191=>eo ε b190 (o191+1) λv192=>dQ w187 (.cells #[(.pointer (some ⟨b39,0,none⟩))] 156) λb193 w194=>ε w194/\nJ 156 1 8 w194 v192 (.slice (some ⟨b193,0,none⟩) 1 1) λv200 w201=>ε w201/\cw v188 λb202 o203=>aB v200=true/\jW w201 b202 (o203+1) v200 λw205=>bJ (G+1)/\Z (G+1) w205/\H (G+1) w205< H G V)) (cY J b39 3 λv206=>Hb 181 #[v206] J λq207 χ=>bS q207 (bJ (G+1)/\Z (G+1) χ/\H (G+1) χ< H G V) (j4 χ λζ w210=>eo ζ b9 0 λv211=>eo ζ b9 0 λv212=>cw v212 λb213 o214=>eo ζ b213 (o214+1) λv215=>dQ w210 (.cells #[(.pointer (some ⟨b39,0,none⟩))] 156) λb216 w217=>ζ w217/\nJ 156 1 8 w217 v215 (.slice (some ⟨b216,0,none⟩) 1 1) λv223 w224=>ζ w224/\cw v211 λb225 o226=>aB v223=true/\jW w224 b225 (o226+1) v223 λw228=>bJ (G+1)/\Z (G+1) w228/\H (G+1) w228< H G V)))) (cw α λb229 o230=>zR J b229 (o230+0) λc231=>Hg (decide (c231=61)) (cw α λb232 o233=>zR J b232 (o233+0) λc234=>bS (decide (c234=42)) (cY J b39 3 λv235=>Hb 181 #[v235] J λq236 ψ=>bS q236 (bJ (G+1)/\Z (G+1) ψ/\H (G+1) ψ< H G V) (j4 ψ λη w239=>eo η b9 0 λv240=>eo η b9 0 λv241=>cw v241 λb242 o243=>eo η b242 (o243+1) λv244=>dQ w239 (.cells #[(.pointer (some ⟨b39,0,none⟩))] 156) λb245 w246=>η w246/\nJ 156 1 8 w246 v244 (.slice (some ⟨b245,0,none⟩) 1 1) λv252 w253=>η w253/\cw v240 λb254 o255=>aB v252=true/\jW w253 b254 (o255+1) v252 λw257=>bJ (G+1)/\Z (G+1) w257/\H (G+1) w257< H G V)) (j4 J λθ w259=>eo θ b9 0 λv260=>eo θ b9 0 λv261=>cw v261 λb262 o263=>eo θ b262 (o263+1) λv264=>dQ w259 (.cells #[(.pointer (some ⟨b39,0,none⟩))] 156) λb265 w266=>θ w266/\nJ 156 1 8 w266 v264 (.slice (some ⟨b265,0,none⟩) 1 1) λv272 w273=>θ w273/\cw v260 λb274 o275=>aB v272=true/\jW w273 b274 (o275+1) v272 λw277=>bJ (G+1)/\Z (G+1) w277/\H (G+1) w277< H G V)) (cY J b39 3 λv278=>Hb 181 #[v278] J λq279 ω=>bS q279 (bJ (G+1)/\Z (G+1) ω/\H (G+1) ω< H G V) (j4 ω λι w282=>eo ι b9 0 λv283=>eo ι b9 0 λv284=>cw v284 λb285 o286=>eo ι b285 (o286+1) λv287=>dQ w282 (.cells #[(.pointer (some ⟨b39,0,none⟩))] 156) λb288 w289=>ι w289/\nJ 156 1 8 w289 v287 (.slice (some ⟨b288,0,none⟩) 1 1) λv295 w296=>ι w296/\cw v283 λb297 o298=>aB v295=true/\jW w296 b297 (o298+1) v295 λw300=>bJ (G+1)/\Z (G+1) w300/\H (G+1) w300< H G V))))) (j4 V λμ w302=>eo μ b9 0 λv303=>eo μ b9 0 λv304=>cw v304 λb305 o306=>eo μ b305 (o306+0) λv307=>xL 183 #[v307,(Value.func (Fn.func 184) #[] #[(.pointer (some ⟨b9,0,none⟩))])] w302 λv308 w309=>μ w309/\cw v303 λb310 o311=>aB v308=true/\jW w309 b310 (o311+0) v308 λw313=>cY w313 b9 0 λv314=>R v314 w313)):
  PW 139 #[l1] w (aw [.v] R):=
 IJ (a6 [(3,[(22,.i)]),(8,[(50,.i)])] [] [(5,true,.lt 0 (.lt 1 (.lt 2 (.lt 3 (.lt 4 (.lt 5 (.lt 6 (.lt 7 (.lt 8 (.lt 9 (.lt 10 (.lt 11 (.lt 12 (.one .g 13 (.lt 14 .done))))))))))))))),(14,true,.lt 0 (.lt 1 (.lt 2 (.lt 3 (.lt 4 (.lt 5 (.lt 6 (.lt 7 (.lt 8 (.lt 9 (.lt 10 (.lt 11 (.lt 12 (.lt 13 (.one .g 14 (.lt 15 (.lt 16 (.one .n 17 .done)))))))))))))))))),(17,true,.lt 0 (.lt 1 (.lt 2 (.lt 3 (.lt 4 (.lt 5 (.one .g 6 (.one .g 7 (.lt 8 (.lt 9 (.one .n 10 .done))))))))))),(20,true,.lt 0 (.lt 1 (.lt 2 (.lt 3 (.lt 4 (.lt 5 (.lt 6 (.one .g 7 .done)))))))),(22,true,.lt 0 (.lt 1 (.lt 2 (.lt 3 (.lt 4 (.lt 5 (.one .g 6 (.one .g 7 (.lt 8 (.lt 9 (.one .n 10 .done))))))))))),(23,true,.lt 0 (.lt 1 (.lt 2 (.lt 3 (.lt 4 (.lt 5 (.lt 6 (.lt 7 (.lt 8 (.lt 9 (.lt 10 (.lt 11 (.lt 12 (.lt 13 (.lt 14 (.lt 15 (.lt 16 .done))))))))))))))))),(24,true,.lt 0 (.lt 1 (.lt 2 (.lt 3 (.lt 4 (.one .n 5 .done)))))),(27,true,.lt 0 (.lt 1 (.lt 2 (.lt 3 (.lt 4 (.lt 5 (.one .g 6 (.lt 7 (.lt 8 (.one .n 9 .done))))))))))]) [.tmp 2 .v] [.v l1] Tryz.func139 (by kernel_rfl) h
end Go.Proofs.YtdecokaadekjnaaGreat
namespace Go.Proofs.YtdecokaadekjnaaGreat
open Go Go.RowKit
namespace Lv
def sz:Lv->Nat
 | nil=>0 | thr _ _ _ _ r n=>r.sz+n.sz+1 | sum ps n=>ps.sz+n.sz+1 | part _ q n=>q.sz+n.sz+1
def sh:Bool->Lv->Bool
 | _,nil=>true
 | true,thr _ _ _ _ r n=>sh true r&&sh true n
 | true,sum ps n=>sh false ps&&sh true n
 | false,part _ q n=>sh true q&&sh false n
 | _,_=>false
def bf:Lv->List Lv
 | nil=>[] | thr k a b o r n=>thr k a b o r nil::bf n | sum ps n=>sum ps nil::bf n | part o q n=>part o q nil::bf n
theorem cG:∀l:Lv,l.bf.length=l.len
 | nil=>rfl
 | thr _ _ _ _ _ n=>by simp only [bf,len,Mm,cG n]
 | sum _ n=>by simp only [bf,len,Mm,cG n]
 | part _ _ n=>by simp only [bf,len,Mm,cG n]
theorem dT:∀(l:Lv),∀e∈l.bf,e.sz<=l.sz
 | nil,_,h=>by cases h
 | thr k a b o r n,e,h=>by
  rcases MH.1 h with rfl | h
  ·simp only [sz];omega
  ·have :=dT n e h;simp only [sz];omega
 | sum ps n,e,h=>by
  rcases MH.1 h with rfl | h
  ·simp only [sz];omega
  ·have :=dT n e h;simp only [sz];omega
 | part o q n,e,h=>by
  rcases MH.1 h with rfl | h
  ·simp only [sz];omega
  ·have :=dT n e h;simp only [sz];omega
theorem lJ (x:Nat):∀l:Lv,l.has x=l.bf.any (·.has x)
 | nil=>rfl
 | thr k a b o r n=>by simp [bf,has,lJ x n]
 | sum ps n=>by simp [bf,has,lJ x n]
 | part o q n=>by simp [bf,has,lJ x n]
theorem jK:∀{l:Lv},l.sh true=true->∀e∈l.bf,(∃k a b o r,e=thr k a b o r nil/\r.sh true=true)\/∃ps,e=sum ps nil/\ps.sh false=true
 | nil,_,_,h=>by cases h
 | thr k a b o r n,G,e,h=>by
  simp only [sh,Mp]at G;rcases MH.1 h with rfl | h
  ·exact .inl ⟨k,a,b,o,r,rfl,G.1⟩
  ·exact jK G.2 e h
 | sum ps n,G,e,h=>by
  simp only [sh,Mp]at G;rcases MH.1 h with rfl | h
  ·exact .inr ⟨ps,rfl,G.1⟩
  ·exact jK G.2 e h
 | part ..,G,_,_=>by cases G
theorem lQ:∀{l:Lv},l.sh false=true->∀e∈l.bf,∃o q,e=part o q nil/\q.sh true=true
 | nil,_,_,h=>by cases h
 | part o q n,G,e,h=>by
  simp only [sh,Mp]at G;rcases MH.1 h with rfl | h
  ·exact⟨o,q,rfl,G.1⟩
  ·exact lQ G.2 e h
 | thr ..,G,_,_=>by cases G
 | sum ..,G,_,_=>by cases G
theorem gB {b:Bool}:∀{l m:Lv},l.sh b=true->m.sh b=true->(l.app m).sh b=true
 | nil,_,_,h=>h
 | thr _ _ _ _ r n,m,G,H=>by
  cases b
  ·cases G
  ·simp only [sh,app,Mp]at*;exact⟨G.1,gB G.2 H⟩
 | sum ps n,m,G,H=>by
  cases b
  ·cases G
  ·simp only [sh,app,Mp]at*;exact⟨G.1,gB G.2 H⟩
 | part o q n,m,G,H=>by
  cases b
  ·simp only [sh,app,Mp]at*;exact⟨G.1,gB G.2 H⟩
  ·cases G
end Lv
theorem aN.cons {A B:Type}{R:A->B->Prop}{a:A}{b:B}{l:List A}{m:List B}(h:R a b)(G:aN R l m):aN R (a::l) (b::m):=(aN.one h).append G
theorem af.bf {D:Nat->Prop}{w:World}:∀{l:Lv} {ts:List Value},af D w l ts->aN (λe v=>af D w e [v]) l.bf ts
 | .nil,_,h=>by cases h;exact aN.nil
 | .thr k a b o r n,_,⟨t,G,a',W,vr,H,J,V,h4,h5⟩=>by subst H;exact aN.cons ⟨t,[],a',W,vr,rfl,J,V,h4,rfl⟩ (af.bf (l:=n) h5)
 | .sum ps n,_,⟨t,G,a',W,vp,us,H,J,V,h4,h5⟩=>by subst H;exact aN.cons ⟨t,[],a',W,vp,us,rfl,J,V,h4,rfl⟩ (af.bf (l:=n) h5)
 | .part o q n,_,⟨v,G,H,J,V⟩=>by subst H;exact aN.cons ⟨v,[],rfl,J,rfl⟩ (af.bf (l:=n) V)
theorem dV.ex {D:Nat->Prop}{w w':World}{v:Value}{l:List Value}(h:dV D w v l)(x:Ex w w'):dV D w' v l:=h.kp (Kp.ah x λ _=>False) λ _ _ h=>h
def zB (w:World)(f:Nat)(ca:List Value)(ts:List Value)(p:Nat->Bool):Prop:=
 ∀(i:Nat) (x:Value) (w1:World),ts[i]?=some x->Ex w w1->∀{R:Bool->PV},(∀w2,Ex w1 w2->R (p i) w2)->PW f (List.toArray ([x]++ca)) w1 (aw [.b] R)
theorem iU {n:Nat}{p:Nat->Bool}:(List.range n).any p=true↔∃i,i< n/\p i=true:=by
 simp [Ow,NV]
theorem Gm {D:Nat->Prop}{w:World}{s:Value}{ts:List Value}(Z:dV D w s ts){f:Nat}{ca:List Value}(hf:hasR fV f=true){p:Nat->Bool}(hp:zB w f ca ts p)(hl:ts.length<=1099511627776){R:Bool->PV}(hR:∀w',Ex w w'->R ((List.range ts.length).any p) w'):
  PW 185 #[s,.func (.func f) #[] (List.toArray ca)] w (aw [.b] R):=by
 refine e9 _ _ w R ?_;dsimp only [go_sem];dsimp only [go_sem,UInt8.reduceOfNat,UInt32.reduceOfNat,Nat.reduceAdd];refine gm _ _ w _ ?_;dsimp only [go_sem];dsimp only [go_sem,UInt8.reduceOfNat,UInt32.reduceOfNat,Nat.reduceAdd];obtain⟨a,cap,e⟩:=Z.slice;refine⟨a,_,cap,e,λx w'=>∃i:Nat,x=i/\i<=ts.length/\Ex w w'/\∀j< i,p j=false,λx _=>(ts.length - x).toNat,⟨0,rfl,by omega,Ex.refl w,λj h=>by omega⟩,λx w1 hI=>?_⟩;obtain⟨i,rfl,hi,H,hn⟩:=hI;refine⟨λJ=>?_,λJ=>?_⟩
 ·have J:=MN J;have G:i< ts.length:=by omega
  refine(Z.ex H).get (i:=i) (x:=ts[i]) (by omega) (by simp [G]) ⟨f,ca,rfl,hf,hp i _ w1 (Mo G) H λw2 V=>⟨λW=>?_,λW=>⟨by omega,⟨i+1,by omega,by omega,Ex.trans H V,λj hj=>?_⟩,by dsimp only;omega⟩⟩⟩
  ·have :=hR w2 (Ex.trans H V);rw [iU.2 ⟨i,G,W⟩]at this;have e:decide ((0:Int)<=i)=true:=N5 (by omega);show R (decide ((0:Int)<=i)) w2;rw [e];exact this
  ·by_cases h:j=i
   ·subst h;exact W
   ·exact hn j (by omega)
 ·have J:=MO J;have :=hR w1 H;have e:(List.range ts.length).any p=false:=by
   rw [Bool.eq_false_iff];intro h;obtain⟨j,hj,h⟩:=iU.1 h;rw [hn j (by omega)]at h;cases h
  rw [e]at this;exact this
theorem G9 {D:Nat->Prop}{w:World}{s:Value}{ts:List Value}(Z:dV D w s ts){f:Nat}{ca:List Value}(hf:hasR fV f=true){p:Nat->Bool}(hp:zB w f ca ts p)(hl:ts.length<=1099511627776){R:Bool->PV}(hR:∀w',Ex w w'->R ((List.range ts.length).any p) w'):
  PW 221 #[s,.func (.func f) #[] (List.toArray ca)] w (aw [.b] R):=by
 refine fH _ _ w R ?_;dsimp only [go_sem];dsimp only [go_sem,UInt8.reduceOfNat,UInt32.reduceOfNat,Nat.reduceAdd];refine gH _ _ w _ ?_;dsimp only [go_sem];dsimp only [go_sem,UInt8.reduceOfNat,UInt32.reduceOfNat,Nat.reduceAdd];obtain⟨a,cap,e⟩:=Z.slice;refine⟨a,_,cap,e,λx w'=>∃i:Nat,x=i/\i<=ts.length/\Ex w w'/\∀j< i,p j=false,λx _=>(ts.length - x).toNat,⟨0,rfl,by omega,Ex.refl w,λj h=>by omega⟩,λx w1 hI=>?_⟩;obtain⟨i,rfl,hi,H,hn⟩:=hI;refine⟨λJ=>?_,λJ=>?_⟩
 ·have J:=MN J;have G:i< ts.length:=by omega
  refine(Z.ex H).get (i:=i) (x:=ts[i]) (by omega) (by simp [G]) ⟨f,ca,rfl,hf,hp i _ w1 (Mo G) H λw2 V=>⟨λW=>?_,λW=>⟨by omega,⟨i+1,by omega,by omega,Ex.trans H V,λj hj=>?_⟩,by dsimp only;omega⟩⟩⟩
  ·have :=hR w2 (Ex.trans H V);rw [iU.2 ⟨i,G,W⟩]at this;have e:decide ((0:Int)<=i)=true:=N5 (by omega);show R (decide ((0:Int)<=i)) w2;rw [e];exact this
  ·by_cases h:j=i
   ·subst h;exact W
   ·exact hn j (by omega)
 ·have J:=MO J;have :=hR w1 H;have e:(List.range ts.length).any p=false:=by
   rw [Bool.eq_false_iff];intro h;obtain⟨j,hj,h⟩:=iU.1 h;rw [hn j (by omega)]at h;cases h
  rw [e]at this;exact this
def KK {A:Type}(l:List A)(f:A->Bool)(i:Nat):Bool:=(l[i]?.map f).getD false
theorem oh {A:Type}{l:List A}{f:A->Bool}{i:Nat}(h:i< l.length):KK l f i=f l[i]:=by unfold KK;rw [Mo h];rfl
theorem wj {A:Type}{f:A->Bool}(l:List A):(List.range l.length).any (KK l f)=l.any f:=by
 rw [Nt,iU,Ow];constructor
 ·rintro⟨i,hi,h⟩
  rw [oh hi]at h;exact⟨_,Mx hi,h⟩
 ·rintro⟨x,G,h⟩
  obtain⟨i,hi,e⟩:=Np.1 G;exact⟨i,hi,by rw [oh hi,e];exact h⟩
theorem BO {w w':World}{b n e:Nat}(hb:b=w.heap.size)(hw:w'=w.alloc (.cells #[iv n] e)):Ex w w'/\b< w'.heap.size/\w'.cell? ⟨b,0,none⟩=some (iv n):=by
 subst hb hw;exact⟨Ex.alloc w _,by rw [size_alloc];omega,aa rfl⟩
def B3 (n:Nat):Prop:=∀{D:Nat->Prop} {w:World} {v:Value} {o:List Nat} {l:Lv} {x:Nat} {R:Bool->PV},l.sz<=n->l.sh true=true->fK D w v o (af D w l)->l.sz<=1099511627776->(∀w',Ex w w'->R (l.has x) w')->PW 220 #[v,iv x] w (aw [.b] R)
def Dc (n:Nat):Prop:=∀{D:Nat->Prop} {w:World} {v:Value} {l:Lv} {x:Nat} {R:Bool->PV},l.sz<=n->((∃k a b o r,l= .thr k a b o r .nil/\r.sh true=true)\/∃ps,l= .sum ps .nil/\ps.sh false=true)->af D w l [v]->l.sz<=1099511627776->
 (∀w',Ex w w'->R (l.has x) w')->PW 187 #[v,iv x] w (aw [.b] R)
theorem nC:∀l:Lv,l.len<=l.sz
 | .nil=>Mu _
 | .thr _ _ _ _ r n=>by have :=nC n;simp only [Lv.len,Lv.sz];omega
 | .sum ps n=>by have :=nC n;simp only [Lv.len,Lv.sz];omega
 | .part o q n=>by have :=nC n;simp only [Lv.len,Lv.sz];omega
theorem fK.ex {D:Nat->Prop}{w w':World}{v:Value}{o:List Nat}{l:Lv}(h:fK D w v o (af D w l))(x:Ex w w'):fK D w' v o (af D w' l):=az.ex (L:=(o,l)) h x
theorem IN {n:Nat}(ht:Dc n){D:Nat->Prop}{w:World}{l:Lv}{ts:List Value}{x b3:Nat}(hn:l.sz<=n)(V:l.sh true=true)(h:af D w l ts)(α:l.sz<=1099511627776)(hb:b3< w.heap.size)(hc:w.cell? ⟨b3,0,none⟩=some (iv x)):
  zB w 240 [ptr b3] ts (KK l.bf (Lv.has x)):=by
 intro i v w1 hi Z R hR;have H:=h.bf;obtain⟨W,_⟩:=No.1 hi;have G:i< l.bf.length:=by rw [H.1];exact W
 have he:=H.2 i l.bf[i] v (Mo G) hi;have J:=Mx G;have hs:=Lv.dT l _ J;rw [oh G]at hR;refine mi v (ptr b3) w1 R ?_;dsimp only [go_sem];dsimp only [go_sem,UInt8.reduceOfNat,UInt32.reduceOfNat,Nat.reduceAdd];refine⟨b3,0,rfl,x,by rw [Z.cell (show b3< _ from hb)];exact hc,?_⟩;exact ht (by omega) (Lv.jK V _ J) (he.ex Z) (by omega) hR
theorem vD {n:Nat}(ht:Dc n):B3 n:=by
 intro D w v o l x R hn G h H hR;refine oT v x w R ?_;dsimp only [go_sem];dsimp only [go_sem,UInt8.reduceOfNat,UInt32.reduceOfNat,Nat.reduceAdd];intro b3 w4 J V;obtain⟨W,l4,c4⟩:=BO J V;obtain⟨b,vo,vt,ts,rfl,h2,h3,h4,h5,h6,h7,Z⟩:=h.ex W;refine⟨b,0,rfl,vt,h5,?_⟩;have hlen:=Z.len;have :=nC l;refine Gm (ca:=[ptr b3]) h7 (by kernel_rfl) (IN ht hn G Z H l4 c4) (by omega) λw5 x5=>?_
 rw [hlen,<-Lv.cG,wj,<-Lv.lJ];exact hR w5 (Ex.trans W x5)
theorem Iq {n:Nat}(ht:B3 n){D:Nat->Prop}{w:World}{l:Lv}{ts:List Value}{x b3:Nat}(hn:l.sz<=n)(V:l.sh false=true)(h:af D w l ts)(β:l.sz<=1099511627776)(hb:b3< w.heap.size)(hc:w.cell? ⟨b3,0,none⟩=some (iv x)):
  zB w 222 [ptr b3] ts (KK l.bf (Lv.has x)):=by
 intro i v w1 hi hx R hR;have H:=h.bf;obtain⟨W,_⟩:=No.1 hi;have G:i< l.bf.length:=by rw [H.1];exact W
 have he:=H.2 i l.bf[i] v (Mo G) hi;have J:=Mx G;have hs:=Lv.dT l _ J;rw [oh G]at hR;refine j8 v (ptr b3) w1 R ?_;dsimp only [go_sem];dsimp only [go_sem,UInt8.reduceOfNat,UInt32.reduceOfNat,Nat.reduceAdd];refine⟨b3,0,rfl,x,by rw [hx.cell (show b3< _ from hb)];exact hc,?_⟩;obtain⟨o,q,e,hq⟩:=Lv.lQ V _ J;rw [e]at he hR hs;obtain⟨v',Z,h1,h2,_⟩:=he;obtain⟨rfl,rfl⟩:v=v'/\([]:List Value)=Z:=by simpa using h1
 simp only [Lv.sz]at hs;refine ht (by omega) hq (fK.ex h2 hx) (by omega) λw2 α=>?_
 have :=hR w2 α;simpa [Lv.has]using this
def HX (k:K)(a b x:Nat):Bool:=(k== .s||k== .m||k== .r)&&(a==x||b==x)
theorem Dh {n:Nat}(ht:B3 n):Dc (n+1):=by
 intro D w v l x R hn hl h ν hR;refine mY v x w R ?_;dsimp only [go_sem];dsimp only [go_sem,UInt8.reduceOfNat,UInt32.reduceOfNat,Nat.reduceAdd];intro b3 W ψ ω;obtain⟨x4,l4,c4⟩:=BO ψ ω;rcases hl with⟨k,a,b,o,r,rfl,hr⟩ | ⟨ps,rfl,hps⟩
 ·obtain⟨_,_,a',b',vr,e,θ,hab,ξ,_⟩:=h.ex x4;obtain⟨rfl,_⟩:=Ny e;simp only [Lv.sz]at hn ν;have ζ:∀q w',Ex W w'->q=r.has x->HX k a b x=false->R q w':=λq w' H hq hn=>by
   have :=hR w' (Ex.trans x4 H);simp only [Lv.has]at this;unfold HX at hn;rw [hn,O9,OT,<-hq]at this;exact this
  have γ:∀w',Ex W w'->HX k a b x=true->R true w':=λw' H hn=>by
   have :=hR w' (Ex.trans x4 H);simp only [Lv.has]at this;unfold HX at hn;rw [hn,Bool.true_or,Bool.true_or]at this;exact this
  obtain⟨g,rfl,g2,g3,g4,g5,g6,g7,g8⟩:=θ;have ι:∀q:Bool,q=(k== .s||k== .m||k== .r)->∀w',Ex W w'->((k== .s||k== .m||k== .r)=true->(a'=a/\b'=b))->True:=λ _ _ _ _ _=>trivial
  have ο:(k== .s||k== .m||k== .r)=true->a'=a/\b'=b:=by
   intro hk;rcases hab with rfl | rfl | h
   ·cases hk
   ·cases hk
   ·exact h
  refine⟨λq w'=>Ex W w'/\q=(k== .s||k== .m||k== .r),⟨g,0,rfl,_,g4,?_⟩,λq α hJ=>?_⟩
  ·cases k
   ·exact dE rfl ⟨Ex.refl _,rfl⟩
   ·exact ck (by dsimp only [K.byte];decide) ⟨g,0,rfl,_,g4,ck (by dsimp only [K.byte];decide) ⟨g,0,rfl,_,g4,Ex.refl _,rfl⟩⟩
   ·exact ck (by dsimp only [K.byte];decide) ⟨g,0,rfl,_,g4,ck (by dsimp only [K.byte];decide) ⟨g,0,rfl,_,g4,Ex.refl _,rfl⟩⟩
   ·exact ck (by dsimp only [K.byte];decide) ⟨g,0,rfl,_,g4,dE rfl ⟨Ex.refl _,rfl⟩⟩
   ·exact ck (by dsimp only [K.byte];decide) ⟨g,0,rfl,_,g4,ck (by dsimp only [K.byte];decide) ⟨g,0,rfl,_,g4,Ex.refl _,rfl⟩⟩
  obtain⟨β,hq⟩:=hJ;have cg:∀{i:Nat} {u:Value} {w':World},Ex W w'->W.cell? ⟨g,i,none⟩=some u->w'.cell? ⟨g,i,none⟩=some u:=λH h=>by rw [H.cell (show g< _ from g3)];exact h
  have cb:∀{w':World},Ex W w'->w'.cell? ⟨b3,0,none⟩=some (iv x):=λH=>by rw [H.cell (show b3< _ from l4)];exact c4
  have dn:∀m:Nat,decide ((m:Int)=(x:Int))=(m==x):=λm=>by
   rw [Nt,decide_eq_true_iff,OY];omega
  refine⟨λw'=>Ex W w'/\HX k a b x=false,⟨λw'=>Ex W w',λς J=>⟨J▸Ex.trans β (Ex.drew α),λκ=>?_,λυ=>?_⟩⟩,λδ hJ=>?_⟩
  ·have μ:Ex W ς:=J▸Ex.trans β (Ex.drew α);rw [κ]at hq;obtain⟨rfl,rfl⟩:=ο hq.symm;refine⟨g,0,rfl,a',λw' H=>cg H g5,x,λw' H=>cb H,λha=>⟨g,0,rfl,b',λw' H=>cg H g6,x,λw' H=>cb H,λhb=>?_,λhb=>?_⟩,λha=>?_⟩
   ·rw [dn]at hb;exact γ _ μ (by unfold HX;rw [<-hq,hb];simp)
   ·rw [dn]at ha hb;exact⟨μ,by unfold HX;rw [ha,hb];simp⟩
   ·rw [dn]at ha;exact γ _ μ (by unfold HX;rw [<-hq,ha];simp)
  ·rw [υ]at hq;exact⟨J▸Ex.trans β (Ex.drew α),by unfold HX;rw [<-hq];simp⟩
  obtain⟨ε,ι⟩:=hJ;obtain⟨br,hvr⟩:∃br,vr=ptr br:=by obtain⟨b,_,_,_,e,_⟩:=ξ;exact⟨b,e⟩
  refine⟨λw'=>Ex W w',λφ V=>⟨V▸Ex.trans ε (Ex.drew δ),g,0,rfl,vr,λw' H=>cg H g7,_,hvr,λ _=>⟨g,0,rfl,vr,λw' H=>cg H g7,x,λw' H=>cb H,?_⟩,λhc=>(by cases hc)⟩⟩;have G:Ex W φ:=V▸Ex.trans ε (Ex.drew δ);refine ht (by omega) hr (fK.ex ξ G) (by omega) λw40 Z=>⟨Ex.trans G Z,λhq=>⟨g,0,rfl,_,λw' H=>cg H g8,?_⟩,λhq=>⟨Ex.trans G Z,ζ _ _ (Ex.trans G Z) hq.symm ι⟩⟩
  refine G9 (D:=D) (ts:=[]) (ca:=[ptr b3]) (p:=λ _=>false) (.inl ⟨rfl,rfl⟩) (by kernel_rfl) (λi z w1 hi=>by simp at hi) (by simp) λw45 η=>⟨Ex.trans (Ex.trans G Z) η,ζ _ _ (Ex.trans (Ex.trans G Z) η) (by rw [hq];rfl) ι⟩
 ·obtain⟨_,_,a',b',vp,us,e,θ,hsl,χ,_⟩:=h.ex x4;obtain⟨rfl,_⟩:=Ny e;simp only [Lv.sz]at hn ν;obtain⟨g,rfl,g2,g3,g4,g5,g6,g7,g8⟩:=θ;have cg:∀{i:Nat} {u:Value} {w':World},Ex W w'->W.cell? ⟨g,i,none⟩=some u->w'.cell? ⟨g,i,none⟩=some u:=λH h=>by rw [H.cell (show g< _ from g3)];exact h
  refine⟨λq w'=>Ex W w'/\q=false,⟨g,0,rfl,_,g4,ck (by decide) ⟨g,0,rfl,_,g4,ck (by decide) ⟨g,0,rfl,_,g4,Ex.refl _,rfl⟩⟩⟩,λq α hJ=>?_⟩;obtain⟨β,rfl⟩:=hJ;refine⟨λw'=>Ex W w',⟨λw'=>Ex W w',λς J=>⟨J▸Ex.trans β (Ex.drew α),λκ=>(by cases κ),λυ=>J▸Ex.trans β (Ex.drew α)⟩⟩,λδ ε=>?_⟩;have G:Ex W δ.drew:=Ex.trans ε (Ex.drew δ);refine⟨λw'=>Ex W w',λφ V=>⟨V▸G,g,0,rfl,_,λw' H=>cg H g7,_,rfl,λhc=>(by cases hc),λ _=>⟨V▸G,g,0,rfl,vp,λw' H=>cg H g8,?_⟩⟩⟩;subst V;have hlen:=χ.len;have :=nC ps;refine G9 (ca:=[ptr b3]) (hsl.ex G) (by kernel_rfl) (Iq ht (by omega) hps (χ.ex G) (by omega) (by have :=G.size;omega) (by rw [G.cell (show b3< _ from l4)];exact c4)) (by omega) λw5 x5=>⟨Ex.trans G x5,?_⟩
  rw [hlen,<-Lv.cG,wj,<-Lv.lJ];have :=hR w5 (Ex.trans x4 (Ex.trans G x5));simpa [Lv.has]using this
theorem BT:∀n,Dc n
 | 0=>by
  intro G H h J hR;rcases H with⟨k,a,b,o,r,rfl,hr⟩ | ⟨ps,rfl,V⟩<;>simp [Lv.sz]at G
 | n+1=>Dh (vD (BT n))
theorem Jy (n:Nat):B3 n:=vD (BT n)
namespace Lv
def tot:Lv->Nat
 | nil=>0 | thr _ _ _ o r n=>o.length+r.tot+n.tot+1 | sum ps n=>ps.tot+n.tot+1 | part o q n=>o.length+q.tot+n.tot+1
theorem jB:∀l:Lv,l.sz<=l.tot
 | nil=>Mu _
 | thr _ _ _ o r n=>by have :=jB r;have :=jB n;simp only [sz,tot];omega
 | sum ps n=>by have :=jB ps;have :=jB n;simp only [sz,tot];omega
 | part o q n=>by have :=jB q;have :=jB n;simp only [sz,tot];omega
theorem bR:∀l m:Lv,(l.app m).tot=l.tot+m.tot
 | nil,m=>by simp [app,tot]
 | thr _ _ _ o r n,m=>by simp only [app,tot,bR n m];omega
 | sum ps n,m=>by simp only [app,tot,bR n m];omega
 | part o q n,m=>by simp only [app,tot,bR n m];omega
def take:Nat->Lv->Lv
 | 0,_=>nil
 | _+1,nil=>nil
 | i+1,thr k a b o r n=>thr k a b o r (n.take i)
 | i+1,sum ps n=>sum ps (n.take i)
 | i+1,part o q n=>part o q (n.take i)
theorem take_succ:∀(l:Lv) (i:Nat) (h:i< l.bf.length),l.take (i+1)=(l.take i).app (l.bf[i])
 | nil,_,h=>by simp [bf]at h
 | thr k a b o r n,0,_=>by simp [take,bf,app]
 | sum ps n,0,_=>by simp [take,bf,app]
 | part o q n,0,_=>by simp [take,bf,app]
 | thr k a b o r n,i+1,h=>by
  simp only [bf,Mm]at h;have :=take_succ n i (by omega);rw [take,this];rfl
 | sum ps n,i+1,h=>by
  simp only [bf,Mm]at h;have :=take_succ n i (by omega);rw [take,this];rfl
 | part o q n,i+1,h=>by
  simp only [bf,Mm]at h;have :=take_succ n i (by omega);rw [take,this];rfl
theorem cZ:∀(l:Lv),l.take l.bf.length=l
 | nil=>rfl
 | thr k a b o r n=>by simp only [bf,Mm,take,cZ n]
 | sum ps n=>by simp only [bf,Mm,take,cZ n]
 | part o q n=>by simp only [bf,Mm,take,cZ n]
theorem oJ {b:Bool}:∀(l:Lv) (i:Nat),l.sh b=true->(l.take i).sh b=true
 | _,0,_=>rfl
 | nil,_+1,_=>rfl
 | thr _ _ _ _ r n,i+1,h=>by
  cases b
  ·cases h
  ·simp only [sh,take,Mp]at*;exact⟨h.1,oJ n i h.2⟩
 | sum ps n,i+1,h=>by
  cases b
  ·cases h
  ·simp only [sh,take,Mp]at*;exact⟨h.1,oJ n i h.2⟩
 | part o q n,i+1,h=>by
  cases b
  ·simp only [sh,take,Mp]at*;exact⟨h.1,oJ n i h.2⟩
  ·cases h
theorem fq:∀(l:Lv) (i:Nat),(l.take i).tot<=l.tot
 | _,0=>Nl _
 | nil,_+1=>Mu _
 | thr _ _ _ _ r n,i+1=>by have :=fq n i;simp only [take,tot];omega
 | sum ps n,i+1=>by have :=fq n i;simp only [take,tot];omega
 | part o q n,i+1=>by have :=fq n i;simp only [take,tot];omega
theorem fP:∀(l:Lv),∀e∈l.bf,e.tot<=l.tot
 | nil,_,h=>by cases h
 | thr k a b o r n,e,h=>by
  rcases MH.1 h with rfl | h
  ·simp only [tot];omega
  ·have :=fP n e h;simp only [tot];omega
 | sum ps n,e,h=>by
  rcases MH.1 h with rfl | h
  ·simp only [tot];omega
  ·have :=fP n e h;simp only [tot];omega
 | part o q n,e,h=>by
  rcases MH.1 h with rfl | h
  ·simp only [tot];omega
  ·have :=fP n e h;simp only [tot];omega
theorem lz:∀{l:Lv},l.sh true=true->l.ft=true
 | nil,_=>rfl
 | thr _ _ _ _ r n,h=>by simp only [sh,Mp]at h;exact lz (l:=n) h.2
 | sum ps n,h=>by simp only [sh,Mp]at h;exact lz (l:=n) h.2
 | part ..,h=>by cases h
theorem tz (o:List Nat)(r:List Nat×Lv):(kept o r).1.length+(kept o r).2.tot<=o.length+r.1.length+r.2.tot:=by
 unfold kept;have :=N1 (λx=>r.2.has x) (o++r.1);rw [Mt]at this;dsimp only;omega
theorem lH (o:List Nat)(q m:Lv):prt o q m=(prt o q nil).app m:=by
 unfold prt;split
 ·rfl
 ·split
  ·rw [aX]
  ·rfl
 ·rfl
theorem ec:∀(l:Lv),(tid l).1.length+(tid l).2.tot<=l.tot
 | nil=>Mu _
 | thr k a b o r n=>by
  have G:=ec r;have H:=ec n;have J:=tz o (tid r);simp only [tid,tot];split
  ·simp only [Mt,bR];omega
  ·split
   ·omega
   ·simp only [tot];omega
 | sum ps n=>by
  have G:=ec ps;have H:=ec n;simp only [tid,tot];unfold spl;split
  ·omega
  ·rename_i o q e;rw [e]at G;simp only [tot]at G;simp only [Mt,bR];omega
  ·simp only [tot];omega
 | part o q n=>by
  have G:=ec q;have H:=ec n;have J:=tz o (tid q);simp only [tid,tot];rw [lH,bR];have:(prt (kept o (tid q)).1 (kept o (tid q)).2 nil).tot<=(kept o (tid q)).1.length+(kept o (tid q)).2.tot+1:=by
   unfold prt;split
   ·simp [tot]
   ·rename_i ps e;rw [e];split
    ·simp only [bR,tot];omega
    ·simp only [tot];omega
   ·simp only [tot];omega
  simp only [MB];omega
theorem yR:∀{l:Lv} (m:Lv),l.sh false=true->(tid (l.app m)).2=(tid l).2.app (tid m).2
 | nil,m,_=>rfl
 | part o q n,m,h=>by
  simp only [sh,Mp]at h;simp only [app,tid,yR m h.2];rw [lH,lH _ _ (tid n).2,ch]
 | thr ..,_,h=>by cases h
 | sum ..,_,h=>by cases h
theorem dB:∀(l:Lv) (b:Bool),l.sh b=true->(tid l).2.sh b=true
 | nil,b,_=>by cases b<;>rfl
 | thr k a J o r n,b,h=>by
  cases b
  ·cases h
  ·simp only [sh,Mp]at h;simp only [tid];split
   ·exact gB (dB r true h.1) (dB n true h.2)
   ·split
    ·exact dB n true h.2
    ·simp only [sh,Mp];exact⟨dB r true h.1,dB n true h.2⟩
 | sum ps n,b,h=>by
  cases b
  ·cases h
  ·simp only [sh,Mp]at h;have G:=dB ps false h.1;have H:=dB n true h.2;simp only [tid];unfold spl;split
   ·exact H
   ·rename_i o q e;rw [e]at G;simp only [sh,Mp]at G;exact gB G.1 H
   ·simp only [sh,Mp];exact⟨G,H⟩
 | part o q n,b,h=>by
  cases b
  ·simp only [sh,Mp]at h;have G:=dB q true h.1;have H:=dB n false h.2;simp only [tid];rw [lH];refine gB ?_ H;unfold prt;split
   ·rfl
   ·rename_i ps e;have G:(kept o (tid q)).2.sh true=true:=G;rw [e]at G;simp only [sh,Mp]at G;split
    ·rw [aX];exact G.1
    ·simp only [sh,Mp];exact⟨by rw [e];simp [sh,G.1],trivial⟩
   ·simp only [sh,Mp];exact⟨G,trivial⟩
  ·cases h
end Lv
theorem aM.fr {e B:Nat}{w:World}{v:Value}{l:List Value}(h:aM e B w v l){g:Nat}(H:v.ownBlock=some g)(j:Nat):w.frozen? ⟨g,j,none⟩=false:=by
 rcases h.2 with⟨rfl,V⟩ | ⟨J,cap,cur,rfl,hb,G,_⟩
 ·cases H
 ·have e:J=g:=Ng H;subst e;unfold World.frozen?;simp only [G];simp
theorem xI {D:Nat->Prop}{w:World}{v:Value}{o:List Nat}(h:dV D w v (o.map iv))(hl:o.length<=1099511627776){R:Value->PV}(hR:∀v' w',Ex w w'->aM 3 w.heap.size w' v' (o.map iv)->R v' w'):
  PW 180 #[v] w (aw [.v] R):=by
 refine mv v w R ?_;dsimp only [go_sem];dsimp only [go_sem,UInt8.reduceOfNat,UInt32.reduceOfNat,Nat.reduceAdd];rcases id h with⟨rfl,e⟩ | ⟨b,off,cap,rfl,h1,h2,h3⟩
 ·exact⟨_,_,_,rfl,λ _=>hR _ _ (Ex.refl w) (e▸aM.nil _ _ _),λh=>(by cases h)⟩
 ·refine⟨_,_,_,rfl,λh=>(by cases h),λ _ b5 W J G=>?_⟩;have H:Ex w W:=G▸Ex.alloc w _;have ho:aM 3 w.heap.size W (.slice (some ⟨b5,0,none⟩) 0 0) []:=by
   subst J G;refine⟨rfl,.inr ⟨_,0,#[],rfl,Mu _,?_,by simp,by unfold maxLen;omega,rfl,rfl⟩⟩;unfold World.alloc;simp
  refine aM.push ho H.size (h.ex H) (EM o) (by omega) (by simp;exact hl) λv' w' V Z hn=>hR v' w' ?_ V
  refine Ex.below H (Kp.below (S:=λg=>g=b5) (Kp.aQ Z λg e=>(Ng e).symm) H.size λg Z e=>by omega)
theorem aU {b:Nat}:∀(cs:List Value) (w:World) (off:Nat),Kr b w (w.setCells b off cs)/\(∀g j,(w.setCells b off cs).frozen? ⟨g,j,none⟩=w.frozen? ⟨g,j,none⟩)/\(∀j,j< off->(w.setCells b off cs).cell? ⟨b,j,none⟩=w.cell? ⟨b,j,none⟩)/\
  ∀j,(∀i,i< cs.length->∃u,w.cell? ⟨b,off+i,none⟩=some u)->j< cs.length->(w.setCells b off cs).cell? ⟨b,off+j,none⟩=cs[j]?
 | [],w,off=>⟨Kr.refl b w,λ _ _=>rfl,λ _ _=>rfl,λ _ _ h=>by simp at h⟩
 | c::cs,w,off=>by
  obtain⟨J,V,G,h4⟩:=aU cs (w.setCell ⟨b,off,none⟩ c) (off+1);refine⟨Kr.trans (Kr.set w off c) J,λg j=>(V g j).trans (MG _ _ _ _),λj H=>(G j (by omega)).trans (Mr _ _ _ _ λe=>by injection e with W Z;omega),λj hu H=>?_⟩;cases j with
  | zero=>
   obtain⟨u,hu⟩:=hu 0 (by simp);exact(G off (by omega)).trans (MI _ _ _ hu)
  | succ j=>
   have :=h4 j (λi hi=>by
    obtain⟨u,hu⟩:=hu (i+1) (by simpa using hi);refine⟨u,?_⟩;rw [Mr _ _ _ _ (λe=>by injection e with W Z;omega),show off+1+i=off+(i+1) by omega];exact hu) (by simpa using H)
   rw [show off+1+j=off+(j+1) by omega]at this;exact this
theorem dV.KV {D:Nat->Prop}{w:World}{v:Value}{o:List Nat}(h:dV D w v (o.map iv)){i:Int}{x:Nat}(G:0<=i)(H:o[i.toNat]?=some x){Q:Int->Prop}(J:Q x):
  ∃(b off len cap:Nat),v=Value.slice (some ⟨b,off,none⟩) len cap/\0<=i/\i< (len:Int)/\∃n:Int,World.cell? w ⟨b,off+Int.toNat i* 1,none⟩=some (.int .i64 n)/\Q n:=by
 obtain⟨b,off,len,cap,V,W,Z,s,h4,h5⟩:=h.get (i:=i) (x:=iv x) (Q:=λs=>s=iv x) G (by rw [Oy,H];rfl) rfl;exact⟨b,off,len,cap,V,W,Z,x,by rw [h4,h5],J⟩
def Ki (w:World)(S:Nat->Prop)(f:Nat)(ca:List Value)(p:Nat->Bool):Prop:=
 ∀(x:Nat) (w1:World),Kp w w1 S->∀{R:Bool->PV},(∀w2,Ex w1 w2->R (p x) w2)->PW f (List.toArray ([iv x]++ca)) w1 (aw [.b] R)
theorem JU {D S:Nat->Prop}{w:World}{s:Value}{o:List Nat}(hs:dV D w s (o.map iv)){f:Nat}{ca:List Value}(hf:hasR fV f=true){p:Nat->Bool}(hp:Ki w S f ca p)(hl:o.length<=1099511627776){R:Int->PV}
  (hR:∀(n:Int) w',Ex w w'->((n= -1/\∀x∈o,p x=false)\/(∃i:Nat,n=i/\i< o.length/\(∀x∈o.take i,p x=false)/\∀x,o[i]?=some x->p x=true))->R n w'):
  PW 218 #[s,.func (.func f) #[] (List.toArray ca)] w (aw [.i] R):=by
 refine iM _ _ w R ?_;dsimp only [go_sem];dsimp only [go_sem,UInt8.reduceOfNat,UInt32.reduceOfNat,Nat.reduceAdd];obtain⟨a,cap,e⟩:=hs.slice;rw [MM]at e;refine⟨a,_,cap,e,λx w'=>∃i:Nat,x=i/\i<=o.length/\Ex w w'/\∀x∈o.take i,p x=false,λx _=>(o.length - x).toNat,⟨0,rfl,by omega,Ex.refl w,λj h=>by simp at h⟩,λx w1 hI=>?_⟩;obtain⟨i,rfl,hi,H,W⟩:=hI;refine⟨λJ=>?_,λJ=>?_⟩
 ·have J:=MN J;have G:i< o.length:=by omega
  refine(hs.ex H).KV (i:=i) (x:=o[i]) (by omega) (by simp [G]) ⟨f,ca,rfl,hf,hp o[i] w1 (Kp.ah H _) λw2 V=>⟨λZ=>?_,λZ=>⟨by omega,⟨i+1,by omega,by omega,Ex.trans H V,λx hj=>?_⟩,by dsimp only;omega⟩⟩⟩
  ·exact hR _ w2 (Ex.trans H V) (.inr ⟨i,rfl,G,W,λx H=>by rw [Mo G]at H;cases H;exact Z⟩)
  ·rw [Mq G]at hj;rcases My.1 hj with h | h
   ·exact W x h
   ·rw [MA.1 h];exact Z
 ·have J:=MO J;have:i=o.length:=by omega
  subst this;rw [MR]at W;exact hR _ w1 H (.inl ⟨rfl,W⟩)
theorem GC {B:Nat}{w:World}{s:Value}{o:List Nat}(h:aM 3 B w s (o.map iv)){f:Nat}{ca:List Value}(hf:hasR fV f=true){p:Nat->Bool}(hp:Ki w (λg=>s.ownBlock=some g) f ca p)(hl:o.length<=1099511627776){R:Value->PV}
  (hR:∀v' w',aB v'=true->Kp w w' (λg=>s.ownBlock=some g)->dV (λg=>s.ownBlock=some g) w' v' ((o.filter λx=> !p x).map iv)->R v' w'):
  PW 183 #[s,.func (.func f) #[] (List.toArray ca)] w (aw [.v] R):=by
 refine ib _ _ w R ?_;dsimp only [go_sem];dsimp only [go_sem,UInt8.reduceOfNat,UInt32.reduceOfNat,Nat.reduceAdd];have ε:dV (λg=>s.ownBlock=some g) w s (o.map iv):=h.Dv λg hg=>hg
 have μ:aB s=true:=by
  rcases h.2 with⟨rfl,_⟩ | ⟨g,cap,cur,rfl,_⟩<;>rfl
 refine JU ε hf hp hl λn w1 x1 hn=>⟨λZ=>?_,λZ=>?_⟩
 ·have Z:n= -1:=MN Z;rcases hn with⟨_,hn⟩ | ⟨i,e,_⟩
  ·refine hR _ _ μ (Kp.ah x1 _) ?_;rw [OP.2 λx hx=>by simp [hn x hx]];exact ε.ex x1
  ·omega
 have Z:¬n= -1:=MO Z;obtain⟨i0,rfl,ζ,hn,ν⟩:∃i:Nat,n=i/\i< o.length/\(∀x∈o.take i,p x=false)/\∀x,o[i]?=some x->p x=true:=by
  rcases hn with⟨e,_⟩ | h
  ·exact absurd e Z
  ·exact h
 rcases id h.2 with⟨rfl,ι⟩ | ⟨g,cap,cur,rfl,hb,hg,hle,χ,ψ,ω⟩
 ·simp at ι;subst ι;simp at ζ
 rw [MM]at*;have η:∀t,t< o.length->∃x,w1.cell? ⟨g,t,none⟩=some (iv x)/\o[t]?=some x:=λt G=>by
  rcases ε.ex x1 with⟨e,_⟩ | ⟨b',off,φ,e,h1,h2,h3⟩
  ·cases e
  ·injection e with e1 e2 e3
   injection e1 with e1
   injection e1 with e1 e4
   subst e1 e4;have :=h3 t (iv o[t]) (by simp [G]);rw [MX]at this;exact⟨_,this,Mo G⟩
 have ξ:∀t,w1.frozen? ⟨g,t,none⟩=false:=λt=>by
  rw [MU (w:=w) (x1.block g (Na.1 hg).1)];exact h.fr rfl t
 let q:Nat->Bool:=λx=> !p x
 refine⟨by omega,λi j w'=>∃(H J:Nat) (c:Nat->Nat),i=H/\j=J/\H< J/\J<=o.length/\Kp w w' (λx=>g=x)/\(∀t,t< o.length->w'.cell? ⟨g,t,none⟩=some (iv (c t)))/\(∀t,w'.frozen? ⟨g,t,none⟩=false)/\
  (List.range H).map c=(o.take J).filter q/\∀t,J<=t->t< o.length->o[t]?=some (c t),λ _ j _=>(o.length - j).toNat,?_,λi j w2 hI=>?_⟩
 ·refine⟨i0,i0+1,λt=>(o[t]?).getD 0,rfl,by omega,by omega,by omega,Kp.ah x1 _,λt G=>?_,ξ,?_,λt _ G=>by simp [G]⟩
  ·obtain⟨x,h1,h2⟩:=η t G;show w1.cell? _=some (iv ((o[t]?).getD 0));rw [h2];exact h1
  ·have e1:(List.range i0).map (λt=>(o[t]?).getD 0)=o.take i0:=by
    refine List.ext_getElem? λt=>?_
    rw [Oy,O1];by_cases G:t< i0
    ·have ο:t< o.length:=by omega
     rw [MZ G];simp [G,ο]
    ·rw [MJ G,List.getElem?_eq_none (by simp;omega)];rfl
   rw [e1,Mq ζ,NK,OP.2 λx hx=>by simp [q,hn x hx]];have :=ν _ (Mo ζ);simp [q,this]
 ·obtain⟨H,J,c,rfl,rfl,hij,hj,k2,V,δ,hm,hd⟩:=hI;refine⟨_,_,_,rfl,λZ=>?_,λZ=>?_⟩
  ·have Z:=MN Z;have W:J< o.length:=by omega
   have hx:=hd J (Mu _) W;refine⟨g,0,_,_,rfl,by omega,Z,(c J:Int),?_,f,ca,rfl,hf,hp (c J) w2 (Kp.mono (λx e=>Nz some e) k2) λw3 x3=>⟨λhq=>?_,λhq=>?_⟩⟩
   ·rw [MX,MW,Mv];exact V J W
   ·have hq:q (c J)=true:=hq;have α:g< w2.heap.size:=MP (Na.1 hg).1 k2.size;have β:=x3.block g α;refine⟨g,0,_,_,rfl,by omega,by omega,⟨⟨iv (c H),?_⟩,?_⟩,λw4 θ=>⟨by omega,by omega,⟨H+1,J+1,aI c H (c J),by omega,by omega,by omega,by omega,?_,λt G=>?_,λt=>?_,?_,λt h1 h2=>?_⟩,by dsimp only;omega⟩⟩
    ·rw [MX,MW,Mv,Mn (w:=w2) β];exact V H (by omega)
    ·rw [MU (w:=w2) β];exact δ _
    ·rw [θ];exact Kp.set (S:=λx=>g=x) (Kp.trans k2 (Kp.ah x3 λ _=>False) λ _ _ h=>h.elim) rfl _
    ·rw [θ,MX,MW,Mv];by_cases e:t=H
     ·subst e;have:aI c t (c J) t=c J:=by simp [aI]
      rw [this];refine MI _ _ _ (u:=iv (c t)) ?_;rw [Mn (w:=w2) β];exact V t G
     ·have:aI c H (c J) t=c t:=by simp [aI,e]
      rw [this,Mr _ _ _ _ (λh=>by injection h with h1 h2;exact e h2.symm),Mn (w:=w2) β];exact V t G
    ·rw [θ,MG,MU (w:=w2) β];exact δ t
    ·rw [O7,Nq,Mq W,NK,<-hm];rw [Mo W]at hx;have e0:o[J]=c J:=Ng hx;rw [e0]
     congr 1
     ·refine NL λt G=>?_
      have:t≠H:=by have :=NV.1 G;omega
      simp [aI,this]
     ·simp [aI,hq]
    ·have:t≠H:=by omega
     rw [hd t (by omega) h2];simp [aI,this]
   ·have hq:q (c J)=false:=hq;refine⟨by omega,⟨H,J+1,c,rfl,by omega,by omega,by omega,Kp.trans k2 (Kp.ah x3 λ _=>False) (λ _ _ h=>h.elim),λt G=>?_,λt=>?_,?_,λt h1 h2=>hd t (by omega) h2⟩,by dsimp only;omega⟩
    ·have α:g< w2.heap.size:=MP (Na.1 hg).1 k2.size;rw [x3.cell (show g< _ from α)];exact V t G
    ·have α:g< w2.heap.size:=MP (Na.1 hg).1 k2.size;rw [MU (w:=w2) (x3.block g α)];exact δ t
    ·rw [Mq W,NK,hm];rw [Mo W]at hx;have e0:o[J]=c J:=Ng hx;rw [e0];simp [hq]
  ·have Z:=MO Z;have W:J=o.length:=by omega
   subst W;rw [MR]at hm;have α:g< w2.heap.size:=MP (Na.1 hg).1 k2.size;have ez:Int.toNat 0=0:=rfl;have hlen:H=(o.filter q).length:=by rw [<-hm];simp
   have fin:∀w',Kp w w' (λx=>g=x)->(∀t,t< H->w'.cell? ⟨g,t,none⟩=some (iv (c t)))->R (Value.slice (if cap=Int.toNat 0 then some (⟨g,0,none⟩:Addr)else Option.map (λa:Addr=>a.add (Int.toNat 0* 1)) (some (⟨g,0,none⟩:Addr))) (Int.toNat (H:Int) - Int.toNat 0) (cap - Int.toNat 0)) w':=by
    intro w' k ς;have e:(if cap=Int.toNat 0 then some (⟨g,0,none⟩:Addr)else Option.map (λq:Addr=>q.add (Int.toNat 0* 1)) (some (⟨g,0,none⟩:Addr)))=some ⟨g,0,none⟩:=by
     split
     ·rfl
     ·simp [Addr.add,ez]
    rw [e,ez];refine hR _ _ rfl (Kp.mono (λx e=>Nz some e) k) (.inr ⟨g,0,cap - 0,?_,rfl,MP (Na.1 hg).1 k.size,λt x hx=>?_⟩)
    ·congr 1
     rw [MM];show H - 0=(o.filter q).length;omega
    ·have hx:(o.filter q).map iv=(o.filter λx=> !p x).map iv:=rfl;rename_i γ;rw [<-hx,<-hm,Oy,Oy]at γ;rw [MX];by_cases G:t< H
     ·rw [List.getElem?_range G]at γ;cases γ;exact ς t G
     ·rw [List.getElem?_eq_none (by simp;omega)]at γ;cases γ
   refine⟨_,_,_,rfl,by omega,by omega,by omega,_,_,_,rfl,?_⟩;by_cases h0:o.length - H=0
   ·refine .inl ⟨by rw [Mv,Mv];exact h0,_,_,_,rfl,by omega,by omega,by omega,fin w2 k2 λt G=>V t (by omega)⟩
   ·have υ:¬cap=H:=by omega
    refine .inr ⟨g,H,?_,λt G=>⟨⟨_,V (H+t) (by rw [Mv,Mv]at G;omega)⟩,δ _⟩,λw3 κ=>⟨_,_,_,rfl,by omega,by omega,by omega,fin w3 ?_ λt G=>?_⟩⟩
    ·rw [Mv,MJ υ];simp only [N8,Addr.add];simp
     try omega
    ·rw [κ];exact Kp.trans k2 (aU _ w2 H).1 λx _ e=>e.symm
    ·rw [κ,(aU _ w2 H).2.2.1 t G];exact V t (by omega)
def Lv.isSum1:Lv->Bool
 | .sum _ .nil=>true
 | _=>false
theorem yf (o:List Nat)(q:Lv):Lv.prt o q .nil=if q.isNil=true then .nil else if(o.isEmpty&&q.isSum1)=true then(match q with | .sum ps .nil=>ps | q=> .part o q .nil)else .part o q .nil:=by
 cases q with
 | nil=>rfl
 | thr k a b G r n=>cases o<;>rfl
 | part G H n=>cases o<;>rfl
 | sum ps n=>
  cases n with
  | nil=>cases o<;>simp [Lv.prt,Lv.isNil,Lv.isSum1,Lv.aX]
  | thr=>cases o<;>rfl
  | sum=>cases o<;>rfl
  | part=>cases o<;>rfl
section
variable {D:Nat->Prop} {w:World} {v:Value} {o:List Nat} {l:Lv}
theorem lU (h:fK D w v o (af D w l)){R:Bool->PV}(hR:R l.isNil w):PW 181 #[v] w (aw [.b] R):=by
 refine jR v w R ?_;dsimp only [go_sem];dsimp only [go_sem,UInt8.reduceOfNat,UInt32.reduceOfNat,Nat.reduceAdd];obtain⟨b,vo,vt,ts,rfl,J,V,h4,h5,W,G,H⟩:=h;obtain⟨a,cap,e⟩:=G.slice;refine⟨b,0,rfl,vt,h5,a,_,cap,e,?_⟩;have:decide ((ts.length:Int)=0)=l.isNil:=by
  rw [H.len,Lv.dh,Nt];simp only [Mz];omega
 rw [this];exact hR
theorem HA (h:fK D w v o (af D w l))(hs:l.sh true=true){R:Bool->PV}(hR:R (o.isEmpty&&l.isSum1) w):PW 182 #[v] w (aw [.b] R):=by
 refine mo v w R ?_;dsimp only [go_sem];dsimp only [go_sem,UInt8.reduceOfNat,UInt32.reduceOfNat,Nat.reduceAdd];obtain⟨b,vo,vt,ts,rfl,h2,h3,h4,h5,h6,V,W⟩:=h;obtain⟨a,cap,e⟩:=h6.slice;obtain⟨a',J,e'⟩:=V.slice;rw [MM]at e;have hlen:=W.len;refine⟨b,0,rfl,vo,h4,a,_,cap,e,λH=>⟨b,0,rfl,vt,h5,a',_,J,e',λG=>?_,λG=>?_⟩,λH=>?_⟩
 ·have H:=MN H;have G:=MN G;have ho:o.isEmpty=true:=by
   rw [PC];exact MS (by omega)
  rw [ho,Oh]at hR;cases l with
  | nil=>
   have:ts.length=0:=hlen;omega
  | thr k x y o' r n=>
   have Z:n= .nil:=by
    have:n.len=0:=by simp only [Lv.len]at hlen;omega
    cases n<;>first | rfl | simp [Lv.len]at this
   subst Z;obtain⟨t,α,a1,b1,vr,rfl,⟨g,rfl,g2,g3,g4,_⟩,_⟩:=W;refine⟨b,0,rfl,vt,h5,V.get (i:=0) (x:=ptr g) (by omega) rfl ⟨g,0,rfl,_,g4,?_⟩⟩;have:decide (k.byte=43)=false:=by cases k<;>rfl
   rw [this];exact hR
  | sum ps n=>
   have Z:n= .nil:=by
    have:n.len=0:=by simp only [Lv.len]at hlen;omega
    cases n<;>first | rfl | simp [Lv.len]at this
   subst Z;obtain⟨t,α,a1,b1,vp,us,rfl,⟨g,rfl,g2,g3,g4,_⟩,_⟩:=W;exact⟨b,0,rfl,vt,h5,V.get (i:=0) (x:=ptr g) (by omega) rfl ⟨g,0,rfl,_,g4,hR⟩⟩
  | part o' q n=>cases hs
 ·have G:=MO G;have:l.isSum1=false:=by
   cases l with
   | sum ps n=>
    cases n with
    | nil=>
     have:ts.length=1:=hlen;omega
    | _=>rfl
   | _=>rfl
  rw [this,Bool.and_false]at hR;exact hR
 ·have H:=MO H;have:o.isEmpty=false:=by
   cases o with
   | nil=>simp at H
   | cons=>rfl
  rw [this,PN]at hR;exact hR
end
structure TI (w w':World)(b7 b9:Nat)(O:List Nat)(L:Lv)(ts:List Value)(M X:Nat->Prop):Prop where
 ex:Ex w w'
 bd:jO w.heap.size w' b7 O ts M
 th:af (λg=>(w.heap.size<=g/\¬M g/\¬X g)/\g< w'.heap.size) w' L ts
 c9:w'.cell? ⟨b9,0,none⟩=some (ptr b7)
 l9:b9< w'.heap.size
 h9:w.heap.size<=b9
 x9:X b9
 mx:∀g,M g->¬X g
 xl:∀g,X g->g< w'.heap.size
section
variable {w w' w'':World} {b7 b9:Nat} {O:List Nat} {L:Lv} {ts:List Value} {M X Y:Nat->Prop}
theorem TI.Le (h:TI w w' b7 b9 O L ts M X){S:Nat->Prop}(k:Kp w' w'' S)(J:∀g,S g->X g/\g≠b9/\w.heap.size<=g)(Z:∀g,X g->Y g)(H:∀g,Y g->X g\/(w'.heap.size<=g/\g< w''.heap.size)):TI w w'' b7 b9 O L ts M Y:=by
 have W:∀g,g< w'.heap.size->¬X g->¬Y g:=λg G V hy=>(H g hy).elim V λh=>by omega
 refine⟨Ex.below h.ex (Kp.below k h.ex.size λg G e=>by have :=(J g e).2.2;omega),h.bd.kp k λg G e=>h.mx g G (J g e).1,?_,?_,MP h.l9 k.size,h.h9,Z b9 h.x9,λg G=>W g (h.bd.mr g G).2 (h.mx g G),λg G=>(H g G).elim (λV=>MP (h.xl g V) k.size) λh=>h.2⟩
 ·refine af.sub (λg _ G=>⟨⟨G.1.1,G.1.2.1,W g G.2 G.1.2.2⟩,MP G.2 k.size⟩) (af.kp k (λg G e=>G.1.2.2 (J g e).1) h.th)
 ·rw [Mn (w:=w') (k.block b9 h.l9 λe=>(J b9 e).2.1 rfl)];exact h.c9
theorem TI.L3 (h:TI w w' b7 b9 O L ts M X){S:Nat->Prop}(k:Kp w' w'' S)(G:∀g,S g->X g/\g≠b9/\w.heap.size<=g):TI w w'' b7 b9 O L ts M X:=h.Le k G (λ _ h=>h) λ _ h=> .inl h
theorem TI.ext (h:TI w w' b7 b9 O L ts M X)(x:Ex w' w''):TI w w'' b7 b9 O L ts M X:=h.L3 (Kp.ah x λ _=>False) λ _ h=>h.elim
theorem TI.G1 (h:TI w w' b7 b9 O L ts M X)(G:∀g,Y g->X g)(V:Y b9):TI w w' b7 b9 O L ts M Y:=
 ⟨h.ex,h.bd,af.sub (λg J hd=>⟨⟨hd.1.1,hd.1.2.1,λH=>hd.1.2.2 (G g H)⟩,hd.2⟩) h.th,h.c9,h.l9,h.h9,V,λg hm H=>h.mx g hm (G g H),λg J=>h.xl g (G g J)⟩
theorem TI.Fo (h:TI w w' b7 b9 O L ts M X){D2:Nat->Prop}{v2:Value}{O2:List Nat}{L2:Lv}(hl:az D2 w' (O2,L2) v2)(hd:∀g,g< w'.heap.size->D2 g->w.heap.size<=g/\¬M g/\¬X g)
  (hb:O.length+O2.length<=1099511627776/\ts.length+L2.len<=1099511627776) {R:PV} (hR:∀w'' α Z,TI w w'' b7 b9 (O++O2) (L.app L2) α Z X->Kp w' w'' M->R w''):
  PW 179 #[ptr b7,v2] w' (aw [] R):=by
 obtain⟨β,γ,H⟩:=az.ths (hl.sub (E:=λg=>(w.heap.size<=g/\¬M g/\¬X g)/\g< w'.heap.size) λg G δ=>⟨hd g G δ,G⟩);have V:=h.ex.size;refine tc h.bd V γ H.all (λg G=>G.1.2.1) ⟨hb.1,by rw [H.len];exact hb.2⟩ λw3 Z J ε W=>hR w3 (ts++β) Z ⟨?_,ε,?_,?_,MP h.l9 J.size,h.h9,h.x9,?_,λg G=>MP (h.xl g G) J.size⟩ J
 ·exact Ex.below h.ex (Kp.below J V λg G e=>by have :=(h.bd.mr g e).1;omega)
 ·have key:∀{l:Lv} {us:List Value},af (λg=>(w.heap.size<=g/\¬M g/\¬X g)/\g< w'.heap.size) w' l us->af (λg=>(w.heap.size<=g/\¬Z g/\¬X g)/\g< w3.heap.size) w3 l us:=λht=>
   af.sub (λg _ G=>⟨⟨G.1.1,λhm=>(W g hm).elim G.1.2.1 λh=>by omega,G.1.2.2⟩,MP G.2 J.size⟩) (af.kp J (λg G=>G.1.2.1) ht)
  exact af.app (key h.th) (key H)
 ·rw [Mn (w:=w') (J.block b9 h.l9 λe=>h.mx b9 e h.x9)];exact h.c9
 ·intro g hm hx;rcases W g hm with h1 | h1
  ·exact h.mx g h1 hx
  ·have :=h.xl g hx;omega
end
section
variable {w w':World} {b7 b9:Nat} {O:List Nat} {L:Lv} {ts:List Value} {M X:Nat->Prop}
theorem TI.push (h:TI w w' b7 b9 O L ts M X){g:Nat}{e:Lv}(he:af (λg=>(w.heap.size<=g/\¬M g/\¬X g)/\g< w'.heap.size) w' e [ptr g])(hl:ts.length+1<=1099511627776){K:PV}(hK:∀w'' ts' M',TI w w'' b7 b9 O (L.app e) ts' M' X->K w''):
  ∃V:PV,∀α:World,α=World.drew w'->V α/\∃v168:Value,(∀w',V w'->World.cell? w' ⟨b9,0,none⟩=some v168)/\∃κ:Value,(∀w',V w'->World.cell? w' ⟨b9,0,none⟩=some κ)/\∃(μ ν:Nat),κ=Value.pointer (some ⟨μ,ν,none⟩)/\
   ∃β:Value,(∀w',V w'->World.cell? w' ⟨μ,(ν+1),none⟩=some β)/\∀(ξ:Nat) (H:World),ξ=Array.size (World.heap α)->H=World.alloc α (Obj.cells #[(Value.pointer (some ⟨g,0,none⟩))] 156)->V H/\
   ∃(J n176 γ:Nat) (θ Z:List Value),World.ownsRow H J 156 1 β n176 θ/\J<=Array.size (World.heap H)/\dI H (Value.slice (some ⟨ξ,0,none⟩) 1 1) γ 1 Z/\(n176+γ<=maxLen/\(n176+γ)* 8<=140737488355328)/\
   ∀(δ:Value) (W:World),World.ownsRow W J 156 1 δ (n176+γ) (θ++Z)->World.grownBy H W (Value.ownBlock β)->(∀b:Nat,Value.ownBlock δ=some b->Value.ownBlock β=some b\/Array.size (World.heap H)<=b)->V W/\
   ∃(ε ζ:Nat),v168=Value.pointer (some ⟨ε,ζ,none⟩)/\aB δ=true/\((∃ω:Value,World.cell? W ⟨ε,(ζ+1),none⟩=some ω)/\World.frozen? W ⟨ε,(ζ+1),none⟩=false)/\∀ο:World,ο=World.setCell W ⟨ε,(ζ+1),none⟩ δ->K ο:=by
 obtain⟨h1,hle,h3,hr,h4,vo,vt,h5,h6,h7,h8,h9,h10,h11⟩:=h.bd;have hb7:b7< w'.heap.size:=h1;have hn9:b9≠b7:=λe=>h.mx b7 h3 (e▸h.x9)
 have hv9:vt.ownBlock≠some b9:=λe=>h.mx b9 (h10 b9 e).1 h.x9
 refine⟨λw2=>Kp w' w2 λg=>vt.ownBlock=some g,λw1 ς=>⟨ς▸Kp.ah (Ex.drew w') _,ptr b7,λw2 k=>?_,ptr b7,λw2 k=>?_,b7,0,rfl,vt,λw2 k=>?_,λb2 w2 hb2 υ=>?_⟩⟩
 ·rw [Mn (w:=w') (k.block b9 h.l9 hv9)];exact h.c9
 ·rw [Mn (w:=w') (k.block b9 h.l9 hv9)];exact h.c9
 ·rw [Mn (w:=w') (k.block b7 h1 λe=>(h10 b7 e).2 rfl)];exact h6
 have x2:Ex w' w2:=Ex.trans (ς▸Ex.drew w') (υ▸Ex.alloc w1 _);have s1:w1.heap.size=w'.heap.size:=by rw [ς];rfl
 have s2:w2.heap.size=w1.heap.size+1:=by rw [υ,size_alloc]
 refine⟨Kp.ah x2 _,?_⟩;have hsl:dV (λx=>x=b2) w2 (.slice (some ⟨b2,0,none⟩) 1 1) [ptr g]:=by
  refine .inr ⟨b2,0,1,rfl,rfl,by omega,λi x G=>?_⟩;rw [MX,υ,hb2];refine aa ?_
  match i,G with
  | 0,G=>simpa using G
  | i+1,G=>simp at G
 refine aM.push (h8.kp (Kp.ah x2 λ _=>False) λ _ _ h=>h) (Nv h.ex.size x2.size) hsl rfl (by omega) (by simpa using hl) λv3 w3 φ hg3 hn3=>?_
 have k23:Kp w2 w3 λg=>vt.ownBlock=some g:=Kp.aQ hg3 λg h=>h
 have k3:Kp w' w3 λg=>vt.ownBlock=some g:=Kp.trans (Kp.ah x2 _) k23 λg _ h=>h
 have χ:=k3.block b7 h1 λe=>(h10 b7 e).2 rfl
 have hv3:aB v3=true:=by rcases φ.2 with⟨rfl,_⟩ | ⟨g,cap,cur,rfl,_⟩<;>rfl
 have c31:w3.cell? ⟨b7,1,none⟩=some vt:=by rw [Mn (w:=w') χ];exact h6
 have c30:w3.cell? ⟨b7,0,none⟩=some vo:=by rw [Mn (w:=w') χ];exact h5
 have f3:∀j,w3.frozen? ⟨b7,j,none⟩=false:=λj=>by rw [MU (w:=w') χ];exact h4 j
 refine⟨k3,b7,0,rfl,hv3,⟨⟨vt,c31⟩,f3 1⟩,λw4 ι=>?_⟩;have k4:Kr b7 w3 w4:=ι▸Kr.set w3 1 _;have η:Kp w' w4 M:=Kp.trans (Kp.mono (λg e=>(h10 g e).1) k3) k4 λg _ e=>e▸h3
 have s3:=k3.size;have s23:=k23.size;have s4:=k4.size;have ψ:∀x,v3.ownBlock=some x->vt.ownBlock=some x\/w'.heap.size<=x:=λx G=>(hn3 x G).elim .inl λh=> .inr (by omega)
 have h3b:∀x,v3.ownBlock=some x->x≠b7:=λx G=>(ψ x G).elim (λe=>(h10 x e).2) λe=>by omega
 refine hK w4 (ts++[ptr g]) (λx=>M x\/(w'.heap.size<=x/\x< w4.heap.size)) ⟨?_,⟨by omega,hle,.inl h3,λx G=>?_,λj=>?_,vo,v3,?_,?_,?_,?_,λx G=>⟨.inl (h9 x G).1,(h9 x G).2⟩,λx G=>⟨?_,h3b x G⟩,λx G e=>?_⟩,?_,?_,MP h.l9 η.size,h.h9,h.x9,λx G hX=>?_,λx G=>MP (h.xl x G) η.size⟩
 ·exact Ex.below h.ex (Kp.below η h.ex.size λx G e=>by have :=(hr x e).1;omega)
 ·have hB:=h.ex.size;rcases G with G | G
  ·have :=hr x G;omega
  ·omega
 ·rw [ι,MG];exact f3 j
 ·rw [ι,Mr _ _ _ _ (by simp)];exact c30
 ·rw [ι];exact MI _ _ _ c31
 ·exact(h7.kp k3 λx G e=>h11 x G e).kp k4 λx G=>(h9 x G).2
 ·exact aM.kp φ k4 h3b
 ·have :=(φ.block x G).2;exact(ψ x G).elim (λe=> .inl (h10 x e).1) λe=> .inr ⟨e,by omega⟩
 ·rcases ψ x e with e1 | e1
  ·exact h11 x G e1
  ·have :=(h7.block x G).2;omega
 ·have key:∀{l:Lv} {us:List Value},af (λg=>(w.heap.size<=g/\¬M g/\¬X g)/\g< w'.heap.size) w' l us->af (λg=>(w.heap.size<=g/\¬(M g\/(w'.heap.size<=g/\g< w4.heap.size))/\¬X g)/\g< w4.heap.size) w4 l us:=λht=>
   af.sub (λg _ hg=>⟨⟨hg.1.1,λhm=>hm.elim hg.1.2.1 λh=>by omega,hg.1.2.2⟩,MP hg.2 η.size⟩) (af.kp η (λg hg=>hg.1.2.1) ht)
  exact af.app (key h.th) (key he)
 ·rw [Mn (w:=w') (η.block b9 h.l9 λe=>h.mx b9 e h.x9)];exact h.c9
 ·rcases G with G | G
  ·exact h.mx x G hX
  ·have :=h.xl x hX;omega
end
structure SI (w w':World)(b7 b9 b39:Nat)(O:List Nat)(L:Lv)(ts:List Value)(M X:Nat->Prop)(a b:Nat)(Q:Lv):Prop where
 ti:TI w w' b7 b9 O L ts M X
 x39:X b39
 h39:w.heap.size<=b39
 n39:b39≠b9
 sl:∃vp us,jQ w' b39 43 a b (.pointer none) vp/\aM 146 w.heap.size w' vp us/\af (λg=>(w.heap.size<=g/\¬M g/\¬X g)/\g< w'.heap.size) w' Q us/\∀g,vp.ownBlock=some g->X g/\g≠b9/\g≠b39
section
variable {w w':World} {b7 b9 b39 a b:Nat} {O:List Nat} {L Q:Lv} {ts:List Value} {M X:Nat->Prop}
theorem SI.ext {w'':World}(h:SI w w' b7 b9 b39 O L ts M X a b Q)(x:Ex w' w''):SI w w'' b7 b9 b39 O L ts M X a b Q:=by
 obtain⟨H,J,V,h4,vp,us,h5,W,Z,h8⟩:=h;have k:Kp w' w'' λ _=>False:=Kp.ah x _
 exact⟨H.ext x,J,V,h4,vp,us,h5.kp k λh=>h,W.kp k λ _ _ h=>h,af.sub (λg _ G=>⟨G.1,MP G.2 k.size⟩) (af.ex Z x),h8⟩
theorem SI.push (h:SI w w' b7 b9 b39 O L ts M X a b Q){vx:Value}{α:List Value}{Q2:Lv}{D2:Nat->Prop}(hx:dV D2 w' vx α)(h2:af (λg=>(w.heap.size<=g/\¬M g/\¬X g)/\g< w'.heap.size) w' Q2 α)(hl:Q.len+α.length<=1099511627776){vp:Value}(ο:w'.cell? ⟨b39,4,none⟩=some vp){K:Value->PV}
  (hK:∀J G,aB J=true->Kp w' G (λg=>vp.ownBlock=some g)->((∃ς:Value,World.cell? G ⟨b39,4,none⟩=some ς)/\World.frozen? G ⟨b39,4,none⟩=false)->(∀κ,κ=World.setCell G ⟨b39,4,none⟩ J->∃X',SI w κ b7 b9 b39 O L ts M X' a b (Q.app Q2))->K J G):
  ∃(H β γ:Nat) (δ W:List Value),World.ownsRow w' H 146 1 vp β δ/\H<=Array.size (World.heap w')/\dI w' vx γ 1 W/\(β+γ<=maxLen/\(β+γ)* 8<=140737488355328)/\
   ∀(J:Value) (G:World),World.ownsRow G H 146 1 J (β+γ) (δ++W)->World.grownBy w' G (Value.ownBlock vp)->(∀b:Nat,Value.ownBlock J=some b->Value.ownBlock vp=some b\/Array.size (World.heap w')<=b)->K J G:=by
 obtain⟨h1,Z,h3,h4,ε,us,h5,h6,h7,h8⟩:=h;have:ε=vp:=Ng (h5.c4.symm.trans ο);subst this;have υ:=h1.ex.size;have ω:=h7.len;refine aM.push h6 υ hx h2.all (by omega) (by omega) λv3 w3 ζ φ η=>?_
 have k3:Kp w' w3 λg=>ε.ownBlock=some g:=Kp.aQ φ λg h=>h
 have χ:aB v3=true:=by rcases ζ.2 with⟨rfl,_⟩ | ⟨g,cap,cur,rfl,_⟩<;>rfl
 have θ:=h5.kp k3 λe=>(h8 _ e).2.2 rfl
 refine hK v3 w3 χ k3 ⟨⟨_,θ.c4⟩,θ.f 4⟩ λw4 μ=>?_
 have k4:Kr b39 w3 w4:=μ▸Kr.set w3 4 _;have ι:Kp w' w4 λg=>ε.ownBlock=some g\/g=b39:=Kp.trans (Kp.mono (λg e=> .inl e) k3) k4 λg _ e=> .inr e
 have s3:=k3.size;have s4:=k4.size;have ν:∀x,v3.ownBlock=some x->x≠b39:=λx ψ=>(η x ψ).elim (λe=>(h8 x e).2.2) λe=>by have :=h1.xl b39 Z;omega
 have ξ:∀g,(X g\/(v3.ownBlock=some g))->X g\/(w'.heap.size<=g/\g< w4.heap.size):=λg V=>V.elim .inl λe=>(η g e).elim (λe=> .inl (h8 g e).1) λh=> .inr ⟨h,by have :=(ζ.block g e).2;omega⟩
 have ti:=h1.Le (Y:=λg=>X g\/v3.ownBlock=some g) ι (λg e=>e.elim (λe=>⟨(h8 g e).1,(h8 g e).2.1,(h6.block g e).1⟩) λe=>⟨e▸Z,e▸h4,e▸h3⟩) (λg V=> .inl V) ξ;have key:∀{l:Lv} {us:List Value},af (λg=>(w.heap.size<=g/\¬M g/\¬X g)/\g< w'.heap.size) w' l us->af (λg=>(w.heap.size<=g/\¬M g/\¬(X g\/v3.ownBlock=some g))/\g< w4.heap.size) w4 l us:=λht=>
  af.sub (λg _ V=>⟨⟨V.1.1,V.1.2.1,λhy=>(ξ g hy).elim V.1.2.2 λh=>by omega⟩,MP V.2 ι.size⟩) (af.kp ι (λg V e=>e.elim (λe=>V.1.2.2 (h8 g e).1) λe=>V.1.2.2 (e▸Z)) ht)
 refine⟨_,ti,.inl Z,h3,h4,v3,us++α,θ.Kh μ,?_,af.app (key h7) (key h2),λg V=>⟨.inr V,?_,ν g V⟩⟩
 ·exact aM.kp ζ k4 ν
 ·exact(η g V).elim (λe=>(h8 g e).2.1) λe=>by have :=h1.l9;omega
end
theorem H4 {D:Nat->Prop}{w:World}{l:Lv}{ts:List Value}{x b3:Nat}(V:l.sh true=true)(h:af D w l ts)(α:l.sz<=1099511627776)(hb:b3< w.heap.size)(hc:w.cell? ⟨b3,0,none⟩=some (iv x)):
  zB w 186 [ptr b3] ts (KK l.bf (Lv.has x)):=by
 intro i v w1 hi Z R hR;have H:=h.bf;obtain⟨W,_⟩:=No.1 hi;have G:i< l.bf.length:=by rw [H.1];exact W
 have he:=H.2 i l.bf[i] v (Mo G) hi;have J:=Mx G;have hs:=Lv.dT l _ J;rw [oh G]at hR;refine hZ v (ptr b3) w1 R ?_;dsimp only [go_sem];dsimp only [go_sem,UInt8.reduceOfNat,UInt32.reduceOfNat,Nat.reduceAdd];refine⟨b3,0,rfl,x,by rw [Z.cell (show b3< _ from hb)];exact hc,?_⟩;exact BT _ (Mu _) (Lv.jK V _ J) (he.ex Z) (by omega) hR
theorem KF {D S:Nat->Prop}{w:World}{b7 b9:Nat}{vt:Value}{l:Lv}{ts:List Value}(h9:w.cell? ⟨b9,0,none⟩=some (ptr b7))(l9:b9< w.heap.size)(h7:w.cell? ⟨b7,1,none⟩=some vt)(l7:b7< w.heap.size)(H:dV D w vt ts)(h:af D w l ts)(J:l.sh true=true)(α:l.sz<=1099511627776)
  (V:∀g,S g->¬D g/\g≠b9/\g≠b7):Ki w S 184 [ptr b9] (λx=> !l.has x):=by
 intro x w1 k R hR;refine jo x (ptr b9) w1 R ?_;dsimp only [go_sem];dsimp only [go_sem,UInt8.reduceOfNat,UInt32.reduceOfNat,Nat.reduceAdd];intro b3 w4 W Z;obtain⟨x4,l4,c4⟩:=BO W Z;have G:Kp w w4 S:=Kp.trans k (Kp.ah x4 λ _=>False) λ _ _ h=>h.elim
 refine⟨b9,0,rfl,ptr b7,?_,b7,0,rfl,vt,?_,?_⟩
 ·rw [Mn (w:=w) (G.block b9 l9 λe=>(V _ e).2.1 rfl)];exact h9
 ·rw [Mn (w:=w) (G.block b7 l7 λe=>(V _ e).2.2 rfl)];exact h7
 have hlen:=h.len;have :=nC l;have hD:∀g,D g->¬S g:=λg hd H=>(V g H).1 hd
 refine Gm (ca:=[ptr b3]) (H.kp G hD) (by kernel_rfl) (H4 J (af.kp G hD h) (by omega) l4 c4) (by omega) λw5 x5=>?_
 rw [hlen,<-Lv.cG,wj,<-Lv.lJ];exact hR w5 (Ex.trans x4 x5)
def Ch (n:Nat):Prop:=∀{D:Nat->Prop} {w:World} {v:Value} {o:List Nat} {l:Lv} {R:Value->PV},l.sz<=n->l.sh true=true->fK D w v o (af D w l)->o.length+l.tot<=1099511627775->
 (∀v' w',Ex w w'->az (Da w) w' (Lv.tidy o l) v'->R v' w')->PW 139 #[v] w (aw [.v] R)
theorem n7 (o:List Nat)(l:Lv):(Lv.tidy o l).1.length+(Lv.tidy o l).2.tot<=o.length+l.tot:=by
 have :=Lv.tz o (Lv.tid l);have :=Lv.ec l;show(Lv.kept o (Lv.tid l)).1.length+(Lv.kept o (Lv.tid l)).2.tot<=_;omega
theorem bQ (l:Lv):l.len<=l.tot:=Nv (nC l) (Lv.jB l)
theorem aM.jU {e B:Nat}{w:World}{v:Value}{l:List Value}(h:aM e B w v l):aB v=true:=by
 rcases h.2 with⟨rfl,_⟩ | ⟨g,cap,cur,rfl,_⟩<;>rfl
theorem aN.single {A B:Type}{R:A->B->Prop}{l:List A}{m:List B}(h:aN R l m){i:Nat}{b:B}(hb:m[i]?=some b):∃a,l[i]?=some a/\a∈l/\R a b:=by
 obtain⟨hi,_⟩:=No.1 hb;have G:i< l.length:=by rw [h.1];exact hi
 exact⟨l[i],Mo G,Mx G,h.2 i _ _ (Mo G) hb⟩
theorem jd {k:K}{a b:Nat}{o:List Nat}{r:Lv}:Lv.tid (.thr k a b o r .nil)=if k= .m/\a=b then Lv.tidy o r else if(k= .m\/k= .p)/\(Lv.tidy o r).2.isNil=true then([],.nil)else([],.thr k a b (Lv.tidy o r).1 (Lv.tidy o r).2 .nil):=by
 simp only [Lv.tid,MY,Lv.aX];rfl
theorem Eg (n:Nat)(ih:∀m,m< n->Ch m):Ch n:=by
 intro D w v o l R hn hsh h hb hR;refine j6 v w R ?_;obtain⟨b,vo,vt,ts0,rfl,h2,h3,h4,h5,h6,h7,h8⟩:=h;refine⟨b,0,rfl,vo,h4,xI h6 (by omega) λv5 w6 x6 ho6=>⟨ho6.jU,λb7 w8 hb7 hw8 b9 w10 hb9 hw10=>?_⟩⟩;have x8:Ex w6 w8:=hw8▸Ex.alloc w6 _;have x10:Ex w8 w10:=hw10▸Ex.alloc w8 _;have s6:=x6.size;have s8:w8.heap.size=w6.heap.size+1:=by rw [hw8,size_alloc]
 have s10:w10.heap.size=w8.heap.size+1:=by rw [hw10,size_alloc]
 have c9:w10.cell? ⟨b9,0,none⟩=some (.pointer none):=by rw [hw10,hb9];exact aa rfl
 have f9:w10.frozen? ⟨b9,0,none⟩=false:=by rw [hw10,hb9];unfold World.frozen? World.alloc;simp
 have bd8:jO w.heap.size w8 b7 o [] λg=>g=b7\/v5.ownBlock=some g:=by
  refine⟨by omega,by omega,.inl rfl,λg J=>?_,λj=>?_,v5,.slice none 0 0,?_,?_,ho6.kp (Kp.ah x8 λ _=>False) (λ _ _ h=>h),aM.nil _ _ _,λg J=>⟨.inr J,?_⟩,λg J=>(by cases J),λg _ J=>(by cases J)⟩
  ·rcases J with rfl | J
   ·omega
   ·have :=ho6.block g J;omega
  ·rw [hw8,hb7];unfold World.frozen? World.alloc;simp
  ·rw [hw8,hb7];exact aa rfl
  ·rw [hw8,hb7];exact aa rfl
  ·have :=ho6.block g J;omega
 refine⟨⟨⟨_,c9⟩,f9⟩,λw12 hw12=>?_⟩;have k12:Kr b9 w10 w12:=hw12▸Kr.set w10 0 _;have x610:Ex w6 w10:=Ex.trans x8 x10;have x12:Ex w w12:=Ex.below (Ex.trans x6 x610) (Kp.below k12 (Ex.trans x6 x610).size λg J e=>by omega);have s12:=k12.size;have ti12:TI w w12 b7 b9 o .nil [] (λg=>g=b7\/v5.ownBlock=some g) (λg=>g=b9):=by
  refine⟨x12,(bd8.ex x10).kp k12 λg J e=>?_,rfl,?_,by omega,by omega,rfl,λg J e=>?_,λg e=>by omega⟩
  ·have :=(bd8.mr g J).2;omega
  ·rw [hw12];exact MI _ _ _ c9
  ·have :=(bd8.mr g J).2;omega
 obtain⟨a0,cap0,hvt⟩:=h7.slice;have hlen:=h8.len;have hel:=Lv.cG l;have hlt:=bQ l;refine⟨b,0,rfl,vt,by rw [x12.cell (show b< _ from h3)];exact h5,a0,_,cap0,hvt,λx w'=>∃(i:Nat) (ts:List Value) (M:Nat->Prop),x=i/\i<=l.bf.length/\TI w w' b7 b9 (o++(Lv.tid (l.take i)).1) (Lv.tid (l.take i)).2 ts M (λg=>g=b9),λx _=>(l.bf.length - x).toNat,⟨0,[],_,rfl,by omega,by simpa [Lv.take,Lv.tid]using ti12⟩,λx H hI=>?_⟩;obtain⟨i,ts,M,rfl,hi,δ⟩:=hI;refine⟨λhc=>?_,λhc=>?_⟩
 ·have hc:=MN hc;have hil:i< ts0.length:=by omega
  have hil':i< l.bf.length:=by omega
  have φ:=δ.ex;have W:∀w' α M',TI w w' b7 b9 (o++(Lv.tid (l.take i)).1++(Lv.tid l.bf[i]).1) ((Lv.tid (l.take i)).2.app (Lv.tid l.bf[i]).2) α M' (λg=>g=b9)->bJ ((i:Int)+1)/\(∃(i':Nat) (ts:List Value) (M:Nat->Prop),((i:Int)+1)=i'/\i'<=l.bf.length/\TI w w' b7 b9 (o++(Lv.tid (l.take i')).1) (Lv.tid (l.take i')).2 ts M (λg=>g=b9))/\((l.bf.length:Int) - ((i:Int)+1)).toNat< ((l.bf.length:Int) - (i:Int)).toNat:=by
   intro w' α M' ti;refine⟨by omega,⟨i+1,α,M',by omega,by omega,?_⟩,by omega⟩;rw [Lv.take_succ l i hil',Lv.cH _ _ (Lv.lz (Lv.oJ l i hsh)),<-M8];exact ti
  have hel22:=(af.ex h8 φ).bf;have he:=hel22.2 i l.bf[i] ts0[i] (Mo hil') (Mo hil);have he0:=h8.bf.2 i l.bf[i] ts0[i] (Mo hil') (Mo hil);have hmem:=Mx hil';have hesz:=Lv.dT l _ hmem;have hetot:=Lv.fP l _ hmem;have hOt:=Lv.ec (l.take i);have hTt:=Lv.fq l i;have hTe:(l.take i).tot+l.bf[i].tot<=l.tot:=by
   have :=Lv.fq l (i+1);rw [Lv.take_succ l i hil',Lv.bR]at this;exact this
  have hOl:(o++(Lv.tid (l.take i)).1).length=o.length+(Lv.tid (l.take i)).1.length:=Mt;have hLl:=bQ (Lv.tid (l.take i)).2;refine(h7.ex φ).get (i:=i) (x:=ts0[i]) (by omega) (by simp [hil]) ?_;generalize l.bf[i]=e at*;generalize ts0[i]=v27 at*;have hke:(∃k a b o r,e= .thr k a b o r .nil/\r.sh true=true)\/∃ps,e= .sum ps .nil/\ps.sh false=true:=Lv.jK hsh e hmem;generalize (o++(Lv.tid (l.take i)).1)=O at*;generalize (Lv.tid (l.take i)).2=L at*;have hts:ts.length=L.len:=δ.th.len;have hS:∀{w1:World},Ex H w1->∀{g j:Nat} {u:Value},g< H.heap.size->H.cell? ⟨g,j,none⟩=some u->w1.cell? ⟨g,j,none⟩=some u:=by
   intro w1 Z g j u J hu;rw [Z.cell (show g< _ from J)];exact hu
  rcases hke with⟨k,a,b1,o',r,rfl,hr⟩ | ⟨ps,rfl,hps⟩
  ·obtain⟨_,_,a',b',vr,e,⟨g,rfl,g2,g3,g4,g5,g6,g7,g8⟩,hab,hlv,_⟩:=he;obtain⟨rfl,_⟩:=Ny e;refine⟨λw'=>Ex H w',λχ θ=>⟨θ▸Ex.drew H,g,0,rfl,_,λw' Z=>hS Z g3 g4,g,0,rfl,_,λw' Z=>hS Z g3 g5,g,0,rfl,_,λw' Z=>hS Z g3 g6,λb39 γ hb39 ι=>?_⟩⟩;have x29:Ex H χ:=θ▸Ex.drew H;have s29:χ.heap.size=H.heap.size:=by rw [θ];rfl
   have κ:Ex H γ:=Ex.trans x29 (ι▸Ex.alloc χ _);have s40:γ.heap.size=χ.heap.size+1:=by rw [ι,size_alloc]
   have th40:jQ γ b39 k.byte a' b' (.pointer none) (.slice none 0 0):=jQ.new hb39 ι;have l9:=δ.l9;have n39:b39≠b9:=by omega
   have h39:w.heap.size<=b39:=by have :=φ.size;omega
   have ti40:TI w γ b7 b9 O L ts M λg=>g=b9\/g=b39:=δ.Le (Kp.ah κ λ _=>False) (λ _ h=>h.elim) (λg h=> .inl h) λg h=>h.elim .inl λh=> .inr (by omega)
   simp only [Lv.sz]at hesz;simp only [Lv.tot]at hetot hTe;refine⟨κ,g,0,rfl,_,hS κ g3 g4,aT (by cases k<;>decide) ⟨g,0,rfl,_,hS κ g3 g7,?_⟩⟩;refine ih r.sz (by omega) (Mu _) hr (fK.ex hlv κ) (by omega) λμ w138 ς l137=>⟨fK.one l137,⟨⟨_,(th40.kp (Kp.ah ς λ _=>False) λh=>h).c3⟩,(th40.kp (Kp.ah ς λ _=>False) λh=>h).f 3⟩,λV hw140=>?_⟩
   have k140:Kr b39 w138 V:=hw140▸Kr.set w138 3 _;have ψ:jQ V b39 k.byte a' b' μ (.slice none 0 0):=(th40.kp (Kp.ah ς λ _=>False) λh=>h).DZ hw140;have ω:TI w V b7 b9 O L ts M λg=>g=b9\/g=b39:=(ti40.ext ς).L3 k140 λg J=>⟨.inr J,by omega,by omega⟩
   have s138:=ς.size;have s140:=k140.size;have hrt:=n7 o' r;have l140:az (λg=>(γ.heap.size<=g)/\g< V.heap.size) V (Lv.tidy o' r) μ:=az.sub (az.kp (l137.sub (E:=λg=>γ.heap.size<=g/\g< w138.heap.size) λg J h=>⟨h,J⟩) k140 λg J e=>by omega) λg _ J=>⟨J.1,by omega⟩
   have hM40:∀g,M g->g< γ.heap.size:=λg J=>(ti40.bd.mr g J).2
   have cg:∀{w1:World},Ex V w1->∀{j:Nat} {u:Value},H.cell? ⟨g,j,none⟩=some u->w1.cell? ⟨g,j,none⟩=some u:=λZ j u hu=>by
    have:V.cell? ⟨g,j,none⟩=some u:=by
     rw [Mn (w:=w138) (k140.block g (by omega) (by omega)),ς.cell (show g< _ by omega)];exact hS κ g3 hu
    rw [Z.cell (show g< _ by omega)];exact this
   have cb:∀{w1:World},Ex V w1->w1.cell? ⟨b39,3,none⟩=some μ:=λZ=>by rw [Z.cell (show b39< _ from ψ.lt)];exact ψ.c3
   have c9':∀{w1:World},Ex V w1->w1.cell? ⟨b9,0,none⟩=some (ptr b7):=λZ=>by rw [Z.cell (show b9< _ from ω.l9)];exact ω.c9
   have hth:∀{w1:World},Ex V w1->af (λg=>(w.heap.size<=g/\¬M g/\¬(g=b9))/\g< w1.heap.size) w1 (.thr k a b1 (Lv.tidy o' r).1 (Lv.tidy o' r).2 .nil) [ptr b39]:=λ{w1} Z=>by
    have sx:=Z.size;refine⟨ptr b39,[],a',b',μ,rfl,(ψ.kp (Kp.ah Z λ _=>False) λh=>h).KI ⟨⟨h39,λhm=>ω.mx b39 hm (.inr rfl),n39⟩,by have :=ψ.lt;omega⟩,hab,?_,rfl⟩;exact az.sub (az.ex l140 Z) λg _ J=>⟨⟨by omega,λhm=>by have :=hM40 g hm;omega,by omega⟩,by omega⟩
   have ο:∀{w1:World},Ex V w1->TI w w1 b7 b9 O L ts M λg=>g=b9:=λZ=>(ω.ext Z).G1 (λg h=> .inl h) rfl
   have hnil:∀{w1:World},Ex V w1->Lv.tid (.thr k a b1 o' r .nil)=([],.nil)->TI w w1 b7 b9 (O++(Lv.tid (.thr k a b1 o' r .nil)).1) (L.app (Lv.tid (.thr k a b1 o' r .nil)).2) ts M λg=>g=b9:=λZ e=>by
    rw [e,MY,Lv.aX];exact ο Z
   have hlr:=bQ (Lv.tidy o' r).2;refine⟨λw'=>Ex V w',λυ hw142=>⟨hw142▸Ex.drew V,g,0,rfl,_,λw' Z=>cg Z g4,?_⟩⟩;have G:Ex V υ:=hw142▸Ex.drew V;have ν:∀{w1:World},Ex V w1->(Lv.tid (.thr k a b1 o' r .nil)=([],.thr k a b1 (Lv.tidy o' r).1 (Lv.tidy o' r).2 .nil))->∀w'' α M',TI w w'' b7 b9 O (L.app (.thr k a b1 (Lv.tidy o' r).1 (Lv.tidy o' r).2 .nil)) α M' (λg=>g=b9)->TI w w'' b7 b9 (O++(Lv.tid (.thr k a b1 o' r .nil)).1) (L.app (Lv.tid (.thr k a b1 o' r .nil)).2) α M' (λg=>g=b9):=λ _ e w'' α M' h=>by
    rw [e,MY];exact h
   have hkm:(Lv.tidy o' r).2.isNil=false->¬(k= .m/\a=b1)->Lv.tid (.thr k a b1 o' r .nil)=([],.thr k a b1 (Lv.tidy o' r).1 (Lv.tidy o' r).2 .nil):=λh1 h2=>by
    rw [jd,MJ h2,MJ (by rw [h1];simp)]
   cases k with
   | m=>
    have hab:a'=a/\b'=b1:=by rcases hab with h | h | h<;>first | exact h | cases h
    obtain⟨rfl,rfl⟩:=hab;refine cN rfl ⟨g,0,rfl,a',λw' Z=>cg Z g5,g,0,rfl,b',λw' Z=>cg Z g6,λhq=>?_,λhq=>?_⟩
    ·have hq:a'=b':=by have :=MN hq;omega
     have ht:Lv.tid (.thr .m a' b' o' r .nil)=Lv.tidy o' r:=by rw [jd,MZ ⟨rfl,hq⟩]
     refine⟨λw'=>Ex υ w',λw153 hw153=>⟨hw153▸Ex.drew υ,ptr b7,λw' Z=>c9' (Ex.trans G Z),μ,λw' Z=>cb (Ex.trans G Z),?_⟩⟩;have x153:Ex V w153:=Ex.trans G (hw153▸Ex.drew υ);refine(ο x153).Fo (O2:=(Lv.tidy o' r).1) (L2:=(Lv.tidy o' r).2) (az.ex l140 x153) (λg J hd=>⟨by omega,λhm=>by have :=hM40 g hm;omega,by omega⟩) ⟨by omega,by omega⟩ λw'' α M' h _=>W w'' α M' ?_
     rw [ht];exact h
    ·have hq:¬a'=b':=by have :=MO hq;omega
     refine⟨g,0,rfl,_,cg G g4,dE rfl ⟨μ,cb G,lU (az.ex l140 G) ⟨λhe=>W υ ts M (hnil G (by rw [jd,MJ (λh=>hq h.2),MZ ⟨.inl rfl,he⟩])),λhe=>?_⟩⟩⟩;have ht:=hkm he λh=>hq h.2
     exact(ο G).push (hth G) (by omega) λw'' α M' h=>W w'' α M' (ν G ht _ _ _ h)
   | p=>
    refine aT (by dsimp only [K.byte];decide) ⟨g,0,rfl,_,cg G g4,ck (by dsimp only [K.byte];decide) ⟨g,0,rfl,_,cg G g4,cN rfl ⟨μ,cb G,lU (az.ex l140 G) ⟨λhe=>W υ ts M (hnil G (by rw [jd,MJ (λh=>by cases h.1),MZ ⟨.inr rfl,he⟩])),λhe=>?_⟩⟩⟩⟩;have ht:=hkm he λh=>by cases h.1
    exact(ο G).push (hth G) (by omega) λw'' α M' h=>W w'' α M' (ν G ht _ _ _ h)
   | s=>
    refine aT (by dsimp only [K.byte];decide) ⟨g,0,rfl,_,cg G g4,ck (by dsimp only [K.byte];decide) ⟨g,0,rfl,_,cg G g4,aT (by dsimp only [K.byte];decide) ?_⟩⟩;exact(ο G).push (hth G) (by omega) λw'' α M' h=>W w'' α M' (ν G (by rw [jd,MJ (λh=>by cases h.1),MJ (λh=>by rcases h.1 with h | h<;>cases h)]) _ _ _ h)
   | r=>
    refine aT (by dsimp only [K.byte];decide) ⟨g,0,rfl,_,cg G g4,ck (by dsimp only [K.byte];decide) ⟨g,0,rfl,_,cg G g4,aT (by dsimp only [K.byte];decide) ?_⟩⟩;exact(ο G).push (hth G) (by omega) λw'' α M' h=>W w'' α M' (ν G (by rw [jd,MJ (λh=>by cases h.1),MJ (λh=>by rcases h.1 with h | h<;>cases h)]) _ _ _ h)
   | t=>
    refine aT (by dsimp only [K.byte];decide) ⟨g,0,rfl,_,cg G g4,ck (by dsimp only [K.byte];decide) ⟨g,0,rfl,_,cg G g4,aT (by dsimp only [K.byte];decide) ?_⟩⟩;exact(ο G).push (hth G) (by omega) λw'' α M' h=>W w'' α M' (ν G (by rw [jd,MJ (λh=>by cases h.1),MJ (λh=>by rcases h.1 with h | h<;>cases h)]) _ _ _ h)
  ·clear he;obtain⟨_,_,a',b',vp0,us0,e,⟨g,rfl,g2,g3,g4,g5,g6,g7,g8⟩,hsl,hus,_⟩:=he0;obtain⟨rfl,_⟩:=Ny e;have hS0:∀{w1:World},Ex w w1->∀{j:Nat} {u:Value},w.cell? ⟨g,j,none⟩=some u->w1.cell? ⟨g,j,none⟩=some u:=by
    intro w1 Z j u hu;rw [Z.cell (show g< _ from g3)];exact hu
   refine⟨λw'=>Ex H w',λχ θ=>⟨θ▸Ex.drew H,g,0,rfl,43,λw' Z=>hS0 (Ex.trans φ Z) g4,g,0,rfl,_,λw' Z=>hS0 (Ex.trans φ Z) g5,g,0,rfl,_,λw' Z=>hS0 (Ex.trans φ Z) g6,λb39 γ hb39 ι=>?_⟩⟩;have x29:Ex H χ:=θ▸Ex.drew H;have s29:χ.heap.size=H.heap.size:=by rw [θ];rfl
   have κ:Ex H γ:=Ex.trans x29 (ι▸Ex.alloc χ _);have s40:γ.heap.size=χ.heap.size+1:=by rw [ι,size_alloc]
   have th40:jQ γ b39 43 a' b' (.pointer none) (.slice none 0 0):=jQ.new hb39 ι;have l9:=δ.l9;have n39:b39≠b9:=by omega
   have h39:w.heap.size<=b39:=by have :=φ.size;omega
   have ti40:TI w γ b7 b9 O L ts M λg=>g=b9\/g=b39:=δ.Le (Kp.ah κ λ _=>False) (λ _ h=>h.elim) (λg h=> .inl h) λg h=>h.elim .inl λh=> .inr (by omega)
   have si40:SI w γ b7 b9 b39 O L ts M (λg=>g=b9\/g=b39) a' b' .nil:=⟨ti40,.inr rfl,h39,n39,.slice none 0 0,[],th40,aM.nil _ _ _,rfl,λg h=>by cases h⟩
   simp only [Lv.sz]at hesz;simp only [Lv.tot]at hetot hTe;obtain⟨ap,capp,hvp⟩:=hsl.slice;have hul:=hus.len;have hpel:=Lv.cG ps;have hplt:=bQ ps;refine⟨κ,g,0,rfl,_,hS0 (Ex.trans φ κ) g4,cN rfl ⟨g,0,rfl,vp0,hS0 (Ex.trans φ κ) g8,ap,_,capp,hvp,λx w'=>∃(j:Nat) (X:Nat->Prop),x=j/\j<=ps.bf.length/\SI w w' b7 b9 b39 O L ts M X a' b' (Lv.tid (ps.take j)).2,λx _=>(ps.bf.length - x).toNat,⟨0,_,rfl,by omega,by simpa [Lv.take,Lv.tid]using si40⟩,λx β hI=>?_⟩⟩;obtain⟨j,X,rfl,hj,ξ⟩:=hI;have x53:=ξ.ti.ex;refine⟨λhc=>?_,λhc=>?_⟩
   ·have hc:=MN hc;have hjl:j< us0.length:=by omega
    have hjl':j< ps.bf.length:=by omega
    refine(hsl.ex x53).get (i:=j) (x:=us0[j]) (by omega) (by simp [hjl]) ?_;have hpe:=hus.bf.2 j ps.bf[j] us0[j] (Mo hjl') (Mo hjl);have hpm:=Mx hjl';have hpsz:=Lv.dT ps _ hpm;have hptot:=Lv.fP ps _ hpm;obtain⟨o'',q,epq,hq⟩:=Lv.lQ hps _ hpm;have htk:(Lv.tid (ps.take (j+1))).2=(Lv.tid (ps.take j)).2.app (Lv.prt (Lv.tidy o'' q).1 (Lv.tidy o'' q).2 .nil):=by
     rw [Lv.take_succ ps j hjl',Lv.yR _ (Lv.oJ ps j hps),epq];rfl
    have hQ:=bQ (Lv.tid (ps.take j)).2;have hQ1:=Lv.ec (ps.take j);have hQ2:=Lv.fq ps (j+1);rw [Lv.take_succ ps j hjl',Lv.bR,epq]at hQ2;rw [epq]at hpe hpsz hptot;generalize us0[j]=v58 at*;obtain⟨v58',_,e58,hlq,_⟩:=hpe;obtain⟨rfl,_⟩:=Ny e58;simp only [Lv.sz]at hpsz;simp only [Lv.tot]at hptot hQ2;have hfin:∀w' X',SI w w' b7 b9 b39 O L ts M X' a' b' (Lv.tid (ps.take (j+1))).2->bJ ((j:Int)+1)/\(∃(j':Nat) (X:Nat->Prop),((j:Int)+1)=j'/\j'<=ps.bf.length/\SI w w' b7 b9 b39 O L ts M X a' b' (Lv.tid (ps.take j')).2)/\((ps.bf.length:Int) - ((j:Int)+1)).toNat< ((ps.bf.length:Int) - (j:Int)).toNat:=
     λw' X' h=>⟨by omega,⟨j+1,X',by omega,by omega,h⟩,by omega⟩
    refine ih q.sz (by omega) (Mu _) hq (fK.ex hlq x53) (by omega) λv59 η x60 l59=>?_
    have si60:=ξ.ext x60;have hrt:=n7 o'' q;have hqsh:(Lv.tidy o'' q).2.sh true=true:=Lv.dB q true hq;generalize Lv.tidy o'' q=r' at*;have hM53:∀g,M g->g< β.heap.size:=λg J=>(ξ.ti.bd.mr g J).2
    have hX53:=ξ.ti.xl;have hsz53:=x53.size;refine lU l59 ⟨λhe=>?_,λhe=>HA l59 hqsh ⟨λhs=>?_,λhs=>?_⟩⟩
    ·refine hfin η X ?_;rw [htk,yf,MZ he,Lv.aX];exact si60
    ·obtain⟨ps',ep⟩:∃ps',r'.2= .sum ps' .nil:=by
      have :=(Bool.and_eq_true_iff.1 hs).2;generalize r'.2=q' at*
      match q',this with
      | .sum ps' .nil,_=>exact⟨ps',rfl⟩
     rw [yf,MJ (by rw [he];simp),MZ hs,ep]at htk;have htk:(Lv.tid (ps.take (j+1))).2=(Lv.tid (ps.take j)).2.app ps':=htk;unfold az at l59;rw [ep]at l59 hrt;obtain⟨b59,vo59,vt59,tsq,rfl,k2,k3,k4,k5,k6,k7,k8⟩:=l59;obtain⟨_,_,aq,bq,vpq,usq,rfl,⟨gq,rfl,q2,q3,q4,q5,q6,q7,q8⟩,qsl,qus,rfl⟩:=k8;obtain⟨vp,us,ε,ho60,hu60,hob⟩:=si60.sl;have hobl:∀x,vp.ownBlock=some x->x< β.heap.size:=λx Z=>hX53 x (hob x Z).1
     refine⟨λw'=>Kp η w' λg=>vp.ownBlock=some g,λw66 hw66=>⟨hw66▸Kp.ah (Ex.drew η) _,vp,λw' k=>?_,b59,0,rfl,vt59,λw' k=>?_,?_⟩⟩
     ·rw [Mn (w:=η) (k.block b39 ε.lt λe=>(hob _ e).2.2 rfl)];exact ε.c4
     ·rw [Mn (w:=η) (k.block b59 k3 λe=>by have :=hobl _ e;have:β.heap.size<=b59:=k2;omega)];exact k5
     have x66:Ex η w66:=hw66▸Ex.drew η;rcases k7 with⟨_,e⟩ | ⟨bt,off,cp,rfl,t2,t3,t4⟩
     ·cases e
     refine⟨bt,off,1,cp,rfl,by omega,by omega,ptr gq,λw' k=>?_,gq,0,rfl,vpq,λw' k=>?_,?_⟩
     ·rw [Mn (w:=η) (k.block bt t3 λe=>by have :=hobl _ e;have:β.heap.size<=bt:=t2;omega)];exact t4 0 _ rfl
     ·rw [Mn (w:=η) (k.block gq q3 λe=>by have :=hobl _ e;have:β.heap.size<=gq:=q2;omega)];exact q8
     have hqd:af (λg=>(w.heap.size<=g/\¬M g/\¬X g)/\g< w66.heap.size) w66 ps' usq:=af.sub (λg J hd=>⟨⟨by have:β.heap.size<=g:=hd;omega,λhm=>by have :=hM53 g hm;have:β.heap.size<=g:=hd;omega,λhm=>by have :=hX53 g hm;have:β.heap.size<=g:=hd;omega⟩,J⟩) (af.ex qus x66);have hql:=qus.len;have hql2:=bQ ps';simp only [Lv.tot]at hrt;refine(si60.ext x66).push (qsl.ex x66) hqd (by omega) (by rw [x66.cell (show b39< _ from ε.lt)];exact ε.c4) λv84 w85 hv84 k85 hc85 hset=>⟨Kp.trans (Kp.ah x66 _) k85 λ _ _ h=>h,hv84,hc85,λw87 hw87=>?_⟩
     obtain⟨X',hsi⟩:=hset w87 hw87;refine hfin w87 X' ?_;rw [htk];exact hsi
    ·rw [yf,MJ (by rw [he];simp),MJ (by rw [hs];simp)]at htk;obtain⟨vp,us,ε,ho60,hu60,hob⟩:=si60.sl;refine⟨vp,ε.c4,fK.one l59,λb89 w90 hb89 hw90=>?_⟩;have x90:Ex η w90:=hw90▸Ex.alloc η _;have s90:w90.heap.size=η.heap.size+1:=by rw [hw90,size_alloc]
     have hsl1:dV (λx=>x=b89) w90 (.slice (some ⟨b89,0,none⟩) 1 1) [v59]:=by
      refine .inr ⟨b89,0,1,rfl,rfl,by omega,λi x Z=>?_⟩;rw [MX,hw90,hb89];refine aa ?_
      match i,Z with
      | 0,Z=>simpa using Z
      | i+1,Z=>simp at Z
     have hqd:af (λg=>(w.heap.size<=g/\¬M g/\¬X g)/\g< w90.heap.size) w90 (.part r'.1 r'.2 .nil) [v59]:=⟨v59,[],rfl,az.sub (az.ex l59 x90) λg J hd=>⟨⟨by have:β.heap.size<=g:=hd;omega,λhm=>by have :=hM53 g hm;have:β.heap.size<=g:=hd;omega,λhm=>by have :=hX53 g hm;have:β.heap.size<=g:=hd;omega⟩,J⟩,rfl⟩
     refine(si60.ext x90).push hsl1 hqd (by simp only [Mm,MB];omega) (by rw [x90.cell (show b39< _ from ε.lt)];exact ε.c4) λv84 w85 hv84 k85 hc85 hset=>⟨hv84,hc85,λw87 hw87=>?_⟩
     obtain⟨X',hsi⟩:=hset w87 hw87;refine hfin w87 X' ?_;rw [htk];exact hsi
   ·have hc:=MO hc;have:j=ps.bf.length:=by omega
    subst this;rw [Lv.cZ]at ξ;have hpsh:(Lv.tid ps).2.sh false=true:=Lv.dB ps false hps;have hpt:=Lv.ec ps;have hpl:=bQ (Lv.tid ps).2;have htid:Lv.tid (.sum ps .nil)=Lv.spl (Lv.tid ps).2 ([],.nil):=by simp only [Lv.tid]
    rw [htid]at W;generalize (Lv.tid ps).2=Q at*;have si53':=ξ;obtain⟨ti,hx39,_,_,vp,us,th,ho,hu,hob⟩:=ξ;have ο:TI w β b7 b9 O L ts M λg=>g=b9:=ti.G1 (λg h=>h▸ti.x9) rfl
    obtain⟨av,capv,hvpe⟩:=(ho.Dv (D:=λ _=>True) λ _ _=>trivial).slice;have hulen:=hu.len;refine⟨vp,th.c4,av,_,capv,hvpe,λh0=>?_,λh0=>⟨λh1=>?_,λh1=>?_⟩⟩
    ·have h0:=MN h0;have hQ:Q= .nil:=by
      have:Q.len=0:=by omega
      cases Q<;>first | rfl | simp [Lv.len]at this
     subst hQ;refine W β ts M ?_;simp only [Lv.spl,MY,Lv.aX];exact ο
    ·have h1:=MN h1;obtain⟨oq,qq,rfl⟩:∃oq qq,Q= .part oq qq .nil:=by
      have:Q.len=1:=by omega
      cases Q with
      | nil=>simp [Lv.len]at this
      | thr=>cases hpsh
      | sum=>cases hpsh
      | part oq qq n=>
       have hn:n= .nil:=by
        have:n.len=0:=by simp only [Lv.len]at this;omega
        cases n<;>first | rfl | simp [Lv.len]at this
       exact⟨oq,qq,by rw [hn]⟩
     obtain⟨u,us',rfl,hlu,rfl⟩:=hu;rcases ho.Dv (D:=λg=>vp.ownBlock=some g) λ _ h=>h with⟨_,e⟩ | ⟨bt,off,cp,hvp2,t2,t3,t4⟩
     ·cases e
     have hnM:∀g,X g->¬M g:=λg Z hm=>ti.mx g hm Z
     refine⟨λw'=>Kp β w' M,λw105 hw105=>⟨hw105▸Kp.ah (Ex.drew β) _,ptr b7,λw' k=>?_,vp,λw' k=>?_,bt,off,1,cp,hvp2,by omega,by omega,u,λw' k=>?_,?_⟩⟩
     ·rw [Mn (w:=β) (k.block b9 ti.l9 (hnM _ ti.x9))];exact ti.c9
     ·rw [Mn (w:=β) (k.block b39 th.lt (hnM _ hx39))];exact th.c4
     ·rw [Mn (w:=β) (k.block bt t3 (hnM _ (hob _ t2).1))];exact t4 0 _ rfl
     have x105:Ex β w105:=hw105▸Ex.drew β;simp only [Lv.tot]at hpt;have :=bQ qq;refine(ti.ext x105).Fo (O2:=oq) (L2:=qq) (fK.ex hlu x105) (λg _ hd=>hd.1) ⟨by omega,by omega⟩ λw'' α M' h k=>⟨Kp.trans (Kp.ah x105 _) k λ _ _ h=>h,W w'' α M' ?_⟩
     simp only [Lv.spl,MY,Lv.aX];exact h.G1 (λg h=>h▸ti.x9) rfl
    ·have h0:=MO h0;have h1:=MO h1;have hspl:Lv.spl Q ([],.nil)=([],.sum Q .nil):=by
      unfold Lv.spl;split
      ·simp [Lv.len]at hulen;simp [hulen]at h0
      ·simp [Lv.len]at hulen;simp [hulen]at h1
      ·rfl
     refine ο.push (e:= .sum Q .nil) ⟨ptr b39,[],a',b',vp,us,rfl,th.KI ⟨⟨h39,λhm=>ti.mx b39 hm hx39,n39⟩,th.lt⟩,?_,?_,rfl⟩ (by omega) λw'' α M' h=>W w'' α M' ?_
     ·exact ho.Dv λg J=>⟨⟨(ho.block g J).1,λhm=>ti.mx g hm (hob g J).1,(hob g J).2.1⟩,(ho.block g J).2⟩
     ·exact af.sub (λg _ hd=>⟨⟨hd.1.1,hd.1.2.1,λe=>hd.1.2.2 (e▸ti.x9)⟩,hd.2⟩) hu
     ·rw [hspl,MY];exact h
 ·have hc:=MO hc;have:i=l.bf.length:=by omega
  subst this;rw [Lv.cZ]at δ;have htt:=Lv.ec l;have hsz:=Lv.jB (Lv.tid l).2;have htsh:=Lv.dB l true hsh;have hfil:Lv.tidy o l=((o++(Lv.tid l).1).filter (λx=> !!(Lv.tid l).2.has x),(Lv.tid l).2):=by
   simp only [Bool.not_not];rfl
  rw [hfil]at hR;have hOl:(o++(Lv.tid l).1).length=o.length+(Lv.tid l).1.length:=Mt;generalize (o++(Lv.tid l).1)=O at*;generalize (Lv.tid l).2=L at*;have ti:=δ;obtain⟨d1,d2,d3,dr,d4,vo1,vt1,d5,d6,d7,d8,d9,d10,d11⟩:=ti.bd;have hn9:¬M b9:=λhm=>ti.mx b9 hm rfl
  refine⟨λw'=>Kp H w' λg=>vo1.ownBlock=some g,λw302 hw302=>⟨hw302▸Kp.ah (Ex.drew H) _,ptr b7,λw' k=>?_,ptr b7,λw' k=>?_,b7,0,rfl,vo1,λw' k=>?_,?_⟩⟩
  ·rw [Mn (w:=H) (k.block b9 ti.l9 λe=>hn9 (d9 _ e).1)];exact ti.c9
  ·rw [Mn (w:=H) (k.block b9 ti.l9 λe=>hn9 (d9 _ e).1)];exact ti.c9
  ·rw [Mn (w:=H) (k.block b7 d1 λe=>(d9 _ e).2 rfl)];exact d5
  have ζ:Ex H w302:=hw302▸Ex.drew H;have kx:Kp H w302 λ _=>False:=Kp.ah ζ _
  have hsvt:dV (λg=>w.heap.size<=g/\vo1.ownBlock≠some g/\g< H.heap.size) H vt1 ts:=d8.Dv λg J=>⟨(d8.block g J).1,λe=>d11 g e J,(d8.block g J).2⟩
  have hths:af (λg=>w.heap.size<=g/\vo1.ownBlock≠some g/\g< H.heap.size) H L ts:=af.sub (λg J hd=>⟨hd.1.1,λe=>hd.1.2.1 (d9 g e).1,J⟩) ti.th;refine GC (ca:=[ptr b9]) (d7.kp kx λ _ _ h=>h) (by kernel_rfl) (KF (b7:=b7) (vt:=vt1) (D:=λg=>w.heap.size<=g/\vo1.ownBlock≠some g/\g< H.heap.size) ?_ (by have :=ti.l9;have :=ζ.size;omega) ?_ (by have :=ζ.size;omega) (hsvt.ex ζ) (af.ex hths ζ) htsh (by omega) λg J=>⟨λhd=>hd.2.1 J,λe=>hn9 (e▸(d9 g J).1),(d9 g J).2⟩) (by omega) λv308 w309 hv k309 hsl=>?_
  ·rw [ζ.cell (show b9< _ from ti.l9)];exact ti.c9
  ·rw [ζ.cell (show b7< _ from d1)];exact d6
  have k9:Kp H w309 λg=>vo1.ownBlock=some g:=Kp.trans (Kp.ah ζ _) k309 λ _ _ h=>h
  have hb9:=k9.block b7 d1 λe=>(d9 _ e).2 rfl
  have c0:w309.cell? ⟨b7,0,none⟩=some vo1:=by rw [Mn (w:=H) hb9];exact d5
  refine⟨k9,b7,0,rfl,hv,⟨⟨_,c0⟩,by rw [MU (w:=H) hb9];exact d4 _⟩,λw313 hw313=>?_⟩;have kset:Kr b7 w309 w313:=hw313▸Kr.set w309 0 _;have kall:Kp H w313 λg=>vo1.ownBlock=some g\/g=b7:=Kp.trans (Kp.mono (λg e=> .inl e) k9) kset λg _ e=> .inr e
  have hne79:b9≠b7:=λe=>hn9 (e▸d3)
  refine⟨ptr b7,?_,hR _ w313 ?_ ?_⟩
  ·rw [Mn (w:=H) (kall.block b9 ti.l9 λe=>e.elim (λe=>hn9 (d9 _ e).1) hne79)];exact ti.c9
  ·exact Ex.below ti.ex (Kp.below kall ti.ex.size λg J e=>by
    rcases e with e | e
    ·have :=(d7.block g e).1;omega
    ·omega)
  ·refine⟨b7,v308,vt1,ts,rfl,d2,MP d1 kall.size,?_,?_,?_,?_,?_⟩
   ·rw [hw313];exact MI _ _ _ c0
   ·rw [hw313,Mr _ _ _ _ (by simp),Mn (w:=H) hb9];exact d6
   ·exact(hsl.kp kset λg J e=>(d9 g J).2 e).sub λg _ J=>(d7.block g J).1
   ·exact((d8.Dv (D:=λg=>vt1.ownBlock=some g) λ _ h=>h).kp kall λg J e=>e.elim (λe=>d11 g e J) (d10 g J).2).sub λg _ J=>(d8.block g J).1
   ·exact af.sub (λg _ J=>J.1.1) (af.kp kall (λg J e=>e.elim (λe=>J.1.2.1 (d9 g e).1) λe=>J.1.2.1 (e▸d3)) ti.th)
theorem Fq:∀n,Ch n:=by
 have:∀k n,n< k->Ch n:=by
  intro k
  induction k with
  | zero=>intro n h;omega
  | succ k G=>exact λn h=>Eg n λm hm=>G m (by omega)
 exact λn=>this (n+1) n (by omega)
end Go.Proofs.YtdecokaadekjnaaGreat
namespace Go.Proofs.YtdecokaadekjnaaGreat
open Go
attribute [go_sem] Tryz.f249
theorem jh (G:Value)(c2:Value)(c3:Value)(w:World)(R:PV)(h:vc ay (a6 [] [] [(1,false,.lt 1 (.lt 4 (.br .h 0 (.lt 2 (.br .h 3 (.lt 5 (.one .h 6 (.one .h 7 .done))) (.one .h 6 (.one .h 3 (.lt 5 (.one .h 7 .done)))))) (.one .h 3 (.lt 5 (.one .h 0 (.lt 2 (.one .h 6 (.one .h 7 .done)))))))))]) (ab Tryz.f249) (ai 0 [.v G,.v c2,.v c3]) w (fin ay [] R)):
  PW 249 #[G,c2,c3] w (aw [] R):=
 bc Tryz.func249 (by kernel_rfl) h
theorem kO (l1:Value)(w:World)(R:Int->Int->PV)(h:j4 w λS2 w3=>cw l1 λb4 o5=>eo S2 b4 (o5+0) λv6=>jS v6 λl8=>cw l1 λb10 o11=>eo S2 b10 (o11+0) λv12=>jS v12 λl14=>(dQ w3 (.cells #[(.int .i64 0)] 3) λb16 w17=>S2 w17/\dQ w17 (.cells #[(.int .i64 0)] 3) λb18 w19=>S2 w19/\jW w19 b16 0 (.int .i64 (l8:Int)) λw21=>S2 w21/\jW w21 b18 0 (.int .i64 (l14:Int)) λw23=>cw l1 λb24 o25=>cY w23 b24 (o25+1) λv26=>jS v26 λl28=>tY 0 w23 λI30 μ J Z=>bS (decide (J< (l28:Int))) (jc v26 J λb34 o35=>cY Z b34 (o35+J.toNat* 1) λν=>cw ν λb39 o40=>cY Z b39 (o40+3) λv41=>∃q42:Option Addr,v41= .pointer q42/\bS (!Option.isNone q42) (cw ν λb43 o44=>cY Z b43 (o44+3) λv45=>∃(f46:Nat) (c47:List Value),(Value.func (.func 249) #[] #[(.pointer (some ⟨b16,0,none⟩)),(.pointer (some ⟨b18,0,none⟩))])= .func (.func f46) #[] (List.toArray c47)/\hasR fV f46=true/\fC f46 (List.toArray ([v45]++c47)) Z λw48=>cw ν λb49 o50=>cY w48 b49 (o50+4) λv51=>jS v51 λl53=>tY 0 w48 λI55 m56 γ η=>bS (decide (γ< (l53:Int))) (jc v51 γ λb59 o60=>cY η b59 (o60+γ.toNat* 1) λv63=>∃(f64:Nat) (c65:List Value),(Value.func (.func 249) #[] #[(.pointer (some ⟨b16,0,none⟩)),(.pointer (some ⟨b18,0,none⟩))])= .func (.func f64) #[] (List.toArray c65)/\hasR fV f64=true/\fC f64 (List.toArray ([v63]++c65)) η λw66=>bJ (γ+1)/\I55 (γ+1) w66/\m56 (γ+1) w66< m56 γ η) (bJ (J+1)/\I30 (J+1) η/\μ (J+1) η< μ J Z)) (cw ν λb67 o68=>cY Z b67 (o68+4) λv69=>jS v69 λl71=>tY 0 Z λI73 m74 δ θ=>bS (decide (δ< (l71:Int))) (jc v69 δ λb77 o78=>cY θ b77 (o78+δ.toNat* 1) λv81=>∃(f82:Nat) (c83:List Value),(Value.func (.func 249) #[] #[(.pointer (some ⟨b16,0,none⟩)),(.pointer (some ⟨b18,0,none⟩))])= .func (.func f82) #[] (List.toArray c83)/\hasR fV f82=true/\fC f82 (List.toArray ([v81]++c83)) θ λw84=>bJ (δ+1)/\I73 (δ+1) w84/\m74 (δ+1) w84< m74 δ θ) (bJ (J+1)/\I30 (J+1) θ/\μ (J+1) θ< μ J Z))) (j4 Z λS85 w86=>wk S85 b16 0 λn87=>wk S85 b18 0 λn88=>R n87 n88 w86))/\(dQ w3 (.cells #[(.int .i64 0)] 3) λι w90=>S2 w90/\dQ w90 (.cells #[(.int .i64 0)] 3) λκ w92=>S2 w92/\jW w92 κ 0 (.int .i64 (l8:Int)) λw94=>S2 w94/\jW w94 ι 0 (.int .i64 (l14:Int)) λw96=>cw l1 λb97 o98=>cY w96 b97 (o98+1) λv99=>jS v99 λl101=>tY 0 w96 λξ ε G H=>bS (decide (G< (l101:Int))) (jc v99 G λb107 o108=>cY H b107 (o108+G.toNat* 1) λζ=>cw ζ λb112 o113=>cY H b112 (o113+3) λv114=>∃ο:Option Addr,v114= .pointer ο/\bS (!Option.isNone ο) (cw ζ λb116 o117=>cY H b116 (o117+3) λv118=>∃(f119:Nat) (ς:List Value),(Value.func (.func 249) #[] #[(.pointer (some ⟨κ,0,none⟩)),(.pointer (some ⟨ι,0,none⟩))])= .func (.func f119) #[] (List.toArray ς)/\hasR fV f119=true/\fC f119 (List.toArray ([v118]++ς)) H λυ=>cw ζ λb122 o123=>cY υ b122 (o123+4) λv124=>jS v124 λl126=>tY 0 υ λI128 φ V α=>bS (decide (V< (l126:Int))) (jc v124 V λb132 o133=>cY α b132 (o133+V.toNat* 1) λv136=>∃(f137:Nat) (χ:List Value),(Value.func (.func 249) #[] #[(.pointer (some ⟨κ,0,none⟩)),(.pointer (some ⟨ι,0,none⟩))])= .func (.func f137) #[] (List.toArray χ)/\hasR fV f137=true/\fC f137 (List.toArray ([v136]++χ)) α λψ=>bJ (V+1)/\I128 (V+1) ψ/\φ (V+1) ψ< φ V α) (bJ (G+1)/\ξ (G+1) α/\ε (G+1) α< ε G H)) (cw ζ λb140 o141=>cY H b140 (o141+4) λω=>jS ω λl144=>tY 0 H λI146 m147 W β=>bS (decide (W< (l144:Int))) (jc ω W λb150 o151=>cY β b150 (o151+W.toNat* 1) λv154=>∃(f155:Nat) (c156:List Value),(Value.func (.func 249) #[] #[(.pointer (some ⟨κ,0,none⟩)),(.pointer (some ⟨ι,0,none⟩))])= .func (.func f155) #[] (List.toArray c156)/\hasR fV f155=true/\fC f155 (List.toArray ([v154]++c156)) β λw157=>bJ (W+1)/\I146 (W+1) w157/\m147 (W+1) w157< m147 W β) (bJ (G+1)/\ξ (G+1) β/\ε (G+1) β< ε G H))) (j4 H λS158 w159=>wk S158 κ 0 λn160=>wk S158 ι 0 λn161=>R n160 n161 w159))):
  PW 236 #[l1] w (aw [.i,.i] R):=
 IJ (a6 [(4,[(27,.i)]),(9,[(47,.i)])] [] [(1,true,.lt 0 (.lt 1 (.lt 2 (.lt 3 (.lt 4 (.lt 5 (.lt 6 (.lt 7 (.lt 8 (.lt 9 (.br .g 10 (.one .g 11 (.one .g 12 (.one .n 13 .done))) (.one .g 11 (.one .g 10 (.one .g 12 (.one .n 13 .done))))))))))))))),(14,true,.lt 0 (.lt 1 (.lt 2 (.lt 3 .done))))]) [.tmp 2 .i,.tmp 3 .i] [.v l1] Tryz.func236 (by kernel_rfl) h
attribute [go_sem] Tryz.f59
theorem zq (c1:UInt8)(w:World)(R:UInt32->PV)(h:vc ay (a6 [] [] []) (ab Tryz.f59) (ai 0 [.c c1]) w (fin ay [.tmp 2 .w] R)):
  PW 59 #[(.int .u8 c1.toNat)] w (aw [.w] R):=
 bc Tryz.func59 (by kernel_rfl) h
attribute [go_sem] Tryz.f130
theorem ui (s1:UInt32)(w:World)(R:UInt8->Bool->PV)(h:vc ay (a6 [(2,[(4,.c)])] [] []) (ab Tryz.f130) (ai 0 [.w s1]) w (fin ay [.tmp 2 .c,.tmp 3 .b] R)):
  PW 130 #[(.int .u32 (UInt32.toNat s1))] w (aw [.c,.b] R):=
 bc Tryz.func130 (by kernel_rfl) h
attribute [go_sem] Tryz.f252
theorem ny (n1:Value)(G:Int)(w:World)(R:UInt32->PV)(h:vc ay (a6 [] [] [(6,true,.lt 0 (.lt 1 (.lt 2 (.lt 3 (.lt 4 (.one .g 5 (.lt 6 (.lt 7 (.lt 8 (.one .n 9 .done))))))))))]) (ab Tryz.f252) (ai 0 [.v n1,.i G]) w (fin ay [.tmp 4 .w] R)):
  PW 252 #[n1,(.int .i64 G)] w (aw [.w] R):=
 bc Tryz.func252 (by kernel_rfl) h
attribute [go_sem] Tryz.f253
theorem nF (n1:Value)(G:Int)(w:World)(R:aF->PV)(h:vc ay (a6 [] [] []) (ab Tryz.f253) (ai 0 [.v n1,.i G]) w (fin ay [.tmp 4 .s] R)):
  PW 253 #[n1,(.int .i64 G)] w (aw [.s] R):=
 bc Tryz.func253 (by kernel_rfl) h
attribute [go_sem] Tryz.f255
theorem wF (t1:Value)(s2:aF)(w:World)(R:aF->PV)(h:vc ay (a6 [(4,[(5,.s),(6,.i)])] [] []) (ab Tryz.f255) (ai 0 [.v t1,.s s2]) w (fin ay [.tmp 4 .s] R)):
  PW 255 #[t1,(.string (ax s2))] w (aw [.s] R):=
 bc Tryz.func255 (by kernel_rfl) h
attribute [go_sem] Tryz.f254
theorem kD (n1:Value)(t2:Value)(w:World)(R:aF->PV)(h:vc ay (a6 [(5,[(5,.v),(24,.i)])] [] [(15,true,.lt 0 (.lt 1 (.lt 2 (.lt 3 (.lt 4 (.lt 6 (.lt 7 (.lt 8 (.lt 9 (.lt 10 (.one .g 5 (.one .g 11 (.lt 12 (.lt 13 .done)))))))))))))),(19,true,.lt 0 (.lt 1 (.lt 2 (.lt 3 (.lt 4 (.lt 7 (.lt 8 (.lt 9 (.lt 10 (.lt 11 (.lt 15 (.lt 16 (.lt 17 (.lt 18 (.lt 19 (.one .g 5 (.lt 6 (.one .g 12 (.lt 13 (.lt 14 (.one .g 20 (.lt 21 (.lt 22 .done))))))))))))))))))))))),(22,true,.lt 0 (.lt 1 (.lt 2 (.lt 3 (.lt 4 (.lt 7 (.lt 8 (.lt 9 (.lt 10 (.lt 11 (.lt 15 (.lt 16 (.lt 17 (.lt 18 (.lt 19 (.one .g 5 (.lt 6 (.one .g 12 (.lt 13 (.lt 14 (.one .g 20 (.lt 21 (.lt 22 .done)))))))))))))))))))))))]) (ab Tryz.f254) (ai 0 [.v n1,.v t2]) w (fin ay [.tmp 4 .s] R)):
  PW 254 #[n1,t2] w (aw [.s] R):=
 bc Tryz.func254 (by kernel_rfl) h
attribute [go_sem] Tryz.f251
theorem jY (c1:Value)(c2:Value)(c3:Value)(c4:Value)(c5:Value)(w:World)(R:PV)(h:vc ay (a6 [(2,[(5,.s),(14,.i)]),(9,[(8,.v),(35,.i)])] [] []) (ab Tryz.f251) (ai 0 [.v c1,.v c2,.v c3,.v c4,.v c5]) w (fin ay [] R)):
  PW 251 #[c1,c2,c3,c4,c5] w (aw [] R):=
 bc Tryz.func251 (by kernel_rfl) h
attribute [go_sem] Tryz.f250
theorem ki (G:Value)(a2:Int)(d3:Value)(w:World)(R:PV)(h:vc ay (a6 [(3,[(6,.i)])] [] [(5,true,.lt 0 (.lt 1 (.lt 2 (.lt 3 (.lt 4 (.lt 5 (.lt 6 (.lt 7 (.lt 8 (.lt 9 (.lt 10 (.lt 11 (.lt 12 (.one .n 13 (.lt 14 (.one .n 15 .done)))))))))))))))),(7,true,.lt 0 (.lt 1 (.lt 2 (.lt 3 (.lt 4 (.lt 5 (.lt 6 (.lt 7 (.lt 8 (.lt 9 (.lt 10 (.lt 11 (.lt 12 (.one .n 13 (.lt 14 (.one .n 15 .done))))))))))))))))]) (ab Tryz.f250) (ai 0 [.v G,.i a2,.v d3]) w (fin ay [] R)):
  PW 250 #[G,(.int .i64 a2),d3] w (aw [] R):=
 bc Tryz.func250 (by kernel_rfl) h
attribute [go_sem] Tryz.f237
theorem mD (n1:Value)(G:Value)(w:World)(R:aF->PV)(h:vc ay (a6 [] [] [(3,true,.lt 0 (.lt 1 (.lt 2 (.lt 3 (.br .g 4 (.one .g 5 (.one .g 6 (.one .n 7 .done))) (.one .g 5 (.one .g 4 (.one .g 6 (.one .n 7 .done)))))))))]) (ab Tryz.f237) (ai 0 [.v n1,.v G]) w (fin ay [.tmp 4 .s] R)):
  PW 237 #[n1,G] w (aw [.s] R):=
 bc Tryz.func237 (by kernel_rfl) h
attribute [go_sem] Tryz.f216
theorem lj (G:Value)(w:World)(R:aF->Bool->PV)(h:vc ay (a6 [(7,[(25,.i)])] [] [(10,true,.lt 0 (.lt 1 (.lt 2 (.lt 3 (.lt 4 (.lt 5 (.lt 6 (.lt 7 (.lt 8 (.one .n 9 .done))))))))))]) (ab Tryz.f216) (ai 0 [.v G]) w (fin ay [.tmp 2 .s,.tmp 3 .b] R)):
  PW 216 #[G] w (aw [.s,.b] R):=
 bc Tryz.func216 (by kernel_rfl) h
attribute [go_sem] Tryz.f175
theorem mj (t1:Value)(w:World)(R:aF->Bool->PV)(h:vc ay (a6 [] [] []) (ab Tryz.f175) (ai 0 [.v t1]) w (fin ay [.tmp 2 .s,.tmp 3 .b] R)):
  PW 175 #[t1] w (aw [.s,.b] R):=
 bc Tryz.func175 (by kernel_rfl) h
end Go.Proofs.YtdecokaadekjnaaGreat
namespace Go.Proofs.YtdecokaadekjnaaGreat
open Go Go.RowKit
theorem c6:∀l:Lv,thAll l<=l.tot
 | .nil=>Mu _
 | .thr _ _ _ o r n=>by have :=c6 r;have :=c6 n;simp only [thAll,Lv.tot];omega
 | .sum ps n=>by have :=c6 ps;have :=c6 n;simp only [thAll,Lv.tot];omega
 | .part o q n=>by have :=c6 q;have :=c6 n;simp only [thAll,Lv.tot];omega
def Li (n:Nat):Prop:=∀{D:Nat->Prop} {w:World} {v:Value} {o:List Nat} {l:Lv} {R:Int->Int->PV},l.sz<=n->l.sh true=true->fK D w v o (af D w l)->o.length+l.tot<=1099511627776->
 (∀w',Ex w w'->R ((max o.length (an l):Nat):Int) ((o.length+thAll l:Nat):Int) w')->PW 236 #[v] w (aw [.i,.i] R)
structure FS (w w':World)(bm ba m a:Nat):Prop where
 ex:Ex w w'
 lm:bm< w'.heap.size
 la:ba< w'.heap.size
 hm:w.heap.size<=bm
 ha:w.heap.size<=ba
 ne:bm≠ba
 cm:w'.cell? ⟨bm,0,none⟩=some (iv m)
 ca:w'.cell? ⟨ba,0,none⟩=some (iv a)
 fm:w'.frozen? ⟨bm,0,none⟩=false
 fa:w'.frozen? ⟨ba,0,none⟩=false
theorem FS.ext {w w' w'':World}{bm ba m a:Nat}(h:FS w w' bm ba m a)(x:Ex w' w''):FS w w'' bm ba m a:=
 ⟨Ex.trans h.ex x,MP h.lm x.size,MP h.la x.size,h.hm,h.ha,h.ne,by rw [x.cell (show bm< _ from h.lm)];exact h.cm,by rw [x.cell (show ba< _ from h.la)];exact h.ca,
  by rw [MU (w:=w') (x.block bm h.lm)];exact h.fm,by rw [MU (w:=w') (x.block ba h.la)];exact h.fa⟩
theorem FS.J2 {w w' w'':World}{bm ba m a m':Nat}(h:FS w w' bm ba m a)(hw:w''=w'.setCell ⟨bm,0,none⟩ (iv m')):FS w w'' bm ba m' a:=by
 subst hw;exact⟨Ex.own h.ex h.hm _,by rw [M9];exact h.lm,by rw [M9];exact h.la,h.hm,h.ha,h.ne,MI _ _ _ h.cm,by rw [Mr _ _ _ _ (λe=>by injection e with G;exact h.ne G)];exact h.ca,by rw [MG];exact h.fm,by rw [MG];exact h.fa⟩
theorem FS.JN {w w' w'':World}{bm ba m a a':Nat}(h:FS w w' bm ba m a)(hw:w''=w'.setCell ⟨ba,0,none⟩ (iv a')):FS w w'' bm ba m a':=by
 subst hw;exact⟨Ex.own h.ex h.ha _,by rw [M9];exact h.lm,by rw [M9];exact h.la,h.hm,h.ha,h.ne,by rw [Mr _ _ _ _ (λe=>by injection e with G;exact h.ne G.symm)];exact h.cm,MI _ _ _ h.ca,by rw [MG];exact h.fm,by rw [MG];exact h.fa⟩
theorem I2 {n:Nat}(ih:Li n){D:Nat->Prop}{w w':World}{v:Value}{o:List Nat}{l:Lv}{bm ba m a:Nat}(hs:FS w w' bm ba m a)(hn:l.sz<=n)(Z:l.sh true=true)(h:fK D w' v o (af D w' l))(hb:a+o.length+l.tot<=1099511627776){R:PV}
  (hR:∀w'',FS w w'' bm ba (max m (max o.length (an l))) (a+(o.length+thAll l))->R w''):PW 249 #[v,ptr bm,ptr ba] w' (aw [] R):=by
 refine jh v _ _ w' R ?_;dsimp only [go_sem];dsimp only [go_sem,UInt8.reduceOfNat,UInt32.reduceOfNat,Nat.reduceAdd];have h1:=c6 l;refine ih hn Z h (by omega) λw6 x6=>⟨λ _=>True,λw8 α=>⟨trivial,?_⟩⟩
 have f8:FS w w8 bm ba m a:=(hs.ext x6).ext (α▸Ex.drew w6);have em:(if((max o.length (an l):Nat):Int)> (m:Int)then((max o.length (an l):Nat):Int)else(m:Int))=((max m (max o.length (an l)):Nat):Int):=by split<;>omega
 have ea:((a:Int)+((o.length+thAll l:Nat):Int))=((a+(o.length+thAll l):Nat):Int):=by omega
 have W:bJ ((a:Int)+((o.length+thAll l:Nat):Int)):=by omega
 have fin:∀w1 w2,FS w w1 bm ba (max m (max o.length (an l))) a->w2=w1.setCell ⟨ba,0,none⟩ (.int .i64 ((a:Int)+((o.length+thAll l:Nat):Int)))->True/\R w2:=λw1 w2 f1 hw=>by
  rw [ea]at hw;exact⟨trivial,hR w2 (f1.JN hw)⟩
 have mid:∀w1,w1=w8.setCell ⟨bm,0,none⟩ (.int .i64 (if((max o.length (an l):Nat):Int)> (m:Int)then((max o.length (an l):Nat):Int)else(m:Int)))->FS w w1 bm ba (max m (max o.length (an l))) a:=λw1 hw=>by
  rw [em]at hw;exact f8.J2 hw
 refine⟨⟨bm,0,rfl,m,f8.cm,trivial,⟨ba,0,rfl,a,f8.ca,trivial,W,bm,0,rfl,⟨⟨_,f8.cm⟩,f8.fm⟩,λH G=>⟨trivial,ba,0,rfl,⟨⟨_,(mid H G).ca⟩,(mid H G).fa⟩,λV J=>fin H V (mid H G) J⟩⟩,
  ⟨bm,0,rfl,⟨⟨_,f8.cm⟩,f8.fm⟩,λH G=>⟨trivial,ba,0,rfl,a,(mid H G).ca,trivial,W,ba,0,rfl,⟨⟨_,(mid H G).ca⟩,(mid H G).fa⟩,λV J=>fin H V (mid H G) J⟩⟩⟩,
  ⟨ba,0,rfl,a,f8.ca,trivial,W,bm,0,rfl,m,f8.cm,trivial,bm,0,rfl,⟨⟨_,f8.cm⟩,f8.fm⟩,λH G=>⟨trivial,ba,0,rfl,⟨⟨_,(mid H G).ca⟩,(mid H G).fa⟩,λV J=>fin H V (mid H G) J⟩⟩⟩
theorem FS.swap {w w':World}{bm ba m a:Nat}(h:FS w w' bm ba m a):FS w w' ba bm a m:=⟨h.ex,h.la,h.lm,h.ha,h.hm,PB h.ne,h.ca,h.cm,h.fa,h.fm⟩
theorem aS (w:World)(c:Array Value)(e j:Nat):(w.alloc (.cells c e)).frozen? ⟨w.heap.size,j,none⟩=false:=by unfold World.frozen? World.alloc;simp
theorem FS.new {w w1 w2 V:World}{bm ba:Nat}(x:Ex w w1)(hm:bm=w1.heap.size)(H:w2=w1.alloc (.cells #[iv 0] 3))(ha:ba=w2.heap.size)(J:V=w2.alloc (.cells #[iv 0] 3)):Ex w w2/\FS w V bm ba 0 0:=by
 have :=x.size;subst hm H ha J;have W:Ex w (w1.alloc (.cells #[iv 0] 3)):=Ex.trans x (Ex.alloc _ _);have s2:=size_alloc w1 (.cells #[iv 0] 3);have Z:=size_alloc (w1.alloc (.cells #[iv 0] 3)) (.cells #[iv 0] 3);have G:w1.heap.size< (w1.alloc (.cells #[iv 0] 3)).heap.size:=by omega
 refine⟨W,Ex.trans W (Ex.alloc _ _),by omega,by omega,this,by omega,by omega,?_,aa rfl,?_,aS _ _ _ _⟩
 ·rw [(Ex.alloc _ _).cell (a:=⟨w1.heap.size,0,none⟩) G];exact aa rfl
 ·rw [MU (w:=w1.alloc (.cells #[iv 0] 3)) ((Ex.alloc _ _).block _ G)];exact aS _ _ _ _
theorem zg (n:Nat)(ih:∀m,m< n->Li m):Li n:=by
 intro D w v o l R hn hsh h hb hR;refine kO v w R ?_;obtain⟨b,vo,vt,ts,rfl,h2,h3,h4,h5,h6,h7,h8⟩:=h;obtain⟨ao,ν,ς⟩:=h6.slice;rw [MM]at ς;obtain⟨at_,capt,hvt⟩:=h7.slice;have hlen:=h8.len;have hel:=Lv.cG l;have hlt:=bQ l;have cv:∀{w1:World},Ex w w1->∀{j:Nat} {u:Value},w.cell? ⟨b,j,none⟩=some u->w1.cell? ⟨b,j,none⟩=some u:=by
  intro w1 hx j u hu;rw [hx.cell (show b< _ from h3)];exact hu
 have fin:∀bm ba J,FS w J bm ba (max o.length (an l)) (o.length+thAll l)->∃υ:PV,∀η:World,η=World.drew J->υ η/\∃n87:Int,(∀w',υ w'->World.cell? w' ⟨bm,0,none⟩=some (Value.int IntKind.i64 n87))/\∃n88:Int,(∀w',υ w'->World.cell? w' ⟨ba,0,none⟩=some (Value.int IntKind.i64 n88))/\R (n87) (n88) η:=by
  intro bm ba J f;refine⟨λw'=>Ex J w',λη ξ=>⟨ξ▸Ex.drew J,((max o.length (an l):Nat):Int),λw' x=>(f.ext x).cm,((o.length+thAll l:Nat):Int),λw' x=>(f.ext x).ca,hR _ (Ex.trans f.ex (ξ▸Ex.drew J))⟩⟩
 refine⟨λw'=>Ex w w',λw3 hw3=>⟨hw3▸Ex.drew w,b,0,rfl,vo,λw' hx=>cv hx h4,ao,_,ν,ς,b,0,rfl,vo,λw' hx=>cv hx h4,ao,_,ν,ς,λb1 φ δ H=>?A,λb1 φ δ H=>?B⟩⟩
 all_goals have x3:Ex w w3:=hw3▸Ex.drew w
 case' A=>
  have χ:Ex w φ:=H▸Ex.trans x3 (Ex.alloc _ _);refine⟨χ,λb2 w19 ε V=>?_⟩;have f:=(FS.new x3 δ H ε V).2;refine⟨f.ex,⟨⟨_,f.cm⟩,f.fm⟩,λw21 W=>?_⟩;have f21:=f.J2 (m':=o.length) W;refine⟨f21.ex,⟨⟨_,f21.ca⟩,f21.fa⟩,λw23 Z=>?_⟩;have f23:=f21.JN (a':=o.length) Z;generalize b1=bm at*;generalize b2=ba at*;clear δ ε H V W Z f f21
 case' B=>
  have χ:Ex w φ:=H▸Ex.trans x3 (Ex.alloc _ _);refine⟨χ,λb2 w19 ε V=>?_⟩;have f:=(FS.new x3 δ H ε V).2.swap;refine⟨f.ex,⟨⟨_,f.cm⟩,f.fm⟩,λw21 W=>?_⟩;have f21:=f.J2 (m':=o.length) W;refine⟨f21.ex,⟨⟨_,f21.ca⟩,f21.fa⟩,λw23 Z=>?_⟩;have f23:=f21.JN (a':=o.length) Z;generalize b1=ba at*;generalize b2=bm at*;clear δ ε H V W Z f f21
 all_goals
  refine⟨b,0,rfl,vt,cv f23.ex h5,at_,_,capt,hvt,λx w'=>∃i:Nat,x=i/\i<=ts.length/\FS w w' bm ba (max o.length (an (l.take i))) (o.length+thAll (l.take i)),λx _=>(ts.length - x).toNat,⟨0,rfl,Nl _,by simpa [Lv.take,an,thAll]using f23⟩,λx J hI=>?_⟩;obtain⟨i,rfl,hi,f33⟩:=hI;refine⟨λhlt'=>?_,λhge=>?_⟩;rotate_left
  ·have:i=l.bf.length:=by simp only [Mw]at hge;omega
   rw [this,Lv.cZ]at f33;exact fin bm ba J f33
  have θ:=oL hlt';have hie:i< l.bf.length:=by omega
  obtain⟨bt,ot,G,hvt',hc⟩:∃bt ot G,vt= .slice (some ⟨bt,ot,none⟩) ts.length G/\J.cell? ⟨bt,ot+i,none⟩=some ts[i]:=by
   rcases h7 with⟨_,h0⟩ | ⟨bt,ot,G,e,_,ψ,β⟩
   ·rw [h0]at θ;simp at θ
   ·exact⟨bt,ot,G,e,by rw [f33.ex.cell (show bt< _ from ψ)];exact β i _ (Mo θ)⟩
  obtain⟨e,he1,he2,ω⟩:=aN.single h8.bf (Mo θ);have he4:l.bf[i]=e:=by rw [Mo hie]at he1;exact Ng he1
  have hts:=Lv.take_succ l i hie;rw [he4]at hts;have htt:=Lv.fq l (i+1);rw [hts,Lv.bR]at htt;have htt0:=c6 (l.take i);have hsz:=Lv.dT l e he2;have he5:=ω.ex f33.ex;have step:∀α,FS w α bm ba (max (max o.length (an (l.take i))) (an e)) (o.length+thAll (l.take i)+thAll e)->bJ ((i:Int)+1)/\(∃j:Nat,(i:Int)+1=j/\j<=ts.length/\FS w α bm ba (max o.length (an (l.take j))) (o.length+thAll (l.take j)))/\((ts.length:Int) - ((i:Int)+1)).toNat< ((ts.length:Int) - i).toNat:=by
   intro α f58;refine⟨by omega,⟨i+1,by omega,by omega,?_⟩,by omega⟩;rw [hts,bY,bT];rw [Nat.max_assoc,OU]at f58;exact f58
  refine⟨bt,ot,_,G,hvt',by omega,by omega,ts[i],by rw [Mv,MW];exact hc,?_⟩;rcases Lv.jK hsh e he2 with⟨k,a,bb,o',r,rfl,hr⟩ | ⟨ps,rfl,hps⟩
  ·obtain⟨t,ts',a',b',vr,e1,ht,_,ι,_⟩:=ω;obtain⟨rfl,rfl⟩:=Ny e1;obtain⟨g,hg,_,κ,c0,c1,c2,c3,c4⟩:=ht;have ι:=ι.ex f33.ex;rw [<-f33.ex.cell (show g< _ from κ)]at c3;have hvr:∃br,vr=ptr br:=by obtain⟨br,_,_,_,e,_⟩:=ι;exact⟨br,e⟩
   obtain⟨br,rfl⟩:=hvr;simp only [Lv.sz]at hsz;simp only [Lv.tot]at htt;refine⟨g,0,hg,ptr br,c3,some ⟨br,0,none⟩,rfl,λ _=>⟨g,0,hg,ptr br,c3,249,[ptr bm,ptr ba],rfl,by kernel_rfl,?_⟩,λh=>by cases h⟩;refine I2 (ih r.sz (by omega)) f33 (Mu _) hr ι (by omega) λw48 f48=>?_
   refine⟨g,0,hg,.slice none 0 0,by rw [f48.ex.cell (show g< _ from κ)];exact c4,none,0,0,rfl,λy α=>y=0/\α=w48,λ _ _=>0,⟨rfl,rfl⟩,λy α hy=>?_⟩;obtain⟨rfl,rfl⟩:=hy;refine⟨λh=>by simp at h,λ _=>step _ ?_⟩;simpa [an,thAll]using f48
  ·obtain⟨t,ts',a',b',vp,us,e1,ht,hus,ο,_⟩:=ω;obtain⟨rfl,rfl⟩:=Ny e1;obtain⟨g,hg,_,κ,c0,c1,c2,c3,c4⟩:=ht;obtain⟨au,cau,hvu⟩:=hus.slice;rw [<-f33.ex.cell (show g< _ from κ)]at c3 c4;simp only [Lv.sz]at hsz;simp only [Lv.tot]at htt;have hul:=ο.len;have hpl:=Lv.cG ps;have hpt:=bQ ps;refine⟨g,0,hg,.pointer none,c3,none,rfl,λh=>(by cases h),λ _=>⟨g,0,hg,vp,c4,au,_,cau,hvu,λy w'=>∃j:Nat,y=j/\j<=us.length/\FS w w' bm ba (max (max o.length (an (l.take i))) (an (ps.take j))) (o.length+thAll (l.take i)+thAll (ps.take j)),λy _=>(us.length - y).toNat,⟨0,rfl,Nl _,by simpa [Lv.take,an,thAll]using f33⟩,λy α hJ=>?_⟩⟩;obtain⟨j,rfl,hj,f58⟩:=hJ;refine⟨λhlt2=>?_,λhge2=>?_⟩;rotate_left
   ·have:j=ps.bf.length:=by simp only [Mw]at hge2;omega
    rw [this,Lv.cZ]at f58;exact step _ (by simpa [an,thAll]using f58)
   have μ:=oL hlt2;have hje:j< ps.bf.length:=by omega
   obtain⟨bu,ou,γ,hvu',hcu⟩:∃bu ou γ,vp= .slice (some ⟨bu,ou,none⟩) us.length γ/\α.cell? ⟨bu,ou+j,none⟩=some us[j]:=by
    rcases hus with⟨_,h0⟩ | ⟨bt,ot,G,e,_,ψ,β⟩
    ·rw [h0]at μ;simp at μ
    ·exact⟨bt,ot,G,e,by rw [f58.ex.cell (show bt< _ from ψ)];exact β j _ (Mo μ)⟩
   obtain⟨e,hf1,hf2,hf3⟩:=aN.single ο.bf (Mo μ);have hf4:ps.bf[j]=e:=by rw [Mo hje]at hf1;exact Ng hf1
   have ζ:=Lv.take_succ ps j hje;rw [hf4]at ζ;have htu:=Lv.fq ps (j+1);rw [ζ,Lv.bR]at htu;have htu0:=c6 (ps.take j);have hsz2:=Lv.dT ps e hf2;obtain⟨o2,q,rfl,hq⟩:=Lv.lQ hps e hf2;simp only [Lv.sz]at hsz2;simp only [Lv.tot]at htu;obtain⟨v2,ts2,e2,hlv2,_⟩:=hf3;obtain⟨rfl,rfl⟩:=Ny e2;refine⟨bu,ou,_,γ,hvu',by omega,by omega,us[j],by rw [Mv,MW];exact hcu,249,[ptr bm,ptr ba],rfl,by kernel_rfl,?_⟩;refine I2 (ih q.sz (by omega)) f58 (Mu _) hq (hlv2.ex f58.ex) (by omega) λw66 f66=>⟨by omega,⟨j+1,by omega,by omega,?_⟩,tN (by omega)⟩
   rw [ζ,bY,bT];simp only [an,thAll,Nat.max_zero,OQ];rw [<-Nat.max_assoc,<-OU];exact f66
theorem Gk (n:Nat):Li n:=by
 induction n using Nat.strongRecOn with
 | _ n G=>exact zg n G
end Go.Proofs.YtdecokaadekjnaaGreat
namespace Go.Proofs.YtdecokaadekjnaaGreat
namespace Lv
def bvs:Lv->List Nat
 | nil=>[]
 | thr k _ b o r n=>(if k= .r then [b]else [])++(o++(r.bvs++n.bvs))
 | sum ps n=>ps.bvs++n.bvs
 | part o q n=>o++(q.bvs++n.bvs)
theorem dc:∀l m:Lv,(l.app m).bvs=l.bvs++m.bvs
 | nil,m=>rfl
 | thr k a b o r n,m=>by simp only [app,bvs,dc n m,M8]
 | sum ps n,m=>by simp only [app,bvs,dc n m,M8]
 | part o q n,m=>by simp only [app,bvs,dc n m,M8]
theorem lN:∀(l:Lv),∀e∈l.bf,e.bvs.Sublist l.bvs
 | nil,e,h=>by cases h
 | thr k a b o r n,e,h=>by
  rcases MH.1 h with rfl | h
  ·simp only [bvs,MY];exact Oc (NC _) (Oc (NC _) (OF _ _))
  ·exact(lN n e h).trans ((NW _ _).trans ((NW _ _).trans (NW _ _)))
 | sum ps n,e,h=>by
  rcases MH.1 h with rfl | h
  ·simp only [bvs,MY];exact OF _ _
  ·exact(lN n e h).trans (NW _ _)
 | part o q n,e,h=>by
  rcases MH.1 h with rfl | h
  ·simp only [bvs,MY];exact Oc (NC _) (OF _ _)
  ·exact(lN n e h).trans ((NW _ _).trans (NW _ _))
theorem pc {x:Nat}:∀(l:Lv),∀e∈l.bf,e.fh x->l.fh x
 | nil,e,h,_=>by cases h
 | thr k a b o r n,e,h,G=>by
  rcases MH.1 h with rfl | h
  ·rcases G with G | G | G | G
   ·exact .inl G
   ·exact .inr (.inl G)
   ·exact .inr (.inr (.inl G))
   ·exact G.elim
  ·exact .inr (.inr (.inr (pc n e h G)))
 | sum ps n,e,h,G=>by
  rcases MH.1 h with rfl | h
  ·exact .inl (G.elim id λh=>h.elim)
  ·exact .inr (pc n e h G)
 | part o q n,e,h,G=>by
  rcases MH.1 h with rfl | h
  ·exact .inl (G.elim id λh=>h.elim)
  ·exact .inr (pc n e h G)
theorem kR:∀(l:Lv) (i:Nat),∀x∈(l.take i).bvs,x∈l.bvs
 | _,0,x,h=>by simp [take,bvs]at h
 | nil,i+1,x,h=>h
 | thr k a b o r n,i+1,x,h=>by
  simp only [take,bvs,My]at h|-;exact h.imp id (Or.imp id (Or.imp id (kR n i x)))
 | sum ps n,i+1,x,h=>by
  simp only [take,bvs,My]at h|-;exact h.imp id (kR n i x)
 | part o q n,i+1,x,h=>by
  simp only [take,bvs,My]at h|-;exact h.imp id (Or.imp id (kR n i x))
theorem gh:∀(l:Lv) (i:Nat),(l.take i).len<=l.len
 | _,0=>by simp [take,len]
 | nil,i+1=>by simp [take,len]
 | thr k a b o r n,i+1=>by have :=gh n i;simp only [take,len];omega
 | sum ps n,i+1=>by have :=gh n i;simp only [take,len];omega
 | part o q n,i+1=>by have :=gh n i;simp only [take,len];omega
def sm:Lv->Bool
 | nil=>true
 | thr _ _ _ _ r n=>r.sm&&n.sm
 | sum ps n=> !ps.isNil&&(ps.sm&&n.sm)
 | part _ q n=>q.sm&&n.sm
theorem p4:∀{l m:Lv},(l.app m).sm=(l.sm&&m.sm)
 | nil,m=>by simp [app,sm]
 | thr k a b o r n,m=>by simp only [app,sm,p4 (l:=n),PO]
 | sum ps n,m=>by simp only [app,sm,p4 (l:=n),PO]
 | part o q n,m=>by simp only [app,sm,p4 (l:=n),PO]
theorem sS:∀{l:Lv},l.sm=true->∀e∈l.bf,e.sm=true
 | nil,_,e,h=>by cases h
 | thr k a b o r n,G,e,h=>by
  simp only [sm,Mp]at G;rcases MH.1 h with rfl | h
  ·simp only [sm,G.1,NS]
  ·exact sS G.2 e h
 | sum ps n,G,e,h=>by
  simp only [sm,Mp]at G;rcases MH.1 h with rfl | h
  ·simp only [sm,G.1,G.2.1,NS]
  ·exact sS G.2.2 e h
 | part o q n,G,e,h=>by
  simp only [sm,Mp]at G;rcases MH.1 h with rfl | h
  ·simp only [sm,G.1,NS]
  ·exact sS G.2 e h
theorem Kf {ps:Lv}{n:List Nat×Lv}(h:ps.sm=true)(G:n.2.sm=true):(spl ps n).2.sm=true:=by
 unfold spl;split
 ·exact G
 ·simp only [sm,Mp]at h;simp only [p4,h.1,G,NS]
 ·rename_i H J;have:ps.isNil=false:=by cases ps<;>first | rfl | exact absurd rfl H
  simp only [sm,this,h,G,Bool.not_false,NS]
theorem JG {o:List Nat}{q n:Lv}(h:q.sm=true)(G:n.sm=true):(prt o q n).sm=true:=by
 unfold prt;split
 ·exact G
 ·split
  ·simp only [sm,Mp]at h;simp only [p4,h.2.1,G,NS]
  ·simp only [sm,Mp]at h|-;exact⟨h,G⟩
 ·simp only [sm,h,G,NS]
theorem m5:∀l:Lv,(tid l).2.sm=true
 | nil=>rfl
 | thr k a b o r n=>by
  have H:=m5 r;have G:=m5 n;simp only [tid];have J:(kept o (tid r)).2=(tid r).2:=rfl;split
  ·simp only [p4,J,H,G,NS]
  ·split
   ·exact G
   ·simp only [sm,J,H,G,NS]
 | sum ps n=>by
  simp only [tid];exact Kf (m5 ps) (m5 n)
 | part o q n=>by
  simp only [tid,kept];exact JG (m5 q) (m5 n)
end Lv
structure tV (o:List Nat)(l:Lv):Prop where
 nd:(o++l.bvs).Nodup
 nf:∀x∈l.bvs,¬l.fh x
 ge:∀x∈o++l.bvs,26<=x
theorem tV.bf {o:List Nat}{l:Lv}(h:tV o l){e:Lv}(he:e∈l.bf):tV [] e:=by
 have G:=Lv.lN l e he;refine⟨by simpa using(M6.1 h.nd).2.1.sublist G,λx H J=>h.nf x (G.subset H) (Lv.pc l e he J),λx H=>h.ge x (MT _ (G.subset (by simpa using H)))⟩
theorem tV.thr {k:K}{a b:Nat}{o:List Nat}{r:Lv}(h:tV [] (.thr k a b o r .nil)):tV o r/\(k= .r->26<=b/\b≠a/\b∉o/\b∉r.bvs):=by
 have nd:=h.nd;have ge:=h.ge;have nf:=h.nf;simp only [Lv.bvs,MY,Nk]at nd ge nf;have G:=(M6.1 nd).2.1;refine⟨⟨G,λx H W=>?_,λx H=>ge x (MT _ H)⟩,λJ=>?_⟩
 ·refine nf x (MT _ (MT _ H)) (.inr (.inr (.inl ⟨λV=>(M6.1 G).2.2 x V x H rfl,fun⟨J,hb⟩=>?_,W⟩)));rw [MZ J]at nd;exact(M6.1 nd).2.2 b (by simp) x (MT _ H) hb.symm
 ·rw [MZ J]at nd ge nf;refine⟨ge b (by simp),λe=>nf b (by simp) (.inr (.inl ⟨J,e⟩)),λV=>(M6.1 nd).2.2 b (by simp) b (M0 _ V) rfl,λhr=>(M6.1 nd).2.2 b (by simp) b (MT _ hr) rfl⟩
theorem tV.sum {ps:Lv}(h:tV [] (.sum ps .nil)):tV [] ps:=by
 have nd:=h.nd;have ge:=h.ge;have nf:=h.nf;simp only [Lv.bvs,MY,Nk]at nd ge nf;exact⟨by simpa using nd,λx G H=>nf x G (.inl H),λx G=>ge x (by simpa using G)⟩
theorem tV.part {o:List Nat}{q:Lv}(h:tV [] (.part o q .nil)):tV o q:=by
 have nd:=h.nd;have ge:=h.ge;have nf:=h.nf;simp only [Lv.bvs,MY,Nk]at nd ge nf;exact⟨nd,λx G H=>nf x (MT _ G) (.inl ⟨λJ=>(M6.1 nd).2.2 x J x G rfl,H⟩),ge⟩
def bG (l:List Tx):Nat:=(l.map λs=>s.length+3).sum
theorem gX {l m:List Tx}(h:l.Perm m):bG l=bG m:=iL (h.map _)
theorem A5 (l m:List Tx):bG (l++m)=bG l+bG m:=by simp [bG]
theorem gn (s:UInt8):∀l:List Tx,(joinS s l).length<=bG l
 | []=>by simp [joinS]
 | [a]=>by simp [joinS,bG]
 | a::b::l=>by
  have :=gn s (b::l);simp only [joinS,Mm,Mt,MB];simp only [bG,MV,NF]at this|-;omega
theorem vi (s:Tx):∀l:List UInt8,(wrap l s).length=3* l.length+s.length
 | []=>by simp [wrap]
 | c::l=>by simp only [wrap,Mm,vi s l];omega
theorem nv {own:List Nat}{f:Rh->Tk->List Tx}{B:Nat}(hB:∀ρ tk,bG (f ρ tk)<=B)(ρ:Rh)(tk:Tk):(aR own f ρ tk).length<=3* own.length+B+1:=by
 unfold aR;split
 ·simp
 ·have G:((perms own).map λπ=>joinS 38 (aH (f (asg π (lets own.length tk) ρ) (addK (lets own.length tk) tk))))≠[]:=λe=>oe own (Pa.1 e)
  obtain⟨H,_⟩:=cz G;obtain⟨π,_,e⟩:=Nb.1 H;show(wrap _ (bE _)).length<=_;rw [vi,fw,<-e];have :=gn 38 (aH (f (asg π (lets own.length tk) ρ) (addK (lets own.length tk) tk)));rw [gX (aE _)]at this;have :=hB (asg π (lets own.length tk) ρ) (addK (lets own.length tk) tk);omega
theorem fQ:∀(l:Lv) (ρ:Rh) (tk:Tk),bG (thS l ρ tk)<=16* l.tot
 | .nil,_,_=>by simp [thS,bG]
 | .thr k a b o r n,ρ,tk=>by
  have H:=fQ n ρ tk;have G:∀ρ tk,(aR o (thS r) ρ tk).length<=3* o.length+16* r.tot+1:=λρ tk=>nv (λρ tk=>fQ r ρ tk) ρ tk
  simp only [bG]at H|-;cases k<;>simp only [thS,MV,NF,kText,Mm,Lv.tot]
  ·have :=G ρ tk;omega
  ·have :=G (aI ρ b (ic tk)) (cu tk (ic tk));omega
  ·have :=G ρ tk;omega
  ·have :=G ρ tk;omega
  ·have :=G ρ tk;omega
 | .sum ps n,ρ,tk=>by
  have G:=fQ ps ρ tk;have H:=fQ n ρ tk;have J:=gn 43 (aH (thS ps ρ tk));rw [gX (aE _)]at J;simp only [bG]at G H J|-;simp only [thS,MV,NF,Lv.tot];omega
 | .part o q n,ρ,tk=>by
  have H:=fQ n ρ tk;have G:(aR o (thS q) ρ tk).length<=3* o.length+16* q.tot+1:=nv (λρ tk=>fQ q ρ tk) ρ tk;simp only [bG]at H|-;simp only [thS,MV,NF,Lv.tot];omega
theorem p5 {s:UInt8}:∀{l:List Tx},l≠[]->(∀t∈l,t≠[])->joinS s l≠[]
 | [],h,_=>absurd rfl h
 | [a],_,h=>h a (by simp)
 | a::b::l,_,_=>by simp [joinS]
theorem pf {l:List Tx}(h:l≠[]):aH l≠[]:=λe=>h (by have :=aE l;rw [e]at this;exact this.symm.eq_nil)
theorem AI {own:List Nat}{f:Rh->Tk->List Tx}(J:∀ρ tk,∀t∈f ρ tk,t≠[])(he:∀ρ ρ' tk tk',(f ρ tk).isEmpty=(f ρ' tk').isEmpty)(ρ:Rh)(tk:Tk):aR own f ρ tk≠[]:=by
 unfold aR;split
 ·simp
 ·rename_i V;have G:((perms own).map λπ=>joinS 38 (aH (f (asg π (lets own.length tk) ρ) (addK (lets own.length tk) tk))))≠[]:=λe=>oe own (Pa.1 e)
  obtain⟨W,_⟩:=cz G;obtain⟨π,_,e⟩:=Nb.1 W;show wrap _ (bE _)≠[];rw [yB];refine λZ=>?_
  have H:=(List.append_eq_nil_iff.1 Z).2;rw [<-e]at H;refine p5 (pf ?_) (λt ht=>J _ _ t ((aE _).subset ht)) H;intro e3;have :=he (asg π (lets own.length tk) ρ) ρ (addK (lets own.length tk) tk) tk;rw [e3]at this;exact V this.symm
theorem G4 (l:Lv)(ρ ρ':Rh)(tk tk':Tk):(thS l ρ tk).isEmpty=(thS l ρ' tk').isEmpty:=by
 rw [Nt,List.isEmpty_iff_length_eq_zero,List.isEmpty_iff_length_eq_zero,bn,bn]
theorem lM:∀(l:Lv),l.sm=true->∀(ρ:Rh) (tk:Tk),∀t∈thS l ρ tk,t≠[]
 | .nil,_,_,_,t,h=>by cases h
 | .thr k a b o r n,G,ρ,tk,t,h=>by
  simp only [Lv.sm,Mp]at G;have J:t∈thS n ρ tk\/t≠[]:=by
   cases k<;>simp only [thS,MH]at h<;>rcases h with rfl | h<;>first | exact .inl h | (right;simp [kText])
  exact J.elim (lM n G.2 ρ tk t) id
 | .sum ps n,G,ρ,tk,t,h=>by
  simp only [Lv.sm,Mp]at G;rw [thS]at h;rcases MH.1 h with rfl | h
  ·refine p5 (pf λe=>?_) λt V=>lM ps G.2.1 ρ tk t ((aE _).subset V)
   have H:=bn ps ρ tk;rw [e]at H;have W:ps.isNil=true:=by rw [Lv.dh];simp at H;simp [<-H]
   rw [W]at G;simp at G
  ·exact lM n G.2.2 ρ tk t h
 | .part o q n,G,ρ,tk,t,h=>by
  simp only [Lv.sm,Mp]at G;rw [thS]at h;rcases MH.1 h with rfl | h
  ·exact AI (λρ tk=>lM q G.1 ρ tk) (λρ ρ' tk tk'=>G4 q ρ ρ' tk tk') ρ tk
  ·exact lM n G.2 ρ tk t h
theorem DE (x:Nat)(ps:Lv)(n:List Nat×Lv):((Lv.spl ps n).1++(Lv.spl ps n).2.bvs).count x=ps.bvs.count x+(n.1++n.2.bvs).count x:=by
 unfold Lv.spl;split
 ·simp [Lv.bvs]
 ·simp only [Lv.dc,Lv.bvs,Nh,PQ];omega
 ·simp only [Lv.bvs,Nh];omega
theorem El (x:Nat)(o:List Nat)(q n:Lv):(Lv.prt o q n).bvs.count x<=o.count x+q.bvs.count x+n.bvs.count x:=by
 unfold Lv.prt;split
 ·omega
 ·split
  ·simp only [Lv.dc,Lv.bvs,Nh,PQ];omega
  ·simp only [Lv.bvs,Nh,PQ];omega
 ·simp only [Lv.bvs,Nh];omega
theorem m8 (x:Nat)(own:List Nat)(r:List Nat×Lv):((Lv.kept own r).1).count x<=own.count x+r.1.count x:=by
 have :=(List.filter_sublist (p:=λx=>r.2.has x) (l:=own++r.1)).count_le x;rw [Nh]at this;exact this
theorem eH (x:Nat):∀l:Lv,((Lv.tid l).1++(Lv.tid l).2.bvs).count x<=l.bvs.count x
 | .nil=>by simp [Lv.tid,Lv.bvs]
 | .thr k a b o r n=>by
  have G:=eH x r;have H:=eH x n;have J:=m8 x o (Lv.tid r);have h4:(Lv.kept o (Lv.tid r)).2=(Lv.tid r).2:=rfl;simp only [Lv.tid];simp only [Nh]at G H;split
  ·simp only [h4,Lv.dc,Lv.bvs,Nh];omega
  ·split
   ·simp only [Lv.bvs,Nh];omega
   ·simp only [h4,Lv.bvs,Nh];omega
 | .sum ps n=>by
  have G:=eH x ps;have H:=eH x n;simp only [Lv.tid,DE,Lv.bvs];simp only [Nh]at G H|-;omega
 | .part o q n=>by
  have G:=eH x q;have H:=eH x n;have J:=m8 x o (Lv.tid q);have h4:(Lv.kept o (Lv.tid q)).2=(Lv.tid q).2:=rfl;have h5:=El x (Lv.kept o (Lv.tid q)).1 (Lv.kept o (Lv.tid q)).2 (Lv.tid n).2;simp only [Lv.tid,Nk,Lv.bvs];rw [h4]at h5;simp only [Nh]at G H h5|-;rw [h4];omega
theorem bN (x:Nat):∀u:U,((flat u).1++(flat u).2.bvs).count x=(BV u).count x
 | .nil=>rfl
 | .snd a b p=>by have :=bN x p;simpa [flat,Lv.bvs,BV]using this
 | .rcv a y p=>by have :=bN x p;simp only [flat,Lv.bvs,BV,Ol,Nh,List.count_cons,Nk,PQ,MY]at this|-;omega
 | .tau p=>by have :=bN x p;simpa [flat,Lv.bvs,BV]using this
 | .sum p q=>by
  have :=bN x p;have :=bN x q;simp only [flat,Lv.bvs,BV,Nh,Nk,MY,PQ]at*;omega
 | .par p q=>by
  have :=bN x p;have :=bN x q;simp only [flat,Lv.dc,BV,Nh]at*;omega
 | .res y p=>by have :=bN x p;simp only [flat,BV,Nh,List.count_cons]at this|-;omega
 | .mat a b p=>by have :=bN x p;simpa [flat,Lv.bvs,BV]using this
 | .rep p=>by have :=bN x p;simpa [flat,Lv.bvs,BV]using this
theorem Fg (x:Nat)(u:U):((td u).1++(td u).2.bvs).count x<=(BV u).count x:=by
 have G:=eH x (flat u).2;have H:=m8 x (flat u).1 (Lv.tid (flat u).2);have J:=bN x u;have h4:(td u).2=(Lv.tid (flat u).2).2:=rfl;have h5:(td u).1=(Lv.kept (flat u).1 (Lv.tid (flat u).2)).1:=rfl;rw [h4,h5];simp only [Nh]at*;omega
theorem AH {u:U}(h:Uq u)(hb:∀x∈BV u,26<=x):tV (td u).1 (td u).2:=by
 have J:∀x,((td u).1++(td u).2.bvs).count x<=(BV u).count x:=λx=>Fg x u
 have hm:∀x∈(td u).1++(td u).2.bvs,x∈BV u:=λx G=>by
  have :=J x;have H:=List.count_pos_iff.2 G;exact List.count_pos_iff.1 (by omega)
 have nd:((td u).1++(td u).2.bvs).Nodup:=OH.2 λx=>Nv (J x) (OH.1 h.nd x)
 refine⟨nd,λx G V=>?_,λx G=>hb x (hm x G)⟩;have H:x∉(td u).1:=λH=>(M6.1 nd).2.2 x H x G rfl
 exact h.nf x (hm x (MT _ G)) (T.bs (ED _ u (Mu _) h x V H))
end Go.Proofs.YtdecokaadekjnaaGreat
namespace Go.Proofs.YtdecokaadekjnaaGreat
open Go Go.RowKit
def Mh:Shelf.Ren where
 f:=λx=>if x=190 then 115 else if x=125 then 164 else if x=258 then 163 else if x=128 then 205 else if x=129 then 206 else if x=302 then 196 else if x=303 then 197 else if x=304 then 198 else if x=305 then 199 else if x=306 then 200 else if x=307 then 201 else if x=308 then 202 else if x=309 then 203 else if x=310 then 204 else if x=333 then 226 else if x=329 then 227 else if x=330 then 228 else if x=334 then 229 else if x=335 then 230 else if x=336 then 231 else if x=344 then 248 else x
 t:=λx=>if x=31 then 25 else if x=9 then 9 else if x=3 then 3 else if x=46 then 178 else if x=0 then 0 else if x=51 then 73 else if x=53 then 220 else if x=4 then 4 else if x=183 then 213 else if x=182 then 212 else if x=131 then 34 else if x=5 then 5 else if x=218 then 234 else if x=222 then 238 else if x=228 then 258 else if x=229 then 245 else x
 g:=λx=>x
theorem BU:Lays.n190 Tryz.prog Mh where
 mixed:=Eq.refl true
 f125:=Of Tryz.func164 (by kernel_rfl)
 f128:=Of Tryz.func205 (by kernel_rfl)
 f129:=Of Tryz.func206 (by kernel_rfl)
 f190:=Of Tryz.func115 (by kernel_rfl)
 f258:=Of Tryz.func163 (by kernel_rfl)
 f302:=Of Tryz.func196 (by kernel_rfl)
 f303:=Of Tryz.func197 (by kernel_rfl)
 f304:=Of Tryz.func198 (by kernel_rfl)
 f305:=Of Tryz.func199 (by kernel_rfl)
 f306:=Of Tryz.func200 (by kernel_rfl)
 f307:=Of Tryz.func201 (by kernel_rfl)
 f308:=Of Tryz.func202 (by kernel_rfl)
 f309:=Of Tryz.func203 (by kernel_rfl)
 f310:=Of Tryz.func204 (by kernel_rfl)
 f329:=Of Tryz.func227 (by kernel_rfl)
 f330:=Of Tryz.func228 (by kernel_rfl)
 f333:=Of Tryz.func226 (by kernel_rfl)
 f334:=Of Tryz.func229 (by kernel_rfl)
 f335:=Of Tryz.func230 (by kernel_rfl)
 f336:=Of Tryz.func231 (by kernel_rfl)
 f344:=Of Tryz.func248 (by kernel_rfl)
 t0:=Tryz.underlying0
 a0:=Tryz.isAgg0
 z0:=Tryz.sizeOf0
 v0:=Tryz.zeroValue0
 t3:=Tryz.underlying3
 a3:=Tryz.isAgg3
 z3:=Tryz.sizeOf3
 v3:=Tryz.zeroValue3
 t4:=Tryz.underlying4
 a4:=Tryz.isAgg4
 z4:=Tryz.sizeOf4
 v4:=Tryz.zeroValue4
 t5:=Tryz.underlying5
 a5:=Tryz.isAgg5
 z5:=Tryz.sizeOf5
 v5:=Tryz.zeroValue5
 t9:=Tryz.underlying9
 a9:=Tryz.isAgg9
 z9:=Tryz.sizeOf9
 v9:=Tryz.zeroValue9
 t31:=Tryz.underlying25
 a31:=Tryz.isAgg25
 z31:=Tryz.sizeOf25
 v31:=Tryz.zeroValue25
 t46:=Tryz.underlying178
 a46:=Tryz.isAgg178
 z46:=Tryz.sizeOf178
 v46:=Tryz.zeroValue178
 t51:=Tryz.underlying73
 a51:=Tryz.isAgg73
 z51:=Tryz.sizeOf73
 v51:=Tryz.zeroValue73
 t53:=Tryz.underlying220
 a53:=Tryz.isAgg220
 z53:=Tryz.sizeOf220
 v53:=Tryz.zeroValue220
 t131:=Tryz.underlying34
 a131:=Tryz.isAgg34
 z131:=Tryz.sizeOf34
 v131:=Tryz.zeroValue34
 t182:=Tryz.underlying212
 a182:=Tryz.isAgg212
 z182:=Tryz.sizeOf212
 v182:=Tryz.zeroValue212
 t183:=Tryz.underlying213
 a183:=Tryz.isAgg213
 z183:=Tryz.sizeOf213
 v183:=Tryz.zeroValue213
 t218:=Tryz.underlying234
 a218:=Tryz.isAgg234
 z218:=Tryz.sizeOf234
 v218:=Tryz.zeroValue234
 t222:=Tryz.underlying238
 a222:=Tryz.isAgg238
 z222:=Tryz.sizeOf238
 v222:=Tryz.zeroValue238
 t228:=Tryz.underlying258
 a228:=Tryz.isAgg258
 z228:=Tryz.sizeOf258
 v228:=Tryz.zeroValue258
 t229:=Tryz.underlying245
 a229:=Tryz.isAgg245
 z229:=Tryz.sizeOf245
 v229:=Tryz.zeroValue245
theorem sort_k {B:Nat}{w:World}{v:Value}{l:List Tx}(h:Own B w v l)(G:l≠[])(hl:l.length<=1099511627776){R:PV}
  (hR:∀w',Kp w w' (λg=>v.ownBlock=some g)->Own B w' v (aH l)->R w'):PW 115 #[v] w (aw [] R):=by
 rcases h.2 with⟨rfl,W⟩ | ⟨g,cap,cur,rfl,hb,H,Z,h2,h3,h4⟩
 ·exact absurd (MS W) G
 ·refine(Any.slices_Sort_string BU g 0 cap l w (holds_of_block H (by rw [MW]at h4;exact h4)) (Na.1 H).1 (by omega)).mono ?_
  rintro e w' ⟨rfl,n,os,rfl⟩
  refine⟨rfl,hR _ (Kp.aQ (grownBy_sorted _) λg' J=>J) ?_⟩;have V:(l.mergeSort λx y=>decide (x<=y)).length=l.length:=by simp
  have :=ownsRow_sorted (n:=n) (os:=os) V hb H Z h2 h3;have e2:aH l=l.mergeSort λx y=>decide (x<=y):=rfl
  unfold Own;rw [e2,V];exact this
theorem BP (s:UInt8)(a b:Tx)(l:List Tx):joinS s (a::b::l)=[40]++a++[s]++joinS s (b::l)++[41]:=by simp [joinS]
theorem FY {B:Nat}{w:World}{v:Value}{l:List Tx}{c:UInt8}(h:Own B w v l)(H:l≠[])(hl:l.length<=1099511627776)(hs:bG l<=1099511627776){R:aF->PV}
  (hR:∀w',Kp w w' (λg=>v.ownBlock=some g)->R (joinS c (aH l)) w'):PW 255 #[v,.string (ax [c])] w (aw [.s] R):=by
 refine wF v [c] w R ?_;dsimp only [go_sem];dsimp only [go_sem,UInt8.reduceOfNat,UInt32.reduceOfNat,Nat.reduceAdd];refine sort_k h H hl λw3 k3 o3=>?_
 have hp:=aE l;have J:(aH l).length=l.length:=hp.length_eq;have α:0< l.length:=OO.2 H;have st:=o3.strs;generalize hL:aH l=L at*;rcases st with⟨_,e⟩ | ⟨b,off,cap,rfl,hb,hc⟩
 ·rw [e]at J;simp at J;omega
 have β:bG L=bG l:=gX hp;have V:∀j,(hj:j< L.length)->w3.cell? ⟨b,off+j,none⟩=some (.string (ax L[j])):=λj hj=>hc j _ (Mo hj)
 have G:∀j,bG (L.drop j)<=bG L:=λj=>by
  have:bG L=bG (L.take j)+bG (L.drop j):=by rw [<-A5,NJ]
  omega
 refine⟨_,_,cap,rfl,by omega,b,off,_,cap,rfl,by omega,by omega,L[L.length - 1]'(by omega),?_,_,_,cap,rfl,by omega,λout i w'=>w'=w3/\ -1<=i/\i+2<=L.length/\out=joinS c (L.drop (i+1).toNat),λ _ i _=>(i+1).toNat,⟨rfl,by omega,by omega,?_⟩,λout i w' hI=>?_⟩
 ·rw [MW,show((L.length:Int) - 1).toNat=L.length - 1 by omega];exact V _ (by omega)
 ·rw [show((L.length:Int) - 2+1).toNat=L.length - 1 by omega,Nn (by omega),show L.length - 1+1=L.length by omega,Oj];rfl
 ·obtain⟨rfl,h0,h1,rfl⟩:=hI;refine⟨λhi=>?_,λhi=>?_⟩
  ·simp only [Mz]at hi;have W:i.toNat< L.length:=by omega
   have Z:i.toNat+1< L.length:=by omega
   have e1:(i+1).toNat=i.toNat+1:=by omega
   have e2:L.drop i.toNat=L[i.toNat]::L.drop (i.toNat+1):=Nn W;have e3:L.drop (i.toNat+1)=L[i.toNat+1]::L.drop (i.toNat+1+1):=Nn Z;have hj:=gn c (L.drop (i.toNat+1));have hd:=G i.toNat;have γ:bG (L.drop i.toNat)=L[i.toNat].length+3+bG (L.drop (i.toNat+1)):=by rw [e2];simp only [bG,MV,NF]
   rw [e1];refine⟨b,off,_,cap,rfl,by omega,by omega,L[i.toNat],by rw [MW];exact V _ W,?_,?_,?_,?_,by omega,⟨rfl,by omega,by omega,?_⟩,by show(i - 1+1).toNat< (i+1).toNat;omega⟩
   ·simp;omega
   ·simp;omega
   ·simp;omega
   ·simp;omega
   ·rw [show(i - 1+1).toNat=i.toNat by omega,e2,e3,BP]
  ·simp only [Mw]at hi;have:i= -1:=by omega
   subst this;exact hR w' k3
def qU (c:UInt8):UInt32:=uT 1 (c - 97).toNat
def tC (x:UInt32)(tk:Tk):Prop:=∀c,lt c=true->decide (x &&& qU c=0)= !tk c
theorem Ft (a b c:UInt32):(a ||| b) &&& c=(a &&& c) ||| (b &&& c):=by
 apply PF.1;simp only [UInt32.toBitVec_and,UInt32.toBitVec_or]
 ext i hi
 simp [Bool.and_or_distrib_right]
theorem Hr (a b:UInt32):a ||| b=0↔a=0/\b=0:=by
 rw [<-PF,<-PF,<-PF];simp only [UInt32.toBitVec_or];exact BitVec.or_eq_zero_iff
theorem Ew:∀i,i< 26->∀j,j< 26->decide (uT 1 i &&& uT 1 j=0)=decide (i≠j):=by decide+kernel
theorem D8 {c d:UInt8}(G:lt c=true)(hd:lt d=true):decide (qU c &&& qU d=0)= !(d==c):=by
 have H:=bg G;have J:=bg hd;unfold qU;rw [Ew _ (by rw [gi G];omega) _ (by rw [gi hd];omega),gi G,gi hd];rw [Nt];simp only [Mz,Om,beq_eq_false_iff_ne,ne_eq,<-MQ];omega
theorem tC.add {x:UInt32}{tk:Tk}(h:tC x tk){d:UInt8}(hd:lt d=true):tC (x ||| qU d) (cu tk d):=by
 intro c G;rw [Ft,OX.2 (Hr _ _),Bool.decide_and,h c G,D8 hd G];simp [cu]
theorem GX {c:UInt8}{w:World}{R:UInt32->PV}(h:R (qU c) w):PW 59 #[.int .u8 c.toNat] w (aw [.w] R):=
 zq c w R h
theorem JP (tk:Tk):lt (ic tk)=true:=by
 unfold ic uj;cases h:qX.find? λc=> !tk c with
 | none=>decide
 | some c=>
  have :=O4 h;unfold qX at this;simp only [Nb,NV]at this;obtain⟨i,hi,rfl⟩:=this;clear h;revert i;decide+kernel
theorem H' {x:UInt32}{tk:Tk}(hx:tC x tk){w:World}{R:UInt8->Bool->PV}(h1:uj tk=none->R 0 false w)(h2:∀c,uj tk=some c->R c true w):
  PW 130 #[.int .u32 x.toNat] w (aw [.c,.b] R):=by
 refine ui x w R ?_;dsimp only [go_sem];dsimp only [go_sem,UInt8.reduceOfNat,UInt32.reduceOfNat,Nat.reduceAdd];refine⟨λc w'=>w'=w/\97<=c.toNat/\c.toNat<=123/\∀d:UInt8,97<=d->d< c->tk d=true,λc _=>123 - c.toNat,⟨rfl,by decide,by decide,λd h h'=>?_⟩,λc w' hI=>?_⟩
 ·rw [ML]at h;rw [Nf]at h';omega
 ·obtain⟨rfl,Z,h4,h5⟩:=hI;refine⟨λJ=>GX ?_,λJ=>?_⟩
  ·simp only [Mz,ML]at J;have H:c.toNat<=122:=J;have W:lt c=true:=nK ⟨Z,H⟩;have :=hx c W;refine⟨λhe=>?_,λhe=>?_⟩
   ·rw [he]at this;refine h2 c (tb (f:=λc=> !tk c) (by rw [ML];exact Z) (by rw [ML];exact H) this.symm λd hd G=>by simp [h5 d hd G])
   ·rw [he]at this;have ht:tk c=true:=by simpa using this.symm
    have e1:(c+1).toNat=c.toNat+1:=by rw [Pj];show(c.toNat+1) % 256=_;omega
    refine⟨⟨rfl,by omega,by omega,λd hd G=>?_⟩,by show 123 - (c+1).toNat< 123 - c.toNat;omega⟩;rw [Nf,e1]at G;by_cases V:d=c
    ·rw [V];exact ht
    ·refine h5 d hd (Nf.2 ?_);have:d.toNat≠c.toNat:=λe=>V (MQ.1 e)
     omega
  ·simp only [Mw,ML]at J;have H:122< c.toNat:=by have:¬c.toNat<=122:=J;omega
   refine h1 (ve (f:=λc=> !tk c) λd hd G=>?_);have:tk d=true:=h5 d hd (Nf.2 (by rw [ML]at G;have:d.toNat<=122:=G;omega));simp [this]
def LI (m:Value->Option Value)(ρ:Rh):Prop:=∀x,(ρ x).toNat< 128/\(x< 26->ρ x=UInt8.ofNat (97+x))/\(26<=x->m (iv x)=some (.int .u8 (ρ x).toNat)\/(m (iv x)=none/\ρ x=0))
structure Nm (w:World)(n r:Nat)(ρ:Rh)(tk:Tk)(bad:Bool):Prop where
 lt:n< w.heap.size
 lr:r< w.heap.size
 ne:n≠r
 c0:w.cell? ⟨n,0,none⟩=some (.map (some r))
 mp:∃m,IsMap w r (.int .i64) m/\LI m ρ
 c1:∃x:UInt32,w.cell? ⟨n,1,none⟩=some (.int .u32 x.toNat)/\tC x tk
 c2:w.cell? ⟨n,2,none⟩=some (.bool bad)
 f:∀j,w.frozen? ⟨n,j,none⟩=false
theorem Nm.kp {w w':World}{n r:Nat}{ρ:Rh}{tk:Tk}{bad:Bool}{S:Nat->Prop}(h:Nm w n r ρ tk bad)(k:Kp w w' S)(G:¬S n)(hr:¬S r):Nm w' n r ρ tk bad:=by
 have e:=k.block n h.lt G;have H:=k.block r h.lr hr;obtain⟨m,⟨es,cl,J,V⟩,W⟩:=h.mp;obtain⟨x,h4,h5⟩:=h.c1;exact⟨MP h.lt k.size,MP h.lr k.size,h.ne,by rw [Mn (w:=w) e];exact h.c0,⟨m,⟨es,cl,by rw [H];exact J,V⟩,W⟩,⟨x,by rw [Mn (w:=w) e];exact h4,h5⟩,by rw [Mn (w:=w) e];exact h.c2,λj=>by rw [MU (w:=w) e];exact h.f j⟩
theorem Nm.ex {w w':World}{n r:Nat}{ρ:Rh}{tk:Tk}{bad:Bool}(h:Nm w n r ρ tk bad)(x:Ex w w'):Nm w' n r ρ tk bad:=h.kp (Kp.ah x λ _=>False) (λh=>h) λh=>h
abbrev Kn (n r:Nat)(w w':World):Prop:=Kp w w' λg=>g=n\/g=r
theorem Kn.trans {n r:Nat}{a b c:World}(h:Kn n r a b)(k:Kn n r b c):Kn n r a c:=Kp.trans h k λ _ _ h=>h
theorem Kn.ex {n r:Nat}{a b:World}(h:Ex a b):Kn n r a b:=Kp.ah h _
theorem Kn.set {n r:Nat}(w:World)(j:Nat)(v:Value):Kn n r w (w.setCell ⟨n,j,none⟩ v):=Kp.mono (λ _ h=> .inl h) (Kr.set w j v)
theorem Nm.set {w w':World}{n r:Nat}{ρ:Rh}{tk tk':Tk}{bad bad':Bool}(h:Nm w n r ρ tk bad){j:Nat}{v:Value}(hw:w'=w.setCell ⟨n,j,none⟩ v)(G:(j=1/\bad'=bad/\∃x:UInt32,v= .int .u32 x.toNat/\tC x tk')\/(j=2/\tk'=tk/\v= .bool bad')):Nm w' n r ρ tk' bad':=by
 subst hw;obtain⟨m,⟨es,cl,H,J⟩,V⟩:=h.mp;obtain⟨x,h4,h5⟩:=h.c1;have kr:=Kr.set (r:=n) w j v;have W:=kr.block r h.lr h.ne.symm;have ne:∀i,i≠j->(w.setCell ⟨n,j,none⟩ v).cell? ⟨n,i,none⟩=w.cell? ⟨n,i,none⟩:=λi hi=>Mr _ _ _ _ (λe=>by injection e with e1 e2;omega)
 have sz:=kr.size;refine⟨by have :=h.lt;omega,by have :=h.lr;omega,h.ne,by rw [ne 0 (by rcases G with⟨h,_⟩ | ⟨h,_⟩<;>omega)];exact h.c0,⟨m,⟨es,cl,by rw [W];exact H,J⟩,V⟩,?_,?_,λi=>by rw [MG];exact h.f i⟩
 ·rcases G with⟨rfl,_,y,rfl,Z⟩ | ⟨rfl,rfl,_⟩
  ·exact⟨y,MI _ _ _ h4,Z⟩
  ·exact⟨x,by rw [ne 1 (by omega)];exact h4,h5⟩
 ·rcases G with⟨rfl,rfl,_⟩ | ⟨rfl,rfl,rfl⟩
  ·rw [ne 2 (by omega)];exact h.c2
  ·exact MI _ _ _ h.c2
theorem Nm.put {w w':World}{n r:Nat}{ρ:Rh}{tk:Tk}{bad:Bool}(h:Nm w n r ρ tk bad){m:Value->Option Value}(hm:LI m ρ){x:Nat}(hx:26<=x){c:UInt8}(J:c.toNat< 128)(G:IsMap w' r (.int .i64) (ef m (iv x) (.int .u8 c.toNat)))(hb:cX w w' r):
  Nm w' n r (aI ρ x c) tk bad/\Kn n r w w':=by
 have e:=hb.block n h.ne;obtain⟨y,h4,h5⟩:=h.c1;refine⟨⟨by rw [hb.size];exact h.lt,by rw [hb.size];exact h.lr,h.ne,by rw [Mn (w:=w) e];exact h.c0,⟨_,G,λz=>?_⟩,⟨y,by rw [Mn (w:=w) e];exact h4,h5⟩,by rw [Mn (w:=w) e];exact h.c2,λj=>by rw [MU (w:=w) e];exact h.f j⟩,
  hb.os,hb.tape,hb.output,by rw [hb.size];exact Mu _,λg _ V=>hb.block g λe=>V (.inr e)⟩
 obtain⟨W,Z,k3⟩:=hm z;unfold aI ef;by_cases H:z=x
 ·subst H;refine⟨by simpa using J,λh=>by omega,λ _=> .inl ?_⟩;simp
 ·have:iv z≠iv x:=λe=>H (by injection e with _ e2;omega)
  simp only [MJ H,MJ this];exact⟨W,Z,k3⟩
theorem CP {ρ:Rh}{x:Nat}:[UInt8.ofNat (Int.toNat ((ρ x).toNat:Int))]=[ρ x]:=by simp
theorem jn {w:World}{n r:Nat}{ρ:Rh}{tk:Tk}{bad:Bool}(h:Nm w n r ρ tk bad){x:Nat}{R:aF->PV}(hR:R [ρ x] w):PW 253 #[ptr n,iv x] w (aw [.s] R):=by
 refine nF (ptr n) x w R ?_;dsimp only [go_sem];dsimp only [go_sem,UInt8.reduceOfNat,UInt32.reduceOfNat,Nat.reduceAdd];obtain⟨m,hm,G⟩:=h.mp;obtain⟨k1,V,W⟩:=G x;refine⟨λH=>?_,λH=>?_⟩
 ·simp only [Mz]at H;have e:[UInt8.ofNat (Int.toNat (97+(x:Int)))]=[ρ x]:=by rw [V (by omega),show(97+(x:Int)).toNat=97+x by omega]
  refine⟨by omega,by omega,by omega,by rw [e];exact hR⟩
 ·simp only [Mw]at H;refine⟨n,0,rfl,_,h.c0,r,m,rfl,hm,ρ x,?_⟩;rcases W (by omega)with J | ⟨J,Z⟩
  ·exact⟨true,.inl ⟨rfl,J⟩,by omega,by rw [CP];exact hR⟩
  ·exact⟨false,.inr ⟨rfl,J,by rw [Z];rfl⟩,by omega,by rw [CP];exact hR⟩
theorem Gl {w:World}{n r:Nat}{ρ:Rh}{tk:Tk}{bad:Bool}(h:Nm w n r ρ tk bad){x:Nat}(hx:26<=x){R:UInt32->PV}
  (hR:∀y w',tC y tk->Kn n r w w'->Nm w' n r (aI ρ x (ic tk)) (cu tk (ic tk)) (bad||(uj tk).isNone)->R y w'):PW 252 #[ptr n,iv x] w (aw [.w] R):=by
 refine ny (ptr n) x w R ?_;dsimp only [go_sem];dsimp only [go_sem,UInt8.reduceOfNat,UInt32.reduceOfNat,Nat.reduceAdd];obtain⟨y,hy,ν⟩:=h.c1;have hl:=JP tk;have hl':=bg hl;have fin:∀G bad',bad'=(bad||(uj tk).isNone)->Kn n r w G->Nm G n r ρ tk bad'->∃η:PV,∀H:World,H=World.drew G->η H/\∃(ξ ο:Nat),ptr n=Value.pointer (some ⟨ξ,ο,none⟩)/\∃ς:UInt32,(∀w',η w'->World.cell? w' ⟨ξ,(ο+1),none⟩=some (Value.int IntKind.u32 (UInt32.toNat ς)))/\PW 59 #[(Value.int IntKind.u8 (UInt8.toNat (ic tk)))] H (aw [.w] fun(m38:UInt32) (W:World)=>η W/\∃(Z α:Nat),ptr n=Value.pointer (some ⟨Z,α,none⟩)/\((∃u42:Value,World.cell? W ⟨Z,(α+1),none⟩=some u42)/\World.frozen? W ⟨Z,(α+1),none⟩=false)/\∀J:World,J=World.setCell W ⟨Z,(α+1),none⟩ (Value.int IntKind.u32 (UInt32.toNat (ς ||| m38:UInt32)))->∃(υ φ:Nat),ptr n=Value.pointer (some ⟨υ,φ,none⟩)/\∃v46:Value,World.cell? J ⟨υ,(φ+0),none⟩=some v46/\∃(β:Nat) (γ:Value->Option Value),v46=Value.map (some β)/\IsMap J β (TypeDesc.int IntKind.i64) γ/\∀V:World,IsMap V β (TypeDesc.int IntKind.i64) (ef γ (Value.int IntKind.i64 x) (Value.int IntKind.u8 (UInt8.toNat (ic tk))))->cX J V β->R (y) V):=by
  intro G bad' χ k11 θ;obtain⟨z,hz,hzt⟩:=θ.c1;refine⟨λw'=>Ex G w',λH δ=>⟨δ▸Ex.drew G,n,0,rfl,z,λw' x'=>by rw [x'.cell (show n< _ from θ.lt)];exact hz,GX ?_⟩⟩;have ι:Ex G H:=δ▸Ex.drew G;have κ:=θ.ex ι;obtain⟨z',hz',_⟩:=κ.c1;refine⟨ι,n,0,rfl,⟨⟨_,hz'⟩,κ.f 1⟩,λJ ε=>?_⟩;have μ:=κ.set (tk':=cu tk (ic tk)) (bad':=bad') ε (.inl ⟨rfl,rfl,_,rfl,hzt.add hl⟩);obtain⟨m,hm,hρ⟩:=μ.mp;refine⟨n,0,rfl,_,μ.c0,r,m,rfl,hm,λV ψ ω=>?_⟩;obtain⟨n49,k49⟩:=μ.put hρ hx (by omega) ψ ω;have k43:Kn n r H J:=ε▸Kn.set _ _ _;exact hR y V ν (Kn.trans (Kn.trans k11 (Kn.ex ι)) (Kn.trans k43 k49)) (χ▸n49)
 refine⟨n,0,rfl,y,hy,n,0,rfl,y,hy,H' ν (λhf=>⟨λ _=>?_,λh=>(by cases h)⟩) λc hf=>⟨λh=>(by cases h),λ _=>?_⟩⟩
 ·refine⟨n,0,rfl,⟨⟨_,h.c2⟩,h.f 2⟩,λw15 ζ=>?_⟩;have n15:=h.set (tk':=tk) (bad':=true) ζ (.inr ⟨rfl,rfl,rfl⟩);have e:ic tk=122:=by unfold ic;rw [hf];rfl
  have :=fin w15 true (by rw [hf];simp) (ζ▸Kn.set _ _ _) n15;rw [e]at this;exact this
 ·have e:ic tk=c:=by unfold ic;rw [hf];rfl
  have :=fin w bad (by rw [hf];simp) (Kn.ex (Ex.refl w)) h;rw [e]at this;exact this
def KC (n:Nat):Prop:=∀{D:Nat->Prop} {w:World} {v:Value} {o:List Nat} {l:Lv} {nn r:Nat} {ρ:Rh} {tk:Tk} {bad:Bool} {R:aF->PV},l.sz<=n->l.sh true=true->l.sm=true->tV o l->fK D w v o (af D w l)->(∀g,D g->¬(g=nn\/g=r))->Nm w nn r ρ tk bad->o.length+l.tot<=4294967296->
 (∀w' ρ',Kn nn r w w'->Nm w' nn r ρ' tk (bad||fk o.length l.isNil (thBad l) tk)->(∀x,x∉o->x∉l.bvs->ρ' x=ρ x)->R (aR o (thS l) ρ tk) w')->PW 237 #[ptr nn,v] w (aw [.s] R)
def Hz (n:Nat):Prop:=∀{D:Nat->Prop} {w:World} {v:Value} {e:Lv} {nn r:Nat} {ρ:Rh} {tk:Tk} {bad:Bool} {R:aF->PV},e.sz<=n->((∃k a b o q,e= .thr k a b o q .nil/\q.sh true=true)\/∃ps,e= .sum ps .nil/\ps.sh false=true)->e.sm=true->tV [] e->af D w e [v]->(∀g,D g->¬(g=nn\/g=r))->Nm w nn r ρ tk bad->e.tot<=4294967296->
 (∀t w' ρ',thS e ρ tk=[t]->Kn nn r w w'->Nm w' nn r ρ' tk (bad||thBad e tk)->(∀x,x∉e.bvs->ρ' x=ρ x)->R t w')->PW 254 #[ptr nn,v] w (aw [.s] R)
theorem Mj (a b:UInt8):Op.bytesLess [a] [b]=decide (a< b):=by
 unfold Op.bytesLess;by_cases h:a< b
 ·simp [h]
 ·by_cases G:b< a<;>simp [Op.bytesLess,h]
theorem Kp.new {w w1 w2:World}{nn r:Nat}{row:Option Nat}(k:Kn nn r w w1)(G:w1.grownBy w2 row)(hr:∀g,row=some g->w.heap.size<=g):Kn nn r w w2:=
 Kp.trans k (Kp.aQ (S:=λg=>row=some g) G λ _ h=>h) λg H J=>by have :=hr g J;omega
theorem DF {n:Nat}(hl:KC n):Hz (n+1):=by
 intro D w v e nn r ρ tk bad R hn hsh ζ huq h hD hN ο hR;refine kD (ptr nn) v w R ?_;dsimp only [go_sem];dsimp only [go_sem,UInt8.reduceOfNat,UInt32.reduceOfNat,Nat.reduceAdd];rcases hsh with⟨k,a,b,o,q,rfl,hq⟩ | ⟨ps,rfl,hps⟩
 ·obtain⟨t,ts',a',W,vr,e1,ht,hk,hlv,_⟩:=h;obtain⟨rfl,rfl⟩:=Ny e1;obtain⟨g,V,hgD,hg2,c0,c1,c2,c3,c4⟩:=ht;obtain⟨u1,u2⟩:=huq.thr;simp only [Lv.sz]at hn;simp only [Lv.tot]at ο;simp only [Lv.sm,Mp]at ζ;have hgn:=hD g hgD;have cell:∀{w':World},Kn nn r w w'->∀j,w'.cell? ⟨g,j,none⟩=w.cell? ⟨g,j,none⟩:=λx j=>Mn (w:=w) (x.block g hg2 hgn)
  have hlen:∀ρ tk,(aR o (thS q) ρ tk).length<=1099511627776:=λρ tk=>by
   have :=nv (λρ tk=>fQ q ρ tk) ρ tk (own:=o);omega
  have ι:∀{w1:World} {Z:Rh} {μ:Tk} {ς:Bool} {R:aF->PV},Kn nn r w w1->Nm w1 nn r Z μ ς->(∀w' ρ',Kn nn r w1 w'->Nm w' nn r ρ' μ (ς||fk o.length q.isNil (thBad q) μ)->(∀x,x∉o->x∉q.bvs->ρ' x=Z x)->R (aR o (thS q) Z μ) w')->PW 237 #[ptr nn,vr] w1 (aw [.s] R):=λk1 n1 hR=>
   hl (by omega) hq ζ.1 u1 (hlv.kp k1 hD λl h=>h.kp k1 hD) hD n1 (by omega) hR
  cases k
  case p=>
   refine⟨g,0,V,_,c0,aT (by decide) (cN (by decide) ⟨g,0,V,vr,c3,ι (Kn.ex (Ex.refl w)) hN λw' ρ' k' n' H=>⟨by have :=hlen ρ tk;simp only [Mm,MB];omega,hR _ w' ρ' (by simp only [thS,kText];rfl) k' ?_ λx G=>?_⟩⟩)⟩
   ·simpa [thBad]using n'
   ·simp only [Lv.bvs,MY,My,PT]at G;exact H x G.2.1 G.2.2
  case t=>
   refine⟨g,0,V,_,c0,aT (by decide) (aT (by decide) (cN (by decide) ⟨g,0,V,vr,c3,ι (Kn.ex (Ex.refl w)) hN λw' ρ' k' n' H=>⟨by have :=hlen ρ tk;simp only [Mm,MB];omega,hR _ w' ρ' (by simp only [thS,kText];rfl) k' ?_ λx G=>?_⟩⟩))⟩
   ·simpa [thBad]using n'
   ·simp only [Lv.bvs,MY,My,PT]at G;exact H x G.2.1 G.2.2
  case m=>
   obtain⟨rfl,rfl⟩:a'=a/\W=b:=by rcases hk with h | h | h<;>first | exact h | cases h
   refine⟨g,0,V,_,c0,aT (by decide) (aT (by decide) (aT (by decide) (cN (by decide) ⟨λw'=>Kn nn r w w',λw48 α=>?_⟩)))⟩;have J:Kn nn r w w48:=Kn.ex (α▸Ex.drew w);have β:=hN.ex (α▸Ex.drew w);refine⟨J,g,0,V,a',λw' x=>by rw [cell x];exact c1,g,0,V,W,λw' x=>by rw [cell x];exact c2,jn β ⟨J,jn β ⟨J,?_,?_,?_,?_,g,0,V,vr,by rw [cell J];exact c3,ι J β λw' ρ' k' n' H=>⟨?_,hR _ w' ρ' ?_ (Kn.trans J k') ?_ λx G=>?_⟩⟩⟩⟩
   ·split<;>simp
   ·split<;>simp
   ·split<;>split<;>simp
   ·split<;>split<;>simp
   ·have :=hlen ρ tk;split<;>split<;>(simp only [Mt,Mm,MB];omega)
   ·simp only [thS,kText,Mj,Nj,O8];by_cases h1:ρ a'< ρ W
    ·have h2:¬ρ W< ρ a':=λh2=>by rw [Nf]at h1 h2;omega
     simp [h1,h2]
    ·by_cases h2:ρ W< ρ a'
     ·have h3:ρ a'≠ρ W:=λe=>by rw [e,Nf]at h2;omega
      simp [h1,h2,h3]
     ·have h3:ρ a'=ρ W:=by
       rw [Nf]at h1 h2;exact MQ.1 (by omega)
      simp [h1,h2,h3]
   ·simpa [thBad]using n'
   ·simp only [Lv.bvs,MY,My,PT]at G;exact H x G.2.1 G.2.2
  case s=>
   obtain⟨rfl,rfl⟩:a'=a/\W=b:=by rcases hk with h | h | h<;>first | exact h | cases h
   refine⟨g,0,V,_,c0,aT (by decide) (aT (by decide) (aT (by decide) (aT (by decide) (aT (by decide) ⟨λw'=>Kn nn r w w',λw48 α=>?_⟩))))⟩;have J:Kn nn r w w48:=Kn.ex (α▸Ex.drew w);have β:=hN.ex (α▸Ex.drew w);refine⟨J,g,0,V,a',λw' x=>by rw [cell x];exact c1,g,0,V,W,λw' x=>by rw [cell x];exact c2,g,0,V,vr,λw' x=>by rw [cell x];exact c3,jn β ⟨J,by simp,jn β ⟨J,by simp,by simp,ι J β λw' ρ' k' n' H=>⟨Kn.trans J k',?_,hR _ w' ρ' ?_ (Kn.trans J k') ?_ λx G=>?_⟩⟩⟩⟩
   ·have :=hlen ρ tk;simp only [Mt,Mm,MB];omega
   ·simp only [thS,kText];simp
   ·simpa [thBad]using n'
   ·simp only [Lv.bvs,MY,My,PT]at G;exact H x G.2.1 G.2.2
  case r=>
   obtain⟨rfl,rfl⟩:a'=a/\W=b:=by rcases hk with h | h | h<;>first | exact h | cases h
   obtain⟨u3,u4,u5,u6⟩:=u2 rfl;refine⟨g,0,V,_,c0,aT (by decide) (aT (by decide) (aT (by decide) (aT (by decide) (cN (by decide) ⟨g,0,V,W,c2,Gl hN u3 λy w68 hy k68 n68=>⟨λw'=>Kn nn r w w',λw70 υ=>?_⟩⟩))))⟩;have η:Kn nn r w w70:=Kn.trans k68 (Kn.ex (υ▸Ex.drew w68));have n70:=n68.ex (υ▸Ex.drew w68);refine⟨η,g,0,V,a',λw' x=>by rw [cell x];exact c1,g,0,V,W,λw' x=>by rw [cell x];exact c2,g,0,V,vr,λw' x=>by rw [cell x];exact c3,jn n70 ⟨η,by simp,jn n70 ⟨η,by simp,by simp,ι η n70 λw' ρ' k' n' H=>⟨Kn.trans η k',?_,nn,0,rfl,?_,λw89 φ=>hR _ w89 ρ' ?_ (Kn.trans (Kn.trans η k') (φ▸Kn.set _ _ _)) ?_ λx G=>?_⟩⟩⟩⟩
   ·have :=hlen (aI ρ W (ic tk)) (cu tk (ic tk));simp only [Mt,Mm,MB];omega
   ·obtain⟨z,hz,_⟩:=n'.c1;exact⟨⟨_,hz⟩,n'.f 1⟩
   ·simp only [thS,kText,Nk,Ns,M8];rw [show aI ρ W (ic tk) a'=ρ a' from MJ (PB u4),show aI ρ W (ic tk) W=ic tk from MZ rfl]
   ·have :=n'.set (tk':=tk) (bad':=(bad||thBad (.thr .r a' W o q .nil) tk)) φ (.inl ⟨rfl,?_,y,rfl,hy⟩)
    ·exact this
    ·simp [thBad,NZ]
   ·simp only [Lv.bvs,MY,My,PT,Ol,MA]at G;rw [H x G.2.1 G.2.2];exact MJ G.1
 ·obtain⟨t,ts',a',W,vp,us,e1,ht,hus,χ,_⟩:=h;obtain⟨rfl,rfl⟩:=Ny e1;obtain⟨g,V,hgD,hg2,c0,c1,c2,c3,c4⟩:=ht;have uq:=huq.sum;simp only [Lv.sz]at hn;simp only [Lv.tot]at ο;simp only [Lv.sm,Mp,Om]at ζ;obtain⟨au,cau,hvu⟩:=hus.slice;have hul:=χ.len;have hpl:=Lv.cG ps;have hpt:=bQ ps;have hln:∀ρ tk,(thS ps ρ tk).length=ps.len:=λρ tk=>bn ps ρ tk
  refine⟨g,0,V,_,c0,cN (by decide) λb6 w7 hb6 hw7=>?_⟩;have x7:Ex w w7:=hw7▸Ex.alloc w _;refine⟨g,0,V,vp,by rw [x7.cell (show g< _ from hg2)];exact c4,au,_,cau,hvu,λtx x w'=>∃(j:Nat) (ρ':Rh),x=j/\j<=us.length/\Kn nn r w w'/\Nm w' nn r ρ' tk (bad||thBad (ps.take j) tk)/\(∀x,x∉(ps.take j).bvs->ρ' x=ρ x)/\Own w.heap.size w' tx (thS (ps.take j) ρ tk),λ _ x _=>(us.length - x).toNat,⟨0,ρ,rfl,Nl _,Kn.ex x7,by simpa [Lv.take,thBad]using hN.ex x7,λ _ _=>rfl,Own.none (Mu _) hb6 hw7⟩,λtx x w18 hI=>?_⟩;obtain⟨j,Z,rfl,hj,κ,n18,H,ho⟩:=hI;refine⟨λhlt=>?_,λhge=>?_⟩;rotate_left
  ·have:j=ps.bf.length:=by simp only [Mw]at hge;omega
   rw [this,Lv.cZ]at n18 ho H;have hlen:=fQ ps ρ tk;refine FY ho (λe=>?_) (by rw [hln];omega) (by omega) λw36 k36=>hR _ w36 Z rfl ?_ ?_ λx G=>H x ?_
   ·have :=hln ρ tk;rw [e]at this;rw [Lv.dh]at ζ;simp only [MB]at this;simp [<-this]at ζ
   ·exact Kp.trans κ k36 λg' hg' h'=>by have :=(ho.block g' h').1;omega
   ·have hb:∀g',tx.ownBlock=some g'->w.heap.size<=g':=λg' h'=>(ho.block g' h').1
    have :=hN.lt;have :=hN.lr;have e:(bad||thBad (.sum ps .nil) tk)=(bad||thBad ps tk):=by simp [thBad]
    rw [e];exact n18.kp k36 (λh'=>by have :=hb _ h';omega) λh'=>by have :=hb _ h';omega
   ·simpa [Lv.bvs]using G
  have ν:=oL hlt;have hje:j< ps.bf.length:=by omega
  obtain⟨bu,ou,γ,hvu',hcu⟩:∃bu ou γ,vp= .slice (some ⟨bu,ou,none⟩) us.length γ/\w18.cell? ⟨bu,ou+j,none⟩=some us[j]:=by
   rcases hus with⟨_,h0⟩ | ⟨bt,ot,capt',e,hbD,hb',hcell⟩
   ·rw [h0]at ν;simp at ν
   ·exact⟨bt,ot,capt',e,by rw [Mn (w:=w) (κ.block bt hb' (hD bt hbD))];exact hcell j _ (Mo ν)⟩
  obtain⟨e,hf1,θ,hf3⟩:=aN.single χ.bf (Mo ν);have hf4:ps.bf[j]=e:=by rw [Mo hje]at hf1;exact Ng hf1
  have δ:=Lv.take_succ ps j hje;rw [hf4]at δ;have huqe:=uq.bf θ;have ψ:=Lv.sS ζ.2.1 e θ;have hsz2:=Lv.dT ps e θ;have htot2:=Lv.fP ps e θ;have hfe:thS e Z tk=thS e ρ tk:=sG e Z ρ tk λx G=>H x λhb=>uq.nf x (Lv.kR ps j x hb) (Lv.pc ps e θ G)
  obtain⟨o2,q,rfl,hq⟩:=Lv.lQ hps e θ;simp only [Lv.sz]at hsz2;simp only [Lv.tot]at htot2;simp only [Lv.sm,Mp]at ψ;obtain⟨v2,ts2,e2,hlv2,_⟩:=hf3;obtain⟨rfl,rfl⟩:=Ny e2;refine⟨bu,ou,_,γ,hvu',by omega,by omega,us[j],by rw [Mv,MW];exact hcu,?_⟩;refine hl (by omega) hq ψ.1 huqe.part (hlv2.kp κ hD λl h=>h.kp κ hD) hD n18 (by omega) λw25 ρ2 k25 n25 hρ2 b26 w27 hb26 ω=>?_
  have ξ:Ex w25 w27:=ω▸Ex.alloc w25 _;have k1:Kn nn r w w25:=Kn.trans κ k25;have ε:∀g',tx.ownBlock=some g'->w.heap.size<=g'/\¬(g'=nn\/g'=r):=λg' h'=>by
   have h1:=(ho.block g' h').1;have :=hN.lt;have :=hN.lr;exact⟨h1,by omega⟩
  have ho27:Own w.heap.size w27 tx (thS (ps.take j) ρ tk):=(ho.kp k25 λg' h'=>(ε g' h').2).ex ξ;have hl3:(thS (ps.take j) ρ tk).length<=us.length:=by
   rw [bn];have :=Lv.gh ps j;omega
  refine Own.push ho27 (by have :=k1.size;have :=ξ.size;omega) (Strs.one hb26 ω) (by simp only [Mm,MB];omega) λv33 w34 _ ho34 hg34 _=>⟨by omega,⟨j+1,ρ2,by omega,by omega,?_,?_,?_,?_⟩,tN (by omega)⟩
  ·exact Kp.new (Kn.trans k1 (Kn.ex ξ)) hg34 λg' h'=>(ε g' h').1
  ·have e1:(bad||thBad (ps.take (j+1)) tk)=(bad||thBad (ps.take j) tk||fk o2.length q.isNil (thBad q) tk):=by rw [δ,cM];simp [thBad,NZ]
   rw [e1];refine(n25.ex ξ).kp (Kp.aQ (S:=λg=>tx.ownBlock=some g) hg34 λ _ h=>h) (λh'=>(ε _ h').2 (.inl rfl)) λh'=>(ε _ h').2 (.inr rfl)
  ·intro x G;rw [δ,Lv.dc]at G;simp only [Lv.bvs,MY,My,PT]at G;rw [hρ2 x G.2.1 G.2.2,H x G.1]
  ·rw [δ,fU];have e3:thS (.part o2 q .nil) ρ tk=[aR o2 (thS q) Z tk]:=by rw [<-hfe];simp only [thS]
   rw [e3];exact ho34
theorem aM.set {e B:Nat}{w w':World}{g cap n j:Nat}{l:List Value}{x:Value}(h:aM e B w (.slice (some ⟨g,0,none⟩) n cap) l)(hw:w'=w.setCell ⟨g,j,none⟩ x)(hj:j< l.length):aM e B w' (.slice (some ⟨g,0,none⟩) n cap) (l.set j x):=by
 subst hw;rcases h.2 with⟨J,_⟩ | ⟨g',G,cur,V,hb,W,Z,h2,H,h4⟩
 ·cases J
 ·cases V;have hl:=h.1;rw [MW]at H h4;have e:(w.setCell ⟨g,j,none⟩ x).heap[g]?=some (.cells (cur.setIfInBounds j x) e (0,0)):=by
   rw [Sort.setCell_eq];simp [Sort.mapBlock,On,W,Sort.onCells]
  refine⟨by simp,.inr ⟨g,cap,_,by simp,hb,e,by simpa using Z,h2,by simpa using H,?_⟩⟩;rw [MW,NU,Array.toList_setIfInBounds,List.take_set,h4]
theorem aM.at {e B:Nat}{w:World}{g cap n j:Nat}{o:List Nat}(h:aM e B w (.slice (some ⟨g,0,none⟩) n cap) (o.map iv))(V:j< o.length):w.cell? ⟨g,0+j,none⟩=some (iv o[j])/\w.frozen? ⟨g,0+j,none⟩=false/\g< w.heap.size/\n=o.length:=by
 have fr:=h.fr (g:=g) rfl (0+j);have hb:=h.block g rfl;rcases h.2 with⟨H,_⟩ | ⟨g',G,cur,J,W,hg,h1,h2,h3,h4⟩
 ·cases H
 ·cases J;refine⟨?_,fr,hb.2,by simp⟩;rcases h.Dv (D:=λ _=>True) λ _ _=>trivial with⟨H,_⟩ | ⟨b,off,G,J,_,_,Z⟩
  ·cases H
  ·cases J;exact Z j _ (by simp [V])
def swp (π:List Nat)(a i:Nat)(ha:a< π.length)(hi:i< π.length):List Nat:=(π.set a π[i]).set i π[a]
theorem lR (π:List Nat)(a i:Nat)(ha:a< π.length)(hi:i< π.length)(H:a<=i):
  (swp π a i ha hi).Perm π/\(swp π a i ha hi).length=π.length/\(swp π a i ha hi).take (a+1)=π.take a++[π[i]]:=by
 have G:(swp π a i ha hi).Perm π:=by
  have :=List.set_set_perm hi ha;unfold swp;by_cases h:a=i
  ·subst h;simp
  ·rw [List.set_comm _ _ h];exact this
 have J:(swp π a i ha hi).length=π.length:=G.length_eq;refine⟨G,J,?_⟩;rw [Mq (by omega)]
 congr 1
 ·unfold swp;rw [ON (by omega),ON (by omega)]
 ·unfold swp;by_cases h:a=i
  ·subst h;simp
  ·simp [List.getElem_set,PB h]
theorem Is (π:List Nat)(a:Nat)(ha:a< π.length)(σ:List Nat):
  (∃i,∃hi:i< π.length,a<=i/\∃τ:List Nat,τ.Perm ((swp π a i ha hi).drop (a+1))/\σ=(swp π a i ha hi).take (a+1)++τ)↔∃τ:List Nat,τ.Perm (π.drop a)/\σ=π.take a++τ:=by
 have key:∀i (hi:i< π.length),a<=i->(π[i]::(swp π a i ha hi).drop (a+1)).Perm (π.drop a):=λi hi G=>by
  obtain⟨H,V,J⟩:=lR π a i ha hi G;have h4:(π.take a++(π[i]::(swp π a i ha hi).drop (a+1))).Perm (π.take a++π.drop a):=by
   rw [NJ,List.append_cons,<-J,NJ];exact H
  exact(List.perm_append_left_iff _).1 h4
 constructor
 ·rintro⟨i,hi,G,τ,H,rfl⟩
  obtain⟨V,J,h4⟩:=lR π a i ha hi G;refine⟨π[i]::τ,(H.cons _).trans (key i hi G),?_⟩;rw [h4,M8];rfl
 ·rintro⟨τ,H,rfl⟩
  cases τ with
  | nil=>have :=H.length_eq;rw [NX]at this;simp at this;omega
  | cons y τ=>
   have W:=H.subset (Nc ..);obtain⟨j,Z,e⟩:=Np.1 W;rw [NX]at Z;rw [List.getElem_drop]at e;have hi:a+j< π.length:=by omega
   obtain⟨V,J,h4⟩:=lR π a (a+j) ha hi (by omega);refine⟨a+j,hi,by omega,τ,?_,?_⟩
   ·have :=key (a+j) hi (by omega);rw [e]at this;exact(PK y).1 (H.trans this.symm)
   ·rw [h4,e,M8];rfl
theorem J9 (π:List Nat)(a i:Nat)(ha:a< π.length)(hi:i< π.length)(G:i< (swp π a i ha hi).length)(H:a< (swp π a i ha hi).length):(swp π a i ha hi)[i]=π[a]/\(swp π a i ha hi)[a]=π[i]:=by
 simp only [swp,List.getElem_set];refine⟨MZ trivial,?_⟩;by_cases h:i=a
 ·subst h;simp
 ·simp [h]
def Mf (B:Nat)(v:Value)(o:List Nat)(Inv:List (List Nat)->PV)(f:Nat)(ca:List Value):Prop:=
 ∀(acc:List (List Nat)) (π:List Nat) (w:World),Inv acc w->aM 3 B w v (π.map iv)->π.Perm o->∀{R:PV},(∀w',Inv (acc++[π]) w'->aM 3 B w' v (π.map iv)->R w')->PW f (List.toArray ca) w (aw [] R)
theorem Ap {B:Nat}{v:Value}{o:List Nat}{Inv:List (List Nat)->PV}{f:Nat}{ca:List Value}(hf:hasR fV f=true)(ν:Mf B v o Inv f ca)(hinv:∀acc w w',Inv acc w->Kp w w' (λg=>v.ownBlock=some g)->Inv acc w')(ho:o.length<=1099511627776):
  ∀(d:Nat) (a:Nat) (π:List Nat) (acc:List (List Nat)) (w:World),a+d=π.length->Inv acc w->aM 3 B w v (π.map iv)->π.Perm o->∀{R:PV},
   (∀w' ζ,Inv (acc++ζ) w'->aM 3 B w' v (π.map iv)->(∀σ,σ∈ζ↔∃τ:List Nat,τ.Perm (π.drop a)/\σ=π.take a++τ)->R w')->
   PW 250 #[v,iv a,.func (.func f) #[] (List.toArray ca)] w (aw [] R)
 | 0,a,π,acc,w,hd,hI,hw,hp,R,hR=>by
  refine ki v a _ w R ?_;dsimp only [go_sem];dsimp only [go_sem,UInt8.reduceOfNat,UInt32.reduceOfNat,Nat.reduceAdd];obtain⟨ad,cap,hv⟩:=(hw.Dv (D:=λ _=>True) λ _ _=>trivial).slice;rw [MM]at hv;refine⟨ad,_,cap,hv,cN (by omega) ⟨f,ca,rfl,hf,?_⟩⟩;rw [Nk];refine ν acc π w hI hw hp λw' hI' hw'=>hR w' [π] hI' hw' λσ=>?_
  rw [show a=π.length by omega,Oj,MR];simp only [MA,List.perm_nil];constructor
  ·rintro rfl;exact⟨[],rfl,by simp⟩
  ·rintro⟨τ,rfl,rfl⟩;simp
 | d+1,a,π,acc,w,hd,hI,hw,hp,R,hR=>by
  refine ki v a _ w R ?_;dsimp only [go_sem];dsimp only [go_sem,UInt8.reduceOfNat,UInt32.reduceOfNat,Nat.reduceAdd];have ha:a< π.length:=by omega
  have hpl:=hp.length_eq;obtain⟨g,cap,hv⟩:∃g cap,v= .slice (some ⟨g,0,none⟩) π.length cap:=by
   rcases hw.2 with⟨_,h0⟩ | ⟨g,cap,cur,hv,_⟩
   ·rw [MM]at h0;omega
   ·rw [MM]at hv;exact⟨g,cap,hv⟩
  subst hv;have kg:∀{w1 w2:World} {j:Nat} {x:Value},w2=w1.setCell ⟨g,j,none⟩ x->Kp w1 w2 (λb=>(Value.slice (some ⟨g,0,none⟩) π.length cap).ownBlock=some b):=λh=>h▸Kp.mono (λb hb=>by rw [hb];rfl) (Kr.set _ _ _)
  refine⟨_,_,cap,rfl,aT (by omega) ⟨λi w'=>∃(j:Nat) (G:List (List Nat)),i=j/\a<=j/\j<=π.length/\Inv (acc++G) w'/\aM 3 B w' (.slice (some ⟨g,0,none⟩) π.length cap) (π.map iv)/\∀σ,σ∈G↔∃i,∃hi:i< π.length,(a<=i/\i< j)/\∃τ:List Nat,τ.Perm ((swp π a i ha hi).drop (a+1))/\σ=(swp π a i ha hi).take (a+1)++τ,
   λi _=>(π.length - i).toNat,⟨a,[],rfl,Mu _,by omega,by rw [MY];exact hI,hw,λσ=>⟨λh=>(by cases h),fun⟨i,_,h,_⟩=>by omega⟩⟩,λi θ hJ=>?_⟩⟩
  obtain⟨j,G,rfl,ξ,hjl,ο,γ,η⟩:=hJ;refine⟨_,_,cap,rfl,λhlt=>?_,λhge=>?_⟩;rotate_left
  ·have:j=π.length:=by simp only [Mw]at hge;omega
   refine hR θ G ο γ λσ=>?_
   rw [η,<-Is π a ha];constructor
   ·rintro⟨i,hi,⟨h1,_⟩,h2⟩;exact⟨i,hi,h1,h2⟩
   ·rintro⟨i,hi,h1,h2⟩;exact⟨i,hi,⟨h1,by omega⟩,h2⟩
  have H:=oL hlt;obtain⟨cj,fj,hgb,_⟩:=γ.at H;obtain⟨ca',fa,_,_⟩:=γ.at ha;obtain⟨s1,s2,s3⟩:=lR π a j ha H ξ;refine⟨λw'=>aM 3 B w' (.slice (some ⟨g,0,none⟩) π.length cap) (π.map iv),λw18 ς=>?_⟩;have υ:Ex θ w18:=ς▸Ex.drew θ;have δ:=γ.kp (Kp.ah υ λ _=>False) λ _ _ h=>h
  have I18:=hinv _ _ _ ο (Kp.ah υ _);refine⟨δ,g,0,_,cap,rfl,by omega,by omega,π[j],λw' ho=>by rw [Mv,MW];exact(ho.at H).1,g,0,_,cap,rfl,by omega,by omega,π[a],λw' ho=>by rw [Mv,MW];exact(ho.at ha).1,g,0,_,cap,rfl,by omega,by omega,⟨⟨_,by rw [Mv,MW];exact(δ.at ha).1⟩,by rw [Mv,MW];exact(δ.at ha).2.1⟩,λw34 W=>?_⟩;rw [Mv,MW,MX]at W;have ι:=δ.set W (by simpa using ha);rw [<-PS]at ι;have φ:j< (π.set a π[j]).length:=by rw [NU];exact H
  obtain⟨c34,f34,_,_⟩:=ι.at φ;refine⟨g,0,_,cap,rfl,by omega,by omega,⟨⟨_,by rw [Mv,MW];exact c34⟩,by rw [Mv,MW];exact f34⟩,λχ Z=>⟨by omega,?_⟩⟩;rw [Mv,MW,MX]at Z;have ψ:=ι.set Z (by simpa using H);rw [<-PS]at ψ;have ω:aM 3 B χ (.slice (some ⟨g,0,none⟩) π.length cap) ((swp π a j ha H).map iv):=ψ;have I40:=hinv _ _ _ (hinv _ _ _ I18 (kg W)) (kg Z);refine Ap hf ν hinv ho d (a+1) (swp π a j ha H) (acc++G) χ (by omega) I40 ω (s1.trans hp) λw41 acc2 I41 o41 hm2=>?_
  have V:j< (swp π a j ha H).length:=by omega
  have J:a< (swp π a j ha H).length:=by omega
  obtain⟨ej,ea⟩:=J9 π a j ha H V J;refine⟨λw'=>aM 3 B w' (.slice (some ⟨g,0,none⟩) π.length cap) ((swp π a j ha H).map iv),λw43 hw43=>?_⟩;have x43:Ex w41 w43:=hw43▸Ex.drew w41;have ε:=o41.kp (Kp.ah x43 λ _=>False) λ _ _ h=>h
  have I43:=hinv _ _ _ I41 (Kp.ah x43 _);refine⟨ε,g,0,_,cap,rfl,by omega,by omega,((swp π a j ha H)[j]:Nat),λw' ho=>by rw [Mv,MW];exact(ho.at V).1,g,0,_,cap,rfl,by omega,by omega,((swp π a j ha H)[a]:Nat),λw' ho=>by rw [Mv,MW];exact(ho.at J).1,g,0,_,cap,rfl,by omega,by omega,⟨⟨_,by rw [Mv,MW];exact(ε.at J).1⟩,by rw [Mv,MW];exact(ε.at J).2.1⟩,λw59 α=>?_⟩;rw [Mv,MW,MX]at α;have κ:=ε.set α (by rw [MM];exact J);rw [<-PS]at κ;have hj59:j< ((swp π a j ha H).set a (swp π a j ha H)[j]).length:=by rw [NU];exact V
  obtain⟨c59,f59,_,_⟩:=κ.at hj59;refine⟨g,0,_,cap,rfl,by omega,by omega,⟨⟨_,by rw [Mv,MW];exact c59⟩,by rw [Mv,MW];exact f59⟩,λw65 β=>⟨by omega,⟨j+1,G++acc2,by omega,by omega,by omega,?_,?_,λσ=>?_⟩,tN (by omega)⟩⟩
  ·rw [<-M8];exact hinv _ _ _ (hinv _ _ _ I43 (kg α)) (kg β)
  ·rw [Mv,MW,MX]at β;have μ:=κ.set β (by rw [MM,NU];exact V);rw [<-PS]at μ;have e:((swp π a j ha H).set a (swp π a j ha H)[j]).set j (swp π a j ha H)[a]=π:=by
    rw [ej,ea];unfold swp;apply Pb
    ·simp
    ·intro k h1 h2;simp only [List.getElem_set];split
     ·rename_i h;subst h;rfl
     ·split
      ·rename_i h;subst h;rfl
      ·rfl
   rw [e]at μ;exact μ
  ·rw [My,η,hm2];constructor
   ·rintro(⟨i,hi,⟨h1,h2⟩,h3⟩ | ⟨τ,h1,h2⟩)
    ·exact⟨i,hi,⟨h1,by omega⟩,h3⟩
    ·exact⟨j,H,⟨ξ,by omega⟩,τ,h1,h2⟩
   ·rintro⟨i,hi,⟨h1,h2⟩,h3⟩
    by_cases h:i=j
    ·subst h;right;exact h3
    ·left;exact⟨i,hi,⟨h1,by omega⟩,h3⟩
structure yz (w:World)(b30 b3 b5 b16 b18 nn:Nat)(vo vl:Value)(x:UInt32)(best:Tx):Prop where
 l:∀b,(b=b30\/b=b3\/b=b5\/b=b16\/b=b18)->b< w.heap.size
 c30:w.cell? ⟨b30,0,none⟩=some vo
 c3:w.cell? ⟨b3,0,none⟩=some (ptr nn)
 c5:w.cell? ⟨b5,0,none⟩=some vl
 c16:w.cell? ⟨b16,0,none⟩=some (.string (ax best))
 c18:w.cell? ⟨b18,0,none⟩=some (.int .u32 x.toNat)
 f16:w.frozen? ⟨b16,0,none⟩=false
 ne:b16≠b30/\b16≠b3/\b16≠b5/\b16≠b18
section
variable {w w':World} {b30 b3 b5 b16 b18 nn:Nat} {vo vl:Value} {x:UInt32} {best best':Tx} {S:Nat->Prop}
theorem yz.kp (h:yz w b30 b3 b5 b16 b18 nn vo vl x best)(k:Kp w w' S)(G:∀b,(b=b30\/b=b3\/b=b5\/b=b16\/b=b18)->¬S b):yz w' b30 b3 b5 b16 b18 nn vo vl x best:=by
 have e:∀b,(b=b30\/b=b3\/b=b5\/b=b16\/b=b18)->w'.heap[b]?=w.heap[b]?:=λb hb=>k.block b (h.l b hb) (G b hb)
 exact⟨λb hb=>MP (h.l b hb) k.size,by rw [Mn (w:=w) (e b30 (by simp))];exact h.c30,by rw [Mn (w:=w) (e b3 (by simp))];exact h.c3,by rw [Mn (w:=w) (e b5 (by simp))];exact h.c5,
  by rw [Mn (w:=w) (e b16 (by simp))];exact h.c16,by rw [Mn (w:=w) (e b18 (by simp))];exact h.c18,by rw [MU (w:=w) (e b16 (by simp))];exact h.f16,h.ne⟩
theorem yz.ex (h:yz w b30 b3 b5 b16 b18 nn vo vl x best)(k:Ex w w'):yz w' b30 b3 b5 b16 b18 nn vo vl x best:=h.kp (Kp.ah k λ _=>False) λ _ _ h=>h
theorem yz.Gq (h:yz w b30 b3 b5 b16 b18 nn vo vl x best)(hw:w'=w.setCell ⟨b16,0,none⟩ (.string (ax best'))):yz w' b30 b3 b5 b16 b18 nn vo vl x best':=by
 subst hw;have k:=Kr.set (r:=b16) w 0 (.string (ax best'));have ne:∀b,b16≠b->(w.setCell ⟨b16,0,none⟩ (.string (ax best'))).cell? ⟨b,0,none⟩=w.cell? ⟨b,0,none⟩:=λb hb=>Mr _ _ _ _ (λe=>by injection e with V W;omega)
 obtain⟨n1,G,H,J⟩:=h.ne;exact⟨λb hb=>MP (h.l b hb) k.size,by rw [ne _ n1];exact h.c30,by rw [ne _ G];exact h.c3,by rw [ne _ H];exact h.c5,MI _ _ _ h.c16,by rw [ne _ J];exact h.c18,by rw [MG];exact h.f16,h.ne⟩
end
def mM (l:Lv)(ls:List UInt8)(ρ:Rh)(tk:Tk)(π:List Nat):Tx:=wrap ls []++joinS 38 (aH (thS l (asg π ls ρ) (addK ls tk)))
theorem DJ (c:UInt8)(l:List UInt8):wrap (c::l) []=[35]++[c]++[46]++wrap l []:=rfl
theorem Fv {n:Nat}(ht:Hz n){D:Nat->Prop}{w:World}{b30 b3 b5 b16 b18 nn r:Nat}{vo vl:Value}{x:UInt32}{best:Tx}{o π:List Nat}{l:Lv}{ρ:Rh}{tk:Tk}{bad:Bool}{B:Nat}(hs:yz w b30 b3 b5 b16 b18 nn vo vl x best)
  (hb:∀b,(b=b30\/b=b3\/b=b5\/b=b16\/b=b18)->¬(b=nn\/b=r)) (ho:aM 3 B w vo (π.map iv)) (hob:∀g,vo.ownBlock=some g->¬(g=nn\/g=r)) (hp:π.Perm o) (hN:Nm w nn r ρ tk bad) (hx:tC x tk)
  (hn:l.sz<=n) (hsh:l.sh true=true) (hsm:l.sm=true) (huq:tV o l) (h:fK D w vl o (af D w l)) (hD:∀g,D g->¬(g=nn\/g=r)) (hne:l.isNil=false) (htot:o.length+l.tot<=4294967296) {R:PV}
  (hR:∀w' ρ' best',Kp w w' (λg=>g=nn\/g=r\/g=b16)->yz w' b30 b3 b5 b16 b18 nn vo vl x best'->Nm w' nn r ρ' tk (bad||(fL o.length tk||thBad l (addK (lets o.length tk) tk)))->(∀z,z∉o->z∉l.bvs->ρ' z=ρ z)->
   best'=(if best=[]\/mM l (lets o.length tk) ρ tk π< best then mM l (lets o.length tk) ρ tk π else best)->R w'):
  PW 251 #[ptr b30,ptr b3,ptr b5,ptr b16,ptr b18] w (aw [] R):=by
 refine jY _ _ _ _ _ w R ?_;dsimp only [go_sem];dsimp only [go_sem,UInt8.reduceOfNat,UInt32.reduceOfNat,Nat.reduceAdd];have ς:=hp.length_eq;obtain⟨ao,capo,hvo⟩:=(ho.Dv (D:=λ _=>True) λ _ _=>trivial).slice;rw [MM]at hvo;have hge:=huq.ge;refine⟨b30,0,rfl,vo,hs.c30,ao,_,capo,hvo,λhd y w'=>∃(j:Nat) (H:Rh) (G:Tk) (J:Bool),y=j/\j<=π.length/\Kn nn r w w'/\Nm w' nn r H G J/\hd.length=3* j/\asg (π.drop j) (lets (π.length - j) G) H=asg π (lets o.length tk) ρ/\addK (lets (π.length - j) G) G=addK (lets o.length tk) tk/\
   (J||fL (π.length - j) G)=(bad||fL o.length tk)/\hd++wrap (lets (π.length - j) G) []=wrap (lets o.length tk) []/\∀z,z∉o->H z=ρ z,λ _ y _=>(π.length - y).toNat,⟨0,ρ,tk,bad,rfl,Nl _,Kn.ex (Ex.refl w),hN,rfl,by rw [Oe,Nat.sub_zero,ς],by rw [Nat.sub_zero,ς],by rw [Nat.sub_zero,ς],by rw [Nat.sub_zero,ς];rfl,λ _ _=>rfl⟩,λhd y υ hI=>?_⟩
 obtain⟨j,H,G,J,rfl,hj,κ,n16,hhd,e1,e2,e3,e4,e5⟩:=hI;have s16:yz υ b30 b3 b5 b16 b18 nn vo vl x best:=hs.kp κ hb;refine⟨λhlt=>?_,λhge2=>?_⟩
 ·have η:=oL hlt;obtain⟨g,cap,hvo2⟩:∃g cap,vo= .slice (some ⟨g,0,none⟩) π.length cap:=by
   rcases ho.2 with⟨_,h0⟩ | ⟨g,cap,cur,hv,_⟩
   ·rw [MM]at h0;omega
   ·rw [MM]at hv;exact⟨g,cap,hv⟩
  have o16:=ho.kp κ λg hg=>hob g hg
  have hx26:26<=π[j]:=hge _ (M0 _ (hp.subset (Mx η)));have β:υ.cell? ⟨g,0+Int.toNat (j:Int)* 1,none⟩=some (iv π[j]):=by
   rw [hvo2]at o16;rw [Mv,MW];exact(o16.at η).1
  refine⟨g,0,_,cap,hvo2,by omega,by omega,π[j],β,b3,0,rfl,ptr nn,s16.c3,Gl n16 hx26 λy' w26 _ k26 n26=>⟨b3,0,rfl,ptr nn,(s16.kp k26 hb).c3,jn n26 ⟨by simp,by simp,?_,by omega,⟨j+1,_,_,_,by omega,by omega,Kn.trans κ k26,n26,?_,?_,?_,?_,?_,λz hz=>?_⟩,tN (by omega)⟩⟩⟩
  all_goals have ed:π.drop j=π[j]::π.drop (j+1):=Nn η
  all_goals have el:π.length - j=(π.length - (j+1))+1:=by omega
  all_goals rw [el]at e1 e2 e3 e4
  ·simp;omega
  ·simp;omega
  ·rw [ed]at e1;exact e1
  ·exact e2
  ·rw [<-e3];simp only [fL,NZ]
  ·rw [<-e4,lets,DJ];simp [aI]
  ·rw [<-e5 z hz];refine MJ λe=>hz ?_
   rw [e];exact hp.subset (Mx η)
 ·have η:=oE hge2 (by omega);subst η;rw [Nat.sub_self]at e1 e2 e3 e4;rw [Oj]at e1;simp only [lets,asg,addK,fL,wrap,OT,MY]at e1 e2 e3 e4;intro b32 w33 hb32 hw33;have x33:Ex υ w33:=hw33▸Ex.alloc υ _;have s33:=s16.ex x33;have n33:=n16.ex x33;have k33:Kn nn r w w33:=Kn.trans κ (Kn.ex x33);obtain⟨bl,vo2,vt,ts,rfl,h2,h3,h4,h5,h6,h7,h8⟩:=h;obtain⟨at_,capt,hvt⟩:=h7.slice;have hlen:=h8.len;have hel:=Lv.cG l;have hlt:=bQ l;have hbl:=hD bl h2;have sz33:=k33.size;have hlb:∀b,(b=b30\/b=b3\/b=b5\/b=b16\/b=b18)->b< w.heap.size:=hs.l;refine⟨b5,0,rfl,ptr bl,s33.c5,bl,0,rfl,vt,by rw [Mn (w:=w) (k33.block bl h3 hbl)];exact h5,at_,_,capt,hvt,λtx y w'=>∃(j:Nat) (W:Rh),y=j/\j<=ts.length/\Kn nn r w w'/\Nm w' nn r W G (J||thBad (l.take j) G)/\(∀z,z∉(l.take j).bvs->W z=H z)/\Own w.heap.size w' tx (thS (l.take j) H G),
   λ _ y _=>(ts.length - y).toNat,⟨0,H,rfl,Nl _,k33,by simpa [Lv.take,thBad]using n33,λ _ _=>rfl,Own.none (by have :=κ.size;omega) hb32 hw33⟩,λtx y w47 hI=>?_⟩
  obtain⟨j,W,rfl,hj,μ,n47,δ,ε⟩:=hI;have hnl:=hN.lt;have hnr:=hN.lr;have V:∀g',tx.ownBlock=some g'->w.heap.size<=g':=λg' h'=>(ε.block g' h').1
  refine⟨λhlt2=>?_,λhge3=>?_⟩
  ·have φ:=oL hlt2;have hje:j< l.bf.length:=by omega
   have s47:yz w47 b30 b3 b5 b16 b18 nn vo (ptr bl) x best:=hs.kp μ hb;obtain⟨bu,ou,γ,hvu',hcu⟩:∃bu ou γ,vt= .slice (some ⟨bu,ou,none⟩) ts.length γ/\w47.cell? ⟨bu,ou+j,none⟩=some ts[j]:=by
    rcases h7 with⟨_,h0⟩ | ⟨bt,ot,capt',e,hbD,hb',β⟩
    ·rw [h0]at φ;simp at φ
    ·exact⟨bt,ot,capt',e,by rw [Mn (w:=w) (μ.block bt hb' (hD bt hbD))];exact β j _ (Mo φ)⟩
   obtain⟨e,hf1,θ,hf3⟩:=aN.single h8.bf (Mo φ);have hf4:l.bf[j]=e:=by rw [Mo hje]at hf1;exact Ng hf1
   have ζ:=Lv.take_succ l j hje;rw [hf4]at ζ;have hsz2:=Lv.dT l e θ;have htot2:=Lv.fP l e θ;have hfe:thS e W G=thS e H G:=sG e W H G λz hz=>δ z λhb=>huq.nf z (Lv.kR l j z hb) (Lv.pc l e θ hz)
   refine⟨bu,ou,_,γ,hvu',by omega,by omega,ts[j],by rw [Mv,MW];exact hcu,b3,0,rfl,ptr nn,s47.c3,?_⟩;refine ht (by omega) (Lv.jK hsh e θ) (Lv.sS hsm e θ) (huq.bf θ) (hf3.kp μ hD) hD n47 (by omega) λt w57 ρ3 hthS k57 n57 hρ3 b58 w59 hb58 hw59=>?_
   have χ:Ex w57 w59:=hw59▸Ex.alloc w57 _;have k1:Kn nn r w w57:=Kn.trans μ k57;have ho59:Own w.heap.size w59 tx (thS (l.take j) H G):=(ε.kp k57 λg' h'=>(by have :=V g' h';omega)).ex χ;have hl3:(thS (l.take j) H G).length<=ts.length:=by
    rw [bn];have :=Lv.gh l j;omega
   refine Own.push ho59 (by have :=k1.size;have :=χ.size;omega) (Strs.one hb58 hw59) (by simp only [Mm,MB];omega) λv65 w66 _ ho66 hg66 _=>⟨by omega,⟨j+1,ρ3,by omega,by omega,?_,?_,?_,?_⟩,tN (by omega)⟩
   ·exact Kp.new (Kn.trans k1 (Kn.ex χ)) hg66 V
   ·have e1:(J||thBad (l.take (j+1)) G)=(J||thBad (l.take j) G||thBad e G):=by rw [ζ,cM,NZ]
    rw [e1];refine(n57.ex χ).kp (Kp.aQ (S:=λg=>tx.ownBlock=some g) hg66 λ _ h=>h) (λh'=>by have :=V _ h';omega) λh'=>by have :=V _ h';omega
   ·intro z hz;rw [ζ,Lv.dc,My,PT]at hz;rw [hρ3 z hz.2,δ z hz.1]
   ·rw [ζ,fU,<-hfe,hthS];exact ho66
  ·have hjt:j=l.bf.length:=by simp only [Mw]at hge3;omega
   rw [hjt,Lv.cZ]at n47 ε δ;have hsum:=fQ l H G;have ψ:=bn l H G;have hne':thS l H G≠[]:=λe=>by
    rw [e]at ψ;rw [Lv.dh]at hne;simp only [MB]at ψ;simp [<-ψ]at hne
   have eT:hd++joinS 38 (aH (thS l H G))=mM l (lets o.length tk) ρ tk π:=by
    unfold mM;rw [<-e4,<-e1,<-e2]
   have hjl2:=gn 38 (aH (thS l H G));rw [gX (aE _)]at hjl2;refine FY ε hne' (by rw [ψ];omega) (by omega) λι k68=>⟨by omega,?_⟩
   have ν:Kn nn r w ι:=Kp.trans μ k68 λg' hg' h'=>by have :=V g' h';omega
   have Z:yz ι b30 b3 b5 b16 b18 nn vo (ptr bl) x best:=hs.kp ν hb;have n68:Nm ι nn r W G (J||thBad l G):=n47.kp k68 (λh'=>by have :=V _ h';omega) λh'=>by have :=V _ h';omega
   have kq:∀{w1:World},Kn nn r w w1->Kp w w1 (λg=>g=nn\/g=r\/g=b16):=λk=>Kp.mono (λg hg=>hg.elim .inl λh=> .inr (.inl h)) k
   rw [eT];have fin:∀w1 best',Kp w w1 (λg=>g=nn\/g=r\/g=b16)->yz w1 b30 b3 b5 b16 b18 nn vo (ptr bl) x best'->Nm w1 nn r W G (J||thBad l G)->best'=(if best=[]\/mM l (lets o.length tk) ρ tk π< best then mM l (lets o.length tk) ρ tk π else best)->
     ∃(b79 o80:Nat),ptr b3=Value.pointer (some ⟨b79,o80,none⟩)/\∃v81:Value,World.cell? w1 ⟨b79,o80,none⟩=some v81/\∃(b82 o83:Nat),ptr b18=Value.pointer (some ⟨b82,o83,none⟩)/\∃m84:UInt32,World.cell? w1 ⟨b82,o83,none⟩=some (Value.int IntKind.u32 (UInt32.toNat m84))/\∃(ω o86:Nat),v81=Value.pointer (some ⟨ω,o86,none⟩)/\((∃u87:Value,World.cell? w1 ⟨ω,(o86+1),none⟩=some u87)/\World.frozen? w1 ⟨ω,(o86+1),none⟩=false)/\∀w88:World,w88=World.setCell w1 ⟨ω,(o86+1),none⟩ (Value.int IntKind.u32 (UInt32.toNat m84))->R w88:=by
    intro w1 best' k1 s1 n1 hbest;obtain⟨z,hz,_⟩:=n1.c1;refine⟨b3,0,rfl,ptr nn,s1.c3,b18,0,rfl,x,s1.c18,nn,0,rfl,⟨⟨_,hz⟩,n1.f 1⟩,λw88 ξ=>hR w88 W best' ?_ ?_ ?_ (λz hz hz'=>?_) hbest⟩
    ·exact Kp.trans k1 (ξ▸Kr.set _ _ _) λg _ e=> .inl e
    ·exact s1.kp (ξ▸Kr.set w1 1 _) λb hb' e=>hb b hb' (.inl e)
    ·refine n1.set (tk':=tk) ξ (.inl ⟨rfl,?_,x,rfl,hx⟩);rw [<-NZ,<-e3,<-e2]
    ·rw [δ z hz',e5 z hz]
   have st:∀w1,w1=ι.setCell ⟨b16,0,none⟩ (.string (ax (mM l (lets o.length tk) ρ tk π)))->Kp w w1 (λg=>g=nn\/g=r\/g=b16)/\yz w1 b30 b3 b5 b16 b18 nn vo (ptr bl) x (mM l (lets o.length tk) ρ tk π)/\Nm w1 nn r W G (J||thBad l G):=λw1 hw1=>by
    have kb:Kr b16 ι w1:=hw1▸Kr.set _ _ _;have h16:=hb b16 (by simp);exact⟨Kp.trans (kq ν) kb λg _ e=> .inr (.inr e),Z.Gq hw1,n68.kp kb (λe=>h16 (.inl e.symm)) λe=>h16 (.inr e.symm)⟩
   refine⟨b16,0,rfl,best,Z.c16,λο=>?_,λο=>?_⟩
   ·simp only [Mw]at ο;refine⟨b16,0,rfl,best,Z.c16,λα=>⟨b16,0,rfl,⟨⟨_,Z.c16⟩,Z.f16⟩,λw78 hw78=>?_⟩,λα=>?_⟩
    ·rw [PL,Mz]at α;obtain⟨k1,k2,k3⟩:=st w78 hw78;exact fin w78 _ k1 k2 k3 (by rw [MZ (.inr α)])
    ·rw [PL,Mw]at α;exact fin ι best (kq ν) Z n68 (by rw [MJ (λh=>h.elim ο α)])
   ·simp only [Mz]at ο;refine⟨b16,0,rfl,⟨⟨_,Z.c16⟩,Z.f16⟩,λw102 hw102=>?_⟩;obtain⟨k1,k2,k3⟩:=st w102 hw102;exact fin w102 _ k1 k2 k3 (by rw [MZ (.inl ο)])
theorem B0 (a:Tx):bE [a]=a:=ga (by simp) λs G=>by simp at G;subst G;simp [jb]
theorem yQ {l:List Tx}(h:l≠[])(a:Tx):bE (l++[a])=if a< bE l then a else bE l:=by
 obtain⟨V,J⟩:=cz h;split
 ·rename_i H;refine ga (by simp) λs G=>?_
  rcases My.1 G with G | G
  ·refine fW _ _ _ ?_ (J s G);simp only [jb,Mz];exact List.le_of_lt H
  ·simp at G;subst G;simp [jb]
 ·rename_i H;refine ga (M0 _ V) λs G=>?_
  rcases My.1 G with G | G
  ·exact J s G
  ·simp at G;subst G;simp only [jb,Mz];exact List.not_lt.1 H
theorem HL {l:Lv}{o π:List Nat}(V:π.Perm o)(H:tV o l){ls:List UInt8}(J:π.length=ls.length){ρ ρ':Rh}(h:∀z,z∉o->z∉l.bvs->ρ' z=ρ z)(tk:Tk):mM l ls ρ' tk π=mM l ls ρ tk π:=by
 unfold mM;rw [sG l (asg π ls ρ') (asg π ls ρ) (addK ls tk) λz W=>?_];by_cases G:z∈π
 ·exact BF π ls ρ' ρ z G J
 ·rw [bI _ _ _ _ G,bI _ _ _ _ G];exact h z (λZ=>G (V.symm.subset Z)) λhb=>H.nf z hb W
structure OI (w w':World)(b30 b3 b5 b16 b18 nn r:Nat)(vo vl:Value)(x:UInt32)(o:List Nat)(l:Lv)(ρ:Rh)(tk:Tk)(bad:Bool)(acc:List (List Nat)):Prop where
 ex:∃(ρ':Rh) (best:Tx),yz w' b30 b3 b5 b16 b18 nn vo vl x best/\Nm w' nn r ρ' tk (bad||(!acc.isEmpty&&(fL o.length tk||thBad l (addK (lets o.length tk) tk))))/\(∀z,z∉o->z∉l.bvs->ρ' z=ρ z)/\
  ((acc=[]/\best=[])\/(acc≠[]/\best=bE (acc.map (mM l (lets o.length tk) ρ tk))))
 kn:Kn nn r w w'
theorem vN {n:Nat}(ht:Hz n):KC n:=by
 intro D w v o l nn r ρ tk bad R hn hsh hsm huq h hD hN htot hR;refine mD (ptr nn) v w R ?_;dsimp only [go_sem];dsimp only [go_sem,UInt8.reduceOfNat,UInt32.reduceOfNat,Nat.reduceAdd];have hv1:=h.one;refine⟨rfl,λb3 w4 hb3 hw4=>⟨hv1,λb5 w6 hb5 hw6=>?_⟩⟩;have x4:Ex w w4:=hw4▸Ex.alloc w _;have x6':Ex w4 w6:=hw6▸Ex.alloc w4 _;have x6:Ex w w6:=Ex.trans x4 x6';have s4:w4.heap.size=w.heap.size+1:=by rw [hw4,size_alloc]
 have s6:w6.heap.size=w4.heap.size+1:=by rw [hw6,size_alloc]
 have c3:w6.cell? ⟨b3,0,none⟩=some (ptr nn):=by rw [x6'.cell (show b3< _ by omega),hw4,hb3];exact aa rfl
 have c5:w6.cell? ⟨b5,0,none⟩=some v:=by rw [hw6,hb5];exact aa rfl
 have hnl:=hN.lt;have hnr:=hN.lr;refine⟨v,c5,lU (fK.ex h x6) ⟨λhe=>?_,λhe=>?_⟩⟩
 ·have e:aR o (thS l) ρ tk=[48]:=by
   unfold aR;rw [MZ];cases l<;>first | rfl | cases he
  rw [<-e];refine hR w6 ρ (Kn.ex x6) ?_ λ _ _ _=>rfl
  rw [he];simpa [fk]using hN.ex x6
 ·refine⟨λw'=>Ex w6 w',λw11 hw11=>?_⟩;have ο:Ex w6 w11:=hw11▸Ex.drew w6;have n11:=hN.ex (Ex.trans x6 ο);obtain⟨x,hx,hxt⟩:=(hN.ex x6).c1;have s11:=ο.size;have rest:∀(b16 b18:Nat) (G:World),Ex w6 G->G.cell? ⟨b16,0,none⟩=some (.string (ax []))->G.cell? ⟨b18,0,none⟩=some (.int .u32 x.toNat)->G.frozen? ⟨b16,0,none⟩=false->b16≠b18->w6.heap.size<=b16->w6.heap.size<=b18->b16< G.heap.size->b18< G.heap.size->
    ∃v24:Value,World.cell? G ⟨b5,0,none⟩=some v24/\∃(b25 o26:Nat),v24=Value.pointer (some ⟨b25,o26,none⟩)/\∃v27:Value,World.cell? G ⟨b25,(o26+0),none⟩=some v27/\PW 180 #[v27] G (aw [.v] fun(v28:Value) (κ:World)=>∀(b30:Nat) (β:World),b30=Array.size (World.heap κ)->β=World.alloc κ (Obj.cells #[(Value.slice none 0 0)] 36)->aB v28=true/\((∃u32:Value,World.cell? β ⟨b30,0,none⟩=some u32)/\World.frozen? β ⟨b30,0,none⟩=false)/\
     ∀γ:World,γ=World.setCell β ⟨b30,0,none⟩ v28->∃v34:Value,World.cell? γ ⟨b30,0,none⟩=some v34/\PW 250 #[v34,(Value.int IntKind.i64 0),(Value.func (Fn.func 251) #[] #[(Value.pointer (some ⟨b30,0,none⟩)),(Value.pointer (some ⟨b3,0,none⟩)),(Value.pointer (some ⟨b5,0,none⟩)),(Value.pointer (some ⟨b16,0,none⟩)),(Value.pointer (some ⟨b18,0,none⟩))])] γ (aw [] fun(χ:World)=>∃s36:aF,World.cell? χ ⟨b16,0,none⟩=some (Value.string (ax s36))/\R (s36) χ)):=by
   intro b16 b18 G ζ c16 c18 f16 hne h16 h18 l16 l18;have h':=h;obtain⟨bl,vo,vt,ts,rfl,h2,h3,h4,h5,h6,h7,h8⟩:=h';have ν:Ex w G:=Ex.trans x6 ζ;have c5':G.cell? ⟨b5,0,none⟩=some (ptr bl):=by rw [ζ.cell (show b5< _ by omega)];exact c5
   have c3':G.cell? ⟨b3,0,none⟩=some (ptr nn):=by rw [ζ.cell (show b3< _ by omega)];exact c3
   refine⟨ptr bl,c5',bl,0,rfl,vo,by rw [ν.cell (show bl< _ from h3)];exact h4,?_⟩;refine xI (h6.ex ν) (by omega) λv28 κ x29 o29 b30 β hb30 ξ=>?_
   have x31:Ex κ β:=ξ▸Ex.alloc κ _;have s31:β.heap.size=κ.heap.size+1:=by rw [ξ,size_alloc]
   have s29:=x29.size;have s23:=ζ.size;have c30:β.cell? ⟨b30,0,none⟩=some (.slice none 0 0):=by rw [ξ,hb30];exact aa rfl
   have f30:β.frozen? ⟨b30,0,none⟩=false:=by rw [ξ,hb30];exact aS _ _ _ _
   refine⟨o29.jU,⟨⟨_,c30⟩,f30⟩,λγ hw33=>?_⟩;have k33:Kr b30 β γ:=hw33▸Kr.set _ _ _;have η:Ex G γ:=Ex.below (Ex.trans x29 x31) (Kp.below k33 (Ex.trans x29 x31).size λg hg e=>by omega);have ψ:∀g,v28.ownBlock=some g->G.heap.size<=g/\g< κ.heap.size:=o29.block;have o33:aM 3 G.heap.size γ v28 (o.map iv):=(o29.kp (Kp.ah x31 λ _=>False) λ _ _ h=>h).kp k33 λg hg e=>by have :=ψ g hg;omega
   have c30':γ.cell? ⟨b30,0,none⟩=some v28:=by rw [hw33];exact MI _ _ _ c30
   have ds:yz γ b30 b3 b5 b16 b18 nn v28 (ptr bl) x []:=by
    have s33:=η.size;have s33':=k33.size;refine⟨λb hb=>?_,c30',?_,?_,?_,?_,?_,by omega,by omega,by omega,hne⟩
    ·rcases hb with rfl | rfl | rfl | rfl | rfl<;>omega
    ·rw [η.cell (show b3< _ by omega)];exact c3'
    ·rw [η.cell (show b5< _ by omega)];exact c5'
    ·rw [η.cell (show b16< _ by omega)];exact c16
    ·rw [η.cell (show b18< _ by omega)];exact c18
    ·rw [N4 η l16];exact f16
   have ω:∀b,(b=b30\/b=b3\/b=b5\/b=b16\/b=b18)->w.heap.size<=b/\¬v28.ownBlock=some b:=λb hb=>by
    refine⟨by rcases hb with rfl | rfl | rfl | rfl | rfl<;>omega,λe=>?_⟩;have :=ψ b e;rcases hb with rfl | rfl | rfl | rfl | rfl<;>omega
   have hlev:∀{w1:World},Kn nn r w w1->fK D w1 (ptr bl) o (af D w1 l):=λk=>h.kp k hD λl h=>h.kp k hD
   have ς:∀g,v28.ownBlock=some g->¬(g=nn\/g=r):=λg hg=>by have :=ψ g hg;omega
   refine⟨v28,c30',?_⟩;refine Ap (o:=o) (ca:=[ptr b30,ptr b3,ptr b5,ptr b16,ptr b18]) (Inv:=λacc w'=>OI w w' b30 b3 b5 b16 b18 nn r v28 (ptr bl) x o l ρ tk bad acc) (by kernel_rfl) ?_ ?_ (by omega) o.length 0 o [] γ (by omega) ⟨⟨ρ,[],ds,?_,λ _ _ _=>rfl,.inl ⟨rfl,rfl⟩⟩,Kn.ex (Ex.trans ν η)⟩ o33 (NA _) λχ acc I35 o35 hacc=>?_
   ·intro acc π w1 hI how hp R' hR';obtain⟨⟨ρ1,best,d1,n1,e1,e2⟩,kn⟩:=hI;have hpl:=hp.length_eq;refine Fv ht d1 (λb hb=>by have :=(ω b hb).1;omega) how ς hp n1 hxt hn hsh hsm huq (hlev kn) hD he htot λw2 ρ2 best2 k2 d2 n2 e3 e4=>hR' w2 ⟨⟨ρ2,best2,d2,?_,λz hz hz'=>by rw [e3 z hz hz',e1 z hz hz'],?_⟩,?_⟩ ?_
    ·have:(bad||(!acc.isEmpty&&(fL o.length tk||thBad l (addK (lets o.length tk) tk)))||(fL o.length tk||thBad l (addK (lets o.length tk) tk)))=(bad||(!(acc++[π]).isEmpty&&(fL o.length tk||thBad l (addK (lets o.length tk) tk)))):=by
      cases acc<;>simp [NZ]
     rw [<-this];exact n2
    ·right;refine⟨by simp,?_⟩;have eT:=HL hp huq (ls:=lets o.length tk) (by rw [fw];exact hpl) e1 tk;rw [eT]at e4;rw [Nq];simp only [MV,Oq];rcases e2 with⟨rfl,rfl⟩ | ⟨ha,rfl⟩
     ·rw [MZ (.inl rfl)]at e4;rw [e4,Oq,Nk,B0]
     ·rw [yQ (by simpa using ha),e4];have hne2:bE (acc.map (mM l (lets o.length tk) ρ tk))≠[]:=by
       obtain⟨h1,_⟩:=cz (l:=acc.map (mM l (lets o.length tk) ρ tk)) (by simpa using ha);obtain⟨σ,_,e⟩:=Nb.1 h1;rw [<-e];unfold mM;intro e5;refine p5 (pf ?_) (λt ht=>lM l hsm _ _ t ((aE _).subset ht)) (List.append_eq_nil_iff.1 e5).2;intro e6;have :=bn l (asg σ (lets o.length tk) ρ) (addK (lets o.length tk) tk);rw [e6]at this;rw [Lv.dh]at he;simp only [MB]at this;simp [<-this]at he
      simp only [hne2,PU]
    ·exact Kp.trans kn k2 λg hg e=>by have :=(ω b16 (by simp)).1;omega
    ·exact how.kp k2 λg hg e=>by
      rcases e with e | e | e
      ·exact ς g hg (.inl e)
      ·exact ς g hg (.inr e)
      ·exact(ω b16 (by simp)).2 (e▸hg)
   ·intro acc w1 w2 hI k;obtain⟨⟨ρ1,best,d1,n1,e1,e2⟩,kn⟩:=hI;refine⟨⟨ρ1,best,d1.kp k λb hb=>(ω b hb).2,n1.kp k (λe=>ς nn e (.inl rfl)) λe=>ς r e (.inr rfl),e1,e2⟩,Kp.trans kn k λg hg e=>by have :=ψ g e;omega⟩
   ·have :=hN.ex (Ex.trans ν η);simpa using this
   ·obtain⟨⟨ρ1,best,d1,n1,e1,e2⟩,kn⟩:=I35;rw [Nk]at n1 e2;have hmem:∀σ,σ∈acc↔σ.Perm o:=λσ=>by
     rw [hacc];simp only [Oe,List.take_zero,Nk];exact⟨fun⟨τ,h,e⟩=>e▸h,λh=>⟨σ,h,rfl⟩⟩
    have υ:acc≠[]:=λe=>by have :=(hmem o).2 (NA _);rw [e]at this;cases this
    have eb:best=aR o (thS l) ρ tk:=by
     rcases e2 with⟨h0,_⟩ | ⟨_,rfl⟩
     ·exact absurd h0 υ
     ·unfold aR;have hemp:¬(thS l ρ tk).isEmpty=true:=λe=>by
       rw [List.isEmpty_iff_length_eq_zero,bn]at e;rw [Lv.dh]at he;simp [e]at he
      rw [MJ hemp];show _=wrap _ (bE _);rw [yB,<-rO _ (λe=>oe o (Pa.1 e)),Od];refine nN λs=>?_
      simp only [Nb,hmem,cP];rfl
    rw [<-eb]at hR;refine⟨best,d1.c16,hR χ ρ1 kn ?_ e1⟩;have:(bad||(!acc.isEmpty&&(fL o.length tk||thBad l (addK (lets o.length tk) tk))))=(bad||fk o.length l.isNil (thBad l) tk):=by
     have:acc.isEmpty=false:=by cases acc<;>first | exact absurd rfl υ | rfl
     rw [this,he];rfl
    rw [<-this];exact n1
  refine⟨ο,ptr nn,λw' x'=>by rw [x'.cell (show b3< _ by omega)];exact c3,nn,0,rfl,x,λw' x'=>by rw [x'.cell (show nn< _ by omega)];exact hx,λb16 δ θ W=>?_,λb18 δ ι W=>?_⟩
  ·have μ:Ex w6 δ:=W▸Ex.trans ο (Ex.alloc _ _);refine⟨μ,λb18 V ι Z=>?_⟩;have ε:Ex δ V:=Z▸Ex.alloc _ _;have s17:δ.heap.size=w11.heap.size+1:=by rw [W,size_alloc]
   have s19:V.heap.size=δ.heap.size+1:=by rw [Z,size_alloc]
   have c16:V.cell? ⟨b16,0,none⟩=some (.string ⟨#[]⟩):=by rw [ε.cell (show b16< _ by omega),W,θ];exact aa rfl
   have f16:V.frozen? ⟨b16,0,none⟩=false:=by rw [N4 ε (show b16< _ by omega),W,θ];exact aS _ _ _ _
   have c18:V.cell? ⟨b18,0,none⟩=some (.int .u32 0):=by rw [Z,ι];exact aa rfl
   have f18:V.frozen? ⟨b18,0,none⟩=false:=by rw [Z,ι];exact aS _ _ _ _
   refine⟨Ex.trans μ ε,⟨⟨_,c16⟩,f16⟩,λα H=>?_⟩;have φ:Ex w6 α:=H▸Ex.own (Ex.trans μ ε) (by omega) _;have s21:α.heap.size=V.heap.size:=by rw [H,M9]
   have d16:α.cell? ⟨b16,0,none⟩=some (.string (ax [])):=by rw [H];exact MI _ _ _ c16
   have d18:α.cell? ⟨b18,0,none⟩=some (.int .u32 0):=by rw [H,Mr _ _ _ _ (λe=>by injection e with e1 e2;omega)];exact c18
   refine⟨φ,⟨⟨_,d18⟩,by rw [H,MG];exact f18⟩,λG J=>?_⟩;have ζ:Ex w6 G:=J▸Ex.own φ (by omega) _;have s23:G.heap.size=α.heap.size:=by rw [J,M9]
   refine rest b16 b18 G ζ ?_ ?_ ?_ (by omega) (by omega) (by omega) (by omega) (by omega)
   ·rw [J,Mr _ _ _ _ (λe=>by injection e with e1 e2;omega)];exact d16
   ·rw [J];exact MI _ _ _ d18
   ·rw [J,MG,H,MG];exact f16
  ·have μ:Ex w6 δ:=W▸Ex.trans ο (Ex.alloc _ _);refine⟨μ,λb16 V θ Z=>?_⟩;have ε:Ex δ V:=Z▸Ex.alloc _ _;have s17:δ.heap.size=w11.heap.size+1:=by rw [W,size_alloc]
   have s19:V.heap.size=δ.heap.size+1:=by rw [Z,size_alloc]
   have c18:V.cell? ⟨b18,0,none⟩=some (.int .u32 0):=by rw [ε.cell (show b18< _ by omega),W,ι];exact aa rfl
   have f18:V.frozen? ⟨b18,0,none⟩=false:=by rw [N4 ε (show b18< _ by omega),W,ι];exact aS _ _ _ _
   have c16:V.cell? ⟨b16,0,none⟩=some (.string ⟨#[]⟩):=by rw [Z,θ];exact aa rfl
   have f16:V.frozen? ⟨b16,0,none⟩=false:=by rw [Z,θ];exact aS _ _ _ _
   refine⟨Ex.trans μ ε,⟨⟨_,c16⟩,f16⟩,λα H=>?_⟩;have φ:Ex w6 α:=H▸Ex.own (Ex.trans μ ε) (by omega) _;have s21:α.heap.size=V.heap.size:=by rw [H,M9]
   have d16:α.cell? ⟨b16,0,none⟩=some (.string (ax [])):=by rw [H];exact MI _ _ _ c16
   have d18:α.cell? ⟨b18,0,none⟩=some (.int .u32 0):=by rw [H,Mr _ _ _ _ (λe=>by injection e with e1 e2;omega)];exact c18
   refine⟨φ,⟨⟨_,d18⟩,by rw [H,MG];exact f18⟩,λG J=>?_⟩;have ζ:Ex w6 G:=J▸Ex.own φ (by omega) _;have s23:G.heap.size=α.heap.size:=by rw [J,M9]
   refine rest b16 b18 G ζ ?_ ?_ ?_ (by omega) (by omega) (by omega) (by omega) (by omega)
   ·rw [J,Mr _ _ _ _ (λe=>by injection e with e1 e2;omega)];exact d16
   ·rw [J];exact MI _ _ _ d18
   ·rw [J,MG,H,MG];exact f16
theorem Jl:∀n,Hz n
 | 0=>by
  intro G H;rcases H with⟨k,a,b,o,q,rfl,V⟩ | ⟨ps,rfl,J⟩<;>simp [Lv.sz]at G
 | n+1=>DF (vN (Jl n))
theorem KO (n:Nat):KC n:=vN (Jl n)
end Go.Proofs.YtdecokaadekjnaaGreat
namespace Go.Proofs.YtdecokaadekjnaaGreat
namespace Lv
def PNf:Lv->Prop
 | nil=>True
 | thr _ _ _ _ _ n=>n.PNf
 | sum ps n=>ps.PNf/\n.PNf
 | part o q n=>((∀x∈o,q.has x=true)/\q≠nil/\∀ps,q=sum ps nil->o≠[])/\n.PNf
theorem rh:∀{l m:Lv},(l.app m).PNf↔l.PNf/\m.PNf
 | nil,m=>by simp [app,PNf]
 | thr k a b o r n,m=>by simp only [app,PNf,rh (l:=n)]
 | sum ps n,m=>by simp only [app,PNf,rh (l:=n),OK]
 | part o q n,m=>by simp only [app,PNf,rh (l:=n),OK]
def vj:Lv->Prop
 | nil=>True
 | thr _ _ _ _ _ n=>n.vj
 | sum ps n=>(ps.PNf/\ps.vj)/\n.vj
 | part _ q n=>q.vj/\n.vj
theorem lG:∀{l m:Lv},(l.app m).vj↔l.vj/\m.vj
 | nil,m=>by simp [app,vj]
 | thr k a b o r n,m=>by simp only [app,vj,lG (l:=n)]
 | sum ps n,m=>by simp only [app,vj,lG (l:=n),OK]
 | part o q n,m=>by simp only [app,vj,lG (l:=n),OK]
theorem HM {ps:Lv}{n:List Nat×Lv}(h:ps.PNf/\ps.vj)(G:n.2.vj):(spl ps n).2.vj:=by
 unfold spl;split
 ·exact G
 ·exact lG.2 ⟨h.2.1,G⟩
 ·exact⟨h,G⟩
theorem JI {o:List Nat}{q n:Lv}(J:∀x∈o,q.has x=true)(h:q.vj)(G:n.PNf/\n.vj):(prt o q n).PNf/\(prt o q n).vj:=by
 unfold prt;split
 ·exact G
 ·rename_i ps;split
  ·exact⟨rh.2 ⟨h.1.1,G.1⟩,lG.2 ⟨h.1.2,G.2⟩⟩
  ·rename_i H;exact⟨⟨⟨J,by simp,λ _ _ e=>H (by rw [e];rfl)⟩,G.1⟩,h,G.2⟩
 ·rename_i W H V;exact⟨⟨⟨J,H,λps e=>(V ps e).elim⟩,G.1⟩,h,G.2⟩
theorem mU:∀(l:Lv),(l.sh true=true->(tid l).2.vj)/\(l.sh false=true->(tid l).2.PNf/\(tid l).2.vj)
 | nil=>⟨λ _=>trivial,λ _=>⟨trivial,trivial⟩⟩
 | thr k a b o r n=>by
  refine⟨λh=>?_,λh=>by simp [sh]at h⟩;simp only [sh,Mp]at h;have H:=(mU r).1 h.1;have G:=(mU n).1 h.2;have h4:(kept o (tid r)).2=(tid r).2:=rfl;simp only [tid];split
  ·exact lG.2 ⟨H,G⟩
  ·split
   ·exact G
   ·exact G
 | sum ps n=>by
  refine⟨λh=>?_,λh=>by simp [sh]at h⟩;simp only [sh,Mp]at h;simp only [tid];exact HM ((mU ps).2 h.1) ((mU n).1 h.2)
 | part o q n=>by
  refine⟨λh=>by simp [sh]at h,λh=>?_⟩;simp only [sh,Mp]at h;simp only [tid];exact JI (sZ o (tid q)) ((mU q).1 h.1) ((mU n).2 h.2)
theorem Hl {Z:Lv}(h:Z.PNf)(J:Z.sh false=true):prt (kept [] (spl Z ([],nil))).1 (kept [] (spl Z ([],nil))).2 nil=Z:=by
 unfold spl;split
 ·rfl
 ·rename_i o q;have e:(kept [] (o++(([],nil):List Nat×Lv).1,q.app (([],nil):List Nat×Lv).2))=(o,q):=by
   simp only [kept,MY,aX,Nk]
   congr 1
   exact OP.2 h.1.1
  rw [e];obtain⟨_,G,H⟩:=h.1;show prt o q nil=_;unfold prt;split
  ·exact absurd rfl G
  ·rw [MJ];intro e;exact H _ rfl (by simpa using e)
  ·rfl
 ·simp only [kept,MY,List.filter_nil,prt,List.isEmpty_nil,Ol,aX]
theorem IP {o:List Nat}{q:Lv}{Z:Lv}(h:Z≠nil)(n:List Nat×Lv):spl (part o q Z) n=(n.1,sum (part o q Z) n.2):=by
 cases Z with
 | nil=>exact absurd rfl h
 | _=>rfl
end Lv
open T in
theorem fg {u:U}(G:Uq u)(n:u.Nr)(H:u.th=true):Lv.tid (flat u).2=([],tl [u])/\(flat u).1=[]:=by
 cases u with
 | nil=>cases H
 | par p q=>cases H
 | res x p=>cases H
 | snd a b p=>exact⟨by simp only [flat,Lv.tid,tl];simp [td,Lv.tidy],rfl⟩
 | rcv a x p=>exact⟨by simp only [flat,Lv.tid,tl];simp [td,Lv.tidy],rfl⟩
 | tau p=>exact⟨by simp only [flat,Lv.tid,tl];simp [td,Lv.tidy],rfl⟩
 | mat a b p=>refine⟨?_,rfl⟩;rw [oN,MJ n.1.1,dy,n.1.2];rfl
 | rep p=>refine⟨?_,rfl⟩;rw [oC,dy,n.1];rfl
 | sum p q=>
  refine⟨?_,rfl⟩;rw [oD,(fJ p G.dP).2.2,(fJ q G.dz).2.2,<-tA];have J:=od n.1.1 G.dP;have V:=od n.1.2.1 G.dz;simp only [tl];cases W:ak p with
  | nil=>exact absurd W J
  | cons t l=>
   rw [Ns,tp,Lv.IP];intro Z;have :=Bb (l++ak q);rw [Z]at this;simp only [Lv.len,Mt]at this;exact V (MS (by omega))
open T in
theorem pR:∀{u:U},Uq u->u.Nr->Lv.tid (flat u).2=([],tl u.ths)/\(flat u).1=u.frL
 | .nil,_,_=>⟨rfl,rfl⟩
 | .res x p,G,n=>by
  obtain⟨H,J⟩:=pR G.res n.2;exact⟨H,by simp only [flat,frL,J]⟩
 | .par p q,G,n=>by
  obtain⟨H,J⟩:=fg G.fG n.2.1 n.1.1;obtain⟨V,h4⟩:=pR G.fv n.2.2;have h5:q.frL=[]:=by
   rcases n.1.2 with h | h
   ·exact ie h
   ·cases q<;>first | rfl | (cases h;done)
  refine⟨?_,by simp only [flat,frL,J,h4,h5,MY]⟩;simp only [flat];rw [Lv.cH _ _ (bW p),H,V];simp only [T.ths,MY];rw [show p::q.ths=[p]++q.ths from rfl,gA]
 | .snd a b p,G,n=>fg G n rfl
 | .rcv a b p,G,n=>fg G n rfl
 | .tau p,G,n=>fg G n rfl
 | .sum p q,G,n=>fg G n rfl
 | .mat a b p,G,n=>fg G n rfl
 | .rep p,G,n=>fg G n rfl
open T in
theorem Ky {u:U}(H:Uq u)(n:u.Nr):∀x∈u.frL,(td u).2.has x=true:=by
 induction u with
 | res y p J=>
  intro x G;rcases MH.1 G with rfl | G
  ·exact(fI p x H.fD).2 n.1
  ·exact J H.res n.2 x G
 | _=>intro x G;cases G
open T in
theorem iT {u:U}(G:Uq u)(n:u.Nr):td u=(u.frL,tl u.ths):=by
 obtain⟨H,V⟩:=pR G n;have J:=Ky G n;have e:(td u).2=tl u.ths:=by rw [qB,H]
 rw [e]at J;show Lv.kept (flat u).1 (Lv.tid (flat u).2)=_;rw [H,V];simp only [Lv.kept,MY]
 congr 1
 exact OP.2 J
theorem cE:∀u:U,(flat u).2.sh true=true
 | .nil=>rfl
 | .snd a b p=>by simp only [flat,Lv.sh,cE p,NS]
 | .rcv a b p=>by simp only [flat,Lv.sh,cE p,NS]
 | .tau p=>by simp only [flat,Lv.sh,cE p,NS]
 | .mat a b p=>by simp only [flat,Lv.sh,cE p,NS]
 | .rep p=>by simp only [flat,Lv.sh,cE p,NS]
 | .res x p=>cE p
 | .par p q=>by simp only [flat];exact Lv.gB (cE p) (cE q)
 | .sum p q=>by simp only [flat,Lv.sh,cE p,cE q,NS]
theorem B8 (u:U):(td u).2.sh true=true:=Lv.dB _ _ (cE u)
theorem ig (f:Nat->Nat):∀(l:Lv) (b:Bool),(l.map f).sh b=l.sh b
 | .nil,_=>by simp [Lv.map,Lv.sh]
 | .thr k a b o r n,c=>by cases c<;>simp only [Lv.map,Lv.sh,ig f r,ig f n]
 | .sum ps n,c=>by cases c<;>simp only [Lv.map,Lv.sh,ig f ps,ig f n]
 | .part o q n,c=>by cases c<;>simp only [Lv.map,Lv.sh,ig f q,ig f n]
theorem oF (o:List Nat)(q n:Lv):(Lv.tid (.part o q n)).2=Lv.prt (Lv.kept o (Lv.tid q)).1 (Lv.kept o (Lv.tid q)).2 (Lv.tid n).2:=rfl
open T in
theorem gd (f:Nat->Nat):∀(n:Nat) {u:U},u.size<=n->Uq u->u.Nr->
  Lv.tid ((td u).2.map f)=Lv.tid ((flat u).2.map f)/\(u.dead=false->(Lv.tid ((tp u.lD).map f)).2=Lv.prt (Lv.kept ((flat u).1.map f) (Lv.tid ((flat u).2.map f))).1 (Lv.kept ((flat u).1.map f) (Lv.tid ((flat u).2.map f))).2 .nil)
 | 0,u,h,_,_=>by cases u<;>simp [T.size]at h
 | k+1,u,h,G,n=>by
  have ih:∀p:U,p.size<=k->Uq p->p.Nr->Lv.kept ((td p).1.map f) (Lv.tid ((td p).2.map f))=Lv.kept ((flat p).1.map f) (Lv.tid ((flat p).2.map f)):=λp J G n=>by
   rw [(gd f k J G n).1,iT G n,(pR G n).2]
  have key:∀(W:K) (a b:Nat) (p:U),p.size<=k->Uq p->p.Nr->Lv.tid ((Lv.thr W a b (td p).1 (td p).2 .nil).map f)=Lv.tid ((Lv.thr W a b (flat p).1 (flat p).2 .nil).map f):=λW a b p J G n=>by
   simp only [Lv.map,Lv.tid,ih p J G n]
  have one:Lv.tid ((td u).2.map f)=Lv.tid ((flat u).2.map f)->u.isS=false->(Lv.tid ((tp u.lD).map f)).2=Lv.prt (Lv.kept ((flat u).1.map f) (Lv.tid ((flat u).2.map f))).1 (Lv.kept ((flat u).1.map f) (Lv.tid ((flat u).2.map f))).2 .nil:=λe Z=>by
   rw [fS Z,tp];simp only [Lv.map,tp];rw [oF,e,iT G n,(pR G n).2];rfl
  have H:u.th=true->(td u).2=tl [u]:=λht=>by rw [qB,(fg G n ht).1]
  cases u with
  | nil=>exact⟨rfl,λh=>by cases h⟩
  | snd a b p=>
   have e:Lv.tid ((td (.snd a b p)).2.map f)=Lv.tid ((flat (.snd a b p)).2.map f):=by rw [H rfl];exact key .s a b p (by simp only [T.size]at h;omega) G.snd n
   exact⟨e,λ _=>one e rfl⟩
  | rcv a b p=>
   have e:Lv.tid ((td (.rcv a b p)).2.map f)=Lv.tid ((flat (.rcv a b p)).2.map f):=by rw [H rfl];exact key .r a b p (by simp only [T.size]at h;omega) G.rcv n
   exact⟨e,λ _=>one e rfl⟩
  | tau p=>
   have e:Lv.tid ((td (.tau p)).2.map f)=Lv.tid ((flat (.tau p)).2.map f):=by rw [H rfl];exact key .t 0 0 p (by simp only [T.size]at h;omega) G.tau n
   exact⟨e,λ _=>one e rfl⟩
  | mat a b p=>
   have e:Lv.tid ((td (.mat a b p)).2.map f)=Lv.tid ((flat (.mat a b p)).2.map f):=by rw [H rfl];exact key .m a b p (by simp only [T.size]at h;omega) G.mat n.2
   exact⟨e,λ _=>one e rfl⟩
  | rep p=>
   have e:Lv.tid ((td (.rep p)).2.map f)=Lv.tid ((flat (.rep p)).2.map f):=by rw [H rfl];exact key .p 0 0 p (by simp only [T.size]at h;omega) G.rep n.2
   exact⟨e,λ _=>one e rfl⟩
  | res x p=>
   have e:Lv.tid ((td (.res x p)).2.map f)=Lv.tid ((flat (.res x p)).2.map f):=(gd f k (by simp only [T.size]at h;omega) G.res n.2).1;exact⟨e,λ _=>one e rfl⟩
  | par p q=>
   simp only [T.size]at h;have e:Lv.tid ((td (.par p q)).2.map f)=Lv.tid ((flat (.par p q)).2.map f):=by
    have h1:=(gd f k (by omega) G.fG n.2.1).1;have h2:=(gd f k (by omega) G.fv n.2.2).1;have e:(td (.par p q)).2=(td p).2.app (td q).2:=by simp only [qB,flat,Lv.cH _ _ (bW p)]
    rw [e];simp only [flat,Lv.eV];rw [Lv.cH _ _ (Lv.lz (by rw [ig];exact B8 p)),Lv.cH _ _ (Lv.lz (by rw [ig];exact cE p)),h1,h2]
   exact⟨e,λ _=>one e rfl⟩
  | sum p q=>
   simp only [T.size]at h;have Z:tl [T.sum p q]= .sum (tp (p::q.lD)) .nil:=by
    simp only [tl];rw [ee G.dP n.2.1 n.1.1,ee G.dz n.2.2 n.1.2.1,fS n.1.2.2];rfl
   have hz:(Lv.tid ((tp (p::q.lD)).map f)).2=(Lv.tid ((Lv.part (flat p).1 (flat p).2 (.part (flat q).1 (flat q).2 .nil)).map f)).2:=by
    rw [tp];simp only [Lv.map];rw [oF,oF,oF,ih p (by omega) G.dP n.2.1,(gd f k (by omega) G.dz n.2.2).2 n.1.2.1];rfl
   have e:Lv.tid ((td (.sum p q)).2.map f)=Lv.tid ((flat (.sum p q)).2.map f):=by
    rw [H rfl,Z];simp only [flat,Lv.map,Lv.tid];rw [hz];simp only [Lv.map];rfl
   refine⟨e,λ _=>?_⟩;have V:((Lv.part (flat p).1 (flat p).2 (.part (flat q).1 (flat q).2 .nil)).map f).sh false=true:=by rw [ig];simp only [Lv.sh,cE,NS]
   show(Lv.tid ((tp (p::q.lD)).map f)).2=_;rw [hz];have J:=(Lv.mU ((Lv.part (flat p).1 (flat p).2 (.part (flat q).1 (flat q).2 .nil)).map f)).2 V;have :=Lv.Hl J.1 (Lv.dB _ _ V);simp only [flat,Lv.map,Oq,Lv.tid]at this|-;exact this.symm
structure Pc (x:List Nat×Lv)(t:U):Prop where
 own:x.1=(flat t).1
 sh:x.2.sh true=true
 tid:Lv.tid x.2=Lv.tid (flat t).2
def joinL:List (List Nat×Lv)->List Nat×Lv
 | []=>([],.nil)
 | x::l=>(x.1++(joinL l).1,x.2.app (joinL l).2)
theorem px:∀l m:List (List Nat×Lv),joinL (l++m)=((joinL l).1++(joinL m).1,(joinL l).2.app (joinL m).2)
 | [],m=>rfl
 | x::l,m=>by simp only [Ns,joinL,px l m,M8,Lv.ch]
theorem o7 (x:List Nat×Lv):joinL [x]=x:=by simp only [joinL,MY,Lv.aX]
theorem lX:∀l:List U,flat (T.parL l)=joinL (l.map flat)
 | []=>rfl
 | [t]=>by simp only [T.parL,MV,Oq,o7]
 | t::u::l=>by
  have :=lX (u::l);simp only [T.parL,flat,this,MV,joinL]
theorem pY (p:U):∀o:List Nat,flat (T.resL o p)=(o++(flat p).1,(flat p).2)
 | []=>rfl
 | x::o=>by simp only [T.resL,flat,pY p o,Ns]
theorem Pc.join:∀{zs:List ((List Nat×Lv)×U)},(∀z∈zs,Pc z.1 z.2)->Pc (joinL (zs.map (·.1))) (T.parL (zs.map (·.2)))
 | [],_=>⟨rfl,rfl,rfl⟩
 | z::zs,h=>by
  have G:=h z (by simp);have H:=Pc.join (zs:=zs) λy V=>h y (by simp [V])
  have e:flat (T.parL ((z::zs).map (·.2)))=joinL ((z::zs).map (λy=>flat y.2)):=by rw [lX,Od];rfl
  have J:flat (T.parL (zs.map (·.2)))=joinL (zs.map (λy=>flat y.2)):=by rw [lX,Od];rfl
  refine⟨?_,?_,?_⟩
  ·rw [e];simp only [MV,joinL];rw [G.own,H.own,J]
  ·simp only [MV,joinL];exact Lv.gB G.sh H.sh
  ·rw [e];simp only [MV,joinL];rw [Lv.cH _ _ (Lv.lz G.sh),Lv.cH _ _ (bW z.2),G.tid,H.tid,J]
theorem yX {own:List Nat}{x:List Nat×Lv}{t:U}(h:Pc x t):Lv.tidy (own++x.1) x.2=td (T.resL own t):=by
 show _=Lv.tidy (flat (T.resL own t)).1 (flat (T.resL own t)).2;rw [pY];simp only [Lv.tidy,h.own,h.tid]
theorem Pc.map (f:Nat->Nat){q:U}(G:Uq q)(n:q.Nr):Pc (Lv.dR f (td q)) (q.map f):=by
 have h:=(gd f _ (Mu _) G n).1;refine⟨?_,by rw [ig];exact B8 q,?_⟩
 ·rw [ct,iT G n];show(T.frL q).map f=((flat q).1).map f;rw [(pR G n).2]
 ·rw [ct];exact h
theorem map_id:∀l:Lv,l.map id=l
 | .nil=>rfl
 | .thr k a b o r n=>by simp only [Lv.map,map_id r,map_id n,List.map_id,id,ite_self]
 | .sum ps n=>by simp only [Lv.map,map_id ps,map_id n]
 | .part o q n=>by simp only [Lv.map,map_id q,map_id n,List.map_id]
theorem dX:∀u:U,u.map id=u
 | .nil=>rfl
 | .snd a b p=>by simp only [T.map,dX p,id]
 | .rcv a b p=>by simp only [T.map,dX p,id]
 | .tau p=>by simp only [T.map,dX p]
 | .sum p q=>by simp only [T.map,dX p,dX q]
 | .par p q=>by simp only [T.map,dX p,dX q]
 | .res x p=>by simp only [T.map,dX p,id]
 | .mat a b p=>by simp only [T.map,dX p,id]
 | .rep p=>by simp only [T.map,dX p]
theorem Pc.nr {q:U}(G:Uq q)(n:q.Nr):Pc (td q) q:=by
 have h:=Pc.map id G n;rw [dX]at h;have e:Lv.dR id (td q)=td q:=by simp only [Lv.dR,map_id,List.map_id]
 rwa [e]at h
structure yy (l m:Lv):Prop where
 s:∀ρ tk,(thS l ρ tk).Perm (thS m ρ tk)
 bad:∀tk,thBad l tk=thBad m tk
 all:thAll l=thAll m
 most:an l=an m
 has:∀x,l.has x=m.has x
 nil:l.isNil=m.isNil
theorem yy.refl (l:Lv):yy l l:=⟨λ _ _=>NA _,λ _=>rfl,rfl,rfl,λ _=>rfl,rfl⟩
theorem yy.trans {a b c:Lv}(h:yy a b)(k:yy b c):yy a c:=⟨λρ tk=>(h.s ρ tk).trans (k.s ρ tk),λtk=>(h.bad tk).trans (k.bad tk),h.all.trans k.all,h.most.trans k.most,λx=>(h.has x).trans (k.has x),h.nil.trans k.nil⟩
theorem lq (l m:Lv):(l.app m).isNil=(l.isNil&&m.isNil):=by cases l<;>simp [Lv.app,Lv.isNil]
theorem yy.app {a b c d:Lv}(h:yy a b)(k:yy c d):yy (a.app c) (b.app d):=
 ⟨λρ tk=>by rw [fU,fU];exact(h.s ρ tk).append (k.s ρ tk),λtk=>by rw [cM,cM,h.bad,k.bad],by rw [bT,bT,h.all,k.all],by rw [bY,bY,h.most,k.most],λx=>by rw [Lv.cS,Lv.cS,h.has,k.has],by rw [lq,lq,h.nil,k.nil]⟩
theorem yy.comm (a b:Lv):yy (a.app b) (b.app a):=
 ⟨λρ tk=>by rw [fU,fU];exact OA,λtk=>by rw [cM,cM,Bool.or_comm],by rw [bT,bT];omega,by rw [bY,bY];omega,λx=>by rw [Lv.cS,Lv.cS,Bool.or_comm],by rw [lq,lq,Bool.and_comm]⟩
theorem F8 {r r':List Nat×Lv}(h:r.1.Perm r'.1)(k:yy r.2 r'.2):Bj r=Bj r':=by
 have G:kX r.2=kX r'.2:=by funext c;unfold kX;rw [k.has]
 have H:aR r.1 (thS r.2) ρ0 (kX r.2)=aR r'.1 (thS r'.2) ρ0 (kX r'.2):=by rw [G];exact lf h k.s _ _
 have J:fk r.1.length r.2.isNil (thBad r.2) (kX r.2)=fk r'.1.length r'.2.isNil (thBad r'.2) (kX r'.2):=by
  rw [G,h.length_eq,k.nil,show thBad r.2=thBad r'.2 from funext k.bad]
 unfold Bj;rw [H,J,h.length_eq,k.most,k.all]
theorem zu:∀ts:List U,Lv.tid (joinL (ts.map flat)).2=joinL (ts.map λt=>Lv.tid (flat t).2)
 | []=>rfl
 | t::ts=>by simp only [MV,joinL,Lv.cH _ _ (bW t),zu ts]
theorem vQ {l m:List (List Nat×Lv)}(h:l.Perm m):(joinL l).1.Perm (joinL m).1/\yy (joinL l).2 (joinL m).2:=by
 induction h with
 | nil=>exact⟨NA _,yy.refl _⟩
 | cons x _ J=>exact⟨(NA _).append J.1,(yy.refl _).app J.2⟩
 | swap x y l=>
  simp only [joinL];refine⟨?_,?_⟩
  ·rw [<-M8,<-M8];exact OA.append (NA _)
  ·rw [<-Lv.ch,<-Lv.ch];exact(yy.comm _ _).app (yy.refl _)
 | trans _ _ G H=>exact⟨G.1.trans H.1,G.2.trans H.2⟩
theorem Fx {own:List Nat}{ts G:List U}(h:ts.Perm G):jP (T.resL own (T.parL ts))=jP (T.resL own (T.parL G)):=by
 unfold jP;have e:∀ts:List U,td (T.resL own (T.parL ts))=Lv.kept (own++(joinL (ts.map flat)).1) (joinL (ts.map λt=>Lv.tid (flat t).2)):=λts=>by
  show Lv.tidy (flat _).1 (flat _).2=_;rw [pY,lX];simp only [Lv.tidy,zu]
 rw [e,e];have J:=vQ (h.map flat);have H:=vQ (h.map λt=>Lv.tid (flat t).2);refine F8 ?_ H.2;simp only [Lv.kept];rw [show(λx=>(joinL (ts.map λt=>Lv.tid (flat t).2)).2.has x)=λx=>(joinL (G.map λt=>Lv.tid (flat t).2)).2.has x from funext H.2.has];exact(((NA _).append J.1).append H.1).filter _
end Go.Proofs.YtdecokaadekjnaaGreat
namespace Go.Proofs.YtdecokaadekjnaaGreat
open Go Go.RowKit
def ρN:Rh:=λx=>if x< 26 then UInt8.ofNat (97+x)else 0
theorem LF:LI (dj []) ρN:=λx=>by
 unfold ρN;refine⟨?_,λh=>MZ h,λh=> .inr ⟨rfl,MJ (by omega)⟩⟩;split
 ·rename_i h;revert h;revert x;decide+kernel
 ·decide
theorem H8 {x:Nat}(h:x< 26):uT 1 x=qU (UInt8.ofNat (97+x))/\lt (UInt8.ofNat (97+x))=true/\e0 (UInt8.ofNat (97+x))=x:=by
 have G:lt (UInt8.ofNat (97+x))=true:=by revert x;decide+kernel
 have H:(UInt8.ofNat (97+x)).toNat=97+x:=by rw [NB];omega
 refine⟨?_,G,by unfold e0;rw [H];omega⟩;unfold qU;rw [gi G,H,show 97+x - 97=x by omega]
def Eo (l:Lv)(i:Nat):Tk:=λc=>lt c&&(decide (c.toNat - 97< i)&&l.has (e0 c))
theorem Gb (l:Lv)(c:UInt8):Eo l 0 c=false:=by simp [Eo]
theorem Hn (l:Lv):Eo l 26=kX l:=by
 funext c
 unfold Eo kX;cases h:lt c
 ·rfl
 ·have :=bg h;simp [show c.toNat - 97< 26 by omega]
theorem tC.congr {x:UInt32}{tk tk':Tk}(h:tC x tk)(e:∀c,lt c=true->tk c=tk' c):tC x tk':=λc G=>by rw [h c G,e c G]
theorem KX {w:World}{n r:Nat}{ρ:Rh}{tk tk':Tk}{bad:Bool}(h:Nm w n r ρ tk bad)(e:∀c,lt c=true->tk c=tk' c):Nm w n r ρ tk' bad:=by
 obtain⟨x,G,H⟩:=h.c1;exact⟨h.lt,h.lr,h.ne,h.c0,h.mp,⟨x,G,H.congr e⟩,h.c2,h.f⟩
theorem Ar {l:Lv}{i:Nat}(hi:i< 26)(c:UInt8)(H:lt c=true):(l.has i=true->cu (Eo l i) (UInt8.ofNat (97+i)) c=Eo l (i+1) c)/\(l.has i=false->Eo l i c=Eo l (i+1) c):=by
 have W:=bg H;have V:(UInt8.ofNat (97+i)).toNat=97+i:=by rw [NB];omega
 have he:e0 c=c.toNat - 97:=rfl;unfold cu Eo;rw [H,he];by_cases h:c.toNat - 97=i
 ·have e:c=UInt8.ofNat (97+i):=MQ.1 (by omega);rw [h];constructor
  ·intro G;have hb:(c==UInt8.ofNat (97+i))=true:=by rw [e];exact beq_self_eq_true _
   rw [hb,G];simp
  ·intro G;simp [G]
 ·have e:c≠UInt8.ofNat (97+i):=λe=>h (by rw [e,V];omega)
  have J:decide (c.toNat - 97< i)=decide (c.toNat - 97< i+1):=by
   rw [OX];omega
  constructor
  ·intro _;rw [show(c==UInt8.ofNat (97+i))=false by simpa using e,J];simp
  ·intro _;rw [J]
end Go.Proofs.YtdecokaadekjnaaGreat
