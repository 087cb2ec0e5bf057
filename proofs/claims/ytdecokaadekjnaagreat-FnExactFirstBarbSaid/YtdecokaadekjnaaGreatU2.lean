/- Part 2 of a proof of what the last text states; no condition. -/
import Derived.Test.YtdecokaadekjnaaGreatU1
namespace Go.Proofs.YtdecokaadekjnaaGreat
open Go Go.RowKit
theorem fy {s t:Tx}(V:ib s)(ht:t.length<=1099511627776){w:World}{R:ay->World->Prop}(h:∀z w',Ex w w'->ib z->(∀x,x∈z↔x∈s\/x∈t)->R z w'):
  Calls Tryz.prog 104 #[.string (ab s),.string (ab t)] w (ax [.s] R):=by
 refine sC s t w R ?_;refine⟨λout i w'=>Ex w w'/\0<=i/\i<=t.length/\ib out/\∀x,x∈out↔x∈s\/x∈t.take i.toNat,λ _ i _=>((t.length:Int) - i).toNat,⟨Ex.refl w,by omega,by omega,V,by simp⟩,λout i w1 W=>?_⟩;obtain⟨J,Z,h1,h2,G⟩:=W;refine⟨λhc=>?_,λhc=>?_⟩
 ·simp only [J4]at hc;refine⟨by omega,fu h2 λz w' H I hm=>⟨by unfold aj;omega,⟨J.trans H,by omega,by omega,I,λx=>?_⟩,by dsimp only;omega⟩⟩;rw [hm,G,gi Z hc,List.mem_append,List.mem_singleton];constructor
  ·rintro(h | h | h)
   ·exact .inr (.inr h)
   ·exact .inl h
   ·exact .inr (.inl h)
  ·rintro(h | h | h)
   ·exact .inr (.inl h)
   ·exact .inr (.inr h)
   ·exact .inl h
 ·simp only [J6]at hc;have:i.toNat=t.length:=by omega
  rw [this,KA]at G;exact h out w1 J h2 G
def sD (s:Tx)(c:UInt8):Prop:=
 uj (λd=>decide (d∈s))=some c\/
 (uj (λd=>decide (d∈s))=none/\128<=c/\c<=191/\(∀d:UInt8,128<=d->d< c->d∈s)/\(c∉s\/c=191))
theorem sQ (i:Nat)(h:i< iO.length):iO[i]=UInt8.ofNat (97+i):=by
 simp [iO]
theorem rZ {f:UInt8->Bool}{c:UInt8}(z:97<=c)(h2:c<=122)(G:f c=true)(H:∀d:UInt8,97<=d->d< c->f d=false):iO.find? f=some c:=by
 have I:97<=c.toNat:=Kl.1 z;have J:c.toNat<=122:=Kl.1 h2;have V:iO.length=26:=by simp [iO]
 rw [List.find?_eq_some_iff_getElem];refine⟨G,c.toNat - 97,by omega,?_,λj W=>?_⟩
 ·rw [sQ];apply Ky.1;rw [K2];omega
 ·rw [sQ];have e:(UInt8.ofNat (97+j)).toNat=97+j:=by rw [K2];omega
  rw [H _ (Kl.2 (by rw [e];show 97<=_;omega)) (KI.2 (by omega))];rfl
theorem uF {f:UInt8->Bool}(z:∀d:UInt8,97<=d->d<=122->f d=false):iO.find? f=none:=by
 rw [Ny];intro d hd;have G:iO.length=26:=by simp [iO]
 obtain⟨j,H,rfl⟩:=KY.1 hd;rw [sQ];have e:(UInt8.ofNat (97+j)).toNat=97+j:=by rw [K2];omega
 rw [z _ (Kl.2 (by rw [e];show 97<=_;omega)) (Kl.2 (by rw [e];show _<=122;omega))];simp
theorem jr {s:Tx}(hs:s.length<=1099511627776){w:World}{R:UInt8->World->Prop}(h:∀c,sD s c->R c w):Calls Tryz.prog 75 #[.string (ab s)] w (ax [.c] R):=by
 refine re s w R ?_;refine⟨λc w'=>w=w'/\97<=c/\c<=123/\∀d:UInt8,97<=d->d< c->d∈s,λc _=>200 - c.toNat,⟨rfl,by decide,by decide,λd W h2=>absurd (UInt8.lt_of_le_of_lt W h2) (MV _)⟩,λc w1 hI=>?_⟩;obtain⟨rfl,h0,W,h2⟩:=hI;have δ:=Kl.1 h0;have ε:=Kl.1 W;refine⟨λhc=>eH hs ?_,λhc=>?_⟩
 ·simp only [J4]at hc;have V:=Kl.1 hc;refine⟨λhm=>?_,λhm=>?_⟩
  ·simp only [L0,J6]at hm;refine h c (.inl (rZ h0 hc (by simpa using hm) λd z G=>by simpa using h2 d z G))
  ·simp only [Bool.not_eq_false',J4]at hm;have e:(c+1).toNat=c.toNat+1:=by rw [MB];show(c.toNat+1) % 256=_;exact Ng (by have:(122:UInt8).toNat=122:=rfl;omega)
   have Z:(122:UInt8).toNat=122:=rfl;have β:(123:UInt8).toNat=123:=rfl;have ζ:(97:UInt8).toNat=97:=rfl;refine⟨⟨rfl,Kl.2 (by omega),Kl.2 (by omega),λd z G=>?_⟩,by dsimp only;omega⟩;have J:=KI.1 G;by_cases H:d=c
   ·rw [H];exact hm
   ·refine h2 d z (KI.2 ?_);have:d.toNat≠c.toNat:=λe=>H (Ky.1 e)
    omega
 ·simp only [J6]at hc;have V:¬c.toNat<=122:=λhh=>hc (Kl.2 hh)
  have I:uj (λd=>decide (d∈s))=none:=by
   refine uF λd z G=>?_
   have J:=Kl.1 G;have Z:(122:UInt8).toNat=122:=rfl;simpa using h2 d z (KI.2 (by omega))
  refine⟨λc w'=>w=w'/\128<=c/\c<=191/\∀d:UInt8,128<=d->d< c->d∈s,λc _=>200 - c.toNat,⟨rfl,by decide,by decide,λd W h2=>absurd (UInt8.lt_of_le_of_lt W h2) (MV _)⟩,λc w1 hI=>?_⟩;obtain⟨rfl,k0,k1,k2⟩:=hI;have η:=Kl.1 k0;have θ:=Kl.1 k1;refine⟨λhc=>eH hs ?_,λhc=>?_⟩
  ·simp only [J4]at hc;have V:=KI.1 hc;have α:(191:UInt8).toNat=191:=rfl;have γ:(128:UInt8).toNat=128:=rfl;refine⟨λhm=>?_,λhm=>?_⟩
   ·simp only [J4]at hm;have e:(c+1).toNat=c.toNat+1:=by rw [MB];show(c.toNat+1) % 256=_;exact Ng (by omega)
    refine⟨⟨rfl,Kl.2 (by omega),Kl.2 (by omega),λd z G=>?_⟩,by dsimp only;omega⟩;have J:=KI.1 G;by_cases H:d=c
    ·rw [H];exact hm
    ·refine k2 d z (KI.2 ?_);have:d.toNat≠c.toNat:=λe=>H (Ky.1 e)
     omega
   ·simp only [J6]at hm;exact h c (.inr ⟨I,k0,k1,k2,.inl hm⟩)
  ·simp only [J6]at hc;have V:¬c.toNat< 191:=λhh=>hc (KI.2 hh)
   have α:(191:UInt8).toNat=191:=rfl;exact h c (.inr ⟨I,k0,k1,k2,.inr (Ky.1 (by omega))⟩)
theorem a8 (t:P):t.size=1+(t.parts.map T.size).sum:=by
 cases t<;>simp [T.size,T.parts]<;>omega
theorem xW (l:List P)(k:Nat):((l.take k).map T.size).sum<=(l.map T.size).sum:=by
 conv=>rhs;rw [<-Li k l]
 rw [K3,Nw];omega
theorem dX (t:P):t.parts.length<=2:=by cases t<;>simp [T.parts]
theorem dV {t p:P}(h:p∈t.parts):p.size< t.size:=by
 cases t<;>simp only [T.parts,Ks,LY,Mq,List.mem_nil_iff]at h<;>simp only [T.size]
 all_goals first | exact h.elim | (rcases h with rfl | rfl<;>omega) | (subst h;omega)
theorem CK:∀(n:Nat) {t:P},t.size<=n->Ok t->∀{w:World} {R:Int->World->Prop},(∀w',Ex w w'->R (t.size:Int) w')->Calls Tryz.prog 111 #[.string (ab t.text)] w (ax [.i] R):=by
 intro n
 induction n with
 | zero=>intro t h;have :=a8 t;omega
 | succ n ih=>
  intro t hn ok w R h;refine tJ _ w R ?_;refine db ok λv w1 hx V=>?_
  obtain⟨a,cap,W⟩:=V.slice;rw [Kz]at W;have α:=bD t;have hle:=ok.len;refine⟨a,t.parts.length,cap,W,λm x w'=>Ex w w'/\Strs w' v (t.parts.map T.text)/\∃k:Nat,x=k/\k<=t.parts.length/\m=1+(((t.parts.take k).map T.size).sum:Int),λ _ x _=>((t.parts.length:Int) - x).toNat,
   ⟨hx,V,0,rfl,by omega,by simp⟩,λm x w2 hI=>?_⟩
  obtain⟨G,H,k,rfl,hk,rfl⟩:=hI;refine⟨λhc=>?_,λhc=>?_⟩
  ·have z:k< t.parts.length:=by simpa using hc
   obtain⟨b,o,cp,Z,e2,e3⟩:=H.at (i:=k) (by rw [Kz];exact z);rw [Kz]at Z;refine⟨b,o,t.parts.length,cp,Z,by omega,by omega,(t.parts[k]).text,?_,?_⟩
   ·rw [J9,KK,e3,Nf]
   ·have hm:t.parts[k]∈t.parts:=Kg z;refine ih (by have :=dV hm;omega) (ok.parts _ hm) λw3 I=>?_
    have J:((t.parts.take (k+1)).map T.size).sum=((t.parts.take k).map T.size).sum+(t.parts[k]).size:=by
     rw [J8 z,K3,Nw];simp
    have h1:=xW t.parts (k+1);have h2:=a8 t;have h3:=dX t;refine⟨by unfold aj;omega,by unfold aj;omega,⟨G.trans I,H.ex I,k+1,by omega,z,by rw [J];omega⟩,by dsimp only;omega⟩
  ·have z:k=t.parts.length:=by simp at hc;omega
   subst z;have e:=a8 t;rw [KA];have:(1:Int)+((t.parts.map T.size).sum:Int)=(t.size:Int):=by omega
   rw [this];exact h _ G
def dK (c:UInt8):Bool:= !((65<=c&&c<=90)||128<=c)
theorem BH {p:Tx}(W:p.length<=1099511627776){w:World}{R:Bool->World->Prop}(h:R (p.all dK) w):Calls Tryz.prog 109 #[.string (ab p)] w (ax [.b] R):=by
 refine ry p w R ?_;refine⟨λi w'=>w=w'/\0<=i/\i<=p.length/\∀j:Nat,j< i->dK (bt p j)=true,λi _=>((p.length:Int) - i).toNat,⟨rfl,by omega,by omega,λj G=>by omega⟩,λi w1 H=>?_⟩;obtain⟨rfl,Z,h1,h2⟩:=H;have bad:i< p.length->dK (bt p i.toNat)=false->R false w:=λI hb=>by
  have:p.all dK=false:=by
   rw [List.all_eq_false];exact⟨bt p i.toNat,lB (by omega),by simp [hb]⟩
  rw [this]at h;exact h
 have next:i< p.length->dK (bt p i.toNat)=true->aj (i+1)/\(w=w/\0<=i+1/\i+1<=p.length/\∀j:Nat,j< i+1->dK (bt p j)=true)/\((p.length:Int) - (i+1)).toNat< ((p.length:Int) - i).toNat:=λI hb=>by
  refine⟨by unfold aj;omega,⟨rfl,by omega,by omega,λj G=>?_⟩,by omega⟩;rcases LF j i.toNat with z | z
  ·exact h2 j (by omega)
  ·have:j=i.toNat:=by omega
   rw [this];exact hb
 refine⟨λhc=>?_,λhc=>?_⟩
 ·simp only [J4]at hc;refine⟨by omega,λJ=>⟨by omega,λa2=>⟨by omega,λa3=>bad hc ?_,λa3=>next hc ?_⟩,λa2=>bad hc ?_⟩,λJ=>⟨by omega,λa3=>bad hc ?_,λa3=>next hc ?_⟩⟩<;>
   simp_all [dK]
 ·simp only [J6]at hc;have:p.all dK=true:=by
   rw [LW];intro x V;obtain⟨j,G,rfl⟩:=zj V;exact h2 j (by omega)
  rw [this]at h;exact h
def T.lw:P->Bool
 | .nil=>true | .snd a b p=>lt a&&lt b&&p.lw | .rcv a b p=>lt a&&lt b&&p.lw | .tau p=>p.lw | .sum p q=>p.lw&&q.lw
 | .par p q=>p.lw&&q.lw | .res x p=>lt x&&p.lw | .mat a b p=>lt a&&lt b&&p.lw | .rep p=>p.lw
theorem gR {c:UInt8}(h:lt c=true):nm c=true/\dK c=true:=by
 simp only [lt,J3,J4]at h;have I:=Kl.1 h.1;have h2:=Kl.1 h.2;refine⟨by simp [nm,h.1,h.2],?_⟩;have H:(97:UInt8).toNat=97:=rfl;have G:(122:UInt8).toNat=122:=rfl;simp only [dK,L0,Ls,Bool.and_eq_false_iff,J6];refine⟨.inr λz=>?_,λz=>?_⟩
 ·have :=Kl.1 z;have e:(90:UInt8).toNat=90:=rfl;omega
 ·have :=Kl.1 z;have e:(128:UInt8).toNat=128:=rfl;omega
theorem tH {c:UInt8}(h:nm c=true)(k:dK c=true):lt c=true:=by
 simp only [nm,lt,dK,Lm,J3,J4,L0,Ls,Bool.and_eq_false_iff,J6]at*;rcases h with(h | h) | h
 ·exact h
 ·exact absurd h (by rcases k.1 with k | k<;>simp [k])
 ·exact absurd h k.2
theorem iY:∀{t:P},t.lw=true->t.wf=true/\t.text.all dK=true
 | .nil,_=>⟨rfl,rfl⟩
 | .snd a b p,h=>by
  simp only [T.lw,J3]at h;have :=iY h.2;simp [T.wf,T.text,(gR h.1.1).1,(gR h.1.1).2,(gR h.1.2).1,(gR h.1.2).2,this.1,this.2];decide
 | .rcv a b p,h=>by
  simp only [T.lw,J3]at h;have :=iY h.2;simp [T.wf,T.text,(gR h.1.1).1,(gR h.1.1).2,(gR h.1.2).1,(gR h.1.2).2,this.1,this.2];decide
 | .mat a b p,h=>by
  simp only [T.lw,J3]at h;have :=iY h.2;simp [T.wf,T.text,(gR h.1.1).1,(gR h.1.1).2,(gR h.1.2).1,(gR h.1.2).2,this.1,this.2];decide
 | .res x p,h=>by
  simp only [T.lw,J3]at h;have :=iY h.2;simp [T.wf,T.text,(gR h.1).1,(gR h.1).2,this.1,this.2];decide
 | .tau p,h=>by have :=iY (t:=p) h;simp [T.wf,T.text,this.1,this.2];decide
 | .rep p,h=>by have :=iY (t:=p) h;simp [T.wf,T.text,this.1,this.2];decide
 | .sum p q,h=>by
  simp only [T.lw,J3]at h;have z:=iY h.1;have h2:=iY h.2;simp [T.wf,T.text,z.1,z.2,h2.1,h2.2];decide
 | .par p q,h=>by
  simp only [T.lw,J3]at h;have z:=iY h.1;have h2:=iY h.2;simp [T.wf,T.text,z.1,z.2,h2.1,h2.2];decide
theorem lD:∀{t:P},t.wf=true->t.text.all dK=true->t.lw=true
 | .nil,_,_=>rfl
 | .snd a b p,h,k=>by
  simp only [T.wf,T.text,J3,Lg]at h k;simp [T.lw,tH h.1.1 k.1,tH h.1.2 k.2.2.1,lD h.2 k.2.2.2.2]
 | .rcv a b p,h,k=>by
  simp only [T.wf,T.text,J3,Lg]at h k;simp [T.lw,tH h.1.1 k.1,tH h.1.2 k.2.2.1,lD h.2 k.2.2.2.2]
 | .mat a b p,h,k=>by
  simp only [T.wf,T.text,J3,Lg]at h k;simp [T.lw,tH h.1.1 k.2.1,tH h.1.2 k.2.2.2.1,lD h.2 k.2.2.2.2.2]
 | .res x p,h,k=>by
  simp only [T.wf,T.text,J3,Lg]at h k;simp [T.lw,tH h.1 k.2.1,lD h.2 k.2.2.2]
 | .tau p,h,k=>by simp only [T.text,J3,Lg]at k;exact lD (t:=p) h k.2.2
 | .rep p,h,k=>by simp only [T.text,J3,Lg]at k;exact lD (t:=p) h k.2
 | .sum p q,h,k=>by
  simp only [T.wf,T.text,J3,Lg,MC]at h k;simp [T.lw,lD h.1 k.2.1,lD h.2 k.2.2.2.1]
 | .par p q,h,k=>by
  simp only [T.wf,T.text,J3,Lg,MC]at h k;simp [T.lw,lD h.1 k.2.1,lD h.2 k.2.2.2.1]
structure Good (t:P):Prop where
 lw:t.lw=true
 len:t.text.length<=300
 size:t.size<=60
theorem Good.ok {t:P}(h:Good t):Ok t:=⟨(iY h.lw).1,by have :=h.len;omega⟩
theorem uL {p:Tx}{w:World}{R:Bool->World->Prop}(h:∀b w',Ex w w'->(b=true↔∃t:P,Good t/\t.text=p)->R b w'):Calls Tryz.prog 65 #[.string (ab p)] w (ax [.b] R):=by
 refine tA p w R ?_;by_cases J:p.length<=1099511627776
 rotate_left
 ·exact aV (by omega) (h _ _ (Ex.refl w) ⟨λG=>by simp at G,fun⟨t,z,e⟩=>by have :=z.len;rw [e]at this;omega⟩)
 refine⟨λhc=>BH J ⟨λH=>?_,λH=>?_⟩,λhc=>?_⟩
 ·simp only [J4]at hc;refine pg p (by omega) (p.length+1) 0 (by omega) (by omega) (by omega) ⟨λhe=>?_,λhe=>?_⟩
  ·simp only [J4]at he;obtain⟨t,hw,z⟩:=zc (l:=p) (p.length+1) 0 (by show 0<=endI p _ 0;omega);have e0:endI p (p.length+1) ((0:Nat):Int)=p.length:=he;rw [e0,J9,Mb,KJ,LP]at z;subst z;have I:=lD hw H;refine CK t.size (Kb _) ⟨hw,J⟩ λw' V=>h _ _ V ?_
   simp only [J4];constructor
   ·intro W;exact⟨t,⟨I,by omega,by omega⟩,rfl⟩
   ·rintro⟨u,hu,e⟩
    have Z:=vh (l:=t.text) u (u.size+t.size) 0 [] hu.ok.wf (by omega) (by simp [e]);have:u=t:=by
     exact(lS hu.ok.wf hw (r:=[]) (r':=[]) (by simpa using e)).1
    rw [<-this];exact_mod_cast hu.size
  ·simp only [J6]at he;refine h _ _ (Ex.refl w) ⟨λG=>by simp at G,?_⟩
   rintro⟨t,z,rfl⟩
   exact absurd (by simpa using pc t z.ok.wf t.text 0 [] (by simp) (t.text.length+1) (by omega)) he
 ·refine h _ _ (Ex.refl w) ⟨λG=>by simp at G,?_⟩
  rintro⟨t,z,rfl⟩
  rw [(iY z.lw).2]at H;cases H
 ·simp only [J6]at hc;refine h _ _ (Ex.refl w) ⟨λG=>by simp at G,?_⟩
  rintro⟨t,z,rfl⟩
  have :=z.len;exact absurd (by omega) hc
theorem DG {p:Tx}(z:p.length<=1099511627776){w:World}{R:Bool->World->Prop}(h:∀b w',Ex w w'->(b=true↔∃t:P,Good t/\t.text=p)->R b w'):Calls Tryz.prog 65 #[.string (ab p)] w (ax [.b] R):=uL h
end Go.Proofs.YtdecokaadekjnaaGreat
namespace Go.Proofs.YtdecokaadekjnaaGreat
namespace T
def map {A B:Type}(f:A->B):T A->T B
 | nil=>nil | snd a b p=>snd (f a) (f b) (p.map f) | rcv a x p=>rcv (f a) (f x) (p.map f) | tau p=>tau (p.map f)
 | sum p q=>sum (p.map f) (q.map f) | par p q=>par (p.map f) (q.map f) | res x p=>res (f x) (p.map f) | mat a b p=>mat (f a) (f b) (p.map f) | rep p=>rep (p.map f)
def shp {A:Type}(p:T A):T Unit:=p.map λ _=>()
def aH {A:Type}:T A->Nat
 | nil=>1 | snd _ _ p=>p.aH+4 | rcv _ _ p=>p.aH+4 | tau p=>p.aH+2 | sum p q=>p.aH+q.aH+3 | par p q=>p.aH+q.aH+3
 | res _ p=>p.aH+3 | mat _ _ p=>p.aH+5 | rep p=>p.aH+1
def bd {A:Type}:T A->Nat
 | nil=>0 | snd _ _ p=>p.bd | rcv _ _ p=>p.bd+1 | tau p=>p.bd | sum p q=>max p.bd q.bd | par p q=>max p.bd q.bd
 | res _ p=>p.bd+1 | mat _ _ p=>p.bd | rep p=>p.bd
def rd {A:Type}:T A->Nat
 | nil=>0 | snd _ _ p=>p.rd | rcv _ _ p=>p.rd+1 | tau p=>p.rd | sum p q=>max p.rd q.rd | par p q=>max p.rd q.rd
 | res _ p=>p.rd | mat _ _ p=>p.rd | rep p=>p.rd
def ow {A:Type}:T A->Nat
 | nil=>0 | snd _ _ p=>p.ow | rcv _ _ p=>p.ow | tau p=>p.ow | sum p q=>p.ow+q.ow | par p q=>p.ow+q.ow
 | res _ p=>p.ow+1 | mat _ _ p=>p.ow | rep p=>p.ow
section
variable {A B:Type}
theorem size_map (f:A->B)(p:T A):(p.map f).size=p.size:=by induction p<;>simp_all [map,size]
theorem ES (f:A->B)(p:T A):(p.map f).aH=p.aH:=by induction p<;>simp_all [map,aH]
theorem Ii (f:A->B)(p:T A):(p.map f).bd=p.bd:=by induction p<;>simp_all [map,bd]
theorem H2 (f:A->B)(p:T A):(p.map f).rd=p.rd:=by induction p<;>simp_all [map,rd]
theorem Ia (f:A->B)(p:T A):(p.map f).ow=p.ow:=by induction p<;>simp_all [map,ow]
theorem py {p:T A}{q:T B}(h:p.shp=q.shp):p.size=q.size:=by
 have :=Lb size h;simpa [shp,size_map]using this
theorem jn {p:T A}{q:T B}(h:p.shp=q.shp):p.aH=q.aH:=by
 have :=Lb aH h;simpa [shp,ES]using this
theorem H0 {p:T A}{q:T B}(h:p.shp=q.shp):p.bd=q.bd:=by
 have :=Lb bd h;simpa [shp,Ii]using this
theorem zd {p:T A}{q:T B}(h:p.shp=q.shp):p.rd=q.rd:=by
 have :=Lb rd h;simpa [shp,H2]using this
theorem xg {p:T A}{q:T B}(h:p.shp=q.shp):p.ow=q.ow:=by
 have :=Lb ow h;simpa [shp,Ia]using this
theorem xV (p:T A):p.bd<=p.rd+p.ow:=by induction p<;>simp only [bd,rd,ow]<;>omega
theorem cd (p:T A):p.rd+p.ow+1<=p.size:=by induction p<;>simp only [size,rd,ow]<;>omega
end
theorem aY (p:P):p.text.length=p.aH:=by
 induction p<;>simp_all [text,aH]<;>omega
end T
def okn (k:Nat)(x:UInt8):Prop:=x.toNat< 128+k\/192<=x.toNat
theorem okn.mono {k m:Nat}{x:UInt8}(h:okn k x)(z:k<=m):okn m x:=by unfold okn at*;omega
def ngr (x:UInt8):Prop:=x.toNat< 65\/(90< x.toNat/\x.toNat< 192)
def Eb:Nat->P->Prop
 | _,.nil=>True
 | k,.snd a b p=>okn k a/\okn k b/\Eb k p
 | k,.rcv a x p=>okn k a/\(ngr x/\∀z,p.Fr z->z≠x->okn k z)/\Eb (k+1) p
 | k,.tau p=>Eb k p
 | k,.sum p q=>Eb k p/\Eb k q
 | k,.par p q=>Eb k p/\Eb k q
 | k,.res x p=>(ngr x/\∀z,p.Fr z->z≠x->okn k z)/\Eb (k+1) p
 | k,.mat a b p=>okn k a/\okn k b/\Eb k p
 | k,.rep p=>Eb k p
theorem Eb.free:∀{p:P} {k:Nat},Eb k p->∀z,p.Fr z->okn k z
 | .nil,_,_,_,h=>h.elim
 | .snd a b p,k,e,z,h=>by
  rcases h with rfl | rfl | h
  ·exact e.1
  ·exact e.2.1
  ·exact Eb.free e.2.2 z h
 | .mat a b p,k,e,z,h=>by
  rcases h with rfl | rfl | h
  ·exact e.1
  ·exact e.2.1
  ·exact Eb.free e.2.2 z h
 | .rcv a x p,k,e,z,h=>by
  rcases h with rfl | h
  ·exact e.1
  ·exact e.2.1.2 z h.2 h.1
 | .res x p,k,e,z,h=>e.1.2 z h.2 h.1
 | .tau p,k,e,z,h=>Eb.free (p:=p) e z h
 | .rep p,k,e,z,h=>Eb.free (p:=p) e z h
 | .sum p q,k,e,z,h=>h.elim (Eb.free e.1 z) (Eb.free e.2 z)
 | .par p q,k,e,z,h=>h.elim (Eb.free e.1 z) (Eb.free e.2 z)
theorem Eb.mono:∀{p:P} {k m:Nat},Eb k p->k<=m->Eb m p
 | .nil,_,_,_,_=>trivial
 | .snd a b p,k,m,e,h=>⟨e.1.mono h,e.2.1.mono h,Eb.mono e.2.2 h⟩
 | .mat a b p,k,m,e,h=>⟨e.1.mono h,e.2.1.mono h,Eb.mono e.2.2 h⟩
 | .rcv a x p,k,m,e,h=>⟨e.1.mono h,⟨e.2.1.1,λz G h2=>(e.2.1.2 z G h2).mono h⟩,Eb.mono e.2.2 (by omega)⟩
 | .res x p,k,m,e,h=>⟨⟨e.1.1,λz G h2=>(e.1.2 z G h2).mono h⟩,Eb.mono e.2 (by omega)⟩
 | .tau p,k,m,e,h=>Eb.mono (p:=p) e h
 | .rep p,k,m,e,h=>Eb.mono (p:=p) e h
 | .sum p q,k,m,e,h=>⟨Eb.mono e.1 h,Eb.mono e.2 h⟩
 | .par p q,k,m,e,h=>⟨Eb.mono e.1 h,Eb.mono e.2 h⟩
theorem nJ {k:Nat}{c:UInt8}(h:lt c=true):okn k c:=by
 simp only [lt,J3,J4]at h;have h2:=Kl.1 h.2;have z:(122:UInt8).toNat=122:=rfl;left;omega
theorem aC.free {p q:P}{old nm:UInt8}(h:aC p old nm q)(z:UInt8)(H:q.Fr z):z=nm\/(z≠old/\p.Fr z)\/(z=old/\p.Fr z/\old=nm):=by
 obtain⟨y,I,e⟩:=(h UInt8.toNat).symm.free z H;unfold aF at e;split at e
 ·left;exact(Ky.1 e).symm
 ·rename_i G;have:y=z:=Ky.1 e;subst this;exact .inr (.inl ⟨G,I⟩)
structure iI (k:Nat)(p:P)(old nm:UInt8)(q:P):Prop where
 ok:aC p old nm q
 shp:q.shp=p.shp
 wf:q.wf=true
 eb:Eb k q
end Go.Proofs.YtdecokaadekjnaaGreat
namespace Go.Proofs.YtdecokaadekjnaaGreat
open Go Go.RowKit
theorem ld {c old nm:UInt8}{w:World}{R:UInt8->World->Prop}(h:R (sw c old nm) w):Calls Tryz.prog 192 #[.int .u8 c.toNat,.int .u8 old.toNat,.int .u8 nm.toNat] w (ax [.c] R):=by
 refine sO c old nm w R ?_;unfold sw at h;refine⟨λhc=>?_,λhc=>?_⟩
 ·rw [KG (Kv hc)]at h;exact h
 ·rw [Ko (Kw hc)]at h;exact h
def T.bindC:P->UInt8
 | .rcv _ x _=>x | .res x _=>x | _=>0
def T.qG:P->Bool
 | .rcv .. =>true | .res .. =>true | _=>false
theorem qg {t:P}(ok:Ok t){w:World}{R:UInt8->Bool->World->Prop}(h:R t.bindC t.qG w):Calls Tryz.prog 118 #[.string (ab t.text)] w (ax [.c,.b] R):=by
 refine ri _ w R ?_;refine aK ok ?_;cases t<;>simp only [T.kind]<;>repeat' first | refine aV (by decide) ?_ | refine dc (by decide) ?_
 all_goals first
  | exact h
  | (refine⟨by simp only [T.text,J0];omega,?_⟩;exact h)
def T.names:P->Tx
 | .snd a b _=>[a,b] | .rcv a _ _=>[a] | .mat a b _=>[a,b] | _=>[]
theorem Bu {t:P}(ok:Ok t){w:World}{R:ay->World->Prop}(h:∀w',Ex w w'->R t.names w'):Calls Tryz.prog 247 #[.string (ab t.text)] w (ax [.s] R):=by
 refine ru _ w R ?_;refine aK ok ?_;cases t<;>simp only [T.kind]<;>repeat' first | refine aV (by decide) ?_ | refine dc (by decide) ?_
 case nil=>exact h w (Ex.refl w)
 case tau=>exact h w (Ex.refl w)
 case sum=>exact h w (Ex.refl w)
 case par=>exact h w (Ex.refl w)
 case res=>exact h w (Ex.refl w)
 case rep=>exact h w (Ex.refl w)
 case rcv=>exact⟨by simp only [T.text,J0];omega,h w (Ex.refl w)⟩
 case snd=>exact⟨λ _=>True,λw1 z=>⟨trivial,by simp only [T.text,J0];omega,by simp only [T.text,J0];omega,by simp [T.text],h w1 (z▸Ex.drew w)⟩⟩
 case mat=>exact⟨λ _=>True,λw1 z=>⟨trivial,by simp only [T.text,J0];omega,by simp only [T.text,J0];omega,by simp [T.text],h w1 (z▸Ex.drew w)⟩⟩
theorem Ew (t:P)(x:UInt8):t.Fr x↔x∈t.names\/(∃p∈t.parts,p.Fr x)/\¬(t.qG=true/\x=t.bindC):=by
 cases t<;>simp [T.Fr,T.names,T.parts,T.qG,T.bindC,MU,and_comm]
theorem ib.nil:ib []:=List.Pairwise.nil
theorem ib.filter {s:Tx}(h:ib s)(f:UInt8->Bool):ib (s.filter f):=L4 (List.filter_sublist) h
theorem jz:∀(n:Nat) {t:P},t.size<=n->Ok t->∀{w:World} {R:ay->World->Prop},(∀s w',Ex w w'->ib s->(∀x,x∈s↔t.Fr x)->R s w')->Calls Tryz.prog 76 #[.string (ab t.text)] w (ax [.s] R):=by
 intro n
 induction n with
 | zero=>intro t h;have :=a8 t;omega
 | succ n ih=>
  intro t hn ok w R h;refine tf _ w R ?_;refine db ok λv w1 hx hs=>?_
  obtain⟨a,cap,hv⟩:=hs.slice;rw [Kz]at hv;refine⟨a,t.parts.length,cap,hv,λout x w'=>Ex w w'/\Strs w' v (t.parts.map T.text)/\ib out/\∃k:Nat,x=k/\k<=t.parts.length/\∀x,x∈out↔∃p∈t.parts.take k,p.Fr x,λ _ x _=>((t.parts.length:Int) - x).toNat,
   ⟨hx,hs,ib.nil,0,rfl,by omega,by simp⟩,λout x w2 hI=>?_⟩
  obtain⟨α,κ,V,k,rfl,hk,hm⟩:=hI;refine⟨λhc=>?_,λhc=>?_⟩
  ·have G:k< t.parts.length:=by simpa using hc
   obtain⟨b,o,cp,e1,e2,e3⟩:=κ.at (i:=k) (by rw [Kz];exact G);rw [Kz]at e1;refine⟨b,o,t.parts.length,cp,e1,by omega,by omega,(t.parts[k]).text,?_,?_⟩
   ·rw [J9,KK,e3,Nf]
   ·have Z:t.parts[k]∈t.parts:=Kg G;refine ih (by have :=dV Z;omega) (ok.parts _ Z) λs w3 W ν β=>?_
    refine fy V (by have :=ν.bound;omega) λs' w4 H I J=>?_
    have h3:=dX t;refine⟨by unfold aj;omega,⟨(α.trans W).trans H,(κ.ex W).ex H,I,k+1,by omega,G,λx=>?_⟩,by dsimp only;omega⟩;rw [J,hm,β,List.take_succ_eq_append_getElem G];simp only [Ke,Kf];constructor
    ·rintro(⟨p,hp,hf⟩ | hf)
     ·exact⟨p,.inl hp,hf⟩
     ·exact⟨_,.inr rfl,hf⟩
    ·rintro⟨p,hp | rfl,hf⟩
     ·exact .inl ⟨p,hp,hf⟩
     ·exact .inr hf
  ·have G:k=t.parts.length:=by simp at hc;omega
   subst G;rw [KA]at hm;refine⟨λout w'=>Ex w w'/\ib out/\∀x,x∈out↔(∃p∈t.parts,p.Fr x)/\¬(t.qG=true/\x=t.bindC),qg ok ⟨λhb=>?_,λhb=>?_⟩,λμ w3 hJ=>?_⟩
   ·refine xv (by have :=V.bound;omega) ⟨α,V.filter _,λx=>?_⟩;simp [hm,hb]
   ·exact⟨α,V,λx=>by simp [hm,hb]⟩
   obtain⟨W,z,β⟩:=hJ;refine aK ok ?_;have done:∀s w',Ex w3 w'->ib s->(∀x,x∈s↔x∈t.names\/x∈μ)->R s w':=λs w' H I J=>h s w' (W.trans H) I λx=>by rw [J,β,Ew]
   cases t<;>simp only [T.kind]<;>repeat' first | refine aV (by decide) ?_ | refine dc (by decide) ?_
   case nil=>exact done _ _ (Ex.refl _) z λx=>by simp [T.names]
   case tau=>exact done _ _ (Ex.refl _) z λx=>by simp [T.names]
   case sum=>exact done _ _ (Ex.refl _) z λx=>by simp [T.names]
   case par=>exact done _ _ (Ex.refl _) z λx=>by simp [T.names]
   case res=>exact done _ _ (Ex.refl _) z λx=>by simp [T.names]
   case rep=>exact done _ _ (Ex.refl _) z λx=>by simp [T.names]
   case rcv a x p=>
    refine⟨by simp only [T.text,J0];omega,fu z λs w4 H I J=>done s w4 H I λx=>?_⟩;rw [J];simp [T.names,T.text,bt]
   case snd a b p=>
    refine⟨λ _=>True,λw4 γ=>⟨trivial,by simp only [T.text,J0];omega,by simp only [T.text,J0];omega,fu z λs w5 δ ε ζ=>⟨trivial,fu ε λs' w6 η θ ι=>⟨trivial,done s' w6 (((γ▸Ex.drew w3).trans δ).trans η) θ λx=>?_⟩⟩⟩⟩;rw [ι,ζ];simp [T.names,T.text,bt,MU,or_left_comm]
   case mat a b p=>
    refine⟨λ _=>True,λw4 γ=>⟨trivial,by simp only [T.text,J0];omega,by simp only [T.text,J0];omega,fu z λs w5 δ ε ζ=>⟨trivial,fu ε λs' w6 η θ ι=>⟨trivial,done s' w6 (((γ▸Ex.drew w3).trans δ).trans η) θ λx=>?_⟩⟩⟩⟩;rw [ι,ζ];simp [T.names,T.text,bt,MU,or_left_comm]
structure qC (w:World)(b:Nat)(l:Tx):Prop where
 lt:b< w.heap.size
 cell:∀j,j< l.length->w.cell? ⟨b,j,none⟩=some (.int .u8 (bt l j).toNat)
 fz:∀j,j< l.length->w.frozen? ⟨b,j,none⟩=false
theorem qC.C9 {w:World}{el b:Nat}{l:Tx}(h:iC w el b l):qC w b l:=by
 obtain⟨cur,H,I,z,h2,J,h4⟩:=h;have hb:b< w.heap.size:=by
  rcases LF b w.heap.size with h | h
  ·exact h
  ·rw [Array.getElem?_eq_none h]at z;cases z
 refine⟨hb,λj G=>?_,λj G=>?_⟩
 ·unfold World.cell?;rw [z];have e:=Lb (λl=>l[j]?) h2;simp only [dI,My,G,LN,Md,J2 G,LR]at e;simp only [Option.isSome_none,L7,ME];rw [<-LL,e];simp [bt,G]
 ·unfold World.frozen?;rw [z];simp;omega
theorem qC.ex {w w':World}{b:Nat}{l:Tx}(h:qC w b l)(k:Ex w w'):qC w' b l:=
 ⟨Kx h.lt k.size,λj z=>by rw [k.cell h.lt];exact h.cell j z,λj z=>by rw [Lr k h.lt];exact h.fz j z⟩
theorem Hb {l:Tx}{i j:Nat}{c:UInt8}(z:i< l.length):bt (l.set i c) j=if i=j then c else bt l j:=by
 simp only [bt,Mx,List.getElem?_set];by_cases h:i=j
 ·subst h;simp [z]
 ·simp [h]
theorem qC.set {w:World}{b:Nat}{l:Tx}(h:qC w b l){i:Nat}(G:i< l.length)(c:UInt8):qC (w.setCell ⟨b,i,none⟩ (.int .u8 c.toNat)) b (l.set i c):=by
 refine⟨by rw [KM];exact h.lt,λj z=>?_,λj z=>?_⟩
 ·rw [LV]at z;rw [Hb G];by_cases e:i=j
  ·subst e;rw [KG rfl,Kj _ _ _ (h.cell i G)]
  ·rw [Ko e,J7 _ _ _ _ (by simp [e])];exact h.cell j z
 ·rw [Kt];exact h.fz j (by simpa using z)
theorem qC.read {w:World}{b:Nat}{l:Tx}(h:qC w b l):∀(j:Nat) (x:UInt8),l[j]?=some x->w.cell? ⟨b,0+j,none⟩=some (.int .u8 x.toNat):=by
 intro j x G;obtain⟨z,e⟩:=KX.1 G;rw [KF,h.cell j z];simp [bt,z,e]
theorem qC.at {w:World}{b:Nat}{l:Tx}(h:qC w b l){i:Nat}(z:i< l.length):w.cell? ⟨b,0+i* 1,none⟩=some (.int .u8 (bt l i).toNat):=by
 rw [KF,KK];exact h.cell i z
theorem Ex.own {w w':World}(h:Ex w w'){b i:Nat}(hb:w.heap.size<=b)(v:Value):Ex w (w'.setCell ⟨b,i,none⟩ v):=Below.setCell h hb v
theorem DE {t:P}(ok:Ok t){v:Value}{l:List Tx}{w:World}(hs:Strs w v l){R:ay->World->Prop}
  (κ:(t.kind=43\/t.kind=38)->∃x y,l=[x,y]/\x.length+y.length<=1099511627776/\∀w',Ex w w'->R (40::(x++t.kind::(y++[41]))) w')
  (μ:t.kind=48->R [48] w)
  (ν:t.kind≠48->t.kind≠43->t.kind≠38->∃x,l=[x]/\x.length<=1099511627776/\∀w',Ex w w'->R (t.text.take t.hd++x) w'):
  Calls Tryz.prog 193 #[.string (ab t.text),v] w (ax [.s] R):=by
 refine tw _ v w R ?_;refine aK ok ?_;have two:∀(k:UInt8),(t.kind=k)->(k=43\/k=38)->∃S5:World->Prop,∀W:World,W=World.drew w->S5 W/\∃(b7 o8 β δ:Nat),v=Value.slice (some ⟨b7,o8,none⟩) β δ/\0<=(0:Int)/\(0:Int)< β/\∃G:ay,(∀w',S5 w'->World.cell? w' ⟨b7,(o8+Int.toNat 0* 1),none⟩=some (Value.string (ab G)))/\(List.length [(40:UInt8)]+List.length G<=4611686018427387904)/\(List.length ([(40:UInt8)]++G)+List.length [k]<=4611686018427387904)/\∃(ξ ο H ε:Nat),v=Value.slice (some ⟨ξ,ο,none⟩) H ε/\0<=(1:Int)/\(1:Int)< H/\∃Z:ay,(∀w',S5 w'->World.cell? w' ⟨ξ,(ο+Int.toNat 1* 1),none⟩=some (Value.string (ab Z)))/\(List.length (([(40:UInt8)]++G)++[k])+List.length Z<=4611686018427387904)/\(List.length ((([(40:UInt8)]++G)++[k])++Z)+List.length [(41:UInt8)]<=4611686018427387904)/\R ((((([(40:UInt8)]++G)++[k])++Z)++[(41:UInt8)])) W:=by
  intro k hk χ;obtain⟨x,y,rfl,hl,hR⟩:=κ (hk▸χ);refine⟨λw'=>Strs w' v [x,y],λW I=>?_⟩;have h6:Strs W v [x,y]:=I▸hs.ex (Ex.drew w);obtain⟨b,o,cap,e1,e2,_⟩:=h6.at (i:=0) (by simp);refine⟨h6,b,o,2,cap,e1,by omega,by omega,x,λw' J=>?_,by simp;omega,by simp;omega,b,o,2,cap,e1,by omega,by omega,y,λw' J=>?_,by simp;omega,by simp;omega,?_⟩
  ·obtain⟨b',o',γ,z,_,e3⟩:=J.at (i:=0) (by simp);rw [e1]at z;cases z;exact e3
  ·obtain⟨b',o',γ,z,_,e3⟩:=J.at (i:=1) (by simp);rw [e1]at z;cases z;exact e3
  ·have :=hR W (I▸Ex.drew w);rw [hk]at this;simpa using this
 have one:t.kind≠48->t.kind≠43->t.kind≠38->∃ζ:World->Prop,∀η:World,η=World.drew w->ζ η/\∃(ς υ V θ:Nat),v=Value.slice (some ⟨ς,υ,none⟩) V θ/\0<=(0:Int)/\(0:Int)< V/\∃ι:ay,(∀w',ζ w'->World.cell? w' ⟨ς,(υ+Int.toNat 0* 1),none⟩=some (Value.string (ab ι)))/\Calls Tryz.prog 165 #[(Value.string (ab t.text))] η (ax [.i] fun(α:Int) (φ:World)=>ζ φ/\(0<=(α:Int)/\(α:Int)<=List.length t.text)/\(List.length (List.take (Int.toNat α) t.text)+List.length ι<=4611686018427387904)/\R (((List.take (Int.toNat α) t.text)++ι)) φ):=by
  intro h1 h2 h3;obtain⟨x,rfl,hl,hR⟩:=ν h1 h2 h3;refine⟨λw'=>Strs w' v [x],λW I=>?_⟩;have h6:Strs W v [x]:=I▸hs.ex (Ex.drew w);obtain⟨b,o,cap,e1,e2,_⟩:=h6.at (i:=0) (by simp);have hlen:=ok.len;have hd:t.hd<=t.text.length:=by
   cases t<;>simp only [T.kind,ne_eq,MZ]at h1<;>simp only [T.hd,T.text,J0]<;>omega
  refine⟨h6,b,o,1,cap,e1,by omega,by omega,x,λw' J=>?_,cX ok ⟨h6,by omega,?_,?_⟩⟩
  ·obtain⟨b',o',γ,z,_,e3⟩:=J.at (i:=0) (by simp);rw [e1]at z;cases z;exact e3
  ·rw [KP];omega
  ·rw [J9];exact hR W (I▸Ex.drew w)
 refine⟨λh=>?_,λh=>⟨λh2=>two 43 (Kv h2) (.inl rfl),λh2=>⟨λh3=>two 38 (Kv h3) (.inr rfl),λh3=>one (Kw h) (Kw h2) (Kw h3)⟩⟩⟩;have hk:=Kv h;have :=μ hk;cases t<;>first | exact this | (exact absurd hk (by simp [T.kind]))
theorem sD.ok {s:Tx}{c:UInt8}(h:sD s c){k:Nat}(hk:k<=63)(J:∀d∈s,okn k d):c∉s/\okn (k+1) c/\nm c=true/\ngr c:=by
 rcases h with h | ⟨_,G,h2,h3,h4⟩
 ·have hm:=LZ h;have hp:=Nv h;have z:lt c=true:=by
   obtain⟨i,hi,rfl⟩:=KQ.1 hm;rw [Lz]at hi;have e:(UInt8.ofNat (97+i)).toNat=97+i:=by rw [K2];omega
   simp only [lt,J3,J4];exact⟨Kl.2 (by rw [e];show 97<=_;omega),Kl.2 (by rw [e];show _<=122;omega)⟩
  refine⟨by simpa using hp,nJ z,(gR z).1,?_⟩;simp only [lt,J3,J4]at z;have G:=Kl.1 z.1;have h2:=Kl.1 z.2;have α:(97:UInt8).toNat=97:=rfl;have V:(122:UInt8).toNat=122:=rfl;unfold ngr;omega
 ·have β:=Kl.1 G;have γ:=Kl.1 h2;have W:(128:UInt8).toNat=128:=rfl;have Z:(191:UInt8).toNat=191:=rfl;have hle:c.toNat<=128+k:=by
   rcases LF (128+k) c.toNat with H | I
   ·exfalso;have e:(UInt8.ofNat (128+k)).toNat=128+k:=by rw [K2];omega
    have hm:=h3 (UInt8.ofNat (128+k)) (Kl.2 (by rw [e];omega)) (KI.2 (by rw [e];exact H));have :=J _ hm;unfold okn at this;rw [e]at this;omega
   ·exact I
  refine⟨?_,.inl (by omega),?_,by unfold ngr;omega⟩
  ·rcases h4 with h4 | h4
   ·exact h4
   ·intro hm;have :=J _ hm;unfold okn at this;subst h4;omega
  ·simp [nm,G]
def T.rebind (t:P)(old nw y:UInt8)(q:P):P:=match t with
 | .rcv a _ _=> .rcv (sw a old nw) y q
 | _=> .res y q
theorem yB {c old nw:UInt8}(hc:nm c=true)(z:nm nw=true):nm (sw c old nw)=true:=by
 unfold sw;split<;>assumption
theorem tC {k:Nat}{c old nw:UInt8}(hc:okn k c)(z:okn k nw):okn k (sw c old nw):=by
 unfold sw;split<;>assumption
structure Hl (k:Nat)(t:P)(old nw:UInt8)(p:P):Prop where
 drop:t.text.drop t.hd=p.text
 ok:Ok p
 size:p.size< t.size
 eb:Eb (k+1) p
 bd:p.bd+1=t.bd
 okz:∀z,p.Fr z->z≠t.bindC->okn k z
 nmc:nm t.bindC=true
 ngc:ngr t.bindC
 under:∀q,t.bindC≠old->(t.bindC≠nw\/¬p.Fr old)->aC p old nw q->aC t old nw (t.rebind old nw t.bindC q)
 cap:∀y p1 p2,t.bindC=nw->nw≠old->¬p.Fr y->y≠old->y≠nw->aC p nw y p1->aC p1 old nw p2->aC t old nw (t.rebind old nw y p2)
 over:t.bindC=old->t.Fr old->aC t old nw (t.rebind old nw old p)
 fin:∀y q,aC t old nw (t.rebind old nw y q)->q.shp=p.shp->q.wf=true->nm y=true->ngr y->Eb (k+1) q->iI k t old nw (t.rebind old nw y q)
theorem Cj {k:Nat}{t:P}{old nw:UInt8}(ok:Ok t)(eb:Eb k t)(hn:nm nw=true)(kn:okn k nw)(hb:t.qG=true):∃p,Hl k t old nw p:=by
 have hw:=ok.wf;have hl:=ok.len;have fr:∀q,aC t old nw q->∀z,q.Fr z->okn k z:=λq h z J=>by
  rcases h.free z J with rfl | h | h
  ·exact kn
  ·exact eb.free z h.2
  ·exact eb.free z h.2.1
 cases t with
 | rcv a x p=>
  simp only [T.wf,J3]at hw;simp only [T.text,J0]at hl;refine⟨p,rfl,⟨hw.2,by omega⟩,by simp only [T.size];omega,eb.2.2,rfl,eb.2.1.2,hw.1.2,eb.2.1.1,λq G h2 H=>aC.BF a G h2 H,λy p1 p2 G h2 H h4 h5 V W=>?_,λG h2=>?_,λy q G h2 H h4 Z h5=>⟨G,?_,?_,?_⟩⟩
  ·have G:x=nw:=G;subst G;exact aC.FA a h2 H h4 h5 V W
  ·have G:x=old:=G;subst G;exact aC.EN a
  ·show T.rcv () () q.shp=T.rcv () () p.shp;rw [h2]
  ·simp [T.rebind,T.wf,yB hw.1.1 hn,H,h4]
  ·exact⟨tC eb.1 kn,⟨Z,λz J I=>fr _ G z (.inr ⟨I,J⟩)⟩,h5⟩
 | res x p=>
  simp only [T.wf,J3]at hw;simp only [T.text,J0]at hl;refine⟨p,rfl,⟨hw.2,by omega⟩,by simp only [T.size];omega,eb.2,rfl,eb.1.2,hw.1,eb.1.1,λq G h2 H=>aC.B3 G h2 H,λy p1 p2 G h2 H h4 h5 V W=>?_,λG h2=>?_,λy q G h2 H h4 Z h5=>⟨G,?_,?_,?_⟩⟩
  ·have G:x=nw:=G;subst G;exact aC.FV h2 H h4 h5 V W
  ·have G:x=old:=G;exact absurd G.symm h2.1
  ·show T.res () q.shp=T.res () p.shp;rw [h2]
  ·simp [T.rebind,T.wf,H,h4]
  ·exact⟨⟨Z,λz J I=>fr _ G z ⟨I,J⟩⟩,h5⟩
 | _=>cases hb
theorem sY {w w':World}(h:w.grownBy w' none):Ex w w':=Below.grown (NH _ _) h (Kb _) (λk z=>by cases z)
theorem H4 {t:P}(h:t.kind≠48):t.hd<=t.text.length:=by
 cases t<;>simp only [T.kind,ne_eq,MZ]at h<;>simp only [T.hd,T.text,J0]<;>omega
theorem pV {w1:World}(c d:UInt8){w2:World}{b:Nat}(hb:b=w1.heap.size)(h:w2=w1.alloc (.cells #[.int .u8 c.toNat,.int .u8 d.toNat] 5)):
  b< w2.heap.size/\∀(j:Nat) (x:UInt8),[c,d][j]?=some x->w2.cell? ⟨b,0+j,none⟩=some (.int .u8 x.toNat):=by
 subst hb h;refine⟨by rw [size_alloc];omega,λj x z=>?_⟩;rw [KF]
 match j,z with
 | 0,z=>simp at z;subst z;exact aa rfl
 | 1,z=>simp at z;subst z;exact aa rfl
 | j+2,z=>simp at z
theorem iI.refl {k:Nat}{t:P}{old nw:UInt8}(h:aC t old nw t)(ok:Ok t)(eb:Eb k t):iI k t old nw t:=⟨h,rfl,ok.wf,eb⟩
theorem iI.y4 {k:Nat}{t:P}{old nw:UInt8}{q:P}(h:iI k t old nw q)(ok:Ok t):Ok q:=⟨h.wf,by rw [T.aY,T.jn h.shp,<-T.aY];exact ok.len⟩
theorem gQ:∀(n:Nat) {t:P} {k:Nat} {old nw:UInt8},t.size<=n->Ok t->Eb k t->k+t.bd<=64->nm nw=true->okn k nw->
  ∀{w:World} {R:ay->World->Prop},(∀q w',Ex w w'->iI k t old nw q->R q.text w')->Calls Tryz.prog 153 #[.string (ab t.text),.int .u8 old.toNat,.int .u8 nw.toNat] w (ax [.s] R):=by
 intro n
 induction n with
 | zero=>intro t k old nw h;have :=a8 t;omega
 | succ n ih=>
  intro t k old nw hn ok eb hbd κ δ w R h;refine qv _ old nw w R ?_;refine⟨λhne=>?_,λhe=>by
   have he:=Kv he;subst he;exact h t w (Ex.refl w) (.refl (aC.same old) ok eb)⟩
  have hne:old≠nw:=Kw hne;refine jz _ (Kb _) ok λs w1 hx1 hs1 hm1=>eH (by have :=hs1.bound;omega) ⟨λV=>?_,λV=>?_⟩
  ·have V:¬t.Fr old:=by
    rw [<-hm1];simpa using V
   exact h t w1 hx1 (.refl (aC.skip V) ok eb)
  have hfr:t.Fr old:=by rw [<-hm1];simpa using V
  have hk0:t.kind≠48:=by cases t<;>first | exact hfr.elim | simp [T.kind]
  have hhd:=H4 hk0;have hlen:=ok.len;refine cX ok ⟨by omega,λb cap w2 hb hrow hgr=>?_⟩;rw [J9]at hrow|-;have ο:Ex w w2:=hx1.trans (sY hgr);have Z:=qC.C9 hrow;have χ:w.heap.size<=b:=by rw [hb];exact hx1.size
  have W:(t.text.take t.hd).length=t.hd:=by rw [KP];omega
  refine qg ok ⟨λhq2=>?_,λhq2=>?_⟩
  ·
   obtain⟨p,B⟩:=Cj (nw:=nw) (old:=old) ok eb κ δ hq2;have hszp:=B.size;have hbdp:=B.bd;refine⟨some ⟨b,0,none⟩,(t.text.take t.hd).length,cap,rfl,by omega,?_⟩;rw [W,J9,B.drop];refine⟨λpart x w'=>Ex w w'/\qC w' b (t.text.take t.hd)/\∃p1:P,part=p1.text/\p1.shp=p.shp/\Ok p1/\Eb (k+1) p1/\(nm x=true/\ngr x)/\
    ((x=t.bindC/\p1=p/\(x≠nw\/¬p.Fr old))\/(t.bindC=nw/\¬p.Fr x/\x≠old/\x≠nw/\aC p nw x p1)),⟨λhc=>?_,λhc=>?_⟩,λpart x w3 hJ=>?_⟩
   ·have hc:=Kv hc;refine jz _ (Kb _) B.ok λs3 w3 ε ψ hm3=>eH (by have :=ψ.bound;omega) ⟨λhq3=>?_,λhq3=>?_⟩
    ·have hfo:p.Fr old:=by rw [<-hm3];simpa using hq3
     have fin:∀(w':World),Ex w3 w'->∀s4,ib s4->(∀x,x∈s4↔p.Fr x\/x∈[old,nw])->∀y,sD s4 y->(Ex w w'/\qC w' b (t.text.take t.hd))/\(¬p.Fr y/\y≠old/\y≠nw/\okn (k+1) y/\nm y=true/\ngr y):=by
      intro w' hx' s4 hs4 hm4 y hy;have hall:∀d∈s4,okn k d:=by
       intro d hd;rcases(hm4 d).1 hd with hd | hd
       ·by_cases hz:d=t.bindC
        ·rw [hz,hc];exact δ
        ·exact B.okz d hd hz
       ·simp only [Ks,LY,Mq]at hd;rcases hd with rfl | rfl
        ·exact eb.free _ hfr
        ·exact δ
      obtain⟨h1,h2,h3⟩:=hy.ok (by omega) hall;rw [hm4]at h1;simp only [Ks,LY,Mq,NI]at h1;exact⟨⟨(ο.trans ε).trans hx',(Z.ex ε).ex hx'⟩,h1.1,h1.2.1,h1.2.2,h2,h3⟩
     refine⟨λy w'=>(Ex w w'/\qC w' b (t.text.take t.hd))/\(¬p.Fr y/\y≠old/\y≠nw/\okn (k+1) y/\nm y=true/\ngr y),⟨λw'=>True,λw4 ς=>⟨trivial,?_,λb2 w5 hb2 H=>⟨trivial,?_,?_⟩⟩⟩,λy w4 hJ=>?_⟩
     ·have J:Ex w3 w4:=ς▸Ex.drew w3;refine jz _ (Kb _) B.ok λs5 w5 I hs5 hm5=>⟨trivial,λb2 w6 hb2 α=>⟨trivial,b2,0,2,2,[old,nw],rfl,rfl,(pV old nw hb2 α).2,trivial,?_⟩⟩
      refine fy hs5 (by simp) λs7 w7 ξ μ hm7=>⟨trivial,jr (by have :=μ.bound;omega) λy hy=>⟨trivial,?_⟩⟩
      exact fin w7 (((J.trans I).trans (α▸Ex.alloc w5 _)).trans ξ) s7 μ (λx=>by rw [hm7,hm5]) y hy
     ·have J:Ex w3 w4:=ς▸Ex.drew w3;have I:Ex w4 w5:=H▸Ex.alloc w4 _;obtain⟨G,hc5⟩:=pV old nw hb2 H;refine jz _ (Kb _) B.ok λs6 w6 ζ hs6 hm6=>⟨trivial,b2,0,2,2,[old,nw],rfl,rfl,λj x hj=>by rw [ζ.cell G];exact hc5 j x hj,trivial,?_⟩
      refine fy hs6 (by simp) λs7 w7 ξ μ hm7=>⟨trivial,jr (by have :=μ.bound;omega) λy hy=>⟨trivial,?_⟩⟩
      exact fin w7 (((J.trans I).trans ζ).trans ξ) s7 μ (λx=>by rw [hm7,hm6]) y hy
     ·have J:Ex w3 w4:=ς▸Ex.drew w3;have I:Ex w4 w5:=H▸Ex.alloc w4 _;obtain⟨G,hc5⟩:=pV old nw hb2 H;refine⟨b2,0,2,2,[old,nw],rfl,rfl,hc5,trivial,?_⟩;refine jz _ (Kb _) B.ok λs6 w6 ζ hs6 hm6=>⟨trivial,?_⟩
      refine fy hs6 (by simp) λs7 w7 ξ μ hm7=>⟨trivial,jr (by have :=μ.bound;omega) λy hy=>⟨trivial,?_⟩⟩
      exact fin w7 (((J.trans I).trans ζ).trans ξ) s7 μ (λx=>by rw [hm7,hm6]) y hy
     ·obtain⟨⟨I,G⟩,hy1,hy2,hy3,hy4,hy5,hy6⟩:=hJ;refine ih (by omega) B.ok B.eb (by omega) hy5 hy4 λq w6 ζ V=>⟨I.trans ζ,G.ex ζ,q,rfl,V.shp,V.y4 B.ok,V.eb,⟨hy5,hy6⟩,.inr ⟨hc,hy1,hy2,hy3,?_⟩⟩
      rw [<-hc];exact V.ok
    ·have hfo:¬p.Fr old:=by rw [<-hm3];simpa using hq3
     exact⟨ο.trans ε,Z.ex ε,p,rfl,rfl,B.ok,B.eb,⟨B.nmc,B.ngc⟩,.inl ⟨rfl,rfl,.inr hfo⟩⟩
   ·have hc:=Kw hc;exact⟨ο,Z,p,rfl,rfl,B.ok,B.eb,⟨B.nmc,B.ngc⟩,.inl ⟨rfl,rfl,.inl hc⟩⟩
   ·obtain⟨ε,hb3,p1,rfl,hsh1,ok1,eb1,hnx,hmid⟩:=hJ;refine⟨λpart w'=>Ex w w'/\qC w' b (t.text.take t.hd)/\∃p2:P,part=p2.text/\p2.shp=p.shp/\Ok p2/\Eb (k+1) p2/\aC t old nw (t.rebind old nw x p2),⟨λhc=>?_,λhc=>?_⟩,λpart w4 hJ=>?_⟩
    ·have hc:x≠old:=by simpa using hc
     refine ih (by have :=T.py hsh1;omega) ok1 eb1 (by have :=T.H0 hsh1;omega) κ (δ.mono (by omega)) λq w5 I V=>⟨ε.trans I,hb3.ex I,q,rfl,V.shp.trans hsh1,V.y4 ok1,V.eb,?_⟩
     rcases hmid with⟨rfl,rfl,hu⟩ | ⟨h1,h2,h3,h4,h5⟩
     ·exact B.under q hc hu V.ok
     ·exact B.cap x p1 q h1 (Ni hne) h2 h3 h4 h5 V.ok
    ·have hc:x=old:=by simpa using hc
     refine⟨ε,hb3,p1,rfl,hsh1,ok1,eb1,?_⟩;rcases hmid with⟨h1,rfl,hu⟩ | ⟨h1,h2,h3,h4,h5⟩
     ·rw [hc];exact B.over (h1.symm.trans hc) hfr
     ·exact absurd hc h3
    ·obtain⟨J,ω,p2,rfl,hsh2,ok2,eb2,hren⟩:=hJ;have hfin:=B.fin x p2 hren hsh2 ok2.wf hnx.1 hnx.2 eb2;have hok2:=ok2.len;refine⟨λw'=>Ex w w'/\∃l:Tx,qC w' b l/\l.length=t.hd/\l++p2.text=(t.rebind old nw x p2).text,aK ok ?_,λw5 hJ=>?_⟩
     ·cases t with
      | rcv a y p'=>
       simp only [T.kind];refine dc (by decide) ?_;have hl3:(3:Nat)<=4:=by omega
       refine⟨b,0,_,cap,rfl,by omega,by simp only [T.hd];omega,a,ω.at (i:=0) (by rw [W];simp only [T.hd];omega),ld ?_⟩;have l0:0< ((T.rcv a y p').text.take (T.rcv a y p').hd).length:=by rw [W];simp only [T.hd];omega
       have l2:2< ((T.rcv a y p').text.take (T.rcv a y p').hd).length:=by rw [W];simp only [T.hd];omega
       refine⟨b,0,_,cap,rfl,by omega,by omega,⟨⟨_,ω.at (i:=0) l0⟩,?_⟩,λw5 H=>?_⟩
       ·exact ω.fz 0 l0
       have G:=ω.set (i:=0) l0 (sw a old nw);have H:w5=w4.setCell ⟨b,0,none⟩ (.int .u8 (sw a old nw).toNat):=H;rw [<-H]at G;have l2':2< (((T.rcv a y p').text.take (T.rcv a y p').hd).set 0 (sw a old nw)).length:=by rw [LV];exact l2
       refine⟨b,0,_,cap,rfl,by omega,by omega,⟨⟨_,G.at (i:=2) l2'⟩,?_⟩,λw6 α=>?_⟩
       ·exact G.fz 2 l2'
       have υ:=G.set (i:=2) l2' x;have α:w6=w5.setCell ⟨b,2,none⟩ (.int .u8 x.toNat):=α;rw [<-α]at υ;exact⟨α▸(Ex.own (H▸J.own χ _) χ _),_,υ,by rw [LV,LV,W],rfl⟩
      | res y p'=>
       simp only [T.kind];refine aV (by decide) ?_;have l1:1< ((T.res y p').text.take (T.res y p').hd).length:=by rw [W];simp only [T.hd];omega
       refine⟨b,0,_,cap,rfl,by omega,by omega,⟨⟨_,ω.at (i:=1) l1⟩,?_⟩,λw5 H=>?_⟩
       ·exact ω.fz 1 l1
       have G:=ω.set (i:=1) l1 x;have H:w5=w4.setCell ⟨b,1,none⟩ (.int .u8 x.toNat):=H;rw [<-H]at G;exact⟨H▸(J.own χ _),_,G,by rw [LV,W],rfl⟩
      | _=>cases hq2
     ·obtain⟨I,l,G,hl5,e5⟩:=hJ;refine⟨b,0,_,cap,l,rfl,hl5,G.read,by omega,?_⟩;rw [e5];exact h _ _ I hfin
  ·
   have hw:=ok.wf;have fin:∀(p:P) (l:Tx) (mk:P->P),t.text.drop t.hd=p.text->Ok p->p.size<=n->Eb k p->k+p.bd<=64->l.length=t.hd->(∀q,iI k p old nw q->iI k t old nw (mk q)/\(mk q).text=l++q.text)->
     ∀w3,Ex w w3->qC w3 b l->∃φ:World->Prop,∀ν:World,ν=World.drew w3->φ ν/\∃(a212:Option Addr) (β cap214:Nat),(Value.slice (some ⟨b,0,none⟩) (List.length (List.take t.hd t.text)) cap)=Value.slice a212 β cap214/\(0<=((β:Int):Int)/\((β:Int):Int)<=List.length t.text)/\(∃(b215 o216 n217 cap218:Nat) (l219:ay),(Value.slice (some ⟨b,0,none⟩) (List.length (List.take t.hd t.text)) cap)=Value.slice (some ⟨b215,o216,none⟩) n217 cap218/\List.length l219=n217/\(∀(j:Nat) (x:UInt8),l219[j]?=some x->World.cell? ν ⟨b215,o216+j,none⟩=some (Value.int IntKind.u8 (UInt8.toNat x)))/\φ ν/\Calls Tryz.prog 153 #[(Value.string (ab (List.drop (Int.toNat (β:Int)) t.text))),(Value.int IntKind.u8 (UInt8.toNat old)),(Value.int IntKind.u8 (UInt8.toNat nw))] ν (ax [.s] fun(s220:ay) (w221:World)=>φ w221/\(List.length l219+List.length s220<=4611686018427387904)/\R ((l219++s220)) w221))/\(Calls Tryz.prog 153 #[(Value.string (ab (List.drop (Int.toNat (β:Int)) t.text))),(Value.int IntKind.u8 (UInt8.toNat old)),(Value.int IntKind.u8 (UInt8.toNat nw))] ν (ax [.s] fun(s222:ay) (w223:World)=>φ w223/\∃(b224 o225 n226 cap227:Nat) (l228:ay),(Value.slice (some ⟨b,0,none⟩) (List.length (List.take t.hd t.text)) cap)=Value.slice (some ⟨b224,o225,none⟩) n226 cap227/\List.length l228=n226/\(∀(j:Nat) (x:UInt8),l228[j]?=some x->World.cell? w223 ⟨b224,o225+j,none⟩=some (Value.int IntKind.u8 (UInt8.toNat x)))/\φ w223/\(List.length l228+List.length s222<=4611686018427387904)/\R ((l228++s222)) w223)):=by
    intro p l mk hdr okp hsz ebp hbp hll hmk w3 ε hb3;refine⟨λ _=>True,λw4 ς=>⟨trivial,_,_,_,rfl,by rw [W];omega,?_,?_⟩⟩
    ·have J:Ex w3 w4:=ς▸Ex.drew w3;rw [W,J9,hdr];refine⟨b,0,_,cap,l,rfl,hll,(hb3.ex J).read,trivial,ih hsz okp ebp hbp κ δ λq w5 I V=>⟨trivial,?_,?_⟩⟩
     ·have :=(V.y4 okp).len;omega
     ·obtain⟨h1,h2⟩:=hmk q V;rw [<-h2];exact h _ _ ((ε.trans J).trans I) h1
    ·have J:Ex w3 w4:=ς▸Ex.drew w3;rw [W,J9,hdr];refine ih hsz okp ebp hbp κ δ λq w5 I V=>⟨trivial,b,0,_,cap,l,rfl,hll,((hb3.ex J).ex I).read,trivial,?_,?_⟩
     ·have :=(V.y4 okp).len;omega
     ·obtain⟨h1,h2⟩:=hmk q V;rw [<-h2];exact h _ _ ((ε.trans J).trans I) h1
   have two:∀(p q:P) (mk:P->P->P),t.parts=[p,q]->(t.kind=43\/t.kind=38)->(∀p' q',iI k p old nw p'->iI k q old nw q'->iI k t old nw (mk p' q')/\(mk p' q').text=40::(p'.text++t.kind::(q'.text++[41]))/\Ok (mk p' q'))->Eb k p->Eb k q->k+p.bd<=64->k+q.bd<=64->
     Calls Tryz.prog 117 #[(Value.string (ab t.text))] w2 (ax [.v] fun(v165:Value) (w166:World)=>∃θ:World->Prop,∀w168:World,w168=World.drew w166->θ w168/\∃(b169 o170 len171 cap172:Nat),v165=Value.slice (some ⟨b169,o170,none⟩) len171 cap172/\0<=(0:Int)/\(0:Int)< len171/\∃s173:ay,(∀w',θ w'->World.cell? w' ⟨b169,(o170+Int.toNat 0* 1),none⟩=some (Value.string (ab s173)))/\∃(b174 o175 len176 cap177:Nat),v165=Value.slice (some ⟨b174,o175,none⟩) len176 cap177/\0<=(1:Int)/\(1:Int)< len176/\∃s178:ay,(∀w',θ w'->World.cell? w' ⟨b174,(o175+Int.toNat 1* 1),none⟩=some (Value.string (ab s178)))/\Calls Tryz.prog 153 #[(Value.string (ab s173)),(Value.int IntKind.u8 (UInt8.toNat old)),(Value.int IntKind.u8 (UInt8.toNat nw))] w168 (ax [.s] fun(s179:ay) (w180:World)=>θ w180/\Calls Tryz.prog 153 #[(Value.string (ab s178)),(Value.int IntKind.u8 (UInt8.toNat old)),(Value.int IntKind.u8 (UInt8.toNat nw))] w180 (ax [.s] fun(s181:ay) (w182:World)=>θ w182
 /\∀(b183:Nat) (w184:World),b183=Array.size (World.heap w182)->w184=World.alloc w182 (Obj.cells #[(Value.string (ab s179)),(Value.string (ab s181))] 9)->θ w184/\Calls Tryz.prog 193 #[(Value.string (ab t.text)),(Value.slice (some ⟨b183,0,none⟩) 2 2)] w184 (ax [.s] fun(s185:ay) (w186:World)=>θ w186/\R (s185) w186)))):=by
    intro p q mk γ hkind hmk ebp ebq hbp hbq;refine db ok λv w3 ε ψ=>?_
    rw [γ]at ψ;have ψ:Strs w3 v [p.text,q.text]:=ψ;have okp:=ok.parts p (by rw [γ];simp);have okq:=ok.parts q (by rw [γ];simp);have szp:p.size< t.size:=dV (by rw [γ];simp);have szq:q.size< t.size:=dV (by rw [γ];simp);obtain⟨b3,o3,cap3,e1,e2,_⟩:=ψ.at (i:=0) (by simp);have rd:∀w' (i:Nat) (x:Tx),Ex w3 w'->[p.text,q.text][i]?=some x->w'.cell? ⟨b3,o3+i* 1,none⟩=some (.string (ab x)):=by
     intro w' i x hx hi;obtain⟨hi',e⟩:=KX.1 hi;obtain⟨b',o',cap',e1',_,e3⟩:=(ψ.ex hx).at hi';rw [e1]at e1';cases e1';rw [KK,e3,e]
    refine⟨λw'=>Ex w3 w',λw4 ς=>?_⟩;have J:Ex w3 w4:=ς▸Ex.drew w3;refine⟨J,b3,o3,2,cap3,e1,by omega,by omega,p.text,λw' hx=>rd w' 0 _ hx rfl,b3,o3,2,cap3,e1,by omega,by omega,q.text,λw' hx=>rd w' 1 _ hx rfl,?_⟩;refine ih (by omega) okp ebp hbp κ δ λp' w5 I η=>⟨J.trans I,ih (by omega) okq ebq hbq κ δ λq' w6 ζ ι=>⟨(J.trans I).trans ζ,λb7 w7 hb7 hw7=>?_⟩⟩
    have ξ:Ex w6 w7:=hw7▸Ex.alloc w6 _;obtain⟨m1,m2,m3⟩:=hmk p' q' η ι;refine⟨((J.trans I).trans ζ).trans ξ,?_⟩;have μ:Strs w7 (.slice (some ⟨b7,0,none⟩) 2 2) [p'.text,q'.text]:=by
     refine .inr ⟨b7,0,2,rfl,by rw [hw7,size_alloc];omega,λi z hz=>?_⟩;rw [KF,hb7,hw7];refine aa ?_
     match i,hz with
     | 0,hz=>simp at hz|-;exact hz▸rfl
     | 1,hz=>simp at hz|-;exact hz▸rfl
     | i+2,hz=>simp at hz
    have hbase:Ex w w7:=(((ο.trans ε).trans (J.trans I)).trans ζ).trans ξ;refine DE ok μ (λ _=>⟨_,_,rfl,?_,λw8 hx8=>⟨?_,?_⟩⟩) (λh0=>absurd h0 hk0) λ _ h2 h3=>absurd hkind (by simp [h2,h3])
    ·have :=(η.y4 okp).len;have e:=Lb List.length m2;have hml:=m3.len;simp only [J0,J',Kh]at e;omega
    ·exact(((J.trans I).trans ζ).trans ξ).trans hx8
    ·rw [<-m2];exact h _ _ (hbase.trans hx8) m1
   cases t with
   | nil=>exact hfr.elim
   | rcv a x p=>cases hq2
   | res x p=>cases hq2
   | tau p=>
    simp only [T.wf]at hw;simp only [T.text,J0]at hlen;refine⟨λw'=>Ex w w'/\qC w' b [126,46],aK ok ?_,λw3 hJ=>fin p [126,46] .tau rfl ⟨hw,by omega⟩ (by simp only [T.size]at hn;omega) eb hbd rfl (λq V=>⟨⟨aC.tau V.ok,?_,V.wf,V.eb⟩,rfl⟩) w3 hJ.1 hJ.2⟩
    ·simp only [T.kind]
     repeat' first | refine aV (by decide) ?_ | refine dc (by decide) ?_
     exact⟨ο,Z⟩
    ·show T.tau q.shp=T.tau p.shp;rw [V.shp]
   | rep p=>
    simp only [T.wf]at hw;simp only [T.text,J0]at hlen;refine⟨λw'=>Ex w w'/\qC w' b [42],aK ok ?_,λw3 hJ=>fin p [42] .rep rfl ⟨hw,by omega⟩ (by simp only [T.size]at hn;omega) eb hbd rfl (λq V=>⟨⟨aC.rep V.ok,?_,V.wf,V.eb⟩,rfl⟩) w3 hJ.1 hJ.2⟩
    ·simp only [T.kind]
     repeat' first | refine aV (by decide) ?_ | refine dc (by decide) ?_
     exact⟨ο,Z⟩
    ·show T.rep q.shp=T.rep p.shp;rw [V.shp]
   | snd a c p=>
    simp only [T.wf,J3]at hw;simp only [T.text,J0]at hlen;refine⟨λw'=>Ex w w'/\qC w' b [sw a old nw,33,sw c old nw,46],aK ok ?_,λw3 hJ=>fin p [sw a old nw,33,sw c old nw,46] (.snd (sw a old nw) (sw c old nw)) rfl ⟨hw.2,by omega⟩ (by simp only [T.size]at hn;omega) eb.2.2 hbd rfl (λq V=>⟨⟨aC.snd a c V.ok,?_,?_,⟨tC eb.1 δ,tC eb.2.1 δ,V.eb⟩⟩,rfl⟩) w3 hJ.1 hJ.2⟩
    ·simp only [T.kind];refine dc (by decide) ?_;have Z:qC w2 b [a,33,c,46]:=Z;refine⟨b,0,_,cap,rfl,by omega,by rw [W];simp only [T.hd];omega,a,Z.at (i:=0) (by simp),ld ?_⟩;refine⟨b,0,_,cap,rfl,by omega,by rw [W];simp only [T.hd];omega,⟨⟨_,Z.at (i:=0) (by simp)⟩,Z.fz 0 (by simp)⟩,λw5 H=>?_⟩;have G:=Z.set (i:=0) (by simp) (sw a old nw);have H:w5=w2.setCell ⟨b,0,none⟩ (.int .u8 (sw a old nw).toNat):=H;rw [<-H]at G;refine⟨b,0,_,cap,rfl,by omega,by rw [W];simp only [T.hd];omega,c,G.at (i:=2) (by simp),ld ?_⟩;refine⟨b,0,_,cap,rfl,by omega,by rw [W];simp only [T.hd];omega,⟨⟨_,G.at (i:=2) (by simp)⟩,G.fz 2 (by simp)⟩,λw6 α=>?_⟩;have υ:=G.set (i:=2) (by simp) (sw c old nw);have α:w6=w5.setCell ⟨b,2,none⟩ (.int .u8 (sw c old nw).toNat):=α;rw [<-α]at υ;exact⟨α▸(Ex.own (H▸ο.own χ _) χ _),υ⟩
    ·show T.snd () () q.shp=T.snd () () p.shp;rw [V.shp]
    ·simp [T.wf,yB hw.1.1 κ,yB hw.1.2 κ,V.wf]
   | mat a c p=>
    simp only [T.wf,J3]at hw;simp only [T.text,J0]at hlen;refine⟨λw'=>Ex w w'/\qC w' b [91,sw a old nw,61,sw c old nw,93],aK ok ?_,λw3 hJ=>fin p [91,sw a old nw,61,sw c old nw,93] (.mat (sw a old nw) (sw c old nw)) rfl ⟨hw.2,by omega⟩ (by simp only [T.size]at hn;omega) eb.2.2 hbd rfl (λq V=>⟨⟨aC.mat a c V.ok,?_,?_,⟨tC eb.1 δ,tC eb.2.1 δ,V.eb⟩⟩,rfl⟩) w3 hJ.1 hJ.2⟩
    ·simp only [T.kind];refine aV (by decide) (dc (by decide) ?_);have Z:qC w2 b [91,a,61,c,93]:=Z;refine⟨b,0,_,cap,rfl,by omega,by rw [W];simp only [T.hd];omega,a,Z.at (i:=1) (by simp),ld ?_⟩;refine⟨b,0,_,cap,rfl,by omega,by rw [W];simp only [T.hd];omega,⟨⟨_,Z.at (i:=1) (by simp)⟩,Z.fz 1 (by simp)⟩,λw5 H=>?_⟩;have G:=Z.set (i:=1) (by simp) (sw a old nw);have H:w5=w2.setCell ⟨b,1,none⟩ (.int .u8 (sw a old nw).toNat):=H;rw [<-H]at G;refine⟨b,0,_,cap,rfl,by omega,by rw [W];simp only [T.hd];omega,c,G.at (i:=3) (by simp),ld ?_⟩;refine⟨b,0,_,cap,rfl,by omega,by rw [W];simp only [T.hd];omega,⟨⟨_,G.at (i:=3) (by simp)⟩,G.fz 3 (by simp)⟩,λw6 α=>?_⟩;have υ:=G.set (i:=3) (by simp) (sw c old nw);have α:w6=w5.setCell ⟨b,3,none⟩ (.int .u8 (sw c old nw).toNat):=α;rw [<-α]at υ;exact⟨α▸(Ex.own (H▸ο.own χ _) χ _),υ⟩
    ·show T.mat () () q.shp=T.mat () () p.shp;rw [V.shp]
    ·simp [T.wf,yB hw.1.1 κ,yB hw.1.2 κ,V.wf]
   | sum p q=>
    simp only [T.bd]at hbd;have hwf:=hw;simp only [T.wf,J3]at hw;refine⟨λ _=>False,aK ok ?_,λw3 hJ=>hJ.elim⟩;simp only [T.kind];refine aV (by decide) (aV (by decide) (dc (by decide) (dc (by decide) ?_)));refine two p q .sum rfl (.inl rfl) (λp' q' η ι=>?_) eb.1 eb.2 (by omega) (by omega);have hs:(T.sum p' q').shp=(T.sum p q).shp:=by show T.sum p'.shp q'.shp=T.sum p.shp q.shp;rw [η.shp,ι.shp]
    have hr:iI k (.sum p q) old nw (.sum p' q'):=⟨aC.sum η.ok ι.ok,hs,by simp [T.wf,η.wf,ι.wf],⟨η.eb,ι.eb⟩⟩
    exact⟨hr,rfl,hr.y4 ok⟩
   | par p q=>
    simp only [T.bd]at hbd;have hwf:=hw;simp only [T.wf,J3]at hw;refine⟨λ _=>False,aK ok ?_,λw3 hJ=>hJ.elim⟩;simp only [T.kind];refine aV (by decide) (aV (by decide) (aV (by decide) (dc (by decide) ?_)));refine two p q .par rfl (.inr rfl) (λp' q' η ι=>?_) eb.1 eb.2 (by omega) (by omega);have hs:(T.par p' q').shp=(T.par p q).shp:=by show T.par p'.shp q'.shp=T.par p.shp q.shp;rw [η.shp,ι.shp]
    have hr:iI k (.par p q) old nw (.par p' q'):=⟨aC.par η.ok ι.ok,hs,by simp [T.wf,η.wf,ι.wf],⟨η.eb,ι.eb⟩⟩
    exact⟨hr,rfl,hr.y4 ok⟩
end Go.Proofs.YtdecokaadekjnaaGreat
namespace Go.Proofs.YtdecokaadekjnaaGreat
section
variable {A B:Type} [DecidableEq A] [DecidableEq B]
open Classical
namespace T
def strip:T A->T A
 | mat a b p=>if a=b then p.strip else mat a b p
 | p=>p
noncomputable def peel:T A->T A
 | mat a b p=>if a=b then p.peel else mat a b p
 | sum p q=>if p.dead then q.peel else if q.dead then p.peel else sum p q
 | par p q=>if p.dead then q.peel else if q.dead then p.peel else par p q
 | res x p=>if p.Us x then res x p else p.peel
 | p=>p
theorem tZ:∀p:T A,p.strip.dead=p.dead
 | mat a b p=>by
  unfold strip;split
  ·rw [tZ p];rfl
  ·rfl
 | nil=>rfl | snd .. =>rfl | rcv .. =>rfl | tau .. =>rfl | sum .. =>rfl | par .. =>rfl | res .. =>rfl | rep .. =>rfl
theorem xB (x:A):∀p:T A,p.strip.Us x↔p.Us x
 | mat a b p=>by
  unfold strip;split
  ·rename_i h;rw [xB x p];simp [Us,h]
  ·rfl
 | nil=>M5 | snd .. =>M5 | rcv .. =>M5 | tau .. =>M5 | sum .. =>M5 | par .. =>M5 | res .. =>M5 | rep .. =>M5
theorem od:∀p:T A,p.strip.size<=p.size
 | mat a b p=>by
  unfold strip;split
  ·have :=od p;simp only [size];omega
  ·exact Kb _
 | nil=>Kb _ | snd .. =>Kb _ | rcv .. =>Kb _ | tau .. =>Kb _ | sum .. =>Kb _ | par .. =>Kb _ | res .. =>Kb _ | rep .. =>Kb _
theorem pM:∀(p:T A) (a b:A) (q:T A),p.strip=mat a b q->a≠b
 | mat a b p,c,d,q,h=>by
  unfold strip at h;split at h
  ·exact pM p c d q h
  ·cases h;assumption
 | nil,_,_,_,h=>by cases h
 | snd ..,_,_,_,h=>by cases h
 | rcv ..,_,_,_,h=>by cases h
 | tau ..,_,_,_,h=>by cases h
 | sum ..,_,_,_,h=>by cases h
 | par ..,_,_,_,h=>by cases h
 | res ..,_,_,_,h=>by cases h
 | rep ..,_,_,_,h=>by cases h
theorem iw (Q:T A->Prop)(hm:∀a p,Q (mat a a p)->Q p)(H:∀p q,Q (sum p q)->Q p/\Q q)(I:∀p q,Q (par p q)->Q p/\Q q)(hr:∀x p,¬p.Us x->Q (res x p)->Q p):∀p:T A,Q p->Q p.peel:=by
 intro p
 induction p with
 | mat a b p z=>
  intro h;unfold peel;split
  ·rename_i e;subst e;exact z (hm a p h)
  ·exact h
 | sum p q z G=>
  intro h;unfold peel;split
  ·exact G (H p q h).2
  ·split
   ·exact z (H p q h).1
   ·exact h
 | par p q z G=>
  intro h;unfold peel;split
  ·exact G (I p q h).2
  ·split
   ·exact z (I p q h).1
   ·exact h
 | res x p z=>
  intro h;unfold peel;split
  ·exact h
  ·rename_i e;exact z (hr x p e h)
 | nil=>exact id
 | snd=>exact id
 | rcv=>exact id
 | tau=>exact id
 | rep=>exact id
theorem mN:∀p:T A,p.peel.dead=p.dead:=by
 intro p
 induction p with
 | mat a b p G=>unfold peel;split<;>simp_all [dead]
 | sum p q G z=>
  unfold peel;split
  ·rename_i h;rw [z];simp [dead,h]
  ·split
   ·rename_i h H;rw [G];simp [dead,H]
   ·rfl
 | par p q G z=>
  unfold peel;split
  ·rename_i h;rw [z];simp [dead,h]
  ·split
   ·rename_i h H;rw [G];simp [dead,H]
   ·rfl
 | res x p G=>
  unfold peel;split
  ·rfl
  ·rw [G];rfl
 | nil=>rfl
 | snd=>rfl
 | rcv=>rfl
 | tau=>rfl
 | rep=>rfl
def dC:T A->Prop
 | mat a b _=>a≠b
 | sum p q=>p.dead=false/\q.dead=false
 | par p q=>p.dead=false/\q.dead=false
 | res x p=>p.Us x
 | _=>True
theorem lN:∀p:T A,p.peel.dC:=by
 intro p
 induction p with
 | mat a b p G=>unfold peel;split<;>assumption
 | sum p q G z=>
  unfold peel;split
  ·exact z
  ·split
   ·exact G
   ·rename_i h H;exact⟨by simpa using h,by simpa using H⟩
 | par p q G z=>
  unfold peel;split
  ·exact z
  ·split
   ·exact G
   ·rename_i h H;exact⟨by simpa using h,by simpa using H⟩
 | res x p G=>unfold peel;split<;>assumption
 | nil=>trivial
 | snd=>trivial
 | rcv=>trivial
 | tau=>trivial
 | rep=>trivial
theorem vj (p:T A):p.peel.size<=p.size:=
 iw (λq=>q.size<=p.size) (λa q h=>by simp only [size]at h;omega) (λq r h=>by simp only [size]at h;omega) (λq r h=>by simp only [size]at h;omega) (λx q _ h=>by simp only [size]at h;omega) p (Kb _)
theorem Fb (p:T A):p.peel.ow<=p.ow:=
 iw (λq=>q.ow<=p.ow) (λa q h=>h) (λq r h=>by simp only [ow]at h;omega) (λq r h=>by simp only [ow]at h;omega) (λx q _ h=>by simp only [ow]at h;omega) p (Kb _)
theorem A7 (x:A):∀p:T A,p.peel.Us x↔p.Us x:=by
 intro p
 induction p with
 | mat a b p G=>
  unfold peel;split
  ·rename_i h;rw [G];simp [Us,h]
  ·rfl
 | sum p q G H=>
  unfold peel;split
  ·rename_i h;rw [H];exact⟨.inr,λz=>z.elim (λz=>absurd z (bI h)) id⟩
  ·split
   ·rename_i h z;rw [G];exact⟨.inl,λk=>k.elim id (λk=>absurd k (bI z))⟩
   ·rfl
 | par p q G H=>
  unfold peel;split
  ·rename_i h;rw [H];exact⟨.inr,λz=>z.elim (λz=>absurd z (bI h)) id⟩
  ·split
   ·rename_i h z;rw [G];exact⟨.inl,λk=>k.elim id (λk=>absurd k (bI z))⟩
   ·rfl
 | res y p G=>
  unfold peel;split
  ·rfl
  ·rename_i h;rw [G];refine⟨λk=>⟨λe=>h (e▸k),k⟩,λk=>k.2⟩
 | nil=>rfl
 | snd=>rfl
 | rcv=>rfl
 | tau=>rfl
 | rep=>rfl
end T
end
open Classical
theorem e9.sub {A:Type}[DecidableEq A]{ρ:A->Nat}{p q:T A}(h:e9 ρ p)(z:∀x,q.Us x->p.Us x):e9 ρ q:=λx y G H=>h x y (z x G) (z y H)
theorem Gg (u:U)(h:Uq u):Uq u.peel:=
 T.iw Uq (λ _ _ h=>h.mat) (λ _ _ h=>⟨h.ec,h.dL⟩) (λ _ _ h=>⟨h.fT,h.fM⟩) (λ _ _ _ h=>h.res) u h
theorem A9 (u:U):∀x∈BV u.peel,x∈BV u:=
 T.iw (λq=>∀x∈BV q,x∈BV u) (λ _ _ h=>h) (λ _ _ h=>⟨λx z=>h x (KH _ z),λx z=>h x (KB _ z)⟩)
  (λ _ _ h=>⟨λx z=>h x (KH _ z),λx z=>h x (KB _ z)⟩) (λ _ _ _ h=>λx z=>h x (Ki _ z)) u (λx h=>h)
theorem dj:∀u:U,Uq u->u.dead=true->ak u=([],[])
 | .nil,_,_=>rfl
 | .snd ..,_,h=>by cases h
 | .rcv ..,_,h=>by cases h
 | .tau ..,_,h=>by cases h
 | .sum p q,hu,h=>by
  simp only [T.dead,J3]at h;simp only [ak,h.1,LN];exact dj q hu.dL h.2
 | .par p q,hu,h=>by
  simp only [T.dead,J3]at h;simp [ak,dj p hu.fT h.1,dj q hu.fM h.2]
 | .res x p,hu,h=>by
  have hd:p.dead=true:=h;simp [ak,dj p hu.res hd,mM hd,Lv.has]
 | .mat a b p,hu,h=>by
  have hd:p.dead=true:=h;simp only [ak,hd,LN,dj p hu.mat hd];split<;>rfl
 | .rep p,hu,h=>by
  have hd:p.dead=true:=h;simp [ak,hd]
theorem pA:∀u:U,Uq u->ak u.peel=ak u:=by
 intro u
 induction u with
 | nil=>intro _;rfl
 | snd=>intro _;rfl
 | rcv=>intro _;rfl
 | tau=>intro _;rfl
 | rep=>intro _;rfl
 | mat a b p z=>
  intro h;unfold T.peel;split
  ·rename_i e;rw [z h.mat];simp [ak,e]
  ·rfl
 | sum p q z G=>
  intro h;unfold T.peel;split
  ·rename_i e;rw [G h.dL];simp [ak,e]
  ·split
   ·rename_i e H;rw [z h.ec];simp [ak,e,H]
   ·rfl
 | par p q z G=>
  intro h;unfold T.peel;split
  ·rename_i e;rw [G h.fM];simp [ak,dj p h.fT e]
  ·split
   ·rename_i e H;rw [z h.fT];simp [ak,dj q h.fM H]
   ·rfl
 | res x p z=>
  intro h;unfold T.peel;split
  ·rfl
  ·rename_i e;rw [z h.res];have:¬(td p).2.has x=true:=λI=>e ((fS p x h.fZ).1 I)
   simp [ak,this]
theorem Hk {p:T UInt8}{u:U}{ρ:UInt8->Nat}{σ:Nat->Nat}{x:UInt8}{y:Nat}(h:∀v,AE (aF ρ x v) p (aF σ y v) u)(Z:e9 ρ (.res x p))(hj:e9 σ (.res y u)):p.Us x↔u.Us y:=by
 obtain⟨v,W,h2⟩:=cw p u ρ σ;have G:e9 (aF ρ x v) p:= .aF (λa b ha hb h5 J=>Z a b ⟨ha,h5⟩ ⟨hb,J⟩) λa _ ha=>W a (T.bG ha)
 have H:e9 (aF σ y v) u:= .aF (λa b ha hb h5 J=>hj a b ⟨ha,h5⟩ ⟨hb,J⟩) λa _ ha=>h2 a (T.bG ha)
 constructor
 ·intro hx;obtain⟨z,I,e⟩:=(h v).used G H x hx;rw [df]at e;unfold aF at e;split at e
  ·rename_i V;exact V▸I
  ·exact absurd e (h2 z (T.bG I))
 ·intro hy;obtain⟨z,I,e⟩:=(h v).symm.used H G y hy;rw [df]at e;unfold aF at e;split at e
  ·rename_i V;exact V▸I
  ·exact absurd e (W z (T.bG I))
theorem AE.Fs {p:T UInt8}{u:U}{ρ:UInt8->Nat}{σ:Nat->Nat}{a b:UInt8}{c d:Nat}(h:AE ρ (.mat a b p) σ (.mat c d u))(H:e9 ρ (.mat a b p))(I:e9 σ (.mat c d u))(hd:p.dead=false):a=b↔c=d:=by
 have G:u.dead=false:=h.2.2.dead▸hd;constructor
 ·rintro rfl
  refine K1 λz=>z (I c d (.inr ⟨z,G,.inl rfl⟩) (.inr ⟨z,G,.inr (.inl rfl)⟩) (h.1.symm.trans h.2.1))
 ·rintro rfl
  refine K1 λz=>z (H a b (.inr ⟨z,hd,.inl rfl⟩) (.inr ⟨z,hd,.inr (.inl rfl)⟩) (h.1.trans h.2.1.symm))
theorem AE.peel:∀{p:T UInt8} {u:U} {ρ:UInt8->Nat} {σ:Nat->Nat},AE ρ p σ u->e9 ρ p->e9 σ u->Uq u->p.dead=false->
  ∃G,AE ρ p.peel G u.peel/\∀y,y∉BV u->G y=σ y:=by
 intro p
 induction p<;>intro u ρ σ h hi hj hu hd<;>cases u<;>simp only [AE]at h
 case nil.nil=>exact⟨σ,trivial,λ _ _=>rfl⟩
 case snd.snd=>exact⟨σ,h,λ _ _=>rfl⟩
 case rcv.rcv=>exact⟨σ,h,λ _ _=>rfl⟩
 case tau.tau=>exact⟨σ,h,λ _ _=>rfl⟩
 case rep.rep=>exact⟨σ,h,λ _ _=>rfl⟩
 case mat.mat a b p ih c d u=>
  have J:=AE.Fs (p:=p) (u:=u) h hi hj hd;unfold T.peel;by_cases e:a=b
  ·rw [KG e,KG (J.1 e)];exact ih h.2.2 (hi.sub λx H=> .inl ⟨e,H⟩) (hj.sub λx H=> .inl ⟨J.1 e,H⟩) hu.mat hd
  ·rw [Ko e,Ko λh'=>e (J.2 h')];exact⟨σ,h,λ _ _=>rfl⟩
 case sum.sum p q ih α u v=>
  have h1:=h.1.dead;have h2:=h.2.dead;unfold T.peel;rw [<-h1,<-h2];by_cases e:p.dead=true
  ·rw [KG e,KG e];obtain⟨G,W,Z⟩:=α h.2 (hi.sub λx H=> .inr H) (hj.sub λx H=> .inr H) hu.dL (by simpa [T.dead,e]using hd);exact⟨G,W,λy hy=>Z y λI=>hy (KB _ I)⟩
  ·rw [Ko e,Ko e];by_cases V:q.dead=true
   ·rw [KG V,KG V];obtain⟨G,W,Z⟩:=ih h.1 (hi.sub λx H=> .inl H) (hj.sub λx H=> .inl H) hu.ec (by simpa using e);exact⟨G,W,λy hy=>Z y λI=>hy (KH _ I)⟩
   ·rw [Ko V,Ko V];exact⟨σ,h,λ _ _=>rfl⟩
 case par.par p q ih α u v=>
  have h1:=h.1.dead;have h2:=h.2.dead;unfold T.peel;rw [<-h1,<-h2];by_cases e:p.dead=true
  ·rw [KG e,KG e];obtain⟨G,W,Z⟩:=α h.2 (hi.sub λx H=> .inr H) (hj.sub λx H=> .inr H) hu.fM (by simpa [T.dead,e]using hd);exact⟨G,W,λy hy=>Z y λI=>hy (KB _ I)⟩
  ·rw [Ko e,Ko e];by_cases V:q.dead=true
   ·rw [KG V,KG V];obtain⟨G,W,Z⟩:=ih h.1 (hi.sub λx H=> .inl H) (hj.sub λx H=> .inl H) hu.fT (by simpa using e);exact⟨G,W,λy hy=>Z y λI=>hy (KH _ I)⟩
   ·rw [Ko V,Ko V];exact⟨σ,h,λ _ _=>rfl⟩
 case res.res x p ih y u=>
  have β:=Hk (p:=p) (u:=u) h hi hj;unfold T.peel;by_cases e:p.Us x
  ·rw [KG e,KG (β.1 e)];exact⟨σ,h,λ _ _=>rfl⟩
  ·have V:¬u.Us y:=λh'=>e (β.2 h')
   rw [Ko e,Ko V];have hv:=h (ρ x);have hv:AE ρ p (aF σ y (ρ x)) u:=hv.congr (λz _=>by unfold aF;split<;>simp_all) λ _ _=>rfl
   obtain⟨G,W,Z⟩:=ih hv (λa b ha hb=>hi a b ⟨λhh=>e (hh▸ha),ha⟩ ⟨λhh=>e (hh▸hb),hb⟩)
    (λa b ha hb J=>by
     have na:a≠y:=λhh=>V (hh▸ha)
     have nb:b≠y:=λhh=>V (hh▸hb)
     rw [bS _ _ na,bS _ _ nb]at J;exact hj a b ⟨na,ha⟩ ⟨nb,hb⟩ J) hu.res hd
   refine⟨G,W,λz hz=>?_⟩;simp only [BV,Ks,NI]at hz;rw [Z z hz.2,bS _ _ hz.1]
structure Bd (k:Nat)(p:P):Prop where
 eb:Eb k p
 le:k+p.rd+p.ow<=64
theorem Bd.bd {k:Nat}{p:P}(h:Bd k p):k+p.bd<=64:=by have :=T.xV p;have :=h.le;omega
theorem Bd.peel {k:Nat}{p:P}(h:Bd k p):∃m,k<=m/\Bd m p.peel:=by
 refine T.iw (λq=>∃m,k<=m/\Bd m q) ?_ ?_ ?_ ?_ p ⟨k,Kb k,h⟩
 ·rintro a q ⟨m,hm,hb⟩;exact⟨m,hm,hb.eb.2.2,hb.le⟩
 ·rintro q r ⟨m,hm,hb⟩
  have :=hb.le;simp only [T.rd,T.ow]at this;exact⟨⟨m,hm,hb.eb.1,by omega⟩,⟨m,hm,hb.eb.2,by omega⟩⟩
 ·rintro q r ⟨m,hm,hb⟩
  have :=hb.le;simp only [T.rd,T.ow]at this;exact⟨⟨m,hm,hb.eb.1,by omega⟩,⟨m,hm,hb.eb.2,by omega⟩⟩
 ·rintro x q _ ⟨m,hm,hb⟩
  have :=hb.le;simp only [T.rd,T.ow]at this;exact⟨m+1,by omega,hb.eb.2,by omega⟩
theorem FO {p:P}(h:p.wf=true):p.peel.wf=true:=
 T.iw (λq=>q.wf=true) (λ _ _ h=>by simp only [T.wf,J3]at h;exact h.2) (λ _ _ h=>by simpa only [T.wf,J3]using h)
  (λ _ _ h=>by simpa only [T.wf,J3]using h) (λ _ _ _ h=>by simp only [T.wf,J3]at h;exact h.2) p h
theorem BW (p:P):p.peel.aH<=p.aH:=
 T.iw (λq=>q.aH<=p.aH) (λ _ _ h=>by simp only [T.aH]at h;omega) (λ _ _ h=>by simp only [T.aH]at h;omega) (λ _ _ h=>by simp only [T.aH]at h;omega) (λ _ _ _ h=>by simp only [T.aH]at h;omega) p (Kb _)
end Go.Proofs.YtdecokaadekjnaaGreat
namespace Go.Proofs.YtdecokaadekjnaaGreat
open Go
set_option maxRecDepth 100000
theorem rf (H:ay)(w:World)(R:ay->World->Prop)(h:JM H w λV I z J=>bO J λW Z=>gY 120 #[(.string (ab z))] Z λc8 G=>W G/\ai (decide (c8=61)) ((0<=(1:Int)/\(1:Int)< z.length)/\(0<=(3:Int)/\(3:Int)< z.length)/\ai (decide ((bt z (Int.toNat 1))=(bt z (Int.toNat 3)))) ((0<=(5:Int)/\(5:Int)<=z.length)/\V ((List.drop (Int.toNat 5) z)) G/\I ((List.drop (Int.toNat 5) z)) G< I z J) (R z G)) (R z G)):
  Calls Tryz.prog 245 #[(.string (ab H))] w (ax [.s] R):=
 bs (bn [(1,[(0,.s)])] [] []) [.tmp 2 .s] [.s H] Tryz.func245 (by kernel_rfl) h
theorem sj (p1:ay)(w:World)(R:Bool->World->Prop)(h:bw 245 #[(.string (ab p1))] w λs2 w3=>gY 120 #[(.string (ab s2))] w3 λc4 W=>ai (decide (c4=48)) (R true W) (ai (decide (c4=33)) (ai (decide (c4=33)) (R false W) (cB 117 #[(.string (ab s2))] W λv6 w7=>bM v6 λl9=>eM 0 w7 λθ γ z I=>ai (decide (z< (l9:Int))) (aJ v6 z λι κ=>bZ I ι (κ+z.toNat* 1) λμ=>ck 246 #[(.string (ab μ))] I λν Z=>ai (!ν) (R false Z) (aj (z+1)/\θ (z+1) Z/\γ (z+1) Z< γ z I)) (R true I))) (ai (decide (c4=63)) (ai (decide (c4=63)) (R false W) (cB 117 #[(.string (ab s2))] W λδ ξ=>bM δ λο=>eM 0 ξ λς ε G J=>ai (decide (G< (ο:Int))) (aJ δ G λυ φ=>bZ J υ (φ+G.toNat* 1) λχ=>ck 246 #[(.string (ab χ))] J λψ α=>ai (!ψ) (R false α) (aj (G+1)/\ς (G+1) α/\ε (G+1) α< ε G J)) (R true J))) (ai (decide (c4=126)) (R false W) (cB 117 #[(.string (ab s2))] W λζ ω=>bM ζ λl41=>eM 0 ω λI43 η H V=>ai (decide (H< (l41:Int))) (aJ ζ H λb47 o48=>bZ V b47 (o48+H.toNat* 1) λs51=>ck 246 #[(.string (ab s51))] V λq52 β=>ai (!q52) (R false β) (aj (H+1)/\I43 (H+1) β/\η (H+1) β< η H V)) (R true V)))))):
  Calls Tryz.prog 246 #[(.string (ab p1))] w (ax [.b] R):=
 bs (bn [(10,[(18,.i)])] [] []) [.tmp 2 .b] [.s p1] Tryz.func246 (by kernel_rfl) h
theorem sd (p1:ay)(w:World)(R:ay->World->Prop)(h:bw 245 #[(.string (ab p1))] w λs2 w3=>ck 246 #[(.string (ab s2))] w3 λq4 w5=>ai q4 (R ([]) w5) (cB 117 #[(.string (ab s2))] w5 λv6 w7=>bM v6 λl9=>kY ([]) 0 w7 λν γ H z I=>ai (decide (z< (l9:Int))) (aJ v6 z λb16 ξ=>bZ I b16 (ξ+z.toNat* 1) λο=>bw 225 #[(.string (ab ο))] I λς υ=>bw 104 #[(.string (ab H)),(.string (ab ς))] υ λδ w24=>aj (z+1)/\ν δ (z+1) w24/\γ δ (z+1) w24< γ H z I) (∃W:ay->World->Prop,(Fu 118 #[(.string (ab s2))] I λφ χ ε=>ai χ (bw 119 #[(.string (ab H)),(.int .u8 φ.toNat)] ε λψ ω=>W ψ ω) (W H ε))/\∀(ζ:ay) (jm:World),W ζ jm->bw 247 #[(.string (ab s2))] jm λZ η=>∀(J θ:Nat) (α:World),J=Array.size (World.heap η)->iC α 5 J Z->World.grownBy η α none->bM (.slice (some ⟨J,0,none⟩) (Z.length) θ) λl39=>kY ζ 0 α λI41 ι β G V=>ai (decide (G< (l39:Int))) (aJ (.slice (some ⟨J,0,none⟩) (Z.length) θ) G λb46 o47=>gg V b46 (o47+G.toNat* 1) λc50=>bw 121 #[(.string (ab β)),(.int .u8 c50.toNat)] V λκ μ=>aj (G+1)/\I41 κ (G+1) μ/\ι κ (G+1) μ< ι β G V) (R β V)))):
  Calls Tryz.prog 225 #[(.string (ab p1))] w (ax [.s] R):=
 bs (bn [(6,[(3,.s),(17,.i)]),(14,[(3,.s),(39,.i)])] [(13,[(3,.s)])] []) [.tmp 2 .s] [.s p1] Tryz.func225 (by kernel_rfl) h
theorem tD (p1:ay)(w:World)(R:ay->World->Prop)(h:JM p1 w λI2 H W Z=>bw 245 #[(.string (ab W))] Z λz w7=>cB 117 #[(.string (ab z))] w7 λI w9=>gY 120 #[(.string (ab z))] w9 λG V=>iz (decide (G=38)) (ai (decide (G=43)) (aJ I 0 λb12 o13=>bZ V b12 (o13+Int.toNat 0* 1) λs16=>ck 246 #[(.string (ab s16))] V λq17 α=>ai q17 (aJ I 1 λb19 o20=>bZ α b19 (o20+Int.toNat 1* 1) λs23=>I2 s23 α/\H s23 α< H W Z) (iz (decide (G=38)) (ai (decide (G=43)) (aJ I 1 λb24 o25=>bZ α b24 (o25+Int.toNat 1* 1) λs28=>ck 246 #[(.string (ab s28))] α λq29 w30=>ai q29 (aJ I 0 λb31 o32=>bZ w30 b31 (o32+Int.toNat 0* 1) λs35=>I2 s35 w30/\H s35 w30< H W Z) (bO w30 λS36 w37=>ai (decide (G=35)) (aJ I 0 λb38 o39=>iq S36 b38 (o39+Int.toNat 0* 1) λs42=>(0<=(1:Int)/\(1:Int)< z.length)/\bw 225 #[(.string (ab s42))] w37 λs43 w44=>S36 w44/\ck 56 #[(.string (ab s43)),(.int .u8 (UInt8.toNat (bt z (Int.toNat 1))))] w44 λq45 ν=>S36 ν/\ai (!q45) (aJ I 0 λb47 o48=>bZ ν b47 (o48+Int.toNat 0* 1) λs51=>I2 s51 ν/\H s51 ν< H W Z) (R z ν)) (R z w37))) (bO α λS52 w53=>ai (decide (G=35)) (aJ I 0 λb54 o55=>iq S52 b54 (o55+Int.toNat 0* 1) λs58=>(0<=(1:Int)/\(1:Int)< z.length)/\bw 225 #[(.string (ab s58))] w53 λs59 w60=>S52 w60/\ck 56 #[(.string (ab s59)),(.int .u8 (UInt8.toNat (bt z (Int.toNat 1))))] w60 λq61 ξ=>S52 ξ/\ai (!q61) (aJ I 0 λb63 o64=>bZ ξ b63 (o64+Int.toNat 0* 1) λs67=>I2 s67 ξ/\H s67 ξ< H W Z) (R z ξ)) (R z w53))) (aJ I 1 λb68 o69=>bZ α b68 (o69+Int.toNat 1* 1) λs72=>ck 246 #[(.string (ab s72))] α λq73 w74=>ai q73 (aJ I 0 λb75 o76=>bZ w74 b75 (o76+Int.toNat 0* 1) λs79=>I2 s79 w74/\H s79 w74< H W Z) (bO w74 λS80 w81=>ai (decide (G=35)) (aJ I 0 λb82 o83=>iq S80 b82 (o83+Int.toNat 0* 1) λs86=>(0<=(1:Int)/\(1:Int)< z.length)/\bw 225 #[(.string (ab s86))] w81 λs87 w88=>S80 w88/\ck 56 #[(.string (ab s87)),(.int .u8 (UInt8.toNat (bt z (Int.toNat 1))))] w88 λq89 ο=>S80 ο/\ai (!q89) (aJ I 0 λb91 o92=>bZ ο b91 (o92+Int.toNat 0* 1) λs95=>I2 s95 ο/\H s95 ο< H W Z) (R z ο)) (R z w81))))) (iz (decide (G=38)) (ai (decide (G=43)) (aJ I 1 λb96 o97=>bZ V b96 (o97+Int.toNat 1* 1) λs100=>ck 246 #[(.string (ab s100))] V λq101 θ=>ai q101 (aJ I 0 λb103 o104=>bZ θ b103 (o104+Int.toNat 0* 1) λs107=>I2 s107 θ/\H s107 θ< H W Z) (bO θ λς w109=>ai (decide (G=35)) (aJ I 0 λb110 o111=>iq ς b110 (o111+Int.toNat 0* 1) λs114=>(0<=(1:Int)/\(1:Int)< z.length)/\bw 225 #[(.string (ab s114))] w109 λs115 w116=>ς w116/\ck 56 #[(.string (ab s115)),(.int .u8 (UInt8.toNat (bt z (Int.toNat 1))))] w116 λq117 β=>ς β/\ai (!q117) (aJ I 0 λb119 o120=>bZ β b119 (o120+Int.toNat 0* 1) λs123=>I2 s123 β/\H s123 β< H W Z) (R z β)) (R z w109))) (bO V λυ w125=>ai (decide (G=35)) (aJ I 0 λb126 o127=>iq υ b126 (o127+Int.toNat 0* 1) λs130=>(0<=(1:Int)/\(1:Int)< z.length)/\bw 225 #[(.string (ab s130))] w125 λs131 w132=>υ w132/\ck 56 #[(.string (ab s131)),(.int .u8 (UInt8.toNat (bt z (Int.toNat 1))))] w132 λq133 γ=>υ γ/\ai (!q133) (aJ I 0 λb135 o136=>bZ γ b135 (o136+Int.toNat 0* 1) λs139=>I2 s139 γ/\H s139 γ< H W Z) (R z γ)) (R z w125))) (aJ I 1 λb140 o141=>bZ V b140 (o141+Int.toNat 1* 1) λs144=>ck 246 #[(.string (ab s144))] V λq145 ι=>ai q145 (aJ I 0 λb147 o148=>bZ ι b147 (o148+Int.toNat 0* 1) λs151=>I2 s151 ι/\H s151 ι< H W Z) (bO ι λφ w153=>ai (decide (G=35)) (aJ I 0 λb154 o155=>iq φ b154 (o155+Int.toNat 0* 1) λs158=>(0<=(1:Int)/\(1:Int)< z.length)/\bw 225 #[(.string (ab s158))] w153 λs159 w160=>φ w160/\ck 56 #[(.string (ab s159)),(.int .u8 (UInt8.toNat (bt z (Int.toNat 1))))] w160 λq161 δ=>φ δ/\ai (!q161) (aJ I 0 λb163 o164=>bZ δ b163 (o164+Int.toNat 0* 1) λs167=>I2 s167 δ/\H s167 δ< H W Z) (R z δ)) (R z w153))))) (aJ I 0 λb168 o169=>bZ V b168 (o169+Int.toNat 0* 1) λs172=>ck 246 #[(.string (ab s172))] V λq173 J=>ai q173 (aJ I 1 λb175 o176=>bZ J b175 (o176+Int.toNat 1* 1) λs179=>I2 s179 J/\H s179 J< H W Z) (iz (decide (G=38)) (ai (decide (G=43)) (aJ I 1 λb180 o181=>bZ J b180 (o181+Int.toNat 1* 1) λs184=>ck 246 #[(.string (ab s184))] J λq185 κ=>ai q185 (aJ I 0 λb187 o188=>bZ κ b187 (o188+Int.toNat 0* 1) λs191=>I2 s191 κ/\H s191 κ< H W Z) (bO κ λχ w193=>ai (decide (G=35)) (aJ I 0 λb194 o195=>iq χ b194 (o195+Int.toNat 0* 1) λs198=>(0<=(1:Int)/\(1:Int)< z.length)/\bw 225 #[(.string (ab s198))] w193 λs199 w200=>χ w200/\ck 56 #[(.string (ab s199)),(.int .u8 (UInt8.toNat (bt z (Int.toNat 1))))] w200 λq201 ε=>χ ε/\ai (!q201) (aJ I 0 λb203 o204=>bZ ε b203 (o204+Int.toNat 0* 1) λs207=>I2 s207 ε/\H s207 ε< H W Z) (R z ε)) (R z w193))) (bO J λψ w209=>ai (decide (G=35)) (aJ I 0 λb210 o211=>iq ψ b210 (o211+Int.toNat 0* 1) λs214=>(0<=(1:Int)/\(1:Int)< z.length)/\bw 225 #[(.string (ab s214))] w209 λs215 w216=>ψ w216/\ck 56 #[(.string (ab s215)),(.int .u8 (UInt8.toNat (bt z (Int.toNat 1))))] w216 λq217 ζ=>ψ ζ/\ai (!q217) (aJ I 0 λb219 o220=>bZ ζ b219 (o220+Int.toNat 0* 1) λs223=>I2 s223 ζ/\H s223 ζ< H W Z) (R z ζ)) (R z w209))) (aJ I 1 λb224 o225=>bZ J b224 (o225+Int.toNat 1* 1) λs228=>ck 246 #[(.string (ab s228))] J λq229 μ=>ai q229 (aJ I 0 λb231 o232=>bZ μ b231 (o232+Int.toNat 0* 1) λs235=>I2 s235 μ/\H s235 μ< H W Z) (bO μ λω w237=>ai (decide (G=35)) (aJ I 0 λb238 o239=>iq ω b238 (o239+Int.toNat 0* 1) λs242=>(0<=(1:Int)/\(1:Int)< z.length)/\bw 225 #[(.string (ab s242))] w237 λs243 w244=>ω w244/\ck 56 #[(.string (ab s243)),(.int .u8 (UInt8.toNat (bt z (Int.toNat 1))))] w244 λq245 η=>ω η/\ai (!q245) (aJ I 0 λb247 o248=>bZ η b247 (o248+Int.toNat 0* 1) λs251=>I2 s251 η/\H s251 η< H W Z) (R z η)) (R z w237)))))):
  Calls Tryz.prog 256 #[(.string (ab p1))] w (ax [.s] R):=
 bs (bn [(1,[(0,.s)])] [] []) [.tmp 2 .s] [.s p1] Tryz.func256 (by kernel_rfl) h
theorem ku (V:Value)(p2:ay)(w:World)(R:World->Prop)(h:bw 256 #[(.string (ab p2))] w λs3 w4=>ck 246 #[(.string (ab s3))] w4 λq5 w6=>ai q5 (R w6) (gY 120 #[(.string (ab s3))] w6 λc7 w8=>ai (decide (c7=38)) (cB 117 #[(.string (ab s3))] w8 λv9 ι=>aJ v9 0 λb11 o12=>bZ ι b11 (o12+Int.toNat 0* 1) λs15=>fC 242 #[V,(.string (ab s15))] ι λκ=>aJ v9 1 λb17 o18=>bZ κ b17 (o18+Int.toNat 1* 1) λs21=>fC 242 #[V,(.string (ab s21))] κ λw22=>R w22) (ai (decide (c7=35)) (Ir 65 w8 λα I z J=>az V λb27 o28=>bZ J b27 (o28+0) λs29=>ck 56 #[(.string (ab s29)),(.int .u8 z.toNat)] J λq30 W=>iz q30 (bw 76 #[(.string (ab s3))] W λs32 w33=>ck 56 #[(.string (ab s32)),(.int .u8 z.toNat)] w33 λq34 Z=>ai q34 (ai (decide ((z+1:UInt8)=91)) (α 192 Z/\I 192 Z< I z J) (α (z+1:UInt8) Z/\I (z+1:UInt8) Z< I z J)) (∃β:World->Prop,(bO Z λG γ=>az V λb39 θ=>(bZ γ b39 (θ+0) λμ=>G γ/\aN γ (.cells #[(.int .u8 z.toNat)] 5) λb42 δ=>G δ/\∃(ν ξ n46 c47:Nat) (ε:ay),(Value.slice (some ⟨b42,0,none⟩) 1 1)= .slice (some ⟨ν,ξ,none⟩) n46 c47/\ε.length=n46/\(∀(j:Nat) (x:UInt8),ε[j]?=some x->World.cell? δ ⟨ν,ξ+j,none⟩=some (.int .u8 x.toNat))/\G δ/\(μ.length+ε.length<=4611686018427387904)/\az V λb49 o50=>bg δ b49 (o50+0) (.string (ab (μ++ε))) λο=>G ο/\β ο)/\(aN γ (.cells #[(.int .u8 z.toNat)] 5) λς H=>G H/\(bZ H b39 (θ+0) λυ=>G H/\∃(φ χ ψ c59:Nat) (ζ:ay),(Value.slice (some ⟨ς,0,none⟩) 1 1)= .slice (some ⟨φ,χ,none⟩) ψ c59/\ζ.length=ψ/\(∀(j:Nat) (x:UInt8),ζ[j]?=some x->World.cell? H ⟨φ,χ+j,none⟩=some (.int .u8 x.toNat))/\G H/\(υ.length+ζ.length<=4611686018427387904)/\az V λb61 o62=>bg H b61 (o62+0) (.string (ab (υ++ζ))) λω=>G ω/\β ω)/\(∃(b65 o66 n67 c68:Nat) (η:ay),(Value.slice (some ⟨ς,0,none⟩) 1 1)= .slice (some ⟨b65,o66,none⟩) n67 c68/\η.length=n67/\(∀(j:Nat) (x:UInt8),η[j]?=some x->World.cell? H ⟨b65,o66+j,none⟩=some (.int .u8 x.toNat))/\G H/\bZ H b39 (θ+0) λs70=>G H/\(s70.length+η.length<=4611686018427387904)/\az V λb71 o72=>bg H b71 (o72+0) (.string (ab (s70++η))) λw74=>G w74/\β w74)))/\∀(w75:World),β w75->bO w75 λS76 w77=>(0<=(3:Int)/\(3:Int)<=s3.length)/\(0<=(1:Int)/\(1:Int)< s3.length)/\bw 153 #[(.string (ab (List.drop (Int.toNat 3) s3))),(.int .u8 (UInt8.toNat (bt s3 (Int.toNat 1)))),(.int .u8 z.toNat)] w77 λs78 w79=>S76 w79/\fC 242 #[V,(.string (ab s78))] w79 λw80=>S76 w80/\R w80)) (ai (decide ((z+1:UInt8)=91)) (α 192 W/\I 192 W< I z J) (α (z+1:UInt8) W/\I (z+1:UInt8) W< I z J))) (az V λb81 o82=>aS w8 b81 (o82+1) λv83=>aN w8 (.cells #[(.string (ab s3))] 9) λb84 w85=>eu 9 1 16 w85 v83 (.slice (some ⟨b84,0,none⟩) 1 1) λv91 w92=>az V λb93 o94=>oneV v91=true/\bg w92 b93 (o94+1) v91 λw96=>R w96)))):
  Calls Tryz.prog 242 #[V,(.string (ab p2))] w (ax [] R):=
 bs (bn [(10,[(5,.c)])] [(15,[])] []) [] [.v V,.s p2] Tryz.func242 (by kernel_rfl) h
theorem jw (s1:ay)(w:World)(R:Value->World->Prop)(h:ai (decide (s1=[])) (aN w (.cells #[(.string (ab []))] 9) λb2 w3=>R ((.slice (some ⟨b2,0,none⟩) 1 1)) w3) (∀(b4 c5:Nat) (w6:World),b4=Array.size (World.heap w)->iC w6 5 b4 s1->World.grownBy w w6 none->bM (.slice (some ⟨b4,0,none⟩) (s1.length) c5) λl8=>jX (.slice none 0 0) 0 w6 λζ W J z V=>ai (decide (z< (l8:Int))) (bO V λη θ=>(0<=(z:Int)/\(z:Int)<=s1.length)/\aj (z+1)/\(0<=((z+1):Int)/\((z+1):Int)<=s1.length)/\(List.length (List.take z.toNat s1)+List.length (List.drop (Int.toNat (z+1)) s1)<=4611686018427387904)/\cB 243 #[(.string (ab ((List.take z.toNat s1)++(List.drop (Int.toNat (z+1)) s1))))] θ λZ α=>η α/\bM Z λι=>jX J 0 α λκ β I G H=>ai (decide (G< (ι:Int))) (aJ Z G λμ ν=>bZ H μ (ν+G.toNat* 1) λγ=>aj (z+1)/\(0<=(z:Int)/\(z:Int)<=(z+1)/\((z+1):Int)<=s1.length)/\(List.length (List.drop z.toNat (List.take (Int.toNat (z+1)) s1))+γ.length<=4611686018427387904)/\aN H (.cells #[(.string (ab ((List.drop z.toNat (List.take (Int.toNat (z+1)) s1))++γ)))] 9) λξ ο=>eu 9 1 16 ο I (.slice (some ⟨ξ,0,none⟩) 1 1) λδ ε=>aj (G+1)/\κ δ (G+1) ε/\β δ (G+1) ε< β I G H) (aj (z+1)/\ζ I (z+1) H/\W I (z+1) H< W J z V)) (R J V))):
  Calls Tryz.prog 243 #[(.string (ab s1))] w (ax [.v] R):=
 bs (bn [(5,[(3,.v),(13,.i)]),(8,[(3,.v),(26,.i)])] [] []) [.tmp 2 .v] [.s s1] Tryz.func243 (by kernel_rfl) h
theorem tR (I:Value)(s2:ay)(w:World)(R:ay->World->Prop)(h:bM I λl4=>aj ((l4:Int) - 1)/\aJ I ((l4:Int) - 1) λb6 o7=>bZ w b6 (o7+Int.toNat ((l4:Int) - 1)* 1) λW=>bM I λJ=>aj ((J:Int) - 2)/\kY W (((J:Int) - 2)) w λZ V z i17 H=>ai (decide (0<=i17)) (aJ I i17 λα β=>bZ H α (β+i17.toNat* 1) λG=>(List.length [40]+G.length<=4611686018427387904)/\(List.length ([40]++G)+s2.length<=4611686018427387904)/\(List.length (([40]++G)++s2)+z.length<=4611686018427387904)/\(List.length ((([40]++G)++s2)++z)+List.length [41]<=4611686018427387904)/\aj (i17 - 1)/\Z ((((([40]++G)++s2)++z)++[41])) (i17 - 1) H/\V ((((([40]++G)++s2)++z)++[41])) (i17 - 1) H< V z i17 H) (R z H)):
  Calls Tryz.prog 191 #[I,(.string (ab s2))] w (ax [.s] R):=
 bs (bn [(3,[(5,.s),(6,.i)])] [] []) [.tmp 4 .s] [.v I,.s s2] Tryz.func191 (by kernel_rfl) h
theorem qs (l1:Value)(w:World)(R:Value->World->Prop)(h:bM l1 λl3=>jX (.slice none 0 0) 0 w λI5 m6 o7 W w9=>ai (decide (W< (l3:Int))) (aJ l1 W λb10 η=>bZ w9 b10 (η+W.toNat* 1) λZ=>∃α:Int->World->Prop,(eM 0 w9 λθ γ G H=>bM o7 λι=>ai (decide (G< (ι:Int))) (aJ o7 G λκ μ=>bZ H κ (μ+G.toNat* 1) λδ=>ai (Op.bytesLess δ Z||decide (δ=Z)) (aj (G+1)/\θ (G+1) H/\γ (G+1) H< γ G H) (α G H)) (α G H))/\∀(z:Int) (ε:World),α z ε->aN ε (.cells #[] 9) λb30 ν=>∃(β:Option Addr) (ξ I:Nat),o7= .slice β ξ I/\0<=(0:Int)/\(0:Int)<=z/\z<=(I:Int)/\eu 9 1 16 ν (.slice (some ⟨b30,0,none⟩) 0 0) (.slice (if I=Int.toNat 0 then β else Option.map (·.add (Int.toNat 0* 1)) β) (z.toNat - Int.toNat 0) (I - Int.toNat 0)) λv40 ο=>aN ο (.cells #[(.string (ab Z))] 9) λς υ=>eu 9 1 16 υ v40 (.slice (some ⟨ς,0,none⟩) 1 1) λv49 φ=>∃(a51:Option Addr) (J V:Nat),o7= .slice a51 J V/\0<=(z:Int)/\(z:Int)<=(J:Int)/\(J:Int)<=(V:Int)/\eu 9 1 16 φ v49 (.slice (if V=z.toNat then a51 else Option.map (·.add (z.toNat* 1)) a51) (Int.toNat (J:Int) - z.toNat) (V - z.toNat)) λv59 ζ=>aj (W+1)/\I5 v59 (W+1) ζ/\m6 v59 (W+1) ζ< m6 o7 W w9) (R o7 w9)):
  Calls Tryz.prog 69 #[l1] w (ax [.v] R):=
 bs (bn [(3,[(3,.v),(10,.i)]),(6,[(6,.i)])] [(8,[(6,.i)])] []) [.tmp 2 .v] [.v l1] Tryz.func69 (by kernel_rfl) h
theorem nV (J:ay)(w:World)(R:Value->World->Prop)(h:bw 256 #[(.string (ab J))] w λs2 w3=>gY 120 #[(.string (ab s2))] w3 λc4 w5=>ai (!decide (c4=43)) (ck 246 #[(.string (ab s2))] w5 λq6 w7=>ai q6 (R (.slice none 0 0) w7) (aN w7 (.cells #[(.string (ab s2))] 9) λb8 w9=>R ((.slice (some ⟨b8,0,none⟩) 1 1)) w9)) (cB 117 #[(.string (ab s2))] w5 λv10 V=>bO V λz W=>aJ v10 0 λZ α=>iq z Z (α+Int.toNat 0* 1) λβ=>aJ v10 1 λγ δ=>iq z γ (δ+Int.toNat 1* 1) λε=>cB 258 #[(.string (ab β))] W λv24 G=>z G/\cB 258 #[(.string (ab ε))] G λζ H=>z H/\eu 9 1 16 H v24 ζ λη I=>z I/\R η I)):
  Calls Tryz.prog 258 #[(.string (ab J))] w (ax [.v] R):=
 bs (bn [] [] []) [.tmp 2 .v] [.s J] Tryz.func258 (by kernel_rfl) h
end Go.Proofs.YtdecokaadekjnaaGreat
namespace Go.Proofs.YtdecokaadekjnaaGreat
open Go Go.RowKit
theorem Strs.get {w w':World}{v:Value}{l:List Tx}(h:Strs w v l)(hw:Ex w w'){i:Int}{x:Tx}(z:0<=i)(G:l[i.toNat]?=some x){Q:ay->Prop}(H:Q x):
  ∃(b o len cap:Nat),v=Value.slice (some ⟨b,o,none⟩) len cap/\0<=i/\i< (len:Int)/\∃s:ay,World.cell? w' ⟨b,o+Int.toNat i* 1,none⟩=some (Value.string (ab s))/\Q s:=by
 obtain⟨I,e⟩:=KX.1 G;obtain⟨b,o,cap,J,W,V⟩:=(h.ex hw).at I;exact⟨b,o,l.length,cap,J,z,by omega,x,by rw [KK,V,e],H⟩
theorem Strs.C' {w:World}{v:Value}{l:List Tx}(h:Strs w v l){i:Int}{x:Tx}(z:0<=i)(G:l[i.toNat]?=some x){Q:ay->Prop}(H:Q x):
  ∃(b o len cap:Nat),v=Value.slice (some ⟨b,o,none⟩) len cap/\0<=i/\i< (len:Int)/\∃s:ay,(∀w',Ex w w'->World.cell? w' ⟨b,o+Int.toNat i* 1,none⟩=some (Value.string (ab s)))/\Q s:=by
 obtain⟨I,e⟩:=KX.1 G;obtain⟨b,o,cap,J,V,W⟩:=h.at I;exact⟨b,o,l.length,cap,J,z,by omega,x,λw' hw=>by rw [hw.cell V,KK,W,e],H⟩
theorem ue {t:P}(ok:Ok t):Ok t.strip:=by
 have:∀t:P,t.wf=true->t.strip.wf=true/\t.strip.aH<=t.aH:=by
  intro t
  induction t with
  | mat a b p z=>
   intro h;unfold T.strip;split
   ·simp only [T.wf,J3]at h;have :=z h.2;exact⟨this.1,by simp only [T.aH];omega⟩
   ·exact⟨h,Kb _⟩
  | _=>exact λh=>⟨h,Kb _⟩
 have h:=this t ok.wf;exact⟨h.1,by have :=ok.len;rw [T.aY]at*;omega⟩
theorem pU {t:P}(ok:Ok t){w:World}{R:ay->World->Prop}(h:∀w',Ex w w'->R t.strip.text w'):Calls Tryz.prog 245 #[.string (ab t.text)] w (ax [.s] R):=by
 refine rf _ w R ?_;refine⟨λp w'=>Ex w w'/\∃q:P,p=q.text/\Ok q/\q.strip=t.strip,λp _=>p.length,⟨Ex.refl w,t,rfl,ok,rfl⟩,λp w1 J=>?_⟩;obtain⟨V,q,rfl,z,I⟩:=J;refine⟨λ _=>True,λw2 H=>⟨trivial,aK z ⟨trivial,?_⟩⟩⟩;have G:Ex w w2:=V.trans (H▸Ex.drew w1);have no:q.strip=q->R q.text w2:=λe=>by
  have :=h w2 G;rw [<-I,e]at this;exact this
 cases q with
 | mat a b p=>
  simp only [T.kind];refine dc (by decide) ⟨by simp only [T.text,J0];omega,by simp only [T.text,J0];omega,λhc=>?_,λhc=>?_⟩
  ·have e:a=b:=Kv hc;subst e;have h2:T.strip (.mat a a p)=p.strip:=by conv=>lhs;unfold T.strip;rw [KG rfl]
   refine⟨by simp only [T.text,J0];omega,⟨G,p,rfl,z.parts p (by simp [T.parts]),h2.symm.trans I⟩,?_⟩;show p.text.length< (T.mat a a p).text.length;simp only [T.text,J0];omega
  ·have e:a≠b:=Kw hc;exact no (by conv=>lhs;unfold T.strip;rw [Ko e])
 | _=>simp only [T.kind];exact aV (by decide) (no rfl)
theorem uf {t:P}(z:t.kind≠33)(h2:t.kind≠63)(G:t.kind≠126):t.dead=t.parts.all T.dead:=by
 cases t<;>first | (exact absurd rfl z) | (exact absurd rfl h2) | (exact absurd rfl G) | simp [T.dead,T.parts]
theorem fA:∀(n:Nat) {t:P},t.size<=n->Ok t->∀{w:World} {R:Bool->World->Prop},(∀w',Ex w w'->R t.dead w')->Calls Tryz.prog 246 #[.string (ab t.text)] w (ax [.b] R):=by
 intro n
 induction n with
 | zero=>intro t h;have :=a8 t;omega
 | succ n ih=>
  intro t hn ok w R h;refine sj _ w R ?_;refine pU ok λw1 α=>?_
  have β:=ue ok;have hq:=T.od t;rw [<-T.tZ]at h;generalize t.strip=q at*;refine aK β ?_;have loop:q.kind≠33->q.kind≠63->q.kind≠126->Calls Tryz.prog 117 #[(Value.string (ab q.text))] w1 (ax [.v] fun(η:Value) (ο:World)=>∃(a40:Option Addr) (G γ:Nat),η=Value.slice a40 G γ/\∃(δ:Int->World->Prop) (θ:Int->World->Nat),δ (0) ο/\∀(z:Int) (I:World),δ z I->((decide (z< (G:Int)))=true->∃(b47 ι J ε:Nat),η=Value.slice (some ⟨b47,ι,none⟩) J ε/\0<=(z:Int)/\(z:Int)< J/\∃κ:ay,World.cell? I ⟨b47,(ι+Int.toNat z* 1),none⟩=some (Value.string (ab κ))/\Calls Tryz.prog 246 #[(Value.string (ab κ))] I (ax [.b] fun(μ:Bool) (ζ:World)=>((!μ)=true->R (false) ζ)/\((!μ)=false->aj (z+1)/\δ ((z+1)) ζ/\θ ((z+1)) ζ< θ z I)))/\((decide (z< (G:Int)))=false->R (true) I)):=by
   intro h1 h2 h3;refine db β λv w2 ν hs=>?_
   obtain⟨a,cap,hv⟩:=hs.slice;rw [Kz]at hv;have ς:=dX q;refine⟨a,q.parts.length,cap,hv,λx w'=>Ex w2 w'/\∃k:Nat,x=k/\k<=q.parts.length/\∀p∈q.parts.take k,p.dead=true,λx _=>((q.parts.length:Int) - x).toNat,⟨Ex.refl _,0,rfl,by omega,by simp⟩,λx w3 hI=>?_⟩;obtain⟨Z,k,rfl,hk,V⟩:=hI;refine⟨λhc=>?_,λhc=>?_⟩
   ·have H:k< q.parts.length:=by simpa using hc
    have W:q.parts[k]∈q.parts:=Kg H;refine hs.get Z (i:=k) (by omega) (x:=(q.parts[k]).text) (by simp [H]) ?_;refine ih (by have :=dV W;omega) (β.parts _ W) λw4 ξ=>⟨λhd=>?_,λhd=>?_⟩
    ·have hd:(q.parts[k]).dead=false:=by simpa using hd
     have e:q.dead=false:=by
      rw [uf h1 h2 h3,List.all_eq_false];exact⟨_,W,by simp [hd]⟩
     rw [<-e];exact h w4 (((α.trans ν).trans Z).trans ξ)
    ·have hd:(q.parts[k]).dead=true:=by simpa using hd
     refine⟨by unfold aj;omega,⟨Z.trans ξ,k+1,by omega,H,λp hp=>?_⟩,by dsimp only;omega⟩;rw [List.take_succ_eq_append_getElem H]at hp;rcases Ke.1 hp with hp | hp
     ·exact V p hp
     ·rw [Kf.1 hp];exact hd
   ·have H:k=q.parts.length:=by simp at hc;omega
    subst H;rw [KA]at V;have e:q.dead=true:=by
     rw [uf h1 h2 h3,LW];exact V
    rw [<-e];exact h w3 ((α.trans ν).trans Z)
  have h:=h w1 α;cases q with
  | nil=>simp only [T.kind];exact dc (by decide) h
  | snd a b p=>simp only [T.kind];exact aV (by decide) (dc (by decide) (dc (by decide) h))
  | rcv a b p=>simp only [T.kind];exact aV (by decide) (aV (by decide) (dc (by decide) (dc (by decide) h)))
  | tau p=>simp only [T.kind];exact aV (by decide) (aV (by decide) (aV (by decide) (dc (by decide) h)))
  | sum p q=>simp only [T.kind];exact aV (by decide) (aV (by decide) (aV (by decide) (aV (by decide) (loop (by simp [T.kind]) (by simp [T.kind]) (by simp [T.kind])))))
  | par p q=>simp only [T.kind];exact aV (by decide) (aV (by decide) (aV (by decide) (aV (by decide) (loop (by simp [T.kind]) (by simp [T.kind]) (by simp [T.kind])))))
  | res x p=>simp only [T.kind];exact aV (by decide) (aV (by decide) (aV (by decide) (aV (by decide) (loop (by simp [T.kind]) (by simp [T.kind]) (by simp [T.kind])))))
  | mat a b p=>simp only [T.kind];exact aV (by decide) (aV (by decide) (aV (by decide) (aV (by decide) (loop (by simp [T.kind]) (by simp [T.kind]) (by simp [T.kind])))))
  | rep p=>simp only [T.kind];exact aV (by decide) (aV (by decide) (aV (by decide) (aV (by decide) (loop (by simp [T.kind]) (by simp [T.kind]) (by simp [T.kind])))))
theorem EC {t:P}(hd:t.dead=false)(hm:∀a b p,t= .mat a b p->a≠b)(x:UInt8):t.Us x↔x∈t.names\/(∃p∈t.parts,p.Us x)/\¬(t.qG=true/\x=t.bindC):=by
 cases t<;>simp [T.Us,T.names,T.parts,T.qG,T.bindC,MU,and_comm]
 case mat a b p=>
  have z:=hm a b p rfl;have hd:p.dead=false:=hd;simp [z,hd]
theorem pw:∀(n:Nat) {t:P},t.size<=n->Ok t->∀{w:World} {R:ay->World->Prop},(∀s w',Ex w w'->ib s->(∀x,x∈s↔t.Us x)->R s w')->Calls Tryz.prog 225 #[.string (ab t.text)] w (ax [.s] R):=by
 intro n
 induction n with
 | zero=>intro t h;have :=a8 t;omega
 | succ n ih=>
  intro t0 hn ok w R h;refine sd _ w R ?_;refine pU ok λw1 ε=>?_
  have G:=ue ok;have hsz:=T.od t0;have ζ:=T.pM t0;have h:∀s w',Ex w w'->ib s->(∀x,x∈s↔t0.strip.Us x)->R s w':=λs w' a b c=>h s w' a b λx=>by rw [c,T.xB]
  generalize t0.strip=t at*;refine fA _ (Kb _) G λw2 η=>⟨λhd=>?_,λhd=>?_⟩
  ·exact h [] w2 (ε.trans η) ib.nil λx=>⟨λhx=>absurd hx LY,λhx=>absurd hx (T.bI hd)⟩
  refine db G λv w3 μ hs=>?_
  have H:=(ε.trans η).trans μ;obtain⟨a,cap,hv⟩:=hs.slice;rw [Kz]at hv;have hpl:=dX t;refine⟨a,t.parts.length,cap,hv,λout x w'=>Ex w3 w'/\ib out/\∃k:Nat,x=k/\k<=t.parts.length/\∀x,x∈out↔∃p∈t.parts.take k,p.Us x,λ _ x _=>((t.parts.length:Int) - x).toNat,
   ⟨Ex.refl _,ib.nil,0,rfl,by omega,by simp⟩,λout x w4 hI=>?_⟩
  obtain⟨I,J,k,rfl,hk,hm⟩:=hI;refine⟨λhc=>?_,λhc=>?_⟩
  ·have z:k< t.parts.length:=by simpa using hc
   have V:t.parts[k]∈t.parts:=Kg z;refine hs.get I (i:=k) (by omega) (x:=(t.parts[k]).text) (by simp [z]) ?_;refine ih (by have :=dV V;omega) (G.parts _ V) λs w5 Z ν α=>?_
   refine fy J (by have :=ν.bound;omega) λs' w6 β ξ ο=>⟨by unfold aj;omega,⟨(I.trans Z).trans β,ξ,k+1,by omega,z,λx=>?_⟩,by dsimp only;omega⟩
   rw [ο,hm,α,J8 z];simp only [Ke,Kf];constructor
   ·rintro(⟨p,hp,hf⟩ | hf)
    ·exact⟨p,.inl hp,hf⟩
    ·exact⟨_,.inr rfl,hf⟩
   ·rintro⟨p,hp | rfl,hf⟩
    ·exact .inl ⟨p,hp,hf⟩
    ·exact .inr hf
  ·have z:k=t.parts.length:=by simp at hc;omega
   subst z;rw [KA]at hm;refine⟨λout w'=>Ex w w'/\ib out/\∀x,x∈out↔(∃p∈t.parts,p.Us x)/\¬(t.qG=true/\x=t.bindC),qg G ⟨λhb=>?_,λhb=>?_⟩,λθ w5 hJ=>?_⟩
   ·refine xv (by have :=J.bound;omega) ⟨H.trans I,J.filter _,λx=>?_⟩;simp [hm,hb]
   ·exact⟨H.trans I,J,λx=>by simp [hm,hb]⟩
   obtain⟨Z,ι,α⟩:=hJ;refine Bu G λw6 β=>λb cp w7 hb κ ς=>?_
   have υ:=qC.C9 κ;have φ:Ex w w7:=(Z.trans β).trans (sY ς);have hnl:t.names.length<=2:=by cases t<;>simp [T.names]
   refine⟨some ⟨b,0,none⟩,t.names.length,cp,rfl,λout x w'=>Ex w7 w'/\ib out/\∃k:Nat,x=k/\k<=t.names.length/\∀x,x∈out↔x∈t.names.take k\/x∈θ,λ _ x _=>((t.names.length:Int) - x).toNat,
    ⟨Ex.refl _,ι,0,rfl,by omega,by simp⟩,λout x w8 hI=>?_⟩
   obtain⟨γ,W,k,rfl,hk,δ⟩:=hI;refine⟨λhc=>?_,λhc=>?_⟩
   ·have z:k< t.names.length:=by simpa using hc
    refine⟨b,0,t.names.length,cp,rfl,by omega,by omega,bt t.names k,(υ.ex γ).at z,?_⟩;refine fu W λs w9 χ ψ ω=>⟨by unfold aj;omega,⟨γ.trans χ,ψ,k+1,by omega,z,λx=>?_⟩,by dsimp only;omega⟩
    have e:t.names.take (k+1)=t.names.take k++[bt t.names k]:=by
     have :=gi (s:=t.names) (i:=k) (by omega) (by omega);have e2:((k:Int)+1).toNat=k+1:=by omega
     rw [e2]at this;exact this
    rw [ω,δ,e];simp only [Ke,Kf];constructor
    ·rintro(h | h | h)
     ·exact .inl (.inr h)
     ·exact .inl (.inl h)
     ·exact .inr h
    ·rintro((h | h) | h)
     ·exact .inr (.inl h)
     ·exact .inl h
     ·exact .inr (.inr h)
   ·have z:k=t.names.length:=by simp at hc;omega
    subst z;rw [KA]at δ;refine h out w8 (φ.trans γ) W λx=>?_
    rw [δ,α,EC hd (λa b p e=>ζ a b p e)]
theorem za (t:P):t.strip.peel=t.peel:=by
 induction t with
 | mat a b p z=>
  unfold T.strip;split
  ·rename_i e;rw [z];conv=>rhs;unfold T.peel;rw [KG e]
  ·rfl
 | _=>rfl
theorem yI {t:P}(ok:Ok t){w:World}{R:ay->World->Prop}(h:∀w',Ex w w'->Ok t.peel->R t.peel.text w'):Calls Tryz.prog 256 #[.string (ab t.text)] w (ax [.s] R):=by
 refine tD _ w R ?_;refine⟨λp w'=>Ex w w'/\∃q:P,p=q.text/\Ok q/\q.peel=t.peel,λp _=>p.length,⟨Ex.refl w,t,rfl,ok,rfl⟩,λp w1 hI=>?_⟩;obtain⟨hx,q0,rfl,γ,I⟩:=hI;refine pU γ λw2 η=>?_
 have J:=ue γ;have hlen:q0.strip.text.length<=q0.text.length:=by
  have:∀t:P,t.strip.aH<=t.aH:=by
   intro t
   induction t with
   | mat a b p ih=>
    unfold T.strip;split
    ·simp only [T.aH];omega
    ·exact Kb _
   | _=>exact Kb _
  rw [T.aY,T.aY];exact this q0
 have ε:=T.pM q0;rw [<-za]at I;generalize q0.strip=q at*;refine db J λv w3 θ hs=>aK J ?_
 have α:Ex w w3:=(hx.trans η).trans θ;have stay:q.peel=q->∀w',Ex w3 w'->R q.text w':=λe w' ι=>by
  have :=h w' (α.trans ι) (I▸e.symm▸J);rw [<-I,e]at this;exact this
 cases q with
 | nil=>
  simp only [T.kind]
  repeat' first | refine aV (by decide) ?_ | refine dc (by decide) ?_ | refine cE (by decide) ?_ | refine dN (by decide) ?_
  exact⟨λ _=>True,λW G=>⟨trivial,aV (by decide) (stay rfl W (G▸Ex.drew w3))⟩⟩
 | snd a b p=>
  simp only [T.kind]
  repeat' first | refine aV (by decide) ?_ | refine dc (by decide) ?_ | refine cE (by decide) ?_ | refine dN (by decide) ?_
  exact⟨λ _=>True,λW G=>⟨trivial,aV (by decide) (stay rfl W (G▸Ex.drew w3))⟩⟩
 | rcv a b p=>
  simp only [T.kind]
  repeat' first | refine aV (by decide) ?_ | refine dc (by decide) ?_ | refine cE (by decide) ?_ | refine dN (by decide) ?_
  exact⟨λ _=>True,λW G=>⟨trivial,aV (by decide) (stay rfl W (G▸Ex.drew w3))⟩⟩
 | tau p=>
  simp only [T.kind]
  repeat' first | refine aV (by decide) ?_ | refine dc (by decide) ?_ | refine cE (by decide) ?_ | refine dN (by decide) ?_
  exact⟨λ _=>True,λW G=>⟨trivial,aV (by decide) (stay rfl W (G▸Ex.drew w3))⟩⟩
 | rep p=>
  simp only [T.kind]
  repeat' first | refine aV (by decide) ?_ | refine dc (by decide) ?_ | refine cE (by decide) ?_ | refine dN (by decide) ?_
  exact⟨λ _=>True,λW G=>⟨trivial,aV (by decide) (stay rfl W (G▸Ex.drew w3))⟩⟩
 | mat a b p=>
  have κ:=ε a b p rfl;simp only [T.kind]
  repeat' first | refine aV (by decide) ?_ | refine dc (by decide) ?_ | refine cE (by decide) ?_ | refine dN (by decide) ?_
  exact⟨λ _=>True,λW G=>⟨trivial,aV (by decide) (stay (by unfold T.peel;rw [Ko κ]) W (G▸Ex.drew w3))⟩⟩
 | res x p=>
  have V:=J.parts p (by simp [T.parts]);simp only [T.kind]
  repeat' first | refine aV (by decide) ?_ | refine dc (by decide) ?_ | refine cE (by decide) ?_ | refine dN (by decide) ?_
  refine⟨λw'=>Ex w3 w',λW G=>⟨G▸Ex.drew w3,dc (by decide) ?_⟩⟩;have z:Ex w3 W:=G▸Ex.drew w3;refine hs.C' (i:=0) (x:=p.text) (by omega) rfl ⟨by simp only [T.text,J0];omega,?_⟩;refine pw _ (Kb _) V λs w5 H μ ζ=>⟨z.trans H,eH (by have :=μ.bound;omega) ⟨z.trans H,λhq=>?_,λhq=>?_⟩⟩
  ·have hq:¬p.Us x:=by
    rw [<-ζ];simpa [T.text,bt]using hq
   refine hs.get (z.trans H) (i:=0) (x:=p.text) (by omega) rfl ⟨⟨α.trans (z.trans H),p,rfl,V,?_⟩,?_⟩
   ·rw [<-I];conv=>rhs;unfold T.peel;rw [Ko hq]
   ·have:p.text.length< (T.res x p).text.length:=by simp only [T.text,J0];omega
    exact Kx this hlen
  ·have hq:p.Us x:=by
    rw [<-ζ];simpa [T.text,bt]using hq
   exact stay (by unfold T.peel;rw [KG hq]) w5 (z.trans H)
 | sum p r=>
  have V:=J.parts p (by simp [T.parts]);have β:=J.parts r (by simp [T.parts]);have lp:p.text.length< (T.sum p r).text.length:=by simp only [T.text,J0,J'];omega
  have lr:r.text.length< (T.sum p r).text.length:=by simp only [T.text,J0,J'];omega
  simp only [T.kind]
  repeat' first | refine aV (by decide) ?_ | refine dc (by decide) ?_ | refine cE (by decide) ?_ | refine dN (by decide) ?_
  refine hs.get (Ex.refl w3) (i:=0) (x:=p.text) (by omega) rfl (fA _ (Kb _) V λW z=>⟨λhd=>?_,λhd=>?_⟩)
  ·refine hs.get z (i:=1) (x:=r.text) (by omega) rfl ⟨⟨α.trans z,r,rfl,β,?_⟩,Kx lr hlen⟩;rw [<-I];conv=>rhs;unfold T.peel;rw [KG hd]
  repeat' first | refine aV (by decide) ?_ | refine dc (by decide) ?_ | refine cE (by decide) ?_ | refine dN (by decide) ?_
  refine hs.get z (i:=1) (x:=r.text) (by omega) rfl (fA _ (Kb _) β λw5 H=>⟨λZ=>?_,λZ=>?_⟩)
  ·refine hs.get (z.trans H) (i:=0) (x:=p.text) (by omega) rfl ⟨⟨α.trans (z.trans H),p,rfl,V,?_⟩,Kx lp hlen⟩;rw [<-I];conv=>rhs;unfold T.peel;rw [Ko (by simp [hd]),KG Z]
  ·exact⟨λ _=>True,λw6 δ=>⟨trivial,aV (by decide) (stay (by unfold T.peel;rw [Ko (by simp [hd]),Ko (by simp [Z])]) w6 ((z.trans H).trans (δ▸Ex.drew w5)))⟩⟩
 | par p r=>
  have V:=J.parts p (by simp [T.parts]);have β:=J.parts r (by simp [T.parts]);have lp:p.text.length< (T.par p r).text.length:=by simp only [T.text,J0,J'];omega
  have lr:r.text.length< (T.par p r).text.length:=by simp only [T.text,J0,J'];omega
  simp only [T.kind]
  repeat' first | refine aV (by decide) ?_ | refine dc (by decide) ?_ | refine cE (by decide) ?_ | refine dN (by decide) ?_
  refine hs.get (Ex.refl w3) (i:=0) (x:=p.text) (by omega) rfl (fA _ (Kb _) V λW z=>⟨λhd=>?_,λhd=>?_⟩)
  ·refine hs.get z (i:=1) (x:=r.text) (by omega) rfl ⟨⟨α.trans z,r,rfl,β,?_⟩,Kx lr hlen⟩;rw [<-I];conv=>rhs;unfold T.peel;rw [KG hd]
  repeat' first | refine aV (by decide) ?_ | refine dc (by decide) ?_ | refine cE (by decide) ?_ | refine dN (by decide) ?_
  refine hs.get z (i:=1) (x:=r.text) (by omega) rfl (fA _ (Kb _) β λw5 H=>⟨λZ=>?_,λZ=>?_⟩)
  ·refine hs.get (z.trans H) (i:=0) (x:=p.text) (by omega) rfl ⟨⟨α.trans (z.trans H),p,rfl,V,?_⟩,Kx lp hlen⟩;rw [<-I];conv=>rhs;unfold T.peel;rw [Ko (by simp [hd]),KG Z]
  ·exact⟨λ _=>True,λw6 δ=>⟨trivial,aV (by decide) (stay (by unfold T.peel;rw [Ko (by simp [hd]),Ko (by simp [Z])]) w6 ((z.trans H).trans (δ▸Ex.drew w5)))⟩⟩
def sv (x:Tx):Value:= .string (ab x)
def Own (B:Nat)(w:World)(v:Value)(l:List Tx):Prop:=w.ownsRow B 9 1 v l.length (l.map sv)
theorem Own.nil (B:Nat)(w:World):Own B w (.slice none 0 0) []:=World.ownsRow_nil _ _ _ _
theorem Own.strs {B:Nat}{w:World}{v:Value}{l:List Tx}(h:Own B w v l):Strs w v l:=by
 rcases h.2 with⟨rfl,H⟩ | ⟨g,cap,cur,rfl,hb,z,J,h2,V,h4⟩
 ·exact .inl ⟨rfl,KD H⟩
 ·refine .inr ⟨g,0,cap,rfl,(KO.1 z).1,λi x G=>?_⟩;unfold World.cell?;simp only [z,KF];have e:=Lb (λl=>l[i]?) h4;obtain⟨I,_⟩:=KX.1 G;simp only [KK,My,I,LN,Md,G,LR]at e;rw [<-LL];exact e
theorem Own.ex {B:Nat}{w w':World}{v:Value}{l:List Tx}(h:Own B w v l)(k:Ex w w'):Own B w' v l:=by
 refine⟨h.1,?_⟩;rcases h.2 with G | ⟨g,cap,cur,rfl,hb,z,rest⟩
 ·exact .inl G
 ·exact .inr ⟨g,cap,cur,rfl,hb,by rw [k.block g (KO.1 z).1];exact z,rest⟩
theorem Own.mono {B z:Nat}{w:World}{v:Value}{l:List Tx}(h:Own B w v l)(hb:z<=B):Own z w v l:=Nz h hb
theorem Own.push {B:Nat}{w:World}{v:Value}{l:List Tx}(h:Own B w v l)(hB:B<=w.heap.size){x:Value}{m:List Tx}(G:Strs w x m)(V:l.length+m.length<=1099511627776){K:Value->World->Prop}
  (H:∀v' w',Below B w w'->Own B w' v' (l++m)->w.grownBy w' v.ownBlock->(∀b,v'.ownBlock=some b->v.ownBlock=some b\/w.heap.size<=b)->K v' w'):
  ∃(base n k:Nat) (xs news:List Value),World.ownsRow w base 9 1 v n xs/\base<=Array.size (World.heap w)/\dW w x k 1 news/\(n+k<=maxLen/\(n+k)* 16<=140737488355328)/\
   ∀(v':Value) (w':World),World.ownsRow w' base 9 1 v' (n+k) (xs++news)->World.grownBy w w' (Value.ownBlock v)->(∀b:Nat,Value.ownBlock v'=some b->Value.ownBlock v=some b\/Array.size (World.heap w)<=b)->K v' w':=by
 refine⟨B,l.length,m.length,l.map sv,m.map sv,h,hB,?_,⟨by unfold maxLen;omega,by omega⟩,λv' w' I z hw=>H v' w' ?_ ?_ z hw⟩
 ·refine⟨by simp,by simp [sv,oneV],?_⟩;rcases G with⟨rfl,rfl⟩ | ⟨b,off,cap,rfl,hb,hc⟩
  ·exact .inl ⟨rfl,rfl⟩
  ·refine .inr ⟨b,off,cap,rfl,λj u hu=>?_⟩;rw [Md]at hu;cases e:m[j]? with
   | none=>rw [e]at hu;cases hu
   | some y=>rw [e]at hu;cases hu;exact hc j y e
 ·exact Below.grown (NH B w) z hB λk J=>(MP h k J).1
 ·unfold Own;rw [J',K3];exact I
theorem Strs.grown {w w':World}{v:Value}{l:List Tx}{row:Option Nat}(h:Strs w v l)(G:w.grownBy w' row)(z:∀b,v.ownBlock=some b->row≠some b):Strs w' v l:=by
 rcases h with h | ⟨b,off,cap,H,h2,I⟩
 ·exact .inl h
 ·refine .inr ⟨b,off,cap,H,Kx h2 G.size,λi x J=>?_⟩;rw [J1 (w:=w) (G.block b h2 (λe=>z b (by rw [H];rfl) e.symm))];exact I i x J
theorem Own.block {B:Nat}{w:World}{v:Value}{l:List Tx}(h:Own B w v l):∀b,v.ownBlock=some b->B<=b/\b< w.heap.size:=MP h
theorem Ex.below {w0 w w':World}(h:Ex w0 w)(k:Below w0.heap.size w w'):Ex w0 w':=LJ h k
theorem Strs.one {w w':World}{b:Nat}{x:Tx}(hb:b=w.heap.size)(h:w'=w.alloc (.cells #[.string (ab x)] 9)):Strs w' (.slice (some ⟨b,0,none⟩) 1 1) [x]:=by
 subst hb h;refine .inr ⟨_,0,1,rfl,by rw [size_alloc];omega,λi z G=>?_⟩;rw [KF];refine aa ?_
 match i,G with
 | 0,G=>simp at G|-;exact G▸rfl
 | i+1,G=>simp at G
theorem Own.one {w w':World}{B b:Nat}{x:Tx}(hB:B<=w.heap.size)(hb:b=w.heap.size)(h:w'=w.alloc (.cells #[.string (ab x)] 9)):Own B w' (.slice (some ⟨b,0,none⟩) 1 1) [x]:=by
 subst hb h;refine⟨rfl,.inr ⟨_,1,#[.string (ab x)],rfl,hB,?_,by simp,by unfold maxLen;omega,rfl,rfl⟩⟩;unfold World.alloc;simp
theorem Own.none {w w':World}{B b:Nat}(hB:B<=w.heap.size)(hb:b=w.heap.size)(h:w'=w.alloc (.cells #[] 9)):Own B w' (.slice (some ⟨b,0,none⟩) 0 0) []:=by
 subst hb h;refine⟨rfl,.inr ⟨_,0,#[],rfl,hB,?_,by simp,by unfold maxLen;omega,rfl,rfl⟩⟩;unfold World.alloc;simp
theorem Strs.take {w:World}{a:Option Addr}{n cap:Nat}{l:List Tx}(h:Strs w (.slice a n cap) l){k:Int}(V:0<=k)(H:k<=l.length):
  Strs w (.slice (if cap=Int.toNat 0 then a else Option.map (·.add (Int.toNat 0* 1)) a) (Int.toNat k - Int.toNat 0) (cap - Int.toNat 0)) (l.take k.toNat):=by
 have G:Int.toNat 0=0:=rfl;rcases h with⟨h,rfl⟩ | ⟨b,off,c,I,h2,J⟩
 ·cases h;have:k=0:=by simp at H;omega
  subst this;exact .inl ⟨rfl,rfl⟩
 ·cases I;refine .inr ⟨b,off,cap,?_,h2,λi x z=>J i x ?_⟩
  ·have e:(if cap=Int.toNat 0 then some (⟨b,off,none⟩:Addr)else Option.map (λq:Addr=>q.add (Int.toNat 0* 1)) (some (⟨b,off,none⟩:Addr)))=some ⟨b,off,none⟩:=by
    split
    ·rfl
    ·simp [Addr.add,G]
   rw [e,G,KP]
   congr 1
   omega
  ·rw [My]at z;split at z
   ·exact z
   ·cases z
theorem Strs.drop {w:World}{a:Option Addr}{n cap:Nat}{l:List Tx}(h:Strs w (.slice a n cap) l){k:Int}(V:0<=k)(G:k<=l.length)(hc:n<=cap):
  Strs w (.slice (if cap=Int.toNat k then a else Option.map (·.add (Int.toNat k* 1)) a) (Int.toNat (n:Int) - Int.toNat k) (cap - Int.toNat k)) (l.drop k.toNat):=by
 rcases h with⟨h,rfl⟩ | ⟨b,off,c,H,h2,I⟩
 ·cases h;have:k=0:=by simp at G;omega
  subst this;exact .inl ⟨rfl,rfl⟩
 ·cases H;by_cases e:cap=k.toNat
  ·have J:l.drop k.toNat=[]:=LI (by omega);rw [KG e,J];refine .inr ⟨b,off,cap - k.toNat,?_,h2,λi x z=>by simp at z⟩;rw [J9]
   congr 1
   simp only [Kh];omega
  ·rw [Ko e];refine .inr ⟨b,off+k.toNat,cap - k.toNat,?_,h2,λi x z=>?_⟩
   ·rw [J9,LH];simp [Addr.add]
   ·rw [List.getElem?_drop]at z;rw [Mt];exact I _ x z
theorem CA (a b:Tx):(Op.bytesLess a b||decide (a=b))=jD a b:=by
 rw [NB,jD,K6];simp only [Lm,J4];constructor
 ·rintro(h | rfl)
  ·exact List.le_of_lt h
  ·exact List.le_refl _
 ·intro h;by_cases e:a=b
  ·exact .inr e
  ·left;rcases List.le_iff_lt_or_eq.1 h with h | h
   ·exact h
   ·exact absurd h e
theorem eZ {c:UInt8}{s:Tx}{l:List Tx}(h:l≠[]):joinS c (s::l)=40::(s++(c::(joinS c l++[41]))):=by
 cases l with
 | nil=>exact absurd rfl h
 | cons=>rfl
def dq (l:List Tx):Nat:=(l.map List.length).sum+3* l.length
theorem dR (s:Tx)(l:List Tx):dq (s::l)=s.length+dq l+3:=by simp [dq];omega
theorem xC (l m:List Tx):dq (l++m)=dq l+dq m:=by simp [dq];omega
theorem mi {l m:List Tx}(h:l.Perm m):dq l=dq m:=by
 induction h with
 | nil=>rfl
 | cons x _ z=>rw [dR,dR,z]
 | swap x y l=>simp only [dR];omega
 | trans _ _ G h2=>exact G.trans h2
theorem uA (c:UInt8):∀l:List Tx,(joinS c l).length<=dq l
 | []=>by simp [joinS]
 | [s]=>by simp [joinS,dq]
 | s::t::l=>by
  have :=uA c (t::l);rw [eZ (by simp),dR];simp only [J0,J',Kh];omega
theorem B4 (l:List Tx)(k:Nat):dq (l.drop k)<=dq l:=by
 conv=>rhs;rw [<-Li k l,xC]
 omega
theorem tB {w:World}{v:Value}{l:List Tx}{c:UInt8}(J:Strs w v l)(z:l≠[])(hl:dq l<=2199023255552){R:ay->World->Prop}(h:R (joinS c l) w):
  Calls Tryz.prog 191 #[v,.string (ab [c])] w (ax [.s] R):=by
 refine tR v [c] w R ?_;have V:0< l.length:=MJ.2 z;have α:3* l.length<=dq l:=by unfold dq;omega
 obtain⟨a,cap,W⟩:=J.slice;refine⟨a,l.length,cap,W,by unfold aj;omega,?_⟩;have G:l[((l.length:Int) - 1).toNat]?=some (l.getLast z):=by
  have e:((l.length:Int) - 1).toNat=l.length - 1:=by omega
  rw [e,List.getLast_eq_getElem,J2]
 refine J.get (Ex.refl w) (i:=(l.length:Int) - 1) (by omega) G ?_;refine⟨a,l.length,cap,W,by unfold aj;omega,λout i w'=>w=w'/\ -1<=i/\i<=(l.length:Int) - 2/\out=joinS c (l.drop (i+1).toNat),λ _ i _=>(i+1).toNat,⟨rfl,by omega,by omega,?_⟩,λout i w1 hI=>?_⟩
 ·have e:((l.length:Int) - 2+1).toNat=l.length - 1:=by omega
  have e2:l.drop (l.length - 1)=[l.getLast z]:=by
   rw [K0 (by omega:l.length - 1< l.length),List.getLast_eq_getElem,LI (by omega)]
  rw [e,e2];rfl
 ·obtain⟨rfl,h0,h1,rfl⟩:=hI;refine⟨λhc=>?_,λhc=>?_⟩
  ·have hc:0<=i:=Kv hc;have Z:i.toNat< l.length:=by omega
   have H:l.drop (i+1).toNat≠[]:=by
    intro e;have :=Lb List.length e;rw [LH,Kh]at this;omega
   have hd:l.drop i.toNat=l[i.toNat]::l.drop (i+1).toNat:=by
    have e:(i+1).toNat=i.toNat+1:=by omega
    rw [e];exact K0 Z
   have hj:joinS c (l.drop i.toNat)=40::(l[i.toNat]++(c::(joinS c (l.drop (i+1).toNat)++[41]))):=by rw [hd,eZ H]
   have I:=uA c (l.drop i.toNat);have β:=B4 l i.toNat;rw [hj]at I;simp only [J0,J',Kh]at I;refine J.get (Ex.refl w) (i:=i) hc (x:=l[i.toNat]) (J2 Z) ⟨by simp only [J0,Kh];omega,by simp only [J',J0,Kh];omega,by simp only [J',J0,Kh];omega,by simp only [J',J0,Kh];omega,by unfold aj;omega,⟨rfl,by omega,by omega,?_⟩,by dsimp only;omega⟩;have e:(i - 1+1).toNat=i.toNat:=by omega
   rw [e,hj];simp
  ·have hc:¬0<=i:=Kw hc;have e:(i+1).toNat=0:=by omega
   rw [e,LP];exact h
theorem nW {w:World}{v:Value}{l:List Tx}(hs:Strs w v l)(hl:l.length<=1099511627776){R:Value->World->Prop}(h:∀v' w',Ex w w'->Own w.heap.size w' v' (a7 l)->R v' w'):
  Calls Tryz.prog 69 #[v] w (ax [.v] R):=by
 refine qs v w R ?_;obtain⟨a,cap,hv⟩:=hs.slice;refine⟨a,l.length,cap,hv,λout x w'=>Ex w w'/\∃k:Nat,x=k/\k<=l.length/\∃m:List Tx,Own w.heap.size w' out m/\m.Pairwise (λa b=>jD a b=true)/\m.Perm (l.take k),λ _ x _=>((l.length:Int) - x).toNat,
  ⟨Ex.refl w,0,rfl,by omega,[],Own.nil _ _,List.Pairwise.nil,by simp⟩,λout x w1 hI=>?_⟩
 obtain⟨W,k,rfl,hk,m,H,Z,α⟩:=hI;refine⟨λhc=>?_,λhc=>?_⟩
 ·have J:k< l.length:=by simpa using hc
  refine hs.get W (i:=k) (by omega) (x:=l[k]) (by simp [J]) ?_;have θ:=H.strs;obtain⟨ao,co,ho⟩:=θ.slice;have hml:m.length=k:=by rw [α.length_eq,KP];omega
  refine⟨λj w'=>w1=w'/\0<=j/\j<=m.length/\(∀y∈m.take j.toNat,jD y l[k]=true)/\∀y∈m.drop j.toNat,jD l[k] y=true,?_,?_⟩
  ·refine⟨λj w'=>w1=w'/\0<=j/\j<=m.length/\∀y∈m.take j.toNat,jD y l[k]=true,λj _=>((m.length:Int) - j).toNat,⟨rfl,by omega,by omega,by simp⟩,λj w2 hI=>?_⟩;obtain⟨rfl,G,V,I⟩:=hI;refine⟨ao,m.length,co,ho,λγ=>?_,λγ=>?_⟩
   ·have hj:j< m.length:=Kv γ;have δ:j.toNat< m.length:=by omega
    refine θ.get (Ex.refl w1) (i:=j) G (x:=m[j.toNat]) (J2 δ) ⟨λhle=>?_,λhle=>?_⟩
    ·rw [CA]at hle;refine⟨by unfold aj;omega,⟨rfl,by omega,by omega,λy z=>?_⟩,by dsimp only;omega⟩;have e:(j+1).toNat=j.toNat+1:=by omega
     rw [e,J8 δ]at z;rcases Ke.1 z with z | z
     ·exact I y z
     ·rw [Kf.1 z];exact hle
    ·rw [CA]at hle;refine⟨rfl,G,V,I,λy z=>?_⟩;have β:jD l[k] m[j.toNat]=true:=by
      have :=pG l[k] m[j.toNat];rw [hle,Ms]at this;exact this
     have hd:=K0 δ;have hp:(m.drop j.toNat).Pairwise (λa b=>jD a b=true):=L4 (List.drop_sublist _ _) Z;rw [hd]at hp z;rcases Ks.1 z with rfl | z
     ·exact β
     ·exact gB _ _ _ β ((Mh.1 hp).1 y z)
   ·have hj:¬j< m.length:=Kw γ;refine⟨rfl,G,V,I,λy z=>?_⟩;rw [LI (by omega)]at z;cases z
  ·intro j w2 hJ;obtain⟨rfl,G,V,I,ι⟩:=hJ;intro b w3 hb κ;have ε:Ex w1 w3:=κ▸Ex.alloc w1 _;have μ:=(H.ex ε).strs;rw [ho]at μ;have ν:m.length<=co:=by
    rcases H.2 with⟨e,h0⟩ | ⟨g,cap,cur,e,_,_,hc,_⟩
    ·rw [ho]at e;injection e with _ e2 _;omega
    ·rw [ho]at e;cases e;exact hc
   refine⟨ao,m.length,co,ho,by omega,G,by omega,?_⟩;refine Own.push (Own.none (B:=w1.heap.size) (Kb _) hb κ) ε.size (μ.take G V) (by simp;omega) λv4 w4 υ φ _ _=>?_
   have ξ:Ex w1 w4:=ε.below υ;intro b5 w5 χ ο;have ζ:Ex w4 w5:=ο▸Ex.alloc w4 _;refine Own.push (φ.ex ζ) (ξ.trans ζ).size (Strs.one χ ο) (by simp;omega) λv6 w6 ψ ω _ _=>?_
   have η:Ex w1 w6:=(ξ.trans ζ).below ψ;have ς:=(H.ex η).strs;rw [ho]at ς;refine⟨ao,m.length,co,ho,G,by omega,by omega,?_⟩;refine Own.push ω η.size (ς.drop G V ν) (by simp;omega) λv7 w7 hb7 ho7 _ _=>?_
   have hx7:Ex w1 w7:=η.below hb7;refine⟨by unfold aj;omega,⟨W.trans hx7,k+1,by omega,J,_,ho7.mono W.size,?_,?_⟩,by dsimp only;omega⟩
   ·simp only [KZ];refine Na.2 ⟨Na.2 ⟨L4 (List.take_sublist _ _) Z,List.pairwise_singleton _ _,λx hx y z=>?_⟩,L4 (List.drop_sublist _ _) Z,λx hx y z=>?_⟩
    ·rw [Kf.1 z];exact I x hx
    ·rcases Ke.1 hx with hx | hx
     ·exact gB _ _ _ (I x hx) (ι y z)
     ·rw [Kf.1 hx];exact ι y z
   ·simp only [KZ];rw [J8 J,KN];refine List.Perm.trans ?_ (α.append_right [l[k]]);refine(List.Perm.append_left _ Me).trans ?_;rw [<-KN,Li]
 ·have J:k=l.length:=by simp at hc;omega
  subst J;rw [KA]at α;rw [<-tj Z α]at H;exact h out w1 W H
end Go.Proofs.YtdecokaadekjnaaGreat
namespace Go.Proofs.YtdecokaadekjnaaGreat
open Classical
def aM {A B:Type}(R:A->B->Prop)(l:List A)(m:List B):Prop:=l.length=m.length/\∀(i:Nat) (a:A) (b:B),l[i]?=some a->m[i]?=some b->R a b
theorem aM.nil {A B:Type}{R:A->B->Prop}:aM R [] []:=⟨rfl,λi a b h=>by simp at h⟩
theorem aM.one {A B:Type}{R:A->B->Prop}{a:A}{b:B}(h:R a b):aM R [a] [b]:=⟨rfl,λi x y z G=>by
 match i,z,G with
 | 0,z,G=>simp at z G;subst z G;exact h
 | i+1,z,G=>simp at z⟩
theorem aM.append {A B:Type}{R:A->B->Prop}{l G:List A}{m m':List B}(h:aM R l m)(k:aM R G m'):aM R (l++G) (m++m'):=by
 refine⟨by simp [h.1,k.1],λi a b ha hb=>?_⟩;rw [List.getElem?_append]at ha hb;rw [<-h.1]at hb;split at ha
 ·rename_i z;rw [KG z]at hb;exact h.2 i a b ha hb
 ·rename_i z;rw [Ko z]at hb;exact k.2 _ a b ha hb
theorem aM.mono {A B:Type}{R z:A->B->Prop}{l:List A}{m:List B}(h:aM R l m)(hr:∀a b,a∈l->b∈m->R a b->z a b):aM z l m:=
 ⟨h.1,λi a b ha hb=>hr a b (L9 ha) (L9 hb) (h.2 i a b ha hb)⟩
structure Den (k:Nat)(p:P)(σ:Nat->Nat)(u:U):Prop where
 wf:p.wf=true
 len:p.text.length<=1099511627776
 bd:Bd k p
 ae:AE UInt8.toNat p σ u
 inj:e9 σ u
 uq:Uq u
theorem eX (p:P):e9 UInt8.toNat p:=λ _ _ _ _ h=>Ky.1 h
theorem Uq.AN {u:U}(h:Uq u){y:Nat}(z:u.Us y):y∉BV u:=λhb=>h.nf y hb (T.bG z)
theorem Den.dead {k:Nat}{p:P}{σ:Nat->Nat}{u:U}(d:Den k p σ u):p.dead=u.dead:=d.ae.dead
theorem Den.peel {k:Nat}{p:P}{σ:Nat->Nat}{u:U}(d:Den k p σ u)(hd:p.dead=false):∃m z,k<=m/\Den m p.peel z u.peel/\∀y,y∉BV u->z y=σ y:=by
 obtain⟨m,hm,hb⟩:=d.bd.peel;obtain⟨z,H,h2⟩:=d.ae.peel (eX p) d.inj d.uq hd;refine⟨m,z,hm,⟨FO d.wf,?_,hb,H,λa b ha hb G=>?_,Gg u d.uq⟩,h2⟩
 ·have :=BW p;have I:=d.len;rw [T.aY]at*;omega
 ·rw [T.A7]at ha hb;rw [h2 a (d.uq.AN ha),h2 b (d.uq.AN hb)]at G;exact d.inj a b ha hb G
section
variable {k:Nat} {p q:P} {σ:Nat->Nat} {u v:U}
theorem Den.sum (d:Den k (.sum p q) σ (.sum u v)):Den k p σ u/\Den k q σ v:=by
 have hw:=d.wf;have G:=d.len;have hb:=d.bd.le;simp only [T.wf,J3]at hw;simp only [T.text,J0,J']at G;simp only [T.rd,T.ow]at hb;exact⟨⟨hw.1,by omega,⟨d.bd.eb.1,by omega⟩,d.ae.1,d.inj.sub λx z=> .inl z,d.uq.ec⟩,⟨hw.2,by omega,⟨d.bd.eb.2,by omega⟩,d.ae.2,d.inj.sub λx z=> .inr z,d.uq.dL⟩⟩
theorem Den.par (d:Den k (.par p q) σ (.par u v)):Den k p σ u/\Den k q σ v:=by
 have hw:=d.wf;have G:=d.len;have hb:=d.bd.le;simp only [T.wf,J3]at hw;simp only [T.text,J0,J']at G;simp only [T.rd,T.ow]at hb;exact⟨⟨hw.1,by omega,⟨d.bd.eb.1,by omega⟩,d.ae.1,d.inj.sub λx z=> .inl z,d.uq.fT⟩,⟨hw.2,by omega,⟨d.bd.eb.2,by omega⟩,d.ae.2,d.inj.sub λx z=> .inr z,d.uq.fM⟩⟩
theorem Den.tau (d:Den k (.tau p) σ (.tau u)):Den k p σ u:=by
 have z:=d.len;simp only [T.text,J0]at z;exact⟨d.wf,by omega,⟨d.bd.eb,d.bd.le⟩,d.ae,d.inj,d.uq.tau⟩
theorem Den.rep (d:Den k (.rep p) σ (.rep u)):Den k p σ u:=by
 have z:=d.len;simp only [T.text,J0]at z;exact⟨d.wf,by omega,⟨d.bd.eb,d.bd.le⟩,d.ae,d.inj,d.uq.rep⟩
theorem Den.snd {a b:UInt8}{c e:Nat}(d:Den k (.snd a b p) σ (.snd c e u)):Den k p σ u:=by
 have hw:=d.wf;have z:=d.len;simp only [T.wf,J3]at hw;simp only [T.text,J0]at z;exact⟨hw.2,by omega,⟨d.bd.eb.2.2,d.bd.le⟩,d.ae.2.2,d.inj.sub λx G=> .inr (.inr G),d.uq.snd⟩
theorem Den.mat {a b:UInt8}{c e:Nat}(d:Den k (.mat a b p) σ (.mat c e u))(h:p.dead=false):Den k p σ u:=by
 have hw:=d.wf;have H:=d.len;simp only [T.wf,J3]at hw;simp only [T.text,J0]at H;have hd:u.dead=false:=by have :=d.ae.2.2.dead;rw [<-this];exact h
 refine⟨hw.2,by omega,⟨d.bd.eb.2.2,d.bd.le⟩,d.ae.2.2,d.inj.sub λx z=>?_,d.uq.mat⟩;by_cases G:c=e
 ·exact .inl ⟨G,z⟩
 ·exact .inr ⟨G,hd,.inr (.inr z)⟩
theorem Den.res {x y:UInt8}{n:Nat}{q:P}(d:Den k (.res x p) σ (.res n u))(hr:iI (k+1) p x y q)(H:¬(T.res x p).Fr y):Den (k+1) q (aF σ n y.toNat) u:=by
 have hb:=d.bd.le;have I:=d.len;simp only [T.rd,T.ow]at hb;simp only [T.text,J0]at I;have J:AE (aF UInt8.toNat x y.toNat) p (aF σ n y.toNat) u:=d.ae y.toNat;refine⟨hr.wf,?_,⟨hr.eb,?_⟩,(hr.ok UInt8.toNat).symm.trans J,?_,d.uq.res⟩
 ·rw [T.aY,T.jn hr.shp,<-T.aY];omega
 ·rw [T.zd hr.shp,T.xg hr.shp];omega
 ·refine .aF (λa b ha hb G h2 V=>d.inj a b ⟨ha,G⟩ ⟨hb,h2⟩ V) λz W hu e=>H ?_
  obtain⟨Z,G,h2⟩:=d.ae.symm.free z ⟨W,T.bG hu⟩;have:Z=y:=Ky.1 (h2.trans e);exact this▸G
theorem Den.rcv {a x y:UInt8}{c n:Nat}{q:P}(d:Den k (.rcv a x p) σ (.rcv c n u))(hr:iI (k+1) p x y q)(G:∀z,u.Us z->z≠n->σ z≠y.toNat):Den (k+1) q (aF σ n y.toNat) u:=by
 have hb:=d.bd.le;have H:=d.len;simp only [T.rd,T.ow]at hb;simp only [T.text,J0]at H;have I:AE (aF UInt8.toNat x y.toNat) p (aF σ n y.toNat) u:=d.ae.2 y.toNat;refine⟨hr.wf,?_,⟨hr.eb,?_⟩,(hr.ok UInt8.toNat).symm.trans I,?_,d.uq.rcv⟩
 ·rw [T.aY,T.jn hr.shp,<-T.aY];omega
 ·rw [T.zd hr.shp,T.xg hr.shp];omega
 ·exact .aF (λa b ha hb J h2 V=>d.inj a b (.inr ⟨ha,J⟩) (.inr ⟨hb,h2⟩) V) λz W hu e=>G z hu W e
end
theorem dQ:∀u:U,u.dead=true->an u=[]
 | .nil,_=>rfl
 | .snd ..,h=>by cases h
 | .rcv ..,h=>by cases h
 | .tau ..,h=>by cases h
 | .sum p q,h=>by
  simp only [T.dead,J3]at h;simp [an,dQ p h.1,dQ q h.2]
 | .par p q,h=>by
  simp only [T.dead,J3]at h;simp [an,h.1,dQ q h.2]
 | .res x p,h=>by
  have hd:p.dead=true:=h;simp [an,mM hd,Lv.has,dQ p hd]
 | .mat a b p,h=>by
  have hd:p.dead=true:=h;simp only [an,hd,LN,dQ p hd];split<;>rfl
 | .rep p,h=>by
  have hd:p.dead=true:=h;simp [an,hd]
theorem BX:∀u:U,Uq u->an u.peel=an u:=by
 intro u
 induction u with
 | nil=>intro _;rfl
 | snd=>intro _;rfl
 | rcv=>intro _;rfl
 | tau=>intro _;rfl
 | rep=>intro _;rfl
 | mat a b p z=>
  intro h;unfold T.peel;split
  ·rename_i e;rw [z h.mat];simp [an,e]
  ·rfl
 | sum p q z G=>
  intro h;unfold T.peel;split
  ·rename_i e;rw [G h.dL];simp [an,dQ p e]
  ·split
   ·rename_i e H;rw [z h.ec];simp [an,dQ q H]
   ·rfl
 | par p q z G=>
  intro h;unfold T.peel;split
  ·rename_i e;rw [G h.fM];simp [an,e]
  ·split
   ·rename_i e H;rw [z h.fT];simp [an,e,H]
   ·rfl
 | res x p z=>
  intro h;unfold T.peel;split
  ·rfl
  ·rename_i e;rw [z h.res];have:¬(td p).2.has x=true:=λI=>e ((fS p x h.fZ).1 I)
   simp [an,this]
theorem dz:∀u:U,(an u).length<=u.size
 | .nil=>by simp [an,T.size]
 | .snd .. =>by simp [an,T.size]
 | .rcv .. =>by simp [an,T.size]
 | .tau .. =>by simp [an,T.size]
 | .sum p q=>by have :=dz p;have :=dz q;simp only [an,T.size,J'];omega
 | .par p q=>by
  have :=dz p;have :=dz q;simp only [an,T.size];split
  ·omega
  ·split
   ·omega
   ·simp
 | .res x p=>by
  have :=dz p;simp only [an,T.size];split
  ·simp
  ·omega
 | .mat a b p=>by
  have :=dz p;simp only [an,T.size];split
  ·omega
  ·split<;>simp
 | .rep p=>by
  simp only [an,T.size];split<;>simp
theorem AE.size {p:P}{u:U}{ρ:UInt8->Nat}{σ:Nat->Nat}(h:AE ρ p σ u):p.size=u.size:=by
 induction p generalizing u ρ σ<;>cases u<;>simp only [AE]at h<;>simp only [T.size]
 case snd.snd z _ _ _=>rw [z h.2.2]
 case mat.mat z _ _ _=>rw [z h.2.2]
 case rcv.rcv z _ _ _=>rw [z (h.2 0)]
 case res.res z _ _=>rw [z (h 0)]
 case tau.tau z _=>rw [z h]
 case rep.rep z _=>rw [z h]
 case sum.sum z G _ _=>rw [z h.1,G h.2]
 case par.par z G _ _=>rw [z h.1,G h.2]
theorem pZ:∀(π:List Nat) (ls:List UInt8) (ρ ρ':Rh) (x:Nat),ρ x=ρ' x->asg π ls ρ x=asg π ls ρ' x
 | [],_,_,_,_,h=>by simpa [asg]using h
 | _::_,[],_,_,_,h=>by simpa [asg]using h
 | y::π,c::ls,ρ,ρ',x,h=>by
  rw [asg,asg];refine pZ π ls _ _ x ?_;unfold aF;split
  ·rfl
  ·exact h
end Go.Proofs.YtdecokaadekjnaaGreat
namespace Go.Proofs.YtdecokaadekjnaaGreat
def gl (i:Nat):UInt8:=if i< 26 then UInt8.ofNat (65+i)else UInt8.ofNat (166+i)
def GK (c:UInt8):Prop:=(65<=c.toNat/\c.toNat<=90)\/192<=c.toNat
def ic (n:Nat):Tx:=(List.range n).map gl
theorem jN {i:Nat}(h:i< 90):(gl i).toNat=if i< 26 then 65+i else 166+i:=by
 unfold gl;split
 ·rw [K2];omega
 ·rw [K2];omega
theorem wO {i j:Nat}(z:i< 90)(G:j< 90)(h:gl i=gl j):i=j:=by
 have :=Lb UInt8.toNat h;rw [jN z,jN G]at this;split at this<;>split at this<;>omega
theorem wq {i:Nat}(h:i< 90):GK (gl i):=by
 unfold GK;rw [jN h];split<;>omega
theorem Ig {i k:Nat}(h:i< 90):okn k (gl i):=by
 unfold okn;rw [jN h];split<;>omega
theorem I4 {i:Nat}(h:i< 90):nm (gl i)=true:=by
 have e:=jN h;have G:(65:UInt8).toNat=65:=rfl;have H:(90:UInt8).toNat=90:=rfl;have z:(128:UInt8).toNat=128:=rfl;simp only [nm,Lm,J3,J4];split at e
 ·left;right;exact⟨Kl.2 (by omega),Kl.2 (by omega)⟩
 ·right;exact Kl.2 (by omega)
theorem Gy {i:Nat}(h:i+1< 90):(gl i+1=91->gl (i+1)=192)/\(gl i+1≠91->gl (i+1)=gl i+1):=by
 have e:=jN (show i< 90 by omega);have V:=jN h;have H:(gl i+1).toNat=(gl i).toNat+1:=by
  rw [MB];show((gl i).toNat+1) % 256=_;refine Ng ?_;rw [e];split<;>omega
 have I:(91:UInt8).toNat=91:=rfl;have z:(192:UInt8).toNat=192:=rfl;constructor
 ·intro J;have :=Lb UInt8.toNat J;rw [H,e,I]at this;apply Ky.1;rw [V,z];split at this<;>split<;>omega
 ·intro J;have G:(gl i+1).toNat≠91:=λhc=>J (Ky.1 hc)
  rw [H,e]at G;apply Ky.1;rw [H,V,e];split at G<;>split<;>(try split)<;>omega
theorem iD {n:Nat}{c:UInt8}:c∈ic n↔∃j,j< n/\c=gl j:=by
 simp only [ic,KQ,Lz];exact⟨fun⟨j,z,h2⟩=>⟨j,z,h2.symm⟩,fun⟨j,z,h2⟩=>⟨j,z,h2.symm⟩⟩
theorem yu (n:Nat):ic (n+1)=ic n++[gl n]:=by simp [ic,MW]
theorem iB (n:Nat):(ic n).length=n:=by simp [ic]
def asgN:List Nat->Nat->(Nat->Nat)->Nat->Nat
 | [],_,σ=>σ
 | x::l,n,σ=>asgN l (n+1) (aF σ x (gl n).toNat)
theorem lE:∀(l m:List Nat) (n:Nat) (σ:Nat->Nat),asgN (l++m) n σ=asgN m (n+l.length) (asgN l n σ)
 | [],m,n,σ=>rfl
 | x::l,m,n,σ=>by
  rw [K4,asgN,asgN,lE l m,J0]
  congr 1
  omega
theorem jh:∀(l:List Nat) (n:Nat) (σ:Nat->Nat) (y:Nat),y∉l->asgN l n σ y=σ y
 | [],_,_,_,_=>rfl
 | x::l,n,σ,y,h=>by
  simp only [Ks,NI]at h;rw [asgN,jh l _ _ y h.2,bS _ _ h.1]
theorem ua:∀(l:List Nat) (n:Nat) (σ τ:Nat->Nat) (y:Nat),σ y=τ y->asgN l n σ y=asgN l n τ y
 | [],_,_,_,_,h=>h
 | x::l,n,σ,τ,y,h=>by
  rw [asgN,asgN];refine ua l _ _ _ y ?_;unfold aF;split
  ·rfl
  ·exact h
def GF (n:Nat)(p:P):Prop:=∀z,p.Fr z->GK z->∃j,j< n/\z=gl j
theorem eA {x:UInt8}(h:ngr x):¬GK x:=by unfold ngr GK at*;omega
theorem GF.peel {n k:Nat}{p:P}(h:GF n p)(e:Eb k p):GF n p.peel:=by
 refine(T.iw (λq=>GF n q/\∃k,Eb k q) ?_ ?_ ?_ ?_ p ⟨h,k,e⟩).1
 ·rintro a q ⟨h,k,e⟩
  exact⟨λz G=>h z (.inr (.inr G)),k,e.2.2⟩
 ·rintro q r ⟨h,k,e⟩
  exact⟨⟨λz G=>h z (.inl G),k,e.1⟩,λz G=>h z (.inr G),k,e.2⟩
 ·rintro q r ⟨h,k,e⟩
  exact⟨⟨λz G=>h z (.inl G),k,e.1⟩,λz G=>h z (.inr G),k,e.2⟩
 ·rintro x q _ ⟨h,k,e⟩
  refine⟨λz G H=>?_,k+1,e.2⟩;by_cases I:z=x
  ·exact absurd H (eA (I▸e.1.1))
  ·exact h z ⟨I,G⟩ H
theorem iP:∀(u:U),∀x∈(ak u).1,x∈BV u:=by
 intro u
 induction u with
 | nil=>intro x h;simp [ak]at h
 | snd=>intro x h;simp [ak]at h
 | rcv=>intro x h;simp [ak]at h
 | tau=>intro x h;simp [ak]at h
 | sum p q z G=>
  intro x h;simp only [ak]at h;split at h
  ·exact KB _ (G x h)
  ·split at h
   ·exact KH _ (z x h)
   ·simp at h
 | par p q z G=>
  intro x h;simp only [ak,Ke]at h;exact h.elim (λh=>KH _ (z x h)) (λh=>KB _ (G x h))
 | res y p z=>
  intro x h;simp only [ak]at h;split at h
  ·rcases Ks.1 h with rfl | h
   ·exact KR ..
   ·exact Ki _ (z x h)
  ·exact Ki _ (z x h)
 | mat a b p z=>
  intro x h;simp only [ak]at h;split at h
  ·exact z x h
  ·split at h<;>simp at h
 | rep p z=>
  intro x h;simp only [ak]at h;split at h<;>simp at h
theorem kZ:∀(u:U),Uq u->∀t∈(ak u).2,∀y,t.Us y->u.Us y\/y∈(ak u).1:=by
 intro u
 induction u with
 | nil=>intro _ t h;simp [ak]at h
 | snd=>intro _ t h;simp [ak]at h;subst h;exact λy z=> .inl z
 | rcv=>intro _ t h;simp [ak]at h;subst h;exact λy z=> .inl z
 | tau=>intro _ t h;simp [ak]at h;subst h;exact λy z=> .inl z
 | sum p q G H=>
  intro hu t h y z;simp only [ak]at h|-;split at h
  ·rename_i e;simp only [e,LN];exact(H hu.dL t h y z).imp .inr id
  ·rename_i e;split at h
   ·rename_i J;simp only [e,J,LN];exact(G hu.ec t h y z).imp .inl id
   ·simp at h;subst h;exact .inl z
 | par p q G H=>
  intro hu t h y z;simp only [ak,Ke]at h|-;rcases h with h | h
  ·exact(G hu.fT t h y z).imp .inl .inl
  ·exact(H hu.fM t h y z).imp .inr .inr
 | res x p G=>
  intro hu t h y z;have h:t∈(ak p).2:=h;rcases G hu.res t h y z with I | I
  ·by_cases e:y=x
   ·subst e;right;simp only [ak];rw [KG ((fS p y hu.fZ).2 I)];exact KR ..
   ·exact .inl ⟨e,I⟩
  ·right;simp only [ak];split
   ·exact Ki _ I
   ·exact I
 | mat a b p G=>
  intro hu t h y z;simp only [ak]at h|-;split at h
  ·rename_i e;simp only [e,LN];exact(G hu.mat t h y z).imp (λh=> .inl ⟨rfl,h⟩) id
  ·split at h
   ·simp at h
   ·simp at h;subst h;exact .inl z
 | rep p G=>
  intro hu t h y z;simp only [ak]at h|-;split at h
  ·simp at h
  ·simp at h;subst h;exact .inl z
end Go.Proofs.YtdecokaadekjnaaGreat
namespace Go.Proofs.YtdecokaadekjnaaGreat
open Go Go.RowKit
theorem Den.ok {k:Nat}{p:P}{σ:Nat->Nat}{u:U}(d:Den k p σ u):Ok p:=⟨d.wf,d.len⟩
def Im (k:Nat)(σ:Nat->Nat)(u:U)(p:P)(q:U):Prop:=∃m z,k<=m/\Den m p z q/\∀y,y∉BV u->z y=σ y
theorem CZ {u:U}(z:u.dC)(hd:u.dead=false)(H:∀p q,u≠ .sum p q)(hu:Uq u):an u=[u]:=by
 cases u with
 | nil=>cases hd
 | snd=>rfl
 | rcv=>rfl
 | tau=>rfl
 | sum p q=>exact absurd rfl (H p q)
 | par p q=>
  have G:p.dead=false:=z.1;have h2:q.dead=false:=z.2;simp [an,G,h2]
 | res x p=>
  have:(td p).2.has x=true:=(fS p x hu.fZ).2 z;simp [an,this]
 | mat a b p=>
  have G:a≠b:=z;have h2:p.dead=false:=hd;simp [an,G,h2]
 | rep p=>
  have h2:p.dead=false:=hd;simp [an,h2]
theorem FH {p:P}{u:U}{ρ:UInt8->Nat}{σ:Nat->Nat}(h:AE ρ p σ u):(∀a b,p≠ .sum a b)↔∀a b,u≠ .sum a b:=by
 cases p<;>cases u<;>simp [AE]at h|-
theorem wN:∀(n:Nat) {k:Nat} {p:P} {σ:Nat->Nat} {u:U},p.size<=n->Den k p σ u->∀{w:World} {R:Value->World->Prop},
  (∀v w' (ps:List P),Ex w w'->Own w.heap.size w' v (ps.map T.text)->aM (Im k σ u) ps (an u)->(∀x∈ps,∀j,GF j p->GF j x)->R v w')->Calls Tryz.prog 258 #[.string (ab p.text)] w (ax [.v] R):=by
 intro n
 induction n with
 | zero=>intro k p σ u h;have :=a8 p;omega
 | succ n ih=>
  intro k p σ u hn d w R h;refine nV _ w R ?_;refine yI d.ok λw1 J H=>?_
  have ν:=T.vj p;have δ:=T.mN p;by_cases hd:p.dead=true
  ·
   have hq:p.peel.dead=true:=by rw [δ];exact hd
   have hs:an u=[]:=dQ u (by rw [<-d.dead];exact hd);have hp:=T.lN p;refine aK H ⟨λhc=>?_,λhc=>?_⟩
   ·exact fA _ (Kb _) H λw2 G=>⟨λ _=>h _ w2 [] (J.trans G) (Own.nil _ _) (by rw [hs];exact aM.nil) (λx h=>(by cases h)),λhh=>absurd hh (by rw [hq];simp)⟩
   ·exfalso;generalize p.peel=q at*;cases q<;>simp [T.kind]at hc
    simp [T.dead,hp.1]at hq
  have hd:p.dead=false:=by simpa using hd
  obtain⟨m,ξ,hm,d',β⟩:=d.peel hd;have ο:=T.lN u;rw [<-BX u d.uq]at h;have ς:u.peel.dead=false:=by rw [T.mN,<-d.dead];exact hd
  have υ:p.peel.dead=false:=by rw [δ];exact hd
  have ε:∀y,y∉BV u->y∉BV u.peel:=λy hy hb=>hy (A9 u y hb)
  have ζ:∀j,GF j p->GF j p.peel:=λj hj=>hj.peel d.bd.eb
  generalize p.peel=q at*;generalize u.peel=v at*;refine aK H ⟨λhc=>?_,λhc=>?_⟩
  ·have φ:∀a b,q≠ .sum a b:=λa b e=>by subst e;simp [T.kind]at hc
   refine fA _ (Kb _) H λw2 G=>⟨λhh=>absurd hh (by rw [υ];simp),λ _=>λb w3 hb I=>?_⟩
   refine h _ w3 [q] ((J.trans G).trans (I▸Ex.alloc w2 _)) (Own.one (J.trans G).size hb I) ?_ λx hx j hj=>?_
   ·rw [CZ ο ς ((FH d'.ae).1 φ) d'.uq];exact aM.one ⟨m,ξ,hm,d',β⟩
   ·have:x=q:=by simpa using hx
    subst this;exact ζ j hj
  ·cases q<;>simp [T.kind]at hc
   rename_i a b;cases v<;>(try exact d'.ae.elim)
   rename_i u1 u2;obtain⟨d1,d2⟩:=d'.sum;simp only [T.size]at ν;refine db H λvp w2 G V=>?_
   have V:Strs w2 vp [a.text,b.text]:=V;refine⟨λw'=>Ex w2 w',λw3 I=>⟨I▸Ex.drew w2,?_⟩⟩;have W:Ex w2 w3:=I▸Ex.drew w2;refine V.C' (i:=0) (x:=a.text) (by omega) rfl ?_;refine V.C' (i:=1) (x:=b.text) (by omega) rfl ?_;refine ih (by omega) d1 λv4 w4 χ Z ψ η ω=>⟨W.trans Z,ih (by omega) d2 λv5 w5 ps2 α ho5 θ hg5=>⟨(W.trans Z).trans α,?_⟩⟩
   have z1:=dz u1;have z2:=dz u2;have e1:=d1.ae.size;have e2:=d2.ae.size;have t1:=bD a;have t2:=bD b;have hl:=d'.len;simp only [T.text,J0,J']at hl;have l1:=η.1;have l2:=θ.1;have hE:Ex w w3:=(J.trans G).trans W;refine Own.push (ψ.ex α) (Z.trans α).size ho5.strs (by simp only [Kz];omega) λv6 w6 hb6 ho6 _ _=>?_
   have ι:Ex w3 w6:=(Z.trans α).below hb6;refine⟨W.trans ι,h _ w6 (χ++ps2) (hE.trans ι) ?_ ?_ λx hx j hj=>?_⟩
   ·rw [K3];exact ho6.mono hE.size
   ·have κ:∀y,y∉BV u->y∉BV u1:=λy hy hb=>ε y hy (KH _ hb)
    have μ:∀y,y∉BV u->y∉BV u2:=λy hy hb=>ε y hy (KB _ hb)
    refine aM.append (η.mono λx y _ _ ⟨m',γ,h1,h2,h3⟩=>⟨m',γ,by omega,h2,λz hz=>?_⟩) (θ.mono λx y _ _ ⟨m',γ,h1,h2,h3⟩=>⟨m',γ,by omega,h2,λz hz=>?_⟩)
    ·rw [h3 z (κ z hz),β z hz]
    ·rw [h3 z (μ z hz),β z hz]
   ·have hj:=ζ j hj;exact(Ke.1 hx).elim (λhx=>ω x hx j λz hz=>hj z (.inl hz)) (λhx=>hg5 x hx j λz hz=>hj z (.inr hz))
theorem BL {s o:Tx}:s≠[]->(o.Perm s↔∃i r,i< s.length/\r.Perm (s.take i++s.drop (i+1))/\o=bt s i::r):=by
 intro G;constructor
 ·intro h;cases o with
  | nil=>exact absurd h.symm.eq_nil G
  | cons c r=>
   obtain⟨i,z,e⟩:=KY.1 (h.subset (KR ..));refine⟨i,r,z,?_,by simp [bt,z,e]⟩;have h2:s.Perm (s[i]::(s.take i++s.drop (i+1))):=by
    conv=>lhs;rw [<-Li i s,K0 z]
    exact MO
   rw [e]at h2;exact(NA c).1 (h.trans h2)
 ·rintro⟨i,r,z,hr,rfl⟩
  have h2:s.Perm (s[i]::(s.take i++s.drop (i+1))):=by
   conv=>lhs;rw [<-Li i s,K0 z]
   exact MO
  have e:bt s i=s[i]:=by simp [bt,z]
  rw [e];exact(List.Perm.cons _ hr).trans h2.symm
theorem z8:∀(n:Nat) {s:Tx},s.length<=n->n<=5->∀{w:World} {R:Value->World->Prop},
  (∀v w' (L:List Tx),Ex w w'->Own w.heap.size w' v L->L.length<=6^s.length->(∀o,o∈L↔o.Perm s)->R v w')->Calls Tryz.prog 243 #[.string (ab s)] w (ax [.v] R):=by
 intro n
 induction n with
 | zero=>
  intro s hs hn w R h;have:s=[]:=KD (by omega);subst this;refine jw _ w R ?_;refine⟨λ _=>λb w1 hb H=>h _ w1 [[]] (H▸Ex.alloc w _) (Own.one (Kb _) hb H) (by simp) λo=>by simp,λhc=>absurd hc (by simp)⟩
 | succ n ih=>
  intro s hs hn w R h;refine jw _ w R ?_;refine⟨λhc=>?_,λhc=>?_⟩
  ·have hc:s=[]:=Kv hc;subst hc;exact λb w1 hb H=>h _ w1 [[]] (H▸Ex.alloc w _) (Own.one (Kb _) hb H) (by simp) λo=>by simp
  ·have θ:s≠[]:=Kw hc;have hpos:0< s.length:=MJ.2 θ;intro b cap w1 hb hrow φ;have χ:Ex w w1:=sY φ;have h6:6^(s.length - 1)<=1296:=K5 (Nat.pow_le_pow_right (by omega) (by omega:s.length - 1<=4)) (by decide);have h6':6^s.length=6* 6^(s.length - 1):=by
    conv=>lhs;rw [show s.length=(s.length - 1)+1 by omega,Nat.pow_succ]
    omega
   generalize hP:6^(s.length - 1)=P6 at*;refine⟨some ⟨b,0,none⟩,s.length,cap,rfl,λout x w'=>Ex w w'/\∃i:Nat,x=i/\i<=s.length/\∃L:List Tx,Own w.heap.size w' out L/\L.length<=i* P6/\∀o,o∈L↔∃j r,j< i/\r.Perm (s.take j++s.drop (j+1))/\o=bt s j::r,
    λ _ x _=>((s.length:Int) - x).toNat,⟨χ,0,rfl,by omega,[],Own.nil _ _,by simp,λo=>by simp⟩,λout x w2 hI=>?_⟩
   obtain⟨ι,i,rfl,hi,L,Z,hL2,κ⟩:=hI;refine⟨λα=>?_,λα=>?_⟩
   ·have β:i< s.length:=by simpa using α
    have ei:((i:Int)+1).toNat=i+1:=by omega
    refine⟨λw'=>True,λw3 ψ=>⟨trivial,by omega,by unfold aj;omega,by omega,by simp only [KP,LH];omega,?_⟩⟩;have μ:Ex w2 w3:=ψ▸Ex.drew w2;rw [ei,J9];have hlen:(s.take i++s.drop (i+1)).length=s.length - 1:=by simp only [J',KP,LH];omega
    refine ih (by omega) (by omega) λvr w4 M ω γ hM2 δ=>⟨trivial,?_⟩
    rw [hlen,hP]at hM2;have ν:=γ.strs;obtain⟨ar,cr,hvr⟩:=ν.slice;have J:=μ.trans ω;have hE4:Ex w w4:=ι.trans J;refine⟨ar,M.length,cr,hvr,λout y w'=>(Ex w w'/\w4.heap.size<=w'.heap.size/\Strs w' vr M/\∀b,out.ownBlock=some b->vr.ownBlock≠some b)/\∃j:Nat,y=j/\j<=M.length/\Own w.heap.size w' out (L++(M.take j).map (bt s i::·)),λ _ y _=>((M.length:Int) - y).toNat,
     ⟨⟨hE4,Kb _,ν,λb hb z=>?_⟩,0,rfl,by omega,by simpa using Z.ex J⟩,λout2 y w5 hI=>?_⟩
    ·have h1:=(Z.block b hb).2;have h2:=(γ.block b z).1;have h3:=μ.size;omega
    obtain⟨⟨ξ,hsz5,V,W⟩,j,rfl,hj,ε⟩:=hI;have hmul:i* P6+P6<=6480:=by
     have:i* P6<=4* 1296:=Nb (by omega) h6;omega
    refine⟨λζ=>?_,λζ=>?_⟩
    ·have G:j< M.length:=by simpa using ζ
     refine V.get (Ex.refl w5) (i:=j) (by omega) (x:=M[j]) (by simp [G]) ⟨by unfold aj;omega,by omega,?_,λb6 w6 hb6 η=>?_⟩
     ·have :=(δ M[j]).1 (Kg G);have h7:=this.length_eq;simp only [LH,KP,ei,J9];omega
     ·have ο:=uY (s:=s) (i:=(i:Int)) (by omega) (by omega);rw [ei,J9]at ο;rw [ο]at η;have I:Ex w5 w6:=η▸Ex.alloc w5 _;have ς:Ex w w6:=ξ.trans I;refine Own.push (ε.ex I) ς.size (Strs.one hb6 η) (by simp only [J',Kz,KP,J0,Kh];omega) λv7 w7 υ ho7 hg7 hw7=>?_
      have hE7:Ex w w7:=ς.below υ;have hs7:Strs w7 vr M:=(V.ex I).grown hg7 λb hb z=>W b z hb
      refine⟨by unfold aj;omega,⟨⟨hE7,?_,hs7,λb hb z=>?_⟩,j+1,by omega,G,?_⟩,by dsimp only;omega⟩
      ·have :=I.size;have :=υ.size;omega
      ·rcases hw7 b hb with h | h
       ·exact W b h z
       ·have h2:=(γ.block b z).2;have :=I.size;omega
      ·have e:L++(M.take (j+1)).map (bt s i::·)=(L++(M.take j).map (bt s i::·))++[[bt s i]++M[j]]:=by
        rw [J8 G,K3,KN];rfl
       rw [e];exact ho7
    ·have G:j=M.length:=by simp at ζ;omega
     subst G;rw [KA]at ε;refine⟨by unfold aj;omega,⟨ξ,i+1,by omega,β,_,ε,?_,λo=>?_⟩,by dsimp only;omega⟩
     ·rw [J',Kz,Nat.add_mul];omega
     ·rw [Ke,κ,KQ];constructor
      ·rintro(⟨j,r,h1,h2,h3⟩ | ⟨r,hr,rfl⟩)
       ·exact⟨j,r,by omega,h2,h3⟩
       ·exact⟨i,r,by omega,(δ r).1 hr,rfl⟩
      ·rintro⟨j,r,h1,h2,rfl⟩
       by_cases e:j=i
       ·subst e;exact .inr ⟨r,(δ r).2 h2,rfl⟩
       ·exact .inl ⟨j,r,by omega,h2,rfl⟩
   ·have β:i=s.length:=by simp at α;omega
    subst β;refine h out w2 L ι Z ?_ λo=>?_
    ·have:s.length* P6<=6* P6:=Nat.mul_le_mul_right _ (by omega);omega
    ·rw [κ,BL θ]
structure Kp (w w':World)(S:Nat->Prop):Prop where
 os:w'.os=w.os
 tape:w'.tape=w.tape
 output:w'.output=w.output
 size:w.heap.size<=w'.heap.size
 block:∀g,g< w.heap.size->¬S g->w'.heap[g]?=w.heap[g]?
theorem Kp.ah {w w':World}(h:Ex w w')(S:Nat->Prop):Kp w w' S:=⟨h.os,h.tape,h.output,h.size,λg z _=>h.block g z⟩
theorem Kp.trans {a b c:World}{S T:Nat->Prop}(h:Kp a b S)(k:Kp b c T)(H:∀g,g< a.heap.size->T g->S g):Kp a c S:=
 ⟨k.os.trans h.os,k.tape.trans h.tape,k.output.trans h.output,K5 h.size k.size,λg z G=>
  (k.block g (Kx z h.size) λI=>G (H g z I)).trans (h.block g z G)⟩
theorem Kp.below {w w':World}{S:Nat->Prop}{B:Nat}(h:Kp w w' S)(hB:B<=w.heap.size)(z:∀g,g< B->¬S g):Below B w w':=
 ⟨h.os,h.tape,h.output,h.size,λg G=>h.block g (by omega) (z g G)⟩
theorem Strs.kp {w w':World}{v:Value}{l:List Tx}{S:Nat->Prop}(h:Strs w v l)(k:Kp w w' S)(G:∀b off n cap,v= .slice (some ⟨b,off,none⟩) n cap->¬S b):Strs w' v l:=by
 rcases h with h | ⟨b,off,cap,z,h2,H⟩
 ·exact .inl h
 ·refine .inr ⟨b,off,cap,z,Kx h2 k.size,λi x I=>?_⟩;rw [J1 (w:=w) (k.block b h2 (G b off _ cap z))];exact H i x I
structure GL (B:Nat)(w:World)(b:Nat)(f:Tx)(v:Value)(L:List Tx):Prop where
 lt:b< w.heap.size
 base:B<=b
 c0:w.cell? ⟨b,0,none⟩=some (sv f)
 c1:w.cell? ⟨b,1,none⟩=some v
 own:Own B w v L
 ne:v.ownBlock≠some b
 f0:w.frozen? ⟨b,0,none⟩=false
 f1:w.frozen? ⟨b,1,none⟩=false
def gS (b:Nat)(v:Value)(g:Nat):Prop:=g=b\/v.ownBlock=some g
theorem GL.ex {B:Nat}{w w':World}{b:Nat}{f:Tx}{v:Value}{L:List Tx}(h:GL B w b f v L)(k:Ex w w'):GL B w' b f v L:=
 ⟨Kx h.lt k.size,h.base,by rw [k.cell h.lt];exact h.c0,by rw [k.cell h.lt];exact h.c1,h.own.ex k,h.ne,by rw [Lr k h.lt];exact h.f0,by rw [Lr k h.lt];exact h.f1⟩
def E8 (k:Nat)(σ:Nat->Nat)(u:U)(j:Nat)(p:P)(t:U):Prop:=
 ∃m τ,k<=m/\Den m p τ t/\(∀y,t.Us y->τ y=asgN (ak u).1 j σ y)/\GF (j+(ak u).1.length) p
theorem uH:∀(l:List Nat) (n:Nat) (σ τ:Nat->Nat) (y:Nat),(y∈l\/σ y=τ y)->asgN l n σ y=asgN l n τ y
 | [],_,_,_,_,h=>by simpa [asgN]using h
 | x::l,n,σ,τ,y,h=>by
  rw [asgN,asgN];refine uH l _ _ _ y ?_;by_cases e:y=x
  ·right;subst e;simp [aF]
  ·rcases h with h | h
   ·exact .inl ((Ks.1 h).resolve_left e)
   ·right;simp [aF,e,h]
theorem DX {u:U}(G:u.dC)(hd:u.dead=false)(z:∀p q,u≠ .par p q)(h2:∀x p,u≠ .res x p):ak u=([],[u]):=by
 cases u with
 | nil=>cases hd
 | snd=>rfl
 | rcv=>rfl
 | tau=>rfl
 | par p q=>exact absurd rfl (z p q)
 | res x p=>exact absurd rfl (h2 x p)
 | sum p q=>
  have z:p.dead=false:=G.1;have h2:q.dead=false:=G.2;simp [ak,z,h2]
 | mat a b p=>
  have z:a≠b:=G;have h2:p.dead=false:=hd;simp [ak,z,h2]
 | rep p=>
  have h2:p.dead=false:=hd;simp [ak,h2]
theorem GL.DJ {B:Nat}{w:World}{b:Nat}{f:Tx}{v:Value}{L:List Tx}(h:GL B w b f v L)(g:Tx):GL B (w.setCell ⟨b,0,none⟩ (sv g)) b g v L:=by
 have H:∀n,n≠b->(w.setCell ⟨b,0,none⟩ (sv g)).heap[n]?=w.heap[n]?:=λn z=>Mz _ _ _ _ z
 refine⟨by rw [KM];exact h.lt,h.base,Kj _ _ _ h.c0,?_,⟨h.own.1,?_⟩,h.ne,by rw [Kt];exact h.f0,by rw [Kt];exact h.f1⟩
 ·rw [J7 _ _ _ _ (by simp)];exact h.c1
 ·rcases h.own.2 with z | ⟨G,cap,cur,e,hb,I,rest⟩
  ·exact .inl z
  ·refine .inr ⟨G,cap,cur,e,hb,?_,rest⟩;rw [H G λJ=>h.ne (by rw [e,<-J];rfl)];exact I
theorem GL.y6 {B:Nat}{w w':World}{b:Nat}{f:Tx}{v v':Value}{L I:List Tx}(h:GL B w b f v L)(J:w.grownBy w' v.ownBlock)(V:Own B w' v' I)(z:v'.ownBlock≠some b):
  GL B (w'.setCell ⟨b,1,none⟩ v') b f v' I/\((∃u,w'.cell? ⟨b,1,none⟩=some u)/\w'.frozen? ⟨b,1,none⟩=false):=by
 have hb:w'.heap[b]?=w.heap[b]?:=J.block b h.lt λe=>h.ne e.symm
 have e0:w'.cell? ⟨b,0,none⟩=some (sv f):=by rw [J1 (w:=w) hb];exact h.c0
 have W:w'.cell? ⟨b,1,none⟩=some v:=by rw [J1 (w:=w) hb];exact h.c1
 have z0:w'.frozen? ⟨b,0,none⟩=false:=by rw [KC (w:=w) hb];exact h.f0
 have Z:w'.frozen? ⟨b,1,none⟩=false:=by rw [KC (w:=w) hb];exact h.f1
 have hk:∀n,n≠b->(w'.setCell ⟨b,1,none⟩ v').heap[n]?=w'.heap[n]?:=λn G=>Mz _ _ _ _ G
 refine⟨⟨by rw [KM];exact Kx h.lt J.size,h.base,?_,Kj _ _ _ W,⟨V.1,?_⟩,z,by rw [Kt];exact z0,by rw [Kt];exact Z⟩,⟨⟨_,W⟩,Z⟩⟩
 ·rw [J7 _ _ _ _ (by simp)];exact e0
 ·rcases V.2 with G | ⟨g',cap,cur,e,hb,H,rest⟩
  ·exact .inl G
  ·refine .inr ⟨g',cap,cur,e,hb,?_,rest⟩;rw [hk g' λhh=>z (by rw [e,<-hh];rfl)];exact H
theorem Kp.set {w w':World}{S:Nat->Prop}(h:Kp w w' S){b i:Nat}(hb:S b)(v:Value):Kp w (w'.setCell ⟨b,i,none⟩ v) S:=
 ⟨h.os,h.tape,h.output,by rw [KM];exact h.size,λg G z=>(Mz _ _ _ _ (show g≠b from λe=>z (by rw [e];exact hb))).trans (h.block g G z)⟩
theorem Kp.grown {w w1 w':World}{S:Nat->Prop}(h:Kp w w1 S){row:Option Nat}(G:w1.grownBy w' row)(hr:∀g,row=some g->g< w.heap.size->S g):Kp w w' S:=
 ⟨G.os.trans h.os,G.tape.trans h.tape,G.output.trans h.output,K5 h.size G.size,λg z H=>
  (G.block g (Kx z h.size) (λe=>H (hr g e.symm z))).trans (h.block g z H)⟩
theorem fF:∀u:U,(ak u).2.length<=u.size
 | .nil=>by simp [ak]
 | .snd .. =>by simp [ak,T.size]
 | .rcv .. =>by simp [ak,T.size]
 | .tau .. =>by simp [ak,T.size]
 | .sum p q=>by
  have :=fF p;have :=fF q;simp only [ak,T.size];split
  ·omega
  ·split
   ·omega
   ·simp
 | .par p q=>by have :=fF p;have :=fF q;simp only [ak,T.size,J'];omega
 | .res x p=>by have :=fF p;simp only [ak,T.size];omega
 | .mat a b p=>by
  have :=fF p;simp only [ak,T.size];split
  ·omega
  ·split<;>simp
 | .rep p=>by
  simp only [ak,T.size];split<;>simp
theorem iJ:∀u:U,(ak u).1.length<=u.ow
 | .nil=>by simp [ak]
 | .snd .. =>by simp [ak]
 | .rcv .. =>by simp [ak]
 | .tau .. =>by simp [ak]
 | .sum p q=>by
  have :=iJ p;have :=iJ q;simp only [ak,T.ow];split
  ·omega
  ·split
   ·omega
   ·simp
 | .par p q=>by have :=iJ p;have :=iJ q;simp only [ak,T.ow,J'];omega
 | .res x p=>by
  have :=iJ p;simp only [ak,T.ow];split
  ·simp only [J0];omega
  ·omega
 | .mat a b p=>by
  have :=iJ p;simp only [ak,T.ow];split
  ·omega
  ·split<;>simp
 | .rep p=>by
  simp only [ak,T.ow];split<;>simp
theorem AF {p:P}{u:U}{ρ:UInt8->Nat}{σ:Nat->Nat}(h:AE ρ p σ u):u.ow=p.ow:=by
 induction p generalizing u ρ σ<;>cases u<;>simp only [AE]at h<;>simp only [T.ow]
 case snd.snd z _ _ _=>exact z h.2.2
 case mat.mat z _ _ _=>exact z h.2.2
 case rcv.rcv z _ _ _=>exact z (h.2 0)
 case res.res z _ _=>rw [z (h 0)]
 case tau.tau z _=>exact z h
 case rep.rep z _=>exact z h
 case sum.sum z G _ _=>rw [z h.1,G h.2]
 case par.par z G _ _=>rw [z h.1,G h.2]
theorem Ed:∀(n:Nat) {k:Nat} {p:P} {σ:Nat->Nat} {u:U} {j:Nat},p.size<=n->Den k p σ u->GF j p->j+p.ow<=64->
  ∀{B b:Nat} {v:Value} {L:List Tx} {w:World} {R:World->Prop},GL B w b (ic j) v L->L.length+p.size<=1099511627776->
  (∀w' v' (ps:List P),Kp w w' (gS b v)->(∀g,v'.ownBlock=some g->v.ownBlock=some g\/w.heap.size<=g)->GL B w' b (ic (j+(ak u).1.length)) v' (L++ps.map T.text)->aM (E8 k σ u j) ps (ak u).2->R w')->
  Calls Tryz.prog 242 #[.pointer (some ⟨b,0,none⟩),.string (ab p.text)] w (ax [] R):=by
 intro n
 induction n with
 | zero=>intro k p σ u j h;have :=a8 p;omega
 | succ n ih=>
  intro k p σ u j hn d hgf how B b v L w R α hL h;refine ku _ _ w R ?_;refine yI d.ok λw1 hx1 ξ=>?_
  have hsz:=T.vj p;have hdd:=T.mN p;refine fA _ (Kb _) ξ λw2 hx2=>⟨λhd=>?_,λhd=>?_⟩
  ·have hx:Ex w w2:=hx1.trans hx2;have J:=dj u d.uq (by rw [<-d.dead,<-hdd];exact hd);rw [J]at h;exact h w2 v [] (Kp.ah hx _) (λg J=> .inl J) (by simpa using α.ex hx) aM.nil
  have hpd:p.dead=false:=by rw [<-hdd];exact hd
  obtain⟨m,ο,hm,d',hσ⟩:=d.peel hpd;have γ:GF j p.peel:=hgf.peel d.bd.eb;have how':j+p.peel.ow<=64:=by have :=T.Fb p;omega
  have hpu:=T.lN u;have hud:u.peel.dead=false:=by rw [T.mN,<-d.dead];exact hpd
  have hbv:∀y,y∉BV u->y∉BV u.peel:=λy hy hb=>hy (A9 u y hb)
  have ς:=d'.uq;have h:∀w' v' (ps:List P),Kp w w' (gS b v)->(∀g,v'.ownBlock=some g->v.ownBlock=some g\/w.heap.size<=g)->GL B w' b (ic (j+(ak u.peel).1.length)) v' (L++ps.map T.text)->aM (E8 m ο u.peel j) ps (ak u.peel).2->R w':=by
   intro w' v' ps G h2 h3 h4;have hus:=kZ u.peel ς;rw [pA u d.uq]at h3;have hmem:∀t∈(ak u.peel).2,∀y,t.Us y->asgN (ak u.peel).1 j ο y=asgN (ak u.peel).1 j σ y:=by
    intro t ht y hy;refine uH _ _ _ _ _ ?_;rcases hus t ht y hy with hh | hh
    ·right;rw [T.A7]at hh;exact hσ y (d.uq.AN hh)
    ·exact .inl hh
   have h4':aM (E8 k σ u j) ps (ak u.peel).2:=h4.mono λa t _ ht ⟨m',τ,q1,q2,q3,q4⟩=>⟨m',τ,by omega,q2,λy hy=>by rw [q3 y hy,hmem t ht y hy,pA u d.uq],by rw [pA u d.uq]at q4;exact q4⟩
   rw [pA u d.uq]at h4';exact h w' v' ps G h2 h3 h4'
  generalize p.peel=q at*;generalize u.peel=t at*;have Z:Ex w w2:=hx1.trans hx2;have δ:=α.ex Z;have thread:(∀a b,q≠ .par a b)->(∀x a,q≠ .res x a)->True:=λ _ _=>trivial
  refine aK ξ ⟨λhc=>?_,λhc=>⟨λhc2=>?_,λhc2=>?_⟩⟩
  ·
   cases q<;>simp [T.kind]at hc
   rename_i a c;cases t<;>(try exact d'.ae.elim)
   rename_i V u2;obtain⟨d1,d2⟩:=d'.par;simp only [T.size]at hsz;simp only [T.ow]at how';have z1:=d1.ae.size;have z2:=d2.ae.size;refine qy ξ λvp w3 W φ hfr=>?_
   have φ:Strs w3 vp [a.text,c.text]:=φ;have I:=δ.ex W;have μ:Ex w w3:=Z.trans W;refine φ.get (Ex.refl w3) (i:=0) (x:=a.text) (by omega) rfl ?_;refine ih (by omega) d1 (λz hz=>γ z (.inl hz)) (by omega) I (by omega) λw4 v4 ps1 hk4 hv4 hGL4 ha4=>?_
   have hs4:Strs w4 vp [a.text,c.text]:=φ.kp hk4 λbp off n' cap e hS=>by
    have hb:=hfr bp (by rw [e];rfl);rcases hS with rfl | hS
    ·have :=δ.lt;omega
    ·have :=(α.own.block bp hS).2;have :=Z.size;omega
   refine hs4.get (Ex.refl w4) (i:=1) (x:=c.text) (by omega) rfl ?_;have l1:=ha4.1;have g1:(ak V).2.length<=V.size:=fF V;have o1:(ak V).1.length<=a.ow:=by rw [<-AF d1.ae];exact iJ V
   refine ih (by omega) d2 (λz hz J=>?_) (by omega) hGL4 (by simp only [J',Kz];omega) λw5 v5 ps2 hk5 hv5 ε ha5=>?_
   ·obtain⟨i,hi,e⟩:=γ z (.inr hz) J;exact⟨i,by omega,e⟩
   ·have hv45:∀g,v5.ownBlock=some g->v.ownBlock=some g\/w.heap.size<=g:=by
     intro g J;rcases hv5 g J with G | G
     ·rcases hv4 g G with h2 | h2
      ·exact .inl h2
      ·right;have :=μ.size;omega
     ·right;have :=μ.size;have :=hk4.size;omega
    refine h w5 v5 (ps1++ps2) ?_ hv45 ?_ ?_
    ·refine Kp.trans (Kp.trans (Kp.ah μ (gS b v)) hk4 λg _ J=>J) hk5 λg J hS=>?_
     rcases hS with G | G
     ·exact .inl G
     ·rcases hv4 g G with h2 | h2
      ·exact .inr h2
      ·have :=μ.size;omega
    ·have e1:(ak (T.par V u2)).1.length=(ak V).1.length+(ak u2).1.length:=by simp [ak]
     rw [e1,<-Mt,K3,<-KN];exact ε
    ·have hnd:=KL.1 ς.nd;have hus1:=kZ V d1.uq;have hus2:=kZ u2 d2.uq;refine aM.append (ha4.mono λx y _ hy ⟨m',τ,q1,q2,q3,q4⟩=>⟨m',τ,q1,q2,λz hz=>?_,λz hz J=>?_⟩) (ha5.mono λx y _ hy ⟨m',τ,q1,q2,q3,q4⟩=>⟨m',τ,q1,q2,λz hz=>?_,λz hz J=>?_⟩)
     ·have hno:z∉(ak u2).1:=λhin=>by
       have hb2:=iP u2 z hin;rcases hus1 y hy z hz with G | G
       ·exact ς.nf z (KB _ hb2) (.inl (T.bG G))
       ·exact hnd.2.2 z (iP V z G) z hb2 rfl
      show τ z=asgN ((ak V).1++(ak u2).1) j ο z;rw [lE,jh _ _ _ _ hno];exact q3 z hz
     ·obtain⟨i,hi,e⟩:=q4 z hz J;have e1:(ak (T.par V u2)).1.length=(ak V).1.length+(ak u2).1.length:=by simp [ak]
      exact⟨i,by omega,e⟩
     ·have hno:z∉(ak V).1:=λhin=>by
       have hb1:=iP V z hin;rcases hus2 y hy z hz with G | G
       ·exact ς.nf z (KH _ hb1) (.inr (T.bG G))
       ·exact hnd.2.2 z hb1 z (iP u2 z G) rfl
      show τ z=asgN ((ak V).1++(ak u2).1) j ο z;rw [lE,q3 z hz];exact ua _ _ _ _ _ (jh _ _ _ _ hno).symm
     ·obtain⟨i,hi,e⟩:=q4 z hz J;have e1:(ak (T.par V u2)).1.length=(ak V).1.length+(ak u2).1.length:=by simp [ak]
      exact⟨i,by omega,e⟩
  ·cases q<;>simp [T.kind]at hc2
   rename_i x a;cases t<;>(try exact d'.ae.elim)
   rename_i y V;have hne:T.res x a≠ .nil:=λe=>by cases e
   have hj:j< 90:=by omega
   have oka:=ξ.parts a (by simp [T.parts]);refine⟨λc w'=>Ex w2 w'/\∃i:Nat,i<=j/\c=gl i,λc _=>256 - c.toNat,⟨Ex.refl _,0,by omega,rfl⟩,λc w3 hI=>?_⟩;obtain⟨W,i,hi,rfl⟩:=hI;have I:=δ.ex W;have next:∀w',Ex w2 w'->i< j->((decide (gl i+1=91))=true->(Ex w2 w'/\∃i':Nat,i'<=j/\(192:UInt8)=gl i')/\256 - (192:UInt8).toNat< 256 - (gl i).toNat)/\((decide (gl i+1=91))=false->(Ex w2 w'/\∃i':Nat,i'<=j/\gl i+1=gl i')/\256 - (gl i+1).toNat< 256 - (gl i).toNat):=by
    intro w' hx' χ;obtain⟨n1,n2⟩:=Gy (i:=i) (by omega);have e1:=jN (show i< 90 by omega);have e2:=jN (show i+1< 90 by omega);refine⟨λhc=>?_,λhc=>?_⟩
    ·have hc:=Kv hc;refine⟨⟨hx',i+1,by omega,(n1 hc).symm⟩,?_⟩;rw [<-n1 hc,e2,e1];split<;>split<;>omega
    ·have hc:=Kw hc;refine⟨⟨hx',i+1,by omega,(n2 hc).symm⟩,?_⟩;rw [<-n2 hc,e2,e1];split<;>split<;>omega
   refine⟨b,0,rfl,ic j,I.c0,eH (by rw [iB];omega) ⟨λhq=>?_,λhq=>?_⟩⟩
   ·have hq:¬gl i∈ic j:=Kw hq;have χ:i=j:=by
     rcases LF i j with G | G
     ·exact absurd (iD.2 ⟨i,G,rfl⟩) hq
     ·omega
    subst χ;refine jz _ (Kb _) ξ λs w4 hx4 hs4 hm4=>eH (by have :=hs4.bound;omega) ⟨λη=>?_,λη=>?_⟩
    ·have η:gl i∈s:=Kv η;obtain⟨i',G,h2⟩:=γ _ ((hm4 _).1 η) (wq hj);exact absurd (wO hj (by omega) h2) (by omega)
    ·have η:¬(T.res x a).Fr (gl i):=by rw [<-hm4];exact Kw η
     have hx24:Ex w2 w4:=W.trans hx4;have ν:Ex w w4:=Z.trans hx24;have fin:∀w5 w6,Ex w4 w5->w6=w5.setCell ⟨b,0,none⟩ (.string (ab (ic i++[gl i])))->Kp w w6 (gS b v)/\GL B w6 b (ic (i+1)) v L:=by
      rintro w5 w6 β rfl
      refine⟨Kp.set (Kp.ah (ν.trans β) _) (.inl rfl) _,?_⟩;rw [yu];exact(α.ex (ν.trans β)).DJ _
     refine⟨λw'=>Kp w w' (gS b v)/\GL B w' b (ic (i+1)) v L,⟨λ _=>True,λw5 θ=>⟨trivial,b,0,rfl,?_,λb6 w6 ψ ι=>⟨trivial,?_,?_⟩⟩⟩,λw6 hJ=>?_⟩
     ·have β:Ex w4 w5:=θ▸Ex.drew w4;have ε:=(α.ex (ν.trans β))
      refine⟨ic i,ε.c0,trivial,λb6 w6 ψ ι=>⟨trivial,b6,0,1,1,[gl i],rfl,rfl,lx _ ψ ι,trivial,by rw [iB];simp;omega,?_⟩⟩;have ζ:Ex w4 w6:=β.trans (ι▸Ex.alloc w5 _);have H:=α.ex (ν.trans ζ);exact⟨b,0,rfl,⟨⟨_,H.c0⟩,H.f0⟩,λw7 κ=>⟨trivial,fin w6 w7 ζ κ⟩⟩
     ·have β:Ex w4 w5:=θ▸Ex.drew w4;have ζ:Ex w4 w6:=β.trans (ι▸Ex.alloc w5 _);have H:=α.ex (ν.trans ζ);refine⟨ic i,H.c0,trivial,b6,0,1,1,[gl i],rfl,rfl,lx _ ψ ι,trivial,by rw [iB];simp;omega,?_⟩;exact⟨b,0,rfl,⟨⟨_,H.c0⟩,H.f0⟩,λw7 κ=>⟨trivial,fin w6 w7 ζ κ⟩⟩
     ·have β:Ex w4 w5:=θ▸Ex.drew w4;have ζ:Ex w4 w6:=β.trans (ι▸Ex.alloc w5 _);have H:=α.ex (ν.trans ζ);refine⟨b6,0,1,1,[gl i],rfl,rfl,lx _ ψ ι,trivial,ic i,H.c0,trivial,by rw [iB];simp;omega,?_⟩;exact⟨b,0,rfl,⟨⟨_,H.c0⟩,H.f0⟩,λw7 κ=>⟨trivial,fin w6 w7 ζ κ⟩⟩
     ·obtain⟨hk6,H⟩:=hJ;refine⟨λ _=>True,λw7 κ=>⟨trivial,by simp only [T.text,J0];omega,by simp only [T.text,J0];omega,?_⟩⟩;have hx7:Ex w6 w7:=κ▸Ex.drew w6;have hle:=d'.bd.le;simp only [T.rd,T.ow]at hle;simp only [T.ow]at how';simp only [T.size]at hsz;have hbda:=T.xV a;refine gQ _ (Kb _) oka d'.bd.eb.2 (by omega) (I4 hj) (Ig hj) λq' w8 hx8 ω=>⟨trivial,?_⟩
      have dr:=d'.res ω η;have hsz':=T.py ω.shp;have how2:=T.xg ω.shp;have υ:=hx7.trans hx8;refine ih (by omega) dr (λz hz J=>?_) (by omega) (H.ex υ) (by omega) λw9 v9 ps hk9 hv9 hGL9 ha9=>⟨trivial,?_⟩
      ·rcases ω.ok.free z hz with G | G | G
       ·exact⟨i,by omega,G⟩
       ·obtain⟨i',h2,h3⟩:=γ z ⟨G.1,G.2⟩ J;exact⟨i',by omega,h3⟩
       ·exact absurd J (eA (G.1▸d'.bd.eb.1.1))
      ·have hus:(td V).2.has y=true:=(fS V y ς.fZ).2 hpu;have e1:(ak (T.res y V)).1=y::(ak V).1:=by simp [ak,hus]
       have sz6:=hk6.size;refine h w9 v9 ps ?_ ?_ ?_ ?_
       ·exact Kp.trans hk6 (Kp.trans (Kp.ah υ (gS b v)) hk9 λg _ hS=>hS) λg _ hS=>hS
       ·intro g J;rcases hv9 g J with G | G
        ·exact .inl G
        ·right;have :=υ.size;omega
       ·rw [e1,J0];have e2:i+((ak V).1.length+1)=i+1+(ak V).1.length:=by omega
        rw [e2];exact hGL9
       ·refine ha9.mono λp' t' _ _ ⟨m',τ,q1,q2,q3,q4⟩=>⟨m',τ,by omega,q2,λz hz=>?_,λz hz J=>?_⟩
        ·rw [e1,asgN];exact q3 z hz
        ·obtain⟨i',h2,h3⟩:=q4 z hz J;exact⟨i',by rw [e1,J0];omega,h3⟩
   ·have hq:gl i∈ic j:=Kv hq;obtain⟨i',G,h2⟩:=iD.1 hq;have χ:i< j:=by rw [wO (by omega) (by omega) h2];exact G
    exact next w3 W χ
  ·
   have hnp:∀a c,t≠ .par a c:=λa c e=>by
    subst e;cases q<;>first | exact d'.ae.elim | simp [T.kind]at hc
   have hnr:∀x a,t≠ .res x a:=λx a e=>by
    subst e;cases q<;>first | exact d'.ae.elim | simp [T.kind]at hc2
   have J:=DX hpu hud hnp hnr;have hlen:L.length+1<=1099511627776:=by have :=a8 p;omega
   refine⟨b,0,rfl,v,δ.c1,λb3 w3 hb3 hw3=>?_⟩;have W:Ex w2 w3:=hw3▸Ex.alloc w2 _;have I:=δ.ex W;refine Own.push I.own (K5 I.base (Nat.le_of_lt I.lt)) (Strs.one hb3 hw3) (by simpa using hlen) λv4 w4 hb4 ho4 hg4 hw4=>?_
   have hne:v4.ownBlock≠some b:=λe=>by
    rcases hw4 b e with G | G
    ·exact α.ne G
    ·have :=I.lt;omega
   obtain⟨ε,hcell⟩:=I.y6 hg4 ho4 hne;refine⟨b,0,rfl,?_,hcell,λw5 θ=>?_⟩
   ·rcases ho4.2 with⟨rfl,_⟩ | ⟨_,_,_,rfl,_⟩<;>rfl
   ·have θ:w5=w4.setCell ⟨b,1,none⟩ v4:=θ;subst θ;refine h _ v4 [q] ?_ ?_ ?_ ?_
    ·refine Kp.set (Kp.grown (Kp.ah (Z.trans W) _) hg4 λg hg' _=> .inr hg') (.inl rfl) _
    ·intro g hg';rcases hw4 g hg' with G | G
     ·exact .inl G
     ·right;have :=(Z.trans W).size;omega
    ·rw [J];exact ε
    ·rw [J];refine aM.one ⟨m,ο,Kb _,d',λy _=>by rw [J];rfl,by rw [J];exact γ⟩
end Go.Proofs.YtdecokaadekjnaaGreat
namespace Go.Proofs.YtdecokaadekjnaaGreat
def j6 (l:List U):Nat:=(l.map T.aH).sum+3* l.length
theorem qI (l m:List U):j6 (l++m)=j6 l+j6 m:=by simp [j6];omega
theorem jb:j6 []=0:=rfl
theorem cI (u:U):j6 [u]=u.aH+3:=by simp [j6]
theorem yw (u:U):1<=u.aH:=by cases u<;>simp only [T.aH]<;>omega
theorem fI:∀u:U,j6 (ak u).2+3* (ak u).1.length<=u.aH+3
 | .nil=>by simp [ak,jb]
 | .snd .. =>by simp [ak,cI]
 | .rcv .. =>by simp [ak,cI]
 | .tau .. =>by simp [ak,cI]
 | .sum p q=>by
  have :=fI p;have :=fI q;simp only [ak,T.aH];split
  ·omega
  ·split
   ·omega
   ·simp [cI,T.aH]
 | .par p q=>by
  have :=fI p;have :=fI q;simp only [ak,T.aH,qI,J'];omega
 | .res x p=>by
  have :=fI p;simp only [ak,T.aH];split
  ·simp only [J0];omega
  ·omega
 | .mat a b p=>by
  have :=fI p;simp only [ak,T.aH];split
  ·omega
  ·split
   ·simp [jb]
   ·simp [cI,T.aH]
 | .rep p=>by
  simp only [ak,T.aH];split
  ·simp [jb]
  ·simp [cI,T.aH]
theorem dS:∀u:U,j6 (an u)<=u.aH+3
 | .nil=>by simp [an,jb]
 | .snd .. =>by simp [an,cI]
 | .rcv .. =>by simp [an,cI]
 | .tau .. =>by simp [an,cI]
 | .sum p q=>by
  have :=dS p;have :=dS q;simp only [an,T.aH,qI];omega
 | .par p q=>by
  have :=dS p;have :=dS q;simp only [an,T.aH];split
  ·omega
  ·split
   ·omega
   ·simp [cI,T.aH]
 | .res x p=>by
  have :=dS p;simp only [an,T.aH];split
  ·simp [cI,T.aH]
  ·omega
 | .mat a b p=>by
  have :=dS p;simp only [an,T.aH];split
  ·omega
  ·split
   ·simp [jb]
   ·simp [cI,T.aH]
 | .rep p=>by
  simp only [an,T.aH];split
  ·simp [jb]
  ·simp [cI,T.aH]
theorem pb {p:P}{u:U}{ρ:UInt8->Nat}{σ:Nat->Nat}(h:AE ρ p σ u):u.aH=p.aH:=by
 induction p generalizing u ρ σ<;>cases u<;>simp only [AE]at h<;>simp only [T.aH]
 case snd.snd z _ _ _=>rw [z h.2.2]
 case mat.mat z _ _ _=>rw [z h.2.2]
 case rcv.rcv z _ _ _=>rw [z (h.2 0)]
 case res.res z _ _=>rw [z (h 0)]
 case tau.tau z _=>rw [z h]
 case rep.rep z _=>rw [z h]
 case sum.sum z G _ _=>rw [z h.1,G h.2]
 case par.par z G _ _=>rw [z h.1,G h.2]
theorem EA {c:UInt8}(h:c∈iO):lt c=true:=by
 obtain⟨i,z,rfl⟩:=KQ.1 h;rw [Lz]at z;have e:(UInt8.ofNat (97+i)).toNat=97+i:=by rw [K2];omega
 simp only [lt,J3,J4];exact⟨Kl.2 (by rw [e];show 97<=_;omega),Kl.2 (by rw [e];show _<=122;omega)⟩
theorem xy {tk:Tk}{c:UInt8}(h:uj tk=some c):tk c=false/\lt c=true/\iK tk=c:=by
 have z:=LZ h;have h2:=Nv h;exact⟨by simpa using h2,EA z,by unfold iK;rw [h];rfl⟩
theorem D9 {tk:Tk}(h:(uj tk).isNone=false):tk (iK tk)=false/\lt (iK tk)=true:=by
 cases e:uj tk with
 | none=>rw [e]at h;cases h
 | some c=>obtain⟨z,h2,G⟩:=xy e;rw [G];exact⟨z,h2⟩
theorem wE:∀(l:List UInt8) (tk:Tk) (c:UInt8),addK l tk c=(tk c||decide (c∈l))
 | [],tk,c=>by simp [addK]
 | d::l,tk,c=>by
  rw [addK,wE l];by_cases h:c=d
  ·subst h;simp [cA]
  ·have hb:(c==d)=false:=by simpa using h
   simp [cA,hb,h]
theorem uC:∀(n:Nat) (tk:Tk),gu n tk=false->(lets n tk).Nodup/\∀c∈lets n tk,tk c=false/\lt c=true
 | 0,tk,_=>⟨LB,λc h=>by cases h⟩
 | n+1,tk,h=>by
  simp only [gu,Ls]at h;obtain⟨H,h2⟩:=D9 h.1;obtain⟨I,z⟩:=uC n _ h.2;rw [lets];refine⟨K7.2 ⟨λhm=>?_,I⟩,λc hc=>?_⟩
  ·have :=(z _ hm).1;simp [cA]at this
  ·rcases Ks.1 hc with rfl | hc
   ·exact⟨H,h2⟩
   ·obtain⟨G,J⟩:=z c hc;simp only [cA,Ls]at G;exact⟨G.1,J⟩
theorem El:∀(u:U) (y:Nat),u.Us y->∃t∈(ak u).2,t.Us y:=by
 intro u
 induction u with
 | nil=>intro y h;exact h.elim
 | snd a b p z=>intro y h;exact⟨_,by simp [ak],h⟩
 | rcv a b p z=>intro y h;exact⟨_,by simp [ak],h⟩
 | tau p z=>intro y h;exact⟨_,by simp [ak],h⟩
 | sum p q z G=>
  intro y h;simp only [ak];split
  ·rename_i e;exact G y (h.resolve_left (T.bI e))
  ·split
   ·rename_i e;exact z y (h.resolve_right (T.bI e))
   ·exact⟨_,by simp,h⟩
 | par p q z G=>
  intro y h;simp only [ak,Ke];rcases h with h | h
  ·obtain⟨t,H,h2⟩:=z y h;exact⟨t,.inl H,h2⟩
  ·obtain⟨t,H,h2⟩:=G y h;exact⟨t,.inr H,h2⟩
 | res x p z=>intro y h;exact z y h.2
 | mat a b p z=>
  intro y h;simp only [ak];rcases h with⟨e,h⟩ | ⟨e,hd,h⟩
  ·rw [KG e];exact z y h
  ·rw [Ko e,Ko (by simp [hd])];exact⟨.mat a b p,by simp,.inr ⟨e,hd,h⟩⟩
 | rep p z=>
  intro y h;simp only [ak];split
  ·rename_i e;exact absurd h (T.bI (p:=p) e)
  ·exact⟨_,by simp,h⟩
theorem ym:∀(u:U),Uq u->∀x∈(ak u).1,∃t∈(ak u).2,t.Us x:=by
 intro u
 induction u with
 | nil=>intro _ x h;simp [ak]at h
 | snd=>intro _ x h;simp [ak]at h
 | rcv=>intro _ x h;simp [ak]at h
 | tau=>intro _ x h;simp [ak]at h
 | sum p q z G=>
  intro hu x h;simp only [ak]at h|-;split at h
  ·rename_i e;rw [KG e];exact G hu.dL x h
  ·rename_i e;rw [Ko e];split at h
   ·rename_i I;rw [KG I];exact z hu.ec x h
   ·simp at h
 | par p q z G=>
  intro hu x h;simp only [ak,Ke]at h|-;rcases h with h | h
  ·obtain⟨t,H,h2⟩:=z hu.fT x h;exact⟨t,.inl H,h2⟩
  ·obtain⟨t,H,h2⟩:=G hu.fM x h;exact⟨t,.inr H,h2⟩
 | res y p z=>
  intro hu x h;have J:(ak (.res y p)).2=(ak p).2:=rfl;rw [J];simp only [ak]at h;split at h
  ·rename_i V;rcases Ks.1 h with rfl | h
   ·exact El p x ((fS p x hu.fZ).1 V)
   ·exact z hu.res x h
  ·exact z hu.res x h
 | mat a b p z=>
  intro hu x h;simp only [ak]at h|-;split at h
  ·rename_i e;rw [KG e];exact z hu.mat x h
  ·rename_i e;split at h<;>simp at h
 | rep p z=>
  intro hu x h;simp only [ak]at h;split at h<;>simp at h
theorem gE:∀(u:U),Uq u->(ak u).1.Nodup:=by
 intro u
 induction u with
 | nil=>intro _;simp [ak]
 | snd=>intro _;simp [ak]
 | rcv=>intro _;simp [ak]
 | tau=>intro _;simp [ak]
 | sum p q z G=>
  intro hu;simp only [ak];split
  ·exact G hu.dL
  ·split
   ·exact z hu.ec
   ·simp
 | par p q z G=>
  intro hu;simp only [ak];refine KL.2 ⟨z hu.fT,G hu.fM,λa ha b hb e=>?_⟩;exact(KL.1 hu.nd).2.2 a (iP p a ha) b (iP q b hb) e
 | res y p z=>
  intro hu;simp only [ak];split
  ·exact K7.2 ⟨λh=>hu.fZ (iP p y h),z hu.res⟩
  ·exact z hu.res
 | mat a b p z=>
  intro hu;simp only [ak];split
  ·exact z hu.mat
  ·split<;>simp
 | rep p z=>
  intro hu;simp only [ak];split<;>simp
theorem ki:∀(l:List Nat) (n:Nat) (σ:Nat->Nat) (i:Nat) (h:i< l.length),l.Nodup->asgN l n σ l[i]=(gl (n+i)).toNat
 | [],_,_,_,h,_=>by simp at h
 | x::l,n,σ,0,_,z=>by
  have :=K7.1 z;simp only [List.getElem_cons_zero,asgN];rw [jh _ _ _ _ this.1];simp [aF]
 | x::l,n,σ,i+1,h,z=>by
  have :=K7.1 z;simp only [List.getElem_cons_succ,asgN];rw [ki l _ _ i (by simpa using h) this.2]
  congr 2
  omega
end Go.Proofs.YtdecokaadekjnaaGreat
namespace Go.Proofs.YtdecokaadekjnaaGreat
open Go
set_option maxRecDepth 100000
theorem kU (m1:Value)(p2:ay)(t3:ay)(w:World)(R:ay->World->Prop)(h:aN w (.cells #[(.string (ab [])),(.slice none 0 0)] 255) λb4 w5=>fC 242 #[(.pointer (some ⟨b4,0,none⟩)),(.string (ab p2))] w5 λw6=>aS w6 b4 1 λv7=>bM v7 λl9=>kY ([]) 0 w6 λI11 m12 θ I γ=>ai (decide (I< (l9:Int))) (aJ v7 I λb16 o17=>bZ γ b16 (o17+I.toNat* 1) λs20=>bw 225 #[(.string (ab s20))] γ λs21 w22=>bw 104 #[(.string (ab θ)),(.string (ab s21))] w22 λs23 w24=>aj (I+1)/\I11 s23 (I+1) w24/\m12 s23 (I+1) w24< m12 θ I γ) (kY ([]) 0 γ λI25 m26 f27 i28 G=>bZ G b4 0 λs30=>ai (decide (i28< (s30.length:Int))) (∃ι:ay->World->Prop,(bZ G b4 0 λs32=>(0<=(i28:Int)/\(i28:Int)< s32.length)/\ck 56 #[(.string (ab θ)),(.int .u8 (UInt8.toNat (bt s32 i28.toNat)))] G λq33 κ=>ai q33 (bZ κ b4 0 λμ=>aj (i28+1)/\(0<=(i28:Int)/\(i28:Int)<=(i28+1)/\((i28+1):Int)<=μ.length)/\(f27.length+List.length (List.drop i28.toNat (List.take (Int.toNat (i28+1)) μ))<=4611686018427387904)/\ι ((f27++(List.drop i28.toNat (List.take (Int.toNat (i28+1)) μ)))) κ) (ι f27 κ))/\∀(f36:ay) (ν:World),ι f36 ν->aj (i28+1)/\I25 f36 (i28+1) ν/\m26 f36 (i28+1) ν< m26 f27 i28 G) (aS G b4 1 λv38=>bM v38 λl40=>ai (decide ((l40:Int)=0)) (R ([48]) G) (ai (decide (5< (f27.length:Int))) (az m1 λb42 o43=>bg G b42 (o43+0) (.bool true) λw45=>R ([48]) w45) (∀(ξ c47:Nat) (ο:World),ξ=Array.size (World.heap G)->iC ο 5 ξ f27->World.grownBy G ο none->bM (.slice (some ⟨ξ,0,none⟩) (f27.length) c47) λl50=>GZ ([]) t3 0 ο λI52 m53 z δ W ς=>ai (decide (W< (l50:Int))) (gY 75 #[(.string (ab δ))] ς λc58 w59=>aN w59 (.cells #[(.int .u8 c58.toNat)] 5) λb60 w61=>∃(b62 o63 n64 c65:Nat) (Z:ay),(Value.slice (some ⟨b60,0,none⟩) 1 1)= .slice (some ⟨b62,o63,none⟩) n64 c65/\Z.length=n64/\(∀(j:Nat) (x:UInt8),Z[j]?=some x->World.cell? w61 ⟨b62,o63+j,none⟩=some (.int .u8 x.toNat))/\(z.length+Z.length<=4611686018427387904)/\bw 121 #[(.string (ab δ)),(.int .u8 c58.toNat)] w61 λs67 w68=>aj (W+1)/\I52 (z++Z) s67 (W+1) w68/\m53 (z++Z) s67 (W+1) w68< m53 z δ W ς) (cB 243 #[(.string (ab f27))] ς λv69 υ=>∃φ:Value->World->Prop,(az m1 λb72 o73=>EW υ b72 (o73+1) λq74=>ai q74 (∃(a75:Option Addr) (l76 ε:Nat),v69= .slice a75 l76 ε/\0<=(0:Int)/\(0:Int)<=1/\1<=(ε:Int)/\φ ((.slice (if ε=Int.toNat 0 then a75 else Option.map (·.add (Int.toNat 0* 1)) a75) (Int.toNat 1 - Int.toNat 0) (ε - Int.toNat 0))) υ) (φ v69 υ))/\∀(χ:Value) (w79:World),φ χ w79->bM χ λl81=>kY ([]) 0 w79 λI83 m84 α J β=>ai (decide (J< (l81:Int))) (∃ζ:ay->World->Prop,(aJ χ J λb89 o90=>bZ β b89 (o90+J.toNat* 1) λs93=>aS β b4 1 λv94=>bw 244 #[m1,v94,(.string (ab s93)),(.string (ab z)),(.string (ab δ))] β λψ ω=>iz (decide (α=[])) (ai (Op.bytesLess ψ α) (ζ ψ ω) (ζ α ω)) (ζ ψ ω))/\∀(b97:ay) (w98:World),ζ b97 w98->aj (J+1)/\I83 b97 (J+1) w98/\m84 b97 (J+1) w98< m84 α J β) (aj ((z.length:Int) - 1)/\kY α (((z.length:Int) - 1)) β λI99 η H i102 V=>ai (decide (0<=i102)) (aj (i102+1)/\(0<=(i102:Int)/\(i102:Int)<=(i102+1)/\((i102+1):Int)<=z.length)/\(List.length [35]+List.length (List.drop i102.toNat (List.take (Int.toNat (i102+1)) z))<=4611686018427387904)/\(List.length ([35]++(List.drop i102.toNat (List.take (Int.toNat (i102+1)) z)))+List.length [46]<=4611686018427387904)/\(List.length (([35]++(List.drop i102.toNat (List.take (Int.toNat (i102+1)) z)))++[46])+H.length<=4611686018427387904)/\aj (i102 - 1)/\I99 (((([35]++(List.drop i102.toNat (List.take (Int.toNat (i102+1)) z)))++[46])++H)) (i102 - 1) V/\η (((([35]++(List.drop i102.toNat (List.take (Int.toNat (i102+1)) z)))++[46])++H)) (i102 - 1) V< η H i102 V) (R H V)))))))):
  Calls Tryz.prog 224 #[m1,(.string (ab p2)),(.string (ab t3))] w (ax [.s] R):=
 bs (bn [(5,[(8,.s),(32,.i)]),(11,[(11,.s),(12,.i)]),(23,[(13,.s),(14,.s),(84,.i)]),(33,[(16,.s),(107,.i)]),(40,[(16,.s),(21,.i)])] [(12,[(11,.s)]),(32,[(17,.v)]),(38,[(16,.s)])] []) [.tmp 6 .s] [.v m1,.s p2,.s t3] Tryz.func224 (by kernel_rfl) h
theorem kW (m1:Value)(t2:Value)(V:ay)(l4:ay)(t5:ay)(w:World)(R:ay->World->Prop)(h:bM t2 λl7=>jX (.slice none 0 0) 0 w λI9 W H z G=>ai (decide (z< (l7:Int))) (aJ t2 z λγ δ=>bZ G γ (δ+z.toNat* 1) λε=>kY ε 0 G λζ Z t21 i22 I=>ai (decide (i22< (V.length:Int))) (bO I λη θ=>(0<=(i22:Int)/\(i22:Int)< V.length)/\(0<=(i22:Int)/\(i22:Int)< l4.length)/\bw 153 #[(.string (ab t21)),(.int .u8 (UInt8.toNat (bt V i22.toNat))),(.int .u8 (UInt8.toNat (bt l4 i22.toNat)))] θ λα J=>η J/\aj (i22+1)/\ζ α (i22+1) J/\Z α (i22+1) J< Z t21 i22 I) (bw 257 #[m1,(.string (ab t21)),(.string (ab t5))] I λι κ=>aN κ (.cells #[(.string (ab ι))] 9) λb30 μ=>eu 9 1 16 μ H (.slice (some ⟨b30,0,none⟩) 1 1) λv37 β=>aj (z+1)/\I9 v37 (z+1) β/\W v37 (z+1) β< W H z G)) (cB 69 #[H] G λν ξ=>bw 191 #[ν,(.string (ab [38]))] ξ λο ς=>R ο ς)):
  Calls Tryz.prog 244 #[m1,t2,(.string (ab V)),(.string (ab l4)),(.string (ab t5))] w (ax [.s] R):=
 bs (bn [(3,[(11,.v),(17,.i)]),(6,[(13,.s),(14,.i)])] [] []) [.tmp 10 .s] [.v m1,.v t2,.s V,.s l4,.s t5] Tryz.func244 (by kernel_rfl) h
theorem kG (J:Value)(z:ay)(t3:ay)(w:World)(R:ay->World->Prop)(h:gY 120 #[(.string (ab z))] w λc4 w5=>ai (decide (c4=33)) (ai (decide (c4=33)) (bO w5 λS6 w7=>iU 165 #[(.string (ab z))] w7 λn8 w9=>S6 w9/\(0<=(n8:Int)/\(n8:Int)<=z.length)/\iU 165 #[(.string (ab z))] w9 λn10 w11=>S6 w11/\(0<=(n10:Int)/\(n10:Int)<=z.length)/\bw 224 #[J,(.string (ab (List.drop n10.toNat z))),(.string (ab t3))] w11 λs12 w13=>S6 w13/\(List.length (List.take n8.toNat z)+s12.length<=4611686018427387904)/\R (((List.take n8.toNat z)++s12)) w13) (ai (decide (c4=63)) (gY 75 #[(.string (ab t3))] w5 λV w15=>bO w15 λH w17=>(0<=(2:Int)/\(2:Int)<=z.length)/\(0<=(4:Int)/\(4:Int)<=z.length)/\(0<=(2:Int)/\(2:Int)< z.length)/\(aN w17 (.cells #[(.int .u8 V.toNat)] 5) λb18 w19=>H w19/\(∃(b20 o21 n22 c23:Nat) (l24:ay),(Value.slice (some ⟨b18,0,none⟩) 1 1)= .slice (some ⟨b20,o21,none⟩) n22 c23/\l24.length=n22/\(∀(j:Nat) (x:UInt8),l24[j]?=some x->World.cell? w19 ⟨b20,o21+j,none⟩=some (.int .u8 x.toNat))/\H w19/\(List.length (List.take (Int.toNat 2) z)+l24.length<=4611686018427387904)/\(List.length ((List.take (Int.toNat 2) z)++l24)+List.length [46]<=4611686018427387904)/\bw 153 #[(.string (ab (List.drop (Int.toNat 4) z))),(.int .u8 (UInt8.toNat (bt z (Int.toNat 2)))),(.int .u8 V.toNat)] w19 λs25 w26=>H w26/\bw 121 #[(.string (ab t3)),(.int .u8 V.toNat)] w26 λs27 w28=>H w28/\bw 224 #[J,(.string (ab s25)),(.string (ab s27))] w28 λs29 w30=>H w30/\(List.length (((List.take (Int.toNat 2) z)++l24)++[46])+s29.length<=4611686018427387904)/\R (((((List.take (Int.toNat 2) z)++l24)++[46])++s29)) w30)/\(bw 153 #[(.string (ab (List.drop (Int.toNat 4) z))),(.int .u8 (UInt8.toNat (bt z (Int.toNat 2)))),(.int .u8 V.toNat)] w19 λs31 jm=>H jm/\(∃(b33 o34 n35 c36:Nat) (l37:ay),(Value.slice (some ⟨b18,0,none⟩) 1 1)= .slice (some ⟨b33,o34,none⟩) n35 c36/\l37.length=n35/\(∀(j:Nat) (x:UInt8),l37[j]?=some x->World.cell? jm ⟨b33,o34+j,none⟩=some (.int .u8 x.toNat))/\H jm/\(List.length (List.take (Int.toNat 2) z)+l37.length<=4611686018427387904)/\(List.length ((List.take (Int.toNat 2) z)++l37)+List.length [46]<=4611686018427387904)/\bw 121 #[(.string (ab t3)),(.int .u8 V.toNat)] jm λs38 w39=>H w39/\bw 224 #[J,(.string (ab s31)),(.string (ab s38))] w39 λs40 w41=>H w41/\(List.length (((List.take (Int.toNat 2) z)++l37)++[46])+s40.length<=4611686018427387904)/\R (((((List.take (Int.toNat 2) z)++l37)++[46])++s40)) w41)/\(bw 121 #[(.string (ab t3)),(.int .u8 V.toNat)] jm λs42 w43=>H w43/\(∃(b44 o45 n46 c47:Nat) (l48:ay),(Value.slice (some ⟨b18,0,none⟩) 1 1)= .slice (some ⟨b44,o45,none⟩) n46 c47/\l48.length=n46/\(∀(j:Nat) (x:UInt8),l48[j]?=some x->World.cell? w43 ⟨b44,o45+j,none⟩=some (.int .u8 x.toNat))/\H w43/\(List.length (List.take (Int.toNat 2) z)+l48.length<=4611686018427387904)/\(List.length ((List.take (Int.toNat 2) z)++l48)+List.length [46]<=4611686018427387904)/\bw 224 #[J,(.string (ab s31)),(.string (ab s42))] w43 λs49 w50=>H w50/\(List.length (((List.take (Int.toNat 2) z)++l48)++[46])+s49.length<=4611686018427387904)/\R (((((List.take (Int.toNat 2) z)++l48)++[46])++s49)) w50)/\(bw 224 #[J,(.string (ab s31)),(.string (ab s42))] w43 λs51 w52=>H w52/\∃(b53 o54 n55 c56:Nat) (l57:ay),(Value.slice (some ⟨b18,0,none⟩) 1 1)= .slice (some ⟨b53,o54,none⟩) n55 c56/\l57.length=n55/\(∀(j:Nat) (x:UInt8),l57[j]?=some x->World.cell? w52 ⟨b53,o54+j,none⟩=some (.int .u8 x.toNat))/\H w52/\(List.length (List.take (Int.toNat 2) z)+l57.length<=4611686018427387904)/\(List.length ((List.take (Int.toNat 2) z)++l57)+List.length [46]<=4611686018427387904)/\(List.length (((List.take (Int.toNat 2) z)++l57)++[46])+s51.length<=4611686018427387904)/\R (((((List.take (Int.toNat 2) z)++l57)++[46])++s51)) w52))))/\(bw 153 #[(.string (ab (List.drop (Int.toNat 4) z))),(.int .u8 (UInt8.toNat (bt z (Int.toNat 2)))),(.int .u8 V.toNat)] w17 λs58 w59=>H w59/\(aN w59 (.cells #[(.int .u8 V.toNat)] 5) λb60 w61=>H w61/\(∃(b62 o63 n64 c65:Nat) (l66:ay),(Value.slice (some ⟨b60,0,none⟩) 1 1)= .slice (some ⟨b62,o63,none⟩) n64 c65/\l66.length=n64/\(∀(j:Nat) (x:UInt8),l66[j]?=some x->World.cell? w61 ⟨b62,o63+j,none⟩=some (.int .u8 x.toNat))/\H w61/\(List.length (List.take (Int.toNat 2) z)+l66.length<=4611686018427387904)/\(List.length ((List.take (Int.toNat 2) z)++l66)+List.length [46]<=4611686018427387904)/\bw 121 #[(.string (ab t3)),(.int .u8 V.toNat)] w61 λs67 w68=>H w68/\bw 224 #[J,(.string (ab s58)),(.string (ab s67))] w68 λs69 w70=>H w70/\(List.length (((List.take (Int.toNat 2) z)++l66)++[46])+s69.length<=4611686018427387904)/\R (((((List.take (Int.toNat 2) z)++l66)++[46])++s69)) w70)/\(bw 121 #[(.string (ab t3)),(.int .u8 V.toNat)] w61 λs71 w72=>H w72/\(∃(b73 o74 n75 c76:Nat) (l77:ay),(Value.slice (some ⟨b60,0,none⟩) 1 1)= .slice (some ⟨b73,o74,none⟩) n75 c76/\l77.length=n75/\(∀(j:Nat) (x:UInt8),l77[j]?=some x->World.cell? w72 ⟨b73,o74+j,none⟩=some (.int .u8 x.toNat))/\H w72/\(List.length (List.take (Int.toNat 2) z)+l77.length<=4611686018427387904)/\(List.length ((List.take (Int.toNat 2) z)++l77)+List.length [46]<=4611686018427387904)/\bw 224 #[J,(.string (ab s58)),(.string (ab s71))] w72 λs78 w79=>H w79/\(List.length (((List.take (Int.toNat 2) z)++l77)++[46])+s78.length<=4611686018427387904)/\R (((((List.take (Int.toNat 2) z)++l77)++[46])++s78)) w79)/\(bw 224 #[J,(.string (ab s58)),(.string (ab s71))] w72 λs80 w81=>H w81/\∃(b82 o83 n84 c85:Nat) (l86:ay),(Value.slice (some ⟨b60,0,none⟩) 1 1)= .slice (some ⟨b82,o83,none⟩) n84 c85/\l86.length=n84/\(∀(j:Nat) (x:UInt8),l86[j]?=some x->World.cell? w81 ⟨b82,o83+j,none⟩=some (.int .u8 x.toNat))/\H w81/\(List.length (List.take (Int.toNat 2) z)+l86.length<=4611686018427387904)/\(List.length ((List.take (Int.toNat 2) z)++l86)+List.length [46]<=4611686018427387904)/\(List.length (((List.take (Int.toNat 2) z)++l86)++[46])+s80.length<=4611686018427387904)/\R (((((List.take (Int.toNat 2) z)++l86)++[46])++s80)) w81)))/\(bw 121 #[(.string (ab t3)),(.int .u8 V.toNat)] w59 λs87 w88=>H w88/\(aN w88 (.cells #[(.int .u8 V.toNat)] 5) λb89 w90=>H w90/\(∃(b91 o92 n93 c94:Nat) (l95:ay),(Value.slice (some ⟨b89,0,none⟩) 1 1)= .slice (some ⟨b91,o92,none⟩) n93 c94/\l95.length=n93/\(∀(j:Nat) (x:UInt8),l95[j]?=some x->World.cell? w90 ⟨b91,o92+j,none⟩=some (.int .u8 x.toNat))/\H w90/\(List.length (List.take (Int.toNat 2) z)+l95.length<=4611686018427387904)/\(List.length ((List.take (Int.toNat 2) z)++l95)+List.length [46]<=4611686018427387904)/\bw 224 #[J,(.string (ab s58)),(.string (ab s87))] w90 λs96 w97=>H w97/\(List.length (((List.take (Int.toNat 2) z)++l95)++[46])+s96.length<=4611686018427387904)/\R (((((List.take (Int.toNat 2) z)++l95)++[46])++s96)) w97)/\(bw 224 #[J,(.string (ab s58)),(.string (ab s87))] w90 λs98 w99=>H w99/\∃(b100 o101 n102 c103:Nat) (α:ay),(Value.slice (some ⟨b89,0,none⟩) 1 1)= .slice (some ⟨b100,o101,none⟩) n102 c103/\α.length=n102/\(∀(j:Nat) (x:UInt8),α[j]?=some x->World.cell? w99 ⟨b100,o101+j,none⟩=some (.int .u8 x.toNat))/\H w99/\(List.length (List.take (Int.toNat 2) z)+α.length<=4611686018427387904)/\(List.length ((List.take (Int.toNat 2) z)++α)+List.length [46]<=4611686018427387904)/\(List.length (((List.take (Int.toNat 2) z)++α)++[46])+s98.length<=4611686018427387904)/\R (((((List.take (Int.toNat 2) z)++α)++[46])++s98)) w99))/\(bw 224 #[J,(.string (ab s58)),(.string (ab s87))] w88 λs105 w106=>H w106/\aN w106 (.cells #[(.int .u8 V.toNat)] 5) λb107 ω=>H ω/\∃(b109 o110 n111 c112:Nat) (β:ay),(Value.slice (some ⟨b107,0,none⟩) 1 1)= .slice (some ⟨b109,o110,none⟩) n111 c112/\β.length=n111/\(∀(j:Nat) (x:UInt8),β[j]?=some x->World.cell? ω ⟨b109,o110+j,none⟩=some (.int .u8 x.toNat))/\H ω/\(List.length (List.take (Int.toNat 2) z)+β.length<=4611686018427387904)/\(List.length ((List.take (Int.toNat 2) z)++β)+List.length [46]<=4611686018427387904)/\(List.length (((List.take (Int.toNat 2) z)++β)++[46])+s105.length<=4611686018427387904)/\R (((((List.take (Int.toNat 2) z)++β)++[46])++s105)) ω)))) (ai (decide (c4=61)) (bO w5 λS114 w115=>(0<=(1:Int)/\(1:Int)<=2/\(2:Int)<=z.length)/\(0<=(3:Int)/\(3:Int)<=4/\(4:Int)<=z.length)/\ai (Op.bytesLess (List.drop (Int.toNat 3) (List.take (Int.toNat 4) z)) (List.drop (Int.toNat 1) (List.take (Int.toNat 2) z))) ((List.length [91]+List.length (List.drop (Int.toNat 3) (List.take (Int.toNat 4) z))<=4611686018427387904)/\(List.length ([91]++(List.drop (Int.toNat 3) (List.take (Int.toNat 4) z)))+List.length [61]<=4611686018427387904)/\(List.length (([91]++(List.drop (Int.toNat 3) (List.take (Int.toNat 4) z)))++[61])+List.length (List.drop (Int.toNat 1) (List.take (Int.toNat 2) z))<=4611686018427387904)/\(List.length ((([91]++(List.drop (Int.toNat 3) (List.take (Int.toNat 4) z)))++[61])++(List.drop (Int.toNat 1) (List.take (Int.toNat 2) z)))+List.length [93]<=4611686018427387904)/\(0<=(5:Int)/\(5:Int)<=z.length)/\bw 224 #[J,(.string (ab (List.drop (Int.toNat 5) z))),(.string (ab t3))] w115 λs116 w117=>(List.length (((([91]++(List.drop (Int.toNat 3) (List.take (Int.toNat 4) z)))++[61])++(List.drop (Int.toNat 1) (List.take (Int.toNat 2) z)))++[93])+s116.length<=4611686018427387904)/\R (((((([91]++(List.drop (Int.toNat 3) (List.take (Int.toNat 4) z)))++[61])++(List.drop (Int.toNat 1) (List.take (Int.toNat 2) z)))++[93])++s116)) w117) ((List.length [91]+List.length (List.drop (Int.toNat 1) (List.take (Int.toNat 2) z))<=4611686018427387904)/\(List.length ([91]++(List.drop (Int.toNat 1) (List.take (Int.toNat 2) z)))+List.length [61]<=4611686018427387904)/\(List.length (([91]++(List.drop (Int.toNat 1) (List.take (Int.toNat 2) z)))++[61])+List.length (List.drop (Int.toNat 3) (List.take (Int.toNat 4) z))<=4611686018427387904)/\(List.length ((([91]++(List.drop (Int.toNat 1) (List.take (Int.toNat 2) z)))++[61])++(List.drop (Int.toNat 3) (List.take (Int.toNat 4) z)))+List.length [93]<=4611686018427387904)/\(0<=(5:Int)/\(5:Int)<=z.length)/\bw 224 #[J,(.string (ab (List.drop (Int.toNat 5) z))),(.string (ab t3))] w115 λs118 w119=>(List.length (((([91]++(List.drop (Int.toNat 1) (List.take (Int.toNat 2) z)))++[61])++(List.drop (Int.toNat 3) (List.take (Int.toNat 4) z)))++[93])+s118.length<=4611686018427387904)/\R (((((([91]++(List.drop (Int.toNat 1) (List.take (Int.toNat 2) z)))++[61])++(List.drop (Int.toNat 3) (List.take (Int.toNat 4) z)))++[93])++s118)) w119)) (ai (decide (c4=42)) ((0<=(1:Int)/\(1:Int)<=z.length)/\bw 224 #[J,(.string (ab (List.drop (Int.toNat 1) z))),(.string (ab t3))] w5 λs120 w121=>(List.length [42]+s120.length<=4611686018427387904)/\R ([42]++s120) w121) (cB 258 #[(.string (ab z))] w5 λv122 w123=>bM v122 λl125=>jX (.slice none 0 0) 0 w123 λI127 m128 l129 W w131=>ai (decide (W< (l125:Int))) (aJ v122 W λb132 o133=>bZ w131 b132 (o133+W.toNat* 1) λs136=>bw 224 #[J,(.string (ab s136)),(.string (ab t3))] w131 λs137 w138=>aN w138 (.cells #[(.string (ab s137))] 9) λb139 w140=>eu 9 1 16 w140 l129 (.slice (some ⟨b139,0,none⟩) 1 1) λv146 w147=>aj (W+1)/\I127 v146 (W+1) w147/\m128 v146 (W+1) w147< m128 l129 W w131) (cB 69 #[l129] w131 λv148 w149=>bw 191 #[v148,(.string (ab [43]))] w149 λs150 w151=>R s150 w151)))))) (ai (decide (c4=126)) (bO w5 λS152 w153=>iU 165 #[(.string (ab z))] w153 λn154 w155=>S152 w155/\(0<=(n154:Int)/\(n154:Int)<=z.length)/\iU 165 #[(.string (ab z))] w155 λn156 w157=>S152 w157/\(0<=(n156:Int)/\(n156:Int)<=z.length)/\bw 224 #[J,(.string (ab (List.drop n156.toNat z))),(.string (ab t3))] w157 λs158 w159=>S152 w159/\(List.length (List.take n154.toNat z)+s158.length<=4611686018427387904)/\R (((List.take n154.toNat z)++s158)) w159) (ai (decide (c4=63)) (gY 75 #[(.string (ab t3))] w5 λI w161=>bO w161 λG w163=>(0<=(2:Int)/\(2:Int)<=z.length)/\(0<=(4:Int)/\(4:Int)<=z.length)/\(0<=(2:Int)/\(2:Int)< z.length)/\(aN w163 (.cells #[(.int .u8 I.toNat)] 5) λb164 ο=>G ο/\(∃(b166 o167 n168 c169:Nat) (γ:ay),(Value.slice (some ⟨b164,0,none⟩) 1 1)= .slice (some ⟨b166,o167,none⟩) n168 c169/\γ.length=n168/\(∀(j:Nat) (x:UInt8),γ[j]?=some x->World.cell? ο ⟨b166,o167+j,none⟩=some (.int .u8 x.toNat))/\G ο/\(List.length (List.take (Int.toNat 2) z)+γ.length<=4611686018427387904)/\(List.length ((List.take (Int.toNat 2) z)++γ)+List.length [46]<=4611686018427387904)/\bw 153 #[(.string (ab (List.drop (Int.toNat 4) z))),(.int .u8 (UInt8.toNat (bt z (Int.toNat 2)))),(.int .u8 I.toNat)] ο λs171 w172=>G w172/\bw 121 #[(.string (ab t3)),(.int .u8 I.toNat)] w172 λs173 w174=>G w174/\bw 224 #[J,(.string (ab s171)),(.string (ab s173))] w174 λs175 w176=>G w176/\(List.length (((List.take (Int.toNat 2) z)++γ)++[46])+s175.length<=4611686018427387904)/\R (((((List.take (Int.toNat 2) z)++γ)++[46])++s175)) w176)/\(bw 153 #[(.string (ab (List.drop (Int.toNat 4) z))),(.int .u8 (UInt8.toNat (bt z (Int.toNat 2)))),(.int .u8 I.toNat)] ο λs177 ς=>G ς/\(∃(b179 o180 n181 c182:Nat) (δ:ay),(Value.slice (some ⟨b164,0,none⟩) 1 1)= .slice (some ⟨b179,o180,none⟩) n181 c182/\δ.length=n181/\(∀(j:Nat) (x:UInt8),δ[j]?=some x->World.cell? ς ⟨b179,o180+j,none⟩=some (.int .u8 x.toNat))/\G ς/\(List.length (List.take (Int.toNat 2) z)+δ.length<=4611686018427387904)/\(List.length ((List.take (Int.toNat 2) z)++δ)+List.length [46]<=4611686018427387904)/\bw 121 #[(.string (ab t3)),(.int .u8 I.toNat)] ς λs184 w185=>G w185/\bw 224 #[J,(.string (ab s177)),(.string (ab s184))] w185 λs186 w187=>G w187/\(List.length (((List.take (Int.toNat 2) z)++δ)++[46])+s186.length<=4611686018427387904)/\R (((((List.take (Int.toNat 2) z)++δ)++[46])++s186)) w187)/\(bw 121 #[(.string (ab t3)),(.int .u8 I.toNat)] ς λs188 υ=>G υ/\(∃(b190 o191 n192 c193:Nat) (ε:ay),(Value.slice (some ⟨b164,0,none⟩) 1 1)= .slice (some ⟨b190,o191,none⟩) n192 c193/\ε.length=n192/\(∀(j:Nat) (x:UInt8),ε[j]?=some x->World.cell? υ ⟨b190,o191+j,none⟩=some (.int .u8 x.toNat))/\G υ/\(List.length (List.take (Int.toNat 2) z)+ε.length<=4611686018427387904)/\(List.length ((List.take (Int.toNat 2) z)++ε)+List.length [46]<=4611686018427387904)/\bw 224 #[J,(.string (ab s177)),(.string (ab s188))] υ λs195 w196=>G w196/\(List.length (((List.take (Int.toNat 2) z)++ε)++[46])+s195.length<=4611686018427387904)/\R (((((List.take (Int.toNat 2) z)++ε)++[46])++s195)) w196)/\(bw 224 #[J,(.string (ab s177)),(.string (ab s188))] υ λs197 w198=>G w198/\∃(b199 o200 n201 c202:Nat) (ζ:ay),(Value.slice (some ⟨b164,0,none⟩) 1 1)= .slice (some ⟨b199,o200,none⟩) n201 c202/\ζ.length=n201/\(∀(j:Nat) (x:UInt8),ζ[j]?=some x->World.cell? w198 ⟨b199,o200+j,none⟩=some (.int .u8 x.toNat))/\G w198/\(List.length (List.take (Int.toNat 2) z)+ζ.length<=4611686018427387904)/\(List.length ((List.take (Int.toNat 2) z)++ζ)+List.length [46]<=4611686018427387904)/\(List.length (((List.take (Int.toNat 2) z)++ζ)++[46])+s197.length<=4611686018427387904)/\R (((((List.take (Int.toNat 2) z)++ζ)++[46])++s197)) w198))))/\(bw 153 #[(.string (ab (List.drop (Int.toNat 4) z))),(.int .u8 (UInt8.toNat (bt z (Int.toNat 2)))),(.int .u8 I.toNat)] w163 λη w205=>G w205/\(aN w205 (.cells #[(.int .u8 I.toNat)] 5) λb206 φ=>G φ/\(∃(b208 o209 n210 c211:Nat) (θ:ay),(Value.slice (some ⟨b206,0,none⟩) 1 1)= .slice (some ⟨b208,o209,none⟩) n210 c211/\θ.length=n210/\(∀(j:Nat) (x:UInt8),θ[j]?=some x->World.cell? φ ⟨b208,o209+j,none⟩=some (.int .u8 x.toNat))/\G φ/\(List.length (List.take (Int.toNat 2) z)+θ.length<=4611686018427387904)/\(List.length ((List.take (Int.toNat 2) z)++θ)+List.length [46]<=4611686018427387904)/\bw 121 #[(.string (ab t3)),(.int .u8 I.toNat)] φ λs213 w214=>G w214/\bw 224 #[J,(.string (ab η)),(.string (ab s213))] w214 λs215 w216=>G w216/\(List.length (((List.take (Int.toNat 2) z)++θ)++[46])+s215.length<=4611686018427387904)/\R (((((List.take (Int.toNat 2) z)++θ)++[46])++s215)) w216)/\(bw 121 #[(.string (ab t3)),(.int .u8 I.toNat)] φ λs217 χ=>G χ/\(∃(b219 o220 n221 c222:Nat) (ι:ay),(Value.slice (some ⟨b206,0,none⟩) 1 1)= .slice (some ⟨b219,o220,none⟩) n221 c222/\ι.length=n221/\(∀(j:Nat) (x:UInt8),ι[j]?=some x->World.cell? χ ⟨b219,o220+j,none⟩=some (.int .u8 x.toNat))/\G χ/\(List.length (List.take (Int.toNat 2) z)+ι.length<=4611686018427387904)/\(List.length ((List.take (Int.toNat 2) z)++ι)+List.length [46]<=4611686018427387904)/\bw 224 #[J,(.string (ab η)),(.string (ab s217))] χ λs224 w225=>G w225/\(List.length (((List.take (Int.toNat 2) z)++ι)++[46])+s224.length<=4611686018427387904)/\R (((((List.take (Int.toNat 2) z)++ι)++[46])++s224)) w225)/\(bw 224 #[J,(.string (ab η)),(.string (ab s217))] χ λs226 w227=>G w227/\∃(b228 o229 n230 c231:Nat) (κ:ay),(Value.slice (some ⟨b206,0,none⟩) 1 1)= .slice (some ⟨b228,o229,none⟩) n230 c231/\κ.length=n230/\(∀(j:Nat) (x:UInt8),κ[j]?=some x->World.cell? w227 ⟨b228,o229+j,none⟩=some (.int .u8 x.toNat))/\G w227/\(List.length (List.take (Int.toNat 2) z)+κ.length<=4611686018427387904)/\(List.length ((List.take (Int.toNat 2) z)++κ)+List.length [46]<=4611686018427387904)/\(List.length (((List.take (Int.toNat 2) z)++κ)++[46])+s226.length<=4611686018427387904)/\R (((((List.take (Int.toNat 2) z)++κ)++[46])++s226)) w227)))/\(bw 121 #[(.string (ab t3)),(.int .u8 I.toNat)] w205 λs233 w234=>G w234/\(aN w234 (.cells #[(.int .u8 I.toNat)] 5) λb235 ψ=>G ψ/\(∃(b237 o238 n239 c240:Nat) (μ:ay),(Value.slice (some ⟨b235,0,none⟩) 1 1)= .slice (some ⟨b237,o238,none⟩) n239 c240/\μ.length=n239/\(∀(j:Nat) (x:UInt8),μ[j]?=some x->World.cell? ψ ⟨b237,o238+j,none⟩=some (.int .u8 x.toNat))/\G ψ/\(List.length (List.take (Int.toNat 2) z)+μ.length<=4611686018427387904)/\(List.length ((List.take (Int.toNat 2) z)++μ)+List.length [46]<=4611686018427387904)/\bw 224 #[J,(.string (ab η)),(.string (ab s233))] ψ λs242 w243=>G w243/\(List.length (((List.take (Int.toNat 2) z)++μ)++[46])+s242.length<=4611686018427387904)/\R (((((List.take (Int.toNat 2) z)++μ)++[46])++s242)) w243)/\(bw 224 #[J,(.string (ab η)),(.string (ab s233))] ψ λs244 w245=>G w245/\∃(b246 o247 n248 c249:Nat) (ν:ay),(Value.slice (some ⟨b235,0,none⟩) 1 1)= .slice (some ⟨b246,o247,none⟩) n248 c249/\ν.length=n248/\(∀(j:Nat) (x:UInt8),ν[j]?=some x->World.cell? w245 ⟨b246,o247+j,none⟩=some (.int .u8 x.toNat))/\G w245/\(List.length (List.take (Int.toNat 2) z)+ν.length<=4611686018427387904)/\(List.length ((List.take (Int.toNat 2) z)++ν)+List.length [46]<=4611686018427387904)/\(List.length (((List.take (Int.toNat 2) z)++ν)++[46])+s244.length<=4611686018427387904)/\R (((((List.take (Int.toNat 2) z)++ν)++[46])++s244)) w245))/\(bw 224 #[J,(.string (ab η)),(.string (ab s233))] w234 λs251 w252=>G w252/\aN w252 (.cells #[(.int .u8 I.toNat)] 5) λb253 w254=>G w254/\∃(b255 o256 n257 c258:Nat) (ξ:ay),(Value.slice (some ⟨b253,0,none⟩) 1 1)= .slice (some ⟨b255,o256,none⟩) n257 c258/\ξ.length=n257/\(∀(j:Nat) (x:UInt8),ξ[j]?=some x->World.cell? w254 ⟨b255,o256+j,none⟩=some (.int .u8 x.toNat))/\G w254/\(List.length (List.take (Int.toNat 2) z)+ξ.length<=4611686018427387904)/\(List.length ((List.take (Int.toNat 2) z)++ξ)+List.length [46]<=4611686018427387904)/\(List.length (((List.take (Int.toNat 2) z)++ξ)++[46])+s251.length<=4611686018427387904)/\R (((((List.take (Int.toNat 2) z)++ξ)++[46])++s251)) w254)))) (ai (decide (c4=61)) (bO w5 λS260 w261=>(0<=(1:Int)/\(1:Int)<=2/\(2:Int)<=z.length)/\(0<=(3:Int)/\(3:Int)<=4/\(4:Int)<=z.length)/\ai (Op.bytesLess (List.drop (Int.toNat 3) (List.take (Int.toNat 4) z)) (List.drop (Int.toNat 1) (List.take (Int.toNat 2) z))) ((List.length [91]+List.length (List.drop (Int.toNat 3) (List.take (Int.toNat 4) z))<=4611686018427387904)/\(List.length ([91]++(List.drop (Int.toNat 3) (List.take (Int.toNat 4) z)))+List.length [61]<=4611686018427387904)/\(List.length (([91]++(List.drop (Int.toNat 3) (List.take (Int.toNat 4) z)))++[61])+List.length (List.drop (Int.toNat 1) (List.take (Int.toNat 2) z))<=4611686018427387904)/\(List.length ((([91]++(List.drop (Int.toNat 3) (List.take (Int.toNat 4) z)))++[61])++(List.drop (Int.toNat 1) (List.take (Int.toNat 2) z)))+List.length [93]<=4611686018427387904)/\(0<=(5:Int)/\(5:Int)<=z.length)/\bw 224 #[J,(.string (ab (List.drop (Int.toNat 5) z))),(.string (ab t3))] w261 λs262 w263=>(List.length (((([91]++(List.drop (Int.toNat 3) (List.take (Int.toNat 4) z)))++[61])++(List.drop (Int.toNat 1) (List.take (Int.toNat 2) z)))++[93])+s262.length<=4611686018427387904)/\R (((((([91]++(List.drop (Int.toNat 3) (List.take (Int.toNat 4) z)))++[61])++(List.drop (Int.toNat 1) (List.take (Int.toNat 2) z)))++[93])++s262)) w263) ((List.length [91]+List.length (List.drop (Int.toNat 1) (List.take (Int.toNat 2) z))<=4611686018427387904)/\(List.length ([91]++(List.drop (Int.toNat 1) (List.take (Int.toNat 2) z)))+List.length [61]<=4611686018427387904)/\(List.length (([91]++(List.drop (Int.toNat 1) (List.take (Int.toNat 2) z)))++[61])+List.length (List.drop (Int.toNat 3) (List.take (Int.toNat 4) z))<=4611686018427387904)/\(List.length ((([91]++(List.drop (Int.toNat 1) (List.take (Int.toNat 2) z)))++[61])++(List.drop (Int.toNat 3) (List.take (Int.toNat 4) z)))+List.length [93]<=4611686018427387904)/\(0<=(5:Int)/\(5:Int)<=z.length)/\bw 224 #[J,(.string (ab (List.drop (Int.toNat 5) z))),(.string (ab t3))] w261 λs264 w265=>(List.length (((([91]++(List.drop (Int.toNat 1) (List.take (Int.toNat 2) z)))++[61])++(List.drop (Int.toNat 3) (List.take (Int.toNat 4) z)))++[93])+s264.length<=4611686018427387904)/\R (((((([91]++(List.drop (Int.toNat 1) (List.take (Int.toNat 2) z)))++[61])++(List.drop (Int.toNat 3) (List.take (Int.toNat 4) z)))++[93])++s264)) w265)) (ai (decide (c4=42)) ((0<=(1:Int)/\(1:Int)<=z.length)/\bw 224 #[J,(.string (ab (List.drop (Int.toNat 1) z))),(.string (ab t3))] w5 λs266 w267=>(List.length [42]+s266.length<=4611686018427387904)/\R ([42]++s266) w267) (cB 258 #[(.string (ab z))] w5 λv268 w269=>bM v268 λl271=>jX (.slice none 0 0) 0 w269 λI273 m274 l275 Z w277=>ai (decide (Z< (l271:Int))) (aJ v268 Z λb278 o279=>bZ w277 b278 (o279+Z.toNat* 1) λs282=>bw 224 #[J,(.string (ab s282)),(.string (ab t3))] w277 λs283 w284=>aN w284 (.cells #[(.string (ab s283))] 9) λb285 w286=>eu 9 1 16 w286 l275 (.slice (some ⟨b285,0,none⟩) 1 1) λv292 w293=>aj (Z+1)/\I273 v292 (Z+1) w293/\m274 v292 (Z+1) w293< m274 l275 Z w277) (cB 69 #[l275] w277 λv294 w295=>bw 191 #[v294,(.string (ab [43]))] w295 λs296 w297=>R s296 w297))))))):
  Calls Tryz.prog 257 #[J,(.string (ab z)),(.string (ab t3))] w (ax [.s] R):=
 bs (bn [(17,[(10,.v),(87,.i)])] [] []) [.tmp 6 .s] [.v J,.s z,.s t3] Tryz.func257 (by kernel_rfl) h
theorem wu (V:ay)(w:World)(R:ay->Bool->World->Prop)(h:aN w (.cells #[(.bool false),(.bool true)] 233) λb2 w3=>bw 225 #[(.string (ab V))] w3 λs4 w5=>bw 224 #[(.pointer (some ⟨b2,0,none⟩)),(.string (ab V)),(.string (ab s4))] w5 λs6 w7=>∀(b8 c9:Nat) (J:World),b8=Array.size (World.heap w7)->iC J 5 b8 s6->World.grownBy w7 J none->bM (.slice (some ⟨b8,0,none⟩) (s6.length) c9) λα=>CQ 0 0 J λW I H z G=>ai (decide (z< (α:Int))) (aJ (.slice (some ⟨b8,0,none⟩) (s6.length) c9) z λβ γ=>gg G β (γ+z.toNat* 1) λδ=>ai (decide (δ=35)) (aj (H+1)/\aj (z+1)/\W (H+1) (z+1) G/\I (H+1) (z+1) G< I H z G) (aj (z+1)/\W H (z+1) G/\I H (z+1) G< I H z G)) (EW G b2 0 λε=>iz ε (ai (decide (8< H)) (R ([]) false G) (aN G (.cells #[(.bool false),(.bool false)] 233) λZ ζ=>bw 225 #[(.string (ab V))] ζ λη θ=>bw 224 #[(.pointer (some ⟨Z,0,none⟩)),(.string (ab V)),(.string (ab η))] θ λι κ=>bO κ λμ jm=>JJ μ Z 0 λν=>R ι (!ν) jm)) (R ([]) false G))):
  Calls Tryz.prog 189 #[(.string (ab V))] w (ax [.s,.b] R):=
 bs (bn [(4,[(5,.i),(19,.i)])] [] []) [.tmp 2 .s,.tmp 3 .b] [.s V] Tryz.func189 (by kernel_rfl) h
theorem vP (z:ay)(w:World)(R:ay->Bool->World->Prop)(h:hZ 189 #[(.string (ab z))] w λs2 H G=>ai (!H) (R ([]) false G) (hZ 190 #[(.string (ab s2))] G λI J V=>R I J V)):
  Calls Tryz.prog 150 #[(.string (ab z))] w (ax [.s,.b] R):=
 bs (bn [] [] []) [.tmp 2 .s,.tmp 3 .b] [.s z] Tryz.func150 (by kernel_rfl) h
end Go.Proofs.YtdecokaadekjnaaGreat
namespace Go.Proofs.YtdecokaadekjnaaGreat
open Go Go.RowKit
structure MK (w:World)(bm:Nat)(br on:Bool):Prop where
 lt:bm< w.heap.size
 c0:w.cell? ⟨bm,0,none⟩=some (.bool br)
 c1:w.cell? ⟨bm,1,none⟩=some (.bool on)
 f0:w.frozen? ⟨bm,0,none⟩=false
theorem MK.ex {w w':World}{bm:Nat}{br on:Bool}(h:MK w bm br on)(k:Ex w w'):MK w' bm br on:=
 ⟨Kx h.lt k.size,by rw [k.cell h.lt];exact h.c0,by rw [k.cell h.lt];exact h.c1,by rw [Lr k h.lt];exact h.f0⟩
def cR (T:Tx):Tk:=λc=>decide (c∈T)
structure xa (k:Nat)(T:Tx)(σ:Nat->Nat)(u:U):Prop where
 srt:ib T
 okn:∀c∈T,okn k c/\ngr c
 cov:∀y,u.Us y->∃c∈T,c.toNat=σ y
def Compat (ρ:Rh)(σ:Nat->Nat)(u:U):Prop:=∀y,u.Us y->(ρ y).toNat=σ y
structure WR (on:Bool)(u:U)(σ:Nat->Nat)(T r:Tx):Prop where
 ne:r≠[]
 len:r.length<=u.aH
 cnt:bj u<=5->r.count 35=cO u
 bad:bj u<=5->on=false->dt u (cR T)=true->∃c∈r,128<=c
 eq:bj u<=5->on=false->dt u (cR T)=false->∀ρ,Compat ρ σ u->r=LS u ρ (cR T)
structure TR (on:Bool)(t:U)(σ:Nat->Nat)(T r:Tx):Prop where
 ne:r≠[]
 len:r.length<=t.aH
 cnt:aw (tl [t])<=5->r.count 35=thAll (tl [t])
 bad:aw (tl [t])<=5->on=false->thBad (tl [t]) (cR T)=true->∃c∈r,128<=c
 eq:aw (tl [t])<=5->on=false->thBad (tl [t]) (cR T)=false->∀ρ,Compat ρ σ t->r=thU t ρ (cR T)
def En (n:Nat):Prop:=∀{k:Nat} {p:P} {σ:Nat->Nat} {u:U} {T:Tx} {w:World} {bm:Nat} {br on:Bool} {R:ay->World->Prop},
 p.size<=n->Den k p σ u->GF 0 p->xa k T σ u->MK w bm br on->
 (∀r w',Kp w w' (λg=>g=bm)->MK w' bm (br||decide (5< bj u)) on->WR on u σ T r->R r w')->
 Calls Tryz.prog 224 #[.pointer (some ⟨bm,0,none⟩),.string (ab p.text),.string (ab T)] w (ax [.s] R)
def wR (n:Nat):Prop:=∀{k:Nat} {p:P} {σ:Nat->Nat} {t:U} {T:Tx} {w:World} {bm:Nat} {br on:Bool} {R:ay->World->Prop},
 p.size<=n->Den k p σ t->FW t=true->t.dC->t.dead=false->GF 0 p->xa k T σ t->MK w bm br on->
 (∀r w',Kp w w' (λg=>g=bm)->MK w' bm (br||decide (5< aw (tl [t]))) on->TR on t σ T r->R r w')->
 Calls Tryz.prog 257 #[.pointer (some ⟨bm,0,none⟩),.string (ab p.text),.string (ab T)] w (ax [.s] R)
end Go.Proofs.YtdecokaadekjnaaGreat
namespace Go.Proofs.YtdecokaadekjnaaGreat
theorem jC (a b:Nat)(p:U)(tk:Tk):thBad (tl [.snd a b p]) tk=dt p tk:=by simp [tl,thBad,dt]
theorem iV (p:U)(tk:Tk):thBad (tl [.tau p]) tk=dt p tk:=by simp [tl,thBad,dt]
theorem eV (a b:Nat)(p:U)(tk:Tk):thBad (tl [.mat a b p]) tk=dt p tk:=by simp [tl,thBad,dt]
theorem jf (p:U)(tk:Tk):thBad (tl [.rep p]) tk=dt p tk:=by simp [tl,thBad,dt]
theorem jA (a x:Nat)(p:U)(tk:Tk):thBad (tl [.rcv a x p]) tk=((uj tk).isNone||dt p (cA tk (iK tk))):=by simp [tl,thBad,dt]
theorem pO (a b:Nat)(p:U):thAll (tl [.snd a b p])=cO p:=by simp [tl,thAll,cO]
theorem qd (p:U):thAll (tl [.tau p])=cO p:=by simp [tl,thAll,cO]
theorem jy (a b:Nat)(p:U):thAll (tl [.mat a b p])=cO p:=by simp [tl,thAll,cO]
theorem qb (p:U):thAll (tl [.rep p])=cO p:=by simp [tl,thAll,cO]
theorem pT (a b:Nat)(p:U):thAll (tl [.rcv a b p])=cO p:=by simp [tl,thAll,cO]
theorem e8 (a b:Nat)(p:U):aw (tl [.snd a b p])=bj p:=by simp [tl,aw,bj]
theorem eR (p:U):aw (tl [.tau p])=bj p:=by simp [tl,aw,bj]
theorem dk (a b:Nat)(p:U):aw (tl [.mat a b p])=bj p:=by simp [tl,aw,bj]
theorem eP (p:U):aw (tl [.rep p])=bj p:=by simp [tl,aw,bj]
theorem eN (a b:Nat)(p:U):aw (tl [.rcv a b p])=bj p:=by simp [tl,aw,bj]
theorem vG (l:List U)(tk:Tk):thBad (tp l) tk=l.any λu=>dt u tk:=by
 induction l with
 | nil=>rfl
 | cons u l z=>rw [tp,thBad,z];rfl
theorem Ek (l:List U):thAll (tp l)=(l.map cO).sum:=by
 induction l with
 | nil=>rfl
 | cons u l z=>rw [tp,thAll,z];rfl
theorem vH (l:List U)(n:Nat):aw (tp l)<=n↔∀u∈l,bj u<=n:=by
 induction l with
 | nil=>simp [tp,aw]
 | cons u l z=>
  rw [tp,aw];rw [Kc,<-z];unfold bj;exact⟨λh=>⟨by omega,by omega⟩,λh=>by have :=h.1;have :=h.2;omega⟩
theorem tK (l:List U)(tk:Tk):thBad (tl l) tk=l.any λt=>thBad (tl [t]) tk:=by
 induction l with
 | nil=>rfl
 | cons u l z=>
  have:tl (u::l)=(tl [u]).app (tl l):=gI [u] l;rw [this,cY,z];rfl
theorem Ab (l:List U):thAll (tl l)=(l.map λt=>thAll (tl [t])).sum:=by
 induction l with
 | nil=>rfl
 | cons u l z=>
  have:tl (u::l)=(tl [u]).app (tl l):=gI [u] l;rw [this,cy,z];rfl
theorem rF (l:List U)(n:Nat):aw (tl l)<=n↔∀t∈l,aw (tl [t])<=n:=by
 induction l with
 | nil=>simp [tl,aw]
 | cons u l z=>
  have:tl (u::l)=(tl [u]).app (tl l):=gI [u] l;rw [this,cC];rw [Kc,<-z];exact⟨λh=>⟨by omega,by omega⟩,λh=>by have :=h.1;have :=h.2;omega⟩
end Go.Proofs.YtdecokaadekjnaaGreat
namespace Go.Proofs.YtdecokaadekjnaaGreat
open Classical
namespace T
section
variable {A B:Type} [DecidableEq A] [DecidableEq B]
def th:T A->Bool
 | snd .. =>true | rcv .. =>true | tau .. =>true | mat .. =>true | rep .. =>true | sum .. =>true
 | nil=>false | par .. =>false | res .. =>false
def isS:T A->Bool
 | sum .. =>true
 | _=>false
def isP:T A->Bool
 | par .. =>true
 | _=>false
def Nr:T A->Prop
 | nil=>True
 | snd _ _ p=>p.Nr
 | rcv _ _ p=>p.Nr
 | tau p=>p.Nr
 | sum p q=>(p.dead=false/\q.dead=false/\p.isS=false)/\p.Nr/\q.Nr
 | par p q=>(p.th=true/\(q.th=true\/q.isP=true))/\p.Nr/\q.Nr
 | res x p=>p.Us x/\p.Nr
 | mat a b p=>(a≠b/\p.dead=false)/\p.Nr
 | rep p=>p.dead=false/\p.Nr
theorem Nr.il {A:Type}{x:A}:∀{p:T A},p.Nr->p.Fr x->p.Us x
 | nil,_,h=>h.elim
 | snd a b p,n,h=>h.imp id λh=>h.imp id (Nr.il (p:=p) n)
 | rcv a y p,n,h=>h.imp id λh=>h.imp id (Nr.il (p:=p) n)
 | tau p,n,h=>Nr.il (p:=p) n h
 | sum p q,n,h=>Or.imp (Nr.il n.2.1) (Nr.il n.2.2) h
 | par p q,n,h=>Or.imp (Nr.il n.2.1) (Nr.il n.2.2) h
 | res y p,n,h=>And.imp id (Nr.il (p:=p) n.2) h
 | mat a b p,n,h=> .inr ⟨n.1.1,n.1.2,h.imp id λh=>h.imp id (Nr.il (p:=p) n.2)⟩
 | rep p,n,h=>Nr.il (p:=p) n.2 h
theorem FQ {A:Type}{p:T A}{x:A}(h:p.Us x):p.dead=false:=by
 cases hd:p.dead with
 | false=>rfl
 | true=>exact absurd h (bI hd)
theorem Nr.rB {A:Type}:∀{p:T A},p.Nr->p.th=true->p.dead=false
 | snd ..,_,_=>rfl
 | rcv ..,_,_=>rfl
 | tau ..,_,_=>rfl
 | sum p q,n,_=>by simp [dead,n.1.1]
 | mat a b p,n,_=>n.1.2
 | rep p,n,_=>n.1
theorem Nr.live {A:Type}{p:T A}(n:p.Nr)(h:p≠nil):p.dead=false:=by
 cases p with
 | nil=>exact absurd rfl h
 | res x p=>exact FQ (p:=p) n.1
 | par p q=>simp [dead,n.2.1.rB n.1.1]
 | _=>exact n.rB rfl
theorem Nr.dC {A:Type}{p:T A}(n:p.Nr):p.dC:=by
 cases p with
 | mat a b p=>exact n.1.1
 | sum p q=>exact⟨n.1.1,n.1.2.1⟩
 | par p q=>
  refine⟨n.2.1.rB n.1.1,?_⟩;refine n.2.2.live ?_
  rintro rfl
  rcases n.1.2 with h | h<;>cases h
 | res x p=>exact n.1
 | _=>trivial
def frL:T A->List A
 | res x p=>x::p.frL
 | _=>[]
def ths:T A->List (T A)
 | nil=>[]
 | res _ p=>p.ths
 | par p q=>p::q.ths
 | t=>[t]
def mw:T A->List (T A)
 | sum p q=>p::q.mw
 | t=>[t]
def resL:List A->T A->T A
 | [],p=>p
 | x::l,p=>res x (resL l p)
def parL:List (T A)->T A
 | []=>nil
 | [t]=>t
 | t::u::l=>par t (parL (u::l))
def dD:List (T A)->T A
 | []=>nil
 | [t]=>t
 | t::u::l=>sum t (dD (u::l))
theorem fg {A:Type}{x:A}{p:T A}:∀{l:List A},(resL l p).Fr x↔x∉l/\p.Fr x
 | []=>by simp [resL]
 | y::l=>by simp only [resL,Fr,fg (l:=l),Ks,NI];exact Mo.symm
theorem ka {A:Type}{x:A}{p:T A}:∀{l:List A},(resL l p).Us x↔x∉l/\p.Us x
 | []=>by simp [resL]
 | y::l=>by simp only [resL,Us,ka (l:=l),Ks,NI];exact Mo.symm
theorem xq {A:Type}{p:T A}:∀{l:List A},(resL l p).frL=l++p.frL
 | []=>rfl
 | y::l=>by simp only [resL,frL,xq (l:=l),K4]
theorem yL {A:Type}{p:T A}:∀{l:List A},(resL l p).ths=p.ths
 | []=>rfl
 | y::l=>by simp only [resL,ths,yL (l:=l)]
theorem my {A:Type}{x:A}:∀{l:List (T A)},(parL l).Fr x↔∃t∈l,t.Fr x
 | []=>by simp [parL,Fr]
 | [t]=>by simp [parL]
 | t::u::l=>by simp only [parL,Fr,my (l:=u::l),Ks,exists_eq_or_imp]
theorem rQ {A:Type}{x:A}:∀{l:List (T A)},(parL l).Us x↔∃t∈l,t.Us x
 | []=>by simp [parL,Us]
 | [t]=>by simp [parL]
 | t::u::l=>by simp only [parL,Us,rQ (l:=u::l),Ks,exists_eq_or_imp]
theorem A0 {A:Type}{x:A}:∀{l:List (T A)},(dD l).Us x↔∃t∈l,t.Us x
 | []=>by simp [dD,Us]
 | [t]=>by simp [dD]
 | t::u::l=>by simp only [dD,Us,A0 (l:=u::l),Ks,exists_eq_or_imp]
theorem As {A:Type}:∀{l:List (T A)},(∀t∈l,t.th=true/\t.Nr)->(parL l).Nr/\(l≠[]->(parL l).th=true\/(parL l).isP=true)
 | [],_=>⟨trivial,λh=>absurd rfl h⟩
 | [t],h=>⟨(h t (by simp)).2,λ _=> .inl (h t (by simp)).1⟩
 | t::u::l,h=>by
  obtain⟨z,h2⟩:=As (l:=u::l) λt G=>h t (Ki _ G)
  exact⟨⟨⟨(h t (by simp)).1,h2 (by simp)⟩,(h t (by simp)).2,z⟩,λ _=> .inr rfl⟩
theorem n7 {A:Type}{t:T A}(h:t.th=true):t.ths=[t]:=by cases t<;>first | rfl | cases h
theorem iN {A:Type}{t:T A}(h:t.th=true):t.frL=[]:=by cases t<;>first | rfl | cases h
theorem yF {A:Type}:∀{l:List (T A)},(∀t∈l,t.th=true)->(parL l).ths=l
 | [],_=>rfl
 | [t],h=>n7 (h t (by simp))
 | t::u::l,h=>by simp only [parL,ths,yF (l:=u::l) λt z=>h t (Ki _ z)]
theorem Dq {A:Type}:∀{l:List (T A)},(∀t∈l,t.th=true)->(parL l).frL=[]
 | [],_=>rfl
 | [t],h=>iN (h t (by simp))
 | t::u::l,h=>rfl
theorem Af {A:Type}{p:T A}(n:p.Nr):∀{l:List A},l.Nodup->(∀x∈l,p.Us x)->(resL l p).Nr
 | [],_,_=>n
 | x::l,z,h=>by
  have :=K7.1 z;exact⟨ka.2 ⟨this.1,h x (by simp)⟩,Af n this.2 λy G=>h y (Ki _ G)⟩
theorem Ah {A:Type}:∀{l:List (T A)},l≠[]->(∀t∈l,t.dead=false/\t.isS=false/\t.Nr)->(dD l).Nr/\(dD l).dead=false
 | [],h,_=>absurd rfl h
 | [t],_,h=>⟨(h t (by simp)).2.2,(h t (by simp)).1⟩
 | t::u::l,_,h=>by
  obtain⟨G,h2⟩:=Ah (l:=u::l) (by simp) λt z=>h t (Ki _ z)
  have z:=h t (by simp);exact⟨⟨⟨z.1,h2,z.2.1⟩,z.2.2,G⟩,by simp [dD,dead,z.1]⟩
theorem gz {A:Type}{t:T A}(h:t.isS=false):t.mw=[t]:=by cases t<;>first | rfl | cases h
theorem yx {A:Type}:∀{l:List (T A)},l≠[]->(∀t∈l,t.isS=false)->(dD l).mw=l
 | [],h,_=>absurd rfl h
 | [t],_,h=>gz (h t (by simp))
 | t::u::l,_,h=>by simp only [dD,mw,yx (l:=u::l) (by simp) λt z=>h t (Ki _ z)]
theorem yX {A:Type}:∀{p:T A},p.Nr->(p.th=true\/p.isP=true)->parL p.ths=p
 | par p q,n,_=>by
  have G:=yX n.2.2 n.1.2;have z:q.ths≠[]:=by
   rcases n.1.2 with h | h
   ·rw [n7 h];simp
   ·cases q<;>first | (cases h;done) | simp [ths]
  simp only [ths];cases e:q.ths with
  | nil=>exact absurd e z
  | cons u l=>rw [parL,<-e,G]
 | snd ..,_,_=>rfl
 | rcv ..,_,_=>rfl
 | tau ..,_,_=>rfl
 | sum ..,_,_=>rfl
 | mat ..,_,_=>rfl
 | rep ..,_,_=>rfl
 | nil,_,h=>by rcases h with h | h<;>cases h
 | res ..,_,h=>by rcases h with h | h<;>cases h
theorem Nr.shape {A:Type}:∀{p:T A},p.Nr->p=resL p.frL (parL p.ths)
 | res x p,n=>by
  have :=Nr.shape n.2;simp only [frL,ths,resL];rw [<-this]
 | nil,_=>rfl
 | par p q,n=>by
  have :=yX (p:=par p q) n (.inr rfl);rw [this];rfl
 | snd ..,_=>rfl
 | rcv ..,_=>rfl
 | tau ..,_=>rfl
 | sum ..,_=>rfl
 | mat ..,_=>rfl
 | rep ..,_=>rfl
theorem Nr.ths {A:Type}:∀{p:T A},p.Nr->∀t∈p.ths,t.th=true/\t.Nr
 | nil,_,t,h=>by cases h
 | res x p,n,t,h=>Nr.ths (p:=p) n.2 t h
 | par p q,n,t,h=>by
  rcases Ks.1 h with rfl | h
  ·exact⟨n.1.1,n.2.1⟩
  ·exact Nr.ths n.2.2 t h
 | snd ..,n,t,h=>by simp [T.ths]at h;subst h;exact⟨rfl,n⟩
 | rcv ..,n,t,h=>by simp [T.ths]at h;subst h;exact⟨rfl,n⟩
 | tau ..,n,t,h=>by simp [T.ths]at h;subst h;exact⟨rfl,n⟩
 | sum ..,n,t,h=>by simp [T.ths]at h;subst h;exact⟨rfl,n⟩
 | mat ..,n,t,h=>by simp [T.ths]at h;subst h;exact⟨rfl,n⟩
 | rep ..,n,t,h=>by simp [T.ths]at h;subst h;exact⟨rfl,n⟩
theorem Nr.Ey {A:Type}:∀{p:T A},p.Nr->p.frL.Nodup/\∀x∈p.frL,(parL p.ths).Us x
 | res y p,n=>by
  obtain⟨G,h2⟩:=Nr.Ey n.2;have hu:=n.1;rw [Nr.shape n.2]at hu;have hu:=ka.1 hu;refine⟨K7.2 ⟨hu.1,G⟩,λx z=>?_⟩;rcases Ks.1 z with rfl | z
  ·exact hu.2
  ·exact h2 x z
 | nil,_=>⟨LB,λx h=>by cases h⟩
 | par ..,_=>⟨LB,λx h=>by cases h⟩
 | snd ..,_=>⟨LB,λx h=>by cases h⟩
 | rcv ..,_=>⟨LB,λx h=>by cases h⟩
 | tau ..,_=>⟨LB,λx h=>by cases h⟩
 | sum ..,_=>⟨LB,λx h=>by cases h⟩
 | mat ..,_=>⟨LB,λx h=>by cases h⟩
 | rep ..,_=>⟨LB,λx h=>by cases h⟩
end
theorem qt (p:P):∀l:List UInt8,(resL l p).text=wrap l p.text
 | []=>rfl
 | x::l=>by simp only [resL,text,wrap,qt p l]
theorem qf:∀{l:List P},l≠[]->(parL l).text=joinS 38 (l.map T.text)
 | [],h=>absurd rfl h
 | [t],_=>rfl
 | t::u::l,_=>by
  have :=qf (l:=u::l) (by simp);simp only [parL,text,KE,joinS]at this|-;rw [this]
theorem vw:∀{l:List P},l≠[]->(dD l).text=joinS 43 (l.map T.text)
 | [],h=>absurd rfl h
 | [t],_=>rfl
 | t::u::l,_=>by
  have :=vw (l:=u::l) (by simp);simp only [dD,text,KE,joinS]at this|-;rw [this]
end T
section
variable {A B:Type} [DecidableEq A] [DecidableEq B]
theorem AE.th {p:T A}{q:T B}{ρ:A->Nat}{σ:B->Nat}(h:AE ρ p σ q):p.th=q.th/\p.isS=q.isS/\p.isP=q.isP:=by
 cases p<;>cases q<;>first | exact h.elim | exact⟨rfl,rfl,rfl⟩
theorem eU {ρ:A->Nat}{p:T A}{x:A}{v:Nat}(h:e9 ρ (.res x p))(H:∀y,p.Fr y->ρ y≠v):e9 (aF ρ x v) p:=
 .aF (λy z G I h5 J=>h y z ⟨G,h5⟩ ⟨I,J⟩) λy _ G=>H y (T.bG G)
theorem GJ {p:T A}{u:T B}{ρ:A->Nat}{σ:B->Nat}{x:A}{y:B}(h:∀v,AE (aF ρ x v) p (aF σ y v) u)(W:e9 ρ (.res x p))(Z:e9 σ (.res y u)):p.Us x↔u.Us y:=by
 obtain⟨v,V,h2⟩:=cw p u ρ σ;have G:=eU W V;have H:=eU Z h2;constructor
 ·intro hx;obtain⟨z,I,e⟩:=(h v).used G H x hx;rw [df]at e;unfold aF at e;split at e
  ·rename_i J;exact J▸I
  ·exact absurd e (h2 z (T.bG I))
 ·intro hy;obtain⟨z,I,e⟩:=(h v).symm.used H G y hy;rw [df]at e;unfold aF at e;split at e
  ·rename_i J;exact J▸I
  ·exact absurd e (V z (T.bG I))
theorem e9.Er {A:Type}{ρ:A->Nat}{p:T A}{a x:A}(h:e9 ρ (.rcv a x p)):e9 ρ (.res x p):=λy z G H=>h y z (.inr G) (.inr H)
theorem AE.nr:∀{p:T A} {q:T B} {ρ:A->Nat} {σ:B->Nat},AE ρ p σ q->e9 ρ p->e9 σ q->p.Nr->q.Nr:=by
 intro p
 induction p<;>intro q ρ σ h H I n<;>cases q<;>simp only [AE]at h
 case nil.nil=>trivial
 case snd.snd G _ _ _=>have k:=G h.2.2 (H.sub λx z=>Or.inr (Or.inr z)) (I.sub λx z=> .inr (.inr z)) n;exact k
 case rcv.rcv p G _ _ q=>
  obtain⟨v,W,h2⟩:=cw p q ρ σ;have k:=G (h.2 v) (eU H.Er W) (eU I.Er h2) n;exact k
 case tau.tau G _=>have k:=G h H I n;exact k
 case rep.rep G _=>exact⟨h.dead▸n.1,G h H I n.2⟩
 case res.res p G _ q=>
  obtain⟨v,W,h2⟩:=cw p q ρ σ;exact⟨(GJ h H I).1 n.1,G (h v) (eU H W) (eU I h2) n.2⟩
 case mat.mat p G c d q=>
  have hd:q.dead=false:=h.2.2.dead▸n.1.2;have V:c≠d:=by
   rintro rfl
   exact n.1.1 (H _ _ (.inr ⟨n.1.1,n.1.2,.inl rfl⟩) (.inr ⟨n.1.1,n.1.2,.inr (.inl rfl)⟩) (h.1.trans h.2.1.symm))
  exact⟨⟨V,hd⟩,G h.2.2 (H.sub λx z=> .inr ⟨n.1.1,n.1.2,.inr (.inr z)⟩) (I.sub λx z=> .inr ⟨V,hd,.inr (.inr z)⟩) n.2⟩
 case sum.sum G J _ _=>
  exact⟨⟨h.1.dead▸n.1.1,h.2.dead▸n.1.2.1,h.1.th.2.1▸n.1.2.2⟩,G h.1 (H.sub λx z=> .inl z) (I.sub λx z=> .inl z) n.2.1,J h.2 (H.sub λx z=> .inr z) (I.sub λx z=> .inr z) n.2.2⟩
 case par.par G J _ _=>
  exact⟨⟨h.1.th.1▸n.1.1,n.1.2.imp (λk=>h.2.th.1▸k) (λk=>h.2.th.2.2▸k)⟩,G h.1 (H.sub λx z=> .inl z) (I.sub λx z=> .inl z) n.2.1,J h.2 (H.sub λx z=> .inr z) (I.sub λx z=> .inr z) n.2.2⟩
end
theorem eK {u:U}(n:u.Nr)(h:u.th=true):ak u=([],[u]):=by
 cases u<;>first | (cases h;done) | rfl | skip
 case sum p q=>simp [ak,n.1.1,n.1.2.1]
 case mat a b p=>simp [ak,n.1.1,n.1.2]
 case rep p=>simp [ak,n.1]
theorem zE:∀{u:U},Uq u->u.Nr->ak u=(u.frL,u.ths)
 | .nil,_,_=>rfl
 | .res x p,hu,n=>by
  have :=zE hu.res n.2;have h:(td p).2.has x=true:=(fS p x hu.fZ).2 n.1;simp [ak,h,this,T.frL,T.ths]
 | .par p q,hu,n=>by
  have h2:=zE hu.fM n.2.2;have z:q.frL=[]:=by
   rcases n.1.2 with h | h
   ·exact T.iN h
   ·cases q<;>first | (cases h;done) | rfl
  simp [ak,h2,eK n.2.1 n.1.1,T.frL,T.ths,z]
 | .snd ..,_,n=>eK n rfl
 | .rcv ..,_,n=>eK n rfl
 | .tau ..,_,n=>eK n rfl
 | .sum ..,_,n=>eK n rfl
 | .mat ..,_,n=>eK n rfl
 | .rep ..,_,n=>eK n rfl
theorem eL {u:U}(z:u.dC)(hd:u.dead=false)(H:∀p q,u≠ .sum p q)(hu:Uq u):an u=[u]:=by
 cases u with
 | nil=>cases hd
 | snd=>rfl
 | rcv=>rfl
 | tau=>rfl
 | sum p q=>exact absurd rfl (H p q)
 | par p q=>
  have G:p.dead=false:=z.1;have h2:q.dead=false:=z.2;simp [an,G,h2]
 | res x p=>
  have:(td p).2.has x=true:=(fS p x hu.fZ).2 z;simp [an,this]
 | mat a b p=>
  have G:a≠b:=z;have h2:p.dead=false:=hd;simp [an,G,h2]
 | rep p=>
  have h2:p.dead=false:=hd;simp [an,h2]
theorem eo:∀{u:U},Uq u->u.Nr->u.dead=false->an u=u.mw
 | .nil,_,_,h=>by cases h
 | .sum p q,hu,n,_=>by
  have z:=eo hu.ec n.2.1 n.1.1;have h2:=eo hu.dL n.2.2 n.1.2.1;simp only [an,T.mw,z,h2,T.gz n.1.2.2];rfl
 | .res x p,hu,n,h=>eL n.dC h (λ _ _ e=>by cases e) hu
 | .par ..,hu,n,h=>eL n.dC h (λ _ _ e=>by cases e) hu
 | .snd ..,hu,n,h=>eL n.dC h (λ _ _ e=>by cases e) hu
 | .rcv ..,hu,n,h=>eL n.dC h (λ _ _ e=>by cases e) hu
 | .tau ..,hu,n,h=>eL n.dC h (λ _ _ e=>by cases e) hu
 | .mat ..,hu,n,h=>eL n.dC h (λ _ _ e=>by cases e) hu
 | .rep ..,hu,n,h=>eL n.dC h (λ _ _ e=>by cases e) hu
namespace Lv
def map (f:Nat->Nat):Lv->Lv
 | nil=>nil
 | thr k a b o r n=>thr k (if k= .t\/k= .p then a else f a) (if k= .t\/k= .p then b else f b) (o.map f) (r.map f) (n.map f)
 | sum z n=>sum (z.map f) (n.map f)
 | part o q n=>part (o.map f) (q.map f) (n.map f)
def Al (D:Nat->Prop):Lv->Prop
 | nil=>True
 | thr k a b o r n=>(k= .t\/k= .p\/(D a/\D b))/\(∀x∈o,D x)/\r.Al D/\n.Al D
 | sum z n=>z.Al D/\n.Al D
 | part o q n=>(∀x∈o,D x)/\q.Al D/\n.Al D
theorem fq (f:Nat->Nat):∀l m:Lv,(l.app m).map f=(l.map f).app (m.map f)
 | nil,m=>rfl
 | thr k a b o r n,m=>by simp only [app,map,fq f n m]
 | sum z n,m=>by simp only [app,map,fq f n m]
 | part o q n,m=>by simp only [app,map,fq f n m]
theorem nH {D:Nat->Prop}:∀{l m:Lv},(l.app m).Al D↔l.Al D/\m.Al D
 | nil,m=>by simp [app,Al]
 | thr k a b o r n,m=>by simp only [app,Al,nH (l:=n),Mo]
 | sum z n,m=>by simp only [app,Al,nH (l:=n),Mo]
 | part o q n,m=>by simp only [app,Al,nH (l:=n),Mo]
theorem mK (f:Nat->Nat)(l:Lv):(l.map f).isNil=l.isNil:=by cases l<;>rfl
theorem ma {D E:Nat->Prop}(h:∀x,D x->E x):∀{l:Lv},l.Al D->l.Al E
 | nil,_=>trivial
 | thr k a b o r n,⟨z,h2,G,h4⟩=>⟨z.imp id λz=>z.imp id λz=>⟨h _ z.1,h _ z.2⟩,λx H=>h x (h2 x H),ma h G,ma h h4⟩
 | sum I n,⟨z,h2⟩=>⟨ma h z,ma h h2⟩
 | part o q n,⟨z,h2,G⟩=>⟨λx H=>h x (z x H),ma h h2,ma h G⟩
section
variable {D:Nat->Prop} {f:Nat->Nat}
theorem me (z:∀x y,D x->D y->f x=f y->x=y){x y:Nat}(G:D x)(H:D y):(f x==f y)=(x==y):=by
 rw [K6,NG,NG];exact⟨z x y G H,λh=>by rw [h]⟩
theorem jW (z:∀x y,D x->D y->f x=f y->x=y){x:Nat}(G:D x):∀{l:Lv},l.Al D->(l.map f).has (f x)=l.has x
 | nil,_=>rfl
 | thr k a b o r n,⟨H,h2,I,h4⟩=>by
  simp only [map,has,jW z G I,jW z G h4];cases k with
  | t=>rfl
  | p=>rfl
  | s=>simp at H;simp [me z H.1 G,me z H.2 G]
  | m=>simp at H;simp [me z H.1 G,me z H.2 G]
  | r=>simp at H;simp [me z H.1 G,me z H.2 G]
 | sum J n,⟨H,h2⟩=>by simp only [map,has,jW z G H,jW z G h2]
 | part o q n,⟨H,h2,I⟩=>by simp only [map,has,jW z G h2,jW z G I]
abbrev dZ (f:Nat->Nat)(r:List Nat×Lv):List Nat×Lv:=(r.1.map f,r.2.map f)
abbrev Hp (D:Nat->Prop)(r:List Nat×Lv):Prop:=(∀x∈r.1,D x)/\r.2.Al D
theorem tM (H:∀x y,D x->D y->f x=f y->x=y){own:List Nat}{r:List Nat×Lv}(G:∀x∈own,D x)(hr:Hp D r):kept (own.map f) (dZ f r)=dZ f (kept own r)/\Hp D (kept own r):=by
 constructor
 ·unfold kept dZ;refine Prod.ext ?_ rfl;simp only [<-K3,List.filter_map]
  congr 1
  refine Mp λx z=>?_
  exact jW H ((Ke.1 z).elim (G x) (hr.1 x)) hr.2
 ·refine⟨λx z=>?_,hr.2⟩;simp only [kept,L5,Ke]at z;exact z.1.elim (G x) (hr.1 x)
theorem Fw (z:Lv)(n:List Nat×Lv):spl (z.map f) (dZ f n)=dZ f (spl z n):=by
 unfold spl;cases z with
 | nil=>rfl
 | thr=>rfl
 | sum=>rfl
 | part o q m=>
  cases m<;>simp [map,dZ,fq]
theorem H7 {G:Lv}{n:List Nat×Lv}(h:G.Al D)(z:Hp D n):Hp D (spl G n):=by
 unfold spl;split
 ·exact z
 ·exact⟨λx H=>(Ke.1 H).elim (h.1 x) (z.1 x),nH.2 ⟨h.2.1,z.2⟩⟩
 ·exact⟨z.1,h,z.2⟩
theorem FR (o:List Nat)(q n:Lv):prt (o.map f) (q.map f) (n.map f)=(prt o q n).map f:=by
 unfold prt;cases q with
 | nil=>rfl
 | thr=>rfl
 | part=>rfl
 | sum G m=>
  cases m<;>simp only [map]
  by_cases h:o.isEmpty=true
  ·have z:(o.map f).isEmpty=true:=by simpa using h
   rw [KG h,KG z,fq]
  ·have z:¬(o.map f).isEmpty=true:=by simpa using h
   rw [Ko h,Ko z];simp [map]
theorem Hy {o:List Nat}{q n:Lv}(H:∀x∈o,D x)(G:q.Al D)(z:n.Al D):(prt o q n).Al D:=by
 unfold prt;split
 ·exact z
 ·split
  ·exact nH.2 ⟨G.1,z⟩
  ·exact⟨H,G,z⟩
 ·exact⟨H,G,z⟩
theorem jF (z:∀x y,D x->D y->f x=f y->x=y):∀{l:Lv},l.Al D->tid (l.map f)=dZ f (tid l)/\Hp D (tid l)
 | nil,_=>⟨rfl,⟨λx h=>(by cases h),trivial⟩⟩
 | sum ps n,⟨G,h2⟩=>by
  obtain⟨H,a2⟩:=jF z G;obtain⟨b1,b2⟩:=jF z h2;simp only [map,tid];rw [H,b1];exact⟨Fw _ _,H7 a2.2 b2⟩
 | part o q n,⟨G,h2,I⟩=>by
  obtain⟨H,a2⟩:=jF z h2;obtain⟨b1,b2⟩:=jF z I;obtain⟨c1,c2⟩:=tM z G a2;simp only [map,tid];rw [H,b1,c1];exact⟨Prod.ext rfl (FR _ _ _),⟨λx h=>(by cases h),Hy c2.1 c2.2 b2.2⟩⟩
 | thr k a b o r n,⟨G,h2,I,h4⟩=>by
  obtain⟨H,a2⟩:=jF z I;obtain⟨b1,b2⟩:=jF z h4;obtain⟨c1,c2⟩:=tM z h2 a2;simp only [map,tid];rw [H,b1,c1];have J:(k= .m/\(if k= .t\/k= .p then a else f a)=(if k= .t\/k= .p then b else f b))↔(k= .m/\a=b):=by
   refine and_congr_right λV=>?_
   subst V;simp at G|-;exact⟨z a b G.1 G.2,λh=>by rw [h]⟩
  have W:((dZ f (kept o (tid r))).2.isNil)=(kept o (tid r)).2.isNil:=mK _ _;by_cases g1:k= .m/\a=b
  ·rw [KG (J.2 g1),KG g1];exact⟨by simp [dZ,fq],⟨λx Z=>(Ke.1 Z).elim (c2.1 x) (b2.1 x),nH.2 ⟨c2.2,b2.2⟩⟩⟩
  ·rw [Ko λh=>g1 (J.1 h),Ko g1,W];split
   ·exact⟨rfl,b2⟩
   ·exact⟨rfl,⟨b2.1,⟨G,c2.1,c2.2,b2.2⟩⟩⟩
end
end Lv
theorem uz {α β:Type}(f:α->β):∀l:List α,perms (l.map f)=(perms l).map (List.map f)
 | []=>rfl
 | x::l=>by
  have z:∀(x:α) (l:List α),ins (f x) (l.map f)=(ins x l).map (List.map f):=by
   intro x l
   induction l with
   | nil=>rfl
   | cons y l G=>simp only [KE,ins,G,LM];rfl
  simp only [KE,perms,uz f l,Nn,List.map_flatMap]
  congr 1
  funext m
  exact z x m
theorem Bn {f:Nat->Nat}{ρ ρ':Rh}{x:Nat}:∀(π:List Nat) (ls:List UInt8) (ρ ρ':Rh),(∀y∈π,f x=f y->x=y)->ρ (f x)=ρ' x->asg (π.map f) ls ρ (f x)=asg π ls ρ' x
 | [],_,_,_,_,h=>by simpa [asg]using h
 | _::_,[],_,_,_,h=>by simpa [asg]using h
 | y::π,c::ls,ρ,ρ',G,h=>by
  rw [KE,asg,asg];refine Bn (ρ:=ρ) (ρ':=ρ') π ls _ _ (λz H=>G z (Ki _ H)) ?_;unfold aF;by_cases e:x=y
  ·subst e;simp
  ·rw [Ko e,Ko λI=>e (G y (KR ..) I),h]
theorem nF {D:Nat->Prop}{f:Nat->Nat}(V:∀x y,D x->D y->f x=f y->x=y){own:List Nat}{F G:Rh->Tk->List Tx}{H:Nat->Prop}(W:∀x∈own,D x)(Z:∀x,H x->D x)
  (I:∀ρ ρ' tk,(∀x,H x->ρ (f x)=ρ' x)->F ρ tk=G ρ' tk) {ρ ρ':Rh} {tk:Tk} (h:∀x,H x->ρ (f x)=ρ' x):aR (own.map f) F ρ tk=aR own G ρ' tk:=by
 unfold aR;rw [I ρ ρ' tk h,uz,Kz];split
 ·rfl
 ·show wrap _ (bP _)=wrap _ (bP _);rw [LM]
  congr 2
  refine Lk λπ z=>?_
  show joinS 38 (a7 (F _ _))=_;rw [I _ (asg π (lets own.length tk) ρ') _ λx J=>Bn (ρ:=ρ) (ρ':=ρ') π _ _ _ (λy hy e=>V x y (Z x J) (W y (((cZ own π).1 z).subset hy)) e) (h x J)]
theorem iS {D:Nat->Prop}{x:Nat}:∀{l:Lv},l.Al D->l.has x=true->D x
 | .nil,_,h=>by cases h
 | .thr k a b o r n,⟨z,h2,G,h4⟩,h=>by
  simp only [Lv.has,Lm]at h;rcases h with(h | h) | h
  ·cases k<;>simp at h z
   ·rcases h with rfl | rfl
    ·exact z.1
    ·exact z.2
   ·rcases h with rfl | rfl
    ·exact z.1
    ·exact z.2
   ·rcases h with rfl | rfl
    ·exact z.1
    ·exact z.2
  ·exact iS G h
  ·exact iS h4 h
 | .sum H n,⟨z,h2⟩,h=>by
  simp only [Lv.has,Lm]at h;exact h.elim (iS z) (iS h2)
 | .part o q n,⟨z,h2,G⟩,h=>by
  simp only [Lv.has,Lm]at h;exact h.elim (iS h2) (iS G)
theorem j4 {D:Nat->Prop}{f:Nat->Nat}(H:∀x y,D x->D y->f x=f y->x=y):∀{l:Lv},l.Al D->∀(ρ ρ':Rh) (tk:Tk),(∀x,l.has x=true->ρ (f x)=ρ' x)->thS (l.map f) ρ tk=thS l ρ' tk
 | .nil,_,_,_,_,_=>rfl
 | .thr k a b o r n,⟨I,h2,J,h4⟩,ρ,ρ',tk,h=>by
  have V:thS (n.map f) ρ tk=thS n ρ' tk:=j4 H h4 ρ ρ' tk λx z=>h x (by simp [Lv.has,z])
  have G:∀x,r.has x=true->ρ (f x)=ρ' x:=λx z=>h x (by simp [Lv.has,z])
  have W:∀ρ ρ' tk,(∀x,r.has x=true->ρ (f x)=ρ' x)->aR (o.map f) (thS (r.map f)) ρ tk=aR o (thS r) ρ' tk:=λρ ρ' tk h=>
   nF H h2 (λx z=>iS J z) (λρ ρ' tk=>j4 H J ρ ρ' tk) h
  cases k with
  | s=>
   have ha:=h a (by simp [Lv.has]);have hb:=h b (by simp [Lv.has]);simp [Lv.map,thS,V,W ρ ρ' tk G,ha,hb]
  | m=>
   have ha:=h a (by simp [Lv.has]);have hb:=h b (by simp [Lv.has]);simp [Lv.map,thS,V,W ρ ρ' tk G,ha,hb]
  | t=>simp [Lv.map,thS,kText,V,W ρ ρ' tk G]
  | p=>simp [Lv.map,thS,kText,V,W ρ ρ' tk G]
  | r=>
   have ha:=h a (by simp [Lv.has]);simp at I;have hu:∀x,r.has x=true->aF ρ (f b) (iK tk) (f x)=aF ρ' b (iK tk) x:=λx z=>by
    unfold aF;by_cases e:x=b
    ·subst e;simp
    ·rw [Ko e,Ko λZ=>e (H x b (iS J z) I.2 Z)];exact G x z
   simp [Lv.map,thS,V,W _ _ _ hu,ha]
 | .sum ps n,⟨I,h2⟩,ρ,ρ',tk,h=>by
  simp only [Lv.map,thS,j4 H I ρ ρ' tk λx z=>h x (by simp [Lv.has,z]),j4 H h2 ρ ρ' tk λx z=>h x (by simp [Lv.has,z])]
 | .part o q n,⟨I,h2,J⟩,ρ,ρ',tk,h=>by
  simp only [Lv.map,thS,j4 H J ρ ρ' tk λx z=>h x (by simp [Lv.has,z])];rw [nF H I (λx z=>iS h2 z) (λρ ρ' tk=>j4 H h2 ρ ρ' tk) λx z=>h x (by simp [Lv.has,z])]
theorem eY (f:Nat->Nat):∀(l:Lv) (tk:Tk),thBad (l.map f) tk=thBad l tk
 | .nil,_=>rfl
 | .thr k a b o r n,tk=>by
  have hr:thBad (r.map f)=thBad r:=funext λtk=>eY f r tk
  simp only [Lv.map,thBad,eY f n,Lv.mK,Kz,hr]
 | .sum z n,tk=>by simp only [Lv.map,thBad,eY f n,eY f z]
 | .part o q n,tk=>by
  have hr:thBad (q.map f)=thBad q:=funext λtk=>eY f q tk
  simp only [Lv.map,thBad,eY f n,Lv.mK,Kz,hr]
theorem eW (f:Nat->Nat):∀l:Lv,thAll (l.map f)=thAll l
 | .nil=>rfl
 | .thr k a b o r n=>by simp only [Lv.map,thAll,eW f n,eW f r,Kz]
 | .sum z n=>by simp only [Lv.map,thAll,eW f n,eW f z]
 | .part o q n=>by simp only [Lv.map,thAll,eW f n,eW f q,Kz]
theorem dO (f:Nat->Nat):∀l:Lv,aw (l.map f)=aw l
 | .nil=>rfl
 | .thr k a b o r n=>by simp only [Lv.map,aw,dO f n,dO f r,Kz]
 | .sum z n=>by simp only [Lv.map,aw,dO f n,dO f z]
 | .part o q n=>by simp only [Lv.map,aw,dO f n,dO f q,Kz]
def T.Al {A:Type}(D:A->Prop):T A->Prop
 | .nil=>True
 | .snd a b p=>D a/\D b/\p.Al D
 | .rcv a b p=>D a/\D b/\p.Al D
 | .mat a b p=>D a/\D b/\p.Al D
 | .tau p=>p.Al D
 | .rep p=>p.Al D
 | .sum p q=>p.Al D/\q.Al D
 | .par p q=>p.Al D/\q.Al D
 | .res x p=>D x/\p.Al D
theorem cF (f:Nat->Nat):∀u:U,flat (u.map f)=Lv.dZ f (flat u)
 | .nil=>rfl
 | .snd a b p=>by simp [T.map,flat,cF f p,Lv.dZ,Lv.map]
 | .rcv a b p=>by simp [T.map,flat,cF f p,Lv.dZ,Lv.map]
 | .mat a b p=>by simp [T.map,flat,cF f p,Lv.dZ,Lv.map]
 | .tau p=>by simp [T.map,flat,cF f p,Lv.dZ,Lv.map]
 | .rep p=>by simp [T.map,flat,cF f p,Lv.dZ,Lv.map]
 | .sum p q=>by simp [T.map,flat,cF f p,cF f q,Lv.dZ,Lv.map]
 | .par p q=>by simp [T.map,flat,cF f p,cF f q,Lv.dZ,Lv.fq]
 | .res x p=>by simp [T.map,flat,cF f p,Lv.dZ]
theorem bQ {D:Nat->Prop}:∀{u:U},u.Al D->Lv.Hp D (flat u)
 | .nil,_=>⟨λx h=>(by cases h),trivial⟩
 | .snd a b p,⟨z,h2,h⟩=>⟨λx h=>(by simp [flat]at h),⟨.inr (.inr ⟨z,h2⟩),(bQ h).1,(bQ h).2,trivial⟩⟩
 | .rcv a b p,⟨z,h2,h⟩=>⟨λx h=>(by simp [flat]at h),⟨.inr (.inr ⟨z,h2⟩),(bQ h).1,(bQ h).2,trivial⟩⟩
 | .mat a b p,⟨z,h2,h⟩=>⟨λx h=>(by simp [flat]at h),⟨.inr (.inr ⟨z,h2⟩),(bQ h).1,(bQ h).2,trivial⟩⟩
 | .tau p,h=>⟨λx h=>(by simp [flat]at h),⟨.inl rfl,(bQ (u:=p) h).1,(bQ (u:=p) h).2,trivial⟩⟩
 | .rep p,h=>⟨λx h=>(by simp [flat]at h),⟨.inr (.inl rfl),(bQ (u:=p) h).1,(bQ (u:=p) h).2,trivial⟩⟩
 | .sum p q,⟨z,h2⟩=>⟨λx h=>(by simp [flat]at h),⟨(bQ z).1,(bQ z).2,(bQ h2).1,(bQ h2).2,trivial⟩,trivial⟩
 | .par p q,⟨z,h2⟩=>⟨λx h=>by
   simp only [flat,Ke]at h;exact h.elim ((bQ z).1 x) ((bQ h2).1 x),Lv.nH.2 ⟨(bQ z).2,(bQ h2).2⟩⟩
 | .res x p,⟨z,h⟩=>⟨λy G=>by
   simp only [flat,Ks]at G;rcases G with rfl | G
   ·exact z
   ·exact(bQ h).1 y G,(bQ h).2⟩
theorem EM {D:Nat->Prop}{f:Nat->Nat}(z:∀x y,D x->D y->f x=f y->x=y){u:U}(h:u.Al D):td (u.map f)=Lv.dZ f (td u)/\Lv.Hp D (td u):=by
 unfold td Lv.tidy;have G:=bQ h;obtain⟨h2,H⟩:=Lv.jF z G.2;rw [cF];show Lv.kept ((flat u).1.map f) (Lv.tid ((flat u).2.map f))=_/\_;rw [h2];exact Lv.tM z G.1 H
theorem Hx {D:Nat->Prop}{f:Nat->Nat}(z:∀x y,D x->D y->f x=f y->x=y){u:U}(h:u.Al D)(ρ:Rh)(tk:Tk):LS (u.map f) ρ tk=LS u (λx=>ρ (f x)) tk:=by
 obtain⟨G,h2⟩:=EM z h;unfold LS;rw [G];exact nF z h2.1 (λx H=>iS h2.2 H) (λρ ρ' tk=>j4 z h2.2 ρ ρ' tk) λx _=>rfl
theorem CB {D:Nat->Prop}{f:Nat->Nat}(z:∀x y,D x->D y->f x=f y->x=y){u:U}(h:u.Al D):dt (u.map f)=dt u/\cO (u.map f)=cO u/\bj (u.map f)=bj u:=by
 obtain⟨G,h2⟩:=EM z h;unfold dt cO bj;rw [G];have hr:thBad ((td u).2.map f)=thBad (td u).2:=funext λtk=>eY f _ tk
 simp [Lv.dZ,Lv.mK,eW,dO,hr]
theorem wS (Q:U->Prop)(I:∀p q,Q (.sum p q)->Q p/\Q q)(J:∀p q,Q (.par p q)->Q p/\Q q)(hr:∀x p,Q (.res x p)->Q p)(hm:∀a b p,Q (.mat a b p)->Q p):∀u:U,Q u->∀t∈(ak u).2,Q t:=by
 intro u
 induction u with
 | nil=>intro _ t h;simp [ak]at h
 | snd=>intro q t h;simp [ak]at h;exact h▸q
 | rcv=>intro q t h;simp [ak]at h;exact h▸q
 | tau=>intro q t h;simp [ak]at h;exact h▸q
 | sum p q G H=>
  intro z t h;simp only [ak]at h;split at h
  ·exact H (I _ _ z).2 t h
  ·split at h
   ·exact G (I _ _ z).1 t h
   ·simp at h;exact h▸z
 | par p q G H=>
  intro z t h;simp only [ak,Ke]at h;exact h.elim (G (J _ _ z).1 t) (H (J _ _ z).2 t)
 | res x p G=>intro z t h;exact G (hr _ _ z) t h
 | mat a b p G=>
  intro z t h;simp only [ak]at h;split at h
  ·exact G (hm _ _ _ z) t h
  ·split at h
   ·simp at h
   ·simp at h;exact h▸z
 | rep p G=>
  intro z t h;simp only [ak]at h;split at h
  ·simp at h
  ·simp at h;exact h▸z
theorem rG (Q:U->Prop)(I:∀p q,Q (.sum p q)->Q p/\Q q)(J:∀p q,Q (.par p q)->Q p/\Q q)(hr:∀x p,Q (.res x p)->Q p)(hm:∀a b p,Q (.mat a b p)->Q p):∀u:U,Q u->∀t∈an u,Q t:=by
 intro u
 induction u with
 | nil=>intro _ t h;simp [an]at h
 | snd=>intro q t h;simp [an]at h;exact h▸q
 | rcv=>intro q t h;simp [an]at h;exact h▸q
 | tau=>intro q t h;simp [an]at h;exact h▸q
 | par p q G H=>
  intro z t h;simp only [an]at h;split at h
  ·exact H (J _ _ z).2 t h
  ·split at h
   ·exact G (J _ _ z).1 t h
   ·simp at h;exact h▸z
 | sum p q G H=>
  intro z t h;simp only [an,Ke]at h;exact h.elim (G (I _ _ z).1 t) (H (I _ _ z).2 t)
 | res x p G=>
  intro z t h;simp only [an]at h;split at h
  ·simp at h;exact h▸z
  ·exact G (hr _ _ z) t h
 | mat a b p G=>
  intro z t h;simp only [an]at h;split at h
  ·exact G (hm _ _ _ z) t h
  ·split at h
   ·simp at h
   ·simp at h;exact h▸z
 | rep p G=>
  intro z t h;simp only [an]at h;split at h
  ·simp at h
  ·simp at h;exact h▸z
theorem Ez {u:U}(h:Uq u):∀t∈(ak u).2,Uq t:=
 wS Uq (λ _ _ h=>⟨h.ec,h.dL⟩) (λ _ _ h=>⟨h.fT,h.fM⟩) (λ _ _ h=>h.res) (λ _ _ _ h=>h.mat) u h
theorem xd {u:U}(h:Uq u):∀t∈an u,Uq t:=
 rG Uq (λ _ _ h=>⟨h.ec,h.dL⟩) (λ _ _ h=>⟨h.fT,h.fM⟩) (λ _ _ h=>h.res) (λ _ _ _ h=>h.mat) u h
theorem zR (u:U):∀t∈(ak u).2,t.size<=u.size:=
 wS (λt=>t.size<=u.size) (λ _ _ h=>by simp only [T.size]at h;omega) (λ _ _ h=>by simp only [T.size]at h;omega) (λ _ _ h=>by simp only [T.size]at h;omega) (λ _ _ _ h=>by simp only [T.size]at h;omega) u (Kb _)
theorem mJ (u:U):∀t∈an u,t.size<=u.size:=
 rG (λt=>t.size<=u.size) (λ _ _ h=>by simp only [T.size]at h;omega) (λ _ _ h=>by simp only [T.size]at h;omega) (λ _ _ h=>by simp only [T.size]at h;omega) (λ _ _ _ h=>by simp only [T.size]at h;omega) u (Kb _)
theorem AW (u:U):∀t∈(ak u).2,∀x∈BV t,x∈BV u:=
 wS (λt=>∀x∈BV t,x∈BV u) (λ _ _ h=>⟨λx z=>h x (KH _ z),λx z=>h x (KB _ z)⟩)
  (λ _ _ h=>⟨λx z=>h x (KH _ z),λx z=>h x (KB _ z)⟩) (λ _ _ h=>λx z=>h x (Ki _ z)) (λ _ _ _ h=>h) u (λx h=>h)
theorem xF (u:U):∀t∈an u,∀x∈BV t,x∈BV u:=
 rG (λt=>∀x∈BV t,x∈BV u) (λ _ _ h=>⟨λx z=>h x (KH _ z),λx z=>h x (KB _ z)⟩)
  (λ _ _ h=>⟨λx z=>h x (KH _ z),λx z=>h x (KB _ z)⟩) (λ _ _ h=>λx z=>h x (Ki _ z)) (λ _ _ _ h=>h) u (λx h=>h)
theorem lZ:∀(u:U),Uq u->∀y,u.Us y↔∃t∈an u,t.Us y:=by
 intro u
 induction u with
 | nil=>intro _ y;simp [an,T.Us]
 | snd=>intro _ y;simp [an]
 | rcv=>intro _ y;simp [an]
 | tau=>intro _ y;simp [an]
 | sum p q z G=>
  intro h y;have:(T.sum p q).Us y↔p.Us y\/q.Us y:=M5;rw [this,z h.ec y,G h.dL y];simp only [an,Ke];constructor
  ·rintro(⟨t,H,h2⟩ | ⟨t,H,h2⟩)
   ·exact⟨t,.inl H,h2⟩
   ·exact⟨t,.inr H,h2⟩
  ·rintro⟨t,H | H,h2⟩
   ·exact .inl ⟨t,H,h2⟩
   ·exact .inr ⟨t,H,h2⟩
 | par p q z G=>
  intro h y;have e:(T.par p q).Us y↔p.Us y\/q.Us y:=M5;simp only [an];split
  ·rename_i hd;rw [e,<-G h.fM y];exact⟨λk=>k.resolve_left (T.bI hd),.inr⟩
  ·split
   ·rename_i hd;rw [e,<-z h.fT y];exact⟨λk=>k.resolve_right (T.bI hd),.inl⟩
   ·simp
 | res x p z=>
  intro h y;simp only [an];split
  ·simp
  ·rename_i I;rw [<-z h.res y];have J:¬p.Us x:=λk=>I ((fS p x h.fZ).2 k)
   exact⟨λk=>k.2,λk=>⟨λe=>J (e▸k),k⟩⟩
 | mat a b p z=>
  intro h y;simp only [an];split
  ·rename_i e;rw [<-z h.mat y];simp [T.Us,e]
  ·rename_i e;split
   ·rename_i hd;simp [T.Us,e,hd]
   ·simp
 | rep p z=>
  intro h y;simp only [an];split
  ·rename_i hd;simp [T.Us];exact T.bI hd
  ·simp
def Lv.fh (x:Nat):Lv->Prop
 | nil=>False
 | thr k a b o r n=>((k= .s\/k= .m)/\(x=a\/x=b))\/(k= .r/\x=a)\/(x∉o/\¬(k= .r/\x=b)/\r.fh x)\/n.fh x
 | sum z n=>z.fh x\/n.fh x
 | part o q n=>(x∉o/\q.fh x)\/n.fh x
theorem zQ:∀(π:List Nat) (ls:List UInt8) (ρ ρ':Rh) (x:Nat),x∈π->π.length=ls.length->asg π ls ρ x=asg π ls ρ' x
 | [],_,_,_,_,h,_=>by cases h
 | _::_,[],_,_,_,_,h=>by cases h
 | y::π,c::ls,ρ,ρ',x,h,G=>by
  rw [asg,asg];by_cases z:x∈π
  ·exact zQ π ls _ _ x z (by simpa using G)
  ·have e:x=y:=(Ks.1 h).resolve_right z;subst e;exact pZ π ls _ _ x (by simp [aF])
theorem dU {own:List Nat}{f:Rh->Tk->List Tx}{H:Nat->Prop}(he:∀ρ ρ' tk,(f ρ tk).isEmpty=(f ρ' tk).isEmpty)(I:∀ρ ρ' tk,(∀x,H x->ρ x=ρ' x)->f ρ tk=f ρ' tk)
  {ρ ρ':Rh} {tk:Tk} (h:∀x,x∉own->H x->ρ x=ρ' x):aR own f ρ tk=aR own f ρ' tk:=by
 unfold aR;rw [he ρ ρ' tk];split
 ·rfl
 ·show wrap _ (bP _)=wrap _ (bP _)
  congr 2
  refine Lk λπ z=>?_
  have G:=(cZ own π).1 z;rw [I _ (asg π (lets own.length tk) ρ') _ λx J=>?_];by_cases hm:x∈own
  ·exact zQ π _ _ _ x (G.symm.subset hm) (by rw [fB,G.length_eq])
  ·exact pZ π _ _ _ x (h x hm J)
theorem ir (l:Lv)(ρ ρ':Rh)(tk:Tk):(thS l ρ tk).isEmpty=(thS l ρ' tk).isEmpty:=by
 rw [K6,Nk,Nk,<-List.length_eq_zero_iff,<-List.length_eq_zero_iff,bF,bF]
theorem r9:∀(l:Lv) (ρ ρ':Rh) (tk:Tk),(∀x,l.fh x->ρ x=ρ' x)->thS l ρ tk=thS l ρ' tk:=by
 intro l
 induction l with
 | nil=>intro _ _ _ _;rfl
 | thr k a b o r n H I=>
  intro ρ ρ' tk h;have V:thS n ρ tk=thS n ρ' tk:=I ρ ρ' tk λx G=>h x (.inr (.inr (.inr G)))
  cases k with
  | r=>
   have ha:=h a (.inr (.inl ⟨rfl,rfl⟩));simp only [thS,ha,V];rw [dU (ρ:=aF ρ b (iK tk)) (ρ':=aF ρ' b (iK tk)) (ir r) H λx G z=>?_];unfold aF;split
   ·rfl
   ·rename_i e;exact h x (.inr (.inr (.inl ⟨G,λJ=>e J.2,z⟩)))
  | s=>
   have ha:=h a (.inl ⟨.inl rfl,.inl rfl⟩);have hb:=h b (.inl ⟨.inl rfl,.inr rfl⟩);simp only [thS,ha,hb,V];rw [dU (ρ:=ρ) (ρ':=ρ') (ir r) H λx G z=>h x (.inr (.inr (.inl ⟨G,(λJ=>by cases J.1),z⟩)))]
  | m=>
   have ha:=h a (.inl ⟨.inr rfl,.inl rfl⟩);have hb:=h b (.inl ⟨.inr rfl,.inr rfl⟩);simp only [thS,ha,hb,V];rw [dU (ρ:=ρ) (ρ':=ρ') (ir r) H λx G z=>h x (.inr (.inr (.inl ⟨G,(λJ=>by cases J.1),z⟩)))]
  | t=>
   simp only [thS,kText,V];rw [dU (ρ:=ρ) (ρ':=ρ') (ir r) H λx G z=>h x (.inr (.inr (.inl ⟨G,(λJ=>by cases J.1),z⟩)))]
  | p=>
   simp only [thS,kText,V];rw [dU (ρ:=ρ) (ρ':=ρ') (ir r) H λx G z=>h x (.inr (.inr (.inl ⟨G,(λJ=>by cases J.1),z⟩)))]
 | sum ps n W I=>
  intro ρ ρ' tk h;simp only [thS,W ρ ρ' tk λx G=>h x (.inl G),I ρ ρ' tk λx G=>h x (.inr G)]
 | part o q n Z I=>
  intro ρ ρ' tk h;simp only [thS,I ρ ρ' tk λx G=>h x (.inr G)];rw [dU (ρ:=ρ) (ρ':=ρ') (ir q) Z λx G z=>h x (.inl ⟨G,z⟩)]
theorem wK (x:Nat):∀l m:Lv,(l.app m).fh x↔l.fh x\/m.fh x
 | .nil,m=>by simp [Lv.app,Lv.fh]
 | .thr k a b o r n,m=>by simp only [Lv.app,Lv.fh,wK x n m,MU]
 | .sum z n,m=>by simp only [Lv.app,Lv.fh,wK x n m,MU]
 | .part o q n,m=>by simp only [Lv.app,Lv.fh,wK x n m,MU]
theorem G3 (x:Nat):∀l:List U,(tl l).fh x↔∃t∈l,(tl [t]).fh x
 | []=>by simp [tl,Lv.fh]
 | u::l=>by
  have:tl (u::l)=(tl [u]).app (tl l):=gI [u] l;rw [this,wK,G3 x l];simp
theorem GW (x:Nat):∀l:List U,(tp l).fh x↔∃t∈l,x∉(td t).1/\(td t).2.fh x
 | []=>by simp [tp,Lv.fh]
 | u::l=>by simp [tp,Lv.fh,GW x l]
theorem ud:∀(u:U),∀t∈(ak u).2,t.dC/\t.dead=false:=by
 intro u
 induction u with
 | nil=>intro t h;simp [ak]at h
 | snd=>intro t h;simp [ak]at h;subst h;exact⟨trivial,rfl⟩
 | rcv=>intro t h;simp [ak]at h;subst h;exact⟨trivial,rfl⟩
 | tau=>intro t h;simp [ak]at h;subst h;exact⟨trivial,rfl⟩
 | sum p q z G=>
  intro t h;simp only [ak]at h;split at h
  ·exact G t h
  ·rename_i H;split at h
   ·exact z t h
   ·rename_i h2;simp at h;subst h;simp at H h2;exact⟨⟨H,h2⟩,by simp [T.dead,H]⟩
 | par p q z G=>
  intro t h;simp only [ak,Ke]at h;exact h.elim (z t) (G t)
 | res x p z=>intro t h;exact z t h
 | mat a b p z=>
  intro t h;simp only [ak]at h;split at h
  ·exact z t h
  ·rename_i H;split at h
   ·simp at h
   ·rename_i h2;simp at h;subst h;simp at h2;exact⟨H,h2⟩
 | rep p z=>
  intro t h;simp only [ak]at h;split at h
  ·simp at h
  ·rename_i h2;simp at h;subst h;simp at h2;exact⟨trivial,h2⟩
theorem Fc (u:U)(a b:Nat)(p:U)(h:T.mat a b p∈(ak u).2):a≠b/\p.dead=false:=ud u _ h
theorem C3:∀(n:Nat) (u:U),u.size<=n->Uq u->∀x,(td u).2.fh x->x∉(td u).1->u.Us x:=by
 intro n
 induction n with
 | zero=>intro u h;cases u<;>simp [T.size]at h
 | succ n I=>
  intro u hn hu x G hx;obtain⟨h1,h2,_⟩:=fX u hu;rw [h1,G3]at G;obtain⟨t,W,G⟩:=G;have hx:x∉(ak u).1:=λh=>hx (h2.symm.subset h)
  have hle:=zR u t W;have z:=Ez hu t W;have J:=vU u t W;have key:t.Us x:=by
   cases t with
   | nil=>cases J
   | par=>cases J
   | res=>cases J
   | snd a b p=>
    simp only [T.size]at hle;simp only [tl,Lv.fh,reduceCtorEq,false_and,true_or,Mc,Mq,NJ,M6]at G;rcases G with(h | h) | ⟨h,Z⟩
    ·exact .inl h
    ·exact .inr (.inl h)
    ·exact .inr (.inr (I p (by omega) z.snd x Z h))
   | rcv a b p=>
    simp only [T.size]at hle;simp only [tl,Lv.fh,reduceCtorEq,false_and,or_self,Mc,Mq,NJ]at G;rcases G with h | ⟨h,α,Z⟩
    ·exact .inl h
    ·exact .inr ⟨α,I p (by omega) z.rcv x Z h⟩
   | tau p=>
    simp only [T.size]at hle;simp only [tl,Lv.fh,reduceCtorEq,false_and,or_self,Mc,Mq,NJ,M6]at G;exact I p (by omega) z.tau x G.2 G.1
   | rep p=>
    simp only [T.size]at hle;simp only [tl,Lv.fh,reduceCtorEq,false_and,or_self,Mc,Mq,NJ,M6]at G;exact I p (by omega) z.rep x G.2 G.1
   | mat a b p=>
    simp only [T.size]at hle;obtain⟨V,hd⟩:a≠b/\p.dead=false:=Fc u a b p W;simp only [tl,Lv.fh,reduceCtorEq,false_and,or_true,Mc,Mq,NJ,M6]at G;rcases G with(h | h) | ⟨h,Z⟩
    ·exact .inr ⟨V,hd,.inl h⟩
    ·exact .inr ⟨V,hd,.inr (.inl h)⟩
    ·exact .inr ⟨V,hd,.inr (.inr (I p (by omega) z.mat x Z h))⟩
   | sum p q=>
    simp only [T.size]at hle;simp only [tl,Lv.fh,Mq]at G;rw [GW]at G;obtain⟨v,H,k1,k2⟩:=G;rcases Ke.1 H with H | H
    ·have :=mJ p v H;exact .inl ((lZ p z.ec x).2 ⟨v,H,I v (by omega) (xd z.ec v H) x k2 k1⟩)
    ·have :=mJ q v H;exact .inr ((lZ q z.dL x).2 ⟨v,H,I v (by omega) (xd z.dL v H) x k2 k1⟩)
  exact(kZ u hu t W x key).resolve_right hx
theorem IY {u:U}(hu:Uq u){ρ ρ':Rh}(tk:Tk)(h:∀y,u.Us y->ρ y=ρ' y):LS u ρ tk=LS u ρ' tk:=
 dU (ir _) (r9 _) λx z G=>h x (C3 _ u (Kb _) hu x G z)
theorem yr:∀(l m:List Nat),l.Nodup->l.length=m.length->∃f:Nat->Nat,m=l.map f
 | [],[],_,_=>⟨id,rfl⟩
 | [],_::_,_,h=>by cases h
 | _::_,[],_,h=>by cases h
 | x::l,y::m,G,h=>by
  have G:=K7.1 G;obtain⟨f,H⟩:=yr l m G.2 (by simpa using h);refine⟨aF f x y,?_⟩;rw [KE,H]
  congr 1
  ·simp [aF]
  ·exact Lk λz I=>by
    unfold aF;rw [Ko λe:z=x=>G.1 (e▸I)]
theorem AE.ze:∀{u I:U} {σ H:Nat->Nat},AE σ u H I->(BV u).length=(BV I).length:=by
 intro u
 induction u<;>intro I σ H h<;>cases I<;>simp only [AE]at h<;>simp only [BV,J0,J']
 case snd.snd z _ _ _=>exact z h.2.2
 case mat.mat z _ _ _=>exact z h.2.2
 case rcv.rcv z _ _ _=>rw [z (h.2 0)]
 case res.res z _ _=>rw [z (h 0)]
 case tau.tau z _=>exact z h
 case rep.rep z _=>exact z h
 case sum.sum z G _ _=>rw [z h.1,G h.2]
 case par.par z G _ _=>rw [z h.1,G h.2]
theorem AE.Hj {f:Nat->Nat}:∀{u u':U} {σ β:Nat->Nat},AE σ u β u'->Uq u'->(∀y,u.Fr y->u'.Fr (f y)/\β (f y)=σ y)->(∀y z,u'.Fr y->u'.Fr z->β y=β z->y=z)->BV u'=(BV u).map f->u'=u.map f:=by
 intro u
 induction u<;>intro u' σ β h hu V I hb<;>cases u'<;>simp only [AE]at h<;>simp only [T.map]
 case snd.snd a b p ih c d q=>
  have e1:c=f a:=I _ _ (.inl rfl) (V a (.inl rfl)).1 (by rw [(V a (.inl rfl)).2,h.1]);have e2:d=f b:=I _ _ (.inr (.inl rfl)) (V b (.inr (.inl rfl))).1 (by rw [(V b (.inr (.inl rfl))).2,h.2.1]);rw [<-e1,<-e2];rw [ih h.2.2 hu.snd (λy G=>?_) (λy z G hz=>I y z (.inr (.inr G)) (.inr (.inr hz))) hb];obtain⟨H,J,h2⟩:=h.2.2.free y G;have :=V y (.inr (.inr G));have e:H=f y:=I _ _ (.inr (.inr J)) this.1 (by rw [h2,this.2]);exact⟨e▸J,this.2⟩
 case mat.mat a b p ih c d q=>
  have e1:c=f a:=I _ _ (.inl rfl) (V a (.inl rfl)).1 (by rw [(V a (.inl rfl)).2,h.1]);have e2:d=f b:=I _ _ (.inr (.inl rfl)) (V b (.inr (.inl rfl))).1 (by rw [(V b (.inr (.inl rfl))).2,h.2.1]);rw [<-e1,<-e2];rw [ih h.2.2 hu.mat (λy G=>?_) (λy z G hz=>I y z (.inr (.inr G)) (.inr (.inr hz))) hb];obtain⟨H,J,h2⟩:=h.2.2.free y G;have :=V y (.inr (.inr G));have e:H=f y:=I _ _ (.inr (.inr J)) this.1 (by rw [h2,this.2]);exact⟨e▸J,this.2⟩
 case rcv.rcv a x p ih c z q=>
  simp only [BV,KE,KW]at hb;have e1:c=f a:=I _ _ (.inl rfl) (V a (.inl rfl)).1 (by rw [(V a (.inl rfl)).2,h.1]);rw [<-e1,<-hb.1];obtain⟨v,J,h2⟩:=cw p q σ β;have hz:¬(T.rcv c z q).Fr z:=hu.nf z (by simp [BV]);rw [ih (h.2 v) hu.rcv (λy G=>?_) (λy H G δ e=>?_) hb.2]
  ·obtain⟨H,k1,Z⟩:=(h.2 v).free y G;by_cases e:y=x
   ·subst e;rw [df]at Z;have:H=z:=K1 λγ=>by
     rw [bS _ _ γ]at Z;exact h2 H k1 Z
    subst this;rw [<-hb.1,df,df];exact⟨k1,rfl⟩
   ·have W:=V y (.inr ⟨e,G⟩);have γ:f y≠z:=λe'=>hz (e'▸W.1)
    rw [bS _ _ e]at Z|-;rw [bS _ _ γ];have α:H≠z:=λe'=>by
     rw [e',df]at Z;exact J y G Z.symm
    rw [bS _ _ α]at Z;have e2:H=f y:=I _ _ (.inr ⟨α,k1⟩) W.1 (by rw [Z,W.2]);exact⟨e2▸k1,W.2⟩
  ·by_cases g1:y=z<;>by_cases g2:H=z
   ·rw [g1,g2]
   ·rw [g1,df,bS _ _ g2]at e;exact absurd e.symm (h2 H δ)
   ·rw [g2,df,bS _ _ g1]at e;exact absurd e (h2 y G)
   ·rw [bS _ _ g1,bS _ _ g2]at e;exact I y H (.inr ⟨g1,G⟩) (.inr ⟨g2,δ⟩) e
 case res.res x p ih z q=>
  simp only [BV,KE,KW]at hb;rw [<-hb.1];obtain⟨v,J,h2⟩:=cw p q σ β;have hz:¬(T.res z q).Fr z:=hu.nf z (by simp [BV]);rw [ih (h v) hu.res (λy G=>?_) (λy H G δ e=>?_) hb.2]
  ·obtain⟨H,k1,Z⟩:=(h v).free y G;by_cases e:y=x
   ·subst e;rw [df]at Z;have:H=z:=K1 λγ=>by
     rw [bS _ _ γ]at Z;exact h2 H k1 Z
    subst this;rw [<-hb.1,df,df];exact⟨k1,rfl⟩
   ·have W:=V y ⟨e,G⟩;have γ:f y≠z:=λe'=>hz (e'▸W.1)
    rw [bS _ _ e]at Z|-;rw [bS _ _ γ];have α:H≠z:=λe'=>by
     rw [e',df]at Z;exact J y G Z.symm
    rw [bS _ _ α]at Z;have e2:H=f y:=I _ _ ⟨α,k1⟩ W.1 (by rw [Z,W.2]);exact⟨e2▸k1,W.2⟩
  ·by_cases g1:y=z<;>by_cases g2:H=z
   ·rw [g1,g2]
   ·rw [g1,df,bS _ _ g2]at e;exact absurd e.symm (h2 H δ)
   ·rw [g2,df,bS _ _ g1]at e;exact absurd e (h2 y G)
   ·rw [bS _ _ g1,bS _ _ g2]at e;exact I y H ⟨g1,G⟩ ⟨g2,δ⟩ e
 case tau.tau p ih q=>rw [ih h hu.tau V I hb]
 case rep.rep p ih q=>rw [ih h hu.rep V I hb]
 case sum.sum p p' ih ε q q'=>
  simp only [BV,K3]at hb;obtain⟨b1,b2⟩:=List.append_inj hb (by rw [Kz,h.1.ze]);rw [ih h.1 hu.ec (λy G=>?_) (λy z G hz=>I y z (.inl G) (.inl hz)) b1,ε h.2 hu.dL (λy G=>?_) (λy z G hz=>I y z (.inr G) (.inr hz)) b2]
  ·obtain⟨H,J,h2⟩:=h.2.free y G;have :=V y (.inr G);have e:H=f y:=I _ _ (.inr J) this.1 (by rw [h2,this.2]);exact⟨e▸J,this.2⟩
  ·obtain⟨H,J,h2⟩:=h.1.free y G;have :=V y (.inl G);have e:H=f y:=I _ _ (.inl J) this.1 (by rw [h2,this.2]);exact⟨e▸J,this.2⟩
 case par.par p p' ih ε q q'=>
  simp only [BV,K3]at hb;obtain⟨b1,b2⟩:=List.append_inj hb (by rw [Kz,h.1.ze]);rw [ih h.1 hu.fT (λy G=>?_) (λy z G hz=>I y z (.inl G) (.inl hz)) b1,ε h.2 hu.fM (λy G=>?_) (λy z G hz=>I y z (.inr G) (.inr hz)) b2]
  ·obtain⟨H,J,h2⟩:=h.2.free y G;have :=V y (.inr G);have e:H=f y:=I _ _ (.inr J) this.1 (by rw [h2,this.2]);exact⟨e▸J,this.2⟩
  ·obtain⟨H,J,h2⟩:=h.1.free y G;have :=V y (.inl G);have e:H=f y:=I _ _ (.inl J) this.1 (by rw [h2,this.2]);exact⟨e▸J,this.2⟩
theorem T.lv {D:Nat->Prop}:∀{u:U},(∀x,u.Fr x->D x)->(∀x∈BV u,D x)->u.Al D
 | .nil,_,_=>trivial
 | .snd a b p,h,k=>⟨h a (.inl rfl),h b (.inr (.inl rfl)),T.lv (λx z=>h x (.inr (.inr z))) k⟩
 | .mat a b p,h,k=>⟨h a (.inl rfl),h b (.inr (.inl rfl)),T.lv (λx z=>h x (.inr (.inr z))) k⟩
 | .rcv a y p,h,k=>⟨h a (.inl rfl),k y (by simp [BV]),T.lv (λx z=>by
   by_cases e:x=y
   ·subst e;exact k x (by simp [BV])
   ·exact h x (.inr ⟨e,z⟩)) λx z=>k x (by simp [BV,z])⟩
 | .res y p,h,k=>⟨k y (by simp [BV]),T.lv (λx z=>by
   by_cases e:x=y
   ·subst e;exact k x (by simp [BV])
   ·exact h x ⟨e,z⟩) λx z=>k x (by simp [BV,z])⟩
 | .tau p,h,k=>T.lv (u:=p) h k
 | .rep p,h,k=>T.lv (u:=p) h k
 | .sum p q,h,k=>⟨T.lv (λx z=>h x (.inl z)) λx z=>k x (KH _ z),T.lv (λx z=>h x (.inr z)) λx z=>k x (KB _ z)⟩
 | .par p q,h,k=>⟨T.lv (λx z=>h x (.inl z)) λx z=>k x (KH _ z),T.lv (λx z=>h x (.inr z)) λx z=>k x (KB _ z)⟩
theorem np {f:Nat->Nat}:∀{l:List Nat},(l.map f).Nodup->∀x∈l,∀y∈l,f x=f y->x=y
 | [],_,_,h,_,_,_=>by cases h
 | z::l,H,x,I,y,J,e=>by
  rw [KE,K7]at H;rcases Ks.1 I with G | G<;>rcases Ks.1 J with h2 | h2
  ·rw [G,h2]
  ·exact absurd (KQ.2 ⟨y,h2,by rw [<-e,G]⟩) H.1
  ·exact absurd (KQ.2 ⟨x,G,by rw [e,h2]⟩) H.1
  ·exact np H.2 x G y h2 e
theorem AE.H6 {u J:U}{σ I:Nat->Nat}(h:AE σ u I J)(hu:Uq u)(V:Uq J)(hi:∀y z,u.Fr y->u.Fr z->σ y=σ z->y=z)(α:∀y z,J.Fr y->J.Fr z->I y=I z->y=z):
  ∃(f:Nat->Nat) (D:Nat->Prop),J=u.map f/\u.Al D/\(∀x y,D x->D y->f x=f y->x=y)/\∀y,u.Fr y->J.Fr (f y)/\I (f y)=σ y:=by
 obtain⟨g,hg⟩:=yr (BV u) (BV J) hu.nd h.ze;have W:∀y,∃Z,u.Fr y->J.Fr Z/\I Z=σ y:=λy=>by
  by_cases H:u.Fr y
  ·obtain⟨Z,h1,h2⟩:=h.free y H;exact⟨Z,λ _=>⟨h1,h2⟩⟩
  ·exact⟨0,λk=>absurd k H⟩
 let f:Nat->Nat:=λy=>if u.Fr y then Classical.choose (W y)else g y
 have f1:∀y,u.Fr y->J.Fr (f y)/\I (f y)=σ y:=λy H=>by
  have:f y=Classical.choose (W y):=KG H;rw [this];exact Classical.choose_spec (W y) H
 have f2:BV J=(BV u).map f:=by
  rw [hg];exact Lk λx G=>(Ko (hu.nf x G)).symm
 refine⟨f,λx=>u.Fr x\/x∈BV u,h.Hj V f1 α f2,T.lv (λx G=> .inl G) (λx G=> .inr G),?_,f1⟩;intro x y G H e;have hb:∀x∈BV u,f x∈BV J:=λx G=>by rw [f2];exact LG G
 rcases G with G | G<;>rcases H with H | H
 ·exact hi x y G H (by rw [<-(f1 x G).2,<-(f1 y H).2,e])
 ·exact absurd (e▸(f1 x G).1) (V.nf _ (hb y H))
 ·exact absurd (e▸(f1 y H).1) (λk=>V.nf _ (hb x G) (by rw [e];exact(f1 y H).1))
 ·exact np (f2▸V.nd) x G y H e
theorem G9 {u G:U}{σ H:Nat->Nat}(h:AE σ u H G)(hu:Uq u)(I:Uq G)(hi:∀y z,u.Fr y->u.Fr z->σ y=σ z->y=z)(J:∀y z,G.Fr y->G.Fr z->H y=H z->y=z)
  {ρ ρ':Rh} (V:∀y W,u.Us y->G.Fr W->σ y=H W->ρ y=ρ' W) (tk:Tk):LS u ρ tk=LS G ρ' tk/\dt u=dt G/\cO u=cO G/\bj u=bj G:=by
 obtain⟨f,D,rfl,h1,h2,h3⟩:=h.H6 hu I hi J;obtain⟨k1,k2,k3⟩:=CB h2 h1;refine⟨?_,k1.symm,k2.symm,k3.symm⟩;rw [Hx h2 h1];exact IY hu tk λy Z=>V y (f y) Z (h3 y (T.bG Z)).1 (h3 y (T.bG Z)).2.symm
namespace T
section
variable {A B:Type}
def tg:T A->Nat
 | nil=>0 | snd .. =>1 | rcv .. =>2 | tau .. =>3 | sum .. =>4 | par .. =>5 | res .. =>6 | mat .. =>7 | rep .. =>8
def gp:T A->Bool
 | nil=>true | snd .. =>true | rcv .. =>true | tau .. =>true | sum .. =>true
 | par .. =>false | res .. =>false | mat .. =>false | rep .. =>false
def isR:T A->Bool
 | rcv .. =>true
 | _=>false
def smp:T A->Bool
 | nil=>true | snd _ _ p=>p.smp | rcv _ _ p=>p.smp | tau p=>p.smp | sum p q=>(p.gp&&q.gp)&&(p.smp&&q.smp) | par p q=>p.smp&&q.smp
 | res _ p=>p.smp | mat _ _ p=>p.smp | rep p=>p.isR&&p.smp
theorem xG {t:T A}:t.gp=decide (t.tg< 5):=by cases t<;>rfl
theorem Dz {t:T A}:t.isS=decide (t.tg=4):=by cases t<;>rfl
theorem wP {t:T A}:t.isR=decide (t.tg=2):=by cases t<;>rfl
theorem Dv [DecidableEq A][DecidableEq B]{p:T A}{q:T B}{ρ:A->Nat}{σ:B->Nat}(h:AE ρ p σ q):p.tg=q.tg:=by
 cases p<;>cases q<;>first | exact h.elim | rfl
theorem sW [DecidableEq A][DecidableEq B]{p:T A}{q:T B}{ρ:A->Nat}{σ:B->Nat}(h:AE ρ p σ q):p.smp=q.smp:=by
 induction p generalizing q ρ σ<;>cases q<;>simp only [AE]at h<;>simp only [smp]
 case snd.snd z _ _ _=>exact z h.2.2
 case mat.mat z _ _ _=>exact z h.2.2
 case rcv.rcv z _ _ _=>exact z (h.2 0)
 case res.res z _ _=>exact z (h 0)
 case tau.tau z _=>exact z h
 case rep.rep z _=>rw [z h,wP,wP,Dv h]
 case sum.sum z G _ _=>rw [z h.1,G h.2,xG,xG,xG,xG,Dv h.1,Dv h.2]
 case par.par z G _ _=>rw [z h.1,G h.2]
end
end T
structure Jz (t w:U):Prop where
 th:w.th=true
 nr:w.Nr
 uq:Uq w
 bv:∀x∈BV w,x∈BV t
 us:∀x,w.Us x↔t.Us x
 tx:∀ρ tk,thU w ρ tk=thU t ρ tk
 bad:∀tk,thBad (tl [w]) tk=thBad (tl [t]) tk
 all:thAll (tl [w])=thAll (tl [t])
 most:aw (tl [w])=aw (tl [t])
 smp:t.smp=true->w.smp=true
 tg:w.tg=t.tg
structure JF (u v:U):Prop where
 nr:v.Nr
 uq:Uq v
 bv:∀x∈BV v,x∈BV u
 us:∀x,v.Us x↔u.Us x
 ls:∀ρ tk,LS v ρ tk=LS u ρ tk
 bad:∀tk,dt v tk=dt u tk
 all:cO v=cO u
 most:bj v=bj u
 dead:v.dead=u.dead
 smp:u.smp=true->v.smp=true
 tg:∀t,ak u=([],[t])->v.tg=t.tg
 isS:(∀p q,ak u≠([],[T.sum p q]))->v.isS=false
theorem qH {t w:U}(z:(BV w).Nodup)(nr:w.Nr)(hb:∀x∈BV w,x∈BV t)(hu:∀x,w.Us x->t.Us x)(G:Uq t):Uq w:=
 ⟨z,λx H I=>G.nf x (hb x H) (T.bG (hu x (nr.il I)))⟩
theorem AE.GU {p:P}{q:U}{ρ:Rh}{y:Nat}{c:UInt8}(hc:∀z,q.Fr z->z≠y->ρ z≠c)(h:AE UInt8.toNat p (λz=>(aF ρ y c z).toNat) q)(v:Nat):AE (aF UInt8.toNat c v) p (aF (λz=>(ρ z).toNat) y v) q:=by
 refine(h.map λn=>if n=c.toNat then v else n).congr (λx _=>?_) λz G=>?_
 ·unfold aF;by_cases e:x=c
  ·subst e;simp
  ·rw [Ko e,Ko λh=>e (Ky.1 h)]
 ·unfold aF;by_cases e:z=y
  ·subst e;simp
  ·simp only [Ko e];rw [Ko λh=>hc z G e (Ky.1 h)]
theorem bV:∀(π:List Nat) (ls:List UInt8) (ρ:Rh) (x:Nat),x∉π->asg π ls ρ x=ρ x
 | [],_,_,_,_=>by simp [asg]
 | _::_,[],_,_,_=>by simp [asg]
 | y::π,c::ls,ρ,x,h=>by
  simp only [Ks,NI]at h;rw [asg,bV π ls _ x h.2];unfold aF;rw [Ko h.1]
theorem ft:∀(π:List Nat) (ls:List UInt8) (ρ:Rh) (x:Nat),x∈π->π.length=ls.length->asg π ls ρ x∈ls
 | [],_,_,_,h,_=>by cases h
 | _::_,[],_,_,_,h=>by cases h
 | y::π,c::ls,ρ,x,h,G=>by
  rw [asg];by_cases z:x∈π
  ·exact Ki _ (ft π ls _ x z (by simpa using G))
  ·have e:x=y:=(Ks.1 h).resolve_right z;subst e;rw [bV π ls _ x z];simp [aF]
theorem wF:∀(π:List Nat) (ls:List UInt8) (ρ:Rh) (x z:Nat),x∈π->z∈π->π.length=ls.length->ls.Nodup->asg π ls ρ x=asg π ls ρ z->x=z
 | [],_,_,_,_,h,_,_,_,_=>by cases h
 | _::_,[],_,_,_,_,_,h,_,_=>by cases h
 | y::π,c::ls,ρ,x,z,W,Z,I,G,e=>by
  have G:=K7.1 G;have J:π.length=ls.length:=by simpa using I
  rw [asg]at e;by_cases H:x∈π<;>by_cases h2:z∈π
  ·exact wF π ls _ x z H h2 J G.2 e
  ·have V:z=y:=(Ks.1 Z).resolve_right h2;subst V;rw [bV π ls _ z h2]at e;have :=ft π ls (aF ρ z c) x H (by simpa using I);rw [e]at this;exact absurd (by simpa [aF]using this) G.1
  ·have V:x=y:=(Ks.1 W).resolve_right H;subst V;rw [bV π ls _ x H]at e;have :=ft π ls (aF ρ x c) z h2 (by simpa using I);rw [<-e]at this;exact absurd (by simpa [aF]using this) G.1
  ·rw [(Ks.1 W).resolve_right H,(Ks.1 Z).resolve_right h2]
theorem AE.Dm {p:P}{q:U}:∀(π:List Nat) (ls:List UInt8) (ρ:Rh),π.length=ls.length->ls.Nodup->(∀z,q.Fr z->z∉π->ρ z∉ls)->AE UInt8.toNat p (λz=>(asg π ls ρ z).toNat) q->
  AE UInt8.toNat (T.resL ls p) (λz=>(ρ z).toNat) (T.resL π q)
 | [],[],_,_,_,_,h=>h
 | [],_::_,_,h,_,_,_=>by cases h
 | _::_,[],_,h,_,_,_=>by cases h
 | y::π,c::ls,ρ,J,H,hc,h=>by
  have H:=K7.1 H;have V:=AE.Dm π ls (aF ρ y c) (by simpa using J) H.2 (λz G hm=>by
   unfold aF;split
   ·exact H.1
   ·rename_i e;exact λI=>hc z G (by simp [e,hm]) (Ki _ I)) h
  intro v;refine AE.GU (λz G e=>?_) V v;have G:=T.fg.1 G;exact λI=>hc z G.2 (by simp [e,G.1]) (by rw [I];exact KR ..)
theorem zK (a b:UInt8)(r:Tx):kText .m a b r=kText .m b a r:=by
 unfold kText;by_cases z:b< a
 ·have h2:¬a< b:=λh=>by
   rw [KI]at h z;omega
  simp [z,h2]
 ·by_cases h2:a< b
  ·simp [z,h2]
  ·have:a=b:=by
    apply Ky.1;rw [KI]at z h2;omega
   subst this;rfl
theorem yW {α:Type}{f:α->Bool}{l m:List α}(h:l.Perm m):l.any f=m.any f:=by
 rw [K6,Ma,Ma];exact⟨fun⟨x,z,h2⟩=>⟨x,h.subset z,h2⟩,fun⟨x,z,h2⟩=>⟨x,h.symm.subset z,h2⟩⟩
theorem jt {l m:List Nat}(h:l.Perm m):l.sum=m.sum:=by
 induction h with
 | nil=>rfl
 | cons x _ z=>simp [z]
 | swap x y l=>simp;omega
 | trans _ _ G h2=>exact G.trans h2
theorem triples {α β γ:Type}{R:α->β->γ->Prop}:∀{l:List α},(∀a∈l,∃b c,R a b c)->∃zs:List (α×β×γ),zs.map (·.1)=l/\∀z∈zs,R z.1 z.2.1 z.2.2
 | [],_=>⟨[],rfl,λz h=>by cases h⟩
 | a::l,h=>by
  obtain⟨b,c,hr⟩:=h a (KR ..);obtain⟨zs,H,h2⟩:=triples (l:=l) λa ha=>h a (Ki _ ha)
  refine⟨(a,b,c)::zs,by simp [H],λz G=>?_⟩;rcases Ks.1 G with rfl | G
  ·exact hr
  ·exact h2 z G
theorem vf {α:Type}(zs:List α)(g:α->Tx):∃z:List α,z.Perm zs/\z.map g=a7 (zs.map g):=by
 refine⟨zs.mergeSort λa b=>jD (g a) (g b),List.mergeSort_perm _ _,?_⟩
 symm
 refine tj ?_ ((List.mergeSort_perm _ _).map g);have :=List.pairwise_mergeSort (le:=λa b:α=>jD (g a) (g b)) (λa b c=>gB _ _ _) (λa b=>pG _ _) zs;exact List.pairwise_map.2 this
theorem gw (p:U):∀l:List Nat,BV (T.resL l p)=l++BV p
 | []=>rfl
 | x::l=>by simp only [T.resL,BV,gw p l,K4]
theorem gm:∀l:List U,BV (T.parL l)=l.flatMap BV
 | []=>rfl
 | [t]=>by simp [T.parL]
 | t::u::l=>by simp only [T.parL,BV,gm (u::l),Ly]
theorem wU:∀l:List U,BV (T.dD l)=l.flatMap BV
 | []=>rfl
 | [t]=>by simp [T.dD]
 | t::u::l=>by simp only [T.dD,BV,wU (u::l),Ly]
theorem pW {α:Type}{f g:α->List Nat}:∀{l:List α},(l.flatMap f).Nodup->(∀z∈l,(g z).Nodup/\∀x∈g z,x∈f z)->(l.flatMap g).Nodup
 | [],_,_=>LB
 | z::l,G,h=>by
  rw [Ly]at G|-;have G:=KL.1 G;refine KL.2 ⟨(h z (KR ..)).1,pW G.2.1 λy H=>h y (Ki _ H),λa ha b hb=>?_⟩;obtain⟨y,H,I⟩:=KU.1 hb;exact G.2.2 a ((h z (KR ..)).2 a ha) b (KU.2 ⟨y,H,(h y (Ki _ H)).2 b I⟩)
theorem Eo:∀u:U,Uq u->((an u).flatMap BV).Nodup:=by
 intro u;have sub:∀u:U,∀x∈(an u).flatMap BV,x∈BV u:=λu x H=>by
  obtain⟨t,I,h2⟩:=KU.1 H;exact xF u t I x h2
 induction u with
 | nil=>intro _;simp [an]
 | snd a b p z=>intro h;simpa [an]using h.nd
 | rcv a b p z=>intro h;simpa [an]using h.nd
 | tau p z=>intro h;simpa [an]using h.nd
 | sum p q z G=>
  intro h;simp only [an,Lf];exact KL.2 ⟨z h.ec,G h.dL,λa ha b hb=>(KL.1 h.nd).2.2 a (sub p a ha) b (sub q b hb)⟩
 | par p q z G=>
  intro h;simp only [an];split
  ·exact G h.fM
  ·split
   ·exact z h.fT
   ·simpa using h.nd
 | res x p z=>
  intro h;simp only [an];split
  ·simpa using h.nd
  ·exact z h.res
 | mat a b p z=>
  intro h;simp only [an];split
  ·exact z h.mat
  ·split
   ·simp
   ·simpa using h.nd
 | rep p z=>
  intro h;simp only [an];split
  ·simp
  ·simpa using h.nd
theorem Ft:∀u:U,Uq u->((ak u).1++(ak u).2.flatMap BV).Nodup:=by
 intro u;have sub:∀u:U,∀x∈(ak u).1++(ak u).2.flatMap BV,x∈BV u:=λu x G=>by
  rcases Ke.1 G with G | G
  ·exact iP u x G
  ·obtain⟨t,I,h2⟩:=KU.1 G;exact AW u t I x h2
 induction u with
 | nil=>intro _;simp [ak]
 | snd a b p z=>intro h;simpa [ak]using h.nd
 | rcv a b p z=>intro h;simpa [ak]using h.nd
 | tau p z=>intro h;simpa [ak]using h.nd
 | sum p q z H=>
  intro h;simp only [ak];split
  ·exact H h.dL
  ·split
   ·exact z h.ec
   ·simpa using h.nd
 | par p q z H=>
  intro h;have J:(((ak p).1++(ak q).1)++((ak p).2++(ak q).2).flatMap BV).Perm (((ak p).1++(ak p).2.flatMap BV)++((ak q).1++(ak q).2.flatMap BV)):=by
   rw [Lf];exact sN _ _ _ _
  simp only [ak];rw [J.nodup_iff];exact KL.2 ⟨z h.fT,H h.fM,λa ha b hb=>(KL.1 h.nd).2.2 a (sub p a ha) b (sub q b hb)⟩
 | res x p z=>
  intro h;simp only [ak];split
  ·exact K7.2 ⟨λG=>h.fZ (sub p x G),z h.res⟩
  ·exact z h.res
 | mat a b p z=>
  intro h;simp only [ak];split
  ·exact z h.mat
  ·split
   ·simp
   ·simpa using h.nd
 | rep p z=>
  intro h;simp only [ak];split
  ·simp
  ·simpa using h.nd
theorem wi {u:U}(h:u.dead=false)(hu:Uq u):(ak u).2≠[]:=λe=>by
 have z:=(fX u hu).1;rw [e]at z;have :=(lK u).1 h;rw [z]at this;exact this rfl
theorem FB {u:U}(hu:Uq u)(h:(ak u).2=[]):u.dead=true:=by
 cases hd:u.dead with
 | true=>rfl
 | false=>exact absurd h (wi hd hu)
theorem oV {u:U}(h:u.dead=false)(hu:Uq u):an u≠[]:=λe=>by
 have z:=(fX u hu).2.2;rw [e]at z;have :=(bN u).2.1;rw [z]at this;rw [this.1 rfl]at h;cases h
theorem B5:∀u:U,Uq u->∀t∈an u,∀p q,ak t≠([],[T.sum p q]):=by
 intro u
 induction u with
 | nil=>intro _ t h;simp [an]at h
 | snd=>intro _ t h;simp [an]at h;subst h;intro p q e;simp [ak]at e
 | rcv=>intro _ t h;simp [an]at h;subst h;intro p q e;simp [ak]at e
 | tau=>intro _ t h;simp [an]at h;subst h;intro p q e;simp [ak]at e
 | sum p q z G=>
  intro hu t h;simp only [an,Ke]at h;exact h.elim (z hu.ec t) (G hu.dL t)
 | par p q z G=>
  intro hu t h;simp only [an]at h;split at h
  ·exact G hu.fM t h
  ·rename_i H;split at h
   ·exact z hu.fT t h
   ·rename_i h2;simp at h;subst h;intro J V e;have I:=Lb Prod.snd e;simp only [ak]at I;have W:(ak p).2.length≠0:=λe=>wi (by simpa using H) hu.fT (KD e)
    have l2:(ak q).2.length≠0:=λe=>wi (by simpa using h2) hu.fM (KD e)
    have :=Lb List.length I;simp only [J',J0,Kh]at this;omega
 | res x p z=>
  intro hu t h;simp only [an]at h;split at h
  ·rename_i H;simp at h;subst h;intro J V e;have I:=Lb Prod.fst e;simp [ak,H]at I
  ·exact z hu.res t h
 | mat a b p z=>
  intro hu t h;simp only [an]at h;split at h
  ·exact z hu.mat t h
  ·rename_i H;split at h
   ·simp at h
   ·rename_i h2;simp at h;subst h;intro J V e;simp [ak,H,h2]at e
 | rep p z=>
  intro hu t h;simp only [an]at h;split at h
  ·simp at h
  ·rename_i h2;simp at h;subst h;intro J V e;simp [ak,h2]at e
theorem B2:∀(u:U),∀t∈an u,t.dead=false:=by
 intro u
 induction u with
 | nil=>intro t h;simp [an]at h
 | snd=>intro t h;simp [an]at h;subst h;rfl
 | rcv=>intro t h;simp [an]at h;subst h;rfl
 | tau=>intro t h;simp [an]at h;subst h;rfl
 | sum p q z G=>intro t h;simp only [an,Ke]at h;exact h.elim (z t) (G t)
 | par p q z G=>
  intro t h;simp only [an]at h;split at h
  ·exact G t h
  ·rename_i H;split at h
   ·exact z t h
   ·simp at h;subst h;simp at H;simp [T.dead,H]
 | res x p z=>
  intro t h;simp only [an]at h;split at h
  ·rename_i H;simp at h;subst h;cases hd:p.dead with
   | false=>exact hd
   | true=>rw [mM hd]at H;cases H
  ·exact z t h
 | mat a b p z=>
  intro t h;simp only [an]at h;split at h
  ·exact z t h
  ·split at h
   ·simp at h
   ·rename_i h2;simp at h;subst h;simp at h2;exact h2
 | rep p z=>
  intro t h;simp only [an]at h;split at h
  ·simp at h
  ·rename_i h2;simp at h;subst h;simp at h2;exact h2
theorem wB:∀u:U,u.gp=true->u.smp=true->∀t∈an u,(t.tg=1\/t.tg=2\/t.tg=3)/\ak t=([],[t])
 | .nil,_,_,t,h=>by simp [an]at h
 | .snd ..,_,_,t,h=>by simp [an]at h;subst h;exact⟨.inl rfl,rfl⟩
 | .rcv ..,_,_,t,h=>by simp [an]at h;subst h;exact⟨.inr (.inl rfl),rfl⟩
 | .tau ..,_,_,t,h=>by simp [an]at h;subst h;exact⟨.inr (.inr rfl),rfl⟩
 | .sum p q,_,z,t,h=>by
  simp only [T.smp,J3]at z;simp only [an,Ke]at h;exact h.elim (wB p z.1.1 z.2.1 t) (wB q z.1.2 z.2.2 t)
 | .par ..,h,_,_,_=>by cases h
 | .res ..,h,_,_,_=>by cases h
 | .mat ..,h,_,_,_=>by cases h
 | .rep ..,h,_,_,_=>by cases h
theorem sM {l:List U}(h:∀t∈l,t.smp=true):(T.parL l).smp=true:=by
 induction l with
 | nil=>rfl
 | cons t l z=>
  cases l with
  | nil=>exact h t (by simp)
  | cons u l=>
   simp only [T.parL,T.smp,J3];exact⟨h t (by simp),z λt G=>h t (Ki _ G)⟩
theorem rX {p:U}(l:List Nat):(T.resL l p).smp=p.smp:=by
 induction l with
 | nil=>rfl
 | cons x l z=>exact z
theorem C6 {l:List U}(G:l≠[])(h:∀t∈l,t.smp=true/\t.gp=true):(T.dD l).smp=true/\(T.dD l).gp=true:=by
 induction l with
 | nil=>exact absurd rfl G
 | cons t l H=>
  cases l with
  | nil=>exact h t (by simp)
  | cons u l=>
   obtain⟨I,h2⟩:=H (by simp) λt z=>h t (Ki _ z)
   have z:=h t (by simp);simp only [T.dD,T.smp,J3];exact⟨⟨⟨z.2,h2⟩,z.1,I⟩,rfl⟩
theorem DP (u:U)(h:u.smp=true):∀t∈an u,t.smp=true:=
 rG (λt=>t.smp=true) (λp q h=>by simp only [T.smp,J3]at h;exact h.2) (λp q h=>by simpa only [T.smp,J3]using h) (λ _ _ h=>h) (λ _ _ _ h=>h) u h
theorem Fp (u:U)(h:u.smp=true):∀t∈(ak u).2,t.smp=true:=
 wS (λt=>t.smp=true) (λp q h=>by simp only [T.smp,J3]at h;exact h.2) (λp q h=>by simpa only [T.smp,J3]using h) (λ _ _ h=>h) (λ _ _ _ h=>h) u h
theorem AE.dD {ρ:UInt8->Nat}{σ:Nat->Nat}:∀{l:List (U×P×U)},(∀z∈l,AE ρ z.2.1 σ z.2.2)->AE ρ (T.dD (l.map (·.2.1))) σ (T.dD (l.map (·.2.2)))
 | [],_=>trivial
 | [z],h=>h z (by simp)
 | z::y::l,h=>⟨h z (by simp),AE.dD (l:=y::l) λt G=>h t (Ki _ G)⟩
theorem AE.parL {ρ:UInt8->Nat}{σ:Nat->Nat}:∀{l:List (U×P×U)},(∀z∈l,AE ρ z.2.1 σ z.2.2)->AE ρ (T.parL (l.map (·.2.1))) σ (T.parL (l.map (·.2.2)))
 | [],_=>trivial
 | [z],h=>h z (by simp)
 | z::y::l,h=>⟨h z (by simp),AE.parL (l:=y::l) λt G=>h t (Ki _ G)⟩
theorem AL {D:UInt8->Prop}:∀{l:List P},(∀t∈l,t.Al D)->(T.dD l).Al D
 | [],_=>trivial
 | [z],h=>h z (by simp)
 | z::y::l,h=>⟨h z (by simp),AL (l:=y::l) λt G=>h t (Ki _ G)⟩
theorem An {D:UInt8->Prop}:∀{l:List P},(∀t∈l,t.Al D)->(T.parL l).Al D
 | [],_=>trivial
 | [z],h=>h z (by simp)
 | z::y::l,h=>⟨h z (by simp),An (l:=y::l) λt G=>h t (Ki _ G)⟩
theorem Bo {D:UInt8->Prop}{p:P}(z:p.Al D):∀{l:List UInt8},(∀c∈l,D c)->(T.resL l p).Al D
 | [],_=>z
 | c::l,h=>⟨h c (by simp),Bo z (l:=l) λt G=>h t (Ki _ G)⟩
theorem fv {w:U}(h:w.isS=true)(ρ:Rh)(tk:Tk):thU w ρ tk=joinS 43 (a7 ((an w).map λu=>LS u ρ tk))/\tl [w]= .sum (tp (an w)) .nil:=by
 cases w<;>first | (cases h;done) | exact⟨rfl,rfl⟩
theorem AU {a b:Nat}(h:∀n,a<=n↔b<=n):a=b:=by
 have z:=(h a).1 (Kb _);have h2:=(h b).2 (Kb _);omega
end Go.Proofs.YtdecokaadekjnaaGreat
namespace Go.Proofs.YtdecokaadekjnaaGreat
open Go Go.RowKit
theorem xa.sub {k m:Nat}{Θ:Tx}{σ:Nat->Nat}{u v:U}(h:xa k Θ σ u)(z:k<=m)(G:∀y,v.Us y->u.Us y):xa m Θ σ v:=
 ⟨h.srt,λc hc=>⟨(h.okn c hc).1.mono z,(h.okn c hc).2⟩,λy H=>h.cov y (G y H)⟩
theorem Compat.sub {ρ:Rh}{σ:Nat->Nat}{u v:U}(h:Compat ρ σ u)(z:∀y,v.Us y->u.Us y):Compat ρ σ v:=λy G=>h y (z y G)
theorem ky {c:UInt8}(h:nm c=true):¬c=35:=(te h).2.2.2.1
theorem bz {c:UInt8}(h:¬c=35)(l:Tx):(c::l).count 35=l.count 35:=by
 rw [List.count_cons];simp [h]
theorem TR.snd {on:Bool}{a b:Nat}{p:U}{σ:Nat->Nat}{Θ r:Tx}{x y:UInt8}(H:nm x=true)(z:nm y=true)(ex:x.toNat=σ a)(I:y.toNat=σ b)(h:WR on p σ Θ r):TR on (.snd a b p) σ Θ (x::33::y::46::r):=by
 refine⟨by simp,?_,λhm=>?_,λhm G hb=>?_,λhm G hb ρ hc=>?_⟩
 ·have :=h.len;simp only [J0,T.aH];omega
 ·rw [e8]at hm;rw [bz (ky H),bz (by decide),bz (ky z),bz (by decide),h.cnt hm,pO]
 ·rw [e8]at hm;rw [jC]at hb;obtain⟨c,J,h2⟩:=h.bad hm G hb;exact⟨c,by simp [J],h2⟩
 ·rw [e8]at hm;rw [jC]at hb;have V:ρ a=x:=Ky.1 ((hc a (.inl rfl)).trans ex.symm);have W:ρ b=y:=Ky.1 ((hc b (.inr (.inl rfl))).trans I.symm);simp only [thU,kText,V,W];rw [h.eq hm G hb ρ (hc.sub λy z=> .inr (.inr z))]
theorem TR.tau {on:Bool}{p:U}{σ:Nat->Nat}{Θ r:Tx}(h:WR on p σ Θ r):TR on (.tau p) σ Θ (126::46::r):=by
 refine⟨by simp,?_,λhm=>?_,λhm z hb=>?_,λhm z hb ρ hc=>?_⟩
 ·have :=h.len;simp only [J0,T.aH];omega
 ·rw [eR]at hm;rw [bz (by decide),bz (by decide),h.cnt hm,qd]
 ·rw [eR]at hm;rw [iV]at hb;obtain⟨c,G,h2⟩:=h.bad hm z hb;exact⟨c,by simp [G],h2⟩
 ·rw [eR]at hm;rw [iV]at hb;simp only [thU,kText];rw [h.eq hm z hb ρ hc]
theorem TR.rep {on:Bool}{p:U}{σ:Nat->Nat}{Θ r:Tx}(h:WR on p σ Θ r):TR on (.rep p) σ Θ (42::r):=by
 refine⟨by simp,?_,λhm=>?_,λhm z hb=>?_,λhm z hb ρ hc=>?_⟩
 ·have :=h.len;simp only [J0,T.aH];omega
 ·rw [eP]at hm;rw [bz (by decide),h.cnt hm,qb]
 ·rw [eP]at hm;rw [jf]at hb;obtain⟨c,G,h2⟩:=h.bad hm z hb;exact⟨c,by simp [G],h2⟩
 ·rw [eP]at hm;rw [jf]at hb;simp only [thU,kText];rw [h.eq hm z hb ρ hc]
theorem TR.mat {on:Bool}{a b:Nat}{p:U}{σ:Nat->Nat}{Θ r:Tx}{x y:UInt8}(z:a≠b)(hd:p.dead=false)(hx:nm x=true)(J:nm y=true)(ex:x.toNat=σ a)(V:y.toNat=σ b)(h:WR on p σ Θ r):
  TR on (.mat a b p) σ Θ (91::(if y< x then y else x)::61::(if y< x then x else y)::93::r):=by
 have G:¬(if y< x then y else x)=35:=by split<;>exact ky (by assumption)
 have H:¬(if y< x then x else y)=35:=by split<;>exact ky (by assumption)
 refine⟨by simp,?_,λhm=>?_,λhm I hb=>?_,λhm I hb ρ hc=>?_⟩
 ·have :=h.len;simp only [J0,T.aH];omega
 ·rw [dk]at hm;rw [bz (by decide),bz G,bz (by decide),bz H,bz (by decide),h.cnt hm,jy]
 ·rw [dk]at hm;rw [eV]at hb;obtain⟨c,W,h2⟩:=h.bad hm I hb;exact⟨c,by simp [W],h2⟩
 ·rw [dk]at hm;rw [eV]at hb;have Z:ρ a=x:=Ky.1 ((hc a (.inr ⟨z,hd,.inl rfl⟩)).trans ex.symm);have e2:ρ b=y:=Ky.1 ((hc b (.inr ⟨z,hd,.inr (.inl rfl)⟩)).trans V.symm);simp only [thU,kText,Z,e2];rw [h.eq hm I hb ρ (hc.sub λy J=> .inr ⟨z,hd,.inr (.inr J)⟩)]
structure xY (k:Nat)(Θ:Tx)(c:UInt8):Prop where
 nin:c∉Θ
 okn:okn (k+1) c
 ngr:ngr c
 nm:nm c=true
 bad:(uj (cR Θ)).isNone=true->128<=c
 good:(uj (cR Θ)).isNone=false->c=iK (cR Θ)
theorem Ea {c:UInt8}(h:lt c=true):nm c=true/\ngr c/\∀k,okn k c:=by
 refine⟨?_,?_,λk=>nJ h⟩
 ·simp only [lt,nm]at*;rw [h];rfl
 ·simp only [lt,J3,J4]at h;have H:=Kl.1 h.1;have h2:=Kl.1 h.2;have G:(97:UInt8).toNat=97:=rfl;have z:(122:UInt8).toNat=122:=rfl;right;omega
theorem xY.of {k:Nat}{Θ:Tx}{c:UInt8}(hk:k+1<=64)(V:∀c∈Θ,Proofs.YtdecokaadekjnaaGreat.okn k c/\Proofs.YtdecokaadekjnaaGreat.ngr c)(h:sD Θ c):xY k Θ c:=by
 rcases h with h | ⟨h,J,h2,h3,h4⟩
 ·obtain⟨k1,k2,k3⟩:=xy h;obtain⟨f1,f2,f3⟩:=Ea k2;have I:uj (cR Θ)=some c:=h;exact⟨by simpa [cR]using k1,f3 _,f2,f1,λG=>(by rw [I]at G;cases G),λ _=>(by simp [iK,I])⟩
 ·have I:uj (cR Θ)=none:=h;have b1:=Kl.1 J;have b2:=Kl.1 h2;have W:(128:UInt8).toNat=128:=rfl;have Z:(191:UInt8).toNat=191:=rfl;have hle:c.toNat<=128+k:=by
   refine K1 λhc=>?_
   have e:(UInt8.ofNat (128+k)).toNat=128+k:=by rw [K2];omega
   have z:=h3 (UInt8.ofNat (128+k)) (Kl.2 (by omega)) (KI.2 (by omega));rcases(V _ z).1 with h | h<;>omega
  have H:c∉Θ:=by
   rcases h4 with h4 | h4
   ·exact h4
   ·intro z;have:c.toNat=191:=by rw [h4];rfl
    rcases(V _ z).1 with h | h<;>omega
  refine⟨H,.inl (by omega),.inr (by omega),?_,λ _=>J,λG=>by rw [I]at G;cases G⟩;simp only [Proofs.YtdecokaadekjnaaGreat.nm,Lm,J4];exact .inr J
theorem r8 {Θ z:Tx}{c:UInt8}(h:∀x,x∈z↔x=c\/x∈Θ):cR z=cA (cR Θ) c:=by
 funext d
 unfold cR cA;rw [K6];simp only [J4,Lm,NG,h];exact or_comm
theorem TR.rcv {on:Bool}{k a n:Nat}{p:U}{σ:Nat->Nat}{Θ z r:Tx}{x c:UInt8}(Z:nm x=true)(ex:x.toNat=σ a)(hc:xY k Θ c)(I:∀x,x∈z↔x=c\/x∈Θ)(h:WR on p (aF σ n c.toNat) z r):
  TR on (.rcv a n p) σ Θ (x::63::c::46::r):=by
 refine⟨by simp,?_,λhm=>?_,λhm J hb=>?_,λhm J hb ρ G=>?_⟩
 ·have :=h.len;simp only [J0,T.aH];omega
 ·rw [eN]at hm;rw [bz (ky Z),bz (by decide),bz (ky hc.nm),bz (by decide),h.cnt hm,pT]
 ·rw [eN]at hm;rw [jA,Lm]at hb;cases V:(uj (cR Θ)).isNone with
  | true=>exact⟨c,by simp,hc.bad V⟩
  | false=>
   rw [V]at hb;have hb:=hb.resolve_left (by simp);rw [<-hc.good V,<-r8 I]at hb;obtain⟨c,h1,h2⟩:=h.bad hm J hb;exact⟨c,by simp [h1],h2⟩
 ·rw [eN]at hm;rw [jA,Ls]at hb;have e1:ρ a=x:=Ky.1 ((G a (.inl rfl)).trans ex.symm);have W:=hc.good hb.1;have H:=hb.2;rw [<-W,<-r8 I]at H;simp only [thU,kText,e1,<-W];rw [<-r8 I,<-h.eq hm J H (aF ρ n c) λy hy=>?_];unfold aF;by_cases e:y=n
  ·simp [e]
  ·simp only [Ko e];exact G y (.inr ⟨e,hy⟩)
theorem nC (c:UInt8):∀l:List Tx,l≠[]->(joinS c l).length+3=dq l
 | [],h=>absurd rfl h
 | [s],_=>by simp [joinS,dq]
 | s::t::l,_=>by
  have :=nC c (t::l) (by simp);rw [eZ (by simp),dR];simp only [J0,J',Kh];omega
theorem lU {c:UInt8}(hc:¬c=35):∀l:List Tx,(joinS c l).count 35=(l.map (List.count 35)).sum
 | []=>rfl
 | [s]=>by simp [joinS]
 | s::t::l=>by
  have :=lU hc (t::l);rw [eZ (by simp),bz (by decide),KV,bz hc,KV,this];simp
theorem qA {c d:UInt8}{s:Tx}:∀{l:List Tx},s∈l->d∈s->d∈joinS c l
 | [],h,_=>by cases h
 | [t],h,hd=>by
  have:s=t:=by simpa using h
  subst this;exact hd
 | t::u::l,h,hd=>by
  rw [eZ (by simp)];rcases Ks.1 h with rfl | h
  ·simp [hd]
  ·have :=qA (c:=c) h hd;simp [this]
theorem yT {c:UInt8}{l:List Tx}(h:∀s∈l,s≠[])(z:l≠[]):joinS c l≠[]:=by
 match l,z with
 | [s],_=>exact h s (by simp)
 | s::t::l,_=>rw [eZ (by simp)];simp
theorem WR.env {on:Bool}{u:U}{σ τ:Nat->Nat}{Θ r:Tx}(h:WR on u σ Θ r)(he:∀y,u.Us y->σ y=τ y):WR on u τ Θ r:=
 ⟨h.ne,h.len,h.cnt,h.bad,λa b c ρ hc=>h.eq a b c ρ λy z=>(hc y z).trans (he y z).symm⟩
theorem aM.dq {on:Bool}{σ:Nat->Nat}{Θ:Tx}:∀{rs:List Tx} {us:List U},aM (λr u=>WR on u σ Θ r) rs us->Proofs.YtdecokaadekjnaaGreat.dq rs<=j6 us
 | [],[],_=>by simp [Proofs.YtdecokaadekjnaaGreat.dq,j6]
 | [],_::_,h=>by have :=h.1;simp at this
 | _::_,[],h=>by have :=h.1;simp at this
 | r::rs,u::us,h=>by
  have G:=(h.2 0 r u rfl rfl).len;have z:=aM.dq (rs:=rs) (us:=us) (on:=on) (σ:=σ) (Θ:=Θ) ⟨by have :=h.1;simpa using this,λi a b ha hb=>h.2 (i+1) a b (by simpa using ha) (by simpa using hb)⟩;rw [dR];simp only [j6,KE,Ld,J0]at z|-;omega
theorem aM.map_eq {A B C:Type}{f:A->C}{g:B->C}:∀{l:List A} {m:List B},aM (λa b=>f a=g b) l m->l.map f=m.map g
 | [],[],_=>rfl
 | [],_::_,h=>by have :=h.1;simp at this
 | _::_,[],h=>by have :=h.1;simp at this
 | a::l,b::m,h=>by
  have z:=h.2 0 a b rfl rfl;have G:=aM.map_eq (l:=l) (m:=m) (f:=f) (g:=g) ⟨by have :=h.1;simpa using this,λi a b ha hb=>h.2 (i+1) a b (by simpa using ha) (by simpa using hb)⟩;rw [KE,KE,G,z]
theorem aM.get {A B:Type}{R:A->B->Prop}{l:List A}{m:List B}(h:aM R l m){b:B}(hb:b∈m):∃a∈l,R a b:=by
 obtain⟨i,z,e⟩:=KY.1 hb;have G:i< l.length:=by rw [h.1];exact z
 exact⟨l[i],Kg _,h.2 i l[i] b (J2 G) (by rw [J2 z,e])⟩
theorem aM.get' {A B:Type}{R:A->B->Prop}{l:List A}{m:List B}(h:aM R l m){a:A}(ha:a∈l):∃b∈m,R a b:=by
 obtain⟨i,z,e⟩:=KY.1 ha;have G:i< m.length:=by rw [<-h.1];exact z
 exact⟨m[i],Kg _,h.2 i a m[i] (by rw [J2 z,e]) (J2 G)⟩
theorem TR.sum {on:Bool}{p q:U}{σ:Nat->Nat}{Θ:Tx}{rs:List Tx}(hu:Uq (.sum p q))(V:an (T.sum p q)≠[])(h:aM (λr u=>WR on u σ Θ r) rs (an (T.sum p q))):TR on (.sum p q) σ Θ (joinS 43 (a7 rs)):=by
 have H:tl [T.sum p q]= .sum (tp (an (T.sum p q))) .nil:=rfl;have W:rs≠[]:=λe=>V (KD (by rw [<-h.1,e];rfl))
 have I:=aO rs;have J:a7 rs≠[]:=λe=>W (by rw [e]at I;exact I.symm.eq_nil)
 have z:aw (tl [T.sum p q])<=5->∀u∈an (T.sum p q),bj u<=5:=λhm=>by
  rw [H,aw]at hm;exact(vH _ _).1 (by omega)
 refine⟨yT (λs hs=>?_) J,?_,λhm=>?_,λhm Z hb=>?_,λhm Z hb ρ hc=>?_⟩
 ·obtain⟨u,_,hw⟩:=h.get' (I.subset hs);exact hw.ne
 ·have h1:=nC 43 _ J;have h2:=mi I;have h3:=h.dq;have h4:=dS (T.sum p q);omega
 ·rw [lU (by decide),jt (I.map _),H,thAll,Ek];show _=_+0;rw [MF]
  congr 1
  refine aM.map_eq (h.mono λr u _ hu hw=>hw.cnt (z hm u hu))
 ·rw [H,thBad,vG]at hb;simp only [thBad,Ms,Ma]at hb;obtain⟨u,G,α⟩:=hb;obtain⟨r,hr,hw⟩:=h.get G;obtain⟨c,h1,h2⟩:=hw.bad (z hm u G) Z α;exact⟨c,qA (I.symm.subset hr) h1,h2⟩
 ·rw [H,thBad,vG]at hb;simp only [thBad,Ms]at hb;have hb:∀u∈an (T.sum p q),dt u (cR Θ)=false:=by simpa [List.any_eq_false]using hb
  have e:rs=(an (T.sum p q)).map λu=>LS u ρ (cR Θ):=by
   have :=aM.map_eq (f:=λr:Tx=>r) (g:=λu=>LS u ρ (cR Θ)) (h.mono λr u _ G hw=>hw.eq (z hm u G) Z (hb u G) ρ (hc.sub λy hy=>(lZ _ hu y).2 ⟨u,G,hy⟩));simpa using this
  rw [e];rfl
theorem WR.le {on:Bool}{u:U}{k:Nat}{p:P}{σ τ:Nat->Nat}{Θ r:Tx}(h:WR on u τ Θ r)(d:Den k p σ u):r.length<=p.text.length:=by
 have z:=h.len;have h2:=pb d.ae;rw [T.aY];omega
structure uk (w0 w:World)(bm:Nat)(br on:Bool)(c:UInt8)(o:Option Nat):Prop where
 kp:Kp w0 w (λg=>g=bm)
 mm:MK w bm br on
 bx:∀b,o=some b->b≠bm/\b< w.heap.size/\w.cell? ⟨b,0,none⟩=some (.int .u8 c.toNat)
theorem uk.step {w0 w w':World}{bm:Nat}{br z on:Bool}{c:UInt8}{o:Option Nat}(h:uk w0 w bm br on c o)(G:Kp w w' (λg=>g=bm))(hm:MK w' bm z on):uk w0 w' bm z on c o:=
 ⟨Kp.trans h.kp G λ _ _ h=>h,hm,λb hb=>by
  obtain⟨H,h2,I⟩:=h.bx b hb;refine⟨H,Kx h2 G.size,?_⟩;rw [J1 (w:=w) (G.block b h2 H)];exact I⟩
theorem uk.ex {w0 w w':World}{bm:Nat}{br on:Bool}{c:UInt8}{o:Option Nat}(h:uk w0 w bm br on c o)(z:Ex w w'):uk w0 w' bm br on c o:=
 h.step (Kp.ah z _) (h.mm.ex z)
theorem uk.box {w0 w w':World}{bm b:Nat}{br on:Bool}{c:UInt8}(h:uk w0 w bm br on c none)(hb:b=w.heap.size)(hw:w'=w.alloc (.cells #[.int .u8 c.toNat] 5)):uk w0 w' bm br on c (some b):=by
 have z:Ex w w':=hw▸Ex.alloc w _;have :=h.mm.lt;refine⟨(h.ex z).kp,(h.ex z).mm,λG e=>?_⟩;cases e;subst hb hw;exact⟨by omega,by rw [size_alloc];omega,aa rfl⟩
theorem uk.conv {w0 w:World}{bm b:Nat}{br on:Bool}{c:UInt8}(h:uk w0 w bm br on c (some b)):∀(j:Nat) (x:UInt8),[c][j]?=some x->w.cell? ⟨b,0+j,none⟩=some (.int .u8 x.toNat):=by
 intro j x z
 match j,z with
 | 0,z=>simp at z;subst z;exact(h.bx b rfl).2.2
theorem Own.kp {B:Nat}{w w':World}{v:Value}{l:List Tx}{S:Nat->Prop}(h:Own B w v l)(k:Kp w w' S)(G:∀g,v.ownBlock=some g->¬S g):Own B w' v l:=by
 refine⟨h.1,?_⟩;rcases h.2 with H | ⟨g,cap,cur,rfl,hb,z,rest⟩
 ·exact .inl H
 ·exact .inr ⟨g,cap,cur,rfl,hb,by rw [k.block g (KO.1 z).1 (G g rfl)];exact z,rest⟩
theorem MK.same {w w':World}{bm:Nat}{br on:Bool}(h:MK w bm br on)(z:w.heap.size<=w'.heap.size)(hb:w'.heap[bm]?=w.heap[bm]?):MK w' bm br on:=
 ⟨Kx h.lt z,by rw [J1 (w:=w) hb];exact h.c0,by rw [J1 (w:=w) hb];exact h.c1,by rw [KC (w:=w) hb];exact h.f0⟩
theorem MK.below {w w':World}{bm B:Nat}{br on:Bool}(h:MK w bm br on)(k:Below B w w')(hb:bm< B):MK w' bm br on:=h.same k.size (k.block bm hb)
theorem Own.below {B C:Nat}{w w':World}{v:Value}{l:List Tx}(h:Own B w v l)(k:Below C w w')(z:∀g,v.ownBlock=some g->g< C):Own B w' v l:=by
 refine⟨h.1,?_⟩;rcases h.2 with G | ⟨g,cap,cur,rfl,hb,H,rest⟩
 ·exact .inl G
 ·exact .inr ⟨g,cap,cur,rfl,hb,by rw [k.block g (z g rfl)];exact H,rest⟩
theorem Kp.Iz {w w':World}{B:Nat}(h:Below B w w')(hB:w.heap.size<=B)(S:Nat->Prop):Kp w w' S:=⟨h.os,h.tape,h.output,h.size,λg z _=>h.block g (by omega)⟩
theorem Kp.Df {w w1 w':World}{B:Nat}{S:Nat->Prop}(h:Kp w w1 S)(k:Below B w1 w')(hB:w.heap.size<=B):Kp w w' S:=
 ⟨k.os.trans h.os,k.tape.trans h.tape,k.output.trans h.output,K5 h.size k.size,λg z G=>(k.block g (by omega)).trans (h.block g z G)⟩
theorem aM.snoc {A B:Type}{R:A->B->Prop}{l:List A}{m:List B}{a:A}{b:B}(h:aM R l m)(k:R a b):aM R (l++[a]) (m++[b]):=h.append (aM.one k)
theorem Dr {n:Nat}(β:En n):wR (n+1):=by
 intro k p σ t Θ w bm br on R hn d hth hpl hlv γ G V h;refine kG _ _ _ w R ?_;refine aK d.ok ?_;have hw:=d.wf;have hl:=d.len;have α:=d.ae;cases p<;>cases t<;>(try exact α.elim)<;>(try (cases hth;done))
 case snd.snd a b p a' b' u=>
  simp only [T.kind]
  repeat' first | refine aV (by decide) ?_ | refine dc (by decide) ?_ | refine cE (by decide) ?_ | refine dN (by decide) ?_
  simp only [T.wf,J3]at hw;simp only [T.size]at hn;simp only [T.text,J0]at hl;have ι:(T.snd a b p).text.length=p.text.length+4:=by simp [T.text]
  refine⟨λ _=>True,λw1 W=>⟨trivial,cX d.ok ⟨trivial,⟨by simp only [T.hd];omega,by simp only [T.hd];omega⟩,cX d.ok ⟨trivial,⟨by simp only [T.hd];omega,by simp only [T.hd];omega⟩,?_⟩⟩⟩⟩;have e1:List.drop (Int.toNat ((T.snd a b p).hd:Int)) (T.snd a b p).text=p.text:=rfl;have e2:List.take (Int.toNat ((T.snd a b p).hd:Int)) (T.snd a b p).text=[a,33,b,46]:=rfl;rw [e1,e2];have hx:Ex w w1:=W▸Ex.drew w;refine β (by omega) d.snd (λz hz=>γ z (.inr (.inr hz))) (G.sub (Kb _) λy hy=> .inr (.inr hy)) (V.ex hx) λr w2 I J hr=>?_
  have κ:=hr.le d.snd;refine⟨trivial,by simp only [J0,Kh];omega,h _ w2 (Kp.trans (Kp.ah hx _) I λ _ _ h=>h) (by rw [e8];exact J) (TR.snd hw.1.1 hw.1.2 α.1 α.2.1 hr)⟩
 case tau.tau p u=>
  simp only [T.kind]
  repeat' first | refine aV (by decide) ?_ | refine dc (by decide) ?_ | refine cE (by decide) ?_ | refine dN (by decide) ?_
  simp only [T.size]at hn;simp only [T.text,J0]at hl;have ι:(T.tau p).text.length=p.text.length+2:=by simp [T.text]
  refine⟨λ _=>True,λw1 W=>⟨trivial,cX d.ok ⟨trivial,⟨by simp only [T.hd];omega,by simp only [T.hd];omega⟩,cX d.ok ⟨trivial,⟨by simp only [T.hd];omega,by simp only [T.hd];omega⟩,?_⟩⟩⟩⟩;have e1:List.drop (Int.toNat ((T.tau p).hd:Int)) (T.tau p).text=p.text:=rfl;have e2:List.take (Int.toNat ((T.tau p).hd:Int)) (T.tau p).text=[126,46]:=rfl;rw [e1,e2];have hx:Ex w w1:=W▸Ex.drew w;refine β (by omega) d.tau (λz hz=>γ z hz) (G.sub (Kb _) λy hy=>hy) (V.ex hx) λr w2 I J hr=>?_
  have κ:=hr.le d.tau;refine⟨trivial,by simp only [J0,Kh];omega,h _ w2 (Kp.trans (Kp.ah hx _) I λ _ _ h=>h) (by rw [eR];exact J) (TR.tau hr)⟩
 case rep.rep p u=>
  simp only [T.kind]
  repeat' first | refine aV (by decide) ?_ | refine dc (by decide) ?_ | refine cE (by decide) ?_ | refine dN (by decide) ?_
  simp only [T.size]at hn;simp only [T.text,J0]at hl;have ι:(T.rep p).text.length=p.text.length+1:=by simp [T.text]
  refine⟨⟨by omega,by omega⟩,?_⟩;have e1:List.drop (Int.toNat 1) (T.rep p).text=p.text:=rfl;rw [e1];refine β (by omega) d.rep (λz hz=>γ z hz) (G.sub (Kb _) λy hy=>hy) V λr w2 I J hr=>?_
  have κ:=hr.le d.rep;refine⟨by simp only [J0,Kh];omega,h _ w2 I (by rw [eP];exact J) (TR.rep hr)⟩
 case mat.mat a b p a' b' u=>
  simp only [T.kind]
  repeat' first | refine aV (by decide) ?_ | refine dc (by decide) ?_ | refine cE (by decide) ?_ | refine dN (by decide) ?_
  simp only [T.wf,J3]at hw;simp only [T.size]at hn;simp only [T.text,J0]at hl;have ι:(T.mat a b p).text.length=p.text.length+5:=by simp [T.text]
  have hab:a'≠b':=hpl;have ω:u.dead=false:=hlv;have hpd:p.dead=false:=by rw [α.2.2.dead];exact ω
  have e1:List.drop (Int.toNat 5) (T.mat a b p).text=p.text:=rfl;have e2:List.drop (Int.toNat 3) (List.take (Int.toNat 4) (T.mat a b p).text)=[b]:=rfl;have e3:List.drop (Int.toNat 1) (List.take (Int.toNat 2) (T.mat a b p).text)=[a]:=rfl;have eb:Op.bytesLess [b] [a]=decide (b< a):=by
   rw [NB,K6,J4,J4,List.cons_lt_cons_iff];simp
  rw [e1,e2,e3,eb];refine⟨λ _=>True,λw1 W=>⟨trivial,⟨by omega,by omega,by omega⟩,⟨by omega,by omega,by omega⟩,?_⟩⟩;have hx:Ex w w1:=W▸Ex.drew w;have sub:∀y,u.Us y->(T.mat a' b' u).Us y:=λy hy=> .inr ⟨hab,ω,.inr (.inr hy)⟩
  have dm:=d.mat hpd;have key:∀{K:ay->World->Prop},(∀r w2,r.length<=1099511627776->Kp w w2 (λg=>g=bm)->MK w2 bm (br||decide (5< aw (tl [T.mat a' b' u]))) on->TR on (.mat a' b' u) σ Θ (91::(if b< a then b else a)::61::(if b< a then a else b)::93::r)->K r w2)->
    Calls Tryz.prog 224 #[.pointer (some ⟨bm,0,none⟩),.string (ab p.text),.string (ab Θ)] w1 (ax [.s] K):=λhk=>by
   refine β (by omega) dm (λz hz=>γ z (.inr (.inr hz))) (G.sub (Kb _) sub) (V.ex hx) λr w2 I J hr=>?_
   have κ:=hr.le dm;exact hk r w2 (by omega) (Kp.trans (Kp.ah hx _) I λ _ _ h=>h) (by rw [dk];exact J) (TR.mat hab ω hw.1.1 hw.1.2 α.1 α.2.1 hr)
  refine⟨λhc=>?_,λhc=>?_⟩
  ·have hc:=Kv hc;refine⟨by simp,by simp,by simp,by simp,⟨by omega,by omega⟩,key λr w2 H h2 h3 h4=>⟨by simp only [J',J0,Kh];omega,?_⟩⟩;simp only [KG hc]at h4;exact h _ w2 h2 h3 h4
  ·have hc:=Kw hc;refine⟨by simp,by simp,by simp,by simp,⟨by omega,by omega⟩,key λr w2 H h2 h3 h4=>⟨by simp only [J',J0,Kh];omega,?_⟩⟩;simp only [Ko hc]at h4;exact h _ w2 h2 h3 h4
 case sum.sum p q u v=>
  simp only [T.kind]
  repeat' first | refine aV (by decide) ?_ | refine dc (by decide) ?_ | refine cE (by decide) ?_ | refine dN (by decide) ?_
  have hpu:u.dead=false/\v.dead=false:=hpl;have μ:an (T.sum u v)≠[]:=oV (by simp [T.dead,hpu.1]) d.uq;refine wN _ (Kb _) d λvs w2 ps ν ε hps hgs=>?_
  have hsz:(an (T.sum u v)).length<=(T.sum p q).size:=by rw [d.ae.size];exact dz _
  have hszt:=bD (T.sum p q);have hl':(T.sum p q).text.length<=1099511627776:=hl;have υ:(ps.map T.text).length=(an (T.sum u v)).length:=by rw [Kz,hps.1]
  have hbm:bm< w2.heap.size:=Kx V.lt ν.size;have hvb:∀g,vs.ownBlock=some g->g< w2.heap.size:=λg hg=>(ε.block g hg).2
  have hvn:∀g,vs.ownBlock=some g->¬g=bm:=λg hg e=>by
   have :=(ε.block g hg).1;have :=V.lt;omega
  obtain⟨av,cap,hv⟩:=ε.strs.slice;have hlen:=ε.1;refine⟨av,_,cap,hv,λlist x w'=>∃(i:Nat) (rs:List Tx),x=i/\i<=(an (T.sum u v)).length/\Kp w w' (λg=>g=bm)/\MK w' bm (br||((an (T.sum u v)).take i).any λu=>decide (5< bj u)) on/\
   w2.heap.size<=w'.heap.size/\Own w2.heap.size w' list rs/\Own w.heap.size w' vs (ps.map T.text)/\aM (λr u=>WR on u σ Θ r) rs ((an (T.sum u v)).take i),λ _ x _=>((an (T.sum u v)).length - x).toNat,?_,λlist x w3 hI=>?_⟩
  ·exact⟨0,[],rfl,by omega,Kp.ah ν _,by simpa using V.ex ν,Kb _,Own.nil _ _,ε,aM.nil⟩
  obtain⟨i,rs,rfl,hi,hk3,hm3,hs3,ho3,hv3,δ⟩:=hI;refine⟨λhc=>?_,λhc=>?_⟩
  ·have hc:=Kv hc;rw [υ]at hc;have ξ:i< (an (T.sum u v)).length:=by omega
   have hip:i< ps.length:=by rw [hps.1];exact ξ
   refine hv3.strs.get (Ex.refl w3) (i:=i) (x:=(ps[i]).text) (by omega) (by simp [hip]) ?_;obtain⟨m,τ,hkm,dp,hτ⟩:=hps.2 i _ _ (J2 hip) (J2 ξ);have φ:(an (T.sum u v))[i]∈an (T.sum u v):=Kg _;have hus:∀y,((an (T.sum u v))[i]).Us y->(T.sum u v).Us y:=λy hy=>(lZ _ d.uq y).2 ⟨_,φ,hy⟩
   have χ:∀y,((an (T.sum u v))[i]).Us y->τ y=σ y:=λy hy=>hτ y (d.uq.AN (hus y hy))
   have hszi:ps[i].size<=n:=by
    rw [dp.ae.size];have H:((an (T.sum u v))[i]).size<=u.size+v.size:=by
     have hmem':(an (T.sum u v))[i]∈an u++an v:=φ;rcases Ke.1 hmem' with h | h
     ·have :=mJ u _ h;omega
     ·have :=mJ v _ h;omega
    have h2:(T.sum p q).size=(T.sum u v).size:=d.ae.size;simp only [T.size]at hn h2;omega
   have hgfp:GF 0 ps[i]:=hgs _ (Kg _) 0 γ;refine β hszi dp hgfp ⟨G.srt,λc hc=>⟨(G.okn c hc).1.mono hkm,(G.okn c hc).2⟩,λy hy=>by rw [χ y hy];exact G.cov y (hus y hy)⟩ hm3 λr w4 ο hm4 hr=>?_
   intro b5 w5 hb5 hw5;have ζ:Ex w4 w5:=hw5▸Ex.alloc w4 _;have ho4:Own w2.heap.size w5 list rs:=(ho3.kp ο λg hg e=>by have :=(ho3.block g hg).1;omega).ex ζ;have hsz4:=ο.size;have hsz5:=ζ.size;have ψ:rs.length=i:=by rw [δ.1,KP];omega
   refine Own.push ho4 (by omega) (Strs.one hb5 hw5) (by simp only [J0,Kh];omega) λv6 w6 ς ho6 _ _=>?_
   refine⟨by unfold aj;omega,⟨i+1,rs++[r],by omega,by omega,?_,?_,?_,ho6,?_,?_⟩,by dsimp only;omega⟩
   ·exact Kp.Df (Kp.trans (Kp.trans hk3 ο λ _ _ h=>h) (Kp.ah ζ _) λ _ _ h=>h) ς ν.size
   ·have hm5:=(hm4.ex ζ).below ς hbm;rw [J8 ξ,List.any_append,<-LC];simpa using hm5
   ·have :=ς.size;omega
   ·exact((hv3.kp ο hvn).ex ζ).below ς hvb
   ·rw [J8 ξ];exact δ.snoc (hr.env χ)
  ·have hc:=Kw hc;rw [υ]at hc;have e:i=(an (T.sum u v)).length:=by omega
   subst e;rw [KA]at hm3 δ;have hll:=δ.dq;have ht2:=dS (T.sum u v);have htl:=pb d.ae;have hle:dq rs<=1099511627776+3:=by rw [T.aY]at hl';omega
   have ψ:rs.length=(an (T.sum u v)).length:=δ.1;have hrs:rs≠[]:=λe=>μ (KD (by rw [<-ψ,e];rfl))
   refine nW ho3.strs (by omega) λv4 w4 hx4 ho4=>?_
   have hsn:a7 rs≠[]:=λe=>hrs (by have :=aO rs;rw [e]at this;exact this.symm.eq_nil)
   refine tB ho4.strs hsn (by rw [mi (aO rs)];omega) ?_;refine h _ w4 (Kp.trans hk3 (Kp.ah hx4 _) λ _ _ h=>h) ?_ (TR.sum d.uq μ δ);have e2:(an (T.sum u v)).any (λu=>decide (5< bj u))=decide (5< aw (tl [T.sum u v])):=by
    rw [K6,Ma,J4];have etl:tl [T.sum u v]= .sum (tp (an (T.sum u v))) .nil:=rfl;have hmx:aw (.sum (tp (an (T.sum u v))) .nil)=aw (tp (an (T.sum u v))):=by simp [aw]
    rw [etl,hmx,<-Nat.not_le,vH];constructor
    ·rintro⟨x,H,h2⟩ h3
     have :=h3 x H;have :=Kv h2;omega
    ·intro H;refine K1 λh2=>H λx hx=>?_
     rcases LF 5 (bj x)with h3 | h3
     ·exact absurd ⟨x,hx,Lc h3⟩ h2
     ·exact h3
   rw [<-e2];exact hm3.ex hx4
 case rcv.rcv a x p a' x' u=>
  simp only [T.kind]
  repeat' first | refine aV (by decide) ?_ | refine dc (by decide) ?_ | refine cE (by decide) ?_ | refine dN (by decide) ?_
  simp only [T.wf,J3]at hw;simp only [T.size]at hn;simp only [T.text,J0]at hl;have ι:(T.rcv a x p).text.length=p.text.length+4:=by simp [T.text]
  have hΘ:=G.srt.bound;refine jr (by omega) λc hc0=>?_
  have hbd:=d.bd.le;simp only [T.rd,T.ow]at hbd;have hc:xY k Θ c:=xY.of (by omega) G.okn hc0;have okp:=d.ok.parts p (by simp [T.parts]);have hbdp:=T.xV p;have e1:List.drop (Int.toNat 4) (T.rcv a x p).text=p.text:=rfl;have e2:bt (T.rcv a x p).text (Int.toNat 2)=x:=rfl;have e3:List.take (Int.toNat 2) (T.rcv a x p).text=[a,63]:=rfl;rw [e1,e2,e3];refine⟨λ _=>True,λw1 W=>⟨trivial,⟨by omega,by omega⟩,⟨by omega,by omega⟩,⟨by omega,by omega⟩,?_⟩⟩;have hst:uk w w1 bm br on c none:=⟨Kp.ah (W▸Ex.drew w) _,V.ex (W▸Ex.drew w),λb hb=>by cases hb⟩
  have renL:∀{o:Option Nat} {wx:World} {K:ay->World->Prop},uk w wx bm br on c o->(∀q Z,uk w Z bm br on c o->iI (k+1) p x c q->K q.text Z)->Calls Tryz.prog 153 #[.string (ab p.text),.int .u8 x.toNat,.int .u8 c.toNat] wx (ax [.s] K):=λhs hK=>
   gQ _ (Kb _) okp d.bd.eb.2.2 (by omega) hc.nm hc.okn λq Z hx hq=>hK q Z (hs.ex hx) hq
  have addL:∀{o:Option Nat} {wx:World} {K:ay->World->Prop},uk w wx bm br on c o->(∀s Z,uk w Z bm br on c o->(ib s/\∀x,x∈s↔x=c\/x∈Θ)->K s Z)->Calls Tryz.prog 121 #[.string (ab Θ),.int .u8 c.toNat] wx (ax [.s] K):=λhs hK=>
   fu G.srt λs' Z hx H h2=>hK s' Z (hs.ex hx) ⟨H,h2⟩
  have whoL:∀{o:Option Nat} {wx:World} {K:ay->World->Prop} {q:P} {s:Tx},uk w wx bm br on c o->iI (k+1) p x c q->(ib s/\∀x,x∈s↔x=c\/x∈Θ)->
    (∀r Z,uk w Z bm (br||decide (5< aw (tl [T.rcv a' x' u]))) on c o->(TR on (.rcv a' x' u) σ Θ (a::63::c::46::r)/\r.length<=1099511627776)->K r Z)->Calls Tryz.prog 224 #[.pointer (some ⟨bm,0,none⟩),.string (ab q.text),.string (ab s)] wx (ax [.s] K):=λ{o wx K q s} hs hq η hK=>by
   have dr:=d.rcv hq λz hz μ e=>by
    obtain⟨c',H,h2⟩:=G.cov z (.inr ⟨μ,hz⟩);have:c'=c:=Ky.1 (h2.trans e);exact hc.nin (this▸H)
   have hsz:=T.py hq.shp;refine β (by omega) dr (λz hz hg=>?_) ⟨η.1,λc' hc'=>?_,λy hy=>?_⟩ hs.mm λr Z I J hr=>?_
   ·rcases hq.ok.free z hz with H | H | H
    ·exact absurd hg (eA (H▸hc.ngr))
    ·exact γ z (.inr ⟨H.1,H.2⟩) hg
    ·exact absurd hg (eA (H.1▸d.bd.eb.2.1.1))
   ·rcases(η.2 c').1 hc' with H | H
    ·rw [H];exact⟨hc.okn,hc.ngr⟩
    ·exact⟨(G.okn c' H).1.mono (by omega),(G.okn c' H).2⟩
   ·by_cases e:y=x'
    ·subst e;exact⟨c,(η.2 c).2 (.inl rfl),by rw [df]⟩
    ·obtain⟨c',H,h2⟩:=G.cov y (.inr ⟨e,hy⟩);exact⟨c',(η.2 c').2 (.inr H),by rw [bS _ _ e];exact h2⟩
   ·have κ:=hr.le dr;have hlq:q.text.length=p.text.length:=by rw [T.aY,T.jn hq.shp,<-T.aY]
    refine hK r Z (hs.step I (by rw [eN];exact J)) ⟨TR.rcv hw.1.1 α.1 hc η.2 hr,by omega⟩
  have fin:∀{o:Option Nat} {wx:World} {r:Tx},uk w wx bm (br||decide (5< aw (tl [T.rcv a' x' u]))) on c o->(TR on (.rcv a' x' u) σ Θ (a::63::c::46::r)/\r.length<=1099511627776)->R (((([a,63]++[c])++[46])++r)) wx:=λhs hr=>h _ _ hs.kp hs.mm hr.1
  have bnd:∀{r:Tx},(TR on (.rcv a' x' u) σ Θ (a::63::c::46::r)/\r.length<=1099511627776)->List.length (([a,63]++[c])++[46])+List.length r<=4611686018427387904:=λhr=>by
   have :=hr.2;simp only [J',J0,Kh];omega
  repeat' first
   | (refine renL (by assumption) ?_;intro q Z θ hq;refine⟨trivial,?_⟩)
   | (refine addL (by assumption) ?_;intro s Z θ hs;refine⟨trivial,?_⟩)
   | (refine whoL (by assumption) (by assumption) (by assumption) ?_;intro r Z θ hr;refine⟨trivial,?_⟩)
   | exact fin (by assumption) (by assumption)
   | exact bnd (by assumption)
   | (refine⟨_,0,1,1,[c],rfl,rfl,uk.conv (by assumption),trivial,by simp,by simp,?_⟩)
   | (refine⟨?_,?_⟩)
   | (intro b w2 hb hw2;have θ:=uk.box (by assumption) hb hw2;refine⟨trivial,?_⟩)
theorem kh {α β:Type}{g:α->β}:∀{l:List α} {m:List β},m.Perm (l.map g)->∃π:List α,π.Perm l/\m=π.map g
 | [],m,h=>⟨[],K9 _,by simpa using h⟩
 | a::l,m,h=>by
  have hm:g a∈m:=h.symm.subset (by simp);obtain⟨s,t,rfl⟩:=List.append_of_mem hm;have h2:(s++t).Perm (l.map g):=(NA (g a)).1 (MO.symm.trans (by simpa using h));obtain⟨π,z,h4⟩:=kh h2;obtain⟨x,y,rfl,h5,G⟩:=List.append_eq_map_iff.1 h4;refine⟨x++a::y,MO.trans (List.Perm.cons a z),?_⟩;simp [h5,G]
def rnv:List UInt8->List UInt8->Nat->Nat
 | o::os,l::ls,n=>rnv os ls (if n=o.toNat then l.toNat else n)
 | _,_,n=>n
theorem yv:∀(os ls:List UInt8) (o l:UInt8) (n:Nat),os.length=ls.length->rnv (os++[o]) (ls++[l]) n=if rnv os ls n=o.toNat then l.toNat else rnv os ls n
 | [],[],o,l,n,_=>rfl
 | [],_::_,_,_,_,h=>by cases h
 | _::_,[],_,_,_,h=>by cases h
 | a::os,b::ls,o,l,n,h=>by
  simp only [K4,rnv];exact yv os ls o l _ (by simpa using h)
theorem vC:∀(os ls:List UInt8) (n:Nat),(∀o∈os,n≠o.toNat)->rnv os ls n=n
 | [],_,_,_=>by simp [rnv]
 | _::_,[],_,_=>by simp [rnv]
 | a::os,b::ls,n,h=>by
  rw [rnv,Ko (h a (by simp))];exact vC os ls n λo z=>h o (Ki _ z)
theorem Ag:∀(π:List Nat) (os ls:List UInt8) (g:Nat->Nat) (ρ:Rh) (y:Nat),os.map UInt8.toNat=π.map g->π.length=ls.length->(∀l∈ls,l∉os)->y∈π->(∀z∈π,g z=g y->z=y)->os.Nodup->
  rnv os ls (g y)=(asg π ls ρ y).toNat
 | [],_,_,_,_,_,_,_,_,h,_,_=>by cases h
 | z::π,[],_,_,_,_,h,_,_,_,_,_=>by simp at h
 | _::_,_::_,[],_,_,_,_,h,_,_,_,_=>by cases h
 | z::π,o::os,l::ls,g,ρ,y,h,hl,hd,hy,Z,G=>by
  simp only [KE,KW]at h;have G:=K7.1 G;have H:∀I∈os,l.toNat≠I.toNat:=λI ho e=>hd l (by simp) (by rw [Ky.1 e];exact Ki _ ho)
  rw [rnv,asg];by_cases e:y=z
  ·subst e;rw [KG h.1.symm,vC os ls _ H];by_cases hyp:y∈π
   ·exfalso;have:g y∈π.map g:=LG hyp;rw [<-h.2,<-h.1]at this;obtain⟨I,h1,h2⟩:=KQ.1 this;exact G.1 (Ky.1 h2▸h1)
   ·rw [bV π ls _ y hyp];simp [aF]
  ·have hyp:y∈π:=(Ks.1 hy).resolve_left e;have J:¬g y=o.toNat:=λh'=>e ((Z z (by simp) (h.1.symm.trans h'.symm)).symm)
   rw [Ko J];exact Ag π os ls g _ y h.2 (by simpa using hl) (λl' V W=>hd l' (Ki _ V) (Ki _ W)) hyp (λx hx=>Z x (Ki _ hx)) G.2
structure EU (k m:Nat)(Θ ls A:Tx):Prop where
 len:ls.length=m
 nd:ls.Nodup
 ok:∀c∈ls,c∉Θ/\okn (k+m) c/\ngr c/\nm c=true
 srt:ib A
 mem:∀c,c∈A↔c∈Θ\/c∈ls
theorem TR.env {on:Bool}{u:U}{σ τ:Nat->Nat}{Θ r:Tx}(h:TR on u σ Θ r)(he:∀y,u.Us y->σ y=τ y):TR on u τ Θ r:=
 ⟨h.ne,h.len,h.cnt,h.bad,λa b c ρ hc=>h.eq a b c ρ λy z=>(hc y z).trans (he y z).symm⟩
theorem TR.le {on:Bool}{u:U}{k:Nat}{p:P}{σ τ:Nat->Nat}{Θ r:Tx}(h:TR on u τ Θ r)(d:Den k p σ u):r.length<=p.text.length:=by
 have z:=h.len;have h2:=pb d.ae;rw [T.aY];omega
structure I' (M:Nat)(p:P)(t:U)(τ:Nat->Nat)(Θ o ls:Tx)(i:Nat)(q:P):Prop where
 den:Den M q (λy=>rnv (o.take i) (ls.take i) (τ y)) t
 shp:q.shp=p.shp
 gf:∀z,q.Fr z->GK z->z∈o.drop i
 cov:∀y,t.Us y->∃c:UInt8,c.toNat=rnv (o.take i) (ls.take i) (τ y)/\(c∈Θ\/c∈ls.take i\/c∈o.drop i)
theorem rN {l:Tx}{i:Nat}(h:i< l.length):l.drop i=bt l i::l.drop (i+1):=bJ h
theorem iA {l:Tx}{i:Nat}(h:i< l.length):l.take (i+1)=l.take i++[bt l i]:=by
 rw [J8 h];simp [bt,h]
theorem I'.step {M k m:Nat}{p q q':P}{t:U}{τ:Nat->Nat}{Θ o ls A:Tx}{i:Nat}(h:I' M p t τ Θ o ls i q)(ζ:∀c∈Θ,ngr c)(Z:EU k m Θ ls A)(ho:o.length=m)(α:∀c∈o,GK c)(hi:i< m)
  (hr:iI M q (bt o i) (bt ls i) q'):I' M p t τ Θ o ls (i+1) q':=by
 have W:i< o.length:=by omega
 have V:i< ls.length:=by rw [Z.len];exact hi
 have hlen:(o.take i).length=(ls.take i).length:=by rw [KP,KP];omega
 have e:∀y,rnv (o.take (i+1)) (ls.take (i+1)) (τ y)=if rnv (o.take i) (ls.take i) (τ y)=(bt o i).toNat then(bt ls i).toNat else rnv (o.take i) (ls.take i) (τ y):=λy=>by
  rw [iA W,iA V,yv _ _ _ _ _ hlen]
 have G:=Z.ok _ (lB V);have δ:bt ls i∉ls.take i:=λhm=>by
  have β:=Z.nd;rw [<-Li i ls,rN V]at β;exact(KL.1 β).2.2 _ hm _ (by simp) rfl
 have ε:bt ls i∉o.drop i:=λhm=>eA G.2.2.1 (α _ (List.mem_of_mem_drop hm))
 have H:∀y,t.Us y->rnv (o.take i) (ls.take i) (τ y)≠(bt ls i).toNat:=λy hy he=>by
  obtain⟨c,I,h2⟩:=h.cov y hy;have hc:c=bt ls i:=Ky.1 (I.trans he);rcases h2 with h2 | h2 | h2
  ·exact G.1 (hc▸h2)
  ·exact δ (hc▸h2)
  ·exact ε (hc▸h2)
 refine⟨⟨hr.wf,?_,⟨hr.eb,?_⟩,?_,?_,h.den.uq⟩,hr.shp.trans h.shp,λz hz hg=>?_,λy hy=>?_⟩
 ·have :=h.den.len;rw [T.aY,T.jn hr.shp,<-T.aY];exact this
 ·rw [T.zd hr.shp,T.xg hr.shp];exact h.den.bd.le
 ·have hh:=h.den.ae.renamed hr.ok (λx _ e=>Ky.1 e);have e':(λy=>rnv (o.take (i+1)) (ls.take (i+1)) (τ y))=λy=>if rnv (o.take i) (ls.take i) (τ y)=(bt o i).toNat then(bt ls i).toNat else rnv (o.take i) (ls.take i) (τ y):=funext e
  rw [e'];exact hh
 ·intro y z hy hz J;simp only [e]at J;have γ:=h.den.inj y z hy hz;split at J<;>split at J
  ·rename_i I h2;exact γ (I.trans h2.symm)
  ·exact absurd J.symm (H z hz)
  ·exact absurd J (H y hy)
  ·exact γ J
 ·rcases hr.ok.free z hz with I | I | I
  ·exact absurd hg (eA (I▸G.2.2.1))
  ·have :=h.gf z I.2 hg;rw [rN W]at this;exact(Ks.1 this).resolve_left I.1
  ·have hh:=α _ (lB W);rw [I.2.2]at hh;exact absurd hh (eA G.2.2.1)
 ·obtain⟨c,I,h2⟩:=h.cov y hy;rw [e];by_cases hc:rnv (o.take i) (ls.take i) (τ y)=(bt o i).toNat
  ·rw [KG hc];exact⟨bt ls i,rfl,.inr (.inl (by rw [iA V];simp))⟩
  ·rw [Ko hc];refine⟨c,I,?_⟩;rcases h2 with h2 | h2 | h2
   ·exact .inl h2
   ·exact .inr (.inl (by rw [iA V];simp [h2]))
   ·rw [rN W]at h2;rcases Ks.1 h2 with h3 | h3
    ·exact absurd (I.symm.trans (by rw [h3])) hc
    ·exact .inr (.inr h3)
theorem aM.Dp {on:Bool}{σ:Nat->Nat}{Θ:Tx}:∀{rs:List Tx} {us:List U},aM (λr u=>TR on u σ Θ r) rs us->Proofs.YtdecokaadekjnaaGreat.dq rs<=j6 us
 | [],[],_=>by simp [Proofs.YtdecokaadekjnaaGreat.dq,j6]
 | [],_::_,h=>by have :=h.1;simp at this
 | _::_,[],h=>by have :=h.1;simp at this
 | r::rs,u::us,h=>by
  have G:=(h.2 0 r u rfl rfl).len;have z:=aM.Dp (rs:=rs) (us:=us) (on:=on) (σ:=σ) (Θ:=Θ) ⟨by have :=h.1;simpa using this,λi a b ha hb=>h.2 (i+1) a b (by simpa using ha) (by simpa using hb)⟩;rw [dR];simp only [j6,KE,Ld,J0]at z|-;omega
def vS (on:Bool)(σ:Nat->Nat)(u:U)(o ls A r:Tx):Prop:=
 ∃rs:List Tx,r=joinS 38 (a7 rs)/\aM (λr t=>TR on t (λy=>rnv o ls (asgN (ak u).1 0 σ y)) A r) rs (ak u).2
theorem FJ {n:Nat}(iht:wR n){k:Nat}{σ:Nat->Nat}{u:U}{Θ A o ls:Tx}{W:List P}{on br:Bool}{bm B:Nat}{vt:Value}{w:World}{R:ay->World->Prop}
  (hu:Uq u) (hne:(ak u).2≠[]) (hb:∀p∈W,k+(ak u).1.length+p.rd+p.ow<=64) (hsz:∀p∈W,p.size<=n) (β:xa k Θ σ u) (ξ:aM (E8 k σ u 0) W (ak u).2) (G:EU k (ak u).1.length Θ ls A) (ho:o.Perm (ic (ak u).1.length))
  (hm64:(ak u).1.length<=64) (γ:Own B w vt (W.map T.text)) (hB:bm< B) (ο:MK w bm br on) (htl:j6 (ak u).2<=1099511627776+3)
  (h:∀r w',Kp w w' (λg=>g=bm)->MK w' bm (br||(ak u).2.any λt=>decide (5< aw (tl [t]))) on->vS on σ u o ls A r->R r w'):
  Calls Tryz.prog 244 #[.pointer (some ⟨bm,0,none⟩),vt,.string (ab o),.string (ab ls),.string (ab A)] w (ax [.s] R):=by
 refine kW _ vt o ls A w R ?_;have ς:o.length=(ak u).1.length:=by rw [ho.length_eq,iB]
 have hog:∀c∈o,GK c:=λc hc=>by
  obtain⟨j,h1,rfl⟩:=iD.1 (ho.subset hc);exact wq (by omega)
 have hlen:=ξ.1;have hbm:=ο.lt;have hlu:3* (ak u).2.length<=j6 (ak u).2:=by unfold j6;omega
 obtain⟨av,cap,hv⟩:=γ.strs.slice;rw [Kz]at hv;refine⟨av,_,cap,hv,λlist x w'=>∃(i:Nat) (rs:List Tx),x=i/\i<=(ak u).2.length/\Kp w w' (λg=>g=bm)/\MK w' bm (br||((ak u).2.take i).any λt=>decide (5< aw (tl [t]))) on/\
   Own w.heap.size w' list rs/\Own B w' vt (W.map T.text)/\aM (λr t=>TR on t (λy=>rnv o ls (asgN (ak u).1 0 σ y)) A r) rs ((ak u).2.take i),λ _ x _=>((ak u).2.length - x).toNat,?_,λlist x w3 hI=>?_⟩
 ·exact⟨0,[],rfl,by omega,Kp.ah (Ex.refl w) _,by simpa using ο,Own.nil _ _,γ,aM.nil⟩
 obtain⟨i,rs,rfl,hi,θ,ι,κ,υ,V⟩:=hI;have hs3:=θ.size;refine⟨λhc=>?_,λhc=>?_⟩
 ·have hc:=Kv hc;have φ:i< W.length:=by omega
  have μ:i< (ak u).2.length:=by omega
  refine υ.strs.get (Ex.refl w3) (i:=i) (x:=(W[i]).text) (by omega) (by simp [φ]) ?_;obtain⟨m0,τ,hkm,dp,χ,hgf⟩:=ξ.2 i _ _ (J2 φ) (J2 μ);have J:(ak u).2[i]∈(ak u).2:=Kg _;have ψ:W[i]∈W:=Kg _;have hbp:=hb _ ψ;have hszp:=hsz _ ψ;generalize hM:max m0 (k+(ak u).1.length)=M;have hM1:m0<=M:=by omega
  have ω:k+(ak u).1.length<=M:=by omega
  have hle:=dp.bd.le;have dM:Den M W[i] τ (ak u).2[i]:=⟨dp.wf,dp.len,⟨dp.bd.eb.mono hM1,by omega⟩,dp.ae,dp.inj,dp.uq⟩
  have hus:=kZ u hu _ J;refine⟨λs j w'=>Ex w3 w'/\∃(j':Nat) (q:P),j=j'/\j'<=o.length/\s=q.text/\I' M W[i] (ak u).2[i] τ Θ o ls j' q,λ _ j _=>(o.length - j).toNat,⟨Ex.refl w3,0,W[i],rfl,by omega,rfl,?_⟩,λs j w4 hJ=>?_⟩
  ·refine⟨by simpa [rnv]using dM,rfl,λz hz hg=>?_,λy hy=>?_⟩
   ·obtain⟨j,h1,h2⟩:=hgf z hz hg;rw [LP];exact ho.symm.subset (iD.2 ⟨j,by omega,h2⟩)
   ·simp only [List.take_zero,rnv,LP];rw [χ y hy];by_cases Z:y∈(ak u).1
    ·obtain⟨j,hj,e⟩:=KY.1 Z;refine⟨gl j,?_,.inr (.inr (ho.symm.subset (iD.2 ⟨j,hj,rfl⟩)))⟩;rw [<-e,ki _ _ _ _ hj (gE u hu),KF]
    ·rw [jh _ _ _ _ Z];obtain⟨c,h1,h2⟩:=β.cov y ((hus y hy).resolve_right Z);exact⟨c,h2,.inl h1⟩
  obtain⟨H,j',q,rfl,hj,rfl,hq⟩:=hJ;refine⟨λα=>?_,λα=>?_⟩
  ·have α:=Kv α;have hj':j'< o.length:=by omega
   refine⟨λ _=>True,λw5 hw5=>⟨trivial,⟨by omega,by omega⟩,⟨by omega,by rw [G.len];omega⟩,?_⟩⟩;have hx5:Ex w4 w5:=hw5▸Ex.drew w4;have hlq:=G.ok _ (lB (s:=ls) (i:=j') (by rw [G.len];omega));have hbd:=T.xV q;have hqle:=hq.den.bd.le;rw [J9];refine gQ _ (Kb _) hq.den.ok hq.den.bd.eb (by omega) hlq.2.2.2 (hlq.2.1.mono ω) λq' w6 I hq'=>⟨trivial,by unfold aj;omega,⟨(H.trans hx5).trans I,j'+1,q',by omega,by omega,rfl,?_⟩,by dsimp only;omega⟩
   exact hq.step (λc hc=>(β.okn c hc).2) G ς hog (by omega) hq'
  ·have α:=Kw α;have ej:j'=o.length:=by omega
   subst ej;have ε:=hq.den;have e1:o.take o.length=o:=KA;have e2:ls.take o.length=ls:=by rw [ς,<-G.len];exact KA
   have ζ:=hq.cov;simp only [e1,e2]at ε ζ;have hm4:=ι.ex H;have hszq:=T.py hq.shp;refine iht (by omega) ε (vU u _ J) (ud u _ J).1 (ud u _ J).2 (λz hz hg=>?_) ⟨G.srt,λc hc=>?_,λy hy=>?_⟩ hm4 λr w5 δ hm5 hr=>?_
   ·have :=hq.gf z hz hg;rw [Mb]at this;cases this
   ·rcases(G.mem c).1 hc with h1 | h1
    ·exact⟨(β.okn c h1).1.mono (by omega),(β.okn c h1).2⟩
    ·have :=G.ok c h1;exact⟨this.2.1.mono ω,this.2.2.1⟩
   ·obtain⟨c,h1,h2⟩:=ζ y hy;refine⟨c,(G.mem c).2 ?_,h1⟩;rcases h2 with h2 | h2 | h2
    ·exact .inl h2
    ·exact .inr h2
    ·rw [Mb]at h2;cases h2
   ·intro b6 w6 hb6 hw6;have I:Ex w5 w6:=hw6▸Ex.alloc w5 _;have hbl:∀g,list.ownBlock=some g->¬g=bm:=λg hg e=>by have :=(κ.block g hg).1;omega
    have ho5:Own w.heap.size w6 list rs:=((κ.ex H).kp δ hbl).ex I;have z4:=H.size;have z5:=δ.size;have z6:=I.size;have η:rs.length=i:=by rw [V.1,KP];omega
    refine Own.push ho5 (by omega) (Strs.one hb6 hw6) (by simp only [J0,Kh];omega) λv7 w7 ν ho7 hg7 _=>?_
    refine⟨by unfold aj;omega,⟨i+1,rs++[r],by omega,by omega,?_,?_,ho7,?_,?_⟩,by dsimp only;omega⟩
    ·exact Kp.Df (Kp.trans (Kp.trans (Kp.trans θ (Kp.ah H _) λ _ _ h=>h) δ λ _ _ h=>h) (Kp.ah I _) λ _ _ h=>h) ν (Kb _)
    ·have hm6:=(hm5.ex I).below ν hbm;rw [J8 μ,List.any_append,<-LC];simpa using hm6
    ·have hvn:∀g,vt.ownBlock=some g->¬g=bm:=λg hg e=>by have :=(γ.block g hg).1;omega
     exact(((υ.ex H).kp δ hvn).ex I).below ν λg hg=>(γ.block g hg).2
    ·rw [J8 μ];refine V.snoc (hr.env λy hy=>?_);show rnv o ls (τ y)=_;rw [χ y hy]
 ·have hc:=Kw hc;have e:i=(ak u).2.length:=by omega
  subst e;rw [KA]at ι V;have η:rs.length=(ak u).2.length:=V.1;have hrs:rs≠[]:=λe=>hne (KD (by rw [<-η,e];rfl))
  refine nW κ.strs (by omega) λv4 w4 H ho4=>?_
  have hsn:a7 rs≠[]:=λe=>hrs (by have :=aO rs;rw [e]at this;exact this.symm.eq_nil)
  have hll:dq rs<=j6 (ak u).2:=V.Dp;refine tB ho4.strs hsn (by rw [mi (aO rs)];omega) ?_;exact h _ w4 (Kp.trans θ (Kp.ah H _) λ _ _ h=>h) (ι.ex H) ⟨rs,rfl,V⟩
end Go.Proofs.YtdecokaadekjnaaGreat
namespace Go.Proofs.YtdecokaadekjnaaGreat
open Classical
structure FP (u:U)(ρ:Rh)(tk:Tk):Prop where
 ok:∀y,u.Us y->tk (ρ y)=true/\lt (ρ y)=true
 inj:∀y z,u.Us y->u.Us z->ρ y=ρ z->y=z
theorem FP.sub {u v:U}{ρ:Rh}{tk:Tk}(h:FP u ρ tk)(G:∀y,v.Us y->u.Us y):FP v ρ tk:=
 ⟨λy H=>h.ok y (G y H),λy z H I=>h.inj y z (G y H) (G z I)⟩
def Gi (u:U)(ρ:Rh)(tk:Tk)(t:P)(v:U):Prop:=
 t.text=LS u ρ tk/\AE UInt8.toNat t (λy=>(ρ y).toNat) v/\t.Al (λc=>lt c=true)/\JF u v
def CX (u:U)(ρ:Rh)(tk:Tk)(t:P)(v:U):Prop:=
 t.text=thU u ρ tk/\AE UInt8.toNat t (λy=>(ρ y).toNat) v/\t.Al (λc=>lt c=true)/\Jz u v
end Go.Proofs.YtdecokaadekjnaaGreat
