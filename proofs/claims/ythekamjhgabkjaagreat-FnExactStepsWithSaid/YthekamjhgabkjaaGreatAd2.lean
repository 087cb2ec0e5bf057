/- Part 2 of a proof of what the last text states; no condition. -/
import Derived.Test.YthekamjhgabkjaaGreatAd1
set_option maxRecDepth 100000
set_option maxHeartbeats 4000000
namespace Go.Proofs.YthekamjhgabkjaaGreat
open Go Go.RowKit
theorem tK {s:Tx}{c:UInt8}(Z:s.length<=1099511627776){w:World}{R:aB->Re}(h:R (s.filter λd=>decide (d≠c)) w):Rf 140 #[.string (ak s),.int .u8 c.toNat] w (an [.s] R):=by
 refine uN s c w R ?_;dsimp only [go_sem];dsimp only [go_sem,Nat.reduceAdd];refine⟨λout i w'=>w=w'/\0<=i/\i<=s.length/\out=(s.take i.toNat).filter λd=>decide (d≠c),λ _ i _=>((s.length:Int) - i).toNat,⟨rfl,by omega,by omega,rfl⟩,λout i w1 J=>?_⟩;obtain⟨rfl,H,h1,rfl⟩:=J;refine⟨λG=>?_,λG=>?_⟩
 ·simp only [NX]at G;have hl:((s.take i.toNat).filter λd=>decide (d≠c)).length<=s.length:=OJ (Pk ..) (by rw [Ow];omega);refine⟨by omega,λhe=>?_,λhe=>?_⟩
  ·simp only [PQ,NV]at he;rw [xt H G];refine⟨by omega,by omega,by simp only [NI,NZ];omega,by omega,⟨rfl,by omega,by omega,?_⟩,by dsimp only;omega⟩;rw [gO H G,List.filter_append,List.filter_cons,if_pos (by simpa using he),List.filter_nil]
  ·simp only [Bool.not_eq_false',NX]at he;refine⟨by omega,⟨rfl,by omega,by omega,?_⟩,by dsimp only;omega⟩;rw [gO H G,List.filter_append,List.filter_cons,if_neg (by simpa using he),List.filter_nil,List.append_nil]
 ·simp only [NV]at G;have:i.toNat=s.length:=by omega
  rw [this,Oi];exact h
theorem lk {w1:World}(c:UInt8){H:World}{b:Nat}(hb:b=w1.heap.size)(h:H=w1.alloc (.cells #[.int .u8 c.toNat] 5)):
  ∀(j:Nat) (x:UInt8),[c][j]?=some x->H.cell? ⟨b,0+j,none⟩=some (.int .u8 x.toNat):=by
 intro j x G;subst hb h
 match j,G with
 | 0,G=>simp at G;subst G;exact aa rfl
 | j+1,G=>simp at G
theorem gL {s:Tx}{c:UInt8}(hs:lF s){w:World}{R:aB->Re}(h:∀s' w',Ex w w'->lF s'->(∀x,x∈s'↔x=c\/x∈s)->R s' w'):
  Rf 145 #[.string (ak s),.int .u8 c.toNat] w (an [.s] R):=by
 refine vS s c w R ?_;dsimp only [go_sem];dsimp only [go_sem,Nat.reduceAdd];have hl:=hs.bound;refine⟨λi w'=>w=w'/\0<=i/\i<=s.length/\∀j:Nat,j< i->bt s j< c,λi _=>((s.length:Int) - i).toNat,⟨rfl,by omega,by omega,λj hj=>by omega⟩,λi w1 hI=>?_⟩;obtain⟨rfl,h0,h1,h2⟩:=hI;have put:(i=s.length\/c< bt s i.toNat)->∀w1,w1=w.drew->(0<=i/\i<=s.length)/\(0<=i/\i<=s.length)/\∀(b9:Nat) (J:World),b9=w1.heap.size->J=w1.alloc (.cells #[.int .u8 c.toNat] 5)->
   True/\∃(δ ε ζ α:Nat) (H:aB),(Value.slice (some ⟨b9,0,none⟩) 1 1)=Value.slice (some ⟨δ,ε,none⟩) ζ α/\H.length=ζ/\(∀(j:Nat) (x:UInt8),H[j]?=some x->J.cell? ⟨δ,ε+j,none⟩=some (.int .u8 x.toNat))/\True/\
    ((s.take i.toNat).length+H.length<=4611686018427387904)/\((s.take i.toNat++H).length+(s.drop i.toNat).length<=4611686018427387904)/\R ((s.take i.toNat++H)++s.drop i.toNat) J:=by
  rintro hp w1 rfl
  refine⟨by omega,by omega,λb9 J hb hw=>⟨trivial,b9,0,1,1,[c],rfl,rfl,lk c hb hw,trivial,?_,?_,?_⟩⟩
  ·simp only [Ow,NI,NZ];omega
  ·simp only [NL,Ow,Ph,NI,NZ];omega
  ·have η:∀x∈s.take i.toNat,x< c:=by
    intro x G;obtain⟨j,hj,e⟩:=Ct G;rw [Ow]at hj;have:bt (s.take i.toNat) j=bt s j:=by simp only [bt,List.getD_eq_getElem?_getD];rw [O1 (by omega)]
    rw [<-e,this];exact h2 j (by omega)
   have θ:∀x∈s.drop i.toNat,c< x:=by
    rcases hp with hp | hp
    ·intro x G;rw [hp,NT,Py]at G;cases G
    ·intro x G;have hi:i.toNat< s.length:=by
      rcases Pu i.toNat s.length with h | h
      ·exact h
      ·rw [PD h]at G;cases G
     have hd:=bF hi;have ι:lF (s.drop i.toNat):=PT (List.drop_sublist _ _) hs;rw [hd]at G ι;rcases Oa.1 G with rfl | G
     ·exact hp
     ·exact UInt8.lt_trans hp ((Qx.1 ι).1 x G)
   refine h _ _ (hw▸(Ex.drew w).trans (Ex.alloc _ _)) ?_ ?_
   ·rw [Oq];refine List.pairwise_append.2 ⟨PT (List.take_sublist _ _) hs,?_,?_⟩
    ·exact Qx.2 ⟨θ,PT (List.drop_sublist _ _) hs⟩
    ·intro x G y hy;rcases Oa.1 hy with rfl | hy
     ·exact η x G
     ·exact UInt8.lt_trans (η x G) (θ y hy)
   ·intro x;have:x∈s↔x∈s.take i.toNat\/x∈s.drop i.toNat:=by rw [<-NU,O7]
    rw [this];simp only [NU,Oa,Qu,QV];constructor
    ·rintro((h | h) | h)
     ·exact .inr (.inl h)
     ·exact .inl h
     ·exact .inr (.inr h)
    ·rintro(h | h | h)
     ·exact .inl (.inr h)
     ·exact .inl (.inl h)
     ·exact .inr h
 have same:i< s.length->bt s i.toNat=c->R s w:=λhi he=>h s w (Ex.refl w) hs λx=>⟨.inr,λG=>G.elim (λe=>by rw [e,<-he];exact qO (by omega)) id⟩
 have fin:i< s.length->¬bt s i.toNat< c->¬bt s i.toNat=c->c< bt s i.toNat:=λ _ h1 h2=>by
  rcases UInt8.lt_or_lt_of_ne (QG h2)with h | h
  ·exact h
  ·exact absurd h h1
 refine⟨λhc=>?_,λhc=>?_⟩
 ·have Z:i< s.length:=by simpa using hc
  refine⟨by omega,λhb=>?_,λhb=>?_⟩
  ·simp only [NX]at hb;refine⟨by omega,⟨rfl,by omega,by omega,λj hj=>?_⟩,by dsimp only;omega⟩;rcases Pu j i.toNat with κ | κ
   ·exact h2 j (by omega)
   ·have:j=i.toNat:=by omega
    rw [this];exact hb
  ·simp only [NV]at hb;refine⟨λ _=>⟨by omega,λhe=>same Z (by simpa using he),λhe=>?_⟩,λβ=>absurd hc (by rw [β];simp)⟩;exact⟨λ _=>True,λw1 γ=>⟨trivial,put (.inr (fin Z hb (by simpa using he))) w1 γ⟩⟩
 ·have Z:i=s.length:=by simp at hc;omega
  refine⟨λβ=>absurd β (by rw [hc];simp),λ _=>?_⟩;exact⟨λ _=>True,λw1 γ=>⟨trivial,put (.inl Z) w1 γ⟩⟩
theorem jH {s t:Tx}(hs:lF s)(ht:t.length<=1099511627776){w:World}{R:aB->Re}(h:∀G w',Ex w w'->lF G->(∀x,x∈G↔x∈s\/x∈t)->R G w'):
  Rf 142 #[.string (ak s),.string (ak t)] w (an [.s] R):=by
 refine vy s t w R ?_;dsimp only [go_sem];dsimp only [go_sem,Nat.reduceAdd];refine⟨λout i w'=>Ex w w'/\0<=i/\i<=t.length/\lF out/\∀x,x∈out↔x∈s\/x∈t.take i.toNat,λ _ i _=>((t.length:Int) - i).toNat,⟨Ex.refl w,by omega,by omega,hs,by simp⟩,λout i w1 hI=>?_⟩;obtain⟨hx,h0,h1,h2,J⟩:=hI;refine⟨λH=>?_,λH=>?_⟩
 ·simp only [NX]at H;refine⟨by omega,gL h2 λG w' Z α hm=>⟨by omega,⟨hx.trans Z,by omega,by omega,α,λx=>?_⟩,by dsimp only;omega⟩⟩;rw [hm,J,gO h0 H,List.mem_append,List.mem_singleton];constructor
  ·rintro(h | h | h)
   ·exact .inr (.inr h)
   ·exact .inl h
   ·exact .inr (.inl h)
  ·rintro(h | h | h)
   ·exact .inr (.inl h)
   ·exact .inr (.inr h)
   ·exact .inl h
 ·simp only [NV]at H;have:i.toNat=t.length:=by omega
  rw [this,Oi]at J;exact h out w1 hx h2 J
def vK (s:Tx)(c:UInt8):Prop:=
 wQ (λd=>decide (d∈s))=some c\/
 (wQ (λd=>decide (d∈s))=none/\128<=c/\c<=191/\(∀d:UInt8,128<=d->d< c->d∈s)/\(c∉s\/c=191))
theorem CS (i:Nat)(h:i< EG.length):EG[i]=UInt8.ofNat (97+i):=by
 simp [EG]
theorem uR {f:UInt8->Bool}{c:UInt8}(G:97<=c)(H:c<=122)(J:f c=true)(Z:∀d:UInt8,97<=d->d< c->f d=false):EG.find? f=some c:=by
 have α:97<=c.toNat:=Ob.1 G;have β:c.toNat<=122:=Ob.1 H;have hl:EG.length=26:=by simp [EG]
 rw [List.find?_eq_some_iff_getElem];refine⟨J,c.toNat - 97,by omega,?_,λj hj=>?_⟩
 ·rw [CS];apply N4.1;rw [O3];omega
 ·rw [CS];have e:(UInt8.ofNat (97+j)).toNat=97+j:=by rw [O3];omega
  rw [Z _ (Ob.2 (by rw [e];show 97<=_;omega)) (OF.2 (by omega))];rfl
theorem xE {f:UInt8->Bool}(G:∀d:UInt8,97<=d->d<=122->f d=false):EG.find? f=none:=by
 rw [List.find?_eq_none];intro d hd;have H:EG.length=26:=by simp [EG]
 obtain⟨j,J,rfl⟩:=OX.1 hd;rw [CS];have e:(UInt8.ofNat (97+j)).toNat=97+j:=by rw [O3];omega
 rw [G _ (Ob.2 (by rw [e];show 97<=_;omega)) (Ob.2 (by rw [e];show _<=122;omega))];simp
theorem jw {s:Tx}(hs:s.length<=1099511627776){w:World}{R:UInt8->Re}(h:∀c,vK s c->R c w):Rf 78 #[.string (ak s)] w (an [.c] R):=by
 refine sR s w R ?_;dsimp only [go_sem];dsimp only [go_sem,UInt8.reduceOfNat];refine⟨λc w'=>w=w'/\97<=c/\c<=123/\∀d:UInt8,97<=d->d< c->d∈s,λc _=>200 - c.toNat,⟨rfl,by decide,by decide,λd h1 h2=>absurd (UInt8.lt_of_le_of_lt h1 h2) (UInt8.lt_irrefl _)⟩,λc w1 hI=>?_⟩;obtain⟨rfl,h0,h1,h2⟩:=hI;have θ:=Ob.1 h0;have ι:=Ob.1 h1;refine⟨λJ=>dW hs ?_,λJ=>?_⟩
 ·simp only [NX]at J;have γ:=Ob.1 J;refine⟨λhm=>?_,λhm=>?_⟩
  ·simp only [PQ,NV]at hm;refine h c (.inl (uR h0 J (by simpa using hm) λd G H=>by simpa using h2 d G H))
  ·simp only [Bool.not_eq_false',NX]at hm;have e:(c+1).toNat=c.toNat+1:=by rw [QW];show(c.toNat+1) % 256=_;exact Nat.mod_eq_of_lt (by have:(122:UInt8).toNat=122:=rfl;omega)
   have δ:(122:UInt8).toNat=122:=rfl;have ζ:(123:UInt8).toNat=123:=rfl;have κ:(97:UInt8).toNat=97:=rfl;refine⟨⟨rfl,Ob.2 (by omega),Ob.2 (by omega),λd G H=>?_⟩,by dsimp only;omega⟩;have β:=OF.1 H;by_cases Z:d=c
   ·rw [Z];exact hm
   ·refine h2 d G (OF.2 ?_);have:d.toNat≠c.toNat:=λe=>Z (N4.1 e)
    omega
 ·simp only [NV]at J;have γ:¬c.toNat<=122:=λhh=>J (Ob.2 hh)
  have α:wQ (λd=>decide (d∈s))=none:=by
   refine xE λd G H=>?_
   have β:=Ob.1 H;have δ:(122:UInt8).toNat=122:=rfl;simpa using h2 d G (OF.2 (by omega))
  refine⟨λc w'=>w=w'/\128<=c/\c<=191/\∀d:UInt8,128<=d->d< c->d∈s,λc _=>200 - c.toNat,⟨rfl,by decide,by decide,λd h1 h2=>absurd (UInt8.lt_of_le_of_lt h1 h2) (UInt8.lt_irrefl _)⟩,λc w1 hI=>?_⟩;obtain⟨rfl,k0,k1,k2⟩:=hI;have μ:=Ob.1 k0;have ν:=Ob.1 k1;refine⟨λJ=>dW hs ?_,λJ=>?_⟩
  ·simp only [NX]at J;have γ:=OF.1 J;have ε:(191:UInt8).toNat=191:=rfl;have η:(128:UInt8).toNat=128:=rfl;refine⟨λhm=>?_,λhm=>?_⟩
   ·simp only [NX]at hm;have e:(c+1).toNat=c.toNat+1:=by rw [QW];show(c.toNat+1) % 256=_;exact Nat.mod_eq_of_lt (by omega)
    refine⟨⟨rfl,Ob.2 (by omega),Ob.2 (by omega),λd G H=>?_⟩,by dsimp only;omega⟩;have β:=OF.1 H;by_cases Z:d=c
    ·rw [Z];exact hm
    ·refine k2 d G (OF.2 ?_);have:d.toNat≠c.toNat:=λe=>Z (N4.1 e)
     omega
   ·simp only [NV]at hm;exact h c (.inr ⟨α,k0,k1,k2,.inl hm⟩)
  ·simp only [NV]at J;have γ:¬c.toNat< 191:=λhh=>J (OF.2 hh)
   have ε:(191:UInt8).toNat=191:=rfl;exact h c (.inr ⟨α,k0,k1,k2,.inr (N4.1 (by omega))⟩)
theorem aW (t:P):t.size=1+(t.parts.map T.size).sum:=by
 cases t<;>simp [T.size,T.parts]<;>omega
theorem Bo (l:List P)(k:Nat):((l.take k).map T.size).sum<=(l.map T.size).sum:=by
 conv=>rhs;rw [<-O7 k l]
 rw [Oy,QA];omega
theorem dG (t:P):t.parts.length<=2:=by cases t<;>simp [T.parts]
theorem eG {t p:P}(h:p∈t.parts):p.size< t.size:=by
 cases t<;>simp only [T.parts,Oa,Qu,QV,List.mem_nil_iff]at h<;>simp only [T.size]
 all_goals first | exact h.elim | (rcases h with rfl | rfl<;>omega) | (subst h;omega)
theorem HE:∀(n:Nat) {t:P},t.size<=n->Ok t->∀{w:World} {R:Int->Re},(∀w',Ex w w'->R (t.size:Int) w')->Rf 131 #[.string (ak t.text)] w (an [.i] R):=by
 intro n
 induction n with
 | zero=>intro t h;have :=aW t;omega
 | succ n ih=>
  intro t hn ok w R h;refine tF _ w R ?_;dsimp only [go_sem];dsimp only [go_sem,Nat.reduceAdd];refine da ok λv w1 hx hs=>?_
  obtain⟨a,cap,hv⟩:=hs.slice;rw [NY]at hv;have β:=bw t;have hle:=ok.len;refine⟨a,t.parts.length,cap,hv,λm x w'=>Ex w w'/\Strs w' v (t.parts.map T.text)/\∃k:Nat,x=k/\k<=t.parts.length/\m=1+(((t.parts.take k).map T.size).sum:Int),λ _ x _=>((t.parts.length:Int) - x).toNat,
   ⟨hx,hs,0,rfl,by omega,by simp⟩,λm x w2 hI=>?_⟩
  obtain⟨H,J,k,rfl,hk,rfl⟩:=hI;refine⟨λhc=>?_,λhc=>?_⟩
  ·have G:k< t.parts.length:=by simpa using hc
   obtain⟨b,o,cp,e1,e2,e3⟩:=J.at (i:=k) (by rw [NY];exact G);rw [NY]at e1;refine⟨b,o,t.parts.length,cp,e1,by omega,by omega,(t.parts[k]).text,?_,?_⟩
   ·rw [NT,Oj,e3,P1]
   ·have hm:t.parts[k]∈t.parts:=NO G;refine ih (by have :=eG hm;omega) (ok.parts _ hm) λw3 Z=>?_
    have α:((t.parts.take (k+1)).map T.size).sum=((t.parts.take k).map T.size).sum+(t.parts[k]).size:=by
     rw [NR G,Oy,QA];simp
    have h1:=Bo t.parts (k+1);have h2:=aW t;have h3:=dG t;refine⟨by omega,by omega,⟨H.trans Z,J.ex Z,k+1,by omega,G,by rw [α];omega⟩,by dsimp only;omega⟩
  ·have G:k=t.parts.length:=by simp at hc;omega
   subst G;have e:=aW t;rw [Oi];have:(1:Int)+((t.parts.map T.size).sum:Int)=(t.size:Int):=by omega
   rw [this];exact h _ H
def ef (c:UInt8):Bool:= !((65<=c&&c<=90)||128<=c)
theorem Fk {p:Tx}(hp:p.length<=1099511627776){w:World}{R:Bool->Re}(h:R (p.all ef) w):Rf 158 #[.string (ak p)] w (an [.b] R):=by
 refine sJ p w R ?_;dsimp only [go_sem];dsimp only [go_sem,Nat.reduceAdd];refine⟨λi w'=>w=w'/\0<=i/\i<=p.length/\∀j:Nat,j< i->ef (bt p j)=true,λi _=>((p.length:Int) - i).toNat,⟨rfl,by omega,by omega,λj J=>by omega⟩,λi w1 hI=>?_⟩;obtain⟨rfl,h0,h1,Z⟩:=hI;have bad:i< p.length->ef (bt p i.toNat)=false->R false w:=λhi hb=>by
  have:p.all ef=false:=by
   rw [List.all_eq_false];exact⟨bt p i.toNat,qO (by omega),by simp [hb]⟩
  rw [this]at h;exact h
 have next:i< p.length->ef (bt p i.toNat)=true->bG (i+1)/\(w=w/\0<=i+1/\i+1<=p.length/\∀j:Nat,j< i+1->ef (bt p j)=true)/\((p.length:Int) - (i+1)).toNat< ((p.length:Int) - i).toNat:=λhi hb=>by
  refine⟨by omega,⟨rfl,by omega,by omega,λj J=>?_⟩,by omega⟩;rcases Pu j i.toNat with H | H
  ·exact Z j (by omega)
  ·have:j=i.toNat:=by omega
   rw [this];exact hb
 refine⟨λG=>?_,λG=>?_⟩
 ·simp only [NX]at G;refine⟨by omega,λa1=>⟨by omega,λa2=>⟨by omega,λa3=>bad G ?_,λa3=>next G ?_⟩,λa2=>bad G ?_⟩,λa1=>⟨by omega,λa3=>bad G ?_,λa3=>next G ?_⟩⟩<;>
   simp_all [ef]
 ·simp only [NV]at G;have:p.all ef=true:=by
   rw [Pw];intro x hx;obtain⟨j,J,rfl⟩:=Ct hx;exact Z j (by omega)
  rw [this]at h;exact h
def T.lw:P->Bool
 | .nil=>true | .snd a b p=>lt a&&lt b&&p.lw | .rcv a b p=>lt a&&lt b&&p.lw | .tau p=>p.lw | .sum p q=>p.lw&&q.lw
 | .par p q=>p.lw&&q.lw | .res x p=>lt x&&p.lw | .mat a b p=>lt a&&lt b&&p.lw | .rep p=>p.lw
theorem im {c:UInt8}(h:lt c=true):nm c=true/\ef c=true:=by
 simp only [lt,NM,NX]at h;have Z:=Ob.1 h.1;have h2:=Ob.1 h.2;refine⟨by simp [nm,h.1,h.2],?_⟩;have J:(97:UInt8).toNat=97:=rfl;have H:(122:UInt8).toNat=122:=rfl;simp only [ef,PQ,Pf,Bool.and_eq_false_iff,NV];refine⟨.inr λG=>?_,λG=>?_⟩
 ·have :=Ob.1 G;have e:(90:UInt8).toNat=90:=rfl;omega
 ·have :=Ob.1 G;have e:(128:UInt8).toNat=128:=rfl;omega
theorem vn {c:UInt8}(h:nm c=true)(k:ef c=true):lt c=true:=by
 simp only [nm,lt,ef,Pb,NM,NX,PQ,Pf,Bool.and_eq_false_iff,NV]at*;rcases h with(h | h) | h
 ·exact h
 ·exact absurd h (by rcases k.1 with k | k<;>simp [k])
 ·exact absurd h k.2
theorem jc:∀{t:P},t.lw=true->t.wf=true/\t.text.all ef=true
 | .nil,_=>⟨rfl,rfl⟩
 | .snd a b p,h=>by
  simp only [T.lw,NM]at h;have :=jc h.2;simp [T.wf,T.text,(im h.1.1).1,(im h.1.1).2,(im h.1.2).1,(im h.1.2).2,this.1,this.2];decide
 | .rcv a b p,h=>by
  simp only [T.lw,NM]at h;have :=jc h.2;simp [T.wf,T.text,(im h.1.1).1,(im h.1.1).2,(im h.1.2).1,(im h.1.2).2,this.1,this.2];decide
 | .mat a b p,h=>by
  simp only [T.lw,NM]at h;have :=jc h.2;simp [T.wf,T.text,(im h.1.1).1,(im h.1.1).2,(im h.1.2).1,(im h.1.2).2,this.1,this.2];decide
 | .res x p,h=>by
  simp only [T.lw,NM]at h;have :=jc h.2;simp [T.wf,T.text,(im h.1).1,(im h.1).2,this.1,this.2];decide
 | .tau p,h=>by have :=jc (t:=p) h;simp [T.wf,T.text,this.1,this.2];decide
 | .rep p,h=>by have :=jc (t:=p) h;simp [T.wf,T.text,this.1,this.2];decide
 | .sum p q,h=>by
  simp only [T.lw,NM]at h;have G:=jc h.1;have H:=jc h.2;simp [T.wf,T.text,G.1,G.2,H.1,H.2];decide
 | .par p q,h=>by
  simp only [T.lw,NM]at h;have G:=jc h.1;have H:=jc h.2;simp [T.wf,T.text,G.1,G.2,H.1,H.2];decide
theorem lf:∀{t:P},t.wf=true->t.text.all ef=true->t.lw=true
 | .nil,_,_=>rfl
 | .snd a b p,h,k=>by
  simp only [T.wf,T.text,NM,O0]at h k;simp [T.lw,vn h.1.1 k.1,vn h.1.2 k.2.2.1,lf h.2 k.2.2.2.2]
 | .rcv a b p,h,k=>by
  simp only [T.wf,T.text,NM,O0]at h k;simp [T.lw,vn h.1.1 k.1,vn h.1.2 k.2.2.1,lf h.2 k.2.2.2.2]
 | .mat a b p,h,k=>by
  simp only [T.wf,T.text,NM,O0]at h k;simp [T.lw,vn h.1.1 k.2.1,vn h.1.2 k.2.2.2.1,lf h.2 k.2.2.2.2.2]
 | .res x p,h,k=>by
  simp only [T.wf,T.text,NM,O0]at h k;simp [T.lw,vn h.1 k.2.1,lf h.2 k.2.2.2]
 | .tau p,h,k=>by simp only [T.text,NM,O0]at k;exact lf (t:=p) h k.2.2
 | .rep p,h,k=>by simp only [T.text,NM,O0]at k;exact lf (t:=p) h k.2
 | .sum p q,h,k=>by
  simp only [T.wf,T.text,NM,O0,Qn]at h k;simp [T.lw,lf h.1 k.2.1,lf h.2 k.2.2.2.1]
 | .par p q,h,k=>by
  simp only [T.wf,T.text,NM,O0,Qn]at h k;simp [T.lw,lf h.1 k.2.1,lf h.2 k.2.2.2.1]
structure Good (t:P):Prop where
 lw:t.lw=true
 len:t.text.length<=300
 size:t.size<=60
theorem Good.ok {t:P}(h:Good t):Ok t:=⟨(jc h.lw).1,by have :=h.len;omega⟩
theorem xJ {p:Tx}{w:World}{R:Bool->Re}(h:∀b w',Ex w w'->(b=true↔∃t:P,Good t/\t.text=p)->R b w'):Rf 88 #[.string (ak p)] w (an [.b] R):=by
 refine vj p w R ?_;dsimp only [go_sem];by_cases hp:p.length<=1099511627776
 rotate_left
 ·exact aU (by omega) (h _ _ (Ex.refl w) ⟨λH=>by simp at H,fun⟨t,G,e⟩=>by have :=G.len;rw [e]at this;omega⟩)
 refine⟨λJ=>Fk hp ⟨λZ=>?_,λZ=>?_⟩,λJ=>?_⟩
 ·simp only [NX]at J;refine qf p (by omega) (p.length+1) 0 (by omega) (by omega) (by omega) ⟨λhe=>?_,λhe=>?_⟩
  ·simp only [NX]at he;obtain⟨t,hw,G⟩:=C5 (l:=p) (p.length+1) 0 (by show 0<=endI p _ 0;omega);have e0:endI p (p.length+1) ((0:Nat):Int)=p.length:=he;rw [e0,NT,Py,Of,Pz]at G;subst G;have α:=lf hw Z;refine HE t.size (NP _) ⟨hw,hp⟩ λw' hx=>h _ _ hx ?_
   simp only [NX];constructor
   ·intro β;exact⟨t,⟨α,by omega,by omega⟩,rfl⟩
   ·rintro⟨u,hu,e⟩
    have h1:=xB (l:=t.text) u (u.size+t.size) 0 [] hu.ok.wf (by omega) (by simp [e]);have:u=t:=by
     exact(ld hu.ok.wf hw (r:=[]) (r':=[]) (by simpa using e)).1
    rw [<-this];exact_mod_cast hu.size
  ·simp only [NV]at he;refine h _ _ (Ex.refl w) ⟨λH=>by simp at H,?_⟩
   rintro⟨t,G,rfl⟩
   exact absurd (by simpa using oO t G.ok.wf t.text 0 [] (by simp) (t.text.length+1) (by omega)) he
 ·refine h _ _ (Ex.refl w) ⟨λH=>by simp at H,?_⟩
  rintro⟨t,G,rfl⟩
  rw [(jc G.lw).2]at Z;cases Z
 ·simp only [NV]at J;refine h _ _ (Ex.refl w) ⟨λH=>by simp at H,?_⟩
  rintro⟨t,G,rfl⟩
  have :=G.len;exact absurd (by omega) J
theorem Gl {p:Tx}(G:p.length<=1099511627776){w:World}{R:Bool->Re}(h:∀b w',Ex w w'->(b=true↔∃t:P,Good t/\t.text=p)->R b w'):Rf 88 #[.string (ak p)] w (an [.b] R):=xJ h
namespace T
def map {A B:Type}(f:A->B):T A->T B
 | nil=>nil | snd a b p=>snd (f a) (f b) (p.map f) | rcv a x p=>rcv (f a) (f x) (p.map f) | tau p=>tau (p.map f)
 | sum p q=>sum (p.map f) (q.map f) | par p q=>par (p.map f) (q.map f) | res x p=>res (f x) (p.map f) | mat a b p=>mat (f a) (f b) (p.map f) | rep p=>rep (p.map f)
def shp {A:Type}(p:T A):T Unit:=p.map λ _=>()
def aH {A:Type}:T A->Nat
 | nil=>1 | snd _ _ p=>p.aH+4 | rcv _ _ p=>p.aH+4 | tau p=>p.aH+2 | sum p q=>p.aH+q.aH+3 | par p q=>p.aH+q.aH+3
 | res _ p=>p.aH+3 | mat _ _ p=>p.aH+5 | rep p=>p.aH+1
def bd {A:Type}:T A->Nat
 | nil=>0 | snd _ _ p=>p.bd | rcv _ _ p=>p.bd+1 | tau p=>p.bd | sum p q=>max p.bd q.bd | par p q=>max p.bd q.bd
 | res _ p=>p.bd+1 | mat _ _ p=>p.bd | rep p=>p.bd
def rd {A:Type}:T A->Nat
 | nil=>0 | snd _ _ p=>p.rd | rcv _ _ p=>p.rd+1 | tau p=>p.rd | sum p q=>max p.rd q.rd | par p q=>max p.rd q.rd
 | res _ p=>p.rd | mat _ _ p=>p.rd | rep p=>p.rd
def ow {A:Type}:T A->Nat
 | nil=>0 | snd _ _ p=>p.ow | rcv _ _ p=>p.ow | tau p=>p.ow | sum p q=>p.ow+q.ow | par p q=>p.ow+q.ow
 | res _ p=>p.ow+1 | mat _ _ p=>p.ow | rep p=>p.ow
def pm {A:Type}:T A->Nat
 | par p q=>max p.pm q.pm | res _ p=>p.pm+1
 | nil=>0 | snd _ _ p=>p.rd+p.ow | rcv _ _ p=>p.rd+1+p.ow | tau p=>p.rd+p.ow | sum p q=>max p.rd q.rd+(p.ow+q.ow) | mat _ _ p=>p.rd+p.ow | rep p=>p.rd+p.ow
section
variable {A B:Type}
theorem size_map (f:A->B)(p:T A):(p.map f).size=p.size:=by induction p<;>simp_all [map,size]
theorem Gg (f:A->B)(p:T A):(p.map f).aH=p.aH:=by induction p<;>simp_all [map,aH]
theorem K0 (f:A->B)(p:T A):(p.map f).bd=p.bd:=by induction p<;>simp_all [map,bd]
theorem CJ (f:A->B)(p:T A):(p.map f).rd=p.rd:=by induction p<;>simp_all [map,rd]
theorem zC (f:A->B)(p:T A):(p.map f).ow=p.ow:=by induction p<;>simp_all [map,ow]
theorem KE (f:A->B)(p:T A):(p.map f).pm=p.pm:=by induction p<;>simp_all [map,pm,CJ,zC]
theorem gd (p:T A):p.pm<=p.rd+p.ow:=by induction p<;>simp only [pm,rd,ow]<;>omega
theorem qi {p:T A}{q:T B}(h:p.shp=q.shp):p.size=q.size:=by
 have :=ON size h;simpa [shp,size_map]using this
theorem gn {p:T A}{q:T B}(h:p.shp=q.shp):p.aH=q.aH:=by
 have :=ON aH h;simpa [shp,Gg]using this
theorem LL {p:T A}{q:T B}(h:p.shp=q.shp):p.bd=q.bd:=by
 have :=ON bd h;simpa [shp,K0]using this
theorem Li {p:T A}{q:T B}(h:p.shp=q.shp):p.rd=q.rd:=by
 have :=ON rd h;simpa [shp,CJ]using this
theorem H5 {p:T A}{q:T B}(h:p.shp=q.shp):p.ow=q.ow:=by
 have :=ON ow h;simpa [shp,zC]using this
theorem uJ {p:T A}{q:T B}(h:p.shp=q.shp):p.pm=q.pm:=by
 have :=ON pm h;simpa [shp,KE]using this
theorem vz (p:T A):p.bd<=p.rd+p.ow:=by induction p<;>simp only [bd,rd,ow]<;>omega
theorem uT:∀p:T A,p.bd<=p.pm
 | nil=>NP _
 | par p q=>by have :=uT p;have :=uT q;simp only [bd,pm];omega
 | res _ p=>by have :=uT p;simp only [bd,pm];omega
 | snd _ _ p | tau p | mat _ _ p | rep p=>vz p
 | rcv _ _ p=>by have :=vz p;simp only [bd,pm];omega
 | sum p q=>by have :=vz p;have :=vz q;simp only [bd,pm];omega
theorem bW (p:T A):p.rd+p.ow+1<=p.size:=by induction p<;>simp only [size,rd,ow]<;>omega
end
theorem aN (p:P):p.text.length=p.aH:=by
 induction p<;>simp_all [text,aH]<;>omega
end T
def okn (k:Nat)(x:UInt8):Prop:=x.toNat< 128+k\/192<=x.toNat
theorem okn.mono {k m:Nat}{x:UInt8}(h:okn k x)(G:k<=m):okn m x:=by unfold okn at*;omega
def ngr (x:UInt8):Prop:=x.toNat< 65\/(90< x.toNat/\x.toNat< 192)
def Eb:Nat->P->Prop
 | _,.nil=>True
 | k,.snd a b p=>okn k a/\okn k b/\Eb k p
 | k,.rcv a x p=>okn k a/\(ngr x/\∀z,p.Fr z->z≠x->okn k z)/\Eb (k+1) p
 | k,.tau p=>Eb k p
 | k,.sum p q=>Eb k p/\Eb k q
 | k,.par p q=>Eb k p/\Eb k q
 | k,.res x p=>(ngr x/\∀z,p.Fr z->z≠x->okn k z)/\Eb (k+1) p
 | k,.mat a b p=>okn k a/\okn k b/\Eb k p
 | k,.rep p=>Eb k p
theorem Eb.free:∀{p:P} {k:Nat},Eb k p->∀z,p.Fr z->okn k z
 | .nil,_,_,_,h=>h.elim
 | .snd a b p,k,e,z,h=>by
  rcases h with rfl | rfl | h
  ·exact e.1
  ·exact e.2.1
  ·exact Eb.free e.2.2 z h
 | .mat a b p,k,e,z,h=>by
  rcases h with rfl | rfl | h
  ·exact e.1
  ·exact e.2.1
  ·exact Eb.free e.2.2 z h
 | .rcv a x p,k,e,z,h=>by
  rcases h with rfl | h
  ·exact e.1
  ·exact e.2.1.2 z h.2 h.1
 | .res x p,k,e,z,h=>e.1.2 z h.2 h.1
 | .tau p,k,e,z,h=>Eb.free (p:=p) e z h
 | .rep p,k,e,z,h=>Eb.free (p:=p) e z h
 | .sum p q,k,e,z,h=>h.elim (Eb.free e.1 z) (Eb.free e.2 z)
 | .par p q,k,e,z,h=>h.elim (Eb.free e.1 z) (Eb.free e.2 z)
theorem Eb.mono:∀{p:P} {k m:Nat},Eb k p->k<=m->Eb m p
 | .nil,_,_,_,_=>trivial
 | .snd a b p,k,m,e,h=>⟨e.1.mono h,e.2.1.mono h,Eb.mono e.2.2 h⟩
 | .mat a b p,k,m,e,h=>⟨e.1.mono h,e.2.1.mono h,Eb.mono e.2.2 h⟩
 | .rcv a x p,k,m,e,h=>⟨e.1.mono h,⟨e.2.1.1,λz G H=>(e.2.1.2 z G H).mono h⟩,Eb.mono e.2.2 (by omega)⟩
 | .res x p,k,m,e,h=>⟨⟨e.1.1,λz G H=>(e.1.2 z G H).mono h⟩,Eb.mono e.2 (by omega)⟩
 | .tau p,k,m,e,h=>Eb.mono (p:=p) e h
 | .rep p,k,m,e,h=>Eb.mono (p:=p) e h
 | .sum p q,k,m,e,h=>⟨Eb.mono e.1 h,Eb.mono e.2 h⟩
 | .par p q,k,m,e,h=>⟨Eb.mono e.1 h,Eb.mono e.2 h⟩
theorem n7 {k:Nat}{c:UInt8}(h:lt c=true):okn k c:=by
 simp only [lt,NM,NX]at h;have H:=Ob.1 h.2;have G:(122:UInt8).toNat=122:=rfl;left;omega
theorem aC.free {p q:P}{old nm:UInt8}(h:aC p old nm q)(z:UInt8)(H:q.Fr z):z=nm\/(z≠old/\p.Fr z)\/(z=old/\p.Fr z/\old=nm):=by
 obtain⟨y,J,e⟩:=(h UInt8.toNat).symm.free z H;unfold aG at e;split at e
 ·left;exact(N4.1 e).symm
 ·rename_i G;have:y=z:=N4.1 e;subst this;exact .inr (.inl ⟨G,J⟩)
structure dj (k:Nat)(p:P)(old nm:UInt8)(q:P):Prop where
 ok:aC p old nm q
 shp:q.shp=p.shp
 wf:q.wf=true
 eb:Eb k q
theorem lR {c old nm:UInt8}{w:World}{R:UInt8->Re}(h:R (sw c old nm) w):Rf 181 #[.int .u8 c.toNat,.int .u8 old.toNat,.int .u8 nm.toNat] w (an [.c] R):=by
 refine tP c old nm w R ?_;dsimp only [go_sem];unfold sw at h;refine⟨λG=>?_,λG=>?_⟩
 ·rw [Om (N8 G)]at h;exact h
 ·rw [N2 (N9 G)]at h;exact h
def T.bindC:P->UInt8
 | .rcv _ x _=>x | .res x _=>x | _=>0
def T.rK:P->Bool
 | .rcv .. =>true | .res .. =>true | _=>false
theorem qN {t:P}(ok:Ok t){w:World}{R:UInt8->Bool->Re}(h:R t.bindC t.rK w):Rf 143 #[.string (ak t.text)] w (an [.c,.b] R):=by
 refine sG _ w R ?_;dsimp only [go_sem];refine aO ok ?_;cases t<;>simp only [T.kind]<;>repeat' first | refine aU (by decide) ?_ | refine db (by decide) ?_
 all_goals first
  | exact h
  | (refine⟨by simp only [T.text,NI];omega,?_⟩;exact h)
def T.names:P->Tx
 | .snd a b _=>[a,b] | .rcv a _ _=>[a] | .mat a b _=>[a,b] | _=>[]
theorem EN {t:P}(ok:Ok t){w:World}{R:aB->Re}(h:∀w',Ex w w'->R t.names w'):Rf 246 #[.string (ak t.text)] w (an [.s] R):=by
 refine r9 _ w R ?_;dsimp only [go_sem];refine aO ok ?_;cases t<;>simp only [T.kind]<;>repeat' first | refine aU (by decide) ?_ | refine db (by decide) ?_
 case nil=>exact h w (Ex.refl w)
 case tau=>exact h w (Ex.refl w)
 case sum=>exact h w (Ex.refl w)
 case par=>exact h w (Ex.refl w)
 case res=>exact h w (Ex.refl w)
 case rep=>exact h w (Ex.refl w)
 case rcv=>exact⟨by simp only [T.text,NI];omega,h w (Ex.refl w)⟩
 case snd=>exact⟨λ _=>True,λw1 G=>⟨trivial,by simp only [T.text,NI];omega,by simp only [T.text,NI];omega,by simp [T.text],h w1 (G▸Ex.drew w)⟩⟩
 case mat=>exact⟨λ _=>True,λw1 G=>⟨trivial,by simp only [T.text,NI];omega,by simp only [T.text,NI];omega,by simp [T.text],h w1 (G▸Ex.drew w)⟩⟩
theorem HB (t:P)(x:UInt8):t.Fr x↔x∈t.names\/(∃p∈t.parts,p.Fr x)/\¬(t.rK=true/\x=t.bindC):=by
 cases t<;>simp [T.Fr,T.names,T.parts,T.rK,T.bindC,QU,and_comm]
theorem lF.nil:lF []:=List.Pairwise.nil
theorem lF.filter {s:Tx}(h:lF s)(f:UInt8->Bool):lF (s.filter f):=PT (List.filter_sublist) h
theorem ic:∀(n:Nat) {t:P},t.size<=n->Ok t->∀{w:World} {R:aB->Re},(∀s w',Ex w w'->lF s->(∀x,x∈s↔t.Fr x)->R s w')->Rf 79 #[.string (ak t.text)] w (an [.s] R):=by
 intro n
 induction n with
 | zero=>intro t h;have :=aW t;omega
 | succ n ih=>
  intro t hn ok w R h;refine uL _ w R ?_;dsimp only [go_sem];dsimp only [go_sem,Nat.reduceAdd];refine da ok λv w1 hx hs=>?_
  obtain⟨a,cap,hv⟩:=hs.slice;rw [NY]at hv;refine⟨a,t.parts.length,cap,hv,λout x w'=>Ex w w'/\Strs w' v (t.parts.map T.text)/\lF out/\∃k:Nat,x=k/\k<=t.parts.length/\∀x,x∈out↔∃p∈t.parts.take k,p.Fr x,λ _ x _=>((t.parts.length:Int) - x).toNat,
   ⟨hx,hs,lF.nil,0,rfl,by omega,by simp⟩,λout x w2 hI=>?_⟩
  obtain⟨ε,ο,β,k,rfl,hk,hm⟩:=hI;refine⟨λhc=>?_,λhc=>?_⟩
  ·have H:k< t.parts.length:=by simpa using hc
   obtain⟨b,o,cp,e1,e2,e3⟩:=ο.at (i:=k) (by rw [NY];exact H);rw [NY]at e1;refine⟨b,o,t.parts.length,cp,e1,by omega,by omega,(t.parts[k]).text,?_,?_⟩
   ·rw [NT,Oj,e3,P1]
   ·have δ:t.parts[k]∈t.parts:=NO H;refine ih (by have :=eG δ;omega) (ok.parts _ δ) λs w3 γ υ ζ=>?_
    refine jH β (by have :=υ.bound;omega) λs' w4 J Z α=>?_
    have h3:=dG t;refine⟨by omega,⟨(ε.trans γ).trans J,(ο.ex γ).ex J,Z,k+1,by omega,H,λx=>?_⟩,by dsimp only;omega⟩;rw [α,hm,ζ,List.take_succ_eq_append_getElem H];simp only [NU,N0];constructor
    ·rintro(⟨p,hp,hf⟩ | hf)
     ·exact⟨p,.inl hp,hf⟩
     ·exact⟨_,.inr rfl,hf⟩
    ·rintro⟨p,hp | rfl,hf⟩
     ·exact .inl ⟨p,hp,hf⟩
     ·exact .inr hf
  ·have H:k=t.parts.length:=by simp at hc;omega
   subst H;rw [Oi]at hm;refine⟨λout w'=>Ex w w'/\lF out/\∀x,x∈out↔(∃p∈t.parts,p.Fr x)/\¬(t.rK=true/\x=t.bindC),qN ok ⟨λhb=>?_,λhb=>?_⟩,λς w3 hJ=>?_⟩
   ·refine tK (by have :=β.bound;omega) ⟨ε,β.filter _,λx=>?_⟩;simp [hm,hb]
   ·exact⟨ε,β,λx=>by simp [hm,hb]⟩
   obtain⟨γ,G,ζ⟩:=hJ;refine aO ok ?_;have done:∀s w',Ex w3 w'->lF s->(∀x,x∈s↔x∈t.names\/x∈ς)->R s w':=λs w' J Z α=>h s w' (γ.trans J) Z λx=>by rw [α,ζ,HB]
   cases t<;>simp only [T.kind]<;>repeat' first | refine aU (by decide) ?_ | refine db (by decide) ?_
   case nil=>exact done _ _ (Ex.refl _) G λx=>by simp [T.names]
   case tau=>exact done _ _ (Ex.refl _) G λx=>by simp [T.names]
   case sum=>exact done _ _ (Ex.refl _) G λx=>by simp [T.names]
   case par=>exact done _ _ (Ex.refl _) G λx=>by simp [T.names]
   case res=>exact done _ _ (Ex.refl _) G λx=>by simp [T.names]
   case rep=>exact done _ _ (Ex.refl _) G λx=>by simp [T.names]
   case rcv a x p=>
    refine⟨by simp only [T.text,NI];omega,gL G λs w4 J Z α=>done s w4 J Z λx=>?_⟩;rw [α];simp [T.names,T.text,bt]
   case snd a b p=>
    refine⟨λ _=>True,λw4 η=>⟨trivial,by simp only [T.text,NI];omega,by simp only [T.text,NI];omega,gL G λs w5 θ ι κ=>⟨trivial,gL ι λs' w6 μ ν ξ=>⟨trivial,done s' w6 (((η▸Ex.drew w3).trans θ).trans μ) ν λx=>?_⟩⟩⟩⟩;rw [ξ,κ];simp [T.names,T.text,bt,QU,or_left_comm]
   case mat a b p=>
    refine⟨λ _=>True,λw4 η=>⟨trivial,by simp only [T.text,NI];omega,by simp only [T.text,NI];omega,gL G λs w5 θ ι κ=>⟨trivial,gL ι λs' w6 μ ν ξ=>⟨trivial,done s' w6 (((η▸Ex.drew w3).trans θ).trans μ) ν λx=>?_⟩⟩⟩⟩;rw [ξ,κ];simp [T.names,T.text,bt,QU,or_left_comm]
structure rX (w:World)(b:Nat)(l:Tx):Prop where
 lt:b< w.heap.size
 cell:∀j,j< l.length->w.cell? ⟨b,j,none⟩=some (.int .u8 (bt l j).toNat)
 fz:∀j,j< l.length->w.frozen? ⟨b,j,none⟩=false
theorem rX.Gs {w:World}{el b:Nat}{l:Tx}(h:yE w el b l):rX w b l:=by
 obtain⟨cur,lo,hi,G,J,Z,h4⟩:=h;have hb:b< w.heap.size:=by
  rcases Pu b w.heap.size with h | h
  ·exact h
  ·rw [Array.getElem?_eq_none h]at G;cases G
 refine⟨hb,λj H=>?_,λj H=>?_⟩
 ·unfold World.cell?;rw [G];have e:=ON (λl=>l[j]?) J;simp only [dO,Qh,H,PK,PB,NK H,Pj]at e;simp only [Option.isSome_none,PE,Qo];rw [<-OZ,e];simp [bt,H]
 ·unfold World.frozen?;rw [G];simp;omega
theorem rX.ex {w w':World}{b:Nat}{l:Tx}(h:rX w b l)(k:Ex w w'):rX w' b l:=
 ⟨Od h.lt k.size,λj G=>by rw [k.cell h.lt];exact h.cell j G,λj G=>by rw [PH k h.lt];exact h.fz j G⟩
theorem KI {l:Tx}{i j:Nat}{c:UInt8}(hi:i< l.length):bt (l.set i c) j=if i=j then c else bt l j:=by
 simp only [bt,List.getD_eq_getElem?_getD,List.getElem?_set];by_cases h:i=j
 ·subst h;simp [hi]
 ·simp [h]
theorem rX.set {w:World}{b:Nat}{l:Tx}(h:rX w b l){i:Nat}(hi:i< l.length)(c:UInt8):rX (w.setCell ⟨b,i,none⟩ (.int .u8 c.toNat)) b (l.set i c):=by
 refine⟨by rw [Ox];exact h.lt,λj G=>?_,λj G=>?_⟩
 ·rw [O8]at G;rw [KI hi];by_cases e:i=j
  ·subst e;rw [Om rfl,N5 _ _ _ (h.cell i hi)]
  ·rw [N2 e,NQ _ _ _ _ (by simp [e])];exact h.cell j G
 ·rw [N6];exact h.fz j (by simpa using G)
theorem rX.read {w:World}{b:Nat}{l:Tx}(h:rX w b l):∀(j:Nat) (x:UInt8),l[j]?=some x->w.cell? ⟨b,0+j,none⟩=some (.int .u8 x.toNat):=by
 intro j x H;obtain⟨G,e⟩:=OL.1 H;rw [Og,h.cell j G];simp [bt,G,e]
theorem rX.at {w:World}{b:Nat}{l:Tx}(h:rX w b l){i:Nat}(hi:i< l.length):w.cell? ⟨b,0+i* 1,none⟩=some (.int .u8 (bt l i).toNat):=by
 rw [Og,Oj];exact h.cell i hi
theorem Ex.own {w w':World}(h:Ex w w'){b i:Nat}(hb:w.heap.size<=b)(v:Value):Ex w (w'.setCell ⟨b,i,none⟩ v):=Below.setCell h hb v
theorem Hl {t:P}(ok:Ok t){v:Value}{l:List Tx}{w:World}(hs:Strs w v l){R:aB->Re}
  (ν:(t.kind=43\/t.kind=38)->∃x y,l=[x,y]/\x.length+y.length<=1099511627776/\∀w',Ex w w'->R (40::(x++t.kind::(y++[41]))) w')
  (ξ:t.kind=48->R [48] w)
  (ο:t.kind≠48->t.kind≠43->t.kind≠38->∃x,l=[x]/\x.length<=1099511627776/\∀w',Ex w w'->R (t.text.take t.hd++x) w'):
  Rf 182 #[.string (ak t.text),v] w (an [.s] R):=by
 refine vA _ v w R ?_;dsimp only [go_sem];refine aO ok ?_;have two:∀(k:UInt8),(t.kind=k)->(k=43\/k=38)->∃S5:Re,∀w6:World,w6=World.drew w->S5 w6/\∃(b7 o8 δ ζ:Nat),v=Value.slice (some ⟨b7,o8,none⟩) δ ζ/\0<=(0:Int)/\(0:Int)< δ/\∃H:aB,(∀w',S5 w'->World.cell? w' ⟨b7,(o8+Int.toNat 0* 1),none⟩=some (Value.string (ak H)))/\(List.length [(40:UInt8)]+List.length H<=4611686018427387904)/\(List.length ([(40:UInt8)]++H)+List.length [k]<=4611686018427387904)/\∃(ς υ J η:Nat),v=Value.slice (some ⟨ς,υ,none⟩) J η/\0<=(1:Int)/\(1:Int)< J/\∃γ:aB,(∀w',S5 w'->World.cell? w' ⟨ς,(υ+Int.toNat 1* 1),none⟩=some (Value.string (ak γ)))/\(List.length (([(40:UInt8)]++H)++[k])+List.length γ<=4611686018427387904)/\(List.length ((([(40:UInt8)]++H)++[k])++γ)+List.length [(41:UInt8)]<=4611686018427387904)/\R ((((([(40:UInt8)]++H)++[k])++γ)++[(41:UInt8)])) w6:=by
  intro k hk ω;obtain⟨x,y,rfl,hl,hR⟩:=ν (hk▸ω);refine⟨λw'=>Strs w' v [x,y],λw6 Z=>?_⟩;have h6:Strs w6 v [x,y]:=Z▸hs.ex (Ex.drew w);obtain⟨b,o,cap,e1,e2,_⟩:=h6.at (i:=0) (by simp);refine⟨h6,b,o,2,cap,e1,by omega,by omega,x,λw' α=>?_,by simp;omega,by simp;omega,b,o,2,cap,e1,by omega,by omega,y,λw' α=>?_,by simp;omega,by simp;omega,?_⟩
  ·obtain⟨b',o',ε,G,_,e3⟩:=α.at (i:=0) (by simp);rw [e1]at G;cases G;exact e3
  ·obtain⟨b',o',ε,G,_,e3⟩:=α.at (i:=1) (by simp);rw [e1]at G;cases G;exact e3
  ·have :=hR w6 (Z▸Ex.drew w);rw [hk]at this;simpa using this
 have one:t.kind≠48->t.kind≠43->t.kind≠38->∃θ:Re,∀ι:World,ι=World.drew w->θ ι/\∃(φ χ β κ:Nat),v=Value.slice (some ⟨φ,χ,none⟩) β κ/\0<=(0:Int)/\(0:Int)< β/\∃μ:aB,(∀w',θ w'->World.cell? w' ⟨φ,(χ+Int.toNat 0* 1),none⟩=some (Value.string (ak μ)))/\Rf 180 #[(Value.string (ak t.text))] ι (an [.i] fun(n36:Int) (ψ:World)=>θ ψ/\(0<=(n36:Int)/\(n36:Int)<=List.length t.text)/\(List.length (List.take (Int.toNat n36) t.text)+List.length μ<=4611686018427387904)/\R (((List.take (Int.toNat n36) t.text)++μ)) ψ):=by
  intro h1 h2 h3;obtain⟨x,rfl,hl,hR⟩:=ο h1 h2 h3;refine⟨λw'=>Strs w' v [x],λw6 Z=>?_⟩;have h6:Strs w6 v [x]:=Z▸hs.ex (Ex.drew w);obtain⟨b,o,cap,e1,e2,_⟩:=h6.at (i:=0) (by simp);have hlen:=ok.len;have hd:t.hd<=t.text.length:=by
   cases t<;>simp only [T.kind,ne_eq,QE]at h1<;>simp only [T.hd,T.text,NI]<;>omega
  refine⟨h6,b,o,1,cap,e1,by omega,by omega,x,λw' α=>?_,cW ok ⟨h6,by omega,?_,?_⟩⟩
  ·obtain⟨b',o',ε,G,_,e3⟩:=α.at (i:=0) (by simp);rw [e1]at G;cases G;exact e3
  ·rw [Ow];omega
  ·rw [NT];exact hR w6 (Z▸Ex.drew w)
 refine⟨λh=>?_,λh=>⟨λh2=>two 43 (N8 h2) (.inl rfl),λh2=>⟨λh3=>two 38 (N8 h3) (.inr rfl),λh3=>one (N9 h) (N9 h2) (N9 h3)⟩⟩⟩;have hk:=N8 h;have :=ξ hk;cases t<;>first | exact this | (exact absurd hk (by simp [T.kind]))
theorem vK.ok {s:Tx}{c:UInt8}(h:vK s c){k:Nat}(hk:k<=63)(hs:∀d∈s,okn k d):c∉s/\okn (k+1) c/\nm c=true/\ngr c:=by
 rcases h with h | ⟨_,H,h2,h3,h4⟩
 ·have hm:=Qk h;have hp:=List.find?_some h;have G:lt c=true:=by
   obtain⟨i,hi,rfl⟩:=Ou.1 hm;rw [O6]at hi;have e:(UInt8.ofNat (97+i)).toNat=97+i:=by rw [O3];omega
   simp only [lt,NM,NX];exact⟨Ob.2 (by rw [e];show 97<=_;omega),Ob.2 (by rw [e];show _<=122;omega)⟩
  refine⟨by simpa using hp,n7 G,(im G).1,?_⟩;simp only [lt,NM,NX]at G;have H:=Ob.1 G.1;have h2:=Ob.1 G.2;have δ:(97:UInt8).toNat=97:=rfl;have α:(122:UInt8).toNat=122:=rfl;unfold ngr;omega
 ·have ε:=Ob.1 H;have ζ:=Ob.1 h2;have β:(128:UInt8).toNat=128:=rfl;have γ:(191:UInt8).toNat=191:=rfl;have hle:c.toNat<=128+k:=by
   rcases Pu (128+k) c.toNat with J | Z
   ·exfalso;have e:(UInt8.ofNat (128+k)).toNat=128+k:=by rw [O3];omega
    have hm:=h3 (UInt8.ofNat (128+k)) (Ob.2 (by rw [e];omega)) (OF.2 (by rw [e];exact J));have :=hs _ hm;unfold okn at this;rw [e]at this;omega
   ·exact Z
  refine⟨?_,.inl (by omega),?_,by unfold ngr;omega⟩
  ·rcases h4 with h4 | h4
   ·exact h4
   ·intro hm;have :=hs _ hm;unfold okn at this;subst h4;omega
  ·simp [nm,H]
def T.rebind (t:P)(old nw y:UInt8)(q:P):P:=match t with
 | .rcv a _ _=> .rcv (sw a old nw) y q
 | _=> .res y q
theorem AG {c old nw:UInt8}(G:nm c=true)(H:nm nw=true):nm (sw c old nw)=true:=by
 unfold sw;split<;>assumption
theorem ux {k:Nat}{c old nw:UInt8}(G:okn k c)(H:okn k nw):okn k (sw c old nw):=by
 unfold sw;split<;>assumption
structure KD (k:Nat)(t:P)(old nw:UInt8)(p:P):Prop where
 drop:t.text.drop t.hd=p.text
 ok:Ok p
 size:p.size< t.size
 eb:Eb (k+1) p
 bd:p.bd+1=t.bd
 okz:∀z,p.Fr z->z≠t.bindC->okn k z
 nmc:nm t.bindC=true
 ngc:ngr t.bindC
 under:∀q,t.bindC≠old->(t.bindC≠nw\/¬p.Fr old)->aC p old nw q->aC t old nw (t.rebind old nw t.bindC q)
 cap:∀y p1 p2,t.bindC=nw->nw≠old->¬p.Fr y->y≠old->y≠nw->aC p nw y p1->aC p1 old nw p2->aC t old nw (t.rebind old nw y p2)
 over:t.bindC=old->t.Fr old->aC t old nw (t.rebind old nw old p)
 fin:∀y q,aC t old nw (t.rebind old nw y q)->q.shp=p.shp->q.wf=true->nm y=true->ngr y->Eb (k+1) q->dj k t old nw (t.rebind old nw y q)
theorem E5 {k:Nat}{t:P}{old nw:UInt8}(ok:Ok t)(eb:Eb k t)(hn:nm nw=true)(kn:okn k nw)(hb:t.rK=true):∃p,KD k t old nw p:=by
 have hw:=ok.wf;have hl:=ok.len;have fr:∀q,aC t old nw q->∀z,q.Fr z->okn k z:=λq h z hz=>by
  rcases h.free z hz with rfl | h | h
  ·exact kn
  ·exact eb.free z h.2
  ·exact eb.free z h.2.1
 cases t with
 | rcv a x p=>
  simp only [T.wf,NM]at hw;simp only [T.text,NI]at hl;refine⟨p,rfl,⟨hw.2,by omega⟩,by simp only [T.size];omega,eb.2.2,rfl,eb.2.1.2,hw.1.2,eb.2.1.1,λq G H J=>aC.EL a G H J,λy p1 p2 G H J h4 h5 h6 h7=>?_,λG H=>?_,λy q G H J h4 hg h5=>⟨G,?_,?_,?_⟩⟩
  ·have G:x=nw:=G;subst G;exact aC.Ip a H J h4 h5 h6 h7
  ·have G:x=old:=G;subst G;exact aC.Hw a
  ·show T.rcv () () q.shp=T.rcv () () p.shp;rw [H]
  ·simp [T.rebind,T.wf,AG hw.1.1 hn,J,h4]
  ·exact⟨ux eb.1 kn,⟨hg,λz hz Z=>fr _ G z (.inr ⟨Z,hz⟩)⟩,h5⟩
 | res x p=>
  simp only [T.wf,NM]at hw;simp only [T.text,NI]at hl;refine⟨p,rfl,⟨hw.2,by omega⟩,by simp only [T.size];omega,eb.2,rfl,eb.1.2,hw.1,eb.1.1,λq G H J=>aC.Fl G H J,λy p1 p2 G H J h4 h5 h6 h7=>?_,λG H=>?_,λy q G H J h4 hg h5=>⟨G,?_,?_,?_⟩⟩
  ·have G:x=nw:=G;subst G;exact aC.I7 H J h4 h5 h6 h7
  ·have G:x=old:=G;exact absurd G.symm H.1
  ·show T.res () q.shp=T.res () p.shp;rw [H]
  ·simp [T.rebind,T.wf,J,h4]
  ·exact⟨⟨hg,λz hz Z=>fr _ G z ⟨Z,hz⟩⟩,h5⟩
 | _=>cases hb
theorem uM {w w':World}(h:w.grownBy w' none):Ex w w':=Below.grown (Ra _ _) h (NP _) (λk G=>by cases G)
theorem LC {t:P}(h:t.kind≠48):t.hd<=t.text.length:=by
 cases t<;>simp only [T.kind,ne_eq,QE]at h<;>simp only [T.hd,T.text,NI]<;>omega
theorem qB {w1:World}(c d:UInt8){H:World}{b:Nat}(hb:b=w1.heap.size)(h:H=w1.alloc (.cells #[.int .u8 c.toNat,.int .u8 d.toNat] 5)):
  b< H.heap.size/\∀(j:Nat) (x:UInt8),[c,d][j]?=some x->H.cell? ⟨b,0+j,none⟩=some (.int .u8 x.toNat):=by
 subst hb h;refine⟨by rw [size_alloc];omega,λj x G=>?_⟩;rw [Og]
 match j,G with
 | 0,G=>simp at G;subst G;exact aa rfl
 | 1,G=>simp at G;subst G;exact aa rfl
 | j+2,G=>simp at G
theorem dj.refl {k:Nat}{t:P}{old nw:UInt8}(h:aC t old nw t)(ok:Ok t)(eb:Eb k t):dj k t old nw t:=⟨h,rfl,ok.wf,eb⟩
theorem dj.K9 {k:Nat}{t:P}{old nw:UInt8}{q:P}(h:dj k t old nw q)(ok:Ok t):Ok q:=⟨h.wf,by rw [T.aN,T.gn h.shp,<-T.aN];exact ok.len⟩
theorem dw:∀(n:Nat) {t:P} {k:Nat} {old nw:UInt8},t.size<=n->Ok t->Eb k t->k+t.bd<=64->nm nw=true->okn k nw->
  ∀{w:World} {R:aB->Re},(∀q w',Ex w w'->dj k t old nw q->R q.text w')->Rf 112 #[.string (ak t.text),.int .u8 old.toNat,.int .u8 nw.toNat] w (an [.s] R):=by
 intro n
 induction n with
 | zero=>intro t k old nw h;have :=aW t;omega
 | succ n ih=>
  intro t k old nw hn ok eb hbd ν ζ w R h;refine rA _ old nw w R ?_;dsimp only [go_sem];refine⟨λhne=>?_,λhe=>by
   have he:=N8 he;subst he;exact h t w (Ex.refl w) (.refl (aC.same old) ok eb)⟩
  have hne:old≠nw:=N9 hne;refine ic _ (NP _) ok λs w1 hx1 hs1 hm1=>dW (by have :=hs1.bound;omega) ⟨λhq=>?_,λhq=>?_⟩
  ·have hq:¬t.Fr old:=by
    rw [<-hm1];simpa using hq
   exact h t w1 hx1 (.refl (aC.skip hq) ok eb)
  have hfr:t.Fr old:=by rw [<-hm1];simpa using hq
  have hk0:t.kind≠48:=by cases t<;>first | exact hfr.elim | simp [T.kind]
  have hhd:=LC hk0;have hlen:=ok.len;refine cW ok ⟨by omega,λb cap w2 hb hrow hgr=>?_⟩;rw [NT]at hrow|-;have υ:Ex w w2:=hx1.trans (uM hgr);have β:=rX.Gs hrow;have ω:w.heap.size<=b:=by rw [hb];exact hx1.size
  have α:(t.text.take t.hd).length=t.hd:=by rw [Ow];omega
  refine qN ok ⟨λhq2=>?_,λhq2=>?_⟩
  ·
   obtain⟨p,B⟩:=E5 (nw:=nw) (old:=old) ok eb ν ζ hq2;have hszp:=B.size;have hbdp:=B.bd;refine⟨some ⟨b,0,none⟩,(t.text.take t.hd).length,cap,rfl,by omega,?_⟩;rw [α,NT,B.drop];refine⟨λpart x w'=>Ex w w'/\rX w' b (t.text.take t.hd)/\∃p1:P,part=p1.text/\p1.shp=p.shp/\Ok p1/\Eb (k+1) p1/\(nm x=true/\ngr x)/\
    ((x=t.bindC/\p1=p/\(x≠nw\/¬p.Fr old))\/(t.bindC=nw/\¬p.Fr x/\x≠old/\x≠nw/\aC p nw x p1)),⟨λhc=>?_,λhc=>?_⟩,λpart x w3 hJ=>?_⟩
   ·have hc:=N8 hc;refine ic _ (NP _) B.ok λs3 w3 η hs3 hm3=>dW (by have :=hs3.bound;omega) ⟨λhq3=>?_,λhq3=>?_⟩
    ·have hfo:p.Fr old:=by rw [<-hm3];simpa using hq3
     have fin:∀(w':World),Ex w3 w'->∀s4,lF s4->(∀x,x∈s4↔p.Fr x\/x∈[old,nw])->∀y,vK s4 y->(Ex w w'/\rX w' b (t.text.take t.hd))/\(¬p.Fr y/\y≠old/\y≠nw/\okn (k+1) y/\nm y=true/\ngr y):=by
      intro w' hx' s4 hs4 hm4 y hy;have hall:∀d∈s4,okn k d:=by
       intro d hd;rcases(hm4 d).1 hd with hd | hd
       ·by_cases hz:d=t.bindC
        ·rw [hz,hc];exact ζ
        ·exact B.okz d hd hz
       ·simp only [Oa,Qu,QV]at hd;rcases hd with rfl | rfl
        ·exact eb.free _ hfr
        ·exact ζ
      obtain⟨h1,h2,h3⟩:=hy.ok (by omega) hall;rw [hm4]at h1;simp only [Oa,Qu,QV,Rb]at h1;exact⟨⟨(υ.trans η).trans hx',(β.ex η).ex hx'⟩,h1.1,h1.2.1,h1.2.2,h2,h3⟩
     refine⟨λy w'=>(Ex w w'/\rX w' b (t.text.take t.hd))/\(¬p.Fr y/\y≠old/\y≠nw/\okn (k+1) y/\nm y=true/\ngr y),⟨λw'=>True,λw4 φ=>⟨trivial,?_,λb2 w5 hb2 H=>⟨trivial,?_,?_⟩⟩⟩,λy w4 hJ=>?_⟩
     ·have Z:Ex w3 w4:=φ▸Ex.drew w3;refine ic _ (NP _) B.ok λs5 w5 J hs5 hm5=>⟨trivial,λb2 w6 hb2 γ=>⟨trivial,b2,0,2,2,[old,nw],rfl,rfl,(qB old nw hb2 γ).2,trivial,?_⟩⟩
      refine jH hs5 (by simp) λs7 w7 ς ξ hm7=>⟨trivial,jw (by have :=ξ.bound;omega) λy hy=>⟨trivial,?_⟩⟩
      exact fin w7 (((Z.trans J).trans (γ▸Ex.alloc w5 _)).trans ς) s7 ξ (λx=>by rw [hm7,hm5]) y hy
     ·have Z:Ex w3 w4:=φ▸Ex.drew w3;have J:Ex w4 w5:=H▸Ex.alloc w4 _;obtain⟨G,hc5⟩:=qB old nw hb2 H;refine ic _ (NP _) B.ok λs6 w6 θ hs6 hm6=>⟨trivial,b2,0,2,2,[old,nw],rfl,rfl,λj x hj=>by rw [θ.cell G];exact hc5 j x hj,trivial,?_⟩
      refine jH hs6 (by simp) λs7 w7 ς ξ hm7=>⟨trivial,jw (by have :=ξ.bound;omega) λy hy=>⟨trivial,?_⟩⟩
      exact fin w7 (((Z.trans J).trans θ).trans ς) s7 ξ (λx=>by rw [hm7,hm6]) y hy
     ·have Z:Ex w3 w4:=φ▸Ex.drew w3;have J:Ex w4 w5:=H▸Ex.alloc w4 _;obtain⟨G,hc5⟩:=qB old nw hb2 H;refine⟨b2,0,2,2,[old,nw],rfl,rfl,hc5,trivial,?_⟩;refine ic _ (NP _) B.ok λs6 w6 θ hs6 hm6=>⟨trivial,?_⟩
      refine jH hs6 (by simp) λs7 w7 ς ξ hm7=>⟨trivial,jw (by have :=ξ.bound;omega) λy hy=>⟨trivial,?_⟩⟩
      exact fin w7 (((Z.trans J).trans θ).trans ς) s7 ξ (λx=>by rw [hm7,hm6]) y hy
     ·obtain⟨⟨J,G⟩,hy1,hy2,hy3,hy4,hy5,hy6⟩:=hJ;refine ih (by omega) B.ok B.eb (by omega) hy5 hy4 λq w6 θ hq=>⟨J.trans θ,G.ex θ,q,rfl,hq.shp,hq.K9 B.ok,hq.eb,⟨hy5,hy6⟩,.inr ⟨hc,hy1,hy2,hy3,?_⟩⟩
      rw [<-hc];exact hq.ok
    ·have hfo:¬p.Fr old:=by rw [<-hm3];simpa using hq3
     exact⟨υ.trans η,β.ex η,p,rfl,rfl,B.ok,B.eb,⟨B.nmc,B.ngc⟩,.inl ⟨rfl,rfl,.inr hfo⟩⟩
   ·have hc:=N9 hc;exact⟨υ,β,p,rfl,rfl,B.ok,B.eb,⟨B.nmc,B.ngc⟩,.inl ⟨rfl,rfl,.inl hc⟩⟩
   ·obtain⟨η,hb3,p1,rfl,hsh1,ok1,eb1,hnx,hmid⟩:=hJ;refine⟨λpart w'=>Ex w w'/\rX w' b (t.text.take t.hd)/\∃p2:P,part=p2.text/\p2.shp=p.shp/\Ok p2/\Eb (k+1) p2/\aC t old nw (t.rebind old nw x p2),⟨λhc=>?_,λhc=>?_⟩,λpart w4 hJ=>?_⟩
    ·have hc:x≠old:=by simpa using hc
     refine ih (by have :=T.qi hsh1;omega) ok1 eb1 (by have :=T.LL hsh1;omega) ν (ζ.mono (by omega)) λq w5 J hq=>⟨η.trans J,hb3.ex J,q,rfl,hq.shp.trans hsh1,hq.K9 ok1,hq.eb,?_⟩
     rcases hmid with⟨rfl,rfl,hu⟩ | ⟨h1,h2,h3,h4,h5⟩
     ·exact B.under q hc hu hq.ok
     ·exact B.cap x p1 q h1 (QG hne) h2 h3 h4 h5 hq.ok
    ·have hc:x=old:=by simpa using hc
     refine⟨η,hb3,p1,rfl,hsh1,ok1,eb1,?_⟩;rcases hmid with⟨h1,rfl,hu⟩ | ⟨h1,h2,h3,h4,h5⟩
     ·rw [hc];exact B.over (h1.symm.trans hc) hfr
     ·exact absurd hc h3
    ·obtain⟨Z,hb4,p2,rfl,hsh2,ok2,eb2,hren⟩:=hJ;have hfin:=B.fin x p2 hren hsh2 ok2.wf hnx.1 hnx.2 eb2;have hok2:=ok2.len;refine⟨λw'=>Ex w w'/\∃l:Tx,rX w' b l/\l.length=t.hd/\l++p2.text=(t.rebind old nw x p2).text,aO ok ?_,λw5 hJ=>?_⟩
     ·cases t with
      | rcv a y p'=>
       simp only [T.kind];refine db (by decide) ?_;have hl3:(3:Nat)<=4:=by omega
       refine⟨b,0,_,cap,rfl,by omega,by simp only [T.hd];omega,a,hb4.at (i:=0) (by rw [α];simp only [T.hd];omega),lR ?_⟩;have l0:0< ((T.rcv a y p').text.take (T.rcv a y p').hd).length:=by rw [α];simp only [T.hd];omega
       have l2:2< ((T.rcv a y p').text.take (T.rcv a y p').hd).length:=by rw [α];simp only [T.hd];omega
       refine⟨b,0,_,cap,rfl,by omega,by omega,⟨⟨_,hb4.at (i:=0) l0⟩,?_⟩,λw5 H=>?_⟩
       ·exact hb4.fz 0 l0
       have G:=hb4.set (i:=0) l0 (sw a old nw);have H:w5=w4.setCell ⟨b,0,none⟩ (.int .u8 (sw a old nw).toNat):=H;rw [<-H]at G;have l2':2< (((T.rcv a y p').text.take (T.rcv a y p').hd).set 0 (sw a old nw)).length:=by rw [O8];exact l2
       refine⟨b,0,_,cap,rfl,by omega,by omega,⟨⟨_,G.at (i:=2) l2'⟩,?_⟩,λw6 γ=>?_⟩
       ·exact G.fz 2 l2'
       have χ:=G.set (i:=2) l2' x;have γ:w6=w5.setCell ⟨b,2,none⟩ (.int .u8 x.toNat):=γ;rw [<-γ]at χ;exact⟨γ▸(Ex.own (H▸Z.own ω _) ω _),_,χ,by rw [O8,O8,α],rfl⟩
      | res y p'=>
       simp only [T.kind];refine aU (by decide) ?_;have l1:1< ((T.res y p').text.take (T.res y p').hd).length:=by rw [α];simp only [T.hd];omega
       refine⟨b,0,_,cap,rfl,by omega,by omega,⟨⟨_,hb4.at (i:=1) l1⟩,?_⟩,λw5 H=>?_⟩
       ·exact hb4.fz 1 l1
       have G:=hb4.set (i:=1) l1 x;have H:w5=w4.setCell ⟨b,1,none⟩ (.int .u8 x.toNat):=H;rw [<-H]at G;exact⟨H▸(Z.own ω _),_,G,by rw [O8,α],rfl⟩
      | _=>cases hq2
     ·obtain⟨J,l,G,hl5,e5⟩:=hJ;refine⟨b,0,_,cap,l,rfl,hl5,G.read,by omega,?_⟩;rw [e5];exact h _ _ J hfin
  ·
   have hw:=ok.wf;have fin:∀(p:P) (l:Tx) (mk:P->P),t.text.drop t.hd=p.text->Ok p->p.size<=n->Eb k p->k+p.bd<=64->l.length=t.hd->(∀q,dj k p old nw q->dj k t old nw (mk q)/\(mk q).text=l++q.text)->
     ∀w3,Ex w w3->rX w3 b l->∃ψ:Re,∀ο:World,ο=World.drew w3->ψ ο/\∃(a212:Option Addr) (δ cap214:Nat),(Value.slice (some ⟨b,0,none⟩) (List.length (List.take t.hd t.text)) cap)=Value.slice a212 δ cap214/\(0<=((δ:Int):Int)/\((δ:Int):Int)<=List.length t.text)/\(∃(b215 o216 n217 cap218:Nat) (l219:aB),(Value.slice (some ⟨b,0,none⟩) (List.length (List.take t.hd t.text)) cap)=Value.slice (some ⟨b215,o216,none⟩) n217 cap218/\List.length l219=n217/\(∀(j:Nat) (x:UInt8),l219[j]?=some x->World.cell? ο ⟨b215,o216+j,none⟩=some (Value.int IntKind.u8 (UInt8.toNat x)))/\ψ ο/\Rf 112 #[(Value.string (ak (List.drop (Int.toNat (δ:Int)) t.text))),(Value.int IntKind.u8 (UInt8.toNat old)),(Value.int IntKind.u8 (UInt8.toNat nw))] ο (an [.s] fun(s220:aB) (w221:World)=>ψ w221/\(List.length l219+List.length s220<=4611686018427387904)/\R ((l219++s220)) w221))/\(Rf 112 #[(Value.string (ak (List.drop (Int.toNat (δ:Int)) t.text))),(Value.int IntKind.u8 (UInt8.toNat old)),(Value.int IntKind.u8 (UInt8.toNat nw))] ο (an [.s] fun(s222:aB) (w223:World)=>ψ w223/\∃(b224 o225 n226 cap227:Nat) (l228:aB),(Value.slice (some ⟨b,0,none⟩) (List.length (List.take t.hd t.text)) cap)=Value.slice (some ⟨b224,o225,none⟩) n226 cap227/\List.length l228=n226/\(∀(j:Nat) (x:UInt8),l228[j]?=some x->World.cell? w223 ⟨b224,o225+j,none⟩=some (Value.int IntKind.u8 (UInt8.toNat x)))/\ψ w223/\(List.length l228+List.length s222<=4611686018427387904)/\R ((l228++s222)) w223)):=by
    intro p l mk hdr okp hsz ebp hbp hll hmk w3 η hb3;refine⟨λ _=>True,λw4 φ=>⟨trivial,_,_,_,rfl,by rw [α];omega,?_,?_⟩⟩
    ·have Z:Ex w3 w4:=φ▸Ex.drew w3;rw [α,NT,hdr];refine⟨b,0,_,cap,l,rfl,hll,(hb3.ex Z).read,trivial,ih hsz okp ebp hbp ν ζ λq w5 J hq=>⟨trivial,?_,?_⟩⟩
     ·have :=(hq.K9 okp).len;omega
     ·obtain⟨h1,h2⟩:=hmk q hq;rw [<-h2];exact h _ _ ((η.trans Z).trans J) h1
    ·have Z:Ex w3 w4:=φ▸Ex.drew w3;rw [α,NT,hdr];refine ih hsz okp ebp hbp ν ζ λq w5 J hq=>⟨trivial,b,0,_,cap,l,rfl,hll,((hb3.ex Z).ex J).read,trivial,?_,?_⟩
     ·have :=(hq.K9 okp).len;omega
     ·obtain⟨h1,h2⟩:=hmk q hq;rw [<-h2];exact h _ _ ((η.trans Z).trans J) h1
   have two:∀(p q:P) (mk:P->P->P),t.parts=[p,q]->(t.kind=43\/t.kind=38)->(∀p' q',dj k p old nw p'->dj k q old nw q'->dj k t old nw (mk p' q')/\(mk p' q').text=40::(p'.text++t.kind::(q'.text++[41]))/\Ok (mk p' q'))->Eb k p->Eb k q->k+p.bd<=64->k+q.bd<=64->
     Rf 141 #[(Value.string (ak t.text))] w2 (an [.v] fun(v165:Value) (w166:World)=>∃κ:Re,∀w168:World,w168=World.drew w166->κ w168/\∃(b169 o170 len171 cap172:Nat),v165=Value.slice (some ⟨b169,o170,none⟩) len171 cap172/\0<=(0:Int)/\(0:Int)< len171/\∃s173:aB,(∀w',κ w'->World.cell? w' ⟨b169,(o170+Int.toNat 0* 1),none⟩=some (Value.string (ak s173)))/\∃(b174 o175 len176 cap177:Nat),v165=Value.slice (some ⟨b174,o175,none⟩) len176 cap177/\0<=(1:Int)/\(1:Int)< len176/\∃s178:aB,(∀w',κ w'->World.cell? w' ⟨b174,(o175+Int.toNat 1* 1),none⟩=some (Value.string (ak s178)))/\Rf 112 #[(Value.string (ak s173)),(Value.int IntKind.u8 (UInt8.toNat old)),(Value.int IntKind.u8 (UInt8.toNat nw))] w168 (an [.s] fun(s179:aB) (w180:World)=>κ w180/\Rf 112 #[(Value.string (ak s178)),(Value.int IntKind.u8 (UInt8.toNat old)),(Value.int IntKind.u8 (UInt8.toNat nw))] w180 (an [.s] fun(s181:aB) (w182:World)=>κ w182
 /\∀(b183:Nat) (w184:World),b183=Array.size (World.heap w182)->w184=World.alloc w182 (Obj.cells #[(Value.string (ak s179)),(Value.string (ak s181))] 9)->κ w184/\Rf 182 #[(Value.string (ak t.text)),(Value.slice (some ⟨b183,0,none⟩) 2 2)] w184 (an [.s] fun(s185:aB) (w186:World)=>κ w186/\R (s185) w186)))):=by
    intro p q mk ε hkind hmk ebp ebq hbp hbq;refine da ok λv w3 η hs3=>?_
    rw [ε]at hs3;have hs3:Strs w3 v [p.text,q.text]:=hs3;have okp:=ok.parts p (by rw [ε];simp);have okq:=ok.parts q (by rw [ε];simp);have szp:p.size< t.size:=eG (by rw [ε];simp);have szq:q.size< t.size:=eG (by rw [ε];simp);obtain⟨b3,o3,cap3,e1,e2,_⟩:=hs3.at (i:=0) (by simp);have rd:∀w' (i:Nat) (x:Tx),Ex w3 w'->[p.text,q.text][i]?=some x->w'.cell? ⟨b3,o3+i* 1,none⟩=some (.string (ak x)):=by
     intro w' i x hx hi;obtain⟨hi',e⟩:=OL.1 hi;obtain⟨b',o',cap',e1',_,e3⟩:=(hs3.ex hx).at hi';rw [e1]at e1';cases e1';rw [Oj,e3,e]
    refine⟨λw'=>Ex w3 w',λw4 φ=>?_⟩;have Z:Ex w3 w4:=φ▸Ex.drew w3;refine⟨Z,b3,o3,2,cap3,e1,by omega,by omega,p.text,λw' hx=>rd w' 0 _ hx rfl,b3,o3,2,cap3,e1,by omega,by omega,q.text,λw' hx=>rd w' 1 _ hx rfl,?_⟩;refine ih (by omega) okp ebp hbp ν ζ λp' w5 J ι=>⟨Z.trans J,ih (by omega) okq ebq hbq ν ζ λq' w6 θ μ=>⟨(Z.trans J).trans θ,λb7 w7 hb7 hw7=>?_⟩⟩
    have ς:Ex w6 w7:=hw7▸Ex.alloc w6 _;obtain⟨m1,m2,m3⟩:=hmk p' q' ι μ;refine⟨((Z.trans J).trans θ).trans ς,?_⟩;have ξ:Strs w7 (.slice (some ⟨b7,0,none⟩) 2 2) [p'.text,q'.text]:=by
     refine .inr ⟨b7,0,2,rfl,by rw [hw7,size_alloc];omega,λi z hz=>?_⟩;rw [Og,hb7,hw7];refine aa ?_
     match i,hz with
     | 0,hz=>simp at hz|-;exact hz▸rfl
     | 1,hz=>simp at hz|-;exact hz▸rfl
     | i+2,hz=>simp at hz
    have hbase:Ex w w7:=(((υ.trans η).trans (Z.trans J)).trans θ).trans ς;refine Hl ok ξ (λ _=>⟨_,_,rfl,?_,λw8 hx8=>⟨?_,?_⟩⟩) (λh0=>absurd h0 hk0) λ _ h2 h3=>absurd hkind (by simp [h2,h3])
    ·have :=(ι.K9 okp).len;have e:=ON List.length m2;have hml:=m3.len;simp only [NI,NL,NZ]at e;omega
    ·exact(((Z.trans J).trans θ).trans ς).trans hx8
    ·rw [<-m2];exact h _ _ (hbase.trans hx8) m1
   cases t with
   | nil=>exact hfr.elim
   | rcv a x p=>cases hq2
   | res x p=>cases hq2
   | tau p=>
    simp only [T.wf]at hw;simp only [T.text,NI]at hlen;refine⟨λw'=>Ex w w'/\rX w' b [126,46],aO ok ?_,λw3 hJ=>fin p [126,46] .tau rfl ⟨hw,by omega⟩ (by simp only [T.size]at hn;omega) eb hbd rfl (λq hq=>⟨⟨aC.tau hq.ok,?_,hq.wf,hq.eb⟩,rfl⟩) w3 hJ.1 hJ.2⟩
    ·simp only [T.kind]
     repeat' first | refine aU (by decide) ?_ | refine db (by decide) ?_
     exact⟨υ,β⟩
    ·show T.tau q.shp=T.tau p.shp;rw [hq.shp]
   | rep p=>
    simp only [T.wf]at hw;simp only [T.text,NI]at hlen;refine⟨λw'=>Ex w w'/\rX w' b [42],aO ok ?_,λw3 hJ=>fin p [42] .rep rfl ⟨hw,by omega⟩ (by simp only [T.size]at hn;omega) eb hbd rfl (λq hq=>⟨⟨aC.rep hq.ok,?_,hq.wf,hq.eb⟩,rfl⟩) w3 hJ.1 hJ.2⟩
    ·simp only [T.kind]
     repeat' first | refine aU (by decide) ?_ | refine db (by decide) ?_
     exact⟨υ,β⟩
    ·show T.rep q.shp=T.rep p.shp;rw [hq.shp]
   | snd a c p=>
    simp only [T.wf,NM]at hw;simp only [T.text,NI]at hlen;refine⟨λw'=>Ex w w'/\rX w' b [sw a old nw,33,sw c old nw,46],aO ok ?_,λw3 hJ=>fin p [sw a old nw,33,sw c old nw,46] (.snd (sw a old nw) (sw c old nw)) rfl ⟨hw.2,by omega⟩ (by simp only [T.size]at hn;omega) eb.2.2 hbd rfl (λq hq=>⟨⟨aC.snd a c hq.ok,?_,?_,⟨ux eb.1 ζ,ux eb.2.1 ζ,hq.eb⟩⟩,rfl⟩) w3 hJ.1 hJ.2⟩
    ·simp only [T.kind];refine db (by decide) ?_;have β:rX w2 b [a,33,c,46]:=β;refine⟨b,0,_,cap,rfl,by omega,by rw [α];simp only [T.hd];omega,a,β.at (i:=0) (by simp),lR ?_⟩;refine⟨b,0,_,cap,rfl,by omega,by rw [α];simp only [T.hd];omega,⟨⟨_,β.at (i:=0) (by simp)⟩,β.fz 0 (by simp)⟩,λw5 H=>?_⟩;have G:=β.set (i:=0) (by simp) (sw a old nw);have H:w5=w2.setCell ⟨b,0,none⟩ (.int .u8 (sw a old nw).toNat):=H;rw [<-H]at G;refine⟨b,0,_,cap,rfl,by omega,by rw [α];simp only [T.hd];omega,c,G.at (i:=2) (by simp),lR ?_⟩;refine⟨b,0,_,cap,rfl,by omega,by rw [α];simp only [T.hd];omega,⟨⟨_,G.at (i:=2) (by simp)⟩,G.fz 2 (by simp)⟩,λw6 γ=>?_⟩;have χ:=G.set (i:=2) (by simp) (sw c old nw);have γ:w6=w5.setCell ⟨b,2,none⟩ (.int .u8 (sw c old nw).toNat):=γ;rw [<-γ]at χ;exact⟨γ▸(Ex.own (H▸υ.own ω _) ω _),χ⟩
    ·show T.snd () () q.shp=T.snd () () p.shp;rw [hq.shp]
    ·simp [T.wf,AG hw.1.1 ν,AG hw.1.2 ν,hq.wf]
   | mat a c p=>
    simp only [T.wf,NM]at hw;simp only [T.text,NI]at hlen;refine⟨λw'=>Ex w w'/\rX w' b [91,sw a old nw,61,sw c old nw,93],aO ok ?_,λw3 hJ=>fin p [91,sw a old nw,61,sw c old nw,93] (.mat (sw a old nw) (sw c old nw)) rfl ⟨hw.2,by omega⟩ (by simp only [T.size]at hn;omega) eb.2.2 hbd rfl (λq hq=>⟨⟨aC.mat a c hq.ok,?_,?_,⟨ux eb.1 ζ,ux eb.2.1 ζ,hq.eb⟩⟩,rfl⟩) w3 hJ.1 hJ.2⟩
    ·simp only [T.kind];refine aU (by decide) (db (by decide) ?_);have β:rX w2 b [91,a,61,c,93]:=β;refine⟨b,0,_,cap,rfl,by omega,by rw [α];simp only [T.hd];omega,a,β.at (i:=1) (by simp),lR ?_⟩;refine⟨b,0,_,cap,rfl,by omega,by rw [α];simp only [T.hd];omega,⟨⟨_,β.at (i:=1) (by simp)⟩,β.fz 1 (by simp)⟩,λw5 H=>?_⟩;have G:=β.set (i:=1) (by simp) (sw a old nw);have H:w5=w2.setCell ⟨b,1,none⟩ (.int .u8 (sw a old nw).toNat):=H;rw [<-H]at G;refine⟨b,0,_,cap,rfl,by omega,by rw [α];simp only [T.hd];omega,c,G.at (i:=3) (by simp),lR ?_⟩;refine⟨b,0,_,cap,rfl,by omega,by rw [α];simp only [T.hd];omega,⟨⟨_,G.at (i:=3) (by simp)⟩,G.fz 3 (by simp)⟩,λw6 γ=>?_⟩;have χ:=G.set (i:=3) (by simp) (sw c old nw);have γ:w6=w5.setCell ⟨b,3,none⟩ (.int .u8 (sw c old nw).toNat):=γ;rw [<-γ]at χ;exact⟨γ▸(Ex.own (H▸υ.own ω _) ω _),χ⟩
    ·show T.mat () () q.shp=T.mat () () p.shp;rw [hq.shp]
    ·simp [T.wf,AG hw.1.1 ν,AG hw.1.2 ν,hq.wf]
   | sum p q=>
    simp only [T.bd]at hbd;have hwf:=hw;simp only [T.wf,NM]at hw;refine⟨λ _=>False,aO ok ?_,λw3 hJ=>hJ.elim⟩;simp only [T.kind];refine aU (by decide) (aU (by decide) (db (by decide) (db (by decide) ?_)));refine two p q .sum rfl (.inl rfl) (λp' q' ι μ=>?_) eb.1 eb.2 (by omega) (by omega);have hs:(T.sum p' q').shp=(T.sum p q).shp:=by show T.sum p'.shp q'.shp=T.sum p.shp q.shp;rw [ι.shp,μ.shp]
    have hr:dj k (.sum p q) old nw (.sum p' q'):=⟨aC.sum ι.ok μ.ok,hs,by simp [T.wf,ι.wf,μ.wf],⟨ι.eb,μ.eb⟩⟩
    exact⟨hr,rfl,hr.K9 ok⟩
   | par p q=>
    simp only [T.bd]at hbd;have hwf:=hw;simp only [T.wf,NM]at hw;refine⟨λ _=>False,aO ok ?_,λw3 hJ=>hJ.elim⟩;simp only [T.kind];refine aU (by decide) (aU (by decide) (aU (by decide) (db (by decide) ?_)));refine two p q .par rfl (.inr rfl) (λp' q' ι μ=>?_) eb.1 eb.2 (by omega) (by omega);have hs:(T.par p' q').shp=(T.par p q).shp:=by show T.par p'.shp q'.shp=T.par p.shp q.shp;rw [ι.shp,μ.shp]
    have hr:dj k (.par p q) old nw (.par p' q'):=⟨aC.par ι.ok μ.ok,hs,by simp [T.wf,ι.wf,μ.wf],⟨ι.eb,μ.eb⟩⟩
    exact⟨hr,rfl,hr.K9 ok⟩
section
variable {A B:Type} [DecidableEq A] [DecidableEq B]
open Classical
namespace T
def strip:T A->T A
 | mat a b p=>if a=b then p.strip else mat a b p
 | p=>p
noncomputable def peel:T A->T A
 | mat a b p=>if a=b then p.peel else mat a b p
 | sum p q=>if p.dead then q.peel else if q.dead then p.peel else sum p q
 | par p q=>if p.dead then q.peel else if q.dead then p.peel else par p q
 | res x p=>if p.Us x then res x p else p.peel
 | p=>p
theorem va:∀p:T A,p.strip.dead=p.dead
 | mat a b p=>by
  unfold strip;split
  ·rw [va p];rfl
  ·rfl
 | nil=>rfl | snd .. =>rfl | rcv .. =>rfl | tau .. =>rfl | sum .. =>rfl | par .. =>rfl | res .. =>rfl | rep .. =>rfl
theorem AH (x:A):∀p:T A,p.strip.Us x↔p.Us x
 | mat a b p=>by
  unfold strip;split
  ·rename_i h;rw [AH x p];simp [Us,h]
  ·rfl
 | nil=>QY | snd .. =>QY | rcv .. =>QY | tau .. =>QY | sum .. =>QY | par .. =>QY | res .. =>QY | rep .. =>QY
theorem oJ:∀p:T A,p.strip.size<=p.size
 | mat a b p=>by
  unfold strip;split
  ·have :=oJ p;simp only [size];omega
  ·exact NP _
 | nil=>NP _ | snd .. =>NP _ | rcv .. =>NP _ | tau .. =>NP _ | sum .. =>NP _ | par .. =>NP _ | res .. =>NP _ | rep .. =>NP _
theorem qV:∀(p:T A) (a b:A) (q:T A),p.strip=mat a b q->a≠b
 | mat a b p,c,d,q,h=>by
  unfold strip at h;split at h
  ·exact qV p c d q h
  ·cases h;assumption
 | nil,_,_,_,h=>by cases h
 | snd ..,_,_,_,h=>by cases h
 | rcv ..,_,_,_,h=>by cases h
 | tau ..,_,_,_,h=>by cases h
 | sum ..,_,_,_,h=>by cases h
 | par ..,_,_,_,h=>by cases h
 | res ..,_,_,_,h=>by cases h
 | rep ..,_,_,_,h=>by cases h
theorem iH (Q:T A->Prop)(hm:∀a p,Q (mat a a p)->Q p)(J:∀p q,Q (sum p q)->Q p/\Q q)(Z:∀p q,Q (par p q)->Q p/\Q q)(hr:∀x p,¬p.Us x->Q (res x p)->Q p):∀p:T A,Q p->Q p.peel:=by
 intro p
 induction p with
 | mat a b p G=>
  intro h;unfold peel;split
  ·rename_i e;subst e;exact G (hm a p h)
  ·exact h
 | sum p q G H=>
  intro h;unfold peel;split
  ·exact H (J p q h).2
  ·split
   ·exact G (J p q h).1
   ·exact h
 | par p q G H=>
  intro h;unfold peel;split
  ·exact H (Z p q h).2
  ·split
   ·exact G (Z p q h).1
   ·exact h
 | res x p G=>
  intro h;unfold peel;split
  ·exact h
  ·rename_i e;exact G (hr x p e h)
 | nil=>exact id
 | snd=>exact id
 | rcv=>exact id
 | tau=>exact id
 | rep=>exact id
theorem mT:∀p:T A,p.peel.dead=p.dead:=by
 intro p
 induction p with
 | mat a b p H=>unfold peel;split<;>simp_all [dead]
 | sum p q H G=>
  unfold peel;split
  ·rename_i h;rw [G];simp [dead,h]
  ·split
   ·rename_i h J;rw [H];simp [dead,J]
   ·rfl
 | par p q H G=>
  unfold peel;split
  ·rename_i h;rw [G];simp [dead,h]
  ·split
   ·rename_i h J;rw [H];simp [dead,J]
   ·rfl
 | res x p H=>
  unfold peel;split
  ·rfl
  ·rw [H];rfl
 | nil=>rfl
 | snd=>rfl
 | rcv=>rfl
 | tau=>rfl
 | rep=>rfl
def dI:T A->Prop
 | mat a b _=>a≠b
 | sum p q=>p.dead=false/\q.dead=false
 | par p q=>p.dead=false/\q.dead=false
 | res x p=>p.Us x
 | _=>True
theorem lv:∀p:T A,p.peel.dI:=by
 intro p
 induction p with
 | mat a b p H=>unfold peel;split<;>assumption
 | sum p q H G=>
  unfold peel;split
  ·exact G
  ·split
   ·exact H
   ·rename_i h J;exact⟨by simpa using h,by simpa using J⟩
 | par p q H G=>
  unfold peel;split
  ·exact G
  ·split
   ·exact H
   ·rename_i h J;exact⟨by simpa using h,by simpa using J⟩
 | res x p H=>unfold peel;split<;>assumption
 | nil=>trivial
 | snd=>trivial
 | rcv=>trivial
 | tau=>trivial
 | rep=>trivial
theorem wX (p:T A):p.peel.size<=p.size:=
 iH (λq=>q.size<=p.size) (λa q h=>by simp only [size]at h;omega) (λq r h=>by simp only [size]at h;omega) (λq r h=>by simp only [size]at h;omega) (λx q _ h=>by simp only [size]at h;omega) p (NP _)
theorem Jj (p:T A):p.peel.ow<=p.ow:=
 iH (λq=>q.ow<=p.ow) (λa q h=>h) (λq r h=>by simp only [ow]at h;omega) (λq r h=>by simp only [ow]at h;omega) (λx q _ h=>by simp only [ow]at h;omega) p (NP _)
theorem D7 (x:A):∀p:T A,p.peel.Us x↔p.Us x:=by
 intro p
 induction p with
 | mat a b p H=>
  unfold peel;split
  ·rename_i h;rw [H];simp [Us,h]
  ·rfl
 | sum p q H J=>
  unfold peel;split
  ·rename_i h;rw [J];exact⟨.inr,λG=>G.elim (λG=>absurd G (bE h)) id⟩
  ·split
   ·rename_i h G;rw [H];exact⟨.inl,λk=>k.elim id (λk=>absurd k (bE G))⟩
   ·rfl
 | par p q H J=>
  unfold peel;split
  ·rename_i h;rw [J];exact⟨.inr,λG=>G.elim (λG=>absurd G (bE h)) id⟩
  ·split
   ·rename_i h G;rw [H];exact⟨.inl,λk=>k.elim id (λk=>absurd k (bE G))⟩
   ·rfl
 | res y p H=>
  unfold peel;split
  ·rfl
  ·rename_i h;rw [H];refine⟨λk=>⟨λe=>h (e▸k),k⟩,λk=>k.2⟩
 | nil=>rfl
 | snd=>rfl
 | rcv=>rfl
 | tau=>rfl
 | rep=>rfl
end T
end
open Classical
theorem fJ.sub {A:Type}[DecidableEq A]{ρ:A->Nat}{p q:T A}(h:fJ ρ p)(G:∀x,q.Us x->p.Us x):fJ ρ q:=λx y H J=>h x y (G x H) (G y J)
theorem JS (u:U)(h:Uq u):Uq u.peel:=
 T.iH Uq (λ _ _ h=>h.mat) (λ _ _ h=>⟨h.eJ,h.en⟩) (λ _ _ h=>⟨h.gB,h.fS⟩) (λ _ _ _ h=>h.res) u h
theorem Ej (u:U):∀x∈BV u.peel,x∈BV u:=
 T.iH (λq=>∀x∈BV q,x∈BV u) (λ _ _ h=>h) (λ _ _ h=>⟨λx G=>h x (Ol _ G),λx G=>h x (Oc _ G)⟩)
  (λ _ _ h=>⟨λx G=>h x (Ol _ G),λx G=>h x (Oc _ G)⟩) (λ _ _ _ h=>λx G=>h x (NW _ G)) u (λx h=>h)
theorem dq:∀u:U,Uq u->u.dead=true->aj u=([],[])
 | .nil,_,_=>rfl
 | .snd ..,_,h=>by cases h
 | .rcv ..,_,h=>by cases h
 | .tau ..,_,h=>by cases h
 | .sum p q,hu,h=>by
  simp only [T.dead,NM]at h;simp only [aj,h.1,PK];exact dq q hu.en h.2
 | .par p q,hu,h=>by
  simp only [T.dead,NM]at h;simp [aj,dq p hu.gB h.1,dq q hu.fS h.2]
 | .res x p,hu,h=>by
  have hd:p.dead=true:=h;simp [aj,dq p hu.res hd,mQ hd,Lv.has]
 | .mat a b p,hu,h=>by
  have hd:p.dead=true:=h;simp only [aj,hd,PK,dq p hu.mat hd];split<;>rfl
 | .rep p,hu,h=>by
  have hd:p.dead=true:=h;simp [aj,hd]
theorem qd:∀u:U,Uq u->aj u.peel=aj u:=by
 intro u
 induction u with
 | nil=>intro _;rfl
 | snd=>intro _;rfl
 | rcv=>intro _;rfl
 | tau=>intro _;rfl
 | rep=>intro _;rfl
 | mat a b p G=>
  intro h;unfold T.peel;split
  ·rename_i e;rw [G h.mat];simp [aj,e]
  ·rfl
 | sum p q G H=>
  intro h;unfold T.peel;split
  ·rename_i e;rw [H h.en];simp [aj,e]
  ·split
   ·rename_i e J;rw [G h.eJ];simp [aj,e,J]
   ·rfl
 | par p q G H=>
  intro h;unfold T.peel;split
  ·rename_i e;rw [H h.fS];simp [aj,dq p h.gB e]
  ·split
   ·rename_i e J;rw [G h.gB];simp [aj,dq q h.fS J]
   ·rfl
 | res x p G=>
  intro h;unfold T.peel;split
  ·rfl
  ·rename_i e;rw [G h.res];have:¬(td p).2.has x=true:=λZ=>e ((gv p x h.gJ).1 Z)
   simp [aj,this]
theorem Lc {p:T UInt8}{u:U}{ρ:UInt8->Nat}{σ:Nat->Nat}{x:UInt8}{y:Nat}(h:∀v,AE (aG ρ x v) p (aG σ y v) u)(hi:fJ ρ (.res x p))(hj:fJ σ (.res y u)):p.Us x↔u.Us y:=by
 obtain⟨v,h1,h2⟩:=cf p u ρ σ;have G:fJ (aG ρ x v) p:= .aG (λa b ha hb h5 Z=>hi a b ⟨ha,h5⟩ ⟨hb,Z⟩) λa _ ha=>h1 a (T.a8 ha)
 have H:fJ (aG σ y v) u:= .aG (λa b ha hb h5 Z=>hj a b ⟨ha,h5⟩ ⟨hb,Z⟩) λa _ ha=>h2 a (T.a8 ha)
 constructor
 ·intro hx;obtain⟨z,J,e⟩:=(h v).used G H x hx;rw [cC]at e;unfold aG at e;split at e
  ·rename_i hh;exact hh▸J
  ·exact absurd e (h2 z (T.a8 J))
 ·intro hy;obtain⟨z,J,e⟩:=(h v).symm.used H G y hy;rw [cC]at e;unfold aG at e;split at e
  ·rename_i hh;exact hh▸J
  ·exact absurd e (h1 z (T.a8 J))
theorem AE.JX {p:T UInt8}{u:U}{ρ:UInt8->Nat}{σ:Nat->Nat}{a b:UInt8}{c d:Nat}(h:AE ρ (.mat a b p) σ (.mat c d u))(hi:fJ ρ (.mat a b p))(J:fJ σ (.mat c d u))(hd:p.dead=false):a=b↔c=d:=by
 have H:u.dead=false:=h.2.2.dead▸hd;constructor
 ·rintro rfl
  refine Pd λG=>G (J c d (.inr ⟨G,H,.inl rfl⟩) (.inr ⟨G,H,.inr (.inl rfl)⟩) (h.1.symm.trans h.2.1))
 ·rintro rfl
  refine Pd λG=>G (hi a b (.inr ⟨G,hd,.inl rfl⟩) (.inr ⟨G,hd,.inr (.inl rfl)⟩) (h.1.trans h.2.1.symm))
theorem AE.peel:∀{p:T UInt8} {u:U} {ρ:UInt8->Nat} {σ:Nat->Nat},AE ρ p σ u->fJ ρ p->fJ σ u->Uq u->p.dead=false->
  ∃G,AE ρ p.peel G u.peel/\∀y,y∉BV u->G y=σ y:=by
 intro p
 induction p<;>intro u ρ σ h hi hj hu hd<;>cases u<;>simp only [AE]at h
 case nil.nil=>exact⟨σ,trivial,λ _ _=>rfl⟩
 case snd.snd=>exact⟨σ,h,λ _ _=>rfl⟩
 case rcv.rcv=>exact⟨σ,h,λ _ _=>rfl⟩
 case tau.tau=>exact⟨σ,h,λ _ _=>rfl⟩
 case rep.rep=>exact⟨σ,h,λ _ _=>rfl⟩
 case mat.mat a b p ih c d u=>
  have Z:=AE.JX (p:=p) (u:=u) h hi hj hd;unfold T.peel;by_cases e:a=b
  ·rw [Om e,Om (Z.1 e)];exact ih h.2.2 (hi.sub λx H=> .inl ⟨e,H⟩) (hj.sub λx H=> .inl ⟨Z.1 e,H⟩) hu.mat hd
  ·rw [N2 e,N2 λh'=>e (Z.2 h')];exact⟨σ,h,λ _ _=>rfl⟩
 case sum.sum p q ih α u v=>
  have h1:=h.1.dead;have h2:=h.2.dead;unfold T.peel;rw [<-h1,<-h2];by_cases e:p.dead=true
  ·rw [Om e,Om e];obtain⟨G,k1,k2⟩:=α h.2 (hi.sub λx H=> .inr H) (hj.sub λx H=> .inr H) hu.en (by simpa [T.dead,e]using hd);exact⟨G,k1,λy hy=>k2 y λJ=>hy (Oc _ J)⟩
  ·rw [N2 e,N2 e];by_cases e':q.dead=true
   ·rw [Om e',Om e'];obtain⟨G,k1,k2⟩:=ih h.1 (hi.sub λx H=> .inl H) (hj.sub λx H=> .inl H) hu.eJ (by simpa using e);exact⟨G,k1,λy hy=>k2 y λJ=>hy (Ol _ J)⟩
   ·rw [N2 e',N2 e'];exact⟨σ,h,λ _ _=>rfl⟩
 case par.par p q ih α u v=>
  have h1:=h.1.dead;have h2:=h.2.dead;unfold T.peel;rw [<-h1,<-h2];by_cases e:p.dead=true
  ·rw [Om e,Om e];obtain⟨G,k1,k2⟩:=α h.2 (hi.sub λx H=> .inr H) (hj.sub λx H=> .inr H) hu.fS (by simpa [T.dead,e]using hd);exact⟨G,k1,λy hy=>k2 y λJ=>hy (Oc _ J)⟩
  ·rw [N2 e,N2 e];by_cases e':q.dead=true
   ·rw [Om e',Om e'];obtain⟨G,k1,k2⟩:=ih h.1 (hi.sub λx H=> .inl H) (hj.sub λx H=> .inl H) hu.gB (by simpa using e);exact⟨G,k1,λy hy=>k2 y λJ=>hy (Ol _ J)⟩
   ·rw [N2 e',N2 e'];exact⟨σ,h,λ _ _=>rfl⟩
 case res.res x p ih y u=>
  have β:=Lc (p:=p) (u:=u) h hi hj;unfold T.peel;by_cases e:p.Us x
  ·rw [Om e,Om (β.1 e)];exact⟨σ,h,λ _ _=>rfl⟩
  ·have e':¬u.Us y:=λh'=>e (β.2 h')
   rw [N2 e,N2 e'];have hv:=h (ρ x);have hv:AE ρ p (aG σ y (ρ x)) u:=hv.congr (λz _=>by unfold aG;split<;>simp_all) λ _ _=>rfl
   obtain⟨G,k1,k2⟩:=ih hv (λa b ha hb=>hi a b ⟨λhh=>e (hh▸ha),ha⟩ ⟨λhh=>e (hh▸hb),hb⟩)
    (λa b ha hb Z=>by
     have na:a≠y:=λhh=>e' (hh▸ha)
     have nb:b≠y:=λhh=>e' (hh▸hb)
     rw [bC _ _ na,bC _ _ nb]at Z;exact hj a b ⟨na,ha⟩ ⟨nb,hb⟩ Z) hu.res hd
   refine⟨G,k1,λz hz=>?_⟩;simp only [BV,Oa,Rb]at hz;rw [k2 z hz.2,bC _ _ hz.1]
structure Bd (k:Nat)(p:P):Prop where
 eb:Eb k p
 le:k+p.pm<=64
theorem Bd.bd {k:Nat}{p:P}(h:Bd k p):k+p.bd<=64:=by have :=T.uT p;have :=h.le;omega
theorem Bd.peel {k:Nat}{p:P}(h:Bd k p):∃m,k<=m/\Bd m p.peel/\m+p.peel.rd+p.peel.ow<=k+p.rd+p.ow:=by
 refine T.iH (λq=>∃m,k<=m/\Bd m q/\m+q.rd+q.ow<=k+p.rd+p.ow) ?_ ?_ ?_ ?_ p ⟨k,NP k,h,NP _⟩
 ·rintro a q ⟨m,hm,hb,G⟩
  have :=hb.le;have :=T.gd q;simp only [T.pm,T.rd,T.ow]at*;exact⟨m,hm,⟨hb.eb.2.2,by omega⟩,G⟩
 iterate 2
  rintro q r ⟨m,hm,hb,G⟩
  have :=hb.le;have :=T.gd q;have :=T.gd r;simp only [T.pm,T.rd,T.ow]at*;exact⟨⟨m,hm,⟨hb.eb.1,by omega⟩,by omega⟩,⟨m,hm,⟨hb.eb.2,by omega⟩,by omega⟩⟩
 rintro x q _ ⟨m,hm,hb,G⟩
 have :=hb.le;simp only [T.pm,T.rd,T.ow]at*;exact⟨m+1,by omega,⟨hb.eb.2,by omega⟩,by omega⟩
theorem JT {p:P}(h:p.wf=true):p.peel.wf=true:=
 T.iH (λq=>q.wf=true) (λ _ _ h=>by simp only [T.wf,NM]at h;exact h.2) (λ _ _ h=>by simpa only [T.wf,NM]using h)
  (λ _ _ h=>by simpa only [T.wf,NM]using h) (λ _ _ _ h=>by simp only [T.wf,NM]at h;exact h.2) p h
theorem EX (p:P):p.peel.aH<=p.aH:=
 T.iH (λq=>q.aH<=p.aH) (λ _ _ h=>by simp only [T.aH]at h;omega) (λ _ _ h=>by simp only [T.aH]at h;omega) (λ _ _ h=>by simp only [T.aH]at h;omega) (λ _ _ _ h=>by simp only [T.aH]at h;omega) p (NP _)
attribute [go_sem] Tryz.f244
theorem sH (G:aB)(w:World)(R:aB->Re)(h:vc az (a6 [(1,[(0,.s)])] [] [(1,false,.lt 0 (.one .h 1 (.lt 2 (.lt 3 (.lt 4 (.lt 5 (.lt 6 (.lt 7 (.lt 8 (.lt 9 .done))))))))))]) (ah Tryz.f244) (ai 0 [.s G]) w (fin az [.tmp 2 .s] R)):
  Rf 244 #[(.string (ak G))] w (an [.s] R):=
 bk Tryz.func244 (by kernel_rfl) h
attribute [go_sem] Tryz.f245
theorem uf (G:aB)(w:World)(R:Bool->Re)(h:vc az (a6 [(10,[(18,.i)])] [] []) (ah Tryz.f245) (ai 0 [.s G]) w (fin az [.tmp 2 .b] R)):
  Rf 245 #[(.string (ak G))] w (an [.b] R):=
 bk Tryz.func245 (by kernel_rfl) h
attribute [go_sem] Tryz.f204
theorem u9 (G:aB)(w:World)(R:aB->Re)(h:vc az (a6 [(6,[(3,.s),(17,.i)]),(14,[(3,.s),(39,.i)])] [(13,[(3,.s)])] []) (ah Tryz.f204) (ai 0 [.s G]) w (fin az [.tmp 2 .s] R)):
  Rf 204 #[(.string (ak G))] w (an [.s] R):=
 bk Tryz.func204 (by kernel_rfl) h
attribute [go_sem] Tryz.f257
theorem tG (G:aB)(w:World)(R:aB->Re)(h:vc az (a6 [(1,[(0,.s)])] [] [(9,false,.lt 0 (.lt 1 (.lt 2 (.lt 3 (.lt 4 (.lt 5 (.lt 7 (.lt 8 (.one .h 6 (.one .h 9 (.lt 10 (.lt 11 (.lt 12 .done)))))))))))))]) (ah Tryz.f257) (ai 0 [.s G]) w (fin az [.tmp 2 .s] R)):
  Rf 257 #[(.string (ak G))] w (an [.s] R):=
 bk Tryz.func257 (by kernel_rfl) h
attribute [go_sem] Tryz.f241
theorem jP (G:Value)(H:aB)(w:World)(R:Re)(h:vc az (a6 [(10,[(5,.c)])] [(15,[])] [(14,false,.lt 0 (.lt 1 (.lt 2 (.lt 4 (.br .h 3 (.one .h 5 (.one .h 6 (.lt 7 (.lt 8 (.lt 9 (.one .h 10 .done)))))) (.one .h 5 (.br .h 3 (.one .h 6 (.lt 7 (.lt 8 (.lt 9 (.one .h 10 .done))))) (.one .h 6 (.one .h 3 (.lt 7 (.lt 8 (.lt 9 (.one .h 10 .done))))))))))))),(15,false,.lt 0 (.lt 1 (.lt 2 (.lt 3 (.lt 4 (.lt 5 (.one .h 6 (.one .h 7 .done))))))))]) (ah Tryz.f241) (ai 0 [.v G,.s H]) w (fin az [] R)):
  Rf 241 #[G,(.string (ak H))] w (an [] R):=
 bk Tryz.func241 (by kernel_rfl) h
attribute [go_sem] Tryz.f242
theorem je (s1:aB)(w:World)(R:Value->Re)(h:vc az (a6 [(5,[(3,.v),(13,.i)]),(8,[(3,.v),(26,.i)])] [] [(7,false,.lt 0 (.lt 1 (.lt 2 (.lt 3 (.lt 4 (.lt 5 (.lt 6 (.lt 7 (.lt 10 (.one .h 8 (.lt 9 .done)))))))))))]) (ah Tryz.f242) (ai 0 [.s s1]) w (fin az [.tmp 2 .v] R)):
  Rf 242 #[(.string (ak s1))] w (an [.v] R):=
 bk Tryz.func242 (by kernel_rfl) h
attribute [go_sem] Tryz.f179
theorem tW (G:Value)(s2:aB)(w:World)(R:aB->Re)(h:vc az (a6 [(3,[(5,.s),(6,.i)])] [] []) (ah Tryz.f179) (ai 0 [.v G,.s s2]) w (fin az [.tmp 4 .s] R)):
  Rf 179 #[G,(.string (ak s2))] w (an [.s] R):=
 bk Tryz.func179 (by kernel_rfl) h
attribute [go_sem] Tryz.f102
theorem qI (G:Value)(w:World)(R:Value->Re)(h:vc az (a6 [(3,[(3,.v),(10,.i)]),(6,[(6,.i)])] [(8,[(6,.i)])] []) (ah Tryz.f102) (ai 0 [.v G]) w (fin az [.tmp 2 .v] R)):
  Rf 102 #[G] w (an [.v] R):=
 bk Tryz.func102 (by kernel_rfl) h
attribute [go_sem] Tryz.f261
theorem oK (G:aB)(w:World)(R:Value->Re)(h:vc az (a6 [] [] [(7,false,.lt 0 (.lt 1 (.lt 2 (.lt 4 (.lt 5 (.lt 6 (.one .h 3 (.one .h 7 (.one .h 8 (.lt 9 .done))))))))))]) (ah Tryz.f261) (ai 0 [.s G]) w (fin az [.tmp 2 .v] R)):
  Rf 261 #[(.string (ak G))] w (an [.v] R):=
 bk Tryz.func261 (by kernel_rfl) h
theorem Strs.get {w w':World}{v:Value}{l:List Tx}(h:Strs w v l)(hw:Ex w w'){i:Int}{x:Tx}(G:0<=i)(H:l[i.toNat]?=some x){Q:aB->Prop}(J:Q x):
  ∃(b o len cap:Nat),v=Value.slice (some ⟨b,o,none⟩) len cap/\0<=i/\i< (len:Int)/\∃s:aB,World.cell? w' ⟨b,o+Int.toNat i* 1,none⟩=some (Value.string (ak s))/\Q s:=by
 obtain⟨hi,e⟩:=OL.1 H;obtain⟨b,o,cap,Z,e2,e3⟩:=(h.ex hw).at hi;exact⟨b,o,l.length,cap,Z,G,by omega,x,by rw [Oj,e3,e],J⟩
theorem Strs.Gk {w:World}{v:Value}{l:List Tx}(h:Strs w v l){i:Int}{x:Tx}(G:0<=i)(H:l[i.toNat]?=some x){Q:aB->Prop}(J:Q x):
  ∃(b o len cap:Nat),v=Value.slice (some ⟨b,o,none⟩) len cap/\0<=i/\i< (len:Int)/\∃s:aB,(∀w',Ex w w'->World.cell? w' ⟨b,o+Int.toNat i* 1,none⟩=some (Value.string (ak s)))/\Q s:=by
 obtain⟨hi,e⟩:=OL.1 H;obtain⟨b,o,cap,Z,e2,e3⟩:=h.at hi;exact⟨b,o,l.length,cap,Z,G,by omega,x,λw' hw=>by rw [hw.cell e2,Oj,e3,e],J⟩
theorem vd {t:P}(ok:Ok t):Ok t.strip:=by
 have:∀t:P,t.wf=true->t.strip.wf=true/\t.strip.aH<=t.aH:=by
  intro t
  induction t with
  | mat a b p G=>
   intro h;unfold T.strip;split
   ·simp only [T.wf,NM]at h;have :=G h.2;exact⟨this.1,by simp only [T.aH];omega⟩
   ·exact⟨h,NP _⟩
  | _=>exact λh=>⟨h,NP _⟩
 have h:=this t ok.wf;exact⟨h.1,by have :=ok.len;rw [T.aN]at*;omega⟩
theorem qM {t:P}(ok:Ok t){w:World}{R:aB->Re}(h:∀w',Ex w w'->R t.strip.text w'):Rf 244 #[.string (ak t.text)] w (an [.s] R):=by
 refine sH _ w R ?_;dsimp only [go_sem];refine⟨λp w'=>Ex w w'/\∃q:P,p=q.text/\Ok q/\q.strip=t.strip,λp _=>p.length,⟨Ex.refl w,t,rfl,ok,rfl⟩,λp w1 hI=>?_⟩;obtain⟨hx,q,rfl,G,hq⟩:=hI;refine⟨λ _=>True,λJ Z=>⟨trivial,aO G ⟨trivial,?_⟩⟩⟩;have H:Ex w J:=hx.trans (Z▸Ex.drew w1);have no:q.strip=q->R q.text J:=λe=>by
  have :=h J H;rw [<-hq,e]at this;exact this
 cases q with
 | mat a b p=>
  simp only [T.kind];refine db (by decide) ⟨by simp only [T.text,NI];omega,by simp only [T.text,NI];omega,λhc=>?_,λhc=>?_⟩
  ·have e:a=b:=N8 hc;subst e;have h2:T.strip (.mat a a p)=p.strip:=by conv=>lhs;unfold T.strip;rw [Om rfl]
   refine⟨by simp only [T.text,NI];omega,⟨H,p,rfl,G.parts p (by simp [T.parts]),h2.symm.trans hq⟩,?_⟩;show p.text.length< (T.mat a a p).text.length;simp only [T.text,NI];omega
  ·have e:a≠b:=N9 hc;exact no (by conv=>lhs;unfold T.strip;rw [N2 e])
 | _=>simp only [T.kind];exact aU (by decide) (no rfl)
theorem uA {t:P}(G:t.kind≠33)(H:t.kind≠63)(J:t.kind≠126):t.dead=t.parts.all T.dead:=by
 cases t<;>first | (exact absurd rfl G) | (exact absurd rfl H) | (exact absurd rfl J) | simp [T.dead,T.parts]
theorem gg:∀(n:Nat) {t:P},t.size<=n->Ok t->∀{w:World} {R:Bool->Re},(∀w',Ex w w'->R t.dead w')->Rf 245 #[.string (ak t.text)] w (an [.b] R):=by
 intro n
 induction n with
 | zero=>intro t h;have :=aW t;omega
 | succ n ih=>
  intro t hn ok w R h;refine uf _ w R ?_;dsimp only [go_sem];refine qM ok λw1 ε=>?_
  have ζ:=vd ok;have hq:=T.oJ t;rw [<-T.va]at h;generalize t.strip=q at*;refine aO ζ ?_;have loop:q.kind≠33->q.kind≠63->q.kind≠126->Rf 141 #[(Value.string (ak q.text))] w1 (an [.v] fun(μ:Value) (χ:World)=>∃(a40:Option Addr) (H η:Nat),μ=Value.slice a40 H η/\∃(θ:Int->Re) (ν:Int->World->Nat),θ (0) χ/\∀(G:Int) (Z:World),θ G Z->((decide (G< (H:Int)))=true->∃(b47 ξ α ι:Nat),μ=Value.slice (some ⟨b47,ξ,none⟩) α ι/\0<=(G:Int)/\(G:Int)< α/\∃ο:aB,World.cell? Z ⟨b47,(ξ+Int.toNat G* 1),none⟩=some (Value.string (ak ο))/\Rf 245 #[(Value.string (ak ο))] Z (an [.b] fun(ς:Bool) (κ:World)=>((!ς)=true->R (false) κ)/\((!ς)=false->bG (G+1)/\θ ((G+1)) κ/\ν ((G+1)) κ< ν G Z)))/\((decide (G< (H:Int)))=false->R (true) Z)):=by
   intro h1 h2 h3;refine da ζ λv w2 υ hs=>?_
   obtain⟨a,cap,hv⟩:=hs.slice;rw [NY]at hv;have ψ:=dG q;refine⟨a,q.parts.length,cap,hv,λx w'=>Ex w2 w'/\∃k:Nat,x=k/\k<=q.parts.length/\∀p∈q.parts.take k,p.dead=true,λx _=>((q.parts.length:Int) - x).toNat,⟨Ex.refl _,0,rfl,by omega,by simp⟩,λx w3 hI=>?_⟩;obtain⟨δ,k,rfl,hk,β⟩:=hI;refine⟨λhc=>?_,λhc=>?_⟩
   ·have J:k< q.parts.length:=by simpa using hc
    have γ:q.parts[k]∈q.parts:=NO J;refine hs.get δ (i:=k) (by omega) (x:=(q.parts[k]).text) (by simp [J]) ?_;refine ih (by have :=eG γ;omega) (ζ.parts _ γ) λw4 φ=>⟨λhd=>?_,λhd=>?_⟩
    ·have hd:(q.parts[k]).dead=false:=by simpa using hd
     have e:q.dead=false:=by
      rw [uA h1 h2 h3,List.all_eq_false];exact⟨_,γ,by simp [hd]⟩
     rw [<-e];exact h w4 (((ε.trans υ).trans δ).trans φ)
    ·have hd:(q.parts[k]).dead=true:=by simpa using hd
     refine⟨by omega,⟨δ.trans φ,k+1,by omega,J,λp hp=>?_⟩,by dsimp only;omega⟩;rw [List.take_succ_eq_append_getElem J]at hp;rcases NU.1 hp with hp | hp
     ·exact β p hp
     ·rw [N0.1 hp];exact hd
   ·have J:k=q.parts.length:=by simp at hc;omega
    subst J;rw [Oi]at β;have e:q.dead=true:=by
     rw [uA h1 h2 h3,Pw];exact β
    rw [<-e];exact h w3 ((ε.trans υ).trans δ)
  have h:=h w1 ε;cases q with
  | nil=>simp only [T.kind];exact db (by decide) h
  | snd a b p=>simp only [T.kind];exact aU (by decide) (db (by decide) (db (by decide) h))
  | rcv a b p=>simp only [T.kind];exact aU (by decide) (aU (by decide) (db (by decide) (db (by decide) h)))
  | tau p=>simp only [T.kind];exact aU (by decide) (aU (by decide) (aU (by decide) (db (by decide) h)))
  | sum p q=>simp only [T.kind];exact aU (by decide) (aU (by decide) (aU (by decide) (aU (by decide) (loop (by simp [T.kind]) (by simp [T.kind]) (by simp [T.kind])))))
  | par p q=>simp only [T.kind];exact aU (by decide) (aU (by decide) (aU (by decide) (aU (by decide) (loop (by simp [T.kind]) (by simp [T.kind]) (by simp [T.kind])))))
  | res x p=>simp only [T.kind];exact aU (by decide) (aU (by decide) (aU (by decide) (aU (by decide) (loop (by simp [T.kind]) (by simp [T.kind]) (by simp [T.kind])))))
  | mat a b p=>simp only [T.kind];exact aU (by decide) (aU (by decide) (aU (by decide) (aU (by decide) (loop (by simp [T.kind]) (by simp [T.kind]) (by simp [T.kind])))))
  | rep p=>simp only [T.kind];exact aU (by decide) (aU (by decide) (aU (by decide) (aU (by decide) (loop (by simp [T.kind]) (by simp [T.kind]) (by simp [T.kind])))))
theorem HQ {t:P}(hd:t.dead=false)(hm:∀a b p,t= .mat a b p->a≠b)(x:UInt8):t.Us x↔x∈t.names\/(∃p∈t.parts,p.Us x)/\¬(t.rK=true/\x=t.bindC):=by
 cases t<;>simp [T.Us,T.names,T.parts,T.rK,T.bindC,QU,and_comm]
 case mat a b p=>
  have G:=hm a b p rfl;have hd:p.dead=false:=hd;simp [G,hd]
theorem oR:∀(n:Nat) {t:P},t.size<=n->Ok t->∀{w:World} {R:aB->Re},(∀s w',Ex w w'->lF s->(∀x,x∈s↔t.Us x)->R s w')->Rf 204 #[.string (ak t.text)] w (an [.s] R):=by
 intro n
 induction n with
 | zero=>intro t h;have :=aW t;omega
 | succ n ih=>
  intro t0 hn ok w R h;refine u9 _ w R ?_;dsimp only [go_sem];dsimp only [go_sem,Nat.reduceAdd];refine qM ok λw1 ι=>?_
  have H:=vd ok;have hsz:=T.oJ t0;have κ:=T.qV t0;have h:∀s w',Ex w w'->lF s->(∀x,x∈s↔t0.strip.Us x)->R s w':=λs w' a b c=>h s w' a b λx=>by rw [c,T.AH]
  generalize t0.strip=t at*;refine gg _ (NP _) H λw2 μ=>⟨λhd=>?_,λhd=>?_⟩
  ·exact h [] w2 (ι.trans μ) lF.nil λx=>⟨λhx=>absurd hx Qu,λhx=>absurd hx (T.bE hd)⟩
  refine da H λv w3 ς hs=>?_
  have J:=(ι.trans μ).trans ς;obtain⟨a,cap,hv⟩:=hs.slice;rw [NY]at hv;have hpl:=dG t;refine⟨a,t.parts.length,cap,hv,λout x w'=>Ex w3 w'/\lF out/\∃k:Nat,x=k/\k<=t.parts.length/\∀x,x∈out↔∃p∈t.parts.take k,p.Us x,λ _ x _=>((t.parts.length:Int) - x).toNat,
   ⟨Ex.refl _,lF.nil,0,rfl,by omega,by simp⟩,λout x w4 hI=>?_⟩
  obtain⟨Z,α,k,rfl,hk,hm⟩:=hI;refine⟨λhc=>?_,λhc=>?_⟩
  ·have G:k< t.parts.length:=by simpa using hc
   have β:t.parts[k]∈t.parts:=NO G;refine hs.get Z (i:=k) (by omega) (x:=(t.parts[k]).text) (by simp [G]) ?_;refine ih (by have :=eG β;omega) (H.parts _ β) λs w5 δ υ ε=>?_
   refine jH α (by have :=υ.bound;omega) λs' w6 ζ φ χ=>⟨by omega,⟨(Z.trans δ).trans ζ,φ,k+1,by omega,G,λx=>?_⟩,by dsimp only;omega⟩
   rw [χ,hm,ε,NR G];simp only [NU,N0];constructor
   ·rintro(⟨p,hp,hf⟩ | hf)
    ·exact⟨p,.inl hp,hf⟩
    ·exact⟨_,.inr rfl,hf⟩
   ·rintro⟨p,hp | rfl,hf⟩
    ·exact .inl ⟨p,hp,hf⟩
    ·exact .inr hf
  ·have G:k=t.parts.length:=by simp at hc;omega
   subst G;rw [Oi]at hm;refine⟨λout w'=>Ex w w'/\lF out/\∀x,x∈out↔(∃p∈t.parts,p.Us x)/\¬(t.rK=true/\x=t.bindC),qN H ⟨λhb=>?_,λhb=>?_⟩,λν w5 hJ=>?_⟩
   ·refine tK (by have :=α.bound;omega) ⟨J.trans Z,α.filter _,λx=>?_⟩;simp [hm,hb]
   ·exact⟨J.trans Z,α,λx=>by simp [hm,hb]⟩
   obtain⟨δ,ξ,ε⟩:=hJ;refine EN H λw6 ζ=>λb cp w7 hb ο ψ=>?_
   have ω:=rX.Gs ο;have hx7:Ex w w7:=(δ.trans ζ).trans (uM ψ);have hnl:t.names.length<=2:=by cases t<;>simp [T.names]
   refine⟨some ⟨b,0,none⟩,t.names.length,cp,rfl,λout x w'=>Ex w7 w'/\lF out/\∃k:Nat,x=k/\k<=t.names.length/\∀x,x∈out↔x∈t.names.take k\/x∈ν,λ _ x _=>((t.names.length:Int) - x).toNat,
    ⟨Ex.refl _,ξ,0,rfl,by omega,by simp⟩,λout x w8 hI=>?_⟩
   obtain⟨η,γ,k,rfl,hk,θ⟩:=hI;refine⟨λhc=>?_,λhc=>?_⟩
   ·have G:k< t.names.length:=by simpa using hc
    refine⟨b,0,t.names.length,cp,rfl,by omega,by omega,bt t.names k,(ω.ex η).at G,?_⟩;refine gL γ λs w9 hx9 hs9 hm9=>⟨by omega,⟨η.trans hx9,hs9,k+1,by omega,G,λx=>?_⟩,by dsimp only;omega⟩
    have e:t.names.take (k+1)=t.names.take k++[bt t.names k]:=by
     have :=gO (s:=t.names) (i:=k) (by omega) (by omega);have e2:((k:Int)+1).toNat=k+1:=by omega
     rw [e2]at this;exact this
    rw [hm9,θ,e];simp only [NU,N0];constructor
    ·rintro(h | h | h)
     ·exact .inl (.inr h)
     ·exact .inl (.inl h)
     ·exact .inr h
    ·rintro((h | h) | h)
     ·exact .inr (.inl h)
     ·exact .inl h
     ·exact .inr (.inr h)
   ·have G:k=t.names.length:=by simp at hc;omega
    subst G;rw [Oi]at θ;refine h out w8 (hx7.trans η) γ λx=>?_
    rw [θ,ε,HQ hd (λa b p e=>κ a b p e)]
theorem Cu (t:P):t.strip.peel=t.peel:=by
 induction t with
 | mat a b p G=>
  unfold T.strip;split
  ·rename_i e;rw [G];conv=>rhs;unfold T.peel;rw [Om e]
  ·rfl
 | _=>rfl
theorem BH {t:P}(ok:Ok t){w:World}{R:aB->Re}(h:∀w',Ex w w'->Ok t.peel->R t.peel.text w'):Rf 257 #[.string (ak t.text)] w (an [.s] R):=by
 refine tG _ w R ?_;dsimp only [go_sem];dsimp only [go_sem,Nat.reduceAdd];refine⟨λp w'=>Ex w w'/\∃q:P,p=q.text/\Ok q/\q.peel=t.peel,λp _=>p.length,⟨Ex.refl w,t,rfl,ok,rfl⟩,λp w1 hI=>?_⟩;obtain⟨hx,q0,rfl,ζ,Z⟩:=hI;refine qM ζ λw2 κ=>?_
 have α:=vd ζ;have hlen:q0.strip.text.length<=q0.text.length:=by
  have:∀t:P,t.strip.aH<=t.aH:=by
   intro t
   induction t with
   | mat a b p ih=>
    unfold T.strip;split
    ·simp only [T.aH];omega
    ·exact NP _
   | _=>exact NP _
  rw [T.aN,T.aN];exact this q0
 have θ:=T.qV q0;rw [<-Cu]at Z;generalize q0.strip=q at*;refine da α λv w3 μ hs=>aO α ?_
 have δ:Ex w w3:=(hx.trans κ).trans μ;have stay:q.peel=q->∀w',Ex w3 w'->R q.text w':=λe w' ν=>by
  have :=h w' (δ.trans ν) (Z▸e.symm▸α);rw [<-Z,e]at this;exact this
 cases q with
 | nil=>
  simp only [T.kind]
  repeat' first | refine aU (by decide) ?_ | refine db (by decide) ?_ | refine cz (by decide) ?_ | refine eg (by decide) ?_
  exact⟨λ _=>True,λw4 H=>⟨trivial,aU (by decide) (stay rfl w4 (H▸Ex.drew w3))⟩⟩
 | snd a b p=>
  simp only [T.kind]
  repeat' first | refine aU (by decide) ?_ | refine db (by decide) ?_ | refine cz (by decide) ?_ | refine eg (by decide) ?_
  exact⟨λ _=>True,λw4 H=>⟨trivial,aU (by decide) (stay rfl w4 (H▸Ex.drew w3))⟩⟩
 | rcv a b p=>
  simp only [T.kind]
  repeat' first | refine aU (by decide) ?_ | refine db (by decide) ?_ | refine cz (by decide) ?_ | refine eg (by decide) ?_
  exact⟨λ _=>True,λw4 H=>⟨trivial,aU (by decide) (stay rfl w4 (H▸Ex.drew w3))⟩⟩
 | tau p=>
  simp only [T.kind]
  repeat' first | refine aU (by decide) ?_ | refine db (by decide) ?_ | refine cz (by decide) ?_ | refine eg (by decide) ?_
  exact⟨λ _=>True,λw4 H=>⟨trivial,aU (by decide) (stay rfl w4 (H▸Ex.drew w3))⟩⟩
 | rep p=>
  simp only [T.kind]
  repeat' first | refine aU (by decide) ?_ | refine db (by decide) ?_ | refine cz (by decide) ?_ | refine eg (by decide) ?_
  exact⟨λ _=>True,λw4 H=>⟨trivial,aU (by decide) (stay rfl w4 (H▸Ex.drew w3))⟩⟩
 | mat a b p=>
  have ξ:=θ a b p rfl;simp only [T.kind]
  repeat' first | refine aU (by decide) ?_ | refine db (by decide) ?_ | refine cz (by decide) ?_ | refine eg (by decide) ?_
  exact⟨λ _=>True,λw4 H=>⟨trivial,aU (by decide) (stay (by unfold T.peel;rw [N2 ξ]) w4 (H▸Ex.drew w3))⟩⟩
 | res x p=>
  have β:=α.parts p (by simp [T.parts]);simp only [T.kind]
  repeat' first | refine aU (by decide) ?_ | refine db (by decide) ?_ | refine cz (by decide) ?_ | refine eg (by decide) ?_
  refine⟨λw'=>Ex w3 w',λw4 H=>⟨H▸Ex.drew w3,db (by decide) ?_⟩⟩;have G:Ex w3 w4:=H▸Ex.drew w3;refine hs.Gk (i:=0) (x:=p.text) (by omega) rfl ⟨by simp only [T.text,NI];omega,?_⟩;refine oR _ (NP _) β λs w5 J ο ι=>⟨G.trans J,dW (by have :=ο.bound;omega) ⟨G.trans J,λhq=>?_,λhq=>?_⟩⟩
  ·have hq:¬p.Us x:=by
    rw [<-ι];simpa [T.text,bt]using hq
   refine hs.get (G.trans J) (i:=0) (x:=p.text) (by omega) rfl ⟨⟨δ.trans (G.trans J),p,rfl,β,?_⟩,?_⟩
   ·rw [<-Z];conv=>rhs;unfold T.peel;rw [N2 hq]
   ·have:p.text.length< (T.res x p).text.length:=by simp only [T.text,NI];omega
    exact Od this hlen
  ·have hq:p.Us x:=by
    rw [<-ι];simpa [T.text,bt]using hq
   exact stay (by unfold T.peel;rw [Om hq]) w5 (G.trans J)
 | sum p r=>
  have β:=α.parts p (by simp [T.parts]);have ε:=α.parts r (by simp [T.parts]);have lp:p.text.length< (T.sum p r).text.length:=by simp only [T.text,NI,NL];omega
  have lr:r.text.length< (T.sum p r).text.length:=by simp only [T.text,NI,NL];omega
  simp only [T.kind]
  repeat' first | refine aU (by decide) ?_ | refine db (by decide) ?_ | refine cz (by decide) ?_ | refine eg (by decide) ?_
  refine hs.get (Ex.refl w3) (i:=0) (x:=p.text) (by omega) rfl (gg _ (NP _) β λw4 G=>⟨λhd=>?_,λhd=>?_⟩)
  ·refine hs.get G (i:=1) (x:=r.text) (by omega) rfl ⟨⟨δ.trans G,r,rfl,ε,?_⟩,Od lr hlen⟩;rw [<-Z];conv=>rhs;unfold T.peel;rw [Om hd]
  repeat' first | refine aU (by decide) ?_ | refine db (by decide) ?_ | refine cz (by decide) ?_ | refine eg (by decide) ?_
  refine hs.get G (i:=1) (x:=r.text) (by omega) rfl (gg _ (NP _) ε λw5 J=>⟨λγ=>?_,λγ=>?_⟩)
  ·refine hs.get (G.trans J) (i:=0) (x:=p.text) (by omega) rfl ⟨⟨δ.trans (G.trans J),p,rfl,β,?_⟩,Od lp hlen⟩;rw [<-Z];conv=>rhs;unfold T.peel;rw [N2 (by simp [hd]),Om γ]
  ·exact⟨λ _=>True,λw6 η=>⟨trivial,aU (by decide) (stay (by unfold T.peel;rw [N2 (by simp [hd]),N2 (by simp [γ])]) w6 ((G.trans J).trans (η▸Ex.drew w5)))⟩⟩
 | par p r=>
  have β:=α.parts p (by simp [T.parts]);have ε:=α.parts r (by simp [T.parts]);have lp:p.text.length< (T.par p r).text.length:=by simp only [T.text,NI,NL];omega
  have lr:r.text.length< (T.par p r).text.length:=by simp only [T.text,NI,NL];omega
  simp only [T.kind]
  repeat' first | refine aU (by decide) ?_ | refine db (by decide) ?_ | refine cz (by decide) ?_ | refine eg (by decide) ?_
  refine hs.get (Ex.refl w3) (i:=0) (x:=p.text) (by omega) rfl (gg _ (NP _) β λw4 G=>⟨λhd=>?_,λhd=>?_⟩)
  ·refine hs.get G (i:=1) (x:=r.text) (by omega) rfl ⟨⟨δ.trans G,r,rfl,ε,?_⟩,Od lr hlen⟩;rw [<-Z];conv=>rhs;unfold T.peel;rw [Om hd]
  repeat' first | refine aU (by decide) ?_ | refine db (by decide) ?_ | refine cz (by decide) ?_ | refine eg (by decide) ?_
  refine hs.get G (i:=1) (x:=r.text) (by omega) rfl (gg _ (NP _) ε λw5 J=>⟨λγ=>?_,λγ=>?_⟩)
  ·refine hs.get (G.trans J) (i:=0) (x:=p.text) (by omega) rfl ⟨⟨δ.trans (G.trans J),p,rfl,β,?_⟩,Od lp hlen⟩;rw [<-Z];conv=>rhs;unfold T.peel;rw [N2 (by simp [hd]),Om γ]
  ·exact⟨λ _=>True,λw6 η=>⟨trivial,aU (by decide) (stay (by unfold T.peel;rw [N2 (by simp [hd]),N2 (by simp [γ])]) w6 ((G.trans J).trans (η▸Ex.drew w5)))⟩⟩
def sv (x:Tx):Value:= .string (ak x)
def Own (B:Nat)(w:World)(v:Value)(l:List Tx):Prop:=w.ownsRow B 9 1 v l.length (l.map sv)
theorem Own.nil (B:Nat)(w:World):Own B w (.slice none 0 0) []:=QI _ _ _ _
theorem Own.strs {B:Nat}{w:World}{v:Value}{l:List Tx}(h:Own B w v l):Strs w v l:=by
 rcases h.2 with⟨rfl,J⟩ | ⟨g,cap,cur,rfl,hb,G,Z,h2,h3,h4⟩
 ·exact .inl ⟨rfl,On J⟩
 ·refine .inr ⟨g,0,cap,rfl,(Ov.1 G).1,λi x H=>?_⟩;unfold World.cell?;simp only [G,Og];have e:=ON (λl=>l[i]?) h4;obtain⟨hi,_⟩:=OL.1 H;simp only [Oj,Qh,hi,PK,PB,H,Pj]at e;rw [<-OZ];exact e
theorem Own.ex {B:Nat}{w w':World}{v:Value}{l:List Tx}(h:Own B w v l)(k:Ex w w'):Own B w' v l:=by
 refine⟨h.1,?_⟩;rcases h.2 with H | ⟨g,cap,cur,rfl,hb,G,rest⟩
 ·exact .inl H
 ·exact .inr ⟨g,cap,cur,rfl,hb,by rw [k.block g (Ov.1 G).1];exact G,rest⟩
theorem Own.mono {B G:Nat}{w:World}{v:Value}{l:List Tx}(h:Own B w v l)(hb:G<=B):Own G w v l:=Qi h hb
theorem Own.push {B:Nat}{w:World}{v:Value}{l:List Tx}(h:Own B w v l)(hB:B<=w.heap.size){x:Value}{m:List Tx}(J:Strs w x m)(hl:l.length+m.length<=1099511627776){K:Value->Re}
  (Z:∀G w',Below B w w'->Own B w' G (l++m)->w.grownBy w' v.ownBlock->(∀b,G.ownBlock=some b->v.ownBlock=some b\/w.heap.size<=b)->K G w'):
  ∃(base n k:Nat) (xs news:List Value),World.ownsRow w base 9 1 v n xs/\base<=Array.size (World.heap w)/\fk w x k 1 news/\(n+k<=maxLen/\(n+k)* 16<=140737488355328)/\
   ∀(G:Value) (w':World),World.ownsRow w' base 9 1 G (n+k) (xs++news)->World.grownBy w w' (Value.ownBlock v)->(∀b:Nat,Value.ownBlock G=some b->Value.ownBlock v=some b\/Array.size (World.heap w)<=b)->K G w':=by
 refine⟨B,l.length,m.length,l.map sv,m.map sv,h,hB,?_,⟨by unfold maxLen;omega,by omega⟩,λG w' ho H hw=>Z G w' ?_ ?_ H hw⟩
 ·refine⟨by simp,by simp [sv,oneV],?_⟩;rcases J with⟨rfl,rfl⟩ | ⟨b,off,cap,rfl,hb,hc⟩
  ·exact .inl ⟨rfl,rfl⟩
  ·refine .inr ⟨b,off,cap,rfl,λj u hu=>?_⟩;rw [PB]at hu;cases e:m[j]? with
   | none=>rw [e]at hu;cases hu
   | some y=>rw [e]at hu;cases hu;exact hc j y e
 ·exact Below.grown (Ra B w) H hB λk hk=>(Qd h k hk).1
 ·unfold Own;rw [NL,Oy];exact ho
theorem Strs.grown {w w':World}{v:Value}{l:List Tx}{row:Option Nat}(h:Strs w v l)(H:w.grownBy w' row)(G:∀b,v.ownBlock=some b->row≠some b):Strs w' v l:=by
 rcases h with h | ⟨b,off,cap,J,Z,h3⟩
 ·exact .inl h
 ·refine .inr ⟨b,off,cap,J,Od Z H.size,λi x hx=>?_⟩;rw [NJ (w:=w) (H.block b Z (λe=>G b (by rw [J];rfl) e.symm))];exact h3 i x hx
theorem Own.block {B:Nat}{w:World}{v:Value}{l:List Tx}(h:Own B w v l):∀b,v.ownBlock=some b->B<=b/\b< w.heap.size:=Qd h
theorem Ex.below {w0 w w':World}(h:Ex w0 w)(k:Below w0.heap.size w w'):Ex w0 w':=Below.trans h k
theorem Strs.one {w w':World}{b:Nat}{x:Tx}(hb:b=w.heap.size)(h:w'=w.alloc (.cells #[.string (ak x)] 9)):Strs w' (.slice (some ⟨b,0,none⟩) 1 1) [x]:=by
 subst hb h;refine .inr ⟨_,0,1,rfl,by rw [size_alloc];omega,λi z G=>?_⟩;rw [Og];refine aa ?_
 match i,G with
 | 0,G=>simp at G|-;exact G▸rfl
 | i+1,G=>simp at G
theorem Own.one {w w':World}{B b:Nat}{x:Tx}(hB:B<=w.heap.size)(hb:b=w.heap.size)(h:w'=w.alloc (.cells #[.string (ak x)] 9)):Own B w' (.slice (some ⟨b,0,none⟩) 1 1) [x]:=by
 subst hb h;refine⟨rfl,.inr ⟨_,1,#[.string (ak x)],rfl,hB,?_,by simp,by unfold maxLen;omega,rfl,rfl⟩⟩;unfold World.alloc;simp
theorem Own.none {w w':World}{B b:Nat}(hB:B<=w.heap.size)(hb:b=w.heap.size)(h:w'=w.alloc (.cells #[] 9)):Own B w' (.slice (some ⟨b,0,none⟩) 0 0) []:=by
 subst hb h;refine⟨rfl,.inr ⟨_,0,#[],rfl,hB,?_,by simp,by unfold maxLen;omega,rfl,rfl⟩⟩;unfold World.alloc;simp
theorem Strs.take {w:World}{a:Option Addr}{n cap:Nat}{l:List Tx}(h:Strs w (.slice a n cap) l){k:Int}(h0:0<=k)(J:k<=l.length):
  Strs w (.slice (if cap=Int.toNat 0 then a else Option.map (·.add (Int.toNat 0* 1)) a) (Int.toNat k - Int.toNat 0) (cap - Int.toNat 0)) (l.take k.toNat):=by
 have H:Int.toNat 0=0:=rfl;rcases h with⟨h,rfl⟩ | ⟨b,off,c,Z,h2,h3⟩
 ·cases h;have:k=0:=by simp at J;omega
  subst this;exact .inl ⟨rfl,rfl⟩
 ·cases Z;refine .inr ⟨b,off,cap,?_,h2,λi x G=>h3 i x ?_⟩
  ·have e:(if cap=Int.toNat 0 then some (⟨b,off,none⟩:Addr)else Option.map (λq:Addr=>q.add (Int.toNat 0* 1)) (some (⟨b,off,none⟩:Addr)))=some ⟨b,off,none⟩:=by
    split
    ·rfl
    ·simp [Addr.add,H]
   rw [e,H,Ow]
   congr 1
   omega
  ·rw [Qh]at G;split at G
   ·exact G
   ·cases G
theorem Strs.drop {w:World}{a:Option Addr}{n cap:Nat}{l:List Tx}(h:Strs w (.slice a n cap) l){k:Int}(h0:0<=k)(J:k<=l.length)(hc:n<=cap):
  Strs w (.slice (if cap=Int.toNat k then a else Option.map (·.add (Int.toNat k* 1)) a) (Int.toNat (n:Int) - Int.toNat k) (cap - Int.toNat k)) (l.drop k.toNat):=by
 rcases h with⟨h,rfl⟩ | ⟨b,off,c,Z,H,h3⟩
 ·cases h;have:k=0:=by simp at J;omega
  subst this;exact .inl ⟨rfl,rfl⟩
 ·cases Z;by_cases e:cap=k.toNat
  ·have hl:l.drop k.toNat=[]:=PD (by omega);rw [Om e,hl];refine .inr ⟨b,off,cap - k.toNat,?_,H,λi x G=>by simp at G⟩;rw [NT]
   congr 1
   simp only [NZ];omega
  ·rw [N2 e];refine .inr ⟨b,off+k.toNat,cap - k.toNat,?_,H,λi x G=>?_⟩
   ·rw [NT,Ph];simp [Addr.add]
   ·rw [QZ]at G;rw [Qc];exact h3 _ x G
theorem Hj (a b:Tx):(Op.bytesLess a b||decide (a=b))=jK a b:=by
 rw [Q4,jK,OT];simp only [Pb,NX];constructor
 ·rintro(h | rfl)
  ·exact List.le_of_lt h
  ·exact List.le_refl _
 ·intro h;by_cases e:a=b
  ·exact .inr e
  ·left;rcases List.le_iff_lt_or_eq.1 h with h | h
   ·exact h
   ·exact absurd h e
theorem fH {c:UInt8}{s:Tx}{l:List Tx}(h:l≠[]):joinS c (s::l)=40::(s++(c::(joinS c l++[41]))):=by
 cases l with
 | nil=>exact absurd rfl h
 | cons=>rfl
def di (l:List Tx):Nat:=(l.map List.length).sum+3* l.length
theorem eA (s:Tx)(l:List Tx):di (s::l)=s.length+di l+3:=by simp [di];omega
theorem Bv (l m:List Tx):di (l++m)=di l+di m:=by simp [di];omega
theorem mE {l m:List Tx}(h:l.Perm m):di l=di m:=by
 induction h with
 | nil=>rfl
 | cons x _ G=>rw [eA,eA,G]
 | swap x y l=>simp only [eA];omega
 | trans _ _ H J=>exact H.trans J
theorem xf (c:UInt8):∀l:List Tx,(joinS c l).length<=di l
 | []=>by simp [joinS]
 | [s]=>by simp [joinS,di]
 | s::t::l=>by
  have :=xf c (t::l);rw [fH (by simp),eA];simp only [NI,NL,NZ];omega
theorem EY (l:List Tx)(k:Nat):di (l.drop k)<=di l:=by
 conv=>rhs;rw [<-O7 k l,Bv]
 omega
theorem pG {w:World}{v:Value}{l:List Tx}{c:UInt8}(hs:Strs w v l)(G:l≠[])(hl:di l<=2199023255552){R:aB->Re}(h:R (joinS c l) w):
  Rf 179 #[v,.string (ak [c])] w (an [.s] R):=by
 refine tW v [c] w R ?_;dsimp only [go_sem];dsimp only [go_sem,Nat.reduceAdd];have β:0< l.length:=Qq.2 G;have γ:3* l.length<=di l:=by unfold di;omega
 obtain⟨a,cap,hv⟩:=hs.slice;refine⟨a,l.length,cap,hv,by omega,?_⟩;have H:l[((l.length:Int) - 1).toNat]?=some (l.getLast G):=by
  have e:((l.length:Int) - 1).toNat=l.length - 1:=by omega
  rw [e,List.getLast_eq_getElem,NK]
 refine hs.get (Ex.refl w) (i:=(l.length:Int) - 1) (by omega) H ?_;refine⟨a,l.length,cap,hv,by omega,λout i w'=>w=w'/\ -1<=i/\i<=(l.length:Int) - 2/\out=joinS c (l.drop (i+1).toNat),λ _ i _=>(i+1).toNat,⟨rfl,by omega,by omega,?_⟩,λout i w1 hI=>?_⟩
 ·have e:((l.length:Int) - 2+1).toNat=l.length - 1:=by omega
  have e2:l.drop (l.length - 1)=[l.getLast G]:=by
   rw [OK (by omega:l.length - 1< l.length),List.getLast_eq_getElem,PD (by omega)]
  rw [e,e2];rfl
 ·obtain⟨rfl,h0,h1,rfl⟩:=hI;refine⟨λJ=>?_,λJ=>?_⟩
  ·have J:0<=i:=N8 J;have hi:i.toNat< l.length:=by omega
   have Z:l.drop (i+1).toNat≠[]:=by
    intro e;have :=ON List.length e;rw [Ph,NZ]at this;omega
   have hd:l.drop i.toNat=l[i.toNat]::l.drop (i+1).toNat:=by
    have e:(i+1).toNat=i.toNat+1:=by omega
    rw [e];exact OK hi
   have hj:joinS c (l.drop i.toNat)=40::(l[i.toNat]++(c::(joinS c (l.drop (i+1).toNat)++[41]))):=by rw [hd,fH Z]
   have α:=xf c (l.drop i.toNat);have δ:=EY l i.toNat;rw [hj]at α;simp only [NI,NL,NZ]at α;refine hs.get (Ex.refl w) (i:=i) J (x:=l[i.toNat]) (NK hi) ⟨by simp only [NI,NZ];omega,by simp only [NL,NI,NZ];omega,by simp only [NL,NI,NZ];omega,by simp only [NL,NI,NZ];omega,by omega,⟨rfl,by omega,by omega,?_⟩,by dsimp only;omega⟩;have e:(i - 1+1).toNat=i.toNat:=by omega
   rw [e,hj];simp
  ·have J:¬0<=i:=N9 J;have e:(i+1).toNat=0:=by omega
   rw [e,Pz];exact h
theorem nL {w:World}{v:Value}{l:List Tx}(hs:Strs w v l)(hl:l.length<=1099511627776){R:Value->Re}(h:∀v' w',Ex w w'->Own w.heap.size w' v' (aQ l)->R v' w'):
  Rf 102 #[v] w (an [.v] R):=by
 refine qI v w R ?_;dsimp only [go_sem];dsimp only [go_sem,Nat.reduceAdd];obtain⟨a,cap,hv⟩:=hs.slice;refine⟨a,l.length,cap,hv,λout x w'=>Ex w w'/\∃k:Nat,x=k/\k<=l.length/\∃m:List Tx,Own w.heap.size w' out m/\m.Pairwise (λa b=>jK a b=true)/\m.Perm (l.take k),λ _ x _=>((l.length:Int) - x).toNat,
  ⟨Ex.refl w,0,rfl,by omega,[],Own.nil _ _,List.Pairwise.nil,by simp⟩,λout x w1 hI=>?_⟩
 obtain⟨γ,k,rfl,hk,m,J,δ,ε⟩:=hI;refine⟨λhc=>?_,λhc=>?_⟩
 ·have α:k< l.length:=by simpa using hc
  refine hs.get γ (i:=k) (by omega) (x:=l[k]) (by simp [α]) ?_;have ν:=J.strs;obtain⟨ao,co,ho⟩:=ν.slice;have hml:m.length=k:=by rw [ε.length_eq,Ow];omega
  refine⟨λj w'=>w1=w'/\0<=j/\j<=m.length/\(∀y∈m.take j.toNat,jK y l[k]=true)/\∀y∈m.drop j.toNat,jK l[k] y=true,?_,?_⟩
  ·refine⟨λj w'=>w1=w'/\0<=j/\j<=m.length/\∀y∈m.take j.toNat,jK y l[k]=true,λj _=>((m.length:Int) - j).toNat,⟨rfl,by omega,by omega,by simp⟩,λj w2 hI=>?_⟩;obtain⟨rfl,H,β,Z⟩:=hI;refine⟨ao,m.length,co,ho,λη=>?_,λη=>?_⟩
   ·have hj:j< m.length:=N8 η;have θ:j.toNat< m.length:=by omega
    refine ν.get (Ex.refl w1) (i:=j) H (x:=m[j.toNat]) (NK θ) ⟨λhle=>?_,λhle=>?_⟩
    ·rw [Hj]at hle;refine⟨by omega,⟨rfl,by omega,by omega,λy G=>?_⟩,by dsimp only;omega⟩;have e:(j+1).toNat=j.toNat+1:=by omega
     rw [e,NR θ]at G;rcases NU.1 G with G | G
     ·exact Z y G
     ·rw [N0.1 G];exact hle
    ·rw [Hj]at hle;refine⟨rfl,H,β,Z,λy G=>?_⟩;have ζ:jK l[k] m[j.toNat]=true:=by
      have :=rH l[k] m[j.toNat];rw [hle,Qa]at this;exact this
     have hd:=OK θ;have hp:(m.drop j.toNat).Pairwise (λa b=>jK a b=true):=PT (List.drop_sublist _ _) δ;rw [hd]at hp G;rcases Oa.1 G with rfl | G
     ·exact ζ
     ·exact hU _ _ _ ζ ((Qx.1 hp).1 y G)
   ·have hj:¬j< m.length:=N9 η;refine⟨rfl,H,β,Z,λy G=>?_⟩;rw [PD (by omega)]at G;cases G
  ·intro j w2 hJ;obtain⟨rfl,H,β,Z,ξ⟩:=hJ;intro b w3 hb ο;have ι:Ex w1 w3:=ο▸Ex.alloc w1 _;have ς:=(J.ex ι).strs;rw [ho]at ς;have υ:m.length<=co:=by
    rcases J.2 with⟨e,h0⟩ | ⟨g,cap,cur,e,_,_,hc,_⟩
    ·rw [ho]at e;injection e with _ e2 _;omega
    ·rw [ho]at e;cases e;exact hc
   refine⟨ao,m.length,co,ho,by omega,H,by omega,?_⟩;refine Own.push (Own.none (B:=w1.heap.size) (NP _) hb ο) ι.size (ς.take H β) (by simp;omega) λv4 w4 ω ho4 _ _=>?_
   have φ:Ex w1 w4:=ι.below ω;intro b5 w5 hb5 χ;have κ:Ex w4 w5:=χ▸Ex.alloc w4 _;refine Own.push (ho4.ex κ) (φ.trans κ).size (Strs.one hb5 χ) (by simp;omega) λv6 w6 hb6 ho6 _ _=>?_
   have μ:Ex w1 w6:=(φ.trans κ).below hb6;have ψ:=(J.ex μ).strs;rw [ho]at ψ;refine⟨ao,m.length,co,ho,H,by omega,by omega,?_⟩;refine Own.push ho6 μ.size (ψ.drop H β υ) (by simp;omega) λv7 w7 hb7 ho7 _ _=>?_
   have hx7:Ex w1 w7:=μ.below hb7;refine⟨by omega,⟨γ.trans hx7,k+1,by omega,α,_,ho7.mono γ.size,?_,?_⟩,by dsimp only;omega⟩
   ·simp only [OG];refine List.pairwise_append.2 ⟨List.pairwise_append.2 ⟨PT (List.take_sublist _ _) δ,List.pairwise_singleton _ _,λx hx y G=>?_⟩,PT (List.drop_sublist _ _) δ,λx hx y G=>?_⟩
    ·rw [N0.1 G];exact Z x hx
    ·rcases NU.1 hx with hx | hx
     ·exact hU _ _ _ (Z x hx) (ξ y G)
     ·rw [N0.1 hx];exact ξ y G
   ·simp only [OG];rw [NR α,Oq];refine List.Perm.trans ?_ (ε.append_right [l[k]]);refine(List.Perm.append_left _ PS).trans ?_;rw [<-Oq,O7]
 ·have α:k=l.length:=by simp at hc;omega
  subst α;rw [Oi]at ε;rw [<-qe δ ε]at J;exact h out w1 γ J
section
open Classical
def aK {A B:Type}(R:A->B->Prop)(l:List A)(m:List B):Prop:=l.length=m.length/\∀(i:Nat) (a:A) (b:B),l[i]?=some a->m[i]?=some b->R a b
theorem aK.nil {A B:Type}{R:A->B->Prop}:aK R [] []:=⟨rfl,λi a b h=>by simp at h⟩
theorem aK.one {A B:Type}{R:A->B->Prop}{a:A}{b:B}(h:R a b):aK R [a] [b]:=⟨rfl,λi x y G H=>by
 match i,G,H with
 | 0,G,H=>simp at G H;subst G H;exact h
 | i+1,G,H=>simp at G⟩
theorem aK.append {A B:Type}{R:A->B->Prop}{l l':List A}{m m':List B}(h:aK R l m)(k:aK R l' m'):aK R (l++l') (m++m'):=by
 refine⟨by simp [h.1,k.1],λi a b ha hb=>?_⟩;rw [List.getElem?_append]at ha hb;rw [<-h.1]at hb;split at ha
 ·rename_i hi;rw [Om hi]at hb;exact h.2 i a b ha hb
 ·rename_i hi;rw [N2 hi]at hb;exact k.2 _ a b ha hb
theorem aK.mono {A B:Type}{R G:A->B->Prop}{l:List A}{m:List B}(h:aK R l m)(hr:∀a b,a∈l->b∈m->R a b->G a b):aK G l m:=
 ⟨h.1,λi a b ha hb=>hr a b (PW ha) (PW hb) (h.2 i a b ha hb)⟩
structure Den (k:Nat)(p:P)(σ:Nat->Nat)(u:U):Prop where
 wf:p.wf=true
 len:p.text.length<=1099511627776
 bd:Bd k p
 ae:AE UInt8.toNat p σ u
 inj:fJ σ u
 uq:Uq u
theorem fF (p:P):fJ UInt8.toNat p:=λ _ _ _ _ h=>N4.1 h
theorem Uq.DN {u:U}(h:Uq u){y:Nat}(G:u.Us y):y∉BV u:=λhb=>h.nf y hb (T.a8 G)
theorem Den.dead {k:Nat}{p:P}{σ:Nat->Nat}{u:U}(d:Den k p σ u):p.dead=u.dead:=d.ae.dead
theorem Den.peel {k:Nat}{p:P}{σ:Nat->Nat}{u:U}(d:Den k p σ u)(hd:p.dead=false):∃m G,k<=m/\Den m p.peel G u.peel/\(∀y,y∉BV u->G y=σ y)/\m+p.peel.rd+p.peel.ow<=k+p.rd+p.ow:=by
 obtain⟨m,hm,hb,J⟩:=d.bd.peel;obtain⟨G,h1,Z⟩:=d.ae.peel (fF p) d.inj d.uq hd;refine⟨m,G,hm,⟨JT d.wf,?_,hb,h1,λa b ha hb H=>?_,JS u d.uq⟩,Z,J⟩
 ·have :=EX p;have h3:=d.len;rw [T.aN]at*;omega
 ·rw [T.D7]at ha hb;rw [Z a (d.uq.DN ha),Z b (d.uq.DN hb)]at H;exact d.inj a b ha hb H
section
variable {k:Nat} {p q:P} {σ:Nat->Nat} {u v:U}
theorem Den.sum (d:Den k (.sum p q) σ (.sum u v)):Den k p σ u/\Den k q σ v:=by
 have hw:=d.wf;have H:=d.len;have hb:=d.bd.le;simp only [T.wf,NM]at hw;simp only [T.text,NI,NL]at H;have :=T.gd p;have :=T.gd q;simp only [T.pm,T.rd,T.ow]at hb;exact⟨⟨hw.1,by omega,⟨d.bd.eb.1,by omega⟩,d.ae.1,d.inj.sub λx G=> .inl G,d.uq.eJ⟩,⟨hw.2,by omega,⟨d.bd.eb.2,by omega⟩,d.ae.2,d.inj.sub λx G=> .inr G,d.uq.en⟩⟩
theorem Den.par (d:Den k (.par p q) σ (.par u v)):Den k p σ u/\Den k q σ v:=by
 have hw:=d.wf;have H:=d.len;have hb:=d.bd.le;simp only [T.wf,NM]at hw;simp only [T.text,NI,NL]at H;have :=T.gd p;have :=T.gd q;simp only [T.pm,T.rd,T.ow]at hb;exact⟨⟨hw.1,by omega,⟨d.bd.eb.1,by omega⟩,d.ae.1,d.inj.sub λx G=> .inl G,d.uq.gB⟩,⟨hw.2,by omega,⟨d.bd.eb.2,by omega⟩,d.ae.2,d.inj.sub λx G=> .inr G,d.uq.fS⟩⟩
theorem Den.tau (d:Den k (.tau p) σ (.tau u)):Den k p σ u:=by
 have G:=d.len;simp only [T.text,NI]at G;exact⟨d.wf,by omega,⟨d.bd.eb,OJ (QS (T.gd p) k) d.bd.le⟩,d.ae,d.inj,d.uq.tau⟩
theorem Den.rep (d:Den k (.rep p) σ (.rep u)):Den k p σ u:=by
 have G:=d.len;simp only [T.text,NI]at G;exact⟨d.wf,by omega,⟨d.bd.eb,OJ (QS (T.gd p) k) d.bd.le⟩,d.ae,d.inj,d.uq.rep⟩
theorem Den.snd {a b:UInt8}{c e:Nat}(d:Den k (.snd a b p) σ (.snd c e u)):Den k p σ u:=by
 have hw:=d.wf;have G:=d.len;simp only [T.wf,NM]at hw;simp only [T.text,NI]at G;exact⟨hw.2,by omega,⟨d.bd.eb.2.2,OJ (QS (T.gd p) k) d.bd.le⟩,d.ae.2.2,d.inj.sub λx H=> .inr (.inr H),d.uq.snd⟩
theorem Den.mat {a b:UInt8}{c e:Nat}(d:Den k (.mat a b p) σ (.mat c e u))(h:p.dead=false):Den k p σ u:=by
 have hw:=d.wf;have J:=d.len;simp only [T.wf,NM]at hw;simp only [T.text,NI]at J;have hd:u.dead=false:=by have :=d.ae.2.2.dead;rw [<-this];exact h
 refine⟨hw.2,by omega,⟨d.bd.eb.2.2,OJ (QS (T.gd p) k) d.bd.le⟩,d.ae.2.2,d.inj.sub λx G=>?_,d.uq.mat⟩;by_cases H:c=e
 ·exact .inl ⟨H,G⟩
 ·exact .inr ⟨H,hd,.inr (.inr G)⟩
theorem Den.res {x y:UInt8}{n:Nat}{q:P}(d:Den k (.res x p) σ (.res n u))(hr:dj (k+1) p x y q)(J:¬(T.res x p).Fr y):Den (k+1) q (aG σ n y.toNat) u:=by
 have hb:=d.bd.le;have Z:=d.len;have :=T.gd p;simp only [T.pm]at hb;simp only [T.text,NI]at Z;have hv:AE (aG UInt8.toNat x y.toNat) p (aG σ n y.toNat) u:=d.ae y.toNat;refine⟨hr.wf,?_,⟨hr.eb,?_⟩,(hr.ok UInt8.toNat).symm.trans hv,?_,d.uq.res⟩
 ·rw [T.aN,T.gn hr.shp,<-T.aN];omega
 ·rw [T.uJ hr.shp];omega
 ·refine .aG (λa b ha hb G H h3=>d.inj a b ⟨ha,G⟩ ⟨hb,H⟩ h3) λz hz hu e=>J ?_
  obtain⟨x',G,H⟩:=d.ae.symm.free z ⟨hz,T.a8 hu⟩;have:x'=y:=N4.1 (H.trans e);exact this▸G
theorem Den.rcv {a x y:UInt8}{c n:Nat}{q:P}(d:Den k (.rcv a x p) σ (.rcv c n u))(hr:dj (k+1) p x y q)(G:∀z,u.Us z->z≠n->σ z≠y.toNat):Den (k+1) q (aG σ n y.toNat) u:=by
 have hb:=d.bd.le;have H:=d.len;have :=T.gd p;simp only [T.pm]at hb;simp only [T.text,NI]at H;have J:AE (aG UInt8.toNat x y.toNat) p (aG σ n y.toNat) u:=d.ae.2 y.toNat;refine⟨hr.wf,?_,⟨hr.eb,?_⟩,(hr.ok UInt8.toNat).symm.trans J,?_,d.uq.rcv⟩
 ·rw [T.aN,T.gn hr.shp,<-T.aN];omega
 ·rw [T.uJ hr.shp];omega
 ·exact .aG (λa b ha hb Z h2 h3=>d.inj a b (.inr ⟨ha,Z⟩) (.inr ⟨hb,h2⟩) h3) λz hz hu e=>G z hu hz e
end
theorem eF:∀u:U,u.dead=true->aw u=[]
 | .nil,_=>rfl
 | .snd ..,h=>by cases h
 | .rcv ..,h=>by cases h
 | .tau ..,h=>by cases h
 | .sum p q,h=>by
  simp only [T.dead,NM]at h;simp [aw,eF p h.1,eF q h.2]
 | .par p q,h=>by
  simp only [T.dead,NM]at h;simp [aw,h.1,eF q h.2]
 | .res x p,h=>by
  have hd:p.dead=true:=h;simp [aw,mQ hd,Lv.has,eF p hd]
 | .mat a b p,h=>by
  have hd:p.dead=true:=h;simp only [aw,hd,PK,eF p hd];split<;>rfl
 | .rep p,h=>by
  have hd:p.dead=true:=h;simp [aw,hd]
theorem EJ:∀u:U,Uq u->aw u.peel=aw u:=by
 intro u
 induction u with
 | nil=>intro _;rfl
 | snd=>intro _;rfl
 | rcv=>intro _;rfl
 | tau=>intro _;rfl
 | rep=>intro _;rfl
 | mat a b p G=>
  intro h;unfold T.peel;split
  ·rename_i e;rw [G h.mat];simp [aw,e]
  ·rfl
 | sum p q G H=>
  intro h;unfold T.peel;split
  ·rename_i e;rw [H h.en];simp [aw,eF p e]
  ·split
   ·rename_i e J;rw [G h.eJ];simp [aw,eF q J]
   ·rfl
 | par p q G H=>
  intro h;unfold T.peel;split
  ·rename_i e;rw [H h.fS];simp [aw,e]
  ·split
   ·rename_i e J;rw [G h.gB];simp [aw,e,J]
   ·rfl
 | res x p G=>
  intro h;unfold T.peel;split
  ·rfl
  ·rename_i e;rw [G h.res];have:¬(td p).2.has x=true:=λZ=>e ((gv p x h.gJ).1 Z)
   simp [aw,this]
theorem dA:∀u:U,(aw u).length<=u.size
 | .nil=>by simp [aw,T.size]
 | .snd .. =>by simp [aw,T.size]
 | .rcv .. =>by simp [aw,T.size]
 | .tau .. =>by simp [aw,T.size]
 | .sum p q=>by have :=dA p;have :=dA q;simp only [aw,T.size,NL];omega
 | .par p q=>by
  have :=dA p;have :=dA q;simp only [aw,T.size];split
  ·omega
  ·split
   ·omega
   ·simp
 | .res x p=>by
  have :=dA p;simp only [aw,T.size];split
  ·simp
  ·omega
 | .mat a b p=>by
  have :=dA p;simp only [aw,T.size];split
  ·omega
  ·split<;>simp
 | .rep p=>by
  simp only [aw,T.size];split<;>simp
theorem AE.size {p:P}{u:U}{ρ:UInt8->Nat}{σ:Nat->Nat}(h:AE ρ p σ u):p.size=u.size:=by
 induction p generalizing u ρ σ<;>cases u<;>simp only [AE]at h<;>simp only [T.size]
 case snd.snd G _ _ _=>rw [G h.2.2]
 case mat.mat G _ _ _=>rw [G h.2.2]
 case rcv.rcv G _ _ _=>rw [G (h.2 0)]
 case res.res G _ _=>rw [G (h 0)]
 case tau.tau G _=>rw [G h]
 case rep.rep G _=>rw [G h]
 case sum.sum G H _ _=>rw [G h.1,H h.2]
 case par.par G H _ _=>rw [G h.1,H h.2]
theorem fO:∀(π:List Nat) (ls:List UInt8) (ρ ρ':Rh) (x:Nat),ρ x=ρ' x->asg π ls ρ x=asg π ls ρ' x
 | [],_,_,_,_,h=>by simpa [asg]using h
 | _::_,[],_,_,_,h=>by simpa [asg]using h
 | y::π,c::ls,ρ,ρ',x,h=>by
  rw [asg,asg];refine fO π ls _ _ x ?_;unfold aG;split
  ·rfl
  ·exact h
end
def gl (i:Nat):UInt8:=if i< 26 then UInt8.ofNat (65+i)else UInt8.ofNat (166+i)
def Kj (c:UInt8):Prop:=(65<=c.toNat/\c.toNat<=90)\/192<=c.toNat
def iA (n:Nat):Tx:=(List.range n).map gl
theorem ku {i:Nat}(h:i< 90):(gl i).toNat=if i< 26 then 65+i else 166+i:=by
 unfold gl;split
 ·rw [O3];omega
 ·rw [O3];omega
theorem zW {i j:Nat}(hi:i< 90)(G:j< 90)(h:gl i=gl j):i=j:=by
 have :=ON UInt8.toNat h;rw [ku hi,ku G]at this;split at this<;>split at this<;>omega
theorem zn {i:Nat}(h:i< 90):Kj (gl i):=by
 unfold Kj;rw [ku h];split<;>omega
theorem LV {i k:Nat}(h:i< 90):okn k (gl i):=by
 unfold okn;rw [ku h];split<;>omega
theorem Ms {i:Nat}(h:i< 90):nm (gl i)=true:=by
 have e:=ku h;have H:(65:UInt8).toNat=65:=rfl;have J:(90:UInt8).toNat=90:=rfl;have G:(128:UInt8).toNat=128:=rfl;simp only [nm,Pb,NM,NX];split at e
 ·left;right;exact⟨Ob.2 (by omega),Ob.2 (by omega)⟩
 ·right;exact Ob.2 (by omega)
theorem Ik {i:Nat}(h:i+1< 90):(gl i+1=91->gl (i+1)=192)/\(gl i+1≠91->gl (i+1)=gl i+1):=by
 have e:=ku (show i< 90 by omega);have e':=ku h;have J:(gl i+1).toNat=(gl i).toNat+1:=by
  rw [QW];show((gl i).toNat+1) % 256=_;refine Nat.mod_eq_of_lt ?_;rw [e];split<;>omega
 have Z:(91:UInt8).toNat=91:=rfl;have G:(192:UInt8).toNat=192:=rfl;constructor
 ·intro hh;have :=ON UInt8.toNat hh;rw [J,e,Z]at this;apply N4.1;rw [e',G];split at this<;>split<;>omega
 ·intro hh;have H:(gl i+1).toNat≠91:=λhc=>hh (N4.1 hc)
  rw [J,e]at H;apply N4.1;rw [J,e',e];split at H<;>split<;>(try split)<;>omega
theorem iM {n:Nat}{c:UInt8}:c∈iA n↔∃j,j< n/\c=gl j:=by
 simp only [iA,Ou,O6];exact⟨fun⟨j,G,H⟩=>⟨j,G,H.symm⟩,fun⟨j,G,H⟩=>⟨j,G,H.symm⟩⟩
theorem AV (n:Nat):iA (n+1)=iA n++[gl n]:=by simp [iA,PM]
theorem iI (n:Nat):(iA n).length=n:=by simp [iA]
def asgN:List Nat->Nat->(Nat->Nat)->Nat->Nat
 | [],_,σ=>σ
 | x::l,n,σ=>asgN l (n+1) (aG σ x (gl n).toNat)
theorem lO:∀(l m:List Nat) (n:Nat) (σ:Nat->Nat),asgN (l++m) n σ=asgN m (n+l.length) (asgN l n σ)
 | [],m,n,σ=>rfl
 | x::l,m,n,σ=>by
  rw [OP,asgN,asgN,lO l m,NI]
  congr 1
  omega
theorem jB:∀(l:List Nat) (n:Nat) (σ:Nat->Nat) (y:Nat),y∉l->asgN l n σ y=σ y
 | [],_,_,_,_=>rfl
 | x::l,n,σ,y,h=>by
  simp only [Oa,Rb]at h;rw [asgN,jB l _ _ y h.2,bC _ _ h.1]
theorem uo:∀(l:List Nat) (n:Nat) (σ τ:Nat->Nat) (y:Nat),σ y=τ y->asgN l n σ y=asgN l n τ y
 | [],_,_,_,_,h=>h
 | x::l,n,σ,τ,y,h=>by
  rw [asgN,asgN];refine uo l _ _ _ y ?_;unfold aG;split
  ·rfl
  ·exact h
def GF (n:Nat)(p:P):Prop:=∀z,p.Fr z->Kj z->∃j,j< n/\z=gl j
theorem dV {x:UInt8}(h:ngr x):¬Kj x:=by unfold ngr Kj at*;omega
theorem GF.peel {n k:Nat}{p:P}(h:GF n p)(e:Eb k p):GF n p.peel:=by
 refine(T.iH (λq=>GF n q/\∃k,Eb k q) ?_ ?_ ?_ ?_ p ⟨h,k,e⟩).1
 ·rintro a q ⟨h,k,e⟩
  exact⟨λz G=>h z (.inr (.inr G)),k,e.2.2⟩
 ·rintro q r ⟨h,k,e⟩
  exact⟨⟨λz G=>h z (.inl G),k,e.1⟩,λz G=>h z (.inr G),k,e.2⟩
 ·rintro q r ⟨h,k,e⟩
  exact⟨⟨λz G=>h z (.inl G),k,e.1⟩,λz G=>h z (.inr G),k,e.2⟩
 ·rintro x q _ ⟨h,k,e⟩
  refine⟨λz G H=>?_,k+1,e.2⟩;by_cases J:z=x
  ·exact absurd H (dV (J▸e.1.1))
  ·exact h z ⟨J,G⟩ H
theorem iT:∀(u:U),∀x∈(aj u).1,x∈BV u:=by
 intro u
 induction u with
 | nil=>intro x h;simp [aj]at h
 | snd=>intro x h;simp [aj]at h
 | rcv=>intro x h;simp [aj]at h
 | tau=>intro x h;simp [aj]at h
 | sum p q G H=>
  intro x h;simp only [aj]at h;split at h
  ·exact Oc _ (H x h)
  ·split at h
   ·exact Ol _ (G x h)
   ·simp at h
 | par p q G H=>
  intro x h;simp only [aj,NU]at h;exact h.elim (λh=>Ol _ (G x h)) (λh=>Oc _ (H x h))
 | res y p G=>
  intro x h;simp only [aj]at h;split at h
  ·rcases Oa.1 h with rfl | h
   ·exact Oo ..
   ·exact NW _ (G x h)
  ·exact NW _ (G x h)
 | mat a b p G=>
  intro x h;simp only [aj]at h;split at h
  ·exact G x h
  ·split at h<;>simp at h
 | rep p G=>
  intro x h;simp only [aj]at h;split at h<;>simp at h
theorem kW:∀(u:U),Uq u->∀t∈(aj u).2,∀y,t.Us y->u.Us y\/y∈(aj u).1:=by
 intro u
 induction u with
 | nil=>intro _ t h;simp [aj]at h
 | snd=>intro _ t h;simp [aj]at h;subst h;exact λy G=> .inl G
 | rcv=>intro _ t h;simp [aj]at h;subst h;exact λy G=> .inl G
 | tau=>intro _ t h;simp [aj]at h;subst h;exact λy G=> .inl G
 | sum p q H J=>
  intro hu t h y G;simp only [aj]at h|-;split at h
  ·rename_i e;simp only [e,PK];exact(J hu.en t h y G).imp .inr id
  ·rename_i e;split at h
   ·rename_i e';simp only [e,e',PK];exact(H hu.eJ t h y G).imp .inl id
   ·simp at h;subst h;exact .inl G
 | par p q H J=>
  intro hu t h y G;simp only [aj,NU]at h|-;rcases h with h | h
  ·exact(H hu.gB t h y G).imp .inl .inl
  ·exact(J hu.fS t h y G).imp .inr .inr
 | res x p H=>
  intro hu t h y G;have h:t∈(aj p).2:=h;rcases H hu.res t h y G with Z | Z
  ·by_cases e:y=x
   ·subst e;right;simp only [aj];rw [Om ((gv p y hu.gJ).2 Z)];exact Oo ..
   ·exact .inl ⟨e,Z⟩
  ·right;simp only [aj];split
   ·exact NW _ Z
   ·exact Z
 | mat a b p H=>
  intro hu t h y G;simp only [aj]at h|-;split at h
  ·rename_i e;simp only [e,PK];exact(H hu.mat t h y G).imp (λh=> .inl ⟨rfl,h⟩) id
  ·split at h
   ·simp at h
   ·simp at h;subst h;exact .inl G
 | rep p H=>
  intro hu t h y G;simp only [aj]at h|-;split at h
  ·simp at h
  ·simp at h;subst h;exact .inl G
theorem Den.ok {k:Nat}{p:P}{σ:Nat->Nat}{u:U}(d:Den k p σ u):Ok p:=⟨d.wf,d.len⟩
def L1 (k K:Nat)(σ:Nat->Nat)(u:U)(p:P)(q:U):Prop:=∃m G,k<=m/\Den m p G q/\(∀y,y∉BV u->G y=σ y)/\m+p.rd+p.ow<=K
theorem FP {u:U}(H:u.dI)(hd:u.dead=false)(Z:∀p q,u≠ .sum p q)(hu:Uq u):aw u=[u]:=by
 cases u with
 | nil=>cases hd
 | snd=>rfl
 | rcv=>rfl
 | tau=>rfl
 | sum p q=>exact absurd rfl (Z p q)
 | par p q=>
  have J:p.dead=false:=H.1;have G:q.dead=false:=H.2;simp [aw,J,G]
 | res x p=>
  have:(td p).2.has x=true:=(gv p x hu.gJ).2 H;simp [aw,this]
 | mat a b p=>
  have J:a≠b:=H;have G:p.dead=false:=hd;simp [aw,J,G]
 | rep p=>
  have G:p.dead=false:=hd;simp [aw,G]
theorem J0 {p:P}{u:U}{ρ:UInt8->Nat}{σ:Nat->Nat}(h:AE ρ p σ u):(∀a b,p≠ .sum a b)↔∀a b,u≠ .sum a b:=by
 cases p<;>cases u<;>simp [AE]at h|-
theorem zT:∀(n:Nat) {k:Nat} {p:P} {σ:Nat->Nat} {u:U},p.size<=n->Den k p σ u->∀{w:World} {R:Value->Re},
  (∀v w' (ps:List P),Ex w w'->Own w.heap.size w' v (ps.map T.text)->aK (L1 k (k+p.rd+p.ow) σ u) ps (aw u)->(∀x∈ps,∀j,GF j p->GF j x)->R v w')->Rf 261 #[.string (ak p.text)] w (an [.v] R):=by
 intro n
 induction n with
 | zero=>intro k p σ u h;have :=aW p;omega
 | succ n ih=>
  intro k p σ u hn d w R h;refine oK _ w R ?_;dsimp only [go_sem];dsimp only [go_sem,Nat.reduceAdd];refine BH d.ok λw1 Z H=>?_
  have υ:=T.wX p;have η:=T.mT p;by_cases hd:p.dead=true
  ·
   have hq:p.peel.dead=true:=by rw [η];exact hd
   have hs:aw u=[]:=eF u (by rw [<-d.dead];exact hd);have hp:=T.lv p;refine aO H ⟨λhc=>?_,λhc=>?_⟩
   ·exact gg _ (NP _) H λw2 G=>⟨λ _=>h _ w2 [] (Z.trans G) (Own.nil _ _) (by rw [hs];exact aK.nil) (λx h=>(by cases h)),λhh=>absurd hh (by rw [hq];simp)⟩
   ·exfalso;generalize p.peel=q at*;cases q<;>simp [T.kind]at hc
    simp [T.dead,hp.1]at hq
  have hd:p.dead=false:=by simpa using hd
  obtain⟨m,φ,hm,d',ε,θ⟩:=d.peel hd;have χ:=T.lv u;rw [<-EJ u d.uq]at h;have ψ:u.peel.dead=false:=by rw [T.mT,<-d.dead];exact hd
  have ω:p.peel.dead=false:=by rw [η];exact hd
  have ι:∀y,y∉BV u->y∉BV u.peel:=λy hy hb=>hy (Ej u y hb)
  have κ:∀j,GF j p->GF j p.peel:=λj hj=>hj.peel d.bd.eb
  generalize p.peel=q at*;generalize u.peel=v at*;refine aO H ⟨λhc=>?_,λhc=>?_⟩
  ·have hns:∀a b,q≠ .sum a b:=λa b e=>by subst e;simp [T.kind]at hc
   refine gg _ (NP _) H λw2 G=>⟨λhh=>absurd hh (by rw [ω];simp),λ _=>λb w3 hb J=>?_⟩
   refine h _ w3 [q] ((Z.trans G).trans (J▸Ex.alloc w2 _)) (Own.one (Z.trans G).size hb J) ?_ λx hx j hj=>?_
   ·rw [FP χ ψ ((J0 d'.ae).1 hns) d'.uq];exact aK.one ⟨m,φ,hm,d',ε,θ⟩
   ·have:x=q:=by simpa using hx
    subst this;exact κ j hj
  ·cases q<;>simp [T.kind]at hc
   rename_i a b;cases v<;>(try exact d'.ae.elim)
   rename_i u1 u2;obtain⟨d1,d2⟩:=d'.sum;simp only [T.size]at υ;simp only [T.rd,T.ow]at θ;refine da H λvp w2 G α=>?_
   have α:Strs w2 vp [a.text,b.text]:=α;refine⟨λw'=>Ex w2 w',λw3 J=>⟨J▸Ex.drew w2,?_⟩⟩;have β:Ex w2 w3:=J▸Ex.drew w2;refine α.Gk (i:=0) (x:=a.text) (by omega) rfl ?_;refine α.Gk (i:=1) (x:=b.text) (by omega) rfl ?_;refine ih (by omega) d1 λv4 w4 ps1 γ ho4 μ hg4=>⟨β.trans γ,ih (by omega) d2 λv5 w5 ps2 δ ho5 ν hg5=>⟨(β.trans γ).trans δ,?_⟩⟩
   have z1:=dA u1;have z2:=dA u2;have e1:=d1.ae.size;have e2:=d2.ae.size;have t1:=bw a;have t2:=bw b;have hl:=d'.len;simp only [T.text,NI,NL]at hl;have l1:=μ.1;have l2:=ν.1;have hE:Ex w w3:=(Z.trans G).trans β;refine Own.push (ho4.ex δ) (γ.trans δ).size ho5.strs (by simp only [NY];omega) λv6 w6 hb6 ho6 _ _=>?_
   have ξ:Ex w3 w6:=(γ.trans δ).below hb6;refine⟨β.trans ξ,h _ w6 (ps1++ps2) (hE.trans ξ) ?_ ?_ λx hx j hj=>?_⟩
   ·rw [Oy];exact ho6.mono hE.size
   ·have ο:∀y,y∉BV u->y∉BV u1:=λy hy hb=>ι y hy (Ol _ hb)
    have ς:∀y,y∉BV u->y∉BV u2:=λy hy hb=>ι y hy (Oc _ hb)
    refine aK.append (μ.mono λx y _ _ ⟨m',ζ,h1,h2,h3,h4⟩=>⟨m',ζ,by omega,h2,λz hz=>?_,by omega⟩) (ν.mono λx y _ _ ⟨m',ζ,h1,h2,h3,h4⟩=>⟨m',ζ,by omega,h2,λz hz=>?_,by omega⟩)
    ·rw [h3 z (ο z hz),ε z hz]
    ·rw [h3 z (ς z hz),ε z hz]
   ·have hj:=κ j hj;exact(NU.1 hx).elim (λhx=>hg4 x hx j λz hz=>hj z (.inl hz)) (λhx=>hg5 x hx j λz hz=>hj z (.inr hz))
theorem EM {s o:Tx}:s≠[]->(o.Perm s↔∃i r,i< s.length/\r.Perm (s.take i++s.drop (i+1))/\o=bt s i::r):=by
 intro H;constructor
 ·intro h;cases o with
  | nil=>exact absurd h.symm.eq_nil H
  | cons c r=>
   obtain⟨i,hi,e⟩:=OX.1 (h.subset (Oo ..));refine⟨i,r,hi,?_,by simp [bt,hi,e]⟩;have G:s.Perm (s[i]::(s.take i++s.drop (i+1))):=by
    conv=>lhs;rw [<-O7 i s,OK hi]
    exact Qs
   rw [e]at G;exact(Q3 c).1 (h.trans G)
 ·rintro⟨i,r,hi,hr,rfl⟩
  have G:s.Perm (s[i]::(s.take i++s.drop (i+1))):=by
   conv=>lhs;rw [<-O7 i s,OK hi]
   exact Qs
  have e:bt s i=s[i]:=by simp [bt,hi]
  rw [e];exact(List.Perm.cons _ hr).trans G.symm
theorem B9:∀(n:Nat) {s:Tx},s.length<=n->n<=5->∀{w:World} {R:Value->Re},
  (∀v w' (L:List Tx),Ex w w'->Own w.heap.size w' v L->L.length<=6^s.length->(∀o,o∈L↔o.Perm s)->R v w')->Rf 242 #[.string (ak s)] w (an [.v] R):=by
 intro n
 induction n with
 | zero=>
  intro s hs hn w R h;have:s=[]:=On (by omega);subst this;refine je _ w R ?_;dsimp only [go_sem];refine⟨λ _=>λb w1 hb J=>h _ w1 [[]] (J▸Ex.alloc w _) (Own.one (NP _) hb J) (by simp) λo=>by simp,λhc=>absurd hc (by simp)⟩
 | succ n ih=>
  intro s hs hn w R h;refine je _ w R ?_;dsimp only [go_sem];dsimp only [go_sem,Nat.reduceAdd];refine⟨λhc=>?_,λhc=>?_⟩
  ·have hc:s=[]:=N8 hc;subst hc;exact λb w1 hb J=>h _ w1 [[]] (J▸Ex.alloc w _) (Own.one (NP _) hb J) (by simp) λo=>by simp
  ·have ν:s≠[]:=N9 hc;have hpos:0< s.length:=Qq.2 ν;intro b cap w1 hb hrow hgr;have hx1:Ex w w1:=uM hgr;have h6:6^(s.length - 1)<=1296:=OJ (Nat.pow_le_pow_right (by omega) (by omega:s.length - 1<=4)) (by decide);have h6':6^s.length=6* 6^(s.length - 1):=by
    conv=>lhs;rw [show s.length=(s.length - 1)+1 by omega,Nat.pow_succ]
    omega
   generalize hP:6^(s.length - 1)=P6 at*;refine⟨some ⟨b,0,none⟩,s.length,cap,rfl,λout x w'=>Ex w w'/\∃i:Nat,x=i/\i<=s.length/\∃L:List Tx,Own w.heap.size w' out L/\L.length<=i* P6/\∀o,o∈L↔∃j r,j< i/\r.Perm (s.take j++s.drop (j+1))/\o=bt s j::r,
    λ _ x _=>((s.length:Int) - x).toNat,⟨hx1,0,rfl,by omega,[],Own.nil _ _,by simp,λo=>by simp⟩,λout x w2 hI=>?_⟩
   obtain⟨ξ,i,rfl,hi,L,δ,hL2,ο⟩:=hI;refine⟨λε=>?_,λε=>?_⟩
   ·have ζ:i< s.length:=by simpa using ε
    have ei:((i:Int)+1).toNat=i+1:=by omega
    refine⟨λw'=>True,λw3 hw3=>⟨trivial,by omega,by omega,by omega,by simp only [Ow,Ph];omega,?_⟩⟩;have ς:Ex w2 w3:=hw3▸Ex.drew w2;rw [ei,NT];have hlen:(s.take i++s.drop (i+1)).length=s.length - 1:=by simp only [NL,Ow,Ph];omega
    refine ih (by omega) (by omega) λvr w4 M hx4 η hM2 θ=>⟨trivial,?_⟩
    rw [hlen,hP]at hM2;have υ:=η.strs;obtain⟨ar,cr,hvr⟩:=υ.slice;have α:=ς.trans hx4;have hE4:Ex w w4:=ξ.trans α;refine⟨ar,M.length,cr,hvr,λout y w'=>(Ex w w'/\w4.heap.size<=w'.heap.size/\Strs w' vr M/\∀b,out.ownBlock=some b->vr.ownBlock≠some b)/\∃j:Nat,y=j/\j<=M.length/\Own w.heap.size w' out (L++(M.take j).map (bt s i::·)),λ _ y _=>((M.length:Int) - y).toNat,
     ⟨⟨hE4,NP _,υ,λb hb G=>?_⟩,0,rfl,by omega,by simpa using δ.ex α⟩,λout2 y w5 hI=>?_⟩
    ·have h1:=(δ.block b hb).2;have h2:=(η.block b G).1;have h3:=ς.size;omega
    obtain⟨⟨φ,hsz5,β,γ⟩,j,rfl,hj,ι⟩:=hI;have hmul:i* P6+P6<=6480:=by
     have:i* P6<=4* 1296:=Qv (by omega) h6;omega
    refine⟨λκ=>?_,λκ=>?_⟩
    ·have H:j< M.length:=by simpa using κ
     refine β.get (Ex.refl w5) (i:=j) (by omega) (x:=M[j]) (by simp [H]) ⟨by omega,by omega,?_,λb6 w6 hb6 μ=>?_⟩
     ·have :=(θ M[j]).1 (NO H);have h7:=this.length_eq;simp only [Ph,Ow,ei,NT];omega
     ·have χ:=xt (s:=s) (i:=(i:Int)) (by omega) (by omega);rw [ei,NT]at χ;rw [χ]at μ;have Z:Ex w5 w6:=μ▸Ex.alloc w5 _;have ψ:Ex w w6:=φ.trans Z;refine Own.push (ι.ex Z) ψ.size (Strs.one hb6 μ) (by simp only [NL,NY,Ow,NI,NZ];omega) λv7 w7 ω ho7 hg7 hw7=>?_
      have hE7:Ex w w7:=ψ.below ω;have hs7:Strs w7 vr M:=(β.ex Z).grown hg7 λb hb G=>γ b G hb
      refine⟨by omega,⟨⟨hE7,?_,hs7,λb hb G=>?_⟩,j+1,by omega,H,?_⟩,by dsimp only;omega⟩
      ·have :=Z.size;have :=ω.size;omega
      ·rcases hw7 b hb with h | h
       ·exact γ b h G
       ·have h2:=(η.block b G).2;have :=Z.size;omega
      ·have e:L++(M.take (j+1)).map (bt s i::·)=(L++(M.take j).map (bt s i::·))++[[bt s i]++M[j]]:=by
        rw [NR H,Oy,Oq];rfl
       rw [e];exact ho7
    ·have H:j=M.length:=by simp at κ;omega
     subst H;rw [Oi]at ι;refine⟨by omega,⟨φ,i+1,by omega,ζ,_,ι,?_,λo=>?_⟩,by dsimp only;omega⟩
     ·rw [NL,NY,Nat.add_mul];omega
     ·rw [NU,ο,Ou];constructor
      ·rintro(⟨j,r,h1,h2,h3⟩ | ⟨r,hr,rfl⟩)
       ·exact⟨j,r,by omega,h2,h3⟩
       ·exact⟨i,r,by omega,(θ r).1 hr,rfl⟩
      ·rintro⟨j,r,h1,h2,rfl⟩
       by_cases e:j=i
       ·subst e;exact .inr ⟨r,(θ r).2 h2,rfl⟩
       ·exact .inl ⟨j,r,by omega,h2,rfl⟩
   ·have ζ:i=s.length:=by simp at ε;omega
    subst ζ;refine h out w2 L ξ δ ?_ λo=>?_
    ·have:s.length* P6<=6* P6:=Nat.mul_le_mul_right _ (by omega);omega
    ·rw [ο,EM ν]
structure Kp (w w':World)(S:Nat->Prop):Prop where
 os:w'.os=w.os
 tape:w'.tape=w.tape
 output:w'.output=w.output
 size:w.heap.size<=w'.heap.size
 block:∀g,g< w.heap.size->¬S g->w'.heap[g]?=w.heap[g]?
theorem Kp.ab {w w':World}(h:Ex w w')(S:Nat->Prop):Kp w w' S:=⟨h.os,h.tape,h.output,h.size,λg G _=>h.block g G⟩
theorem Kp.trans {a b c:World}{S T:Nat->Prop}(h:Kp a b S)(k:Kp b c T)(J:∀g,g< a.heap.size->T g->S g):Kp a c S:=
 ⟨k.os.trans h.os,k.tape.trans h.tape,k.output.trans h.output,OJ h.size k.size,λg G H=>
  (k.block g (Od G h.size) λZ=>H (J g G Z)).trans (h.block g G H)⟩
theorem Kp.below {w w':World}{S:Nat->Prop}{B:Nat}(h:Kp w w' S)(hB:B<=w.heap.size)(G:∀g,g< B->¬S g):Below B w w':=
 ⟨h.os,h.tape,h.output,h.size,λg H=>h.block g (by omega) (G g H)⟩
theorem Strs.kp {w w':World}{v:Value}{l:List Tx}{S:Nat->Prop}(h:Strs w v l)(k:Kp w w' S)(J:∀b off n cap,v= .slice (some ⟨b,off,none⟩) n cap->¬S b):Strs w' v l:=by
 rcases h with h | ⟨b,off,cap,G,H,Z⟩
 ·exact .inl h
 ·refine .inr ⟨b,off,cap,G,Od H k.size,λi x hx=>?_⟩;rw [NJ (w:=w) (k.block b H (J b off _ cap G))];exact Z i x hx
structure GL (B:Nat)(w:World)(b:Nat)(f:Tx)(v:Value)(L:List Tx):Prop where
 lt:b< w.heap.size
 base:B<=b
 c0:w.cell? ⟨b,0,none⟩=some (sv f)
 c1:w.cell? ⟨b,1,none⟩=some v
 own:Own B w v L
 ne:v.ownBlock≠some b
 f0:w.frozen? ⟨b,0,none⟩=false
 f1:w.frozen? ⟨b,1,none⟩=false
def gS (b:Nat)(v:Value)(g:Nat):Prop:=g=b\/v.ownBlock=some g
theorem GL.ex {B:Nat}{w w':World}{b:Nat}{f:Tx}{v:Value}{L:List Tx}(h:GL B w b f v L)(k:Ex w w'):GL B w' b f v L:=
 ⟨Od h.lt k.size,h.base,by rw [k.cell h.lt];exact h.c0,by rw [k.cell h.lt];exact h.c1,h.own.ex k,h.ne,by rw [PH k h.lt];exact h.f0,by rw [PH k h.lt];exact h.f1⟩
def Is (k:Nat)(σ:Nat->Nat)(u:U)(j:Nat)(p:P)(t:U):Prop:=
 ∃m τ,k<=m/\Den m p τ t/\(∀y,t.Us y->τ y=asgN (aj u).1 j σ y)/\GF (j+(aj u).1.length) p
theorem xr:∀(l:List Nat) (n:Nat) (σ τ:Nat->Nat) (y:Nat),(y∈l\/σ y=τ y)->asgN l n σ y=asgN l n τ y
 | [],_,_,_,_,h=>by simpa [asgN]using h
 | x::l,n,σ,τ,y,h=>by
  rw [asgN,asgN];refine xr l _ _ _ y ?_;by_cases e:y=x
  ·right;subst e;simp [aG]
  ·rcases h with h | h
   ·exact .inl ((Oa.1 h).resolve_left e)
   ·right;simp [aG,e,h]
theorem Gh {u:U}(J:u.dI)(hd:u.dead=false)(H:∀p q,u≠ .par p q)(G:∀x p,u≠ .res x p):aj u=([],[u]):=by
 cases u with
 | nil=>cases hd
 | snd=>rfl
 | rcv=>rfl
 | tau=>rfl
 | par p q=>exact absurd rfl (H p q)
 | res x p=>exact absurd rfl (G x p)
 | sum p q=>
  have H:p.dead=false:=J.1;have G:q.dead=false:=J.2;simp [aj,H,G]
 | mat a b p=>
  have H:a≠b:=J;have G:p.dead=false:=hd;simp [aj,H,G]
 | rep p=>
  have G:p.dead=false:=hd;simp [aj,G]
theorem GL.HD {B:Nat}{w:World}{b:Nat}{f:Tx}{v:Value}{L:List Tx}(h:GL B w b f v L)(g:Tx):GL B (w.setCell ⟨b,0,none⟩ (sv g)) b g v L:=by
 have J:∀n,n≠b->(w.setCell ⟨b,0,none⟩ (sv g)).heap[n]?=w.heap[n]?:=λn G=>Qj _ _ _ _ G
 refine⟨by rw [Ox];exact h.lt,h.base,N5 _ _ _ h.c0,?_,⟨h.own.1,?_⟩,h.ne,by rw [N6];exact h.f0,by rw [N6];exact h.f1⟩
 ·rw [NQ _ _ _ _ (by simp)];exact h.c1
 ·rcases h.own.2 with G | ⟨H,cap,cur,e,hb,Z,rest⟩
  ·exact .inl G
  ·refine .inr ⟨H,cap,cur,e,hb,?_,rest⟩;rw [J H λhh=>h.ne (by rw [e,<-hh];rfl)];exact Z
theorem GL.Ch {B:Nat}{w w':World}{b:Nat}{f:Tx}{v G:Value}{L L':List Tx}(h:GL B w b f v L)(hg:w.grownBy w' v.ownBlock)(ho:Own B w' G L')(H:G.ownBlock≠some b):
  GL B (w'.setCell ⟨b,1,none⟩ G) b f G L'/\((∃u,w'.cell? ⟨b,1,none⟩=some u)/\w'.frozen? ⟨b,1,none⟩=false):=by
 have hb:w'.heap[b]?=w.heap[b]?:=hg.block b h.lt λe=>h.ne e.symm
 have e0:w'.cell? ⟨b,0,none⟩=some (sv f):=by rw [NJ (w:=w) hb];exact h.c0
 have e1:w'.cell? ⟨b,1,none⟩=some v:=by rw [NJ (w:=w) hb];exact h.c1
 have z0:w'.frozen? ⟨b,0,none⟩=false:=by rw [Oh (w:=w) hb];exact h.f0
 have z1:w'.frozen? ⟨b,1,none⟩=false:=by rw [Oh (w:=w) hb];exact h.f1
 have hk:∀n,n≠b->(w'.setCell ⟨b,1,none⟩ G).heap[n]?=w'.heap[n]?:=λn J=>Qj _ _ _ _ J
 refine⟨⟨by rw [Ox];exact Od h.lt hg.size,h.base,?_,N5 _ _ _ e1,⟨ho.1,?_⟩,H,by rw [N6];exact z0,by rw [N6];exact z1⟩,⟨⟨_,e1⟩,z1⟩⟩
 ·rw [NQ _ _ _ _ (by simp)];exact e0
 ·rcases ho.2 with J | ⟨g',cap,cur,e,hb,Z,rest⟩
  ·exact .inl J
  ·refine .inr ⟨g',cap,cur,e,hb,?_,rest⟩;rw [hk g' λhh=>H (by rw [e,<-hh];rfl)];exact Z
theorem Kp.set {w w':World}{S:Nat->Prop}(h:Kp w w' S){b i:Nat}(hb:S b)(v:Value):Kp w (w'.setCell ⟨b,i,none⟩ v) S:=
 ⟨h.os,h.tape,h.output,by rw [Ox];exact h.size,λg H G=>(Qj _ _ _ _ (show g≠b from λe=>G (by rw [e];exact hb))).trans (h.block g H G)⟩
theorem Kp.grown {w w1 w':World}{S:Nat->Prop}(h:Kp w w1 S){row:Option Nat}(H:w1.grownBy w' row)(hr:∀g,row=some g->g< w.heap.size->S g):Kp w w' S:=
 ⟨H.os.trans h.os,H.tape.trans h.tape,H.output.trans h.output,OJ h.size H.size,λg G J=>
  (H.block g (Od G h.size) (λe=>J (hr g e.symm G))).trans (h.block g G J)⟩
theorem gh:∀u:U,(aj u).2.length<=u.size
 | .nil=>by simp [aj]
 | .snd .. =>by simp [aj,T.size]
 | .rcv .. =>by simp [aj,T.size]
 | .tau .. =>by simp [aj,T.size]
 | .sum p q=>by
  have :=gh p;have :=gh q;simp only [aj,T.size];split
  ·omega
  ·split
   ·omega
   ·simp
 | .par p q=>by have :=gh p;have :=gh q;simp only [aj,T.size,NL];omega
 | .res x p=>by have :=gh p;simp only [aj,T.size];omega
 | .mat a b p=>by
  have :=gh p;simp only [aj,T.size];split
  ·omega
  ·split<;>simp
 | .rep p=>by
  simp only [aj,T.size];split<;>simp
theorem iX:∀u:U,(aj u).1.length<=u.ow
 | .nil=>by simp [aj]
 | .snd .. =>by simp [aj]
 | .rcv .. =>by simp [aj]
 | .tau .. =>by simp [aj]
 | .sum p q=>by
  have :=iX p;have :=iX q;simp only [aj,T.ow];split
  ·omega
  ·split
   ·omega
   ·simp
 | .par p q=>by have :=iX p;have :=iX q;simp only [aj,T.ow,NL];omega
 | .res x p=>by
  have :=iX p;simp only [aj,T.ow];split
  ·simp only [NI];omega
  ·omega
 | .mat a b p=>by
  have :=iX p;simp only [aj,T.ow];split
  ·omega
  ·split<;>simp
 | .rep p=>by
  simp only [aj,T.ow];split<;>simp
theorem pT {p:P}{u:U}{ρ:UInt8->Nat}{σ:Nat->Nat}(h:AE ρ p σ u):u.ow=p.ow:=by
 induction p generalizing u ρ σ<;>cases u<;>simp only [AE]at h<;>simp only [T.ow]
 case snd.snd G _ _ _=>exact G h.2.2
 case mat.mat G _ _ _=>exact G h.2.2
 case rcv.rcv G _ _ _=>exact G (h.2 0)
 case res.res G _ _=>rw [G (h 0)]
 case tau.tau G _=>exact G h
 case rep.rep G _=>exact G h
 case sum.sum G H _ _=>rw [G h.1,H h.2]
 case par.par G H _ _=>rw [G h.1,H h.2]
theorem He:∀(n:Nat) {k:Nat} {p:P} {σ:Nat->Nat} {u:U} {j:Nat},p.size<=n->Den k p σ u->GF j p->j+p.ow<=64->
  ∀{B b:Nat} {v:Value} {L:List Tx} {w:World} {R:Re},GL B w b (iA j) v L->L.length+p.size<=1099511627776->
  (∀w' v' (ps:List P),Kp w w' (gS b v)->(∀g,v'.ownBlock=some g->v.ownBlock=some g\/w.heap.size<=g)->GL B w' b (iA (j+(aj u).1.length)) v' (L++ps.map T.text)->aK (Is k σ u j) ps (aj u).2->R w')->
  Rf 241 #[.pointer (some ⟨b,0,none⟩),.string (ak p.text)] w (an [] R):=by
 intro n
 induction n with
 | zero=>intro k p σ u j h;have :=aW p;omega
 | succ n ih=>
  intro k p σ u j hn d hgf how B b v L w R γ hL h;refine jP _ _ w R ?_;dsimp only [go_sem];dsimp only [go_sem,Nat.reduceAdd];refine BH d.ok λw1 hx1 ς=>?_
  have hsz:=T.wX p;have hdd:=T.mT p;refine gg _ (NP _) ς λw2 hx2=>⟨λhd=>?_,λhd=>?_⟩
  ·have hx:Ex w w2:=hx1.trans hx2;have Z:=dq u d.uq (by rw [<-d.dead,<-hdd];exact hd);rw [Z]at h;exact h w2 v [] (Kp.ab hx _) (λg Z=> .inl Z) (by simpa using γ.ex hx) aK.nil
  have hpd:p.dead=false:=by rw [<-hdd];exact hd
  obtain⟨m,υ,hm,d',hσ,hlo⟩:=d.peel hpd;clear hlo;have ε:GF j p.peel:=hgf.peel d.bd.eb;have how':j+p.peel.ow<=64:=by have :=T.Jj p;omega
  have hpu:=T.lv u;have hud:u.peel.dead=false:=by rw [T.mT,<-d.dead];exact hpd
  have hbv:∀y,y∉BV u->y∉BV u.peel:=λy hy hb=>hy (Ej u y hb)
  have φ:=d'.uq;have h:∀w' v' (ps:List P),Kp w w' (gS b v)->(∀g,v'.ownBlock=some g->v.ownBlock=some g\/w.heap.size<=g)->GL B w' b (iA (j+(aj u.peel).1.length)) v' (L++ps.map T.text)->aK (Is m υ u.peel j) ps (aj u.peel).2->R w':=by
   intro w' v' ps G h2 h3 h4;have hus:=kW u.peel φ;rw [qd u d.uq]at h3;have hmem:∀t∈(aj u.peel).2,∀y,t.Us y->asgN (aj u.peel).1 j υ y=asgN (aj u.peel).1 j σ y:=by
    intro t ht y hy;refine xr _ _ _ _ _ ?_;rcases hus t ht y hy with hh | hh
    ·right;rw [T.D7]at hh;exact hσ y (d.uq.DN hh)
    ·exact .inl hh
   have h4':aK (Is k σ u j) ps (aj u.peel).2:=h4.mono λa t _ ht ⟨m',τ,q1,q2,q3,q4⟩=>⟨m',τ,by omega,q2,λy hy=>by rw [q3 y hy,hmem t ht y hy,qd u d.uq],by rw [qd u d.uq]at q4;exact q4⟩
   rw [qd u d.uq]at h4';exact h w' v' ps G h2 h3 h4'
  generalize p.peel=q at*;generalize u.peel=t at*;have β:Ex w w2:=hx1.trans hx2;have ζ:=γ.ex β;have thread:(∀a b,q≠ .par a b)->(∀x a,q≠ .res x a)->True:=λ _ _=>trivial
  refine aO ς ⟨λhc=>?_,λhc=>⟨λhc2=>?_,λhc2=>?_⟩⟩
  ·
   cases q<;>simp [T.kind]at hc
   rename_i a c;cases t<;>(try exact d'.ae.elim)
   rename_i u1 u2;obtain⟨d1,d2⟩:=d'.par;simp only [T.size]at hsz;simp only [T.ow]at how';have z1:=d1.ae.size;have z2:=d2.ae.size;refine rr ς λvp w3 α ψ hfr=>?_
   have ψ:Strs w3 vp [a.text,c.text]:=ψ;have J:=ζ.ex α;have ξ:Ex w w3:=β.trans α;refine ψ.get (Ex.refl w3) (i:=0) (x:=a.text) (by omega) rfl ?_;refine ih (by omega) d1 (λz hz=>ε z (.inl hz)) (by omega) J (by omega) λw4 v4 ps1 hk4 hv4 hGL4 ha4=>?_
   have hs4:Strs w4 vp [a.text,c.text]:=ψ.kp hk4 λbp off n' cap e hS=>by
    have hb:=hfr bp (by rw [e];rfl);rcases hS with rfl | hS
    ·have :=ζ.lt;omega
    ·have :=(γ.own.block bp hS).2;have :=β.size;omega
   refine hs4.get (Ex.refl w4) (i:=1) (x:=c.text) (by omega) rfl ?_;have l1:=ha4.1;have g1:(aj u1).2.length<=u1.size:=gh u1;have o1:(aj u1).1.length<=a.ow:=by rw [<-pT d1.ae];exact iX u1
   refine ih (by omega) d2 (λz hz Z=>?_) (by omega) hGL4 (by simp only [NL,NY];omega) λw5 v5 ps2 hk5 hv5 η ha5=>?_
   ·obtain⟨i,hi,e⟩:=ε z (.inr hz) Z;exact⟨i,by omega,e⟩
   ·have hv45:∀g,v5.ownBlock=some g->v.ownBlock=some g\/w.heap.size<=g:=by
     intro g Z;rcases hv5 g Z with G | G
     ·rcases hv4 g G with h2 | h2
      ·exact .inl h2
      ·right;have :=ξ.size;omega
     ·right;have :=ξ.size;have :=hk4.size;omega
    refine h w5 v5 (ps1++ps2) ?_ hv45 ?_ ?_
    ·refine Kp.trans (Kp.trans (Kp.ab ξ (gS b v)) hk4 λg _ Z=>Z) hk5 λg Z hS=>?_
     rcases hS with G | G
     ·exact .inl G
     ·rcases hv4 g G with h2 | h2
      ·exact .inr h2
      ·have :=ξ.size;omega
    ·have e1:(aj (T.par u1 u2)).1.length=(aj u1).1.length+(aj u2).1.length:=by simp [aj]
     rw [e1,<-Qc,Oy,<-Oq];exact η
    ·have hnd:=Ot.1 φ.nd;have hus1:=kW u1 d1.uq;have hus2:=kW u2 d2.uq;refine aK.append (ha4.mono λx y _ hy ⟨m',τ,q1,q2,q3,q4⟩=>⟨m',τ,q1,q2,λz hz=>?_,λz hz Z=>?_⟩) (ha5.mono λx y _ hy ⟨m',τ,q1,q2,q3,q4⟩=>⟨m',τ,q1,q2,λz hz=>?_,λz hz Z=>?_⟩)
     ·have hno:z∉(aj u2).1:=λhin=>by
       have hb2:=iT u2 z hin;rcases hus1 y hy z hz with G | G
       ·exact φ.nf z (Oc _ hb2) (.inl (T.a8 G))
       ·exact hnd.2.2 z (iT u1 z G) z hb2 rfl
      show τ z=asgN ((aj u1).1++(aj u2).1) j υ z;rw [lO,jB _ _ _ _ hno];exact q3 z hz
     ·obtain⟨i,hi,e⟩:=q4 z hz Z;have e1:(aj (T.par u1 u2)).1.length=(aj u1).1.length+(aj u2).1.length:=by simp [aj]
      exact⟨i,by omega,e⟩
     ·have hno:z∉(aj u1).1:=λhin=>by
       have hb1:=iT u1 z hin;rcases hus2 y hy z hz with G | G
       ·exact φ.nf z (Ol _ hb1) (.inr (T.a8 G))
       ·exact hnd.2.2 z hb1 z (iT u2 z G) rfl
      show τ z=asgN ((aj u1).1++(aj u2).1) j υ z;rw [lO,q3 z hz];exact uo _ _ _ _ _ (jB _ _ _ _ hno).symm
     ·obtain⟨i,hi,e⟩:=q4 z hz Z;have e1:(aj (T.par u1 u2)).1.length=(aj u1).1.length+(aj u2).1.length:=by simp [aj]
      exact⟨i,by omega,e⟩
  ·cases q<;>simp [T.kind]at hc2
   rename_i x a;cases t<;>(try exact d'.ae.elim)
   rename_i y u1;have hne:T.res x a≠ .nil:=λe=>by cases e
   have hj:j< 90:=by omega
   have oka:=ς.parts a (by simp [T.parts]);refine⟨λc w'=>Ex w2 w'/\∃i:Nat,i<=j/\c=gl i,λc _=>256 - c.toNat,⟨Ex.refl _,0,by omega,rfl⟩,λc w3 hI=>?_⟩;obtain⟨α,i,hi,rfl⟩:=hI;have J:=ζ.ex α;have next:∀w',Ex w2 w'->i< j->((decide (gl i+1=91))=true->(Ex w2 w'/\∃i':Nat,i'<=j/\(192:UInt8)=gl i')/\256 - (192:UInt8).toNat< 256 - (gl i).toNat)/\((decide (gl i+1=91))=false->(Ex w2 w'/\∃i':Nat,i'<=j/\gl i+1=gl i')/\256 - (gl i+1).toNat< 256 - (gl i).toNat):=by
    intro w' hx' ω;obtain⟨n1,n2⟩:=Ik (i:=i) (by omega);have e1:=ku (show i< 90 by omega);have e2:=ku (show i+1< 90 by omega);refine⟨λhc=>?_,λhc=>?_⟩
    ·have hc:=N8 hc;refine⟨⟨hx',i+1,by omega,(n1 hc).symm⟩,?_⟩;rw [<-n1 hc,e2,e1];split<;>split<;>omega
    ·have hc:=N9 hc;refine⟨⟨hx',i+1,by omega,(n2 hc).symm⟩,?_⟩;rw [<-n2 hc,e2,e1];split<;>split<;>omega
   refine⟨b,0,rfl,iA j,J.c0,dW (by rw [iI];omega) ⟨λhq=>?_,λhq=>?_⟩⟩
   ·have hq:¬gl i∈iA j:=N9 hq;have ω:i=j:=by
     rcases Pu i j with G | G
     ·exact absurd (iM.2 ⟨i,G,rfl⟩) hq
     ·omega
    subst ω;refine ic _ (NP _) ς λs w4 hx4 hs4 hm4=>dW (by have :=hs4.bound;omega) ⟨λι=>?_,λι=>?_⟩
    ·have ι:gl i∈s:=N8 ι;obtain⟨i',G,h2⟩:=ε _ ((hm4 _).1 ι) (zn hj);exact absurd (zW hj (by omega) h2) (by omega)
    ·have ι:¬(T.res x a).Fr (gl i):=by rw [<-hm4];exact N9 ι
     have hx24:Ex w2 w4:=α.trans hx4;have ο:Ex w w4:=β.trans hx24;have fin:∀w5 w6,Ex w4 w5->w6=w5.setCell ⟨b,0,none⟩ (.string (ak (iA i++[gl i])))->Kp w w6 (gS b v)/\GL B w6 b (iA (i+1)) v L:=by
      rintro w5 w6 δ rfl
      refine⟨Kp.set (Kp.ab (ο.trans δ) _) (.inl rfl) _,?_⟩;rw [AV];exact(γ.ex (ο.trans δ)).HD _
     refine⟨λw'=>Kp w w' (gS b v)/\GL B w' b (iA (i+1)) v L,⟨λ _=>True,λw5 κ=>⟨trivial,b,0,rfl,?_,λb6 w6 hb6 μ=>⟨trivial,?_,?_⟩⟩⟩,λw6 hJ=>?_⟩
     ·have δ:Ex w4 w5:=κ▸Ex.drew w4;have η:=(γ.ex (ο.trans δ))
      refine⟨iA i,η.c0,trivial,λb6 w6 hb6 μ=>⟨trivial,b6,0,1,1,[gl i],rfl,rfl,lk _ hb6 μ,trivial,by rw [iI];simp;omega,?_⟩⟩;have θ:Ex w4 w6:=δ.trans (μ▸Ex.alloc w5 _);have H:=γ.ex (ο.trans θ);exact⟨b,0,rfl,⟨⟨_,H.c0⟩,H.f0⟩,λw7 ν=>⟨trivial,fin w6 w7 θ ν⟩⟩
     ·have δ:Ex w4 w5:=κ▸Ex.drew w4;have θ:Ex w4 w6:=δ.trans (μ▸Ex.alloc w5 _);have H:=γ.ex (ο.trans θ);refine⟨iA i,H.c0,trivial,b6,0,1,1,[gl i],rfl,rfl,lk _ hb6 μ,trivial,by rw [iI];simp;omega,?_⟩;exact⟨b,0,rfl,⟨⟨_,H.c0⟩,H.f0⟩,λw7 ν=>⟨trivial,fin w6 w7 θ ν⟩⟩
     ·have δ:Ex w4 w5:=κ▸Ex.drew w4;have θ:Ex w4 w6:=δ.trans (μ▸Ex.alloc w5 _);have H:=γ.ex (ο.trans θ);refine⟨b6,0,1,1,[gl i],rfl,rfl,lk _ hb6 μ,trivial,iA i,H.c0,trivial,by rw [iI];simp;omega,?_⟩;exact⟨b,0,rfl,⟨⟨_,H.c0⟩,H.f0⟩,λw7 ν=>⟨trivial,fin w6 w7 θ ν⟩⟩
     ·obtain⟨hk6,H⟩:=hJ;refine⟨λ _=>True,λw7 ν=>⟨trivial,by simp only [T.text,NI];omega,by simp only [T.text,NI];omega,?_⟩⟩;have hx7:Ex w6 w7:=ν▸Ex.drew w6;have hle:=d'.bd.le;simp only [T.pm]at hle;simp only [T.ow]at how';simp only [T.size]at hsz;have hbda:=T.uT a;refine dw _ (NP _) oka d'.bd.eb.2 (by omega) (Ms hj) (LV hj) λq' w8 hx8 hq'=>⟨trivial,?_⟩
      have dr:=d'.res hq' ι;have hsz':=T.qi hq'.shp;have how2:=T.H5 hq'.shp;have χ:=hx7.trans hx8;refine ih (by omega) dr (λz hz Z=>?_) (by omega) (H.ex χ) (by omega) λw9 v9 ps hk9 hv9 hGL9 ha9=>⟨trivial,?_⟩
      ·rcases hq'.ok.free z hz with G | G | G
       ·exact⟨i,by omega,G⟩
       ·obtain⟨i',h2,h3⟩:=ε z ⟨G.1,G.2⟩ Z;exact⟨i',by omega,h3⟩
       ·exact absurd Z (dV (G.1▸d'.bd.eb.1.1))
      ·have hus:(td u1).2.has y=true:=(gv u1 y φ.gJ).2 hpu;have e1:(aj (T.res y u1)).1=y::(aj u1).1:=by simp [aj,hus]
       have sz6:=hk6.size;refine h w9 v9 ps ?_ ?_ ?_ ?_
       ·exact Kp.trans hk6 (Kp.trans (Kp.ab χ (gS b v)) hk9 λg _ hS=>hS) λg _ hS=>hS
       ·intro g Z;rcases hv9 g Z with G | G
        ·exact .inl G
        ·right;have :=χ.size;omega
       ·rw [e1,NI];have e2:i+((aj u1).1.length+1)=i+1+(aj u1).1.length:=by omega
        rw [e2];exact hGL9
       ·refine ha9.mono λp' t' _ _ ⟨m',τ,q1,q2,q3,q4⟩=>⟨m',τ,by omega,q2,λz hz=>?_,λz hz Z=>?_⟩
        ·rw [e1,asgN];exact q3 z hz
        ·obtain⟨i',h2,h3⟩:=q4 z hz Z;exact⟨i',by rw [e1,NI];omega,h3⟩
   ·have hq:gl i∈iA j:=N8 hq;obtain⟨i',G,h2⟩:=iM.1 hq;have ω:i< j:=by rw [zW (by omega) (by omega) h2];exact G
    exact next w3 α ω
  ·
   have hnp:∀a c,t≠ .par a c:=λa c e=>by
    subst e;cases q<;>first | exact d'.ae.elim | simp [T.kind]at hc
   have hnr:∀x a,t≠ .res x a:=λx a e=>by
    subst e;cases q<;>first | exact d'.ae.elim | simp [T.kind]at hc2
   have Z:=Gh hpu hud hnp hnr;have hlen:L.length+1<=1099511627776:=by have :=aW p;omega
   refine⟨b,0,rfl,v,ζ.c1,λb3 w3 hb3 hw3=>?_⟩;have α:Ex w2 w3:=hw3▸Ex.alloc w2 _;have J:=ζ.ex α;refine Own.push J.own (OJ J.base (Q5 J.lt)) (Strs.one hb3 hw3) (by simpa using hlen) λv4 w4 hb4 ho4 hg4 hw4=>?_
   have hne:v4.ownBlock≠some b:=λe=>by
    rcases hw4 b e with G | G
    ·exact γ.ne G
    ·have :=J.lt;omega
   obtain⟨η,hcell⟩:=J.Ch hg4 ho4 hne;refine⟨b,0,rfl,?_,hcell,λw5 κ=>?_⟩
   ·rcases ho4.2 with⟨rfl,_⟩ | ⟨_,_,_,rfl,_⟩<;>rfl
   ·have κ:w5=w4.setCell ⟨b,1,none⟩ v4:=κ;subst κ;refine h _ v4 [q] ?_ ?_ ?_ ?_
    ·refine Kp.set (Kp.grown (Kp.ab (β.trans α) _) hg4 λg hg' _=> .inr hg') (.inl rfl) _
    ·intro g hg';rcases hw4 g hg' with G | G
     ·exact .inl G
     ·right;have :=(β.trans α).size;omega
    ·rw [Z];exact η
    ·rw [Z];refine aK.one ⟨m,υ,NP _,d',λy _=>by rw [Z];rfl,by rw [Z];exact ε⟩
def jN (l:List U):Nat:=(l.map T.aH).sum+3* l.length
theorem rO (l m:List U):jN (l++m)=jN l+jN m:=by simp [jN];omega
theorem jA:jN []=0:=rfl
theorem cA (u:U):jN [u]=u.aH+3:=by simp [jN]
theorem BB (u:U):1<=u.aH:=by cases u<;>simp only [T.aH]<;>omega
theorem fV:∀u:U,jN (aj u).2+3* (aj u).1.length<=u.aH+3
 | .nil=>by simp [aj,jA]
 | .snd .. =>by simp [aj,cA]
 | .rcv .. =>by simp [aj,cA]
 | .tau .. =>by simp [aj,cA]
 | .sum p q=>by
  have :=fV p;have :=fV q;simp only [aj,T.aH];split
  ·omega
  ·split
   ·omega
   ·simp [cA,T.aH]
 | .par p q=>by
  have :=fV p;have :=fV q;simp only [aj,T.aH,rO,NL];omega
 | .res x p=>by
  have :=fV p;simp only [aj,T.aH];split
  ·simp only [NI];omega
  ·omega
 | .mat a b p=>by
  have :=fV p;simp only [aj,T.aH];split
  ·omega
  ·split
   ·simp [jA]
   ·simp [cA,T.aH]
 | .rep p=>by
  simp only [aj,T.aH];split
  ·simp [jA]
  ·simp [cA,T.aH]
theorem eI:∀u:U,jN (aw u)<=u.aH+3
 | .nil=>by simp [aw,jA]
 | .snd .. =>by simp [aw,cA]
 | .rcv .. =>by simp [aw,cA]
 | .tau .. =>by simp [aw,cA]
 | .sum p q=>by
  have :=eI p;have :=eI q;simp only [aw,T.aH,rO];omega
 | .par p q=>by
  have :=eI p;have :=eI q;simp only [aw,T.aH];split
  ·omega
  ·split
   ·omega
   ·simp [cA,T.aH]
 | .res x p=>by
  have :=eI p;simp only [aw,T.aH];split
  ·simp [cA,T.aH]
  ·omega
 | .mat a b p=>by
  have :=eI p;simp only [aw,T.aH];split
  ·omega
  ·split
   ·simp [jA]
   ·simp [cA,T.aH]
 | .rep p=>by
  simp only [aw,T.aH];split
  ·simp [jA]
  ·simp [cA,T.aH]
theorem pL {p:P}{u:U}{ρ:UInt8->Nat}{σ:Nat->Nat}(h:AE ρ p σ u):u.aH=p.aH:=by
 induction p generalizing u ρ σ<;>cases u<;>simp only [AE]at h<;>simp only [T.aH]
 case snd.snd G _ _ _=>rw [G h.2.2]
 case mat.mat G _ _ _=>rw [G h.2.2]
 case rcv.rcv G _ _ _=>rw [G (h.2 0)]
 case res.res G _ _=>rw [G (h 0)]
 case tau.tau G _=>rw [G h]
 case rep.rep G _=>rw [G h]
 case sum.sum G H _ _=>rw [G h.1,H h.2]
 case par.par G H _ _=>rw [G h.1,H h.2]
theorem KV {c:UInt8}(h:c∈EG):lt c=true:=by
 obtain⟨i,hi,rfl⟩:=Ou.1 h;rw [O6]at hi;have e:(UInt8.ofNat (97+i)).toNat=97+i:=by rw [O3];omega
 simp only [lt,NM,NX];exact⟨Ob.2 (by rw [e];show 97<=_;omega),Ob.2 (by rw [e];show _<=122;omega)⟩
theorem BY {tk:Tk}{c:UInt8}(h:wQ tk=some c):tk c=false/\lt c=true/\ja tk=c:=by
 have G:=Qk h;have H:=List.find?_some h;exact⟨by simpa using H,KV G,by unfold ja;rw [h];rfl⟩
theorem GB {tk:Tk}(h:(wQ tk).isNone=false):tk (ja tk)=false/\lt (ja tk)=true:=by
 cases e:wQ tk with
 | none=>rw [e]at h;cases h
 | some c=>obtain⟨G,H,J⟩:=BY e;rw [J];exact⟨G,H⟩
theorem xU:∀(l:List UInt8) (tk:Tk) (c:UInt8),addK l tk c=(tk c||decide (c∈l))
 | [],tk,c=>by simp [addK]
 | d::l,tk,c=>by
  rw [addK,xU l];by_cases h:c=d
  ·subst h;simp [cV]
  ·have hb:(c==d)=false:=by simpa using h
   simp [cV,hb,h]
theorem xC:∀(n:Nat) (tk:Tk),gM n tk=false->(lets n tk).Nodup/\∀c∈lets n tk,tk c=false/\lt c=true
 | 0,tk,_=>⟨Pe,λc h=>by cases h⟩
 | n+1,tk,h=>by
  simp only [gM,Pf]at h;obtain⟨Z,h2⟩:=GB h.1;obtain⟨k1,H⟩:=xC n _ h.2;rw [lets];refine⟨OO.2 ⟨λhm=>?_,k1⟩,λc G=>?_⟩
  ·have :=(H _ hm).1;simp [cV]at this
  ·rcases Oa.1 G with rfl | G
   ·exact⟨Z,h2⟩
   ·obtain⟨J,m2⟩:=H c G;simp only [cV,Pf]at J;exact⟨J.1,m2⟩
theorem GA:∀(u:U) (y:Nat),u.Us y->∃t∈(aj u).2,t.Us y:=by
 intro u
 induction u with
 | nil=>intro y h;exact h.elim
 | snd a b p G=>intro y h;exact⟨_,by simp [aj],h⟩
 | rcv a b p G=>intro y h;exact⟨_,by simp [aj],h⟩
 | tau p G=>intro y h;exact⟨_,by simp [aj],h⟩
 | sum p q G H=>
  intro y h;simp only [aj];split
  ·rename_i e;exact H y (h.resolve_left (T.bE e))
  ·split
   ·rename_i e;exact G y (h.resolve_right (T.bE e))
   ·exact⟨_,by simp,h⟩
 | par p q G H=>
  intro y h;simp only [aj,NU];rcases h with h | h
  ·obtain⟨t,J,Z⟩:=G y h;exact⟨t,.inl J,Z⟩
  ·obtain⟨t,J,Z⟩:=H y h;exact⟨t,.inr J,Z⟩
 | res x p G=>intro y h;exact G y h.2
 | mat a b p G=>
  intro y h;simp only [aj];rcases h with⟨e,h⟩ | ⟨e,hd,h⟩
  ·rw [Om e];exact G y h
  ·rw [N2 e,N2 (by simp [hd])];exact⟨.mat a b p,by simp,.inr ⟨e,hd,h⟩⟩
 | rep p G=>
  intro y h;simp only [aj];split
  ·rename_i e;exact absurd h (T.bE (p:=p) e)
  ·exact⟨_,by simp,h⟩
theorem AY:∀(u:U),Uq u->∀x∈(aj u).1,∃t∈(aj u).2,t.Us x:=by
 intro u
 induction u with
 | nil=>intro _ x h;simp [aj]at h
 | snd=>intro _ x h;simp [aj]at h
 | rcv=>intro _ x h;simp [aj]at h
 | tau=>intro _ x h;simp [aj]at h
 | sum p q G H=>
  intro hu x h;simp only [aj]at h|-;split at h
  ·rename_i e;rw [Om e];exact H hu.en x h
  ·rename_i e;rw [N2 e];split at h
   ·rename_i e';rw [Om e'];exact G hu.eJ x h
   ·simp at h
 | par p q G H=>
  intro hu x h;simp only [aj,NU]at h|-;rcases h with h | h
  ·obtain⟨t,J,Z⟩:=G hu.gB x h;exact⟨t,.inl J,Z⟩
  ·obtain⟨t,J,Z⟩:=H hu.fS x h;exact⟨t,.inr J,Z⟩
 | res y p G=>
  intro hu x h;have e2:(aj (.res y p)).2=(aj p).2:=rfl;rw [e2];simp only [aj]at h;split at h
  ·rename_i hh;rcases Oa.1 h with rfl | h
   ·exact GA p x ((gv p x hu.gJ).1 hh)
   ·exact G hu.res x h
  ·exact G hu.res x h
 | mat a b p G=>
  intro hu x h;simp only [aj]at h|-;split at h
  ·rename_i e;rw [Om e];exact G hu.mat x h
  ·rename_i e;split at h<;>simp at h
 | rep p G=>
  intro hu x h;simp only [aj]at h;split at h<;>simp at h
theorem gZ:∀(u:U),Uq u->(aj u).1.Nodup:=by
 intro u
 induction u with
 | nil=>intro _;simp [aj]
 | snd=>intro _;simp [aj]
 | rcv=>intro _;simp [aj]
 | tau=>intro _;simp [aj]
 | sum p q G H=>
  intro hu;simp only [aj];split
  ·exact H hu.en
  ·split
   ·exact G hu.eJ
   ·simp
 | par p q G H=>
  intro hu;simp only [aj];refine Ot.2 ⟨G hu.gB,H hu.fS,λa ha b hb e=>?_⟩;exact(Ot.1 hu.nd).2.2 a (iT p a ha) b (iT q b hb) e
 | res y p G=>
  intro hu;simp only [aj];split
  ·exact OO.2 ⟨λh=>hu.gJ (iT p y h),G hu.res⟩
  ·exact G hu.res
 | mat a b p G=>
  intro hu;simp only [aj];split
  ·exact G hu.mat
  ·split<;>simp
 | rep p G=>
  intro hu;simp only [aj];split<;>simp
theorem ky:∀(l:List Nat) (n:Nat) (σ:Nat->Nat) (i:Nat) (h:i< l.length),l.Nodup->asgN l n σ l[i]=(gl (n+i)).toNat
 | [],_,_,_,h,_=>by simp at h
 | x::l,n,σ,0,_,G=>by
  have :=OO.1 G;simp only [List.getElem_cons_zero,asgN];rw [jB _ _ _ _ this.1];simp [aG]
 | x::l,n,σ,i+1,h,G=>by
  have :=OO.1 G;simp only [List.getElem_cons_succ,asgN];rw [ky l _ _ i (by simpa using h) this.2]
  congr 2
  omega
attribute [go_sem] Tryz.f203
theorem lQ (G:Value)(H:aB)(t3:aB)(w:World)(R:aB->Re)(h:vc az (a6 [(5,[(8,.s),(32,.i)]),(11,[(11,.s),(12,.i)]),(23,[(13,.s),(14,.s),(84,.i)]),(33,[(16,.s),(107,.i)]),(40,[(16,.s),(21,.i)])] [(12,[(11,.s)]),(32,[(17,.v)]),(38,[(16,.s)])] []) (ah Tryz.f203) (ai 0 [.v G,.s H,.s t3]) w (fin az [.tmp 6 .s] R)):
  Rf 203 #[G,(.string (ak H)),(.string (ak t3))] w (an [.s] R):=
 bk Tryz.func203 (by kernel_rfl) h
attribute [go_sem] Tryz.f243
theorem lX (G:Value)(t2:Value)(H:aB)(l4:aB)(t5:aB)(w:World)(R:aB->Re)(h:vc az (a6 [(3,[(11,.v),(17,.i)]),(6,[(13,.s),(14,.i)])] [] [(8,false,.lt 0 (.lt 1 (.lt 2 (.lt 3 (.lt 4 (.lt 5 (.lt 6 (.one .h 7 (.lt 8 .done)))))))))]) (ah Tryz.f243) (ai 0 [.v G,.v t2,.s H,.s l4,.s t5]) w (fin az [.tmp 10 .s] R)):
  Rf 243 #[G,t2,(.string (ak H)),(.string (ak l4)),(.string (ak t5))] w (an [.s] R):=
 bk Tryz.func243 (by kernel_rfl) h
attribute [go_sem] Tryz.f258
theorem kO (G:Value)(H:aB)(t3:aB)(w:World)(R:aB->Re)(h:vc az (a6 [(17,[(10,.v),(87,.i)])] [] [(4,false,.lt 0 (.lt 1 (.lt 4 (.lt 5 (.lt 6 (.lt 9 (.one .h 2 (.lt 3 (.one .h 7 (.lt 8 (.one .h 10 (.lt 11 (.lt 12 .done))))))))))))),(7,false,.lt 0 (.lt 1 (.lt 2 (.lt 7 (.lt 8 (.lt 9 (.lt 10 (.lt 11 (.lt 12 (.lt 14 (.lt 15 (.br .h 3 (.br .h 4 (.lt 5 (.lt 6 (.one .h 13 (.one .h 16 (.one .h 17 (.lt 18 (.lt 19 .done))))))) (.one .h 13 (.br .h 4 (.lt 5 (.lt 6 (.one .h 16 (.one .h 17 (.lt 18 (.lt 19 .done)))))) (.one .h 16 (.br .h 4 (.lt 5 (.lt 6 (.one .h 17 (.lt 18 (.lt 19 .done))))) (.one .h 17 (.one .h 4 (.lt 5 (.lt 6 (.lt 18 (.lt 19 .done))))))))))) (.one .h 13 (.br .h 3 (.br .h 4 (.lt 5 (.lt 6 (.one .h 16 (.one .h 17 (.lt 18 (.lt 19 .done)))))) (.one .h 16 (.br .h 4 (.lt 5 (.lt 6 (.one .h 17 (.lt 18 (.lt 19 .done))))) (.one .h 17 (.one .h 4 (.lt 5 (.lt 6 (.lt 18 (.lt 19 .done))))))))) (.one .h 16 (.br .h 3 (.br .h 4 (.lt 5 (.lt 6 (.one .h 17 (.lt 18 (.lt 19 .done))))) (.one .h 17 (.one .h 4 (.lt 5 (.lt 6 (.lt 18 (.lt 19 .done))))))) (.one .h 17 (.one .h 3 (.one .h 4 (.lt 5 (.lt 6 (.lt 18 (.lt 19 .done))))))))))))))))))))))),(9,false,.lt 0 (.lt 1 (.lt 2 (.lt 3 (.lt 4 (.lt 5 .done))))))]) (ah Tryz.f258) (ai 0 [.v G,.s H,.s t3]) w (fin az [.tmp 6 .s] R)):
  Rf 258 #[G,(.string (ak H)),(.string (ak t3))] w (an [.s] R):=
 bk Tryz.func258 (by kernel_rfl) h
attribute [go_sem] Tryz.f162
theorem zj (G:aB)(w:World)(R:aB->Bool->Re)(h:vc az (a6 [(4,[(5,.i),(19,.i)])] [] [(13,false,.lt 0 (.lt 1 (.lt 2 (.lt 3 (.lt 4 (.lt 5 (.lt 6 (.lt 7 .done))))))))]) (ah Tryz.f162) (ai 0 [.s G]) w (fin az [.tmp 2 .s,.tmp 3 .b] R)):
  Rf 162 #[(.string (ak G))] w (an [.s,.b] R):=
 bk Tryz.func162 (by kernel_rfl) h
attribute [go_sem] Tryz.f90
theorem yu (G:aB)(w:World)(R:aB->Bool->Re)(h:vc az (a6 [] [] []) (ah Tryz.f90) (ai 0 [.s G]) w (fin az [.tmp 2 .s,.tmp 3 .b] R)):
  Rf 90 #[(.string (ak G))] w (an [.s,.b] R):=
 bk Tryz.func90 (by kernel_rfl) h
structure MK (w:World)(bm:Nat)(br on:Bool):Prop where
 lt:bm< w.heap.size
 c0:w.cell? ⟨bm,0,none⟩=some (.bool br)
 c1:w.cell? ⟨bm,1,none⟩=some (.bool on)
 f0:w.frozen? ⟨bm,0,none⟩=false
theorem MK.ex {w w':World}{bm:Nat}{br on:Bool}(h:MK w bm br on)(k:Ex w w'):MK w' bm br on:=
 ⟨Od h.lt k.size,by rw [k.cell h.lt];exact h.c0,by rw [k.cell h.lt];exact h.c1,by rw [PH k h.lt];exact h.f0⟩
def cL (T:Tx):Tk:=λc=>decide (c∈T)
structure zl (k:Nat)(T:Tx)(σ:Nat->Nat)(u:U):Prop where
 srt:lF T
 okn:∀c∈T,okn k c/\ngr c
 cov:∀y,u.Us y->∃c∈T,c.toNat=σ y
def Compat (ρ:Rh)(σ:Nat->Nat)(u:U):Prop:=∀y,u.Us y->(ρ y).toNat=σ y
structure WR (on:Bool)(u:U)(σ:Nat->Nat)(T r:Tx):Prop where
 ne:r≠[]
 len:r.length<=u.aH
 cnt:a7 u<=5->r.count 35=cQ u
 bad:a7 u<=5->on=false->dF u (cL T)=true->∃c∈r,128<=c
 eq:a7 u<=5->on=false->dF u (cL T)=false->∀ρ,Compat ρ σ u->r=LS u ρ (cL T)
structure TR (on:Bool)(t:U)(σ:Nat->Nat)(T r:Tx):Prop where
 ne:r≠[]
 len:r.length<=t.aH
 cnt:ax (tl [t])<=5->r.count 35=thAll (tl [t])
 bad:ax (tl [t])<=5->on=false->thBad (tl [t]) (cL T)=true->∃c∈r,128<=c
 eq:ax (tl [t])<=5->on=false->thBad (tl [t]) (cL T)=false->∀ρ,Compat ρ σ t->r=thU t ρ (cL T)
theorem Dq:∀(u:U),∀t∈(aj u).2,t.ow+(aj u).1.length<=u.ow/\t.rd<=u.rd:=by
 intro u
 induction u with
 | nil=>intro t h;simp [aj]at h
 | snd=>intro t h;simp [aj]at h;subst h;simp [aj]
 | rcv=>intro t h;simp [aj]at h;subst h;simp [aj]
 | tau=>intro t h;simp [aj]at h;subst h;simp [aj]
 | sum p q G H=>
  intro t h;simp only [aj]at h|-;split at h
  ·rename_i e;rw [Om e];have :=H t h;simp only [T.ow,T.rd];omega
  ·rename_i e;rw [N2 e];split at h
   ·rename_i J;rw [Om J];have :=G t h;simp only [T.ow,T.rd];omega
   ·rename_i J;rw [N2 J];simp at h;subst h;simp
 | par p q G H=>
  intro t h;simp only [aj,NU]at h;simp only [aj,T.ow,T.rd,NL];have Z:=iX p;have hq:=iX q;rcases h with h | h
  ·have :=G t h;omega
  ·have :=H t h;omega
 | res x p G=>
  intro t h;have :=G t h;simp only [aj,T.ow,T.rd];split
  ·simp only [NI];omega
  ·omega
 | mat a b p G=>
  intro t h;simp only [aj]at h|-;split at h
  ·rename_i e;rw [Om e];exact G t h
  ·rename_i e;rw [N2 e];split at h
   ·simp at h
   ·rename_i J;rw [N2 J];simp at h;subst h;simp
 | rep p G=>
  intro t h;simp only [aj]at h|-;split at h
  ·simp at h
  ·rename_i J;rw [N2 J];simp at h;subst h;simp
theorem DV {p:P}{u:U}{ρ:UInt8->Nat}{σ:Nat->Nat}(h:AE ρ p σ u):u.rd=p.rd:=by
 induction p generalizing u ρ σ<;>cases u<;>simp only [AE]at h<;>simp only [T.rd]
 case snd.snd G _ _ _=>exact G h.2.2
 case mat.mat G _ _ _=>exact G h.2.2
 case rcv.rcv G _ _ _=>rw [G (h.2 0)]
 case res.res G _ _=>exact G (h 0)
 case tau.tau G _=>exact G h
 case rep.rep G _=>exact G h
 case sum.sum G H _ _=>rw [G h.1,H h.2]
 case par.par G H _ _=>rw [G h.1,H h.2]
def Lb (k:Nat)(u:U):Prop:=u.ow<=64/\((aj u).1.length<=5->∀t∈(aj u).2,k+(aj u).1.length+t.rd+t.ow<=64)
theorem Lb.of {k:Nat}{u:U}(h:k+u.rd+u.ow<=64):Lb k u:=⟨by omega,λ _ t G=>by have :=Dq u t G;omega⟩
theorem Den.lb {k m:Nat}{p:P}{σ:Nat->Nat}{u:U}(d:Den m p σ u)(h:k+(p.rd+p.ow)<=64):Lb k u:=Lb.of (by rw [DV d.ae,pT d.ae];omega)
def Hq (n:Nat):Prop:=∀{k:Nat} {p:P} {σ:Nat->Nat} {u:U} {T:Tx} {w:World} {bm:Nat} {br on:Bool} {R:aB->Re},
 p.size<=n->Den k p σ u->Lb k u->GF 0 p->zl k T σ u->MK w bm br on->
 (∀r w',Kp w w' (λg=>g=bm)->MK w' bm (br||decide (5< a7 u)) on->WR on u σ T r->R r w')->
 Rf 203 #[.pointer (some ⟨bm,0,none⟩),.string (ak p.text),.string (ak T)] w (an [.s] R)
def y4 (n:Nat):Prop:=∀{k:Nat} {p:P} {σ:Nat->Nat} {t:U} {T:Tx} {w:World} {bm:Nat} {br on:Bool} {R:aB->Re},
 p.size<=n->Den k p σ t->JO t=true->t.dI->t.dead=false->GF 0 p->zl k T σ t->MK w bm br on->
 (∀r w',Kp w w' (λg=>g=bm)->MK w' bm (br||decide (5< ax (tl [t]))) on->TR on t σ T r->R r w')->
 Rf 258 #[.pointer (some ⟨bm,0,none⟩),.string (ak p.text),.string (ak T)] w (an [.s] R)
theorem jk (a b:Nat)(p:U)(tk:Tk):thBad (tl [.snd a b p]) tk=dF p tk:=by simp [tl,thBad,dF]
theorem jF (p:U)(tk:Tk):thBad (tl [.tau p]) tk=dF p tk:=by simp [tl,thBad,dF]
theorem fL (a b:Nat)(p:U)(tk:Tk):thBad (tl [.mat a b p]) tk=dF p tk:=by simp [tl,thBad,dF]
theorem jD (p:U)(tk:Tk):thBad (tl [.rep p]) tk=dF p tk:=by simp [tl,thBad,dF]
theorem js (a x:Nat)(p:U)(tk:Tk):thBad (tl [.rcv a x p]) tk=((wQ tk).isNone||dF p (cV tk (ja tk))):=by simp [tl,thBad,dF]
theorem qW (a b:Nat)(p:U):thAll (tl [.snd a b p])=cQ p:=by simp [tl,thAll,cQ]
theorem qK (p:U):thAll (tl [.tau p])=cQ p:=by simp [tl,thAll,cQ]
theorem jr (a b:Nat)(p:U):thAll (tl [.mat a b p])=cQ p:=by simp [tl,thAll,cQ]
theorem qL (p:U):thAll (tl [.rep p])=cQ p:=by simp [tl,thAll,cQ]
theorem rb (a b:Nat)(p:U):thAll (tl [.rcv a b p])=cQ p:=by simp [tl,thAll,cQ]
theorem fu (a b:Nat)(p:U):ax (tl [.snd a b p])=a7 p:=by simp [tl,ax,a7]
theorem fM (p:U):ax (tl [.tau p])=a7 p:=by simp [tl,ax,a7]
theorem dx (a b:Nat)(p:U):ax (tl [.mat a b p])=a7 p:=by simp [tl,ax,a7]
theorem fy (p:U):ax (tl [.rep p])=a7 p:=by simp [tl,ax,a7]
theorem fN (a b:Nat)(p:U):ax (tl [.rcv a b p])=a7 p:=by simp [tl,ax,a7]
theorem zQ (l:List U)(tk:Tk):thBad (tp l) tk=l.any λu=>dF u tk:=by
 induction l with
 | nil=>rfl
 | cons u l G=>rw [tp,thBad,G];rfl
theorem HF (l:List U):thAll (tp l)=(l.map cQ).sum:=by
 induction l with
 | nil=>rfl
 | cons u l G=>rw [tp,thAll,G];rfl
theorem zD (l:List U)(n:Nat):ax (tp l)<=n↔∀u∈l,a7 u<=n:=by
 induction l with
 | nil=>simp [tp,ax]
 | cons u l G=>
  rw [tp,ax];rw [N1,<-G];unfold a7;exact⟨λh=>⟨by omega,by omega⟩,λh=>by have :=h.1;have :=h.2;omega⟩
theorem vI (l:List U)(tk:Tk):thBad (tl l) tk=l.any λt=>thBad (tl [t]) tk:=by
 induction l with
 | nil=>rfl
 | cons u l G=>
  have:tl (u::l)=(tl [u]).app (tl l):=fe [u] l;rw [this,cZ,G];rfl
theorem Cb (l:List U):thAll (tl l)=(l.map λt=>thAll (tl [t])).sum:=by
 induction l with
 | nil=>rfl
 | cons u l G=>
  have:tl (u::l)=(tl [u]).app (tl l):=fe [u] l;rw [this,bZ,G];rfl
theorem tn (l:List U)(n:Nat):ax (tl l)<=n↔∀t∈l,ax (tl [t])<=n:=by
 induction l with
 | nil=>simp [tl,ax]
 | cons u l G=>
  have:tl (u::l)=(tl [u]).app (tl l):=fe [u] l;rw [this,ch];rw [N1,<-G];exact⟨λh=>⟨by omega,by omega⟩,λh=>by have :=h.1;have :=h.2;omega⟩
section
open Classical
namespace T
section
variable {A B:Type} [DecidableEq A] [DecidableEq B]
def th:T A->Bool
 | snd .. =>true | rcv .. =>true | tau .. =>true | mat .. =>true | rep .. =>true | sum .. =>true
 | nil=>false | par .. =>false | res .. =>false
def isS:T A->Bool
 | sum .. =>true
 | _=>false
def isP:T A->Bool
 | par .. =>true
 | _=>false
def Nr:T A->Prop
 | nil=>True
 | snd _ _ p=>p.Nr
 | rcv _ _ p=>p.Nr
 | tau p=>p.Nr
 | sum p q=>(p.dead=false/\q.dead=false/\p.isS=false)/\p.Nr/\q.Nr
 | par p q=>(p.th=true/\(q.th=true\/q.isP=true))/\p.Nr/\q.Nr
 | res x p=>p.Us x/\p.Nr
 | mat a b p=>(a≠b/\p.dead=false)/\p.Nr
 | rep p=>p.dead=false/\p.Nr
theorem Nr.iP {A:Type}{x:A}:∀{p:T A},p.Nr->p.Fr x->p.Us x
 | nil,_,h=>h.elim
 | snd a b p,n,h=>h.imp id λh=>h.imp id (Nr.iP (p:=p) n)
 | rcv a y p,n,h=>h.imp id λh=>h.imp id (Nr.iP (p:=p) n)
 | tau p,n,h=>Nr.iP (p:=p) n h
 | sum p q,n,h=>Or.imp (Nr.iP n.2.1) (Nr.iP n.2.2) h
 | par p q,n,h=>Or.imp (Nr.iP n.2.1) (Nr.iP n.2.2) h
 | res y p,n,h=>And.imp id (Nr.iP (p:=p) n.2) h
 | mat a b p,n,h=> .inr ⟨n.1.1,n.1.2,h.imp id λh=>h.imp id (Nr.iP (p:=p) n.2)⟩
 | rep p,n,h=>Nr.iP (p:=p) n.2 h
theorem Iy {A:Type}{p:T A}{x:A}(h:p.Us x):p.dead=false:=by
 cases hd:p.dead with
 | false=>rfl
 | true=>exact absurd h (bE hd)
theorem Nr.sT {A:Type}:∀{p:T A},p.Nr->p.th=true->p.dead=false
 | snd ..,_,_=>rfl
 | rcv ..,_,_=>rfl
 | tau ..,_,_=>rfl
 | sum p q,n,_=>by simp [dead,n.1.1]
 | mat a b p,n,_=>n.1.2
 | rep p,n,_=>n.1
theorem Nr.live {A:Type}{p:T A}(n:p.Nr)(h:p≠nil):p.dead=false:=by
 cases p with
 | nil=>exact absurd rfl h
 | res x p=>exact Iy (p:=p) n.1
 | par p q=>simp [dead,n.2.1.sT n.1.1]
 | _=>exact n.sT rfl
theorem Nr.dI {A:Type}{p:T A}(n:p.Nr):p.dI:=by
 cases p with
 | mat a b p=>exact n.1.1
 | sum p q=>exact⟨n.1.1,n.1.2.1⟩
 | par p q=>
  refine⟨n.2.1.sT n.1.1,?_⟩;refine n.2.2.live ?_
  rintro rfl
  rcases n.1.2 with h | h<;>cases h
 | res x p=>exact n.1
 | _=>trivial
def frL:T A->List A
 | res x p=>x::p.frL
 | _=>[]
def ths:T A->List (T A)
 | nil=>[]
 | res _ p=>p.ths
 | par p q=>p::q.ths
 | t=>[t]
def mG:T A->List (T A)
 | sum p q=>p::q.mG
 | t=>[t]
def resL:List A->T A->T A
 | [],p=>p
 | x::l,p=>res x (resL l p)
def parL:List (T A)->T A
 | []=>nil
 | [t]=>t
 | t::u::l=>par t (parL (u::l))
def dK:List (T A)->T A
 | []=>nil
 | [t]=>t
 | t::u::l=>sum t (dK (u::l))
theorem cw {A:Type}{x:A}{p:T A}:∀{l:List A},(resL l p).Fr x↔x∉l/\p.Fr x
 | []=>by simp [resL]
 | y::l=>by simp only [resL,Fr,cw (l:=l),Oa,Rb];exact P5.symm
theorem jV {A:Type}{x:A}{p:T A}:∀{l:List A},(resL l p).Us x↔x∉l/\p.Us x
 | []=>by simp [resL]
 | y::l=>by simp only [resL,Us,jV (l:=l),Oa,Rb];exact P5.symm
theorem AI {A:Type}{p:T A}:∀{l:List A},(resL l p).frL=l++p.frL
 | []=>rfl
 | y::l=>by simp only [resL,frL,AI (l:=l),OP]
theorem BM {A:Type}{p:T A}:∀{l:List A},(resL l p).ths=p.ths
 | []=>rfl
 | y::l=>by simp only [resL,ths,BM (l:=l)]
theorem eO {A:Type}{x:A}:∀{l:List (T A)},(parL l).Fr x↔∃t∈l,t.Fr x
 | []=>by simp [parL,Fr]
 | [t]=>by simp [parL]
 | t::u::l=>by simp only [parL,Fr,eO (l:=u::l),Oa,exists_eq_or_imp]
theorem sY {A:Type}{x:A}:∀{l:List (T A)},(parL l).Us x↔∃t∈l,t.Us x
 | []=>by simp [parL,Us]
 | [t]=>by simp [parL]
 | t::u::l=>by simp only [parL,Us,sY (l:=u::l),Oa,exists_eq_or_imp]
theorem Dv {A:Type}{x:A}:∀{l:List (T A)},(dK l).Us x↔∃t∈l,t.Us x
 | []=>by simp [dK,Us]
 | [t]=>by simp [dK]
 | t::u::l=>by simp only [dK,Us,Dv (l:=u::l),Oa,exists_eq_or_imp]
theorem DE {A:Type}:∀{l:List (T A)},(∀t∈l,t.th=true/\t.Nr)->(parL l).Nr/\(l≠[]->(parL l).th=true\/(parL l).isP=true)
 | [],_=>⟨trivial,λh=>absurd rfl h⟩
 | [t],h=>⟨(h t (by simp)).2,λ _=> .inl (h t (by simp)).1⟩
 | t::u::l,h=>by
  obtain⟨G,H⟩:=DE (l:=u::l) λt J=>h t (NW _ J)
  exact⟨⟨⟨(h t (by simp)).1,H (by simp)⟩,(h t (by simp)).2,G⟩,λ _=> .inr rfl⟩
theorem ke {A:Type}{t:T A}(h:t.th=true):t.ths=[t]:=by cases t<;>first | rfl | cases h
theorem gI {A:Type}{t:T A}(h:t.th=true):t.frL=[]:=by cases t<;>first | rfl | cases h
theorem Bu {A:Type}:∀{l:List (T A)},(∀t∈l,t.th=true)->(parL l).ths=l
 | [],_=>rfl
 | [t],h=>ke (h t (by simp))
 | t::u::l,h=>by simp only [parL,ths,Bu (l:=u::l) λt G=>h t (NW _ G)]
theorem F7 {A:Type}:∀{l:List (T A)},(∀t∈l,t.th=true)->(parL l).frL=[]
 | [],_=>rfl
 | [t],h=>gI (h t (by simp))
 | t::u::l,h=>rfl
theorem DH {A:Type}{p:T A}(n:p.Nr):∀{l:List A},l.Nodup->(∀x∈l,p.Us x)->(resL l p).Nr
 | [],_,_=>n
 | x::l,G,h=>by
  have :=OO.1 G;exact⟨jV.2 ⟨this.1,h x (by simp)⟩,DH n this.2 λy H=>h y (NW _ H)⟩
theorem DO {A:Type}:∀{l:List (T A)},l≠[]->(∀t∈l,t.dead=false/\t.isS=false/\t.Nr)->(dK l).Nr/\(dK l).dead=false
 | [],h,_=>absurd rfl h
 | [t],_,h=>⟨(h t (by simp)).2.2,(h t (by simp)).1⟩
 | t::u::l,_,h=>by
  obtain⟨H,J⟩:=DO (l:=u::l) (by simp) λt G=>h t (NW _ G)
  have G:=h t (by simp);exact⟨⟨⟨G.1,J,G.2.1⟩,G.2.2,H⟩,by simp [dK,dead,G.1]⟩
theorem gP {A:Type}{t:T A}(h:t.isS=false):t.mG=[t]:=by cases t<;>first | rfl | cases h
theorem AZ {A:Type}:∀{l:List (T A)},l≠[]->(∀t∈l,t.isS=false)->(dK l).mG=l
 | [],h,_=>absurd rfl h
 | [t],_,h=>gP (h t (by simp))
 | t::u::l,_,h=>by simp only [dK,mG,AZ (l:=u::l) (by simp) λt G=>h t (NW _ G)]
theorem BA {A:Type}:∀{p:T A},p.Nr->(p.th=true\/p.isP=true)->parL p.ths=p
 | par p q,n,_=>by
  have H:=BA n.2.2 n.1.2;have G:q.ths≠[]:=by
   rcases n.1.2 with h | h
   ·rw [ke h];simp
   ·cases q<;>first | (cases h;done) | simp [ths]
  simp only [ths];cases e:q.ths with
  | nil=>exact absurd e G
  | cons u l=>rw [parL,<-e,H]
 | snd ..,_,_=>rfl
 | rcv ..,_,_=>rfl
 | tau ..,_,_=>rfl
 | sum ..,_,_=>rfl
 | mat ..,_,_=>rfl
 | rep ..,_,_=>rfl
 | nil,_,h=>by rcases h with h | h<;>cases h
 | res ..,_,h=>by rcases h with h | h<;>cases h
theorem Nr.shape {A:Type}:∀{p:T A},p.Nr->p=resL p.frL (parL p.ths)
 | res x p,n=>by
  have :=Nr.shape n.2;simp only [frL,ths,resL];rw [<-this]
 | nil,_=>rfl
 | par p q,n=>by
  have :=BA (p:=par p q) n (.inr rfl);rw [this];rfl
 | snd ..,_=>rfl
 | rcv ..,_=>rfl
 | tau ..,_=>rfl
 | sum ..,_=>rfl
 | mat ..,_=>rfl
 | rep ..,_=>rfl
theorem Nr.ths {A:Type}:∀{p:T A},p.Nr->∀t∈p.ths,t.th=true/\t.Nr
 | nil,_,t,h=>by cases h
 | res x p,n,t,h=>Nr.ths (p:=p) n.2 t h
 | par p q,n,t,h=>by
  rcases Oa.1 h with rfl | h
  ·exact⟨n.1.1,n.2.1⟩
  ·exact Nr.ths n.2.2 t h
 | snd ..,n,t,h=>by simp [T.ths]at h;subst h;exact⟨rfl,n⟩
 | rcv ..,n,t,h=>by simp [T.ths]at h;subst h;exact⟨rfl,n⟩
 | tau ..,n,t,h=>by simp [T.ths]at h;subst h;exact⟨rfl,n⟩
 | sum ..,n,t,h=>by simp [T.ths]at h;subst h;exact⟨rfl,n⟩
 | mat ..,n,t,h=>by simp [T.ths]at h;subst h;exact⟨rfl,n⟩
 | rep ..,n,t,h=>by simp [T.ths]at h;subst h;exact⟨rfl,n⟩
theorem Nr.Gy {A:Type}:∀{p:T A},p.Nr->p.frL.Nodup/\∀x∈p.frL,(parL p.ths).Us x
 | res y p,n=>by
  obtain⟨H,J⟩:=Nr.Gy n.2;have hu:=n.1;rw [Nr.shape n.2]at hu;have hu:=jV.1 hu;refine⟨OO.2 ⟨hu.1,H⟩,λx G=>?_⟩;rcases Oa.1 G with rfl | G
  ·exact hu.2
  ·exact J x G
 | nil,_=>⟨Pe,λx h=>by cases h⟩
 | par ..,_=>⟨Pe,λx h=>by cases h⟩
 | snd ..,_=>⟨Pe,λx h=>by cases h⟩
 | rcv ..,_=>⟨Pe,λx h=>by cases h⟩
 | tau ..,_=>⟨Pe,λx h=>by cases h⟩
 | sum ..,_=>⟨Pe,λx h=>by cases h⟩
 | mat ..,_=>⟨Pe,λx h=>by cases h⟩
 | rep ..,_=>⟨Pe,λx h=>by cases h⟩
end
theorem mg (p:P):∀l:List UInt8,(resL l p).text=wrap l p.text
 | []=>rfl
 | x::l=>by simp only [resL,text,wrap,mg p l]
theorem mU:∀{l:List P},l≠[]->(parL l).text=joinS 38 (l.map T.text)
 | [],h=>absurd rfl h
 | [t],_=>rfl
 | t::u::l,_=>by
  have :=mU (l:=u::l) (by simp);simp only [parL,text,Oe,joinS]at this|-;rw [this]
theorem xA:∀{l:List P},l≠[]->(dK l).text=joinS 43 (l.map T.text)
 | [],h=>absurd rfl h
 | [t],_=>rfl
 | t::u::l,_=>by
  have :=xA (l:=u::l) (by simp);simp only [dK,text,Oe,joinS]at this|-;rw [this]
end T
section
variable {A B:Type} [DecidableEq A] [DecidableEq B]
theorem AE.th {p:T A}{q:T B}{ρ:A->Nat}{σ:B->Nat}(h:AE ρ p σ q):p.th=q.th/\p.isS=q.isS/\p.isP=q.isP:=by
 cases p<;>cases q<;>first | exact h.elim | exact⟨rfl,rfl,rfl⟩
theorem fw {ρ:A->Nat}{p:T A}{x:A}{v:Nat}(h:fJ ρ (.res x p))(H:∀y,p.Fr y->ρ y≠v):fJ (aG ρ x v) p:=
 .aG (λy z G J h5 Z=>h y z ⟨G,h5⟩ ⟨J,Z⟩) λy _ G=>H y (T.a8 G)
theorem IS {p:T A}{u:T B}{ρ:A->Nat}{σ:B->Nat}{x:A}{y:B}(h:∀v,AE (aG ρ x v) p (aG σ y v) u)(hi:fJ ρ (.res x p))(hj:fJ σ (.res y u)):p.Us x↔u.Us y:=by
 obtain⟨v,h1,h2⟩:=cf p u ρ σ;have G:=fw hi h1;have H:=fw hj h2;constructor
 ·intro hx;obtain⟨z,J,e⟩:=(h v).used G H x hx;rw [cC]at e;unfold aG at e;split at e
  ·rename_i Z;exact Z▸J
  ·exact absurd e (h2 z (T.a8 J))
 ·intro hy;obtain⟨z,J,e⟩:=(h v).symm.used H G y hy;rw [cC]at e;unfold aG at e;split at e
  ·rename_i Z;exact Z▸J
  ·exact absurd e (h1 z (T.a8 J))
theorem fJ.Ha {A:Type}{ρ:A->Nat}{p:T A}{a x:A}(h:fJ ρ (.rcv a x p)):fJ ρ (.res x p):=λy z G H=>h y z (.inr G) (.inr H)
theorem AE.nr:∀{p:T A} {q:T B} {ρ:A->Nat} {σ:B->Nat},AE ρ p σ q->fJ ρ p->fJ σ q->p.Nr->q.Nr:=by
 intro p
 induction p<;>intro q ρ σ h hi J n<;>cases q<;>simp only [AE]at h
 case nil.nil=>trivial
 case snd.snd H _ _ _=>have k:=H h.2.2 (hi.sub λx G=>Or.inr (Or.inr G)) (J.sub λx G=> .inr (.inr G)) n;exact k
 case rcv.rcv p H _ _ q=>
  obtain⟨v,h1,h2⟩:=cf p q ρ σ;have k:=H (h.2 v) (fw hi.Ha h1) (fw J.Ha h2) n;exact k
 case tau.tau H _=>have k:=H h hi J n;exact k
 case rep.rep H _=>exact⟨h.dead▸n.1,H h hi J n.2⟩
 case res.res p H _ q=>
  obtain⟨v,h1,h2⟩:=cf p q ρ σ;exact⟨(IS h hi J).1 n.1,H (h v) (fw hi h1) (fw J h2) n.2⟩
 case mat.mat p H c d q=>
  have hd:q.dead=false:=h.2.2.dead▸n.1.2;have α:c≠d:=by
   rintro rfl
   exact n.1.1 (hi _ _ (.inr ⟨n.1.1,n.1.2,.inl rfl⟩) (.inr ⟨n.1.1,n.1.2,.inr (.inl rfl)⟩) (h.1.trans h.2.1.symm))
  exact⟨⟨α,hd⟩,H h.2.2 (hi.sub λx G=> .inr ⟨n.1.1,n.1.2,.inr (.inr G)⟩) (J.sub λx G=> .inr ⟨α,hd,.inr (.inr G)⟩) n.2⟩
 case sum.sum H Z _ _=>
  exact⟨⟨h.1.dead▸n.1.1,h.2.dead▸n.1.2.1,h.1.th.2.1▸n.1.2.2⟩,H h.1 (hi.sub λx G=> .inl G) (J.sub λx G=> .inl G) n.2.1,Z h.2 (hi.sub λx G=> .inr G) (J.sub λx G=> .inr G) n.2.2⟩
 case par.par H Z _ _=>
  exact⟨⟨h.1.th.1▸n.1.1,n.1.2.imp (λk=>h.2.th.1▸k) (λk=>h.2.th.2.2▸k)⟩,H h.1 (hi.sub λx G=> .inl G) (J.sub λx G=> .inl G) n.2.1,Z h.2 (hi.sub λx G=> .inr G) (J.sub λx G=> .inr G) n.2.2⟩
end
theorem fv {u:U}(n:u.Nr)(h:u.th=true):aj u=([],[u]):=by
 cases u<;>first | (cases h;done) | rfl | skip
 case sum p q=>simp [aj,n.1.1,n.1.2.1]
 case mat a b p=>simp [aj,n.1.1,n.1.2]
 case rep p=>simp [aj,n.1]
theorem Da:∀{u:U},Uq u->u.Nr->aj u=(u.frL,u.ths)
 | .nil,_,_=>rfl
 | .res x p,hu,n=>by
  have :=Da hu.res n.2;have h:(td p).2.has x=true:=(gv p x hu.gJ).2 n.1;simp [aj,h,this,T.frL,T.ths]
 | .par p q,hu,n=>by
  have G:=Da hu.fS n.2.2;have H:q.frL=[]:=by
   rcases n.1.2 with h | h
   ·exact T.gI h
   ·cases q<;>first | (cases h;done) | rfl
  simp [aj,G,fv n.2.1 n.1.1,T.frL,T.ths,H]
 | .snd ..,_,n=>fv n rfl
 | .rcv ..,_,n=>fv n rfl
 | .tau ..,_,n=>fv n rfl
 | .sum ..,_,n=>fv n rfl
 | .mat ..,_,n=>fv n rfl
 | .rep ..,_,n=>fv n rfl
theorem fG {u:U}(H:u.dI)(hd:u.dead=false)(Z:∀p q,u≠ .sum p q)(hu:Uq u):aw u=[u]:=by
 cases u with
 | nil=>cases hd
 | snd=>rfl
 | rcv=>rfl
 | tau=>rfl
 | sum p q=>exact absurd rfl (Z p q)
 | par p q=>
  have J:p.dead=false:=H.1;have G:q.dead=false:=H.2;simp [aw,J,G]
 | res x p=>
  have:(td p).2.has x=true:=(gv p x hu.gJ).2 H;simp [aw,this]
 | mat a b p=>
  have J:a≠b:=H;have G:p.dead=false:=hd;simp [aw,J,G]
 | rep p=>
  have G:p.dead=false:=hd;simp [aw,G]
theorem eK:∀{u:U},Uq u->u.Nr->u.dead=false->aw u=u.mG
 | .nil,_,_,h=>by cases h
 | .sum p q,hu,n,_=>by
  have G:=eK hu.eJ n.2.1 n.1.1;have H:=eK hu.en n.2.2 n.1.2.1;simp only [aw,T.mG,G,H,T.gP n.1.2.2];rfl
 | .res x p,hu,n,h=>fG n.dI h (λ _ _ e=>by cases e) hu
 | .par ..,hu,n,h=>fG n.dI h (λ _ _ e=>by cases e) hu
 | .snd ..,hu,n,h=>fG n.dI h (λ _ _ e=>by cases e) hu
 | .rcv ..,hu,n,h=>fG n.dI h (λ _ _ e=>by cases e) hu
 | .tau ..,hu,n,h=>fG n.dI h (λ _ _ e=>by cases e) hu
 | .mat ..,hu,n,h=>fG n.dI h (λ _ _ e=>by cases e) hu
 | .rep ..,hu,n,h=>fG n.dI h (λ _ _ e=>by cases e) hu
namespace Lv
def map (f:Nat->Nat):Lv->Lv
 | nil=>nil
 | thr k a b o r n=>thr k (if k= .t\/k= .p then a else f a) (if k= .t\/k= .p then b else f b) (o.map f) (r.map f) (n.map f)
 | sum ps n=>sum (ps.map f) (n.map f)
 | part o q n=>part (o.map f) (q.map f) (n.map f)
def Al (D:Nat->Prop):Lv->Prop
 | nil=>True
 | thr k a b o r n=>(k= .t\/k= .p\/(D a/\D b))/\(∀x∈o,D x)/\r.Al D/\n.Al D
 | sum ps n=>ps.Al D/\n.Al D
 | part o q n=>(∀x∈o,D x)/\q.Al D/\n.Al D
theorem eM (f:Nat->Nat):∀l m:Lv,(l.app m).map f=(l.map f).app (m.map f)
 | nil,m=>rfl
 | thr k a b o r n,m=>by simp only [app,map,eM f n m]
 | sum ps n,m=>by simp only [app,map,eM f n m]
 | part o q n,m=>by simp only [app,map,eM f n m]
theorem nV {D:Nat->Prop}:∀{l m:Lv},(l.app m).Al D↔l.Al D/\m.Al D
 | nil,m=>by simp [app,Al]
 | thr k a b o r n,m=>by simp only [app,Al,nV (l:=n),P5]
 | sum ps n,m=>by simp only [app,Al,nV (l:=n),P5]
 | part o q n,m=>by simp only [app,Al,nV (l:=n),P5]
theorem mA (f:Nat->Nat)(l:Lv):(l.map f).isNil=l.isNil:=by cases l<;>rfl
theorem mB {D E:Nat->Prop}(h:∀x,D x->E x):∀{l:Lv},l.Al D->l.Al E
 | nil,_=>trivial
 | thr k a b o r n,⟨G,H,J,h4⟩=>⟨G.imp id λG=>G.imp id λG=>⟨h _ G.1,h _ G.2⟩,λx Z=>h x (H x Z),mB h J,mB h h4⟩
 | sum ps n,⟨G,H⟩=>⟨mB h G,mB h H⟩
 | part o q n,⟨G,H,J⟩=>⟨λx Z=>h x (G x Z),mB h H,mB h J⟩
section
variable {D:Nat->Prop} {f:Nat->Nat}
theorem ma (G:∀x y,D x->D y->f x=f y->x=y){x y:Nat}(H:D x)(J:D y):(f x==f y)=(x==y):=by
 rw [OT,Qe,Qe];exact⟨G x y H J,λh=>by rw [h]⟩
theorem jX (G:∀x y,D x->D y->f x=f y->x=y){x:Nat}(H:D x):∀{l:Lv},l.Al D->(l.map f).has (f x)=l.has x
 | nil,_=>rfl
 | thr k a b o r n,⟨J,Z,h3,h4⟩=>by
  simp only [map,has,jX G H h3,jX G H h4];cases k with
  | t=>rfl
  | p=>rfl
  | s=>simp at J;simp [ma G J.1 H,ma G J.2 H]
  | m=>simp at J;simp [ma G J.1 H,ma G J.2 H]
  | r=>simp at J;simp [ma G J.1 H,ma G J.2 H]
 | sum ps n,⟨J,Z⟩=>by simp only [map,has,jX G H J,jX G H Z]
 | part o q n,⟨J,Z,h3⟩=>by simp only [map,has,jX G H Z,jX G H h3]
abbrev ck (f:Nat->Nat)(r:List Nat×Lv):List Nat×Lv:=(r.1.map f,r.2.map f)
abbrev KO (D:Nat->Prop)(r:List Nat×Lv):Prop:=(∀x∈r.1,D x)/\r.2.Al D
theorem tX (J:∀x y,D x->D y->f x=f y->x=y){own:List Nat}{r:List Nat×Lv}(H:∀x∈own,D x)(hr:KO D r):kept (own.map f) (ck f r)=ck f (kept own r)/\KO D (kept own r):=by
 constructor
 ·unfold kept ck;refine Prod.ext ?_ rfl;simp only [<-Oy,List.filter_map]
  congr 1
  refine QH λx G=>?_
  exact jX J ((NU.1 G).elim (H x) (hr.1 x)) hr.2
 ·refine⟨λx G=>?_,hr.2⟩;simp only [kept,P0,NU]at G;exact G.1.elim (H x) (hr.1 x)
theorem Jn (ps:Lv)(n:List Nat×Lv):spl (ps.map f) (ck f n)=ck f (spl ps n):=by
 unfold spl;cases ps with
 | nil=>rfl
 | thr=>rfl
 | sum=>rfl
 | part o q m=>
  cases m<;>simp [map,ck,eM]
theorem Lg {ps:Lv}{n:List Nat×Lv}(h:ps.Al D)(G:KO D n):KO D (spl ps n):=by
 unfold spl;split
 ·exact G
 ·exact⟨λx H=>(NU.1 H).elim (h.1 x) (G.1 x),nV.2 ⟨h.2.1,G.2⟩⟩
 ·exact⟨G.1,h,G.2⟩
theorem IM (o:List Nat)(q n:Lv):prt (o.map f) (q.map f) (n.map f)=(prt o q n).map f:=by
 unfold prt;cases q with
 | nil=>rfl
 | thr=>rfl
 | part=>rfl
 | sum ps m=>
  cases m<;>simp only [map]
  by_cases h:o.isEmpty=true
  ·have G:(o.map f).isEmpty=true:=by simpa using h
   rw [Om h,Om G,eM]
  ·have G:¬(o.map f).isEmpty=true:=by simpa using h
   rw [N2 h,N2 G];simp [map]
theorem KR {o:List Nat}{q n:Lv}(J:∀x∈o,D x)(H:q.Al D)(G:n.Al D):(prt o q n).Al D:=by
 unfold prt;split
 ·exact G
 ·split
  ·exact nV.2 ⟨H.1,G⟩
  ·exact⟨J,H,G⟩
 ·exact⟨J,H,G⟩
theorem jM (G:∀x y,D x->D y->f x=f y->x=y):∀{l:Lv},l.Al D->tid (l.map f)=ck f (tid l)/\KO D (tid l)
 | nil,_=>⟨rfl,⟨λx h=>(by cases h),trivial⟩⟩
 | sum ps n,⟨H,J⟩=>by
  obtain⟨Z,a2⟩:=jM G H;obtain⟨b1,b2⟩:=jM G J;simp only [map,tid];rw [Z,b1];exact⟨Jn _ _,Lg a2.2 b2⟩
 | part o q n,⟨H,J,h3⟩=>by
  obtain⟨Z,a2⟩:=jM G J;obtain⟨b1,b2⟩:=jM G h3;obtain⟨c1,c2⟩:=tX G H a2;simp only [map,tid];rw [Z,b1,c1];exact⟨Prod.ext rfl (IM _ _ _),⟨λx h=>(by cases h),KR c2.1 c2.2 b2.2⟩⟩
 | thr k a b o r n,⟨H,J,h3,h4⟩=>by
  obtain⟨Z,a2⟩:=jM G h3;obtain⟨b1,b2⟩:=jM G h4;obtain⟨c1,c2⟩:=tX G J a2;simp only [map,tid];rw [Z,b1,c1];have e1:(k= .m/\(if k= .t\/k= .p then a else f a)=(if k= .t\/k= .p then b else f b))↔(k= .m/\a=b):=by
   refine and_congr_right λhk=>?_
   subst hk;simp at H|-;exact⟨G a b H.1 H.2,λh=>by rw [h]⟩
  have e2:((ck f (kept o (tid r))).2.isNil)=(kept o (tid r)).2.isNil:=mA _ _;by_cases g1:k= .m/\a=b
  ·rw [Om (e1.2 g1),Om g1];exact⟨by simp [ck,eM],⟨λx hx=>(NU.1 hx).elim (c2.1 x) (b2.1 x),nV.2 ⟨c2.2,b2.2⟩⟩⟩
  ·rw [N2 λh=>g1 (e1.1 h),N2 g1,e2];split
   ·exact⟨rfl,b2⟩
   ·exact⟨rfl,⟨b2.1,⟨H,c2.1,c2.2,b2.2⟩⟩⟩
end
end Lv
theorem xv {α β:Type}(f:α->β):∀l:List α,perms (l.map f)=(perms l).map (List.map f)
 | []=>rfl
 | x::l=>by
  have hi:∀(x:α) (l:List α),ins (f x) (l.map f)=(ins x l).map (List.map f):=by
   intro x l
   induction l with
   | nil=>rfl
   | cons y l G=>simp only [Oe,ins,G,Pa];rfl
  simp only [Oe,perms,xv f l,QP,List.map_flatMap]
  congr 1
  funext m
  exact hi x m
theorem Di {f:Nat->Nat}{ρ ρ':Rh}{x:Nat}:∀(π:List Nat) (ls:List UInt8) (ρ ρ':Rh),(∀y∈π,f x=f y->x=y)->ρ (f x)=ρ' x->asg (π.map f) ls ρ (f x)=asg π ls ρ' x
 | [],_,_,_,_,h=>by simpa [asg]using h
 | _::_,[],_,_,_,h=>by simpa [asg]using h
 | y::π,c::ls,ρ,ρ',hi,h=>by
  rw [Oe,asg,asg];refine Di (ρ:=ρ) (ρ':=ρ') π ls _ _ (λz G=>hi z (NW _ G)) ?_;unfold aG;by_cases e:x=y
  ·subst e;simp
  ·rw [N2 e,N2 λH=>e (hi y (Oo ..) H),h]
theorem nQ {D:Nat->Prop}{f:Nat->Nat}(hf:∀x y,D x->D y->f x=f y->x=y){own:List Nat}{F G:Rh->Tk->List Tx}{H:Nat->Prop}(ho:∀x∈own,D x)(hH:∀x,H x->D x)
  (Z:∀ρ ρ' tk,(∀x,H x->ρ (f x)=ρ' x)->F ρ tk=G ρ' tk) {ρ ρ':Rh} {tk:Tk} (h:∀x,H x->ρ (f x)=ρ' x):aS (own.map f) F ρ tk=aS own G ρ' tk:=by
 unfold aS;rw [Z ρ ρ' tk h,xv,NY];split
 ·rfl
 ·show wrap _ (bJ _)=wrap _ (bJ _);rw [Pa]
  congr 2
  refine O9 λπ J=>?_
  show joinS 38 (aQ (F _ _))=_;rw [Z _ (asg π (lets own.length tk) ρ') _ λx hx=>Di (ρ:=ρ) (ρ':=ρ') π _ _ _ (λy hy e=>hf x y (hH x hx) (ho y (((cY own π).1 J).subset hy)) e) (h x hx)]
theorem iZ {D:Nat->Prop}{x:Nat}:∀{l:Lv},l.Al D->l.has x=true->D x
 | .nil,_,h=>by cases h
 | .thr k a b o r n,⟨G,H,J,h4⟩,h=>by
  simp only [Lv.has,Pb]at h;rcases h with(h | h) | h
  ·cases k<;>simp at h G
   ·rcases h with rfl | rfl
    ·exact G.1
    ·exact G.2
   ·rcases h with rfl | rfl
    ·exact G.1
    ·exact G.2
   ·rcases h with rfl | rfl
    ·exact G.1
    ·exact G.2
  ·exact iZ J h
  ·exact iZ h4 h
 | .sum ps n,⟨G,H⟩,h=>by
  simp only [Lv.has,Pb]at h;exact h.elim (iZ G) (iZ H)
 | .part o q n,⟨G,H,J⟩,h=>by
  simp only [Lv.has,Pb]at h;exact h.elim (iZ H) (iZ J)
theorem jT {D:Nat->Prop}{f:Nat->Nat}(J:∀x y,D x->D y->f x=f y->x=y):∀{l:Lv},l.Al D->∀(ρ ρ':Rh) (tk:Tk),(∀x,l.has x=true->ρ (f x)=ρ' x)->thS (l.map f) ρ tk=thS l ρ' tk
 | .nil,_,_,_,_,_=>rfl
 | .thr k a b o r n,⟨Z,h2,h3,h4⟩,ρ,ρ',tk,h=>by
  have hn:thS (n.map f) ρ tk=thS n ρ' tk:=jT J h4 ρ ρ' tk λx G=>h x (by simp [Lv.has,G])
  have H:∀x,r.has x=true->ρ (f x)=ρ' x:=λx G=>h x (by simp [Lv.has,G])
  have hl:∀ρ ρ' tk,(∀x,r.has x=true->ρ (f x)=ρ' x)->aS (o.map f) (thS (r.map f)) ρ tk=aS o (thS r) ρ' tk:=λρ ρ' tk h=>
   nQ J h2 (λx G=>iZ h3 G) (λρ ρ' tk=>jT J h3 ρ ρ' tk) h
  cases k with
  | s=>
   have ha:=h a (by simp [Lv.has]);have hb:=h b (by simp [Lv.has]);simp [Lv.map,thS,hn,hl ρ ρ' tk H,ha,hb]
  | m=>
   have ha:=h a (by simp [Lv.has]);have hb:=h b (by simp [Lv.has]);simp [Lv.map,thS,hn,hl ρ ρ' tk H,ha,hb]
  | t=>simp [Lv.map,thS,kText,hn,hl ρ ρ' tk H]
  | p=>simp [Lv.map,thS,kText,hn,hl ρ ρ' tk H]
  | r=>
   have ha:=h a (by simp [Lv.has]);simp at Z;have hu:∀x,r.has x=true->aG ρ (f b) (ja tk) (f x)=aG ρ' b (ja tk) x:=λx G=>by
    unfold aG;by_cases e:x=b
    ·subst e;simp
    ·rw [N2 e,N2 λh'=>e (J x b (iZ h3 G) Z.2 h')];exact H x G
   simp [Lv.map,thS,hn,hl _ _ _ hu,ha]
 | .sum ps n,⟨Z,h2⟩,ρ,ρ',tk,h=>by
  simp only [Lv.map,thS,jT J Z ρ ρ' tk λx G=>h x (by simp [Lv.has,G]),jT J h2 ρ ρ' tk λx G=>h x (by simp [Lv.has,G])]
 | .part o q n,⟨Z,h2,h3⟩,ρ,ρ',tk,h=>by
  simp only [Lv.map,thS,jT J h3 ρ ρ' tk λx G=>h x (by simp [Lv.has,G])];rw [nQ J Z (λx G=>iZ h2 G) (λρ ρ' tk=>jT J h2 ρ ρ' tk) λx G=>h x (by simp [Lv.has,G])]
theorem ft (f:Nat->Nat):∀(l:Lv) (tk:Tk),thBad (l.map f) tk=thBad l tk
 | .nil,_=>rfl
 | .thr k a b o r n,tk=>by
  have hr:thBad (r.map f)=thBad r:=funext λtk=>ft f r tk
  simp only [Lv.map,thBad,ft f n,Lv.mA,NY,hr]
 | .sum ps n,tk=>by simp only [Lv.map,thBad,ft f n,ft f ps]
 | .part o q n,tk=>by
  have hr:thBad (q.map f)=thBad q:=funext λtk=>ft f q tk
  simp only [Lv.map,thBad,ft f n,Lv.mA,NY,hr]
theorem fE (f:Nat->Nat):∀l:Lv,thAll (l.map f)=thAll l
 | .nil=>rfl
 | .thr k a b o r n=>by simp only [Lv.map,thAll,fE f n,fE f r,NY]
 | .sum ps n=>by simp only [Lv.map,thAll,fE f n,fE f ps]
 | .part o q n=>by simp only [Lv.map,thAll,fE f n,fE f q,NY]
theorem eu (f:Nat->Nat):∀l:Lv,ax (l.map f)=ax l
 | .nil=>rfl
 | .thr k a b o r n=>by simp only [Lv.map,ax,eu f n,eu f r,NY]
 | .sum ps n=>by simp only [Lv.map,ax,eu f n,eu f ps]
 | .part o q n=>by simp only [Lv.map,ax,eu f n,eu f q,NY]
def T.Al {A:Type}(D:A->Prop):T A->Prop
 | .nil=>True
 | .snd a b p=>D a/\D b/\p.Al D
 | .rcv a b p=>D a/\D b/\p.Al D
 | .mat a b p=>D a/\D b/\p.Al D
 | .tau p=>p.Al D
 | .rep p=>p.Al D
 | .sum p q=>p.Al D/\q.Al D
 | .par p q=>p.Al D/\q.Al D
 | .res x p=>D x/\p.Al D
theorem cy (f:Nat->Nat):∀u:U,flat (u.map f)=Lv.ck f (flat u)
 | .nil=>rfl
 | .snd a b p=>by simp [T.map,flat,cy f p,Lv.ck,Lv.map]
 | .rcv a b p=>by simp [T.map,flat,cy f p,Lv.ck,Lv.map]
 | .mat a b p=>by simp [T.map,flat,cy f p,Lv.ck,Lv.map]
 | .tau p=>by simp [T.map,flat,cy f p,Lv.ck,Lv.map]
 | .rep p=>by simp [T.map,flat,cy f p,Lv.ck,Lv.map]
 | .sum p q=>by simp [T.map,flat,cy f p,cy f q,Lv.ck,Lv.map]
 | .par p q=>by simp [T.map,flat,cy f p,cy f q,Lv.ck,Lv.eM]
 | .res x p=>by simp [T.map,flat,cy f p,Lv.ck]
theorem bL {D:Nat->Prop}:∀{u:U},u.Al D->Lv.KO D (flat u)
 | .nil,_=>⟨λx h=>(by cases h),trivial⟩
 | .snd a b p,⟨G,H,h⟩=>⟨λx h=>(by simp [flat]at h),⟨.inr (.inr ⟨G,H⟩),(bL h).1,(bL h).2,trivial⟩⟩
 | .rcv a b p,⟨G,H,h⟩=>⟨λx h=>(by simp [flat]at h),⟨.inr (.inr ⟨G,H⟩),(bL h).1,(bL h).2,trivial⟩⟩
 | .mat a b p,⟨G,H,h⟩=>⟨λx h=>(by simp [flat]at h),⟨.inr (.inr ⟨G,H⟩),(bL h).1,(bL h).2,trivial⟩⟩
 | .tau p,h=>⟨λx h=>(by simp [flat]at h),⟨.inl rfl,(bL (u:=p) h).1,(bL (u:=p) h).2,trivial⟩⟩
 | .rep p,h=>⟨λx h=>(by simp [flat]at h),⟨.inr (.inl rfl),(bL (u:=p) h).1,(bL (u:=p) h).2,trivial⟩⟩
 | .sum p q,⟨G,H⟩=>⟨λx h=>(by simp [flat]at h),⟨(bL G).1,(bL G).2,(bL H).1,(bL H).2,trivial⟩,trivial⟩
 | .par p q,⟨G,H⟩=>⟨λx h=>by
   simp only [flat,NU]at h;exact h.elim ((bL G).1 x) ((bL H).1 x),Lv.nV.2 ⟨(bL G).2,(bL H).2⟩⟩
 | .res x p,⟨G,h⟩=>⟨λy J=>by
   simp only [flat,Oa]at J;rcases J with rfl | J
   ·exact G
   ·exact(bL h).1 y J,(bL h).2⟩
theorem H6 {D:Nat->Prop}{f:Nat->Nat}(G:∀x y,D x->D y->f x=f y->x=y){u:U}(h:u.Al D):td (u.map f)=Lv.ck f (td u)/\Lv.KO D (td u):=by
 unfold td Lv.tidy;have H:=bL h;obtain⟨J,Z⟩:=Lv.jM G H.2;rw [cy];show Lv.kept ((flat u).1.map f) (Lv.tid ((flat u).2.map f))=_/\_;rw [J];exact Lv.tX G H.1 Z
theorem LM {D:Nat->Prop}{f:Nat->Nat}(G:∀x y,D x->D y->f x=f y->x=y){u:U}(h:u.Al D)(ρ:Rh)(tk:Tk):LS (u.map f) ρ tk=LS u (λx=>ρ (f x)) tk:=by
 obtain⟨J,H⟩:=H6 G h;unfold LS;rw [J];exact nQ G H.1 (λx Z=>iZ H.2 Z) (λρ ρ' tk=>jT G H.2 ρ ρ' tk) λx _=>rfl
theorem H7 {D:Nat->Prop}{f:Nat->Nat}(G:∀x y,D x->D y->f x=f y->x=y){u:U}(h:u.Al D):dF (u.map f)=dF u/\cQ (u.map f)=cQ u/\a7 (u.map f)=a7 u:=by
 obtain⟨H,J⟩:=H6 G h;unfold dF cQ a7;rw [H];have hr:thBad ((td u).2.map f)=thBad (td u).2:=funext λtk=>ft f _ tk
 simp [Lv.ck,Lv.mA,fE,eu,hr]
theorem yW (Q:U->Prop)(Z:∀p q,Q (.sum p q)->Q p/\Q q)(hp:∀p q,Q (.par p q)->Q p/\Q q)(hr:∀x p,Q (.res x p)->Q p)(hm:∀a b p,Q (.mat a b p)->Q p):∀u:U,Q u->∀t∈(aj u).2,Q t:=by
 intro u
 induction u with
 | nil=>intro _ t h;simp [aj]at h
 | snd=>intro q t h;simp [aj]at h;exact h▸q
 | rcv=>intro q t h;simp [aj]at h;exact h▸q
 | tau=>intro q t h;simp [aj]at h;exact h▸q
 | sum p q H J=>
  intro G t h;simp only [aj]at h;split at h
  ·exact J (Z _ _ G).2 t h
  ·split at h
   ·exact H (Z _ _ G).1 t h
   ·simp at h;exact h▸G
 | par p q H J=>
  intro G t h;simp only [aj,NU]at h;exact h.elim (H (hp _ _ G).1 t) (J (hp _ _ G).2 t)
 | res x p H=>intro G t h;exact H (hr _ _ G) t h
 | mat a b p H=>
  intro G t h;simp only [aj]at h;split at h
  ·exact H (hm _ _ _ G) t h
  ·split at h
   ·simp at h
   ·simp at h;exact h▸G
 | rep p H=>
  intro G t h;simp only [aj]at h;split at h
  ·simp at h
  ·simp at h;exact h▸G
theorem tr (Q:U->Prop)(Z:∀p q,Q (.sum p q)->Q p/\Q q)(hp:∀p q,Q (.par p q)->Q p/\Q q)(hr:∀x p,Q (.res x p)->Q p)(hm:∀a b p,Q (.mat a b p)->Q p):∀u:U,Q u->∀t∈aw u,Q t:=by
 intro u
 induction u with
 | nil=>intro _ t h;simp [aw]at h
 | snd=>intro q t h;simp [aw]at h;exact h▸q
 | rcv=>intro q t h;simp [aw]at h;exact h▸q
 | tau=>intro q t h;simp [aw]at h;exact h▸q
 | par p q H J=>
  intro G t h;simp only [aw]at h;split at h
  ·exact J (hp _ _ G).2 t h
  ·split at h
   ·exact H (hp _ _ G).1 t h
   ·simp at h;exact h▸G
 | sum p q H J=>
  intro G t h;simp only [aw,NU]at h;exact h.elim (H (Z _ _ G).1 t) (J (Z _ _ G).2 t)
 | res x p H=>
  intro G t h;simp only [aw]at h;split at h
  ·simp at h;exact h▸G
  ·exact H (hr _ _ G) t h
 | mat a b p H=>
  intro G t h;simp only [aw]at h;split at h
  ·exact H (hm _ _ _ G) t h
  ·split at h
   ·simp at h
   ·simp at h;exact h▸G
 | rep p H=>
  intro G t h;simp only [aw]at h;split at h
  ·simp at h
  ·simp at h;exact h▸G
theorem FL {u:U}(h:Uq u):∀t∈(aj u).2,Uq t:=
 yW Uq (λ _ _ h=>⟨h.eJ,h.en⟩) (λ _ _ h=>⟨h.gB,h.fS⟩) (λ _ _ h=>h.res) (λ _ _ _ h=>h.mat) u h
theorem zG {u:U}(h:Uq u):∀t∈aw u,Uq t:=
 tr Uq (λ _ _ h=>⟨h.eJ,h.en⟩) (λ _ _ h=>⟨h.gB,h.fS⟩) (λ _ _ h=>h.res) (λ _ _ _ h=>h.mat) u h
theorem Cx (u:U):∀t∈(aj u).2,t.size<=u.size:=
 yW (λt=>t.size<=u.size) (λ _ _ h=>by simp only [T.size]at h;omega) (λ _ _ h=>by simp only [T.size]at h;omega) (λ _ _ h=>by simp only [T.size]at h;omega) (λ _ _ _ h=>by simp only [T.size]at h;omega) u (NP _)
theorem mz (u:U):∀t∈aw u,t.size<=u.size:=
 tr (λt=>t.size<=u.size) (λ _ _ h=>by simp only [T.size]at h;omega) (λ _ _ h=>by simp only [T.size]at h;omega) (λ _ _ h=>by simp only [T.size]at h;omega) (λ _ _ _ h=>by simp only [T.size]at h;omega) u (NP _)
theorem Eh (u:U):∀t∈(aj u).2,∀x∈BV t,x∈BV u:=
 yW (λt=>∀x∈BV t,x∈BV u) (λ _ _ h=>⟨λx G=>h x (Ol _ G),λx G=>h x (Oc _ G)⟩)
  (λ _ _ h=>⟨λx G=>h x (Ol _ G),λx G=>h x (Oc _ G)⟩) (λ _ _ h=>λx G=>h x (NW _ G)) (λ _ _ _ h=>h) u (λx h=>h)
theorem Bl (u:U):∀t∈aw u,∀x∈BV t,x∈BV u:=
 tr (λt=>∀x∈BV t,x∈BV u) (λ _ _ h=>⟨λx G=>h x (Ol _ G),λx G=>h x (Oc _ G)⟩)
  (λ _ _ h=>⟨λx G=>h x (Ol _ G),λx G=>h x (Oc _ G)⟩) (λ _ _ h=>λx G=>h x (NW _ G)) (λ _ _ _ h=>h) u (λx h=>h)
theorem mD:∀(u:U),Uq u->∀y,u.Us y↔∃t∈aw u,t.Us y:=by
 intro u
 induction u with
 | nil=>intro _ y;simp [aw,T.Us]
 | snd=>intro _ y;simp [aw]
 | rcv=>intro _ y;simp [aw]
 | tau=>intro _ y;simp [aw]
 | sum p q G H=>
  intro h y;have:(T.sum p q).Us y↔p.Us y\/q.Us y:=QY;rw [this,G h.eJ y,H h.en y];simp only [aw,NU];constructor
  ·rintro(⟨t,J,Z⟩ | ⟨t,J,Z⟩)
   ·exact⟨t,.inl J,Z⟩
   ·exact⟨t,.inr J,Z⟩
  ·rintro⟨t,J | J,Z⟩
   ·exact .inl ⟨t,J,Z⟩
   ·exact .inr ⟨t,J,Z⟩
 | par p q G H=>
  intro h y;have e:(T.par p q).Us y↔p.Us y\/q.Us y:=QY;simp only [aw];split
  ·rename_i hd;rw [e,<-H h.fS y];exact⟨λk=>k.resolve_left (T.bE hd),.inr⟩
  ·split
   ·rename_i hd;rw [e,<-G h.gB y];exact⟨λk=>k.resolve_right (T.bE hd),.inl⟩
   ·simp
 | res x p G=>
  intro h y;simp only [aw];split
  ·simp
  ·rename_i hx;rw [<-G h.res y];have hn:¬p.Us x:=λk=>hx ((gv p x h.gJ).2 k)
   exact⟨λk=>k.2,λk=>⟨λe=>hn (e▸k),k⟩⟩
 | mat a b p G=>
  intro h y;simp only [aw];split
  ·rename_i e;rw [<-G h.mat y];simp [T.Us,e]
  ·rename_i e;split
   ·rename_i hd;simp [T.Us,e,hd]
   ·simp
 | rep p G=>
  intro h y;simp only [aw];split
  ·rename_i hd;simp [T.Us];exact T.bE hd
  ·simp
def Lv.fh (x:Nat):Lv->Prop
 | nil=>False
 | thr k a b o r n=>((k= .s\/k= .m)/\(x=a\/x=b))\/(k= .r/\x=a)\/(x∉o/\¬(k= .r/\x=b)/\r.fh x)\/n.fh x
 | sum ps n=>ps.fh x\/n.fh x
 | part o q n=>(x∉o/\q.fh x)\/n.fh x
theorem zL:∀(π:List Nat) (ls:List UInt8) (ρ ρ':Rh) (x:Nat),x∈π->π.length=ls.length->asg π ls ρ x=asg π ls ρ' x
 | [],_,_,_,_,h,_=>by cases h
 | _::_,[],_,_,_,_,h=>by cases h
 | y::π,c::ls,ρ,ρ',x,h,H=>by
  rw [asg,asg];by_cases G:x∈π
  ·exact zL π ls _ _ x G (by simpa using H)
  ·have e:x=y:=(Oa.1 h).resolve_right G;subst e;exact fO π ls _ _ x (by simp [aG])
theorem eC {own:List Nat}{f:Rh->Tk->List Tx}{H:Nat->Prop}(he:∀ρ ρ' tk,(f ρ tk).isEmpty=(f ρ' tk).isEmpty)(Z:∀ρ ρ' tk,(∀x,H x->ρ x=ρ' x)->f ρ tk=f ρ' tk)
  {ρ ρ':Rh} {tk:Tk} (h:∀x,x∉own->H x->ρ x=ρ' x):aS own f ρ tk=aS own f ρ' tk:=by
 unfold aS;rw [he ρ ρ' tk];split
 ·rfl
 ·show wrap _ (bJ _)=wrap _ (bJ _)
  congr 2
  refine O9 λπ G=>?_
  have J:=(cY own π).1 G;rw [Z _ (asg π (lets own.length tk) ρ') _ λx hx=>?_];by_cases hm:x∈own
  ·exact zL π _ _ _ x (J.symm.subset hm) (by rw [gi,J.length_eq])
  ·exact fO π _ _ _ x (h x hm hx)
theorem iJ (l:Lv)(ρ ρ':Rh)(tk:Tk):(thS l ρ tk).isEmpty=(thS l ρ' tk).isEmpty:=by
 rw [OT,QO,QO,<-List.length_eq_zero_iff,<-List.length_eq_zero_iff,bD,bD]
theorem tR:∀(l:Lv) (ρ ρ':Rh) (tk:Tk),(∀x,l.fh x->ρ x=ρ' x)->thS l ρ tk=thS l ρ' tk:=by
 intro l
 induction l with
 | nil=>intro _ _ _ _;rfl
 | thr k a b o r n J Z=>
  intro ρ ρ' tk h;have hn:thS n ρ tk=thS n ρ' tk:=Z ρ ρ' tk λx H=>h x (.inr (.inr (.inr H)))
  cases k with
  | r=>
   have ha:=h a (.inr (.inl ⟨rfl,rfl⟩));simp only [thS,ha,hn];rw [eC (ρ:=aG ρ b (ja tk)) (ρ':=aG ρ' b (ja tk)) (iJ r) J λx H G=>?_];unfold aG;split
   ·rfl
   ·rename_i e;exact h x (.inr (.inr (.inl ⟨H,λhh=>e hh.2,G⟩)))
  | s=>
   have ha:=h a (.inl ⟨.inl rfl,.inl rfl⟩);have hb:=h b (.inl ⟨.inl rfl,.inr rfl⟩);simp only [thS,ha,hb,hn];rw [eC (ρ:=ρ) (ρ':=ρ') (iJ r) J λx H G=>h x (.inr (.inr (.inl ⟨H,(λhh=>by cases hh.1),G⟩)))]
  | m=>
   have ha:=h a (.inl ⟨.inr rfl,.inl rfl⟩);have hb:=h b (.inl ⟨.inr rfl,.inr rfl⟩);simp only [thS,ha,hb,hn];rw [eC (ρ:=ρ) (ρ':=ρ') (iJ r) J λx H G=>h x (.inr (.inr (.inl ⟨H,(λhh=>by cases hh.1),G⟩)))]
  | t=>
   simp only [thS,kText,hn];rw [eC (ρ:=ρ) (ρ':=ρ') (iJ r) J λx H G=>h x (.inr (.inr (.inl ⟨H,(λhh=>by cases hh.1),G⟩)))]
  | p=>
   simp only [thS,kText,hn];rw [eC (ρ:=ρ) (ρ':=ρ') (iJ r) J λx H G=>h x (.inr (.inr (.inl ⟨H,(λhh=>by cases hh.1),G⟩)))]
 | sum ps n α Z=>
  intro ρ ρ' tk h;simp only [thS,α ρ ρ' tk λx H=>h x (.inl H),Z ρ ρ' tk λx H=>h x (.inr H)]
 | part o q n β Z=>
  intro ρ ρ' tk h;simp only [thS,Z ρ ρ' tk λx H=>h x (.inr H)];rw [eC (ρ:=ρ) (ρ':=ρ') (iJ q) β λx H G=>h x (.inl ⟨H,G⟩)]
theorem qo (x:Nat):∀l m:Lv,(l.app m).fh x↔l.fh x\/m.fh x
 | .nil,m=>by simp [Lv.app,Lv.fh]
 | .thr k a b o r n,m=>by simp only [Lv.app,Lv.fh,qo x n m,QU]
 | .sum ps n,m=>by simp only [Lv.app,Lv.fh,qo x n m,QU]
 | .part o q n,m=>by simp only [Lv.app,Lv.fh,qo x n m,QU]
theorem Kv (x:Nat):∀l:List U,(tl l).fh x↔∃t∈l,(tl [t]).fh x
 | []=>by simp [tl,Lv.fh]
 | u::l=>by
  have:tl (u::l)=(tl [u]).app (tl l):=fe [u] l;rw [this,qo,Kv x l];simp
theorem Kc (x:Nat):∀l:List U,(tp l).fh x↔∃t∈l,x∉(td t).1/\(td t).2.fh x
 | []=>by simp [tp,Lv.fh]
 | u::l=>by simp [tp,Lv.fh,Kc x l]
theorem vf:∀(u:U),∀t∈(aj u).2,t.dI/\t.dead=false:=by
 intro u
 induction u with
 | nil=>intro t h;simp [aj]at h
 | snd=>intro t h;simp [aj]at h;subst h;exact⟨trivial,rfl⟩
 | rcv=>intro t h;simp [aj]at h;subst h;exact⟨trivial,rfl⟩
 | tau=>intro t h;simp [aj]at h;subst h;exact⟨trivial,rfl⟩
 | sum p q G J=>
  intro t h;simp only [aj]at h;split at h
  ·exact J t h
  ·rename_i Z;split at h
   ·exact G t h
   ·rename_i H;simp at h;subst h;simp at Z H;exact⟨⟨Z,H⟩,by simp [T.dead,Z]⟩
 | par p q G J=>
  intro t h;simp only [aj,NU]at h;exact h.elim (G t) (J t)
 | res x p G=>intro t h;exact G t h
 | mat a b p G=>
  intro t h;simp only [aj]at h;split at h
  ·exact G t h
  ·rename_i Z;split at h
   ·simp at h
   ·rename_i H;simp at h;subst h;simp at H;exact⟨Z,H⟩
 | rep p G=>
  intro t h;simp only [aj]at h;split at h
  ·simp at h
  ·rename_i H;simp at h;subst h;simp at H;exact⟨trivial,H⟩
theorem Jv (u:U)(a b:Nat)(p:U)(h:T.mat a b p∈(aj u).2):a≠b/\p.dead=false:=vf u _ h
theorem Bk:∀(n:Nat) (u:U),u.size<=n->Uq u->∀x,(td u).2.fh x->x∉(td u).1->u.Us x:=by
 intro n
 induction n with
 | zero=>intro u h;cases u<;>simp [T.size]at h
 | succ n Z=>
  intro u hn hu x H hx;obtain⟨h1,h2,_⟩:=gD u hu;rw [h1,Kv]at H;obtain⟨t,ht,H⟩:=H;have hx:x∉(aj u).1:=λh=>hx (h2.symm.subset h)
  have hle:=Cx u t ht;have G:=FL hu t ht;have α:=zy u t ht;have key:t.Us x:=by
   cases t with
   | nil=>cases α
   | par=>cases α
   | res=>cases α
   | snd a b p=>
    simp only [T.size]at hle;simp only [tl,Lv.fh,reduceCtorEq,false_and,true_or,Pq,QV,Rc,QJ]at H;rcases H with(h | h) | ⟨h,h'⟩
    ·exact .inl h
    ·exact .inr (.inl h)
    ·exact .inr (.inr (Z p (by omega) G.snd x h' h))
   | rcv a b p=>
    simp only [T.size]at hle;simp only [tl,Lv.fh,reduceCtorEq,false_and,or_self,Pq,QV,Rc]at H;rcases H with h | ⟨h,γ,h'⟩
    ·exact .inl h
    ·exact .inr ⟨γ,Z p (by omega) G.rcv x h' h⟩
   | tau p=>
    simp only [T.size]at hle;simp only [tl,Lv.fh,reduceCtorEq,false_and,or_self,Pq,QV,Rc,QJ]at H;exact Z p (by omega) G.tau x H.2 H.1
   | rep p=>
    simp only [T.size]at hle;simp only [tl,Lv.fh,reduceCtorEq,false_and,or_self,Pq,QV,Rc,QJ]at H;exact Z p (by omega) G.rep x H.2 H.1
   | mat a b p=>
    simp only [T.size]at hle;obtain⟨β,hd⟩:a≠b/\p.dead=false:=Jv u a b p ht;simp only [tl,Lv.fh,reduceCtorEq,false_and,or_true,Pq,QV,Rc,QJ]at H;rcases H with(h | h) | ⟨h,h'⟩
    ·exact .inr ⟨β,hd,.inl h⟩
    ·exact .inr ⟨β,hd,.inr (.inl h)⟩
    ·exact .inr ⟨β,hd,.inr (.inr (Z p (by omega) G.mat x h' h))⟩
   | sum p q=>
    simp only [T.size]at hle;simp only [tl,Lv.fh,QV]at H;rw [Kc]at H;obtain⟨v,J,k1,k2⟩:=H;rcases NU.1 J with J | J
    ·have :=mz p v J;exact .inl ((mD p G.eJ x).2 ⟨v,J,Z v (by omega) (zG G.eJ v J) x k2 k1⟩)
    ·have :=mz q v J;exact .inr ((mD q G.en x).2 ⟨v,J,Z v (by omega) (zG G.en v J) x k2 k1⟩)
  exact(kW u hu t ht x key).resolve_right hx
theorem Mt {u:U}(hu:Uq u){ρ ρ':Rh}(tk:Tk)(h:∀y,u.Us y->ρ y=ρ' y):LS u ρ tk=LS u ρ' tk:=
 eC (iJ _) (tR _) λx G H=>h x (Bk _ u (NP _) hu x H G)
theorem AX:∀(l m:List Nat),l.Nodup->l.length=m.length->∃f:Nat->Nat,m=l.map f
 | [],[],_,_=>⟨id,rfl⟩
 | [],_::_,_,h=>by cases h
 | _::_,[],_,h=>by cases h
 | x::l,y::m,G,h=>by
  have G:=OO.1 G;obtain⟨f,H⟩:=AX l m G.2 (by simpa using h);refine⟨aG f x y,?_⟩;rw [Oe,H]
  congr 1
  ·simp [aG]
  ·exact O9 λz J=>by
    unfold aG;rw [N2 λe:z=x=>G.1 (e▸J)]
theorem AE.Cc:∀{u Z:U} {σ J:Nat->Nat},AE σ u J Z->(BV u).length=(BV Z).length:=by
 intro u
 induction u<;>intro Z σ J h<;>cases Z<;>simp only [AE]at h<;>simp only [BV,NI,NL]
 case snd.snd G _ _ _=>exact G h.2.2
 case mat.mat G _ _ _=>exact G h.2.2
 case rcv.rcv G _ _ _=>rw [G (h.2 0)]
 case res.res G _ _=>rw [G (h 0)]
 case tau.tau G _=>exact G h
 case rep.rep G _=>exact G h
 case sum.sum G H _ _=>rw [G h.1,H h.2]
 case par.par G H _ _=>rw [G h.1,H h.2]
theorem AE.KX {f:Nat->Nat}:∀{u u':U} {σ γ:Nat->Nat},AE σ u γ u'->Uq u'->(∀y,u.Fr y->u'.Fr (f y)/\γ (f y)=σ y)->(∀y z,u'.Fr y->u'.Fr z->γ y=γ z->y=z)->BV u'=(BV u).map f->u'=u.map f:=by
 intro u
 induction u<;>intro u' σ γ h hu Z hi hb<;>cases u'<;>simp only [AE]at h<;>simp only [T.map]
 case snd.snd a b p ih c d q=>
  have e1:c=f a:=hi _ _ (.inl rfl) (Z a (.inl rfl)).1 (by rw [(Z a (.inl rfl)).2,h.1]);have e2:d=f b:=hi _ _ (.inr (.inl rfl)) (Z b (.inr (.inl rfl))).1 (by rw [(Z b (.inr (.inl rfl))).2,h.2.1]);rw [<-e1,<-e2];rw [ih h.2.2 hu.snd (λy G=>?_) (λy z G hz=>hi y z (.inr (.inr G)) (.inr (.inr hz))) hb];obtain⟨H,J,h2⟩:=h.2.2.free y G;have :=Z y (.inr (.inr G));have e:H=f y:=hi _ _ (.inr (.inr J)) this.1 (by rw [h2,this.2]);exact⟨e▸J,this.2⟩
 case mat.mat a b p ih c d q=>
  have e1:c=f a:=hi _ _ (.inl rfl) (Z a (.inl rfl)).1 (by rw [(Z a (.inl rfl)).2,h.1]);have e2:d=f b:=hi _ _ (.inr (.inl rfl)) (Z b (.inr (.inl rfl))).1 (by rw [(Z b (.inr (.inl rfl))).2,h.2.1]);rw [<-e1,<-e2];rw [ih h.2.2 hu.mat (λy G=>?_) (λy z G hz=>hi y z (.inr (.inr G)) (.inr (.inr hz))) hb];obtain⟨H,J,h2⟩:=h.2.2.free y G;have :=Z y (.inr (.inr G));have e:H=f y:=hi _ _ (.inr (.inr J)) this.1 (by rw [h2,this.2]);exact⟨e▸J,this.2⟩
 case rcv.rcv a x p ih c z q=>
  simp only [BV,Oe,Oz]at hb;have e1:c=f a:=hi _ _ (.inl rfl) (Z a (.inl rfl)).1 (by rw [(Z a (.inl rfl)).2,h.1]);rw [<-e1,<-hb.1];obtain⟨v,J,h2⟩:=cf p q σ γ;have hz:¬(T.rcv c z q).Fr z:=hu.nf z (by simp [BV]);rw [ih (h.2 v) hu.rcv (λy G=>?_) (λy H G ε e=>?_) hb.2]
  ·obtain⟨H,k1,k2⟩:=(h.2 v).free y G;by_cases e:y=x
   ·subst e;rw [cC]at k2;have:H=z:=Pd λδ=>by
     rw [bC _ _ δ]at k2;exact h2 H k1 k2
    subst this;rw [<-hb.1,cC,cC];exact⟨k1,rfl⟩
   ·have α:=Z y (.inr ⟨e,G⟩);have δ:f y≠z:=λe'=>hz (e'▸α.1)
    rw [bC _ _ e]at k2|-;rw [bC _ _ δ];have β:H≠z:=λe'=>by
     rw [e',cC]at k2;exact J y G k2.symm
    rw [bC _ _ β]at k2;have e2:H=f y:=hi _ _ (.inr ⟨β,k1⟩) α.1 (by rw [k2,α.2]);exact⟨e2▸k1,α.2⟩
  ·by_cases g1:y=z<;>by_cases g2:H=z
   ·rw [g1,g2]
   ·rw [g1,cC,bC _ _ g2]at e;exact absurd e.symm (h2 H ε)
   ·rw [g2,cC,bC _ _ g1]at e;exact absurd e (h2 y G)
   ·rw [bC _ _ g1,bC _ _ g2]at e;exact hi y H (.inr ⟨g1,G⟩) (.inr ⟨g2,ε⟩) e
 case res.res x p ih z q=>
  simp only [BV,Oe,Oz]at hb;rw [<-hb.1];obtain⟨v,J,h2⟩:=cf p q σ γ;have hz:¬(T.res z q).Fr z:=hu.nf z (by simp [BV]);rw [ih (h v) hu.res (λy G=>?_) (λy H G ε e=>?_) hb.2]
  ·obtain⟨H,k1,k2⟩:=(h v).free y G;by_cases e:y=x
   ·subst e;rw [cC]at k2;have:H=z:=Pd λδ=>by
     rw [bC _ _ δ]at k2;exact h2 H k1 k2
    subst this;rw [<-hb.1,cC,cC];exact⟨k1,rfl⟩
   ·have α:=Z y ⟨e,G⟩;have δ:f y≠z:=λe'=>hz (e'▸α.1)
    rw [bC _ _ e]at k2|-;rw [bC _ _ δ];have β:H≠z:=λe'=>by
     rw [e',cC]at k2;exact J y G k2.symm
    rw [bC _ _ β]at k2;have e2:H=f y:=hi _ _ ⟨β,k1⟩ α.1 (by rw [k2,α.2]);exact⟨e2▸k1,α.2⟩
  ·by_cases g1:y=z<;>by_cases g2:H=z
   ·rw [g1,g2]
   ·rw [g1,cC,bC _ _ g2]at e;exact absurd e.symm (h2 H ε)
   ·rw [g2,cC,bC _ _ g1]at e;exact absurd e (h2 y G)
   ·rw [bC _ _ g1,bC _ _ g2]at e;exact hi y H ⟨g1,G⟩ ⟨g2,ε⟩ e
 case tau.tau p ih q=>rw [ih h hu.tau Z hi hb]
 case rep.rep p ih q=>rw [ih h hu.rep Z hi hb]
 case sum.sum p p' ih ζ q q'=>
  simp only [BV,Oy]at hb;obtain⟨b1,b2⟩:=List.append_inj hb (by rw [NY,h.1.Cc]);rw [ih h.1 hu.eJ (λy G=>?_) (λy z G hz=>hi y z (.inl G) (.inl hz)) b1,ζ h.2 hu.en (λy G=>?_) (λy z G hz=>hi y z (.inr G) (.inr hz)) b2]
  ·obtain⟨H,J,h2⟩:=h.2.free y G;have :=Z y (.inr G);have e:H=f y:=hi _ _ (.inr J) this.1 (by rw [h2,this.2]);exact⟨e▸J,this.2⟩
  ·obtain⟨H,J,h2⟩:=h.1.free y G;have :=Z y (.inl G);have e:H=f y:=hi _ _ (.inl J) this.1 (by rw [h2,this.2]);exact⟨e▸J,this.2⟩
 case par.par p p' ih ζ q q'=>
  simp only [BV,Oy]at hb;obtain⟨b1,b2⟩:=List.append_inj hb (by rw [NY,h.1.Cc]);rw [ih h.1 hu.gB (λy G=>?_) (λy z G hz=>hi y z (.inl G) (.inl hz)) b1,ζ h.2 hu.fS (λy G=>?_) (λy z G hz=>hi y z (.inr G) (.inr hz)) b2]
  ·obtain⟨H,J,h2⟩:=h.2.free y G;have :=Z y (.inr G);have e:H=f y:=hi _ _ (.inr J) this.1 (by rw [h2,this.2]);exact⟨e▸J,this.2⟩
  ·obtain⟨H,J,h2⟩:=h.1.free y G;have :=Z y (.inl G);have e:H=f y:=hi _ _ (.inl J) this.1 (by rw [h2,this.2]);exact⟨e▸J,this.2⟩
theorem T.lD {D:Nat->Prop}:∀{u:U},(∀x,u.Fr x->D x)->(∀x∈BV u,D x)->u.Al D
 | .nil,_,_=>trivial
 | .snd a b p,h,k=>⟨h a (.inl rfl),h b (.inr (.inl rfl)),T.lD (λx G=>h x (.inr (.inr G))) k⟩
 | .mat a b p,h,k=>⟨h a (.inl rfl),h b (.inr (.inl rfl)),T.lD (λx G=>h x (.inr (.inr G))) k⟩
 | .rcv a y p,h,k=>⟨h a (.inl rfl),k y (by simp [BV]),T.lD (λx G=>by
   by_cases e:x=y
   ·subst e;exact k x (by simp [BV])
   ·exact h x (.inr ⟨e,G⟩)) λx G=>k x (by simp [BV,G])⟩
 | .res y p,h,k=>⟨k y (by simp [BV]),T.lD (λx G=>by
   by_cases e:x=y
   ·subst e;exact k x (by simp [BV])
   ·exact h x ⟨e,G⟩) λx G=>k x (by simp [BV,G])⟩
 | .tau p,h,k=>T.lD (u:=p) h k
 | .rep p,h,k=>T.lD (u:=p) h k
 | .sum p q,h,k=>⟨T.lD (λx G=>h x (.inl G)) λx G=>k x (Ol _ G),T.lD (λx G=>h x (.inr G)) λx G=>k x (Oc _ G)⟩
 | .par p q,h,k=>⟨T.lD (λx G=>h x (.inl G)) λx G=>k x (Ol _ G),T.lD (λx G=>h x (.inr G)) λx G=>k x (Oc _ G)⟩
theorem nH {f:Nat->Nat}:∀{l:List Nat},(l.map f).Nodup->∀x∈l,∀y∈l,f x=f y->x=y
 | [],_,_,h,_,_,_=>by cases h
 | z::l,J,x,Z,y,hy,e=>by
  rw [Oe,OO]at J;rcases Oa.1 Z with G | G<;>rcases Oa.1 hy with H | H
  ·rw [G,H]
  ·exact absurd (Ou.2 ⟨y,H,by rw [<-e,G]⟩) J.1
  ·exact absurd (Ou.2 ⟨x,G,by rw [e,H]⟩) J.1
  ·exact nH J.2 x G y H e
theorem AE.LO {u Z:U}{σ J:Nat->Nat}(h:AE σ u J Z)(hu:Uq u)(α:Uq Z)(hi:∀y z,u.Fr y->u.Fr z->σ y=σ z->y=z)(γ:∀y z,Z.Fr y->Z.Fr z->J y=J z->y=z):
  ∃(f:Nat->Nat) (D:Nat->Prop),Z=u.map f/\u.Al D/\(∀x y,D x->D y->f x=f y->x=y)/\∀y,u.Fr y->Z.Fr (f y)/\J (f y)=σ y:=by
 obtain⟨g,hg⟩:=AX (BV u) (BV Z) hu.nd h.Cc;have β:∀y,∃y',u.Fr y->Z.Fr y'/\J y'=σ y:=λy=>by
  by_cases H:u.Fr y
  ·obtain⟨y',h1,h2⟩:=h.free y H;exact⟨y',λ _=>⟨h1,h2⟩⟩
  ·exact⟨0,λk=>absurd k H⟩
 let f:Nat->Nat:=λy=>if u.Fr y then Classical.choose (β y)else g y
 have f1:∀y,u.Fr y->Z.Fr (f y)/\J (f y)=σ y:=λy H=>by
  have:f y=Classical.choose (β y):=Om H;rw [this];exact Classical.choose_spec (β y) H
 have f2:BV Z=(BV u).map f:=by
  rw [hg];exact O9 λx G=>(N2 (hu.nf x G)).symm
 refine⟨f,λx=>u.Fr x\/x∈BV u,h.KX α f1 γ f2,T.lD (λx G=> .inl G) (λx G=> .inr G),?_,f1⟩;intro x y G H e;have hb:∀x∈BV u,f x∈BV Z:=λx G=>by rw [f2];exact Po G
 rcases G with G | G<;>rcases H with H | H
 ·exact hi x y G H (by rw [<-(f1 x G).2,<-(f1 y H).2,e])
 ·exact absurd (e▸(f1 x G).1) (α.nf _ (hb y H))
 ·exact absurd (e▸(f1 y H).1) (λk=>α.nf _ (hb x G) (by rw [e];exact(f1 y H).1))
 ·exact nH (f2▸α.nd) x G y H e
theorem Kw {u G:U}{σ H:Nat->Nat}(h:AE σ u H G)(hu:Uq u)(J:Uq G)(hi:∀y z,u.Fr y->u.Fr z->σ y=σ z->y=z)(Z:∀y z,G.Fr y->G.Fr z->H y=H z->y=z)
  {ρ ρ':Rh} (α:∀y y',u.Us y->G.Fr y'->σ y=H y'->ρ y=ρ' y') (tk:Tk):LS u ρ tk=LS G ρ' tk/\dF u=dF G/\cQ u=cQ G/\a7 u=a7 G:=by
 obtain⟨f,D,rfl,h1,h2,h3⟩:=h.LO hu J hi Z;obtain⟨k1,k2,k3⟩:=H7 h2 h1;refine⟨?_,k1.symm,k2.symm,k3.symm⟩;rw [LM h2 h1];exact Mt hu tk λy hy=>α y (f y) hy (h3 y (T.a8 hy)).1 (h3 y (T.a8 hy)).2.symm
namespace T
section
variable {A B:Type}
def tg:T A->Nat
 | nil=>0 | snd .. =>1 | rcv .. =>2 | tau .. =>3 | sum .. =>4 | par .. =>5 | res .. =>6 | mat .. =>7 | rep .. =>8
def gp:T A->Bool
 | nil=>true | snd .. =>true | rcv .. =>true | tau .. =>true | sum .. =>true
 | par .. =>false | res .. =>false | mat .. =>false | rep .. =>false
def isR:T A->Bool
 | rcv .. =>true
 | _=>false
def smp:T A->Bool
 | nil=>true | snd _ _ p=>p.smp | rcv _ _ p=>p.smp | tau p=>p.smp | sum p q=>(p.gp&&q.gp)&&(p.smp&&q.smp) | par p q=>p.smp&&q.smp
 | res _ p=>p.smp | mat _ _ p=>p.smp | rep p=>p.isR&&p.smp
theorem A0 {t:T A}:t.gp=decide (t.tg< 5):=by cases t<;>rfl
theorem G3 {t:T A}:t.isS=decide (t.tg=4):=by cases t<;>rfl
theorem zB {t:T A}:t.isR=decide (t.tg=2):=by cases t<;>rfl
theorem Hi [DecidableEq A][DecidableEq B]{p:T A}{q:T B}{ρ:A->Nat}{σ:B->Nat}(h:AE ρ p σ q):p.tg=q.tg:=by
 cases p<;>cases q<;>first | exact h.elim | rfl
theorem vM [DecidableEq A][DecidableEq B]{p:T A}{q:T B}{ρ:A->Nat}{σ:B->Nat}(h:AE ρ p σ q):p.smp=q.smp:=by
 induction p generalizing q ρ σ<;>cases q<;>simp only [AE]at h<;>simp only [smp]
 case snd.snd G _ _ _=>exact G h.2.2
 case mat.mat G _ _ _=>exact G h.2.2
 case rcv.rcv G _ _ _=>exact G (h.2 0)
 case res.res G _ _=>exact G (h 0)
 case tau.tau G _=>exact G h
 case rep.rep G _=>rw [G h,zB,zB,Hi h]
 case sum.sum G H _ _=>rw [G h.1,H h.2,A0,A0,A0,A0,Hi h.1,Hi h.2]
 case par.par G H _ _=>rw [G h.1,H h.2]
end
end T
structure M9 (t w:U):Prop where
 th:w.th=true
 nr:w.Nr
 uq:Uq w
 bv:∀x∈BV w,x∈BV t
 us:∀x,w.Us x↔t.Us x
 tx:∀ρ tk,thU w ρ tk=thU t ρ tk
 bad:∀tk,thBad (tl [w]) tk=thBad (tl [t]) tk
 all:thAll (tl [w])=thAll (tl [t])
 most:ax (tl [w])=ax (tl [t])
 smp:t.smp=true->w.smp=true
 tg:w.tg=t.tg
structure Ns (u v:U):Prop where
 nr:v.Nr
 uq:Uq v
 bv:∀x∈BV v,x∈BV u
 us:∀x,v.Us x↔u.Us x
 ls:∀ρ tk,LS v ρ tk=LS u ρ tk
 bad:∀tk,dF v tk=dF u tk
 all:cQ v=cQ u
 most:a7 v=a7 u
 dead:v.dead=u.dead
 smp:u.smp=true->v.smp=true
 tg:∀t,aj u=([],[t])->v.tg=t.tg
 isS:(∀p q,aj u≠([],[T.sum p q]))->v.isS=false
theorem rI {t w:U}(G:(BV w).Nodup)(nr:w.Nr)(hb:∀x∈BV w,x∈BV t)(hu:∀x,w.Us x->t.Us x)(H:Uq t):Uq w:=
 ⟨G,λx J Z=>H.nf x (hb x J) (T.a8 (hu x (nr.iP Z)))⟩
theorem AE.Ko {p:P}{q:U}{ρ:Rh}{y:Nat}{c:UInt8}(G:∀z,q.Fr z->z≠y->ρ z≠c)(h:AE UInt8.toNat p (λz=>(aG ρ y c z).toNat) q)(v:Nat):AE (aG UInt8.toNat c v) p (aG (λz=>(ρ z).toNat) y v) q:=by
 refine(h.map λn=>if n=c.toNat then v else n).congr (λx _=>?_) λz H=>?_
 ·unfold aG;by_cases e:x=c
  ·subst e;simp
  ·rw [N2 e,N2 λh=>e (N4.1 h)]
 ·unfold aG;by_cases e:z=y
  ·subst e;simp
  ·simp only [N2 e];rw [N2 λh=>G z H e (N4.1 h)]
theorem bz:∀(π:List Nat) (ls:List UInt8) (ρ:Rh) (x:Nat),x∉π->asg π ls ρ x=ρ x
 | [],_,_,_,_=>by simp [asg]
 | _::_,[],_,_,_=>by simp [asg]
 | y::π,c::ls,ρ,x,h=>by
  simp only [Oa,Rb]at h;rw [asg,bz π ls _ x h.2];unfold aG;rw [N2 h.1]
theorem dD:∀(π:List Nat) (ls:List UInt8) (ρ:Rh) (x:Nat),x∈π->π.length=ls.length->asg π ls ρ x∈ls
 | [],_,_,_,h,_=>by cases h
 | _::_,[],_,_,_,h=>by cases h
 | y::π,c::ls,ρ,x,h,H=>by
  rw [asg];by_cases G:x∈π
  ·exact NW _ (dD π ls _ x G (by simpa using H))
  ·have e:x=y:=(Oa.1 h).resolve_right G;subst e;rw [bz π ls _ x G];simp [aG]
theorem tw:∀(π:List Nat) (ls:List UInt8) (ρ:Rh) (x z:Nat),x∈π->z∈π->π.length=ls.length->ls.Nodup->asg π ls ρ x=asg π ls ρ z->x=z
 | [],_,_,_,_,h,_,_,_,_=>by cases h
 | _::_,[],_,_,_,_,_,h,_,_=>by cases h
 | y::π,c::ls,ρ,x,z,hx,hz,Z,G,e=>by
  have G:=OO.1 G;have α:π.length=ls.length:=by simpa using Z
  rw [asg]at e;by_cases H:x∈π<;>by_cases J:z∈π
  ·exact tw π ls _ x z H J α G.2 e
  ·have e2:z=y:=(Oa.1 hz).resolve_right J;subst e2;rw [bz π ls _ z J]at e;have :=dD π ls (aG ρ z c) x H (by simpa using Z);rw [e]at this;exact absurd (by simpa [aG]using this) G.1
  ·have e2:x=y:=(Oa.1 hx).resolve_right H;subst e2;rw [bz π ls _ x H]at e;have :=dD π ls (aG ρ x c) z J (by simpa using Z);rw [<-e]at this;exact absurd (by simpa [aG]using this) G.1
  ·rw [(Oa.1 hx).resolve_right H,(Oa.1 hz).resolve_right J]
theorem AE.Dc {p:P}{q:U}:∀(π:List Nat) (ls:List UInt8) (ρ:Rh),π.length=ls.length->ls.Nodup->(∀z,q.Fr z->z∉π->ρ z∉ls)->AE UInt8.toNat p (λz=>(asg π ls ρ z).toNat) q->
  AE UInt8.toNat (T.resL ls p) (λz=>(ρ z).toNat) (T.resL π q)
 | [],[],_,_,_,_,h=>h
 | [],_::_,_,h,_,_,_=>by cases h
 | _::_,[],_,h,_,_,_=>by cases h
 | y::π,c::ls,ρ,hl,H,Z,h=>by
  have H:=OO.1 H;have ih:=AE.Dc π ls (aG ρ y c) (by simpa using hl) H.2 (λz G hm=>by
   unfold aG;split
   ·exact H.1
   ·rename_i e;exact λJ=>Z z G (by simp [e,hm]) (NW _ J)) h
  intro v;refine AE.Ko (λz G e=>?_) ih v;have G:=T.cw.1 G;exact λJ=>Z z G.2 (by simp [e,G.1]) (by rw [J];exact Oo ..)
theorem Cq (a b:UInt8)(r:Tx):kText .m a b r=kText .m b a r:=by
 unfold kText;by_cases G:b< a
 ·have H:¬a< b:=λh=>by
   rw [OF]at h G;omega
  simp [G,H]
 ·by_cases H:a< b
  ·simp [G,H]
  ·have:a=b:=by
    apply N4.1;rw [OF]at G H;omega
   subst this;rfl
theorem Bn {α:Type}{f:α->Bool}{l m:List α}(h:l.Perm m):l.any f=m.any f:=by
 rw [OT,PX,PX];exact⟨fun⟨x,G,H⟩=>⟨x,h.subset G,H⟩,fun⟨x,G,H⟩=>⟨x,h.symm.subset G,H⟩⟩
theorem jz {l m:List Nat}(h:l.Perm m):l.sum=m.sum:=by
 induction h with
 | nil=>rfl
 | cons x _ G=>simp [G]
 | swap x y l=>simp;omega
 | trans _ _ H J=>exact H.trans J
theorem triples {α β γ:Type}{R:α->β->γ->Prop}:∀{l:List α},(∀a∈l,∃b c,R a b c)->∃zs:List (α×β×γ),zs.map (·.1)=l/\∀z∈zs,R z.1 z.2.1 z.2.2
 | [],_=>⟨[],rfl,λz h=>by cases h⟩
 | a::l,h=>by
  obtain⟨b,c,hr⟩:=h a (Oo ..);obtain⟨zs,H,J⟩:=triples (l:=l) λa ha=>h a (NW _ ha)
  refine⟨(a,b,c)::zs,by simp [H],λz G=>?_⟩;rcases Oa.1 G with rfl | G
  ·exact hr
  ·exact J z G
theorem wW {α:Type}(zs:List α)(g:α->Tx):∃G:List α,G.Perm zs/\G.map g=aQ (zs.map g):=by
 refine⟨zs.mergeSort λa b=>jK (g a) (g b),List.mergeSort_perm _ _,?_⟩
 symm
 refine qe ?_ ((List.mergeSort_perm _ _).map g);have :=List.pairwise_mergeSort (le:=λa b:α=>jK (g a) (g b)) (λa b c=>hU _ _ _) (λa b=>rH _ _) zs;exact List.pairwise_map.2 this
theorem cN (p:U):∀l:List Nat,BV (T.resL l p)=l++BV p
 | []=>rfl
 | x::l=>by simp only [T.resL,BV,cN p l,OP]
theorem cO:∀l:List U,BV (T.parL l)=l.flatMap BV
 | []=>rfl
 | [t]=>by simp [T.parL]
 | t::u::l=>by simp only [T.parL,BV,cO (u::l),OV]
theorem zt:∀l:List U,BV (T.dK l)=l.flatMap BV
 | []=>rfl
 | [t]=>by simp [T.dK]
 | t::u::l=>by simp only [T.dK,BV,zt (u::l),OV]
theorem rD {α:Type}{f g:α->List Nat}:∀{l:List α},(l.flatMap f).Nodup->(∀z∈l,(g z).Nodup/\∀x∈g z,x∈f z)->(l.flatMap g).Nodup
 | [],_,_=>Pe
 | z::l,G,h=>by
  rw [OV]at G|-;have G:=Ot.1 G;refine Ot.2 ⟨(h z (Oo ..)).1,rD G.2.1 λy H=>h y (NW _ H),λa ha b hb=>?_⟩;obtain⟨y,H,J⟩:=OC.1 hb;exact G.2.2 a ((h z (Oo ..)).2 a ha) b (OC.2 ⟨y,H,(h y (NW _ H)).2 b J⟩)
theorem Hg:∀u:U,Uq u->((aw u).flatMap BV).Nodup:=by
 intro u;have sub:∀u:U,∀x∈(aw u).flatMap BV,x∈BV u:=λu x J=>by
  obtain⟨t,Z,h2⟩:=OC.1 J;exact Bl u t Z x h2
 induction u with
 | nil=>intro _;simp [aw]
 | snd a b p G=>intro h;simpa [aw]using h.nd
 | rcv a b p G=>intro h;simpa [aw]using h.nd
 | tau p G=>intro h;simpa [aw]using h.nd
 | sum p q G H=>
  intro h;simp only [aw,OE];exact Ot.2 ⟨G h.eJ,H h.en,λa ha b hb=>(Ot.1 h.nd).2.2 a (sub p a ha) b (sub q b hb)⟩
 | par p q G H=>
  intro h;simp only [aw];split
  ·exact H h.fS
  ·split
   ·exact G h.gB
   ·simpa using h.nd
 | res x p G=>
  intro h;simp only [aw];split
  ·simpa using h.nd
  ·exact G h.res
 | mat a b p G=>
  intro h;simp only [aw];split
  ·exact G h.mat
  ·split
   ·simp
   ·simpa using h.nd
 | rep p G=>
  intro h;simp only [aw];split
  ·simp
  ·simpa using h.nd
theorem Ih:∀u:U,Uq u->((aj u).1++(aj u).2.flatMap BV).Nodup:=by
 intro u;have sub:∀u:U,∀x∈(aj u).1++(aj u).2.flatMap BV,x∈BV u:=λu x H=>by
  rcases NU.1 H with H | H
  ·exact iT u x H
  ·obtain⟨t,Z,h2⟩:=OC.1 H;exact Eh u t Z x h2
 induction u with
 | nil=>intro _;simp [aj]
 | snd a b p G=>intro h;simpa [aj]using h.nd
 | rcv a b p G=>intro h;simpa [aj]using h.nd
 | tau p G=>intro h;simpa [aj]using h.nd
 | sum p q G J=>
  intro h;simp only [aj];split
  ·exact J h.en
  ·split
   ·exact G h.eJ
   ·simpa using h.nd
 | par p q G J=>
  intro h;have hp:(((aj p).1++(aj q).1)++((aj p).2++(aj q).2).flatMap BV).Perm (((aj p).1++(aj p).2.flatMap BV)++((aj q).1++(aj q).2.flatMap BV)):=by
   rw [OE];exact vh _ _ _ _
  simp only [aj];rw [hp.nodup_iff];exact Ot.2 ⟨G h.gB,J h.fS,λa ha b hb=>(Ot.1 h.nd).2.2 a (sub p a ha) b (sub q b hb)⟩
 | res x p G=>
  intro h;simp only [aj];split
  ·exact OO.2 ⟨λH=>h.gJ (sub p x H),G h.res⟩
  ·exact G h.res
 | mat a b p G=>
  intro h;simp only [aj];split
  ·exact G h.mat
  ·split
   ·simp
   ·simpa using h.nd
 | rep p G=>
  intro h;simp only [aj];split
  ·simp
  ·simpa using h.nd
theorem zY {u:U}(h:u.dead=false)(hu:Uq u):(aj u).2≠[]:=λe=>by
 have G:=(gD u hu).1;rw [e]at G;have :=(lg u).1 h;rw [G]at this;exact this rfl
theorem J1 {u:U}(hu:Uq u)(h:(aj u).2=[]):u.dead=true:=by
 cases hd:u.dead with
 | true=>rfl
 | false=>exact absurd h (zY hd hu)
theorem pY {u:U}(h:u.dead=false)(hu:Uq u):aw u≠[]:=λe=>by
 have G:=(gD u hu).2.2;rw [e]at G;have :=(bI u).2.1;rw [G]at this;rw [this.1 rfl]at h;cases h
theorem EZ:∀u:U,Uq u->∀t∈aw u,∀p q,aj t≠([],[T.sum p q]):=by
 intro u
 induction u with
 | nil=>intro _ t h;simp [aw]at h
 | snd=>intro _ t h;simp [aw]at h;subst h;intro p q e;simp [aj]at e
 | rcv=>intro _ t h;simp [aw]at h;subst h;intro p q e;simp [aj]at e
 | tau=>intro _ t h;simp [aw]at h;subst h;intro p q e;simp [aj]at e
 | sum p q G H=>
  intro hu t h;simp only [aw,NU]at h;exact h.elim (G hu.eJ t) (H hu.en t)
 | par p q G H=>
  intro hu t h;simp only [aw]at h;split at h
  ·exact H hu.fS t h
  ·rename_i J;split at h
   ·exact G hu.gB t h
   ·rename_i Z;simp at h;subst h;intro p' q' e;have e2:=ON Prod.snd e;simp only [aj]at e2;have l1:(aj p).2.length≠0:=λe=>zY (by simpa using J) hu.gB (On e)
    have l2:(aj q).2.length≠0:=λe=>zY (by simpa using Z) hu.fS (On e)
    have :=ON List.length e2;simp only [NL,NI,NZ]at this;omega
 | res x p G=>
  intro hu t h;simp only [aw]at h;split at h
  ·rename_i J;simp at h;subst h;intro p' q' e;have e2:=ON Prod.fst e;simp [aj,J]at e2
  ·exact G hu.res t h
 | mat a b p G=>
  intro hu t h;simp only [aw]at h;split at h
  ·exact G hu.mat t h
  ·rename_i J;split at h
   ·simp at h
   ·rename_i Z;simp at h;subst h;intro p' q' e;simp [aj,J,Z]at e
 | rep p G=>
  intro hu t h;simp only [aw]at h;split at h
  ·simp at h
  ·rename_i Z;simp at h;subst h;intro p' q' e;simp [aj,Z]at e
theorem Fg:∀(u:U),∀t∈aw u,t.dead=false:=by
 intro u
 induction u with
 | nil=>intro t h;simp [aw]at h
 | snd=>intro t h;simp [aw]at h;subst h;rfl
 | rcv=>intro t h;simp [aw]at h;subst h;rfl
 | tau=>intro t h;simp [aw]at h;subst h;rfl
 | sum p q G H=>intro t h;simp only [aw,NU]at h;exact h.elim (G t) (H t)
 | par p q G H=>
  intro t h;simp only [aw]at h;split at h
  ·exact H t h
  ·rename_i J;split at h
   ·exact G t h
   ·simp at h;subst h;simp at J;simp [T.dead,J]
 | res x p G=>
  intro t h;simp only [aw]at h;split at h
  ·rename_i J;simp at h;subst h;cases hd:p.dead with
   | false=>exact hd
   | true=>rw [mQ hd]at J;cases J
  ·exact G t h
 | mat a b p G=>
  intro t h;simp only [aw]at h;split at h
  ·exact G t h
  ·split at h
   ·simp at h
   ·rename_i Z;simp at h;subst h;simp at Z;exact Z
 | rep p G=>
  intro t h;simp only [aw]at h;split at h
  ·simp at h
  ·rename_i Z;simp at h;subst h;simp at Z;exact Z
theorem zo:∀u:U,u.gp=true->u.smp=true->∀t∈aw u,(t.tg=1\/t.tg=2\/t.tg=3)/\aj t=([],[t])
 | .nil,_,_,t,h=>by simp [aw]at h
 | .snd ..,_,_,t,h=>by simp [aw]at h;subst h;exact⟨.inl rfl,rfl⟩
 | .rcv ..,_,_,t,h=>by simp [aw]at h;subst h;exact⟨.inr (.inl rfl),rfl⟩
 | .tau ..,_,_,t,h=>by simp [aw]at h;subst h;exact⟨.inr (.inr rfl),rfl⟩
 | .sum p q,_,G,t,h=>by
  simp only [T.smp,NM]at G;simp only [aw,NU]at h;exact h.elim (zo p G.1.1 G.2.1 t) (zo q G.1.2 G.2.2 t)
 | .par ..,h,_,_,_=>by cases h
 | .res ..,h,_,_,_=>by cases h
 | .mat ..,h,_,_,_=>by cases h
 | .rep ..,h,_,_,_=>by cases h
theorem qk {l:List U}(h:∀t∈l,t.smp=true):(T.parL l).smp=true:=by
 induction l with
 | nil=>rfl
 | cons t l G=>
  cases l with
  | nil=>exact h t (by simp)
  | cons u l=>
   simp only [T.parL,T.smp,NM];exact⟨h t (by simp),G λt H=>h t (NW _ H)⟩
theorem oV {p:U}(l:List Nat):(T.resL l p).smp=p.smp:=by
 induction l with
 | nil=>rfl
 | cons x l G=>exact G
theorem FW {l:List U}(H:l≠[])(h:∀t∈l,t.smp=true/\t.gp=true):(T.dK l).smp=true/\(T.dK l).gp=true:=by
 induction l with
 | nil=>exact absurd rfl H
 | cons t l J=>
  cases l with
  | nil=>exact h t (by simp)
  | cons u l=>
   obtain⟨Z,h2⟩:=J (by simp) λt G=>h t (NW _ G)
   have G:=h t (by simp);simp only [T.dK,T.smp,NM];exact⟨⟨⟨G.2,h2⟩,G.1,Z⟩,rfl⟩
theorem FK (u:U)(h:u.smp=true):∀t∈aw u,t.smp=true:=
 tr (λt=>t.smp=true) (λp q h=>by simp only [T.smp,NM]at h;exact h.2) (λp q h=>by simpa only [T.smp,NM]using h) (λ _ _ h=>h) (λ _ _ _ h=>h) u h
theorem IU (u:U)(h:u.smp=true):∀t∈(aj u).2,t.smp=true:=
 yW (λt=>t.smp=true) (λp q h=>by simp only [T.smp,NM]at h;exact h.2) (λp q h=>by simpa only [T.smp,NM]using h) (λ _ _ h=>h) (λ _ _ _ h=>h) u h
theorem AE.dK {ρ:UInt8->Nat}{σ:Nat->Nat}:∀{l:List (U×P×U)},(∀z∈l,AE ρ z.2.1 σ z.2.2)->AE ρ (T.dK (l.map (·.2.1))) σ (T.dK (l.map (·.2.2)))
 | [],_=>trivial
 | [z],h=>h z (by simp)
 | z::y::l,h=>⟨h z (by simp),AE.dK (l:=y::l) λt G=>h t (NW _ G)⟩
theorem AE.parL {ρ:UInt8->Nat}{σ:Nat->Nat}:∀{l:List (U×P×U)},(∀z∈l,AE ρ z.2.1 σ z.2.2)->AE ρ (T.parL (l.map (·.2.1))) σ (T.parL (l.map (·.2.2)))
 | [],_=>trivial
 | [z],h=>h z (by simp)
 | z::y::l,h=>⟨h z (by simp),AE.parL (l:=y::l) λt G=>h t (NW _ G)⟩
theorem D0 {D:UInt8->Prop}:∀{l:List P},(∀t∈l,t.Al D)->(T.dK l).Al D
 | [],_=>trivial
 | [z],h=>h z (by simp)
 | z::y::l,h=>⟨h z (by simp),D0 (l:=y::l) λt G=>h t (NW _ G)⟩
theorem Dw {D:UInt8->Prop}:∀{l:List P},(∀t∈l,t.Al D)->(T.parL l).Al D
 | [],_=>trivial
 | [z],h=>h z (by simp)
 | z::y::l,h=>⟨h z (by simp),Dw (l:=y::l) λt G=>h t (NW _ G)⟩
theorem DG {D:UInt8->Prop}{p:P}(G:p.Al D):∀{l:List UInt8},(∀c∈l,D c)->(T.resL l p).Al D
 | [],_=>G
 | c::l,h=>⟨h c (by simp),DG G (l:=l) λt H=>h t (NW _ H)⟩
theorem fQ {w:U}(h:w.isS=true)(ρ:Rh)(tk:Tk):thU w ρ tk=joinS 43 (aQ ((aw w).map λu=>LS u ρ tk))/\tl [w]= .sum (tp (aw w)) .nil:=by
 cases w<;>first | (cases h;done) | exact⟨rfl,rfl⟩
theorem Dp {a b:Nat}(h:∀n,a<=n↔b<=n):a=b:=by
 have G:=(h a).1 (NP _);have H:=(h b).2 (NP _);omega
end
theorem zl.sub {k m:Nat}{Θ:Tx}{σ:Nat->Nat}{u v:U}(h:zl k Θ σ u)(H:k<=m)(J:∀y,v.Us y->u.Us y):zl m Θ σ v:=
 ⟨h.srt,λc G=>⟨(h.okn c G).1.mono H,(h.okn c G).2⟩,λy Z=>h.cov y (J y Z)⟩
theorem Compat.sub {ρ:Rh}{σ:Nat->Nat}{u v:U}(h:Compat ρ σ u)(G:∀y,v.Us y->u.Us y):Compat ρ σ v:=λy H=>h y (G y H)
theorem j4 {c:UInt8}(h:nm c=true):¬c=35:=(uy h).2.2.2.1
theorem bg {c:UInt8}(h:¬c=35)(l:Tx):(c::l).count 35=l.count 35:=by
 rw [List.count_cons];simp [h]
theorem TR.snd {on:Bool}{a b:Nat}{p:U}{σ:Nat->Nat}{Θ r:Tx}{x y:UInt8}(Z:nm x=true)(G:nm y=true)(ex:x.toNat=σ a)(ey:y.toNat=σ b)(h:WR on p σ Θ r):TR on (.snd a b p) σ Θ (x::33::y::46::r):=by
 refine⟨by simp,?_,λhm=>?_,λhm H hb=>?_,λhm H hb ρ J=>?_⟩
 ·have :=h.len;simp only [NI,T.aH];omega
 ·rw [fu]at hm;rw [bg (j4 Z),bg (by decide),bg (j4 G),bg (by decide),h.cnt hm,qW]
 ·rw [fu]at hm;rw [jk]at hb;obtain⟨c,h1,h2⟩:=h.bad hm H hb;exact⟨c,by simp [h1],h2⟩
 ·rw [fu]at hm;rw [jk]at hb;have e1:ρ a=x:=N4.1 ((J a (.inl rfl)).trans ex.symm);have e2:ρ b=y:=N4.1 ((J b (.inr (.inl rfl))).trans ey.symm);simp only [thU,kText,e1,e2];rw [h.eq hm H hb ρ (J.sub λy G=> .inr (.inr G))]
theorem TR.tau {on:Bool}{p:U}{σ:Nat->Nat}{Θ r:Tx}(h:WR on p σ Θ r):TR on (.tau p) σ Θ (126::46::r):=by
 refine⟨by simp,?_,λhm=>?_,λhm G hb=>?_,λhm G hb ρ H=>?_⟩
 ·have :=h.len;simp only [NI,T.aH];omega
 ·rw [fM]at hm;rw [bg (by decide),bg (by decide),h.cnt hm,qK]
 ·rw [fM]at hm;rw [jF]at hb;obtain⟨c,J,Z⟩:=h.bad hm G hb;exact⟨c,by simp [J],Z⟩
 ·rw [fM]at hm;rw [jF]at hb;simp only [thU,kText];rw [h.eq hm G hb ρ H]
theorem TR.rep {on:Bool}{p:U}{σ:Nat->Nat}{Θ r:Tx}(h:WR on p σ Θ r):TR on (.rep p) σ Θ (42::r):=by
 refine⟨by simp,?_,λhm=>?_,λhm G hb=>?_,λhm G hb ρ H=>?_⟩
 ·have :=h.len;simp only [NI,T.aH];omega
 ·rw [fy]at hm;rw [bg (by decide),h.cnt hm,qL]
 ·rw [fy]at hm;rw [jD]at hb;obtain⟨c,J,Z⟩:=h.bad hm G hb;exact⟨c,by simp [J],Z⟩
 ·rw [fy]at hm;rw [jD]at hb;simp only [thU,kText];rw [h.eq hm G hb ρ H]
theorem TR.mat {on:Bool}{a b:Nat}{p:U}{σ:Nat->Nat}{Θ r:Tx}{x y:UInt8}(G:a≠b)(hd:p.dead=false)(hx:nm x=true)(hy:nm y=true)(ex:x.toNat=σ a)(ey:y.toNat=σ b)(h:WR on p σ Θ r):
  TR on (.mat a b p) σ Θ (91::(if y< x then y else x)::61::(if y< x then x else y)::93::r):=by
 have H:¬(if y< x then y else x)=35:=by split<;>exact j4 (by assumption)
 have J:¬(if y< x then x else y)=35:=by split<;>exact j4 (by assumption)
 refine⟨by simp,?_,λhm=>?_,λhm Z hb=>?_,λhm Z hb ρ hc=>?_⟩
 ·have :=h.len;simp only [NI,T.aH];omega
 ·rw [dx]at hm;rw [bg (by decide),bg H,bg (by decide),bg J,bg (by decide),h.cnt hm,jr]
 ·rw [dx]at hm;rw [fL]at hb;obtain⟨c,h1,h2⟩:=h.bad hm Z hb;exact⟨c,by simp [h1],h2⟩
 ·rw [dx]at hm;rw [fL]at hb;have e1:ρ a=x:=N4.1 ((hc a (.inr ⟨G,hd,.inl rfl⟩)).trans ex.symm);have e2:ρ b=y:=N4.1 ((hc b (.inr ⟨G,hd,.inr (.inl rfl)⟩)).trans ey.symm);simp only [thU,kText,e1,e2];rw [h.eq hm Z hb ρ (hc.sub λy hy=> .inr ⟨G,hd,.inr (.inr hy)⟩)]
structure A6 (k:Nat)(Θ:Tx)(c:UInt8):Prop where
 nin:c∉Θ
 okn:okn (k+1) c
 ngr:ngr c
 nm:nm c=true
 bad:(wQ (cL Θ)).isNone=true->128<=c
 good:(wQ (cL Θ)).isNone=false->c=ja (cL Θ)
theorem Hv {c:UInt8}(h:lt c=true):nm c=true/\ngr c/\∀k,okn k c:=by
 refine⟨?_,?_,λk=>n7 h⟩
 ·simp only [lt,nm]at*;rw [h];rfl
 ·simp only [lt,NM,NX]at h;have J:=Ob.1 h.1;have Z:=Ob.1 h.2;have H:(97:UInt8).toNat=97:=rfl;have G:(122:UInt8).toNat=122:=rfl;right;omega
theorem A6.of {k:Nat}{Θ:Tx}{c:UInt8}(hk:k+1<=64)(ht:∀c∈Θ,Proofs.YthekamjhgabkjaaGreat.okn k c/\Proofs.YthekamjhgabkjaaGreat.ngr c)(h:vK Θ c):A6 k Θ c:=by
 rcases h with h | ⟨h,h1,h2,h3,h4⟩
 ·obtain⟨k1,k2,k3⟩:=BY h;obtain⟨f1,f2,f3⟩:=Hv k2;have Z:wQ (cL Θ)=some c:=h;exact⟨by simpa [cL]using k1,f3 _,f2,f1,λH=>(by rw [Z]at H;cases H),λ _=>(by simp [ja,Z])⟩
 ·have Z:wQ (cL Θ)=none:=h;have b1:=Ob.1 h1;have b2:=Ob.1 h2;have α:(128:UInt8).toNat=128:=rfl;have β:(191:UInt8).toNat=191:=rfl;have hle:c.toNat<=128+k:=by
   refine Pd λhc=>?_
   have e:(UInt8.ofNat (128+k)).toNat=128+k:=by rw [O3];omega
   have G:=h3 (UInt8.ofNat (128+k)) (Ob.2 (by omega)) (OF.2 (by omega));rcases(ht _ G).1 with h | h<;>omega
  have J:c∉Θ:=by
   rcases h4 with h4 | h4
   ·exact h4
   ·intro G;have:c.toNat=191:=by rw [h4];rfl
    rcases(ht _ G).1 with h | h<;>omega
  refine⟨J,.inl (by omega),.inr (by omega),?_,λ _=>h1,λH=>by rw [Z]at H;cases H⟩;simp only [Proofs.YthekamjhgabkjaaGreat.nm,Pb,NX];exact .inr h1
theorem vD {Θ G:Tx}{c:UInt8}(h:∀x,x∈G↔x=c\/x∈Θ):cL G=cV (cL Θ) c:=by
 funext d
 unfold cL cV;rw [OT];simp only [NX,Pb,Qe,h];exact or_comm
theorem TR.rcv {on:Bool}{k a n:Nat}{p:U}{σ:Nat->Nat}{Θ G r:Tx}{x c:UInt8}(hx:nm x=true)(ex:x.toNat=σ a)(Z:A6 k Θ c)(hT:∀x,x∈G↔x=c\/x∈Θ)(h:WR on p (aG σ n c.toNat) G r):
  TR on (.rcv a n p) σ Θ (x::63::c::46::r):=by
 refine⟨by simp,?_,λhm=>?_,λhm ho hb=>?_,λhm ho hb ρ H=>?_⟩
 ·have :=h.len;simp only [NI,T.aH];omega
 ·rw [fN]at hm;rw [bg (j4 hx),bg (by decide),bg (j4 Z.nm),bg (by decide),h.cnt hm,rb]
 ·rw [fN]at hm;rw [js,Pb]at hb;cases hn:(wQ (cL Θ)).isNone with
  | true=>exact⟨c,by simp,Z.bad hn⟩
  | false=>
   rw [hn]at hb;have hb:=hb.resolve_left (by simp);rw [<-Z.good hn,<-vD hT]at hb;obtain⟨c,h1,h2⟩:=h.bad hm ho hb;exact⟨c,by simp [h1],h2⟩
 ·rw [fN]at hm;rw [js,Pf]at hb;have e1:ρ a=x:=N4.1 ((H a (.inl rfl)).trans ex.symm);have e2:=Z.good hb.1;have J:=hb.2;rw [<-e2,<-vD hT]at J;simp only [thU,kText,e1,<-e2];rw [<-vD hT,<-h.eq hm ho J (aG ρ n c) λy hy=>?_];unfold aG;by_cases e:y=n
  ·simp [e]
  ·simp only [N2 e];exact H y (.inr ⟨e,hy⟩)
theorem oC (c:UInt8):∀l:List Tx,l≠[]->(joinS c l).length+3=di l
 | [],h=>absurd rfl h
 | [s],_=>by simp [joinS,di]
 | s::t::l,_=>by
  have :=oC c (t::l) (by simp);rw [fH (by simp),eA];simp only [NI,NL,NZ];omega
theorem lx {c:UInt8}(G:¬c=35):∀l:List Tx,(joinS c l).count 35=(l.map (List.count 35)).sum
 | []=>rfl
 | [s]=>by simp [joinS]
 | s::t::l=>by
  have :=lx G (t::l);rw [fH (by simp),bg (by decide),OB,bg G,OB,this];simp
theorem rm {c d:UInt8}{s:Tx}:∀{l:List Tx},s∈l->d∈s->d∈joinS c l
 | [],h,_=>by cases h
 | [t],h,hd=>by
  have:s=t:=by simpa using h
  subst this;exact hd
 | t::u::l,h,hd=>by
  rw [fH (by simp)];rcases Oa.1 h with rfl | h
  ·simp [hd]
  ·have :=rm (c:=c) h hd;simp [this]
theorem Bt {c:UInt8}{l:List Tx}(h:∀s∈l,s≠[])(G:l≠[]):joinS c l≠[]:=by
 match l,G with
 | [s],_=>exact h s (by simp)
 | s::t::l,_=>rw [fH (by simp)];simp
theorem WR.env {on:Bool}{u:U}{σ τ:Nat->Nat}{Θ r:Tx}(h:WR on u σ Θ r)(he:∀y,u.Us y->σ y=τ y):WR on u τ Θ r:=
 ⟨h.ne,h.len,h.cnt,h.bad,λa b c ρ H=>h.eq a b c ρ λy G=>(H y G).trans (he y G).symm⟩
theorem aK.di {on:Bool}{σ:Nat->Nat}{Θ:Tx}:∀{rs:List Tx} {us:List U},aK (λr u=>WR on u σ Θ r) rs us->Proofs.YthekamjhgabkjaaGreat.di rs<=jN us
 | [],[],_=>by simp [Proofs.YthekamjhgabkjaaGreat.di,jN]
 | [],_::_,h=>by have :=h.1;simp at this
 | _::_,[],h=>by have :=h.1;simp at this
 | r::rs,u::us,h=>by
  have H:=(h.2 0 r u rfl rfl).len;have G:=aK.di (rs:=rs) (us:=us) (on:=on) (σ:=σ) (Θ:=Θ) ⟨by have :=h.1;simpa using this,λi a b ha hb=>h.2 (i+1) a b (by simpa using ha) (by simpa using hb)⟩;rw [eA];simp only [jN,Oe,OU,NI]at G|-;omega
theorem aK.map_eq {A B C:Type}{f:A->C}{g:B->C}:∀{l:List A} {m:List B},aK (λa b=>f a=g b) l m->l.map f=m.map g
 | [],[],_=>rfl
 | [],_::_,h=>by have :=h.1;simp at this
 | _::_,[],h=>by have :=h.1;simp at this
 | a::l,b::m,h=>by
  have G:=h.2 0 a b rfl rfl;have H:=aK.map_eq (l:=l) (m:=m) (f:=f) (g:=g) ⟨by have :=h.1;simpa using this,λi a b ha hb=>h.2 (i+1) a b (by simpa using ha) (by simpa using hb)⟩;rw [Oe,Oe,H,G]
theorem aK.get {A B:Type}{R:A->B->Prop}{l:List A}{m:List B}(h:aK R l m){b:B}(hb:b∈m):∃a∈l,R a b:=by
 obtain⟨i,hi,e⟩:=OX.1 hb;have G:i< l.length:=by rw [h.1];exact hi
 exact⟨l[i],NO _,h.2 i l[i] b (NK G) (by rw [NK hi,e])⟩
theorem aK.get' {A B:Type}{R:A->B->Prop}{l:List A}{m:List B}(h:aK R l m){a:A}(ha:a∈l):∃b∈m,R a b:=by
 obtain⟨i,hi,e⟩:=OX.1 ha;have G:i< m.length:=by rw [<-h.1];exact hi
 exact⟨m[i],NO _,h.2 i a m[i] (by rw [NK hi,e]) (NK G)⟩
theorem TR.sum {on:Bool}{p q:U}{σ:Nat->Nat}{Θ:Tx}{rs:List Tx}(hu:Uq (.sum p q))(β:aw (T.sum p q)≠[])(h:aK (λr u=>WR on u σ Θ r) rs (aw (T.sum p q))):TR on (.sum p q) σ Θ (joinS 43 (aQ rs)):=by
 have J:tl [T.sum p q]= .sum (tp (aw (T.sum p q))) .nil:=rfl;have γ:rs≠[]:=λe=>β (On (by rw [<-h.1,e];rfl))
 have Z:=aM rs;have α:aQ rs≠[]:=λe=>γ (by rw [e]at Z;exact Z.symm.eq_nil)
 have G:ax (tl [T.sum p q])<=5->∀u∈aw (T.sum p q),a7 u<=5:=λhm=>by
  rw [J,ax]at hm;exact(zD _ _).1 (by omega)
 refine⟨Bt (λs hs=>?_) α,?_,λhm=>?_,λhm ho hb=>?_,λhm ho hb ρ hc=>?_⟩
 ·obtain⟨u,_,hw⟩:=h.get' (Z.subset hs);exact hw.ne
 ·have h1:=oC 43 _ α;have h2:=mE Z;have h3:=h.di;have h4:=eI (T.sum p q);omega
 ·rw [lx (by decide),jz (Z.map _),J,thAll,HF];show _=_+0;rw [P9]
  congr 1
  refine aK.map_eq (h.mono λr u _ hu hw=>hw.cnt (G hm u hu))
 ·rw [J,thBad,zQ]at hb;simp only [thBad,Qa,PX]at hb;obtain⟨u,H,δ⟩:=hb;obtain⟨r,hr,hw⟩:=h.get H;obtain⟨c,h1,h2⟩:=hw.bad (G hm u H) ho δ;exact⟨c,rm (Z.symm.subset hr) h1,h2⟩
 ·rw [J,thBad,zQ]at hb;simp only [thBad,Qa]at hb;have hb:∀u∈aw (T.sum p q),dF u (cL Θ)=false:=by simpa [List.any_eq_false]using hb
  have e:rs=(aw (T.sum p q)).map λu=>LS u ρ (cL Θ):=by
   have :=aK.map_eq (f:=λr:Tx=>r) (g:=λu=>LS u ρ (cL Θ)) (h.mono λr u _ H hw=>hw.eq (G hm u H) ho (hb u H) ρ (hc.sub λy hy=>(mD _ hu y).2 ⟨u,H,hy⟩));simpa using this
  rw [e];rfl
theorem WR.le {on:Bool}{u:U}{k:Nat}{p:P}{σ τ:Nat->Nat}{Θ r:Tx}(h:WR on u τ Θ r)(d:Den k p σ u):r.length<=p.text.length:=by
 have G:=h.len;have H:=pL d.ae;rw [T.aN];omega
structure vZ (w0 w:World)(bm:Nat)(br on:Bool)(c:UInt8)(o:Option Nat):Prop where
 kp:Kp w0 w (λg=>g=bm)
 mm:MK w bm br on
 bx:∀b,o=some b->b≠bm/\b< w.heap.size/\w.cell? ⟨b,0,none⟩=some (.int .u8 c.toNat)
theorem vZ.step {w0 w w':World}{bm:Nat}{br G on:Bool}{c:UInt8}{o:Option Nat}(h:vZ w0 w bm br on c o)(H:Kp w w' (λg=>g=bm))(hm:MK w' bm G on):vZ w0 w' bm G on c o:=
 ⟨Kp.trans h.kp H λ _ _ h=>h,hm,λb hb=>by
  obtain⟨J,Z,h3⟩:=h.bx b hb;refine⟨J,Od Z H.size,?_⟩;rw [NJ (w:=w) (H.block b Z J)];exact h3⟩
theorem vZ.ex {w0 w w':World}{bm:Nat}{br on:Bool}{c:UInt8}{o:Option Nat}(h:vZ w0 w bm br on c o)(G:Ex w w'):vZ w0 w' bm br on c o:=
 h.step (Kp.ab G _) (h.mm.ex G)
theorem vZ.box {w0 w w':World}{bm b:Nat}{br on:Bool}{c:UInt8}(h:vZ w0 w bm br on c none)(hb:b=w.heap.size)(hw:w'=w.alloc (.cells #[.int .u8 c.toNat] 5)):vZ w0 w' bm br on c (some b):=by
 have G:Ex w w':=hw▸Ex.alloc w _;have :=h.mm.lt;refine⟨(h.ex G).kp,(h.ex G).mm,λH e=>?_⟩;cases e;subst hb hw;exact⟨by omega,by rw [size_alloc];omega,aa rfl⟩
theorem vZ.conv {w0 w:World}{bm b:Nat}{br on:Bool}{c:UInt8}(h:vZ w0 w bm br on c (some b)):∀(j:Nat) (x:UInt8),[c][j]?=some x->w.cell? ⟨b,0+j,none⟩=some (.int .u8 x.toNat):=by
 intro j x G
 match j,G with
 | 0,G=>simp at G;subst G;exact(h.bx b rfl).2.2
theorem Own.kp {B:Nat}{w w':World}{v:Value}{l:List Tx}{S:Nat->Prop}(h:Own B w v l)(k:Kp w w' S)(H:∀g,v.ownBlock=some g->¬S g):Own B w' v l:=by
 refine⟨h.1,?_⟩;rcases h.2 with J | ⟨g,cap,cur,rfl,hb,G,rest⟩
 ·exact .inl J
 ·exact .inr ⟨g,cap,cur,rfl,hb,by rw [k.block g (Ov.1 G).1 (H g rfl)];exact G,rest⟩
theorem MK.same {w w':World}{bm:Nat}{br on:Bool}(h:MK w bm br on)(G:w.heap.size<=w'.heap.size)(hb:w'.heap[bm]?=w.heap[bm]?):MK w' bm br on:=
 ⟨Od h.lt G,by rw [NJ (w:=w) hb];exact h.c0,by rw [NJ (w:=w) hb];exact h.c1,by rw [Oh (w:=w) hb];exact h.f0⟩
theorem MK.below {w w':World}{bm B:Nat}{br on:Bool}(h:MK w bm br on)(k:Below B w w')(hb:bm< B):MK w' bm br on:=h.same k.size (k.block bm hb)
theorem Own.below {B C:Nat}{w w':World}{v:Value}{l:List Tx}(h:Own B w v l)(k:Below C w w')(G:∀g,v.ownBlock=some g->g< C):Own B w' v l:=by
 refine⟨h.1,?_⟩;rcases h.2 with H | ⟨g,cap,cur,rfl,hb,J,rest⟩
 ·exact .inl H
 ·exact .inr ⟨g,cap,cur,rfl,hb,by rw [k.block g (G g rfl)];exact J,rest⟩
theorem Kp.Md {w w':World}{B:Nat}(h:Below B w w')(hB:w.heap.size<=B)(S:Nat->Prop):Kp w w' S:=⟨h.os,h.tape,h.output,h.size,λg G _=>h.block g (by omega)⟩
theorem Kp.Gp {w w1 w':World}{B:Nat}{S:Nat->Prop}(h:Kp w w1 S)(k:Below B w1 w')(hB:w.heap.size<=B):Kp w w' S:=
 ⟨k.os.trans h.os,k.tape.trans h.tape,k.output.trans h.output,OJ h.size k.size,λg G H=>(k.block g (by omega)).trans (h.block g G H)⟩
theorem aK.snoc {A B:Type}{R:A->B->Prop}{l:List A}{m:List B}{a:A}{b:B}(h:aK R l m)(k:R a b):aK R (l++[a]) (m++[b]):=h.append (aK.one k)
theorem Hd {n:Nat}(ζ:Hq n):y4 (n+1):=by
 intro k p σ t Θ w bm br on R hn d hth hpl hlv η G γ h;refine kO _ _ _ w R ?_;dsimp only [go_sem];dsimp only [go_sem,Nat.reduceAdd];refine aO d.ok ?_;have hw:=d.wf;have hl:=d.len;have ε:=d.ae;cases p<;>cases t<;>(try exact ε.elim)<;>(try (cases hth;done))
 case snd.snd a b p a' b' u=>
  simp only [T.kind]
  repeat' first | refine aU (by decide) ?_ | refine db (by decide) ?_ | refine cz (by decide) ?_ | refine eg (by decide) ?_
  simp only [T.wf,NM]at hw;simp only [T.size]at hn;simp only [T.text,NI]at hl;have ξ:(T.snd a b p).text.length=p.text.length+4:=by simp [T.text]
  refine⟨λ _=>True,λw1 δ=>⟨trivial,cW d.ok ⟨trivial,⟨by simp only [T.hd];omega,by simp only [T.hd];omega⟩,cW d.ok ⟨trivial,⟨by simp only [T.hd];omega,by simp only [T.hd];omega⟩,?_⟩⟩⟩⟩;have e1:List.drop (Int.toNat ((T.snd a b p).hd:Int)) (T.snd a b p).text=p.text:=rfl;have e2:List.take (Int.toNat ((T.snd a b p).hd:Int)) (T.snd a b p).text=[a,33,b,46]:=rfl;rw [e1,e2];have hx:Ex w w1:=δ▸Ex.drew w;refine ζ (by omega) d.snd (d.snd.lb d.bd.le) (λz hz=>η z (.inr (.inr hz))) (G.sub (NP _) λy hy=> .inr (.inr hy)) (γ.ex hx) λr Z α β hr=>?_
  have ο:=hr.le d.snd;refine⟨trivial,by simp only [NI,NZ];omega,h _ Z (Kp.trans (Kp.ab hx _) α λ _ _ h=>h) (by rw [fu];exact β) (TR.snd hw.1.1 hw.1.2 ε.1 ε.2.1 hr)⟩
 case tau.tau p u=>
  simp only [T.kind]
  repeat' first | refine aU (by decide) ?_ | refine db (by decide) ?_ | refine cz (by decide) ?_ | refine eg (by decide) ?_
  simp only [T.size]at hn;simp only [T.text,NI]at hl;have ξ:(T.tau p).text.length=p.text.length+2:=by simp [T.text]
  refine⟨λ _=>True,λw1 δ=>⟨trivial,cW d.ok ⟨trivial,⟨by simp only [T.hd];omega,by simp only [T.hd];omega⟩,cW d.ok ⟨trivial,⟨by simp only [T.hd];omega,by simp only [T.hd];omega⟩,?_⟩⟩⟩⟩;have e1:List.drop (Int.toNat ((T.tau p).hd:Int)) (T.tau p).text=p.text:=rfl;have e2:List.take (Int.toNat ((T.tau p).hd:Int)) (T.tau p).text=[126,46]:=rfl;rw [e1,e2];have hx:Ex w w1:=δ▸Ex.drew w;refine ζ (by omega) d.tau (d.tau.lb d.bd.le) (λz hz=>η z hz) (G.sub (NP _) λy hy=>hy) (γ.ex hx) λr Z α β hr=>?_
  have ο:=hr.le d.tau;refine⟨trivial,by simp only [NI,NZ];omega,h _ Z (Kp.trans (Kp.ab hx _) α λ _ _ h=>h) (by rw [fM];exact β) (TR.tau hr)⟩
 case rep.rep p u=>
  simp only [T.kind]
  repeat' first | refine aU (by decide) ?_ | refine db (by decide) ?_ | refine cz (by decide) ?_ | refine eg (by decide) ?_
  simp only [T.size]at hn;simp only [T.text,NI]at hl;have ξ:(T.rep p).text.length=p.text.length+1:=by simp [T.text]
  refine⟨⟨by omega,by omega⟩,?_⟩;have e1:List.drop (Int.toNat 1) (T.rep p).text=p.text:=rfl;rw [e1];refine ζ (by omega) d.rep (d.rep.lb d.bd.le) (λz hz=>η z hz) (G.sub (NP _) λy hy=>hy) γ λr Z α β hr=>?_
  have ο:=hr.le d.rep;refine⟨by simp only [NI,NZ];omega,h _ Z α (by rw [fy];exact β) (TR.rep hr)⟩
 case mat.mat a b p a' b' u=>
  simp only [T.kind]
  repeat' first | refine aU (by decide) ?_ | refine db (by decide) ?_ | refine cz (by decide) ?_ | refine eg (by decide) ?_
  simp only [T.wf,NM]at hw;simp only [T.size]at hn;simp only [T.text,NI]at hl;have ξ:(T.mat a b p).text.length=p.text.length+5:=by simp [T.text]
  have hab:a'≠b':=hpl;have hud:u.dead=false:=hlv;have hpd:p.dead=false:=by rw [ε.2.2.dead];exact hud
  have e1:List.drop (Int.toNat 5) (T.mat a b p).text=p.text:=rfl;have e2:List.drop (Int.toNat 3) (List.take (Int.toNat 4) (T.mat a b p).text)=[b]:=rfl;have e3:List.drop (Int.toNat 1) (List.take (Int.toNat 2) (T.mat a b p).text)=[a]:=rfl;have eb:Op.bytesLess [b] [a]=decide (b< a):=by
   rw [Q4,OT,NX,NX,List.cons_lt_cons_iff];simp
  rw [e1,e2,e3,eb];refine⟨λ _=>True,λw1 δ=>⟨trivial,⟨by omega,by omega,by omega⟩,⟨by omega,by omega,by omega⟩,?_⟩⟩;have hx:Ex w w1:=δ▸Ex.drew w;have sub:∀y,u.Us y->(T.mat a' b' u).Us y:=λy hy=> .inr ⟨hab,hud,.inr (.inr hy)⟩
  have dm:=d.mat hpd;have key:∀{K:aB->Re},(∀r Z,r.length<=1099511627776->Kp w Z (λg=>g=bm)->MK Z bm (br||decide (5< ax (tl [T.mat a' b' u]))) on->TR on (.mat a' b' u) σ Θ (91::(if b< a then b else a)::61::(if b< a then a else b)::93::r)->K r Z)->
    Rf 203 #[.pointer (some ⟨bm,0,none⟩),.string (ak p.text),.string (ak Θ)] w1 (an [.s] K):=λhk=>by
   refine ζ (by omega) dm (dm.lb d.bd.le) (λz hz=>η z (.inr (.inr hz))) (G.sub (NP _) sub) (γ.ex hx) λr Z α β hr=>?_
   have ο:=hr.le dm;exact hk r Z (by omega) (Kp.trans (Kp.ab hx _) α λ _ _ h=>h) (by rw [dx];exact β) (TR.mat hab hud hw.1.1 hw.1.2 ε.1 ε.2.1 hr)
  refine⟨λH=>?_,λH=>?_⟩
  ·have H:=N8 H;refine⟨by simp,by simp,by simp,by simp,⟨by omega,by omega⟩,key λr Z J h2 h3 h4=>⟨by simp only [NL,NI,NZ];omega,?_⟩⟩;simp only [Om H]at h4;exact h _ Z h2 h3 h4
  ·have H:=N9 H;refine⟨by simp,by simp,by simp,by simp,⟨by omega,by omega⟩,key λr Z J h2 h3 h4=>⟨by simp only [NL,NI,NZ];omega,?_⟩⟩;simp only [N2 H]at h4;exact h _ Z h2 h3 h4
 case sum.sum p q u v=>
  simp only [T.kind]
  repeat' first | refine aU (by decide) ?_ | refine db (by decide) ?_ | refine cz (by decide) ?_ | refine eg (by decide) ?_
  have hpu:u.dead=false/\v.dead=false:=hpl;have ς:aw (T.sum u v)≠[]:=pY (by simp [T.dead,hpu.1]) d.uq;refine zT _ (NP _) d λvs Z ps υ ι hps hgs=>?_
  have hsz:(aw (T.sum u v)).length<=(T.sum p q).size:=by rw [d.ae.size];exact dA _
  have hszt:=bw (T.sum p q);have hl':(T.sum p q).text.length<=1099511627776:=hl;have ω:(ps.map T.text).length=(aw (T.sum u v)).length:=by rw [NY,hps.1]
  have hbm:bm< Z.heap.size:=Od γ.lt υ.size;have hvb:∀g,vs.ownBlock=some g->g< Z.heap.size:=λg hg=>(ι.block g hg).2
  have hvn:∀g,vs.ownBlock=some g->¬g=bm:=λg hg e=>by
   have :=(ι.block g hg).1;have :=γ.lt;omega
  obtain⟨av,cap,hv⟩:=ι.strs.slice;have hlen:=ι.1;refine⟨av,_,cap,hv,λlist x w'=>∃(i:Nat) (rs:List Tx),x=i/\i<=(aw (T.sum u v)).length/\Kp w w' (λg=>g=bm)/\MK w' bm (br||((aw (T.sum u v)).take i).any λu=>decide (5< a7 u)) on/\
   Z.heap.size<=w'.heap.size/\Own Z.heap.size w' list rs/\Own w.heap.size w' vs (ps.map T.text)/\aK (λr u=>WR on u σ Θ r) rs ((aw (T.sum u v)).take i),λ _ x _=>((aw (T.sum u v)).length - x).toNat,?_,λlist x w3 hI=>?_⟩
  ·exact⟨0,[],rfl,by omega,Kp.ab υ _,by simpa using γ.ex υ,NP _,Own.nil _ _,ι,aK.nil⟩
  obtain⟨i,rs,rfl,hi,hk3,hm3,hs3,ho3,hv3,θ⟩:=hI;refine⟨λH=>?_,λH=>?_⟩
  ·have H:=N8 H;rw [ω]at H;have φ:i< (aw (T.sum u v)).length:=by omega
   have hip:i< ps.length:=by rw [hps.1];exact φ
   refine hv3.strs.get (Ex.refl w3) (i:=i) (x:=(ps[i]).text) (by omega) (by simp [hip]) ?_;obtain⟨m,τ,hkm,dp,hτ,hlo⟩:=hps.2 i _ _ (NK hip) (NK φ);have hmem:(aw (T.sum u v))[i]∈aw (T.sum u v):=NO _;have hus:∀y,((aw (T.sum u v))[i]).Us y->(T.sum u v).Us y:=λy hy=>(mD _ d.uq y).2 ⟨_,hmem,hy⟩
   have hτu:∀y,((aw (T.sum u v))[i]).Us y->τ y=σ y:=λy hy=>hτ y (d.uq.DN (hus y hy))
   have hszi:ps[i].size<=n:=by
    rw [dp.ae.size];have J:((aw (T.sum u v))[i]).size<=u.size+v.size:=by
     have hmem':(aw (T.sum u v))[i]∈aw u++aw v:=hmem;rcases NU.1 hmem' with h | h
     ·have :=mz u _ h;omega
     ·have :=mz v _ h;omega
    have h2:(T.sum p q).size=(T.sum u v).size:=d.ae.size;simp only [T.size]at hn h2;omega
   have hgfp:GF 0 ps[i]:=hgs _ (NO _) 0 η;refine ζ hszi dp (dp.lb (by have :=d.bd.le;simp only [T.pm]at this;simp only [T.rd,T.ow]at hlo;omega)) hgfp ⟨G.srt,λc H=>⟨(G.okn c H).1.mono hkm,(G.okn c H).2⟩,λy hy=>by rw [hτu y hy];exact G.cov y (hus y hy)⟩ hm3 λr w4 χ hm4 hr=>?_
   intro b5 w5 hb5 hw5;have κ:Ex w4 w5:=hw5▸Ex.alloc w4 _;have ho4:Own Z.heap.size w5 list rs:=(ho3.kp χ λg hg e=>by have :=(ho3.block g hg).1;omega).ex κ;have hsz4:=χ.size;have hsz5:=κ.size;have hrsl:rs.length=i:=by rw [θ.1,Ow];omega
   refine Own.push ho4 (by omega) (Strs.one hb5 hw5) (by simp only [NI,NZ];omega) λv6 w6 ψ ho6 _ _=>?_
   refine⟨by omega,⟨i+1,rs++[r],by omega,by omega,?_,?_,?_,ho6,?_,?_⟩,by dsimp only;omega⟩
   ·exact Kp.Gp (Kp.trans (Kp.trans hk3 χ λ _ _ h=>h) (Kp.ab κ _) λ _ _ h=>h) ψ υ.size
   ·have hm5:=(hm4.ex κ).below ψ hbm;rw [NR φ,List.any_append,<-Ps];simpa using hm5
   ·have :=ψ.size;omega
   ·exact((hv3.kp χ hvn).ex κ).below ψ hvb
   ·rw [NR φ];exact θ.snoc (hr.env hτu)
  ·have H:=N9 H;rw [ω]at H;have e:i=(aw (T.sum u v)).length:=by omega
   subst e;rw [Oi]at hm3 θ;have hll:=θ.di;have ht2:=eI (T.sum u v);have htl:=pL d.ae;have hle:di rs<=1099511627776+3:=by rw [T.aN]at hl';omega
   have hrsl:rs.length=(aw (T.sum u v)).length:=θ.1;have hrs:rs≠[]:=λe=>ς (On (by rw [<-hrsl,e];rfl))
   refine nL ho3.strs (by omega) λv4 w4 hx4 ho4=>?_
   have hsn:aQ rs≠[]:=λe=>hrs (by have :=aM rs;rw [e]at this;exact this.symm.eq_nil)
   refine pG ho4.strs hsn (by rw [mE (aM rs)];omega) ?_;refine h _ w4 (Kp.trans hk3 (Kp.ab hx4 _) λ _ _ h=>h) ?_ (TR.sum d.uq ς θ);have e2:(aw (T.sum u v)).any (λu=>decide (5< a7 u))=decide (5< ax (tl [T.sum u v])):=by
    rw [OT,PX,NX];have etl:tl [T.sum u v]= .sum (tp (aw (T.sum u v))) .nil:=rfl;have hmx:ax (.sum (tp (aw (T.sum u v))) .nil)=ax (tp (aw (T.sum u v))):=by simp [ax]
    rw [etl,hmx,<-Nat.not_le,zD];constructor
    ·rintro⟨x,J,h2⟩ h3
     have :=h3 x J;have :=N8 h2;omega
    ·intro J;refine Pd λh2=>J λx hx=>?_
     rcases Pu 5 (a7 x)with h3 | h3
     ·exact absurd ⟨x,hx,Px h3⟩ h2
     ·exact h3
   rw [<-e2];exact hm3.ex hx4
 case rcv.rcv a x p a' x' u=>
  simp only [T.kind]
  repeat' first | refine aU (by decide) ?_ | refine db (by decide) ?_ | refine cz (by decide) ?_ | refine eg (by decide) ?_
  simp only [T.wf,NM]at hw;simp only [T.size]at hn;simp only [T.text,NI]at hl;have ξ:(T.rcv a x p).text.length=p.text.length+4:=by simp [T.text]
  have hΘ:=G.srt.bound;refine jw (by omega) λc hc0=>?_
  have hbd:=d.bd.le;simp only [T.pm]at hbd;have H:A6 k Θ c:=A6.of (by omega) G.okn hc0;have okp:=d.ok.parts p (by simp [T.parts]);have hbdp:=T.vz p;have e1:List.drop (Int.toNat 4) (T.rcv a x p).text=p.text:=rfl;have e2:bt (T.rcv a x p).text (Int.toNat 2)=x:=rfl;have e3:List.take (Int.toNat 2) (T.rcv a x p).text=[a,63]:=rfl;rw [e1,e2,e3];refine⟨λ _=>True,λw1 δ=>⟨trivial,⟨by omega,by omega⟩,⟨by omega,by omega⟩,⟨by omega,by omega⟩,?_⟩⟩;have hst:vZ w w1 bm br on c none:=⟨Kp.ab (δ▸Ex.drew w) _,γ.ex (δ▸Ex.drew w),λb hb=>by cases hb⟩
  have renL:∀{o:Option Nat} {wx:World} {K:aB->Re},vZ w wx bm br on c o->(∀q wy,vZ w wy bm br on c o->dj (k+1) p x c q->K q.text wy)->Rf 112 #[.string (ak p.text),.int .u8 x.toNat,.int .u8 c.toNat] wx (an [.s] K):=λhs hK=>
   dw _ (NP _) okp d.bd.eb.2.2 (by omega) H.nm H.okn λq wy hx hq=>hK q wy (hs.ex hx) hq
  have addL:∀{o:Option Nat} {wx:World} {K:aB->Re},vZ w wx bm br on c o->(∀s wy,vZ w wy bm br on c o->(lF s/\∀x,x∈s↔x=c\/x∈Θ)->K s wy)->Rf 145 #[.string (ak Θ),.int .u8 c.toNat] wx (an [.s] K):=λhs hK=>
   gL G.srt λs' wy hx J h2=>hK s' wy (hs.ex hx) ⟨J,h2⟩
  have whoL:∀{o:Option Nat} {wx:World} {K:aB->Re} {q:P} {s:Tx},vZ w wx bm br on c o->dj (k+1) p x c q->(lF s/\∀x,x∈s↔x=c\/x∈Θ)->
    (∀r wy,vZ w wy bm (br||decide (5< ax (tl [T.rcv a' x' u]))) on c o->(TR on (.rcv a' x' u) σ Θ (a::63::c::46::r)/\r.length<=1099511627776)->K r wy)->Rf 203 #[.pointer (some ⟨bm,0,none⟩),.string (ak q.text),.string (ak s)] wx (an [.s] K):=λ{o wx K q s} hs hq μ hK=>by
   have dr:=d.rcv hq λz hz ς e=>by
    obtain⟨c',J,h2⟩:=G.cov z (.inr ⟨ς,hz⟩);have:c'=c:=N4.1 (h2.trans e);exact H.nin (this▸J)
   have hsz:=T.qi hq.shp;refine ζ (by omega) dr (dr.lb (by rw [T.Li hq.shp,T.H5 hq.shp];omega)) (λz hz hg=>?_) ⟨μ.1,λc' hc'=>?_,λy hy=>?_⟩ hs.mm λr wy α β hr=>?_
   ·rcases hq.ok.free z hz with J | J | J
    ·exact absurd hg (dV (J▸H.ngr))
    ·exact η z (.inr ⟨J.1,J.2⟩) hg
    ·exact absurd hg (dV (J.1▸d.bd.eb.2.1.1))
   ·rcases(μ.2 c').1 hc' with J | J
    ·rw [J];exact⟨H.okn,H.ngr⟩
    ·exact⟨(G.okn c' J).1.mono (by omega),(G.okn c' J).2⟩
   ·by_cases e:y=x'
    ·subst e;exact⟨c,(μ.2 c).2 (.inl rfl),by rw [cC]⟩
    ·obtain⟨c',J,h2⟩:=G.cov y (.inr ⟨e,hy⟩);exact⟨c',(μ.2 c').2 (.inr J),by rw [bC _ _ e];exact h2⟩
   ·have ο:=hr.le dr;have hlq:q.text.length=p.text.length:=by rw [T.aN,T.gn hq.shp,<-T.aN]
    refine hK r wy (hs.step α (by rw [fN];exact β)) ⟨TR.rcv hw.1.1 ε.1 H μ.2 hr,by omega⟩
  have fin:∀{o:Option Nat} {wx:World} {r:Tx},vZ w wx bm (br||decide (5< ax (tl [T.rcv a' x' u]))) on c o->(TR on (.rcv a' x' u) σ Θ (a::63::c::46::r)/\r.length<=1099511627776)->R (((([a,63]++[c])++[46])++r)) wx:=λhs hr=>h _ _ hs.kp hs.mm hr.1
  have bnd:∀{r:Tx},(TR on (.rcv a' x' u) σ Θ (a::63::c::46::r)/\r.length<=1099511627776)->List.length (([a,63]++[c])++[46])+List.length r<=4611686018427387904:=λhr=>by
   have :=hr.2;simp only [NL,NI,NZ];omega
  repeat' first
   | (refine renL (by assumption) ?_;intro q wy ν hq;refine⟨trivial,?_⟩)
   | (refine addL (by assumption) ?_;intro s wy ν hs;refine⟨trivial,?_⟩)
   | (refine whoL (by assumption) (by assumption) (by assumption) ?_;intro r wy ν hr;refine⟨trivial,?_⟩)
   | exact fin (by assumption) (by assumption)
   | exact bnd (by assumption)
   | (refine⟨_,0,1,1,[c],rfl,rfl,vZ.conv (by assumption),trivial,by simp,by simp,?_⟩)
   | (refine⟨?_,?_⟩)
   | (intro b Z hb hw2;have ν:=vZ.box (by assumption) hb hw2;refine⟨trivial,?_⟩)
theorem j9 {α β:Type}{g:α->β}:∀{l:List α} {m:List β},m.Perm (l.map g)->∃π:List α,π.Perm l/\m=π.map g
 | [],m,h=>⟨[],OW _,by simpa using h⟩
 | a::l,m,h=>by
  have hm:g a∈m:=h.symm.subset (by simp);obtain⟨s,t,rfl⟩:=List.append_of_mem hm;have G:(s++t).Perm (l.map g):=(Q3 (g a)).1 (Qs.symm.trans (by simpa using h));obtain⟨π,H,h4⟩:=j9 G;obtain⟨x,y,rfl,h5,J⟩:=List.append_eq_map_iff.1 h4;refine⟨x++a::y,Qs.trans (List.Perm.cons a H),?_⟩;simp [h5,J]
def rnv:List UInt8->List UInt8->Nat->Nat
 | o::os,l::ls,n=>rnv os ls (if n=o.toNat then l.toNat else n)
 | _,_,n=>n
theorem AO:∀(os ls:List UInt8) (o l:UInt8) (n:Nat),os.length=ls.length->rnv (os++[o]) (ls++[l]) n=if rnv os ls n=o.toNat then l.toNat else rnv os ls n
 | [],[],o,l,n,_=>rfl
 | [],_::_,_,_,_,h=>by cases h
 | _::_,[],_,_,_,h=>by cases h
 | a::os,b::ls,o,l,n,h=>by
  simp only [OP,rnv];exact AO os ls o l _ (by simpa using h)
theorem zu:∀(os ls:List UInt8) (n:Nat),(∀o∈os,n≠o.toNat)->rnv os ls n=n
 | [],_,_,_=>by simp [rnv]
 | _::_,[],_,_=>by simp [rnv]
 | a::os,b::ls,n,h=>by
  rw [rnv,N2 (h a (by simp))];exact zu os ls n λo G=>h o (NW _ G)
theorem DZ:∀(π:List Nat) (os ls:List UInt8) (g:Nat->Nat) (ρ:Rh) (y:Nat),os.map UInt8.toNat=π.map g->π.length=ls.length->(∀l∈ls,l∉os)->y∈π->(∀z∈π,g z=g y->z=y)->os.Nodup->
  rnv os ls (g y)=(asg π ls ρ y).toNat
 | [],_,_,_,_,_,_,_,_,h,_,_=>by cases h
 | z::π,[],_,_,_,_,h,_,_,_,_,_=>by simp at h
 | _::_,_::_,[],_,_,_,_,h,_,_,_,_=>by cases h
 | z::π,o::os,l::ls,g,ρ,y,h,hl,hd,hy,hi,G=>by
  simp only [Oe,Oz]at h;have G:=OO.1 G;have H:∀J∈os,l.toNat≠J.toNat:=λJ ho e=>hd l (by simp) (by rw [N4.1 e];exact NW _ ho)
  rw [rnv,asg];by_cases e:y=z
  ·subst e;rw [Om h.1.symm,zu os ls _ H];by_cases hyp:y∈π
   ·exfalso;have:g y∈π.map g:=Po hyp;rw [<-h.2,<-h.1]at this;obtain⟨J,h1,h2⟩:=Ou.1 this;exact G.1 (N4.1 h2▸h1)
   ·rw [bz π ls _ y hyp];simp [aG]
  ·have hyp:y∈π:=(Oa.1 hy).resolve_left e;have Z:¬g y=o.toNat:=λh'=>e ((hi z (by simp) (h.1.symm.trans h'.symm)).symm)
   rw [N2 Z];exact DZ π os ls g _ y h.2 (by simpa using hl) (λl' α β=>hd l' (NW _ α) (NW _ β)) hyp (λx hx=>hi x (NW _ hx)) G.2
structure FC (k m:Nat)(Θ ls A:Tx):Prop where
 len:ls.length=m
 nd:ls.Nodup
 ok:∀c∈ls,c∉Θ/\okn (k+m) c/\ngr c/\nm c=true
 srt:lF A
 mem:∀c,c∈A↔c∈Θ\/c∈ls
theorem TR.env {on:Bool}{u:U}{σ τ:Nat->Nat}{Θ r:Tx}(h:TR on u σ Θ r)(he:∀y,u.Us y->σ y=τ y):TR on u τ Θ r:=
 ⟨h.ne,h.len,h.cnt,h.bad,λa b c ρ H=>h.eq a b c ρ λy G=>(H y G).trans (he y G).symm⟩
theorem TR.le {on:Bool}{u:U}{k:Nat}{p:P}{σ τ:Nat->Nat}{Θ r:Tx}(h:TR on u τ Θ r)(d:Den k p σ u):r.length<=p.text.length:=by
 have G:=h.len;have H:=pL d.ae;rw [T.aN];omega
structure MJ (M:Nat)(p:P)(t:U)(τ:Nat->Nat)(Θ o ls:Tx)(i:Nat)(q:P):Prop where
 den:Den M q (λy=>rnv (o.take i) (ls.take i) (τ y)) t
 shp:q.shp=p.shp
 gf:∀z,q.Fr z->Kj z->z∈o.drop i
 cov:∀y,t.Us y->∃c:UInt8,c.toNat=rnv (o.take i) (ls.take i) (τ y)/\(c∈Θ\/c∈ls.take i\/c∈o.drop i)
theorem tq {l:Tx}{i:Nat}(h:i< l.length):l.drop i=bt l i::l.drop (i+1):=bF h
theorem iK {l:Tx}{i:Nat}(h:i< l.length):l.take (i+1)=l.take i++[bt l i]:=by
 rw [NR h];simp [bt,h]
theorem MJ.step {M k m:Nat}{p q q':P}{t:U}{τ:Nat->Nat}{Θ o ls A:Tx}{i:Nat}(h:MJ M p t τ Θ o ls i q)(κ:∀c∈Θ,ngr c)(δ:FC k m Θ ls A)(ho:o.length=m)(ε:∀c∈o,Kj c)(hi:i< m)
  (hr:dj M q (bt o i) (bt ls i) q'):MJ M p t τ Θ o ls (i+1) q':=by
 have γ:i< o.length:=by omega
 have β:i< ls.length:=by rw [δ.len];exact hi
 have hlen:(o.take i).length=(ls.take i).length:=by rw [Ow,Ow];omega
 have e:∀y,rnv (o.take (i+1)) (ls.take (i+1)) (τ y)=if rnv (o.take i) (ls.take i) (τ y)=(bt o i).toNat then(bt ls i).toNat else rnv (o.take i) (ls.take i) (τ y):=λy=>by
  rw [iK γ,iK β,AO _ _ _ _ _ hlen]
 have H:=δ.ok _ (qO β);have θ:bt ls i∉ls.take i:=λhm=>by
  have ζ:=δ.nd;rw [<-O7 i ls,tq β]at ζ;exact(Ot.1 ζ).2.2 _ hm _ (by simp) rfl
 have ι:bt ls i∉o.drop i:=λhm=>dV H.2.2.1 (ε _ (List.mem_of_mem_drop hm))
 have J:∀y,t.Us y->rnv (o.take i) (ls.take i) (τ y)≠(bt ls i).toNat:=λy hy he=>by
  obtain⟨c,Z,G⟩:=h.cov y hy;have hc:c=bt ls i:=N4.1 (Z.trans he);rcases G with G | G | G
  ·exact H.1 (hc▸G)
  ·exact θ (hc▸G)
  ·exact ι (hc▸G)
 refine⟨⟨hr.wf,?_,⟨hr.eb,?_⟩,?_,?_,h.den.uq⟩,hr.shp.trans h.shp,λz hz hg=>?_,λy hy=>?_⟩
 ·have :=h.den.len;rw [T.aN,T.gn hr.shp,<-T.aN];exact this
 ·rw [T.uJ hr.shp];exact h.den.bd.le
 ·have hh:=h.den.ae.renamed hr.ok (λx _ e=>N4.1 e);have e':(λy=>rnv (o.take (i+1)) (ls.take (i+1)) (τ y))=λy=>if rnv (o.take i) (ls.take i) (τ y)=(bt o i).toNat then(bt ls i).toNat else rnv (o.take i) (ls.take i) (τ y):=funext e
  rw [e'];exact hh
 ·intro y z hy hz α;simp only [e]at α;have η:=h.den.inj y z hy hz;split at α<;>split at α
  ·rename_i Z G;exact η (Z.trans G.symm)
  ·exact absurd α.symm (J z hz)
  ·exact absurd α (J y hy)
  ·exact η α
 ·rcases hr.ok.free z hz with Z | Z | Z
  ·exact absurd hg (dV (Z▸H.2.2.1))
  ·have :=h.gf z Z.2 hg;rw [tq γ]at this;exact(Oa.1 this).resolve_left Z.1
  ·have hh:=ε _ (qO γ);rw [Z.2.2]at hh;exact absurd hh (dV H.2.2.1)
 ·obtain⟨c,Z,G⟩:=h.cov y hy;rw [e];by_cases hc:rnv (o.take i) (ls.take i) (τ y)=(bt o i).toNat
  ·rw [Om hc];exact⟨bt ls i,rfl,.inr (.inl (by rw [iK β];simp))⟩
  ·rw [N2 hc];refine⟨c,Z,?_⟩;rcases G with G | G | G
   ·exact .inl G
   ·exact .inr (.inl (by rw [iK β];simp [G]))
   ·rw [tq γ]at G;rcases Oa.1 G with h3 | h3
    ·exact absurd (Z.symm.trans (by rw [h3])) hc
    ·exact .inr (.inr h3)
theorem aK.FV {on:Bool}{σ:Nat->Nat}{Θ:Tx}:∀{rs:List Tx} {us:List U},aK (λr u=>TR on u σ Θ r) rs us->Proofs.YthekamjhgabkjaaGreat.di rs<=jN us
 | [],[],_=>by simp [Proofs.YthekamjhgabkjaaGreat.di,jN]
 | [],_::_,h=>by have :=h.1;simp at this
 | _::_,[],h=>by have :=h.1;simp at this
 | r::rs,u::us,h=>by
  have H:=(h.2 0 r u rfl rfl).len;have G:=aK.FV (rs:=rs) (us:=us) (on:=on) (σ:=σ) (Θ:=Θ) ⟨by have :=h.1;simpa using this,λi a b ha hb=>h.2 (i+1) a b (by simpa using ha) (by simpa using hb)⟩;rw [eA];simp only [jN,Oe,OU,NI]at G|-;omega
def yQ (on:Bool)(σ:Nat->Nat)(u:U)(o ls A r:Tx):Prop:=
 ∃rs:List Tx,r=joinS 38 (aQ rs)/\aK (λr t=>TR on t (λy=>rnv o ls (asgN (aj u).1 0 σ y)) A r) rs (aj u).2
theorem IY {n:Nat}(iht:y4 n){k:Nat}{σ:Nat->Nat}{u:U}{Θ A o ls:Tx}{ps:List P}{on br:Bool}{bm B:Nat}{vt:Value}{w:World}{R:aB->Re}
  (hu:Uq u) (hne:(aj u).2≠[]) (hb:∀p∈ps,k+(aj u).1.length+p.rd+p.ow<=64) (hsz:∀p∈ps,p.size<=n) (δ:zl k Θ σ u) (υ:aK (Is k σ u 0) ps (aj u).2) (G:FC k (aj u).1.length Θ ls A) (ho:o.Perm (iA (aj u).1.length))
  (hm64:(aj u).1.length<=64) (ε:Own B w vt (ps.map T.text)) (hB:bm< B) (φ:MK w bm br on) (htl:jN (aj u).2<=1099511627776+3)
  (h:∀r w',Kp w w' (λg=>g=bm)->MK w' bm (br||(aj u).2.any λt=>decide (5< ax (tl [t]))) on->yQ on σ u o ls A r->R r w'):
  Rf 243 #[.pointer (some ⟨bm,0,none⟩),vt,.string (ak o),.string (ak ls),.string (ak A)] w (an [.s] R):=by
 refine lX _ vt o ls A w R ?_;dsimp only [go_sem];dsimp only [go_sem,Nat.reduceAdd];have χ:o.length=(aj u).1.length:=by rw [ho.length_eq,iI]
 have hog:∀c∈o,Kj c:=λc hc=>by
  obtain⟨j,h1,rfl⟩:=iM.1 (ho.subset hc);exact zn (by omega)
 have hlen:=υ.1;have hbm:=φ.lt;have hlu:3* (aj u).2.length<=jN (aj u).2:=by unfold jN;omega
 obtain⟨av,cap,hv⟩:=ε.strs.slice;rw [NY]at hv;refine⟨av,_,cap,hv,λlist x w'=>∃(i:Nat) (rs:List Tx),x=i/\i<=(aj u).2.length/\Kp w w' (λg=>g=bm)/\MK w' bm (br||((aj u).2.take i).any λt=>decide (5< ax (tl [t]))) on/\
   Own w.heap.size w' list rs/\Own B w' vt (ps.map T.text)/\aK (λr t=>TR on t (λy=>rnv o ls (asgN (aj u).1 0 σ y)) A r) rs ((aj u).2.take i),λ _ x _=>((aj u).2.length - x).toNat,?_,λlist x w3 hI=>?_⟩
 ·exact⟨0,[],rfl,by omega,Kp.ab (Ex.refl w) _,by simpa using φ,Own.nil _ _,ε,aK.nil⟩
 obtain⟨i,rs,rfl,hi,κ,μ,ν,ψ,α⟩:=hI;have hs3:=κ.size;refine⟨λhc=>?_,λhc=>?_⟩
 ·have hc:=N8 hc;have ω:i< ps.length:=by omega
  have ξ:i< (aj u).2.length:=by omega
  refine ψ.strs.get (Ex.refl w3) (i:=i) (x:=(ps[i]).text) (by omega) (by simp [ω]) ?_;obtain⟨m0,τ,hkm,dp,hτ,hgf⟩:=υ.2 i _ _ (NK ω) (NK ξ);have Z:(aj u).2[i]∈(aj u).2:=NO _;have ο:ps[i]∈ps:=NO _;have hbp:=hb _ ο;have hszp:=hsz _ ο;generalize hM:max m0 (k+(aj u).1.length)=M;have hM1:m0<=M:=by omega
  have hM2:k+(aj u).1.length<=M:=by omega
  have hle:=dp.bd.le;have ο:=T.gd ps[i];have dM:Den M ps[i] τ (aj u).2[i]:=⟨dp.wf,dp.len,⟨dp.bd.eb.mono hM1,by omega⟩,dp.ae,dp.inj,dp.uq⟩
  have hus:=kW u hu _ Z;refine⟨λs j w'=>Ex w3 w'/\∃(j':Nat) (q:P),j=j'/\j'<=o.length/\s=q.text/\MJ M ps[i] (aj u).2[i] τ Θ o ls j' q,λ _ j _=>(o.length - j).toNat,⟨Ex.refl w3,0,ps[i],rfl,by omega,rfl,?_⟩,λs j w4 hJ=>?_⟩
  ·refine⟨by simpa [rnv]using dM,rfl,λz hz hg=>?_,λy hy=>?_⟩
   ·obtain⟨j,h1,h2⟩:=hgf z hz hg;rw [Pz];exact ho.symm.subset (iM.2 ⟨j,by omega,h2⟩)
   ·simp only [List.take_zero,rnv,Pz];rw [hτ y hy];by_cases β:y∈(aj u).1
    ·obtain⟨j,hj,e⟩:=OX.1 β;refine⟨gl j,?_,.inr (.inr (ho.symm.subset (iM.2 ⟨j,hj,rfl⟩)))⟩;rw [<-e,ky _ _ _ _ hj (gZ u hu),Og]
    ·rw [jB _ _ _ _ β];obtain⟨c,h1,h2⟩:=δ.cov y ((hus y hy).resolve_right β);exact⟨c,h2,.inl h1⟩
  obtain⟨H,j',q,rfl,hj,rfl,hq⟩:=hJ;refine⟨λγ=>?_,λγ=>?_⟩
  ·have γ:=N8 γ;have hj':j'< o.length:=by omega
   refine⟨λ _=>True,λw5 hw5=>⟨trivial,⟨by omega,by omega⟩,⟨by omega,by rw [G.len];omega⟩,?_⟩⟩;have hx5:Ex w4 w5:=hw5▸Ex.drew w4;have hlq:=G.ok _ (qO (s:=ls) (i:=j') (by rw [G.len];omega));have hbd:=T.uT q;have hqle:=hq.den.bd.le;rw [NT];refine dw _ (NP _) hq.den.ok hq.den.bd.eb (by omega) hlq.2.2.2 (hlq.2.1.mono hM2) λq' w6 J hq'=>⟨trivial,by omega,⟨(H.trans hx5).trans J,j'+1,q',by omega,by omega,rfl,?_⟩,by dsimp only;omega⟩
   exact hq.step (λc hc=>(δ.okn c hc).2) G χ hog (by omega) hq'
  ·have γ:=N9 γ;have ej:j'=o.length:=by omega
   subst ej;have η:=hq.den;have e1:o.take o.length=o:=Oi;have e2:ls.take o.length=ls:=by rw [χ,<-G.len];exact Oi
   have θ:=hq.cov;simp only [e1,e2]at η θ;have hm4:=μ.ex H;have hszq:=T.qi hq.shp;refine iht (by omega) η (zy u _ Z) (vf u _ Z).1 (vf u _ Z).2 (λz hz hg=>?_) ⟨G.srt,λc hc=>?_,λy hy=>?_⟩ hm4 λr w5 ζ hm5 hr=>?_
   ·have :=hq.gf z hz hg;rw [Py]at this;cases this
   ·rcases(G.mem c).1 hc with h1 | h1
    ·exact⟨(δ.okn c h1).1.mono (by omega),(δ.okn c h1).2⟩
    ·have :=G.ok c h1;exact⟨this.2.1.mono hM2,this.2.2.1⟩
   ·obtain⟨c,h1,h2⟩:=θ y hy;refine⟨c,(G.mem c).2 ?_,h1⟩;rcases h2 with h2 | h2 | h2
    ·exact .inl h2
    ·exact .inr h2
    ·rw [Py]at h2;cases h2
   ·intro b6 w6 hb6 hw6;have J:Ex w5 w6:=hw6▸Ex.alloc w5 _;have hbl:∀g,list.ownBlock=some g->¬g=bm:=λg hg e=>by have :=(ν.block g hg).1;omega
    have ho5:Own w.heap.size w6 list rs:=((ν.ex H).kp ζ hbl).ex J;have z4:=H.size;have z5:=ζ.size;have z6:=J.size;have ι:rs.length=i:=by rw [α.1,Ow];omega
    refine Own.push ho5 (by omega) (Strs.one hb6 hw6) (by simp only [NI,NZ];omega) λv7 w7 ς ho7 hg7 _=>?_
    refine⟨by omega,⟨i+1,rs++[r],by omega,by omega,?_,?_,ho7,?_,?_⟩,by dsimp only;omega⟩
    ·exact Kp.Gp (Kp.trans (Kp.trans (Kp.trans κ (Kp.ab H _) λ _ _ h=>h) ζ λ _ _ h=>h) (Kp.ab J _) λ _ _ h=>h) ς (NP _)
    ·have hm6:=(hm5.ex J).below ς hbm;rw [NR ξ,List.any_append,<-Ps];simpa using hm6
    ·have hvn:∀g,vt.ownBlock=some g->¬g=bm:=λg hg e=>by have :=(ε.block g hg).1;omega
     exact(((ψ.ex H).kp ζ hvn).ex J).below ς λg hg=>(ε.block g hg).2
    ·rw [NR ξ];refine α.snoc (hr.env λy hy=>?_);show rnv o ls (τ y)=_;rw [hτ y hy]
 ·have hc:=N9 hc;have e:i=(aj u).2.length:=by omega
  subst e;rw [Oi]at μ α;have ι:rs.length=(aj u).2.length:=α.1;have hrs:rs≠[]:=λe=>hne (On (by rw [<-ι,e];rfl))
  refine nL ν.strs (by omega) λv4 w4 H ho4=>?_
  have hsn:aQ rs≠[]:=λe=>hrs (by have :=aM rs;rw [e]at this;exact this.symm.eq_nil)
  have hll:di rs<=jN (aj u).2:=α.FV;refine pG ho4.strs hsn (by rw [mE (aM rs)];omega) ?_;exact h _ w4 (Kp.trans κ (Kp.ab H _) λ _ _ h=>h) (μ.ex H) ⟨rs,rfl,α⟩
section
open Classical
structure JD (u:U)(ρ:Rh)(tk:Tk):Prop where
 ok:∀y,u.Us y->tk (ρ y)=true/\lt (ρ y)=true
 inj:∀y z,u.Us y->u.Us z->ρ y=ρ z->y=z
theorem JD.sub {u v:U}{ρ:Rh}{tk:Tk}(h:JD u ρ tk)(G:∀y,v.Us y->u.Us y):JD v ρ tk:=
 ⟨λy H=>h.ok y (G y H),λy z H J=>h.inj y z (G y H) (G z J)⟩
def Js (u:U)(ρ:Rh)(tk:Tk)(t:P)(v:U):Prop:=
 t.text=LS u ρ tk/\AE UInt8.toNat t (λy=>(ρ y).toNat) v/\t.Al (λc=>lt c=true)/\Ns u v
def HI (u:U)(ρ:Rh)(tk:Tk)(t:P)(v:U):Prop:=
 t.text=thU u ρ tk/\AE UInt8.toNat t (λy=>(ρ y).toNat) v/\t.Al (λc=>lt c=true)/\M9 u v
theorem MS {n:Nat}(ih:∀(u:U) (ρ:Rh) (tk:Tk),u.size<=n->Uq u->JD u ρ tk->dF u tk=false->∃t v,Js u ρ tk t v){t:U}{ρ:Rh}{tk:Tk}(hn:t.size<=n+1)(hu:Uq t)(ξ:JO t=true)
  (υ:t.dI) (hl:t.dead=false) (hm:JD t ρ tk) (hb:thBad (tl [t]) tk=false):∃q w,HI t ρ tk q w:=by
 cases t with
 | nil=>cases ξ
 | par=>cases ξ
 | res=>cases ξ
 | snd a b p=>
  simp only [T.size]at hn;rw [jk]at hb;obtain⟨q,v,G,h2,H,h4⟩:=ih p ρ tk (by omega) hu.snd (hm.sub λy hy=> .inr (.inr hy)) hb;have ε:∀x,(T.snd a b v).Us x↔(T.snd a b p).Us x:=λx=>or_congr_right (or_congr_right (h4.us x))
  refine⟨.snd (ρ a) (ρ b) q,.snd a b v,?_,⟨rfl,rfl,h2⟩,⟨(hm.ok a (.inl rfl)).2,(hm.ok b (.inr (.inl rfl))).2,H⟩,?_⟩
  ·simp only [T.text,thU,kText,G]
  ·exact⟨rfl,h4.nr,rI (t:=T.snd a b p) h4.uq.nd h4.nr h4.bv (λx=>(ε x).1) hu,h4.bv,ε,λρ tk=>by simp only [thU,h4.ls],λtk=>by rw [jk,jk,h4.bad],by rw [qW,qW,h4.all],by rw [fu,fu,h4.most],h4.smp,rfl⟩
 | tau p=>
  simp only [T.size]at hn;rw [jF]at hb;obtain⟨q,v,G,h2,H,h4⟩:=ih p ρ tk (by omega) hu.tau (hm.sub λy hy=>hy) hb;refine⟨.tau q,.tau v,?_,h2,H,?_⟩
  ·simp only [T.text,thU,kText,G]
  ·exact⟨rfl,h4.nr,rI (t:=T.tau p) h4.uq.nd h4.nr h4.bv (λx=>(h4.us x).1) hu,h4.bv,h4.us,λρ tk=>by simp only [thU,h4.ls],λtk=>by rw [jF,jF,h4.bad],by rw [qK,qK,h4.all],by rw [fM,fM,h4.most],h4.smp,rfl⟩
 | rep p=>
  simp only [T.size]at hn;rw [jD]at hb;obtain⟨q,v,G,h2,H,h4⟩:=ih p ρ tk (by omega) hu.rep (hm.sub λy hy=>hy) hb;have hd:v.dead=false:=by rw [h4.dead];exact hl
  have nr:(T.rep v).Nr:=⟨hd,h4.nr⟩
  refine⟨.rep q,.rep v,?_,h2,H,?_⟩
  ·simp only [T.text,thU,kText,G]
  ·refine⟨rfl,nr,rI (t:=T.rep p) h4.uq.nd nr h4.bv (λx=>(h4.us x).1) hu,h4.bv,h4.us,λρ tk=>by simp only [thU,h4.ls],λtk=>by rw [jD,jD,h4.bad],by rw [qL,qL,h4.all],by rw [fy,fy,h4.most],λhs=>?_,rfl⟩;simp only [T.smp,NM]at hs|-;refine⟨?_,h4.smp hs.2⟩;have:aj p=([],[p]):=by
    have hr:=hs.1;cases p<;>first | rfl | cases hr
   rw [T.zB,h4.tg p this,<-T.zB];exact hs.1
 | mat a b p=>
  simp only [T.size]at hn;have ζ:a≠b:=υ;have hd:p.dead=false:=hl;rw [fL]at hb;obtain⟨q,v,G,h2,H,h4⟩:=ih p ρ tk (by omega) hu.mat (hm.sub λy hy=> .inr ⟨ζ,hd,.inr (.inr hy)⟩) hb;have ι:v.dead=false:=by rw [h4.dead];exact hd
  have ha:=(hm.ok a (.inr ⟨ζ,hd,.inl rfl⟩)).2;have φ:=(hm.ok b (.inr ⟨ζ,hd,.inr (.inl rfl)⟩)).2;have us:∀x,(T.mat a b v).Us x↔(T.mat a b p).Us x:=λx=>by simp only [T.Us,ζ,hd,ι,h4.us]
  have χ:∀x,(T.mat b a v).Us x↔(T.mat a b p).Us x:=λx=>by
   simp only [T.Us,ζ,ζ.symm,hd,ι,h4.us,false_and,Rc,ne_eq,QJ,Pq];rw [<-QU,<-QU,or_comm (a:=x=b)]
  by_cases ψ:ρ b< ρ a
  ·have nr:(T.mat b a v).Nr:=⟨⟨ζ.symm,ι⟩,h4.nr⟩
   refine⟨.mat (ρ b) (ρ a) q,.mat b a v,?_,⟨rfl,rfl,h2⟩,⟨φ,ha,H⟩,?_⟩
   ·simp only [T.text,thU,kText,G,Om ψ]
   ·exact⟨rfl,nr,rI (t:=T.mat a b p) h4.uq.nd nr h4.bv (λx=>(χ x).1) hu,h4.bv,χ,λρ tk=>by simp only [thU,h4.ls];exact Cq _ _ _,λtk=>by rw [fL,fL,h4.bad],by rw [jr,jr,h4.all],by rw [dx,dx,h4.most],h4.smp,rfl⟩
  ·have nr:(T.mat a b v).Nr:=⟨⟨ζ,ι⟩,h4.nr⟩
   refine⟨.mat (ρ a) (ρ b) q,.mat a b v,?_,⟨rfl,rfl,h2⟩,⟨ha,φ,H⟩,?_⟩
   ·simp only [T.text,thU,kText,G,N2 ψ]
   ·exact⟨rfl,nr,rI (t:=T.mat a b p) h4.uq.nd nr h4.bv (λx=>(us x).1) hu,h4.bv,us,λρ tk=>by simp only [thU,h4.ls],λtk=>by rw [fL,fL,h4.bad],by rw [jr,jr,h4.all],by rw [dx,dx,h4.most],h4.smp,rfl⟩
 | rcv a x p=>
  simp only [T.size]at hn;rw [js,Pf]at hb;obtain⟨f1,f2⟩:=GB hb.1;have hm':JD p (aG ρ x (ja tk)) (cV tk (ja tk)):=by
   refine⟨λy hy=>?_,λy z hy J e=>?_⟩
   ·by_cases e:y=x
    ·subst e;simp [aG,cV,f2]
    ·obtain⟨k1,k2⟩:=hm.ok y (.inr ⟨e,hy⟩);simp [aG,e,cV,k1,k2]
   ·by_cases g1:y=x<;>by_cases g2:z=x
    ·rw [g1,g2]
    ·simp only [aG,Om g1,N2 g2]at e;have :=(hm.ok z (.inr ⟨g2,J⟩)).1;rw [<-e,f1]at this;cases this
    ·simp only [aG,N2 g1,Om g2]at e;have :=(hm.ok y (.inr ⟨g1,hy⟩)).1;rw [e,f1]at this;cases this
    ·simp only [aG,N2 g1,N2 g2]at e;exact hm.inj y z (.inr ⟨g1,hy⟩) (.inr ⟨g2,J⟩) e
  obtain⟨q,v,G,h2,H,h4⟩:=ih p _ _ (by omega) hu.rcv hm' hb.2;have ε:∀y,(T.rcv a x v).Us y↔(T.rcv a x p).Us y:=λy=>or_congr_right (and_congr_right λ _=>h4.us y)
  have nr:(T.rcv a x v).Nr:=h4.nr;have ο:(BV (T.rcv a x v)).Nodup:=OO.2 ⟨λhx=>hu.dY (h4.bv x hx),h4.uq.nd⟩;have θ:∀y∈BV (T.rcv a x v),y∈BV (T.rcv a x p):=λy hy=>by
   rcases Oa.1 hy with rfl | hy
   ·exact Oo ..
   ·exact NW _ (h4.bv y hy)
  refine⟨.rcv (ρ a) (ja tk) q,.rcv a x v,?_,⟨rfl,λn=>AE.Ko (λz J e=>?_) h2 n⟩,⟨(hm.ok a (.inl rfl)).2,f2,H⟩,?_⟩
  ·simp only [T.text,thU,kText,G]
  ·intro hc;have :=(hm.ok z (.inr ⟨e,(h4.us z).1 (h4.nr.iP J)⟩)).1;rw [hc,f1]at this;cases this
  ·exact⟨rfl,nr,rI ο nr θ (λx=>(ε x).1) hu,θ,ε,λρ tk=>by simp only [thU,h4.ls],λtk=>by rw [js,js,h4.bad],by rw [rb,rb,h4.all],by rw [fN,fN,h4.most],h4.smp,rfl⟩
 | sum p q=>
  simp only [T.size]at hn;obtain⟨hd1,hd2⟩:p.dead=false/\q.dead=false:=υ;have eS:aw (T.sum p q)=aw p++aw q:=rfl;have ω:∀u∈aw (T.sum p q),u.size<=n:=λu δ=>by
   rw [eS]at δ;rcases NU.1 δ with h | h
   ·have :=mz p u h;omega
   ·have :=mz q u h;omega
  have hbad:∀u∈aw (T.sum p q),dF u tk=false:=by
   rw [(fQ (w:=T.sum p q) rfl ρ tk).2]at hb;simp only [thBad,Qa,zQ]at hb;simpa [List.any_eq_false]using hb
  obtain⟨zs,z1,z2⟩:=triples (R:=λu=>Js u ρ tk) (l:=aw (T.sum p q)) λu δ=>
   ih u ρ tk (ω u δ) (zG hu u δ) (hm.sub λy hy=>(mD _ hu y).2 ⟨u,δ,hy⟩) (hbad u δ)
  obtain⟨Z,y1,y2⟩:=wW zs λz=>z.2.1.text
  have γ:(Z.map (·.1)).Perm (aw (T.sum p q)):=z1▸y1.map _;have J:∀z∈Z,Js z.1 ρ tk z.2.1 z.2.2:=λz J=>z2 z (y1.subset J)
  have α:∀z∈Z,z.1∈aw (T.sum p q):=λz J=>γ.subset (Po J)
  have hlen:2<=Z.length:=by
   have l1:(aw p).length≠0:=λe=>pY hd1 hu.eJ (On e)
   have l2:(aw q).length≠0:=λe=>pY hd2 hu.en (On e)
   have :=γ.length_eq;rw [NY,eS,NL]at this;omega
  have κ:Z≠[]:=λe=>by rw [e]at hlen;simp at hlen
  have η:(T.dK (Z.map (·.2.2))).isS=true/\(T.dK (Z.map (·.2.2))).th=true/\(T.dK (Z.map (·.2.2))).tg=4:=by
   match Z,hlen with
   | a::b::l,_=>exact⟨rfl,rfl,rfl⟩
   | [a],h=>simp at h
   | [],h=>simp at h
  have hvs:∀v∈Z.map (·.2.2),v.dead=false/\v.isS=false/\v.Nr:=λv hv=>by
   obtain⟨z,G,rfl⟩:=Ou.1 hv;have ha:=(J z G).2.2.2;refine⟨?_,ha.isS (EZ _ hu z.1 (α z G)),ha.nr⟩;rw [ha.dead];cases hd:z.1.dead with
   | false=>rfl
   | true=>
    have hcp:∀u:U,∀t∈aw u,t.dead=false:=Fg;exact absurd (hcp _ _ (α z G)) (by rw [hd];simp)
  have μ:=(T.DO (l:=Z.map (·.2.2)) (by simpa using κ) hvs)
  have θ:∀x∈BV (T.dK (Z.map (·.2.2))),x∈BV (T.sum p q):=λx hx=>by
   rw [zt]at hx;obtain⟨v,G,h2⟩:=OC.1 hx;obtain⟨z,H,rfl⟩:=Ou.1 G;exact Bl _ z.1 (α z H) x ((J z H).2.2.2.bv x h2)
  have ε:∀x,(T.dK (Z.map (·.2.2))).Us x↔(T.sum p q).Us x:=λx=>by
   rw [T.Dv,mD _ hu];constructor
   ·rintro⟨v,G,h2⟩
    obtain⟨z,H,rfl⟩:=Ou.1 G;exact⟨z.1,α z H,((J z H).2.2.2.us x).1 h2⟩
   ·rintro⟨u,G,h2⟩
    obtain⟨z,H,rfl⟩:=Ou.1 (γ.symm.subset G);exact⟨_,Po H,((J z H).2.2.2.us x).2 h2⟩
  have ο:(BV (T.dK (Z.map (·.2.2)))).Nodup:=by
   rw [zt,QP];refine rD (f:=λz=>BV z.1) ?_ λz h=>⟨(J z h).2.2.2.uq.nd,(J z h).2.2.2.bv⟩
   have hp:=(γ.flatMap_right BV)
   rw [QP]at hp;exact hp.nodup_iff.2 (Hg _ hu)
  have huq:=rI ο μ.1 θ (λx=>(ε x).1) hu;have ν:aw (T.dK (Z.map (·.2.2)))=Z.map (·.2.2):=by
   rw [eK huq μ.1 μ.2,T.AZ (by simpa using κ) λt ht=>(hvs t ht).2.1]
  have ς:∀{β:Type} (g:U->β),(∀z∈Z,g z.2.2=g z.1)->((Z.map (·.2.2)).map g).Perm ((aw (T.sum p q)).map g):=λg hg=>by
   have e:(Z.map (·.2.2)).map g=(Z.map (·.1)).map g:=by
    rw [Pa,Pa];exact O9 hg
   rw [e];exact γ.map g
  refine⟨T.dK (Z.map (·.2.1)),T.dK (Z.map (·.2.2)),?_,AE.dK λz h=>(J z h).2.1,D0 λt ht=>?_,?_⟩
  ·rw [T.xA (by simpa using κ),Pa,(fQ (w:=T.sum p q) rfl ρ tk).1];have e:Z.map (T.text∘λz=>z.2.1)=aQ (zs.map λz=>z.2.1.text):=y2;rw [e]
   congr 2
   rw [<-z1,Pa];exact O9 λz h=>(z2 z h).1
  ·obtain⟨z,G,rfl⟩:=Ou.1 ht;exact(J z G).2.2.1
  ·refine⟨η.2.1,μ.1,huq,θ,ε,λρ tk=>?_,λtk=>?_,?_,?_,λhs=>?_,η.2.2⟩
   ·rw [(fQ η.1 ρ tk).1,(fQ (w:=T.sum p q) rfl ρ tk).1,ν]
    congr 1
    exact lI (ς _ λz h=>(J z h).2.2.2.ls ρ tk)
   ·rw [(fQ η.1 ρ tk).2,(fQ (w:=T.sum p q) rfl ρ tk).2,ν];simp only [thBad,Qa,zQ];have G:=Bn (f:=λb:Bool=>b) (ς (λu=>dF u tk) λz h=>(J z h).2.2.2.bad tk);simpa [List.any_map,Function.comp_def]using G
   ·rw [(fQ η.1 ρ tk).2,(fQ (w:=T.sum p q) rfl ρ tk).2,ν];simp only [thAll,P9,HF];exact jz (ς cQ λz h=>(J z h).2.2.2.all)
   ·rw [(fQ η.1 ρ tk).2,(fQ (w:=T.sum p q) rfl ρ tk).2,ν];refine Dp λk=>?_
    simp only [ax,Nat.max_zero,zD];constructor
    ·intro h u δ;obtain⟨z,H,rfl⟩:=Ou.1 (γ.symm.subset δ);rw [<-(J z H).2.2.2.most];exact h _ (Po H)
    ·intro h v hv;obtain⟨z,H,rfl⟩:=Ou.1 hv;rw [(J z H).2.2.2.most];exact h _ (α z H)
   ·have hg:=zo (T.sum p q) rfl hs;refine(FW (by simpa using κ) λt ht=>?_).1;obtain⟨z,G,rfl⟩:=Ou.1 ht;have ha:=(J z G).2.2.2;have hgz:=hg z.1 (α z G);refine⟨ha.smp (FK _ hs z.1 (α z G)),?_⟩;rw [T.A0,ha.tg z.1 hgz.2,NX];rcases hgz.1 with h | h | h<;>omega
theorem ql {u:U}(hu:Uq u)(hd:u.dead=true):(∀ρ tk,LS u ρ tk=[48])/\(∀tk,dF u tk=false)/\cQ u=0/\a7 u=0:=by
 have G:=mQ hd;have H:(td u).1=[]:=by
  have :=(gD u hu).2.1;rw [dq u hu hd]at this;exact this.eq_nil
 refine⟨λρ tk=>?_,λtk=>?_,?_,?_⟩
 ·simp [LS,aS,G,thS]
 ·simp [dF,fY,G,Lv.isNil]
 ·simp [cQ,G,H,thAll]
 ·simp [a7,G,H,ax]
theorem arr:∀(n:Nat) (u:U) (ρ:Rh) (tk:Tk),u.size<=n->Uq u->JD u ρ tk->dF u tk=false->∃t v,Js u ρ tk t v:=by
 intro n
 induction n with
 | zero=>intro u ρ tk h;cases u<;>simp [T.size]at h
 | succ n ih=>
  intro u ρ tk hn hu hm hb;cases hd:u.dead with
  | true=>
   obtain⟨d1,d2,d3,d4⟩:=ql hu hd;have ψ:Uq .nil:=⟨Pe,λx h=>by cases h⟩
   obtain⟨e1,e2,e3,e4⟩:=ql ψ rfl;refine⟨.nil,.nil,by rw [d1];rfl,trivial,trivial,trivial,ψ,λx h=>(by cases h),λx=>⟨λh=>h.elim,λh=>absurd h (T.bE hd)⟩,λρ tk=>by rw [d1,e1],λtk=>by rw [d2,e2],by rw [d3,e3],by rw [d4,e4],hd.symm,λ _=>rfl,λt ht=>?_,λ _=>rfl⟩;rw [dq u hu hd]at ht;cases ht
  | false=>
   have ω:=zY hd hu;obtain⟨g1,g2,_⟩:=gD u hu;have hlen:(td u).1.length=(aj u).1.length:=g2.length_eq;have hnil:(td u).2.isNil=false:=by rw [dU,hd]
   simp only [dF,fY,hnil,Bool.not_false,Pn,Pf,hlen]at hb;obtain⟨hb1,ε⟩:=hb;rw [g1,vI]at ε;have ε:∀t∈(aj u).2,thBad (tl [t]) (addK (lets (aj u).1.length tk) tk)=false:=by simpa [List.any_eq_false]using ε
   obtain⟨l1,l2⟩:=xC _ tk hb1;have hls:=gi (aj u).1.length tk;generalize hl:lets (aj u).1.length tk=ls at*;have hLS:LS u ρ tk=wrap ls (bJ ((perms (aj u).1).map λπ=>joinS 38 (aQ ((aj u).2.map λt=>thU t (asg π ls ρ) (addK ls tk))))):=by
    rw [y6 hu];unfold aS;rw [N2 (by simpa using ω)];show wrap (lets _ tk) (bJ (List.map (λπ=>joinS 38 (aQ ((aj u).2.map λt=>thU t (asg π (lets _ tk) ρ) (addK (lets _ tk) tk)))) _))=_;rw [hl]
   obtain⟨hmem,_⟩:=cI (l:=(perms (aj u).1).map λπ=>joinS 38 (aQ ((aj u).2.map λt=>thU t (asg π ls ρ) (addK ls tk)))) (by simpa using pW _);obtain⟨π,G,ν⟩:=Ou.1 hmem;have G:=(cY _ π).1 G;have γ:π.length=ls.length:=by rw [G.length_eq,hls]
   have ξ:=Ih u hu;have θ:π.Nodup:=G.nodup_iff.2 (Ot.1 ξ).1;have hmt:∀t∈(aj u).2,JD t (asg π ls ρ) (addK ls tk):=by
    intro t ht;have ο:∀y,t.Us y->y∈π\/(y∉π/\u.Us y):=λy hy=>by
     by_cases hp:y∈π
     ·exact .inl hp
     ·exact .inr ⟨hp,(kW u hu t ht y hy).resolve_right λh=>hp (G.symm.subset h)⟩
    refine⟨λy hy=>?_,λy z hy J e=>?_⟩
    ·rw [xU];rcases ο y hy with h | ⟨h,h'⟩
     ·have :=dD π ls ρ y h γ;exact⟨by simp [this],(l2 _ this).2⟩
     ·rw [bz π ls ρ y h];exact⟨by simp [(hm.ok y h').1],(hm.ok y h').2⟩
    ·rcases ο y hy with h | ⟨h,h'⟩<;>rcases ο z J with k | ⟨k,k'⟩
     ·exact tw π ls ρ y z h k γ l1 e
     ·rw [bz π ls ρ z k]at e;have :=(l2 _ (dD π ls ρ y h γ)).1;rw [e,(hm.ok z k').1]at this;cases this
     ·rw [bz π ls ρ y h]at e;have :=(l2 _ (dD π ls ρ z k γ)).1;rw [<-e,(hm.ok y h').1]at this;cases this
     ·rw [bz π ls ρ y h,bz π ls ρ z k]at e;exact hm.inj y z h' k' e
   obtain⟨zs,z1,z2⟩:=triples (R:=λu=>HI u (asg π ls ρ) (addK ls tk)) (l:=(aj u).2) λt ht=>
    MS ih (by have :=Cx u t ht;omega) (FL hu t ht) (zy u t ht) (vf u t ht).1 (vf u t ht).2 (hmt t ht) (ε t ht)
   obtain⟨Z,y1,y2⟩:=wW zs λz=>z.2.1.text
   have H:(Z.map (·.1)).Perm (aj u).2:=z1▸y1.map _;have J:∀z∈Z,HI z.1 (asg π ls ρ) (addK ls tk) z.2.1 z.2.2:=λz J=>z2 z (y1.subset J)
   have α:∀z∈Z,z.1∈(aj u).2:=λz J=>H.subset (Po J)
   have δ:Z≠[]:=λe=>ω (by have :=H;rw [e]at this;exact this.symm.eq_nil)
   have ζ:∀w∈Z.map (·.2.2),w.th=true/\w.Nr:=λw hw=>by
    obtain⟨z,h1,rfl⟩:=Ou.1 hw;exact⟨(J z h1).2.2.2.th,(J z h1).2.2.2.nr⟩
   have ι:∀x,(T.parL (Z.map (·.2.2))).Us x↔∃t∈(aj u).2,t.Us x:=λx=>by
    rw [T.sY];constructor
    ·rintro⟨v,h1,h2⟩
     obtain⟨z,h3,rfl⟩:=Ou.1 h1;exact⟨z.1,α z h3,((J z h3).2.2.2.us x).1 h2⟩
    ·rintro⟨u',h1,h2⟩
     obtain⟨z,h3,rfl⟩:=Ou.1 (H.symm.subset h1);exact⟨_,Po h3,((J z h3).2.2.2.us x).2 h2⟩
   have κ:=T.DE ζ;have ς:(T.resL π (T.parL (Z.map (·.2.2)))).Nr:=T.DH κ.1 θ λx hx=>(ι x).2 (AY u hu x (G.subset hx))
   have υ:∀x,(T.resL π (T.parL (Z.map (·.2.2)))).Us x↔u.Us x:=λx=>by
    rw [T.jV,ι];constructor
    ·rintro⟨h1,t,h2,h3⟩
     exact(kW u hu t h2 x h3).resolve_right λh=>h1 (G.symm.subset h)
    ·intro h;exact⟨λhx=>hu.nf x (iT u x (G.subset hx)) (T.a8 h),GA u x h⟩
   have hbv:∀x∈BV (T.resL π (T.parL (Z.map (·.2.2)))),x∈BV u:=λx hx=>by
    rw [cN,cO]at hx;rcases NU.1 hx with hx | hx
    ·exact iT u x (G.subset hx)
    ·obtain⟨v,h1,h2⟩:=OC.1 hx;obtain⟨z,h3,rfl⟩:=Ou.1 h1;exact Eh _ z.1 (α z h3) x ((J z h3).2.2.2.bv x h2)
   have hndv:(BV (T.resL π (T.parL (Z.map (·.2.2))))).Nodup:=by
    rw [cN,cO,QP];have hp:=(H.flatMap_right BV)
    rw [QP]at hp;have hnd':(Z.flatMap λz=>BV z.1).Nodup:=hp.nodup_iff.2 (Ot.1 ξ).2.1;refine Ot.2 ⟨θ,rD (f:=λz=>BV z.1) hnd' λz h=>⟨(J z h).2.2.2.uq.nd,(J z h).2.2.2.bv⟩,λa ha b hb=>?_⟩;obtain⟨z,h1,h2⟩:=OC.1 hb;exact(Ot.1 ξ).2.2 a (G.subset ha) b (OC.2 ⟨z.1,α z h1,(J z h1).2.2.2.bv b h2⟩)
   have η:=rI hndv ς hbv (λx=>(υ x).1) hu;have μ:aj (T.resL π (T.parL (Z.map (·.2.2))))=(π,Z.map (·.2.2)):=by
    rw [Da η ς,T.AI,T.BM,T.Bu λt ht=>(ζ t ht).1,T.F7 λt ht=>(ζ t ht).1,Of]
   have φ:∀{β:Type} (g:U->β),(∀z∈Z,g z.2.2=g z.1)->((Z.map (·.2.2)).map g).Perm ((aj u).2.map g):=λg hg=>by
    have e:(Z.map (·.2.2)).map g=(Z.map (·.1)).map g:=by
     rw [Pa,Pa];exact O9 hg
    rw [e];exact H.map g
   obtain⟨k1,k2,_⟩:=gD _ η;rw [μ]at k1 k2;have hdv:(T.resL π (T.parL (Z.map (·.2.2)))).dead=false:=by
    rw [lg,k1]
    match Z,δ,ζ with
    | z::l,_,h=>
     have :=(h z.2.2 (by simp)).1;intro hh;revert hh this;simp only [Oe];cases z.2.2<;>simp [tl,Lv.len,T.th]
   have χ:(td (T.resL π (T.parL (Z.map (·.2.2))))).1.length=(td u).1.length:=by rw [k2.length_eq,G.length_eq,hlen]
   refine⟨T.resL ls (T.parL (Z.map (·.2.1))),T.resL π (T.parL (Z.map (·.2.2))),?_,?_,?_,ς,η,hbv,υ,λρ tk=>?_,λtk=>?_,?_,?_,by rw [hdv,hd],λhs=>?_,λt ht=>?_,λhns=>?_⟩
   ·rw [T.mg,hLS,<-ν,T.mU (by simpa using δ),Pa];have e:Z.map (T.text∘λz=>z.2.1)=aQ (zs.map λz=>z.2.1.text):=y2;rw [e,<-z1,Pa]
    congr 3
    exact O9 λz h=>(z2 z h).1
   ·refine AE.Dc π ls ρ γ l1 (λz hz' hzp hc=>?_) (AE.parL λz h=>(J z h).2.1);have hzu:u.Us z:=(υ z).1 (T.jV.2 ⟨hzp,κ.1.iP hz'⟩);have :=(l2 _ hc).1;rw [(hm.ok z hzu).1]at this;cases this
   ·refine DG (Dw λt ht=>?_) λc hc=>(l2 c hc).2
    obtain⟨z,h1,rfl⟩:=Ou.1 ht;exact(J z h1).2.2.1
   ·rw [y6 η,y6 hu,μ];exact lj G (λρ tk=>φ (λt=>thU t ρ tk) λz h=>(J z h).2.2.2.tx ρ tk) ρ tk
   ·unfold dF fY;rw [χ,dU,dU,hdv,hd,k1,g1]
    congr 2
    rw [vI,vI];have h1:=Bn (f:=λb:Bool=>b) (φ (λt=>thBad (tl [t]) (addK (lets (td u).1.length tk) tk)) λz h=>(J z h).2.2.2.bad _);simpa [List.any_map,Function.comp_def]using h1
   ·unfold cQ;rw [χ,k1,g1,Cb,Cb (aj u).2]
    congr 1
    exact jz (φ (λt=>thAll (tl [t])) λz h=>(J z h).2.2.2.all)
   ·unfold a7;rw [χ,k1,g1]
    congr 1
    refine Dp λk=>?_
    rw [tn,tn];constructor
    ·intro h t ht;obtain⟨z,h3,rfl⟩:=Ou.1 (H.symm.subset ht);rw [<-(J z h3).2.2.2.most];exact h _ (Po h3)
    ·intro h v hv;obtain⟨z,h3,rfl⟩:=Ou.1 hv;rw [(J z h3).2.2.2.most];exact h _ (α z h3)
   ·rw [oV];refine qk λt ht=>?_
    obtain⟨z,h1,rfl⟩:=Ou.1 ht;exact(J z h1).2.2.2.smp (IU u hs z.1 (α z h1))
   ·rw [ht]at G H;have e1:π=[]:=G.eq_nil;have e2:=H.length_eq;rw [NY]at e2
    match Z,e2,H,J with
    | [z],_,hs,J=>
     have:z.1=t:=by simpa using hs
     subst this;rw [e1];exact(J z (by simp)).2.2.2.tg
   ·cases hp:π with
    | cons x l=>rfl
    | nil=>
     rw [hp]at G;have e0:(aj u).1=[]:=G.symm.eq_nil
     match Z,δ,H,J with
     | [z],_,hs,J=>
      have e1:(aj u).2=[z.1]:=by
       have :=List.perm_singleton.1 hs.symm;simpa using this
      show z.2.2.isS=false;have htg:=(J z (by simp)).2.2.2.tg;rw [T.G3,htg,<-T.G3];cases hz1:z.1<;>first | rfl | skip
      rename_i p q;exact absurd (Prod.ext e0 (by rw [e1,hz1])) (hns p q)
     | z::y::l,_,_,_=>rfl
end
theorem xR:∀(n:Nat) (tk:Tk),lets (n+1) tk=lets n tk++[ja (addK (lets n tk) tk)]
 | 0,tk=>rfl
 | n+1,tk=>by
  rw [lets,xR n,lets];rfl
theorem rj:∀(n:Nat) (tk:Tk),gM (n+1) tk=(gM n tk||(wQ (addK (lets n tk) tk)).isNone)
 | 0,tk=>by simp [gM,lets,addK]
 | n+1,tk=>by
  rw [gM,rj n,gM];rw [lets,addK,Ps]
theorem dS:∀(l:List UInt8) (s:Tx),(wrap l s).length=3* l.length+s.length
 | [],s=>by simp [wrap]
 | c::l,s=>by simp only [wrap,NI,dS l s];omega
theorem uV:∀{l:List UInt8} (s:Tx),(∀c∈l,¬c=35)->(wrap l s).count 35=l.length+s.count 35
 | [],s,_=>by simp [wrap]
 | c::l,s,h=>by
  have G:=uV (l:=l) s λc H=>h c (NW _ H)
  simp only [wrap,NI];rw [List.count_cons,bg (h c (by simp)),bg (by decide),G];simp;omega
theorem pj:∀{l:List UInt8} {s:Tx} {c:UInt8},(c∈l\/c∈s)->c∈wrap l s
 | [],s,c,h=>by simpa [wrap]using h
 | d::l,s,c,h=>by
  simp only [wrap,Oa];rcases h with h | h
  ·rcases Oa.1 h with h | h
   ·exact .inr (.inl h)
   ·exact .inr (.inr (.inr (pj (.inl h))))
  ·exact .inr (.inr (.inr (pj (.inr h))))
theorem gY {k m:Nat}{Θ ls A:Tx}(h:FC k m Θ ls A):cL A=addK ls (cL Θ):=by
 funext c
 rw [xU,cL,cL,OT];simp only [NX,Pb];exact h.mem c
structure Kx (k i:Nat)(Θ ls A:Tx):Prop where
 ok:FC k i Θ ls A
 good:gM i (cL Θ)=false->ls=lets i (cL Θ)
 bad:gM i (cL Θ)=true->∃c∈ls,128<=c
theorem Kx.zero {k:Nat}{Θ:Tx}(h:lF Θ):Kx k 0 Θ [] Θ:=
 ⟨⟨rfl,Pe,λc G=>(by cases G),h,λc=>by simp⟩,λ _=>rfl,λh=>by simp [gM]at h⟩
theorem Kx.snoc {k i:Nat}{Θ ls A A':Tx}{c:UInt8}(h:Kx k i Θ ls A)(H:A6 (k+i) A c)(hs:lF A')(hA:∀x,x∈A'↔x=c\/x∈A):Kx k (i+1) Θ (ls++[c]) A':=by
 have Z:c∉ls:=λhm=>H.nin ((h.ok.mem c).2 (.inr hm))
 have α:c∉Θ:=λhm=>H.nin ((h.ok.mem c).2 (.inl hm))
 refine⟨⟨by simp [h.ok.len],?_,λd hd=>?_,hs,λd=>?_⟩,λhb=>?_,λhb=>?_⟩
 ·refine Ot.2 ⟨h.ok.nd,by simp,λa ha b hb e=>?_⟩;have:b=c:=by simpa using hb
  subst this;subst e;exact Z ha
 ·rcases NU.1 hd with hd | hd
  ·have :=h.ok.ok d hd;exact⟨this.1,this.2.1.mono (by omega),this.2.2⟩
  ·have:d=c:=by simpa using hd
   subst this;exact⟨α,by rw [<-Qc];exact H.okn,H.ngr,H.nm⟩
 ·rw [hA,h.ok.mem,NU,N0];constructor
  ·rintro(h | h | h)
   ·exact .inr (.inr h)
   ·exact .inl h
   ·exact .inr (.inl h)
  ·rintro(h | h | h)
   ·exact .inr (.inl h)
   ·exact .inr (.inr h)
   ·exact .inl h
 ·rw [rj,Pf]at hb;have e:=h.good hb.1;rw [xR,<-e]
  congr 2
  have G:=hb.2;rw [<-e,<-gY h.ok]at G;rw [<-gY h.ok];exact H.good G
 ·rw [rj,Pb]at hb;cases J:gM i (cL Θ)with
  | true=>
   obtain⟨d,h1,h2⟩:=h.bad J;exact⟨d,by simp [h1],h2⟩
  | false=>
   rw [J]at hb;have G:=hb.resolve_left (by simp);rw [<-h.good J,<-gY h.ok]at G;exact⟨c,by simp,H.bad G⟩
theorem xF:∀n,n<=90->(iA n).Nodup
 | 0,_=>Pe
 | n+1,h=>by
  rw [AV];refine Ot.2 ⟨xF n (by omega),by simp,λa ha b hb e=>?_⟩;have hb:b=gl n:=by simpa using hb
  obtain⟨j,H,G⟩:=iM.1 ha;have :=zW (by omega) (by omega) (G.symm.trans (e.trans hb));omega
structure Db (on:Bool)(σ:Nat->Nat)(u:U)(Lo:List Tx)(ls A best:Tx):Prop where
 mem:∃o∈Lo,yQ on σ u o ls A best
 le:∀o∈Lo,∃r,yQ on σ u o ls A r/\jK best r=true
theorem yQ.ne {on:Bool}{σ:Nat->Nat}{u:U}{o ls A r:Tx}(h:yQ on σ u o ls A r)(G:(aj u).2≠[]):r≠[]:=by
 obtain⟨rs,rfl,ha⟩:=h;have H:=aM rs;refine Bt (λs J=>?_) λe=>G (On ?_)
 ·obtain⟨t,_,Z⟩:=ha.get' (H.subset J);exact Z.ne
 ·rw [e]at H;rw [<-ha.1,H.symm.eq_nil];rfl
theorem yQ.text {k:Nat}{σ:Nat->Nat}{u:U}{Θ o ls A r:Tx}{π:List Nat}(h:yQ false σ u o ls A r)(hu:Uq u)(α:zl k Θ σ u)(β:FC k (aj u).1.length Θ ls A)(H:π.Perm (aj u).1)
  (ho:o.map UInt8.toNat=π.map (asgN (aj u).1 0 σ)) (J:o.Perm (iA (aj u).1.length)) (hm:(aj u).1.length<=64) (Z:∀t∈(aj u).2,ax (tl [t])<=5) (γ:∀t∈(aj u).2,thBad (tl [t]) (cL A)=false) {ρ:Rh} (hc:Compat ρ σ u):
  r=joinS 38 (aQ ((aj u).2.map λt=>thU t (asg π ls ρ) (cL A))):=by
 obtain⟨rs,rfl,ha⟩:=h
 congr 2
 have ε:∀y∈(aj u).1,∀z∈(aj u).1,asgN (aj u).1 0 σ z=asgN (aj u).1 0 σ y->z=y:=by
  intro y hy z hz e;obtain⟨i,hi,rfl⟩:=OX.1 hy;obtain⟨j,hj,rfl⟩:=OX.1 hz;rw [ky _ _ _ _ hi (gZ u hu),ky _ _ _ _ hj (gZ u hu),Og,Og]at e;have :=zW (by omega) (by omega) (N4.1 e);subst this;rfl
 have ζ:o.Nodup:=J.nodup_iff.2 (xF _ (by omega));have :=aK.map_eq (f:=λr:Tx=>r) (g:=λt=>thU t (asg π ls ρ) (cL A)) (ha.mono λr t _ ht hw=>hw.eq (Z t ht) rfl (γ t ht) (asg π ls ρ) λy hy=>?_)
 ·simpa using this
 ·show(asg π ls ρ y).toNat=rnv o ls (asgN (aj u).1 0 σ y);by_cases G:y∈(aj u).1
  ·refine(DZ π o ls _ ρ y ho (by rw [H.length_eq,β.len]) (λl hl η=>?_) (H.symm.subset G) (λz hz e=>ε y G z (H.subset hz) e) ζ).symm;obtain⟨j,h1,rfl⟩:=iM.1 (J.subset η);exact dV (β.ok _ hl).2.2.1 (zn (by omega))
  ·have δ:=(kW u hu t ht y hy).resolve_right G;rw [bz π ls ρ y λh=>G (H.subset h),jB _ _ _ _ G,zu,hc y δ];intro o' θ e;obtain⟨c,h1,h2⟩:=α.cov y δ;obtain⟨j,h3,rfl⟩:=iM.1 (J.subset θ);have:c=gl j:=N4.1 (h2.trans e);exact dV (α.okn c h1).2 (this▸zn (by omega))
theorem tz {u:U}(hu:Uq u):a7 u<=5->(aj u).1.length<=5/\∀t∈(aj u).2,ax (tl [t])<=5:=by
 intro h;obtain⟨G,H,_⟩:=gD u hu;unfold a7 at h;rw [G,H.length_eq]at h;exact⟨by omega,(tn _ _).1 (by omega)⟩
theorem Ap {u:U}(hu:Uq u):decide (5< a7 u)=(decide (5< (aj u).1.length)||(aj u).2.any λt=>decide (5< ax (tl [t]))):=by
 rw [OT,Pb,NX,NX,PX];constructor
 ·intro h;rcases Pu 5 (aj u).1.length with G | G
  ·exact .inl G
  ·right;refine Pd λhn=>?_
   have H:∀t∈(aj u).2,ax (tl [t])<=5:=λt ht=>by
    rcases Pu 5 (ax (tl [t]))with J | J
    ·exact absurd ⟨t,ht,Px J⟩ hn
    ·exact J
   obtain⟨k1,Z,_⟩:=gD u hu;unfold a7 at h;rw [k1,Z.length_eq]at h;have :=(tn (aj u).2 5).2 H;omega
 ·intro h;refine Pd λhn=>?_
  obtain⟨k1,Z⟩:=tz hu (by omega);rcases h with h | ⟨t,G,H⟩
  ·omega
  ·have :=Z t G;have :=N8 H;omega
theorem WR.IH {on:Bool}{k:Nat}{σ:Nat->Nat}{u:U}{Θ ls A best:Tx}{Lo:List Tx}(hu:Uq u)(Z:(aj u).2≠[])(ε:zl k Θ σ u)(hl:Kx k (aj u).1.length Θ ls A)(hm:(aj u).1.length<=64)
  (ζ:∀o∈Lo,o.Perm (iA (aj u).1.length)) (η:on=false->∀o,o.Perm (iA (aj u).1.length)->o∈Lo) (h:Db on σ u Lo ls A best):WR on u σ Θ (wrap ls best):=by
 obtain⟨o0,θ,hN⟩:=h.mem;have ι:=hN.ne Z;obtain⟨rs,G,ha⟩:=hN;have H:=hl.ok;have hp:=aM rs;have μ:rs≠[]:=λe=>Z (On (by rw [<-ha.1,e];rfl))
 have ν:aQ rs≠[]:=λe=>μ (by rw [e]at hp;exact hp.symm.eq_nil)
 have ξ:∀c∈ls,¬c=35:=λc hc=>j4 (H.ok c hc).2.2.2
 obtain⟨g1,g2,_⟩:=gD u hu;have α:(td u).2.isNil=false:=by
  rw [dU];cases hd:u.dead with
  | false=>rfl
  | true=>rw [dq u hu hd]at Z;exact absurd rfl Z
 refine⟨λe=>?_,?_,λhM=>?_,λhM γ hb=>?_,λhM γ hb ρ hc=>?_⟩
 ·have :=dS ls best;rw [e]at this;have h2:best.length≠0:=λe=>ι (On e)
  simp at this;omega
 ·have J:=oC 38 _ ν;have h2:=mE hp;have h3:=ha.FV;have h4:=fV u;rw [dS,H.len,G];omega
 ·obtain⟨m1,m2⟩:=tz hu hM;rw [uV _ ξ,H.len,G,lx (by decide),jz (hp.map _)];unfold cQ;rw [g1,g2.length_eq,Cb]
  congr 2
  exact aK.map_eq (ha.mono λr t _ ht hw=>hw.cnt (m2 t ht))
 ·obtain⟨m1,m2⟩:=tz hu hM;unfold dF fY at hb;rw [α,g2.length_eq]at hb;simp only [Bool.not_false,Pn,Pb]at hb;cases δ:gM (aj u).1.length (cL Θ)with
  | true=>
   obtain⟨c,J,h2⟩:=hl.bad δ;exact⟨c,pj (.inl J),h2⟩
  | false=>
   rw [δ]at hb;have hb:=hb.resolve_left (by simp);rw [<-hl.good δ,<-gY H,g1,vI,PX]at hb;obtain⟨t,J,h2⟩:=hb;obtain⟨r,h3,h4⟩:=ha.get J;obtain⟨c,h5,h6⟩:=h4.bad (m2 t J) γ h2;refine⟨c,pj (.inr ?_),h6⟩;rw [G];exact rm (hp.symm.subset h3) h5
 ·obtain⟨m1,m2⟩:=tz hu hM;subst γ;unfold dF fY at hb;rw [α,g2.length_eq]at hb;simp only [Bool.not_false,Pn,Pf]at hb;have e:=hl.good hb.1;have β:=hb.2;rw [<-e,<-gY H,g1,vI,List.any_eq_false]at β;have β:∀t∈(aj u).2,thBad (tl [t]) (cL A)=false:=λt ht=>by simpa using β t ht
  rw [y6 hu];unfold aS;rw [N2 (by simpa using Z)];show _=wrap (lets _ (cL Θ)) (bJ (List.map (λπ=>joinS 38 (aQ ((aj u).2.map λt=>thU t (asg π (lets _ (cL Θ)) ρ) (addK (lets _ (cL Θ)) (cL Θ))))) _));rw [<-e,<-gY H]
  congr 1
  symm
  have κ:∀o:Tx,o.Perm (iA (aj u).1.length)->∃π:List Nat,π.Perm (aj u).1/\o.map UInt8.toNat=π.map (asgN (aj u).1 0 σ):=λo ho=>by
   refine j9 ((ho.map UInt8.toNat).trans ?_);have:(iA (aj u).1.length).map UInt8.toNat=(aj u).1.map (asgN (aj u).1 0 σ):=by
    refine Qr (by simp [iI]) λi J h2=>?_
    simp only [P1];have hi:i< (aj u).1.length:=by simpa using h2
    rw [ky _ _ _ _ hi (gZ u hu),Og];simp [iA]
   rw [this]
  refine gX ?_ λs hs=>?_
  ·obtain⟨π,J,h2⟩:=κ o0 (ζ _ θ);refine Ou.2 ⟨π,(cY _ _).2 J,?_⟩;exact(yQ.text ⟨rs,G,ha⟩ hu ε H J h2 (ζ _ θ) hm m2 β hc).symm
  ·obtain⟨π,J,rfl⟩:=Ou.1 hs;have J:=(cY _ _).1 J;have h3:(π.map (asgN (aj u).1 0 σ)).Perm ((iA (aj u).1.length).map UInt8.toNat):=by
    have:(iA (aj u).1.length).map UInt8.toNat=(aj u).1.map (asgN (aj u).1 0 σ):=by
     refine Qr (by simp [iI]) λi J h2=>?_
     simp only [P1];have hi:i< (aj u).1.length:=by simpa using h2
     rw [ky _ _ _ _ hi (gZ u hu),Og];simp [iA]
    rw [this];exact J.map _
   obtain⟨o,h4,h5⟩:=j9 h3;obtain⟨r,h6,h7⟩:=h.le o (η rfl o h4);rw [<-h6.text hu ε H J h5.symm h4 hm m2 β hc];exact h7
theorem WR.IT {on:Bool}{u:U}{σ:Nat->Nat}{Θ:Tx}(hu:Uq u)(hd:u.dead=true):WR on u σ Θ [48]:=by
 obtain⟨G,H,J,h4⟩:=ql hu hd;exact⟨by simp,BB u,λ _=>by rw [J];rfl,λ _ _ hb=>(by rw [H]at hb;cases hb),λ _ _ _ ρ _=>by rw [G]⟩
theorem WR.Fe {on:Bool}{u:U}{σ:Nat->Nat}{Θ:Tx}(h:5< a7 u):WR on u σ Θ [48]:=
 ⟨by simp,BB u,λhm=>by omega,λhm=>by omega,λhm=>by omega⟩
theorem Ex.aR {w w':World}(h:w.grownBy w' none):Ex w w':=⟨h.os,h.tape,h.output,h.size,λg G=>h.block g G (by simp)⟩
theorem uX {l:Tx}{i:Nat}(h:i< l.length):List.drop (Int.toNat (i:Int)) (List.take (Int.toNat ((i:Int)+1)) l)=[bt l i]:=by
 have e:Int.toNat ((i:Int)+1)=i+1:=by omega
 rw [e,NT,iK h];exact List.drop_left' (by rw [Ow];omega)
theorem Dk {l:Tx}{i:Nat}(h:i< l.length):List.drop i (List.take (Int.toNat ((i:Int)+1)) l)=[bt l i]:=by
 have :=uX h
 rwa [NT]at this
theorem mJ {l:Tx}{i:Nat}(h:i< l.length)(s:Tx):wrap (l.drop i) s=35::bt l i::46::wrap (l.drop (i+1)) s:=by
 rw [tq h];rfl
end Go.Proofs.YthekamjhgabkjaaGreat
