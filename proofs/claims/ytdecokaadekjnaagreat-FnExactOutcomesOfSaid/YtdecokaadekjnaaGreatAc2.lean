/- Part 2 of a proof of what the last text states; no condition. -/
import Derived.Test.YtdecokaadekjnaaGreatAc1
set_option maxRecDepth 100000
set_option maxHeartbeats 4000000
namespace Go.Proofs.YtdecokaadekjnaaGreat
open Go Go.RowKit
theorem zr {s:Tx}{c:UInt8}(V:s.length<=1099511627776){w:World}{R:aF->PV}(h:R (s.filter λd=>decide (d≠c)) w):PW 119 #[.string (ax s),.int .u8 c.toNat] w (aw [.s] R):=by
 refine sN s c w R ?_;dsimp only [go_sem];dsimp only [go_sem,UInt8.reduceOfNat,UInt32.reduceOfNat,Nat.reduceAdd];refine⟨λout i w'=>w=w'/\0<=i/\i<=s.length/\out=(s.take i.toNat).filter λd=>decide (d≠c),λ _ i _=>((s.length:Int) - i).toNat,⟨rfl,by omega,by omega,rfl⟩,λout i w1 J=>?_⟩;obtain⟨rfl,H,W,rfl⟩:=J;refine⟨λG=>?_,λG=>?_⟩
 ·simp only [Mz]at G;have Z:((s.take i.toNat).filter λd=>decide (d≠c)).length<=s.length:=Nv (N1 ..) (by rw [M5];omega);refine⟨by omega,λhe=>?_,λhe=>?_⟩
  ·simp only [Om,Mw]at he;rw [vL H G];refine⟨by omega,by omega,by simp only [Mm,MB];omega,by omega,⟨rfl,by omega,by omega,?_⟩,by dsimp only;omega⟩;rw [fO H G,List.filter_append,List.filter_cons,if_pos (by simpa using he),List.filter_nil]
  ·simp only [Bool.not_eq_false',Mz]at he;refine⟨by omega,⟨rfl,by omega,by omega,?_⟩,by dsimp only;omega⟩;rw [fO H G,List.filter_append,List.filter_cons,if_neg (by simpa using he),List.filter_nil,List.append_nil]
 ·simp only [Mw]at G;have:i.toNat=s.length:=by omega
  rw [this,MR];exact h
theorem kj {w1:World}(c:UInt8){w2:World}{b:Nat}(hb:b=w1.heap.size)(h:w2=w1.alloc (.cells #[.int .u8 c.toNat] 5)):
  ∀(j:Nat) (x:UInt8),[c][j]?=some x->w2.cell? ⟨b,0+j,none⟩=some (.int .u8 x.toNat):=by
 intro j x G;subst hb h
 match j,G with
 | 0,G=>simp at G;subst G;exact aa rfl
 | j+1,G=>simp at G
theorem eU {s:Tx}{c:UInt8}(hs:jE s){w:World}{R:aF->PV}(h:∀s' w',Ex w w'->jE s'->(∀x,x∈s'↔x=c\/x∈s)->R s' w'):
  PW 121 #[.string (ax s),.int .u8 c.toNat] w (aw [.s] R):=by
 refine uH s c w R ?_;dsimp only [go_sem];dsimp only [go_sem,UInt8.reduceOfNat,UInt32.reduceOfNat,Nat.reduceAdd];have hl:=hs.bound;refine⟨λi w'=>w=w'/\0<=i/\i<=s.length/\∀j:Nat,j< i->bt s j< c,λi _=>((s.length:Int) - i).toNat,⟨rfl,by omega,by omega,λj hj=>by omega⟩,λi w1 hI=>?_⟩;obtain⟨rfl,h0,h1,h2⟩:=hI;have put:(i=s.length\/c< bt s i.toNat)->∀w1,w1=w.drew->(0<=i/\i<=s.length)/\(0<=i/\i<=s.length)/\∀(b9:Nat) (J:World),b9=w1.heap.size->J=w1.alloc (.cells #[.int .u8 c.toNat] 5)->
   True/\∃(β γ δ W:Nat) (H:aF),(Value.slice (some ⟨b9,0,none⟩) 1 1)=Value.slice (some ⟨β,γ,none⟩) δ W/\H.length=δ/\(∀(j:Nat) (x:UInt8),H[j]?=some x->J.cell? ⟨β,γ+j,none⟩=some (.int .u8 x.toNat))/\True/\
    ((s.take i.toNat).length+H.length<=4611686018427387904)/\((s.take i.toNat++H).length+(s.drop i.toNat).length<=4611686018427387904)/\R ((s.take i.toNat++H)++s.drop i.toNat) J:=by
  rintro hp w1 rfl
  refine⟨by omega,by omega,λb9 J hb hw=>⟨trivial,b9,0,1,1,[c],rfl,rfl,kj c hb hw,trivial,?_,?_,?_⟩⟩
  ·simp only [M5,Mm,MB];omega
  ·simp only [Mt,M5,NX,Mm,MB];omega
  ·have ε:∀x∈s.take i.toNat,x< c:=by
    intro x G;obtain⟨j,hj,e⟩:=Bh G;rw [M5]at hj;have:bt (s.take i.toNat) j=bt s j:=by simp only [bt,List.getD_eq_getElem?_getD];rw [Oa (by omega)]
    rw [<-e,this];exact h2 j (by omega)
   have ζ:∀x∈s.drop i.toNat,c< x:=by
    rcases hp with hp | hp
    ·intro x G;rw [hp,Mv,Oj]at G;cases G
    ·intro x G;have hi:i.toNat< s.length:=by
      rcases N2 i.toNat s.length with h | h
      ·exact h
      ·rw [N7 h]at G;cases G
     have hd:=bB hi;have η:jE (s.drop i.toNat):=Oo (List.drop_sublist _ _) hs;rw [hd]at G η;rcases MH.1 G with rfl | G
     ·exact hp
     ·exact UInt8.lt_trans hp ((OE.1 η).1 x G)
   refine h _ _ (hw▸(Ex.drew w).trans (Ex.alloc _ _)) ?_ ?_
   ·rw [M8];refine Py.2 ⟨Oo (List.take_sublist _ _) hs,?_,?_⟩
    ·exact OE.2 ⟨ζ,Oo (List.drop_sublist _ _) hs⟩
    ·intro x G y hy;rcases MH.1 hy with rfl | hy
     ·exact ε x G
     ·exact UInt8.lt_trans (ε x G) (ζ y hy)
   ·intro x;have:x∈s↔x∈s.take i.toNat\/x∈s.drop i.toNat:=by rw [<-My,NJ]
    rw [this];simp only [My,MH,OW,Px];constructor
    ·rintro((h | h) | h)
     ·exact .inr (.inl h)
     ·exact .inl h
     ·exact .inr (.inr h)
    ·rintro(h | h | h)
     ·exact .inl (.inr h)
     ·exact .inl (.inl h)
     ·exact .inr h
 have same:i< s.length->bt s i.toNat=c->R s w:=λhi he=>h s w (Ex.refl w) hs λx=>⟨.inr,λG=>G.elim (λe=>by rw [e,<-he];exact pB (by omega)) id⟩
 have fin:i< s.length->¬bt s i.toNat< c->¬bt s i.toNat=c->c< bt s i.toNat:=λ _ h1 h2=>by
  rcases UInt8.lt_or_lt_of_ne (PB h2)with h | h
  ·exact h
  ·exact absurd h h1
 refine⟨λhc=>?_,λhc=>?_⟩
 ·have V:i< s.length:=by simpa using hc
  refine⟨by omega,λhb=>?_,λhb=>?_⟩
  ·simp only [Mz]at hb;refine⟨by omega,⟨rfl,by omega,by omega,λj hj=>?_⟩,by dsimp only;omega⟩;rcases N2 j i.toNat with θ | θ
   ·exact h2 j (by omega)
   ·have:j=i.toNat:=by omega
    rw [this];exact hb
  ·simp only [Mw]at hb;refine⟨λ _=>⟨by omega,λhe=>same V (by simpa using he),λhe=>?_⟩,λZ=>absurd hc (by rw [Z];simp)⟩;exact⟨λ _=>True,λw1 α=>⟨trivial,put (.inr (fin V hb (by simpa using he))) w1 α⟩⟩
 ·have V:i=s.length:=by simp at hc;omega
  refine⟨λZ=>absurd Z (by rw [hc];simp),λ _=>?_⟩;exact⟨λ _=>True,λw1 α=>⟨trivial,put (.inl V) w1 α⟩⟩
theorem iX {s t:Tx}(hs:jE s)(ht:t.length<=1099511627776){w:World}{R:aF->PV}(h:∀G w',Ex w w'->jE G->(∀x,x∈G↔x∈s\/x∈t)->R G w'):
  PW 104 #[.string (ax s),.string (ax t)] w (aw [.s] R):=by
 refine sj s t w R ?_;dsimp only [go_sem];dsimp only [go_sem,UInt8.reduceOfNat,UInt32.reduceOfNat,Nat.reduceAdd];refine⟨λout i w'=>Ex w w'/\0<=i/\i<=t.length/\jE out/\∀x,x∈out↔x∈s\/x∈t.take i.toNat,λ _ i _=>((t.length:Int) - i).toNat,⟨Ex.refl w,by omega,by omega,hs,by simp⟩,λout i w1 hI=>?_⟩;obtain⟨Z,h0,h1,h2,J⟩:=hI;refine⟨λH=>?_,λH=>?_⟩
 ·simp only [Mz]at H;refine⟨by omega,eU h2 λG w' V W hm=>⟨by omega,⟨Z.trans V,by omega,by omega,W,λx=>?_⟩,by dsimp only;omega⟩⟩;rw [hm,J,fO h0 H,List.mem_append,List.mem_singleton];constructor
  ·rintro(h | h | h)
   ·exact .inr (.inr h)
   ·exact .inl h
   ·exact .inr (.inl h)
  ·rintro(h | h | h)
   ·exact .inr (.inl h)
   ·exact .inr (.inr h)
   ·exact .inl h
 ·simp only [Mw]at H;have:i.toNat=t.length:=by omega
  rw [this,MR]at J;exact h out w1 Z h2 J
def si (s:Tx)(c:UInt8):Prop:=
 uj (λd=>decide (d∈s))=some c\/
 (uj (λd=>decide (d∈s))=none/\128<=c/\c<=191/\(∀d:UInt8,128<=d->d< c->d∈s)/\(c∉s\/c=191))
theorem AS (i:Nat)(h:i< qX.length):qX[i]=UInt8.ofNat (97+i):=by
 simp [qX]
theorem tb {f:UInt8->Bool}{c:UInt8}(G:97<=c)(H:c<=122)(J:f c=true)(V:∀d:UInt8,97<=d->d< c->f d=false):qX.find? f=some c:=by
 have W:97<=c.toNat:=ML.1 G;have Z:c.toNat<=122:=ML.1 H;have hl:qX.length=26:=by simp [qX]
 rw [List.find?_eq_some_iff_getElem];refine⟨J,c.toNat - 97,by omega,?_,λj hj=>?_⟩
 ·rw [AS];apply MQ.1;rw [NB];omega
 ·rw [AS];have e:(UInt8.ofNat (97+j)).toNat=97+j:=by rw [NB];omega
  rw [V _ (ML.2 (by rw [e];show 97<=_;omega)) (Nf.2 (by omega))];rfl
theorem ve {f:UInt8->Bool}(G:∀d:UInt8,97<=d->d<=122->f d=false):qX.find? f=none:=by
 rw [List.find?_eq_none];intro d hd;have H:qX.length=26:=by simp [qX]
 obtain⟨j,J,rfl⟩:=Np.1 hd;rw [AS];have e:(UInt8.ofNat (97+j)).toNat=97+j:=by rw [NB];omega
 rw [G _ (ML.2 (by rw [e];show 97<=_;omega)) (ML.2 (by rw [e];show _<=122;omega))];simp
theorem iK {s:Tx}(hs:s.length<=1099511627776){w:World}{R:UInt8->PV}(h:∀c,si s c->R c w):PW 75 #[.string (ax s)] w (aw [.c] R):=by
 refine qP s w R ?_;dsimp only [go_sem];dsimp only [go_sem,UInt8.reduceOfNat,UInt32.reduceOfNat,Nat.reduceAdd];refine⟨λc w'=>w=w'/\97<=c/\c<=123/\∀d:UInt8,97<=d->d< c->d∈s,λc _=>200 - c.toNat,⟨rfl,by decide,by decide,λd h1 h2=>absurd (UInt8.lt_of_le_of_lt h1 h2) (Pn _)⟩,λc w1 hI=>?_⟩;obtain⟨rfl,h0,h1,h2⟩:=hI;have ζ:=ML.1 h0;have η:=ML.1 h1;refine⟨λJ=>ia hs ?_,λJ=>?_⟩
 ·simp only [Mz]at J;have α:=ML.1 J;refine⟨λhm=>?_,λhm=>?_⟩
  ·simp only [Om,Mw]at hm;refine h c (.inl (tb h0 J (by simpa using hm) λd G H=>by simpa using h2 d G H))
  ·simp only [Bool.not_eq_false',Mz]at hm;have e:(c+1).toNat=c.toNat+1:=by rw [Pj];show(c.toNat+1) % 256=_;exact Nat.mod_eq_of_lt (by have:(122:UInt8).toNat=122:=rfl;omega)
   have β:(122:UInt8).toNat=122:=rfl;have δ:(123:UInt8).toNat=123:=rfl;have θ:(97:UInt8).toNat=97:=rfl;refine⟨⟨rfl,ML.2 (by omega),ML.2 (by omega),λd G H=>?_⟩,by dsimp only;omega⟩;have Z:=Nf.1 H;by_cases V:d=c
   ·rw [V];exact hm
   ·refine h2 d G (Nf.2 ?_);have:d.toNat≠c.toNat:=λe=>V (MQ.1 e)
    omega
 ·simp only [Mw]at J;have α:¬c.toNat<=122:=λhh=>J (ML.2 hh)
  have W:uj (λd=>decide (d∈s))=none:=by
   refine ve λd G H=>?_
   have Z:=ML.1 H;have β:(122:UInt8).toNat=122:=rfl;simpa using h2 d G (Nf.2 (by omega))
  refine⟨λc w'=>w=w'/\128<=c/\c<=191/\∀d:UInt8,128<=d->d< c->d∈s,λc _=>200 - c.toNat,⟨rfl,by decide,by decide,λd h1 h2=>absurd (UInt8.lt_of_le_of_lt h1 h2) (Pn _)⟩,λc w1 hI=>?_⟩;obtain⟨rfl,k0,k1,k2⟩:=hI;have ι:=ML.1 k0;have κ:=ML.1 k1;refine⟨λJ=>ia hs ?_,λJ=>?_⟩
  ·simp only [Mz]at J;have α:=Nf.1 J;have γ:(191:UInt8).toNat=191:=rfl;have ε:(128:UInt8).toNat=128:=rfl;refine⟨λhm=>?_,λhm=>?_⟩
   ·simp only [Mz]at hm;have e:(c+1).toNat=c.toNat+1:=by rw [Pj];show(c.toNat+1) % 256=_;exact Nat.mod_eq_of_lt (by omega)
    refine⟨⟨rfl,ML.2 (by omega),ML.2 (by omega),λd G H=>?_⟩,by dsimp only;omega⟩;have Z:=Nf.1 H;by_cases V:d=c
    ·rw [V];exact hm
    ·refine k2 d G (Nf.2 ?_);have:d.toNat≠c.toNat:=λe=>V (MQ.1 e)
     omega
   ·simp only [Mw]at hm;exact h c (.inr ⟨W,k0,k1,k2,.inl hm⟩)
  ·simp only [Mw]at J;have α:¬c.toNat< 191:=λhh=>J (Nf.2 hh)
   have γ:(191:UInt8).toNat=191:=rfl;exact h c (.inr ⟨W,k0,k1,k2,.inr (MQ.1 (by omega))⟩)
theorem aY (t:P):t.size=1+(t.parts.map T.size).sum:=by
 cases t<;>simp [T.size,T.parts]<;>omega
theorem y5 (l:List P)(k:Nat):((l.take k).map T.size).sum<=(l.map T.size).sum:=by
 conv=>rhs;rw [<-NJ k l]
 rw [Nq,PH];omega
theorem dN (t:P):t.parts.length<=2:=by cases t<;>simp [T.parts]
theorem dO {t p:P}(h:p∈t.parts):p.size< t.size:=by
 cases t<;>simp only [T.parts,MH,OW,Px,List.mem_nil_iff]at h<;>simp only [T.size]
 all_goals first | exact h.elim | (rcases h with rfl | rfl<;>omega) | (subst h;omega)
theorem Gx:∀(n:Nat) {t:P},t.size<=n->Ok t->∀{w:World} {R:Int->PV},(∀w',Ex w w'->R (t.size:Int) w')->PW 111 #[.string (ax t.text)] w (aw [.i] R):=by
 intro n
 induction n with
 | zero=>intro t h;have :=aY t;omega
 | succ n ih=>
  intro t hn ok w R h;refine rX _ w R ?_;dsimp only [go_sem];dsimp only [go_sem,UInt8.reduceOfNat,UInt32.reduceOfNat,Nat.reduceAdd];refine cO ok λv w1 hx hs=>?_
  obtain⟨a,cap,hv⟩:=hs.slice;rw [MM]at hv;have α:=bj t;have hle:=ok.len;refine⟨a,t.parts.length,cap,hv,λm x w'=>Ex w w'/\Strs w' v (t.parts.map T.text)/\∃k:Nat,x=k/\k<=t.parts.length/\m=1+(((t.parts.take k).map T.size).sum:Int),λ _ x _=>((t.parts.length:Int) - x).toNat,
   ⟨hx,hs,0,rfl,by omega,by simp⟩,λm x w2 hI=>?_⟩
  obtain⟨H,J,k,rfl,hk,rfl⟩:=hI;refine⟨λZ=>?_,λZ=>?_⟩
  ·have G:k< t.parts.length:=by simpa using Z
   obtain⟨b,o,cp,e1,e2,e3⟩:=J.at (i:=k) (by rw [MM];exact G);rw [MM]at e1;refine⟨b,o,t.parts.length,cp,e1,by omega,by omega,(t.parts[k]).text,?_,?_⟩
   ·rw [Mv,MW,e3,Pz]
   ·have hm:t.parts[k]∈t.parts:=Mx G;refine ih (by have :=dO hm;omega) (ok.parts _ hm) λw3 V=>?_
    have W:((t.parts.take (k+1)).map T.size).sum=((t.parts.take k).map T.size).sum+(t.parts[k]).size:=by
     rw [Mq G,Nq,PH];simp
    have h1:=y5 t.parts (k+1);have h2:=aY t;have h3:=dN t;refine⟨by omega,by omega,⟨H.trans V,J.ex V,k+1,by omega,G,by rw [W];omega⟩,by dsimp only;omega⟩
  ·have G:k=t.parts.length:=by simp at Z;omega
   subst G;have e:=aY t;rw [MR];have:(1:Int)+((t.parts.map T.size).sum:Int)=(t.size:Int):=by omega
   rw [this];exact h _ H
def dD (c:UInt8):Bool:= !((65<=c&&c<=90)||128<=c)
theorem Dd {p:Tx}(hp:p.length<=1099511627776){w:World}{R:Bool->PV}(h:R (p.all dD) w):PW 109 #[.string (ax p)] w (aw [.b] R):=by
 refine qM p w R ?_;dsimp only [go_sem];dsimp only [go_sem,UInt8.reduceOfNat,UInt32.reduceOfNat,Nat.reduceAdd];refine⟨λi w'=>w=w'/\0<=i/\i<=p.length/\∀j:Nat,j< i->dD (bt p j)=true,λi _=>((p.length:Int) - i).toNat,⟨rfl,by omega,by omega,λj J=>by omega⟩,λi w1 W=>?_⟩;obtain⟨rfl,h0,h1,V⟩:=W;have bad:i< p.length->dD (bt p i.toNat)=false->R false w:=λhi hb=>by
  have:p.all dD=false:=by
   rw [List.all_eq_false];exact⟨bt p i.toNat,pB (by omega),by simp [hb]⟩
  rw [this]at h;exact h
 have next:i< p.length->dD (bt p i.toNat)=true->bJ (i+1)/\(w=w/\0<=i+1/\i+1<=p.length/\∀j:Nat,j< i+1->dD (bt p j)=true)/\((p.length:Int) - (i+1)).toNat< ((p.length:Int) - i).toNat:=λhi hb=>by
  refine⟨by omega,⟨rfl,by omega,by omega,λj J=>?_⟩,by omega⟩;rcases N2 j i.toNat with H | H
  ·exact V j (by omega)
  ·have:j=i.toNat:=by omega
   rw [this];exact hb
 refine⟨λG=>?_,λG=>?_⟩
 ·simp only [Mz]at G;refine⟨by omega,λZ=>⟨by omega,λa2=>⟨by omega,λa3=>bad G ?_,λa3=>next G ?_⟩,λa2=>bad G ?_⟩,λZ=>⟨by omega,λa3=>bad G ?_,λa3=>next G ?_⟩⟩<;>
   simp_all [dD]
 ·simp only [Mw]at G;have:p.all dD=true:=by
   rw [Ou];intro x hx;obtain⟨j,J,rfl⟩:=Bh hx;exact V j (by omega)
  rw [this]at h;exact h
def T.lw:P->Bool
 | .nil=>true | .snd a b p=>lt a&&lt b&&p.lw | .rcv a b p=>lt a&&lt b&&p.lw | .tau p=>p.lw | .sum p q=>p.lw&&q.lw
 | .par p q=>p.lw&&q.lw | .res x p=>lt x&&p.lw | .mat a b p=>lt a&&lt b&&p.lw | .rep p=>p.lw
theorem gF {c:UInt8}(h:lt c=true):nm c=true/\dD c=true:=by
 simp only [lt,Mp,Mz]at h;have V:=ML.1 h.1;have W:=ML.1 h.2;refine⟨by simp [nm,h.1,h.2],?_⟩;have J:(97:UInt8).toNat=97:=rfl;have H:(122:UInt8).toNat=122:=rfl;simp only [dD,Om,NR,Bool.and_eq_false_iff,Mw];refine⟨.inr λG=>?_,λG=>?_⟩
 ·have :=ML.1 G;have e:(90:UInt8).toNat=90:=rfl;omega
 ·have :=ML.1 G;have e:(128:UInt8).toNat=128:=rfl;omega
theorem rQ {c:UInt8}(h:nm c=true)(k:dD c=true):lt c=true:=by
 simp only [nm,lt,dD,NT,Mp,Mz,Om,NR,Bool.and_eq_false_iff,Mw]at*;rcases h with(h | h) | h
 ·exact h
 ·exact absurd h (by rcases k.1 with k | k<;>simp [k])
 ·exact absurd h k.2
theorem iP:∀{t:P},t.lw=true->t.wf=true/\t.text.all dD=true
 | .nil,_=>⟨rfl,rfl⟩
 | .snd a b p,h=>by
  simp only [T.lw,Mp]at h;have :=iP h.2;simp [T.wf,T.text,(gF h.1.1).1,(gF h.1.1).2,(gF h.1.2).1,(gF h.1.2).2,this.1,this.2];decide
 | .rcv a b p,h=>by
  simp only [T.lw,Mp]at h;have :=iP h.2;simp [T.wf,T.text,(gF h.1.1).1,(gF h.1.1).2,(gF h.1.2).1,(gF h.1.2).2,this.1,this.2];decide
 | .mat a b p,h=>by
  simp only [T.lw,Mp]at h;have :=iP h.2;simp [T.wf,T.text,(gF h.1.1).1,(gF h.1.1).2,(gF h.1.2).1,(gF h.1.2).2,this.1,this.2];decide
 | .res x p,h=>by
  simp only [T.lw,Mp]at h;have :=iP h.2;simp [T.wf,T.text,(gF h.1).1,(gF h.1).2,this.1,this.2];decide
 | .tau p,h=>by have :=iP (t:=p) h;simp [T.wf,T.text,this.1,this.2];decide
 | .rep p,h=>by have :=iP (t:=p) h;simp [T.wf,T.text,this.1,this.2];decide
 | .sum p q,h=>by
  simp only [T.lw,Mp]at h;have G:=iP h.1;have H:=iP h.2;simp [T.wf,T.text,G.1,G.2,H.1,H.2];decide
 | .par p q,h=>by
  simp only [T.lw,Mp]at h;have G:=iP h.1;have H:=iP h.2;simp [T.wf,T.text,G.1,G.2,H.1,H.2];decide
theorem ld:∀{t:P},t.wf=true->t.text.all dD=true->t.lw=true
 | .nil,_,_=>rfl
 | .snd a b p,h,k=>by
  simp only [T.wf,T.text,Mp,ND]at h k;simp [T.lw,rQ h.1.1 k.1,rQ h.1.2 k.2.2.1,ld h.2 k.2.2.2.2]
 | .rcv a b p,h,k=>by
  simp only [T.wf,T.text,Mp,ND]at h k;simp [T.lw,rQ h.1.1 k.1,rQ h.1.2 k.2.2.1,ld h.2 k.2.2.2.2]
 | .mat a b p,h,k=>by
  simp only [T.wf,T.text,Mp,ND]at h k;simp [T.lw,rQ h.1.1 k.2.1,rQ h.1.2 k.2.2.2.1,ld h.2 k.2.2.2.2.2]
 | .res x p,h,k=>by
  simp only [T.wf,T.text,Mp,ND]at h k;simp [T.lw,rQ h.1 k.2.1,ld h.2 k.2.2.2]
 | .tau p,h,k=>by simp only [T.text,Mp,ND]at k;exact ld (t:=p) h k.2.2
 | .rep p,h,k=>by simp only [T.text,Mp,ND]at k;exact ld (t:=p) h k.2
 | .sum p q,h,k=>by
  simp only [T.wf,T.text,Mp,ND,O6]at h k;simp [T.lw,ld h.1 k.2.1,ld h.2 k.2.2.2.1]
 | .par p q,h,k=>by
  simp only [T.wf,T.text,Mp,ND,O6]at h k;simp [T.lw,ld h.1 k.2.1,ld h.2 k.2.2.2.1]
structure Good (t:P):Prop where
 lw:t.lw=true
 len:t.text.length<=300
 size:t.size<=60
theorem Good.ok {t:P}(h:Good t):Ok t:=⟨(iP h.lw).1,by have :=h.len;omega⟩
theorem vB {p:Tx}{w:World}{R:Bool->PV}(h:∀b w',Ex w w'->(b=true↔∃t:P,Good t/\t.text=p)->R b w'):PW 65 #[.string (ax p)] w (aw [.b] R):=by
 refine sQ p w R ?_;dsimp only [go_sem];dsimp only [go_sem,UInt8.reduceOfNat,UInt32.reduceOfNat,Nat.reduceAdd];by_cases Z:p.length<=1099511627776
 rotate_left
 ·exact aT (by omega) (h _ _ (Ex.refl w) ⟨λH=>by simp at H,fun⟨t,G,e⟩=>by have :=G.len;rw [e]at this;omega⟩)
 refine⟨λJ=>Dd Z ⟨λV=>?_,λV=>?_⟩,λJ=>?_⟩
 ·simp only [Mz]at J;refine nP p (by omega) (p.length+1) 0 (by omega) (by omega) (by omega) ⟨λhe=>?_,λhe=>?_⟩
  ·simp only [Mz]at he;obtain⟨t,hw,G⟩:=AX (l:=p) (p.length+1) 0 (by show 0<=endI p _ 0;omega);have e0:endI p (p.length+1) ((0:Nat):Int)=p.length:=he;rw [e0,Mv,Oj,MY,Oe]at G;subst G;have W:=ld hw V;refine Gx t.size (Mu _) ⟨hw,Z⟩ λw' hx=>h _ _ hx ?_
   simp only [Mz];constructor
   ·intro α;exact⟨t,⟨W,by omega,by omega⟩,rfl⟩
   ·rintro⟨u,hu,e⟩
    have h1:=vz (l:=t.text) u (u.size+t.size) 0 [] hu.ok.wf (by omega) (by simp [e]);have:u=t:=by
     exact(kv hu.ok.wf hw (r:=[]) (r':=[]) (by simpa using e)).1
    rw [<-this];exact_mod_cast hu.size
  ·simp only [Mw]at he;refine h _ _ (Ex.refl w) ⟨λH=>by simp at H,?_⟩
   rintro⟨t,G,rfl⟩
   exact absurd (by simpa using oV t G.ok.wf t.text 0 [] (by simp) (t.text.length+1) (by omega)) he
 ·refine h _ _ (Ex.refl w) ⟨λH=>by simp at H,?_⟩
  rintro⟨t,G,rfl⟩
  rw [(iP G.lw).2]at V;cases V
 ·simp only [Mw]at J;refine h _ _ (Ex.refl w) ⟨λH=>by simp at H,?_⟩
  rintro⟨t,G,rfl⟩
  have :=G.len;exact absurd (by omega) J
theorem G3 {p:Tx}(G:p.length<=1099511627776){w:World}{R:Bool->PV}(h:∀b w',Ex w w'->(b=true↔∃t:P,Good t/\t.text=p)->R b w'):PW 65 #[.string (ax p)] w (aw [.b] R):=vB h
end Go.Proofs.YtdecokaadekjnaaGreat
namespace Go.Proofs.YtdecokaadekjnaaGreat
namespace T
def map {A B:Type}(f:A->B):T A->T B
 | nil=>nil | snd a b p=>snd (f a) (f b) (p.map f) | rcv a x p=>rcv (f a) (f x) (p.map f) | tau p=>tau (p.map f)
 | sum p q=>sum (p.map f) (q.map f) | par p q=>par (p.map f) (q.map f) | res x p=>res (f x) (p.map f) | mat a b p=>mat (f a) (f b) (p.map f) | rep p=>rep (p.map f)
def shp {A:Type}(p:T A):T Unit:=p.map λ _=>()
def aJ {A:Type}:T A->Nat
 | nil=>1 | snd _ _ p=>p.aJ+4 | rcv _ _ p=>p.aJ+4 | tau p=>p.aJ+2 | sum p q=>p.aJ+q.aJ+3 | par p q=>p.aJ+q.aJ+3
 | res _ p=>p.aJ+3 | mat _ _ p=>p.aJ+5 | rep p=>p.aJ+1
def bd {A:Type}:T A->Nat
 | nil=>0 | snd _ _ p=>p.bd | rcv _ _ p=>p.bd+1 | tau p=>p.bd | sum p q=>max p.bd q.bd | par p q=>max p.bd q.bd
 | res _ p=>p.bd+1 | mat _ _ p=>p.bd | rep p=>p.bd
def rd {A:Type}:T A->Nat
 | nil=>0 | snd _ _ p=>p.rd | rcv _ _ p=>p.rd+1 | tau p=>p.rd | sum p q=>max p.rd q.rd | par p q=>max p.rd q.rd
 | res _ p=>p.rd | mat _ _ p=>p.rd | rep p=>p.rd
def ow {A:Type}:T A->Nat
 | nil=>0 | snd _ _ p=>p.ow | rcv _ _ p=>p.ow | tau p=>p.ow | sum p q=>p.ow+q.ow | par p q=>p.ow+q.ow
 | res _ p=>p.ow+1 | mat _ _ p=>p.ow | rep p=>p.ow
section
variable {A B:Type}
theorem size_map (f:A->B)(p:T A):(p.map f).size=p.size:=by induction p<;>simp_all [map,size]
theorem ET (f:A->B)(p:T A):(p.map f).aJ=p.aJ:=by induction p<;>simp_all [map,aJ]
theorem Ks (f:A->B)(p:T A):(p.map f).bd=p.bd:=by induction p<;>simp_all [map,bd]
theorem JW (f:A->B)(p:T A):(p.map f).rd=p.rd:=by induction p<;>simp_all [map,rd]
theorem Ka (f:A->B)(p:T A):(p.map f).ow=p.ow:=by induction p<;>simp_all [map,ow]
theorem oz {p:T A}{q:T B}(h:p.shp=q.shp):p.size=q.size:=by
 have :=Nz size h;simpa [shp,size_map]using this
theorem iJ {p:T A}{q:T B}(h:p.shp=q.shp):p.aJ=q.aJ:=by
 have :=Nz aJ h;simpa [shp,ET]using this
theorem Kx {p:T A}{q:T B}(h:p.shp=q.shp):p.bd=q.bd:=by
 have :=Nz bd h;simpa [shp,Ks]using this
theorem AJ {p:T A}{q:T B}(h:p.shp=q.shp):p.rd=q.rd:=by
 have :=Nz rd h;simpa [shp,JW]using this
theorem yl {p:T A}{q:T B}(h:p.shp=q.shp):p.ow=q.ow:=by
 have :=Nz ow h;simpa [shp,Ka]using this
theorem zw (p:T A):p.bd<=p.rd+p.ow:=by induction p<;>simp only [bd,rd,ow]<;>omega
theorem bP (p:T A):p.rd+p.ow+1<=p.size:=by induction p<;>simp only [size,rd,ow]<;>omega
end
theorem aV (p:P):p.text.length=p.aJ:=by
 induction p<;>simp_all [text,aJ]<;>omega
end T
def okn (k:Nat)(x:UInt8):Prop:=x.toNat< 128+k\/192<=x.toNat
theorem okn.mono {k m:Nat}{x:UInt8}(h:okn k x)(G:k<=m):okn m x:=by unfold okn at*;omega
def ngr (x:UInt8):Prop:=x.toNat< 65\/(90< x.toNat/\x.toNat< 192)
def Eb:Nat->P->Prop
 | _,.nil=>True
 | k,.snd a b p=>okn k a/\okn k b/\Eb k p
 | k,.rcv a x p=>okn k a/\(ngr x/\∀z,p.Fr z->z≠x->okn k z)/\Eb (k+1) p
 | k,.tau p=>Eb k p
 | k,.sum p q=>Eb k p/\Eb k q
 | k,.par p q=>Eb k p/\Eb k q
 | k,.res x p=>(ngr x/\∀z,p.Fr z->z≠x->okn k z)/\Eb (k+1) p
 | k,.mat a b p=>okn k a/\okn k b/\Eb k p
 | k,.rep p=>Eb k p
theorem Eb.free:∀{p:P} {k:Nat},Eb k p->∀z,p.Fr z->okn k z
 | .nil,_,_,_,h=>h.elim
 | .snd a b p,k,e,z,h=>by
  rcases h with rfl | rfl | h
  ·exact e.1
  ·exact e.2.1
  ·exact Eb.free e.2.2 z h
 | .mat a b p,k,e,z,h=>by
  rcases h with rfl | rfl | h
  ·exact e.1
  ·exact e.2.1
  ·exact Eb.free e.2.2 z h
 | .rcv a x p,k,e,z,h=>by
  rcases h with rfl | h
  ·exact e.1
  ·exact e.2.1.2 z h.2 h.1
 | .res x p,k,e,z,h=>e.1.2 z h.2 h.1
 | .tau p,k,e,z,h=>Eb.free (p:=p) e z h
 | .rep p,k,e,z,h=>Eb.free (p:=p) e z h
 | .sum p q,k,e,z,h=>h.elim (Eb.free e.1 z) (Eb.free e.2 z)
 | .par p q,k,e,z,h=>h.elim (Eb.free e.1 z) (Eb.free e.2 z)
theorem Eb.mono:∀{p:P} {k m:Nat},Eb k p->k<=m->Eb m p
 | .nil,_,_,_,_=>trivial
 | .snd a b p,k,m,e,h=>⟨e.1.mono h,e.2.1.mono h,Eb.mono e.2.2 h⟩
 | .mat a b p,k,m,e,h=>⟨e.1.mono h,e.2.1.mono h,Eb.mono e.2.2 h⟩
 | .rcv a x p,k,m,e,h=>⟨e.1.mono h,⟨e.2.1.1,λz G H=>(e.2.1.2 z G H).mono h⟩,Eb.mono e.2.2 (by omega)⟩
 | .res x p,k,m,e,h=>⟨⟨e.1.1,λz G H=>(e.1.2 z G H).mono h⟩,Eb.mono e.2 (by omega)⟩
 | .tau p,k,m,e,h=>Eb.mono (p:=p) e h
 | .rep p,k,m,e,h=>Eb.mono (p:=p) e h
 | .sum p q,k,m,e,h=>⟨Eb.mono e.1 h,Eb.mono e.2 h⟩
 | .par p q,k,m,e,h=>⟨Eb.mono e.1 h,Eb.mono e.2 h⟩
theorem mW {k:Nat}{c:UInt8}(h:lt c=true):okn k c:=by
 simp only [lt,Mp,Mz]at h;have H:=ML.1 h.2;have G:(122:UInt8).toNat=122:=rfl;left;omega
theorem aC.free {p q:P}{old nm:UInt8}(h:aC p old nm q)(z:UInt8)(H:q.Fr z):z=nm\/(z≠old/\p.Fr z)\/(z=old/\p.Fr z/\old=nm):=by
 obtain⟨y,J,e⟩:=(h UInt8.toNat).symm.free z H;unfold aI at e;split at e
 ·left;exact(MQ.1 e).symm
 ·rename_i G;have:y=z:=MQ.1 e;subst this;exact .inr (.inl ⟨G,J⟩)
structure gY (k:Nat)(p:P)(old nm:UInt8)(q:P):Prop where
 ok:aC p old nm q
 shp:q.shp=p.shp
 wf:q.wf=true
 eb:Eb k q
end Go.Proofs.YtdecokaadekjnaaGreat
namespace Go.Proofs.YtdecokaadekjnaaGreat
open Go Go.RowKit
theorem ka {c old nm:UInt8}{w:World}{R:UInt8->PV}(h:R (sw c old nm) w):PW 192 #[.int .u8 c.toNat,.int .u8 old.toNat,.int .u8 nm.toNat] w (aw [.c] R):=by
 refine tK c old nm w R ?_;dsimp only [go_sem];dsimp only [go_sem,UInt8.reduceOfNat,UInt32.reduceOfNat,Nat.reduceAdd];unfold sw at h;refine⟨λG=>?_,λG=>?_⟩
 ·rw [MZ (MN G)]at h;exact h
 ·rw [MJ (MO G)]at h;exact h
def T.bindC:P->UInt8
 | .rcv _ x _=>x | .res x _=>x | _=>0
def T.qh:P->Bool
 | .rcv .. =>true | .res .. =>true | _=>false
theorem pO {t:P}(ok:Ok t){w:World}{R:UInt8->Bool->PV}(h:R t.bindC t.qh w):PW 118 #[.string (ax t.text)] w (aw [.c,.b] R):=by
 refine qy _ w R ?_;dsimp only [go_sem];dsimp only [go_sem,UInt8.reduceOfNat,UInt32.reduceOfNat,Nat.reduceAdd];refine aP ok ?_;cases t<;>simp only [T.kind]<;>repeat' first | refine aT (by decide) ?_ | refine cN (by decide) ?_
 all_goals first
  | exact h
  | (refine⟨by simp only [T.text,Mm];omega,?_⟩;exact h)
def T.names:P->Tx
 | .snd a b _=>[a,b] | .rcv a _ _=>[a] | .mat a b _=>[a,b] | _=>[]
theorem Ee {t:P}(ok:Ok t){w:World}{R:aF->PV}(h:∀w',Ex w w'->R t.names w'):PW 247 #[.string (ax t.text)] w (aw [.s] R):=by
 refine qF _ w R ?_;dsimp only [go_sem];dsimp only [go_sem,UInt8.reduceOfNat,UInt32.reduceOfNat,Nat.reduceAdd];refine aP ok ?_;cases t<;>simp only [T.kind]<;>repeat' first | refine aT (by decide) ?_ | refine cN (by decide) ?_
 case nil=>exact h w (Ex.refl w)
 case tau=>exact h w (Ex.refl w)
 case sum=>exact h w (Ex.refl w)
 case par=>exact h w (Ex.refl w)
 case res=>exact h w (Ex.refl w)
 case rep=>exact h w (Ex.refl w)
 case rcv=>exact⟨by simp only [T.text,Mm];omega,h w (Ex.refl w)⟩
 case snd=>exact⟨λ _=>True,λw1 G=>⟨trivial,by simp only [T.text,Mm];omega,by simp only [T.text,Mm];omega,by simp [T.text],h w1 (G▸Ex.drew w)⟩⟩
 case mat=>exact⟨λ _=>True,λw1 G=>⟨trivial,by simp only [T.text,Mm];omega,by simp only [T.text,Mm];omega,by simp [T.text],h w1 (G▸Ex.drew w)⟩⟩
theorem EU (t:P)(x:UInt8):t.Fr x↔x∈t.names\/(∃p∈t.parts,p.Fr x)/\¬(t.qh=true/\x=t.bindC):=by
 cases t<;>simp [T.Fr,T.names,T.parts,T.qh,T.bindC,Pm,and_comm]
theorem jE.nil:jE []:=List.Pairwise.nil
theorem jE.filter {s:Tx}(h:jE s)(f:UInt8->Bool):jE (s.filter f):=Oo (List.filter_sublist) h
theorem iF:∀(n:Nat) {t:P},t.size<=n->Ok t->∀{w:World} {R:aF->PV},(∀s w',Ex w w'->jE s->(∀x,x∈s↔t.Fr x)->R s w')->PW 76 #[.string (ax t.text)] w (aw [.s] R):=by
 intro n
 induction n with
 | zero=>intro t h;have :=aY t;omega
 | succ n ih=>
  intro t hn ok w R h;refine sg _ w R ?_;dsimp only [go_sem];dsimp only [go_sem,UInt8.reduceOfNat,UInt32.reduceOfNat,Nat.reduceAdd];refine cO ok λv w1 hx hs=>?_
  obtain⟨a,cap,hv⟩:=hs.slice;rw [MM]at hv;refine⟨a,t.parts.length,cap,hv,λout x w'=>Ex w w'/\Strs w' v (t.parts.map T.text)/\jE out/\∃k:Nat,x=k/\k<=t.parts.length/\∀x,x∈out↔∃p∈t.parts.take k,p.Fr x,λ _ x _=>((t.parts.length:Int) - x).toNat,
   ⟨hx,hs,jE.nil,0,rfl,by omega,by simp⟩,λout x w2 hI=>?_⟩
  obtain⟨γ,ν,Z,k,rfl,hk,hm⟩:=hI;refine⟨λhc=>?_,λhc=>?_⟩
  ·have H:k< t.parts.length:=by simpa using hc
   obtain⟨b,o,cp,e1,e2,e3⟩:=ν.at (i:=k) (by rw [MM];exact H);rw [MM]at e1;refine⟨b,o,t.parts.length,cp,e1,by omega,by omega,(t.parts[k]).text,?_,?_⟩
   ·rw [Mv,MW,e3,Pz]
   ·have β:t.parts[k]∈t.parts:=Mx H;refine ih (by have :=dO β;omega) (ok.parts _ β) λs w3 α ο δ=>?_
    refine iX Z (by have :=ο.bound;omega) λs' w4 J V W=>?_
    have h3:=dN t;refine⟨by omega,⟨(γ.trans α).trans J,(ν.ex α).ex J,V,k+1,by omega,H,λx=>?_⟩,by dsimp only;omega⟩;rw [W,hm,δ,List.take_succ_eq_append_getElem H];simp only [My,MA];constructor
    ·rintro(⟨p,hp,hf⟩ | hf)
     ·exact⟨p,.inl hp,hf⟩
     ·exact⟨_,.inr rfl,hf⟩
    ·rintro⟨p,hp | rfl,hf⟩
     ·exact .inl ⟨p,hp,hf⟩
     ·exact .inr hf
  ·have H:k=t.parts.length:=by simp at hc;omega
   subst H;rw [MR]at hm;refine⟨λout w'=>Ex w w'/\jE out/\∀x,x∈out↔(∃p∈t.parts,p.Fr x)/\¬(t.qh=true/\x=t.bindC),pO ok ⟨λhb=>?_,λhb=>?_⟩,λξ w3 hJ=>?_⟩
   ·refine zr (by have :=Z.bound;omega) ⟨γ,Z.filter _,λx=>?_⟩;simp [hm,hb]
   ·exact⟨γ,Z,λx=>by simp [hm,hb]⟩
   obtain⟨α,G,δ⟩:=hJ;refine aP ok ?_;have done:∀s w',Ex w3 w'->jE s->(∀x,x∈s↔x∈t.names\/x∈ξ)->R s w':=λs w' J V W=>h s w' (α.trans J) V λx=>by rw [W,δ,EU]
   cases t<;>simp only [T.kind]<;>repeat' first | refine aT (by decide) ?_ | refine cN (by decide) ?_
   case nil=>exact done _ _ (Ex.refl _) G λx=>by simp [T.names]
   case tau=>exact done _ _ (Ex.refl _) G λx=>by simp [T.names]
   case sum=>exact done _ _ (Ex.refl _) G λx=>by simp [T.names]
   case par=>exact done _ _ (Ex.refl _) G λx=>by simp [T.names]
   case res=>exact done _ _ (Ex.refl _) G λx=>by simp [T.names]
   case rep=>exact done _ _ (Ex.refl _) G λx=>by simp [T.names]
   case rcv a x p=>
    refine⟨by simp only [T.text,Mm];omega,eU G λs w4 J V W=>done s w4 J V λx=>?_⟩;rw [W];simp [T.names,T.text,bt]
   case snd a b p=>
    refine⟨λ _=>True,λw4 ε=>⟨trivial,by simp only [T.text,Mm];omega,by simp only [T.text,Mm];omega,eU G λs w5 ζ η θ=>⟨trivial,eU η λs' w6 ι κ μ=>⟨trivial,done s' w6 (((ε▸Ex.drew w3).trans ζ).trans ι) κ λx=>?_⟩⟩⟩⟩;rw [μ,θ];simp [T.names,T.text,bt,Pm,or_left_comm]
   case mat a b p=>
    refine⟨λ _=>True,λw4 ε=>⟨trivial,by simp only [T.text,Mm];omega,by simp only [T.text,Mm];omega,eU G λs w5 ζ η θ=>⟨trivial,eU η λs' w6 ι κ μ=>⟨trivial,done s' w6 (((ε▸Ex.drew w3).trans ζ).trans ι) κ λx=>?_⟩⟩⟩⟩;rw [μ,θ];simp [T.names,T.text,bt,Pm,or_left_comm]
structure qe (w:World)(b:Nat)(l:Tx):Prop where
 lt:b< w.heap.size
 cell:∀j,j< l.length->w.cell? ⟨b,j,none⟩=some (.int .u8 (bt l j).toNat)
 fz:∀j,j< l.length->w.frozen? ⟨b,j,none⟩=false
theorem qe.Fp {w:World}{el b:Nat}{l:Tx}(h:wB w el b l):qe w b l:=by
 obtain⟨cur,lo,hi,G,J,V,h4⟩:=h;have hb:b< w.heap.size:=by
  rcases N2 b w.heap.size with h | h
  ·exact h
  ·rw [Array.getElem?_eq_none h]at G;cases G
 refine⟨hb,λj H=>?_,λj H=>?_⟩
 ·unfold World.cell?;rw [G];have e:=Nz (λl=>l[j]?) J;simp only [dw,O1,H,Ol,Oy,Mo H,N8]at e;simp only [Option.isSome_none,Ot,Pk];rw [<-N0,e];simp [bt,H]
 ·unfold World.frozen?;rw [G];simp;omega
theorem qe.ex {w w':World}{b:Nat}{l:Tx}(h:qe w b l)(k:Ex w w'):qe w' b l:=
 ⟨MP h.lt k.size,λj G=>by rw [k.cell h.lt];exact h.cell j G,λj G=>by rw [N4 k h.lt];exact h.fz j G⟩
theorem JO {l:Tx}{i j:Nat}{c:UInt8}(hi:i< l.length):bt (l.set i c) j=if i=j then c else bt l j:=by
 simp only [bt,List.getD_eq_getElem?_getD,List.getElem?_set];by_cases h:i=j
 ·subst h;simp [hi]
 ·simp [h]
theorem qe.set {w:World}{b:Nat}{l:Tx}(h:qe w b l){i:Nat}(hi:i< l.length)(c:UInt8):qe (w.setCell ⟨b,i,none⟩ (.int .u8 c.toNat)) b (l.set i c):=by
 refine⟨by rw [M9];exact h.lt,λj G=>?_,λj G=>?_⟩
 ·rw [NU]at G;rw [JO hi];by_cases e:i=j
  ·subst e;rw [MZ rfl,MI _ _ _ (h.cell i hi)]
  ·rw [MJ e,Mr _ _ _ _ (by simp [e])];exact h.cell j G
 ·rw [MG];exact h.fz j (by simpa using G)
theorem qe.read {w:World}{b:Nat}{l:Tx}(h:qe w b l):∀(j:Nat) (x:UInt8),l[j]?=some x->w.cell? ⟨b,0+j,none⟩=some (.int .u8 x.toNat):=by
 intro j x H;obtain⟨G,e⟩:=No.1 H;rw [MX,h.cell j G];simp [bt,G,e]
theorem qe.at {w:World}{b:Nat}{l:Tx}(h:qe w b l){i:Nat}(hi:i< l.length):w.cell? ⟨b,0+i* 1,none⟩=some (.int .u8 (bt l i).toNat):=by
 rw [MX,MW];exact h.cell i hi
theorem Ex.own {w w':World}(h:Ex w w'){b i:Nat}(hb:w.heap.size<=b)(v:Value):Ex w (w'.setCell ⟨b,i,none⟩ v):=Below.setCell h hb v
theorem GM {t:P}(ok:Ok t){v:Value}{l:List Tx}{w:World}(hs:Strs w v l){R:aF->PV}
  (μ:(t.kind=43\/t.kind=38)->∃x y,l=[x,y]/\x.length+y.length<=1099511627776/\∀w',Ex w w'->R (40::(x++t.kind::(y++[41]))) w')
  (ν:t.kind=48->R [48] w)
  (ξ:t.kind≠48->t.kind≠43->t.kind≠38->∃x,l=[x]/\x.length<=1099511627776/\∀w',Ex w w'->R (t.text.take t.hd++x) w'):
  PW 193 #[.string (ax t.text),v] w (aw [.s] R):=by
 refine rS _ v w R ?_;dsimp only [go_sem];dsimp only [go_sem,UInt8.reduceOfNat,UInt32.reduceOfNat,Nat.reduceAdd];refine aP ok ?_;have two:∀(k:UInt8),(t.kind=k)->(k=43\/k=38)->∃S5:PV,∀w6:World,w6=World.drew w->S5 w6/\∃(b7 o8 γ ε:Nat),v=Value.slice (some ⟨b7,o8,none⟩) γ ε/\0<=(0:Int)/\(0:Int)< γ/\∃H:aF,(∀w',S5 w'->World.cell? w' ⟨b7,(o8+Int.toNat 0* 1),none⟩=some (Value.string (ax H)))/\(List.length [(40:UInt8)]+List.length H<=4611686018427387904)/\(List.length ([(40:UInt8)]++H)+List.length [k]<=4611686018427387904)/\∃(ο ς J ζ:Nat),v=Value.slice (some ⟨ο,ς,none⟩) J ζ/\0<=(1:Int)/\(1:Int)< J/\∃α:aF,(∀w',S5 w'->World.cell? w' ⟨ο,(ς+Int.toNat 1* 1),none⟩=some (Value.string (ax α)))/\(List.length (([(40:UInt8)]++H)++[k])+List.length α<=4611686018427387904)/\(List.length ((([(40:UInt8)]++H)++[k])++α)+List.length [(41:UInt8)]<=4611686018427387904)/\R ((((([(40:UInt8)]++H)++[k])++α)++[(41:UInt8)])) w6:=by
  intro k hk ψ;obtain⟨x,y,rfl,hl,hR⟩:=μ (hk▸ψ);refine⟨λw'=>Strs w' v [x,y],λw6 V=>?_⟩;have h6:Strs w6 v [x,y]:=V▸hs.ex (Ex.drew w);obtain⟨b,o,cap,e1,e2,_⟩:=h6.at (i:=0) (by simp);refine⟨h6,b,o,2,cap,e1,by omega,by omega,x,λw' W=>?_,by simp;omega,by simp;omega,b,o,2,cap,e1,by omega,by omega,y,λw' W=>?_,by simp;omega,by simp;omega,?_⟩
  ·obtain⟨b',o',δ,G,_,e3⟩:=W.at (i:=0) (by simp);rw [e1]at G;cases G;exact e3
  ·obtain⟨b',o',δ,G,_,e3⟩:=W.at (i:=1) (by simp);rw [e1]at G;cases G;exact e3
  ·have :=hR w6 (V▸Ex.drew w);rw [hk]at this;simpa using this
 have one:t.kind≠48->t.kind≠43->t.kind≠38->∃η:PV,∀θ:World,θ=World.drew w->η θ/\∃(υ φ Z ι:Nat),v=Value.slice (some ⟨υ,φ,none⟩) Z ι/\0<=(0:Int)/\(0:Int)< Z/\∃κ:aF,(∀w',η w'->World.cell? w' ⟨υ,(φ+Int.toNat 0* 1),none⟩=some (Value.string (ax κ)))/\PW 165 #[(Value.string (ax t.text))] θ (aw [.i] fun(β:Int) (χ:World)=>η χ/\(0<=(β:Int)/\(β:Int)<=List.length t.text)/\(List.length (List.take (Int.toNat β) t.text)+List.length κ<=4611686018427387904)/\R (((List.take (Int.toNat β) t.text)++κ)) χ):=by
  intro h1 h2 h3;obtain⟨x,rfl,hl,hR⟩:=ξ h1 h2 h3;refine⟨λw'=>Strs w' v [x],λw6 V=>?_⟩;have h6:Strs w6 v [x]:=V▸hs.ex (Ex.drew w);obtain⟨b,o,cap,e1,e2,_⟩:=h6.at (i:=0) (by simp);have hlen:=ok.len;have hd:t.hd<=t.text.length:=by
   cases t<;>simp only [T.kind,ne_eq,Pq]at h1<;>simp only [T.hd,T.text,Mm]<;>omega
  refine⟨h6,b,o,1,cap,e1,by omega,by omega,x,λw' W=>?_,cJ ok ⟨h6,by omega,?_,?_⟩⟩
  ·obtain⟨b',o',δ,G,_,e3⟩:=W.at (i:=0) (by simp);rw [e1]at G;cases G;exact e3
  ·rw [M5];omega
  ·rw [Mv];exact hR w6 (V▸Ex.drew w)
 refine⟨λh=>?_,λh=>⟨λh2=>two 43 (MN h2) (.inl rfl),λh2=>⟨λh3=>two 38 (MN h3) (.inr rfl),λh3=>one (MO h) (MO h2) (MO h3)⟩⟩⟩;have hk:=MN h;have :=ν hk;cases t<;>first | exact this | (exact absurd hk (by simp [T.kind]))
theorem si.ok {s:Tx}{c:UInt8}(h:si s c){k:Nat}(hk:k<=63)(W:∀d∈s,okn k d):c∉s/\okn (k+1) c/\nm c=true/\ngr c:=by
 rcases h with h | ⟨_,H,Z,h3,h4⟩
 ·have hm:=O4 h;have hp:=List.find?_some h;have G:lt c=true:=by
   obtain⟨i,hi,rfl⟩:=Nb.1 hm;rw [NV]at hi;have e:(UInt8.ofNat (97+i)).toNat=97+i:=by rw [NB];omega
   simp only [lt,Mp,Mz];exact⟨ML.2 (by rw [e];show 97<=_;omega),ML.2 (by rw [e];show _<=122;omega)⟩
  refine⟨by simpa using hp,mW G,(gF G).1,?_⟩;simp only [lt,Mp,Mz]at G;have H:=ML.1 G.1;have Z:=ML.1 G.2;have δ:(97:UInt8).toNat=97:=rfl;have α:(122:UInt8).toNat=122:=rfl;unfold ngr;omega
 ·have ε:=ML.1 H;have ζ:=ML.1 Z;have β:(128:UInt8).toNat=128:=rfl;have γ:(191:UInt8).toNat=191:=rfl;have hle:c.toNat<=128+k:=by
   rcases N2 (128+k) c.toNat with J | V
   ·exfalso;have e:(UInt8.ofNat (128+k)).toNat=128+k:=by rw [NB];omega
    have hm:=h3 (UInt8.ofNat (128+k)) (ML.2 (by rw [e];omega)) (Nf.2 (by rw [e];exact J));have :=W _ hm;unfold okn at this;rw [e]at this;omega
   ·exact V
  refine⟨?_,.inl (by omega),?_,by unfold ngr;omega⟩
  ·rcases h4 with h4 | h4
   ·exact h4
   ·intro hm;have :=W _ hm;unfold okn at this;subst h4;omega
  ·simp [nm,H]
def T.rebind (t:P)(old nw y:UInt8)(q:P):P:=match t with
 | .rcv a _ _=> .rcv (sw a old nw) y q
 | _=> .res y q
theorem zv {c old nw:UInt8}(G:nm c=true)(H:nm nw=true):nm (sw c old nw)=true:=by
 unfold sw;split<;>assumption
theorem sW {k:Nat}{c old nw:UInt8}(G:okn k c)(H:okn k nw):okn k (sw c old nw):=by
 unfold sw;split<;>assumption
structure Jv (k:Nat)(t:P)(old nw:UInt8)(p:P):Prop where
 drop:t.text.drop t.hd=p.text
 ok:Ok p
 size:p.size< t.size
 eb:Eb (k+1) p
 bd:p.bd+1=t.bd
 okz:∀z,p.Fr z->z≠t.bindC->okn k z
 nmc:nm t.bindC=true
 ngc:ngr t.bindC
 under:∀q,t.bindC≠old->(t.bindC≠nw\/¬p.Fr old)->aC p old nw q->aC t old nw (t.rebind old nw t.bindC q)
 cap:∀y p1 p2,t.bindC=nw->nw≠old->¬p.Fr y->y≠old->y≠nw->aC p nw y p1->aC p1 old nw p2->aC t old nw (t.rebind old nw y p2)
 over:t.bindC=old->t.Fr old->aC t old nw (t.rebind old nw old p)
 fin:∀y q,aC t old nw (t.rebind old nw y q)->q.shp=p.shp->q.wf=true->nm y=true->ngr y->Eb (k+1) q->gY k t old nw (t.rebind old nw y q)
theorem Du {k:Nat}{t:P}{old nw:UInt8}(ok:Ok t)(eb:Eb k t)(hn:nm nw=true)(kn:okn k nw)(hb:t.qh=true):∃p,Jv k t old nw p:=by
 have hw:=ok.wf;have hl:=ok.len;have fr:∀q,aC t old nw q->∀z,q.Fr z->okn k z:=λq h z W=>by
  rcases h.free z W with rfl | h | h
  ·exact kn
  ·exact eb.free z h.2
  ·exact eb.free z h.2.1
 cases t with
 | rcv a x p=>
  simp only [T.wf,Mp]at hw;simp only [T.text,Mm]at hl;refine⟨p,rfl,⟨hw.2,by omega⟩,by simp only [T.size];omega,eb.2.2,rfl,eb.2.1.2,hw.1.2,eb.2.1.1,λq G H J=>aC.DD a G H J,λy p1 p2 G H J h4 h5 Z h7=>?_,λG H=>?_,λy q G H J h4 hg h5=>⟨G,?_,?_,?_⟩⟩
  ·have G:x=nw:=G;subst G;exact aC.Il a H J h4 h5 Z h7
  ·have G:x=old:=G;subst G;exact aC.G5 a
  ·show T.rcv () () q.shp=T.rcv () () p.shp;rw [H]
  ·simp [T.rebind,T.wf,zv hw.1.1 hn,J,h4]
  ·exact⟨sW eb.1 kn,⟨hg,λz W V=>fr _ G z (.inr ⟨V,W⟩)⟩,h5⟩
 | res x p=>
  simp only [T.wf,Mp]at hw;simp only [T.text,Mm]at hl;refine⟨p,rfl,⟨hw.2,by omega⟩,by simp only [T.size];omega,eb.2,rfl,eb.1.2,hw.1,eb.1.1,λq G H J=>aC.DP G H J,λy p1 p2 G H J h4 h5 Z h7=>?_,λG H=>?_,λy q G H J h4 hg h5=>⟨G,?_,?_,?_⟩⟩
  ·have G:x=nw:=G;subst G;exact aC.HN H J h4 h5 Z h7
  ·have G:x=old:=G;exact absurd G.symm H.1
  ·show T.res () q.shp=T.res () p.shp;rw [H]
  ·simp [T.rebind,T.wf,J,h4]
  ·exact⟨⟨hg,λz W V=>fr _ G z ⟨V,W⟩⟩,h5⟩
 | _=>cases hb
theorem tL {w w':World}(h:w.grownBy w' none):Ex w w':=Below.grown (Pg _ _) h (Mu _) (λk G=>by cases G)
theorem JD {t:P}(h:t.kind≠48):t.hd<=t.text.length:=by
 cases t<;>simp only [T.kind,ne_eq,Pq]at h<;>simp only [T.hd,T.text,Mm]<;>omega
theorem pQ {w1:World}(c d:UInt8){w2:World}{b:Nat}(hb:b=w1.heap.size)(h:w2=w1.alloc (.cells #[.int .u8 c.toNat,.int .u8 d.toNat] 5)):
  b< w2.heap.size/\∀(j:Nat) (x:UInt8),[c,d][j]?=some x->w2.cell? ⟨b,0+j,none⟩=some (.int .u8 x.toNat):=by
 subst hb h;refine⟨by rw [size_alloc];omega,λj x G=>?_⟩;rw [MX]
 match j,G with
 | 0,G=>simp at G;subst G;exact aa rfl
 | 1,G=>simp at G;subst G;exact aa rfl
 | j+2,G=>simp at G
theorem gY.refl {k:Nat}{t:P}{old nw:UInt8}(h:aC t old nw t)(ok:Ok t)(eb:Eb k t):gY k t old nw t:=⟨h,rfl,ok.wf,eb⟩
theorem gY.Ay {k:Nat}{t:P}{old nw:UInt8}{q:P}(h:gY k t old nw q)(ok:Ok t):Ok q:=⟨h.wf,by rw [T.aV,T.iJ h.shp,<-T.aV];exact ok.len⟩
theorem gC:∀(n:Nat) {t:P} {k:Nat} {old nw:UInt8},t.size<=n->Ok t->Eb k t->k+t.bd<=64->nm nw=true->okn k nw->
  ∀{w:World} {R:aF->PV},(∀q w',Ex w w'->gY k t old nw q->R q.text w')->PW 153 #[.string (ax t.text),.int .u8 old.toNat,.int .u8 nw.toNat] w (aw [.s] R):=by
 intro n
 induction n with
 | zero=>intro t k old nw h;have :=aY t;omega
 | succ n ih=>
  intro t k old nw hn ok eb hbd μ ε w R h;refine pD _ old nw w R ?_;dsimp only [go_sem];dsimp only [go_sem,UInt8.reduceOfNat,UInt32.reduceOfNat,Nat.reduceAdd];refine⟨λhne=>?_,λhe=>by
   have he:=MN he;subst he;exact h t w (Ex.refl w) (.refl (aC.same old) ok eb)⟩
  have hne:old≠nw:=MO hne;refine iF _ (Mu _) ok λs w1 hx1 hs1 hm1=>ia (by have :=hs1.bound;omega) ⟨λW=>?_,λW=>?_⟩
  ·have W:¬t.Fr old:=by
    rw [<-hm1];simpa using W
   exact h t w1 hx1 (.refl (aC.skip W) ok eb)
  have hfr:t.Fr old:=by rw [<-hm1];simpa using W
  have hk0:t.kind≠48:=by cases t<;>first | exact hfr.elim | simp [T.kind]
  have hhd:=JD hk0;have hlen:=ok.len;refine cJ ok ⟨by omega,λb cap w2 hb hrow hgr=>?_⟩;rw [Mv]at hrow|-;have ς:Ex w w2:=hx1.trans (tL hgr);have α:=qe.Fp hrow;have ψ:w.heap.size<=b:=by rw [hb];exact hx1.size
  have Z:(t.text.take t.hd).length=t.hd:=by rw [M5];omega
  refine pO ok ⟨λhq2=>?_,λhq2=>?_⟩
  ·
   obtain⟨p,B⟩:=Du (nw:=nw) (old:=old) ok eb μ ε hq2;have hszp:=B.size;have hbdp:=B.bd;refine⟨some ⟨b,0,none⟩,(t.text.take t.hd).length,cap,rfl,by omega,?_⟩;rw [Z,Mv,B.drop];refine⟨λpart x w'=>Ex w w'/\qe w' b (t.text.take t.hd)/\∃p1:P,part=p1.text/\p1.shp=p.shp/\Ok p1/\Eb (k+1) p1/\(nm x=true/\ngr x)/\
    ((x=t.bindC/\p1=p/\(x≠nw\/¬p.Fr old))\/(t.bindC=nw/\¬p.Fr x/\x≠old/\x≠nw/\aC p nw x p1)),⟨λhc=>?_,λhc=>?_⟩,λpart x w3 hJ=>?_⟩
   ·have hc:=MN hc;refine iF _ (Mu _) B.ok λs3 w3 ζ ω hm3=>ia (by have :=ω.bound;omega) ⟨λhq3=>?_,λhq3=>?_⟩
    ·have hfo:p.Fr old:=by rw [<-hm3];simpa using hq3
     have fin:∀(w':World),Ex w3 w'->∀s4,jE s4->(∀x,x∈s4↔p.Fr x\/x∈[old,nw])->∀y,si s4 y->(Ex w w'/\qe w' b (t.text.take t.hd))/\(¬p.Fr y/\y≠old/\y≠nw/\okn (k+1) y/\nm y=true/\ngr y):=by
      intro w' hx' s4 hs4 hm4 y hy;have hall:∀d∈s4,okn k d:=by
       intro d hd;rcases(hm4 d).1 hd with hd | hd
       ·by_cases hz:d=t.bindC
        ·rw [hz,hc];exact ε
        ·exact B.okz d hd hz
       ·simp only [MH,OW,Px]at hd;rcases hd with rfl | rfl
        ·exact eb.free _ hfr
        ·exact ε
      obtain⟨h1,h2,h3⟩:=hy.ok (by omega) hall;rw [hm4]at h1;simp only [MH,OW,Px,PT]at h1;exact⟨⟨(ς.trans ζ).trans hx',(α.ex ζ).ex hx'⟩,h1.1,h1.2.1,h1.2.2,h2,h3⟩
     refine⟨λy w'=>(Ex w w'/\qe w' b (t.text.take t.hd))/\(¬p.Fr y/\y≠old/\y≠nw/\okn (k+1) y/\nm y=true/\ngr y),⟨λw'=>True,λw4 υ=>⟨trivial,?_,λb2 w5 hb2 H=>⟨trivial,?_,?_⟩⟩⟩,λy w4 hJ=>?_⟩
     ·have V:Ex w3 w4:=υ▸Ex.drew w3;refine iF _ (Mu _) B.ok λs5 w5 J hs5 hm5=>⟨trivial,λb2 w6 hb2 β=>⟨trivial,b2,0,2,2,[old,nw],rfl,rfl,(pQ old nw hb2 β).2,trivial,?_⟩⟩
      refine iX hs5 (by simp) λs7 w7 ο ν hm7=>⟨trivial,iK (by have :=ν.bound;omega) λy hy=>⟨trivial,?_⟩⟩
      exact fin w7 (((V.trans J).trans (β▸Ex.alloc w5 _)).trans ο) s7 ν (λx=>by rw [hm7,hm5]) y hy
     ·have V:Ex w3 w4:=υ▸Ex.drew w3;have J:Ex w4 w5:=H▸Ex.alloc w4 _;obtain⟨G,hc5⟩:=pQ old nw hb2 H;refine iF _ (Mu _) B.ok λs6 w6 η hs6 hm6=>⟨trivial,b2,0,2,2,[old,nw],rfl,rfl,λj x hj=>by rw [η.cell G];exact hc5 j x hj,trivial,?_⟩
      refine iX hs6 (by simp) λs7 w7 ο ν hm7=>⟨trivial,iK (by have :=ν.bound;omega) λy hy=>⟨trivial,?_⟩⟩
      exact fin w7 (((V.trans J).trans η).trans ο) s7 ν (λx=>by rw [hm7,hm6]) y hy
     ·have V:Ex w3 w4:=υ▸Ex.drew w3;have J:Ex w4 w5:=H▸Ex.alloc w4 _;obtain⟨G,hc5⟩:=pQ old nw hb2 H;refine⟨b2,0,2,2,[old,nw],rfl,rfl,hc5,trivial,?_⟩;refine iF _ (Mu _) B.ok λs6 w6 η hs6 hm6=>⟨trivial,?_⟩
      refine iX hs6 (by simp) λs7 w7 ο ν hm7=>⟨trivial,iK (by have :=ν.bound;omega) λy hy=>⟨trivial,?_⟩⟩
      exact fin w7 (((V.trans J).trans η).trans ο) s7 ν (λx=>by rw [hm7,hm6]) y hy
     ·obtain⟨⟨J,G⟩,hy1,hy2,hy3,hy4,hy5,hy6⟩:=hJ;refine ih (by omega) B.ok B.eb (by omega) hy5 hy4 λq w6 η W=>⟨J.trans η,G.ex η,q,rfl,W.shp,W.Ay B.ok,W.eb,⟨hy5,hy6⟩,.inr ⟨hc,hy1,hy2,hy3,?_⟩⟩
      rw [<-hc];exact W.ok
    ·have hfo:¬p.Fr old:=by rw [<-hm3];simpa using hq3
     exact⟨ς.trans ζ,α.ex ζ,p,rfl,rfl,B.ok,B.eb,⟨B.nmc,B.ngc⟩,.inl ⟨rfl,rfl,.inr hfo⟩⟩
   ·have hc:=MO hc;exact⟨ς,α,p,rfl,rfl,B.ok,B.eb,⟨B.nmc,B.ngc⟩,.inl ⟨rfl,rfl,.inl hc⟩⟩
   ·obtain⟨ζ,hb3,p1,rfl,hsh1,ok1,eb1,hnx,hmid⟩:=hJ;refine⟨λpart w'=>Ex w w'/\qe w' b (t.text.take t.hd)/\∃p2:P,part=p2.text/\p2.shp=p.shp/\Ok p2/\Eb (k+1) p2/\aC t old nw (t.rebind old nw x p2),⟨λhc=>?_,λhc=>?_⟩,λpart w4 hJ=>?_⟩
    ·have hc:x≠old:=by simpa using hc
     refine ih (by have :=T.oz hsh1;omega) ok1 eb1 (by have :=T.Kx hsh1;omega) μ (ε.mono (by omega)) λq w5 J W=>⟨ζ.trans J,hb3.ex J,q,rfl,W.shp.trans hsh1,W.Ay ok1,W.eb,?_⟩
     rcases hmid with⟨rfl,rfl,hu⟩ | ⟨h1,h2,h3,h4,h5⟩
     ·exact B.under q hc hu W.ok
     ·exact B.cap x p1 q h1 (PB hne) h2 h3 h4 h5 W.ok
    ·have hc:x=old:=by simpa using hc
     refine⟨ζ,hb3,p1,rfl,hsh1,ok1,eb1,?_⟩;rcases hmid with⟨h1,rfl,hu⟩ | ⟨h1,h2,h3,h4,h5⟩
     ·rw [hc];exact B.over (h1.symm.trans hc) hfr
     ·exact absurd hc h3
    ·obtain⟨V,hb4,p2,rfl,hsh2,ok2,eb2,hren⟩:=hJ;have hfin:=B.fin x p2 hren hsh2 ok2.wf hnx.1 hnx.2 eb2;have hok2:=ok2.len;refine⟨λw'=>Ex w w'/\∃l:Tx,qe w' b l/\l.length=t.hd/\l++p2.text=(t.rebind old nw x p2).text,aP ok ?_,λw5 hJ=>?_⟩
     ·cases t with
      | rcv a y p'=>
       simp only [T.kind];refine cN (by decide) ?_;have hl3:(3:Nat)<=4:=by omega
       refine⟨b,0,_,cap,rfl,by omega,by simp only [T.hd];omega,a,hb4.at (i:=0) (by rw [Z];simp only [T.hd];omega),ka ?_⟩;have l0:0< ((T.rcv a y p').text.take (T.rcv a y p').hd).length:=by rw [Z];simp only [T.hd];omega
       have l2:2< ((T.rcv a y p').text.take (T.rcv a y p').hd).length:=by rw [Z];simp only [T.hd];omega
       refine⟨b,0,_,cap,rfl,by omega,by omega,⟨⟨_,hb4.at (i:=0) l0⟩,?_⟩,λw5 H=>?_⟩
       ·exact hb4.fz 0 l0
       have G:=hb4.set (i:=0) l0 (sw a old nw);have H:w5=w4.setCell ⟨b,0,none⟩ (.int .u8 (sw a old nw).toNat):=H;rw [<-H]at G;have l2':2< (((T.rcv a y p').text.take (T.rcv a y p').hd).set 0 (sw a old nw)).length:=by rw [NU];exact l2
       refine⟨b,0,_,cap,rfl,by omega,by omega,⟨⟨_,G.at (i:=2) l2'⟩,?_⟩,λw6 β=>?_⟩
       ·exact G.fz 2 l2'
       have φ:=G.set (i:=2) l2' x;have β:w6=w5.setCell ⟨b,2,none⟩ (.int .u8 x.toNat):=β;rw [<-β]at φ;exact⟨β▸(Ex.own (H▸V.own ψ _) ψ _),_,φ,by rw [NU,NU,Z],rfl⟩
      | res y p'=>
       simp only [T.kind];refine aT (by decide) ?_;have l1:1< ((T.res y p').text.take (T.res y p').hd).length:=by rw [Z];simp only [T.hd];omega
       refine⟨b,0,_,cap,rfl,by omega,by omega,⟨⟨_,hb4.at (i:=1) l1⟩,?_⟩,λw5 H=>?_⟩
       ·exact hb4.fz 1 l1
       have G:=hb4.set (i:=1) l1 x;have H:w5=w4.setCell ⟨b,1,none⟩ (.int .u8 x.toNat):=H;rw [<-H]at G;exact⟨H▸(V.own ψ _),_,G,by rw [NU,Z],rfl⟩
      | _=>cases hq2
     ·obtain⟨J,l,G,hl5,e5⟩:=hJ;refine⟨b,0,_,cap,l,rfl,hl5,G.read,by omega,?_⟩;rw [e5];exact h _ _ J hfin
  ·
   have hw:=ok.wf;have fin:∀(p:P) (l:Tx) (mk:P->P),t.text.drop t.hd=p.text->Ok p->p.size<=n->Eb k p->k+p.bd<=64->l.length=t.hd->(∀q,gY k p old nw q->gY k t old nw (mk q)/\(mk q).text=l++q.text)->
     ∀w3,Ex w w3->qe w3 b l->∃χ:PV,∀ξ:World,ξ=World.drew w3->χ ξ/\∃(a212:Option Addr) (γ cap214:Nat),(Value.slice (some ⟨b,0,none⟩) (List.length (List.take t.hd t.text)) cap)=Value.slice a212 γ cap214/\(0<=((γ:Int):Int)/\((γ:Int):Int)<=List.length t.text)/\(∃(b215 o216 n217 cap218:Nat) (l219:aF),(Value.slice (some ⟨b,0,none⟩) (List.length (List.take t.hd t.text)) cap)=Value.slice (some ⟨b215,o216,none⟩) n217 cap218/\List.length l219=n217/\(∀(j:Nat) (x:UInt8),l219[j]?=some x->World.cell? ξ ⟨b215,o216+j,none⟩=some (Value.int IntKind.u8 (UInt8.toNat x)))/\χ ξ/\PW 153 #[(Value.string (ax (List.drop (Int.toNat (γ:Int)) t.text))),(Value.int IntKind.u8 (UInt8.toNat old)),(Value.int IntKind.u8 (UInt8.toNat nw))] ξ (aw [.s] fun(s220:aF) (w221:World)=>χ w221/\(List.length l219+List.length s220<=4611686018427387904)/\R ((l219++s220)) w221))/\(PW 153 #[(Value.string (ax (List.drop (Int.toNat (γ:Int)) t.text))),(Value.int IntKind.u8 (UInt8.toNat old)),(Value.int IntKind.u8 (UInt8.toNat nw))] ξ (aw [.s] fun(s222:aF) (w223:World)=>χ w223/\∃(b224 o225 n226 cap227:Nat) (l228:aF),(Value.slice (some ⟨b,0,none⟩) (List.length (List.take t.hd t.text)) cap)=Value.slice (some ⟨b224,o225,none⟩) n226 cap227/\List.length l228=n226/\(∀(j:Nat) (x:UInt8),l228[j]?=some x->World.cell? w223 ⟨b224,o225+j,none⟩=some (Value.int IntKind.u8 (UInt8.toNat x)))/\χ w223/\(List.length l228+List.length s222<=4611686018427387904)/\R ((l228++s222)) w223)):=by
    intro p l mk hdr okp hsz ebp hbp hll hmk w3 ζ hb3;refine⟨λ _=>True,λw4 υ=>⟨trivial,_,_,_,rfl,by rw [Z];omega,?_,?_⟩⟩
    ·have V:Ex w3 w4:=υ▸Ex.drew w3;rw [Z,Mv,hdr];refine⟨b,0,_,cap,l,rfl,hll,(hb3.ex V).read,trivial,ih hsz okp ebp hbp μ ε λq w5 J W=>⟨trivial,?_,?_⟩⟩
     ·have :=(W.Ay okp).len;omega
     ·obtain⟨h1,h2⟩:=hmk q W;rw [<-h2];exact h _ _ ((ζ.trans V).trans J) h1
    ·have V:Ex w3 w4:=υ▸Ex.drew w3;rw [Z,Mv,hdr];refine ih hsz okp ebp hbp μ ε λq w5 J W=>⟨trivial,b,0,_,cap,l,rfl,hll,((hb3.ex V).ex J).read,trivial,?_,?_⟩
     ·have :=(W.Ay okp).len;omega
     ·obtain⟨h1,h2⟩:=hmk q W;rw [<-h2];exact h _ _ ((ζ.trans V).trans J) h1
   have two:∀(p q:P) (mk:P->P->P),t.parts=[p,q]->(t.kind=43\/t.kind=38)->(∀p' q',gY k p old nw p'->gY k q old nw q'->gY k t old nw (mk p' q')/\(mk p' q').text=40::(p'.text++t.kind::(q'.text++[41]))/\Ok (mk p' q'))->Eb k p->Eb k q->k+p.bd<=64->k+q.bd<=64->
     PW 117 #[(Value.string (ax t.text))] w2 (aw [.v] fun(v165:Value) (w166:World)=>∃ι:PV,∀w168:World,w168=World.drew w166->ι w168/\∃(b169 o170 len171 cap172:Nat),v165=Value.slice (some ⟨b169,o170,none⟩) len171 cap172/\0<=(0:Int)/\(0:Int)< len171/\∃s173:aF,(∀w',ι w'->World.cell? w' ⟨b169,(o170+Int.toNat 0* 1),none⟩=some (Value.string (ax s173)))/\∃(b174 o175 len176 cap177:Nat),v165=Value.slice (some ⟨b174,o175,none⟩) len176 cap177/\0<=(1:Int)/\(1:Int)< len176/\∃s178:aF,(∀w',ι w'->World.cell? w' ⟨b174,(o175+Int.toNat 1* 1),none⟩=some (Value.string (ax s178)))/\PW 153 #[(Value.string (ax s173)),(Value.int IntKind.u8 (UInt8.toNat old)),(Value.int IntKind.u8 (UInt8.toNat nw))] w168 (aw [.s] fun(s179:aF) (w180:World)=>ι w180/\PW 153 #[(Value.string (ax s178)),(Value.int IntKind.u8 (UInt8.toNat old)),(Value.int IntKind.u8 (UInt8.toNat nw))] w180 (aw [.s] fun(s181:aF) (w182:World)=>ι w182
 /\∀(b183:Nat) (w184:World),b183=Array.size (World.heap w182)->w184=World.alloc w182 (Obj.cells #[(Value.string (ax s179)),(Value.string (ax s181))] 9)->ι w184/\PW 193 #[(Value.string (ax t.text)),(Value.slice (some ⟨b183,0,none⟩) 2 2)] w184 (aw [.s] fun(s185:aF) (w186:World)=>ι w186/\R (s185) w186)))):=by
    intro p q mk δ hkind hmk ebp ebq hbp hbq;refine cO ok λv w3 ζ ω=>?_
    rw [δ]at ω;have ω:Strs w3 v [p.text,q.text]:=ω;have okp:=ok.parts p (by rw [δ];simp);have okq:=ok.parts q (by rw [δ];simp);have szp:p.size< t.size:=dO (by rw [δ];simp);have szq:q.size< t.size:=dO (by rw [δ];simp);obtain⟨b3,o3,cap3,e1,e2,_⟩:=ω.at (i:=0) (by simp);have rd:∀w' (i:Nat) (x:Tx),Ex w3 w'->[p.text,q.text][i]?=some x->w'.cell? ⟨b3,o3+i* 1,none⟩=some (.string (ax x)):=by
     intro w' i x hx hi;obtain⟨hi',e⟩:=No.1 hi;obtain⟨b',o',cap',e1',_,e3⟩:=(ω.ex hx).at hi';rw [e1]at e1';cases e1';rw [MW,e3,e]
    refine⟨λw'=>Ex w3 w',λw4 υ=>?_⟩;have V:Ex w3 w4:=υ▸Ex.drew w3;refine⟨V,b3,o3,2,cap3,e1,by omega,by omega,p.text,λw' hx=>rd w' 0 _ hx rfl,b3,o3,2,cap3,e1,by omega,by omega,q.text,λw' hx=>rd w' 1 _ hx rfl,?_⟩;refine ih (by omega) okp ebp hbp μ ε λp' w5 J θ=>⟨V.trans J,ih (by omega) okq ebq hbq μ ε λq' w6 η κ=>⟨(V.trans J).trans η,λb7 w7 hb7 hw7=>?_⟩⟩
    have ο:Ex w6 w7:=hw7▸Ex.alloc w6 _;obtain⟨m1,m2,m3⟩:=hmk p' q' θ κ;refine⟨((V.trans J).trans η).trans ο,?_⟩;have ν:Strs w7 (.slice (some ⟨b7,0,none⟩) 2 2) [p'.text,q'.text]:=by
     refine .inr ⟨b7,0,2,rfl,by rw [hw7,size_alloc];omega,λi z hz=>?_⟩;rw [MX,hb7,hw7];refine aa ?_
     match i,hz with
     | 0,hz=>simp at hz|-;exact hz▸rfl
     | 1,hz=>simp at hz|-;exact hz▸rfl
     | i+2,hz=>simp at hz
    have hbase:Ex w w7:=(((ς.trans ζ).trans (V.trans J)).trans η).trans ο;refine GM ok ν (λ _=>⟨_,_,rfl,?_,λw8 hx8=>⟨?_,?_⟩⟩) (λh0=>absurd h0 hk0) λ _ h2 h3=>absurd hkind (by simp [h2,h3])
    ·have :=(θ.Ay okp).len;have e:=Nz List.length m2;have hml:=m3.len;simp only [Mm,Mt,MB]at e;omega
    ·exact(((V.trans J).trans η).trans ο).trans hx8
    ·rw [<-m2];exact h _ _ (hbase.trans hx8) m1
   cases t with
   | nil=>exact hfr.elim
   | rcv a x p=>cases hq2
   | res x p=>cases hq2
   | tau p=>
    simp only [T.wf]at hw;simp only [T.text,Mm]at hlen;refine⟨λw'=>Ex w w'/\qe w' b [126,46],aP ok ?_,λw3 hJ=>fin p [126,46] .tau rfl ⟨hw,by omega⟩ (by simp only [T.size]at hn;omega) eb hbd rfl (λq W=>⟨⟨aC.tau W.ok,?_,W.wf,W.eb⟩,rfl⟩) w3 hJ.1 hJ.2⟩
    ·simp only [T.kind]
     repeat' first | refine aT (by decide) ?_ | refine cN (by decide) ?_
     exact⟨ς,α⟩
    ·show T.tau q.shp=T.tau p.shp;rw [W.shp]
   | rep p=>
    simp only [T.wf]at hw;simp only [T.text,Mm]at hlen;refine⟨λw'=>Ex w w'/\qe w' b [42],aP ok ?_,λw3 hJ=>fin p [42] .rep rfl ⟨hw,by omega⟩ (by simp only [T.size]at hn;omega) eb hbd rfl (λq W=>⟨⟨aC.rep W.ok,?_,W.wf,W.eb⟩,rfl⟩) w3 hJ.1 hJ.2⟩
    ·simp only [T.kind]
     repeat' first | refine aT (by decide) ?_ | refine cN (by decide) ?_
     exact⟨ς,α⟩
    ·show T.rep q.shp=T.rep p.shp;rw [W.shp]
   | snd a c p=>
    simp only [T.wf,Mp]at hw;simp only [T.text,Mm]at hlen;refine⟨λw'=>Ex w w'/\qe w' b [sw a old nw,33,sw c old nw,46],aP ok ?_,λw3 hJ=>fin p [sw a old nw,33,sw c old nw,46] (.snd (sw a old nw) (sw c old nw)) rfl ⟨hw.2,by omega⟩ (by simp only [T.size]at hn;omega) eb.2.2 hbd rfl (λq W=>⟨⟨aC.snd a c W.ok,?_,?_,⟨sW eb.1 ε,sW eb.2.1 ε,W.eb⟩⟩,rfl⟩) w3 hJ.1 hJ.2⟩
    ·simp only [T.kind];refine cN (by decide) ?_;have α:qe w2 b [a,33,c,46]:=α;refine⟨b,0,_,cap,rfl,by omega,by rw [Z];simp only [T.hd];omega,a,α.at (i:=0) (by simp),ka ?_⟩;refine⟨b,0,_,cap,rfl,by omega,by rw [Z];simp only [T.hd];omega,⟨⟨_,α.at (i:=0) (by simp)⟩,α.fz 0 (by simp)⟩,λw5 H=>?_⟩;have G:=α.set (i:=0) (by simp) (sw a old nw);have H:w5=w2.setCell ⟨b,0,none⟩ (.int .u8 (sw a old nw).toNat):=H;rw [<-H]at G;refine⟨b,0,_,cap,rfl,by omega,by rw [Z];simp only [T.hd];omega,c,G.at (i:=2) (by simp),ka ?_⟩;refine⟨b,0,_,cap,rfl,by omega,by rw [Z];simp only [T.hd];omega,⟨⟨_,G.at (i:=2) (by simp)⟩,G.fz 2 (by simp)⟩,λw6 β=>?_⟩;have φ:=G.set (i:=2) (by simp) (sw c old nw);have β:w6=w5.setCell ⟨b,2,none⟩ (.int .u8 (sw c old nw).toNat):=β;rw [<-β]at φ;exact⟨β▸(Ex.own (H▸ς.own ψ _) ψ _),φ⟩
    ·show T.snd () () q.shp=T.snd () () p.shp;rw [W.shp]
    ·simp [T.wf,zv hw.1.1 μ,zv hw.1.2 μ,W.wf]
   | mat a c p=>
    simp only [T.wf,Mp]at hw;simp only [T.text,Mm]at hlen;refine⟨λw'=>Ex w w'/\qe w' b [91,sw a old nw,61,sw c old nw,93],aP ok ?_,λw3 hJ=>fin p [91,sw a old nw,61,sw c old nw,93] (.mat (sw a old nw) (sw c old nw)) rfl ⟨hw.2,by omega⟩ (by simp only [T.size]at hn;omega) eb.2.2 hbd rfl (λq W=>⟨⟨aC.mat a c W.ok,?_,?_,⟨sW eb.1 ε,sW eb.2.1 ε,W.eb⟩⟩,rfl⟩) w3 hJ.1 hJ.2⟩
    ·simp only [T.kind];refine aT (by decide) (cN (by decide) ?_);have α:qe w2 b [91,a,61,c,93]:=α;refine⟨b,0,_,cap,rfl,by omega,by rw [Z];simp only [T.hd];omega,a,α.at (i:=1) (by simp),ka ?_⟩;refine⟨b,0,_,cap,rfl,by omega,by rw [Z];simp only [T.hd];omega,⟨⟨_,α.at (i:=1) (by simp)⟩,α.fz 1 (by simp)⟩,λw5 H=>?_⟩;have G:=α.set (i:=1) (by simp) (sw a old nw);have H:w5=w2.setCell ⟨b,1,none⟩ (.int .u8 (sw a old nw).toNat):=H;rw [<-H]at G;refine⟨b,0,_,cap,rfl,by omega,by rw [Z];simp only [T.hd];omega,c,G.at (i:=3) (by simp),ka ?_⟩;refine⟨b,0,_,cap,rfl,by omega,by rw [Z];simp only [T.hd];omega,⟨⟨_,G.at (i:=3) (by simp)⟩,G.fz 3 (by simp)⟩,λw6 β=>?_⟩;have φ:=G.set (i:=3) (by simp) (sw c old nw);have β:w6=w5.setCell ⟨b,3,none⟩ (.int .u8 (sw c old nw).toNat):=β;rw [<-β]at φ;exact⟨β▸(Ex.own (H▸ς.own ψ _) ψ _),φ⟩
    ·show T.mat () () q.shp=T.mat () () p.shp;rw [W.shp]
    ·simp [T.wf,zv hw.1.1 μ,zv hw.1.2 μ,W.wf]
   | sum p q=>
    simp only [T.bd]at hbd;have hwf:=hw;simp only [T.wf,Mp]at hw;refine⟨λ _=>False,aP ok ?_,λw3 hJ=>hJ.elim⟩;simp only [T.kind];refine aT (by decide) (aT (by decide) (cN (by decide) (cN (by decide) ?_)));refine two p q .sum rfl (.inl rfl) (λp' q' θ κ=>?_) eb.1 eb.2 (by omega) (by omega);have hs:(T.sum p' q').shp=(T.sum p q).shp:=by show T.sum p'.shp q'.shp=T.sum p.shp q.shp;rw [θ.shp,κ.shp]
    have hr:gY k (.sum p q) old nw (.sum p' q'):=⟨aC.sum θ.ok κ.ok,hs,by simp [T.wf,θ.wf,κ.wf],⟨θ.eb,κ.eb⟩⟩
    exact⟨hr,rfl,hr.Ay ok⟩
   | par p q=>
    simp only [T.bd]at hbd;have hwf:=hw;simp only [T.wf,Mp]at hw;refine⟨λ _=>False,aP ok ?_,λw3 hJ=>hJ.elim⟩;simp only [T.kind];refine aT (by decide) (aT (by decide) (aT (by decide) (cN (by decide) ?_)));refine two p q .par rfl (.inr rfl) (λp' q' θ κ=>?_) eb.1 eb.2 (by omega) (by omega);have hs:(T.par p' q').shp=(T.par p q).shp:=by show T.par p'.shp q'.shp=T.par p.shp q.shp;rw [θ.shp,κ.shp]
    have hr:gY k (.par p q) old nw (.par p' q'):=⟨aC.par θ.ok κ.ok,hs,by simp [T.wf,θ.wf,κ.wf],⟨θ.eb,κ.eb⟩⟩
    exact⟨hr,rfl,hr.Ay ok⟩
end Go.Proofs.YtdecokaadekjnaaGreat
namespace Go.Proofs.YtdecokaadekjnaaGreat
section
variable {A B:Type} [DecidableEq A] [DecidableEq B]
open Classical
namespace T
def strip:T A->T A
 | mat a b p=>if a=b then p.strip else mat a b p
 | p=>p
noncomputable def peel:T A->T A
 | mat a b p=>if a=b then p.peel else mat a b p
 | sum p q=>if p.dead then q.peel else if q.dead then p.peel else sum p q
 | par p q=>if p.dead then q.peel else if q.dead then p.peel else par p q
 | res x p=>if p.Us x then res x p else p.peel
 | p=>p
theorem rH:∀p:T A,p.strip.dead=p.dead
 | mat a b p=>by
  unfold strip;split
  ·rw [rH p];rfl
  ·rfl
 | nil=>rfl | snd .. =>rfl | rcv .. =>rfl | tau .. =>rfl | sum .. =>rfl | par .. =>rfl | res .. =>rfl | rep .. =>rfl
theorem zG (x:A):∀p:T A,p.strip.Us x↔p.Us x
 | mat a b p=>by
  unfold strip;split
  ·rename_i h;rw [zG x p];simp [Us,h]
  ·rfl
 | nil=>Ps | snd .. =>Ps | rcv .. =>Ps | tau .. =>Ps | sum .. =>Ps | par .. =>Ps | res .. =>Ps | rep .. =>Ps
theorem mN:∀p:T A,p.strip.size<=p.size
 | mat a b p=>by
  unfold strip;split
  ·have :=mN p;simp only [size];omega
  ·exact Mu _
 | nil=>Mu _ | snd .. =>Mu _ | rcv .. =>Mu _ | tau .. =>Mu _ | sum .. =>Mu _ | par .. =>Mu _ | res .. =>Mu _ | rep .. =>Mu _
theorem oZ:∀(p:T A) (a b:A) (q:T A),p.strip=mat a b q->a≠b
 | mat a b p,c,d,q,h=>by
  unfold strip at h;split at h
  ·exact oZ p c d q h
  ·cases h;assumption
 | nil,_,_,_,h=>by cases h
 | snd ..,_,_,_,h=>by cases h
 | rcv ..,_,_,_,h=>by cases h
 | tau ..,_,_,_,h=>by cases h
 | sum ..,_,_,_,h=>by cases h
 | par ..,_,_,_,h=>by cases h
 | res ..,_,_,_,h=>by cases h
 | rep ..,_,_,_,h=>by cases h
theorem gN (Q:T A->Prop)(hm:∀a p,Q (mat a a p)->Q p)(J:∀p q,Q (sum p q)->Q p/\Q q)(V:∀p q,Q (par p q)->Q p/\Q q)(hr:∀x p,¬p.Us x->Q (res x p)->Q p):∀p:T A,Q p->Q p.peel:=by
 intro p
 induction p with
 | mat a b p G=>
  intro h;unfold peel;split
  ·rename_i e;subst e;exact G (hm a p h)
  ·exact h
 | sum p q G H=>
  intro h;unfold peel;split
  ·exact H (J p q h).2
  ·split
   ·exact G (J p q h).1
   ·exact h
 | par p q G H=>
  intro h;unfold peel;split
  ·exact H (V p q h).2
  ·split
   ·exact G (V p q h).1
   ·exact h
 | res x p G=>
  intro h;unfold peel;split
  ·exact h
  ·rename_i e;exact G (hr x p e h)
 | nil=>exact id
 | snd=>exact id
 | rcv=>exact id
 | tau=>exact id
 | rep=>exact id
theorem lO:∀p:T A,p.peel.dead=p.dead:=by
 intro p
 induction p with
 | mat a b p H=>unfold peel;split<;>simp_all [dead]
 | sum p q H G=>
  unfold peel;split
  ·rename_i h;rw [G];simp [dead,h]
  ·split
   ·rename_i h J;rw [H];simp [dead,J]
   ·rfl
 | par p q H G=>
  unfold peel;split
  ·rename_i h;rw [G];simp [dead,h]
  ·split
   ·rename_i h J;rw [H];simp [dead,J]
   ·rfl
 | res x p H=>
  unfold peel;split
  ·rfl
  ·rw [H];rfl
 | nil=>rfl
 | snd=>rfl
 | rcv=>rfl
 | tau=>rfl
 | rep=>rfl
def dq:T A->Prop
 | mat a b _=>a≠b
 | sum p q=>p.dead=false/\q.dead=false
 | par p q=>p.dead=false/\q.dead=false
 | res x p=>p.Us x
 | _=>True
theorem kQ:∀p:T A,p.peel.dq:=by
 intro p
 induction p with
 | mat a b p H=>unfold peel;split<;>assumption
 | sum p q H G=>
  unfold peel;split
  ·exact G
  ·split
   ·exact H
   ·rename_i h J;exact⟨by simpa using h,by simpa using J⟩
 | par p q H G=>
  unfold peel;split
  ·exact G
  ·split
   ·exact H
   ·rename_i h J;exact⟨by simpa using h,by simpa using J⟩
 | res x p H=>unfold peel;split<;>assumption
 | nil=>trivial
 | snd=>trivial
 | rcv=>trivial
 | tau=>trivial
 | rep=>trivial
theorem vd (p:T A):p.peel.size<=p.size:=
 gN (λq=>q.size<=p.size) (λa q h=>by simp only [size]at h;omega) (λq r h=>by simp only [size]at h;omega) (λq r h=>by simp only [size]at h;omega) (λx q _ h=>by simp only [size]at h;omega) p (Mu _)
theorem Ir (p:T A):p.peel.ow<=p.ow:=
 gN (λq=>q.ow<=p.ow) (λa q h=>h) (λq r h=>by simp only [ow]at h;omega) (λq r h=>by simp only [ow]at h;omega) (λx q _ h=>by simp only [ow]at h;omega) p (Mu _)
theorem Cu (x:A):∀p:T A,p.peel.Us x↔p.Us x:=by
 intro p
 induction p with
 | mat a b p H=>
  unfold peel;split
  ·rename_i h;rw [H];simp [Us,h]
  ·rfl
 | sum p q H J=>
  unfold peel;split
  ·rename_i h;rw [J];exact⟨.inr,λG=>G.elim (λG=>absurd G (bz h)) id⟩
  ·split
   ·rename_i h G;rw [H];exact⟨.inl,λk=>k.elim id (λk=>absurd k (bz G))⟩
   ·rfl
 | par p q H J=>
  unfold peel;split
  ·rename_i h;rw [J];exact⟨.inr,λG=>G.elim (λG=>absurd G (bz h)) id⟩
  ·split
   ·rename_i h G;rw [H];exact⟨.inl,λk=>k.elim id (λk=>absurd k (bz G))⟩
   ·rfl
 | res y p H=>
  unfold peel;split
  ·rfl
  ·rename_i h;rw [H];refine⟨λk=>⟨λe=>h (e▸k),k⟩,λk=>k.2⟩
 | nil=>rfl
 | snd=>rfl
 | rcv=>rfl
 | tau=>rfl
 | rep=>rfl
end T
end
open Classical
theorem eP.sub {A:Type}[DecidableEq A]{ρ:A->Nat}{p q:T A}(h:eP ρ p)(G:∀x,q.Us x->p.Us x):eP ρ q:=λx y H J=>h x y (G x H) (G y J)
theorem Hh (u:U)(h:Uq u):Uq u.peel:=
 T.gN Uq (λ _ _ h=>h.mat) (λ _ _ h=>⟨h.dP,h.dz⟩) (λ _ _ h=>⟨h.fG,h.fv⟩) (λ _ _ _ h=>h.res) u h
theorem CL (u:U):∀x∈BV u.peel,x∈BV u:=
 T.gN (λq=>∀x∈BV q,x∈BV u) (λ _ _ h=>h) (λ _ _ h=>⟨λx G=>h x (M0 _ G),λx G=>h x (MT _ G)⟩)
  (λ _ _ h=>⟨λx G=>h x (M0 _ G),λx G=>h x (MT _ G)⟩) (λ _ _ _ h=>λx G=>h x (MD _ G)) u (λx h=>h)
theorem cV:∀u:U,Uq u->u.dead=true->aj u=([],[])
 | .nil,_,_=>rfl
 | .snd ..,_,h=>by cases h
 | .rcv ..,_,h=>by cases h
 | .tau ..,_,h=>by cases h
 | .sum p q,hu,h=>by
  simp only [T.dead,Mp]at h;simp only [aj,h.1,Ol];exact cV q hu.dz h.2
 | .par p q,hu,h=>by
  simp only [T.dead,Mp]at h;simp [aj,cV p hu.fG h.1,cV q hu.fv h.2]
 | .res x p,hu,h=>by
  have hd:p.dead=true:=h;simp [aj,cV p hu.res hd,lA hd,Lv.has]
 | .mat a b p,hu,h=>by
  have hd:p.dead=true:=h;simp only [aj,hd,Ol,cV p hu.mat hd];split<;>rfl
 | .rep p,hu,h=>by
  have hd:p.dead=true:=h;simp [aj,hd]
theorem oA:∀u:U,Uq u->aj u.peel=aj u:=by
 intro u
 induction u with
 | nil=>intro _;rfl
 | snd=>intro _;rfl
 | rcv=>intro _;rfl
 | tau=>intro _;rfl
 | rep=>intro _;rfl
 | mat a b p G=>
  intro h;unfold T.peel;split
  ·rename_i e;rw [G h.mat];simp [aj,e]
  ·rfl
 | sum p q G H=>
  intro h;unfold T.peel;split
  ·rename_i e;rw [H h.dz];simp [aj,e]
  ·split
   ·rename_i e J;rw [G h.dP];simp [aj,e,J]
   ·rfl
 | par p q G H=>
  intro h;unfold T.peel;split
  ·rename_i e;rw [H h.fv];simp [aj,cV p h.fG e]
  ·split
   ·rename_i e J;rw [G h.fG];simp [aj,cV q h.fv J]
   ·rfl
 | res x p G=>
  intro h;unfold T.peel;split
  ·rfl
  ·rename_i e;rw [G h.res];have:¬(td p).2.has x=true:=λV=>e ((fI p x h.fD).1 V)
   simp [aj,this]
theorem JY {p:T UInt8}{u:U}{ρ:UInt8->Nat}{σ:Nat->Nat}{x:UInt8}{y:Nat}(h:∀v,AE (aI ρ x v) p (aI σ y v) u)(hi:eP ρ (.res x p))(hj:eP σ (.res y u)):p.Us x↔u.Us y:=by
 obtain⟨v,Z,h2⟩:=bV p u ρ σ;have G:eP (aI ρ x v) p:= .aI (λa b ha hb h5 V=>hi a b ⟨ha,h5⟩ ⟨hb,V⟩) λa _ ha=>Z a (T.bs ha)
 have H:eP (aI σ y v) u:= .aI (λa b ha hb h5 V=>hj a b ⟨ha,h5⟩ ⟨hb,V⟩) λa _ ha=>h2 a (T.bs ha)
 constructor
 ·intro hx;obtain⟨z,J,e⟩:=(h v).used G H x hx;rw [cR]at e;unfold aI at e;split at e
  ·rename_i W;exact W▸J
  ·exact absurd e (h2 z (T.bs J))
 ·intro hy;obtain⟨z,J,e⟩:=(h v).symm.used H G y hy;rw [cR]at e;unfold aI at e;split at e
  ·rename_i W;exact W▸J
  ·exact absurd e (Z z (T.bs J))
theorem AE.IL {p:T UInt8}{u:U}{ρ:UInt8->Nat}{σ:Nat->Nat}{a b:UInt8}{c d:Nat}(h:AE ρ (.mat a b p) σ (.mat c d u))(hi:eP ρ (.mat a b p))(J:eP σ (.mat c d u))(hd:p.dead=false):a=b↔c=d:=by
 have H:u.dead=false:=h.2.2.dead▸hd;constructor
 ·rintro rfl
  refine NI λG=>G (J c d (.inr ⟨G,H,.inl rfl⟩) (.inr ⟨G,H,.inr (.inl rfl)⟩) (h.1.symm.trans h.2.1))
 ·rintro rfl
  refine NI λG=>G (hi a b (.inr ⟨G,hd,.inl rfl⟩) (.inr ⟨G,hd,.inr (.inl rfl)⟩) (h.1.trans h.2.1.symm))
theorem AE.peel:∀{p:T UInt8} {u:U} {ρ:UInt8->Nat} {σ:Nat->Nat},AE ρ p σ u->eP ρ p->eP σ u->Uq u->p.dead=false->
  ∃G,AE ρ p.peel G u.peel/\∀y,y∉BV u->G y=σ y:=by
 intro p
 induction p<;>intro u ρ σ h hi hj hu hd<;>cases u<;>simp only [AE]at h
 case nil.nil=>exact⟨σ,trivial,λ _ _=>rfl⟩
 case snd.snd=>exact⟨σ,h,λ _ _=>rfl⟩
 case rcv.rcv=>exact⟨σ,h,λ _ _=>rfl⟩
 case tau.tau=>exact⟨σ,h,λ _ _=>rfl⟩
 case rep.rep=>exact⟨σ,h,λ _ _=>rfl⟩
 case mat.mat a b p ih c d u=>
  have V:=AE.IL (p:=p) (u:=u) h hi hj hd;unfold T.peel;by_cases e:a=b
  ·rw [MZ e,MZ (V.1 e)];exact ih h.2.2 (hi.sub λx H=> .inl ⟨e,H⟩) (hj.sub λx H=> .inl ⟨V.1 e,H⟩) hu.mat hd
  ·rw [MJ e,MJ λh'=>e (V.2 h')];exact⟨σ,h,λ _ _=>rfl⟩
 case sum.sum p q ih α u v=>
  have h1:=h.1.dead;have h2:=h.2.dead;unfold T.peel;rw [<-h1,<-h2];by_cases e:p.dead=true
  ·rw [MZ e,MZ e];obtain⟨G,Z,k2⟩:=α h.2 (hi.sub λx H=> .inr H) (hj.sub λx H=> .inr H) hu.dz (by simpa [T.dead,e]using hd);exact⟨G,Z,λy hy=>k2 y λJ=>hy (MT _ J)⟩
  ·rw [MJ e,MJ e];by_cases W:q.dead=true
   ·rw [MZ W,MZ W];obtain⟨G,Z,k2⟩:=ih h.1 (hi.sub λx H=> .inl H) (hj.sub λx H=> .inl H) hu.dP (by simpa using e);exact⟨G,Z,λy hy=>k2 y λJ=>hy (M0 _ J)⟩
   ·rw [MJ W,MJ W];exact⟨σ,h,λ _ _=>rfl⟩
 case par.par p q ih α u v=>
  have h1:=h.1.dead;have h2:=h.2.dead;unfold T.peel;rw [<-h1,<-h2];by_cases e:p.dead=true
  ·rw [MZ e,MZ e];obtain⟨G,Z,k2⟩:=α h.2 (hi.sub λx H=> .inr H) (hj.sub λx H=> .inr H) hu.fv (by simpa [T.dead,e]using hd);exact⟨G,Z,λy hy=>k2 y λJ=>hy (MT _ J)⟩
  ·rw [MJ e,MJ e];by_cases W:q.dead=true
   ·rw [MZ W,MZ W];obtain⟨G,Z,k2⟩:=ih h.1 (hi.sub λx H=> .inl H) (hj.sub λx H=> .inl H) hu.fG (by simpa using e);exact⟨G,Z,λy hy=>k2 y λJ=>hy (M0 _ J)⟩
   ·rw [MJ W,MJ W];exact⟨σ,h,λ _ _=>rfl⟩
 case res.res x p ih y u=>
  have β:=JY (p:=p) (u:=u) h hi hj;unfold T.peel;by_cases e:p.Us x
  ·rw [MZ e,MZ (β.1 e)];exact⟨σ,h,λ _ _=>rfl⟩
  ·have W:¬u.Us y:=λh'=>e (β.2 h')
   rw [MJ e,MJ W];have hv:=h (ρ x);have hv:AE ρ p (aI σ y (ρ x)) u:=hv.congr (λz _=>by unfold aI;split<;>simp_all) λ _ _=>rfl
   obtain⟨G,Z,k2⟩:=ih hv (λa b ha hb=>hi a b ⟨λhh=>e (hh▸ha),ha⟩ ⟨λhh=>e (hh▸hb),hb⟩)
    (λa b ha hb V=>by
     have na:a≠y:=λhh=>W (hh▸ha)
     have nb:b≠y:=λhh=>W (hh▸hb)
     rw [bH _ _ na,bH _ _ nb]at V;exact hj a b ⟨na,ha⟩ ⟨nb,hb⟩ V) hu.res hd
   refine⟨G,Z,λz hz=>?_⟩;simp only [BV,MH,PT]at hz;rw [k2 z hz.2,bH _ _ hz.1]
structure Bd (k:Nat)(p:P):Prop where
 eb:Eb k p
 le:k+p.rd+p.ow<=64
theorem Bd.bd {k:Nat}{p:P}(h:Bd k p):k+p.bd<=64:=by have :=T.zw p;have :=h.le;omega
theorem Bd.peel {k:Nat}{p:P}(h:Bd k p):∃m,k<=m/\Bd m p.peel:=by
 refine T.gN (λq=>∃m,k<=m/\Bd m q) ?_ ?_ ?_ ?_ p ⟨k,Mu k,h⟩
 ·rintro a q ⟨m,hm,hb⟩;exact⟨m,hm,hb.eb.2.2,hb.le⟩
 ·rintro q r ⟨m,hm,hb⟩
  have :=hb.le;simp only [T.rd,T.ow]at this;exact⟨⟨m,hm,hb.eb.1,by omega⟩,⟨m,hm,hb.eb.2,by omega⟩⟩
 ·rintro q r ⟨m,hm,hb⟩
  have :=hb.le;simp only [T.rd,T.ow]at this;exact⟨⟨m,hm,hb.eb.1,by omega⟩,⟨m,hm,hb.eb.2,by omega⟩⟩
 ·rintro x q _ ⟨m,hm,hb⟩
  have :=hb.le;simp only [T.rd,T.ow]at this;exact⟨m+1,by omega,hb.eb.2,by omega⟩
theorem IT {p:P}(h:p.wf=true):p.peel.wf=true:=
 T.gN (λq=>q.wf=true) (λ _ _ h=>by simp only [T.wf,Mp]at h;exact h.2) (λ _ _ h=>by simpa only [T.wf,Mp]using h)
  (λ _ _ h=>by simpa only [T.wf,Mp]using h) (λ _ _ _ h=>by simp only [T.wf,Mp]at h;exact h.2) p h
theorem Dn (p:P):p.peel.aJ<=p.aJ:=
 T.gN (λq=>q.aJ<=p.aJ) (λ _ _ h=>by simp only [T.aJ]at h;omega) (λ _ _ h=>by simp only [T.aJ]at h;omega) (λ _ _ h=>by simp only [T.aJ]at h;omega) (λ _ _ _ h=>by simp only [T.aJ]at h;omega) p (Mu _)
end Go.Proofs.YtdecokaadekjnaaGreat
namespace Go.Proofs.YtdecokaadekjnaaGreat
open Go
attribute [go_sem] Tryz.f245
theorem qI (G:aF)(w:World)(R:aF->PV)(h:vc ay (a6 [(1,[(0,.s)])] [] [(1,false,.lt 0 (.one .h 1 (.lt 2 (.lt 3 (.lt 4 (.lt 5 (.lt 6 (.lt 7 (.lt 8 (.lt 9 .done))))))))))]) (ab Tryz.f245) (ai 0 [.s G]) w (fin ay [.tmp 2 .s] R)):
  PW 245 #[(.string (ax G))] w (aw [.s] R):=
 bc Tryz.func245 (by kernel_rfl) h
attribute [go_sem] Tryz.f246
theorem tv (G:aF)(w:World)(R:Bool->PV)(h:vc ay (a6 [(10,[(18,.i)])] [] []) (ab Tryz.f246) (ai 0 [.s G]) w (fin ay [.tmp 2 .b] R)):
  PW 246 #[(.string (ax G))] w (aw [.b] R):=
 bc Tryz.func246 (by kernel_rfl) h
attribute [go_sem] Tryz.f225
theorem tH (G:aF)(w:World)(R:aF->PV)(h:vc ay (a6 [(6,[(3,.s),(17,.i)]),(14,[(3,.s),(39,.i)])] [(13,[(3,.s)])] []) (ab Tryz.f225) (ai 0 [.s G]) w (fin ay [.tmp 2 .s] R)):
  PW 225 #[(.string (ax G))] w (aw [.s] R):=
 bc Tryz.func225 (by kernel_rfl) h
attribute [go_sem] Tryz.f256
theorem rM (G:aF)(w:World)(R:aF->PV)(h:vc ay (a6 [(1,[(0,.s)])] [] [(9,false,.lt 0 (.lt 1 (.lt 2 (.lt 3 (.lt 4 (.lt 5 (.lt 7 (.lt 8 (.one .h 6 (.one .h 9 (.lt 10 (.lt 11 (.lt 12 .done)))))))))))))]) (ab Tryz.f256) (ai 0 [.s G]) w (fin ay [.tmp 2 .s] R)):
  PW 256 #[(.string (ax G))] w (aw [.s] R):=
 bc Tryz.func256 (by kernel_rfl) h
attribute [go_sem] Tryz.f242
theorem jw (G:Value)(H:aF)(w:World)(R:PV)(h:vc ay (a6 [(10,[(5,.c)])] [(15,[])] [(14,false,.lt 0 (.lt 1 (.lt 2 (.lt 4 (.br .h 3 (.one .h 5 (.one .h 6 (.lt 7 (.lt 8 (.lt 9 (.one .h 10 .done)))))) (.one .h 5 (.br .h 3 (.one .h 6 (.lt 7 (.lt 8 (.lt 9 (.one .h 10 .done))))) (.one .h 6 (.one .h 3 (.lt 7 (.lt 8 (.lt 9 (.one .h 10 .done))))))))))))),(15,false,.lt 0 (.lt 1 (.lt 2 (.lt 3 (.lt 4 (.lt 5 (.one .h 6 (.one .h 7 .done))))))))]) (ab Tryz.f242) (ai 0 [.v G,.s H]) w (fin ay [] R)):
  PW 242 #[G,(.string (ax H))] w (aw [] R):=
 bc Tryz.func242 (by kernel_rfl) h
attribute [go_sem] Tryz.f243
theorem iN (s1:aF)(w:World)(R:Value->PV)(h:vc ay (a6 [(5,[(3,.v),(13,.i)]),(8,[(3,.v),(26,.i)])] [] [(7,false,.lt 0 (.lt 1 (.lt 2 (.lt 3 (.lt 4 (.lt 5 (.lt 6 (.lt 7 (.lt 10 (.one .h 8 (.lt 9 .done)))))))))))]) (ab Tryz.f243) (ai 0 [.s s1]) w (fin ay [.tmp 2 .v] R)):
  PW 243 #[(.string (ax s1))] w (aw [.v] R):=
 bc Tryz.func243 (by kernel_rfl) h
attribute [go_sem] Tryz.f191
theorem tJ (G:Value)(s2:aF)(w:World)(R:aF->PV)(h:vc ay (a6 [(3,[(5,.s),(6,.i)])] [] []) (ab Tryz.f191) (ai 0 [.v G,.s s2]) w (fin ay [.tmp 4 .s] R)):
  PW 191 #[G,(.string (ax s2))] w (aw [.s] R):=
 bc Tryz.func191 (by kernel_rfl) h
attribute [go_sem] Tryz.f69
theorem pn (G:Value)(w:World)(R:Value->PV)(h:vc ay (a6 [(3,[(3,.v),(10,.i)]),(6,[(6,.i)])] [(8,[(6,.i)])] []) (ab Tryz.f69) (ai 0 [.v G]) w (fin ay [.tmp 2 .v] R)):
  PW 69 #[G] w (aw [.v] R):=
 bc Tryz.func69 (by kernel_rfl) h
attribute [go_sem] Tryz.f258
theorem mX (G:aF)(w:World)(R:Value->PV)(h:vc ay (a6 [] [] [(7,false,.lt 0 (.lt 1 (.lt 2 (.lt 4 (.lt 5 (.lt 6 (.one .h 3 (.one .h 7 (.one .h 8 (.lt 9 .done))))))))))]) (ab Tryz.f258) (ai 0 [.s G]) w (fin ay [.tmp 2 .v] R)):
  PW 258 #[(.string (ax G))] w (aw [.v] R):=
 bc Tryz.func258 (by kernel_rfl) h
end Go.Proofs.YtdecokaadekjnaaGreat
namespace Go.Proofs.YtdecokaadekjnaaGreat
open Go Go.RowKit
theorem Strs.get {w w':World}{v:Value}{l:List Tx}(h:Strs w v l)(hw:Ex w w'){i:Int}{x:Tx}(G:0<=i)(H:l[i.toNat]?=some x){Q:aF->Prop}(J:Q x):
  ∃(b o len cap:Nat),v=Value.slice (some ⟨b,o,none⟩) len cap/\0<=i/\i< (len:Int)/\∃s:aF,World.cell? w' ⟨b,o+Int.toNat i* 1,none⟩=some (Value.string (ax s))/\Q s:=by
 obtain⟨hi,e⟩:=No.1 H;obtain⟨b,o,cap,V,Z,W⟩:=(h.ex hw).at hi;exact⟨b,o,l.length,cap,V,G,by omega,x,by rw [MW,W,e],J⟩
theorem Strs.EX {w:World}{v:Value}{l:List Tx}(h:Strs w v l){i:Int}{x:Tx}(G:0<=i)(H:l[i.toNat]?=some x){Q:aF->Prop}(J:Q x):
  ∃(b o len cap:Nat),v=Value.slice (some ⟨b,o,none⟩) len cap/\0<=i/\i< (len:Int)/\∃s:aF,(∀w',Ex w w'->World.cell? w' ⟨b,o+Int.toNat i* 1,none⟩=some (Value.string (ax s)))/\Q s:=by
 obtain⟨hi,e⟩:=No.1 H;obtain⟨b,o,cap,V,W,Z⟩:=h.at hi;exact⟨b,o,l.length,cap,V,G,by omega,x,λw' hw=>by rw [hw.cell W,MW,Z,e],J⟩
theorem sn {t:P}(ok:Ok t):Ok t.strip:=by
 have:∀t:P,t.wf=true->t.strip.wf=true/\t.strip.aJ<=t.aJ:=by
  intro t
  induction t with
  | mat a b p G=>
   intro h;unfold T.strip;split
   ·simp only [T.wf,Mp]at h;have :=G h.2;exact⟨this.1,by simp only [T.aJ];omega⟩
   ·exact⟨h,Mu _⟩
  | _=>exact λh=>⟨h,Mu _⟩
 have h:=this t ok.wf;exact⟨h.1,by have :=ok.len;rw [T.aV]at*;omega⟩
theorem pj {t:P}(ok:Ok t){w:World}{R:aF->PV}(h:∀w',Ex w w'->R t.strip.text w'):PW 245 #[.string (ax t.text)] w (aw [.s] R):=by
 refine qI _ w R ?_;dsimp only [go_sem];dsimp only [go_sem,UInt8.reduceOfNat,UInt32.reduceOfNat,Nat.reduceAdd];refine⟨λp w'=>Ex w w'/\∃q:P,p=q.text/\Ok q/\q.strip=t.strip,λp _=>p.length,⟨Ex.refl w,t,rfl,ok,rfl⟩,λp w1 Z=>?_⟩;obtain⟨hx,q,rfl,G,W⟩:=Z;refine⟨λ _=>True,λw2 J=>⟨trivial,aP G ⟨trivial,?_⟩⟩⟩;have H:Ex w w2:=hx.trans (J▸Ex.drew w1);have no:q.strip=q->R q.text w2:=λe=>by
  have :=h w2 H;rw [<-W,e]at this;exact this
 cases q with
 | mat a b p=>
  simp only [T.kind];refine cN (by decide) ⟨by simp only [T.text,Mm];omega,by simp only [T.text,Mm];omega,λV=>?_,λV=>?_⟩
  ·have e:a=b:=MN V;subst e;have h2:T.strip (.mat a a p)=p.strip:=by conv=>lhs;unfold T.strip;rw [MZ rfl]
   refine⟨by simp only [T.text,Mm];omega,⟨H,p,rfl,G.parts p (by simp [T.parts]),h2.symm.trans W⟩,?_⟩;show p.text.length< (T.mat a a p).text.length;simp only [T.text,Mm];omega
  ·have e:a≠b:=MO V;exact no (by conv=>lhs;unfold T.strip;rw [MJ e])
 | _=>simp only [T.kind];exact aT (by decide) (no rfl)
theorem rI {t:P}(G:t.kind≠33)(H:t.kind≠63)(J:t.kind≠126):t.dead=t.parts.all T.dead:=by
 cases t<;>first | (exact absurd rfl G) | (exact absurd rfl H) | (exact absurd rfl J) | simp [T.dead,T.parts]
theorem e8:∀(n:Nat) {t:P},t.size<=n->Ok t->∀{w:World} {R:Bool->PV},(∀w',Ex w w'->R t.dead w')->PW 246 #[.string (ax t.text)] w (aw [.b] R):=by
 intro n
 induction n with
 | zero=>intro t h;have :=aY t;omega
 | succ n ih=>
  intro t hn ok w R h;refine tv _ w R ?_;dsimp only [go_sem];dsimp only [go_sem,UInt8.reduceOfNat,UInt32.reduceOfNat,Nat.reduceAdd];refine pj ok λw1 γ=>?_
  have δ:=sn ok;have hq:=T.mN t;rw [<-T.rH]at h;generalize t.strip=q at*;refine aP δ ?_;have loop:q.kind≠33->q.kind≠63->q.kind≠126->PW 117 #[(Value.string (ax q.text))] w1 (aw [.v] fun(ι:Value) (υ:World)=>∃(a40:Option Addr) (H ε:Nat),ι=Value.slice a40 H ε/\∃(ζ:Int->PV) (κ:Int->World->Nat),ζ (0) υ/\∀(G:Int) (V:World),ζ G V->((decide (G< (H:Int)))=true->∃(b47 μ W η:Nat),ι=Value.slice (some ⟨b47,μ,none⟩) W η/\0<=(G:Int)/\(G:Int)< W/\∃ν:aF,World.cell? V ⟨b47,(μ+Int.toNat G* 1),none⟩=some (Value.string (ax ν))/\PW 246 #[(Value.string (ax ν))] V (aw [.b] fun(ξ:Bool) (θ:World)=>((!ξ)=true->R (false) θ)/\((!ξ)=false->bJ (G+1)/\ζ ((G+1)) θ/\κ ((G+1)) θ< κ G V)))/\((decide (G< (H:Int)))=false->R (true) V)):=by
   intro h1 h2 h3;refine cO δ λv w2 ο hs=>?_
   obtain⟨a,cap,hv⟩:=hs.slice;rw [MM]at hv;have φ:=dN q;refine⟨a,q.parts.length,cap,hv,λx w'=>Ex w2 w'/\∃k:Nat,x=k/\k<=q.parts.length/\∀p∈q.parts.take k,p.dead=true,λx _=>((q.parts.length:Int) - x).toNat,⟨Ex.refl _,0,rfl,by omega,by simp⟩,λx w3 hI=>?_⟩;obtain⟨β,k,rfl,hk,Z⟩:=hI;refine⟨λhc=>?_,λhc=>?_⟩
   ·have J:k< q.parts.length:=by simpa using hc
    have α:q.parts[k]∈q.parts:=Mx J;refine hs.get β (i:=k) (by omega) (x:=(q.parts[k]).text) (by simp [J]) ?_;refine ih (by have :=dO α;omega) (δ.parts _ α) λw4 ς=>⟨λhd=>?_,λhd=>?_⟩
    ·have hd:(q.parts[k]).dead=false:=by simpa using hd
     have e:q.dead=false:=by
      rw [rI h1 h2 h3,List.all_eq_false];exact⟨_,α,by simp [hd]⟩
     rw [<-e];exact h w4 (((γ.trans ο).trans β).trans ς)
    ·have hd:(q.parts[k]).dead=true:=by simpa using hd
     refine⟨by omega,⟨β.trans ς,k+1,by omega,J,λp hp=>?_⟩,by dsimp only;omega⟩;rw [List.take_succ_eq_append_getElem J]at hp;rcases My.1 hp with hp | hp
     ·exact Z p hp
     ·rw [MA.1 hp];exact hd
   ·have J:k=q.parts.length:=by simp at hc;omega
    subst J;rw [MR]at Z;have e:q.dead=true:=by
     rw [rI h1 h2 h3,Ou];exact Z
    rw [<-e];exact h w3 ((γ.trans ο).trans β)
  have h:=h w1 γ;cases q with
  | nil=>simp only [T.kind];exact cN (by decide) h
  | snd a b p=>simp only [T.kind];exact aT (by decide) (cN (by decide) (cN (by decide) h))
  | rcv a b p=>simp only [T.kind];exact aT (by decide) (aT (by decide) (cN (by decide) (cN (by decide) h)))
  | tau p=>simp only [T.kind];exact aT (by decide) (aT (by decide) (aT (by decide) (cN (by decide) h)))
  | sum p q=>simp only [T.kind];exact aT (by decide) (aT (by decide) (aT (by decide) (aT (by decide) (loop (by simp [T.kind]) (by simp [T.kind]) (by simp [T.kind])))))
  | par p q=>simp only [T.kind];exact aT (by decide) (aT (by decide) (aT (by decide) (aT (by decide) (loop (by simp [T.kind]) (by simp [T.kind]) (by simp [T.kind])))))
  | res x p=>simp only [T.kind];exact aT (by decide) (aT (by decide) (aT (by decide) (aT (by decide) (loop (by simp [T.kind]) (by simp [T.kind]) (by simp [T.kind])))))
  | mat a b p=>simp only [T.kind];exact aT (by decide) (aT (by decide) (aT (by decide) (aT (by decide) (loop (by simp [T.kind]) (by simp [T.kind]) (by simp [T.kind])))))
  | rep p=>simp only [T.kind];exact aT (by decide) (aT (by decide) (aT (by decide) (aT (by decide) (loop (by simp [T.kind]) (by simp [T.kind]) (by simp [T.kind])))))
theorem FG {t:P}(hd:t.dead=false)(hm:∀a b p,t= .mat a b p->a≠b)(x:UInt8):t.Us x↔x∈t.names\/(∃p∈t.parts,p.Us x)/\¬(t.qh=true/\x=t.bindC):=by
 cases t<;>simp [T.Us,T.names,T.parts,T.qh,T.bindC,Pm,and_comm]
 case mat a b p=>
  have G:=hm a b p rfl;have hd:p.dead=false:=hd;simp [G,hd]
theorem oB:∀(n:Nat) {t:P},t.size<=n->Ok t->∀{w:World} {R:aF->PV},(∀s w',Ex w w'->jE s->(∀x,x∈s↔t.Us x)->R s w')->PW 225 #[.string (ax t.text)] w (aw [.s] R):=by
 intro n
 induction n with
 | zero=>intro t h;have :=aY t;omega
 | succ n ih=>
  intro t0 hn ok w R h;refine tH _ w R ?_;dsimp only [go_sem];dsimp only [go_sem,UInt8.reduceOfNat,UInt32.reduceOfNat,Nat.reduceAdd];refine pj ok λw1 η=>?_
  have H:=sn ok;have hsz:=T.mN t0;have θ:=T.oZ t0;have h:∀s w',Ex w w'->jE s->(∀x,x∈s↔t0.strip.Us x)->R s w':=λs w' a b c=>h s w' a b λx=>by rw [c,T.zG]
  generalize t0.strip=t at*;refine e8 _ (Mu _) H λw2 ι=>⟨λhd=>?_,λhd=>?_⟩
  ·exact h [] w2 (η.trans ι) jE.nil λx=>⟨λhx=>absurd hx OW,λhx=>absurd hx (T.bz hd)⟩
  refine cO H λv w3 ξ hs=>?_
  have J:=(η.trans ι).trans ξ;obtain⟨a,cap,hv⟩:=hs.slice;rw [MM]at hv;have hpl:=dN t;refine⟨a,t.parts.length,cap,hv,λout x w'=>Ex w3 w'/\jE out/\∃k:Nat,x=k/\k<=t.parts.length/\∀x,x∈out↔∃p∈t.parts.take k,p.Us x,λ _ x _=>((t.parts.length:Int) - x).toNat,
   ⟨Ex.refl _,jE.nil,0,rfl,by omega,by simp⟩,λout x w4 hI=>?_⟩
  obtain⟨V,W,k,rfl,hk,hm⟩:=hI;refine⟨λhc=>?_,λhc=>?_⟩
  ·have G:k< t.parts.length:=by simpa using hc
   have Z:t.parts[k]∈t.parts:=Mx G;refine hs.get V (i:=k) (by omega) (x:=(t.parts[k]).text) (by simp [G]) ?_;refine ih (by have :=dO Z;omega) (H.parts _ Z) λs w5 β ο γ=>?_
   refine iX W (by have :=ο.bound;omega) λs' w6 δ ς υ=>⟨by omega,⟨(V.trans β).trans δ,ς,k+1,by omega,G,λx=>?_⟩,by dsimp only;omega⟩
   rw [υ,hm,γ,Mq G];simp only [My,MA];constructor
   ·rintro(⟨p,hp,hf⟩ | hf)
    ·exact⟨p,.inl hp,hf⟩
    ·exact⟨_,.inr rfl,hf⟩
   ·rintro⟨p,hp | rfl,hf⟩
    ·exact .inl ⟨p,hp,hf⟩
    ·exact .inr hf
  ·have G:k=t.parts.length:=by simp at hc;omega
   subst G;rw [MR]at hm;refine⟨λout w'=>Ex w w'/\jE out/\∀x,x∈out↔(∃p∈t.parts,p.Us x)/\¬(t.qh=true/\x=t.bindC),pO H ⟨λhb=>?_,λhb=>?_⟩,λκ w5 hJ=>?_⟩
   ·refine zr (by have :=W.bound;omega) ⟨J.trans V,W.filter _,λx=>?_⟩;simp [hm,hb]
   ·exact⟨J.trans V,W,λx=>by simp [hm,hb]⟩
   obtain⟨β,μ,γ⟩:=hJ;refine Ee H λw6 δ=>λb cp w7 hb ν φ=>?_
   have χ:=qe.Fp ν;have ψ:Ex w w7:=(β.trans δ).trans (tL φ);have hnl:t.names.length<=2:=by cases t<;>simp [T.names]
   refine⟨some ⟨b,0,none⟩,t.names.length,cp,rfl,λout x w'=>Ex w7 w'/\jE out/\∃k:Nat,x=k/\k<=t.names.length/\∀x,x∈out↔x∈t.names.take k\/x∈κ,λ _ x _=>((t.names.length:Int) - x).toNat,
    ⟨Ex.refl _,μ,0,rfl,by omega,by simp⟩,λout x w8 hI=>?_⟩
   obtain⟨ε,α,k,rfl,hk,ζ⟩:=hI;refine⟨λhc=>?_,λhc=>?_⟩
   ·have G:k< t.names.length:=by simpa using hc
    refine⟨b,0,t.names.length,cp,rfl,by omega,by omega,bt t.names k,(χ.ex ε).at G,?_⟩;refine eU α λs w9 ω hs9 hm9=>⟨by omega,⟨ε.trans ω,hs9,k+1,by omega,G,λx=>?_⟩,by dsimp only;omega⟩
    have e:t.names.take (k+1)=t.names.take k++[bt t.names k]:=by
     have :=fO (s:=t.names) (i:=k) (by omega) (by omega);have e2:((k:Int)+1).toNat=k+1:=by omega
     rw [e2]at this;exact this
    rw [hm9,ζ,e];simp only [My,MA];constructor
    ·rintro(h | h | h)
     ·exact .inl (.inr h)
     ·exact .inl (.inl h)
     ·exact .inr h
    ·rintro((h | h) | h)
     ·exact .inr (.inl h)
     ·exact .inl h
     ·exact .inr (.inr h)
   ·have G:k=t.names.length:=by simp at hc;omega
    subst G;rw [MR]at ζ;refine h out w8 (ψ.trans ε) α λx=>?_
    rw [ζ,γ,FG hd (λa b p e=>θ a b p e)]
theorem Bk (t:P):t.strip.peel=t.peel:=by
 induction t with
 | mat a b p G=>
  unfold T.strip;split
  ·rename_i e;rw [G];conv=>rhs;unfold T.peel;rw [MZ e]
  ·rfl
 | _=>rfl
theorem zU {t:P}(ok:Ok t){w:World}{R:aF->PV}(h:∀w',Ex w w'->Ok t.peel->R t.peel.text w'):PW 256 #[.string (ax t.text)] w (aw [.s] R):=by
 refine rM _ w R ?_;dsimp only [go_sem];dsimp only [go_sem,UInt8.reduceOfNat,UInt32.reduceOfNat,Nat.reduceAdd];refine⟨λp w'=>Ex w w'/\∃q:P,p=q.text/\Ok q/\q.peel=t.peel,λp _=>p.length,⟨Ex.refl w,t,rfl,ok,rfl⟩,λp w1 hI=>?_⟩;obtain⟨hx,q0,rfl,δ,V⟩:=hI;refine pj δ λw2 θ=>?_
 have W:=sn δ;have hlen:q0.strip.text.length<=q0.text.length:=by
  have:∀t:P,t.strip.aJ<=t.aJ:=by
   intro t
   induction t with
   | mat a b p ih=>
    unfold T.strip;split
    ·simp only [T.aJ];omega
    ·exact Mu _
   | _=>exact Mu _
  rw [T.aV,T.aV];exact this q0
 have ζ:=T.oZ q0;rw [<-Bk]at V;generalize q0.strip=q at*;refine cO W λv w3 ι hs=>aP W ?_
 have β:Ex w w3:=(hx.trans θ).trans ι;have stay:q.peel=q->∀w',Ex w3 w'->R q.text w':=λe w' κ=>by
  have :=h w' (β.trans κ) (V▸e.symm▸W);rw [<-V,e]at this;exact this
 cases q with
 | nil=>
  simp only [T.kind]
  repeat' first | refine aT (by decide) ?_ | refine cN (by decide) ?_ | refine ck (by decide) ?_ | refine dE (by decide) ?_
  exact⟨λ _=>True,λw4 H=>⟨trivial,aT (by decide) (stay rfl w4 (H▸Ex.drew w3))⟩⟩
 | snd a b p=>
  simp only [T.kind]
  repeat' first | refine aT (by decide) ?_ | refine cN (by decide) ?_ | refine ck (by decide) ?_ | refine dE (by decide) ?_
  exact⟨λ _=>True,λw4 H=>⟨trivial,aT (by decide) (stay rfl w4 (H▸Ex.drew w3))⟩⟩
 | rcv a b p=>
  simp only [T.kind]
  repeat' first | refine aT (by decide) ?_ | refine cN (by decide) ?_ | refine ck (by decide) ?_ | refine dE (by decide) ?_
  exact⟨λ _=>True,λw4 H=>⟨trivial,aT (by decide) (stay rfl w4 (H▸Ex.drew w3))⟩⟩
 | tau p=>
  simp only [T.kind]
  repeat' first | refine aT (by decide) ?_ | refine cN (by decide) ?_ | refine ck (by decide) ?_ | refine dE (by decide) ?_
  exact⟨λ _=>True,λw4 H=>⟨trivial,aT (by decide) (stay rfl w4 (H▸Ex.drew w3))⟩⟩
 | rep p=>
  simp only [T.kind]
  repeat' first | refine aT (by decide) ?_ | refine cN (by decide) ?_ | refine ck (by decide) ?_ | refine dE (by decide) ?_
  exact⟨λ _=>True,λw4 H=>⟨trivial,aT (by decide) (stay rfl w4 (H▸Ex.drew w3))⟩⟩
 | mat a b p=>
  have μ:=ζ a b p rfl;simp only [T.kind]
  repeat' first | refine aT (by decide) ?_ | refine cN (by decide) ?_ | refine ck (by decide) ?_ | refine dE (by decide) ?_
  exact⟨λ _=>True,λw4 H=>⟨trivial,aT (by decide) (stay (by unfold T.peel;rw [MJ μ]) w4 (H▸Ex.drew w3))⟩⟩
 | res x p=>
  have Z:=W.parts p (by simp [T.parts]);simp only [T.kind]
  repeat' first | refine aT (by decide) ?_ | refine cN (by decide) ?_ | refine ck (by decide) ?_ | refine dE (by decide) ?_
  refine⟨λw'=>Ex w3 w',λw4 H=>⟨H▸Ex.drew w3,cN (by decide) ?_⟩⟩;have G:Ex w3 w4:=H▸Ex.drew w3;refine hs.EX (i:=0) (x:=p.text) (by omega) rfl ⟨by simp only [T.text,Mm];omega,?_⟩;refine oB _ (Mu _) Z λs w5 J ν η=>⟨G.trans J,ia (by have :=ν.bound;omega) ⟨G.trans J,λhq=>?_,λhq=>?_⟩⟩
  ·have hq:¬p.Us x:=by
    rw [<-η];simpa [T.text,bt]using hq
   refine hs.get (G.trans J) (i:=0) (x:=p.text) (by omega) rfl ⟨⟨β.trans (G.trans J),p,rfl,Z,?_⟩,?_⟩
   ·rw [<-V];conv=>rhs;unfold T.peel;rw [MJ hq]
   ·have:p.text.length< (T.res x p).text.length:=by simp only [T.text,Mm];omega
    exact MP this hlen
  ·have hq:p.Us x:=by
    rw [<-η];simpa [T.text,bt]using hq
   exact stay (by unfold T.peel;rw [MZ hq]) w5 (G.trans J)
 | sum p r=>
  have Z:=W.parts p (by simp [T.parts]);have γ:=W.parts r (by simp [T.parts]);have lp:p.text.length< (T.sum p r).text.length:=by simp only [T.text,Mm,Mt];omega
  have lr:r.text.length< (T.sum p r).text.length:=by simp only [T.text,Mm,Mt];omega
  simp only [T.kind]
  repeat' first | refine aT (by decide) ?_ | refine cN (by decide) ?_ | refine ck (by decide) ?_ | refine dE (by decide) ?_
  refine hs.get (Ex.refl w3) (i:=0) (x:=p.text) (by omega) rfl (e8 _ (Mu _) Z λw4 G=>⟨λhd=>?_,λhd=>?_⟩)
  ·refine hs.get G (i:=1) (x:=r.text) (by omega) rfl ⟨⟨β.trans G,r,rfl,γ,?_⟩,MP lr hlen⟩;rw [<-V];conv=>rhs;unfold T.peel;rw [MZ hd]
  repeat' first | refine aT (by decide) ?_ | refine cN (by decide) ?_ | refine ck (by decide) ?_ | refine dE (by decide) ?_
  refine hs.get G (i:=1) (x:=r.text) (by omega) rfl (e8 _ (Mu _) γ λw5 J=>⟨λα=>?_,λα=>?_⟩)
  ·refine hs.get (G.trans J) (i:=0) (x:=p.text) (by omega) rfl ⟨⟨β.trans (G.trans J),p,rfl,Z,?_⟩,MP lp hlen⟩;rw [<-V];conv=>rhs;unfold T.peel;rw [MJ (by simp [hd]),MZ α]
  ·exact⟨λ _=>True,λw6 ε=>⟨trivial,aT (by decide) (stay (by unfold T.peel;rw [MJ (by simp [hd]),MJ (by simp [α])]) w6 ((G.trans J).trans (ε▸Ex.drew w5)))⟩⟩
 | par p r=>
  have Z:=W.parts p (by simp [T.parts]);have γ:=W.parts r (by simp [T.parts]);have lp:p.text.length< (T.par p r).text.length:=by simp only [T.text,Mm,Mt];omega
  have lr:r.text.length< (T.par p r).text.length:=by simp only [T.text,Mm,Mt];omega
  simp only [T.kind]
  repeat' first | refine aT (by decide) ?_ | refine cN (by decide) ?_ | refine ck (by decide) ?_ | refine dE (by decide) ?_
  refine hs.get (Ex.refl w3) (i:=0) (x:=p.text) (by omega) rfl (e8 _ (Mu _) Z λw4 G=>⟨λhd=>?_,λhd=>?_⟩)
  ·refine hs.get G (i:=1) (x:=r.text) (by omega) rfl ⟨⟨β.trans G,r,rfl,γ,?_⟩,MP lr hlen⟩;rw [<-V];conv=>rhs;unfold T.peel;rw [MZ hd]
  repeat' first | refine aT (by decide) ?_ | refine cN (by decide) ?_ | refine ck (by decide) ?_ | refine dE (by decide) ?_
  refine hs.get G (i:=1) (x:=r.text) (by omega) rfl (e8 _ (Mu _) γ λw5 J=>⟨λα=>?_,λα=>?_⟩)
  ·refine hs.get (G.trans J) (i:=0) (x:=p.text) (by omega) rfl ⟨⟨β.trans (G.trans J),p,rfl,Z,?_⟩,MP lp hlen⟩;rw [<-V];conv=>rhs;unfold T.peel;rw [MJ (by simp [hd]),MZ α]
  ·exact⟨λ _=>True,λw6 ε=>⟨trivial,aT (by decide) (stay (by unfold T.peel;rw [MJ (by simp [hd]),MJ (by simp [α])]) w6 ((G.trans J).trans (ε▸Ex.drew w5)))⟩⟩
def sv (x:Tx):Value:= .string (ax x)
def Own (B:Nat)(w:World)(v:Value)(l:List Tx):Prop:=w.ownsRow B 9 1 v l.length (l.map sv)
theorem Own.nil (B:Nat)(w:World):Own B w (.slice none 0 0) []:=Pt _ _ _ _
theorem Own.strs {B:Nat}{w:World}{v:Value}{l:List Tx}(h:Own B w v l):Strs w v l:=by
 rcases h.2 with⟨rfl,J⟩ | ⟨g,cap,cur,rfl,hb,G,V,W,Z,h4⟩
 ·exact .inl ⟨rfl,MS J⟩
 ·refine .inr ⟨g,0,cap,rfl,(Na.1 G).1,λi x H=>?_⟩;unfold World.cell?;simp only [G,MX];have e:=Nz (λl=>l[i]?) h4;obtain⟨hi,_⟩:=No.1 H;simp only [MW,O1,hi,Ol,Oy,H,N8]at e;rw [<-N0];exact e
theorem Own.ex {B:Nat}{w w':World}{v:Value}{l:List Tx}(h:Own B w v l)(k:Ex w w'):Own B w' v l:=by
 refine⟨h.1,?_⟩;rcases h.2 with H | ⟨g,cap,cur,rfl,hb,G,rest⟩
 ·exact .inl H
 ·exact .inr ⟨g,cap,cur,rfl,hb,by rw [k.block g (Na.1 G).1];exact G,rest⟩
theorem Own.mono {B G:Nat}{w:World}{v:Value}{l:List Tx}(h:Own B w v l)(hb:G<=B):Own G w v l:=PI h hb
theorem Own.push {B:Nat}{w:World}{v:Value}{l:List Tx}(h:Own B w v l)(hB:B<=w.heap.size){x:Value}{m:List Tx}(H:Strs w x m)(hl:l.length+m.length<=1099511627776){K:Value->PV}
  (J:∀v' w',Below B w w'->Own B w' v' (l++m)->w.grownBy w' v.ownBlock->(∀b,v'.ownBlock=some b->v.ownBlock=some b\/w.heap.size<=b)->K v' w'):
  ∃(base n k:Nat) (xs news:List Value),World.ownsRow w base 9 1 v n xs/\base<=Array.size (World.heap w)/\dI w x k 1 news/\(n+k<=maxLen/\(n+k)* 16<=140737488355328)/\
   ∀(v':Value) (w':World),World.ownsRow w' base 9 1 v' (n+k) (xs++news)->World.grownBy w w' (Value.ownBlock v)->(∀b:Nat,Value.ownBlock v'=some b->Value.ownBlock v=some b\/Array.size (World.heap w)<=b)->K v' w':=by
 refine⟨B,l.length,m.length,l.map sv,m.map sv,h,hB,?_,⟨by unfold maxLen;omega,by omega⟩,λv' w' V G hw=>J v' w' ?_ ?_ G hw⟩
 ·refine⟨by simp,by simp [sv,aB],?_⟩;rcases H with⟨rfl,rfl⟩ | ⟨b,off,cap,rfl,hb,W⟩
  ·exact .inl ⟨rfl,rfl⟩
  ·refine .inr ⟨b,off,cap,rfl,λj u hu=>?_⟩;rw [Oy]at hu;cases e:m[j]? with
   | none=>rw [e]at hu;cases hu
   | some y=>rw [e]at hu;cases hu;exact W j y e
 ·exact Below.grown (Pg B w) G hB λk Z=>(PD h k Z).1
 ·unfold Own;rw [Mt,Nq];exact V
theorem Strs.grown {w w':World}{v:Value}{l:List Tx}{row:Option Nat}(h:Strs w v l)(H:w.grownBy w' row)(G:∀b,v.ownBlock=some b->row≠some b):Strs w' v l:=by
 rcases h with h | ⟨b,off,cap,J,V,W⟩
 ·exact .inl h
 ·refine .inr ⟨b,off,cap,J,MP V H.size,λi x Z=>?_⟩;rw [Mn (w:=w) (H.block b V (λe=>G b (by rw [J];rfl) e.symm))];exact W i x Z
theorem Own.block {B:Nat}{w:World}{v:Value}{l:List Tx}(h:Own B w v l):∀b,v.ownBlock=some b->B<=b/\b< w.heap.size:=PD h
theorem Ex.below {w0 w w':World}(h:Ex w0 w)(k:Below w0.heap.size w w'):Ex w0 w':=Ob h k
theorem Strs.one {w w':World}{b:Nat}{x:Tx}(hb:b=w.heap.size)(h:w'=w.alloc (.cells #[.string (ax x)] 9)):Strs w' (.slice (some ⟨b,0,none⟩) 1 1) [x]:=by
 subst hb h;refine .inr ⟨_,0,1,rfl,by rw [size_alloc];omega,λi z G=>?_⟩;rw [MX];refine aa ?_
 match i,G with
 | 0,G=>simp at G|-;exact G▸rfl
 | i+1,G=>simp at G
theorem Own.one {w w':World}{B b:Nat}{x:Tx}(hB:B<=w.heap.size)(hb:b=w.heap.size)(h:w'=w.alloc (.cells #[.string (ax x)] 9)):Own B w' (.slice (some ⟨b,0,none⟩) 1 1) [x]:=by
 subst hb h;refine⟨rfl,.inr ⟨_,1,#[.string (ax x)],rfl,hB,?_,by simp,by unfold maxLen;omega,rfl,rfl⟩⟩;unfold World.alloc;simp
theorem Own.none {w w':World}{B b:Nat}(hB:B<=w.heap.size)(hb:b=w.heap.size)(h:w'=w.alloc (.cells #[] 9)):Own B w' (.slice (some ⟨b,0,none⟩) 0 0) []:=by
 subst hb h;refine⟨rfl,.inr ⟨_,0,#[],rfl,hB,?_,by simp,by unfold maxLen;omega,rfl,rfl⟩⟩;unfold World.alloc;simp
theorem Strs.take {w:World}{a:Option Addr}{n cap:Nat}{l:List Tx}(h:Strs w (.slice a n cap) l){k:Int}(h0:0<=k)(J:k<=l.length):
  Strs w (.slice (if cap=Int.toNat 0 then a else Option.map (·.add (Int.toNat 0* 1)) a) (Int.toNat k - Int.toNat 0) (cap - Int.toNat 0)) (l.take k.toNat):=by
 have H:Int.toNat 0=0:=rfl;rcases h with⟨h,rfl⟩ | ⟨b,off,c,V,W,Z⟩
 ·cases h;have:k=0:=by simp at J;omega
  subst this;exact .inl ⟨rfl,rfl⟩
 ·cases V;refine .inr ⟨b,off,cap,?_,W,λi x G=>Z i x ?_⟩
  ·have e:(if cap=Int.toNat 0 then some (⟨b,off,none⟩:Addr)else Option.map (λq:Addr=>q.add (Int.toNat 0* 1)) (some (⟨b,off,none⟩:Addr)))=some ⟨b,off,none⟩:=by
    split
    ·rfl
    ·simp [Addr.add,H]
   rw [e,H,M5]
   congr 1
   omega
  ·rw [O1]at G;split at G
   ·exact G
   ·cases G
theorem Strs.drop {w:World}{a:Option Addr}{n cap:Nat}{l:List Tx}(h:Strs w (.slice a n cap) l){k:Int}(h0:0<=k)(J:k<=l.length)(hc:n<=cap):
  Strs w (.slice (if cap=Int.toNat k then a else Option.map (·.add (Int.toNat k* 1)) a) (Int.toNat (n:Int) - Int.toNat k) (cap - Int.toNat k)) (l.drop k.toNat):=by
 rcases h with⟨h,rfl⟩ | ⟨b,off,c,V,H,W⟩
 ·cases h;have:k=0:=by simp at J;omega
  subst this;exact .inl ⟨rfl,rfl⟩
 ·cases V;by_cases e:cap=k.toNat
  ·have Z:l.drop k.toNat=[]:=N7 (by omega);rw [MZ e,Z];refine .inr ⟨b,off,cap - k.toNat,?_,H,λi x G=>by simp at G⟩;rw [Mv]
   congr 1
   simp only [MB];omega
  ·rw [MJ e];refine .inr ⟨b,off+k.toNat,cap - k.toNat,?_,H,λi x G=>?_⟩
   ·rw [Mv,NX];simp [Addr.add]
   ·rw [PJ]at G;rw [OU];exact W _ x G
theorem Gh (a b:Tx):(Op.bytesLess a b||decide (a=b))=jb a b:=by
 rw [PL,jb,Nt];simp only [NT,Mz];constructor
 ·rintro(h | rfl)
  ·exact List.le_of_lt h
  ·exact List.le_refl _
 ·intro h;by_cases e:a=b
  ·exact .inr e
  ·left;rcases List.le_iff_lt_or_eq.1 h with h | h
   ·exact h
   ·exact absurd h e
theorem eA {c:UInt8}{s:Tx}{l:List Tx}(h:l≠[]):joinS c (s::l)=40::(s++(c::(joinS c l++[41]))):=by
 cases l with
 | nil=>exact absurd rfl h
 | cons=>rfl
def db (l:List Tx):Nat:=(l.map List.length).sum+3* l.length
theorem dG (s:Tx)(l:List Tx):db (s::l)=s.length+db l+3:=by simp [db];omega
theorem zf (l m:List Tx):db (l++m)=db l+db m:=by simp [db];omega
theorem lF {l m:List Tx}(h:l.Perm m):db l=db m:=by
 induction h with
 | nil=>rfl
 | cons x _ G=>rw [dG,dG,G]
 | swap x y l=>simp only [dG];omega
 | trans _ _ H J=>exact H.trans J
theorem vF (c:UInt8):∀l:List Tx,(joinS c l).length<=db l
 | []=>by simp [joinS]
 | [s]=>by simp [joinS,db]
 | s::t::l=>by
  have :=vF c (t::l);rw [eA (by simp),dG];simp only [Mm,Mt,MB];omega
theorem DS (l:List Tx)(k:Nat):db (l.drop k)<=db l:=by
 conv=>rhs;rw [<-NJ k l,zf]
 omega
theorem sd {w:World}{v:Value}{l:List Tx}{c:UInt8}(Z:Strs w v l)(G:l≠[])(hl:db l<=2199023255552){R:aF->PV}(h:R (joinS c l) w):
  PW 191 #[v,.string (ax [c])] w (aw [.s] R):=by
 refine tJ v [c] w R ?_;dsimp only [go_sem];dsimp only [go_sem,UInt8.reduceOfNat,UInt32.reduceOfNat,Nat.reduceAdd];have α:0< l.length:=OO.2 G;have β:3* l.length<=db l:=by unfold db;omega
 obtain⟨a,cap,hv⟩:=Z.slice;refine⟨a,l.length,cap,hv,by omega,?_⟩;have H:l[((l.length:Int) - 1).toNat]?=some (l.getLast G):=by
  have e:((l.length:Int) - 1).toNat=l.length - 1:=by omega
  rw [e,List.getLast_eq_getElem,Mo]
 refine Z.get (Ex.refl w) (i:=(l.length:Int) - 1) (by omega) H ?_;refine⟨a,l.length,cap,hv,by omega,λout i w'=>w=w'/\ -1<=i/\i<=(l.length:Int) - 2/\out=joinS c (l.drop (i+1).toNat),λ _ i _=>(i+1).toNat,⟨rfl,by omega,by omega,?_⟩,λout i w1 hI=>?_⟩
 ·have e:((l.length:Int) - 2+1).toNat=l.length - 1:=by omega
  have e2:l.drop (l.length - 1)=[l.getLast G]:=by
   rw [Nn (by omega:l.length - 1< l.length),List.getLast_eq_getElem,N7 (by omega)]
  rw [e,e2];rfl
 ·obtain⟨rfl,h0,h1,rfl⟩:=hI;refine⟨λJ=>?_,λJ=>?_⟩
  ·have J:0<=i:=MN J;have hi:i.toNat< l.length:=by omega
   have V:l.drop (i+1).toNat≠[]:=by
    intro e;have :=Nz List.length e;rw [NX,MB]at this;omega
   have hd:l.drop i.toNat=l[i.toNat]::l.drop (i+1).toNat:=by
    have e:(i+1).toNat=i.toNat+1:=by omega
    rw [e];exact Nn hi
   have hj:joinS c (l.drop i.toNat)=40::(l[i.toNat]++(c::(joinS c (l.drop (i+1).toNat)++[41]))):=by rw [hd,eA V]
   have W:=vF c (l.drop i.toNat);have γ:=DS l i.toNat;rw [hj]at W;simp only [Mm,Mt,MB]at W;refine Z.get (Ex.refl w) (i:=i) J (x:=l[i.toNat]) (Mo hi) ⟨by simp only [Mm,MB];omega,by simp only [Mt,Mm,MB];omega,by simp only [Mt,Mm,MB];omega,by simp only [Mt,Mm,MB];omega,by omega,⟨rfl,by omega,by omega,?_⟩,by dsimp only;omega⟩;have e:(i - 1+1).toNat=i.toNat:=by omega
   rw [e,hj];simp
  ·have J:¬0<=i:=MO J;have e:(i+1).toNat=0:=by omega
   rw [e,Oe];exact h
theorem jF {w:World}{v:Value}{l:List Tx}(hs:Strs w v l)(hl:l.length<=1099511627776){R:Value->PV}(h:∀v' w',Ex w w'->Own w.heap.size w' v' (aH l)->R v' w'):
  PW 69 #[v] w (aw [.v] R):=by
 refine pn v w R ?_;dsimp only [go_sem];dsimp only [go_sem,UInt8.reduceOfNat,UInt32.reduceOfNat,Nat.reduceAdd];obtain⟨a,cap,hv⟩:=hs.slice;refine⟨a,l.length,cap,hv,λout x w'=>Ex w w'/\∃k:Nat,x=k/\k<=l.length/\∃m:List Tx,Own w.heap.size w' out m/\m.Pairwise (λa b=>jb a b=true)/\m.Perm (l.take k),λ _ x _=>((l.length:Int) - x).toNat,
  ⟨Ex.refl w,0,rfl,by omega,[],Own.nil _ _,List.Pairwise.nil,by simp⟩,λout x w1 hI=>?_⟩
 obtain⟨α,k,rfl,hk,m,J,β,γ⟩:=hI;refine⟨λhc=>?_,λhc=>?_⟩
 ·have W:k< l.length:=by simpa using hc
  refine hs.get α (i:=k) (by omega) (x:=l[k]) (by simp [W]) ?_;have κ:=J.strs;obtain⟨ao,co,ho⟩:=κ.slice;have hml:m.length=k:=by rw [γ.length_eq,M5];omega
  refine⟨λj w'=>w1=w'/\0<=j/\j<=m.length/\(∀y∈m.take j.toNat,jb y l[k]=true)/\∀y∈m.drop j.toNat,jb l[k] y=true,?_,?_⟩
  ·refine⟨λj w'=>w1=w'/\0<=j/\j<=m.length/\∀y∈m.take j.toNat,jb y l[k]=true,λj _=>((m.length:Int) - j).toNat,⟨rfl,by omega,by omega,by simp⟩,λj w2 hI=>?_⟩;obtain⟨rfl,H,Z,V⟩:=hI;refine⟨ao,m.length,co,ho,λε=>?_,λε=>?_⟩
   ·have hj:j< m.length:=MN ε;have ζ:j.toNat< m.length:=by omega
    refine κ.get (Ex.refl w1) (i:=j) H (x:=m[j.toNat]) (Mo ζ) ⟨λhle=>?_,λhle=>?_⟩
    ·rw [Gh]at hle;refine⟨by omega,⟨rfl,by omega,by omega,λy G=>?_⟩,by dsimp only;omega⟩;have e:(j+1).toNat=j.toNat+1:=by omega
     rw [e,Mq ζ]at G;rcases My.1 G with G | G
     ·exact V y G
     ·rw [MA.1 G];exact hle
    ·rw [Gh]at hle;refine⟨rfl,H,Z,V,λy G=>?_⟩;have δ:jb l[k] m[j.toNat]=true:=by
      have :=pd l[k] m[j.toNat];rw [hle,OT]at this;exact this
     have hd:=Nn ζ;have hp:(m.drop j.toNat).Pairwise (λa b=>jb a b=true):=Oo (List.drop_sublist _ _) β;rw [hd]at hp G;rcases MH.1 G with rfl | G
     ·exact δ
     ·exact fW _ _ _ δ ((OE.1 hp).1 y G)
   ·have hj:¬j< m.length:=MO ε;refine⟨rfl,H,Z,V,λy G=>?_⟩;rw [N7 (by omega)]at G;cases G
  ·intro j w2 hJ;obtain⟨rfl,H,Z,V,μ⟩:=hJ;intro b w3 hb ν;have η:Ex w1 w3:=ν▸Ex.alloc w1 _;have ξ:=(J.ex η).strs;rw [ho]at ξ;have ο:m.length<=co:=by
    rcases J.2 with⟨e,h0⟩ | ⟨g,cap,cur,e,_,_,hc,_⟩
    ·rw [ho]at e;injection e with _ e2 _;omega
    ·rw [ho]at e;cases e;exact hc
   refine⟨ao,m.length,co,ho,by omega,H,by omega,?_⟩;refine Own.push (Own.none (B:=w1.heap.size) (Mu _) hb ν) η.size (ξ.take H Z) (by simp;omega) λv4 w4 χ ψ _ _=>?_
   have ς:Ex w1 w4:=η.below χ;intro b5 w5 ω υ;have θ:Ex w4 w5:=υ▸Ex.alloc w4 _;refine Own.push (ψ.ex θ) (ς.trans θ).size (Strs.one ω υ) (by simp;omega) λv6 w6 hb6 ho6 _ _=>?_
   have ι:Ex w1 w6:=(ς.trans θ).below hb6;have φ:=(J.ex ι).strs;rw [ho]at φ;refine⟨ao,m.length,co,ho,H,by omega,by omega,?_⟩;refine Own.push ho6 ι.size (φ.drop H Z ο) (by simp;omega) λv7 w7 hb7 ho7 _ _=>?_
   have hx7:Ex w1 w7:=ι.below hb7;refine⟨by omega,⟨α.trans hx7,k+1,by omega,W,_,ho7.mono α.size,?_,?_⟩,by dsimp only;omega⟩
   ·simp only [Nk];refine Py.2 ⟨Py.2 ⟨Oo (List.take_sublist _ _) β,List.pairwise_singleton _ _,λx hx y G=>?_⟩,Oo (List.drop_sublist _ _) β,λx hx y G=>?_⟩
    ·rw [MA.1 G];exact V x hx
    ·rcases My.1 hx with hx | hx
     ·exact fW _ _ _ (V x hx) (μ y G)
     ·rw [MA.1 hx];exact μ y G
   ·simp only [Nk];rw [Mq W,M8];refine List.Perm.trans ?_ (γ.append_right [l[k]]);refine(List.Perm.append_left _ OA).trans ?_;rw [<-M8,NJ]
 ·have W:k=l.length:=by simp at hc;omega
  subst W;rw [MR]at γ;rw [<-tw β γ]at J;exact h out w1 α J
end Go.Proofs.YtdecokaadekjnaaGreat
namespace Go.Proofs.YtdecokaadekjnaaGreat
open Classical
def aN {A B:Type}(R:A->B->Prop)(l:List A)(m:List B):Prop:=l.length=m.length/\∀(i:Nat) (a:A) (b:B),l[i]?=some a->m[i]?=some b->R a b
theorem aN.nil {A B:Type}{R:A->B->Prop}:aN R [] []:=⟨rfl,λi a b h=>by simp at h⟩
theorem aN.one {A B:Type}{R:A->B->Prop}{a:A}{b:B}(h:R a b):aN R [a] [b]:=⟨rfl,λi x y G H=>by
 match i,G,H with
 | 0,G,H=>simp at G H;subst G H;exact h
 | i+1,G,H=>simp at G⟩
theorem aN.append {A B:Type}{R:A->B->Prop}{l G:List A}{m m':List B}(h:aN R l m)(k:aN R G m'):aN R (l++G) (m++m'):=by
 refine⟨by simp [h.1,k.1],λi a b ha hb=>?_⟩;rw [List.getElem?_append]at ha hb;rw [<-h.1]at hb;split at ha
 ·rename_i hi;rw [MZ hi]at hb;exact h.2 i a b ha hb
 ·rename_i hi;rw [MJ hi]at hb;exact k.2 _ a b ha hb
theorem aN.mono {A B:Type}{R G:A->B->Prop}{l:List A}{m:List B}(h:aN R l m)(hr:∀a b,a∈l->b∈m->R a b->G a b):aN G l m:=
 ⟨h.1,λi a b ha hb=>hr a b (Ov ha) (Ov hb) (h.2 i a b ha hb)⟩
structure Den (k:Nat)(p:P)(σ:Nat->Nat)(u:U):Prop where
 wf:p.wf=true
 len:p.text.length<=1099511627776
 bd:Bd k p
 ae:AE UInt8.toNat p σ u
 inj:eP σ u
 uq:Uq u
theorem eO (p:P):eP UInt8.toNat p:=λ _ _ _ _ h=>MQ.1 h
theorem Uq.Cr {u:U}(h:Uq u){y:Nat}(G:u.Us y):y∉BV u:=λhb=>h.nf y hb (T.bs G)
theorem Den.dead {k:Nat}{p:P}{σ:Nat->Nat}{u:U}(d:Den k p σ u):p.dead=u.dead:=d.ae.dead
theorem Den.peel {k:Nat}{p:P}{σ:Nat->Nat}{u:U}(d:Den k p σ u)(hd:p.dead=false):∃m G,k<=m/\Den m p.peel G u.peel/\∀y,y∉BV u->G y=σ y:=by
 obtain⟨m,hm,hb⟩:=d.bd.peel;obtain⟨G,V,J⟩:=d.ae.peel (eO p) d.inj d.uq hd;refine⟨m,G,hm,⟨IT d.wf,?_,hb,V,λa b ha hb H=>?_,Hh u d.uq⟩,J⟩
 ·have :=Dn p;have W:=d.len;rw [T.aV]at*;omega
 ·rw [T.Cu]at ha hb;rw [J a (d.uq.Cr ha),J b (d.uq.Cr hb)]at H;exact d.inj a b ha hb H
section
variable {k:Nat} {p q:P} {σ:Nat->Nat} {u v:U}
theorem Den.sum (d:Den k (.sum p q) σ (.sum u v)):Den k p σ u/\Den k q σ v:=by
 have hw:=d.wf;have H:=d.len;have hb:=d.bd.le;simp only [T.wf,Mp]at hw;simp only [T.text,Mm,Mt]at H;simp only [T.rd,T.ow]at hb;exact⟨⟨hw.1,by omega,⟨d.bd.eb.1,by omega⟩,d.ae.1,d.inj.sub λx G=> .inl G,d.uq.dP⟩,⟨hw.2,by omega,⟨d.bd.eb.2,by omega⟩,d.ae.2,d.inj.sub λx G=> .inr G,d.uq.dz⟩⟩
theorem Den.par (d:Den k (.par p q) σ (.par u v)):Den k p σ u/\Den k q σ v:=by
 have hw:=d.wf;have H:=d.len;have hb:=d.bd.le;simp only [T.wf,Mp]at hw;simp only [T.text,Mm,Mt]at H;simp only [T.rd,T.ow]at hb;exact⟨⟨hw.1,by omega,⟨d.bd.eb.1,by omega⟩,d.ae.1,d.inj.sub λx G=> .inl G,d.uq.fG⟩,⟨hw.2,by omega,⟨d.bd.eb.2,by omega⟩,d.ae.2,d.inj.sub λx G=> .inr G,d.uq.fv⟩⟩
theorem Den.tau (d:Den k (.tau p) σ (.tau u)):Den k p σ u:=by
 have G:=d.len;simp only [T.text,Mm]at G;exact⟨d.wf,by omega,⟨d.bd.eb,d.bd.le⟩,d.ae,d.inj,d.uq.tau⟩
theorem Den.rep (d:Den k (.rep p) σ (.rep u)):Den k p σ u:=by
 have G:=d.len;simp only [T.text,Mm]at G;exact⟨d.wf,by omega,⟨d.bd.eb,d.bd.le⟩,d.ae,d.inj,d.uq.rep⟩
theorem Den.snd {a b:UInt8}{c e:Nat}(d:Den k (.snd a b p) σ (.snd c e u)):Den k p σ u:=by
 have hw:=d.wf;have G:=d.len;simp only [T.wf,Mp]at hw;simp only [T.text,Mm]at G;exact⟨hw.2,by omega,⟨d.bd.eb.2.2,d.bd.le⟩,d.ae.2.2,d.inj.sub λx H=> .inr (.inr H),d.uq.snd⟩
theorem Den.mat {a b:UInt8}{c e:Nat}(d:Den k (.mat a b p) σ (.mat c e u))(h:p.dead=false):Den k p σ u:=by
 have hw:=d.wf;have J:=d.len;simp only [T.wf,Mp]at hw;simp only [T.text,Mm]at J;have hd:u.dead=false:=by have :=d.ae.2.2.dead;rw [<-this];exact h
 refine⟨hw.2,by omega,⟨d.bd.eb.2.2,d.bd.le⟩,d.ae.2.2,d.inj.sub λx G=>?_,d.uq.mat⟩;by_cases H:c=e
 ·exact .inl ⟨H,G⟩
 ·exact .inr ⟨H,hd,.inr (.inr G)⟩
theorem Den.res {x y:UInt8}{n:Nat}{q:P}(d:Den k (.res x p) σ (.res n u))(hr:gY (k+1) p x y q)(J:¬(T.res x p).Fr y):Den (k+1) q (aI σ n y.toNat) u:=by
 have hb:=d.bd.le;have V:=d.len;simp only [T.rd,T.ow]at hb;simp only [T.text,Mm]at V;have W:AE (aI UInt8.toNat x y.toNat) p (aI σ n y.toNat) u:=d.ae y.toNat;refine⟨hr.wf,?_,⟨hr.eb,?_⟩,(hr.ok UInt8.toNat).symm.trans W,?_,d.uq.res⟩
 ·rw [T.aV,T.iJ hr.shp,<-T.aV];omega
 ·rw [T.AJ hr.shp,T.yl hr.shp];omega
 ·refine .aI (λa b ha hb G H Z=>d.inj a b ⟨ha,G⟩ ⟨hb,H⟩ Z) λz hz hu e=>J ?_
  obtain⟨x',G,H⟩:=d.ae.symm.free z ⟨hz,T.bs hu⟩;have:x'=y:=MQ.1 (H.trans e);exact this▸G
theorem Den.rcv {a x y:UInt8}{c n:Nat}{q:P}(d:Den k (.rcv a x p) σ (.rcv c n u))(hr:gY (k+1) p x y q)(G:∀z,u.Us z->z≠n->σ z≠y.toNat):Den (k+1) q (aI σ n y.toNat) u:=by
 have hb:=d.bd.le;have H:=d.len;simp only [T.rd,T.ow]at hb;simp only [T.text,Mm]at H;have J:AE (aI UInt8.toNat x y.toNat) p (aI σ n y.toNat) u:=d.ae.2 y.toNat;refine⟨hr.wf,?_,⟨hr.eb,?_⟩,(hr.ok UInt8.toNat).symm.trans J,?_,d.uq.rcv⟩
 ·rw [T.aV,T.iJ hr.shp,<-T.aV];omega
 ·rw [T.AJ hr.shp,T.yl hr.shp];omega
 ·exact .aI (λa b ha hb V W Z=>d.inj a b (.inr ⟨ha,V⟩) (.inr ⟨hb,W⟩) Z) λz hz hu e=>G z hu hz e
end
theorem dF:∀u:U,u.dead=true->ak u=[]
 | .nil,_=>rfl
 | .snd ..,h=>by cases h
 | .rcv ..,h=>by cases h
 | .tau ..,h=>by cases h
 | .sum p q,h=>by
  simp only [T.dead,Mp]at h;simp [ak,dF p h.1,dF q h.2]
 | .par p q,h=>by
  simp only [T.dead,Mp]at h;simp [ak,h.1,dF q h.2]
 | .res x p,h=>by
  have hd:p.dead=true:=h;simp [ak,lA hd,Lv.has,dF p hd]
 | .mat a b p,h=>by
  have hd:p.dead=true:=h;simp only [ak,hd,Ol,dF p hd];split<;>rfl
 | .rep p,h=>by
  have hd:p.dead=true:=h;simp [ak,hd]
theorem D9:∀u:U,Uq u->ak u.peel=ak u:=by
 intro u
 induction u with
 | nil=>intro _;rfl
 | snd=>intro _;rfl
 | rcv=>intro _;rfl
 | tau=>intro _;rfl
 | rep=>intro _;rfl
 | mat a b p G=>
  intro h;unfold T.peel;split
  ·rename_i e;rw [G h.mat];simp [ak,e]
  ·rfl
 | sum p q G H=>
  intro h;unfold T.peel;split
  ·rename_i e;rw [H h.dz];simp [ak,dF p e]
  ·split
   ·rename_i e J;rw [G h.dP];simp [ak,dF q J]
   ·rfl
 | par p q G H=>
  intro h;unfold T.peel;split
  ·rename_i e;rw [H h.fv];simp [ak,e]
  ·split
   ·rename_i e J;rw [G h.fG];simp [ak,e,J]
   ·rfl
 | res x p G=>
  intro h;unfold T.peel;split
  ·rfl
  ·rename_i e;rw [G h.res];have:¬(td p).2.has x=true:=λV=>e ((fI p x h.fD).1 V)
   simp [ak,this]
theorem df:∀u:U,(ak u).length<=u.size
 | .nil=>by simp [ak,T.size]
 | .snd .. =>by simp [ak,T.size]
 | .rcv .. =>by simp [ak,T.size]
 | .tau .. =>by simp [ak,T.size]
 | .sum p q=>by have :=df p;have :=df q;simp only [ak,T.size,Mt];omega
 | .par p q=>by
  have :=df p;have :=df q;simp only [ak,T.size];split
  ·omega
  ·split
   ·omega
   ·simp
 | .res x p=>by
  have :=df p;simp only [ak,T.size];split
  ·simp
  ·omega
 | .mat a b p=>by
  have :=df p;simp only [ak,T.size];split
  ·omega
  ·split<;>simp
 | .rep p=>by
  simp only [ak,T.size];split<;>simp
theorem AE.size {p:P}{u:U}{ρ:UInt8->Nat}{σ:Nat->Nat}(h:AE ρ p σ u):p.size=u.size:=by
 induction p generalizing u ρ σ<;>cases u<;>simp only [AE]at h<;>simp only [T.size]
 case snd.snd G _ _ _=>rw [G h.2.2]
 case mat.mat G _ _ _=>rw [G h.2.2]
 case rcv.rcv G _ _ _=>rw [G (h.2 0)]
 case res.res G _ _=>rw [G (h 0)]
 case tau.tau G _=>rw [G h]
 case rep.rep G _=>rw [G h]
 case sum.sum G H _ _=>rw [G h.1,H h.2]
 case par.par G H _ _=>rw [G h.1,H h.2]
theorem pC:∀(π:List Nat) (ls:List UInt8) (ρ ρ':Rh) (x:Nat),ρ x=ρ' x->asg π ls ρ x=asg π ls ρ' x
 | [],_,_,_,_,h=>by simpa [asg]using h
 | _::_,[],_,_,_,h=>by simpa [asg]using h
 | y::π,c::ls,ρ,ρ',x,h=>by
  rw [asg,asg];refine pC π ls _ _ x ?_;unfold aI;split
  ·rfl
  ·exact h
end Go.Proofs.YtdecokaadekjnaaGreat
namespace Go.Proofs.YtdecokaadekjnaaGreat
def gl (i:Nat):UInt8:=if i< 26 then UInt8.ofNat (65+i)else UInt8.ofNat (166+i)
def Je (c:UInt8):Prop:=(65<=c.toNat/\c.toNat<=90)\/192<=c.toNat
def gG (n:Nat):Tx:=(List.range n).map gl
theorem jr {i:Nat}(h:i< 90):(gl i).toNat=if i< 26 then 65+i else 166+i:=by
 unfold gl;split
 ·rw [NB];omega
 ·rw [NB];omega
theorem wi {i j:Nat}(hi:i< 90)(G:j< 90)(h:gl i=gl j):i=j:=by
 have :=Nz UInt8.toNat h;rw [jr hi,jr G]at this;split at this<;>split at this<;>omega
theorem wI {i:Nat}(h:i< 90):Je (gl i):=by
 unfold Je;rw [jr h];split<;>omega
theorem KA {i k:Nat}(h:i< 90):okn k (gl i):=by
 unfold okn;rw [jr h];split<;>omega
theorem K6 {i:Nat}(h:i< 90):nm (gl i)=true:=by
 have e:=jr h;have H:(65:UInt8).toNat=65:=rfl;have J:(90:UInt8).toNat=90:=rfl;have G:(128:UInt8).toNat=128:=rfl;simp only [nm,NT,Mp,Mz];split at e
 ·left;right;exact⟨ML.2 (by omega),ML.2 (by omega)⟩
 ·right;exact ML.2 (by omega)
theorem H3 {i:Nat}(h:i+1< 90):(gl i+1=91->gl (i+1)=192)/\(gl i+1≠91->gl (i+1)=gl i+1):=by
 have e:=jr (show i< 90 by omega);have Z:=jr h;have J:(gl i+1).toNat=(gl i).toNat+1:=by
  rw [Pj];show((gl i).toNat+1) % 256=_;refine Nat.mod_eq_of_lt ?_;rw [e];split<;>omega
 have V:(91:UInt8).toNat=91:=rfl;have G:(192:UInt8).toNat=192:=rfl;constructor
 ·intro W;have :=Nz UInt8.toNat W;rw [J,e,V]at this;apply MQ.1;rw [Z,G];split at this<;>split<;>omega
 ·intro W;have H:(gl i+1).toNat≠91:=λhc=>W (MQ.1 hc)
  rw [J,e]at H;apply MQ.1;rw [J,Z,e];split at H<;>split<;>(try split)<;>omega
theorem gT {n:Nat}{c:UInt8}:c∈gG n↔∃j,j< n/\c=gl j:=by
 simp only [gG,Nb,NV];exact⟨fun⟨j,G,H⟩=>⟨j,G,H.symm⟩,fun⟨j,G,H⟩=>⟨j,G,H.symm⟩⟩
theorem zo (n:Nat):gG (n+1)=gG n++[gl n]:=by simp [gG,O7]
theorem gQ (n:Nat):(gG n).length=n:=by simp [gG]
def asgN:List Nat->Nat->(Nat->Nat)->Nat->Nat
 | [],_,σ=>σ
 | x::l,n,σ=>asgN l (n+1) (aI σ x (gl n).toNat)
theorem kC:∀(l m:List Nat) (n:Nat) (σ:Nat->Nat),asgN (l++m) n σ=asgN m (n+l.length) (asgN l n σ)
 | [],m,n,σ=>rfl
 | x::l,m,n,σ=>by
  rw [Ns,asgN,asgN,kC l m,Mm]
  congr 1
  omega
theorem iY:∀(l:List Nat) (n:Nat) (σ:Nat->Nat) (y:Nat),y∉l->asgN l n σ y=σ y
 | [],_,_,_,_=>rfl
 | x::l,n,σ,y,h=>by
  simp only [MH,PT]at h;rw [asgN,iY l _ _ y h.2,bH _ _ h.1]
theorem sa:∀(l:List Nat) (n:Nat) (σ τ:Nat->Nat) (y:Nat),σ y=τ y->asgN l n σ y=asgN l n τ y
 | [],_,_,_,_,h=>h
 | x::l,n,σ,τ,y,h=>by
  rw [asgN,asgN];refine sa l _ _ _ y ?_;unfold aI;split
  ·rfl
  ·exact h
def GF (n:Nat)(p:P):Prop:=∀z,p.Fr z->Je z->∃j,j< n/\z=gl j
theorem dZ {x:UInt8}(h:ngr x):¬Je x:=by unfold ngr Je at*;omega
theorem GF.peel {n k:Nat}{p:P}(h:GF n p)(e:Eb k p):GF n p.peel:=by
 refine(T.gN (λq=>GF n q/\∃k,Eb k q) ?_ ?_ ?_ ?_ p ⟨h,k,e⟩).1
 ·rintro a q ⟨h,k,e⟩
  exact⟨λz G=>h z (.inr (.inr G)),k,e.2.2⟩
 ·rintro q r ⟨h,k,e⟩
  exact⟨⟨λz G=>h z (.inl G),k,e.1⟩,λz G=>h z (.inr G),k,e.2⟩
 ·rintro q r ⟨h,k,e⟩
  exact⟨⟨λz G=>h z (.inl G),k,e.1⟩,λz G=>h z (.inr G),k,e.2⟩
 ·rintro x q _ ⟨h,k,e⟩
  refine⟨λz G H=>?_,k+1,e.2⟩;by_cases J:z=x
  ·exact absurd H (dZ (J▸e.1.1))
  ·exact h z ⟨J,G⟩ H
theorem im:∀(u:U),∀x∈(aj u).1,x∈BV u:=by
 intro u
 induction u with
 | nil=>intro x h;simp [aj]at h
 | snd=>intro x h;simp [aj]at h
 | rcv=>intro x h;simp [aj]at h
 | tau=>intro x h;simp [aj]at h
 | sum p q G H=>
  intro x h;simp only [aj]at h;split at h
  ·exact MT _ (H x h)
  ·split at h
   ·exact M0 _ (G x h)
   ·simp at h
 | par p q G H=>
  intro x h;simp only [aj,My]at h;exact h.elim (λh=>M0 _ (G x h)) (λh=>MT _ (H x h))
 | res y p G=>
  intro x h;simp only [aj]at h;split at h
  ·rcases MH.1 h with rfl | h
   ·exact Nc ..
   ·exact MD _ (G x h)
  ·exact MD _ (G x h)
 | mat a b p G=>
  intro x h;simp only [aj]at h;split at h
  ·exact G x h
  ·split at h<;>simp at h
 | rep p G=>
  intro x h;simp only [aj]at h;split at h<;>simp at h
theorem ll:∀(u:U),Uq u->∀t∈(aj u).2,∀y,t.Us y->u.Us y\/y∈(aj u).1:=by
 intro u
 induction u with
 | nil=>intro _ t h;simp [aj]at h
 | snd=>intro _ t h;simp [aj]at h;subst h;exact λy G=> .inl G
 | rcv=>intro _ t h;simp [aj]at h;subst h;exact λy G=> .inl G
 | tau=>intro _ t h;simp [aj]at h;subst h;exact λy G=> .inl G
 | sum p q H J=>
  intro hu t h y G;simp only [aj]at h|-;split at h
  ·rename_i e;simp only [e,Ol];exact(J hu.dz t h y G).imp .inr id
  ·rename_i e;split at h
   ·rename_i W;simp only [e,W,Ol];exact(H hu.dP t h y G).imp .inl id
   ·simp at h;subst h;exact .inl G
 | par p q H J=>
  intro hu t h y G;simp only [aj,My]at h|-;rcases h with h | h
  ·exact(H hu.fG t h y G).imp .inl .inl
  ·exact(J hu.fv t h y G).imp .inr .inr
 | res x p H=>
  intro hu t h y G;have h:t∈(aj p).2:=h;rcases H hu.res t h y G with V | V
  ·by_cases e:y=x
   ·subst e;right;simp only [aj];rw [MZ ((fI p y hu.fD).2 V)];exact Nc ..
   ·exact .inl ⟨e,V⟩
  ·right;simp only [aj];split
   ·exact MD _ V
   ·exact V
 | mat a b p H=>
  intro hu t h y G;simp only [aj]at h|-;split at h
  ·rename_i e;simp only [e,Ol];exact(H hu.mat t h y G).imp (λh=> .inl ⟨rfl,h⟩) id
  ·split at h
   ·simp at h
   ·simp at h;subst h;exact .inl G
 | rep p H=>
  intro hu t h y G;simp only [aj]at h|-;split at h
  ·simp at h
  ·simp at h;subst h;exact .inl G
end Go.Proofs.YtdecokaadekjnaaGreat
namespace Go.Proofs.YtdecokaadekjnaaGreat
open Go Go.RowKit
theorem Den.ok {k:Nat}{p:P}{σ:Nat->Nat}{u:U}(d:Den k p σ u):Ok p:=⟨d.wf,d.len⟩
def KG (k:Nat)(σ:Nat->Nat)(u:U)(p:P)(q:U):Prop:=∃m G,k<=m/\Den m p G q/\∀y,y∉BV u->G y=σ y
theorem Gn {u:U}(H:u.dq)(hd:u.dead=false)(V:∀p q,u≠ .sum p q)(hu:Uq u):ak u=[u]:=by
 cases u with
 | nil=>cases hd
 | snd=>rfl
 | rcv=>rfl
 | tau=>rfl
 | sum p q=>exact absurd rfl (V p q)
 | par p q=>
  have J:p.dead=false:=H.1;have G:q.dead=false:=H.2;simp [ak,J,G]
 | res x p=>
  have:(td p).2.has x=true:=(fI p x hu.fD).2 H;simp [ak,this]
 | mat a b p=>
  have J:a≠b:=H;have G:p.dead=false:=hd;simp [ak,J,G]
 | rep p=>
  have G:p.dead=false:=hd;simp [ak,G]
theorem H9 {p:P}{u:U}{ρ:UInt8->Nat}{σ:Nat->Nat}(h:AE ρ p σ u):(∀a b,p≠ .sum a b)↔∀a b,u≠ .sum a b:=by
 cases p<;>cases u<;>simp [AE]at h|-
theorem yp:∀(n:Nat) {k:Nat} {p:P} {σ:Nat->Nat} {u:U},p.size<=n->Den k p σ u->∀{w:World} {R:Value->PV},
  (∀v w' (ps:List P),Ex w w'->Own w.heap.size w' v (ps.map T.text)->aN (KG k σ u) ps (ak u)->(∀x∈ps,∀j,GF j p->GF j x)->R v w')->PW 258 #[.string (ax p.text)] w (aw [.v] R):=by
 intro n
 induction n with
 | zero=>intro k p σ u h;have :=aY p;omega
 | succ n ih=>
  intro k p σ u hn d w R h;refine mX _ w R ?_;dsimp only [go_sem];dsimp only [go_sem,UInt8.reduceOfNat,UInt32.reduceOfNat,Nat.reduceAdd];refine zU d.ok λw1 V H=>?_
  have ξ:=T.vd p;have ε:=T.lO p;by_cases hd:p.dead=true
  ·
   have hq:p.peel.dead=true:=by rw [ε];exact hd
   have hs:ak u=[]:=dF u (by rw [<-d.dead];exact hd);have hp:=T.kQ p;refine aP H ⟨λhc=>?_,λhc=>?_⟩
   ·exact e8 _ (Mu _) H λw2 G=>⟨λ _=>h _ w2 [] (V.trans G) (Own.nil _ _) (by rw [hs];exact aN.nil) (λx h=>(by cases h)),λhh=>absurd hh (by rw [hq];simp)⟩
   ·exfalso;generalize p.peel=q at*;cases q<;>simp [T.kind]at hc
    simp [T.dead,hp.1]at hq
  have hd:p.dead=false:=by simpa using hd
  obtain⟨m,ο,hm,d',γ⟩:=d.peel hd;have ς:=T.kQ u;rw [<-D9 u d.uq]at h;have υ:u.peel.dead=false:=by rw [T.lO,<-d.dead];exact hd
  have φ:p.peel.dead=false:=by rw [ε];exact hd
  have ζ:∀y,y∉BV u->y∉BV u.peel:=λy hy hb=>hy (CL u y hb)
  have η:∀j,GF j p->GF j p.peel:=λj hj=>hj.peel d.bd.eb
  generalize p.peel=q at*;generalize u.peel=v at*;refine aP H ⟨λhc=>?_,λhc=>?_⟩
  ·have χ:∀a b,q≠ .sum a b:=λa b e=>by subst e;simp [T.kind]at hc
   refine e8 _ (Mu _) H λw2 G=>⟨λhh=>absurd hh (by rw [φ];simp),λ _=>λb w3 hb J=>?_⟩
   refine h _ w3 [q] ((V.trans G).trans (J▸Ex.alloc w2 _)) (Own.one (V.trans G).size hb J) ?_ λx hx j hj=>?_
   ·rw [Gn ς υ ((H9 d'.ae).1 χ) d'.uq];exact aN.one ⟨m,ο,hm,d',γ⟩
   ·have:x=q:=by simpa using hx
    subst this;exact η j hj
  ·cases q<;>simp [T.kind]at hc
   rename_i a b;cases v<;>(try exact d'.ae.elim)
   rename_i u1 u2;obtain⟨d1,d2⟩:=d'.sum;simp only [T.size]at ξ;refine cO H λvp w2 G W=>?_
   have W:Strs w2 vp [a.text,b.text]:=W;refine⟨λw'=>Ex w2 w',λw3 J=>⟨J▸Ex.drew w2,?_⟩⟩;have Z:Ex w2 w3:=J▸Ex.drew w2;refine W.EX (i:=0) (x:=a.text) (by omega) rfl ?_;refine W.EX (i:=1) (x:=b.text) (by omega) rfl ?_;refine ih (by omega) d1 λv4 w4 ψ α ω θ hg4=>⟨Z.trans α,ih (by omega) d2 λv5 w5 ps2 β ho5 ι hg5=>⟨(Z.trans α).trans β,?_⟩⟩
   have z1:=df u1;have z2:=df u2;have e1:=d1.ae.size;have e2:=d2.ae.size;have t1:=bj a;have t2:=bj b;have hl:=d'.len;simp only [T.text,Mm,Mt]at hl;have l1:=θ.1;have l2:=ι.1;have hE:Ex w w3:=(V.trans G).trans Z;refine Own.push (ω.ex β) (α.trans β).size ho5.strs (by simp only [MM];omega) λv6 w6 hb6 ho6 _ _=>?_
   have κ:Ex w3 w6:=(α.trans β).below hb6;refine⟨Z.trans κ,h _ w6 (ψ++ps2) (hE.trans κ) ?_ ?_ λx hx j hj=>?_⟩
   ·rw [Nq];exact ho6.mono hE.size
   ·have μ:∀y,y∉BV u->y∉BV u1:=λy hy hb=>ζ y hy (M0 _ hb)
    have ν:∀y,y∉BV u->y∉BV u2:=λy hy hb=>ζ y hy (MT _ hb)
    refine aN.append (θ.mono λx y _ _ ⟨m',δ,h1,h2,h3⟩=>⟨m',δ,by omega,h2,λz hz=>?_⟩) (ι.mono λx y _ _ ⟨m',δ,h1,h2,h3⟩=>⟨m',δ,by omega,h2,λz hz=>?_⟩)
    ·rw [h3 z (μ z hz),γ z hz]
    ·rw [h3 z (ν z hz),γ z hz]
   ·have hj:=η j hj;exact(My.1 hx).elim (λhx=>hg4 x hx j λz hz=>hj z (.inl hz)) (λhx=>hg5 x hx j λz hz=>hj z (.inr hz))
theorem Ej {s o:Tx}:s≠[]->(o.Perm s↔∃i r,i< s.length/\r.Perm (s.take i++s.drop (i+1))/\o=bt s i::r):=by
 intro H;constructor
 ·intro h;cases o with
  | nil=>exact absurd h.symm.eq_nil H
  | cons c r=>
   obtain⟨i,hi,e⟩:=Np.1 (h.subset (Nc ..));refine⟨i,r,hi,?_,by simp [bt,hi,e]⟩;have G:s.Perm (s[i]::(s.take i++s.drop (i+1))):=by
    conv=>lhs;rw [<-NJ i s,Nn hi]
    exact Pd
   rw [e]at G;exact(PK c).1 (h.trans G)
 ·rintro⟨i,r,hi,hr,rfl⟩
  have G:s.Perm (s[i]::(s.take i++s.drop (i+1))):=by
   conv=>lhs;rw [<-NJ i s,Nn hi]
   exact Pd
  have e:bt s i=s[i]:=by simp [bt,hi]
  rw [e];exact(List.Perm.cons _ hr).trans G.symm
theorem By:∀(n:Nat) {s:Tx},s.length<=n->n<=5->∀{w:World} {R:Value->PV},
  (∀v w' (L:List Tx),Ex w w'->Own w.heap.size w' v L->L.length<=6^s.length->(∀o,o∈L↔o.Perm s)->R v w')->PW 243 #[.string (ax s)] w (aw [.v] R):=by
 intro n
 induction n with
 | zero=>
  intro s hs hn w R h;have:s=[]:=MS (by omega);subst this;refine iN _ w R ?_;dsimp only [go_sem];dsimp only [go_sem,UInt8.reduceOfNat,UInt32.reduceOfNat,Nat.reduceAdd];refine⟨λ _=>λb w1 hb J=>h _ w1 [[]] (J▸Ex.alloc w _) (Own.one (Mu _) hb J) (by simp) λo=>by simp,λhc=>absurd hc (by simp)⟩
 | succ n ih=>
  intro s hs hn w R h;refine iN _ w R ?_;dsimp only [go_sem];dsimp only [go_sem,UInt8.reduceOfNat,UInt32.reduceOfNat,Nat.reduceAdd];refine⟨λhc=>?_,λhc=>?_⟩
  ·have hc:s=[]:=MN hc;subst hc;exact λb w1 hb J=>h _ w1 [[]] (J▸Ex.alloc w _) (Own.one (Mu _) hb J) (by simp) λo=>by simp
  ·have κ:s≠[]:=MO hc;have hpos:0< s.length:=OO.2 κ;intro b cap w1 hb hrow ψ;have ω:Ex w w1:=tL ψ;have h6:6^(s.length - 1)<=1296:=Nv (Nat.pow_le_pow_right (by omega) (by omega:s.length - 1<=4)) (by decide);have h6':6^s.length=6* 6^(s.length - 1):=by
    conv=>lhs;rw [show s.length=(s.length - 1)+1 by omega,Nat.pow_succ]
    omega
   generalize hP:6^(s.length - 1)=P6 at*;refine⟨some ⟨b,0,none⟩,s.length,cap,rfl,λout x w'=>Ex w w'/\∃i:Nat,x=i/\i<=s.length/\∃L:List Tx,Own w.heap.size w' out L/\L.length<=i* P6/\∀o,o∈L↔∃j r,j< i/\r.Perm (s.take j++s.drop (j+1))/\o=bt s j::r,
    λ _ x _=>((s.length:Int) - x).toNat,⟨ω,0,rfl,by omega,[],Own.nil _ _,by simp,λo=>by simp⟩,λout x w2 hI=>?_⟩
   obtain⟨μ,i,rfl,hi,L,β,hL2,ν⟩:=hI;refine⟨λγ=>?_,λγ=>?_⟩
   ·have δ:i< s.length:=by simpa using γ
    have ei:((i:Int)+1).toNat=i+1:=by omega
    refine⟨λw'=>True,λw3 hw3=>⟨trivial,by omega,by omega,by omega,by simp only [M5,NX];omega,?_⟩⟩;have ξ:Ex w2 w3:=hw3▸Ex.drew w2;rw [ei,Mv];have hlen:(s.take i++s.drop (i+1)).length=s.length - 1:=by simp only [Mt,M5,NX];omega
    refine ih (by omega) (by omega) λvr w4 M hx4 ε hM2 ζ=>⟨trivial,?_⟩
    rw [hlen,hP]at hM2;have ο:=ε.strs;obtain⟨ar,cr,hvr⟩:=ο.slice;have W:=ξ.trans hx4;have hE4:Ex w w4:=μ.trans W;refine⟨ar,M.length,cr,hvr,λout y w'=>(Ex w w'/\w4.heap.size<=w'.heap.size/\Strs w' vr M/\∀b,out.ownBlock=some b->vr.ownBlock≠some b)/\∃j:Nat,y=j/\j<=M.length/\Own w.heap.size w' out (L++(M.take j).map (bt s i::·)),λ _ y _=>((M.length:Int) - y).toNat,
     ⟨⟨hE4,Mu _,ο,λb hb G=>?_⟩,0,rfl,by omega,by simpa using β.ex W⟩,λout2 y w5 hI=>?_⟩
    ·have h1:=(β.block b hb).2;have h2:=(ε.block b G).1;have h3:=ξ.size;omega
    obtain⟨⟨ς,hsz5,Z,α⟩,j,rfl,hj,η⟩:=hI;have hmul:i* P6+P6<=6480:=by
     have:i* P6<=4* 1296:=PM (by omega) h6;omega
    refine⟨λθ=>?_,λθ=>?_⟩
    ·have H:j< M.length:=by simpa using θ
     refine Z.get (Ex.refl w5) (i:=j) (by omega) (x:=M[j]) (by simp [H]) ⟨by omega,by omega,?_,λb6 w6 hb6 ι=>?_⟩
     ·have :=(ζ M[j]).1 (Mx H);have h7:=this.length_eq;simp only [NX,M5,ei,Mv];omega
     ·have υ:=vL (s:=s) (i:=(i:Int)) (by omega) (by omega);rw [ei,Mv]at υ;rw [υ]at ι;have V:Ex w5 w6:=ι▸Ex.alloc w5 _;have φ:Ex w w6:=ς.trans V;refine Own.push (η.ex V) φ.size (Strs.one hb6 ι) (by simp only [Mt,MM,M5,Mm,MB];omega) λv7 w7 χ ho7 hg7 hw7=>?_
      have hE7:Ex w w7:=φ.below χ;have hs7:Strs w7 vr M:=(Z.ex V).grown hg7 λb hb G=>α b G hb
      refine⟨by omega,⟨⟨hE7,?_,hs7,λb hb G=>?_⟩,j+1,by omega,H,?_⟩,by dsimp only;omega⟩
      ·have :=V.size;have :=χ.size;omega
      ·rcases hw7 b hb with h | h
       ·exact α b h G
       ·have h2:=(ε.block b G).2;have :=V.size;omega
      ·have e:L++(M.take (j+1)).map (bt s i::·)=(L++(M.take j).map (bt s i::·))++[[bt s i]++M[j]]:=by
        rw [Mq H,Nq,M8];rfl
       rw [e];exact ho7
    ·have H:j=M.length:=by simp at θ;omega
     subst H;rw [MR]at η;refine⟨by omega,⟨ς,i+1,by omega,δ,_,η,?_,λo=>?_⟩,by dsimp only;omega⟩
     ·rw [Mt,MM,Nat.add_mul];omega
     ·rw [My,ν,Nb];constructor
      ·rintro(⟨j,r,h1,h2,h3⟩ | ⟨r,hr,rfl⟩)
       ·exact⟨j,r,by omega,h2,h3⟩
       ·exact⟨i,r,by omega,(ζ r).1 hr,rfl⟩
      ·rintro⟨j,r,h1,h2,rfl⟩
       by_cases e:j=i
       ·subst e;exact .inr ⟨r,(ζ r).2 h2,rfl⟩
       ·exact .inl ⟨j,r,by omega,h2,rfl⟩
   ·have δ:i=s.length:=by simp at γ;omega
    subst δ;refine h out w2 L μ β ?_ λo=>?_
    ·have:s.length* P6<=6* P6:=Nat.mul_le_mul_right _ (by omega);omega
    ·rw [ν,Ej κ]
structure Kp (w w':World)(S:Nat->Prop):Prop where
 os:w'.os=w.os
 tape:w'.tape=w.tape
 output:w'.output=w.output
 size:w.heap.size<=w'.heap.size
 block:∀g,g< w.heap.size->¬S g->w'.heap[g]?=w.heap[g]?
theorem Kp.ah {w w':World}(h:Ex w w')(S:Nat->Prop):Kp w w' S:=⟨h.os,h.tape,h.output,h.size,λg G _=>h.block g G⟩
theorem Kp.trans {a b c:World}{S T:Nat->Prop}(h:Kp a b S)(k:Kp b c T)(J:∀g,g< a.heap.size->T g->S g):Kp a c S:=
 ⟨k.os.trans h.os,k.tape.trans h.tape,k.output.trans h.output,Nv h.size k.size,λg G H=>
  (k.block g (MP G h.size) λV=>H (J g G V)).trans (h.block g G H)⟩
theorem Kp.below {w w':World}{S:Nat->Prop}{B:Nat}(h:Kp w w' S)(hB:B<=w.heap.size)(G:∀g,g< B->¬S g):Below B w w':=
 ⟨h.os,h.tape,h.output,h.size,λg H=>h.block g (by omega) (G g H)⟩
theorem Strs.kp {w w':World}{v:Value}{l:List Tx}{S:Nat->Prop}(h:Strs w v l)(k:Kp w w' S)(J:∀b off n cap,v= .slice (some ⟨b,off,none⟩) n cap->¬S b):Strs w' v l:=by
 rcases h with h | ⟨b,off,cap,G,H,V⟩
 ·exact .inl h
 ·refine .inr ⟨b,off,cap,G,MP H k.size,λi x W=>?_⟩;rw [Mn (w:=w) (k.block b H (J b off _ cap G))];exact V i x W
structure GL (B:Nat)(w:World)(b:Nat)(f:Tx)(v:Value)(L:List Tx):Prop where
 lt:b< w.heap.size
 base:B<=b
 c0:w.cell? ⟨b,0,none⟩=some (sv f)
 c1:w.cell? ⟨b,1,none⟩=some v
 own:Own B w v L
 ne:v.ownBlock≠some b
 f0:w.frozen? ⟨b,0,none⟩=false
 f1:w.frozen? ⟨b,1,none⟩=false
def gS (b:Nat)(v:Value)(g:Nat):Prop:=g=b\/v.ownBlock=some g
theorem GL.ex {B:Nat}{w w':World}{b:Nat}{f:Tx}{v:Value}{L:List Tx}(h:GL B w b f v L)(k:Ex w w'):GL B w' b f v L:=
 ⟨MP h.lt k.size,h.base,by rw [k.cell h.lt];exact h.c0,by rw [k.cell h.lt];exact h.c1,h.own.ex k,h.ne,by rw [N4 k h.lt];exact h.f0,by rw [N4 k h.lt];exact h.f1⟩
def HF (k:Nat)(σ:Nat->Nat)(u:U)(j:Nat)(p:P)(t:U):Prop:=
 ∃m τ,k<=m/\Den m p τ t/\(∀y,t.Us y->τ y=asgN (aj u).1 j σ y)/\GF (j+(aj u).1.length) p
theorem u7:∀(l:List Nat) (n:Nat) (σ τ:Nat->Nat) (y:Nat),(y∈l\/σ y=τ y)->asgN l n σ y=asgN l n τ y
 | [],_,_,_,_,h=>by simpa [asgN]using h
 | x::l,n,σ,τ,y,h=>by
  rw [asgN,asgN];refine u7 l _ _ _ y ?_;by_cases e:y=x
  ·right;subst e;simp [aI]
  ·rcases h with h | h
   ·exact .inl ((MH.1 h).resolve_left e)
   ·right;simp [aI,e,h]
theorem Et {u:U}(J:u.dq)(hd:u.dead=false)(H:∀p q,u≠ .par p q)(G:∀x p,u≠ .res x p):aj u=([],[u]):=by
 cases u with
 | nil=>cases hd
 | snd=>rfl
 | rcv=>rfl
 | tau=>rfl
 | par p q=>exact absurd rfl (H p q)
 | res x p=>exact absurd rfl (G x p)
 | sum p q=>
  have H:p.dead=false:=J.1;have G:q.dead=false:=J.2;simp [aj,H,G]
 | mat a b p=>
  have H:a≠b:=J;have G:p.dead=false:=hd;simp [aj,H,G]
 | rep p=>
  have G:p.dead=false:=hd;simp [aj,G]
theorem GL.FH {B:Nat}{w:World}{b:Nat}{f:Tx}{v:Value}{L:List Tx}(h:GL B w b f v L)(g:Tx):GL B (w.setCell ⟨b,0,none⟩ (sv g)) b g v L:=by
 have J:∀n,n≠b->(w.setCell ⟨b,0,none⟩ (sv g)).heap[n]?=w.heap[n]?:=λn G=>O3 _ _ _ _ G
 refine⟨by rw [M9];exact h.lt,h.base,MI _ _ _ h.c0,?_,⟨h.own.1,?_⟩,h.ne,by rw [MG];exact h.f0,by rw [MG];exact h.f1⟩
 ·rw [Mr _ _ _ _ (by simp)];exact h.c1
 ·rcases h.own.2 with G | ⟨H,cap,cur,e,hb,V,rest⟩
  ·exact .inl G
  ·refine .inr ⟨H,cap,cur,e,hb,?_,rest⟩;rw [J H λW=>h.ne (by rw [e,<-W];rfl)];exact V
theorem GL.AW {B:Nat}{w w':World}{b:Nat}{f:Tx}{v v':Value}{L V:List Tx}(h:GL B w b f v L)(W:w.grownBy w' v.ownBlock)(Z:Own B w' v' V)(G:v'.ownBlock≠some b):
  GL B (w'.setCell ⟨b,1,none⟩ v') b f v' V/\((∃u,w'.cell? ⟨b,1,none⟩=some u)/\w'.frozen? ⟨b,1,none⟩=false):=by
 have hb:w'.heap[b]?=w.heap[b]?:=W.block b h.lt λe=>h.ne e.symm
 have e0:w'.cell? ⟨b,0,none⟩=some (sv f):=by rw [Mn (w:=w) hb];exact h.c0
 have e1:w'.cell? ⟨b,1,none⟩=some v:=by rw [Mn (w:=w) hb];exact h.c1
 have z0:w'.frozen? ⟨b,0,none⟩=false:=by rw [MU (w:=w) hb];exact h.f0
 have z1:w'.frozen? ⟨b,1,none⟩=false:=by rw [MU (w:=w) hb];exact h.f1
 have hk:∀n,n≠b->(w'.setCell ⟨b,1,none⟩ v').heap[n]?=w'.heap[n]?:=λn H=>O3 _ _ _ _ H
 refine⟨⟨by rw [M9];exact MP h.lt W.size,h.base,?_,MI _ _ _ e1,⟨Z.1,?_⟩,G,by rw [MG];exact z0,by rw [MG];exact z1⟩,⟨⟨_,e1⟩,z1⟩⟩
 ·rw [Mr _ _ _ _ (by simp)];exact e0
 ·rcases Z.2 with H | ⟨g',cap,cur,e,hb,J,rest⟩
  ·exact .inl H
  ·refine .inr ⟨g',cap,cur,e,hb,?_,rest⟩;rw [hk g' λhh=>G (by rw [e,<-hh];rfl)];exact J
theorem Kp.set {w w':World}{S:Nat->Prop}(h:Kp w w' S){b i:Nat}(hb:S b)(v:Value):Kp w (w'.setCell ⟨b,i,none⟩ v) S:=
 ⟨h.os,h.tape,h.output,by rw [M9];exact h.size,λg H G=>(O3 _ _ _ _ (show g≠b from λe=>G (by rw [e];exact hb))).trans (h.block g H G)⟩
theorem Kp.grown {w w1 w':World}{S:Nat->Prop}(h:Kp w w1 S){row:Option Nat}(H:w1.grownBy w' row)(hr:∀g,row=some g->g< w.heap.size->S g):Kp w w' S:=
 ⟨H.os.trans h.os,H.tape.trans h.tape,H.output.trans h.output,Nv h.size H.size,λg G J=>
  (H.block g (MP G h.size) (λe=>J (hr g e.symm G))).trans (h.block g G J)⟩
theorem fc:∀u:U,(aj u).2.length<=u.size
 | .nil=>by simp [aj]
 | .snd .. =>by simp [aj,T.size]
 | .rcv .. =>by simp [aj,T.size]
 | .tau .. =>by simp [aj,T.size]
 | .sum p q=>by
  have :=fc p;have :=fc q;simp only [aj,T.size];split
  ·omega
  ·split
   ·omega
   ·simp
 | .par p q=>by have :=fc p;have :=fc q;simp only [aj,T.size,Mt];omega
 | .res x p=>by have :=fc p;simp only [aj,T.size];omega
 | .mat a b p=>by
  have :=fc p;simp only [aj,T.size];split
  ·omega
  ·split<;>simp
 | .rep p=>by
  simp only [aj,T.size];split<;>simp
theorem gZ:∀u:U,(aj u).1.length<=u.ow
 | .nil=>by simp [aj]
 | .snd .. =>by simp [aj]
 | .rcv .. =>by simp [aj]
 | .tau .. =>by simp [aj]
 | .sum p q=>by
  have :=gZ p;have :=gZ q;simp only [aj,T.ow];split
  ·omega
  ·split
   ·omega
   ·simp
 | .par p q=>by have :=gZ p;have :=gZ q;simp only [aj,T.ow,Mt];omega
 | .res x p=>by
  have :=gZ p;simp only [aj,T.ow];split
  ·simp only [Mm];omega
  ·omega
 | .mat a b p=>by
  have :=gZ p;simp only [aj,T.ow];split
  ·omega
  ·split<;>simp
 | .rep p=>by
  simp only [aj,T.ow];split<;>simp
theorem B7 {p:P}{u:U}{ρ:UInt8->Nat}{σ:Nat->Nat}(h:AE ρ p σ u):u.ow=p.ow:=by
 induction p generalizing u ρ σ<;>cases u<;>simp only [AE]at h<;>simp only [T.ow]
 case snd.snd G _ _ _=>exact G h.2.2
 case mat.mat G _ _ _=>exact G h.2.2
 case rcv.rcv G _ _ _=>exact G (h.2 0)
 case res.res G _ _=>rw [G (h 0)]
 case tau.tau G _=>exact G h
 case rep.rep G _=>exact G h
 case sum.sum G H _ _=>rw [G h.1,H h.2]
 case par.par G H _ _=>rw [G h.1,H h.2]
theorem GJ:∀(n:Nat) {k:Nat} {p:P} {σ:Nat->Nat} {u:U} {j:Nat},p.size<=n->Den k p σ u->GF j p->j+p.ow<=64->
  ∀{B b:Nat} {v:Value} {L:List Tx} {w:World} {R:PV},GL B w b (gG j) v L->L.length+p.size<=1099511627776->
  (∀w' v' (ps:List P),Kp w w' (gS b v)->(∀g,v'.ownBlock=some g->v.ownBlock=some g\/w.heap.size<=g)->GL B w' b (gG (j+(aj u).1.length)) v' (L++ps.map T.text)->aN (HF k σ u j) ps (aj u).2->R w')->
  PW 242 #[.pointer (some ⟨b,0,none⟩),.string (ax p.text)] w (aw [] R):=by
 intro n
 induction n with
 | zero=>intro k p σ u j h;have :=aY p;omega
 | succ n ih=>
  intro k p σ u j hn d hgf how B b v L w R β hL h;refine jw _ _ w R ?_;dsimp only [go_sem];dsimp only [go_sem,UInt8.reduceOfNat,UInt32.reduceOfNat,Nat.reduceAdd];refine zU d.ok λw1 hx1 ο=>?_
  have hsz:=T.vd p;have hdd:=T.lO p;refine e8 _ (Mu _) ο λw2 hx2=>⟨λhd=>?_,λhd=>?_⟩
  ·have hx:Ex w w2:=hx1.trans hx2;have V:=cV u d.uq (by rw [<-d.dead,<-hdd];exact hd);rw [V]at h;exact h w2 v [] (Kp.ah hx _) (λg V=> .inl V) (by simpa using β.ex hx) aN.nil
  have hpd:p.dead=false:=by rw [<-hdd];exact hd
  obtain⟨m,ς,hm,d',hσ⟩:=d.peel hpd;have δ:GF j p.peel:=hgf.peel d.bd.eb;have how':j+p.peel.ow<=64:=by have :=T.Ir p;omega
  have hpu:=T.kQ u;have hud:u.peel.dead=false:=by rw [T.lO,<-d.dead];exact hpd
  have hbv:∀y,y∉BV u->y∉BV u.peel:=λy hy hb=>hy (CL u y hb)
  have υ:=d'.uq;have h:∀w' v' (ps:List P),Kp w w' (gS b v)->(∀g,v'.ownBlock=some g->v.ownBlock=some g\/w.heap.size<=g)->GL B w' b (gG (j+(aj u.peel).1.length)) v' (L++ps.map T.text)->aN (HF m ς u.peel j) ps (aj u.peel).2->R w':=by
   intro w' v' ps G h2 h3 h4;have hus:=ll u.peel υ;rw [oA u d.uq]at h3;have hmem:∀t∈(aj u.peel).2,∀y,t.Us y->asgN (aj u.peel).1 j ς y=asgN (aj u.peel).1 j σ y:=by
    intro t ht y hy;refine u7 _ _ _ _ _ ?_;rcases hus t ht y hy with hh | hh
    ·right;rw [T.Cu]at hh;exact hσ y (d.uq.Cr hh)
    ·exact .inl hh
   have h4':aN (HF k σ u j) ps (aj u.peel).2:=h4.mono λa t _ ht ⟨m',τ,q1,q2,q3,q4⟩=>⟨m',τ,by omega,q2,λy hy=>by rw [q3 y hy,hmem t ht y hy,oA u d.uq],by rw [oA u d.uq]at q4;exact q4⟩
   rw [oA u d.uq]at h4';exact h w' v' ps G h2 h3 h4'
  generalize p.peel=q at*;generalize u.peel=t at*;have α:Ex w w2:=hx1.trans hx2;have ε:=β.ex α;have thread:(∀a b,q≠ .par a b)->(∀x a,q≠ .res x a)->True:=λ _ _=>trivial
  refine aP ο ⟨λhc=>?_,λhc=>⟨λhc2=>?_,λhc2=>?_⟩⟩
  ·
   cases q<;>simp [T.kind]at hc
   rename_i a c;cases t<;>(try exact d'.ae.elim)
   rename_i W u2;obtain⟨d1,d2⟩:=d'.par;simp only [T.size]at hsz;simp only [T.ow]at how';have z1:=d1.ae.size;have z2:=d2.ae.size;refine pI ο λvp w3 Z χ hfr=>?_
   have χ:Strs w3 vp [a.text,c.text]:=χ;have J:=ε.ex Z;have ν:Ex w w3:=α.trans Z;refine χ.get (Ex.refl w3) (i:=0) (x:=a.text) (by omega) rfl ?_;refine ih (by omega) d1 (λz hz=>δ z (.inl hz)) (by omega) J (by omega) λw4 v4 ps1 hk4 hv4 hGL4 ha4=>?_
   have hs4:Strs w4 vp [a.text,c.text]:=χ.kp hk4 λbp off n' cap e hS=>by
    have hb:=hfr bp (by rw [e];rfl);rcases hS with rfl | hS
    ·have :=ε.lt;omega
    ·have :=(β.own.block bp hS).2;have :=α.size;omega
   refine hs4.get (Ex.refl w4) (i:=1) (x:=c.text) (by omega) rfl ?_;have l1:=ha4.1;have g1:(aj W).2.length<=W.size:=fc W;have o1:(aj W).1.length<=a.ow:=by rw [<-B7 d1.ae];exact gZ W
   refine ih (by omega) d2 (λz hz V=>?_) (by omega) hGL4 (by simp only [Mt,MM];omega) λw5 v5 ps2 hk5 hv5 ζ ha5=>?_
   ·obtain⟨i,hi,e⟩:=δ z (.inr hz) V;exact⟨i,by omega,e⟩
   ·have hv45:∀g,v5.ownBlock=some g->v.ownBlock=some g\/w.heap.size<=g:=by
     intro g V;rcases hv5 g V with G | G
     ·rcases hv4 g G with h2 | h2
      ·exact .inl h2
      ·right;have :=ν.size;omega
     ·right;have :=ν.size;have :=hk4.size;omega
    refine h w5 v5 (ps1++ps2) ?_ hv45 ?_ ?_
    ·refine Kp.trans (Kp.trans (Kp.ah ν (gS b v)) hk4 λg _ V=>V) hk5 λg V hS=>?_
     rcases hS with G | G
     ·exact .inl G
     ·rcases hv4 g G with h2 | h2
      ·exact .inr h2
      ·have :=ν.size;omega
    ·have e1:(aj (T.par W u2)).1.length=(aj W).1.length+(aj u2).1.length:=by simp [aj]
     rw [e1,<-OU,Nq,<-M8];exact ζ
    ·have hnd:=M6.1 υ.nd;have hus1:=ll W d1.uq;have hus2:=ll u2 d2.uq;refine aN.append (ha4.mono λx y _ hy ⟨m',τ,q1,q2,q3,q4⟩=>⟨m',τ,q1,q2,λz hz=>?_,λz hz V=>?_⟩) (ha5.mono λx y _ hy ⟨m',τ,q1,q2,q3,q4⟩=>⟨m',τ,q1,q2,λz hz=>?_,λz hz V=>?_⟩)
     ·have hno:z∉(aj u2).1:=λhin=>by
       have hb2:=im u2 z hin;rcases hus1 y hy z hz with G | G
       ·exact υ.nf z (MT _ hb2) (.inl (T.bs G))
       ·exact hnd.2.2 z (im W z G) z hb2 rfl
      show τ z=asgN ((aj W).1++(aj u2).1) j ς z;rw [kC,iY _ _ _ _ hno];exact q3 z hz
     ·obtain⟨i,hi,e⟩:=q4 z hz V;have e1:(aj (T.par W u2)).1.length=(aj W).1.length+(aj u2).1.length:=by simp [aj]
      exact⟨i,by omega,e⟩
     ·have hno:z∉(aj W).1:=λhin=>by
       have hb1:=im W z hin;rcases hus2 y hy z hz with G | G
       ·exact υ.nf z (M0 _ hb1) (.inr (T.bs G))
       ·exact hnd.2.2 z hb1 z (im u2 z G) rfl
      show τ z=asgN ((aj W).1++(aj u2).1) j ς z;rw [kC,q3 z hz];exact sa _ _ _ _ _ (iY _ _ _ _ hno).symm
     ·obtain⟨i,hi,e⟩:=q4 z hz V;have e1:(aj (T.par W u2)).1.length=(aj W).1.length+(aj u2).1.length:=by simp [aj]
      exact⟨i,by omega,e⟩
  ·cases q<;>simp [T.kind]at hc2
   rename_i x a;cases t<;>(try exact d'.ae.elim)
   rename_i y W;have hne:T.res x a≠ .nil:=λe=>by cases e
   have hj:j< 90:=by omega
   have oka:=ο.parts a (by simp [T.parts]);refine⟨λc w'=>Ex w2 w'/\∃i:Nat,i<=j/\c=gl i,λc _=>256 - c.toNat,⟨Ex.refl _,0,by omega,rfl⟩,λc w3 hI=>?_⟩;obtain⟨Z,i,hi,rfl⟩:=hI;have J:=ε.ex Z;have next:∀w',Ex w2 w'->i< j->((decide (gl i+1=91))=true->(Ex w2 w'/\∃i':Nat,i'<=j/\(192:UInt8)=gl i')/\256 - (192:UInt8).toNat< 256 - (gl i).toNat)/\((decide (gl i+1=91))=false->(Ex w2 w'/\∃i':Nat,i'<=j/\gl i+1=gl i')/\256 - (gl i+1).toNat< 256 - (gl i).toNat):=by
    intro w' hx' ψ;obtain⟨n1,n2⟩:=H3 (i:=i) (by omega);have e1:=jr (show i< 90 by omega);have e2:=jr (show i+1< 90 by omega);refine⟨λhc=>?_,λhc=>?_⟩
    ·have hc:=MN hc;refine⟨⟨hx',i+1,by omega,(n1 hc).symm⟩,?_⟩;rw [<-n1 hc,e2,e1];split<;>split<;>omega
    ·have hc:=MO hc;refine⟨⟨hx',i+1,by omega,(n2 hc).symm⟩,?_⟩;rw [<-n2 hc,e2,e1];split<;>split<;>omega
   refine⟨b,0,rfl,gG j,J.c0,ia (by rw [gQ];omega) ⟨λhq=>?_,λhq=>?_⟩⟩
   ·have hq:¬gl i∈gG j:=MO hq;have ψ:i=j:=by
     rcases N2 i j with G | G
     ·exact absurd (gT.2 ⟨i,G,rfl⟩) hq
     ·omega
    subst ψ;refine iF _ (Mu _) ο λs w4 hx4 hs4 hm4=>ia (by have :=hs4.bound;omega) ⟨λθ=>?_,λθ=>?_⟩
    ·have θ:gl i∈s:=MN θ;obtain⟨i',G,h2⟩:=δ _ ((hm4 _).1 θ) (wI hj);exact absurd (wi hj (by omega) h2) (by omega)
    ·have θ:¬(T.res x a).Fr (gl i):=by rw [<-hm4];exact MO θ
     have hx24:Ex w2 w4:=Z.trans hx4;have ξ:Ex w w4:=α.trans hx24;have fin:∀w5 w6,Ex w4 w5->w6=w5.setCell ⟨b,0,none⟩ (.string (ax (gG i++[gl i])))->Kp w w6 (gS b v)/\GL B w6 b (gG (i+1)) v L:=by
      rintro w5 w6 γ rfl
      refine⟨Kp.set (Kp.ah (ξ.trans γ) _) (.inl rfl) _,?_⟩;rw [zo];exact(β.ex (ξ.trans γ)).FH _
     refine⟨λw'=>Kp w w' (gS b v)/\GL B w' b (gG (i+1)) v L,⟨λ _=>True,λw5 ι=>⟨trivial,b,0,rfl,?_,λb6 w6 ω κ=>⟨trivial,?_,?_⟩⟩⟩,λw6 hJ=>?_⟩
     ·have γ:Ex w4 w5:=ι▸Ex.drew w4;have ζ:=(β.ex (ξ.trans γ))
      refine⟨gG i,ζ.c0,trivial,λb6 w6 ω κ=>⟨trivial,b6,0,1,1,[gl i],rfl,rfl,kj _ ω κ,trivial,by rw [gQ];simp;omega,?_⟩⟩;have η:Ex w4 w6:=γ.trans (κ▸Ex.alloc w5 _);have H:=β.ex (ξ.trans η);exact⟨b,0,rfl,⟨⟨_,H.c0⟩,H.f0⟩,λw7 μ=>⟨trivial,fin w6 w7 η μ⟩⟩
     ·have γ:Ex w4 w5:=ι▸Ex.drew w4;have η:Ex w4 w6:=γ.trans (κ▸Ex.alloc w5 _);have H:=β.ex (ξ.trans η);refine⟨gG i,H.c0,trivial,b6,0,1,1,[gl i],rfl,rfl,kj _ ω κ,trivial,by rw [gQ];simp;omega,?_⟩;exact⟨b,0,rfl,⟨⟨_,H.c0⟩,H.f0⟩,λw7 μ=>⟨trivial,fin w6 w7 η μ⟩⟩
     ·have γ:Ex w4 w5:=ι▸Ex.drew w4;have η:Ex w4 w6:=γ.trans (κ▸Ex.alloc w5 _);have H:=β.ex (ξ.trans η);refine⟨b6,0,1,1,[gl i],rfl,rfl,kj _ ω κ,trivial,gG i,H.c0,trivial,by rw [gQ];simp;omega,?_⟩;exact⟨b,0,rfl,⟨⟨_,H.c0⟩,H.f0⟩,λw7 μ=>⟨trivial,fin w6 w7 η μ⟩⟩
     ·obtain⟨hk6,H⟩:=hJ;refine⟨λ _=>True,λw7 μ=>⟨trivial,by simp only [T.text,Mm];omega,by simp only [T.text,Mm];omega,?_⟩⟩;have hx7:Ex w6 w7:=μ▸Ex.drew w6;have hle:=d'.bd.le;simp only [T.rd,T.ow]at hle;simp only [T.ow]at how';simp only [T.size]at hsz;have hbda:=T.zw a;refine gC _ (Mu _) oka d'.bd.eb.2 (by omega) (K6 hj) (KA hj) λq' w8 hx8 hq'=>⟨trivial,?_⟩
      have dr:=d'.res hq' θ;have hsz':=T.oz hq'.shp;have how2:=T.yl hq'.shp;have φ:=hx7.trans hx8;refine ih (by omega) dr (λz hz V=>?_) (by omega) (H.ex φ) (by omega) λw9 v9 ps hk9 hv9 hGL9 ha9=>⟨trivial,?_⟩
      ·rcases hq'.ok.free z hz with G | G | G
       ·exact⟨i,by omega,G⟩
       ·obtain⟨i',h2,h3⟩:=δ z ⟨G.1,G.2⟩ V;exact⟨i',by omega,h3⟩
       ·exact absurd V (dZ (G.1▸d'.bd.eb.1.1))
      ·have hus:(td W).2.has y=true:=(fI W y υ.fD).2 hpu;have e1:(aj (T.res y W)).1=y::(aj W).1:=by simp [aj,hus]
       have sz6:=hk6.size;refine h w9 v9 ps ?_ ?_ ?_ ?_
       ·exact Kp.trans hk6 (Kp.trans (Kp.ah φ (gS b v)) hk9 λg _ hS=>hS) λg _ hS=>hS
       ·intro g V;rcases hv9 g V with G | G
        ·exact .inl G
        ·right;have :=φ.size;omega
       ·rw [e1,Mm];have e2:i+((aj W).1.length+1)=i+1+(aj W).1.length:=by omega
        rw [e2];exact hGL9
       ·refine ha9.mono λp' t' _ _ ⟨m',τ,q1,q2,q3,q4⟩=>⟨m',τ,by omega,q2,λz hz=>?_,λz hz V=>?_⟩
        ·rw [e1,asgN];exact q3 z hz
        ·obtain⟨i',h2,h3⟩:=q4 z hz V;exact⟨i',by rw [e1,Mm];omega,h3⟩
   ·have hq:gl i∈gG j:=MN hq;obtain⟨i',G,h2⟩:=gT.1 hq;have ψ:i< j:=by rw [wi (by omega) (by omega) h2];exact G
    exact next w3 Z ψ
  ·
   have hnp:∀a c,t≠ .par a c:=λa c e=>by
    subst e;cases q<;>first | exact d'.ae.elim | simp [T.kind]at hc
   have hnr:∀x a,t≠ .res x a:=λx a e=>by
    subst e;cases q<;>first | exact d'.ae.elim | simp [T.kind]at hc2
   have V:=Et hpu hud hnp hnr;have hlen:L.length+1<=1099511627776:=by have :=aY p;omega
   refine⟨b,0,rfl,v,ε.c1,λb3 w3 hb3 hw3=>?_⟩;have Z:Ex w2 w3:=hw3▸Ex.alloc w2 _;have J:=ε.ex Z;refine Own.push J.own (Nv J.base (Nat.le_of_lt J.lt)) (Strs.one hb3 hw3) (by simpa using hlen) λv4 w4 hb4 ho4 hg4 hw4=>?_
   have hne:v4.ownBlock≠some b:=λe=>by
    rcases hw4 b e with G | G
    ·exact β.ne G
    ·have :=J.lt;omega
   obtain⟨ζ,hcell⟩:=J.AW hg4 ho4 hne;refine⟨b,0,rfl,?_,hcell,λw5 ι=>?_⟩
   ·rcases ho4.2 with⟨rfl,_⟩ | ⟨_,_,_,rfl,_⟩<;>rfl
   ·have ι:w5=w4.setCell ⟨b,1,none⟩ v4:=ι;subst ι;refine h _ v4 [q] ?_ ?_ ?_ ?_
    ·refine Kp.set (Kp.grown (Kp.ah (α.trans Z) _) hg4 λg hg' _=> .inr hg') (.inl rfl) _
    ·intro g hg';rcases hw4 g hg' with G | G
     ·exact .inl G
     ·right;have :=(α.trans Z).size;omega
    ·rw [V];exact ζ
    ·rw [V];refine aN.one ⟨m,ς,Mu _,d',λy _=>by rw [V];rfl,by rw [V];exact δ⟩
end Go.Proofs.YtdecokaadekjnaaGreat
namespace Go.Proofs.YtdecokaadekjnaaGreat
def jm (l:List U):Nat:=(l.map T.aJ).sum+3* l.length
theorem qm (l m:List U):jm (l++m)=jm l+jm m:=by simp [jm];omega
theorem iA:jm []=0:=rfl
theorem cd (u:U):jm [u]=u.aJ+3:=by simp [jm]
theorem yG (u:U):1<=u.aJ:=by cases u<;>simp only [T.aJ]<;>omega
theorem fB:∀u:U,jm (aj u).2+3* (aj u).1.length<=u.aJ+3
 | .nil=>by simp [aj,iA]
 | .snd .. =>by simp [aj,cd]
 | .rcv .. =>by simp [aj,cd]
 | .tau .. =>by simp [aj,cd]
 | .sum p q=>by
  have :=fB p;have :=fB q;simp only [aj,T.aJ];split
  ·omega
  ·split
   ·omega
   ·simp [cd,T.aJ]
 | .par p q=>by
  have :=fB p;have :=fB q;simp only [aj,T.aJ,qm,Mt];omega
 | .res x p=>by
  have :=fB p;simp only [aj,T.aJ];split
  ·simp only [Mm];omega
  ·omega
 | .mat a b p=>by
  have :=fB p;simp only [aj,T.aJ];split
  ·omega
  ·split
   ·simp [iA]
   ·simp [cd,T.aJ]
 | .rep p=>by
  simp only [aj,T.aJ];split
  ·simp [iA]
  ·simp [cd,T.aJ]
theorem dH:∀u:U,jm (ak u)<=u.aJ+3
 | .nil=>by simp [ak,iA]
 | .snd .. =>by simp [ak,cd]
 | .rcv .. =>by simp [ak,cd]
 | .tau .. =>by simp [ak,cd]
 | .sum p q=>by
  have :=dH p;have :=dH q;simp only [ak,T.aJ,qm];omega
 | .par p q=>by
  have :=dH p;have :=dH q;simp only [ak,T.aJ];split
  ·omega
  ·split
   ·omega
   ·simp [cd,T.aJ]
 | .res x p=>by
  have :=dH p;simp only [ak,T.aJ];split
  ·simp [cd,T.aJ]
  ·omega
 | .mat a b p=>by
  have :=dH p;simp only [ak,T.aJ];split
  ·omega
  ·split
   ·simp [iA]
   ·simp [cd,T.aJ]
 | .rep p=>by
  simp only [ak,T.aJ];split
  ·simp [iA]
  ·simp [cd,T.aJ]
theorem nZ {p:P}{u:U}{ρ:UInt8->Nat}{σ:Nat->Nat}(h:AE ρ p σ u):u.aJ=p.aJ:=by
 induction p generalizing u ρ σ<;>cases u<;>simp only [AE]at h<;>simp only [T.aJ]
 case snd.snd G _ _ _=>rw [G h.2.2]
 case mat.mat G _ _ _=>rw [G h.2.2]
 case rcv.rcv G _ _ _=>rw [G (h.2 0)]
 case res.res G _ _=>rw [G (h 0)]
 case tau.tau G _=>rw [G h]
 case rep.rep G _=>rw [G h]
 case sum.sum G H _ _=>rw [G h.1,H h.2]
 case par.par G H _ _=>rw [G h.1,H h.2]
theorem Gg {c:UInt8}(h:c∈qX):lt c=true:=by
 obtain⟨i,hi,rfl⟩:=Nb.1 h;rw [NV]at hi;have e:(UInt8.ofNat (97+i)).toNat=97+i:=by rw [NB];omega
 simp only [lt,Mp,Mz];exact⟨ML.2 (by rw [e];show 97<=_;omega),ML.2 (by rw [e];show _<=122;omega)⟩
theorem yF {tk:Tk}{c:UInt8}(h:uj tk=some c):tk c=false/\lt c=true/\ic tk=c:=by
 have G:=O4 h;have H:=List.find?_some h;exact⟨by simpa using H,Gg G,by unfold ic;rw [h];rfl⟩
theorem ES {tk:Tk}(h:(uj tk).isNone=false):tk (ic tk)=false/\lt (ic tk)=true:=by
 cases e:uj tk with
 | none=>rw [e]at h;cases h
 | some c=>obtain⟨G,H,J⟩:=yF e;rw [J];exact⟨G,H⟩
theorem wv:∀(l:List UInt8) (tk:Tk) (c:UInt8),addK l tk c=(tk c||decide (c∈l))
 | [],tk,c=>by simp [addK]
 | d::l,tk,c=>by
  rw [addK,wv l];by_cases h:c=d
  ·subst h;simp [cu]
  ·have hb:(c==d)=false:=by simpa using h
   simp [cu,hb,h]
theorem vC:∀(n:Nat) (tk:Tk),fL n tk=false->(lets n tk).Nodup/\∀c∈lets n tk,tk c=false/\lt c=true
 | 0,tk,_=>⟨NY,λc h=>by cases h⟩
 | n+1,tk,h=>by
  simp only [fL,NR]at h;obtain⟨V,W⟩:=ES h.1;obtain⟨Z,H⟩:=vC n _ h.2;rw [lets];refine⟨Nw.2 ⟨λhm=>?_,Z⟩,λc G=>?_⟩
  ·have :=(H _ hm).1;simp [cu]at this
  ·rcases MH.1 G with rfl | G
   ·exact⟨V,W⟩
   ·obtain⟨J,m2⟩:=H c G;simp only [cu,NR]at J;exact⟨J.1,m2⟩
theorem E4:∀(u:U) (y:Nat),u.Us y->∃t∈(aj u).2,t.Us y:=by
 intro u
 induction u with
 | nil=>intro y h;exact h.elim
 | snd a b p G=>intro y h;exact⟨_,by simp [aj],h⟩
 | rcv a b p G=>intro y h;exact⟨_,by simp [aj],h⟩
 | tau p G=>intro y h;exact⟨_,by simp [aj],h⟩
 | sum p q G H=>
  intro y h;simp only [aj];split
  ·rename_i e;exact H y (h.resolve_left (T.bz e))
  ·split
   ·rename_i e;exact G y (h.resolve_right (T.bz e))
   ·exact⟨_,by simp,h⟩
 | par p q G H=>
  intro y h;simp only [aj,My];rcases h with h | h
  ·obtain⟨t,J,V⟩:=G y h;exact⟨t,.inl J,V⟩
  ·obtain⟨t,J,V⟩:=H y h;exact⟨t,.inr J,V⟩
 | res x p G=>intro y h;exact G y h.2
 | mat a b p G=>
  intro y h;simp only [aj];rcases h with⟨e,h⟩ | ⟨e,hd,h⟩
  ·rw [MZ e];exact G y h
  ·rw [MJ e,MJ (by simp [hd])];exact⟨.mat a b p,by simp,.inr ⟨e,hd,h⟩⟩
 | rep p G=>
  intro y h;simp only [aj];split
  ·rename_i e;exact absurd h (T.bz (p:=p) e)
  ·exact⟨_,by simp,h⟩
theorem zp:∀(u:U),Uq u->∀x∈(aj u).1,∃t∈(aj u).2,t.Us x:=by
 intro u
 induction u with
 | nil=>intro _ x h;simp [aj]at h
 | snd=>intro _ x h;simp [aj]at h
 | rcv=>intro _ x h;simp [aj]at h
 | tau=>intro _ x h;simp [aj]at h
 | sum p q G H=>
  intro hu x h;simp only [aj]at h|-;split at h
  ·rename_i e;rw [MZ e];exact H hu.dz x h
  ·rename_i e;rw [MJ e];split at h
   ·rename_i W;rw [MZ W];exact G hu.dP x h
   ·simp at h
 | par p q G H=>
  intro hu x h;simp only [aj,My]at h|-;rcases h with h | h
  ·obtain⟨t,J,V⟩:=G hu.fG x h;exact⟨t,.inl J,V⟩
  ·obtain⟨t,J,V⟩:=H hu.fv x h;exact⟨t,.inr J,V⟩
 | res y p G=>
  intro hu x h;have Z:(aj (.res y p)).2=(aj p).2:=rfl;rw [Z];simp only [aj]at h;split at h
  ·rename_i hh;rcases MH.1 h with rfl | h
   ·exact E4 p x ((fI p x hu.fD).1 hh)
   ·exact G hu.res x h
  ·exact G hu.res x h
 | mat a b p G=>
  intro hu x h;simp only [aj]at h|-;split at h
  ·rename_i e;rw [MZ e];exact G hu.mat x h
  ·rename_i e;split at h<;>simp at h
 | rep p G=>
  intro hu x h;simp only [aj]at h;split at h<;>simp at h
theorem fZ:∀(u:U),Uq u->(aj u).1.Nodup:=by
 intro u
 induction u with
 | nil=>intro _;simp [aj]
 | snd=>intro _;simp [aj]
 | rcv=>intro _;simp [aj]
 | tau=>intro _;simp [aj]
 | sum p q G H=>
  intro hu;simp only [aj];split
  ·exact H hu.dz
  ·split
   ·exact G hu.dP
   ·simp
 | par p q G H=>
  intro hu;simp only [aj];refine M6.2 ⟨G hu.fG,H hu.fv,λa ha b hb e=>?_⟩;exact(M6.1 hu.nd).2.2 a (im p a ha) b (im q b hb) e
 | res y p G=>
  intro hu;simp only [aj];split
  ·exact Nw.2 ⟨λh=>hu.fD (im p y h),G hu.res⟩
  ·exact G hu.res
 | mat a b p G=>
  intro hu;simp only [aj];split
  ·exact G hu.mat
  ·split<;>simp
 | rep p G=>
  intro hu;simp only [aj];split<;>simp
theorem jH:∀(l:List Nat) (n:Nat) (σ:Nat->Nat) (i:Nat) (h:i< l.length),l.Nodup->asgN l n σ l[i]=(gl (n+i)).toNat
 | [],_,_,_,h,_=>by simp at h
 | x::l,n,σ,0,_,G=>by
  have :=Nw.1 G;simp only [List.getElem_cons_zero,asgN];rw [iY _ _ _ _ this.1];simp [aI]
 | x::l,n,σ,i+1,h,G=>by
  have :=Nw.1 G;simp only [List.getElem_cons_succ,asgN];rw [jH l _ _ i (by simpa using h) this.2]
  congr 2
  omega
end Go.Proofs.YtdecokaadekjnaaGreat
namespace Go.Proofs.YtdecokaadekjnaaGreat
open Go
attribute [go_sem] Tryz.f224
theorem ke (G:Value)(H:aF)(t3:aF)(w:World)(R:aF->PV)(h:vc ay (a6 [(5,[(8,.s),(32,.i)]),(11,[(11,.s),(12,.i)]),(23,[(13,.s),(14,.s),(84,.i)]),(33,[(16,.s),(107,.i)]),(40,[(16,.s),(21,.i)])] [(12,[(11,.s)]),(32,[(17,.v)]),(38,[(16,.s)])] []) (ab Tryz.f224) (ai 0 [.v G,.s H,.s t3]) w (fin ay [.tmp 6 .s] R)):
  PW 224 #[G,(.string (ax H)),(.string (ax t3))] w (aw [.s] R):=
 bc Tryz.func224 (by kernel_rfl) h
attribute [go_sem] Tryz.f244
theorem ku (G:Value)(t2:Value)(H:aF)(l4:aF)(t5:aF)(w:World)(R:aF->PV)(h:vc ay (a6 [(3,[(11,.v),(17,.i)]),(6,[(13,.s),(14,.i)])] [] [(8,false,.lt 0 (.lt 1 (.lt 2 (.lt 3 (.lt 4 (.lt 5 (.lt 6 (.one .h 7 (.lt 8 .done)))))))))]) (ab Tryz.f244) (ai 0 [.v G,.v t2,.s H,.s l4,.s t5]) w (fin ay [.tmp 10 .s] R)):
  PW 244 #[G,t2,(.string (ax H)),(.string (ax l4)),(.string (ax t5))] w (aw [.s] R):=
 bc Tryz.func244 (by kernel_rfl) h
attribute [go_sem] Tryz.f257
theorem jX (G:Value)(H:aF)(t3:aF)(w:World)(R:aF->PV)(h:vc ay (a6 [(17,[(10,.v),(87,.i)])] [] [(4,false,.lt 0 (.lt 1 (.lt 4 (.lt 5 (.lt 6 (.lt 9 (.one .h 2 (.lt 3 (.one .h 7 (.lt 8 (.one .h 10 (.lt 11 (.lt 12 .done))))))))))))),(7,false,.lt 0 (.lt 1 (.lt 2 (.lt 7 (.lt 8 (.lt 9 (.lt 10 (.lt 11 (.lt 12 (.lt 14 (.lt 15 (.br .h 3 (.br .h 4 (.lt 5 (.lt 6 (.one .h 13 (.one .h 16 (.one .h 17 (.lt 18 (.lt 19 .done))))))) (.one .h 13 (.br .h 4 (.lt 5 (.lt 6 (.one .h 16 (.one .h 17 (.lt 18 (.lt 19 .done)))))) (.one .h 16 (.br .h 4 (.lt 5 (.lt 6 (.one .h 17 (.lt 18 (.lt 19 .done))))) (.one .h 17 (.one .h 4 (.lt 5 (.lt 6 (.lt 18 (.lt 19 .done))))))))))) (.one .h 13 (.br .h 3 (.br .h 4 (.lt 5 (.lt 6 (.one .h 16 (.one .h 17 (.lt 18 (.lt 19 .done)))))) (.one .h 16 (.br .h 4 (.lt 5 (.lt 6 (.one .h 17 (.lt 18 (.lt 19 .done))))) (.one .h 17 (.one .h 4 (.lt 5 (.lt 6 (.lt 18 (.lt 19 .done))))))))) (.one .h 16 (.br .h 3 (.br .h 4 (.lt 5 (.lt 6 (.one .h 17 (.lt 18 (.lt 19 .done))))) (.one .h 17 (.one .h 4 (.lt 5 (.lt 6 (.lt 18 (.lt 19 .done))))))) (.one .h 17 (.one .h 3 (.one .h 4 (.lt 5 (.lt 6 (.lt 18 (.lt 19 .done))))))))))))))))))))))),(9,false,.lt 0 (.lt 1 (.lt 2 (.lt 3 (.lt 4 (.lt 5 .done))))))]) (ab Tryz.f257) (ai 0 [.v G,.s H,.s t3]) w (fin ay [.tmp 6 .s] R)):
  PW 257 #[G,(.string (ax H)),(.string (ax t3))] w (aw [.s] R):=
 bc Tryz.func257 (by kernel_rfl) h
attribute [go_sem] Tryz.f189
theorem xq (G:aF)(w:World)(R:aF->Bool->PV)(h:vc ay (a6 [(4,[(5,.i),(19,.i)])] [] [(13,false,.lt 0 (.lt 1 (.lt 2 (.lt 3 (.lt 4 (.lt 5 (.lt 6 (.lt 7 .done))))))))]) (ab Tryz.f189) (ai 0 [.s G]) w (fin ay [.tmp 2 .s,.tmp 3 .b] R)):
  PW 189 #[(.string (ax G))] w (aw [.s,.b] R):=
 bc Tryz.func189 (by kernel_rfl) h
attribute [go_sem] Tryz.f150
theorem xZ (G:aF)(w:World)(R:aF->Bool->PV)(h:vc ay (a6 [] [] []) (ab Tryz.f150) (ai 0 [.s G]) w (fin ay [.tmp 2 .s,.tmp 3 .b] R)):
  PW 150 #[(.string (ax G))] w (aw [.s,.b] R):=
 bc Tryz.func150 (by kernel_rfl) h
end Go.Proofs.YtdecokaadekjnaaGreat
namespace Go.Proofs.YtdecokaadekjnaaGreat
open Go Go.RowKit
structure MK (w:World)(bm:Nat)(br on:Bool):Prop where
 lt:bm< w.heap.size
 c0:w.cell? ⟨bm,0,none⟩=some (.bool br)
 c1:w.cell? ⟨bm,1,none⟩=some (.bool on)
 f0:w.frozen? ⟨bm,0,none⟩=false
theorem MK.ex {w w':World}{bm:Nat}{br on:Bool}(h:MK w bm br on)(k:Ex w w'):MK w' bm br on:=
 ⟨MP h.lt k.size,by rw [k.cell h.lt];exact h.c0,by rw [k.cell h.lt];exact h.c1,by rw [N4 k h.lt];exact h.f0⟩
def cF (T:Tx):Tk:=λc=>decide (c∈T)
structure ye (k:Nat)(T:Tx)(σ:Nat->Nat)(u:U):Prop where
 srt:jE T
 okn:∀c∈T,okn k c/\ngr c
 cov:∀y,u.Us y->∃c∈T,c.toNat=σ y
def Compat (ρ:Rh)(σ:Nat->Nat)(u:U):Prop:=∀y,u.Us y->(ρ y).toNat=σ y
structure WR (on:Bool)(u:U)(σ:Nat->Nat)(T r:Tx):Prop where
 ne:r≠[]
 len:r.length<=u.aJ
 cnt:a7 u<=5->r.count 35=cB u
 bad:a7 u<=5->on=false->de u (cF T)=true->∃c∈r,128<=c
 eq:a7 u<=5->on=false->de u (cF T)=false->∀ρ,Compat ρ σ u->r=LS u ρ (cF T)
structure TR (on:Bool)(t:U)(σ:Nat->Nat)(T r:Tx):Prop where
 ne:r≠[]
 len:r.length<=t.aJ
 cnt:an (tl [t])<=5->r.count 35=thAll (tl [t])
 bad:an (tl [t])<=5->on=false->thBad (tl [t]) (cF T)=true->∃c∈r,128<=c
 eq:an (tl [t])<=5->on=false->thBad (tl [t]) (cF T)=false->∀ρ,Compat ρ σ t->r=thU t ρ (cF T)
def Ev (n:Nat):Prop:=∀{k:Nat} {p:P} {σ:Nat->Nat} {u:U} {T:Tx} {w:World} {bm:Nat} {br on:Bool} {R:aF->PV},
 p.size<=n->Den k p σ u->GF 0 p->ye k T σ u->MK w bm br on->
 (∀r w',Kp w w' (λg=>g=bm)->MK w' bm (br||decide (5< a7 u)) on->WR on u σ T r->R r w')->
 PW 224 #[.pointer (some ⟨bm,0,none⟩),.string (ax p.text),.string (ax T)] w (aw [.s] R)
def wD (n:Nat):Prop:=∀{k:Nat} {p:P} {σ:Nat->Nat} {t:U} {T:Tx} {w:World} {bm:Nat} {br on:Bool} {R:aF->PV},
 p.size<=n->Den k p σ t->HP t=true->t.dq->t.dead=false->GF 0 p->ye k T σ t->MK w bm br on->
 (∀r w',Kp w w' (λg=>g=bm)->MK w' bm (br||decide (5< an (tl [t]))) on->TR on t σ T r->R r w')->
 PW 257 #[.pointer (some ⟨bm,0,none⟩),.string (ax p.text),.string (ax T)] w (aw [.s] R)
end Go.Proofs.YtdecokaadekjnaaGreat
namespace Go.Proofs.YtdecokaadekjnaaGreat
theorem iW (a b:Nat)(p:U)(tk:Tk):thBad (tl [.snd a b p]) tk=de p tk:=by simp [tl,thBad,de]
theorem iO (p:U)(tk:Tk):thBad (tl [.tau p]) tk=de p tk:=by simp [tl,thBad,de]
theorem eI (a b:Nat)(p:U)(tk:Tk):thBad (tl [.mat a b p]) tk=de p tk:=by simp [tl,thBad,de]
theorem iC (p:U)(tk:Tk):thBad (tl [.rep p]) tk=de p tk:=by simp [tl,thBad,de]
theorem iR (a x:Nat)(p:U)(tk:Tk):thBad (tl [.rcv a x p]) tk=((uj tk).isNone||de p (cu tk (ic tk))):=by simp [tl,thBad,de]
theorem pA (a b:Nat)(p:U):thAll (tl [.snd a b p])=cB p:=by simp [tl,thAll,cB]
theorem p7 (p:U):thAll (tl [.tau p])=cB p:=by simp [tl,thAll,cB]
theorem iD (a b:Nat)(p:U):thAll (tl [.mat a b p])=cB p:=by simp [tl,thAll,cB]
theorem pt (p:U):thAll (tl [.rep p])=cB p:=by simp [tl,thAll,cB]
theorem pS (a b:Nat)(p:U):thAll (tl [.rcv a b p])=cB p:=by simp [tl,thAll,cB]
theorem eE (a b:Nat)(p:U):an (tl [.snd a b p])=a7 p:=by simp [tl,an,a7]
theorem eM (p:U):an (tl [.tau p])=a7 p:=by simp [tl,an,a7]
theorem cW (a b:Nat)(p:U):an (tl [.mat a b p])=a7 p:=by simp [tl,an,a7]
theorem eK (p:U):an (tl [.rep p])=a7 p:=by simp [tl,an,a7]
theorem eD (a b:Nat)(p:U):an (tl [.rcv a b p])=a7 p:=by simp [tl,an,a7]
theorem xa (l:List U)(tk:Tk):thBad (tp l) tk=l.any λu=>de u tk:=by
 induction l with
 | nil=>rfl
 | cons u l G=>rw [tp,thBad,G];rfl
theorem G8 (l:List U):thAll (tp l)=(l.map cB).sum:=by
 induction l with
 | nil=>rfl
 | cons u l G=>rw [tp,thAll,G];rfl
theorem ya (l:List U)(n:Nat):an (tp l)<=n↔∀u∈l,a7 u<=n:=by
 induction l with
 | nil=>simp [tp,an]
 | cons u l G=>
  rw [tp,an];rw [MC,<-G];unfold a7;exact⟨λh=>⟨by omega,by omega⟩,λh=>by have :=h.1;have :=h.2;omega⟩
theorem sq (l:List U)(tk:Tk):thBad (tl l) tk=l.any λt=>thBad (tl [t]) tk:=by
 induction l with
 | nil=>rfl
 | cons u l G=>
  have:tl (u::l)=(tl [u]).app (tl l):=gA [u] l;rw [this,cM,G];rfl
theorem Bc (l:List U):thAll (tl l)=(l.map λt=>thAll (tl [t])).sum:=by
 induction l with
 | nil=>rfl
 | cons u l G=>
  have:tl (u::l)=(tl [u]).app (tl l):=gA [u] l;rw [this,bT,G];rfl
theorem rf (l:List U)(n:Nat):an (tl l)<=n↔∀t∈l,an (tl [t])<=n:=by
 induction l with
 | nil=>simp [tl,an]
 | cons u l G=>
  have:tl (u::l)=(tl [u]).app (tl l):=gA [u] l;rw [this,bY];rw [MC,<-G];exact⟨λh=>⟨by omega,by omega⟩,λh=>by have :=h.1;have :=h.2;omega⟩
end Go.Proofs.YtdecokaadekjnaaGreat
namespace Go.Proofs.YtdecokaadekjnaaGreat
open Classical
namespace T
section
variable {A B:Type} [DecidableEq A] [DecidableEq B]
def th:T A->Bool
 | snd .. =>true | rcv .. =>true | tau .. =>true | mat .. =>true | rep .. =>true | sum .. =>true
 | nil=>false | par .. =>false | res .. =>false
def isS:T A->Bool
 | sum .. =>true
 | _=>false
def isP:T A->Bool
 | par .. =>true
 | _=>false
def Nr:T A->Prop
 | nil=>True
 | snd _ _ p=>p.Nr
 | rcv _ _ p=>p.Nr
 | tau p=>p.Nr
 | sum p q=>(p.dead=false/\q.dead=false/\p.isS=false)/\p.Nr/\q.Nr
 | par p q=>(p.th=true/\(q.th=true\/q.isP=true))/\p.Nr/\q.Nr
 | res x p=>p.Us x/\p.Nr
 | mat a b p=>(a≠b/\p.dead=false)/\p.Nr
 | rep p=>p.dead=false/\p.Nr
theorem Nr.gU {A:Type}{x:A}:∀{p:T A},p.Nr->p.Fr x->p.Us x
 | nil,_,h=>h.elim
 | snd a b p,n,h=>h.imp id λh=>h.imp id (Nr.gU (p:=p) n)
 | rcv a y p,n,h=>h.imp id λh=>h.imp id (Nr.gU (p:=p) n)
 | tau p,n,h=>Nr.gU (p:=p) n h
 | sum p q,n,h=>Or.imp (Nr.gU n.2.1) (Nr.gU n.2.2) h
 | par p q,n,h=>Or.imp (Nr.gU n.2.1) (Nr.gU n.2.2) h
 | res y p,n,h=>And.imp id (Nr.gU (p:=p) n.2) h
 | mat a b p,n,h=> .inr ⟨n.1.1,n.1.2,h.imp id λh=>h.imp id (Nr.gU (p:=p) n.2)⟩
 | rep p,n,h=>Nr.gU (p:=p) n.2 h
theorem H6 {A:Type}{p:T A}{x:A}(h:p.Us x):p.dead=false:=by
 cases hd:p.dead with
 | false=>rfl
 | true=>exact absurd h (bz hd)
theorem Nr.qY {A:Type}:∀{p:T A},p.Nr->p.th=true->p.dead=false
 | snd ..,_,_=>rfl
 | rcv ..,_,_=>rfl
 | tau ..,_,_=>rfl
 | sum p q,n,_=>by simp [dead,n.1.1]
 | mat a b p,n,_=>n.1.2
 | rep p,n,_=>n.1
theorem Nr.live {A:Type}{p:T A}(n:p.Nr)(h:p≠nil):p.dead=false:=by
 cases p with
 | nil=>exact absurd rfl h
 | res x p=>exact H6 (p:=p) n.1
 | par p q=>simp [dead,n.2.1.qY n.1.1]
 | _=>exact n.qY rfl
theorem Nr.dq {A:Type}{p:T A}(n:p.Nr):p.dq:=by
 cases p with
 | mat a b p=>exact n.1.1
 | sum p q=>exact⟨n.1.1,n.1.2.1⟩
 | par p q=>
  refine⟨n.2.1.qY n.1.1,?_⟩;refine n.2.2.live ?_
  rintro rfl
  rcases n.1.2 with h | h<;>cases h
 | res x p=>exact n.1
 | _=>trivial
def frL:T A->List A
 | res x p=>x::p.frL
 | _=>[]
def ths:T A->List (T A)
 | nil=>[]
 | res _ p=>p.ths
 | par p q=>p::q.ths
 | t=>[t]
def lD:T A->List (T A)
 | sum p q=>p::q.lD
 | t=>[t]
def resL:List A->T A->T A
 | [],p=>p
 | x::l,p=>res x (resL l p)
def parL:List (T A)->T A
 | []=>nil
 | [t]=>t
 | t::u::l=>par t (parL (u::l))
def dk:List (T A)->T A
 | []=>nil
 | [t]=>t
 | t::u::l=>sum t (dk (u::l))
theorem eW {A:Type}{x:A}{p:T A}:∀{l:List A},(resL l p).Fr x↔x∉l/\p.Fr x
 | []=>by simp [resL]
 | y::l=>by simp only [resL,Fr,eW (l:=l),MH,PT];exact OK.symm
theorem ji {A:Type}{x:A}{p:T A}:∀{l:List A},(resL l p).Us x↔x∉l/\p.Us x
 | []=>by simp [resL]
 | y::l=>by simp only [resL,Us,ji (l:=l),MH,PT];exact OK.symm
theorem yC {A:Type}{p:T A}:∀{l:List A},(resL l p).frL=l++p.frL
 | []=>rfl
 | y::l=>by simp only [resL,frL,yC (l:=l),Ns]
theorem zz {A:Type}{p:T A}:∀{l:List A},(resL l p).ths=p.ths
 | []=>rfl
 | y::l=>by simp only [resL,ths,zz (l:=l)]
theorem lT {A:Type}{x:A}:∀{l:List (T A)},(parL l).Fr x↔∃t∈l,t.Fr x
 | []=>by simp [parL,Fr]
 | [t]=>by simp [parL]
 | t::u::l=>by simp only [parL,Fr,lT (l:=u::l),MH,exists_eq_or_imp]
theorem rD {A:Type}{x:A}:∀{l:List (T A)},(parL l).Us x↔∃t∈l,t.Us x
 | []=>by simp [parL,Us]
 | [t]=>by simp [parL]
 | t::u::l=>by simp only [parL,Us,rD (l:=u::l),MH,exists_eq_or_imp]
theorem Cx {A:Type}{x:A}:∀{l:List (T A)},(dk l).Us x↔∃t∈l,t.Us x
 | []=>by simp [dk,Us]
 | [t]=>by simp [dk]
 | t::u::l=>by simp only [dk,Us,Cx (l:=u::l),MH,exists_eq_or_imp]
theorem CF {A:Type}:∀{l:List (T A)},(∀t∈l,t.th=true/\t.Nr)->(parL l).Nr/\(l≠[]->(parL l).th=true\/(parL l).isP=true)
 | [],_=>⟨trivial,λh=>absurd rfl h⟩
 | [t],h=>⟨(h t (by simp)).2,λ _=> .inl (h t (by simp)).1⟩
 | t::u::l,h=>by
  obtain⟨G,H⟩:=CF (l:=u::l) λt J=>h t (MD _ J)
  exact⟨⟨⟨(h t (by simp)).1,H (by simp)⟩,(h t (by simp)).2,G⟩,λ _=> .inr rfl⟩
theorem nc {A:Type}{t:T A}(h:t.th=true):t.ths=[t]:=by cases t<;>first | rfl | cases h
theorem ie {A:Type}{t:T A}(h:t.th=true):t.frL=[]:=by cases t<;>first | rfl | cases h
theorem Au {A:Type}:∀{l:List (T A)},(∀t∈l,t.th=true)->(parL l).ths=l
 | [],_=>rfl
 | [t],h=>nc (h t (by simp))
 | t::u::l,h=>by simp only [parL,ths,Au (l:=u::l) λt G=>h t (MD _ G)]
theorem F5 {A:Type}:∀{l:List (T A)},(∀t∈l,t.th=true)->(parL l).frL=[]
 | [],_=>rfl
 | [t],h=>ie (h t (by simp))
 | t::u::l,h=>rfl
theorem CT {A:Type}{p:T A}(n:p.Nr):∀{l:List A},l.Nodup->(∀x∈l,p.Us x)->(resL l p).Nr
 | [],_,_=>n
 | x::l,G,h=>by
  have :=Nw.1 G;exact⟨ji.2 ⟨this.1,h x (by simp)⟩,CT n this.2 λy H=>h y (MD _ H)⟩
theorem CS {A:Type}:∀{l:List (T A)},l≠[]->(∀t∈l,t.dead=false/\t.isS=false/\t.Nr)->(dk l).Nr/\(dk l).dead=false
 | [],h,_=>absurd rfl h
 | [t],_,h=>⟨(h t (by simp)).2.2,(h t (by simp)).1⟩
 | t::u::l,_,h=>by
  obtain⟨H,J⟩:=CS (l:=u::l) (by simp) λt G=>h t (MD _ G)
  have G:=h t (by simp);exact⟨⟨⟨G.1,J,G.2.1⟩,G.2.2,H⟩,by simp [dk,dead,G.1]⟩
theorem fS {A:Type}{t:T A}(h:t.isS=false):t.lD=[t]:=by cases t<;>first | rfl | cases h
theorem zl {A:Type}:∀{l:List (T A)},l≠[]->(∀t∈l,t.isS=false)->(dk l).lD=l
 | [],h,_=>absurd rfl h
 | [t],_,h=>fS (h t (by simp))
 | t::u::l,_,h=>by simp only [dk,lD,zl (l:=u::l) (by simp) λt G=>h t (MD _ G)]
theorem Af {A:Type}:∀{p:T A},p.Nr->(p.th=true\/p.isP=true)->parL p.ths=p
 | par p q,n,_=>by
  have H:=Af n.2.2 n.1.2;have G:q.ths≠[]:=by
   rcases n.1.2 with h | h
   ·rw [nc h];simp
   ·cases q<;>first | (cases h;done) | simp [ths]
  simp only [ths];cases e:q.ths with
  | nil=>exact absurd e G
  | cons u l=>rw [parL,<-e,H]
 | snd ..,_,_=>rfl
 | rcv ..,_,_=>rfl
 | tau ..,_,_=>rfl
 | sum ..,_,_=>rfl
 | mat ..,_,_=>rfl
 | rep ..,_,_=>rfl
 | nil,_,h=>by rcases h with h | h<;>cases h
 | res ..,_,h=>by rcases h with h | h<;>cases h
theorem Nr.shape {A:Type}:∀{p:T A},p.Nr->p=resL p.frL (parL p.ths)
 | res x p,n=>by
  have :=Nr.shape n.2;simp only [frL,ths,resL];rw [<-this]
 | nil,_=>rfl
 | par p q,n=>by
  have :=Af (p:=par p q) n (.inr rfl);rw [this];rfl
 | snd ..,_=>rfl
 | rcv ..,_=>rfl
 | tau ..,_=>rfl
 | sum ..,_=>rfl
 | mat ..,_=>rfl
 | rep ..,_=>rfl
theorem Nr.ths {A:Type}:∀{p:T A},p.Nr->∀t∈p.ths,t.th=true/\t.Nr
 | nil,_,t,h=>by cases h
 | res x p,n,t,h=>Nr.ths (p:=p) n.2 t h
 | par p q,n,t,h=>by
  rcases MH.1 h with rfl | h
  ·exact⟨n.1.1,n.2.1⟩
  ·exact Nr.ths n.2.2 t h
 | snd ..,n,t,h=>by simp [T.ths]at h;subst h;exact⟨rfl,n⟩
 | rcv ..,n,t,h=>by simp [T.ths]at h;subst h;exact⟨rfl,n⟩
 | tau ..,n,t,h=>by simp [T.ths]at h;subst h;exact⟨rfl,n⟩
 | sum ..,n,t,h=>by simp [T.ths]at h;subst h;exact⟨rfl,n⟩
 | mat ..,n,t,h=>by simp [T.ths]at h;subst h;exact⟨rfl,n⟩
 | rep ..,n,t,h=>by simp [T.ths]at h;subst h;exact⟨rfl,n⟩
theorem Nr.GY {A:Type}:∀{p:T A},p.Nr->p.frL.Nodup/\∀x∈p.frL,(parL p.ths).Us x
 | res y p,n=>by
  obtain⟨H,J⟩:=Nr.GY n.2;have hu:=n.1;rw [Nr.shape n.2]at hu;have hu:=ji.1 hu;refine⟨Nw.2 ⟨hu.1,H⟩,λx G=>?_⟩;rcases MH.1 G with rfl | G
  ·exact hu.2
  ·exact J x G
 | nil,_=>⟨NY,λx h=>by cases h⟩
 | par ..,_=>⟨NY,λx h=>by cases h⟩
 | snd ..,_=>⟨NY,λx h=>by cases h⟩
 | rcv ..,_=>⟨NY,λx h=>by cases h⟩
 | tau ..,_=>⟨NY,λx h=>by cases h⟩
 | sum ..,_=>⟨NY,λx h=>by cases h⟩
 | mat ..,_=>⟨NY,λx h=>by cases h⟩
 | rep ..,_=>⟨NY,λx h=>by cases h⟩
end
theorem pP (p:P):∀l:List UInt8,(resL l p).text=wrap l p.text
 | []=>rfl
 | x::l=>by simp only [resL,text,wrap,pP p l]
theorem pZ:∀{l:List P},l≠[]->(parL l).text=joinS 38 (l.map T.text)
 | [],h=>absurd rfl h
 | [t],_=>rfl
 | t::u::l,_=>by
  have :=pZ (l:=u::l) (by simp);simp only [parL,text,MV,joinS]at this|-;rw [this]
theorem uY:∀{l:List P},l≠[]->(dk l).text=joinS 43 (l.map T.text)
 | [],h=>absurd rfl h
 | [t],_=>rfl
 | t::u::l,_=>by
  have :=uY (l:=u::l) (by simp);simp only [dk,text,MV,joinS]at this|-;rw [this]
end T
section
variable {A B:Type} [DecidableEq A] [DecidableEq B]
theorem AE.th {p:T A}{q:T B}{ρ:A->Nat}{σ:B->Nat}(h:AE ρ p σ q):p.th=q.th/\p.isS=q.isS/\p.isP=q.isP:=by
 cases p<;>cases q<;>first | exact h.elim | exact⟨rfl,rfl,rfl⟩
theorem eu {ρ:A->Nat}{p:T A}{x:A}{v:Nat}(h:eP ρ (.res x p))(H:∀y,p.Fr y->ρ y≠v):eP (aI ρ x v) p:=
 .aI (λy z G J h5 V=>h y z ⟨G,h5⟩ ⟨J,V⟩) λy _ G=>H y (T.bs G)
theorem H2 {p:T A}{u:T B}{ρ:A->Nat}{σ:B->Nat}{x:A}{y:B}(h:∀v,AE (aI ρ x v) p (aI σ y v) u)(hi:eP ρ (.res x p))(hj:eP σ (.res y u)):p.Us x↔u.Us y:=by
 obtain⟨v,W,Z⟩:=bV p u ρ σ;have G:=eu hi W;have H:=eu hj Z;constructor
 ·intro hx;obtain⟨z,J,e⟩:=(h v).used G H x hx;rw [cR]at e;unfold aI at e;split at e
  ·rename_i V;exact V▸J
  ·exact absurd e (Z z (T.bs J))
 ·intro hy;obtain⟨z,J,e⟩:=(h v).symm.used H G y hy;rw [cR]at e;unfold aI at e;split at e
  ·rename_i V;exact V▸J
  ·exact absurd e (W z (T.bs J))
theorem eP.FP {A:Type}{ρ:A->Nat}{p:T A}{a x:A}(h:eP ρ (.rcv a x p)):eP ρ (.res x p):=λy z G H=>h y z (.inr G) (.inr H)
theorem AE.nr:∀{p:T A} {q:T B} {ρ:A->Nat} {σ:B->Nat},AE ρ p σ q->eP ρ p->eP σ q->p.Nr->q.Nr:=by
 intro p
 induction p<;>intro q ρ σ h hi J n<;>cases q<;>simp only [AE]at h
 case nil.nil=>trivial
 case snd.snd H _ _ _=>have k:=H h.2.2 (hi.sub λx G=>Or.inr (Or.inr G)) (J.sub λx G=> .inr (.inr G)) n;exact k
 case rcv.rcv p H _ _ q=>
  obtain⟨v,Z,h2⟩:=bV p q ρ σ;have k:=H (h.2 v) (eu hi.FP Z) (eu J.FP h2) n;exact k
 case tau.tau H _=>have k:=H h hi J n;exact k
 case rep.rep H _=>exact⟨h.dead▸n.1,H h hi J n.2⟩
 case res.res p H _ q=>
  obtain⟨v,Z,h2⟩:=bV p q ρ σ;exact⟨(H2 h hi J).1 n.1,H (h v) (eu hi Z) (eu J h2) n.2⟩
 case mat.mat p H c d q=>
  have hd:q.dead=false:=h.2.2.dead▸n.1.2;have W:c≠d:=by
   rintro rfl
   exact n.1.1 (hi _ _ (.inr ⟨n.1.1,n.1.2,.inl rfl⟩) (.inr ⟨n.1.1,n.1.2,.inr (.inl rfl)⟩) (h.1.trans h.2.1.symm))
  exact⟨⟨W,hd⟩,H h.2.2 (hi.sub λx G=> .inr ⟨n.1.1,n.1.2,.inr (.inr G)⟩) (J.sub λx G=> .inr ⟨W,hd,.inr (.inr G)⟩) n.2⟩
 case sum.sum H V _ _=>
  exact⟨⟨h.1.dead▸n.1.1,h.2.dead▸n.1.2.1,h.1.th.2.1▸n.1.2.2⟩,H h.1 (hi.sub λx G=> .inl G) (J.sub λx G=> .inl G) n.2.1,V h.2 (hi.sub λx G=> .inr G) (J.sub λx G=> .inr G) n.2.2⟩
 case par.par H V _ _=>
  exact⟨⟨h.1.th.1▸n.1.1,n.1.2.imp (λk=>h.2.th.1▸k) (λk=>h.2.th.2.2▸k)⟩,H h.1 (hi.sub λx G=> .inl G) (J.sub λx G=> .inl G) n.2.1,V h.2 (hi.sub λx G=> .inr G) (J.sub λx G=> .inr G) n.2.2⟩
end
theorem eJ {u:U}(n:u.Nr)(h:u.th=true):aj u=([],[u]):=by
 cases u<;>first | (cases h;done) | rfl | skip
 case sum p q=>simp [aj,n.1.1,n.1.2.1]
 case mat a b p=>simp [aj,n.1.1,n.1.2]
 case rep p=>simp [aj,n.1]
theorem BS:∀{u:U},Uq u->u.Nr->aj u=(u.frL,u.ths)
 | .nil,_,_=>rfl
 | .res x p,hu,n=>by
  have :=BS hu.res n.2;have h:(td p).2.has x=true:=(fI p x hu.fD).2 n.1;simp [aj,h,this,T.frL,T.ths]
 | .par p q,hu,n=>by
  have G:=BS hu.fv n.2.2;have H:q.frL=[]:=by
   rcases n.1.2 with h | h
   ·exact T.ie h
   ·cases q<;>first | (cases h;done) | rfl
  simp [aj,G,eJ n.2.1 n.1.1,T.frL,T.ths,H]
 | .snd ..,_,n=>eJ n rfl
 | .rcv ..,_,n=>eJ n rfl
 | .tau ..,_,n=>eJ n rfl
 | .sum ..,_,n=>eJ n rfl
 | .mat ..,_,n=>eJ n rfl
 | .rep ..,_,n=>eJ n rfl
theorem eL {u:U}(H:u.dq)(hd:u.dead=false)(V:∀p q,u≠ .sum p q)(hu:Uq u):ak u=[u]:=by
 cases u with
 | nil=>cases hd
 | snd=>rfl
 | rcv=>rfl
 | tau=>rfl
 | sum p q=>exact absurd rfl (V p q)
 | par p q=>
  have J:p.dead=false:=H.1;have G:q.dead=false:=H.2;simp [ak,J,G]
 | res x p=>
  have:(td p).2.has x=true:=(fI p x hu.fD).2 H;simp [ak,this]
 | mat a b p=>
  have J:a≠b:=H;have G:p.dead=false:=hd;simp [ak,J,G]
 | rep p=>
  have G:p.dead=false:=hd;simp [ak,G]
theorem ee:∀{u:U},Uq u->u.Nr->u.dead=false->ak u=u.lD
 | .nil,_,_,h=>by cases h
 | .sum p q,hu,n,_=>by
  have G:=ee hu.dP n.2.1 n.1.1;have H:=ee hu.dz n.2.2 n.1.2.1;simp only [ak,T.lD,G,H,T.fS n.1.2.2];rfl
 | .res x p,hu,n,h=>eL n.dq h (λ _ _ e=>by cases e) hu
 | .par ..,hu,n,h=>eL n.dq h (λ _ _ e=>by cases e) hu
 | .snd ..,hu,n,h=>eL n.dq h (λ _ _ e=>by cases e) hu
 | .rcv ..,hu,n,h=>eL n.dq h (λ _ _ e=>by cases e) hu
 | .tau ..,hu,n,h=>eL n.dq h (λ _ _ e=>by cases e) hu
 | .mat ..,hu,n,h=>eL n.dq h (λ _ _ e=>by cases e) hu
 | .rep ..,hu,n,h=>eL n.dq h (λ _ _ e=>by cases e) hu
namespace Lv
def map (f:Nat->Nat):Lv->Lv
 | nil=>nil
 | thr k a b o r n=>thr k (if k= .t\/k= .p then a else f a) (if k= .t\/k= .p then b else f b) (o.map f) (r.map f) (n.map f)
 | sum ps n=>sum (ps.map f) (n.map f)
 | part o q n=>part (o.map f) (q.map f) (n.map f)
def Al (D:Nat->Prop):Lv->Prop
 | nil=>True
 | thr k a b o r n=>(k= .t\/k= .p\/(D a/\D b))/\(∀x∈o,D x)/\r.Al D/\n.Al D
 | sum ps n=>ps.Al D/\n.Al D
 | part o q n=>(∀x∈o,D x)/\q.Al D/\n.Al D
theorem eV (f:Nat->Nat):∀l m:Lv,(l.app m).map f=(l.map f).app (m.map f)
 | nil,m=>rfl
 | thr k a b o r n,m=>by simp only [app,map,eV f n m]
 | sum ps n,m=>by simp only [app,map,eV f n m]
 | part o q n,m=>by simp only [app,map,eV f n m]
theorem nh {D:Nat->Prop}:∀{l m:Lv},(l.app m).Al D↔l.Al D/\m.Al D
 | nil,m=>by simp [app,Al]
 | thr k a b o r n,m=>by simp only [app,Al,nh (l:=n),OK]
 | sum ps n,m=>by simp only [app,Al,nh (l:=n),OK]
 | part o q n,m=>by simp only [app,Al,nh (l:=n),OK]
theorem lV (f:Nat->Nat)(l:Lv):(l.map f).isNil=l.isNil:=by cases l<;>rfl
theorem lE {D E:Nat->Prop}(h:∀x,D x->E x):∀{l:Lv},l.Al D->l.Al E
 | nil,_=>trivial
 | thr k a b o r n,⟨G,H,J,h4⟩=>⟨G.imp id λG=>G.imp id λG=>⟨h _ G.1,h _ G.2⟩,λx V=>h x (H x V),lE h J,lE h h4⟩
 | sum ps n,⟨G,H⟩=>⟨lE h G,lE h H⟩
 | part o q n,⟨G,H,J⟩=>⟨λx V=>h x (G x V),lE h H,lE h J⟩
section
variable {D:Nat->Prop} {f:Nat->Nat}
theorem lB (G:∀x y,D x->D y->f x=f y->x=y){x y:Nat}(H:D x)(J:D y):(f x==f y)=(x==y):=by
 rw [Nt,OY,OY];exact⟨G x y H J,λh=>by rw [h]⟩
theorem je (G:∀x y,D x->D y->f x=f y->x=y){x:Nat}(H:D x):∀{l:Lv},l.Al D->(l.map f).has (f x)=l.has x
 | nil,_=>rfl
 | thr k a b o r n,⟨J,V,W,h4⟩=>by
  simp only [map,has,je G H W,je G H h4];cases k with
  | t=>rfl
  | p=>rfl
  | s=>simp at J;simp [lB G J.1 H,lB G J.2 H]
  | m=>simp at J;simp [lB G J.1 H,lB G J.2 H]
  | r=>simp at J;simp [lB G J.1 H,lB G J.2 H]
 | sum ps n,⟨J,V⟩=>by simp only [map,has,je G H J,je G H V]
 | part o q n,⟨J,V,W⟩=>by simp only [map,has,je G H V,je G H W]
abbrev dR (f:Nat->Nat)(r:List Nat×Lv):List Nat×Lv:=(r.1.map f,r.2.map f)
abbrev J8 (D:Nat->Prop)(r:List Nat×Lv):Prop:=(∀x∈r.1,D x)/\r.2.Al D
theorem rZ (J:∀x y,D x->D y->f x=f y->x=y){own:List Nat}{r:List Nat×Lv}(H:∀x∈own,D x)(hr:J8 D r):kept (own.map f) (dR f r)=dR f (kept own r)/\J8 D (kept own r):=by
 constructor
 ·unfold kept dR;refine Prod.ext ?_ rfl;simp only [<-Nq,List.filter_map]
  congr 1
  refine OL λx G=>?_
  exact je J ((My.1 G).elim (H x) (hr.1 x)) hr.2
 ·refine⟨λx G=>?_,hr.2⟩;simp only [kept,Oz,My]at G;exact G.1.elim (H x) (hr.1 x)
theorem Hs (ps:Lv)(n:List Nat×Lv):spl (ps.map f) (dR f n)=dR f (spl ps n):=by
 unfold spl;cases ps with
 | nil=>rfl
 | thr=>rfl
 | sum=>rfl
 | part o q m=>
  cases m<;>simp [map,dR,eV]
theorem JB {ps:Lv}{n:List Nat×Lv}(h:ps.Al D)(G:J8 D n):J8 D (spl ps n):=by
 unfold spl;split
 ·exact G
 ·exact⟨λx H=>(My.1 H).elim (h.1 x) (G.1 x),nh.2 ⟨h.2.1,G.2⟩⟩
 ·exact⟨G.1,h,G.2⟩
theorem IB (o:List Nat)(q n:Lv):prt (o.map f) (q.map f) (n.map f)=(prt o q n).map f:=by
 unfold prt;cases q with
 | nil=>rfl
 | thr=>rfl
 | part=>rfl
 | sum ps m=>
  cases m<;>simp only [map]
  by_cases h:o.isEmpty=true
  ·have G:(o.map f).isEmpty=true:=by simpa using h
   rw [MZ h,MZ G,eV]
  ·have G:¬(o.map f).isEmpty=true:=by simpa using h
   rw [MJ h,MJ G];simp [map]
theorem Kj {o:List Nat}{q n:Lv}(J:∀x∈o,D x)(H:q.Al D)(G:n.Al D):(prt o q n).Al D:=by
 unfold prt;split
 ·exact G
 ·split
  ·exact nh.2 ⟨H.1,G⟩
  ·exact⟨J,H,G⟩
 ·exact⟨J,H,G⟩
theorem jg (G:∀x y,D x->D y->f x=f y->x=y):∀{l:Lv},l.Al D->tid (l.map f)=dR f (tid l)/\J8 D (tid l)
 | nil,_=>⟨rfl,⟨λx h=>(by cases h),trivial⟩⟩
 | sum ps n,⟨H,J⟩=>by
  obtain⟨V,a2⟩:=jg G H;obtain⟨b1,b2⟩:=jg G J;simp only [map,tid];rw [V,b1];exact⟨Hs _ _,JB a2.2 b2⟩
 | part o q n,⟨H,J,W⟩=>by
  obtain⟨V,a2⟩:=jg G J;obtain⟨b1,b2⟩:=jg G W;obtain⟨c1,c2⟩:=rZ G H a2;simp only [map,tid];rw [V,b1,c1];exact⟨Prod.ext rfl (IB _ _ _),⟨λx h=>(by cases h),Kj c2.1 c2.2 b2.2⟩⟩
 | thr k a b o r n,⟨H,J,W,h4⟩=>by
  obtain⟨V,a2⟩:=jg G W;obtain⟨b1,b2⟩:=jg G h4;obtain⟨c1,c2⟩:=rZ G J a2;simp only [map,tid];rw [V,b1,c1];have Z:(k= .m/\(if k= .t\/k= .p then a else f a)=(if k= .t\/k= .p then b else f b))↔(k= .m/\a=b):=by
   refine and_congr_right λhk=>?_
   subst hk;simp at H|-;exact⟨G a b H.1 H.2,λh=>by rw [h]⟩
  have e2:((dR f (kept o (tid r))).2.isNil)=(kept o (tid r)).2.isNil:=lV _ _;by_cases g1:k= .m/\a=b
  ·rw [MZ (Z.2 g1),MZ g1];exact⟨by simp [dR,eV],⟨λx hx=>(My.1 hx).elim (c2.1 x) (b2.1 x),nh.2 ⟨c2.2,b2.2⟩⟩⟩
  ·rw [MJ λh=>g1 (Z.1 h),MJ g1,e2];split
   ·exact⟨rfl,b2⟩
   ·exact⟨rfl,⟨b2.1,⟨H,c2.1,c2.2,b2.2⟩⟩⟩
end
end Lv
theorem vh {α β:Type}(f:α->β):∀l:List α,perms (l.map f)=(perms l).map (List.map f)
 | []=>rfl
 | x::l=>by
  have hi:∀(x:α) (l:List α),ins (f x) (l.map f)=(ins x l).map (List.map f):=by
   intro x l
   induction l with
   | nil=>rfl
   | cons y l G=>simp only [MV,ins,G,Od];rfl
  simp only [MV,perms,vh f l,PE,List.map_flatMap]
  congr 1
  funext m
  exact hi x m
theorem C5 {f:Nat->Nat}{ρ ρ':Rh}{x:Nat}:∀(π:List Nat) (ls:List UInt8) (ρ ρ':Rh),(∀y∈π,f x=f y->x=y)->ρ (f x)=ρ' x->asg (π.map f) ls ρ (f x)=asg π ls ρ' x
 | [],_,_,_,_,h=>by simpa [asg]using h
 | _::_,[],_,_,_,h=>by simpa [asg]using h
 | y::π,c::ls,ρ,ρ',hi,h=>by
  rw [MV,asg,asg];refine C5 (ρ:=ρ) (ρ':=ρ') π ls _ _ (λz G=>hi z (MD _ G)) ?_;unfold aI;by_cases e:x=y
  ·subst e;simp
  ·rw [MJ e,MJ λH=>e (hi y (Nc ..) H),h]
theorem mZ {D:Nat->Prop}{f:Nat->Nat}(Z:∀x y,D x->D y->f x=f y->x=y){own:List Nat}{F G:Rh->Tk->List Tx}{H:Nat->Prop}(ho:∀x∈own,D x)(hH:∀x,H x->D x)
  (V:∀ρ ρ' tk,(∀x,H x->ρ (f x)=ρ' x)->F ρ tk=G ρ' tk) {ρ ρ':Rh} {tk:Tk} (h:∀x,H x->ρ (f x)=ρ' x):aR (own.map f) F ρ tk=aR own G ρ' tk:=by
 unfold aR;rw [V ρ ρ' tk h,vh,MM];split
 ·rfl
 ·show wrap _ (bE _)=wrap _ (bE _);rw [Od]
  congr 2
  refine NL λπ J=>?_
  show joinS 38 (aH (F _ _))=_;rw [V _ (asg π (lets own.length tk) ρ') _ λx W=>C5 (ρ:=ρ) (ρ':=ρ') π _ _ _ (λy hy e=>Z x y (hH x W) (ho y (((cP own π).1 J).subset hy)) e) (h x W)]
theorem iq {D:Nat->Prop}{x:Nat}:∀{l:Lv},l.Al D->l.has x=true->D x
 | .nil,_,h=>by cases h
 | .thr k a b o r n,⟨G,H,J,h4⟩,h=>by
  simp only [Lv.has,NT]at h;rcases h with(h | h) | h
  ·cases k<;>simp at h G
   ·rcases h with rfl | rfl
    ·exact G.1
    ·exact G.2
   ·rcases h with rfl | rfl
    ·exact G.1
    ·exact G.2
   ·rcases h with rfl | rfl
    ·exact G.1
    ·exact G.2
  ·exact iq J h
  ·exact iq h4 h
 | .sum ps n,⟨G,H⟩,h=>by
  simp only [Lv.has,NT]at h;exact h.elim (iq G) (iq H)
 | .part o q n,⟨G,H,J⟩,h=>by
  simp only [Lv.has,NT]at h;exact h.elim (iq H) (iq J)
theorem jf {D:Nat->Prop}{f:Nat->Nat}(J:∀x y,D x->D y->f x=f y->x=y):∀{l:Lv},l.Al D->∀(ρ ρ':Rh) (tk:Tk),(∀x,l.has x=true->ρ (f x)=ρ' x)->thS (l.map f) ρ tk=thS l ρ' tk
 | .nil,_,_,_,_,_=>rfl
 | .thr k a b o r n,⟨V,W,Z,h4⟩,ρ,ρ',tk,h=>by
  have hn:thS (n.map f) ρ tk=thS n ρ' tk:=jf J h4 ρ ρ' tk λx G=>h x (by simp [Lv.has,G])
  have H:∀x,r.has x=true->ρ (f x)=ρ' x:=λx G=>h x (by simp [Lv.has,G])
  have hl:∀ρ ρ' tk,(∀x,r.has x=true->ρ (f x)=ρ' x)->aR (o.map f) (thS (r.map f)) ρ tk=aR o (thS r) ρ' tk:=λρ ρ' tk h=>
   mZ J W (λx G=>iq Z G) (λρ ρ' tk=>jf J Z ρ ρ' tk) h
  cases k with
  | s=>
   have ha:=h a (by simp [Lv.has]);have hb:=h b (by simp [Lv.has]);simp [Lv.map,thS,hn,hl ρ ρ' tk H,ha,hb]
  | m=>
   have ha:=h a (by simp [Lv.has]);have hb:=h b (by simp [Lv.has]);simp [Lv.map,thS,hn,hl ρ ρ' tk H,ha,hb]
  | t=>simp [Lv.map,thS,kText,hn,hl ρ ρ' tk H]
  | p=>simp [Lv.map,thS,kText,hn,hl ρ ρ' tk H]
  | r=>
   have ha:=h a (by simp [Lv.has]);simp at V;have hu:∀x,r.has x=true->aI ρ (f b) (ic tk) (f x)=aI ρ' b (ic tk) x:=λx G=>by
    unfold aI;by_cases e:x=b
    ·subst e;simp
    ·rw [MJ e,MJ λh'=>e (J x b (iq Z G) V.2 h')];exact H x G
   simp [Lv.map,thS,hn,hl _ _ _ hu,ha]
 | .sum ps n,⟨V,W⟩,ρ,ρ',tk,h=>by
  simp only [Lv.map,thS,jf J V ρ ρ' tk λx G=>h x (by simp [Lv.has,G]),jf J W ρ ρ' tk λx G=>h x (by simp [Lv.has,G])]
 | .part o q n,⟨V,W,Z⟩,ρ,ρ',tk,h=>by
  simp only [Lv.map,thS,jf J Z ρ ρ' tk λx G=>h x (by simp [Lv.has,G])];rw [mZ J V (λx G=>iq W G) (λρ ρ' tk=>jf J W ρ ρ' tk) λx G=>h x (by simp [Lv.has,G])]
theorem eN (f:Nat->Nat):∀(l:Lv) (tk:Tk),thBad (l.map f) tk=thBad l tk
 | .nil,_=>rfl
 | .thr k a b o r n,tk=>by
  have hr:thBad (r.map f)=thBad r:=funext λtk=>eN f r tk
  simp only [Lv.map,thBad,eN f n,Lv.lV,MM,hr]
 | .sum ps n,tk=>by simp only [Lv.map,thBad,eN f n,eN f ps]
 | .part o q n,tk=>by
  have hr:thBad (q.map f)=thBad q:=funext λtk=>eN f q tk
  simp only [Lv.map,thBad,eN f n,Lv.lV,MM,hr]
theorem eC (f:Nat->Nat):∀l:Lv,thAll (l.map f)=thAll l
 | .nil=>rfl
 | .thr k a b o r n=>by simp only [Lv.map,thAll,eC f n,eC f r,MM]
 | .sum ps n=>by simp only [Lv.map,thAll,eC f n,eC f ps]
 | .part o q n=>by simp only [Lv.map,thAll,eC f n,eC f q,MM]
theorem dA (f:Nat->Nat):∀l:Lv,an (l.map f)=an l
 | .nil=>rfl
 | .thr k a b o r n=>by simp only [Lv.map,an,dA f n,dA f r,MM]
 | .sum ps n=>by simp only [Lv.map,an,dA f n,dA f ps]
 | .part o q n=>by simp only [Lv.map,an,dA f n,dA f q,MM]
def T.Al {A:Type}(D:A->Prop):T A->Prop
 | .nil=>True
 | .snd a b p=>D a/\D b/\p.Al D
 | .rcv a b p=>D a/\D b/\p.Al D
 | .mat a b p=>D a/\D b/\p.Al D
 | .tau p=>p.Al D
 | .rep p=>p.Al D
 | .sum p q=>p.Al D/\q.Al D
 | .par p q=>p.Al D/\q.Al D
 | .res x p=>D x/\p.Al D
theorem ct (f:Nat->Nat):∀u:U,flat (u.map f)=Lv.dR f (flat u)
 | .nil=>rfl
 | .snd a b p=>by simp [T.map,flat,ct f p,Lv.dR,Lv.map]
 | .rcv a b p=>by simp [T.map,flat,ct f p,Lv.dR,Lv.map]
 | .mat a b p=>by simp [T.map,flat,ct f p,Lv.dR,Lv.map]
 | .tau p=>by simp [T.map,flat,ct f p,Lv.dR,Lv.map]
 | .rep p=>by simp [T.map,flat,ct f p,Lv.dR,Lv.map]
 | .sum p q=>by simp [T.map,flat,ct f p,ct f q,Lv.dR,Lv.map]
 | .par p q=>by simp [T.map,flat,ct f p,ct f q,Lv.dR,Lv.eV]
 | .res x p=>by simp [T.map,flat,ct f p,Lv.dR]
theorem bF {D:Nat->Prop}:∀{u:U},u.Al D->Lv.J8 D (flat u)
 | .nil,_=>⟨λx h=>(by cases h),trivial⟩
 | .snd a b p,⟨G,H,h⟩=>⟨λx h=>(by simp [flat]at h),⟨.inr (.inr ⟨G,H⟩),(bF h).1,(bF h).2,trivial⟩⟩
 | .rcv a b p,⟨G,H,h⟩=>⟨λx h=>(by simp [flat]at h),⟨.inr (.inr ⟨G,H⟩),(bF h).1,(bF h).2,trivial⟩⟩
 | .mat a b p,⟨G,H,h⟩=>⟨λx h=>(by simp [flat]at h),⟨.inr (.inr ⟨G,H⟩),(bF h).1,(bF h).2,trivial⟩⟩
 | .tau p,h=>⟨λx h=>(by simp [flat]at h),⟨.inl rfl,(bF (u:=p) h).1,(bF (u:=p) h).2,trivial⟩⟩
 | .rep p,h=>⟨λx h=>(by simp [flat]at h),⟨.inr (.inl rfl),(bF (u:=p) h).1,(bF (u:=p) h).2,trivial⟩⟩
 | .sum p q,⟨G,H⟩=>⟨λx h=>(by simp [flat]at h),⟨(bF G).1,(bF G).2,(bF H).1,(bF H).2,trivial⟩,trivial⟩
 | .par p q,⟨G,H⟩=>⟨λx h=>by
   simp only [flat,My]at h;exact h.elim ((bF G).1 x) ((bF H).1 x),Lv.nh.2 ⟨(bF G).2,(bF H).2⟩⟩
 | .res x p,⟨G,h⟩=>⟨λy J=>by
   simp only [flat,MH]at J;rcases J with rfl | J
   ·exact G
   ·exact(bF h).1 y J,(bF h).2⟩
theorem GQ {D:Nat->Prop}{f:Nat->Nat}(G:∀x y,D x->D y->f x=f y->x=y){u:U}(h:u.Al D):td (u.map f)=Lv.dR f (td u)/\Lv.J8 D (td u):=by
 unfold td Lv.tidy;have H:=bF h;obtain⟨J,V⟩:=Lv.jg G H.2;rw [ct];show Lv.kept ((flat u).1.map f) (Lv.tid ((flat u).2.map f))=_/\_;rw [J];exact Lv.rZ G H.1 V
theorem JH {D:Nat->Prop}{f:Nat->Nat}(G:∀x y,D x->D y->f x=f y->x=y){u:U}(h:u.Al D)(ρ:Rh)(tk:Tk):LS (u.map f) ρ tk=LS u (λx=>ρ (f x)) tk:=by
 obtain⟨J,H⟩:=GQ G h;unfold LS;rw [J];exact mZ G H.1 (λx V=>iq H.2 V) (λρ ρ' tk=>jf G H.2 ρ ρ' tk) λx _=>rfl
theorem Gj {D:Nat->Prop}{f:Nat->Nat}(G:∀x y,D x->D y->f x=f y->x=y){u:U}(h:u.Al D):de (u.map f)=de u/\cB (u.map f)=cB u/\a7 (u.map f)=a7 u:=by
 obtain⟨H,J⟩:=GQ G h;unfold de cB a7;rw [H];have hr:thBad ((td u).2.map f)=thBad (td u).2:=funext λtk=>eN f _ tk
 simp [Lv.dR,Lv.lV,eC,dA,hr]
theorem yg (Q:U->Prop)(V:∀p q,Q (.sum p q)->Q p/\Q q)(W:∀p q,Q (.par p q)->Q p/\Q q)(hr:∀x p,Q (.res x p)->Q p)(hm:∀a b p,Q (.mat a b p)->Q p):∀u:U,Q u->∀t∈(aj u).2,Q t:=by
 intro u
 induction u with
 | nil=>intro _ t h;simp [aj]at h
 | snd=>intro q t h;simp [aj]at h;exact h▸q
 | rcv=>intro q t h;simp [aj]at h;exact h▸q
 | tau=>intro q t h;simp [aj]at h;exact h▸q
 | sum p q H J=>
  intro G t h;simp only [aj]at h;split at h
  ·exact J (V _ _ G).2 t h
  ·split at h
   ·exact H (V _ _ G).1 t h
   ·simp at h;exact h▸G
 | par p q H J=>
  intro G t h;simp only [aj,My]at h;exact h.elim (H (W _ _ G).1 t) (J (W _ _ G).2 t)
 | res x p H=>intro G t h;exact H (hr _ _ G) t h
 | mat a b p H=>
  intro G t h;simp only [aj]at h;split at h
  ·exact H (hm _ _ _ G) t h
  ·split at h
   ·simp at h
   ·simp at h;exact h▸G
 | rep p H=>
  intro G t h;simp only [aj]at h;split at h
  ·simp at h
  ·simp at h;exact h▸G
theorem rA (Q:U->Prop)(V:∀p q,Q (.sum p q)->Q p/\Q q)(W:∀p q,Q (.par p q)->Q p/\Q q)(hr:∀x p,Q (.res x p)->Q p)(hm:∀a b p,Q (.mat a b p)->Q p):∀u:U,Q u->∀t∈ak u,Q t:=by
 intro u
 induction u with
 | nil=>intro _ t h;simp [ak]at h
 | snd=>intro q t h;simp [ak]at h;exact h▸q
 | rcv=>intro q t h;simp [ak]at h;exact h▸q
 | tau=>intro q t h;simp [ak]at h;exact h▸q
 | par p q H J=>
  intro G t h;simp only [ak]at h;split at h
  ·exact J (W _ _ G).2 t h
  ·split at h
   ·exact H (W _ _ G).1 t h
   ·simp at h;exact h▸G
 | sum p q H J=>
  intro G t h;simp only [ak,My]at h;exact h.elim (H (V _ _ G).1 t) (J (V _ _ G).2 t)
 | res x p H=>
  intro G t h;simp only [ak]at h;split at h
  ·simp at h;exact h▸G
  ·exact H (hr _ _ G) t h
 | mat a b p H=>
  intro G t h;simp only [ak]at h;split at h
  ·exact H (hm _ _ _ G) t h
  ·split at h
   ·simp at h
   ·simp at h;exact h▸G
 | rep p H=>
  intro G t h;simp only [ak]at h;split at h
  ·simp at h
  ·simp at h;exact h▸G
theorem EL {u:U}(h:Uq u):∀t∈(aj u).2,Uq t:=
 yg Uq (λ _ _ h=>⟨h.dP,h.dz⟩) (λ _ _ h=>⟨h.fG,h.fv⟩) (λ _ _ h=>h.res) (λ _ _ _ h=>h.mat) u h
theorem xd {u:U}(h:Uq u):∀t∈ak u,Uq t:=
 rA Uq (λ _ _ h=>⟨h.dP,h.dz⟩) (λ _ _ h=>⟨h.fG,h.fv⟩) (λ _ _ h=>h.res) (λ _ _ _ h=>h.mat) u h
theorem Bz (u:U):∀t∈(aj u).2,t.size<=u.size:=
 yg (λt=>t.size<=u.size) (λ _ _ h=>by simp only [T.size]at h;omega) (λ _ _ h=>by simp only [T.size]at h;omega) (λ _ _ h=>by simp only [T.size]at h;omega) (λ _ _ _ h=>by simp only [T.size]at h;omega) u (Mu _)
theorem lx (u:U):∀t∈ak u,t.size<=u.size:=
 rA (λt=>t.size<=u.size) (λ _ _ h=>by simp only [T.size]at h;omega) (λ _ _ h=>by simp only [T.size]at h;omega) (λ _ _ h=>by simp only [T.size]at h;omega) (λ _ _ _ h=>by simp only [T.size]at h;omega) u (Mu _)
theorem B6 (u:U):∀t∈(aj u).2,∀x∈BV t,x∈BV u:=
 yg (λt=>∀x∈BV t,x∈BV u) (λ _ _ h=>⟨λx G=>h x (M0 _ G),λx G=>h x (MT _ G)⟩)
  (λ _ _ h=>⟨λx G=>h x (M0 _ G),λx G=>h x (MT _ G)⟩) (λ _ _ h=>λx G=>h x (MD _ G)) (λ _ _ _ h=>h) u (λx h=>h)
theorem zc (u:U):∀t∈ak u,∀x∈BV t,x∈BV u:=
 rA (λt=>∀x∈BV t,x∈BV u) (λ _ _ h=>⟨λx G=>h x (M0 _ G),λx G=>h x (MT _ G)⟩)
  (λ _ _ h=>⟨λx G=>h x (M0 _ G),λx G=>h x (MT _ G)⟩) (λ _ _ h=>λx G=>h x (MD _ G)) (λ _ _ _ h=>h) u (λx h=>h)
theorem lI:∀(u:U),Uq u->∀y,u.Us y↔∃t∈ak u,t.Us y:=by
 intro u
 induction u with
 | nil=>intro _ y;simp [ak,T.Us]
 | snd=>intro _ y;simp [ak]
 | rcv=>intro _ y;simp [ak]
 | tau=>intro _ y;simp [ak]
 | sum p q G H=>
  intro h y;have:(T.sum p q).Us y↔p.Us y\/q.Us y:=Ps;rw [this,G h.dP y,H h.dz y];simp only [ak,My];constructor
  ·rintro(⟨t,J,V⟩ | ⟨t,J,V⟩)
   ·exact⟨t,.inl J,V⟩
   ·exact⟨t,.inr J,V⟩
  ·rintro⟨t,J | J,V⟩
   ·exact .inl ⟨t,J,V⟩
   ·exact .inr ⟨t,J,V⟩
 | par p q G H=>
  intro h y;have e:(T.par p q).Us y↔p.Us y\/q.Us y:=Ps;simp only [ak];split
  ·rename_i hd;rw [e,<-H h.fv y];exact⟨λk=>k.resolve_left (T.bz hd),.inr⟩
  ·split
   ·rename_i hd;rw [e,<-G h.fG y];exact⟨λk=>k.resolve_right (T.bz hd),.inl⟩
   ·simp
 | res x p G=>
  intro h y;simp only [ak];split
  ·simp
  ·rename_i W;rw [<-G h.res y];have Z:¬p.Us x:=λk=>W ((fI p x h.fD).2 k)
   exact⟨λk=>k.2,λk=>⟨λe=>Z (e▸k),k⟩⟩
 | mat a b p G=>
  intro h y;simp only [ak];split
  ·rename_i e;rw [<-G h.mat y];simp [T.Us,e]
  ·rename_i e;split
   ·rename_i hd;simp [T.Us,e,hd]
   ·simp
 | rep p G=>
  intro h y;simp only [ak];split
  ·rename_i hd;simp [T.Us];exact T.bz hd
  ·simp
def Lv.fh (x:Nat):Lv->Prop
 | nil=>False
 | thr k a b o r n=>((k= .s\/k= .m)/\(x=a\/x=b))\/(k= .r/\x=a)\/(x∉o/\¬(k= .r/\x=b)/\r.fh x)\/n.fh x
 | sum ps n=>ps.fh x\/n.fh x
 | part o q n=>(x∉o/\q.fh x)\/n.fh x
theorem BF:∀(π:List Nat) (ls:List UInt8) (ρ ρ':Rh) (x:Nat),x∈π->π.length=ls.length->asg π ls ρ x=asg π ls ρ' x
 | [],_,_,_,_,h,_=>by cases h
 | _::_,[],_,_,_,_,h=>by cases h
 | y::π,c::ls,ρ,ρ',x,h,H=>by
  rw [asg,asg];by_cases G:x∈π
  ·exact BF π ls _ _ x G (by simpa using H)
  ·have e:x=y:=(MH.1 h).resolve_right G;subst e;exact pC π ls _ _ x (by simp [aI])
theorem dK {own:List Nat}{f:Rh->Tk->List Tx}{H:Nat->Prop}(he:∀ρ ρ' tk,(f ρ tk).isEmpty=(f ρ' tk).isEmpty)(V:∀ρ ρ' tk,(∀x,H x->ρ x=ρ' x)->f ρ tk=f ρ' tk)
  {ρ ρ':Rh} {tk:Tk} (h:∀x,x∉own->H x->ρ x=ρ' x):aR own f ρ tk=aR own f ρ' tk:=by
 unfold aR;rw [he ρ ρ' tk];split
 ·rfl
 ·show wrap _ (bE _)=wrap _ (bE _)
  congr 2
  refine NL λπ G=>?_
  have J:=(cP own π).1 G;rw [V _ (asg π (lets own.length tk) ρ') _ λx W=>?_];by_cases hm:x∈own
  ·exact BF π _ _ _ x (J.symm.subset hm) (by rw [fw,J.length_eq])
  ·exact pC π _ _ _ x (h x hm W)
theorem gP (l:Lv)(ρ ρ':Rh)(tk:Tk):(thS l ρ tk).isEmpty=(thS l ρ' tk).isEmpty:=by
 rw [Nt,PC,PC,<-List.length_eq_zero_iff,<-List.length_eq_zero_iff,bn,bn]
theorem sG:∀(l:Lv) (ρ ρ':Rh) (tk:Tk),(∀x,l.fh x->ρ x=ρ' x)->thS l ρ tk=thS l ρ' tk:=by
 intro l
 induction l with
 | nil=>intro _ _ _ _;rfl
 | thr k a b o r n J V=>
  intro ρ ρ' tk h;have Z:thS n ρ tk=thS n ρ' tk:=V ρ ρ' tk λx H=>h x (.inr (.inr (.inr H)))
  cases k with
  | r=>
   have ha:=h a (.inr (.inl ⟨rfl,rfl⟩));simp only [thS,ha,Z];rw [dK (ρ:=aI ρ b (ic tk)) (ρ':=aI ρ' b (ic tk)) (gP r) J λx H G=>?_];unfold aI;split
   ·rfl
   ·rename_i e;exact h x (.inr (.inr (.inl ⟨H,λW=>e W.2,G⟩)))
  | s=>
   have ha:=h a (.inl ⟨.inl rfl,.inl rfl⟩);have hb:=h b (.inl ⟨.inl rfl,.inr rfl⟩);simp only [thS,ha,hb,Z];rw [dK (ρ:=ρ) (ρ':=ρ') (gP r) J λx H G=>h x (.inr (.inr (.inl ⟨H,(λW=>by cases W.1),G⟩)))]
  | m=>
   have ha:=h a (.inl ⟨.inr rfl,.inl rfl⟩);have hb:=h b (.inl ⟨.inr rfl,.inr rfl⟩);simp only [thS,ha,hb,Z];rw [dK (ρ:=ρ) (ρ':=ρ') (gP r) J λx H G=>h x (.inr (.inr (.inl ⟨H,(λW=>by cases W.1),G⟩)))]
  | t=>
   simp only [thS,kText,Z];rw [dK (ρ:=ρ) (ρ':=ρ') (gP r) J λx H G=>h x (.inr (.inr (.inl ⟨H,(λW=>by cases W.1),G⟩)))]
  | p=>
   simp only [thS,kText,Z];rw [dK (ρ:=ρ) (ρ':=ρ') (gP r) J λx H G=>h x (.inr (.inr (.inl ⟨H,(λW=>by cases W.1),G⟩)))]
 | sum ps n α V=>
  intro ρ ρ' tk h;simp only [thS,α ρ ρ' tk λx H=>h x (.inl H),V ρ ρ' tk λx H=>h x (.inr H)]
 | part o q n β V=>
  intro ρ ρ' tk h;simp only [thS,V ρ ρ' tk λx H=>h x (.inr H)];rw [dK (ρ:=ρ) (ρ':=ρ') (gP q) β λx H G=>h x (.inl ⟨H,G⟩)]
theorem wN (x:Nat):∀l m:Lv,(l.app m).fh x↔l.fh x\/m.fh x
 | .nil,m=>by simp [Lv.app,Lv.fh]
 | .thr k a b o r n,m=>by simp only [Lv.app,Lv.fh,wN x n m,Pm]
 | .sum ps n,m=>by simp only [Lv.app,Lv.fh,wN x n m,Pm]
 | .part o q n,m=>by simp only [Lv.app,Lv.fh,wN x n m,Pm]
theorem Jf (x:Nat):∀l:List U,(tl l).fh x↔∃t∈l,(tl [t]).fh x
 | []=>by simp [tl,Lv.fh]
 | u::l=>by
  have:tl (u::l)=(tl [u]).app (tl l):=gA [u] l;rw [this,wN,Jf x l];simp
theorem Jg (x:Nat):∀l:List U,(tp l).fh x↔∃t∈l,x∉(td t).1/\(td t).2.fh x
 | []=>by simp [tp,Lv.fh]
 | u::l=>by simp [tp,Lv.fh,Jg x l]
theorem tn:∀(u:U),∀t∈(aj u).2,t.dq/\t.dead=false:=by
 intro u
 induction u with
 | nil=>intro t h;simp [aj]at h
 | snd=>intro t h;simp [aj]at h;subst h;exact⟨trivial,rfl⟩
 | rcv=>intro t h;simp [aj]at h;subst h;exact⟨trivial,rfl⟩
 | tau=>intro t h;simp [aj]at h;subst h;exact⟨trivial,rfl⟩
 | sum p q G J=>
  intro t h;simp only [aj]at h;split at h
  ·exact J t h
  ·rename_i V;split at h
   ·exact G t h
   ·rename_i H;simp at h;subst h;simp at V H;exact⟨⟨V,H⟩,by simp [T.dead,V]⟩
 | par p q G J=>
  intro t h;simp only [aj,My]at h;exact h.elim (G t) (J t)
 | res x p G=>intro t h;exact G t h
 | mat a b p G=>
  intro t h;simp only [aj]at h;split at h
  ·exact G t h
  ·rename_i V;split at h
   ·simp at h
   ·rename_i H;simp at h;subst h;simp at H;exact⟨V,H⟩
 | rep p G=>
  intro t h;simp only [aj]at h;split at h
  ·simp at h
  ·rename_i H;simp at h;subst h;simp at H;exact⟨trivial,H⟩
theorem Ia (u:U)(a b:Nat)(p:U)(h:T.mat a b p∈(aj u).2):a≠b/\p.dead=false:=tn u _ h
theorem ED:∀(n:Nat) (u:U),u.size<=n->Uq u->∀x,(td u).2.fh x->x∉(td u).1->u.Us x:=by
 intro n
 induction n with
 | zero=>intro u h;cases u<;>simp [T.size]at h
 | succ n V=>
  intro u hn hu x H hx;obtain⟨h1,h2,_⟩:=fJ u hu;rw [h1,Jf]at H;obtain⟨t,ht,H⟩:=H;have hx:x∉(aj u).1:=λh=>hx (h2.symm.subset h)
  have hle:=Bz u t ht;have G:=EL hu t ht;have W:=xG u t ht;have key:t.Us x:=by
   cases t with
   | nil=>cases W
   | par=>cases W
   | res=>cases W
   | snd a b p=>
    simp only [T.size]at hle;simp only [tl,Lv.fh,reduceCtorEq,false_and,true_or,Ox,Px,PU,Pu]at H;rcases H with(h | h) | ⟨h,h'⟩
    ·exact .inl h
    ·exact .inr (.inl h)
    ·exact .inr (.inr (V p (by omega) G.snd x h' h))
   | rcv a b p=>
    simp only [T.size]at hle;simp only [tl,Lv.fh,reduceCtorEq,false_and,or_self,Ox,Px,PU]at H;rcases H with h | ⟨h,α,h'⟩
    ·exact .inl h
    ·exact .inr ⟨α,V p (by omega) G.rcv x h' h⟩
   | tau p=>
    simp only [T.size]at hle;simp only [tl,Lv.fh,reduceCtorEq,false_and,or_self,Ox,Px,PU,Pu]at H;exact V p (by omega) G.tau x H.2 H.1
   | rep p=>
    simp only [T.size]at hle;simp only [tl,Lv.fh,reduceCtorEq,false_and,or_self,Ox,Px,PU,Pu]at H;exact V p (by omega) G.rep x H.2 H.1
   | mat a b p=>
    simp only [T.size]at hle;obtain⟨Z,hd⟩:a≠b/\p.dead=false:=Ia u a b p ht;simp only [tl,Lv.fh,reduceCtorEq,false_and,or_true,Ox,Px,PU,Pu]at H;rcases H with(h | h) | ⟨h,h'⟩
    ·exact .inr ⟨Z,hd,.inl h⟩
    ·exact .inr ⟨Z,hd,.inr (.inl h)⟩
    ·exact .inr ⟨Z,hd,.inr (.inr (V p (by omega) G.mat x h' h))⟩
   | sum p q=>
    simp only [T.size]at hle;simp only [tl,Lv.fh,Px]at H;rw [Jg]at H;obtain⟨v,J,k1,k2⟩:=H;rcases My.1 J with J | J
    ·have :=lx p v J;exact .inl ((lI p G.dP x).2 ⟨v,J,V v (by omega) (xd G.dP v J) x k2 k1⟩)
    ·have :=lx q v J;exact .inr ((lI q G.dz x).2 ⟨v,J,V v (by omega) (xd G.dz v J) x k2 k1⟩)
  exact(ll u hu t ht x key).resolve_right hx
theorem KU {u:U}(hu:Uq u){ρ ρ':Rh}(tk:Tk)(h:∀y,u.Us y->ρ y=ρ' y):LS u ρ tk=LS u ρ' tk:=
 dK (gP _) (sG _) λx G H=>h x (ED _ u (Mu _) hu x H G)
theorem zJ:∀(l m:List Nat),l.Nodup->l.length=m.length->∃f:Nat->Nat,m=l.map f
 | [],[],_,_=>⟨id,rfl⟩
 | [],_::_,_,h=>by cases h
 | _::_,[],_,h=>by cases h
 | x::l,y::m,G,h=>by
  have G:=Nw.1 G;obtain⟨f,H⟩:=zJ l m G.2 (by simpa using h);refine⟨aI f x y,?_⟩;rw [MV,H]
  congr 1
  ·simp [aI]
  ·exact NL λz J=>by
    unfold aI;rw [MJ λe:z=x=>G.1 (e▸J)]
theorem AE.AG:∀{u V:U} {σ J:Nat->Nat},AE σ u J V->(BV u).length=(BV V).length:=by
 intro u
 induction u<;>intro V σ J h<;>cases V<;>simp only [AE]at h<;>simp only [BV,Mm,Mt]
 case snd.snd G _ _ _=>exact G h.2.2
 case mat.mat G _ _ _=>exact G h.2.2
 case rcv.rcv G _ _ _=>rw [G (h.2 0)]
 case res.res G _ _=>rw [G (h 0)]
 case tau.tau G _=>exact G h
 case rep.rep G _=>exact G h
 case sum.sum G H _ _=>rw [G h.1,H h.2]
 case par.par G H _ _=>rw [G h.1,H h.2]
theorem AE.Jw {f:Nat->Nat}:∀{u u':U} {σ β:Nat->Nat},AE σ u β u'->Uq u'->(∀y,u.Fr y->u'.Fr (f y)/\β (f y)=σ y)->(∀y z,u'.Fr y->u'.Fr z->β y=β z->y=z)->BV u'=(BV u).map f->u'=u.map f:=by
 intro u
 induction u<;>intro u' σ β h hu V hi hb<;>cases u'<;>simp only [AE]at h<;>simp only [T.map]
 case snd.snd a b p ih c d q=>
  have e1:c=f a:=hi _ _ (.inl rfl) (V a (.inl rfl)).1 (by rw [(V a (.inl rfl)).2,h.1]);have e2:d=f b:=hi _ _ (.inr (.inl rfl)) (V b (.inr (.inl rfl))).1 (by rw [(V b (.inr (.inl rfl))).2,h.2.1]);rw [<-e1,<-e2];rw [ih h.2.2 hu.snd (λy G=>?_) (λy z G hz=>hi y z (.inr (.inr G)) (.inr (.inr hz))) hb];obtain⟨H,J,W⟩:=h.2.2.free y G;have :=V y (.inr (.inr G));have e:H=f y:=hi _ _ (.inr (.inr J)) this.1 (by rw [W,this.2]);exact⟨e▸J,this.2⟩
 case mat.mat a b p ih c d q=>
  have e1:c=f a:=hi _ _ (.inl rfl) (V a (.inl rfl)).1 (by rw [(V a (.inl rfl)).2,h.1]);have e2:d=f b:=hi _ _ (.inr (.inl rfl)) (V b (.inr (.inl rfl))).1 (by rw [(V b (.inr (.inl rfl))).2,h.2.1]);rw [<-e1,<-e2];rw [ih h.2.2 hu.mat (λy G=>?_) (λy z G hz=>hi y z (.inr (.inr G)) (.inr (.inr hz))) hb];obtain⟨H,J,W⟩:=h.2.2.free y G;have :=V y (.inr (.inr G));have e:H=f y:=hi _ _ (.inr (.inr J)) this.1 (by rw [W,this.2]);exact⟨e▸J,this.2⟩
 case rcv.rcv a x p ih c z q=>
  simp only [BV,MV,Nj]at hb;have e1:c=f a:=hi _ _ (.inl rfl) (V a (.inl rfl)).1 (by rw [(V a (.inl rfl)).2,h.1]);rw [<-e1,<-hb.1];obtain⟨v,J,W⟩:=bV p q σ β;have hz:¬(T.rcv c z q).Fr z:=hu.nf z (by simp [BV]);rw [ih (h.2 v) hu.rcv (λy G=>?_) (λy H G δ e=>?_) hb.2]
  ·obtain⟨H,k1,k2⟩:=(h.2 v).free y G;by_cases e:y=x
   ·subst e;rw [cR]at k2;have:H=z:=NI λγ=>by
     rw [bH _ _ γ]at k2;exact W H k1 k2
    subst this;rw [<-hb.1,cR,cR];exact⟨k1,rfl⟩
   ·have Z:=V y (.inr ⟨e,G⟩);have γ:f y≠z:=λe'=>hz (e'▸Z.1)
    rw [bH _ _ e]at k2|-;rw [bH _ _ γ];have α:H≠z:=λe'=>by
     rw [e',cR]at k2;exact J y G k2.symm
    rw [bH _ _ α]at k2;have e2:H=f y:=hi _ _ (.inr ⟨α,k1⟩) Z.1 (by rw [k2,Z.2]);exact⟨e2▸k1,Z.2⟩
  ·by_cases g1:y=z<;>by_cases g2:H=z
   ·rw [g1,g2]
   ·rw [g1,cR,bH _ _ g2]at e;exact absurd e.symm (W H δ)
   ·rw [g2,cR,bH _ _ g1]at e;exact absurd e (W y G)
   ·rw [bH _ _ g1,bH _ _ g2]at e;exact hi y H (.inr ⟨g1,G⟩) (.inr ⟨g2,δ⟩) e
 case res.res x p ih z q=>
  simp only [BV,MV,Nj]at hb;rw [<-hb.1];obtain⟨v,J,W⟩:=bV p q σ β;have hz:¬(T.res z q).Fr z:=hu.nf z (by simp [BV]);rw [ih (h v) hu.res (λy G=>?_) (λy H G δ e=>?_) hb.2]
  ·obtain⟨H,k1,k2⟩:=(h v).free y G;by_cases e:y=x
   ·subst e;rw [cR]at k2;have:H=z:=NI λγ=>by
     rw [bH _ _ γ]at k2;exact W H k1 k2
    subst this;rw [<-hb.1,cR,cR];exact⟨k1,rfl⟩
   ·have Z:=V y ⟨e,G⟩;have γ:f y≠z:=λe'=>hz (e'▸Z.1)
    rw [bH _ _ e]at k2|-;rw [bH _ _ γ];have α:H≠z:=λe'=>by
     rw [e',cR]at k2;exact J y G k2.symm
    rw [bH _ _ α]at k2;have e2:H=f y:=hi _ _ ⟨α,k1⟩ Z.1 (by rw [k2,Z.2]);exact⟨e2▸k1,Z.2⟩
  ·by_cases g1:y=z<;>by_cases g2:H=z
   ·rw [g1,g2]
   ·rw [g1,cR,bH _ _ g2]at e;exact absurd e.symm (W H δ)
   ·rw [g2,cR,bH _ _ g1]at e;exact absurd e (W y G)
   ·rw [bH _ _ g1,bH _ _ g2]at e;exact hi y H ⟨g1,G⟩ ⟨g2,δ⟩ e
 case tau.tau p ih q=>rw [ih h hu.tau V hi hb]
 case rep.rep p ih q=>rw [ih h hu.rep V hi hb]
 case sum.sum p p' ih ε q q'=>
  simp only [BV,Nq]at hb;obtain⟨b1,b2⟩:=List.append_inj hb (by rw [MM,h.1.AG]);rw [ih h.1 hu.dP (λy G=>?_) (λy z G hz=>hi y z (.inl G) (.inl hz)) b1,ε h.2 hu.dz (λy G=>?_) (λy z G hz=>hi y z (.inr G) (.inr hz)) b2]
  ·obtain⟨H,J,W⟩:=h.2.free y G;have :=V y (.inr G);have e:H=f y:=hi _ _ (.inr J) this.1 (by rw [W,this.2]);exact⟨e▸J,this.2⟩
  ·obtain⟨H,J,W⟩:=h.1.free y G;have :=V y (.inl G);have e:H=f y:=hi _ _ (.inl J) this.1 (by rw [W,this.2]);exact⟨e▸J,this.2⟩
 case par.par p p' ih ε q q'=>
  simp only [BV,Nq]at hb;obtain⟨b1,b2⟩:=List.append_inj hb (by rw [MM,h.1.AG]);rw [ih h.1 hu.fG (λy G=>?_) (λy z G hz=>hi y z (.inl G) (.inl hz)) b1,ε h.2 hu.fv (λy G=>?_) (λy z G hz=>hi y z (.inr G) (.inr hz)) b2]
  ·obtain⟨H,J,W⟩:=h.2.free y G;have :=V y (.inr G);have e:H=f y:=hi _ _ (.inr J) this.1 (by rw [W,this.2]);exact⟨e▸J,this.2⟩
  ·obtain⟨H,J,W⟩:=h.1.free y G;have :=V y (.inl G);have e:H=f y:=hi _ _ (.inl J) this.1 (by rw [W,this.2]);exact⟨e▸J,this.2⟩
theorem T.kP {D:Nat->Prop}:∀{u:U},(∀x,u.Fr x->D x)->(∀x∈BV u,D x)->u.Al D
 | .nil,_,_=>trivial
 | .snd a b p,h,k=>⟨h a (.inl rfl),h b (.inr (.inl rfl)),T.kP (λx G=>h x (.inr (.inr G))) k⟩
 | .mat a b p,h,k=>⟨h a (.inl rfl),h b (.inr (.inl rfl)),T.kP (λx G=>h x (.inr (.inr G))) k⟩
 | .rcv a y p,h,k=>⟨h a (.inl rfl),k y (by simp [BV]),T.kP (λx G=>by
   by_cases e:x=y
   ·subst e;exact k x (by simp [BV])
   ·exact h x (.inr ⟨e,G⟩)) λx G=>k x (by simp [BV,G])⟩
 | .res y p,h,k=>⟨k y (by simp [BV]),T.kP (λx G=>by
   by_cases e:x=y
   ·subst e;exact k x (by simp [BV])
   ·exact h x ⟨e,G⟩) λx G=>k x (by simp [BV,G])⟩
 | .tau p,h,k=>T.kP (u:=p) h k
 | .rep p,h,k=>T.kP (u:=p) h k
 | .sum p q,h,k=>⟨T.kP (λx G=>h x (.inl G)) λx G=>k x (M0 _ G),T.kP (λx G=>h x (.inr G)) λx G=>k x (MT _ G)⟩
 | .par p q,h,k=>⟨T.kP (λx G=>h x (.inl G)) λx G=>k x (M0 _ G),T.kP (λx G=>h x (.inr G)) λx G=>k x (MT _ G)⟩
theorem mF {f:Nat->Nat}:∀{l:List Nat},(l.map f).Nodup->∀x∈l,∀y∈l,f x=f y->x=y
 | [],_,_,h,_,_,_=>by cases h
 | z::l,J,x,V,y,W,e=>by
  rw [MV,Nw]at J;rcases MH.1 V with G | G<;>rcases MH.1 W with H | H
  ·rw [G,H]
  ·exact absurd (Nb.2 ⟨y,H,by rw [<-e,G]⟩) J.1
  ·exact absurd (Nb.2 ⟨x,G,by rw [e,H]⟩) J.1
  ·exact mF J.2 x G y H e
theorem AE.Jn {u V:U}{σ J:Nat->Nat}(h:AE σ u J V)(hu:Uq u)(W:Uq V)(hi:∀y z,u.Fr y->u.Fr z->σ y=σ z->y=z)(α:∀y z,V.Fr y->V.Fr z->J y=J z->y=z):
  ∃(f:Nat->Nat) (D:Nat->Prop),V=u.map f/\u.Al D/\(∀x y,D x->D y->f x=f y->x=y)/\∀y,u.Fr y->V.Fr (f y)/\J (f y)=σ y:=by
 obtain⟨g,hg⟩:=zJ (BV u) (BV V) hu.nd h.AG;have Z:∀y,∃y',u.Fr y->V.Fr y'/\J y'=σ y:=λy=>by
  by_cases H:u.Fr y
  ·obtain⟨y',h1,h2⟩:=h.free y H;exact⟨y',λ _=>⟨h1,h2⟩⟩
  ·exact⟨0,λk=>absurd k H⟩
 let f:Nat->Nat:=λy=>if u.Fr y then Classical.choose (Z y)else g y
 have f1:∀y,u.Fr y->V.Fr (f y)/\J (f y)=σ y:=λy H=>by
  have:f y=Classical.choose (Z y):=MZ H;rw [this];exact Classical.choose_spec (Z y) H
 have f2:BV V=(BV u).map f:=by
  rw [hg];exact NL λx G=>(MJ (hu.nf x G)).symm
 refine⟨f,λx=>u.Fr x\/x∈BV u,h.Jw W f1 α f2,T.kP (λx G=> .inl G) (λx G=> .inr G),?_,f1⟩;intro x y G H e;have hb:∀x∈BV u,f x∈BV V:=λx G=>by rw [f2];exact N3 G
 rcases G with G | G<;>rcases H with H | H
 ·exact hi x y G H (by rw [<-(f1 x G).2,<-(f1 y H).2,e])
 ·exact absurd (e▸(f1 x G).1) (W.nf _ (hb y H))
 ·exact absurd (e▸(f1 y H).1) (λk=>W.nf _ (hb x G) (by rw [e];exact(f1 y H).1))
 ·exact mF (f2▸W.nd) x G y H e
theorem I1 {u G:U}{σ H:Nat->Nat}(h:AE σ u H G)(hu:Uq u)(J:Uq G)(hi:∀y z,u.Fr y->u.Fr z->σ y=σ z->y=z)(V:∀y z,G.Fr y->G.Fr z->H y=H z->y=z)
  {ρ ρ':Rh} (W:∀y Z,u.Us y->G.Fr Z->σ y=H Z->ρ y=ρ' Z) (tk:Tk):LS u ρ tk=LS G ρ' tk/\de u=de G/\cB u=cB G/\a7 u=a7 G:=by
 obtain⟨f,D,rfl,h1,h2,h3⟩:=h.Jn hu J hi V;obtain⟨k1,k2,k3⟩:=Gj h2 h1;refine⟨?_,k1.symm,k2.symm,k3.symm⟩;rw [JH h2 h1];exact KU hu tk λy hy=>W y (f y) hy (h3 y (T.bs hy)).1 (h3 y (T.bs hy)).2.symm
namespace T
section
variable {A B:Type}
def tg:T A->Nat
 | nil=>0 | snd .. =>1 | rcv .. =>2 | tau .. =>3 | sum .. =>4 | par .. =>5 | res .. =>6 | mat .. =>7 | rep .. =>8
def gp:T A->Bool
 | nil=>true | snd .. =>true | rcv .. =>true | tau .. =>true | sum .. =>true
 | par .. =>false | res .. =>false | mat .. =>false | rep .. =>false
def isR:T A->Bool
 | rcv .. =>true
 | _=>false
def smp:T A->Bool
 | nil=>true | snd _ _ p=>p.smp | rcv _ _ p=>p.smp | tau p=>p.smp | sum p q=>(p.gp&&q.gp)&&(p.smp&&q.smp) | par p q=>p.smp&&q.smp
 | res _ p=>p.smp | mat _ _ p=>p.smp | rep p=>p.isR&&p.smp
theorem yI {t:T A}:t.gp=decide (t.tg< 5):=by cases t<;>rfl
theorem FU {t:T A}:t.isS=decide (t.tg=4):=by cases t<;>rfl
theorem xz {t:T A}:t.isR=decide (t.tg=2):=by cases t<;>rfl
theorem E7 [DecidableEq A][DecidableEq B]{p:T A}{q:T B}{ρ:A->Nat}{σ:B->Nat}(h:AE ρ p σ q):p.tg=q.tg:=by
 cases p<;>cases q<;>first | exact h.elim | rfl
theorem tq [DecidableEq A][DecidableEq B]{p:T A}{q:T B}{ρ:A->Nat}{σ:B->Nat}(h:AE ρ p σ q):p.smp=q.smp:=by
 induction p generalizing q ρ σ<;>cases q<;>simp only [AE]at h<;>simp only [smp]
 case snd.snd G _ _ _=>exact G h.2.2
 case mat.mat G _ _ _=>exact G h.2.2
 case rcv.rcv G _ _ _=>exact G (h.2 0)
 case res.res G _ _=>exact G (h 0)
 case tau.tau G _=>exact G h
 case rep.rep G _=>rw [G h,xz,xz,E7 h]
 case sum.sum G H _ _=>rw [G h.1,H h.2,yI,yI,yI,yI,E7 h.1,E7 h.2]
 case par.par G H _ _=>rw [G h.1,H h.2]
end
end T
structure Lr (t w:U):Prop where
 th:w.th=true
 nr:w.Nr
 uq:Uq w
 bv:∀x∈BV w,x∈BV t
 us:∀x,w.Us x↔t.Us x
 tx:∀ρ tk,thU w ρ tk=thU t ρ tk
 bad:∀tk,thBad (tl [w]) tk=thBad (tl [t]) tk
 all:thAll (tl [w])=thAll (tl [t])
 most:an (tl [w])=an (tl [t])
 smp:t.smp=true->w.smp=true
 tg:w.tg=t.tg
structure L0 (u v:U):Prop where
 nr:v.Nr
 uq:Uq v
 bv:∀x∈BV v,x∈BV u
 us:∀x,v.Us x↔u.Us x
 ls:∀ρ tk,LS v ρ tk=LS u ρ tk
 bad:∀tk,de v tk=de u tk
 all:cB v=cB u
 most:a7 v=a7 u
 dead:v.dead=u.dead
 smp:u.smp=true->v.smp=true
 tg:∀t,aj u=([],[t])->v.tg=t.tg
 isS:(∀p q,aj u≠([],[T.sum p q]))->v.isS=false
theorem qi {t w:U}(G:(BV w).Nodup)(nr:w.Nr)(hb:∀x∈BV w,x∈BV t)(hu:∀x,w.Us x->t.Us x)(H:Uq t):Uq w:=
 ⟨G,λx J V=>H.nf x (hb x J) (T.bs (hu x (nr.gU V)))⟩
theorem AE.I0 {p:P}{q:U}{ρ:Rh}{y:Nat}{c:UInt8}(G:∀z,q.Fr z->z≠y->ρ z≠c)(h:AE UInt8.toNat p (λz=>(aI ρ y c z).toNat) q)(v:Nat):AE (aI UInt8.toNat c v) p (aI (λz=>(ρ z).toNat) y v) q:=by
 refine(h.map λn=>if n=c.toNat then v else n).congr (λx _=>?_) λz H=>?_
 ·unfold aI;by_cases e:x=c
  ·subst e;simp
  ·rw [MJ e,MJ λh=>e (MQ.1 h)]
 ·unfold aI;by_cases e:z=y
  ·subst e;simp
  ·simp only [MJ e];rw [MJ λh=>G z H e (MQ.1 h)]
theorem bI:∀(π:List Nat) (ls:List UInt8) (ρ:Rh) (x:Nat),x∉π->asg π ls ρ x=ρ x
 | [],_,_,_,_=>by simp [asg]
 | _::_,[],_,_,_=>by simp [asg]
 | y::π,c::ls,ρ,x,h=>by
  simp only [MH,PT]at h;rw [asg,bI π ls _ x h.2];unfold aI;rw [MJ h.1]
theorem eR:∀(π:List Nat) (ls:List UInt8) (ρ:Rh) (x:Nat),x∈π->π.length=ls.length->asg π ls ρ x∈ls
 | [],_,_,_,h,_=>by cases h
 | _::_,[],_,_,_,h=>by cases h
 | y::π,c::ls,ρ,x,h,H=>by
  rw [asg];by_cases G:x∈π
  ·exact MD _ (eR π ls _ x G (by simpa using H))
  ·have e:x=y:=(MH.1 h).resolve_right G;subst e;rw [bI π ls _ x G];simp [aI]
theorem yw:∀(π:List Nat) (ls:List UInt8) (ρ:Rh) (x z:Nat),x∈π->z∈π->π.length=ls.length->ls.Nodup->asg π ls ρ x=asg π ls ρ z->x=z
 | [],_,_,_,_,h,_,_,_,_=>by cases h
 | _::_,[],_,_,_,_,_,h,_,_=>by cases h
 | y::π,c::ls,ρ,x,z,hx,hz,V,G,e=>by
  have G:=Nw.1 G;have W:π.length=ls.length:=by simpa using V
  rw [asg]at e;by_cases H:x∈π<;>by_cases J:z∈π
  ·exact yw π ls _ x z H J W G.2 e
  ·have Z:z=y:=(MH.1 hz).resolve_right J;subst Z;rw [bI π ls _ z J]at e;have :=eR π ls (aI ρ z c) x H (by simpa using V);rw [e]at this;exact absurd (by simpa [aI]using this) G.1
  ·have Z:x=y:=(MH.1 hx).resolve_right H;subst Z;rw [bI π ls _ x H]at e;have :=eR π ls (aI ρ x c) z J (by simpa using V);rw [<-e]at this;exact absurd (by simpa [aI]using this) G.1
  ·rw [(MH.1 hx).resolve_right H,(MH.1 hz).resolve_right J]
theorem AE.Ey {p:P}{q:U}:∀(π:List Nat) (ls:List UInt8) (ρ:Rh),π.length=ls.length->ls.Nodup->(∀z,q.Fr z->z∉π->ρ z∉ls)->AE UInt8.toNat p (λz=>(asg π ls ρ z).toNat) q->
  AE UInt8.toNat (T.resL ls p) (λz=>(ρ z).toNat) (T.resL π q)
 | [],[],_,_,_,_,h=>h
 | [],_::_,_,h,_,_,_=>by cases h
 | _::_,[],_,h,_,_,_=>by cases h
 | y::π,c::ls,ρ,W,H,V,h=>by
  have H:=Nw.1 H;have Z:=AE.Ey π ls (aI ρ y c) (by simpa using W) H.2 (λz G hm=>by
   unfold aI;split
   ·exact H.1
   ·rename_i e;exact λJ=>V z G (by simp [e,hm]) (MD _ J)) h
  intro v;refine AE.I0 (λz G e=>?_) Z v;have G:=T.eW.1 G;exact λJ=>V z G.2 (by simp [e,G.1]) (by rw [J];exact Nc ..)
theorem Bx (a b:UInt8)(r:Tx):kText .m a b r=kText .m b a r:=by
 unfold kText;by_cases G:b< a
 ·have H:¬a< b:=λh=>by
   rw [Nf]at h G;omega
  simp [G,H]
 ·by_cases H:a< b
  ·simp [G,H]
  ·have:a=b:=by
    apply MQ.1;rw [Nf]at G H;omega
   subst this;rfl
theorem zt {α:Type}{f:α->Bool}{l m:List α}(h:l.Perm m):l.any f=m.any f:=by
 rw [Nt,Ow,Ow];exact⟨fun⟨x,G,H⟩=>⟨x,h.subset G,H⟩,fun⟨x,G,H⟩=>⟨x,h.symm.subset G,H⟩⟩
theorem iL {l m:List Nat}(h:l.Perm m):l.sum=m.sum:=by
 induction h with
 | nil=>rfl
 | cons x _ G=>simp [G]
 | swap x y l=>simp;omega
 | trans _ _ H J=>exact H.trans J
theorem triples {α β γ:Type}{R:α->β->γ->Prop}:∀{l:List α},(∀a∈l,∃b c,R a b c)->∃zs:List (α×β×γ),zs.map (·.1)=l/\∀z∈zs,R z.1 z.2.1 z.2.2
 | [],_=>⟨[],rfl,λz h=>by cases h⟩
 | a::l,h=>by
  obtain⟨b,c,hr⟩:=h a (Nc ..);obtain⟨zs,H,J⟩:=triples (l:=l) λa ha=>h a (MD _ ha)
  refine⟨(a,b,c)::zs,by simp [H],λz G=>?_⟩;rcases MH.1 G with rfl | G
  ·exact hr
  ·exact J z G
theorem vJ {α:Type}(zs:List α)(g:α->Tx):∃G:List α,G.Perm zs/\G.map g=aH (zs.map g):=by
 refine⟨zs.mergeSort λa b=>jb (g a) (g b),List.mergeSort_perm _ _,?_⟩
 symm
 refine tw ?_ ((List.mergeSort_perm _ _).map g);have :=List.pairwise_mergeSort (le:=λa b:α=>jb (g a) (g b)) (λa b c=>fW _ _ _) (λa b=>pd _ _) zs;exact List.pairwise_map.2 this
theorem fR (p:U):∀l:List Nat,BV (T.resL l p)=l++BV p
 | []=>rfl
 | x::l=>by simp only [T.resL,BV,fR p l,Ns]
theorem fN:∀l:List U,BV (T.parL l)=l.flatMap BV
 | []=>rfl
 | [t]=>by simp [T.parL]
 | t::u::l=>by simp only [T.parL,BV,fN (u::l),N6]
theorem xp:∀l:List U,BV (T.dk l)=l.flatMap BV
 | []=>rfl
 | [t]=>by simp [T.dk]
 | t::u::l=>by simp only [T.dk,BV,xp (u::l),N6]
theorem pN {α:Type}{f g:α->List Nat}:∀{l:List α},(l.flatMap f).Nodup->(∀z∈l,(g z).Nodup/\∀x∈g z,x∈f z)->(l.flatMap g).Nodup
 | [],_,_=>NY
 | z::l,G,h=>by
  rw [N6]at G|-;have G:=M6.1 G;refine M6.2 ⟨(h z (Nc ..)).1,pN G.2.1 λy H=>h y (MD _ H),λa ha b hb=>?_⟩;obtain⟨y,H,J⟩:=Ni.1 hb;exact G.2.2 a ((h z (Nc ..)).2 a ha) b (Ni.2 ⟨y,H,(h y (MD _ H)).2 b J⟩)
theorem EP:∀u:U,Uq u->((ak u).flatMap BV).Nodup:=by
 intro u;have sub:∀u:U,∀x∈(ak u).flatMap BV,x∈BV u:=λu x J=>by
  obtain⟨t,V,W⟩:=Ni.1 J;exact zc u t V x W
 induction u with
 | nil=>intro _;simp [ak]
 | snd a b p G=>intro h;simpa [ak]using h.nd
 | rcv a b p G=>intro h;simpa [ak]using h.nd
 | tau p G=>intro h;simpa [ak]using h.nd
 | sum p q G H=>
  intro h;simp only [ak,NM];exact M6.2 ⟨G h.dP,H h.dz,λa ha b hb=>(M6.1 h.nd).2.2 a (sub p a ha) b (sub q b hb)⟩
 | par p q G H=>
  intro h;simp only [ak];split
  ·exact H h.fv
  ·split
   ·exact G h.fG
   ·simpa using h.nd
 | res x p G=>
  intro h;simp only [ak];split
  ·simpa using h.nd
  ·exact G h.res
 | mat a b p G=>
  intro h;simp only [ak];split
  ·exact G h.mat
  ·split
   ·simp
   ·simpa using h.nd
 | rep p G=>
  intro h;simp only [ak];split
  ·simp
  ·simpa using h.nd
theorem He:∀u:U,Uq u->((aj u).1++(aj u).2.flatMap BV).Nodup:=by
 intro u;have sub:∀u:U,∀x∈(aj u).1++(aj u).2.flatMap BV,x∈BV u:=λu x H=>by
  rcases My.1 H with H | H
  ·exact im u x H
  ·obtain⟨t,V,W⟩:=Ni.1 H;exact B6 u t V x W
 induction u with
 | nil=>intro _;simp [aj]
 | snd a b p G=>intro h;simpa [aj]using h.nd
 | rcv a b p G=>intro h;simpa [aj]using h.nd
 | tau p G=>intro h;simpa [aj]using h.nd
 | sum p q G J=>
  intro h;simp only [aj];split
  ·exact J h.dz
  ·split
   ·exact G h.dP
   ·simpa using h.nd
 | par p q G J=>
  intro h;have Z:(((aj p).1++(aj q).1)++((aj p).2++(aj q).2).flatMap BV).Perm (((aj p).1++(aj p).2.flatMap BV)++((aj q).1++(aj q).2.flatMap BV)):=by
   rw [NM];exact sV _ _ _ _
  simp only [aj];rw [Z.nodup_iff];exact M6.2 ⟨G h.fG,J h.fv,λa ha b hb=>(M6.1 h.nd).2.2 a (sub p a ha) b (sub q b hb)⟩
 | res x p G=>
  intro h;simp only [aj];split
  ·exact Nw.2 ⟨λH=>h.fD (sub p x H),G h.res⟩
  ·exact G h.res
 | mat a b p G=>
  intro h;simp only [aj];split
  ·exact G h.mat
  ·split
   ·simp
   ·simpa using h.nd
 | rep p G=>
  intro h;simp only [aj];split
  ·simp
  ·simpa using h.nd
theorem vZ {u:U}(h:u.dead=false)(hu:Uq u):(aj u).2≠[]:=λe=>by
 have G:=(fJ u hu).1;rw [e]at G;have :=(kG u).1 h;rw [G]at this;exact this rfl
theorem HI {u:U}(hu:Uq u)(h:(aj u).2=[]):u.dead=true:=by
 cases hd:u.dead with
 | true=>rfl
 | false=>exact absurd h (vZ hd hu)
theorem od {u:U}(h:u.dead=false)(hu:Uq u):ak u≠[]:=λe=>by
 have G:=(fJ u hu).2.2;rw [e]at G;have :=(bD u).2.1;rw [G]at this;rw [this.1 rfl]at h;cases h
theorem Dr:∀u:U,Uq u->∀t∈ak u,∀p q,aj t≠([],[T.sum p q]):=by
 intro u
 induction u with
 | nil=>intro _ t h;simp [ak]at h
 | snd=>intro _ t h;simp [ak]at h;subst h;intro p q e;simp [aj]at e
 | rcv=>intro _ t h;simp [ak]at h;subst h;intro p q e;simp [aj]at e
 | tau=>intro _ t h;simp [ak]at h;subst h;intro p q e;simp [aj]at e
 | sum p q G H=>
  intro hu t h;simp only [ak,My]at h;exact h.elim (G hu.dP t) (H hu.dz t)
 | par p q G H=>
  intro hu t h;simp only [ak]at h;split at h
  ·exact H hu.fv t h
  ·rename_i J;split at h
   ·exact G hu.fG t h
   ·rename_i V;simp at h;subst h;intro Z q' e;have W:=Nz Prod.snd e;simp only [aj]at W;have l1:(aj p).2.length≠0:=λe=>vZ (by simpa using J) hu.fG (MS e)
    have l2:(aj q).2.length≠0:=λe=>vZ (by simpa using V) hu.fv (MS e)
    have :=Nz List.length W;simp only [Mt,Mm,MB]at this;omega
 | res x p G=>
  intro hu t h;simp only [ak]at h;split at h
  ·rename_i J;simp at h;subst h;intro Z q' e;have W:=Nz Prod.fst e;simp [aj,J]at W
  ·exact G hu.res t h
 | mat a b p G=>
  intro hu t h;simp only [ak]at h;split at h
  ·exact G hu.mat t h
  ·rename_i J;split at h
   ·simp at h
   ·rename_i V;simp at h;subst h;intro Z q' e;simp [aj,J,V]at e
 | rep p G=>
  intro hu t h;simp only [ak]at h;split at h
  ·simp at h
  ·rename_i V;simp at h;subst h;intro Z q' e;simp [aj,V]at e
theorem Dk:∀(u:U),∀t∈ak u,t.dead=false:=by
 intro u
 induction u with
 | nil=>intro t h;simp [ak]at h
 | snd=>intro t h;simp [ak]at h;subst h;rfl
 | rcv=>intro t h;simp [ak]at h;subst h;rfl
 | tau=>intro t h;simp [ak]at h;subst h;rfl
 | sum p q G H=>intro t h;simp only [ak,My]at h;exact h.elim (G t) (H t)
 | par p q G H=>
  intro t h;simp only [ak]at h;split at h
  ·exact H t h
  ·rename_i J;split at h
   ·exact G t h
   ·simp at h;subst h;simp at J;simp [T.dead,J]
 | res x p G=>
  intro t h;simp only [ak]at h;split at h
  ·rename_i J;simp at h;subst h;cases hd:p.dead with
   | false=>exact hd
   | true=>rw [lA hd]at J;cases J
  ·exact G t h
 | mat a b p G=>
  intro t h;simp only [ak]at h;split at h
  ·exact G t h
  ·split at h
   ·simp at h
   ·rename_i V;simp at h;subst h;simp at V;exact V
 | rep p G=>
  intro t h;simp only [ak]at h;split at h
  ·simp at h
  ·rename_i V;simp at h;subst h;simp at V;exact V
theorem v8:∀u:U,u.gp=true->u.smp=true->∀t∈ak u,(t.tg=1\/t.tg=2\/t.tg=3)/\aj t=([],[t])
 | .nil,_,_,t,h=>by simp [ak]at h
 | .snd ..,_,_,t,h=>by simp [ak]at h;subst h;exact⟨.inl rfl,rfl⟩
 | .rcv ..,_,_,t,h=>by simp [ak]at h;subst h;exact⟨.inr (.inl rfl),rfl⟩
 | .tau ..,_,_,t,h=>by simp [ak]at h;subst h;exact⟨.inr (.inr rfl),rfl⟩
 | .sum p q,_,G,t,h=>by
  simp only [T.smp,Mp]at G;simp only [ak,My]at h;exact h.elim (v8 p G.1.1 G.2.1 t) (v8 q G.1.2 G.2.2 t)
 | .par ..,h,_,_,_=>by cases h
 | .res ..,h,_,_,_=>by cases h
 | .mat ..,h,_,_,_=>by cases h
 | .rep ..,h,_,_,_=>by cases h
theorem sL {l:List U}(h:∀t∈l,t.smp=true):(T.parL l).smp=true:=by
 induction l with
 | nil=>rfl
 | cons t l G=>
  cases l with
  | nil=>exact h t (by simp)
  | cons u l=>
   simp only [T.parL,T.smp,Mp];exact⟨h t (by simp),G λt H=>h t (MD _ H)⟩
theorem tU {p:U}(l:List Nat):(T.resL l p).smp=p.smp:=by
 induction l with
 | nil=>rfl
 | cons x l G=>exact G
theorem E8 {l:List U}(H:l≠[])(h:∀t∈l,t.smp=true/\t.gp=true):(T.dk l).smp=true/\(T.dk l).gp=true:=by
 induction l with
 | nil=>exact absurd rfl H
 | cons t l J=>
  cases l with
  | nil=>exact h t (by simp)
  | cons u l=>
   obtain⟨V,W⟩:=J (by simp) λt G=>h t (MD _ G)
   have G:=h t (by simp);simp only [T.dk,T.smp,Mp];exact⟨⟨⟨G.2,W⟩,G.1,V⟩,rfl⟩
theorem FO (u:U)(h:u.smp=true):∀t∈ak u,t.smp=true:=
 rA (λt=>t.smp=true) (λp q h=>by simp only [T.smp,Mp]at h;exact h.2) (λp q h=>by simpa only [T.smp,Mp]using h) (λ _ _ h=>h) (λ _ _ _ h=>h) u h
theorem IW (u:U)(h:u.smp=true):∀t∈(aj u).2,t.smp=true:=
 yg (λt=>t.smp=true) (λp q h=>by simp only [T.smp,Mp]at h;exact h.2) (λp q h=>by simpa only [T.smp,Mp]using h) (λ _ _ h=>h) (λ _ _ _ h=>h) u h
theorem AE.dk {ρ:UInt8->Nat}{σ:Nat->Nat}:∀{l:List (U×P×U)},(∀z∈l,AE ρ z.2.1 σ z.2.2)->AE ρ (T.dk (l.map (·.2.1))) σ (T.dk (l.map (·.2.2)))
 | [],_=>trivial
 | [z],h=>h z (by simp)
 | z::y::l,h=>⟨h z (by simp),AE.dk (l:=y::l) λt G=>h t (MD _ G)⟩
theorem AE.parL {ρ:UInt8->Nat}{σ:Nat->Nat}:∀{l:List (U×P×U)},(∀z∈l,AE ρ z.2.1 σ z.2.2)->AE ρ (T.parL (l.map (·.2.1))) σ (T.parL (l.map (·.2.2)))
 | [],_=>trivial
 | [z],h=>h z (by simp)
 | z::y::l,h=>⟨h z (by simp),AE.parL (l:=y::l) λt G=>h t (MD _ G)⟩
theorem CW {D:UInt8->Prop}:∀{l:List P},(∀t∈l,t.Al D)->(T.dk l).Al D
 | [],_=>trivial
 | [z],h=>h z (by simp)
 | z::y::l,h=>⟨h z (by simp),CW (l:=y::l) λt G=>h t (MD _ G)⟩
theorem CR {D:UInt8->Prop}:∀{l:List P},(∀t∈l,t.Al D)->(T.parL l).Al D
 | [],_=>trivial
 | [z],h=>h z (by simp)
 | z::y::l,h=>⟨h z (by simp),CR (l:=y::l) λt G=>h t (MD _ G)⟩
theorem C1 {D:UInt8->Prop}{p:P}(G:p.Al D):∀{l:List UInt8},(∀c∈l,D c)->(T.resL l p).Al D
 | [],_=>G
 | c::l,h=>⟨h c (by simp),C1 G (l:=l) λt H=>h t (MD _ H)⟩
theorem eX {w:U}(h:w.isS=true)(ρ:Rh)(tk:Tk):thU w ρ tk=joinS 43 (aH ((ak w).map λu=>LS u ρ tk))/\tl [w]= .sum (tp (ak w)) .nil:=by
 cases w<;>first | (cases h;done) | exact⟨rfl,rfl⟩
theorem B4 {a b:Nat}(h:∀n,a<=n↔b<=n):a=b:=by
 have G:=(h a).1 (Mu _);have H:=(h b).2 (Mu _);omega
end Go.Proofs.YtdecokaadekjnaaGreat
namespace Go.Proofs.YtdecokaadekjnaaGreat
open Go Go.RowKit
theorem ye.sub {k m:Nat}{Θ:Tx}{σ:Nat->Nat}{u v:U}(h:ye k Θ σ u)(H:k<=m)(J:∀y,v.Us y->u.Us y):ye m Θ σ v:=
 ⟨h.srt,λc G=>⟨(h.okn c G).1.mono H,(h.okn c G).2⟩,λy V=>h.cov y (J y V)⟩
theorem Compat.sub {ρ:Rh}{σ:Nat->Nat}{u v:U}(h:Compat ρ σ u)(G:∀y,v.Us y->u.Us y):Compat ρ σ v:=λy H=>h y (G y H)
theorem jl {c:UInt8}(h:nm c=true):¬c=35:=(r8 h).2.2.2.1
theorem a8 {c:UInt8}(h:¬c=35)(l:Tx):(c::l).count 35=l.count 35:=by
 rw [List.count_cons];simp [h]
theorem TR.snd {on:Bool}{a b:Nat}{p:U}{σ:Nat->Nat}{Θ r:Tx}{x y:UInt8}(V:nm x=true)(G:nm y=true)(ex:x.toNat=σ a)(W:y.toNat=σ b)(h:WR on p σ Θ r):TR on (.snd a b p) σ Θ (x::33::y::46::r):=by
 refine⟨by simp,?_,λhm=>?_,λhm H hb=>?_,λhm H hb ρ J=>?_⟩
 ·have :=h.len;simp only [Mm,T.aJ];omega
 ·rw [eE]at hm;rw [a8 (jl V),a8 (by decide),a8 (jl G),a8 (by decide),h.cnt hm,pA]
 ·rw [eE]at hm;rw [iW]at hb;obtain⟨c,Z,h2⟩:=h.bad hm H hb;exact⟨c,by simp [Z],h2⟩
 ·rw [eE]at hm;rw [iW]at hb;have e1:ρ a=x:=MQ.1 ((J a (.inl rfl)).trans ex.symm);have e2:ρ b=y:=MQ.1 ((J b (.inr (.inl rfl))).trans W.symm);simp only [thU,kText,e1,e2];rw [h.eq hm H hb ρ (J.sub λy G=> .inr (.inr G))]
theorem TR.tau {on:Bool}{p:U}{σ:Nat->Nat}{Θ r:Tx}(h:WR on p σ Θ r):TR on (.tau p) σ Θ (126::46::r):=by
 refine⟨by simp,?_,λhm=>?_,λhm G hb=>?_,λhm G hb ρ H=>?_⟩
 ·have :=h.len;simp only [Mm,T.aJ];omega
 ·rw [eM]at hm;rw [a8 (by decide),a8 (by decide),h.cnt hm,p7]
 ·rw [eM]at hm;rw [iO]at hb;obtain⟨c,J,V⟩:=h.bad hm G hb;exact⟨c,by simp [J],V⟩
 ·rw [eM]at hm;rw [iO]at hb;simp only [thU,kText];rw [h.eq hm G hb ρ H]
theorem TR.rep {on:Bool}{p:U}{σ:Nat->Nat}{Θ r:Tx}(h:WR on p σ Θ r):TR on (.rep p) σ Θ (42::r):=by
 refine⟨by simp,?_,λhm=>?_,λhm G hb=>?_,λhm G hb ρ H=>?_⟩
 ·have :=h.len;simp only [Mm,T.aJ];omega
 ·rw [eK]at hm;rw [a8 (by decide),h.cnt hm,pt]
 ·rw [eK]at hm;rw [iC]at hb;obtain⟨c,J,V⟩:=h.bad hm G hb;exact⟨c,by simp [J],V⟩
 ·rw [eK]at hm;rw [iC]at hb;simp only [thU,kText];rw [h.eq hm G hb ρ H]
theorem TR.mat {on:Bool}{a b:Nat}{p:U}{σ:Nat->Nat}{Θ r:Tx}{x y:UInt8}(G:a≠b)(hd:p.dead=false)(hx:nm x=true)(Z:nm y=true)(ex:x.toNat=σ a)(ey:y.toNat=σ b)(h:WR on p σ Θ r):
  TR on (.mat a b p) σ Θ (91::(if y< x then y else x)::61::(if y< x then x else y)::93::r):=by
 have H:¬(if y< x then y else x)=35:=by split<;>exact jl (by assumption)
 have J:¬(if y< x then x else y)=35:=by split<;>exact jl (by assumption)
 refine⟨by simp,?_,λhm=>?_,λhm V hb=>?_,λhm V hb ρ W=>?_⟩
 ·have :=h.len;simp only [Mm,T.aJ];omega
 ·rw [cW]at hm;rw [a8 (by decide),a8 H,a8 (by decide),a8 J,a8 (by decide),h.cnt hm,iD]
 ·rw [cW]at hm;rw [eI]at hb;obtain⟨c,h1,h2⟩:=h.bad hm V hb;exact⟨c,by simp [h1],h2⟩
 ·rw [cW]at hm;rw [eI]at hb;have e1:ρ a=x:=MQ.1 ((W a (.inr ⟨G,hd,.inl rfl⟩)).trans ex.symm);have e2:ρ b=y:=MQ.1 ((W b (.inr ⟨G,hd,.inr (.inl rfl)⟩)).trans ey.symm);simp only [thU,kText,e1,e2];rw [h.eq hm V hb ρ (W.sub λy Z=> .inr ⟨G,hd,.inr (.inr Z)⟩)]
structure zA (k:Nat)(Θ:Tx)(c:UInt8):Prop where
 nin:c∉Θ
 okn:okn (k+1) c
 ngr:ngr c
 nm:nm c=true
 bad:(uj (cF Θ)).isNone=true->128<=c
 good:(uj (cF Θ)).isNone=false->c=ic (cF Θ)
theorem Fa {c:UInt8}(h:lt c=true):nm c=true/\ngr c/\∀k,okn k c:=by
 refine⟨?_,?_,λk=>mW h⟩
 ·simp only [lt,nm]at*;rw [h];rfl
 ·simp only [lt,Mp,Mz]at h;have J:=ML.1 h.1;have V:=ML.1 h.2;have H:(97:UInt8).toNat=97:=rfl;have G:(122:UInt8).toNat=122:=rfl;right;omega
theorem zA.of {k:Nat}{Θ:Tx}{c:UInt8}(hk:k+1<=64)(Z:∀c∈Θ,Proofs.YtdecokaadekjnaaGreat.okn k c/\Proofs.YtdecokaadekjnaaGreat.ngr c)(h:si Θ c):zA k Θ c:=by
 rcases h with h | ⟨h,W,h2,h3,h4⟩
 ·obtain⟨k1,k2,k3⟩:=yF h;obtain⟨f1,f2,f3⟩:=Fa k2;have V:uj (cF Θ)=some c:=h;exact⟨by simpa [cF]using k1,f3 _,f2,f1,λH=>(by rw [V]at H;cases H),λ _=>(by simp [ic,V])⟩
 ·have V:uj (cF Θ)=none:=h;have b1:=ML.1 W;have b2:=ML.1 h2;have α:(128:UInt8).toNat=128:=rfl;have β:(191:UInt8).toNat=191:=rfl;have hle:c.toNat<=128+k:=by
   refine NI λhc=>?_
   have e:(UInt8.ofNat (128+k)).toNat=128+k:=by rw [NB];omega
   have G:=h3 (UInt8.ofNat (128+k)) (ML.2 (by omega)) (Nf.2 (by omega));rcases(Z _ G).1 with h | h<;>omega
  have J:c∉Θ:=by
   rcases h4 with h4 | h4
   ·exact h4
   ·intro G;have:c.toNat=191:=by rw [h4];rfl
    rcases(Z _ G).1 with h | h<;>omega
  refine⟨J,.inl (by omega),.inr (by omega),?_,λ _=>W,λH=>by rw [V]at H;cases H⟩;simp only [Proofs.YtdecokaadekjnaaGreat.nm,NT,Mz];exact .inr W
theorem sI {Θ G:Tx}{c:UInt8}(h:∀x,x∈G↔x=c\/x∈Θ):cF G=cu (cF Θ) c:=by
 funext d
 unfold cF cu;rw [Nt];simp only [Mz,NT,OY,h];exact or_comm
theorem TR.rcv {on:Bool}{k a n:Nat}{p:U}{σ:Nat->Nat}{Θ G r:Tx}{x c:UInt8}(hx:nm x=true)(ex:x.toNat=σ a)(V:zA k Θ c)(W:∀x,x∈G↔x=c\/x∈Θ)(h:WR on p (aI σ n c.toNat) G r):
  TR on (.rcv a n p) σ Θ (x::63::c::46::r):=by
 refine⟨by simp,?_,λhm=>?_,λhm Z hb=>?_,λhm Z hb ρ H=>?_⟩
 ·have :=h.len;simp only [Mm,T.aJ];omega
 ·rw [eD]at hm;rw [a8 (jl hx),a8 (by decide),a8 (jl V.nm),a8 (by decide),h.cnt hm,pS]
 ·rw [eD]at hm;rw [iR,NT]at hb;cases hn:(uj (cF Θ)).isNone with
  | true=>exact⟨c,by simp,V.bad hn⟩
  | false=>
   rw [hn]at hb;have hb:=hb.resolve_left (by simp);rw [<-V.good hn,<-sI W]at hb;obtain⟨c,h1,h2⟩:=h.bad hm Z hb;exact⟨c,by simp [h1],h2⟩
 ·rw [eD]at hm;rw [iR,NR]at hb;have e1:ρ a=x:=MQ.1 ((H a (.inl rfl)).trans ex.symm);have e2:=V.good hb.1;have J:=hb.2;rw [<-e2,<-sI W]at J;simp only [thU,kText,e1,<-e2];rw [<-sI W,<-h.eq hm Z J (aI ρ n c) λy hy=>?_];unfold aI;by_cases e:y=n
  ·simp [e]
  ·simp only [MJ e];exact H y (.inr ⟨e,hy⟩)
theorem np (c:UInt8):∀l:List Tx,l≠[]->(joinS c l).length+3=db l
 | [],h=>absurd rfl h
 | [s],_=>by simp [joinS,db]
 | s::t::l,_=>by
  have :=np c (t::l) (by simp);rw [eA (by simp),dG];simp only [Mm,Mt,MB];omega
theorem kf {c:UInt8}(G:¬c=35):∀l:List Tx,(joinS c l).count 35=(l.map (List.count 35)).sum
 | []=>rfl
 | [s]=>by simp [joinS]
 | s::t::l=>by
  have :=kf G (t::l);rw [eA (by simp),a8 (by decide),Nh,a8 G,Nh,this];simp
theorem p8 {c d:UInt8}{s:Tx}:∀{l:List Tx},s∈l->d∈s->d∈joinS c l
 | [],h,_=>by cases h
 | [t],h,hd=>by
  have:s=t:=by simpa using h
  subst this;exact hd
 | t::u::l,h,hd=>by
  rw [eA (by simp)];rcases MH.1 h with rfl | h
  ·simp [hd]
  ·have :=p8 (c:=c) h hd;simp [this]
theorem zZ {c:UInt8}{l:List Tx}(h:∀s∈l,s≠[])(G:l≠[]):joinS c l≠[]:=by
 match l,G with
 | [s],_=>exact h s (by simp)
 | s::t::l,_=>rw [eA (by simp)];simp
theorem WR.env {on:Bool}{u:U}{σ τ:Nat->Nat}{Θ r:Tx}(h:WR on u σ Θ r)(he:∀y,u.Us y->σ y=τ y):WR on u τ Θ r:=
 ⟨h.ne,h.len,h.cnt,h.bad,λa b c ρ H=>h.eq a b c ρ λy G=>(H y G).trans (he y G).symm⟩
theorem aN.db {on:Bool}{σ:Nat->Nat}{Θ:Tx}:∀{rs:List Tx} {us:List U},aN (λr u=>WR on u σ Θ r) rs us->Proofs.YtdecokaadekjnaaGreat.db rs<=jm us
 | [],[],_=>by simp [Proofs.YtdecokaadekjnaaGreat.db,jm]
 | [],_::_,h=>by have :=h.1;simp at this
 | _::_,[],h=>by have :=h.1;simp at this
 | r::rs,u::us,h=>by
  have H:=(h.2 0 r u rfl rfl).len;have G:=aN.db (rs:=rs) (us:=us) (on:=on) (σ:=σ) (Θ:=Θ) ⟨by have :=h.1;simpa using this,λi a b ha hb=>h.2 (i+1) a b (by simpa using ha) (by simpa using hb)⟩;rw [dG];simp only [jm,MV,NF,Mm]at G|-;omega
theorem aN.map_eq {A B C:Type}{f:A->C}{g:B->C}:∀{l:List A} {m:List B},aN (λa b=>f a=g b) l m->l.map f=m.map g
 | [],[],_=>rfl
 | [],_::_,h=>by have :=h.1;simp at this
 | _::_,[],h=>by have :=h.1;simp at this
 | a::l,b::m,h=>by
  have G:=h.2 0 a b rfl rfl;have H:=aN.map_eq (l:=l) (m:=m) (f:=f) (g:=g) ⟨by have :=h.1;simpa using this,λi a b ha hb=>h.2 (i+1) a b (by simpa using ha) (by simpa using hb)⟩;rw [MV,MV,H,G]
theorem aN.get {A B:Type}{R:A->B->Prop}{l:List A}{m:List B}(h:aN R l m){b:B}(hb:b∈m):∃a∈l,R a b:=by
 obtain⟨i,hi,e⟩:=Np.1 hb;have G:i< l.length:=by rw [h.1];exact hi
 exact⟨l[i],Mx _,h.2 i l[i] b (Mo G) (by rw [Mo hi,e])⟩
theorem aN.get' {A B:Type}{R:A->B->Prop}{l:List A}{m:List B}(h:aN R l m){a:A}(ha:a∈l):∃b∈m,R a b:=by
 obtain⟨i,hi,e⟩:=Np.1 ha;have G:i< m.length:=by rw [<-h.1];exact hi
 exact⟨m[i],Mx _,h.2 i a m[i] (by rw [Mo hi,e]) (Mo G)⟩
theorem TR.sum {on:Bool}{p q:U}{σ:Nat->Nat}{Θ:Tx}{rs:List Tx}(hu:Uq (.sum p q))(Z:ak (T.sum p q)≠[])(h:aN (λr u=>WR on u σ Θ r) rs (ak (T.sum p q))):TR on (.sum p q) σ Θ (joinS 43 (aH rs)):=by
 have J:tl [T.sum p q]= .sum (tp (ak (T.sum p q))) .nil:=rfl;have α:rs≠[]:=λe=>Z (MS (by rw [<-h.1,e];rfl))
 have V:=aE rs;have W:aH rs≠[]:=λe=>α (by rw [e]at V;exact V.symm.eq_nil)
 have G:an (tl [T.sum p q])<=5->∀u∈ak (T.sum p q),a7 u<=5:=λhm=>by
  rw [J,an]at hm;exact(ya _ _).1 (by omega)
 refine⟨zZ (λs hs=>?_) W,?_,λhm=>?_,λhm ho hb=>?_,λhm ho hb ρ hc=>?_⟩
 ·obtain⟨u,_,hw⟩:=h.get' (V.subset hs);exact hw.ne
 ·have h1:=np 43 _ W;have h2:=lF V;have h3:=h.db;have h4:=dH (T.sum p q);omega
 ·rw [kf (by decide),iL (V.map _),J,thAll,G8];show _=_+0;rw [OQ]
  congr 1
  refine aN.map_eq (h.mono λr u _ hu hw=>hw.cnt (G hm u hu))
 ·rw [J,thBad,xa]at hb;simp only [thBad,OT,Ow]at hb;obtain⟨u,H,β⟩:=hb;obtain⟨r,hr,hw⟩:=h.get H;obtain⟨c,h1,h2⟩:=hw.bad (G hm u H) ho β;exact⟨c,p8 (V.symm.subset hr) h1,h2⟩
 ·rw [J,thBad,xa]at hb;simp only [thBad,OT]at hb;have hb:∀u∈ak (T.sum p q),de u (cF Θ)=false:=by simpa [List.any_eq_false]using hb
  have e:rs=(ak (T.sum p q)).map λu=>LS u ρ (cF Θ):=by
   have :=aN.map_eq (f:=λr:Tx=>r) (g:=λu=>LS u ρ (cF Θ)) (h.mono λr u _ H hw=>hw.eq (G hm u H) ho (hb u H) ρ (hc.sub λy hy=>(lI _ hu y).2 ⟨u,H,hy⟩));simpa using this
  rw [e];rfl
theorem WR.le {on:Bool}{u:U}{k:Nat}{p:P}{σ τ:Nat->Nat}{Θ r:Tx}(h:WR on u τ Θ r)(d:Den k p σ u):r.length<=p.text.length:=by
 have G:=h.len;have H:=nZ d.ae;rw [T.aV];omega
structure uX (w0 w:World)(bm:Nat)(br on:Bool)(c:UInt8)(o:Option Nat):Prop where
 kp:Kp w0 w (λg=>g=bm)
 mm:MK w bm br on
 bx:∀b,o=some b->b≠bm/\b< w.heap.size/\w.cell? ⟨b,0,none⟩=some (.int .u8 c.toNat)
theorem uX.step {w0 w w':World}{bm:Nat}{br G on:Bool}{c:UInt8}{o:Option Nat}(h:uX w0 w bm br on c o)(H:Kp w w' (λg=>g=bm))(hm:MK w' bm G on):uX w0 w' bm G on c o:=
 ⟨Kp.trans h.kp H λ _ _ h=>h,hm,λb hb=>by
  obtain⟨J,V,W⟩:=h.bx b hb;refine⟨J,MP V H.size,?_⟩;rw [Mn (w:=w) (H.block b V J)];exact W⟩
theorem uX.ex {w0 w w':World}{bm:Nat}{br on:Bool}{c:UInt8}{o:Option Nat}(h:uX w0 w bm br on c o)(G:Ex w w'):uX w0 w' bm br on c o:=
 h.step (Kp.ah G _) (h.mm.ex G)
theorem uX.box {w0 w w':World}{bm b:Nat}{br on:Bool}{c:UInt8}(h:uX w0 w bm br on c none)(hb:b=w.heap.size)(hw:w'=w.alloc (.cells #[.int .u8 c.toNat] 5)):uX w0 w' bm br on c (some b):=by
 have G:Ex w w':=hw▸Ex.alloc w _;have :=h.mm.lt;refine⟨(h.ex G).kp,(h.ex G).mm,λH e=>?_⟩;cases e;subst hb hw;exact⟨by omega,by rw [size_alloc];omega,aa rfl⟩
theorem uX.conv {w0 w:World}{bm b:Nat}{br on:Bool}{c:UInt8}(h:uX w0 w bm br on c (some b)):∀(j:Nat) (x:UInt8),[c][j]?=some x->w.cell? ⟨b,0+j,none⟩=some (.int .u8 x.toNat):=by
 intro j x G
 match j,G with
 | 0,G=>simp at G;subst G;exact(h.bx b rfl).2.2
theorem Own.kp {B:Nat}{w w':World}{v:Value}{l:List Tx}{S:Nat->Prop}(h:Own B w v l)(k:Kp w w' S)(H:∀g,v.ownBlock=some g->¬S g):Own B w' v l:=by
 refine⟨h.1,?_⟩;rcases h.2 with J | ⟨g,cap,cur,rfl,hb,G,rest⟩
 ·exact .inl J
 ·exact .inr ⟨g,cap,cur,rfl,hb,by rw [k.block g (Na.1 G).1 (H g rfl)];exact G,rest⟩
theorem MK.same {w w':World}{bm:Nat}{br on:Bool}(h:MK w bm br on)(G:w.heap.size<=w'.heap.size)(hb:w'.heap[bm]?=w.heap[bm]?):MK w' bm br on:=
 ⟨MP h.lt G,by rw [Mn (w:=w) hb];exact h.c0,by rw [Mn (w:=w) hb];exact h.c1,by rw [MU (w:=w) hb];exact h.f0⟩
theorem MK.below {w w':World}{bm B:Nat}{br on:Bool}(h:MK w bm br on)(k:Below B w w')(hb:bm< B):MK w' bm br on:=h.same k.size (k.block bm hb)
theorem Own.below {B C:Nat}{w w':World}{v:Value}{l:List Tx}(h:Own B w v l)(k:Below C w w')(G:∀g,v.ownBlock=some g->g< C):Own B w' v l:=by
 refine⟨h.1,?_⟩;rcases h.2 with H | ⟨g,cap,cur,rfl,hb,J,rest⟩
 ·exact .inl H
 ·exact .inr ⟨g,cap,cur,rfl,hb,by rw [k.block g (G g rfl)];exact J,rest⟩
theorem Kp.K2 {w w':World}{B:Nat}(h:Below B w w')(hB:w.heap.size<=B)(S:Nat->Prop):Kp w w' S:=⟨h.os,h.tape,h.output,h.size,λg G _=>h.block g (by omega)⟩
theorem Kp.EN {w w1 w':World}{B:Nat}{S:Nat->Prop}(h:Kp w w1 S)(k:Below B w1 w')(hB:w.heap.size<=B):Kp w w' S:=
 ⟨k.os.trans h.os,k.tape.trans h.tape,k.output.trans h.output,Nv h.size k.size,λg G H=>(k.block g (by omega)).trans (h.block g G H)⟩
theorem aN.snoc {A B:Type}{R:A->B->Prop}{l:List A}{m:List B}{a:A}{b:B}(h:aN R l m)(k:R a b):aN R (l++[a]) (m++[b]):=h.append (aN.one k)
theorem FZ {n:Nat}(γ:Ev n):wD (n+1):=by
 intro k p σ t Θ w bm br on R hn d hth hpl hlv δ G Z h;refine jX _ _ _ w R ?_;dsimp only [go_sem];dsimp only [go_sem,UInt8.reduceOfNat,UInt32.reduceOfNat,Nat.reduceAdd];refine aP d.ok ?_;have hw:=d.wf;have hl:=d.len;have β:=d.ae;cases p<;>cases t<;>(try exact β.elim)<;>(try (cases hth;done))
 case snd.snd a b p a' b' u=>
  simp only [T.kind]
  repeat' first | refine aT (by decide) ?_ | refine cN (by decide) ?_ | refine ck (by decide) ?_ | refine dE (by decide) ?_
  simp only [T.wf,Mp]at hw;simp only [T.size]at hn;simp only [T.text,Mm]at hl;have κ:(T.snd a b p).text.length=p.text.length+4:=by simp [T.text]
  refine⟨λ _=>True,λw1 α=>⟨trivial,cJ d.ok ⟨trivial,⟨by simp only [T.hd];omega,by simp only [T.hd];omega⟩,cJ d.ok ⟨trivial,⟨by simp only [T.hd];omega,by simp only [T.hd];omega⟩,?_⟩⟩⟩⟩;have e1:List.drop (Int.toNat ((T.snd a b p).hd:Int)) (T.snd a b p).text=p.text:=rfl;have e2:List.take (Int.toNat ((T.snd a b p).hd:Int)) (T.snd a b p).text=[a,33,b,46]:=rfl;rw [e1,e2];have hx:Ex w w1:=α▸Ex.drew w;refine γ (by omega) d.snd (λz hz=>δ z (.inr (.inr hz))) (G.sub (Mu _) λy hy=> .inr (.inr hy)) (Z.ex hx) λr w2 V W hr=>?_
  have μ:=hr.le d.snd;refine⟨trivial,by simp only [Mm,MB];omega,h _ w2 (Kp.trans (Kp.ah hx _) V λ _ _ h=>h) (by rw [eE];exact W) (TR.snd hw.1.1 hw.1.2 β.1 β.2.1 hr)⟩
 case tau.tau p u=>
  simp only [T.kind]
  repeat' first | refine aT (by decide) ?_ | refine cN (by decide) ?_ | refine ck (by decide) ?_ | refine dE (by decide) ?_
  simp only [T.size]at hn;simp only [T.text,Mm]at hl;have κ:(T.tau p).text.length=p.text.length+2:=by simp [T.text]
  refine⟨λ _=>True,λw1 α=>⟨trivial,cJ d.ok ⟨trivial,⟨by simp only [T.hd];omega,by simp only [T.hd];omega⟩,cJ d.ok ⟨trivial,⟨by simp only [T.hd];omega,by simp only [T.hd];omega⟩,?_⟩⟩⟩⟩;have e1:List.drop (Int.toNat ((T.tau p).hd:Int)) (T.tau p).text=p.text:=rfl;have e2:List.take (Int.toNat ((T.tau p).hd:Int)) (T.tau p).text=[126,46]:=rfl;rw [e1,e2];have hx:Ex w w1:=α▸Ex.drew w;refine γ (by omega) d.tau (λz hz=>δ z hz) (G.sub (Mu _) λy hy=>hy) (Z.ex hx) λr w2 V W hr=>?_
  have μ:=hr.le d.tau;refine⟨trivial,by simp only [Mm,MB];omega,h _ w2 (Kp.trans (Kp.ah hx _) V λ _ _ h=>h) (by rw [eM];exact W) (TR.tau hr)⟩
 case rep.rep p u=>
  simp only [T.kind]
  repeat' first | refine aT (by decide) ?_ | refine cN (by decide) ?_ | refine ck (by decide) ?_ | refine dE (by decide) ?_
  simp only [T.size]at hn;simp only [T.text,Mm]at hl;have κ:(T.rep p).text.length=p.text.length+1:=by simp [T.text]
  refine⟨⟨by omega,by omega⟩,?_⟩;have e1:List.drop (Int.toNat 1) (T.rep p).text=p.text:=rfl;rw [e1];refine γ (by omega) d.rep (λz hz=>δ z hz) (G.sub (Mu _) λy hy=>hy) Z λr w2 V W hr=>?_
  have μ:=hr.le d.rep;refine⟨by simp only [Mm,MB];omega,h _ w2 V (by rw [eK];exact W) (TR.rep hr)⟩
 case mat.mat a b p a' b' u=>
  simp only [T.kind]
  repeat' first | refine aT (by decide) ?_ | refine cN (by decide) ?_ | refine ck (by decide) ?_ | refine dE (by decide) ?_
  simp only [T.wf,Mp]at hw;simp only [T.size]at hn;simp only [T.text,Mm]at hl;have κ:(T.mat a b p).text.length=p.text.length+5:=by simp [T.text]
  have hab:a'≠b':=hpl;have hud:u.dead=false:=hlv;have hpd:p.dead=false:=by rw [β.2.2.dead];exact hud
  have e1:List.drop (Int.toNat 5) (T.mat a b p).text=p.text:=rfl;have e2:List.drop (Int.toNat 3) (List.take (Int.toNat 4) (T.mat a b p).text)=[b]:=rfl;have e3:List.drop (Int.toNat 1) (List.take (Int.toNat 2) (T.mat a b p).text)=[a]:=rfl;have eb:Op.bytesLess [b] [a]=decide (b< a):=by
   rw [PL,Nt,Mz,Mz,List.cons_lt_cons_iff];simp
  rw [e1,e2,e3,eb];refine⟨λ _=>True,λw1 α=>⟨trivial,⟨by omega,by omega,by omega⟩,⟨by omega,by omega,by omega⟩,?_⟩⟩;have hx:Ex w w1:=α▸Ex.drew w;have sub:∀y,u.Us y->(T.mat a' b' u).Us y:=λy hy=> .inr ⟨hab,hud,.inr (.inr hy)⟩
  have dm:=d.mat hpd;have key:∀{K:aF->PV},(∀r w2,r.length<=1099511627776->Kp w w2 (λg=>g=bm)->MK w2 bm (br||decide (5< an (tl [T.mat a' b' u]))) on->TR on (.mat a' b' u) σ Θ (91::(if b< a then b else a)::61::(if b< a then a else b)::93::r)->K r w2)->
    PW 224 #[.pointer (some ⟨bm,0,none⟩),.string (ax p.text),.string (ax Θ)] w1 (aw [.s] K):=λhk=>by
   refine γ (by omega) dm (λz hz=>δ z (.inr (.inr hz))) (G.sub (Mu _) sub) (Z.ex hx) λr w2 V W hr=>?_
   have μ:=hr.le dm;exact hk r w2 (by omega) (Kp.trans (Kp.ah hx _) V λ _ _ h=>h) (by rw [cW];exact W) (TR.mat hab hud hw.1.1 hw.1.2 β.1 β.2.1 hr)
  refine⟨λH=>?_,λH=>?_⟩
  ·have H:=MN H;refine⟨by simp,by simp,by simp,by simp,⟨by omega,by omega⟩,key λr w2 J h2 h3 h4=>⟨by simp only [Mt,Mm,MB];omega,?_⟩⟩;simp only [MZ H]at h4;exact h _ w2 h2 h3 h4
  ·have H:=MO H;refine⟨by simp,by simp,by simp,by simp,⟨by omega,by omega⟩,key λr w2 J h2 h3 h4=>⟨by simp only [Mt,Mm,MB];omega,?_⟩⟩;simp only [MJ H]at h4;exact h _ w2 h2 h3 h4
 case sum.sum p q u v=>
  simp only [T.kind]
  repeat' first | refine aT (by decide) ?_ | refine cN (by decide) ?_ | refine ck (by decide) ?_ | refine dE (by decide) ?_
  have hpu:u.dead=false/\v.dead=false:=hpl;have ν:ak (T.sum u v)≠[]:=od (by simp [T.dead,hpu.1]) d.uq;refine yp _ (Mu _) d λvs w2 ps ξ ζ hps hgs=>?_
  have hsz:(ak (T.sum u v)).length<=(T.sum p q).size:=by rw [d.ae.size];exact df _
  have hszt:=bj (T.sum p q);have hl':(T.sum p q).text.length<=1099511627776:=hl;have φ:(ps.map T.text).length=(ak (T.sum u v)).length:=by rw [MM,hps.1]
  have hbm:bm< w2.heap.size:=MP Z.lt ξ.size;have hvb:∀g,vs.ownBlock=some g->g< w2.heap.size:=λg hg=>(ζ.block g hg).2
  have hvn:∀g,vs.ownBlock=some g->¬g=bm:=λg hg e=>by
   have :=(ζ.block g hg).1;have :=Z.lt;omega
  obtain⟨av,cap,hv⟩:=ζ.strs.slice;have hlen:=ζ.1;refine⟨av,_,cap,hv,λlist x w'=>∃(i:Nat) (rs:List Tx),x=i/\i<=(ak (T.sum u v)).length/\Kp w w' (λg=>g=bm)/\MK w' bm (br||((ak (T.sum u v)).take i).any λu=>decide (5< a7 u)) on/\
   w2.heap.size<=w'.heap.size/\Own w2.heap.size w' list rs/\Own w.heap.size w' vs (ps.map T.text)/\aN (λr u=>WR on u σ Θ r) rs ((ak (T.sum u v)).take i),λ _ x _=>((ak (T.sum u v)).length - x).toNat,?_,λlist x w3 hI=>?_⟩
  ·exact⟨0,[],rfl,by omega,Kp.ah ξ _,by simpa using Z.ex ξ,Mu _,Own.nil _ _,ζ,aN.nil⟩
  obtain⟨i,rs,rfl,hi,hk3,hm3,hs3,ho3,hv3,ε⟩:=hI;refine⟨λH=>?_,λH=>?_⟩
  ·have H:=MN H;rw [φ]at H;have ο:i< (ak (T.sum u v)).length:=by omega
   have hip:i< ps.length:=by rw [hps.1];exact ο
   refine hv3.strs.get (Ex.refl w3) (i:=i) (x:=(ps[i]).text) (by omega) (by simp [hip]) ?_;obtain⟨m,τ,hkm,dp,hτ⟩:=hps.2 i _ _ (Mo hip) (Mo ο);have χ:(ak (T.sum u v))[i]∈ak (T.sum u v):=Mx _;have hus:∀y,((ak (T.sum u v))[i]).Us y->(T.sum u v).Us y:=λy hy=>(lI _ d.uq y).2 ⟨_,χ,hy⟩
   have ψ:∀y,((ak (T.sum u v))[i]).Us y->τ y=σ y:=λy hy=>hτ y (d.uq.Cr (hus y hy))
   have hszi:ps[i].size<=n:=by
    rw [dp.ae.size];have J:((ak (T.sum u v))[i]).size<=u.size+v.size:=by
     have hmem':(ak (T.sum u v))[i]∈ak u++ak v:=χ;rcases My.1 hmem' with h | h
     ·have :=lx u _ h;omega
     ·have :=lx v _ h;omega
    have h2:(T.sum p q).size=(T.sum u v).size:=d.ae.size;simp only [T.size]at hn h2;omega
   have hgfp:GF 0 ps[i]:=hgs _ (Mx _) 0 δ;refine γ hszi dp hgfp ⟨G.srt,λc H=>⟨(G.okn c H).1.mono hkm,(G.okn c H).2⟩,λy hy=>by rw [ψ y hy];exact G.cov y (hus y hy)⟩ hm3 λr w4 ς hm4 hr=>?_
   intro b5 w5 hb5 hw5;have η:Ex w4 w5:=hw5▸Ex.alloc w4 _;have ho4:Own w2.heap.size w5 list rs:=(ho3.kp ς λg hg e=>by have :=(ho3.block g hg).1;omega).ex η;have hsz4:=ς.size;have hsz5:=η.size;have ω:rs.length=i:=by rw [ε.1,M5];omega
   refine Own.push ho4 (by omega) (Strs.one hb5 hw5) (by simp only [Mm,MB];omega) λv6 w6 υ ho6 _ _=>?_
   refine⟨by omega,⟨i+1,rs++[r],by omega,by omega,?_,?_,?_,ho6,?_,?_⟩,by dsimp only;omega⟩
   ·exact Kp.EN (Kp.trans (Kp.trans hk3 ς λ _ _ h=>h) (Kp.ah η _) λ _ _ h=>h) υ ξ.size
   ·have hm5:=(hm4.ex η).below υ hbm;rw [Mq ο,List.any_append,<-NZ];simpa using hm5
   ·have :=υ.size;omega
   ·exact((hv3.kp ς hvn).ex η).below υ hvb
   ·rw [Mq ο];exact ε.snoc (hr.env ψ)
  ·have H:=MO H;rw [φ]at H;have e:i=(ak (T.sum u v)).length:=by omega
   subst e;rw [MR]at hm3 ε;have hll:=ε.db;have ht2:=dH (T.sum u v);have htl:=nZ d.ae;have hle:db rs<=1099511627776+3:=by rw [T.aV]at hl';omega
   have ω:rs.length=(ak (T.sum u v)).length:=ε.1;have hrs:rs≠[]:=λe=>ν (MS (by rw [<-ω,e];rfl))
   refine jF ho3.strs (by omega) λv4 w4 hx4 ho4=>?_
   have hsn:aH rs≠[]:=λe=>hrs (by have :=aE rs;rw [e]at this;exact this.symm.eq_nil)
   refine sd ho4.strs hsn (by rw [lF (aE rs)];omega) ?_;refine h _ w4 (Kp.trans hk3 (Kp.ah hx4 _) λ _ _ h=>h) ?_ (TR.sum d.uq ν ε);have e2:(ak (T.sum u v)).any (λu=>decide (5< a7 u))=decide (5< an (tl [T.sum u v])):=by
    rw [Nt,Ow,Mz];have etl:tl [T.sum u v]= .sum (tp (ak (T.sum u v))) .nil:=rfl;have hmx:an (.sum (tp (ak (T.sum u v))) .nil)=an (tp (ak (T.sum u v))):=by simp [an]
    rw [etl,hmx,<-Nat.not_le,ya];constructor
    ·rintro⟨x,J,h2⟩ h3
     have :=h3 x J;have :=MN h2;omega
    ·intro J;refine NI λh2=>J λx hx=>?_
     rcases N2 5 (a7 x)with h3 | h3
     ·exact absurd ⟨x,hx,N5 h3⟩ h2
     ·exact h3
   rw [<-e2];exact hm3.ex hx4
 case rcv.rcv a x p a' x' u=>
  simp only [T.kind]
  repeat' first | refine aT (by decide) ?_ | refine cN (by decide) ?_ | refine ck (by decide) ?_ | refine dE (by decide) ?_
  simp only [T.wf,Mp]at hw;simp only [T.size]at hn;simp only [T.text,Mm]at hl;have κ:(T.rcv a x p).text.length=p.text.length+4:=by simp [T.text]
  have hΘ:=G.srt.bound;refine iK (by omega) λc hc0=>?_
  have hbd:=d.bd.le;simp only [T.rd,T.ow]at hbd;have H:zA k Θ c:=zA.of (by omega) G.okn hc0;have okp:=d.ok.parts p (by simp [T.parts]);have hbdp:=T.zw p;have e1:List.drop (Int.toNat 4) (T.rcv a x p).text=p.text:=rfl;have e2:bt (T.rcv a x p).text (Int.toNat 2)=x:=rfl;have e3:List.take (Int.toNat 2) (T.rcv a x p).text=[a,63]:=rfl;rw [e1,e2,e3];refine⟨λ _=>True,λw1 α=>⟨trivial,⟨by omega,by omega⟩,⟨by omega,by omega⟩,⟨by omega,by omega⟩,?_⟩⟩;have hst:uX w w1 bm br on c none:=⟨Kp.ah (α▸Ex.drew w) _,Z.ex (α▸Ex.drew w),λb hb=>by cases hb⟩
  have renL:∀{o:Option Nat} {wx:World} {K:aF->PV},uX w wx bm br on c o->(∀q wy,uX w wy bm br on c o->gY (k+1) p x c q->K q.text wy)->PW 153 #[.string (ax p.text),.int .u8 x.toNat,.int .u8 c.toNat] wx (aw [.s] K):=λhs hK=>
   gC _ (Mu _) okp d.bd.eb.2.2 (by omega) H.nm H.okn λq wy hx hq=>hK q wy (hs.ex hx) hq
  have addL:∀{o:Option Nat} {wx:World} {K:aF->PV},uX w wx bm br on c o->(∀s wy,uX w wy bm br on c o->(jE s/\∀x,x∈s↔x=c\/x∈Θ)->K s wy)->PW 121 #[.string (ax Θ),.int .u8 c.toNat] wx (aw [.s] K):=λhs hK=>
   eU G.srt λs' wy hx J h2=>hK s' wy (hs.ex hx) ⟨J,h2⟩
  have whoL:∀{o:Option Nat} {wx:World} {K:aF->PV} {q:P} {s:Tx},uX w wx bm br on c o->gY (k+1) p x c q->(jE s/\∀x,x∈s↔x=c\/x∈Θ)->
    (∀r wy,uX w wy bm (br||decide (5< an (tl [T.rcv a' x' u]))) on c o->(TR on (.rcv a' x' u) σ Θ (a::63::c::46::r)/\r.length<=1099511627776)->K r wy)->PW 224 #[.pointer (some ⟨bm,0,none⟩),.string (ax q.text),.string (ax s)] wx (aw [.s] K):=λ{o wx K q s} hs hq θ hK=>by
   have dr:=d.rcv hq λz hz ν e=>by
    obtain⟨c',J,h2⟩:=G.cov z (.inr ⟨ν,hz⟩);have:c'=c:=MQ.1 (h2.trans e);exact H.nin (this▸J)
   have hsz:=T.oz hq.shp;refine γ (by omega) dr (λz hz hg=>?_) ⟨θ.1,λc' hc'=>?_,λy hy=>?_⟩ hs.mm λr wy V W hr=>?_
   ·rcases hq.ok.free z hz with J | J | J
    ·exact absurd hg (dZ (J▸H.ngr))
    ·exact δ z (.inr ⟨J.1,J.2⟩) hg
    ·exact absurd hg (dZ (J.1▸d.bd.eb.2.1.1))
   ·rcases(θ.2 c').1 hc' with J | J
    ·rw [J];exact⟨H.okn,H.ngr⟩
    ·exact⟨(G.okn c' J).1.mono (by omega),(G.okn c' J).2⟩
   ·by_cases e:y=x'
    ·subst e;exact⟨c,(θ.2 c).2 (.inl rfl),by rw [cR]⟩
    ·obtain⟨c',J,h2⟩:=G.cov y (.inr ⟨e,hy⟩);exact⟨c',(θ.2 c').2 (.inr J),by rw [bH _ _ e];exact h2⟩
   ·have μ:=hr.le dr;have hlq:q.text.length=p.text.length:=by rw [T.aV,T.iJ hq.shp,<-T.aV]
    refine hK r wy (hs.step V (by rw [eD];exact W)) ⟨TR.rcv hw.1.1 β.1 H θ.2 hr,by omega⟩
  have fin:∀{o:Option Nat} {wx:World} {r:Tx},uX w wx bm (br||decide (5< an (tl [T.rcv a' x' u]))) on c o->(TR on (.rcv a' x' u) σ Θ (a::63::c::46::r)/\r.length<=1099511627776)->R (((([a,63]++[c])++[46])++r)) wx:=λhs hr=>h _ _ hs.kp hs.mm hr.1
  have bnd:∀{r:Tx},(TR on (.rcv a' x' u) σ Θ (a::63::c::46::r)/\r.length<=1099511627776)->List.length (([a,63]++[c])++[46])+List.length r<=4611686018427387904:=λhr=>by
   have :=hr.2;simp only [Mt,Mm,MB];omega
  repeat' first
   | (refine renL (by assumption) ?_;intro q wy ι hq;refine⟨trivial,?_⟩)
   | (refine addL (by assumption) ?_;intro s wy ι hs;refine⟨trivial,?_⟩)
   | (refine whoL (by assumption) (by assumption) (by assumption) ?_;intro r wy ι hr;refine⟨trivial,?_⟩)
   | exact fin (by assumption) (by assumption)
   | exact bnd (by assumption)
   | (refine⟨_,0,1,1,[c],rfl,rfl,uX.conv (by assumption),trivial,by simp,by simp,?_⟩)
   | (refine⟨?_,?_⟩)
   | (intro b w2 hb hw2;have ι:=uX.box (by assumption) hb hw2;refine⟨trivial,?_⟩)
end Go.Proofs.YtdecokaadekjnaaGreat
namespace Go.Proofs.YtdecokaadekjnaaGreat
open Go
attribute [go_sem] Tryz.f207
theorem mC (G:Value)(w:World)(R:UInt8->PV)(h:vc ay (a6 [] [] [(1,true,.lt 0 (.lt 1 (.lt 2 (.lt 3 (.lt 4 (.lt 5 (.lt 6 (.lt 7 (.lt 8 (.lt 9 .done)))))))))),(5,true,.lt 0 (.lt 1 (.lt 2 (.lt 3 (.lt 4 (.lt 5 (.lt 6 (.lt 7 (.lt 8 (.lt 9 (.lt 10 .done)))))))))))]) (ab Tryz.f207) (ai 0 [.v G]) w (fin ay [.tmp 2 .c] R)):
  PW 207 #[G] w (aw [.c] R):=
 bc Tryz.func207 (by kernel_rfl) h
attribute [go_sem] Tryz.f128
theorem pL (c1:UInt8)(w:World)(R:Bool->PV)(h:vc ay (a6 [] [] []) (ab Tryz.f128) (ai 0 [.c c1]) w (fin ay [.tmp 2 .b] R)):
  PW 128 #[(.int .u8 c1.toNat)] w (aw [.b] R):=
 bc Tryz.func128 (by kernel_rfl) h
attribute [go_sem] Tryz.f208
theorem lY (G:Value)(w:World)(R:UInt8->PV)(h:vc ay (a6 [] [] []) (ab Tryz.f208) (ai 0 [.v G]) w (fin ay [.tmp 2 .c] R)):
  PW 208 #[G] w (aw [.c] R):=
 bc Tryz.func208 (by kernel_rfl) h
attribute [go_sem] Tryz.f209
theorem mB (G:Value)(c2:UInt8)(w:World)(R:PV)(h:vc ay (a6 [] [] []) (ab Tryz.f209) (ai 0 [.v G,.c c2]) w (fin ay [] R)):
  PW 209 #[G,(.int .u8 c2.toNat)] w (aw [] R):=
 bc Tryz.func209 (by kernel_rfl) h
attribute [go_sem] Tryz.f166
theorem mA (G:Value)(w:World)(R:Value->PV)(h:vc ay (a6 [] [] []) (ab Tryz.f166) (ai 0 [.v G]) w (fin ay [.tmp 2 .v] R)):
  PW 166 #[G] w (aw [.v] R):=
 bc Tryz.func166 (by kernel_rfl) h
attribute [go_sem] Tryz.f123
theorem ux (s1:aF)(w:World)(R:Value->Bool->PV)(h:vc ay (a6 [] [] [(3,true,.lt 0 (.lt 1 (.lt 2 (.lt 3 (.lt 4 (.lt 5 (.lt 6 (.lt 7 (.lt 8 (.lt 9 (.lt 10 (.lt 11 (.lt 12 (.lt 13 (.lt 14 (.lt 15 (.lt 16 .done)))))))))))))))))]) (ab Tryz.f123) (ai 0 [.s s1]) w (fin ay [.tmp 2 .v,.tmp 3 .b] R)):
  PW 123 #[(.string (ax s1))] w (aw [.v,.b] R):=
 bc Tryz.func123 (by kernel_rfl) h
attribute [go_sem] Tryz.f124
theorem nQ (t1:Value)(w:World)(R:Int->PV)(h:vc ay (a6 [(3,[(3,.i),(11,.i)])] [] []) (ab Tryz.f124) (ai 0 [.v t1]) w (fin ay [.tmp 2 .i] R)):
  PW 124 #[t1] w (aw [.i] R):=
 bc Tryz.func124 (by kernel_rfl) h
attribute [go_sem] Tryz.f79
theorem xP (G:aF)(w:World)(R:Value->Bool->PV)(h:vc ay (a6 [] [] []) (ab Tryz.f79) (ai 0 [.s G]) w (fin ay [.tmp 2 .v,.tmp 3 .b] R)):
  PW 79 #[(.string (ax G))] w (aw [.v,.b] R):=
 bc Tryz.func79 (by kernel_rfl) h
attribute [go_sem] Tryz.f238
theorem oH (G:aF)(w:World)(R:Bool->PV)(h:vc ay (a6 [] [] []) (ab Tryz.f238) (ai 0 [.s G]) w (fin ay [.tmp 2 .b] R)):
  PW 238 #[(.string (ax G))] w (aw [.b] R):=
 bc Tryz.func238 (by kernel_rfl) h
attribute [go_sem] Tryz.f129
theorem mQ (t1:Value)(w:World)(R:Bool->PV)(h:vc ay (a6 [] [] []) (ab Tryz.f129) (ai 0 [.v t1]) w (fin ay [.tmp 2 .b] R)):
  PW 129 #[t1] w (aw [.b] R):=
 bc Tryz.func129 (by kernel_rfl) h
attribute [go_sem] Tryz.f168
attribute [go_sem] Tryz.f170
theorem nz (G:Value)(c2:Value)(c3:Value)(w:World)(R:PV)(h:vc ay (a6 [] [] []) (ab Tryz.f170) (ai 0 [.v G,.v c2,.v c3]) w (fin ay [] R)):
  PW 170 #[G,c2,c3] w (aw [] R):=
 bc Tryz.func170 (by kernel_rfl) h
attribute [go_sem] Tryz.f169
theorem nR (t1:Value)(d2:Value)(w:World)(R:PV)(h:vc ay (a6 [(2,[(14,.i)])] [] []) (ab Tryz.f169) (ai 0 [.v t1,.v d2]) w (fin ay [] R)):
  PW 169 #[t1,d2] w (aw [] R):=
 bc Tryz.func169 (by kernel_rfl) h
attribute [go_sem] Tryz.f126
theorem pJ (t1:Value)(G:Value)(w:World)(R:Bool->PV)(h:vc ay (a6 [] [] []) (ab Tryz.f126) (ai 0 [.v t1,.v G]) w (fin ay [.tmp 4 .b] R)):
  PW 126 #[t1,G] w (aw [.b] R):=
 bc Tryz.func126 (by kernel_rfl) h
attribute [go_sem] Tryz.f167
theorem jq (G:Value)(w:World)(R:Bool->PV)(h:vc ay (a6 [] [] []) (ab Tryz.f167) (ai 0 [.v G]) w (fin ay [.tmp 2 .b] R)):
  PW 167 #[G] w (aw [.b] R):=
 bc Tryz.func167 (by kernel_rfl) h
attribute [go_sem] Tryz.f125
theorem kz (t1:Value)(w:World)(R:Bool->PV)(h:vc ay (a6 [] [] []) (ab Tryz.f125) (ai 0 [.v t1]) w (fin ay [.tmp 2 .b] R)):
  PW 125 #[t1] w (aw [.b] R):=
 bc Tryz.func125 (by kernel_rfl) h
attribute [go_sem] Tryz.f127
theorem jV (G:Value)(w:World)(R:Bool->PV)(h:vc ay (a6 [] [] []) (ab Tryz.f127) (ai 0 [.v G]) w (fin ay [.tmp 2 .b] R)):
  PW 127 #[G] w (aw [.b] R):=
 bc Tryz.func127 (by kernel_rfl) h
attribute [go_sem] Tryz.f80
theorem mh (t1:Value)(w:World)(R:Bool->PV)(h:vc ay (a6 [] [] []) (ab Tryz.f80) (ai 0 [.v t1]) w (fin ay [.tmp 2 .b] R)):
  PW 80 #[t1] w (aw [.b] R):=
 bc Tryz.func80 (by kernel_rfl) h
attribute [go_sem] Tryz.f67
end Go.Proofs.YtdecokaadekjnaaGreat
namespace Go.Proofs.YtdecokaadekjnaaGreat
open Go Go.RowKit
abbrev ptr (b:Nat):Value:= .pointer (some ⟨b,0,none⟩)
def dV (D:Nat->Prop)(w:World)(v:Value)(l:List Value):Prop:=
 (v= .slice none 0 0/\l=[])\/∃b off cap,v= .slice (some ⟨b,off,none⟩) l.length cap/\D b/\b< w.heap.size/\∀i x,l[i]?=some x->w.cell? ⟨b,off+i,none⟩=some x
theorem dV.kp {D S:Nat->Prop}{w w':World}{v:Value}{l:List Value}(h:dV D w v l)(k:Kp w w' S)(J:∀g,D g->¬S g):dV D w' v l:=by
 rcases h with h | ⟨b,off,cap,V,G,H,h4⟩
 ·exact .inl h
 ·refine .inr ⟨b,off,cap,V,G,MP H k.size,λi x W=>?_⟩;rw [Mn (w:=w) (k.block b H (J b G))];exact h4 i x W
theorem dV.mono {D E:Nat->Prop}{w:World}{v:Value}{l:List Value}(h:dV D w v l)(hd:∀g,D g->E g):dV E w v l:=by
 rcases h with h | ⟨b,off,cap,G,H,J,h4⟩
 ·exact .inl h
 ·exact .inr ⟨b,off,cap,G,hd b H,J,h4⟩
theorem dV.slice {D:Nat->Prop}{w:World}{v:Value}{l:List Value}(h:dV D w v l):∃a cap,v= .slice a l.length cap:=by
 rcases h with⟨h,rfl⟩ | ⟨b,off,cap,G,_⟩
 ·exact⟨_,_,h⟩
 ·exact⟨_,_,G⟩
theorem dV.get {D:Nat->Prop}{w:World}{v:Value}{l:List Value}(h:dV D w v l){i:Int}{x:Value}(H:0<=i)(G:l[i.toNat]?=some x){Q:Value->Prop}(J:Q x):
  ∃(b o len cap:Nat),v=Value.slice (some ⟨b,o,none⟩) len cap/\0<=i/\i< (len:Int)/\∃s:Value,World.cell? w ⟨b,o+Int.toNat i* 1,none⟩=some s/\Q s:=by
 obtain⟨hi,e⟩:=No.1 G;rcases h with⟨h,rfl⟩ | ⟨b,off,cap,V,W,Z,h4⟩
 ·simp at hi
 ·exact⟨b,off,l.length,cap,V,H,by omega,x,by rw [MW];exact h4 _ _ G,J⟩
def eQ (D:Nat->Prop)(w:World)(v:Value)(k a c:UInt8)(K:List Value->Prop):Prop:=
 ∃b vs l,v=ptr b/\D b/\b< w.heap.size/\w.cell? ⟨b,0,none⟩=some (.int .u8 k.toNat)/\w.cell? ⟨b,1,none⟩=some (.int .u8 a.toNat)/\w.cell? ⟨b,2,none⟩=some (.int .u8 c.toNat)/\
  w.cell? ⟨b,3,none⟩=some vs/\dV D w vs l/\K l
def aK (D:Nat->Prop)(w:World):P->Value->Prop
 | .nil,v=>eQ D w v 48 0 0 λl=>l=[]
 | .snd a b p,v=>eQ D w v 33 a b λl=>∃x,l=[x]/\aK D w p x
 | .rcv a b p,v=>eQ D w v 63 a b λl=>∃x,l=[x]/\aK D w p x
 | .tau p,v=>eQ D w v 126 0 0 λl=>∃x,l=[x]/\aK D w p x
 | .sum p q,v=>eQ D w v 43 0 0 λl=>∃x y,l=[x,y]/\aK D w p x/\aK D w q y
 | .par p q,v=>eQ D w v 38 0 0 λl=>∃x y,l=[x,y]/\aK D w p x/\aK D w q y
 | .res b p,v=>eQ D w v 35 0 b λl=>∃x,l=[x]/\aK D w p x
 | .mat a b p,v=>eQ D w v 61 a b λl=>∃x,l=[x]/\aK D w p x
 | .rep p,v=>eQ D w v 42 0 0 λl=>∃x,l=[x]/\aK D w p x
def T.ca:P->UInt8
 | .snd a _ _=>a | .rcv a _ _=>a | .mat a _ _=>a | _=>0
def T.cb:P->UInt8
 | .snd _ b _=>b | .rcv _ b _=>b | .mat _ b _=>b | .res b _=>b | _=>0
theorem eQ.kp {D S:Nat->Prop}{w w':World}{v:Value}{k a c:UInt8}{K G:List Value->Prop}(h:eQ D w v k a c K)(kp:Kp w w' S)(H:∀g,D g->¬S g)(W:∀l,K l->G l):eQ D w' v k a c G:=by
 obtain⟨b,vs,l,Z,J,V,h4,h5,h6,h7,h8,h9⟩:=h;have hb:=kp.block b V (H b J);refine⟨b,vs,l,Z,J,MP V kp.size,?_,?_,?_,?_,h8.kp kp H,W l h9⟩<;>rw [Mn (w:=w) hb]<;>assumption
theorem eQ.mono {D E:Nat->Prop}{w:World}{v:Value}{k a c:UInt8}{K G:List Value->Prop}(h:eQ D w v k a c K)(hd:∀g,D g->E g)(H:∀l,K l->G l):eQ E w v k a c G:=by
 obtain⟨b,vs,l,J,V,W,h4,h5,Z,h7,h8,h9⟩:=h;exact⟨b,vs,l,J,hd b V,W,h4,h5,Z,h7,h8.mono hd,H l h9⟩
theorem aK.kp {D S:Nat->Prop}{w w':World}(kp:Kp w w' S)(G:∀g,D g->¬S g):∀{t:P} {v:Value},aK D w t v->aK D w' t v
 | .nil,_,h=>eQ.kp h kp G λ _ h=>h
 | .snd _ _ p,_,h=>eQ.kp h kp G λ _ ⟨x,H,J⟩=>⟨x,H,aK.kp kp G (t:=p) J⟩
 | .rcv _ _ p,_,h=>eQ.kp h kp G λ _ ⟨x,H,J⟩=>⟨x,H,aK.kp kp G (t:=p) J⟩
 | .tau p,_,h=>eQ.kp h kp G λ _ ⟨x,H,J⟩=>⟨x,H,aK.kp kp G (t:=p) J⟩
 | .res _ p,_,h=>eQ.kp h kp G λ _ ⟨x,H,J⟩=>⟨x,H,aK.kp kp G (t:=p) J⟩
 | .mat _ _ p,_,h=>eQ.kp h kp G λ _ ⟨x,H,J⟩=>⟨x,H,aK.kp kp G (t:=p) J⟩
 | .rep p,_,h=>eQ.kp h kp G λ _ ⟨x,H,J⟩=>⟨x,H,aK.kp kp G (t:=p) J⟩
 | .sum p q,_,h=>eQ.kp h kp G λ _ ⟨x,y,H,J,V⟩=>⟨x,y,H,aK.kp kp G (t:=p) J,aK.kp kp G (t:=q) V⟩
 | .par p q,_,h=>eQ.kp h kp G λ _ ⟨x,y,H,J,V⟩=>⟨x,y,H,aK.kp kp G (t:=p) J,aK.kp kp G (t:=q) V⟩
theorem aK.mono {D E:Nat->Prop}{w:World}(hd:∀g,D g->E g):∀{t:P} {v:Value},aK D w t v->aK E w t v
 | .nil,_,h=>eQ.mono h hd λ _ h=>h
 | .snd _ _ p,_,h=>eQ.mono h hd λ _ ⟨x,G,H⟩=>⟨x,G,aK.mono hd (t:=p) H⟩
 | .rcv _ _ p,_,h=>eQ.mono h hd λ _ ⟨x,G,H⟩=>⟨x,G,aK.mono hd (t:=p) H⟩
 | .tau p,_,h=>eQ.mono h hd λ _ ⟨x,G,H⟩=>⟨x,G,aK.mono hd (t:=p) H⟩
 | .res _ p,_,h=>eQ.mono h hd λ _ ⟨x,G,H⟩=>⟨x,G,aK.mono hd (t:=p) H⟩
 | .mat _ _ p,_,h=>eQ.mono h hd λ _ ⟨x,G,H⟩=>⟨x,G,aK.mono hd (t:=p) H⟩
 | .rep p,_,h=>eQ.mono h hd λ _ ⟨x,G,H⟩=>⟨x,G,aK.mono hd (t:=p) H⟩
 | .sum p q,_,h=>eQ.mono h hd λ _ ⟨x,y,G,H,J⟩=>⟨x,y,G,aK.mono hd (t:=p) H,aK.mono hd (t:=q) J⟩
 | .par p q,_,h=>eQ.mono h hd λ _ ⟨x,y,G,H,J⟩=>⟨x,y,G,aK.mono hd (t:=p) H,aK.mono hd (t:=q) J⟩
theorem aN.two {A B:Type}{R:A->B->Prop}{a a':A}{b G:B}(h:R a b)(H:R a' G):aN R [a,a'] [b,G]:=(aN.one h).append (aN.one H)
theorem aK.inv {D:Nat->Prop}{w:World}{t:P}{v:Value}(h:aK D w t v):eQ D w v t.kind t.ca t.cb λl=>aN (λx p=>aK D w p x) l t.parts:=by
 cases t with
 | nil=>exact eQ.mono h (λ _ h=>h) λl (e:l=[])=>by subst e;exact aN.nil
 | sum p q=>exact eQ.mono h (λ _ h=>h) λl ⟨x,y,e,G,H⟩=>by subst e;exact aN.two G H
 | par p q=>exact eQ.mono h (λ _ h=>h) λl ⟨x,y,e,G,H⟩=>by subst e;exact aN.two G H
 | snd a b p=>exact eQ.mono h (λ _ h=>h) λl ⟨x,e,G⟩=>by subst e;exact aN.one G
 | rcv a b p=>exact eQ.mono h (λ _ h=>h) λl ⟨x,e,G⟩=>by subst e;exact aN.one G
 | mat a b p=>exact eQ.mono h (λ _ h=>h) λl ⟨x,e,G⟩=>by subst e;exact aN.one G
 | tau p=>exact eQ.mono h (λ _ h=>h) λl ⟨x,e,G⟩=>by subst e;exact aN.one G
 | rep p=>exact eQ.mono h (λ _ h=>h) λl ⟨x,e,G⟩=>by subst e;exact aN.one G
 | res b p=>exact eQ.mono h (λ _ h=>h) λl ⟨x,e,G⟩=>by subst e;exact aN.one G
theorem tu (t:P):t.size=1+(t.parts.map T.size).sum:=by cases t<;>simp [T.size,T.parts]<;>omega
theorem vS {A:Type}(f:A->Nat)(l:List A){i:Nat}(h:i< l.length):(l.map f).sum=((l.take i).map f).sum+(f l[i]+((l.drop (i+1)).map f).sum)/\((l.take (i+1)).map f).sum=((l.take i).map f).sum+f l[i]:=by
 constructor
 ·have e:l=l.take i++(l[i]::l.drop (i+1)):=by rw [<-Nn h,NJ]
  conv=>lhs;rw [e,Nq,PH,MV,NF]
 ·rw [Mq h,Nq,PH];simp
theorem Hy:∀(n:Nat) {D:Nat->Prop} {t:P} {v:Value} {w:World},t.size<=n->aK D w t v->t.size<=1099511627776->∀{R:Int->PV},R (t.size:Int) w->PW 124 #[v] w (aw [.i] R):=by
 intro n
 induction n with
 | zero=>intro D t v w h;have :=aY t;omega
 | succ n Z=>
  intro D t v w hn ht hl R h;refine nQ v w R ?_;dsimp only [go_sem];dsimp only [go_sem,UInt8.reduceOfNat,UInt32.reduceOfNat,Nat.reduceAdd];obtain⟨b,vs,l,rfl,h1,h2,h3,h4,h5,h6,W,V⟩:=ht.inv;obtain⟨a,cap,hv⟩:=W.slice;have e:=tu t;refine⟨b,0,rfl,vs,h6,a,_,cap,hv,λm x w'=>w'=w/\∃i:Nat,x=i/\i<=l.length/\m=(1+((t.parts.take i).map T.size).sum:Nat),λ _ x _=>(l.length - x).toNat,⟨rfl,0,rfl,by omega,by simp⟩,λm x w1 hI=>?_⟩;obtain⟨rfl,i,rfl,hi,rfl⟩:=hI;refine⟨λH=>?_,λH=>?_⟩
  ·have H:=MN H;have G:i< l.length:=by omega
   have J:i< t.parts.length:=by rw [<-V.1];exact G
   refine W.get (i:=i) (x:=l[i]) (by omega) (by simp [G]) ?_;have hk:=V.2 i _ _ (Mo G) (Mo J);obtain⟨hs,α⟩:=vS T.size t.parts J;have β:=dN t;refine Z (by omega) hk (by omega) ⟨by omega,by omega,⟨rfl,i+1,by omega,by omega,?_⟩,by dsimp only;omega⟩;omega
  ·have H:=MO H;have:i=t.parts.length:=by rw [<-V.1];omega
   subst this;rw [MR,<-e];exact h
end Go.Proofs.YtdecokaadekjnaaGreat
namespace Go.Proofs.YtdecokaadekjnaaGreat
open Classical
structure Ip (u:U)(ρ:Rh)(tk:Tk):Prop where
 ok:∀y,u.Us y->tk (ρ y)=true/\lt (ρ y)=true
 inj:∀y z,u.Us y->u.Us z->ρ y=ρ z->y=z
theorem Ip.sub {u v:U}{ρ:Rh}{tk:Tk}(h:Ip u ρ tk)(G:∀y,v.Us y->u.Us y):Ip v ρ tk:=
 ⟨λy H=>h.ok y (G y H),λy z H J=>h.inj y z (G y H) (G z J)⟩
def IK (u:U)(ρ:Rh)(tk:Tk)(t:P)(v:U):Prop:=
 t.text=LS u ρ tk/\AE UInt8.toNat t (λy=>(ρ y).toNat) v/\t.Al (λc=>lt c=true)/\L0 u v
def EG (u:U)(ρ:Rh)(tk:Tk)(t:P)(v:U):Prop:=
 t.text=thU u ρ tk/\AE UInt8.toNat t (λy=>(ρ y).toNat) v/\t.Al (λc=>lt c=true)/\Lr u v
theorem Lu {n:Nat}(ih:∀(u:U) (ρ:Rh) (tk:Tk),u.size<=n->Uq u->Ip u ρ tk->de u tk=false->∃t v,IK u ρ tk t v){t:U}{ρ:Rh}{tk:Tk}(hn:t.size<=n+1)(hu:Uq t)(μ:HP t=true)
  (ο:t.dq) (hl:t.dead=false) (hm:Ip t ρ tk) (hb:thBad (tl [t]) tk=false):∃q w,EG t ρ tk q w:=by
 cases t with
 | nil=>cases μ
 | par=>cases μ
 | res=>cases μ
 | snd a b p=>
  simp only [T.size]at hn;rw [iW]at hb;obtain⟨q,v,G,h2,H,h4⟩:=ih p ρ tk (by omega) hu.snd (hm.sub λy hy=> .inr (.inr hy)) hb;have γ:∀x,(T.snd a b v).Us x↔(T.snd a b p).Us x:=λx=>or_congr_right (or_congr_right (h4.us x))
  refine⟨.snd (ρ a) (ρ b) q,.snd a b v,?_,⟨rfl,rfl,h2⟩,⟨(hm.ok a (.inl rfl)).2,(hm.ok b (.inr (.inl rfl))).2,H⟩,?_⟩
  ·simp only [T.text,thU,kText,G]
  ·exact⟨rfl,h4.nr,qi (t:=T.snd a b p) h4.uq.nd h4.nr h4.bv (λx=>(γ x).1) hu,h4.bv,γ,λρ tk=>by simp only [thU,h4.ls],λtk=>by rw [iW,iW,h4.bad],by rw [pA,pA,h4.all],by rw [eE,eE,h4.most],h4.smp,rfl⟩
 | tau p=>
  simp only [T.size]at hn;rw [iO]at hb;obtain⟨q,v,G,h2,H,h4⟩:=ih p ρ tk (by omega) hu.tau (hm.sub λy hy=>hy) hb;refine⟨.tau q,.tau v,?_,h2,H,?_⟩
  ·simp only [T.text,thU,kText,G]
  ·exact⟨rfl,h4.nr,qi (t:=T.tau p) h4.uq.nd h4.nr h4.bv (λx=>(h4.us x).1) hu,h4.bv,h4.us,λρ tk=>by simp only [thU,h4.ls],λtk=>by rw [iO,iO,h4.bad],by rw [p7,p7,h4.all],by rw [eM,eM,h4.most],h4.smp,rfl⟩
 | rep p=>
  simp only [T.size]at hn;rw [iC]at hb;obtain⟨q,v,G,h2,H,h4⟩:=ih p ρ tk (by omega) hu.rep (hm.sub λy hy=>hy) hb;have hd:v.dead=false:=by rw [h4.dead];exact hl
  have nr:(T.rep v).Nr:=⟨hd,h4.nr⟩
  refine⟨.rep q,.rep v,?_,h2,H,?_⟩
  ·simp only [T.text,thU,kText,G]
  ·refine⟨rfl,nr,qi (t:=T.rep p) h4.uq.nd nr h4.bv (λx=>(h4.us x).1) hu,h4.bv,h4.us,λρ tk=>by simp only [thU,h4.ls],λtk=>by rw [iC,iC,h4.bad],by rw [pt,pt,h4.all],by rw [eK,eK,h4.most],λhs=>?_,rfl⟩;simp only [T.smp,Mp]at hs|-;refine⟨?_,h4.smp hs.2⟩;have:aj p=([],[p]):=by
    have hr:=hs.1;cases p<;>first | rfl | cases hr
   rw [T.xz,h4.tg p this,<-T.xz];exact hs.1
 | mat a b p=>
  simp only [T.size]at hn;have δ:a≠b:=ο;have hd:p.dead=false:=hl;rw [eI]at hb;obtain⟨q,v,G,h2,H,h4⟩:=ih p ρ tk (by omega) hu.mat (hm.sub λy hy=> .inr ⟨δ,hd,.inr (.inr hy)⟩) hb;have η:v.dead=false:=by rw [h4.dead];exact hd
  have ha:=(hm.ok a (.inr ⟨δ,hd,.inl rfl⟩)).2;have ς:=(hm.ok b (.inr ⟨δ,hd,.inr (.inl rfl)⟩)).2;have us:∀x,(T.mat a b v).Us x↔(T.mat a b p).Us x:=λx=>by simp only [T.Us,δ,hd,η,h4.us]
  have υ:∀x,(T.mat b a v).Us x↔(T.mat a b p).Us x:=λx=>by
   simp only [T.Us,δ,δ.symm,hd,η,h4.us,false_and,PU,ne_eq,Pu,Ox];rw [<-Pm,<-Pm,or_comm (a:=x=b)]
  by_cases φ:ρ b< ρ a
  ·have nr:(T.mat b a v).Nr:=⟨⟨δ.symm,η⟩,h4.nr⟩
   refine⟨.mat (ρ b) (ρ a) q,.mat b a v,?_,⟨rfl,rfl,h2⟩,⟨ς,ha,H⟩,?_⟩
   ·simp only [T.text,thU,kText,G,MZ φ]
   ·exact⟨rfl,nr,qi (t:=T.mat a b p) h4.uq.nd nr h4.bv (λx=>(υ x).1) hu,h4.bv,υ,λρ tk=>by simp only [thU,h4.ls];exact Bx _ _ _,λtk=>by rw [eI,eI,h4.bad],by rw [iD,iD,h4.all],by rw [cW,cW,h4.most],h4.smp,rfl⟩
  ·have nr:(T.mat a b v).Nr:=⟨⟨δ,η⟩,h4.nr⟩
   refine⟨.mat (ρ a) (ρ b) q,.mat a b v,?_,⟨rfl,rfl,h2⟩,⟨ha,ς,H⟩,?_⟩
   ·simp only [T.text,thU,kText,G,MJ φ]
   ·exact⟨rfl,nr,qi (t:=T.mat a b p) h4.uq.nd nr h4.bv (λx=>(us x).1) hu,h4.bv,us,λρ tk=>by simp only [thU,h4.ls],λtk=>by rw [eI,eI,h4.bad],by rw [iD,iD,h4.all],by rw [cW,cW,h4.most],h4.smp,rfl⟩
 | rcv a x p=>
  simp only [T.size]at hn;rw [iR,NR]at hb;obtain⟨f1,f2⟩:=ES hb.1;have hm':Ip p (aI ρ x (ic tk)) (cu tk (ic tk)):=by
   refine⟨λy hy=>?_,λy z hy J e=>?_⟩
   ·by_cases e:y=x
    ·subst e;simp [aI,cu,f2]
    ·obtain⟨k1,k2⟩:=hm.ok y (.inr ⟨e,hy⟩);simp [aI,e,cu,k1,k2]
   ·by_cases g1:y=x<;>by_cases g2:z=x
    ·rw [g1,g2]
    ·simp only [aI,MZ g1,MJ g2]at e;have :=(hm.ok z (.inr ⟨g2,J⟩)).1;rw [<-e,f1]at this;cases this
    ·simp only [aI,MJ g1,MZ g2]at e;have :=(hm.ok y (.inr ⟨g1,hy⟩)).1;rw [e,f1]at this;cases this
    ·simp only [aI,MJ g1,MJ g2]at e;exact hm.inj y z (.inr ⟨g1,hy⟩) (.inr ⟨g2,J⟩) e
  obtain⟨q,v,G,h2,H,h4⟩:=ih p _ _ (by omega) hu.rcv hm' hb.2;have γ:∀y,(T.rcv a x v).Us y↔(T.rcv a x p).Us y:=λy=>or_congr_right (and_congr_right λ _=>h4.us y)
  have nr:(T.rcv a x v).Nr:=h4.nr;have ν:(BV (T.rcv a x v)).Nodup:=Nw.2 ⟨λhx=>hu.lk (h4.bv x hx),h4.uq.nd⟩;have ζ:∀y∈BV (T.rcv a x v),y∈BV (T.rcv a x p):=λy hy=>by
   rcases MH.1 hy with rfl | hy
   ·exact Nc ..
   ·exact MD _ (h4.bv y hy)
  refine⟨.rcv (ρ a) (ic tk) q,.rcv a x v,?_,⟨rfl,λn=>AE.I0 (λz J e=>?_) h2 n⟩,⟨(hm.ok a (.inl rfl)).2,f2,H⟩,?_⟩
  ·simp only [T.text,thU,kText,G]
  ·intro hc;have :=(hm.ok z (.inr ⟨e,(h4.us z).1 (h4.nr.gU J)⟩)).1;rw [hc,f1]at this;cases this
  ·exact⟨rfl,nr,qi ν nr ζ (λx=>(γ x).1) hu,ζ,γ,λρ tk=>by simp only [thU,h4.ls],λtk=>by rw [iR,iR,h4.bad],by rw [pS,pS,h4.all],by rw [eD,eD,h4.most],h4.smp,rfl⟩
 | sum p q=>
  simp only [T.size]at hn;obtain⟨hd1,hd2⟩:p.dead=false/\q.dead=false:=ο;have eS:ak (T.sum p q)=ak p++ak q:=rfl;have χ:∀u∈ak (T.sum p q),u.size<=n:=λu α=>by
   rw [eS]at α;rcases My.1 α with h | h
   ·have :=lx p u h;omega
   ·have :=lx q u h;omega
  have ψ:∀u∈ak (T.sum p q),de u tk=false:=by
   rw [(eX (w:=T.sum p q) rfl ρ tk).2]at hb;simp only [thBad,OT,xa]at hb;simpa [List.any_eq_false]using hb
  obtain⟨zs,z1,z2⟩:=triples (R:=λu=>IK u ρ tk) (l:=ak (T.sum p q)) λu α=>
   ih u ρ tk (χ u α) (xd hu u α) (hm.sub λy hy=>(lI _ hu y).2 ⟨u,α,hy⟩) (ψ u α)
  obtain⟨V,y1,y2⟩:=vJ zs λz=>z.2.1.text
  have Z:(V.map (·.1)).Perm (ak (T.sum p q)):=z1▸y1.map _;have J:∀z∈V,IK z.1 ρ tk z.2.1 z.2.2:=λz J=>z2 z (y1.subset J)
  have W:∀z∈V,z.1∈ak (T.sum p q):=λz J=>Z.subset (N3 J)
  have hlen:2<=V.length:=by
   have l1:(ak p).length≠0:=λe=>od hd1 hu.dP (MS e)
   have l2:(ak q).length≠0:=λe=>od hd2 hu.dz (MS e)
   have :=Z.length_eq;rw [MM,eS,Mt]at this;omega
  have θ:V≠[]:=λe=>by rw [e]at hlen;simp at hlen
  have ε:(T.dk (V.map (·.2.2))).isS=true/\(T.dk (V.map (·.2.2))).th=true/\(T.dk (V.map (·.2.2))).tg=4:=by
   match V,hlen with
   | a::b::l,_=>exact⟨rfl,rfl,rfl⟩
   | [a],h=>simp at h
   | [],h=>simp at h
  have ω:∀v∈V.map (·.2.2),v.dead=false/\v.isS=false/\v.Nr:=λv hv=>by
   obtain⟨z,G,rfl⟩:=Nb.1 hv;have ha:=(J z G).2.2.2;refine⟨?_,ha.isS (Dr _ hu z.1 (W z G)),ha.nr⟩;rw [ha.dead];cases hd:z.1.dead with
   | false=>rfl
   | true=>
    have hcp:∀u:U,∀t∈ak u,t.dead=false:=Dk;exact absurd (hcp _ _ (W z G)) (by rw [hd];simp)
  have ι:=(T.CS (l:=V.map (·.2.2)) (by simpa using θ) ω)
  have ζ:∀x∈BV (T.dk (V.map (·.2.2))),x∈BV (T.sum p q):=λx hx=>by
   rw [xp]at hx;obtain⟨v,G,h2⟩:=Ni.1 hx;obtain⟨z,H,rfl⟩:=Nb.1 G;exact zc _ z.1 (W z H) x ((J z H).2.2.2.bv x h2)
  have γ:∀x,(T.dk (V.map (·.2.2))).Us x↔(T.sum p q).Us x:=λx=>by
   rw [T.Cx,lI _ hu];constructor
   ·rintro⟨v,G,h2⟩
    obtain⟨z,H,rfl⟩:=Nb.1 G;exact⟨z.1,W z H,((J z H).2.2.2.us x).1 h2⟩
   ·rintro⟨u,G,h2⟩
    obtain⟨z,H,rfl⟩:=Nb.1 (Z.symm.subset G);exact⟨_,N3 H,((J z H).2.2.2.us x).2 h2⟩
  have ν:(BV (T.dk (V.map (·.2.2)))).Nodup:=by
   rw [xp,PE];refine pN (f:=λz=>BV z.1) ?_ λz h=>⟨(J z h).2.2.2.uq.nd,(J z h).2.2.2.bv⟩
   have hp:=(Z.flatMap_right BV)
   rw [PE]at hp;exact hp.nodup_iff.2 (EP _ hu)
  have huq:=qi ν ι.1 ζ (λx=>(γ x).1) hu;have κ:ak (T.dk (V.map (·.2.2)))=V.map (·.2.2):=by
   rw [ee huq ι.1 ι.2,T.zl (by simpa using θ) λt ht=>(ω t ht).2.1]
  have ξ:∀{β:Type} (g:U->β),(∀z∈V,g z.2.2=g z.1)->((V.map (·.2.2)).map g).Perm ((ak (T.sum p q)).map g):=λg hg=>by
   have e:(V.map (·.2.2)).map g=(V.map (·.1)).map g:=by
    rw [Od,Od];exact NL hg
   rw [e];exact Z.map g
  refine⟨T.dk (V.map (·.2.1)),T.dk (V.map (·.2.2)),?_,AE.dk λz h=>(J z h).2.1,CW λt ht=>?_,?_⟩
  ·rw [T.uY (by simpa using θ),Od,(eX (w:=T.sum p q) rfl ρ tk).1];have e:V.map (T.text∘λz=>z.2.1)=aH (zs.map λz=>z.2.1.text):=y2;rw [e]
   congr 2
   rw [<-z1,Od];exact NL λz h=>(z2 z h).1
  ·obtain⟨z,G,rfl⟩:=Nb.1 ht;exact(J z G).2.2.1
  ·refine⟨ε.2.1,ι.1,huq,ζ,γ,λρ tk=>?_,λtk=>?_,?_,?_,λhs=>?_,ε.2.2⟩
   ·rw [(eX ε.1 ρ tk).1,(eX (w:=T.sum p q) rfl ρ tk).1,κ]
    congr 1
    exact fu (ξ _ λz h=>(J z h).2.2.2.ls ρ tk)
   ·rw [(eX ε.1 ρ tk).2,(eX (w:=T.sum p q) rfl ρ tk).2,κ];simp only [thBad,OT,xa];have G:=zt (f:=λb:Bool=>b) (ξ (λu=>de u tk) λz h=>(J z h).2.2.2.bad tk);simpa [List.any_map,Function.comp_def]using G
   ·rw [(eX ε.1 ρ tk).2,(eX (w:=T.sum p q) rfl ρ tk).2,κ];simp only [thAll,OQ,G8];exact iL (ξ cB λz h=>(J z h).2.2.2.all)
   ·rw [(eX ε.1 ρ tk).2,(eX (w:=T.sum p q) rfl ρ tk).2,κ];refine B4 λk=>?_
    simp only [an,Nat.max_zero,ya];constructor
    ·intro h u α;obtain⟨z,H,rfl⟩:=Nb.1 (Z.symm.subset α);rw [<-(J z H).2.2.2.most];exact h _ (N3 H)
    ·intro h v hv;obtain⟨z,H,rfl⟩:=Nb.1 hv;rw [(J z H).2.2.2.most];exact h _ (W z H)
   ·have hg:=v8 (T.sum p q) rfl hs;refine(E8 (by simpa using θ) λt ht=>?_).1;obtain⟨z,G,rfl⟩:=Nb.1 ht;have ha:=(J z G).2.2.2;have hgz:=hg z.1 (W z G);refine⟨ha.smp (FO _ hs z.1 (W z G)),?_⟩;rw [T.yI,ha.tg z.1 hgz.2,Mz];rcases hgz.1 with h | h | h<;>omega
theorem nO {u:U}(hu:Uq u)(hd:u.dead=true):(∀ρ tk,LS u ρ tk=[48])/\(∀tk,de u tk=false)/\cB u=0/\a7 u=0:=by
 have G:=lA hd;have H:(td u).1=[]:=by
  have :=(fJ u hu).2.1;rw [cV u hu hd]at this;exact this.eq_nil
 refine⟨λρ tk=>?_,λtk=>?_,?_,?_⟩
 ·simp [LS,aR,G,thS]
 ·simp [de,fk,G,Lv.isNil]
 ·simp [cB,G,H,thAll]
 ·simp [a7,G,H,an]
theorem arr:∀(n:Nat) (u:U) (ρ:Rh) (tk:Tk),u.size<=n->Uq u->Ip u ρ tk->de u tk=false->∃t v,IK u ρ tk t v:=by
 intro n
 induction n with
 | zero=>intro u ρ tk h;cases u<;>simp [T.size]at h
 | succ n ih=>
  intro u ρ tk hn hu hm hb;cases hd:u.dead with
  | true=>
   obtain⟨d1,d2,d3,d4⟩:=nO hu hd;have χ:Uq .nil:=⟨NY,λx h=>by cases h⟩
   obtain⟨e1,e2,e3,e4⟩:=nO χ rfl;refine⟨.nil,.nil,by rw [d1];rfl,trivial,trivial,trivial,χ,λx h=>(by cases h),λx=>⟨λh=>h.elim,λh=>absurd h (T.bz hd)⟩,λρ tk=>by rw [d1,e1],λtk=>by rw [d2,e2],by rw [d3,e3],by rw [d4,e4],hd.symm,λ _=>rfl,λt W=>?_,λ _=>rfl⟩;rw [cV u hu hd]at W;cases W
  | false=>
   have ψ:=vZ hd hu;obtain⟨g1,g2,_⟩:=fJ u hu;have hlen:(td u).1.length=(aj u).1.length:=g2.length_eq;have ω:(td u).2.isNil=false:=by rw [dy,hd]
   simp only [de,fk,ω,Bool.not_false,Oh,NR,hlen]at hb;obtain⟨hb1,δ⟩:=hb;rw [g1,sq]at δ;have δ:∀t∈(aj u).2,thBad (tl [t]) (addK (lets (aj u).1.length tk) tk)=false:=by simpa [List.any_eq_false]using δ
   obtain⟨l1,l2⟩:=vC _ tk hb1;have hls:=fw (aj u).1.length tk;generalize hl:lets (aj u).1.length tk=ls at*;have hLS:LS u ρ tk=wrap ls (bE ((perms (aj u).1).map λπ=>joinS 38 (aH ((aj u).2.map λt=>thU t (asg π ls ρ) (addK ls tk))))):=by
    rw [xu hu];unfold aR;rw [MJ (by simpa using ψ)];show wrap (lets _ tk) (bE (List.map (λπ=>joinS 38 (aH ((aj u).2.map λt=>thU t (asg π (lets _ tk) ρ) (addK (lets _ tk) tk)))) _))=_;rw [hl]
   obtain⟨hmem,_⟩:=cz (l:=(perms (aj u).1).map λπ=>joinS 38 (aH ((aj u).2.map λt=>thU t (asg π ls ρ) (addK ls tk)))) (by simpa using oe _);obtain⟨π,G,μ⟩:=Nb.1 hmem;have G:=(cP _ π).1 G;have α:π.length=ls.length:=by rw [G.length_eq,hls]
   have ν:=He u hu;have η:π.Nodup:=G.nodup_iff.2 (M6.1 ν).1;have hmt:∀t∈(aj u).2,Ip t (asg π ls ρ) (addK ls tk):=by
    intro t W;have ξ:∀y,t.Us y->y∈π\/(y∉π/\u.Us y):=λy hy=>by
     by_cases hp:y∈π
     ·exact .inl hp
     ·exact .inr ⟨hp,(ll u hu t W y hy).resolve_right λh=>hp (G.symm.subset h)⟩
    refine⟨λy hy=>?_,λy z hy J e=>?_⟩
    ·rw [wv];rcases ξ y hy with h | ⟨h,h'⟩
     ·have :=eR π ls ρ y h α;exact⟨by simp [this],(l2 _ this).2⟩
     ·rw [bI π ls ρ y h];exact⟨by simp [(hm.ok y h').1],(hm.ok y h').2⟩
    ·rcases ξ y hy with h | ⟨h,h'⟩<;>rcases ξ z J with k | ⟨k,k'⟩
     ·exact yw π ls ρ y z h k α l1 e
     ·rw [bI π ls ρ z k]at e;have :=(l2 _ (eR π ls ρ y h α)).1;rw [e,(hm.ok z k').1]at this;cases this
     ·rw [bI π ls ρ y h]at e;have :=(l2 _ (eR π ls ρ z k α)).1;rw [<-e,(hm.ok y h').1]at this;cases this
     ·rw [bI π ls ρ y h,bI π ls ρ z k]at e;exact hm.inj y z h' k' e
   obtain⟨zs,z1,z2⟩:=triples (R:=λu=>EG u (asg π ls ρ) (addK ls tk)) (l:=(aj u).2) λt W=>
    Lu ih (by have :=Bz u t W;omega) (EL hu t W) (xG u t W) (tn u t W).1 (tn u t W).2 (hmt t W) (δ t W)
   obtain⟨V,y1,y2⟩:=vJ zs λz=>z.2.1.text
   have H:(V.map (·.1)).Perm (aj u).2:=z1▸y1.map _;have J:∀z∈V,EG z.1 (asg π ls ρ) (addK ls tk) z.2.1 z.2.2:=λz J=>z2 z (y1.subset J)
   have Z:∀z∈V,z.1∈(aj u).2:=λz J=>H.subset (N3 J)
   have γ:V≠[]:=λe=>ψ (by have :=H;rw [e]at this;exact this.symm.eq_nil)
   have ε:∀w∈V.map (·.2.2),w.th=true/\w.Nr:=λw hw=>by
    obtain⟨z,h1,rfl⟩:=Nb.1 hw;exact⟨(J z h1).2.2.2.th,(J z h1).2.2.2.nr⟩
   have θ:∀x,(T.parL (V.map (·.2.2))).Us x↔∃t∈(aj u).2,t.Us x:=λx=>by
    rw [T.rD];constructor
    ·rintro⟨v,h1,h2⟩
     obtain⟨z,h3,rfl⟩:=Nb.1 h1;exact⟨z.1,Z z h3,((J z h3).2.2.2.us x).1 h2⟩
    ·rintro⟨u',h1,h2⟩
     obtain⟨z,h3,rfl⟩:=Nb.1 (H.symm.subset h1);exact⟨_,N3 h3,((J z h3).2.2.2.us x).2 h2⟩
   have ι:=T.CF ε;have ο:(T.resL π (T.parL (V.map (·.2.2)))).Nr:=T.CT ι.1 η λx hx=>(θ x).2 (zp u hu x (G.subset hx))
   have ς:∀x,(T.resL π (T.parL (V.map (·.2.2)))).Us x↔u.Us x:=λx=>by
    rw [T.ji,θ];constructor
    ·rintro⟨h1,t,h2,h3⟩
     exact(ll u hu t h2 x h3).resolve_right λh=>h1 (G.symm.subset h)
    ·intro h;exact⟨λhx=>hu.nf x (im u x (G.subset hx)) (T.bs h),E4 u x h⟩
   have hbv:∀x∈BV (T.resL π (T.parL (V.map (·.2.2)))),x∈BV u:=λx hx=>by
    rw [fR,fN]at hx;rcases My.1 hx with hx | hx
    ·exact im u x (G.subset hx)
    ·obtain⟨v,h1,h2⟩:=Ni.1 hx;obtain⟨z,h3,rfl⟩:=Nb.1 h1;exact B6 _ z.1 (Z z h3) x ((J z h3).2.2.2.bv x h2)
   have hndv:(BV (T.resL π (T.parL (V.map (·.2.2))))).Nodup:=by
    rw [fR,fN,PE];have hp:=(H.flatMap_right BV)
    rw [PE]at hp;have hnd':(V.flatMap λz=>BV z.1).Nodup:=hp.nodup_iff.2 (M6.1 ν).2.1;refine M6.2 ⟨η,pN (f:=λz=>BV z.1) hnd' λz h=>⟨(J z h).2.2.2.uq.nd,(J z h).2.2.2.bv⟩,λa ha b hb=>?_⟩;obtain⟨z,h1,h2⟩:=Ni.1 hb;exact(M6.1 ν).2.2 a (G.subset ha) b (Ni.2 ⟨z.1,Z z h1,(J z h1).2.2.2.bv b h2⟩)
   have ζ:=qi hndv ο hbv (λx=>(ς x).1) hu;have κ:aj (T.resL π (T.parL (V.map (·.2.2))))=(π,V.map (·.2.2)):=by
    rw [BS ζ ο,T.yC,T.zz,T.Au λt W=>(ε t W).1,T.F5 λt W=>(ε t W).1,MY]
   have υ:∀{β:Type} (g:U->β),(∀z∈V,g z.2.2=g z.1)->((V.map (·.2.2)).map g).Perm ((aj u).2.map g):=λg hg=>by
    have e:(V.map (·.2.2)).map g=(V.map (·.1)).map g:=by
     rw [Od,Od];exact NL hg
    rw [e];exact H.map g
   obtain⟨k1,k2,_⟩:=fJ _ ζ;rw [κ]at k1 k2;have hdv:(T.resL π (T.parL (V.map (·.2.2)))).dead=false:=by
    rw [kG,k1]
    match V,γ,ε with
    | z::l,_,h=>
     have :=(h z.2.2 (by simp)).1;intro hh;revert hh this;simp only [MV];cases z.2.2<;>simp [tl,Lv.len,T.th]
   have φ:(td (T.resL π (T.parL (V.map (·.2.2))))).1.length=(td u).1.length:=by rw [k2.length_eq,G.length_eq,hlen]
   refine⟨T.resL ls (T.parL (V.map (·.2.1))),T.resL π (T.parL (V.map (·.2.2))),?_,?_,?_,ο,ζ,hbv,ς,λρ tk=>?_,λtk=>?_,?_,?_,by rw [hdv,hd],λhs=>?_,λt W=>?_,λhns=>?_⟩
   ·rw [T.pP,hLS,<-μ,T.pZ (by simpa using γ),Od];have e:V.map (T.text∘λz=>z.2.1)=aH (zs.map λz=>z.2.1.text):=y2;rw [e,<-z1,Od]
    congr 3
    exact NL λz h=>(z2 z h).1
   ·refine AE.Ey π ls ρ α l1 (λz hz' hzp hc=>?_) (AE.parL λz h=>(J z h).2.1);have hzu:u.Us z:=(ς z).1 (T.ji.2 ⟨hzp,ι.1.gU hz'⟩);have :=(l2 _ hc).1;rw [(hm.ok z hzu).1]at this;cases this
   ·refine C1 (CR λt W=>?_) λc hc=>(l2 c hc).2
    obtain⟨z,h1,rfl⟩:=Nb.1 W;exact(J z h1).2.2.1
   ·rw [xu ζ,xu hu,κ];exact lf G (λρ tk=>υ (λt=>thU t ρ tk) λz h=>(J z h).2.2.2.tx ρ tk) ρ tk
   ·unfold de fk;rw [φ,dy,dy,hdv,hd,k1,g1]
    congr 2
    rw [sq,sq];have h1:=zt (f:=λb:Bool=>b) (υ (λt=>thBad (tl [t]) (addK (lets (td u).1.length tk) tk)) λz h=>(J z h).2.2.2.bad _);simpa [List.any_map,Function.comp_def]using h1
   ·unfold cB;rw [φ,k1,g1,Bc,Bc (aj u).2]
    congr 1
    exact iL (υ (λt=>thAll (tl [t])) λz h=>(J z h).2.2.2.all)
   ·unfold a7;rw [φ,k1,g1]
    congr 1
    refine B4 λk=>?_
    rw [rf,rf];constructor
    ·intro h t W;obtain⟨z,h3,rfl⟩:=Nb.1 (H.symm.subset W);rw [<-(J z h3).2.2.2.most];exact h _ (N3 h3)
    ·intro h v hv;obtain⟨z,h3,rfl⟩:=Nb.1 hv;rw [(J z h3).2.2.2.most];exact h _ (Z z h3)
   ·rw [tU];refine sL λt W=>?_
    obtain⟨z,h1,rfl⟩:=Nb.1 W;exact(J z h1).2.2.2.smp (IW u hs z.1 (Z z h1))
   ·rw [W]at G H;have e1:π=[]:=G.eq_nil;have e2:=H.length_eq;rw [MM]at e2
    match V,e2,H,J with
    | [z],_,hs,J=>
     have:z.1=t:=by simpa using hs
     subst this;rw [e1];exact(J z (by simp)).2.2.2.tg
   ·cases hp:π with
    | cons x l=>rfl
    | nil=>
     rw [hp]at G;have e0:(aj u).1=[]:=G.symm.eq_nil
     match V,γ,H,J with
     | [z],_,hs,J=>
      have e1:(aj u).2=[z.1]:=by
       have :=List.perm_singleton.1 hs.symm;simpa using this
      show z.2.2.isS=false;have htg:=(J z (by simp)).2.2.2.tg;rw [T.FU,htg,<-T.FU];cases hz1:z.1<;>first | rfl | skip
      rename_i p q;exact absurd (Prod.ext e0 (by rw [e1,hz1])) (hns p q)
     | z::y::l,_,_,_=>rfl
def num:P->(UInt8->Nat)->Nat->U×Nat
 | .nil,_,n=>(.nil,n)
 | .snd a b p,e,n=>(.snd (e a) (e b) (num p e n).1,(num p e n).2)
 | .rcv a x p,e,n=>(.rcv (e a) (n+101) (num p (aI e x (n+101)) (n+1)).1,(num p (aI e x (n+101)) (n+1)).2)
 | .tau p,e,n=>(.tau (num p e n).1,(num p e n).2)
 | .sum p q,e,n=>(.sum (num p e n).1 (num q e (num p e n).2).1,(num q e (num p e n).2).2)
 | .par p q,e,n=>(.par (num p e n).1 (num q e (num p e n).2).1,(num q e (num p e n).2).2)
 | .res x p,e,n=>(.res (n+101) (num p (aI e x (n+101)) (n+1)).1,(num p (aI e x (n+101)) (n+1)).2)
 | .mat a b p,e,n=>(.mat (e a) (e b) (num p e n).1,(num p e n).2)
 | .rep p,e,n=>(.rep (num p e n).1,(num p e n).2)
theorem cQ:∀(p:P) (e:UInt8->Nat) (n:Nat),n<=(num p e n).2
 | .nil,_,_=>Mu _
 | .snd _ _ p,e,n=>cQ p e n
 | .mat _ _ p,e,n=>cQ p e n
 | .tau p,e,n=>cQ p e n
 | .rep p,e,n=>cQ p e n
 | .rcv _ x p,e,n=>by have :=cQ p (aI e x (n+101)) (n+1);simp only [num];omega
 | .res x p,e,n=>by have :=cQ p (aI e x (n+101)) (n+1);simp only [num];omega
 | .sum p q,e,n=>by have :=cQ p e n;have :=cQ q e (num p e n).2;simp only [num];omega
 | .par p q,e,n=>by have :=cQ p e n;have :=cQ q e (num p e n).2;simp only [num];omega
theorem AE.Ja {p:P}{u:U}{e:UInt8->Nat}{x:UInt8}{y:Nat}(he:∀c,p.Fr c->c≠x->e c≠y)(h:AE (aI e x y) p id u)(v:Nat):AE (aI e x v) p (aI id y v) u:=by
 refine(h.map λn=>if n=y then v else n).congr (λc H=>?_) λz _=>?_
 ·unfold aI;by_cases G:c=x
  ·simp [G]
  ·simp only [MJ G];rw [MJ (he c H G)]
 ·unfold aI;rfl
theorem fE:∀(p:P) (e:UInt8->Nat) (n:Nat),(∀c,p.Fr c->e c<=n+100)->AE e p id (num p e n).1
 | .nil,_,_,_=>trivial
 | .snd a b p,e,n,h=>⟨rfl,rfl,fE p e n λc G=>h c (.inr (.inr G))⟩
 | .mat a b p,e,n,h=>⟨rfl,rfl,fE p e n λc G=>h c (.inr (.inr G))⟩
 | .tau p,e,n,h=>fE p e n h
 | .rep p,e,n,h=>fE p e n h
 | .sum p q,e,n,h=>⟨fE p e n λc G=>h c (.inl G),fE q e _ λc G=>by have :=h c (.inr G);have :=cQ p e n;omega⟩
 | .par p q,e,n,h=>⟨fE p e n λc G=>h c (.inl G),fE q e _ λc G=>by have :=h c (.inr G);have :=cQ p e n;omega⟩
 | .rcv a x p,e,n,h=>⟨rfl,λv=>AE.Ja (λc G H=>by have :=h c (.inr ⟨H,G⟩);omega) (fE p _ _ λc G=>by
   unfold aI;split
   ·omega
   ·rename_i H;have :=h c (.inr ⟨H,G⟩);omega) v⟩
 | .res x p,e,n,h=>λv=>AE.Ja (λc G H=>by have :=h c ⟨H,G⟩;omega) (fE p _ _ λc G=>by
   unfold aI;split
   ·omega
   ·rename_i H;have :=h c ⟨H,G⟩;omega) v
theorem eF:∀(p:P) (e:UInt8->Nat) (n:Nat),(BV (num p e n).1).Nodup/\∀x∈BV (num p e n).1,n+100< x/\x<=(num p e n).2+100
 | .nil,_,_=>⟨NY,λx h=>by cases h⟩
 | .snd _ _ p,e,n=>eF p e n
 | .mat _ _ p,e,n=>eF p e n
 | .tau p,e,n=>eF p e n
 | .rep p,e,n=>eF p e n
 | .rcv _ x p,e,n=>by
  obtain⟨J,H⟩:=eF p (aI e x (n+101)) (n+1);have :=cQ p (aI e x (n+101)) (n+1);refine⟨Nw.2 ⟨λh=>by have :=H _ h;omega,J⟩,λy G=>?_⟩;simp only [num];rcases MH.1 G with rfl | G
  ·omega
  ·have :=H y G;omega
 | .res x p,e,n=>by
  obtain⟨J,H⟩:=eF p (aI e x (n+101)) (n+1);have :=cQ p (aI e x (n+101)) (n+1);refine⟨Nw.2 ⟨λh=>by have :=H _ h;omega,J⟩,λy G=>?_⟩;simp only [num];rcases MH.1 G with rfl | G
  ·omega
  ·have :=H y G;omega
 | .sum p q,e,n=>by
  obtain⟨J,H⟩:=eF p e n;obtain⟨V,h4⟩:=eF q e (num p e n).2;have :=cQ p e n;have :=cQ q e (num p e n).2;refine⟨M6.2 ⟨J,V,λa ha b hb=>by have :=H a ha;have :=h4 b hb;omega⟩,λy G=>?_⟩;simp only [num];rcases My.1 G with G | G
  ·have :=H y G;omega
  ·have :=h4 y G;omega
 | .par p q,e,n=>by
  obtain⟨J,H⟩:=eF p e n;obtain⟨V,h4⟩:=eF q e (num p e n).2;have :=cQ p e n;have :=cQ q e (num p e n).2;refine⟨M6.2 ⟨J,V,λa ha b hb=>by have :=H a ha;have :=h4 b hb;omega⟩,λy G=>?_⟩;simp only [num];rcases My.1 G with G | G
  ·have :=H y G;omega
  ·have :=h4 y G;omega
theorem Ke (p:P)(e:UInt8->Nat)(n:Nat)(h:∀c,p.Fr c->e c<=n+100):Uq (num p e n).1:=by
 obtain⟨G,H⟩:=eF p e n;refine⟨G,λx J V=>?_⟩;obtain⟨c,W,Z⟩:=(fE p e n h).symm.free x V;have h3:=H x J;have h4:=h c W;have h5:e c=x:=Z;omega
def e0 (c:UInt8):Nat:=c.toNat - 97
def σ0 (y:Nat):Nat:=y+97
def ρ0 (y:Nat):UInt8:=UInt8.ofNat (97+y)
theorem bg {c:UInt8}(h:lt c=true):97<=c.toNat/\c.toNat<=122:=by
 simp only [lt,Mp,Mz]at h;exact⟨ML.1 h.1,ML.1 h.2⟩
theorem nK {c:UInt8}(h:97<=c.toNat/\c.toNat<=122):lt c=true:=by
 simp only [lt,Mp,Mz];exact⟨ML.2 h.1,ML.2 h.2⟩
theorem eG {y:Nat}(h:y< 26):(ρ0 y).toNat=σ0 y:=by
 unfold ρ0 σ0;rw [NB];omega
theorem ri {p:P}(h:∀c,p.Fr c->lt c=true):AE UInt8.toNat p σ0 (num p e0 0).1/\Uq (num p e0 0).1/\(∀y,(num p e0 0).1.Fr y->y< 26)/\∀x∈BV (num p e0 0).1,26<=x:=by
 have he:∀c,p.Fr c->e0 c<=0+100:=λc G=>by have :=bg (h c G);unfold e0;omega
 have ha:=fE p e0 0 he;refine⟨(ha.map (·+97)).congr (λc G=>?_) λy _=>rfl,Ke p e0 0 he,λy H=>?_,λx J=>?_⟩
 ·have :=bg (h c G);unfold e0;omega
 ·obtain⟨c,G,e⟩:=ha.symm.free y H;have :=bg (h c G);have e:e0 c=y:=e;unfold e0 at e;omega
 ·have :=(eF p e0 0).2 x J;omega
theorem iu {c:UInt8}(h:lt c=true):nm c=true:=by
 simp only [lt,nm]at*;rw [h];rfl
theorem r6 {c:UInt8}(h:lt c=true):ngr c:=by
 have :=bg h;right;omega
def di (s:Tx):Prop:=s.length<=300/\∃t:P,t.Al (λc=>lt c=true)/\t.text=s/\t.size<=60
def kX (l:Lv):Tk:=λc=>lt c&&l.has (e0 c)
noncomputable def Bj (r:List Nat×Lv):Option Tx:=
 if(max r.1.length (an r.2)<=5/\r.1.length+thAll r.2<=8)/\fk r.1.length r.2.isNil (thBad r.2) (kX r.2)=false/\di (aR r.1 (thS r.2) ρ0 (kX r.2))then some (aR r.1 (thS r.2) ρ0 (kX r.2))else none
noncomputable def jP (u:U):Option Tx:=Bj (td u)
theorem gO (u:U):jP u=if(a7 u<=5/\cB u<=8)/\de u (kX (td u).2)=false/\di (LS u ρ0 (kX (td u).2))then some (LS u ρ0 (kX (td u).2))else none:=rfl
structure Nu (u:U):Prop where
 uq:Uq u
 fr:∀y,u.Us y->y< 26
 bv:∀x∈BV u,26<=x
theorem pW {u:U}(h:Nu u)(c:UInt8):kX (td u).2 c=true↔lt c=true/\u.Us (e0 c):=by
 unfold kX;rw [Mp];refine and_congr_right λG=>fI u _ λhb=>?_
 have :=h.bv _ hb;have :=bg G;unfold e0 at*;omega
theorem Nu.Mb {u:U}(h:Nu u):Ip u ρ0 (kX (td u).2):=by
 refine⟨λy G=>?_,λy z G W e=>?_⟩
 ·have H:=h.fr y G;have J:=eG H;have V:lt (ρ0 y)=true:=nK (by rw [J];unfold σ0;omega);refine⟨(pW h _).2 ⟨V,?_⟩,V⟩;have:e0 (ρ0 y)=y:=by unfold e0;rw [J];unfold σ0;omega
  rw [this];exact G
 ·have H:=eG (h.fr y G);have J:=eG (h.fr z W);rw [e,J]at H;unfold σ0 at H;omega
structure JF (u:U)(s:Tx)(t:P)(v:U):Prop where
 text:t.text=s
 ls:s=LS u ρ0 (kX (td u).2)
 ae:AE UInt8.toNat t (λy=>(ρ0 y).toNat) v
 al:t.Al λc=>lt c=true
 arr:L0 u v
 len:s.length<=300
 size:t.size<=60
 most:a7 u<=5
 all:cB u<=8
 bad:de u (kX (td u).2)=false
theorem T.Al.wf:∀{t:P},t.Al (λc=>lt c=true)->t.wf=true
 | .nil,_=>rfl
 | .snd a b p,⟨G,H,h⟩=>by simp [T.wf,iu G,iu H,T.Al.wf h]
 | .rcv a b p,⟨G,H,h⟩=>by simp [T.wf,iu G,iu H,T.Al.wf h]
 | .mat a b p,⟨G,H,h⟩=>by simp [T.wf,iu G,iu H,T.Al.wf h]
 | .tau p,h=>T.Al.wf (t:=p) h
 | .rep p,h=>T.Al.wf (t:=p) h
 | .sum p q,⟨G,H⟩=>by simp [T.wf,T.Al.wf G,T.Al.wf H]
 | .par p q,⟨G,H⟩=>by simp [T.wf,T.Al.wf G,T.Al.wf H]
 | .res x p,⟨G,h⟩=>by simp [T.wf,iu G,T.Al.wf h]
theorem T.Al.eb:∀{t:P} (k:Nat),t.Al (λc=>lt c=true)->Eb k t
 | .nil,_,_=>trivial
 | .snd a b p,k,⟨G,H,h⟩=>⟨mW G,mW H,T.Al.eb k h⟩
 | .mat a b p,k,⟨G,H,h⟩=>⟨mW G,mW H,T.Al.eb k h⟩
 | .rcv a b p,k,⟨G,H,h⟩=>⟨mW G,⟨r6 H,λz J _=>(T.Al.eb k h).free z J⟩,T.Al.eb (k+1) h⟩
 | .tau p,k,h=>T.Al.eb (t:=p) k h
 | .rep p,k,h=>T.Al.eb (t:=p) k h
 | .sum p q,k,⟨G,H⟩=>⟨T.Al.eb k G,T.Al.eb k H⟩
 | .par p q,k,⟨G,H⟩=>⟨T.Al.eb k G,T.Al.eb k H⟩
 | .res x p,k,⟨G,h⟩=>⟨⟨r6 G,λz J _=>(T.Al.eb k h).free z J⟩,T.Al.eb (k+1) h⟩
theorem T.Al.free {D:UInt8->Prop}:∀{t:P},t.Al D->∀z,t.Fr z->D z
 | .snd a b p,⟨H,J,h⟩,z,G=>by
  rcases G with rfl | rfl | G
  ·exact H
  ·exact J
  ·exact T.Al.free h z G
 | .mat a b p,⟨H,J,h⟩,z,G=>by
  rcases G with rfl | rfl | G
  ·exact H
  ·exact J
  ·exact T.Al.free h z G
 | .rcv a b p,⟨H,J,h⟩,z,G=>by
  rcases G with rfl | G
  ·exact H
  ·exact T.Al.free h z G.2
 | .res x p,⟨H,h⟩,z,G=>T.Al.free h z G.2
 | .tau p,h,z,G=>T.Al.free (t:=p) h z G
 | .rep p,h,z,G=>T.Al.free (t:=p) h z G
 | .sum p q,⟨H,J⟩,z,G=>G.elim (T.Al.free H z) (T.Al.free J z)
 | .par p q,⟨H,J⟩,z,G=>G.elim (T.Al.free H z) (T.Al.free J z)
theorem Gf {u:U}(h:Nu u){s:Tx}(G:jP u=some s):∃t v,JF u s t v:=by
 rw [gO]at G;split at G
 ·rename_i W;obtain⟨⟨Z,h2⟩,H,h4,t',h5,h6,h7⟩:=W;cases G;obtain⟨t,v,J,k2,V,k4⟩:=arr u.size u ρ0 _ (Mu _) h.uq h.Mb H;have:t=t':=eZ V.wf h5.wf (J.trans h6.symm);subst this;exact⟨t,v,J,rfl,k2,V,k4,h4,h7,Z,h2,H⟩
 ·cases G
end Go.Proofs.YtdecokaadekjnaaGreat
namespace Go.Proofs.YtdecokaadekjnaaGreat
open Go Go.RowKit
structure Rd (w:World)(r:Nat)(s:Tx)(i:Nat)(bad:Bool):Prop where
 lt:r< w.heap.size
 le:i<=s.length
 c0:w.cell? ⟨r,0,none⟩=some (.string (ax s))
 c1:w.cell? ⟨r,1,none⟩=some (.int .i64 i)
 c2:w.cell? ⟨r,2,none⟩=some (.bool bad)
 f1:w.frozen? ⟨r,1,none⟩=false
 f2:w.frozen? ⟨r,2,none⟩=false
theorem Rd.same {w w':World}{r:Nat}{s:Tx}{i:Nat}{bad:Bool}(h:Rd w r s i bad)(W:w.heap.size<=w'.heap.size)(hb:w'.heap[r]?=w.heap[r]?):Rd w' r s i bad:=by
 obtain⟨Z,G,H,h4,h5,J,V⟩:=h;refine⟨by omega,G,?_,?_,?_,?_,?_⟩
 ·rw [Mn (w:=w) hb];exact H
 ·rw [Mn (w:=w) hb];exact h4
 ·rw [Mn (w:=w) hb];exact h5
 ·rw [MU (w:=w) hb];exact J
 ·rw [MU (w:=w) hb];exact V
theorem Rd.setAt {w:World}{r:Nat}{s:Tx}{i j:Nat}{bad:Bool}(h:Rd w r s i bad)(G:j<=s.length):Rd (w.setCell ⟨r,1,none⟩ (.int .i64 j)) r s j bad:=
 ⟨by rw [M9];exact h.lt,G,by rw [Mr _ _ _ _ (by simp)];exact h.c0,MI _ _ _ h.c1,by rw [Mr _ _ _ _ (by simp)];exact h.c2,by rw [MG];exact h.f1,by rw [MG];exact h.f2⟩
theorem Rd.yh {w:World}{r:Nat}{s:Tx}{i:Nat}{bad:Bool}(h:Rd w r s i bad):Rd (w.setCell ⟨r,2,none⟩ (.bool true)) r s i true:=
 ⟨by rw [M9];exact h.lt,h.le,by rw [Mr _ _ _ _ (by simp)];exact h.c0,by rw [Mr _ _ _ _ (by simp)];exact h.c1,MI _ _ _ h.c2,by rw [MG];exact h.f1,by rw [MG];exact h.f2⟩
abbrev Kr (r:Nat)(w w':World):Prop:=Kp w w' λg=>g=r
theorem Kr.refl (r:Nat)(w:World):Kr r w w:=Kp.ah (Ex.refl w) _
theorem Kr.trans {r:Nat}{a b c:World}(h:Kr r a b)(k:Kr r b c):Kr r a c:=Kp.trans h k λ _ _ h=>h
theorem Kr.ex {r:Nat}{w w':World}(h:Ex w w'):Kr r w w':=Kp.ah h _
theorem Kr.set {r:Nat}(w:World)(j:Nat)(v:Value):Kr r w (w.setCell ⟨r,j,none⟩ v):=Kp.set (S:=λg=>g=r) (Kr.refl r w) rfl v
theorem JK {w:World}{r:Nat}{s:Tx}{i:Nat}{bad:Bool}(hs:s.length<=1099511627776)(h:Rd w r s i bad){R:UInt8->PV}
  (hR:∀w',Kr r w w'->Rd w' r s (if i< s.length then i+1 else i) (bad||decide (s.length<=i))->R (if i< s.length then bt s i else 0) w'):PW 207 #[ptr r] w (aw [.c] R):=by
 refine mC _ w R ?_;dsimp only [go_sem];dsimp only [go_sem,UInt8.reduceOfNat,UInt32.reduceOfNat,Nat.reduceAdd];have hle:=h.le;refine⟨λw'=>Ex w w',λw1 W=>⟨W▸Ex.drew w,r,0,rfl,i,λw' H=>(h.same H.size (H.block r h.lt)).c1,r,0,rfl,s,λw' H=>(h.same H.size (H.block r h.lt)).c0,λhc=>?_,λhc=>?_⟩⟩
 ·have G:Ex w w1:=W▸Ex.drew w;have V:=h.same G.size (G.block r h.lt);have hc:=MN hc;refine⟨r,0,rfl,⟨⟨_,V.c2⟩,V.f2⟩,λw2 J=>?_⟩;subst J;have :=hR _ (Kr.trans (Kr.ex G) (Kr.set w1 2 _)) (by
   rw [MJ (by omega),show decide (s.length<=i)=true from N5 (by omega),Bool.or_true];exact V.yh)
  rw [MJ (by omega)]at this;exact this
 ·have G:Ex w w1:=W▸Ex.drew w;have V:=h.same G.size (G.block r h.lt);have hc:=MO hc;have α:i< s.length:=by omega
  refine⟨r,0,rfl,i,V.c1,by omega,r,0,rfl,⟨⟨_,V.c1⟩,V.f1⟩,λw2 J=>?_⟩;have e:((i:Int)+1)=((i+1:Nat):Int):=by omega
  rw [e]at J;have h2:Rd w2 r s (i+1) bad:=J▸V.setAt (by omega);have k2:Kr r w w2:=J▸Kr.trans (Kr.ex G) (Kr.set w1 1 _);refine⟨λw'=>Ex w2 w',λw3 β=>⟨β▸Ex.drew w2,r,0,rfl,s,λw' H=>(h2.same H.size (H.block r h2.lt)).c0,r,0,rfl,(i+1:Nat),λw' H=>(h2.same H.size (H.block r h2.lt)).c1,by omega,⟨by omega,by omega⟩,?_⟩⟩;have Z:Ex w2 w3:=β▸Ex.drew w2;have e2:Int.toNat (((i+1:Nat):Int) - 1)=i:=by omega
  rw [e2];have :=hR w3 (Kr.trans k2 (Kr.ex Z)) (by
   rw [MZ α,show decide (s.length<=i)=false from N9 (by omega),OT];exact h2.same Z.size (Z.block r h2.lt))
  rw [MZ α]at this;exact this
theorem sE {c:UInt8}{w:World}{R:Bool->PV}(h:R (lt c) w):PW 128 #[.int .u8 c.toNat] w (aw [.b] R):=by
 refine pL c w R ?_;dsimp only [go_sem];dsimp only [go_sem,UInt8.reduceOfNat,UInt32.reduceOfNat,Nat.reduceAdd];unfold lt at h;refine⟨λG=>?_,λG=>?_⟩
 ·rw [G]at h;simpa using h
 ·rw [G]at h;simpa using h
structure Nx (s:Tx)(i:Nat)(bad:Bool)(ok:UInt8->Prop)(c:UInt8)(j:Nat)(bad':Bool):Prop where
 le:i<=j
 fine:bad'=false->bad=false/\i< s.length/\j=i+1/\c=bt s i/\ok c
 good:bad=false->i< s.length->ok (bt s i)->bad'=false
theorem nG {w:World}{r:Nat}{s:Tx}{i:Nat}{bad:Bool}(G:s.length<=1099511627776)(h:Rd w r s i bad){R:UInt8->PV}
  (hR:∀c j bad' w',Kr r w w'->Rd w' r s j bad'->Nx s i bad (λ _=>True) c j bad'->R c w'):PW 207 #[ptr r] w (aw [.c] R):=by
 refine JK G h λw' k H=>hR _ _ _ w' k H ⟨by split<;>omega,λhb=>?_,λhb hi _=>?_⟩
 ·simp only [NR,Mw]at hb;rw [MZ (by omega),MZ (by omega)];exact⟨hb.1,by omega,rfl,rfl,trivial⟩
 ·rw [hb,O9];exact N9 (by omega)
theorem xH {w:World}{r:Nat}{s:Tx}{i:Nat}{bad:Bool}(Z:s.length<=1099511627776)(h:Rd w r s i bad){R:UInt8->PV}
  (hR:∀c j bad' w',Kr r w w'->Rd w' r s j bad'->Nx s i bad (λc=>lt c=true) c j bad'->R c w'):PW 208 #[ptr r] w (aw [.c] R):=by
 refine lY _ w R ?_;dsimp only [go_sem];dsimp only [go_sem,UInt8.reduceOfNat,UInt32.reduceOfNat,Nat.reduceAdd];refine nG Z h λc j bad' w1 W J G=>sE ⟨λH=>?_,λH=>?_⟩
 ·refine⟨r,0,rfl,⟨⟨_,J.c2⟩,J.f2⟩,λw2 V=>?_⟩;subst V;refine hR c j true _ (Kr.trans W (Kr.set w1 2 _)) J.yh ⟨G.le,λhb=>(by cases hb),λhb hi ho=>?_⟩;obtain⟨_,_,_,e,_⟩:=G.fine (G.good hb hi trivial);rw [e]at H;rw [ho]at H;cases H
 ·refine hR c j bad' w1 W J ⟨G.le,λhb=>?_,λhb hi _=>G.good hb hi trivial⟩;obtain⟨a,b,c,d,_⟩:=G.fine hb;exact⟨a,b,c,d,by simpa using H⟩
theorem pe {w:World}{r:Nat}{s:Tx}{i:Nat}{bad:Bool}{c:UInt8}(Z:s.length<=1099511627776)(h:Rd w r s i bad){R:PV}
  (hR:∀j bad' w',Kr r w w'->Rd w' r s j bad'->Nx s i bad (λd=>d=c) c j bad'->R w'):PW 209 #[ptr r,.int .u8 c.toNat] w (aw [] R):=by
 refine mB _ c w R ?_;dsimp only [go_sem];dsimp only [go_sem,UInt8.reduceOfNat,UInt32.reduceOfNat,Nat.reduceAdd];refine nG Z h λd j bad' w1 W J G=>⟨λH=>?_,λH=>?_⟩
 ·refine⟨r,0,rfl,⟨⟨_,J.c2⟩,J.f2⟩,λw2 V=>?_⟩;subst V;refine hR j true _ (Kr.trans W (Kr.set w1 2 _)) J.yh ⟨G.le,λhb=>(by cases hb),λhb hi ho=>?_⟩;obtain⟨_,_,_,e,_⟩:=G.fine (G.good hb hi trivial);rw [e,ho]at H;simp at H
 ·have H:d=c:=by simpa using H
  subst H;refine hR j bad' w1 W J ⟨G.le,λhb=>?_,λhb hi _=>G.good hb hi trivial⟩;obtain⟨a,b,c,d,_⟩:=G.fine hb;exact⟨a,b,c,d,rfl⟩
structure Nd (w:World)(b:Nat)(k a c:UInt8)(vs:Value):Prop where
 lt:b< w.heap.size
 c0:w.cell? ⟨b,0,none⟩=some (.int .u8 k.toNat)
 c1:w.cell? ⟨b,1,none⟩=some (.int .u8 a.toNat)
 c2:w.cell? ⟨b,2,none⟩=some (.int .u8 c.toNat)
 c3:w.cell? ⟨b,3,none⟩=some vs
 f:∀j,w.frozen? ⟨b,j,none⟩=false
theorem Nd.same {w w':World}{b:Nat}{k a c:UInt8}{vs:Value}(h:Nd w b k a c vs)(V:w.heap.size<=w'.heap.size)(hb:w'.heap[b]?=w.heap[b]?):Nd w' b k a c vs:=by
 obtain⟨W,G,H,h4,h5,J⟩:=h;refine⟨by omega,?_,?_,?_,?_,λj=>?_⟩
 ·rw [Mn (w:=w) hb];exact G
 ·rw [Mn (w:=w) hb];exact H
 ·rw [Mn (w:=w) hb];exact h4
 ·rw [Mn (w:=w) hb];exact h5
 ·rw [MU (w:=w) hb];exact J j
structure TS (w0 w:World)(r b:Nat)(s:Tx)(i:Nat)(bad:Bool)(k a c:UInt8)(vs:Value):Prop where
 rd:Rd w r s i bad
 nd:Nd w b k a c vs
 kr:Kr r w0 w
 hr:r< w0.heap.size
 hb:w0.heap.size<=b
section
variable {w0 w w':World} {r b:Nat} {s:Tx} {i j:Nat} {bad bad':Bool} {k a c x:UInt8} {vs:Value}
theorem TS.go (h:TS w0 w r b s i bad k a c vs)(kr:Kr r w w')(hr:Rd w' r s j bad'):TS w0 w' r b s j bad' k a c vs:=by
 have :=h.hr;have :=h.hb;exact⟨hr,h.nd.same kr.size (kr.block b h.nd.lt (by omega)),Kr.trans h.kr kr,h.hr,h.hb⟩
theorem TS.ex (h:TS w0 w r b s i bad k a c vs)(G:Ex w w'):TS w0 w' r b s i bad k a c vs:=h.go (Kr.ex G) (h.rd.same G.size (G.block r h.rd.lt))
theorem TS.rC (h:TS w0 w r b s i bad k a c vs)(j:Nat)(v:Value):Rd (w.setCell ⟨b,j,none⟩ v) r s i bad/\Kr r w0 (w.setCell ⟨b,j,none⟩ v):=by
 have J:=h.hr;have V:=h.hb;refine⟨h.rd.same (by rw [M9];exact Mu _) (O3 _ _ _ _ (show r≠b by omega)),⟨h.kr.os,h.kr.tape,h.kr.output,by rw [M9];exact h.kr.size,λg G H=>?_⟩⟩;rw [O3 _ _ _ _ (show g≠b by omega)];exact h.kr.block g G H
theorem TS.De (h:TS w0 w r b s i bad k a c vs)(hw:w'=w.setCell ⟨b,0,none⟩ (.int .u8 x.toNat)):TS w0 w' r b s i bad x a c vs:=by
 subst hw;obtain⟨G,H⟩:=h.rC 0 (.int .u8 x.toNat);exact⟨G,⟨by rw [M9];exact h.nd.lt,MI _ _ _ h.nd.c0,by rw [Mr _ _ _ _ (by simp)];exact h.nd.c1,by rw [Mr _ _ _ _ (by simp)];exact h.nd.c2,by rw [Mr _ _ _ _ (by simp)];exact h.nd.c3,λj=>by rw [MG];exact h.nd.f j⟩,H,h.hr,h.hb⟩
theorem TS.zV (h:TS w0 w r b s i bad k a c vs)(hw:w'=w.setCell ⟨b,1,none⟩ (.int .u8 x.toNat)):TS w0 w' r b s i bad k x c vs:=by
 subst hw;obtain⟨G,H⟩:=h.rC 1 (.int .u8 x.toNat);exact⟨G,⟨by rw [M9];exact h.nd.lt,by rw [Mr _ _ _ _ (by simp)];exact h.nd.c0,MI _ _ _ h.nd.c1,by rw [Mr _ _ _ _ (by simp)];exact h.nd.c2,by rw [Mr _ _ _ _ (by simp)];exact h.nd.c3,λj=>by rw [MG];exact h.nd.f j⟩,H,h.hr,h.hb⟩
theorem TS.rJ (h:TS w0 w r b s i bad k a c vs)(hw:w'=w.setCell ⟨b,2,none⟩ (.int .u8 x.toNat)):TS w0 w' r b s i bad k a x vs:=by
 subst hw;obtain⟨G,H⟩:=h.rC 2 (.int .u8 x.toNat);exact⟨G,⟨by rw [M9];exact h.nd.lt,by rw [Mr _ _ _ _ (by simp)];exact h.nd.c0,by rw [Mr _ _ _ _ (by simp)];exact h.nd.c1,MI _ _ _ h.nd.c2,by rw [Mr _ _ _ _ (by simp)];exact h.nd.c3,λj=>by rw [MG];exact h.nd.f j⟩,H,h.hr,h.hb⟩
theorem TS.DZ (h:TS w0 w r b s i bad k a c vs){v:Value}(hw:w'=w.setCell ⟨b,3,none⟩ v):TS w0 w' r b s i bad k a c v:=by
 subst hw;obtain⟨G,H⟩:=h.rC 3 v;exact⟨G,⟨by rw [M9];exact h.nd.lt,by rw [Mr _ _ _ _ (by simp)];exact h.nd.c0,by rw [Mr _ _ _ _ (by simp)];exact h.nd.c1,by rw [Mr _ _ _ _ (by simp)];exact h.nd.c2,MI _ _ _ h.nd.c3,λj=>by rw [MG];exact h.nd.f j⟩,H,h.hr,h.hb⟩
theorem TS.Gq (h:TS w0 w r b s i bad k a c vs)(hw:w'=w.setCell ⟨r,2,none⟩ (.bool true)):TS w0 w' r b s i true k a c vs:=by
 subst hw;exact h.go (Kr.set w 2 _) h.rd.yh
theorem TS.cell (h:TS w0 w r b s i bad k a c vs):((∃u:Value,w.cell? ⟨b,0,none⟩=some u)/\w.frozen? ⟨b,0,none⟩=false)/\((∃u:Value,w.cell? ⟨b,1,none⟩=some u)/\w.frozen? ⟨b,1,none⟩=false)/\
  ((∃u:Value,w.cell? ⟨b,2,none⟩=some u)/\w.frozen? ⟨b,2,none⟩=false)/\((∃u:Value,w.cell? ⟨b,3,none⟩=some u)/\w.frozen? ⟨b,3,none⟩=false)/\((∃u:Value,w.cell? ⟨r,2,none⟩=some u)/\w.frozen? ⟨r,2,none⟩=false):=
 ⟨⟨⟨_,h.nd.c0⟩,h.nd.f 0⟩,⟨⟨_,h.nd.c1⟩,h.nd.f 1⟩,⟨⟨_,h.nd.c2⟩,h.nd.f 2⟩,⟨⟨_,h.nd.c3⟩,h.nd.f 3⟩,⟨⟨_,h.rd.c2⟩,h.rd.f2⟩⟩
end
end Go.Proofs.YtdecokaadekjnaaGreat
