/- Part 2 of a proof of what the last text states; no condition. -/
import Derived.Test.YthekamjhgabkjaaGreatAf1
set_option maxRecDepth 100000
set_option maxHeartbeats 4000000
set_option linter.defProp false
set_option linter.unusedVariables false
set_option linter.unusedSimpArgs false
namespace Go.Proofs.YthekamjhgabkjaaGreat
open Go Go.RowKit
def ib {s:Tx}{c:UInt8}(hs:s.length<=1099511627776){w:World}{R:Bool->Qx}(h:R (decide (c∈s)) w):Qy 92 #[.string (ay s),.int .u8 c.toNat] w (ax [.b] R):=by
 refine xe s c w R ?_;dsimp only [go_sem];dsimp only [go_sem,Nat.reduceAdd];refine⟨λi w'=>w=w'/\0<=i/\i<=s.length/\∀j:Nat,j< i->bt s j≠c,λi _=>((s.length:Int) - i).toNat,⟨rfl,by omega,by omega,λj J=>by omega⟩,λi w1 hI=>?_⟩;obtain⟨rfl,h0,h1,Z⟩:=hI;refine⟨λG=>⟨by simp at G;omega,λhe=>?_,λhe=>?_⟩,λG=>?_⟩
 ·simp only [Nj]at G he;rw [OS (he▸pv (by omega))]at h;exact h
 ·simp only [Nj,No]at G he;refine⟨by omega,⟨rfl,by omega,by omega,λj J=>?_⟩,by dsimp only;omega⟩;rcases ON j i.toNat with H | H
  ·exact Z j (by omega)
  ·have:j=i.toNat:=by omega
   rw [this];exact he
 ·simp only [No]at G;have hn:¬c∈s:=λhm=>by
   obtain⟨j,J,e⟩:=Bo hm;exact Z j (by omega) e
  rw [OD hn]at h;exact h
def vS {s:Tx}{i:Int}(H:0<=i)(h:i< s.length):List.drop i.toNat (List.take (i+1).toNat s)=[bt s i.toNat]:=by
 obtain⟨n,rfl⟩:∃n:Nat,i=n:=⟨i.toNat,by omega⟩
 have e:((n:Int)+1).toNat=n+1:=by omega
 have G:n< s.length:=by omega
 rw [e,Nf,List.drop_take,Nat.add_sub_cancel_left,bC G];rfl
def fN {s:Tx}{i:Int}(H:0<=i)(h:i< s.length):s.take (i+1).toNat=s.take i.toNat++[bt s i.toNat]:=by
 obtain⟨n,rfl⟩:∃n:Nat,i=n:=⟨i.toNat,by omega⟩
 have e:((n:Int)+1).toNat=n+1:=by omega
 have G:n< s.length:=by omega
 rw [e,Nf,List.take_add_one]
 congr 1
 simp [bt,M6 G]
def zj {s:Tx}{c:UInt8}(Z:s.length<=1099511627776){w:World}{R:aJ->Qx}(h:R (s.filter λd=>decide (d≠c)) w):Qy 140 #[.string (ay s),.int .u8 c.toNat] w (ax [.s] R):=by
 refine tq s c w R ?_;dsimp only [go_sem];dsimp only [go_sem,Nat.reduceAdd];refine⟨λout i w'=>w=w'/\0<=i/\i<=s.length/\out=(s.take i.toNat).filter λd=>decide (d≠c),λ _ i _=>((s.length:Int) - i).toNat,⟨rfl,by omega,by omega,rfl⟩,λout i w1 J=>?_⟩;obtain⟨rfl,H,h1,rfl⟩:=J;refine⟨λG=>?_,λG=>?_⟩
 ·simp only [Nj]at G;have hl:((s.take i.toNat).filter λd=>decide (d≠c)).length<=s.length:=N8 (Pe ..) (by rw [NW];omega);refine⟨by omega,λhe=>?_,λhe=>?_⟩
  ·simp only [Pa,No]at he;rw [vS H G];refine⟨by omega,by omega,by simp only [M0,Np];omega,by omega,⟨rfl,by omega,by omega,?_⟩,by dsimp only;omega⟩;rw [fN H G,List.filter_append,List.filter_cons,if_pos (by simpa using he),List.filter_nil]
  ·simp only [Bool.not_eq_false',Nj]at he;refine⟨by omega,⟨rfl,by omega,by omega,?_⟩,by dsimp only;omega⟩;rw [fN H G,List.filter_append,List.filter_cons,if_neg (by simpa using he),List.filter_nil,List.append_nil]
 ·simp only [No]at G;have:i.toNat=s.length:=by omega
  rw [this,NR];exact h
def kN {w1:World}(c:UInt8){H:World}{b:Nat}(hb:b=w1.heap.size)(h:H=w1.alloc (.cells #[.int .u8 c.toNat] 5)):
  ∀(j:Nat) (x:UInt8),[c][j]?=some x->H.cell? ⟨b,0+j,none⟩=some (.int .u8 x.toNat):=by
 intro j x G;subst hb h
 match j,G with
 | 0,G=>simp at G;subst G;exact aa rfl
 | j+1,G=>simp at G
def fT {s:Tx}{c:UInt8}(hs:kC s){w:World}{R:aJ->Qx}(h:∀s' w',Ex w w'->kC s'->(∀x,x∈s'↔x=c\/x∈s)->R s' w'):
  Qy 145 #[.string (ay s),.int .u8 c.toNat] w (ax [.s] R):=by
 refine uh s c w R ?_;dsimp only [go_sem];dsimp only [go_sem,Nat.reduceAdd];have hl:=hs.bound;refine⟨λi w'=>w=w'/\0<=i/\i<=s.length/\∀j:Nat,j< i->bt s j< c,λi _=>((s.length:Int) - i).toNat,⟨rfl,by omega,by omega,λj hj=>by omega⟩,λi w1 hI=>?_⟩;obtain⟨rfl,h0,h1,h2⟩:=hI;have put:(i=s.length\/c< bt s i.toNat)->∀w1,w1=w.drew->(0<=i/\i<=s.length)/\(0<=i/\i<=s.length)/\∀(b9:Nat) (J:World),b9=w1.heap.size->J=w1.alloc (.cells #[.int .u8 c.toNat] 5)->
   True/\∃(ε ζ n13 β:Nat) (H:aJ),(Value.slice (some ⟨b9,0,none⟩) 1 1)=Value.slice (some ⟨ε,ζ,none⟩) n13 β/\H.length=n13/\(∀(j:Nat) (x:UInt8),H[j]?=some x->J.cell? ⟨ε,ζ+j,none⟩=some (.int .u8 x.toNat))/\True/\
    ((s.take i.toNat).length+H.length<=4611686018427387904)/\((s.take i.toNat++H).length+(s.drop i.toNat).length<=4611686018427387904)/\R ((s.take i.toNat++H)++s.drop i.toNat) J:=by
  rintro hp w1 rfl
  refine⟨by omega,by omega,λb9 J hb hw=>⟨trivial,b9,0,1,1,[c],rfl,rfl,kN c hb hw,trivial,?_,?_,?_⟩⟩
  ·simp only [NW,M0,Np];omega
  ·simp only [Nb,NW,OB,M0,Np];omega
  ·have η:∀x∈s.take i.toNat,x< c:=by
    intro x G;obtain⟨j,hj,e⟩:=Bo G;rw [NW]at hj;have:bt (s.take i.toNat) j=bt s j:=by simp only [bt,List.getD_eq_getElem?_getD];rw [Og (by omega)]
    rw [<-e,this];exact h2 j (by omega)
   have θ:∀x∈s.drop i.toNat,c< x:=by
    rcases hp with hp | hp
    ·intro x G;rw [hp,Nf,O8]at G;cases G
    ·intro x G;have hi:i.toNat< s.length:=by
      rcases ON i.toNat s.length with h | h
      ·exact h
      ·rw [OT h]at G;cases G
     have hd:=bC hi;have ι:kC (s.drop i.toNat):=O3 (List.drop_sublist _ _) hs;rw [hd]at G ι;rcases Nw.1 G with rfl | G
     ·exact hp
     ·exact UInt8.lt_trans hp ((OU.1 ι).1 x G)
   refine h _ _ (hw▸(Ex.drew w).trans (Ex.alloc _ _)) ?_ ?_
   ·rw [NX];refine Pj.2 ⟨O3 (List.take_sublist _ _) hs,?_,?_⟩
    ·exact OU.2 ⟨θ,O3 (List.drop_sublist _ _) hs⟩
    ·intro x G y hy;rcases Nw.1 hy with rfl | hy
     ·exact η x G
     ·exact UInt8.lt_trans (η x G) (θ y hy)
   ·intro x;have:x∈s↔x∈s.take i.toNat\/x∈s.drop i.toNat:=by rw [<-Nk,Oi]
    rw [this];simp only [Nk,Nw,PO,Qg];constructor
    ·rintro((h | h) | h)
     ·exact .inr (.inl h)
     ·exact .inl h
     ·exact .inr (.inr h)
    ·rintro(h | h | h)
     ·exact .inl (.inr h)
     ·exact .inl (.inl h)
     ·exact .inr h
 have same:i< s.length->bt s i.toNat=c->R s w:=λhi he=>h s w (Ex.refl w) hs λx=>⟨.inr,λG=>G.elim (λe=>by rw [e,<-he];exact pv (by omega)) id⟩
 have fin:i< s.length->¬bt s i.toNat< c->¬bt s i.toNat=c->c< bt s i.toNat:=λ _ h1 h2=>by
  rcases UInt8.lt_or_lt_of_ne (P' h2)with h | h
  ·exact h
  ·exact absurd h h1
 refine⟨λhc=>?_,λhc=>?_⟩
 ·have Z:i< s.length:=by simpa using hc
  refine⟨by omega,λhb=>?_,λhb=>?_⟩
  ·simp only [Nj]at hb;refine⟨by omega,⟨rfl,by omega,by omega,λj hj=>?_⟩,by dsimp only;omega⟩;rcases ON j i.toNat with κ | κ
   ·exact h2 j (by omega)
   ·have:j=i.toNat:=by omega
    rw [this];exact hb
  ·simp only [No]at hb;refine⟨λ _=>⟨by omega,λhe=>same Z (by simpa using he),λhe=>?_⟩,λγ=>absurd hc (by rw [γ];simp)⟩;exact⟨λ _=>True,λw1 δ=>⟨trivial,put (.inr (fin Z hb (by simpa using he))) w1 δ⟩⟩
 ·have Z:i=s.length:=by simp at hc;omega
  refine⟨λγ=>absurd γ (by rw [hc];simp),λ _=>?_⟩;exact⟨λ _=>True,λw1 δ=>⟨trivial,put (.inl Z) w1 δ⟩⟩
def iA {s t:Tx}(hs:kC s)(ht:t.length<=1099511627776){w:World}{R:aJ->Qx}(h:∀G w',Ex w w'->kC G->(∀x,x∈G↔x∈s\/x∈t)->R G w'):
  Qy 142 #[.string (ay s),.string (ay t)] w (ax [.s] R):=by
 refine rK s t w R ?_;dsimp only [go_sem];dsimp only [go_sem,Nat.reduceAdd];refine⟨λout i w'=>Ex w w'/\0<=i/\i<=t.length/\kC out/\∀x,x∈out↔x∈s\/x∈t.take i.toNat,λ _ i _=>((t.length:Int) - i).toNat,⟨Ex.refl w,by omega,by omega,hs,by simp⟩,λout i w1 hI=>?_⟩;obtain⟨hx,h0,h1,h2,J⟩:=hI;refine⟨λH=>?_,λH=>?_⟩
 ·simp only [Nj]at H;refine⟨by omega,fT h2 λG w' Z β hm=>⟨by omega,⟨hx.trans Z,by omega,by omega,β,λx=>?_⟩,by dsimp only;omega⟩⟩;rw [hm,J,fN h0 H,List.mem_append,List.mem_singleton];constructor
  ·rintro(h | h | h)
   ·exact .inr (.inr h)
   ·exact .inl h
   ·exact .inr (.inl h)
  ·rintro(h | h | h)
   ·exact .inr (.inl h)
   ·exact .inr (.inr h)
   ·exact .inl h
 ·simp only [No]at H;have:i.toNat=t.length:=by omega
  rw [this,NR]at J;exact h out w1 hx h2 J
def rQ (s:Tx)(c:UInt8):Prop:=
 uH (λd=>decide (d∈s))=some c\/
 (uH (λd=>decide (d∈s))=none/\128<=c/\c<=191/\(∀d:UInt8,128<=d->d< c->d∈s)/\(c∉s\/c=191))
def BF (i:Nat)(h:i< DA.length):DA[i]=UInt8.ofNat (97+i):=by
 simp [DA]
def rX {f:UInt8->Bool}{c:UInt8}(h1:97<=c)(G:c<=122)(H:f c=true)(J:∀d:UInt8,97<=d->d< c->f d=false):DA.find? f=some c:=by
 have Z:97<=c.toNat:=NA.1 h1;have β:c.toNat<=122:=NA.1 G;have hl:DA.length=26:=by simp [DA]
 rw [List.find?_eq_some_iff_getElem];refine⟨H,c.toNat - 97,by omega,?_,λj hj=>?_⟩
 ·rw [BF];apply NK.1;rw [Om];omega
 ·rw [BF];have e:(UInt8.ofNat (97+j)).toNat=97+j:=by rw [Om];omega
  rw [J _ (NA.2 (by rw [e];show 97<=_;omega)) (N1.2 (by omega))];rfl
def vG {f:UInt8->Bool}(G:∀d:UInt8,97<=d->d<=122->f d=false):DA.find? f=none:=by
 rw [List.find?_eq_none];intro d hd;have H:DA.length=26:=by simp [DA]
 obtain⟨j,J,rfl⟩:=Od.1 hd;rw [BF];have e:(UInt8.ofNat (97+j)).toNat=97+j:=by rw [Om];omega
 rw [G _ (NA.2 (by rw [e];show 97<=_;omega)) (NA.2 (by rw [e];show _<=122;omega))];simp
def iy {s:Tx}(hs:s.length<=1099511627776){w:World}{R:UInt8->Qx}(h:∀c,rQ s c->R c w):Qy 78 #[.string (ay s)] w (ax [.c] R):=by
 refine qX s w R ?_;dsimp only [go_sem];dsimp only [go_sem,UInt8.reduceOfNat];refine⟨λc w'=>w=w'/\97<=c/\c<=123/\∀d:UInt8,97<=d->d< c->d∈s,λc _=>200 - c.toNat,⟨rfl,by decide,by decide,λd h1 h2=>absurd (UInt8.lt_of_le_of_lt h1 h2) (UInt8.lt_irrefl _)⟩,λc w1 hI=>?_⟩;obtain⟨rfl,h0,h1,h2⟩:=hI;have ι:=NA.1 h0;have κ:=NA.1 h1;refine⟨λJ=>ib hs ?_,λJ=>?_⟩
 ·simp only [Nj]at J;have δ:=NA.1 J;refine⟨λhm=>?_,λhm=>?_⟩
  ·simp only [Pa,No]at hm;refine h c (.inl (rX h0 J (by simpa using hm) λd G H=>by simpa using h2 d G H))
  ·simp only [Bool.not_eq_false',Nj]at hm;have e:(c+1).toNat=c.toNat+1:=by rw [Qh];show(c.toNat+1) % 256=_;exact Nat.mod_eq_of_lt (by have:(122:UInt8).toNat=122:=rfl;omega)
   have ε:(122:UInt8).toNat=122:=rfl;have η:(123:UInt8).toNat=123:=rfl;have μ:(97:UInt8).toNat=97:=rfl;refine⟨⟨rfl,NA.2 (by omega),NA.2 (by omega),λd G H=>?_⟩,by dsimp only;omega⟩;have γ:=N1.1 H;by_cases Z:d=c
   ·rw [Z];exact hm
   ·refine h2 d G (N1.2 ?_);have:d.toNat≠c.toNat:=λe=>Z (NK.1 e)
    omega
 ·simp only [No]at J;have δ:¬c.toNat<=122:=λhh=>J (NA.2 hh)
  have β:uH (λd=>decide (d∈s))=none:=by
   refine vG λd G H=>?_
   have γ:=NA.1 H;have ε:(122:UInt8).toNat=122:=rfl;simpa using h2 d G (N1.2 (by omega))
  refine⟨λc w'=>w=w'/\128<=c/\c<=191/\∀d:UInt8,128<=d->d< c->d∈s,λc _=>200 - c.toNat,⟨rfl,by decide,by decide,λd h1 h2=>absurd (UInt8.lt_of_le_of_lt h1 h2) (UInt8.lt_irrefl _)⟩,λc w1 hI=>?_⟩;obtain⟨rfl,k0,k1,k2⟩:=hI;have ν:=NA.1 k0;have ξ:=NA.1 k1;refine⟨λJ=>ib hs ?_,λJ=>?_⟩
  ·simp only [Nj]at J;have δ:=N1.1 J;have ζ:(191:UInt8).toNat=191:=rfl;have θ:(128:UInt8).toNat=128:=rfl;refine⟨λhm=>?_,λhm=>?_⟩
   ·simp only [Nj]at hm;have e:(c+1).toNat=c.toNat+1:=by rw [Qh];show(c.toNat+1) % 256=_;exact Nat.mod_eq_of_lt (by omega)
    refine⟨⟨rfl,NA.2 (by omega),NA.2 (by omega),λd G H=>?_⟩,by dsimp only;omega⟩;have γ:=N1.1 H;by_cases Z:d=c
    ·rw [Z];exact hm
    ·refine k2 d G (N1.2 ?_);have:d.toNat≠c.toNat:=λe=>Z (NK.1 e)
     omega
   ·simp only [No]at hm;exact h c (.inr ⟨β,k0,k1,k2,.inl hm⟩)
  ·simp only [No]at J;have δ:¬c.toNat< 191:=λhh=>J (N1.2 hh)
   have ζ:(191:UInt8).toNat=191:=rfl;exact h c (.inr ⟨β,k0,k1,k2,.inr (NK.1 (by omega))⟩)
def aU (t:P):t.size=1+(t.parts.map T.size).sum:=by
 cases t<;>simp [T.size,T.parts]<;>omega
def AN (l:List P)(k:Nat):((l.take k).map T.size).sum<=(l.map T.size).sum:=by
 conv=>rhs;rw [<-Oi k l]
 rw [N0,PA];omega
def dB (t:P):t.parts.length<=2:=by cases t<;>simp [T.parts]
def dz {t p:P}(h:p∈t.parts):p.size< t.size:=by
 cases t<;>simp only [T.parts,Nw,PO,Qg,List.mem_nil_iff]at h<;>simp only [T.size]
 all_goals first | exact h.elim | (rcases h with rfl | rfl<;>omega) | (subst h;omega)
def Fj:∀(n:Nat) {t:P},t.size<=n->Ok t->∀{w:World} {R:Int->Qx},(∀w',Ex w w'->R (t.size:Int) w')->Qy 131 #[.string (ay t.text)] w (ax [.i] R):=by
 intro n
 induction n with
 | zero=>intro t h;have :=aU t;omega
 | succ n ih=>
  intro t hn ok w R h;refine rG _ w R ?_;dsimp only [go_sem];dsimp only [go_sem,Nat.reduceAdd];refine cD ok λv w1 hx hs=>?_
  obtain⟨a,cap,hv⟩:=hs.slice;rw [Nq]at hv;have γ:=bc t;have hle:=ok.len;refine⟨a,t.parts.length,cap,hv,λm x w'=>Ex w w'/\Strs w' v (t.parts.map T.text)/\∃k:Nat,x=k/\k<=t.parts.length/\m=1+(((t.parts.take k).map T.size).sum:Int),λ _ x _=>((t.parts.length:Int) - x).toNat,
   ⟨hx,hs,0,rfl,by omega,by simp⟩,λm x w2 hI=>?_⟩
  obtain⟨H,J,k,rfl,hk,rfl⟩:=hI;refine⟨λhc=>?_,λhc=>?_⟩
  ·have G:k< t.parts.length:=by simpa using hc
   obtain⟨b,o,cp,e1,e2,e3⟩:=J.at (i:=k) (by rw [Nq];exact G);rw [Nq]at e1;refine⟨b,o,t.parts.length,cp,e1,by omega,by omega,(t.parts[k]).text,?_,?_⟩
   ·rw [Nf,NQ,e3,Ov]
   ·have hm:t.parts[k]∈t.parts:=NC G;refine ih (by have :=dz hm;omega) (ok.parts _ hm) λw3 Z=>?_
    have β:((t.parts.take (k+1)).map T.size).sum=((t.parts.take k).map T.size).sum+(t.parts[k]).size:=by
     rw [Ng G,N0,PA];simp
    have h1:=AN t.parts (k+1);have h2:=aU t;have h3:=dB t;refine⟨by omega,by omega,⟨H.trans Z,J.ex Z,k+1,by omega,G,by rw [β];omega⟩,by dsimp only;omega⟩
  ·have G:k=t.parts.length:=by simp at hc;omega
   subst G;have e:=aU t;rw [NR];have:(1:Int)+((t.parts.map T.size).sum:Int)=(t.size:Int):=by omega
   rw [this];exact h _ H
def du (c:UInt8):Bool:= !((65<=c&&c<=90)||128<=c)
def Ej {p:Tx}(hp:p.length<=1099511627776){w:World}{R:Bool->Qx}(h:R (p.all du) w):Qy 158 #[.string (ay p)] w (ax [.b] R):=by
 refine qU p w R ?_;dsimp only [go_sem];dsimp only [go_sem,Nat.reduceAdd];refine⟨λi w'=>w=w'/\0<=i/\i<=p.length/\∀j:Nat,j< i->du (bt p j)=true,λi _=>((p.length:Int) - i).toNat,⟨rfl,by omega,by omega,λj J=>by omega⟩,λi w1 hI=>?_⟩;obtain⟨rfl,h0,h1,Z⟩:=hI;have bad:i< p.length->du (bt p i.toNat)=false->R false w:=λhi hb=>by
  have:p.all du=false:=by
   rw [List.all_eq_false];exact⟨bt p i.toNat,pv (by omega),by simp [hb]⟩
  rw [this]at h;exact h
 have next:i< p.length->du (bt p i.toNat)=true->cW (i+1)/\(w=w/\0<=i+1/\i+1<=p.length/\∀j:Nat,j< i+1->du (bt p j)=true)/\((p.length:Int) - (i+1)).toNat< ((p.length:Int) - i).toNat:=λhi hb=>by
  refine⟨by omega,⟨rfl,by omega,by omega,λj J=>?_⟩,by omega⟩;rcases ON j i.toNat with H | H
  ·exact Z j (by omega)
  ·have:j=i.toNat:=by omega
   rw [this];exact hb
 refine⟨λG=>?_,λG=>?_⟩
 ·simp only [Nj]at G;refine⟨by omega,λa1=>⟨by omega,λa2=>⟨by omega,λa3=>bad G ?_,λa3=>next G ?_⟩,λa2=>bad G ?_⟩,λa1=>⟨by omega,λa3=>bad G ?_,λa3=>next G ?_⟩⟩<;>
   simp_all [du]
 ·simp only [No]at G;have:p.all du=true:=by
   rw [OV];intro x hx;obtain⟨j,J,rfl⟩:=Bo hx;exact Z j (by omega)
  rw [this]at h;exact h
def T.lw:P->Bool
 | .nil=>true | .snd a b p=>lt a&&lt b&&p.lw | .rcv a b p=>lt a&&lt b&&p.lw | .tau p=>p.lw | .sum p q=>p.lw&&q.lw
 | .par p q=>p.lw&&q.lw | .res x p=>lt x&&p.lw | .mat a b p=>lt a&&lt b&&p.lw | .rep p=>p.lw
def gA {c:UInt8}(h:lt c=true):nm c=true/\du c=true:=by
 simp only [lt,M8,Nj]at h;have h1:=NA.1 h.1;have Z:=NA.1 h.2;refine⟨by simp [nm,h.1,h.2],?_⟩;have J:(97:UInt8).toNat=97:=rfl;have H:(122:UInt8).toNat=122:=rfl;simp only [du,Pa,Oz,Bool.and_eq_false_iff,No];refine⟨.inr λG=>?_,λG=>?_⟩
 ·have :=NA.1 G;have e:(90:UInt8).toNat=90:=rfl;omega
 ·have :=NA.1 G;have e:(128:UInt8).toNat=128:=rfl;omega
def si {c:UInt8}(h:nm c=true)(k:du c=true):lt c=true:=by
 simp only [nm,lt,du,OK,M8,Nj,Pa,Oz,Bool.and_eq_false_iff,No]at*;rcases h with(h | h) | h
 ·exact h
 ·exact absurd h (by rcases k.1 with k | k<;>simp [k])
 ·exact absurd h k.2
def iH:∀{t:P},t.lw=true->t.wf=true/\t.text.all du=true
 | .nil,_=>⟨rfl,rfl⟩
 | .snd a b p,h=>by
  simp only [T.lw,M8]at h;have :=iH h.2;simp [T.wf,T.text,(gA h.1.1).1,(gA h.1.1).2,(gA h.1.2).1,(gA h.1.2).2,this.1,this.2];decide
 | .rcv a b p,h=>by
  simp only [T.lw,M8]at h;have :=iH h.2;simp [T.wf,T.text,(gA h.1.1).1,(gA h.1.1).2,(gA h.1.2).1,(gA h.1.2).2,this.1,this.2];decide
 | .mat a b p,h=>by
  simp only [T.lw,M8]at h;have :=iH h.2;simp [T.wf,T.text,(gA h.1.1).1,(gA h.1.1).2,(gA h.1.2).1,(gA h.1.2).2,this.1,this.2];decide
 | .res x p,h=>by
  simp only [T.lw,M8]at h;have :=iH h.2;simp [T.wf,T.text,(gA h.1).1,(gA h.1).2,this.1,this.2];decide
 | .tau p,h=>by have :=iH (t:=p) h;simp [T.wf,T.text,this.1,this.2];decide
 | .rep p,h=>by have :=iH (t:=p) h;simp [T.wf,T.text,this.1,this.2];decide
 | .sum p q,h=>by
  simp only [T.lw,M8]at h;have h1:=iH h.1;have G:=iH h.2;simp [T.wf,T.text,h1.1,h1.2,G.1,G.2];decide
 | .par p q,h=>by
  simp only [T.lw,M8]at h;have h1:=iH h.1;have G:=iH h.2;simp [T.wf,T.text,h1.1,h1.2,G.1,G.2];decide
def kH:∀{t:P},t.wf=true->t.text.all du=true->t.lw=true
 | .nil,_,_=>rfl
 | .snd a b p,h,k=>by
  simp only [T.wf,T.text,M8,Oj]at h k;simp [T.lw,si h.1.1 k.1,si h.1.2 k.2.2.1,kH h.2 k.2.2.2.2]
 | .rcv a b p,h,k=>by
  simp only [T.wf,T.text,M8,Oj]at h k;simp [T.lw,si h.1.1 k.1,si h.1.2 k.2.2.1,kH h.2 k.2.2.2.2]
 | .mat a b p,h,k=>by
  simp only [T.wf,T.text,M8,Oj]at h k;simp [T.lw,si h.1.1 k.2.1,si h.1.2 k.2.2.2.1,kH h.2 k.2.2.2.2.2]
 | .res x p,h,k=>by
  simp only [T.wf,T.text,M8,Oj]at h k;simp [T.lw,si h.1 k.2.1,kH h.2 k.2.2.2]
 | .tau p,h,k=>by simp only [T.text,M8,Oj]at k;exact kH (t:=p) h k.2.2
 | .rep p,h,k=>by simp only [T.text,M8,Oj]at k;exact kH (t:=p) h k.2
 | .sum p q,h,k=>by
  simp only [T.wf,T.text,M8,Oj,PB]at h k;simp [T.lw,kH h.1 k.2.1,kH h.2 k.2.2.2.1]
 | .par p q,h,k=>by
  simp only [T.wf,T.text,M8,Oj,PB]at h k;simp [T.lw,kH h.1 k.2.1,kH h.2 k.2.2.2.1]
structure Good (t:P):Prop where
 lw:t.lw=true
 len:t.text.length<=300
 size:t.size<=60
def Good.ok {t:P}(h:Good t):Ok t:=⟨(iH h.lw).1,by have :=h.len;omega⟩
def vj {p:Tx}{w:World}{R:Bool->Qx}(h:∀b w',Ex w w'->(b=true↔∃t:P,Good t/\t.text=p)->R b w'):Qy 88 #[.string (ay p)] w (ax [.b] R):=by
 refine tr p w R ?_;dsimp only [go_sem];by_cases hp:p.length<=1099511627776
 rotate_left
 ·exact aR (by omega) (h _ _ (Ex.refl w) ⟨λH=>by simp at H,fun⟨t,G,e⟩=>by have :=G.len;rw [e]at this;omega⟩)
 refine⟨λJ=>Ej hp ⟨λZ=>?_,λZ=>?_⟩,λJ=>?_⟩
 ·simp only [Nj]at J;refine oh p (by omega) (p.length+1) 0 (by omega) (by omega) (by omega) ⟨λhe=>?_,λhe=>?_⟩
  ·simp only [Nj]at he;obtain⟨t,hw,G⟩:=B7 (l:=p) (p.length+1) 0 (by show 0<=endI p _ 0;omega);have e0:endI p (p.length+1) ((0:Nat):Int)=p.length:=he;rw [e0,Nf,O8,NM,O4]at G;subst G;have β:=kH hw Z;refine Fj t.size (Nc _) ⟨hw,hp⟩ λw' hx=>h _ _ hx ?_
   simp only [Nj];constructor
   ·intro γ;exact⟨t,⟨β,by omega,by omega⟩,rfl⟩
   ·rintro⟨u,hu,e⟩
    have h1:=vi (l:=t.text) u (u.size+t.size) 0 [] hu.ok.wf (by omega) (by simp [e]);have:u=t:=by
     exact(kj hu.ok.wf hw (r:=[]) (r':=[]) (by simpa using e)).1
    rw [<-this];exact_mod_cast hu.size
  ·simp only [No]at he;refine h _ _ (Ex.refl w) ⟨λH=>by simp at H,?_⟩
   rintro⟨t,G,rfl⟩
   exact absurd (by simpa using oR t G.ok.wf t.text 0 [] (by simp) (t.text.length+1) (by omega)) he
 ·refine h _ _ (Ex.refl w) ⟨λH=>by simp at H,?_⟩
  rintro⟨t,G,rfl⟩
  rw [(iH G.lw).2]at Z;cases Z
 ·simp only [No]at J;refine h _ _ (Ex.refl w) ⟨λH=>by simp at H,?_⟩
  rintro⟨t,G,rfl⟩
  have :=G.len;exact absurd (by omega) J
def EM {p:Tx}(G:p.length<=1099511627776){w:World}{R:Bool->Qx}(h:∀b w',Ex w w'->(b=true↔∃t:P,Good t/\t.text=p)->R b w'):Qy 88 #[.string (ay p)] w (ax [.b] R):=vj h
namespace T
def map {A B:Type}(f:A->B):T A->T B
 | nil=>nil | snd a b p=>snd (f a) (f b) (p.map f) | rcv a x p=>rcv (f a) (f x) (p.map f) | tau p=>tau (p.map f)
 | sum p q=>sum (p.map f) (q.map f) | par p q=>par (p.map f) (q.map f) | res x p=>res (f x) (p.map f) | mat a b p=>mat (f a) (f b) (p.map f) | rep p=>rep (p.map f)
def shp {A:Type}(p:T A):T Unit:=p.map λ _=>()
def aN {A:Type}:T A->Nat
 | nil=>1 | snd _ _ p=>p.aN+4 | rcv _ _ p=>p.aN+4 | tau p=>p.aN+2 | sum p q=>p.aN+q.aN+3 | par p q=>p.aN+q.aN+3
 | res _ p=>p.aN+3 | mat _ _ p=>p.aN+5 | rep p=>p.aN+1
def bd {A:Type}:T A->Nat
 | nil=>0 | snd _ _ p=>p.bd | rcv _ _ p=>p.bd+1 | tau p=>p.bd | sum p q=>max p.bd q.bd | par p q=>max p.bd q.bd
 | res _ p=>p.bd+1 | mat _ _ p=>p.bd | rep p=>p.bd
def rd {A:Type}:T A->Nat
 | nil=>0 | snd _ _ p=>p.rd | rcv _ _ p=>p.rd+1 | tau p=>p.rd | sum p q=>max p.rd q.rd | par p q=>max p.rd q.rd
 | res _ p=>p.rd | mat _ _ p=>p.rd | rep p=>p.rd
def ow {A:Type}:T A->Nat
 | nil=>0 | snd _ _ p=>p.ow | rcv _ _ p=>p.ow | tau p=>p.ow | sum p q=>p.ow+q.ow | par p q=>p.ow+q.ow
 | res _ p=>p.ow+1 | mat _ _ p=>p.ow | rep p=>p.ow
def pm {A:Type}:T A->Nat
 | par p q=>max p.pm q.pm | res _ p=>p.pm+1
 | nil=>0 | snd _ _ p=>p.rd+p.ow | rcv _ _ p=>p.rd+1+p.ow | tau p=>p.rd+p.ow | sum p q=>max p.rd q.rd+(p.ow+q.ow) | mat _ _ p=>p.rd+p.ow | rep p=>p.rd+p.ow
section
variable {A B:Type}
def size_map (f:A->B)(p:T A):(p.map f).size=p.size:=by induction p<;>simp_all [map,size]
def FM (f:A->B)(p:T A):(p.map f).aN=p.aN:=by induction p<;>simp_all [map,aN]
def KP (f:A->B)(p:T A):(p.map f).bd=p.bd:=by induction p<;>simp_all [map,bd]
def A4 (f:A->B)(p:T A):(p.map f).rd=p.rd:=by induction p<;>simp_all [map,rd]
def yj (f:A->B)(p:T A):(p.map f).ow=p.ow:=by induction p<;>simp_all [map,ow]
def KB (f:A->B)(p:T A):(p.map f).pm=p.pm:=by induction p<;>simp_all [map,pm,A4,yj]
def fk (p:T A):p.pm<=p.rd+p.ow:=by induction p<;>simp only [pm,rd,ow]<;>omega
def oD {p:T A}{q:T B}(h:p.shp=q.shp):p.size=q.size:=by
 have :=N9 size h;simpa [shp,size_map]using this
def gm {p:T A}{q:T B}(h:p.shp=q.shp):p.aN=q.aN:=by
 have :=N9 aN h;simpa [shp,FM]using this
def KU {p:T A}{q:T B}(h:p.shp=q.shp):p.bd=q.bd:=by
 have :=N9 bd h;simpa [shp,KP]using this
def Ka {p:T A}{q:T B}(h:p.shp=q.shp):p.rd=q.rd:=by
 have :=N9 rd h;simpa [shp,A4]using this
def GJ {p:T A}{q:T B}(h:p.shp=q.shp):p.ow=q.ow:=by
 have :=N9 ow h;simpa [shp,yj]using this
def wu {p:T A}{q:T B}(h:p.shp=q.shp):p.pm=q.pm:=by
 have :=N9 pm h;simpa [shp,KB]using this
def wi (p:T A):p.bd<=p.rd+p.ow:=by induction p<;>simp only [bd,rd,ow]<;>omega
def rN:∀p:T A,p.bd<=p.pm
 | nil=>Nc _
 | par p q=>by have :=rN p;have :=rN q;simp only [bd,pm];omega
 | res _ p=>by have :=rN p;simp only [bd,pm];omega
 | snd _ _ p | tau p | mat _ _ p | rep p=>wi p
 | rcv _ _ p=>by have :=wi p;simp only [bd,pm];omega
 | sum p q=>by have :=wi p;have :=wi q;simp only [bd,pm];omega
def ju (p:T A):p.rd+p.ow+1<=p.size:=by induction p<;>simp only [size,rd,ow]<;>omega
end
def aQ (p:P):p.text.length=p.aN:=by
 induction p<;>simp_all [text,aN]<;>omega
end T
def okn (k:Nat)(x:UInt8):Prop:=x.toNat< 128+k\/192<=x.toNat
def okn.mono {k m:Nat}{x:UInt8}(h:okn k x)(hk:k<=m):okn m x:=by unfold okn at*;omega
def ngr (x:UInt8):Prop:=x.toNat< 65\/(90< x.toNat/\x.toNat< 192)
def Eb:Nat->P->Prop
 | _,.nil=>True
 | k,.snd a b p=>okn k a/\okn k b/\Eb k p
 | k,.rcv a x p=>okn k a/\(ngr x/\∀z,p.Fr z->z≠x->okn k z)/\Eb (k+1) p
 | k,.tau p=>Eb k p
 | k,.sum p q=>Eb k p/\Eb k q
 | k,.par p q=>Eb k p/\Eb k q
 | k,.res x p=>(ngr x/\∀z,p.Fr z->z≠x->okn k z)/\Eb (k+1) p
 | k,.mat a b p=>okn k a/\okn k b/\Eb k p
 | k,.rep p=>Eb k p
def Eb.free:∀{p:P} {k:Nat},Eb k p->∀z,p.Fr z->okn k z
 | .nil,_,_,_,h=>h.elim
 | .snd a b p,k,e,z,h=>by
  rcases h with rfl | rfl | h
  ·exact e.1
  ·exact e.2.1
  ·exact Eb.free e.2.2 z h
 | .mat a b p,k,e,z,h=>by
  rcases h with rfl | rfl | h
  ·exact e.1
  ·exact e.2.1
  ·exact Eb.free e.2.2 z h
 | .rcv a x p,k,e,z,h=>by
  rcases h with rfl | h
  ·exact e.1
  ·exact e.2.1.2 z h.2 h.1
 | .res x p,k,e,z,h=>e.1.2 z h.2 h.1
 | .tau p,k,e,z,h=>Eb.free (p:=p) e z h
 | .rep p,k,e,z,h=>Eb.free (p:=p) e z h
 | .sum p q,k,e,z,h=>h.elim (Eb.free e.1 z) (Eb.free e.2 z)
 | .par p q,k,e,z,h=>h.elim (Eb.free e.1 z) (Eb.free e.2 z)
def Eb.mono:∀{p:P} {k m:Nat},Eb k p->k<=m->Eb m p
 | .nil,_,_,_,_=>trivial
 | .snd a b p,k,m,e,h=>⟨e.1.mono h,e.2.1.mono h,Eb.mono e.2.2 h⟩
 | .mat a b p,k,m,e,h=>⟨e.1.mono h,e.2.1.mono h,Eb.mono e.2.2 h⟩
 | .rcv a x p,k,m,e,h=>⟨e.1.mono h,⟨e.2.1.1,λz h1 G=>(e.2.1.2 z h1 G).mono h⟩,Eb.mono e.2.2 (by omega)⟩
 | .res x p,k,m,e,h=>⟨⟨e.1.1,λz h1 G=>(e.1.2 z h1 G).mono h⟩,Eb.mono e.2 (by omega)⟩
 | .tau p,k,m,e,h=>Eb.mono (p:=p) e h
 | .rep p,k,m,e,h=>Eb.mono (p:=p) e h
 | .sum p q,k,m,e,h=>⟨Eb.mono e.1 h,Eb.mono e.2 h⟩
 | .par p q,k,m,e,h=>⟨Eb.mono e.1 h,Eb.mono e.2 h⟩
def mQ {k:Nat}{c:UInt8}(h:lt c=true):okn k c:=by
 simp only [lt,M8,Nj]at h;have H:=NA.1 h.2;have G:(122:UInt8).toNat=122:=rfl;left;omega
def aB.free {p q:P}{old nm:UInt8}(h:aB p old nm q)(z:UInt8)(H:q.Fr z):z=nm\/(z≠old/\p.Fr z)\/(z=old/\p.Fr z/\old=nm):=by
 obtain⟨y,J,e⟩:=(h UInt8.toNat).symm.free z H;unfold aF at e;split at e
 ·left;exact(NK.1 e).symm
 ·rename_i G;have:y=z:=NK.1 e;subst this;exact .inr (.inl ⟨G,J⟩)
structure fG (k:Nat)(p:P)(old nm:UInt8)(q:P):Prop where
 ok:aB p old nm q
 shp:q.shp=p.shp
 wf:q.wf=true
 eb:Eb k q
def jV {c old nm:UInt8}{w:World}{R:UInt8->Qx}(h:R (sw c old nm) w):Qy 181 #[.int .u8 c.toNat,.int .u8 old.toNat,.int .u8 nm.toNat] w (ax [.c] R):=by
 refine sj c old nm w R ?_;dsimp only [go_sem];unfold sw at h;refine⟨λG=>?_,λG=>?_⟩
 ·rw [NO (NB G)]at h;exact h
 ·rw [Nt (Ny G)]at h;exact h
def T.bindC:P->UInt8
 | .rcv _ x _=>x | .res x _=>x | _=>0
def T.qz:P->Bool
 | .rcv .. =>true | .res .. =>true | _=>false
def pY {t:P}(ok:Ok t){w:World}{R:UInt8->Bool->Qx}(h:R t.bindC t.qz w):Qy 143 #[.string (ay t.text)] w (ax [.c,.b] R):=by
 refine qM _ w R ?_;dsimp only [go_sem];refine aK ok ?_;cases t<;>simp only [T.kind]<;>repeat' first | refine aR (by decide) ?_ | refine cI (by decide) ?_
 all_goals first
  | exact h
  | (refine⟨by simp only [T.text,M0];omega,?_⟩;exact h)
def T.names:P->Tx
 | .snd a b _=>[a,b] | .rcv a _ _=>[a] | .mat a b _=>[a,b] | _=>[]
def D0 {t:P}(ok:Ok t){w:World}{R:aJ->Qx}(h:∀w',Ex w w'->R t.names w'):Qy 246 #[.string (ay t.text)] w (ax [.s] R):=by
 refine qL _ w R ?_;dsimp only [go_sem];refine aK ok ?_;cases t<;>simp only [T.kind]<;>repeat' first | refine aR (by decide) ?_ | refine cI (by decide) ?_
 case nil=>exact h w (Ex.refl w)
 case tau=>exact h w (Ex.refl w)
 case sum=>exact h w (Ex.refl w)
 case par=>exact h w (Ex.refl w)
 case res=>exact h w (Ex.refl w)
 case rep=>exact h w (Ex.refl w)
 case rcv=>exact⟨by simp only [T.text,M0];omega,h w (Ex.refl w)⟩
 case snd=>exact⟨λ _=>True,λw1 G=>⟨trivial,by simp only [T.text,M0];omega,by simp only [T.text,M0];omega,by simp [T.text],h w1 (G▸Ex.drew w)⟩⟩
 case mat=>exact⟨λ _=>True,λw1 G=>⟨trivial,by simp only [T.text,M0];omega,by simp only [T.text,M0];omega,by simp [T.text],h w1 (G▸Ex.drew w)⟩⟩
def Hh (t:P)(x:UInt8):t.Fr x↔x∈t.names\/(∃p∈t.parts,p.Fr x)/\¬(t.qz=true/\x=t.bindC):=by
 cases t<;>simp [T.Fr,T.names,T.parts,T.qz,T.bindC,Qf,and_comm]
def kC.nil:kC []:=List.Pairwise.nil
def kC.filter {s:Tx}(h:kC s)(f:UInt8->Bool):kC (s.filter f):=O3 (List.filter_sublist) h
def iG:∀(n:Nat) {t:P},t.size<=n->Ok t->∀{w:World} {R:aJ->Qx},(∀s w',Ex w w'->kC s->(∀x,x∈s↔t.Fr x)->R s w')->Qy 79 #[.string (ay t.text)] w (ax [.s] R):=by
 intro n
 induction n with
 | zero=>intro t h;have :=aU t;omega
 | succ n ih=>
  intro t hn ok w R h;refine tF _ w R ?_;dsimp only [go_sem];dsimp only [go_sem,Nat.reduceAdd];refine cD ok λv w1 hx hs=>?_
  obtain⟨a,cap,hv⟩:=hs.slice;rw [Nq]at hv;refine⟨a,t.parts.length,cap,hv,λout x w'=>Ex w w'/\Strs w' v (t.parts.map T.text)/\kC out/\∃k:Nat,x=k/\k<=t.parts.length/\∀x,x∈out↔∃p∈t.parts.take k,p.Fr x,λ _ x _=>((t.parts.length:Int) - x).toNat,
   ⟨hx,hs,kC.nil,0,rfl,by omega,by simp⟩,λout x w2 hI=>?_⟩
  obtain⟨ζ,ς,γ,k,rfl,hk,hm⟩:=hI;refine⟨λhc=>?_,λhc=>?_⟩
  ·have H:k< t.parts.length:=by simpa using hc
   obtain⟨b,o,cp,e1,e2,e3⟩:=ς.at (i:=k) (by rw [Nq];exact H);rw [Nq]at e1;refine⟨b,o,t.parts.length,cp,e1,by omega,by omega,(t.parts[k]).text,?_,?_⟩
   ·rw [Nf,NQ,e3,Ov]
   ·have ε:t.parts[k]∈t.parts:=NC H;refine ih (by have :=dz ε;omega) (ok.parts _ ε) λs w3 δ φ η=>?_
    refine iA γ (by have :=φ.bound;omega) λs' w4 J Z β=>?_
    have h3:=dB t;refine⟨by omega,⟨(ζ.trans δ).trans J,(ς.ex δ).ex J,Z,k+1,by omega,H,λx=>?_⟩,by dsimp only;omega⟩;rw [β,hm,η,List.take_succ_eq_append_getElem H];simp only [Nk,ND];constructor
    ·rintro(⟨p,hp,hf⟩ | hf)
     ·exact⟨p,.inl hp,hf⟩
     ·exact⟨_,.inr rfl,hf⟩
    ·rintro⟨p,hp | rfl,hf⟩
     ·exact .inl ⟨p,hp,hf⟩
     ·exact .inr hf
  ·have H:k=t.parts.length:=by simp at hc;omega
   subst H;rw [NR]at hm;refine⟨λout w'=>Ex w w'/\kC out/\∀x,x∈out↔(∃p∈t.parts,p.Fr x)/\¬(t.qz=true/\x=t.bindC),pY ok ⟨λhb=>?_,λhb=>?_⟩,λυ w3 hJ=>?_⟩
   ·refine zj (by have :=γ.bound;omega) ⟨ζ,γ.filter _,λx=>?_⟩;simp [hm,hb]
   ·exact⟨ζ,γ,λx=>by simp [hm,hb]⟩
   obtain⟨δ,G,η⟩:=hJ;refine aK ok ?_;have done:∀s w',Ex w3 w'->kC s->(∀x,x∈s↔x∈t.names\/x∈υ)->R s w':=λs w' J Z β=>h s w' (δ.trans J) Z λx=>by rw [β,η,Hh]
   cases t<;>simp only [T.kind]<;>repeat' first | refine aR (by decide) ?_ | refine cI (by decide) ?_
   case nil=>exact done _ _ (Ex.refl _) G λx=>by simp [T.names]
   case tau=>exact done _ _ (Ex.refl _) G λx=>by simp [T.names]
   case sum=>exact done _ _ (Ex.refl _) G λx=>by simp [T.names]
   case par=>exact done _ _ (Ex.refl _) G λx=>by simp [T.names]
   case res=>exact done _ _ (Ex.refl _) G λx=>by simp [T.names]
   case rep=>exact done _ _ (Ex.refl _) G λx=>by simp [T.names]
   case rcv a x p=>
    refine⟨by simp only [T.text,M0];omega,fT G λs w4 J Z β=>done s w4 J Z λx=>?_⟩;rw [β];simp [T.names,T.text,bt]
   case snd a b p=>
    refine⟨λ _=>True,λw4 θ=>⟨trivial,by simp only [T.text,M0];omega,by simp only [T.text,M0];omega,fT G λs w5 ι κ μ=>⟨trivial,fT κ λs' w6 ν ξ ο=>⟨trivial,done s' w6 (((θ▸Ex.drew w3).trans ι).trans ν) ξ λx=>?_⟩⟩⟩⟩;rw [ο,μ];simp [T.names,T.text,bt,Qf,or_left_comm]
   case mat a b p=>
    refine⟨λ _=>True,λw4 θ=>⟨trivial,by simp only [T.text,M0];omega,by simp only [T.text,M0];omega,fT G λs w5 ι κ μ=>⟨trivial,fT κ λs' w6 ν ξ ο=>⟨trivial,done s' w6 (((θ▸Ex.drew w3).trans ι).trans ν) ξ λx=>?_⟩⟩⟩⟩;rw [ο,μ];simp [T.names,T.text,bt,Qf,or_left_comm]
structure ql (w:World)(b:Nat)(l:Tx):Prop where
 lt:b< w.heap.size
 cell:∀j,j< l.length->w.cell? ⟨b,j,none⟩=some (.int .u8 (bt l j).toNat)
 fz:∀j,j< l.length->w.frozen? ⟨b,j,none⟩=false
def ql.Fk {w:World}{el b:Nat}{l:Tx}(h:xN w el b l):ql w b l:=by
 obtain⟨cur,lo,hi,h1,H,J,h4⟩:=h;have hb:b< w.heap.size:=by
  rcases ON b w.heap.size with h | h
  ·exact h
  ·rw [Array.getElem?_eq_none h]at h1;cases h1
 refine⟨hb,λj G=>?_,λj G=>?_⟩
 ·unfold World.cell?;rw [h1];have e:=N9 (λl=>l[j]?) H;simp only [c8,Pg,G,O9,OX,M6 G,OP]at e;simp only [Option.isSome_none,PQ,Qm];rw [<-Oe,e];simp [bt,G]
 ·unfold World.frozen?;rw [h1];simp;omega
def ql.ex {w w':World}{b:Nat}{l:Tx}(h:ql w b l)(k:Ex w w'):ql w' b l:=
 ⟨Nz h.lt k.size,λj G=>by rw [k.cell h.lt];exact h.cell j G,λj G=>by rw [Pb k h.lt];exact h.fz j G⟩
def JF {l:Tx}{i j:Nat}{c:UInt8}(hi:i< l.length):bt (l.set i c) j=if i=j then c else bt l j:=by
 simp only [bt,List.getD_eq_getElem?_getD,List.getElem?_set];by_cases h:i=j
 ·subst h;simp [hi]
 ·simp [h]
def ql.set {w:World}{b:Nat}{l:Tx}(h:ql w b l){i:Nat}(hi:i< l.length)(c:UInt8):ql (w.setCell ⟨b,i,none⟩ (.int .u8 c.toNat)) b (l.set i c):=by
 refine⟨by rw [NV];exact h.lt,λj G=>?_,λj G=>?_⟩
 ·rw [OE]at G;rw [JF hi];by_cases e:i=j
  ·subst e;rw [NO rfl,Ns _ _ _ (h.cell i hi)]
  ·rw [Nt e,Na _ _ _ _ (by simp [e])];exact h.cell j G
 ·rw [Nv];exact h.fz j (by simpa using G)
def ql.read {w:World}{b:Nat}{l:Tx}(h:ql w b l):∀(j:Nat) (x:UInt8),l[j]?=some x->w.cell? ⟨b,0+j,none⟩=some (.int .u8 x.toNat):=by
 intro j x H;obtain⟨G,e⟩:=NZ.1 H;rw [NJ,h.cell j G];simp [bt,G,e]
def ql.at {w:World}{b:Nat}{l:Tx}(h:ql w b l){i:Nat}(hi:i< l.length):w.cell? ⟨b,0+i* 1,none⟩=some (.int .u8 (bt l i).toNat):=by
 rw [NJ,NQ];exact h.cell i hi
def Ex.own {w w':World}(h:Ex w w'){b i:Nat}(hb:w.heap.size<=b)(v:Value):Ex w (w'.setCell ⟨b,i,none⟩ v):=Below.setCell h hb v
def Hk {t:P}(ok:Ok t){v:Value}{l:List Tx}{w:World}(hs:Strs w v l){R:aJ->Qx}
  (ξ:(t.kind=43\/t.kind=38)->∃x y,l=[x,y]/\x.length+y.length<=1099511627776/\∀w',Ex w w'->R (40::(x++t.kind::(y++[41]))) w')
  (ο:t.kind=48->R [48] w)
  (ς:t.kind≠48->t.kind≠43->t.kind≠38->∃x,l=[x]/\x.length<=1099511627776/\∀w',Ex w w'->R (t.text.take t.hd++x) w'):
  Qy 182 #[.string (ay t.text),v] w (ax [.s] R):=by
 refine rI _ v w R ?_;dsimp only [go_sem];refine aK ok ?_;have two:∀(k:UInt8),(t.kind=k)->(k=43\/k=38)->∃S5:Qx,∀w6:World,w6=World.drew w->S5 w6/\∃(b7 o8 ε η:Nat),v=Value.slice (some ⟨b7,o8,none⟩) ε η/\0<=(0:Int)/\(0:Int)< ε/\∃H:aJ,(∀w',S5 w'->World.cell? w' ⟨b7,(o8+Int.toNat 0* 1),none⟩=some (Value.string (ay H)))/\(List.length [(40:UInt8)]+List.length H<=4611686018427387904)/\(List.length ([(40:UInt8)]++H)+List.length [k]<=4611686018427387904)/\∃(υ φ J θ:Nat),v=Value.slice (some ⟨υ,φ,none⟩) J θ/\0<=(1:Int)/\(1:Int)< J/\∃δ:aJ,(∀w',S5 w'->World.cell? w' ⟨υ,(φ+Int.toNat 1* 1),none⟩=some (Value.string (ay δ)))/\(List.length (([(40:UInt8)]++H)++[k])+List.length δ<=4611686018427387904)/\(List.length ((([(40:UInt8)]++H)++[k])++δ)+List.length [(41:UInt8)]<=4611686018427387904)/\R ((((([(40:UInt8)]++H)++[k])++δ)++[(41:UInt8)])) w6:=by
  intro k hk hk';obtain⟨x,y,rfl,hl,hR⟩:=ξ (hk▸hk');refine⟨λw'=>Strs w' v [x,y],λw6 Z=>?_⟩;have h6:Strs w6 v [x,y]:=Z▸hs.ex (Ex.drew w);obtain⟨b,o,cap,e1,e2,_⟩:=h6.at (i:=0) (by simp);refine⟨h6,b,o,2,cap,e1,by omega,by omega,x,λw' β=>?_,by simp;omega,by simp;omega,b,o,2,cap,e1,by omega,by omega,y,λw' β=>?_,by simp;omega,by simp;omega,?_⟩
  ·obtain⟨b',o',ζ,G,_,e3⟩:=β.at (i:=0) (by simp);rw [e1]at G;cases G;exact e3
  ·obtain⟨b',o',ζ,G,_,e3⟩:=β.at (i:=1) (by simp);rw [e1]at G;cases G;exact e3
  ·have :=hR w6 (Z▸Ex.drew w);rw [hk]at this;simpa using this
 have one:t.kind≠48->t.kind≠43->t.kind≠38->∃ι:Qx,∀κ:World,κ=World.drew w->ι κ/\∃(χ ψ γ μ:Nat),v=Value.slice (some ⟨χ,ψ,none⟩) γ μ/\0<=(0:Int)/\(0:Int)< γ/\∃ν:aJ,(∀w',ι w'->World.cell? w' ⟨χ,(ψ+Int.toNat 0* 1),none⟩=some (Value.string (ay ν)))/\Qy 180 #[(Value.string (ay t.text))] κ (ax [.i] fun(n36:Int) (ω:World)=>ι ω/\(0<=(n36:Int)/\(n36:Int)<=List.length t.text)/\(List.length (List.take (Int.toNat n36) t.text)+List.length ν<=4611686018427387904)/\R (((List.take (Int.toNat n36) t.text)++ν)) ω):=by
  intro h1 h2 h3;obtain⟨x,rfl,hl,hR⟩:=ς h1 h2 h3;refine⟨λw'=>Strs w' v [x],λw6 Z=>?_⟩;have h6:Strs w6 v [x]:=Z▸hs.ex (Ex.drew w);obtain⟨b,o,cap,e1,e2,_⟩:=h6.at (i:=0) (by simp);have hlen:=ok.len;have hd:t.hd<=t.text.length:=by
   cases t<;>simp only [T.kind,ne_eq,PZ]at h1<;>simp only [T.hd,T.text,M0]<;>omega
  refine⟨h6,b,o,1,cap,e1,by omega,by omega,x,λw' β=>?_,cB ok ⟨h6,by omega,?_,?_⟩⟩
  ·obtain⟨b',o',ζ,G,_,e3⟩:=β.at (i:=0) (by simp);rw [e1]at G;cases G;exact e3
  ·rw [NW];omega
  ·rw [Nf];exact hR w6 (Z▸Ex.drew w)
 refine⟨λh=>?_,λh=>⟨λh2=>two 43 (NB h2) (.inl rfl),λh2=>⟨λh3=>two 38 (NB h3) (.inr rfl),λh3=>one (Ny h) (Ny h2) (Ny h3)⟩⟩⟩;have hk:=NB h;have :=ο hk;cases t<;>first | exact this | (exact absurd hk (by simp [T.kind]))
def rQ.ok {s:Tx}{c:UInt8}(h:rQ s c){k:Nat}(hk:k<=63)(Z:∀d∈s,okn k d):c∉s/\okn (k+1) c/\nm c=true/\ngr c:=by
 rcases h with h | ⟨_,h1,h2,h3,h4⟩
 ·have hm:=Py h;have hp:=List.find?_some h;have G:lt c=true:=by
   obtain⟨i,hi,rfl⟩:=NT.1 hm;rw [OQ]at hi;have e:(UInt8.ofNat (97+i)).toNat=97+i:=by rw [Om];omega
   simp only [lt,M8,Nj];exact⟨NA.2 (by rw [e];show 97<=_;omega),NA.2 (by rw [e];show _<=122;omega)⟩
  refine⟨by simpa using hp,mQ G,(gA G).1,?_⟩;simp only [lt,M8,Nj]at G;have h1:=NA.1 G.1;have h2:=NA.1 G.2;have ε:(97:UInt8).toNat=97:=rfl;have β:(122:UInt8).toNat=122:=rfl;unfold ngr;omega
 ·have ζ:=NA.1 h1;have η:=NA.1 h2;have γ:(128:UInt8).toNat=128:=rfl;have δ:(191:UInt8).toNat=191:=rfl;have hle:c.toNat<=128+k:=by
   rcases ON (128+k) c.toNat with H | J
   ·exfalso;have e:(UInt8.ofNat (128+k)).toNat=128+k:=by rw [Om];omega
    have hm:=h3 (UInt8.ofNat (128+k)) (NA.2 (by rw [e];omega)) (N1.2 (by rw [e];exact H));have :=Z _ hm;unfold okn at this;rw [e]at this;omega
   ·exact J
  refine⟨?_,.inl (by omega),?_,by unfold ngr;omega⟩
  ·rcases h4 with h4 | h4
   ·exact h4
   ·intro hm;have :=Z _ hm;unfold okn at this;subst h4;omega
  ·simp [nm,h1]
def T.rebind (t:P)(old nw y:UInt8)(q:P):P:=match t with
 | .rcv a _ _=> .rcv (sw a old nw) y q
 | _=> .res y q
def yT {c old nw:UInt8}(G:nm c=true)(H:nm nw=true):nm (sw c old nw)=true:=by
 unfold sw;split<;>assumption
def sI {k:Nat}{c old nw:UInt8}(G:okn k c)(H:okn k nw):okn k (sw c old nw):=by
 unfold sw;split<;>assumption
structure JV (k:Nat)(t:P)(old nw:UInt8)(p:P):Prop where
 drop:t.text.drop t.hd=p.text
 ok:Ok p
 size:p.size< t.size
 eb:Eb (k+1) p
 bd:p.bd+1=t.bd
 okz:∀z,p.Fr z->z≠t.bindC->okn k z
 nmc:nm t.bindC=true
 ngc:ngr t.bindC
 under:∀q,t.bindC≠old->(t.bindC≠nw\/¬p.Fr old)->aB p old nw q->aB t old nw (t.rebind old nw t.bindC q)
 cap:∀y p1 p2,t.bindC=nw->nw≠old->¬p.Fr y->y≠old->y≠nw->aB p nw y p1->aB p1 old nw p2->aB t old nw (t.rebind old nw y p2)
 over:t.bindC=old->t.Fr old->aB t old nw (t.rebind old nw old p)
 fin:∀y q,aB t old nw (t.rebind old nw y q)->q.shp=p.shp->q.wf=true->nm y=true->ngr y->Eb (k+1) q->fG k t old nw (t.rebind old nw y q)
def DK {k:Nat}{t:P}{old nw:UInt8}(ok:Ok t)(eb:Eb k t)(hn:nm nw=true)(kn:okn k nw)(hb:t.qz=true):∃p,JV k t old nw p:=by
 have hw:=ok.wf;have hl:=ok.len;have fr:∀q,aB t old nw q->∀z,q.Fr z->okn k z:=λq h z Z=>by
  rcases h.free z Z with rfl | h | h
  ·exact kn
  ·exact eb.free z h.2
  ·exact eb.free z h.2.1
 cases t with
 | rcv a x p=>
  simp only [T.wf,M8]at hw;simp only [T.text,M0]at hl;refine⟨p,rfl,⟨hw.2,by omega⟩,by simp only [T.size];omega,eb.2.2,rfl,eb.2.1.2,hw.1.2,eb.2.1.1,λq h1 G H=>aB.Eu a h1 G H,λy p1 p2 h1 G H h4 h5 h6 h7=>?_,λh1 G=>?_,λy q h1 G H h4 hg h5=>⟨h1,?_,?_,?_⟩⟩
  ·have h1:x=nw:=h1;subst h1;exact aB.Ia a G H h4 h5 h6 h7
  ·have h1:x=old:=h1;subst h1;exact aB.Gz a
  ·show T.rcv () () q.shp=T.rcv () () p.shp;rw [G]
  ·simp [T.rebind,T.wf,yT hw.1.1 hn,H,h4]
  ·exact⟨sI eb.1 kn,⟨hg,λz Z J=>fr _ h1 z (.inr ⟨J,Z⟩)⟩,h5⟩
 | res x p=>
  simp only [T.wf,M8]at hw;simp only [T.text,M0]at hl;refine⟨p,rfl,⟨hw.2,by omega⟩,by simp only [T.size];omega,eb.2,rfl,eb.1.2,hw.1,eb.1.1,λq h1 G H=>aB.DV h1 G H,λy p1 p2 h1 G H h4 h5 h6 h7=>?_,λh1 G=>?_,λy q h1 G H h4 hg h5=>⟨h1,?_,?_,?_⟩⟩
  ·have h1:x=nw:=h1;subst h1;exact aB.HC G H h4 h5 h6 h7
  ·have h1:x=old:=h1;exact absurd h1.symm G.1
  ·show T.res () q.shp=T.res () p.shp;rw [G]
  ·simp [T.rebind,T.wf,H,h4]
  ·exact⟨⟨hg,λz Z J=>fr _ h1 z ⟨J,Z⟩⟩,h5⟩
 | _=>cases hb
def sS {w w':World}(h:w.grownBy w' none):Ex w w':=Below.grown (Qk _ _) h (Nc _) (λk hk=>by cases hk)
def Kv {t:P}(h:t.kind≠48):t.hd<=t.text.length:=by
 cases t<;>simp only [T.kind,ne_eq,PZ]at h<;>simp only [T.hd,T.text,M0]<;>omega
def pg {w1:World}(c d:UInt8){H:World}{b:Nat}(hb:b=w1.heap.size)(h:H=w1.alloc (.cells #[.int .u8 c.toNat,.int .u8 d.toNat] 5)):
  b< H.heap.size/\∀(j:Nat) (x:UInt8),[c,d][j]?=some x->H.cell? ⟨b,0+j,none⟩=some (.int .u8 x.toNat):=by
 subst hb h;refine⟨by rw [size_alloc];omega,λj x G=>?_⟩;rw [NJ]
 match j,G with
 | 0,G=>simp at G;subst G;exact aa rfl
 | 1,G=>simp at G;subst G;exact aa rfl
 | j+2,G=>simp at G
def fG.refl {k:Nat}{t:P}{old nw:UInt8}(h:aB t old nw t)(ok:Ok t)(eb:Eb k t):fG k t old nw t:=⟨h,rfl,ok.wf,eb⟩
def fG.J' {k:Nat}{t:P}{old nw:UInt8}{q:P}(h:fG k t old nw q)(ok:Ok t):Ok q:=⟨h.wf,by rw [T.aQ,T.gm h.shp,<-T.aQ];exact ok.len⟩
def gh:∀(n:Nat) {t:P} {k:Nat} {old nw:UInt8},t.size<=n->Ok t->Eb k t->k+t.bd<=64->nm nw=true->okn k nw->
  ∀{w:World} {R:aJ->Qx},(∀q w',Ex w w'->fG k t old nw q->R q.text w')->Qy 112 #[.string (ay t.text),.int .u8 old.toNat,.int .u8 nw.toNat] w (ax [.s] R):=by
 intro n
 induction n with
 | zero=>intro t k old nw h;have :=aU t;omega
 | succ n ih=>
  intro t k old nw hn ok eb hbd ξ η w R h;refine qd _ old nw w R ?_;dsimp only [go_sem];refine⟨λhne=>?_,λhe=>by
   have he:=NB he;subst he;exact h t w (Ex.refl w) (.refl (aB.same old) ok eb)⟩
  have hne:old≠nw:=Ny hne;refine iG _ (Nc _) ok λs w1 hx1 hs1 hm1=>ib (by have :=hs1.bound;omega) ⟨λhq=>?_,λhq=>?_⟩
  ·have hq:¬t.Fr old:=by
    rw [<-hm1];simpa using hq
   exact h t w1 hx1 (.refl (aB.skip hq) ok eb)
  have hfr:t.Fr old:=by rw [<-hm1];simpa using hq
  have hk0:t.kind≠48:=by cases t<;>first | exact hfr.elim | simp [T.kind]
  have hhd:=Kv hk0;have hlen:=ok.len;refine cB ok ⟨by omega,λb cap w2 hb hrow hgr=>?_⟩;rw [Nf]at hrow|-;have φ:Ex w w2:=hx1.trans (sS hgr);have γ:=ql.Fk hrow;have hbw:w.heap.size<=b:=by rw [hb];exact hx1.size
  have β:(t.text.take t.hd).length=t.hd:=by rw [NW];omega
  refine pY ok ⟨λhq2=>?_,λhq2=>?_⟩
  ·
   obtain⟨p,B⟩:=DK (nw:=nw) (old:=old) ok eb ξ η hq2;have hszp:=B.size;have hbdp:=B.bd;refine⟨some ⟨b,0,none⟩,(t.text.take t.hd).length,cap,rfl,by omega,?_⟩;rw [β,Nf,B.drop];refine⟨λpart x w'=>Ex w w'/\ql w' b (t.text.take t.hd)/\∃p1:P,part=p1.text/\p1.shp=p.shp/\Ok p1/\Eb (k+1) p1/\(nm x=true/\ngr x)/\
    ((x=t.bindC/\p1=p/\(x≠nw\/¬p.Fr old))\/(t.bindC=nw/\¬p.Fr x/\x≠old/\x≠nw/\aB p nw x p1)),⟨λhc=>?_,λhc=>?_⟩,λpart x w3 hJ=>?_⟩
   ·have hc:=NB hc;refine iG _ (Nc _) B.ok λs3 w3 θ hs3 hm3=>ib (by have :=hs3.bound;omega) ⟨λhq3=>?_,λhq3=>?_⟩
    ·have hfo:p.Fr old:=by rw [<-hm3];simpa using hq3
     have fin:∀(w':World),Ex w3 w'->∀s4,kC s4->(∀x,x∈s4↔p.Fr x\/x∈[old,nw])->∀y,rQ s4 y->(Ex w w'/\ql w' b (t.text.take t.hd))/\(¬p.Fr y/\y≠old/\y≠nw/\okn (k+1) y/\nm y=true/\ngr y):=by
      intro w' hx' s4 hs4 hm4 y hy;have hall:∀d∈s4,okn k d:=by
       intro d hd;rcases(hm4 d).1 hd with hd | hd
       ·by_cases hz:d=t.bindC
        ·rw [hz,hc];exact η
        ·exact B.okz d hd hz
       ·simp only [Nw,PO,Qg]at hd;rcases hd with rfl | rfl
        ·exact eb.free _ hfr
        ·exact η
      obtain⟨h1,h2,h3⟩:=hy.ok (by omega) hall;rw [hm4]at h1;simp only [Nw,PO,Qg,Qt]at h1;exact⟨⟨(φ.trans θ).trans hx',(γ.ex θ).ex hx'⟩,h1.1,h1.2.1,h1.2.2,h2,h3⟩
     refine⟨λy w'=>(Ex w w'/\ql w' b (t.text.take t.hd))/\(¬p.Fr y/\y≠old/\y≠nw/\okn (k+1) y/\nm y=true/\ngr y),⟨λw'=>True,λw4 χ=>⟨trivial,?_,λb2 w5 hb2 H=>⟨trivial,?_,?_⟩⟩⟩,λy w4 hJ=>?_⟩
     ·have Z:Ex w3 w4:=χ▸Ex.drew w3;refine iG _ (Nc _) B.ok λs5 w5 J hs5 hm5=>⟨trivial,λb2 w6 hb2 δ=>⟨trivial,b2,0,2,2,[old,nw],rfl,rfl,(pg old nw hb2 δ).2,trivial,?_⟩⟩
      refine iA hs5 (by simp) λs7 w7 υ ο hm7=>⟨trivial,iy (by have :=ο.bound;omega) λy hy=>⟨trivial,?_⟩⟩
      exact fin w7 (((Z.trans J).trans (δ▸Ex.alloc w5 _)).trans υ) s7 ο (λx=>by rw [hm7,hm5]) y hy
     ·have Z:Ex w3 w4:=χ▸Ex.drew w3;have J:Ex w4 w5:=H▸Ex.alloc w4 _;obtain⟨G,hc5⟩:=pg old nw hb2 H;refine iG _ (Nc _) B.ok λs6 w6 ι hs6 hm6=>⟨trivial,b2,0,2,2,[old,nw],rfl,rfl,λj x hj=>by rw [ι.cell G];exact hc5 j x hj,trivial,?_⟩
      refine iA hs6 (by simp) λs7 w7 υ ο hm7=>⟨trivial,iy (by have :=ο.bound;omega) λy hy=>⟨trivial,?_⟩⟩
      exact fin w7 (((Z.trans J).trans ι).trans υ) s7 ο (λx=>by rw [hm7,hm6]) y hy
     ·have Z:Ex w3 w4:=χ▸Ex.drew w3;have J:Ex w4 w5:=H▸Ex.alloc w4 _;obtain⟨G,hc5⟩:=pg old nw hb2 H;refine⟨b2,0,2,2,[old,nw],rfl,rfl,hc5,trivial,?_⟩;refine iG _ (Nc _) B.ok λs6 w6 ι hs6 hm6=>⟨trivial,?_⟩
      refine iA hs6 (by simp) λs7 w7 υ ο hm7=>⟨trivial,iy (by have :=ο.bound;omega) λy hy=>⟨trivial,?_⟩⟩
      exact fin w7 (((Z.trans J).trans ι).trans υ) s7 ο (λx=>by rw [hm7,hm6]) y hy
     ·obtain⟨⟨J,G⟩,hy1,hy2,hy3,hy4,hy5,hy6⟩:=hJ;refine ih (by omega) B.ok B.eb (by omega) hy5 hy4 λq w6 ι hq=>⟨J.trans ι,G.ex ι,q,rfl,hq.shp,hq.J' B.ok,hq.eb,⟨hy5,hy6⟩,.inr ⟨hc,hy1,hy2,hy3,?_⟩⟩
      rw [<-hc];exact hq.ok
    ·have hfo:¬p.Fr old:=by rw [<-hm3];simpa using hq3
     exact⟨φ.trans θ,γ.ex θ,p,rfl,rfl,B.ok,B.eb,⟨B.nmc,B.ngc⟩,.inl ⟨rfl,rfl,.inr hfo⟩⟩
   ·have hc:=Ny hc;exact⟨φ,γ,p,rfl,rfl,B.ok,B.eb,⟨B.nmc,B.ngc⟩,.inl ⟨rfl,rfl,.inl hc⟩⟩
   ·obtain⟨θ,hb3,p1,rfl,hsh1,ok1,eb1,hnx,hmid⟩:=hJ;refine⟨λpart w'=>Ex w w'/\ql w' b (t.text.take t.hd)/\∃p2:P,part=p2.text/\p2.shp=p.shp/\Ok p2/\Eb (k+1) p2/\aB t old nw (t.rebind old nw x p2),⟨λhc=>?_,λhc=>?_⟩,λpart w4 hJ=>?_⟩
    ·have hc:x≠old:=by simpa using hc
     refine ih (by have :=T.oD hsh1;omega) ok1 eb1 (by have :=T.KU hsh1;omega) ξ (η.mono (by omega)) λq w5 J hq=>⟨θ.trans J,hb3.ex J,q,rfl,hq.shp.trans hsh1,hq.J' ok1,hq.eb,?_⟩
     rcases hmid with⟨rfl,rfl,hu⟩ | ⟨h1,h2,h3,h4,h5⟩
     ·exact B.under q hc hu hq.ok
     ·exact B.cap x p1 q h1 (P' hne) h2 h3 h4 h5 hq.ok
    ·have hc:x=old:=by simpa using hc
     refine⟨θ,hb3,p1,rfl,hsh1,ok1,eb1,?_⟩;rcases hmid with⟨h1,rfl,hu⟩ | ⟨h1,h2,h3,h4,h5⟩
     ·rw [hc];exact B.over (h1.symm.trans hc) hfr
     ·exact absurd hc h3
    ·obtain⟨Z,hb4,p2,rfl,hsh2,ok2,eb2,hren⟩:=hJ;have hfin:=B.fin x p2 hren hsh2 ok2.wf hnx.1 hnx.2 eb2;have hok2:=ok2.len;refine⟨λw'=>Ex w w'/\∃l:Tx,ql w' b l/\l.length=t.hd/\l++p2.text=(t.rebind old nw x p2).text,aK ok ?_,λw5 hJ=>?_⟩
     ·cases t with
      | rcv a y p'=>
       simp only [T.kind];refine cI (by decide) ?_;have hl3:(3:Nat)<=4:=by omega
       refine⟨b,0,_,cap,rfl,by omega,by simp only [T.hd];omega,a,hb4.at (i:=0) (by rw [β];simp only [T.hd];omega),jV ?_⟩;have l0:0< ((T.rcv a y p').text.take (T.rcv a y p').hd).length:=by rw [β];simp only [T.hd];omega
       have l2:2< ((T.rcv a y p').text.take (T.rcv a y p').hd).length:=by rw [β];simp only [T.hd];omega
       refine⟨b,0,_,cap,rfl,by omega,by omega,⟨⟨_,hb4.at (i:=0) l0⟩,?_⟩,λw5 H=>?_⟩
       ·exact hb4.fz 0 l0
       have G:=hb4.set (i:=0) l0 (sw a old nw);have H:w5=w4.setCell ⟨b,0,none⟩ (.int .u8 (sw a old nw).toNat):=H;rw [<-H]at G;have l2':2< (((T.rcv a y p').text.take (T.rcv a y p').hd).set 0 (sw a old nw)).length:=by rw [OE];exact l2
       refine⟨b,0,_,cap,rfl,by omega,by omega,⟨⟨_,G.at (i:=2) l2'⟩,?_⟩,λw6 δ=>?_⟩
       ·exact G.fz 2 l2'
       have ψ:=G.set (i:=2) l2' x;have δ:w6=w5.setCell ⟨b,2,none⟩ (.int .u8 x.toNat):=δ;rw [<-δ]at ψ;exact⟨δ▸(Ex.own (H▸Z.own hbw _) hbw _),_,ψ,by rw [OE,OE,β],rfl⟩
      | res y p'=>
       simp only [T.kind];refine aR (by decide) ?_;have l1:1< ((T.res y p').text.take (T.res y p').hd).length:=by rw [β];simp only [T.hd];omega
       refine⟨b,0,_,cap,rfl,by omega,by omega,⟨⟨_,hb4.at (i:=1) l1⟩,?_⟩,λw5 H=>?_⟩
       ·exact hb4.fz 1 l1
       have G:=hb4.set (i:=1) l1 x;have H:w5=w4.setCell ⟨b,1,none⟩ (.int .u8 x.toNat):=H;rw [<-H]at G;exact⟨H▸(Z.own hbw _),_,G,by rw [OE,β],rfl⟩
      | _=>cases hq2
     ·obtain⟨J,l,G,hl5,e5⟩:=hJ;refine⟨b,0,_,cap,l,rfl,hl5,G.read,by omega,?_⟩;rw [e5];exact h _ _ J hfin
  ·
   have hw:=ok.wf;have fin:∀(p:P) (l:Tx) (mk:P->P),t.text.drop t.hd=p.text->Ok p->p.size<=n->Eb k p->k+p.bd<=64->l.length=t.hd->(∀q,fG k p old nw q->fG k t old nw (mk q)/\(mk q).text=l++q.text)->
     ∀w3,Ex w w3->ql w3 b l->∃ω:Qx,∀ς:World,ς=World.drew w3->ω ς/\∃(a212:Option Addr) (ε cap214:Nat),(Value.slice (some ⟨b,0,none⟩) (List.length (List.take t.hd t.text)) cap)=Value.slice a212 ε cap214/\(0<=((ε:Int):Int)/\((ε:Int):Int)<=List.length t.text)/\(∃(b215 o216 n217 cap218:Nat) (l219:aJ),(Value.slice (some ⟨b,0,none⟩) (List.length (List.take t.hd t.text)) cap)=Value.slice (some ⟨b215,o216,none⟩) n217 cap218/\List.length l219=n217/\(∀(j:Nat) (x:UInt8),l219[j]?=some x->World.cell? ς ⟨b215,o216+j,none⟩=some (Value.int IntKind.u8 (UInt8.toNat x)))/\ω ς/\Qy 112 #[(Value.string (ay (List.drop (Int.toNat (ε:Int)) t.text))),(Value.int IntKind.u8 (UInt8.toNat old)),(Value.int IntKind.u8 (UInt8.toNat nw))] ς (ax [.s] fun(s220:aJ) (w221:World)=>ω w221/\(List.length l219+List.length s220<=4611686018427387904)/\R ((l219++s220)) w221))/\(Qy 112 #[(Value.string (ay (List.drop (Int.toNat (ε:Int)) t.text))),(Value.int IntKind.u8 (UInt8.toNat old)),(Value.int IntKind.u8 (UInt8.toNat nw))] ς (ax [.s] fun(s222:aJ) (w223:World)=>ω w223/\∃(b224 o225 n226 cap227:Nat) (l228:aJ),(Value.slice (some ⟨b,0,none⟩) (List.length (List.take t.hd t.text)) cap)=Value.slice (some ⟨b224,o225,none⟩) n226 cap227/\List.length l228=n226/\(∀(j:Nat) (x:UInt8),l228[j]?=some x->World.cell? w223 ⟨b224,o225+j,none⟩=some (Value.int IntKind.u8 (UInt8.toNat x)))/\ω w223/\(List.length l228+List.length s222<=4611686018427387904)/\R ((l228++s222)) w223)):=by
    intro p l mk hdr okp hsz ebp hbp hll hmk w3 θ hb3;refine⟨λ _=>True,λw4 χ=>⟨trivial,_,_,_,rfl,by rw [β];omega,?_,?_⟩⟩
    ·have Z:Ex w3 w4:=χ▸Ex.drew w3;rw [β,Nf,hdr];refine⟨b,0,_,cap,l,rfl,hll,(hb3.ex Z).read,trivial,ih hsz okp ebp hbp ξ η λq w5 J hq=>⟨trivial,?_,?_⟩⟩
     ·have :=(hq.J' okp).len;omega
     ·obtain⟨h1,h2⟩:=hmk q hq;rw [<-h2];exact h _ _ ((θ.trans Z).trans J) h1
    ·have Z:Ex w3 w4:=χ▸Ex.drew w3;rw [β,Nf,hdr];refine ih hsz okp ebp hbp ξ η λq w5 J hq=>⟨trivial,b,0,_,cap,l,rfl,hll,((hb3.ex Z).ex J).read,trivial,?_,?_⟩
     ·have :=(hq.J' okp).len;omega
     ·obtain⟨h1,h2⟩:=hmk q hq;rw [<-h2];exact h _ _ ((θ.trans Z).trans J) h1
   have two:∀(p q:P) (mk:P->P->P),t.parts=[p,q]->(t.kind=43\/t.kind=38)->(∀p' q',fG k p old nw p'->fG k q old nw q'->fG k t old nw (mk p' q')/\(mk p' q').text=40::(p'.text++t.kind::(q'.text++[41]))/\Ok (mk p' q'))->Eb k p->Eb k q->k+p.bd<=64->k+q.bd<=64->
     Qy 141 #[(Value.string (ay t.text))] w2 (ax [.v] fun(v165:Value) (w166:World)=>∃μ:Qx,∀w168:World,w168=World.drew w166->μ w168/\∃(b169 o170 len171 cap172:Nat),v165=Value.slice (some ⟨b169,o170,none⟩) len171 cap172/\0<=(0:Int)/\(0:Int)< len171/\∃s173:aJ,(∀w',μ w'->World.cell? w' ⟨b169,(o170+Int.toNat 0* 1),none⟩=some (Value.string (ay s173)))/\∃(b174 o175 len176 cap177:Nat),v165=Value.slice (some ⟨b174,o175,none⟩) len176 cap177/\0<=(1:Int)/\(1:Int)< len176/\∃s178:aJ,(∀w',μ w'->World.cell? w' ⟨b174,(o175+Int.toNat 1* 1),none⟩=some (Value.string (ay s178)))/\Qy 112 #[(Value.string (ay s173)),(Value.int IntKind.u8 (UInt8.toNat old)),(Value.int IntKind.u8 (UInt8.toNat nw))] w168 (ax [.s] fun(s179:aJ) (w180:World)=>μ w180/\Qy 112 #[(Value.string (ay s178)),(Value.int IntKind.u8 (UInt8.toNat old)),(Value.int IntKind.u8 (UInt8.toNat nw))] w180 (ax [.s] fun(s181:aJ) (w182:World)=>μ w182
 /\∀(b183:Nat) (w184:World),b183=Array.size (World.heap w182)->w184=World.alloc w182 (Obj.cells #[(Value.string (ay s179)),(Value.string (ay s181))] 9)->μ w184/\Qy 182 #[(Value.string (ay t.text)),(Value.slice (some ⟨b183,0,none⟩) 2 2)] w184 (ax [.s] fun(s185:aJ) (w186:World)=>μ w186/\R (s185) w186)))):=by
    intro p q mk ζ hkind hmk ebp ebq hbp hbq;refine cD ok λv w3 θ hs3=>?_
    rw [ζ]at hs3;have hs3:Strs w3 v [p.text,q.text]:=hs3;have okp:=ok.parts p (by rw [ζ];simp);have okq:=ok.parts q (by rw [ζ];simp);have szp:p.size< t.size:=dz (by rw [ζ];simp);have szq:q.size< t.size:=dz (by rw [ζ];simp);obtain⟨b3,o3,cap3,e1,e2,_⟩:=hs3.at (i:=0) (by simp);have rd:∀w' (i:Nat) (x:Tx),Ex w3 w'->[p.text,q.text][i]?=some x->w'.cell? ⟨b3,o3+i* 1,none⟩=some (.string (ay x)):=by
     intro w' i x hx hi;obtain⟨hi',e⟩:=NZ.1 hi;obtain⟨b',o',cap',e1',_,e3⟩:=(hs3.ex hx).at hi';rw [e1]at e1';cases e1';rw [NQ,e3,e]
    refine⟨λw'=>Ex w3 w',λw4 χ=>?_⟩;have Z:Ex w3 w4:=χ▸Ex.drew w3;refine⟨Z,b3,o3,2,cap3,e1,by omega,by omega,p.text,λw' hx=>rd w' 0 _ hx rfl,b3,o3,2,cap3,e1,by omega,by omega,q.text,λw' hx=>rd w' 1 _ hx rfl,?_⟩;refine ih (by omega) okp ebp hbp ξ η λp' w5 J κ=>⟨Z.trans J,ih (by omega) okq ebq hbq ξ η λq' w6 ι ν=>⟨(Z.trans J).trans ι,λb7 w7 hb7 hw7=>?_⟩⟩
    have υ:Ex w6 w7:=hw7▸Ex.alloc w6 _;obtain⟨m1,m2,m3⟩:=hmk p' q' κ ν;refine⟨((Z.trans J).trans ι).trans υ,?_⟩;have ο:Strs w7 (.slice (some ⟨b7,0,none⟩) 2 2) [p'.text,q'.text]:=by
     refine .inr ⟨b7,0,2,rfl,by rw [hw7,size_alloc];omega,λi z hz=>?_⟩;rw [NJ,hb7,hw7];refine aa ?_
     match i,hz with
     | 0,hz=>simp at hz|-;exact hz▸rfl
     | 1,hz=>simp at hz|-;exact hz▸rfl
     | i+2,hz=>simp at hz
    have hbase:Ex w w7:=(((φ.trans θ).trans (Z.trans J)).trans ι).trans υ;refine Hk ok ο (λ _=>⟨_,_,rfl,?_,λw8 hx8=>⟨?_,?_⟩⟩) (λh0=>absurd h0 hk0) λ _ h2 h3=>absurd hkind (by simp [h2,h3])
    ·have :=(κ.J' okp).len;have e:=N9 List.length m2;have hml:=m3.len;simp only [M0,Nb,Np]at e;omega
    ·exact(((Z.trans J).trans ι).trans υ).trans hx8
    ·rw [<-m2];exact h _ _ (hbase.trans hx8) m1
   cases t with
   | nil=>exact hfr.elim
   | rcv a x p=>cases hq2
   | res x p=>cases hq2
   | tau p=>
    simp only [T.wf]at hw;simp only [T.text,M0]at hlen;refine⟨λw'=>Ex w w'/\ql w' b [126,46],aK ok ?_,λw3 hJ=>fin p [126,46] .tau rfl ⟨hw,by omega⟩ (by simp only [T.size]at hn;omega) eb hbd rfl (λq hq=>⟨⟨aB.tau hq.ok,?_,hq.wf,hq.eb⟩,rfl⟩) w3 hJ.1 hJ.2⟩
    ·simp only [T.kind]
     repeat' first | refine aR (by decide) ?_ | refine cI (by decide) ?_
     exact⟨φ,γ⟩
    ·show T.tau q.shp=T.tau p.shp;rw [hq.shp]
   | rep p=>
    simp only [T.wf]at hw;simp only [T.text,M0]at hlen;refine⟨λw'=>Ex w w'/\ql w' b [42],aK ok ?_,λw3 hJ=>fin p [42] .rep rfl ⟨hw,by omega⟩ (by simp only [T.size]at hn;omega) eb hbd rfl (λq hq=>⟨⟨aB.rep hq.ok,?_,hq.wf,hq.eb⟩,rfl⟩) w3 hJ.1 hJ.2⟩
    ·simp only [T.kind]
     repeat' first | refine aR (by decide) ?_ | refine cI (by decide) ?_
     exact⟨φ,γ⟩
    ·show T.rep q.shp=T.rep p.shp;rw [hq.shp]
   | snd a c p=>
    simp only [T.wf,M8]at hw;simp only [T.text,M0]at hlen;refine⟨λw'=>Ex w w'/\ql w' b [sw a old nw,33,sw c old nw,46],aK ok ?_,λw3 hJ=>fin p [sw a old nw,33,sw c old nw,46] (.snd (sw a old nw) (sw c old nw)) rfl ⟨hw.2,by omega⟩ (by simp only [T.size]at hn;omega) eb.2.2 hbd rfl (λq hq=>⟨⟨aB.snd a c hq.ok,?_,?_,⟨sI eb.1 η,sI eb.2.1 η,hq.eb⟩⟩,rfl⟩) w3 hJ.1 hJ.2⟩
    ·simp only [T.kind];refine cI (by decide) ?_;have γ:ql w2 b [a,33,c,46]:=γ;refine⟨b,0,_,cap,rfl,by omega,by rw [β];simp only [T.hd];omega,a,γ.at (i:=0) (by simp),jV ?_⟩;refine⟨b,0,_,cap,rfl,by omega,by rw [β];simp only [T.hd];omega,⟨⟨_,γ.at (i:=0) (by simp)⟩,γ.fz 0 (by simp)⟩,λw5 H=>?_⟩;have G:=γ.set (i:=0) (by simp) (sw a old nw);have H:w5=w2.setCell ⟨b,0,none⟩ (.int .u8 (sw a old nw).toNat):=H;rw [<-H]at G;refine⟨b,0,_,cap,rfl,by omega,by rw [β];simp only [T.hd];omega,c,G.at (i:=2) (by simp),jV ?_⟩;refine⟨b,0,_,cap,rfl,by omega,by rw [β];simp only [T.hd];omega,⟨⟨_,G.at (i:=2) (by simp)⟩,G.fz 2 (by simp)⟩,λw6 δ=>?_⟩;have ψ:=G.set (i:=2) (by simp) (sw c old nw);have δ:w6=w5.setCell ⟨b,2,none⟩ (.int .u8 (sw c old nw).toNat):=δ;rw [<-δ]at ψ;exact⟨δ▸(Ex.own (H▸φ.own hbw _) hbw _),ψ⟩
    ·show T.snd () () q.shp=T.snd () () p.shp;rw [hq.shp]
    ·simp [T.wf,yT hw.1.1 ξ,yT hw.1.2 ξ,hq.wf]
   | mat a c p=>
    simp only [T.wf,M8]at hw;simp only [T.text,M0]at hlen;refine⟨λw'=>Ex w w'/\ql w' b [91,sw a old nw,61,sw c old nw,93],aK ok ?_,λw3 hJ=>fin p [91,sw a old nw,61,sw c old nw,93] (.mat (sw a old nw) (sw c old nw)) rfl ⟨hw.2,by omega⟩ (by simp only [T.size]at hn;omega) eb.2.2 hbd rfl (λq hq=>⟨⟨aB.mat a c hq.ok,?_,?_,⟨sI eb.1 η,sI eb.2.1 η,hq.eb⟩⟩,rfl⟩) w3 hJ.1 hJ.2⟩
    ·simp only [T.kind];refine aR (by decide) (cI (by decide) ?_);have γ:ql w2 b [91,a,61,c,93]:=γ;refine⟨b,0,_,cap,rfl,by omega,by rw [β];simp only [T.hd];omega,a,γ.at (i:=1) (by simp),jV ?_⟩;refine⟨b,0,_,cap,rfl,by omega,by rw [β];simp only [T.hd];omega,⟨⟨_,γ.at (i:=1) (by simp)⟩,γ.fz 1 (by simp)⟩,λw5 H=>?_⟩;have G:=γ.set (i:=1) (by simp) (sw a old nw);have H:w5=w2.setCell ⟨b,1,none⟩ (.int .u8 (sw a old nw).toNat):=H;rw [<-H]at G;refine⟨b,0,_,cap,rfl,by omega,by rw [β];simp only [T.hd];omega,c,G.at (i:=3) (by simp),jV ?_⟩;refine⟨b,0,_,cap,rfl,by omega,by rw [β];simp only [T.hd];omega,⟨⟨_,G.at (i:=3) (by simp)⟩,G.fz 3 (by simp)⟩,λw6 δ=>?_⟩;have ψ:=G.set (i:=3) (by simp) (sw c old nw);have δ:w6=w5.setCell ⟨b,3,none⟩ (.int .u8 (sw c old nw).toNat):=δ;rw [<-δ]at ψ;exact⟨δ▸(Ex.own (H▸φ.own hbw _) hbw _),ψ⟩
    ·show T.mat () () q.shp=T.mat () () p.shp;rw [hq.shp]
    ·simp [T.wf,yT hw.1.1 ξ,yT hw.1.2 ξ,hq.wf]
   | sum p q=>
    simp only [T.bd]at hbd;have hwf:=hw;simp only [T.wf,M8]at hw;refine⟨λ _=>False,aK ok ?_,λw3 hJ=>hJ.elim⟩;simp only [T.kind];refine aR (by decide) (aR (by decide) (cI (by decide) (cI (by decide) ?_)));refine two p q .sum rfl (.inl rfl) (λp' q' κ ν=>?_) eb.1 eb.2 (by omega) (by omega);have hs:(T.sum p' q').shp=(T.sum p q).shp:=by show T.sum p'.shp q'.shp=T.sum p.shp q.shp;rw [κ.shp,ν.shp]
    have hr:fG k (.sum p q) old nw (.sum p' q'):=⟨aB.sum κ.ok ν.ok,hs,by simp [T.wf,κ.wf,ν.wf],⟨κ.eb,ν.eb⟩⟩
    exact⟨hr,rfl,hr.J' ok⟩
   | par p q=>
    simp only [T.bd]at hbd;have hwf:=hw;simp only [T.wf,M8]at hw;refine⟨λ _=>False,aK ok ?_,λw3 hJ=>hJ.elim⟩;simp only [T.kind];refine aR (by decide) (aR (by decide) (aR (by decide) (cI (by decide) ?_)));refine two p q .par rfl (.inr rfl) (λp' q' κ ν=>?_) eb.1 eb.2 (by omega) (by omega);have hs:(T.par p' q').shp=(T.par p q).shp:=by show T.par p'.shp q'.shp=T.par p.shp q.shp;rw [κ.shp,ν.shp]
    have hr:fG k (.par p q) old nw (.par p' q'):=⟨aB.par κ.ok ν.ok,hs,by simp [T.wf,κ.wf,ν.wf],⟨κ.eb,ν.eb⟩⟩
    exact⟨hr,rfl,hr.J' ok⟩
section
variable {A B:Type} [DecidableEq A] [DecidableEq B]
open Classical
namespace T
def strip:T A->T A
 | mat a b p=>if a=b then p.strip else mat a b p
 | p=>p
noncomputable def peel:T A->T A
 | mat a b p=>if a=b then p.peel else mat a b p
 | sum p q=>if p.dead then q.peel else if q.dead then p.peel else sum p q
 | par p q=>if p.dead then q.peel else if q.dead then p.peel else par p q
 | res x p=>if p.Us x then res x p else p.peel
 | p=>p
def rY:∀p:T A,p.strip.dead=p.dead
 | mat a b p=>by
  unfold strip;split
  ·rw [rY p];rfl
  ·rfl
 | nil=>rfl | snd .. =>rfl | rcv .. =>rfl | tau .. =>rfl | sum .. =>rfl | par .. =>rfl | res .. =>rfl | rep .. =>rfl
def AQ (x:A):∀p:T A,p.strip.Us x↔p.Us x
 | mat a b p=>by
  unfold strip;split
  ·rename_i h;rw [AQ x p];simp [Us,h]
  ·rfl
 | nil=>P2 | snd .. =>P2 | rcv .. =>P2 | tau .. =>P2 | sum .. =>P2 | par .. =>P2 | res .. =>P2 | rep .. =>P2
def mO:∀p:T A,p.strip.size<=p.size
 | mat a b p=>by
  unfold strip;split
  ·have :=mO p;simp only [size];omega
  ·exact Nc _
 | nil=>Nc _ | snd .. =>Nc _ | rcv .. =>Nc _ | tau .. =>Nc _ | sum .. =>Nc _ | par .. =>Nc _ | res .. =>Nc _ | rep .. =>Nc _
def py:∀(p:T A) (a b:A) (q:T A),p.strip=mat a b q->a≠b
 | mat a b p,c,d,q,h=>by
  unfold strip at h;split at h
  ·exact py p c d q h
  ·cases h;assumption
 | nil,_,_,_,h=>by cases h
 | snd ..,_,_,_,h=>by cases h
 | rcv ..,_,_,_,h=>by cases h
 | tau ..,_,_,_,h=>by cases h
 | sum ..,_,_,_,h=>by cases h
 | par ..,_,_,_,h=>by cases h
 | res ..,_,_,_,h=>by cases h
 | rep ..,_,_,_,h=>by cases h
def gO (Q:T A->Prop)(hm:∀a p,Q (mat a a p)->Q p)(J:∀p q,Q (sum p q)->Q p/\Q q)(Z:∀p q,Q (par p q)->Q p/\Q q)(hr:∀x p,¬p.Us x->Q (res x p)->Q p):∀p:T A,Q p->Q p.peel:=by
 intro p
 induction p with
 | mat a b p G=>
  intro h;unfold peel;split
  ·rename_i e;subst e;exact G (hm a p h)
  ·exact h
 | sum p q G H=>
  intro h;unfold peel;split
  ·exact H (J p q h).2
  ·split
   ·exact G (J p q h).1
   ·exact h
 | par p q G H=>
  intro h;unfold peel;split
  ·exact H (Z p q h).2
  ·split
   ·exact G (Z p q h).1
   ·exact h
 | res x p G=>
  intro h;unfold peel;split
  ·exact h
  ·rename_i e;exact G (hr x p e h)
 | nil=>exact id
 | snd=>exact id
 | rcv=>exact id
 | tau=>exact id
 | rep=>exact id
def lu:∀p:T A,p.peel.dead=p.dead:=by
 intro p
 induction p with
 | mat a b p H=>unfold peel;split<;>simp_all [dead]
 | sum p q H G=>
  unfold peel;split
  ·rename_i h;rw [G];simp [dead,h]
  ·split
   ·rename_i h J;rw [H];simp [dead,J]
   ·rfl
 | par p q H G=>
  unfold peel;split
  ·rename_i h;rw [G];simp [dead,h]
  ·split
   ·rename_i h J;rw [H];simp [dead,J]
   ·rfl
 | res x p H=>
  unfold peel;split
  ·rfl
  ·rw [H];rfl
 | nil=>rfl
 | snd=>rfl
 | rcv=>rfl
 | tau=>rfl
 | rep=>rfl
def cX:T A->Prop
 | mat a b _=>a≠b
 | sum p q=>p.dead=false/\q.dead=false
 | par p q=>p.dead=false/\q.dead=false
 | res x p=>p.Us x
 | _=>True
def kf:∀p:T A,p.peel.cX:=by
 intro p
 induction p with
 | mat a b p H=>unfold peel;split<;>assumption
 | sum p q H G=>
  unfold peel;split
  ·exact G
  ·split
   ·exact H
   ·rename_i h J;exact⟨by simpa using h,by simpa using J⟩
 | par p q H G=>
  unfold peel;split
  ·exact G
  ·split
   ·exact H
   ·rename_i h J;exact⟨by simpa using h,by simpa using J⟩
 | res x p H=>unfold peel;split<;>assumption
 | nil=>trivial
 | snd=>trivial
 | rcv=>trivial
 | tau=>trivial
 | rep=>trivial
def vJ (p:T A):p.peel.size<=p.size:=
 gO (λq=>q.size<=p.size) (λa q h=>by simp only [size]at h;omega) (λq r h=>by simp only [size]at h;omega) (λq r h=>by simp only [size]at h;omega) (λx q _ h=>by simp only [size]at h;omega) p (Nc _)
def IF (p:T A):p.peel.ow<=p.ow:=
 gO (λq=>q.ow<=p.ow) (λa q h=>h) (λq r h=>by simp only [ow]at h;omega) (λq r h=>by simp only [ow]at h;omega) (λx q _ h=>by simp only [ow]at h;omega) p (Nc _)
def CU (x:A):∀p:T A,p.peel.Us x↔p.Us x:=by
 intro p
 induction p with
 | mat a b p H=>
  unfold peel;split
  ·rename_i h;rw [H];simp [Us,h]
  ·rfl
 | sum p q H J=>
  unfold peel;split
  ·rename_i h;rw [J];exact⟨.inr,λG=>G.elim (λG=>absurd G (bD h)) id⟩
  ·split
   ·rename_i h G;rw [H];exact⟨.inl,λk=>k.elim id (λk=>absurd k (bD G))⟩
   ·rfl
 | par p q H J=>
  unfold peel;split
  ·rename_i h;rw [J];exact⟨.inr,λG=>G.elim (λG=>absurd G (bD h)) id⟩
  ·split
   ·rename_i h G;rw [H];exact⟨.inl,λk=>k.elim id (λk=>absurd k (bD G))⟩
   ·rfl
 | res y p H=>
  unfold peel;split
  ·rfl
  ·rename_i h;rw [H];refine⟨λk=>⟨λe=>h (e▸k),k⟩,λk=>k.2⟩
 | nil=>rfl
 | snd=>rfl
 | rcv=>rfl
 | tau=>rfl
 | rep=>rfl
end T
end
open Classical
def ef.sub {A:Type}[DecidableEq A]{ρ:A->Nat}{p q:T A}(h:ef ρ p)(G:∀x,q.Us x->p.Us x):ef ρ q:=λx y H J=>h x y (G x H) (G y J)
def IG (u:U)(h:Uq u):Uq u.peel:=
 T.gO Uq (λ _ _ h=>h.mat) (λ _ _ h=>⟨h.dF,h.dh⟩) (λ _ _ h=>⟨h.fK,h.eV⟩) (λ _ _ _ h=>h.res) u h
def Cu (u:U):∀x∈BV u.peel,x∈BV u:=
 T.gO (λq=>∀x∈BV q,x∈BV u) (λ _ _ h=>h) (λ _ _ h=>⟨λx G=>h x (NS _ G),λx G=>h x (NG _ G)⟩)
  (λ _ _ h=>⟨λx G=>h x (NS _ G),λx G=>h x (NG _ G)⟩) (λ _ _ _ h=>λx G=>h x (Nh _ G)) u (λx h=>h)
def cK:∀u:U,Uq u->u.dead=true->aj u=([],[])
 | .nil,_,_=>rfl
 | .snd ..,_,h=>by cases h
 | .rcv ..,_,h=>by cases h
 | .tau ..,_,h=>by cases h
 | .sum p q,hu,h=>by
  simp only [T.dead,M8]at h;simp only [aj,h.1,O9];exact cK q hu.dh h.2
 | .par p q,hu,h=>by
  simp only [T.dead,M8]at h;simp [aj,cK p hu.fK h.1,cK q hu.eV h.2]
 | .res x p,hu,h=>by
  have hd:p.dead=true:=h;simp [aj,cK p hu.res hd,lP hd,Lv.has]
 | .mat a b p,hu,h=>by
  have hd:p.dead=true:=h;simp only [aj,hd,O9,cK p hu.mat hd];split<;>rfl
 | .rep p,hu,h=>by
  have hd:p.dead=true:=h;simp [aj,hd]
def nW:∀u:U,Uq u->aj u.peel=aj u:=by
 intro u
 induction u with
 | nil=>intro _;rfl
 | snd=>intro _;rfl
 | rcv=>intro _;rfl
 | tau=>intro _;rfl
 | rep=>intro _;rfl
 | mat a b p G=>
  intro h;unfold T.peel;split
  ·rename_i e;rw [G h.mat];simp [aj,e]
  ·rfl
 | sum p q G H=>
  intro h;unfold T.peel;split
  ·rename_i e;rw [H h.dh];simp [aj,e]
  ·split
   ·rename_i e J;rw [G h.dF];simp [aj,e,J]
   ·rfl
 | par p q G H=>
  intro h;unfold T.peel;split
  ·rename_i e;rw [H h.eV];simp [aj,cK p h.fK e]
  ·split
   ·rename_i e J;rw [G h.fK];simp [aj,cK q h.eV J]
   ·rfl
 | res x p G=>
  intro h;unfold T.peel;split
  ·rfl
  ·rename_i e;rw [G h.res];have:¬(td p).2.has x=true:=λZ=>e ((fH p x h.fD).1 Z)
   simp [aj,this]
def Kj {p:T UInt8}{u:U}{ρ:UInt8->Nat}{σ:Nat->Nat}{x:UInt8}{y:Nat}(h:∀v,AE (aF ρ x v) p (aF σ y v) u)(hi:ef ρ (.res x p))(hj:ef σ (.res y u)):p.Us x↔u.Us y:=by
 obtain⟨v,h1,h2⟩:=bO p u ρ σ;have G:ef (aF ρ x v) p:= .aF (λa b ha hb h5 Z=>hi a b ⟨ha,h5⟩ ⟨hb,Z⟩) λa _ ha=>h1 a (T.bw ha)
 have H:ef (aF σ y v) u:= .aF (λa b ha hb h5 Z=>hj a b ⟨ha,h5⟩ ⟨hb,Z⟩) λa _ ha=>h2 a (T.bw ha)
 constructor
 ·intro hx;obtain⟨z,J,e⟩:=(h v).used G H x hx;rw [bS]at e;unfold aF at e;split at e
  ·rename_i hh;exact hh▸J
  ·exact absurd e (h2 z (T.bw J))
 ·intro hy;obtain⟨z,J,e⟩:=(h v).symm.used H G y hy;rw [bS]at e;unfold aF at e;split at e
  ·rename_i hh;exact hh▸J
  ·exact absurd e (h1 z (T.bw J))
def AE.HV {p:T UInt8}{u:U}{ρ:UInt8->Nat}{σ:Nat->Nat}{a b:UInt8}{c d:Nat}(h:AE ρ (.mat a b p) σ (.mat c d u))(hi:ef ρ (.mat a b p))(J:ef σ (.mat c d u))(hd:p.dead=false):a=b↔c=d:=by
 have H:u.dead=false:=h.2.2.dead▸hd;constructor
 ·rintro rfl
  refine Oy λG=>G (J c d (.inr ⟨G,H,.inl rfl⟩) (.inr ⟨G,H,.inr (.inl rfl)⟩) (h.1.symm.trans h.2.1))
 ·rintro rfl
  refine Oy λG=>G (hi a b (.inr ⟨G,hd,.inl rfl⟩) (.inr ⟨G,hd,.inr (.inl rfl)⟩) (h.1.trans h.2.1.symm))
def AE.peel:∀{p:T UInt8} {u:U} {ρ:UInt8->Nat} {σ:Nat->Nat},AE ρ p σ u->ef ρ p->ef σ u->Uq u->p.dead=false->
  ∃G,AE ρ p.peel G u.peel/\∀y,y∉BV u->G y=σ y:=by
 intro p
 induction p<;>intro u ρ σ h hi hj hu hd<;>cases u<;>simp only [AE]at h
 case nil.nil=>exact⟨σ,trivial,λ _ _=>rfl⟩
 case snd.snd=>exact⟨σ,h,λ _ _=>rfl⟩
 case rcv.rcv=>exact⟨σ,h,λ _ _=>rfl⟩
 case tau.tau=>exact⟨σ,h,λ _ _=>rfl⟩
 case rep.rep=>exact⟨σ,h,λ _ _=>rfl⟩
 case mat.mat a b p ih c d u=>
  have Z:=AE.HV (p:=p) (u:=u) h hi hj hd;unfold T.peel;by_cases e:a=b
  ·rw [NO e,NO (Z.1 e)];exact ih h.2.2 (hi.sub λx H=> .inl ⟨e,H⟩) (hj.sub λx H=> .inl ⟨Z.1 e,H⟩) hu.mat hd
  ·rw [Nt e,Nt λh'=>e (Z.2 h')];exact⟨σ,h,λ _ _=>rfl⟩
 case sum.sum p q ih β u v=>
  have h1:=h.1.dead;have h2:=h.2.dead;unfold T.peel;rw [<-h1,<-h2];by_cases e:p.dead=true
  ·rw [NO e,NO e];obtain⟨G,k1,k2⟩:=β h.2 (hi.sub λx H=> .inr H) (hj.sub λx H=> .inr H) hu.dh (by simpa [T.dead,e]using hd);exact⟨G,k1,λy hy=>k2 y λJ=>hy (NG _ J)⟩
  ·rw [Nt e,Nt e];by_cases e':q.dead=true
   ·rw [NO e',NO e'];obtain⟨G,k1,k2⟩:=ih h.1 (hi.sub λx H=> .inl H) (hj.sub λx H=> .inl H) hu.dF (by simpa using e);exact⟨G,k1,λy hy=>k2 y λJ=>hy (NS _ J)⟩
   ·rw [Nt e',Nt e'];exact⟨σ,h,λ _ _=>rfl⟩
 case par.par p q ih β u v=>
  have h1:=h.1.dead;have h2:=h.2.dead;unfold T.peel;rw [<-h1,<-h2];by_cases e:p.dead=true
  ·rw [NO e,NO e];obtain⟨G,k1,k2⟩:=β h.2 (hi.sub λx H=> .inr H) (hj.sub λx H=> .inr H) hu.eV (by simpa [T.dead,e]using hd);exact⟨G,k1,λy hy=>k2 y λJ=>hy (NG _ J)⟩
  ·rw [Nt e,Nt e];by_cases e':q.dead=true
   ·rw [NO e',NO e'];obtain⟨G,k1,k2⟩:=ih h.1 (hi.sub λx H=> .inl H) (hj.sub λx H=> .inl H) hu.fK (by simpa using e);exact⟨G,k1,λy hy=>k2 y λJ=>hy (NS _ J)⟩
   ·rw [Nt e',Nt e'];exact⟨σ,h,λ _ _=>rfl⟩
 case res.res x p ih y u=>
  have γ:=Kj (p:=p) (u:=u) h hi hj;unfold T.peel;by_cases e:p.Us x
  ·rw [NO e,NO (γ.1 e)];exact⟨σ,h,λ _ _=>rfl⟩
  ·have e':¬u.Us y:=λh'=>e (γ.2 h')
   rw [Nt e,Nt e'];have hv:=h (ρ x);have hv:AE ρ p (aF σ y (ρ x)) u:=hv.congr (λz _=>by unfold aF;split<;>simp_all) λ _ _=>rfl
   obtain⟨G,k1,k2⟩:=ih hv (λa b ha hb=>hi a b ⟨λhh=>e (hh▸ha),ha⟩ ⟨λhh=>e (hh▸hb),hb⟩)
    (λa b ha hb Z=>by
     have na:a≠y:=λhh=>e' (hh▸ha)
     have nb:b≠y:=λhh=>e' (hh▸hb)
     rw [bz _ _ na,bz _ _ nb]at Z;exact hj a b ⟨na,ha⟩ ⟨nb,hb⟩ Z) hu.res hd
   refine⟨G,k1,λz hz=>?_⟩;simp only [BV,Nw,Qt]at hz;rw [k2 z hz.2,bz _ _ hz.1]
structure Bd (k:Nat)(p:P):Prop where
 eb:Eb k p
 le:k+p.pm<=64
def Bd.bd {k:Nat}{p:P}(h:Bd k p):k+p.bd<=64:=by have :=T.rN p;have :=h.le;omega
def Bd.peel {k:Nat}{p:P}(h:Bd k p):∃m,k<=m/\Bd m p.peel/\m+p.peel.rd+p.peel.ow<=k+p.rd+p.ow:=by
 refine T.gO (λq=>∃m,k<=m/\Bd m q/\m+q.rd+q.ow<=k+p.rd+p.ow) ?_ ?_ ?_ ?_ p ⟨k,Nc k,h,Nc _⟩
 ·rintro a q ⟨m,hm,hb,G⟩
  have :=hb.le;have :=T.fk q;simp only [T.pm,T.rd,T.ow]at*;exact⟨m,hm,⟨hb.eb.2.2,by omega⟩,G⟩
 iterate 2
  rintro q r ⟨m,hm,hb,G⟩
  have :=hb.le;have :=T.fk q;have :=T.fk r;simp only [T.pm,T.rd,T.ow]at*;exact⟨⟨m,hm,⟨hb.eb.1,by omega⟩,by omega⟩,⟨m,hm,⟨hb.eb.2,by omega⟩,by omega⟩⟩
 rintro x q _ ⟨m,hm,hb,G⟩
 have :=hb.le;simp only [T.pm,T.rd,T.ow]at*;exact⟨m+1,by omega,⟨hb.eb.2,by omega⟩,by omega⟩
def I6 {p:P}(h:p.wf=true):p.peel.wf=true:=
 T.gO (λq=>q.wf=true) (λ _ _ h=>by simp only [T.wf,M8]at h;exact h.2) (λ _ _ h=>by simpa only [T.wf,M8]using h)
  (λ _ _ h=>by simpa only [T.wf,M8]using h) (λ _ _ _ h=>by simp only [T.wf,M8]at h;exact h.2) p h
def D5 (p:P):p.peel.aN<=p.aN:=
 T.gO (λq=>q.aN<=p.aN) (λ _ _ h=>by simp only [T.aN]at h;omega) (λ _ _ h=>by simp only [T.aN]at h;omega) (λ _ _ h=>by simp only [T.aN]at h;omega) (λ _ _ _ h=>by simp only [T.aN]at h;omega) p (Nc _)
attribute [go_sem] Tryz.f244
def qI (G:aJ)(w:World)(R:aJ->Qx)(h:vc az (aZ [(1,[(0,.s)])] [] [(1,false,.lt 0 (.one .h 1 (.lt 2 (.lt 3 (.lt 4 (.lt 5 (.lt 6 (.lt 7 (.lt 8 (.lt 9 .done))))))))))]) (ab Tryz.f244) (ai 0 [.s G]) w (fin az [.tmp 2 .s] R)):
  Qy 244 #[(.string (ay G))] w (ax [.s] R):=
 a7 Tryz.func244 (by kernel_rfl) h
attribute [go_sem] Tryz.f245
def rL (G:aJ)(w:World)(R:Bool->Qx)(h:vc az (aZ [(10,[(18,.i)])] [] []) (ab Tryz.f245) (ai 0 [.s G]) w (fin az [.tmp 2 .b] R)):
  Qy 245 #[(.string (ay G))] w (ax [.b] R):=
 a7 Tryz.func245 (by kernel_rfl) h
attribute [go_sem] Tryz.f204
def tC (G:aJ)(w:World)(R:aJ->Qx)(h:vc az (aZ [(6,[(3,.s),(17,.i)]),(14,[(3,.s),(39,.i)])] [(13,[(3,.s)])] []) (ab Tryz.f204) (ai 0 [.s G]) w (fin az [.tmp 2 .s] R)):
  Qy 204 #[(.string (ay G))] w (ax [.s] R):=
 a7 Tryz.func204 (by kernel_rfl) h
attribute [go_sem] Tryz.f257
def tK (G:aJ)(w:World)(R:aJ->Qx)(h:vc az (aZ [(1,[(0,.s)])] [] [(9,false,.lt 0 (.lt 1 (.lt 2 (.lt 3 (.lt 4 (.lt 5 (.lt 7 (.lt 8 (.one .h 6 (.one .h 9 (.lt 10 (.lt 11 (.lt 12 .done)))))))))))))]) (ab Tryz.f257) (ai 0 [.s G]) w (fin az [.tmp 2 .s] R)):
  Qy 257 #[(.string (ay G))] w (ax [.s] R):=
 a7 Tryz.func257 (by kernel_rfl) h
attribute [go_sem] Tryz.f241
def ji (G:Value)(H:aJ)(w:World)(R:Qx)(h:vc az (aZ [(10,[(5,.c)])] [(15,[])] [(14,false,.lt 0 (.lt 1 (.lt 2 (.lt 4 (.br .h 3 (.one .h 5 (.one .h 6 (.lt 7 (.lt 8 (.lt 9 (.one .h 10 .done)))))) (.one .h 5 (.br .h 3 (.one .h 6 (.lt 7 (.lt 8 (.lt 9 (.one .h 10 .done))))) (.one .h 6 (.one .h 3 (.lt 7 (.lt 8 (.lt 9 (.one .h 10 .done))))))))))))),(15,false,.lt 0 (.lt 1 (.lt 2 (.lt 3 (.lt 4 (.lt 5 (.one .h 6 (.one .h 7 .done))))))))]) (ab Tryz.f241) (ai 0 [.v G,.s H]) w (fin az [] R)):
  Qy 241 #[G,(.string (ay H))] w (ax [] R):=
 a7 Tryz.func241 (by kernel_rfl) h
attribute [go_sem] Tryz.f242
def iC (s1:aJ)(w:World)(R:Value->Qx)(h:vc az (aZ [(5,[(3,.v),(13,.i)]),(8,[(3,.v),(26,.i)])] [] [(7,false,.lt 0 (.lt 1 (.lt 2 (.lt 3 (.lt 4 (.lt 5 (.lt 6 (.lt 7 (.lt 10 (.one .h 8 (.lt 9 .done)))))))))))]) (ab Tryz.f242) (ai 0 [.s s1]) w (fin az [.tmp 2 .v] R)):
  Qy 242 #[(.string (ay s1))] w (ax [.v] R):=
 a7 Tryz.func242 (by kernel_rfl) h
attribute [go_sem] Tryz.f179
def tA (G:Value)(s2:aJ)(w:World)(R:aJ->Qx)(h:vc az (aZ [(3,[(5,.s),(6,.i)])] [] []) (ab Tryz.f179) (ai 0 [.v G,.s s2]) w (fin az [.tmp 4 .s] R)):
  Qy 179 #[G,(.string (ay s2))] w (ax [.s] R):=
 a7 Tryz.func179 (by kernel_rfl) h
attribute [go_sem] Tryz.f102
def pt (G:Value)(w:World)(R:Value->Qx)(h:vc az (aZ [(3,[(3,.v),(10,.i)]),(6,[(6,.i)])] [(8,[(6,.i)])] []) (ab Tryz.f102) (ai 0 [.v G]) w (fin az [.tmp 2 .v] R)):
  Qy 102 #[G] w (ax [.v] R):=
 a7 Tryz.func102 (by kernel_rfl) h
attribute [go_sem] Tryz.f261
def nk (G:aJ)(w:World)(R:Value->Qx)(h:vc az (aZ [] [] [(7,false,.lt 0 (.lt 1 (.lt 2 (.lt 4 (.lt 5 (.lt 6 (.one .h 3 (.one .h 7 (.one .h 8 (.lt 9 .done))))))))))]) (ab Tryz.f261) (ai 0 [.s G]) w (fin az [.tmp 2 .v] R)):
  Qy 261 #[(.string (ay G))] w (ax [.v] R):=
 a7 Tryz.func261 (by kernel_rfl) h
def Strs.get {w w':World}{v:Value}{l:List Tx}(h:Strs w v l)(hw:Ex w w'){i:Int}{x:Tx}(G:0<=i)(H:l[i.toNat]?=some x){Q:aJ->Prop}(J:Q x):
  ∃(b o len cap:Nat),v=Value.slice (some ⟨b,o,none⟩) len cap/\0<=i/\i< (len:Int)/\∃s:aJ,World.cell? w' ⟨b,o+Int.toNat i* 1,none⟩=some (Value.string (ay s))/\Q s:=by
 obtain⟨hi,e⟩:=NZ.1 H;obtain⟨b,o,cap,Z,e2,e3⟩:=(h.ex hw).at hi;exact⟨b,o,l.length,cap,Z,G,by omega,x,by rw [NQ,e3,e],J⟩
def Strs.FH {w:World}{v:Value}{l:List Tx}(h:Strs w v l){i:Int}{x:Tx}(G:0<=i)(H:l[i.toNat]?=some x){Q:aJ->Prop}(J:Q x):
  ∃(b o len cap:Nat),v=Value.slice (some ⟨b,o,none⟩) len cap/\0<=i/\i< (len:Int)/\∃s:aJ,(∀w',Ex w w'->World.cell? w' ⟨b,o+Int.toNat i* 1,none⟩=some (Value.string (ay s)))/\Q s:=by
 obtain⟨hi,e⟩:=NZ.1 H;obtain⟨b,o,cap,Z,e2,e3⟩:=h.at hi;exact⟨b,o,l.length,cap,Z,G,by omega,x,λw' hw=>by rw [hw.cell e2,NQ,e3,e],J⟩
def sY {t:P}(ok:Ok t):Ok t.strip:=by
 have:∀t:P,t.wf=true->t.strip.wf=true/\t.strip.aN<=t.aN:=by
  intro t
  induction t with
  | mat a b p G=>
   intro h;unfold T.strip;split
   ·simp only [T.wf,M8]at h;have :=G h.2;exact⟨this.1,by simp only [T.aN];omega⟩
   ·exact⟨h,Nc _⟩
  | _=>exact λh=>⟨h,Nc _⟩
 have h:=this t ok.wf;exact⟨h.1,by have :=ok.len;rw [T.aQ]at*;omega⟩
def pn {t:P}(ok:Ok t){w:World}{R:aJ->Qx}(h:∀w',Ex w w'->R t.strip.text w'):Qy 244 #[.string (ay t.text)] w (ax [.s] R):=by
 refine qI _ w R ?_;dsimp only [go_sem];refine⟨λp w'=>Ex w w'/\∃q:P,p=q.text/\Ok q/\q.strip=t.strip,λp _=>p.length,⟨Ex.refl w,t,rfl,ok,rfl⟩,λp w1 hI=>?_⟩;obtain⟨hx,q,rfl,G,hq⟩:=hI;refine⟨λ _=>True,λJ Z=>⟨trivial,aK G ⟨trivial,?_⟩⟩⟩;have H:Ex w J:=hx.trans (Z▸Ex.drew w1);have no:q.strip=q->R q.text J:=λe=>by
  have :=h J H;rw [<-hq,e]at this;exact this
 cases q with
 | mat a b p=>
  simp only [T.kind];refine cI (by decide) ⟨by simp only [T.text,M0];omega,by simp only [T.text,M0];omega,λhc=>?_,λhc=>?_⟩
  ·have e:a=b:=NB hc;subst e;have h2:T.strip (.mat a a p)=p.strip:=by conv=>lhs;unfold T.strip;rw [NO rfl]
   refine⟨by simp only [T.text,M0];omega,⟨H,p,rfl,G.parts p (by simp [T.parts]),h2.symm.trans hq⟩,?_⟩;show p.text.length< (T.mat a a p).text.length;simp only [T.text,M0];omega
  ·have e:a≠b:=Ny hc;exact no (by conv=>lhs;unfold T.strip;rw [Nt e])
 | _=>simp only [T.kind];exact aR (by decide) (no rfl)
def rH {t:P}(h1:t.kind≠33)(G:t.kind≠63)(H:t.kind≠126):t.dead=t.parts.all T.dead:=by
 cases t<;>first | (exact absurd rfl h1) | (exact absurd rfl G) | (exact absurd rfl H) | simp [T.dead,T.parts]
def eR:∀(n:Nat) {t:P},t.size<=n->Ok t->∀{w:World} {R:Bool->Qx},(∀w',Ex w w'->R t.dead w')->Qy 245 #[.string (ay t.text)] w (ax [.b] R):=by
 intro n
 induction n with
 | zero=>intro t h;have :=aU t;omega
 | succ n ih=>
  intro t hn ok w R h;refine rL _ w R ?_;dsimp only [go_sem];refine pn ok λw1 ζ=>?_
  have η:=sY ok;have hq:=T.mO t;rw [<-T.rY]at h;generalize t.strip=q at*;refine aK η ?_;have loop:q.kind≠33->q.kind≠63->q.kind≠126->Qy 141 #[(Value.string (ay q.text))] w1 (ax [.v] fun(ν:Value) (ψ:World)=>∃(a40:Option Addr) (H θ:Nat),ν=Value.slice a40 H θ/\∃(ι:Int->Qx) (ξ:Int->World->Nat),ι (0) ψ/\∀(G:Int) (Z:World),ι G Z->((decide (G< (H:Int)))=true->∃(b47 ο β κ:Nat),ν=Value.slice (some ⟨b47,ο,none⟩) β κ/\0<=(G:Int)/\(G:Int)< β/\∃ς:aJ,World.cell? Z ⟨b47,(ο+Int.toNat G* 1),none⟩=some (Value.string (ay ς))/\Qy 245 #[(Value.string (ay ς))] Z (ax [.b] fun(υ:Bool) (μ:World)=>((!υ)=true->R (false) μ)/\((!υ)=false->cW (G+1)/\ι ((G+1)) μ/\ξ ((G+1)) μ< ξ G Z)))/\((decide (G< (H:Int)))=false->R (true) Z)):=by
   intro h1 h2 h3;refine cD η λv w2 φ hs=>?_
   obtain⟨a,cap,hv⟩:=hs.slice;rw [Nq]at hv;have ω:=dB q;refine⟨a,q.parts.length,cap,hv,λx w'=>Ex w2 w'/\∃k:Nat,x=k/\k<=q.parts.length/\∀p∈q.parts.take k,p.dead=true,λx _=>((q.parts.length:Int) - x).toNat,⟨Ex.refl _,0,rfl,by omega,by simp⟩,λx w3 hI=>?_⟩;obtain⟨ε,k,rfl,hk,γ⟩:=hI;refine⟨λhc=>?_,λhc=>?_⟩
   ·have J:k< q.parts.length:=by simpa using hc
    have δ:q.parts[k]∈q.parts:=NC J;refine hs.get ε (i:=k) (by omega) (x:=(q.parts[k]).text) (by simp [J]) ?_;refine ih (by have :=dz δ;omega) (η.parts _ δ) λw4 χ=>⟨λhd=>?_,λhd=>?_⟩
    ·have hd:(q.parts[k]).dead=false:=by simpa using hd
     have e:q.dead=false:=by
      rw [rH h1 h2 h3,List.all_eq_false];exact⟨_,δ,by simp [hd]⟩
     rw [<-e];exact h w4 (((ζ.trans φ).trans ε).trans χ)
    ·have hd:(q.parts[k]).dead=true:=by simpa using hd
     refine⟨by omega,⟨ε.trans χ,k+1,by omega,J,λp hp=>?_⟩,by dsimp only;omega⟩;rw [List.take_succ_eq_append_getElem J]at hp;rcases Nk.1 hp with hp | hp
     ·exact γ p hp
     ·rw [ND.1 hp];exact hd
   ·have J:k=q.parts.length:=by simp at hc;omega
    subst J;rw [NR]at γ;have e:q.dead=true:=by
     rw [rH h1 h2 h3,OV];exact γ
    rw [<-e];exact h w3 ((ζ.trans φ).trans ε)
  have h:=h w1 ζ;cases q with
  | nil=>simp only [T.kind];exact cI (by decide) h
  | snd a b p=>simp only [T.kind];exact aR (by decide) (cI (by decide) (cI (by decide) h))
  | rcv a b p=>simp only [T.kind];exact aR (by decide) (aR (by decide) (cI (by decide) (cI (by decide) h)))
  | tau p=>simp only [T.kind];exact aR (by decide) (aR (by decide) (aR (by decide) (cI (by decide) h)))
  | sum p q=>simp only [T.kind];exact aR (by decide) (aR (by decide) (aR (by decide) (aR (by decide) (loop (by simp [T.kind]) (by simp [T.kind]) (by simp [T.kind])))))
  | par p q=>simp only [T.kind];exact aR (by decide) (aR (by decide) (aR (by decide) (aR (by decide) (loop (by simp [T.kind]) (by simp [T.kind]) (by simp [T.kind])))))
  | res x p=>simp only [T.kind];exact aR (by decide) (aR (by decide) (aR (by decide) (aR (by decide) (loop (by simp [T.kind]) (by simp [T.kind]) (by simp [T.kind])))))
  | mat a b p=>simp only [T.kind];exact aR (by decide) (aR (by decide) (aR (by decide) (aR (by decide) (loop (by simp [T.kind]) (by simp [T.kind]) (by simp [T.kind])))))
  | rep p=>simp only [T.kind];exact aR (by decide) (aR (by decide) (aR (by decide) (aR (by decide) (loop (by simp [T.kind]) (by simp [T.kind]) (by simp [T.kind])))))
def E8 {t:P}(hd:t.dead=false)(hm:∀a b p,t= .mat a b p->a≠b)(x:UInt8):t.Us x↔x∈t.names\/(∃p∈t.parts,p.Us x)/\¬(t.qz=true/\x=t.bindC):=by
 cases t<;>simp [T.Us,T.names,T.parts,T.qz,T.bindC,Qf,and_comm]
 case mat a b p=>
  have G:=hm a b p rfl;have hd:p.dead=false:=hd;simp [G,hd]
def og:∀(n:Nat) {t:P},t.size<=n->Ok t->∀{w:World} {R:aJ->Qx},(∀s w',Ex w w'->kC s->(∀x,x∈s↔t.Us x)->R s w')->Qy 204 #[.string (ay t.text)] w (ax [.s] R):=by
 intro n
 induction n with
 | zero=>intro t h;have :=aU t;omega
 | succ n ih=>
  intro t0 hn ok w R h;refine tC _ w R ?_;dsimp only [go_sem];dsimp only [go_sem,Nat.reduceAdd];refine pn ok λw1 κ=>?_
  have H:=sY ok;have hsz:=T.mO t0;have μ:=T.py t0;have h:∀s w',Ex w w'->kC s->(∀x,x∈s↔t0.strip.Us x)->R s w':=λs w' a b c=>h s w' a b λx=>by rw [c,T.AQ]
  generalize t0.strip=t at*;refine eR _ (Nc _) H λw2 ν=>⟨λhd=>?_,λhd=>?_⟩
  ·exact h [] w2 (κ.trans ν) kC.nil λx=>⟨λhx=>absurd hx PO,λhx=>absurd hx (T.bD hd)⟩
  refine cD H λv w3 υ hs=>?_
  have J:=(κ.trans ν).trans υ;obtain⟨a,cap,hv⟩:=hs.slice;rw [Nq]at hv;have hpl:=dB t;refine⟨a,t.parts.length,cap,hv,λout x w'=>Ex w3 w'/\kC out/\∃k:Nat,x=k/\k<=t.parts.length/\∀x,x∈out↔∃p∈t.parts.take k,p.Us x,λ _ x _=>((t.parts.length:Int) - x).toNat,
   ⟨Ex.refl _,kC.nil,0,rfl,by omega,by simp⟩,λout x w4 hI=>?_⟩
  obtain⟨Z,β,k,rfl,hk,hm⟩:=hI;refine⟨λhc=>?_,λhc=>?_⟩
  ·have G:k< t.parts.length:=by simpa using hc
   have γ:t.parts[k]∈t.parts:=NC G;refine hs.get Z (i:=k) (by omega) (x:=(t.parts[k]).text) (by simp [G]) ?_;refine ih (by have :=dz γ;omega) (H.parts _ γ) λs w5 ε φ ζ=>?_
   refine iA β (by have :=φ.bound;omega) λs' w6 η χ ψ=>⟨by omega,⟨(Z.trans ε).trans η,χ,k+1,by omega,G,λx=>?_⟩,by dsimp only;omega⟩
   rw [ψ,hm,ζ,Ng G];simp only [Nk,ND];constructor
   ·rintro(⟨p,hp,hf⟩ | hf)
    ·exact⟨p,.inl hp,hf⟩
    ·exact⟨_,.inr rfl,hf⟩
   ·rintro⟨p,hp | rfl,hf⟩
    ·exact .inl ⟨p,hp,hf⟩
    ·exact .inr hf
  ·have G:k=t.parts.length:=by simp at hc;omega
   subst G;rw [NR]at hm;refine⟨λout w'=>Ex w w'/\kC out/\∀x,x∈out↔(∃p∈t.parts,p.Us x)/\¬(t.qz=true/\x=t.bindC),pY H ⟨λhb=>?_,λhb=>?_⟩,λξ w5 hJ=>?_⟩
   ·refine zj (by have :=β.bound;omega) ⟨J.trans Z,β.filter _,λx=>?_⟩;simp [hm,hb]
   ·exact⟨J.trans Z,β,λx=>by simp [hm,hb]⟩
   obtain⟨ε,ο,ζ⟩:=hJ;refine D0 H λw6 η=>λb cp w7 hb ς ω=>?_
   have hbt:=ql.Fk ς;have hx7:Ex w w7:=(ε.trans η).trans (sS ω);have hnl:t.names.length<=2:=by cases t<;>simp [T.names]
   refine⟨some ⟨b,0,none⟩,t.names.length,cp,rfl,λout x w'=>Ex w7 w'/\kC out/\∃k:Nat,x=k/\k<=t.names.length/\∀x,x∈out↔x∈t.names.take k\/x∈ξ,λ _ x _=>((t.names.length:Int) - x).toNat,
    ⟨Ex.refl _,ο,0,rfl,by omega,by simp⟩,λout x w8 hI=>?_⟩
   obtain⟨θ,δ,k,rfl,hk,ι⟩:=hI;refine⟨λhc=>?_,λhc=>?_⟩
   ·have G:k< t.names.length:=by simpa using hc
    refine⟨b,0,t.names.length,cp,rfl,by omega,by omega,bt t.names k,(hbt.ex θ).at G,?_⟩;refine fT δ λs w9 hx9 hs9 hm9=>⟨by omega,⟨θ.trans hx9,hs9,k+1,by omega,G,λx=>?_⟩,by dsimp only;omega⟩
    have e:t.names.take (k+1)=t.names.take k++[bt t.names k]:=by
     have :=fN (s:=t.names) (i:=k) (by omega) (by omega);have e2:((k:Int)+1).toNat=k+1:=by omega
     rw [e2]at this;exact this
    rw [hm9,ι,e];simp only [Nk,ND];constructor
    ·rintro(h | h | h)
     ·exact .inl (.inr h)
     ·exact .inl (.inl h)
     ·exact .inr h
    ·rintro((h | h) | h)
     ·exact .inr (.inl h)
     ·exact .inl h
     ·exact .inr (.inr h)
   ·have G:k=t.names.length:=by simp at hc;omega
    subst G;rw [NR]at ι;refine h out w8 (hx7.trans θ) δ λx=>?_
    rw [ι,ζ,E8 hd (λa b p e=>μ a b p e)]
def A3 (t:P):t.strip.peel=t.peel:=by
 induction t with
 | mat a b p G=>
  unfold T.strip;split
  ·rename_i e;rw [G];conv=>rhs;unfold T.peel;rw [NO e]
  ·rfl
 | _=>rfl
def zC {t:P}(ok:Ok t){w:World}{R:aJ->Qx}(h:∀w',Ex w w'->Ok t.peel->R t.peel.text w'):Qy 257 #[.string (ay t.text)] w (ax [.s] R):=by
 refine tK _ w R ?_;dsimp only [go_sem];dsimp only [go_sem,Nat.reduceAdd];refine⟨λp w'=>Ex w w'/\∃q:P,p=q.text/\Ok q/\q.peel=t.peel,λp _=>p.length,⟨Ex.refl w,t,rfl,ok,rfl⟩,λp w1 hI=>?_⟩;obtain⟨hx,q0,rfl,η,Z⟩:=hI;refine pn η λw2 μ=>?_
 have β:=sY η;have hlen:q0.strip.text.length<=q0.text.length:=by
  have:∀t:P,t.strip.aN<=t.aN:=by
   intro t
   induction t with
   | mat a b p ih=>
    unfold T.strip;split
    ·simp only [T.aN];omega
    ·exact Nc _
   | _=>exact Nc _
  rw [T.aQ,T.aQ];exact this q0
 have ι:=T.py q0;rw [<-A3]at Z;generalize q0.strip=q at*;refine cD β λv w3 ν hs=>aK β ?_
 have ε:Ex w w3:=(hx.trans μ).trans ν;have stay:q.peel=q->∀w',Ex w3 w'->R q.text w':=λe w' ξ=>by
  have :=h w' (ε.trans ξ) (Z▸e.symm▸β);rw [<-Z,e]at this;exact this
 cases q with
 | nil=>
  simp only [T.kind]
  repeat' first | refine aR (by decide) ?_ | refine cI (by decide) ?_ | refine bV (by decide) ?_ | refine dx (by decide) ?_
  exact⟨λ _=>True,λw4 H=>⟨trivial,aR (by decide) (stay rfl w4 (H▸Ex.drew w3))⟩⟩
 | snd a b p=>
  simp only [T.kind]
  repeat' first | refine aR (by decide) ?_ | refine cI (by decide) ?_ | refine bV (by decide) ?_ | refine dx (by decide) ?_
  exact⟨λ _=>True,λw4 H=>⟨trivial,aR (by decide) (stay rfl w4 (H▸Ex.drew w3))⟩⟩
 | rcv a b p=>
  simp only [T.kind]
  repeat' first | refine aR (by decide) ?_ | refine cI (by decide) ?_ | refine bV (by decide) ?_ | refine dx (by decide) ?_
  exact⟨λ _=>True,λw4 H=>⟨trivial,aR (by decide) (stay rfl w4 (H▸Ex.drew w3))⟩⟩
 | tau p=>
  simp only [T.kind]
  repeat' first | refine aR (by decide) ?_ | refine cI (by decide) ?_ | refine bV (by decide) ?_ | refine dx (by decide) ?_
  exact⟨λ _=>True,λw4 H=>⟨trivial,aR (by decide) (stay rfl w4 (H▸Ex.drew w3))⟩⟩
 | rep p=>
  simp only [T.kind]
  repeat' first | refine aR (by decide) ?_ | refine cI (by decide) ?_ | refine bV (by decide) ?_ | refine dx (by decide) ?_
  exact⟨λ _=>True,λw4 H=>⟨trivial,aR (by decide) (stay rfl w4 (H▸Ex.drew w3))⟩⟩
 | mat a b p=>
  have ο:=ι a b p rfl;simp only [T.kind]
  repeat' first | refine aR (by decide) ?_ | refine cI (by decide) ?_ | refine bV (by decide) ?_ | refine dx (by decide) ?_
  exact⟨λ _=>True,λw4 H=>⟨trivial,aR (by decide) (stay (by unfold T.peel;rw [Nt ο]) w4 (H▸Ex.drew w3))⟩⟩
 | res x p=>
  have γ:=β.parts p (by simp [T.parts]);simp only [T.kind]
  repeat' first | refine aR (by decide) ?_ | refine cI (by decide) ?_ | refine bV (by decide) ?_ | refine dx (by decide) ?_
  refine⟨λw'=>Ex w3 w',λw4 H=>⟨H▸Ex.drew w3,cI (by decide) ?_⟩⟩;have G:Ex w3 w4:=H▸Ex.drew w3;refine hs.FH (i:=0) (x:=p.text) (by omega) rfl ⟨by simp only [T.text,M0];omega,?_⟩;refine og _ (Nc _) γ λs w5 J ς κ=>⟨G.trans J,ib (by have :=ς.bound;omega) ⟨G.trans J,λhq=>?_,λhq=>?_⟩⟩
  ·have hq:¬p.Us x:=by
    rw [<-κ];simpa [T.text,bt]using hq
   refine hs.get (G.trans J) (i:=0) (x:=p.text) (by omega) rfl ⟨⟨ε.trans (G.trans J),p,rfl,γ,?_⟩,?_⟩
   ·rw [<-Z];conv=>rhs;unfold T.peel;rw [Nt hq]
   ·have:p.text.length< (T.res x p).text.length:=by simp only [T.text,M0];omega
    exact Nz this hlen
  ·have hq:p.Us x:=by
    rw [<-κ];simpa [T.text,bt]using hq
   exact stay (by unfold T.peel;rw [NO hq]) w5 (G.trans J)
 | sum p r=>
  have γ:=β.parts p (by simp [T.parts]);have ζ:=β.parts r (by simp [T.parts]);have lp:p.text.length< (T.sum p r).text.length:=by simp only [T.text,M0,Nb];omega
  have lr:r.text.length< (T.sum p r).text.length:=by simp only [T.text,M0,Nb];omega
  simp only [T.kind]
  repeat' first | refine aR (by decide) ?_ | refine cI (by decide) ?_ | refine bV (by decide) ?_ | refine dx (by decide) ?_
  refine hs.get (Ex.refl w3) (i:=0) (x:=p.text) (by omega) rfl (eR _ (Nc _) γ λw4 G=>⟨λhd=>?_,λhd=>?_⟩)
  ·refine hs.get G (i:=1) (x:=r.text) (by omega) rfl ⟨⟨ε.trans G,r,rfl,ζ,?_⟩,Nz lr hlen⟩;rw [<-Z];conv=>rhs;unfold T.peel;rw [NO hd]
  repeat' first | refine aR (by decide) ?_ | refine cI (by decide) ?_ | refine bV (by decide) ?_ | refine dx (by decide) ?_
  refine hs.get G (i:=1) (x:=r.text) (by omega) rfl (eR _ (Nc _) ζ λw5 J=>⟨λδ=>?_,λδ=>?_⟩)
  ·refine hs.get (G.trans J) (i:=0) (x:=p.text) (by omega) rfl ⟨⟨ε.trans (G.trans J),p,rfl,γ,?_⟩,Nz lp hlen⟩;rw [<-Z];conv=>rhs;unfold T.peel;rw [Nt (by simp [hd]),NO δ]
  ·exact⟨λ _=>True,λw6 θ=>⟨trivial,aR (by decide) (stay (by unfold T.peel;rw [Nt (by simp [hd]),Nt (by simp [δ])]) w6 ((G.trans J).trans (θ▸Ex.drew w5)))⟩⟩
 | par p r=>
  have γ:=β.parts p (by simp [T.parts]);have ζ:=β.parts r (by simp [T.parts]);have lp:p.text.length< (T.par p r).text.length:=by simp only [T.text,M0,Nb];omega
  have lr:r.text.length< (T.par p r).text.length:=by simp only [T.text,M0,Nb];omega
  simp only [T.kind]
  repeat' first | refine aR (by decide) ?_ | refine cI (by decide) ?_ | refine bV (by decide) ?_ | refine dx (by decide) ?_
  refine hs.get (Ex.refl w3) (i:=0) (x:=p.text) (by omega) rfl (eR _ (Nc _) γ λw4 G=>⟨λhd=>?_,λhd=>?_⟩)
  ·refine hs.get G (i:=1) (x:=r.text) (by omega) rfl ⟨⟨ε.trans G,r,rfl,ζ,?_⟩,Nz lr hlen⟩;rw [<-Z];conv=>rhs;unfold T.peel;rw [NO hd]
  repeat' first | refine aR (by decide) ?_ | refine cI (by decide) ?_ | refine bV (by decide) ?_ | refine dx (by decide) ?_
  refine hs.get G (i:=1) (x:=r.text) (by omega) rfl (eR _ (Nc _) ζ λw5 J=>⟨λδ=>?_,λδ=>?_⟩)
  ·refine hs.get (G.trans J) (i:=0) (x:=p.text) (by omega) rfl ⟨⟨ε.trans (G.trans J),p,rfl,γ,?_⟩,Nz lp hlen⟩;rw [<-Z];conv=>rhs;unfold T.peel;rw [Nt (by simp [hd]),NO δ]
  ·exact⟨λ _=>True,λw6 θ=>⟨trivial,aR (by decide) (stay (by unfold T.peel;rw [Nt (by simp [hd]),Nt (by simp [δ])]) w6 ((G.trans J).trans (θ▸Ex.drew w5)))⟩⟩
def sv (x:Tx):Value:= .string (ay x)
def Own (B:Nat)(w:World)(v:Value)(l:List Tx):Prop:=w.ownsRow B 9 1 v l.length (l.map sv)
def Own.nil (B:Nat)(w:World):Own B w (.slice none 0 0) []:=P3 _ _ _ _
def Own.strs {B:Nat}{w:World}{v:Value}{l:List Tx}(h:Own B w v l):Strs w v l:=by
 rcases h.2 with⟨rfl,J⟩ | ⟨g,cap,cur,rfl,hb,G,h1,Z,h3,h4⟩
 ·exact .inl ⟨rfl,NF J⟩
 ·refine .inr ⟨g,0,cap,rfl,(NL.1 G).1,λi x H=>?_⟩;unfold World.cell?;simp only [G,NJ];have e:=N9 (λl=>l[i]?) h4;obtain⟨hi,_⟩:=NZ.1 H;simp only [NQ,Pg,hi,O9,OX,H,OP]at e;rw [<-Oe];exact e
def Own.ex {B:Nat}{w w':World}{v:Value}{l:List Tx}(h:Own B w v l)(k:Ex w w'):Own B w' v l:=by
 refine⟨h.1,?_⟩;rcases h.2 with H | ⟨g,cap,cur,rfl,hb,G,rest⟩
 ·exact .inl H
 ·exact .inr ⟨g,cap,cur,rfl,hb,by rw [k.block g (NL.1 G).1];exact G,rest⟩
def Own.mono {B G:Nat}{w:World}{v:Value}{l:List Tx}(h:Own B w v l)(hb:G<=B):Own G w v l:=Pw h hb
def Own.push {B:Nat}{w:World}{v:Value}{l:List Tx}(h:Own B w v l)(hB:B<=w.heap.size){x:Value}{m:List Tx}(H:Strs w x m)(hl:l.length+m.length<=1099511627776){K:Value->Qx}
  (J:∀v' w',Below B w w'->Own B w' v' (l++m)->w.grownBy w' v.ownBlock->(∀b,v'.ownBlock=some b->v.ownBlock=some b\/w.heap.size<=b)->K v' w'):
  ∃(base n k:Nat) (xs news:List Value),World.ownsRow w base 9 1 v n xs/\base<=Array.size (World.heap w)/\db w x k 1 news/\(n+k<=maxLen/\(n+k)* 16<=140737488355328)/\
   ∀(v':Value) (w':World),World.ownsRow w' base 9 1 v' (n+k) (xs++news)->World.grownBy w w' (Value.ownBlock v)->(∀b:Nat,Value.ownBlock v'=some b->Value.ownBlock v=some b\/Array.size (World.heap w)<=b)->K v' w':=by
 refine⟨B,l.length,m.length,l.map sv,m.map sv,h,hB,?_,⟨by unfold maxLen;omega,by omega⟩,λv' w' Z G hw=>J v' w' ?_ ?_ G hw⟩
 ·refine⟨by simp,by simp [sv,oneV],?_⟩;rcases H with⟨rfl,rfl⟩ | ⟨b,off,cap,rfl,hb,hc⟩
  ·exact .inl ⟨rfl,rfl⟩
  ·refine .inr ⟨b,off,cap,rfl,λj u hu=>?_⟩;rw [OX]at hu;cases e:m[j]? with
   | none=>rw [e]at hu;cases hu
   | some y=>rw [e]at hu;cases hu;exact hc j y e
 ·exact Below.grown (Qk B w) G hB λk hk=>(Pt h k hk).1
 ·unfold Own;rw [Nb,N0];exact Z
def Strs.grown {w w':World}{v:Value}{l:List Tx}{row:Option Nat}(h:Strs w v l)(H:w.grownBy w' row)(G:∀b,v.ownBlock=some b->row≠some b):Strs w' v l:=by
 rcases h with h | ⟨b,off,cap,h1,J,Z⟩
 ·exact .inl h
 ·refine .inr ⟨b,off,cap,h1,Nz J H.size,λi x hx=>?_⟩;rw [M5 (w:=w) (H.block b J (λe=>G b (by rw [h1];rfl) e.symm))];exact Z i x hx
def Own.block {B:Nat}{w:World}{v:Value}{l:List Tx}(h:Own B w v l):∀b,v.ownBlock=some b->B<=b/\b< w.heap.size:=Pt h
def Ex.below {w0 w w':World}(h:Ex w0 w)(k:Below w0.heap.size w w'):Ex w0 w':=Below.trans h k
def Strs.one {w w':World}{b:Nat}{x:Tx}(hb:b=w.heap.size)(h:w'=w.alloc (.cells #[.string (ay x)] 9)):Strs w' (.slice (some ⟨b,0,none⟩) 1 1) [x]:=by
 subst hb h;refine .inr ⟨_,0,1,rfl,by rw [size_alloc];omega,λi z G=>?_⟩;rw [NJ];refine aa ?_
 match i,G with
 | 0,G=>simp at G|-;exact G▸rfl
 | i+1,G=>simp at G
def Own.one {w w':World}{B b:Nat}{x:Tx}(hB:B<=w.heap.size)(hb:b=w.heap.size)(h:w'=w.alloc (.cells #[.string (ay x)] 9)):Own B w' (.slice (some ⟨b,0,none⟩) 1 1) [x]:=by
 subst hb h;refine⟨rfl,.inr ⟨_,1,#[.string (ay x)],rfl,hB,?_,by simp,by unfold maxLen;omega,rfl,rfl⟩⟩;unfold World.alloc;simp
def Own.none {w w':World}{B b:Nat}(hB:B<=w.heap.size)(hb:b=w.heap.size)(h:w'=w.alloc (.cells #[] 9)):Own B w' (.slice (some ⟨b,0,none⟩) 0 0) []:=by
 subst hb h;refine⟨rfl,.inr ⟨_,0,#[],rfl,hB,?_,by simp,by unfold maxLen;omega,rfl,rfl⟩⟩;unfold World.alloc;simp
def Strs.take {w:World}{a:Option Addr}{n cap:Nat}{l:List Tx}(h:Strs w (.slice a n cap) l){k:Int}(h0:0<=k)(hk:k<=l.length):
  Strs w (.slice (if cap=Int.toNat 0 then a else Option.map (·.add (Int.toNat 0* 1)) a) (Int.toNat k - Int.toNat 0) (cap - Int.toNat 0)) (l.take k.toNat):=by
 have H:Int.toNat 0=0:=rfl;rcases h with⟨h,rfl⟩ | ⟨b,off,c,h1,J,Z⟩
 ·cases h;have:k=0:=by simp at hk;omega
  subst this;exact .inl ⟨rfl,rfl⟩
 ·cases h1;refine .inr ⟨b,off,cap,?_,J,λi x G=>Z i x ?_⟩
  ·have e:(if cap=Int.toNat 0 then some (⟨b,off,none⟩:Addr)else Option.map (λq:Addr=>q.add (Int.toNat 0* 1)) (some (⟨b,off,none⟩:Addr)))=some ⟨b,off,none⟩:=by
    split
    ·rfl
    ·simp [Addr.add,H]
   rw [e,H,NW]
   congr 1
   omega
  ·rw [Pg]at G;split at G
   ·exact G
   ·cases G
def Strs.drop {w:World}{a:Option Addr}{n cap:Nat}{l:List Tx}(h:Strs w (.slice a n cap) l){k:Int}(h0:0<=k)(hk:k<=l.length)(hc:n<=cap):
  Strs w (.slice (if cap=Int.toNat k then a else Option.map (·.add (Int.toNat k* 1)) a) (Int.toNat (n:Int) - Int.toNat k) (cap - Int.toNat k)) (l.drop k.toNat):=by
 rcases h with⟨h,rfl⟩ | ⟨b,off,c,h1,H,J⟩
 ·cases h;have:k=0:=by simp at hk;omega
  subst this;exact .inl ⟨rfl,rfl⟩
 ·cases h1;by_cases e:cap=k.toNat
  ·have Z:l.drop k.toNat=[]:=OT (by omega);rw [NO e,Z];refine .inr ⟨b,off,cap - k.toNat,?_,H,λi x G=>by simp at G⟩;rw [Nf]
   congr 1
   simp only [Np];omega
  ·rw [Nt e];refine .inr ⟨b,off+k.toNat,cap - k.toNat,?_,H,λi x G=>?_⟩
   ·rw [Nf,OB];simp [Addr.add]
   ·rw [Ql]at G;rw [O'];exact J _ x G
def G4 (a b:Tx):(Op.bytesLess a b||decide (a=b))=iS a b:=by
 rw [Pd,iS,N'];simp only [OK,Nj];constructor
 ·rintro(h | rfl)
  ·exact List.le_of_lt h
  ·exact List.le_refl _
 ·intro h;by_cases e:a=b
  ·exact .inr e
  ·left;rcases List.le_iff_lt_or_eq.1 h with h | h
   ·exact h
   ·exact absurd h e
def eu {c:UInt8}{s:Tx}{l:List Tx}(h:l≠[]):joinS c (s::l)=40::(s++(c::(joinS c l++[41]))):=by
 cases l with
 | nil=>exact absurd rfl h
 | cons=>rfl
def cZ (l:List Tx):Nat:=(l.map List.length).sum+3* l.length
def dy (s:Tx)(l:List Tx):cZ (s::l)=s.length+cZ l+3:=by simp [cZ];omega
def zp (l m:List Tx):cZ (l++m)=cZ l+cZ m:=by simp [cZ];omega
def lK {l m:List Tx}(h:l.Perm m):cZ l=cZ m:=by
 induction h with
 | nil=>rfl
 | cons x _ G=>rw [dy,dy,G]
 | swap x y l=>simp only [dy];omega
 | trans _ _ h1 H=>exact h1.trans H
def ve (c:UInt8):∀l:List Tx,(joinS c l).length<=cZ l
 | []=>by simp [joinS]
 | [s]=>by simp [joinS,cZ]
 | s::t::l=>by
  have :=ve c (t::l);rw [eu (by simp),dy];simp only [M0,Nb,Np];omega
def D9 (l:List Tx)(k:Nat):cZ (l.drop k)<=cZ l:=by
 conv=>rhs;rw [<-Oi k l,zp]
 omega
def sd {w:World}{v:Value}{l:List Tx}{c:UInt8}(hs:Strs w v l)(G:l≠[])(hl:cZ l<=2199023255552){R:aJ->Qx}(h:R (joinS c l) w):
  Qy 179 #[v,.string (ay [c])] w (ax [.s] R):=by
 refine tA v [c] w R ?_;dsimp only [go_sem];dsimp only [go_sem,Nat.reduceAdd];have γ:0< l.length:=Pn.2 G;have δ:3* l.length<=cZ l:=by unfold cZ;omega
 obtain⟨a,cap,hv⟩:=hs.slice;refine⟨a,l.length,cap,hv,by omega,?_⟩;have H:l[((l.length:Int) - 1).toNat]?=some (l.getLast G):=by
  have e:((l.length:Int) - 1).toNat=l.length - 1:=by omega
  rw [e,List.getLast_eq_getElem,M6]
 refine hs.get (Ex.refl w) (i:=(l.length:Int) - 1) (by omega) H ?_;refine⟨a,l.length,cap,hv,by omega,λout i w'=>w=w'/\ -1<=i/\i<=(l.length:Int) - 2/\out=joinS c (l.drop (i+1).toNat),λ _ i _=>(i+1).toNat,⟨rfl,by omega,by omega,?_⟩,λout i w1 hI=>?_⟩
 ·have e:((l.length:Int) - 2+1).toNat=l.length - 1:=by omega
  have e2:l.drop (l.length - 1)=[l.getLast G]:=by
   rw [N4 (by omega:l.length - 1< l.length),List.getLast_eq_getElem,OT (by omega)]
  rw [e,e2];rfl
 ·obtain⟨rfl,h0,h1,rfl⟩:=hI;refine⟨λJ=>?_,λJ=>?_⟩
  ·have J:0<=i:=NB J;have hi:i.toNat< l.length:=by omega
   have Z:l.drop (i+1).toNat≠[]:=by
    intro e;have :=N9 List.length e;rw [OB,Np]at this;omega
   have hd:l.drop i.toNat=l[i.toNat]::l.drop (i+1).toNat:=by
    have e:(i+1).toNat=i.toNat+1:=by omega
    rw [e];exact N4 hi
   have hj:joinS c (l.drop i.toNat)=40::(l[i.toNat]++(c::(joinS c (l.drop (i+1).toNat)++[41]))):=by rw [hd,eu Z]
   have β:=ve c (l.drop i.toNat);have ε:=D9 l i.toNat;rw [hj]at β;simp only [M0,Nb,Np]at β;refine hs.get (Ex.refl w) (i:=i) J (x:=l[i.toNat]) (M6 hi) ⟨by simp only [M0,Np];omega,by simp only [Nb,M0,Np];omega,by simp only [Nb,M0,Np];omega,by simp only [Nb,M0,Np];omega,by omega,⟨rfl,by omega,by omega,?_⟩,by dsimp only;omega⟩;have e:(i - 1+1).toNat=i.toNat:=by omega
   rw [e,hj];simp
  ·have J:¬0<=i:=Ny J;have e:(i+1).toNat=0:=by omega
   rw [e,O4];exact h
def tI {w:World}{v:Value}{l:List Tx}(hs:Strs w v l)(hl:l.length<=1099511627776){R:Value->Qx}(h:∀v' w',Ex w w'->Own w.heap.size w' v' (bf l)->R v' w'):
  Qy 102 #[v] w (ax [.v] R):=by
 refine pt v w R ?_;dsimp only [go_sem];dsimp only [go_sem,Nat.reduceAdd];obtain⟨a,cap,hv⟩:=hs.slice;refine⟨a,l.length,cap,hv,λout x w'=>Ex w w'/\∃k:Nat,x=k/\k<=l.length/\∃m:List Tx,Own w.heap.size w' out m/\m.Pairwise (λa b=>iS a b=true)/\m.Perm (l.take k),λ _ x _=>((l.length:Int) - x).toNat,
  ⟨Ex.refl w,0,rfl,by omega,[],Own.nil _ _,List.Pairwise.nil,by simp⟩,λout x w1 hI=>?_⟩
 obtain⟨δ,k,rfl,hk,m,J,ε,ζ⟩:=hI;refine⟨λhc=>?_,λhc=>?_⟩
 ·have β:k< l.length:=by simpa using hc
  refine hs.get δ (i:=k) (by omega) (x:=l[k]) (by simp [β]) ?_;have ξ:=J.strs;obtain⟨ao,co,ho⟩:=ξ.slice;have hml:m.length=k:=by rw [ζ.length_eq,NW];omega
  refine⟨λj w'=>w1=w'/\0<=j/\j<=m.length/\(∀y∈m.take j.toNat,iS y l[k]=true)/\∀y∈m.drop j.toNat,iS l[k] y=true,?_,?_⟩
  ·refine⟨λj w'=>w1=w'/\0<=j/\j<=m.length/\∀y∈m.take j.toNat,iS y l[k]=true,λj _=>((m.length:Int) - j).toNat,⟨rfl,by omega,by omega,by simp⟩,λj w2 hI=>?_⟩;obtain⟨rfl,H,γ,Z⟩:=hI;refine⟨ao,m.length,co,ho,λθ=>?_,λθ=>?_⟩
   ·have hj:j< m.length:=NB θ;have ι:j.toNat< m.length:=by omega
    refine ξ.get (Ex.refl w1) (i:=j) H (x:=m[j.toNat]) (M6 ι) ⟨λhle=>?_,λhle=>?_⟩
    ·rw [G4]at hle;refine⟨by omega,⟨rfl,by omega,by omega,λy G=>?_⟩,by dsimp only;omega⟩;have e:(j+1).toNat=j.toNat+1:=by omega
     rw [e,Ng ι]at G;rcases Nk.1 G with G | G
     ·exact Z y G
     ·rw [ND.1 G];exact hle
    ·rw [G4]at hle;refine⟨rfl,H,γ,Z,λy G=>?_⟩;have η:iS l[k] m[j.toNat]=true:=by
      have :=pR l[k] m[j.toNat];rw [hle,Pr]at this;exact this
     have hd:=N4 ι;have hp:(m.drop j.toNat).Pairwise (λa b=>iS a b=true):=O3 (List.drop_sublist _ _) ε;rw [hd]at hp G;rcases Nw.1 G with rfl | G
     ·exact η
     ·exact fU _ _ _ η ((OU.1 hp).1 y G)
   ·have hj:¬j< m.length:=Ny θ;refine⟨rfl,H,γ,Z,λy G=>?_⟩;rw [OT (by omega)]at G;cases G
  ·intro j w2 hJ;obtain⟨rfl,H,γ,Z,ο⟩:=hJ;intro b w3 hb ς;have κ:Ex w1 w3:=ς▸Ex.alloc w1 _;have υ:=(J.ex κ).strs;rw [ho]at υ;have φ:m.length<=co:=by
    rcases J.2 with⟨e,h0⟩ | ⟨g,cap,cur,e,_,_,hc,_⟩
    ·rw [ho]at e;injection e with _ e2 _;omega
    ·rw [ho]at e;cases e;exact hc
   refine⟨ao,m.length,co,ho,by omega,H,by omega,?_⟩;refine Own.push (Own.none (B:=w1.heap.size) (Nc _) hb ς) κ.size (υ.take H γ) (by simp;omega) λv4 w4 hb4 ho4 _ _=>?_
   have χ:Ex w1 w4:=κ.below hb4;intro b5 w5 hb5 ψ;have μ:Ex w4 w5:=ψ▸Ex.alloc w4 _;refine Own.push (ho4.ex μ) (χ.trans μ).size (Strs.one hb5 ψ) (by simp;omega) λv6 w6 hb6 ho6 _ _=>?_
   have ν:Ex w1 w6:=(χ.trans μ).below hb6;have ω:=(J.ex ν).strs;rw [ho]at ω;refine⟨ao,m.length,co,ho,H,by omega,by omega,?_⟩;refine Own.push ho6 ν.size (ω.drop H γ φ) (by simp;omega) λv7 w7 hb7 ho7 _ _=>?_
   have hx7:Ex w1 w7:=ν.below hb7;refine⟨by omega,⟨δ.trans hx7,k+1,by omega,β,_,ho7.mono δ.size,?_,?_⟩,by dsimp only;omega⟩
   ·simp only [N2];refine Pj.2 ⟨Pj.2 ⟨O3 (List.take_sublist _ _) ε,List.pairwise_singleton _ _,λx hx y G=>?_⟩,O3 (List.drop_sublist _ _) ε,λx hx y G=>?_⟩
    ·rw [ND.1 G];exact Z x hx
    ·rcases Nk.1 hx with hx | hx
     ·exact fU _ _ _ (Z x hx) (ο y G)
     ·rw [ND.1 hx];exact ο y G
   ·simp only [N2];rw [Ng β,NX];refine List.Perm.trans ?_ (ζ.append_right [l[k]]);refine(List.Perm.append_left _ PY).trans ?_;rw [<-NX,Oi]
 ·have β:k=l.length:=by simp at hc;omega
  subst β;rw [NR]at ζ;rw [<-sX ε ζ]at J;exact h out w1 δ J
section
open Classical
def aO {A B:Type}(R:A->B->Prop)(l:List A)(m:List B):Prop:=l.length=m.length/\∀(i:Nat) (a:A) (b:B),l[i]?=some a->m[i]?=some b->R a b
def aO.nil {A B:Type}{R:A->B->Prop}:aO R [] []:=⟨rfl,λi a b h=>by simp at h⟩
def aO.one {A B:Type}{R:A->B->Prop}{a:A}{b:B}(h:R a b):aO R [a] [b]:=⟨rfl,λi x y G H=>by
 match i,G,H with
 | 0,G,H=>simp at G H;subst G H;exact h
 | i+1,G,H=>simp at G⟩
def aO.append {A B:Type}{R:A->B->Prop}{l l':List A}{m m':List B}(h:aO R l m)(k:aO R l' m'):aO R (l++l') (m++m'):=by
 refine⟨by simp [h.1,k.1],λi a b ha hb=>?_⟩;rw [List.getElem?_append]at ha hb;rw [<-h.1]at hb;split at ha
 ·rename_i hi;rw [NO hi]at hb;exact h.2 i a b ha hb
 ·rename_i hi;rw [Nt hi]at hb;exact k.2 _ a b ha hb
def aO.mono {A B:Type}{R G:A->B->Prop}{l:List A}{m:List B}(h:aO R l m)(hr:∀a b,a∈l->b∈m->R a b->G a b):aO G l m:=
 ⟨h.1,λi a b ha hb=>hr a b (O6 ha) (O6 hb) (h.2 i a b ha hb)⟩
structure Den (k:Nat)(p:P)(σ:Nat->Nat)(u:U):Prop where
 wf:p.wf=true
 len:p.text.length<=1099511627776
 bd:Bd k p
 ae:AE UInt8.toNat p σ u
 inj:ef σ u
 uq:Uq u
def dZ (p:P):ef UInt8.toNat p:=λ _ _ _ _ h=>NK.1 h
def Uq.CA {u:U}(h:Uq u){y:Nat}(G:u.Us y):y∉BV u:=λhb=>h.nf y hb (T.bw G)
def Den.dead {k:Nat}{p:P}{σ:Nat->Nat}{u:U}(d:Den k p σ u):p.dead=u.dead:=d.ae.dead
def Den.peel {k:Nat}{p:P}{σ:Nat->Nat}{u:U}(d:Den k p σ u)(hd:p.dead=false):∃m G,k<=m/\Den m p.peel G u.peel/\(∀y,y∉BV u->G y=σ y)/\m+p.peel.rd+p.peel.ow<=k+p.rd+p.ow:=by
 obtain⟨m,hm,hb,J⟩:=d.bd.peel;obtain⟨G,h1,Z⟩:=d.ae.peel (dZ p) d.inj d.uq hd;refine⟨m,G,hm,⟨I6 d.wf,?_,hb,h1,λa b ha hb H=>?_,IG u d.uq⟩,Z,J⟩
 ·have :=D5 p;have h3:=d.len;rw [T.aQ]at*;omega
 ·rw [T.CU]at ha hb;rw [Z a (d.uq.CA ha),Z b (d.uq.CA hb)]at H;exact d.inj a b ha hb H
section
variable {k:Nat} {p q:P} {σ:Nat->Nat} {u v:U}
def Den.sum (d:Den k (.sum p q) σ (.sum u v)):Den k p σ u/\Den k q σ v:=by
 have hw:=d.wf;have H:=d.len;have hb:=d.bd.le;simp only [T.wf,M8]at hw;simp only [T.text,M0,Nb]at H;have :=T.fk p;have :=T.fk q;simp only [T.pm,T.rd,T.ow]at hb;exact⟨⟨hw.1,by omega,⟨d.bd.eb.1,by omega⟩,d.ae.1,d.inj.sub λx G=> .inl G,d.uq.dF⟩,⟨hw.2,by omega,⟨d.bd.eb.2,by omega⟩,d.ae.2,d.inj.sub λx G=> .inr G,d.uq.dh⟩⟩
def Den.par (d:Den k (.par p q) σ (.par u v)):Den k p σ u/\Den k q σ v:=by
 have hw:=d.wf;have H:=d.len;have hb:=d.bd.le;simp only [T.wf,M8]at hw;simp only [T.text,M0,Nb]at H;have :=T.fk p;have :=T.fk q;simp only [T.pm,T.rd,T.ow]at hb;exact⟨⟨hw.1,by omega,⟨d.bd.eb.1,by omega⟩,d.ae.1,d.inj.sub λx G=> .inl G,d.uq.fK⟩,⟨hw.2,by omega,⟨d.bd.eb.2,by omega⟩,d.ae.2,d.inj.sub λx G=> .inr G,d.uq.eV⟩⟩
def Den.tau (d:Den k (.tau p) σ (.tau u)):Den k p σ u:=by
 have G:=d.len;simp only [T.text,M0]at G;exact⟨d.wf,by omega,⟨d.bd.eb,N8 (Qd (T.fk p) k) d.bd.le⟩,d.ae,d.inj,d.uq.tau⟩
def Den.rep (d:Den k (.rep p) σ (.rep u)):Den k p σ u:=by
 have G:=d.len;simp only [T.text,M0]at G;exact⟨d.wf,by omega,⟨d.bd.eb,N8 (Qd (T.fk p) k) d.bd.le⟩,d.ae,d.inj,d.uq.rep⟩
def Den.snd {a b:UInt8}{c e:Nat}(d:Den k (.snd a b p) σ (.snd c e u)):Den k p σ u:=by
 have hw:=d.wf;have G:=d.len;simp only [T.wf,M8]at hw;simp only [T.text,M0]at G;exact⟨hw.2,by omega,⟨d.bd.eb.2.2,N8 (Qd (T.fk p) k) d.bd.le⟩,d.ae.2.2,d.inj.sub λx H=> .inr (.inr H),d.uq.snd⟩
def Den.mat {a b:UInt8}{c e:Nat}(d:Den k (.mat a b p) σ (.mat c e u))(h:p.dead=false):Den k p σ u:=by
 have hw:=d.wf;have J:=d.len;simp only [T.wf,M8]at hw;simp only [T.text,M0]at J;have hd:u.dead=false:=by have :=d.ae.2.2.dead;rw [<-this];exact h
 refine⟨hw.2,by omega,⟨d.bd.eb.2.2,N8 (Qd (T.fk p) k) d.bd.le⟩,d.ae.2.2,d.inj.sub λx G=>?_,d.uq.mat⟩;by_cases H:c=e
 ·exact .inl ⟨H,G⟩
 ·exact .inr ⟨H,hd,.inr (.inr G)⟩
def Den.res {x y:UInt8}{n:Nat}{q:P}(d:Den k (.res x p) σ (.res n u))(hr:fG (k+1) p x y q)(H:¬(T.res x p).Fr y):Den (k+1) q (aF σ n y.toNat) u:=by
 have hb:=d.bd.le;have J:=d.len;have :=T.fk p;simp only [T.pm]at hb;simp only [T.text,M0]at J;have Z:AE (aF UInt8.toNat x y.toNat) p (aF σ n y.toNat) u:=d.ae y.toNat;refine⟨hr.wf,?_,⟨hr.eb,?_⟩,(hr.ok UInt8.toNat).symm.trans Z,?_,d.uq.res⟩
 ·rw [T.aQ,T.gm hr.shp,<-T.aQ];omega
 ·rw [T.wu hr.shp];omega
 ·refine .aF (λa b ha hb h1 G h3=>d.inj a b ⟨ha,h1⟩ ⟨hb,G⟩ h3) λz hz hu e=>H ?_
  obtain⟨x',h1,G⟩:=d.ae.symm.free z ⟨hz,T.bw hu⟩;have:x'=y:=NK.1 (G.trans e);exact this▸h1
def Den.rcv {a x y:UInt8}{c n:Nat}{q:P}(d:Den k (.rcv a x p) σ (.rcv c n u))(hr:fG (k+1) p x y q)(G:∀z,u.Us z->z≠n->σ z≠y.toNat):Den (k+1) q (aF σ n y.toNat) u:=by
 have hb:=d.bd.le;have H:=d.len;have :=T.fk p;simp only [T.pm]at hb;simp only [T.text,M0]at H;have J:AE (aF UInt8.toNat x y.toNat) p (aF σ n y.toNat) u:=d.ae.2 y.toNat;refine⟨hr.wf,?_,⟨hr.eb,?_⟩,(hr.ok UInt8.toNat).symm.trans J,?_,d.uq.rcv⟩
 ·rw [T.aQ,T.gm hr.shp,<-T.aQ];omega
 ·rw [T.wu hr.shp];omega
 ·exact .aF (λa b ha hb h1 Z h3=>d.inj a b (.inr ⟨ha,h1⟩) (.inr ⟨hb,Z⟩) h3) λz hz hu e=>G z hu hz e
end
def dC:∀u:U,u.dead=true->ak u=[]
 | .nil,_=>rfl
 | .snd ..,h=>by cases h
 | .rcv ..,h=>by cases h
 | .tau ..,h=>by cases h
 | .sum p q,h=>by
  simp only [T.dead,M8]at h;simp [ak,dC p h.1,dC q h.2]
 | .par p q,h=>by
  simp only [T.dead,M8]at h;simp [ak,h.1,dC q h.2]
 | .res x p,h=>by
  have hd:p.dead=true:=h;simp [ak,lP hd,Lv.has,dC p hd]
 | .mat a b p,h=>by
  have hd:p.dead=true:=h;simp only [ak,hd,O9,dC p hd];split<;>rfl
 | .rep p,h=>by
  have hd:p.dead=true:=h;simp [ak,hd]
def D6:∀u:U,Uq u->ak u.peel=ak u:=by
 intro u
 induction u with
 | nil=>intro _;rfl
 | snd=>intro _;rfl
 | rcv=>intro _;rfl
 | tau=>intro _;rfl
 | rep=>intro _;rfl
 | mat a b p G=>
  intro h;unfold T.peel;split
  ·rename_i e;rw [G h.mat];simp [ak,e]
  ·rfl
 | sum p q G H=>
  intro h;unfold T.peel;split
  ·rename_i e;rw [H h.dh];simp [ak,dC p e]
  ·split
   ·rename_i e J;rw [G h.dF];simp [ak,dC q J]
   ·rfl
 | par p q G H=>
  intro h;unfold T.peel;split
  ·rename_i e;rw [H h.eV];simp [ak,e]
  ·split
   ·rename_i e J;rw [G h.fK];simp [ak,e,J]
   ·rfl
 | res x p G=>
  intro h;unfold T.peel;split
  ·rfl
  ·rename_i e;rw [G h.res];have:¬(td p).2.has x=true:=λZ=>e ((fH p x h.fD).1 Z)
   simp [ak,this]
def cQ:∀u:U,(ak u).length<=u.size
 | .nil=>by simp [ak,T.size]
 | .snd .. =>by simp [ak,T.size]
 | .rcv .. =>by simp [ak,T.size]
 | .tau .. =>by simp [ak,T.size]
 | .sum p q=>by have :=cQ p;have :=cQ q;simp only [ak,T.size,Nb];omega
 | .par p q=>by
  have :=cQ p;have :=cQ q;simp only [ak,T.size];split
  ·omega
  ·split
   ·omega
   ·simp
 | .res x p=>by
  have :=cQ p;simp only [ak,T.size];split
  ·simp
  ·omega
 | .mat a b p=>by
  have :=cQ p;simp only [ak,T.size];split
  ·omega
  ·split<;>simp
 | .rep p=>by
  simp only [ak,T.size];split<;>simp
def AE.size {p:P}{u:U}{ρ:UInt8->Nat}{σ:Nat->Nat}(h:AE ρ p σ u):p.size=u.size:=by
 induction p generalizing u ρ σ<;>cases u<;>simp only [AE]at h<;>simp only [T.size]
 case snd.snd G _ _ _=>rw [G h.2.2]
 case mat.mat G _ _ _=>rw [G h.2.2]
 case rcv.rcv G _ _ _=>rw [G (h.2 0)]
 case res.res G _ _=>rw [G (h 0)]
 case tau.tau G _=>rw [G h]
 case rep.rep G _=>rw [G h]
 case sum.sum G H _ _=>rw [G h.1,H h.2]
 case par.par G H _ _=>rw [G h.1,H h.2]
def eo:∀(π:List Nat) (ls:List UInt8) (ρ ρ':Rh) (x:Nat),ρ x=ρ' x->asg π ls ρ x=asg π ls ρ' x
 | [],_,_,_,_,h=>by simpa [asg]using h
 | _::_,[],_,_,_,h=>by simpa [asg]using h
 | y::π,c::ls,ρ,ρ',x,h=>by
  rw [asg,asg];refine eo π ls _ _ x ?_;unfold aF;split
  ·rfl
  ·exact h
end
def gl (i:Nat):UInt8:=if i< 26 then UInt8.ofNat (65+i)else UInt8.ofNat (166+i)
def Jr (c:UInt8):Prop:=(65<=c.toNat/\c.toNat<=90)\/192<=c.toNat
def gH (n:Nat):Tx:=(List.range n).map gl
def jy {i:Nat}(h:i< 90):(gl i).toNat=if i< 26 then 65+i else 166+i:=by
 unfold gl;split
 ·rw [Om];omega
 ·rw [Om];omega
def xD {i j:Nat}(hi:i< 90)(G:j< 90)(h:gl i=gl j):i=j:=by
 have :=N9 UInt8.toNat h;rw [jy hi,jy G]at this;split at this<;>split at this<;>omega
def yp {i:Nat}(h:i< 90):Jr (gl i):=by
 unfold Jr;rw [jy h];split<;>omega
def JH {i k:Nat}(h:i< 90):okn k (gl i):=by
 unfold okn;rw [jy h];split<;>omega
def Lk {i:Nat}(h:i< 90):nm (gl i)=true:=by
 have e:=jy h;have H:(65:UInt8).toNat=65:=rfl;have J:(90:UInt8).toNat=90:=rfl;have G:(128:UInt8).toNat=128:=rfl;simp only [nm,OK,M8,Nj];split at e
 ·left;right;exact⟨NA.2 (by omega),NA.2 (by omega)⟩
 ·right;exact NA.2 (by omega)
def H0 {i:Nat}(h:i+1< 90):(gl i+1=91->gl (i+1)=192)/\(gl i+1≠91->gl (i+1)=gl i+1):=by
 have e:=jy (show i< 90 by omega);have e':=jy h;have J:(gl i+1).toNat=(gl i).toNat+1:=by
  rw [Qh];show((gl i).toNat+1) % 256=_;refine Nat.mod_eq_of_lt ?_;rw [e];split<;>omega
 have Z:(91:UInt8).toNat=91:=rfl;have G:(192:UInt8).toNat=192:=rfl;constructor
 ·intro hh;have :=N9 UInt8.toNat hh;rw [J,e,Z]at this;apply NK.1;rw [e',G];split at this<;>split<;>omega
 ·intro hh;have H:(gl i+1).toNat≠91:=λhc=>hh (NK.1 hc)
  rw [J,e]at H;apply NK.1;rw [J,e',e];split at H<;>split<;>(try split)<;>omega
def gR {n:Nat}{c:UInt8}:c∈gH n↔∃j,j< n/\c=gl j:=by
 simp only [gH,NT,OQ];exact⟨fun⟨j,h1,G⟩=>⟨j,h1,G.symm⟩,fun⟨j,h1,G⟩=>⟨j,h1,G.symm⟩⟩
def AF (n:Nat):gH (n+1)=gH n++[gl n]:=by simp [gH,Qj]
def gN (n:Nat):(gH n).length=n:=by simp [gH]
def asgN:List Nat->Nat->(Nat->Nat)->Nat->Nat
 | [],_,σ=>σ
 | x::l,n,σ=>asgN l (n+1) (aF σ x (gl n).toNat)
def kZ:∀(l m:List Nat) (n:Nat) (σ:Nat->Nat),asgN (l++m) n σ=asgN m (n+l.length) (asgN l n σ)
 | [],m,n,σ=>rfl
 | x::l,m,n,σ=>by
  rw [N6,asgN,asgN,kZ l m,M0]
  congr 1
  omega
def iQ:∀(l:List Nat) (n:Nat) (σ:Nat->Nat) (y:Nat),y∉l->asgN l n σ y=σ y
 | [],_,_,_,_=>rfl
 | x::l,n,σ,y,h=>by
  simp only [Nw,Qt]at h;rw [asgN,iQ l _ _ y h.2,bz _ _ h.1]
def sn:∀(l:List Nat) (n:Nat) (σ τ:Nat->Nat) (y:Nat),σ y=τ y->asgN l n σ y=asgN l n τ y
 | [],_,_,_,_,h=>h
 | x::l,n,σ,τ,y,h=>by
  rw [asgN,asgN];refine sn l _ _ _ y ?_;unfold aF;split
  ·rfl
  ·exact h
def GF (n:Nat)(p:P):Prop:=∀z,p.Fr z->Jr z->∃j,j< n/\z=gl j
def dS {x:UInt8}(h:ngr x):¬Jr x:=by unfold ngr Jr at*;omega
def GF.peel {n k:Nat}{p:P}(h:GF n p)(e:Eb k p):GF n p.peel:=by
 refine(T.gO (λq=>GF n q/\∃k,Eb k q) ?_ ?_ ?_ ?_ p ⟨h,k,e⟩).1
 ·rintro a q ⟨h,k,e⟩
  exact⟨λz G=>h z (.inr (.inr G)),k,e.2.2⟩
 ·rintro q r ⟨h,k,e⟩
  exact⟨⟨λz G=>h z (.inl G),k,e.1⟩,λz G=>h z (.inr G),k,e.2⟩
 ·rintro q r ⟨h,k,e⟩
  exact⟨⟨λz G=>h z (.inl G),k,e.1⟩,λz G=>h z (.inr G),k,e.2⟩
 ·rintro x q _ ⟨h,k,e⟩
  refine⟨λz G H=>?_,k+1,e.2⟩;by_cases J:z=x
  ·exact absurd H (dS (J▸e.1.1))
  ·exact h z ⟨J,G⟩ H
def ig:∀(u:U),∀x∈(aj u).1,x∈BV u:=by
 intro u
 induction u with
 | nil=>intro x h;simp [aj]at h
 | snd=>intro x h;simp [aj]at h
 | rcv=>intro x h;simp [aj]at h
 | tau=>intro x h;simp [aj]at h
 | sum p q G H=>
  intro x h;simp only [aj]at h;split at h
  ·exact NG _ (H x h)
  ·split at h
   ·exact NS _ (G x h)
   ·simp at h
 | par p q G H=>
  intro x h;simp only [aj,Nk]at h;exact h.elim (λh=>NS _ (G x h)) (λh=>NG _ (H x h))
 | res y p G=>
  intro x h;simp only [aj]at h;split at h
  ·rcases Nw.1 h with rfl | h
   ·exact NP ..
   ·exact Nh _ (G x h)
  ·exact Nh _ (G x h)
 | mat a b p G=>
  intro x h;simp only [aj]at h;split at h
  ·exact G x h
  ·split at h<;>simp at h
 | rep p G=>
  intro x h;simp only [aj]at h;split at h<;>simp at h
def kX:∀(u:U),Uq u->∀t∈(aj u).2,∀y,t.Us y->u.Us y\/y∈(aj u).1:=by
 intro u
 induction u with
 | nil=>intro _ t h;simp [aj]at h
 | snd=>intro _ t h;simp [aj]at h;subst h;exact λy G=> .inl G
 | rcv=>intro _ t h;simp [aj]at h;subst h;exact λy G=> .inl G
 | tau=>intro _ t h;simp [aj]at h;subst h;exact λy G=> .inl G
 | sum p q H J=>
  intro hu t h y G;simp only [aj]at h|-;split at h
  ·rename_i e;simp only [e,O9];exact(J hu.dh t h y G).imp .inr id
  ·rename_i e;split at h
   ·rename_i Z;simp only [e,Z,O9];exact(H hu.dF t h y G).imp .inl id
   ·simp at h;subst h;exact .inl G
 | par p q H J=>
  intro hu t h y G;simp only [aj,Nk]at h|-;rcases h with h | h
  ·exact(H hu.fK t h y G).imp .inl .inl
  ·exact(J hu.eV t h y G).imp .inr .inr
 | res x p H=>
  intro hu t h y G;have h:t∈(aj p).2:=h;rcases H hu.res t h y G with h1 | h1
  ·by_cases e:y=x
   ·subst e;right;simp only [aj];rw [NO ((fH p y hu.fD).2 h1)];exact NP ..
   ·exact .inl ⟨e,h1⟩
  ·right;simp only [aj];split
   ·exact Nh _ h1
   ·exact h1
 | mat a b p H=>
  intro hu t h y G;simp only [aj]at h|-;split at h
  ·rename_i e;simp only [e,O9];exact(H hu.mat t h y G).imp (λh=> .inl ⟨rfl,h⟩) id
  ·split at h
   ·simp at h
   ·simp at h;subst h;exact .inl G
 | rep p H=>
  intro hu t h y G;simp only [aj]at h|-;split at h
  ·simp at h
  ·simp at h;subst h;exact .inl G
def Den.ok {k:Nat}{p:P}{σ:Nat->Nat}{u:U}(d:Den k p σ u):Ok p:=⟨d.wf,d.len⟩
def JU (k K:Nat)(σ:Nat->Nat)(u:U)(p:P)(q:U):Prop:=∃m G,k<=m/\Den m p G q/\(∀y,y∉BV u->G y=σ y)/\m+p.rd+p.ow<=K
def FB {u:U}(H:u.cX)(hd:u.dead=false)(J:∀p q,u≠ .sum p q)(hu:Uq u):ak u=[u]:=by
 cases u with
 | nil=>cases hd
 | snd=>rfl
 | rcv=>rfl
 | tau=>rfl
 | sum p q=>exact absurd rfl (J p q)
 | par p q=>
  have h1:p.dead=false:=H.1;have G:q.dead=false:=H.2;simp [ak,h1,G]
 | res x p=>
  have:(td p).2.has x=true:=(fH p x hu.fD).2 H;simp [ak,this]
 | mat a b p=>
  have h1:a≠b:=H;have G:p.dead=false:=hd;simp [ak,h1,G]
 | rep p=>
  have G:p.dead=false:=hd;simp [ak,G]
def HS {p:P}{u:U}{ρ:UInt8->Nat}{σ:Nat->Nat}(h:AE ρ p σ u):(∀a b,p≠ .sum a b)↔∀a b,u≠ .sum a b:=by
 cases p<;>cases u<;>simp [AE]at h|-
def yv:∀(n:Nat) {k:Nat} {p:P} {σ:Nat->Nat} {u:U},p.size<=n->Den k p σ u->∀{w:World} {R:Value->Qx},
  (∀v w' (ps:List P),Ex w w'->Own w.heap.size w' v (ps.map T.text)->aO (JU k (k+p.rd+p.ow) σ u) ps (ak u)->(∀x∈ps,∀j,GF j p->GF j x)->R v w')->Qy 261 #[.string (ay p.text)] w (ax [.v] R):=by
 intro n
 induction n with
 | zero=>intro k p σ u h;have :=aU p;omega
 | succ n ih=>
  intro k p σ u hn d w R h;refine nk _ w R ?_;dsimp only [go_sem];dsimp only [go_sem,Nat.reduceAdd];refine zC d.ok λw1 Z H=>?_
  have φ:=T.vJ p;have θ:=T.lu p;by_cases hd:p.dead=true
  ·
   have hq:p.peel.dead=true:=by rw [θ];exact hd
   have hs:ak u=[]:=dC u (by rw [<-d.dead];exact hd);have hp:=T.kf p;refine aK H ⟨λhc=>?_,λhc=>?_⟩
   ·exact eR _ (Nc _) H λw2 G=>⟨λ _=>h _ w2 [] (Z.trans G) (Own.nil _ _) (by rw [hs];exact aO.nil) (λx h=>(by cases h)),λhh=>absurd hh (by rw [hq];simp)⟩
   ·exfalso;generalize p.peel=q at*;cases q<;>simp [T.kind]at hc
    simp [T.dead,hp.1]at hq
  have hd:p.dead=false:=by simpa using hd
  obtain⟨m,χ,hm,d',ζ,ι⟩:=d.peel hd;have ψ:=T.kf u;rw [<-D6 u d.uq]at h;have ω:u.peel.dead=false:=by rw [T.lu,<-d.dead];exact hd
  have hqd:p.peel.dead=false:=by rw [θ];exact hd
  have κ:∀y,y∉BV u->y∉BV u.peel:=λy hy hb=>hy (Cu u y hb)
  have μ:∀j,GF j p->GF j p.peel:=λj hj=>hj.peel d.bd.eb
  generalize p.peel=q at*;generalize u.peel=v at*;refine aK H ⟨λhc=>?_,λhc=>?_⟩
  ·have hns:∀a b,q≠ .sum a b:=λa b e=>by subst e;simp [T.kind]at hc
   refine eR _ (Nc _) H λw2 G=>⟨λhh=>absurd hh (by rw [hqd];simp),λ _=>λb w3 hb J=>?_⟩
   refine h _ w3 [q] ((Z.trans G).trans (J▸Ex.alloc w2 _)) (Own.one (Z.trans G).size hb J) ?_ λx hx j hj=>?_
   ·rw [FB ψ ω ((HS d'.ae).1 hns) d'.uq];exact aO.one ⟨m,χ,hm,d',ζ,ι⟩
   ·have:x=q:=by simpa using hx
    subst this;exact μ j hj
  ·cases q<;>simp [T.kind]at hc
   rename_i a b;cases v<;>(try exact d'.ae.elim)
   rename_i u1 u2;obtain⟨d1,d2⟩:=d'.sum;simp only [T.size]at φ;simp only [T.rd,T.ow]at ι;refine cD H λvp w2 G β=>?_
   have β:Strs w2 vp [a.text,b.text]:=β;refine⟨λw'=>Ex w2 w',λw3 J=>⟨J▸Ex.drew w2,?_⟩⟩;have γ:Ex w2 w3:=J▸Ex.drew w2;refine β.FH (i:=0) (x:=a.text) (by omega) rfl ?_;refine β.FH (i:=1) (x:=b.text) (by omega) rfl ?_;refine ih (by omega) d1 λv4 w4 ps1 δ ho4 ν hg4=>⟨γ.trans δ,ih (by omega) d2 λv5 w5 ps2 ε ho5 ξ hg5=>⟨(γ.trans δ).trans ε,?_⟩⟩
   have z1:=cQ u1;have z2:=cQ u2;have e1:=d1.ae.size;have e2:=d2.ae.size;have t1:=bc a;have t2:=bc b;have hl:=d'.len;simp only [T.text,M0,Nb]at hl;have l1:=ν.1;have l2:=ξ.1;have hE:Ex w w3:=(Z.trans G).trans γ;refine Own.push (ho4.ex ε) (δ.trans ε).size ho5.strs (by simp only [Nq];omega) λv6 w6 hb6 ho6 _ _=>?_
   have ο:Ex w3 w6:=(δ.trans ε).below hb6;refine⟨γ.trans ο,h _ w6 (ps1++ps2) (hE.trans ο) ?_ ?_ λx hx j hj=>?_⟩
   ·rw [N0];exact ho6.mono hE.size
   ·have ς:∀y,y∉BV u->y∉BV u1:=λy hy hb=>κ y hy (NS _ hb)
    have υ:∀y,y∉BV u->y∉BV u2:=λy hy hb=>κ y hy (NG _ hb)
    refine aO.append (ν.mono λx y _ _ ⟨m',η,h1,h2,h3,h4⟩=>⟨m',η,by omega,h2,λz hz=>?_,by omega⟩) (ξ.mono λx y _ _ ⟨m',η,h1,h2,h3,h4⟩=>⟨m',η,by omega,h2,λz hz=>?_,by omega⟩)
    ·rw [h3 z (ς z hz),ζ z hz]
    ·rw [h3 z (υ z hz),ζ z hz]
   ·have hj:=μ j hj;exact(Nk.1 hx).elim (λhx=>hg4 x hx j λz hz=>hj z (.inl hz)) (λhx=>hg5 x hx j λz hz=>hj z (.inr hz))
def DE {s o:Tx}:s≠[]->(o.Perm s↔∃i r,i< s.length/\r.Perm (s.take i++s.drop (i+1))/\o=bt s i::r):=by
 intro H;constructor
 ·intro h;cases o with
  | nil=>exact absurd h.symm.eq_nil H
  | cons c r=>
   obtain⟨i,hi,e⟩:=Od.1 (h.subset (NP ..));refine⟨i,r,hi,?_,by simp [bt,hi,e]⟩;have G:s.Perm (s[i]::(s.take i++s.drop (i+1))):=by
    conv=>lhs;rw [<-Oi i s,N4 hi]
    exact PN
   rw [e]at G;exact(List.perm_cons c).1 (h.trans G)
 ·rintro⟨i,r,hi,hr,rfl⟩
  have G:s.Perm (s[i]::(s.take i++s.drop (i+1))):=by
   conv=>lhs;rw [<-Oi i s,N4 hi]
   exact PN
  have e:bt s i=s[i]:=by simp [bt,hi]
  rw [e];exact(List.Perm.cons _ hr).trans G.symm
def A7:∀(n:Nat) {s:Tx},s.length<=n->n<=5->∀{w:World} {R:Value->Qx},
  (∀v w' (L:List Tx),Ex w w'->Own w.heap.size w' v L->L.length<=6^s.length->(∀o,o∈L↔o.Perm s)->R v w')->Qy 242 #[.string (ay s)] w (ax [.v] R):=by
 intro n
 induction n with
 | zero=>
  intro s hs hn w R h;have:s=[]:=NF (by omega);subst this;refine iC _ w R ?_;dsimp only [go_sem];refine⟨λ _=>λb w1 hb J=>h _ w1 [[]] (J▸Ex.alloc w _) (Own.one (Nc _) hb J) (by simp) λo=>by simp,λhc=>absurd hc (by simp)⟩
 | succ n ih=>
  intro s hs hn w R h;refine iC _ w R ?_;dsimp only [go_sem];dsimp only [go_sem,Nat.reduceAdd];refine⟨λhc=>?_,λhc=>?_⟩
  ·have hc:s=[]:=NB hc;subst hc;exact λb w1 hb J=>h _ w1 [[]] (J▸Ex.alloc w _) (Own.one (Nc _) hb J) (by simp) λo=>by simp
  ·have ξ:s≠[]:=Ny hc;have hpos:0< s.length:=Pn.2 ξ;intro b cap w1 hb hrow hgr;have hx1:Ex w w1:=sS hgr;have h6:6^(s.length - 1)<=1296:=N8 (Nat.pow_le_pow_right (by omega) (by omega:s.length - 1<=4)) (by decide);have h6':6^s.length=6* 6^(s.length - 1):=by
    conv=>lhs;rw [show s.length=(s.length - 1)+1 by omega,Nat.pow_succ]
    omega
   generalize hP:6^(s.length - 1)=P6 at*;refine⟨some ⟨b,0,none⟩,s.length,cap,rfl,λout x w'=>Ex w w'/\∃i:Nat,x=i/\i<=s.length/\∃L:List Tx,Own w.heap.size w' out L/\L.length<=i* P6/\∀o,o∈L↔∃j r,j< i/\r.Perm (s.take j++s.drop (j+1))/\o=bt s j::r,
    λ _ x _=>((s.length:Int) - x).toNat,⟨hx1,0,rfl,by omega,[],Own.nil _ _,by simp,λo=>by simp⟩,λout x w2 hI=>?_⟩
   obtain⟨ο,i,rfl,hi,L,ε,hL2,ς⟩:=hI;refine⟨λζ=>?_,λζ=>?_⟩
   ·have η:i< s.length:=by simpa using ζ
    have ei:((i:Int)+1).toNat=i+1:=by omega
    refine⟨λw'=>True,λw3 hw3=>⟨trivial,by omega,by omega,by omega,by simp only [NW,OB];omega,?_⟩⟩;have υ:Ex w2 w3:=hw3▸Ex.drew w2;rw [ei,Nf];have hlen:(s.take i++s.drop (i+1)).length=s.length - 1:=by simp only [Nb,NW,OB];omega
    refine ih (by omega) (by omega) λvr w4 M hx4 θ hM2 ι=>⟨trivial,?_⟩
    rw [hlen,hP]at hM2;have φ:=θ.strs;obtain⟨ar,cr,hvr⟩:=φ.slice;have β:=υ.trans hx4;have hE4:Ex w w4:=ο.trans β;refine⟨ar,M.length,cr,hvr,λout y w'=>(Ex w w'/\w4.heap.size<=w'.heap.size/\Strs w' vr M/\∀b,out.ownBlock=some b->vr.ownBlock≠some b)/\∃j:Nat,y=j/\j<=M.length/\Own w.heap.size w' out (L++(M.take j).map (bt s i::·)),λ _ y _=>((M.length:Int) - y).toNat,
     ⟨⟨hE4,Nc _,φ,λb hb G=>?_⟩,0,rfl,by omega,by simpa using ε.ex β⟩,λout2 y w5 hI=>?_⟩
    ·have h1:=(ε.block b hb).2;have h2:=(θ.block b G).1;have h3:=υ.size;omega
    obtain⟨⟨χ,hsz5,γ,δ⟩,j,rfl,hj,κ⟩:=hI;have hmul:i* P6+P6<=6480:=by
     have:i* P6<=4* 1296:=P8 (by omega) h6;omega
    refine⟨λμ=>?_,λμ=>?_⟩
    ·have H:j< M.length:=by simpa using μ
     refine γ.get (Ex.refl w5) (i:=j) (by omega) (x:=M[j]) (by simp [H]) ⟨by omega,by omega,?_,λb6 w6 hb6 ν=>?_⟩
     ·have :=(ι M[j]).1 (NC H);have h7:=this.length_eq;simp only [OB,NW,ei,Nf];omega
     ·have ψ:=vS (s:=s) (i:=(i:Int)) (by omega) (by omega);rw [ei,Nf]at ψ;rw [ψ]at ν;have Z:Ex w5 w6:=ν▸Ex.alloc w5 _;have ω:Ex w w6:=χ.trans Z;refine Own.push (κ.ex Z) ω.size (Strs.one hb6 ν) (by simp only [Nb,Nq,NW,M0,Np];omega) λv7 w7 hb7 ho7 hg7 hw7=>?_
      have hE7:Ex w w7:=ω.below hb7;have hs7:Strs w7 vr M:=(γ.ex Z).grown hg7 λb hb G=>δ b G hb
      refine⟨by omega,⟨⟨hE7,?_,hs7,λb hb G=>?_⟩,j+1,by omega,H,?_⟩,by dsimp only;omega⟩
      ·have :=Z.size;have :=hb7.size;omega
      ·rcases hw7 b hb with h | h
       ·exact δ b h G
       ·have h2:=(θ.block b G).2;have :=Z.size;omega
      ·have e:L++(M.take (j+1)).map (bt s i::·)=(L++(M.take j).map (bt s i::·))++[[bt s i]++M[j]]:=by
        rw [Ng H,N0,NX];rfl
       rw [e];exact ho7
    ·have H:j=M.length:=by simp at μ;omega
     subst H;rw [NR]at κ;refine⟨by omega,⟨χ,i+1,by omega,η,_,κ,?_,λo=>?_⟩,by dsimp only;omega⟩
     ·rw [Nb,Nq,Nat.add_mul];omega
     ·rw [Nk,ς,NT];constructor
      ·rintro(⟨j,r,h1,h2,h3⟩ | ⟨r,hr,rfl⟩)
       ·exact⟨j,r,by omega,h2,h3⟩
       ·exact⟨i,r,by omega,(ι r).1 hr,rfl⟩
      ·rintro⟨j,r,h1,h2,rfl⟩
       by_cases e:j=i
       ·subst e;exact .inr ⟨r,(ι r).2 h2,rfl⟩
       ·exact .inl ⟨j,r,by omega,h2,rfl⟩
   ·have η:i=s.length:=by simp at ζ;omega
    subst η;refine h out w2 L ο ε ?_ λo=>?_
    ·have:s.length* P6<=6* P6:=Nat.mul_le_mul_right _ (by omega);omega
    ·rw [ς,DE ξ]
structure Kp (w w':World)(S:Nat->Prop):Prop where
 os:w'.os=w.os
 tape:w'.tape=w.tape
 output:w'.output=w.output
 size:w.heap.size<=w'.heap.size
 block:∀g,g< w.heap.size->¬S g->w'.heap[g]?=w.heap[g]?
def Kp.ah {w w':World}(h:Ex w w')(S:Nat->Prop):Kp w w' S:=⟨h.os,h.tape,h.output,h.size,λg G _=>h.block g G⟩
def Kp.trans {a b c:World}{S T:Nat->Prop}(h:Kp a b S)(k:Kp b c T)(J:∀g,g< a.heap.size->T g->S g):Kp a c S:=
 ⟨k.os.trans h.os,k.tape.trans h.tape,k.output.trans h.output,N8 h.size k.size,λg G H=>
  (k.block g (Nz G h.size) λZ=>H (J g G Z)).trans (h.block g G H)⟩
def Kp.below {w w':World}{S:Nat->Prop}{B:Nat}(h:Kp w w' S)(hB:B<=w.heap.size)(G:∀g,g< B->¬S g):Below B w w':=
 ⟨h.os,h.tape,h.output,h.size,λg H=>h.block g (by omega) (G g H)⟩
def Strs.kp {w w':World}{v:Value}{l:List Tx}{S:Nat->Prop}(h:Strs w v l)(k:Kp w w' S)(H:∀b off n cap,v= .slice (some ⟨b,off,none⟩) n cap->¬S b):Strs w' v l:=by
 rcases h with h | ⟨b,off,cap,h1,G,J⟩
 ·exact .inl h
 ·refine .inr ⟨b,off,cap,h1,Nz G k.size,λi x Z=>?_⟩;rw [M5 (w:=w) (k.block b G (H b off _ cap h1))];exact J i x Z
structure GL (B:Nat)(w:World)(b:Nat)(f:Tx)(v:Value)(L:List Tx):Prop where
 lt:b< w.heap.size
 base:B<=b
 c0:w.cell? ⟨b,0,none⟩=some (sv f)
 c1:w.cell? ⟨b,1,none⟩=some v
 own:Own B w v L
 ne:v.ownBlock≠some b
 f0:w.frozen? ⟨b,0,none⟩=false
 f1:w.frozen? ⟨b,1,none⟩=false
def gS (b:Nat)(v:Value)(g:Nat):Prop:=g=b\/v.ownBlock=some g
def GL.ex {B:Nat}{w w':World}{b:Nat}{f:Tx}{v:Value}{L:List Tx}(h:GL B w b f v L)(k:Ex w w'):GL B w' b f v L:=
 ⟨Nz h.lt k.size,h.base,by rw [k.cell h.lt];exact h.c0,by rw [k.cell h.lt];exact h.c1,h.own.ex k,h.ne,by rw [Pb k h.lt];exact h.f0,by rw [Pb k h.lt];exact h.f1⟩
def H3 (k:Nat)(σ:Nat->Nat)(u:U)(j:Nat)(p:P)(t:U):Prop:=
 ∃m τ,k<=m/\Den m p τ t/\(∀y,t.Us y->τ y=asgN (aj u).1 j σ y)/\GF (j+(aj u).1.length) p
def vy:∀(l:List Nat) (n:Nat) (σ τ:Nat->Nat) (y:Nat),(y∈l\/σ y=τ y)->asgN l n σ y=asgN l n τ y
 | [],_,_,_,_,h=>by simpa [asgN]using h
 | x::l,n,σ,τ,y,h=>by
  rw [asgN,asgN];refine vy l _ _ _ y ?_;by_cases e:y=x
  ·right;subst e;simp [aF]
  ·rcases h with h | h
   ·exact .inl ((Nw.1 h).resolve_left e)
   ·right;simp [aF,e,h]
def Fg {u:U}(H:u.cX)(hd:u.dead=false)(h1:∀p q,u≠ .par p q)(G:∀x p,u≠ .res x p):aj u=([],[u]):=by
 cases u with
 | nil=>cases hd
 | snd=>rfl
 | rcv=>rfl
 | tau=>rfl
 | par p q=>exact absurd rfl (h1 p q)
 | res x p=>exact absurd rfl (G x p)
 | sum p q=>
  have h1:p.dead=false:=H.1;have G:q.dead=false:=H.2;simp [aj,h1,G]
 | mat a b p=>
  have h1:a≠b:=H;have G:p.dead=false:=hd;simp [aj,h1,G]
 | rep p=>
  have G:p.dead=false:=hd;simp [aj,G]
def GL.FA {B:Nat}{w:World}{b:Nat}{f:Tx}{v:Value}{L:List Tx}(h:GL B w b f v L)(g:Tx):GL B (w.setCell ⟨b,0,none⟩ (sv g)) b g v L:=by
 have hk:∀n,n≠b->(w.setCell ⟨b,0,none⟩ (sv g)).heap[n]?=w.heap[n]?:=λn G=>Px _ _ _ _ G
 refine⟨by rw [NV];exact h.lt,h.base,Ns _ _ _ h.c0,?_,⟨h.own.1,?_⟩,h.ne,by rw [Nv];exact h.f0,by rw [Nv];exact h.f1⟩
 ·rw [Na _ _ _ _ (by simp)];exact h.c1
 ·rcases h.own.2 with G | ⟨H,cap,cur,e,hb,J,rest⟩
  ·exact .inl G
  ·refine .inr ⟨H,cap,cur,e,hb,?_,rest⟩;rw [hk H λZ=>h.ne (by rw [e,<-Z];rfl)];exact J
def GL.Cd {B:Nat}{w w':World}{b:Nat}{f:Tx}{v v':Value}{L Z:List Tx}(h:GL B w b f v L)(hg:w.grownBy w' v.ownBlock)(ho:Own B w' v' Z)(G:v'.ownBlock≠some b):
  GL B (w'.setCell ⟨b,1,none⟩ v') b f v' Z/\((∃u,w'.cell? ⟨b,1,none⟩=some u)/\w'.frozen? ⟨b,1,none⟩=false):=by
 have hb:w'.heap[b]?=w.heap[b]?:=hg.block b h.lt λe=>h.ne e.symm
 have e0:w'.cell? ⟨b,0,none⟩=some (sv f):=by rw [M5 (w:=w) hb];exact h.c0
 have e1:w'.cell? ⟨b,1,none⟩=some v:=by rw [M5 (w:=w) hb];exact h.c1
 have z0:w'.frozen? ⟨b,0,none⟩=false:=by rw [NH (w:=w) hb];exact h.f0
 have z1:w'.frozen? ⟨b,1,none⟩=false:=by rw [NH (w:=w) hb];exact h.f1
 have hk:∀n,n≠b->(w'.setCell ⟨b,1,none⟩ v').heap[n]?=w'.heap[n]?:=λn H=>Px _ _ _ _ H
 refine⟨⟨by rw [NV];exact Nz h.lt hg.size,h.base,?_,Ns _ _ _ e1,⟨ho.1,?_⟩,G,by rw [Nv];exact z0,by rw [Nv];exact z1⟩,⟨⟨_,e1⟩,z1⟩⟩
 ·rw [Na _ _ _ _ (by simp)];exact e0
 ·rcases ho.2 with H | ⟨g',cap,cur,e,hb,J,rest⟩
  ·exact .inl H
  ·refine .inr ⟨g',cap,cur,e,hb,?_,rest⟩;rw [hk g' λhh=>G (by rw [e,<-hh];rfl)];exact J
def Kp.set {w w':World}{S:Nat->Prop}(h:Kp w w' S){b i:Nat}(hb:S b)(v:Value):Kp w (w'.setCell ⟨b,i,none⟩ v) S:=
 ⟨h.os,h.tape,h.output,by rw [NV];exact h.size,λg H G=>(Px _ _ _ _ (show g≠b from λe=>G (by rw [e];exact hb))).trans (h.block g H G)⟩
def Kp.grown {w w1 w':World}{S:Nat->Prop}(h:Kp w w1 S){row:Option Nat}(H:w1.grownBy w' row)(hr:∀g,row=some g->g< w.heap.size->S g):Kp w w' S:=
 ⟨H.os.trans h.os,H.tape.trans h.tape,H.output.trans h.output,N8 h.size H.size,λg G J=>
  (H.block g (Nz G h.size) (λe=>J (hr g e.symm G))).trans (h.block g G J)⟩
def fy:∀u:U,(aj u).2.length<=u.size
 | .nil=>by simp [aj]
 | .snd .. =>by simp [aj,T.size]
 | .rcv .. =>by simp [aj,T.size]
 | .tau .. =>by simp [aj,T.size]
 | .sum p q=>by
  have :=fy p;have :=fy q;simp only [aj,T.size];split
  ·omega
  ·split
   ·omega
   ·simp
 | .par p q=>by have :=fy p;have :=fy q;simp only [aj,T.size,Nb];omega
 | .res x p=>by have :=fy p;simp only [aj,T.size];omega
 | .mat a b p=>by
  have :=fy p;simp only [aj,T.size];split
  ·omega
  ·split<;>simp
 | .rep p=>by
  simp only [aj,T.size];split<;>simp
def hZ:∀u:U,(aj u).1.length<=u.ow
 | .nil=>by simp [aj]
 | .snd .. =>by simp [aj]
 | .rcv .. =>by simp [aj]
 | .tau .. =>by simp [aj]
 | .sum p q=>by
  have :=hZ p;have :=hZ q;simp only [aj,T.ow];split
  ·omega
  ·split
   ·omega
   ·simp
 | .par p q=>by have :=hZ p;have :=hZ q;simp only [aj,T.ow,Nb];omega
 | .res x p=>by
  have :=hZ p;simp only [aj,T.ow];split
  ·simp only [M0];omega
  ·omega
 | .mat a b p=>by
  have :=hZ p;simp only [aj,T.ow];split
  ·omega
  ·split<;>simp
 | .rep p=>by
  simp only [aj,T.ow];split<;>simp
def sT {p:P}{u:U}{ρ:UInt8->Nat}{σ:Nat->Nat}(h:AE ρ p σ u):u.ow=p.ow:=by
 induction p generalizing u ρ σ<;>cases u<;>simp only [AE]at h<;>simp only [T.ow]
 case snd.snd G _ _ _=>exact G h.2.2
 case mat.mat G _ _ _=>exact G h.2.2
 case rcv.rcv G _ _ _=>exact G (h.2 0)
 case res.res G _ _=>rw [G (h 0)]
 case tau.tau G _=>exact G h
 case rep.rep G _=>exact G h
 case sum.sum G H _ _=>rw [G h.1,H h.2]
 case par.par G H _ _=>rw [G h.1,H h.2]
def GN:∀(n:Nat) {k:Nat} {p:P} {σ:Nat->Nat} {u:U} {j:Nat},p.size<=n->Den k p σ u->GF j p->j+p.ow<=64->
  ∀{B b:Nat} {v:Value} {L:List Tx} {w:World} {R:Qx},GL B w b (gH j) v L->L.length+p.size<=1099511627776->
  (∀w' v' (ps:List P),Kp w w' (gS b v)->(∀g,v'.ownBlock=some g->v.ownBlock=some g\/w.heap.size<=g)->GL B w' b (gH (j+(aj u).1.length)) v' (L++ps.map T.text)->aO (H3 k σ u j) ps (aj u).2->R w')->
  Qy 241 #[.pointer (some ⟨b,0,none⟩),.string (ay p.text)] w (ax [] R):=by
 intro n
 induction n with
 | zero=>intro k p σ u j h;have :=aU p;omega
 | succ n ih=>
  intro k p σ u j hn d hgf how B b v L w R δ hL h;refine ji _ _ w R ?_;dsimp only [go_sem];dsimp only [go_sem,Nat.reduceAdd];refine zC d.ok λw1 hx1 υ=>?_
  have hsz:=T.vJ p;have hdd:=T.lu p;refine eR _ (Nc _) υ λw2 hx2=>⟨λhd=>?_,λhd=>?_⟩
  ·have hx:Ex w w2:=hx1.trans hx2;have J:=cK u d.uq (by rw [<-d.dead,<-hdd];exact hd);rw [J]at h;exact h w2 v [] (Kp.ah hx _) (λg J=> .inl J) (by simpa using δ.ex hx) aO.nil
  have hpd:p.dead=false:=by rw [<-hdd];exact hd
  obtain⟨m,φ,hm,d',hσ,hlo⟩:=d.peel hpd;clear hlo;have ζ:GF j p.peel:=hgf.peel d.bd.eb;have how':j+p.peel.ow<=64:=by have :=T.IF p;omega
  have hpu:=T.kf u;have hud:u.peel.dead=false:=by rw [T.lu,<-d.dead];exact hpd
  have hbv:∀y,y∉BV u->y∉BV u.peel:=λy hy hb=>hy (Cu u y hb)
  have χ:=d'.uq;have h:∀w' v' (ps:List P),Kp w w' (gS b v)->(∀g,v'.ownBlock=some g->v.ownBlock=some g\/w.heap.size<=g)->GL B w' b (gH (j+(aj u.peel).1.length)) v' (L++ps.map T.text)->aO (H3 m φ u.peel j) ps (aj u.peel).2->R w':=by
   intro w' v' ps h1 h2 h3 h4;have hus:=kX u.peel χ;rw [nW u d.uq]at h3;have hmem:∀t∈(aj u.peel).2,∀y,t.Us y->asgN (aj u.peel).1 j φ y=asgN (aj u.peel).1 j σ y:=by
    intro t ht y hy;refine vy _ _ _ _ _ ?_;rcases hus t ht y hy with hh | hh
    ·right;rw [T.CU]at hh;exact hσ y (d.uq.CA hh)
    ·exact .inl hh
   have h4':aO (H3 k σ u j) ps (aj u.peel).2:=h4.mono λa t _ ht ⟨m',τ,q1,q2,q3,q4⟩=>⟨m',τ,by omega,q2,λy hy=>by rw [q3 y hy,hmem t ht y hy,nW u d.uq],by rw [nW u d.uq]at q4;exact q4⟩
   rw [nW u d.uq]at h4';exact h w' v' ps h1 h2 h3 h4'
  generalize p.peel=q at*;generalize u.peel=t at*;have γ:Ex w w2:=hx1.trans hx2;have η:=δ.ex γ;have thread:(∀a b,q≠ .par a b)->(∀x a,q≠ .res x a)->True:=λ _ _=>trivial
  refine aK υ ⟨λhc=>?_,λhc=>⟨λhc2=>?_,λhc2=>?_⟩⟩
  ·
   cases q<;>simp [T.kind]at hc
   rename_i a c;cases t<;>(try exact d'.ae.elim)
   rename_i Z u2;obtain⟨d1,d2⟩:=d'.par;simp only [T.size]at hsz;simp only [T.ow]at how';have z1:=d1.ae.size;have z2:=d2.ae.size;refine pW υ λvp w3 β ω hfr=>?_
   have ω:Strs w3 vp [a.text,c.text]:=ω;have H:=η.ex β;have ο:Ex w w3:=γ.trans β;refine ω.get (Ex.refl w3) (i:=0) (x:=a.text) (by omega) rfl ?_;refine ih (by omega) d1 (λz hz=>ζ z (.inl hz)) (by omega) H (by omega) λw4 v4 ps1 hk4 hv4 hGL4 ha4=>?_
   have hs4:Strs w4 vp [a.text,c.text]:=ω.kp hk4 λbp off n' cap e hS=>by
    have hb:=hfr bp (by rw [e];rfl);rcases hS with rfl | hS
    ·have :=η.lt;omega
    ·have :=(δ.own.block bp hS).2;have :=γ.size;omega
   refine hs4.get (Ex.refl w4) (i:=1) (x:=c.text) (by omega) rfl ?_;have l1:=ha4.1;have g1:(aj Z).2.length<=Z.size:=fy Z;have o1:(aj Z).1.length<=a.ow:=by rw [<-sT d1.ae];exact hZ Z
   refine ih (by omega) d2 (λz hz J=>?_) (by omega) hGL4 (by simp only [Nb,Nq];omega) λw5 v5 ps2 hk5 hv5 θ ha5=>?_
   ·obtain⟨i,hi,e⟩:=ζ z (.inr hz) J;exact⟨i,by omega,e⟩
   ·have hv45:∀g,v5.ownBlock=some g->v.ownBlock=some g\/w.heap.size<=g:=by
     intro g J;rcases hv5 g J with h1 | h1
     ·rcases hv4 g h1 with h2 | h2
      ·exact .inl h2
      ·right;have :=ο.size;omega
     ·right;have :=ο.size;have :=hk4.size;omega
    refine h w5 v5 (ps1++ps2) ?_ hv45 ?_ ?_
    ·refine Kp.trans (Kp.trans (Kp.ah ο (gS b v)) hk4 λg _ J=>J) hk5 λg J hS=>?_
     rcases hS with h1 | h1
     ·exact .inl h1
     ·rcases hv4 g h1 with h2 | h2
      ·exact .inr h2
      ·have :=ο.size;omega
    ·have e1:(aj (T.par Z u2)).1.length=(aj Z).1.length+(aj u2).1.length:=by simp [aj]
     rw [e1,<-O',N0,<-NX];exact θ
    ·have hnd:=NU.1 χ.nd;have hus1:=kX Z d1.uq;have hus2:=kX u2 d2.uq;refine aO.append (ha4.mono λx y _ hy ⟨m',τ,q1,q2,q3,q4⟩=>⟨m',τ,q1,q2,λz hz=>?_,λz hz J=>?_⟩) (ha5.mono λx y _ hy ⟨m',τ,q1,q2,q3,q4⟩=>⟨m',τ,q1,q2,λz hz=>?_,λz hz J=>?_⟩)
     ·have hno:z∉(aj u2).1:=λhin=>by
       have hb2:=ig u2 z hin;rcases hus1 y hy z hz with h1 | h1
       ·exact χ.nf z (NG _ hb2) (.inl (T.bw h1))
       ·exact hnd.2.2 z (ig Z z h1) z hb2 rfl
      show τ z=asgN ((aj Z).1++(aj u2).1) j φ z;rw [kZ,iQ _ _ _ _ hno];exact q3 z hz
     ·obtain⟨i,hi,e⟩:=q4 z hz J;have e1:(aj (T.par Z u2)).1.length=(aj Z).1.length+(aj u2).1.length:=by simp [aj]
      exact⟨i,by omega,e⟩
     ·have hno:z∉(aj Z).1:=λhin=>by
       have hb1:=ig Z z hin;rcases hus2 y hy z hz with h1 | h1
       ·exact χ.nf z (NS _ hb1) (.inr (T.bw h1))
       ·exact hnd.2.2 z hb1 z (ig u2 z h1) rfl
      show τ z=asgN ((aj Z).1++(aj u2).1) j φ z;rw [kZ,q3 z hz];exact sn _ _ _ _ _ (iQ _ _ _ _ hno).symm
     ·obtain⟨i,hi,e⟩:=q4 z hz J;have e1:(aj (T.par Z u2)).1.length=(aj Z).1.length+(aj u2).1.length:=by simp [aj]
      exact⟨i,by omega,e⟩
  ·cases q<;>simp [T.kind]at hc2
   rename_i x a;cases t<;>(try exact d'.ae.elim)
   rename_i y Z;have hne:T.res x a≠ .nil:=λe=>by cases e
   have hj:j< 90:=by omega
   have oka:=υ.parts a (by simp [T.parts]);refine⟨λc w'=>Ex w2 w'/\∃i:Nat,i<=j/\c=gl i,λc _=>256 - c.toNat,⟨Ex.refl _,0,by omega,rfl⟩,λc w3 hI=>?_⟩;obtain⟨β,i,hi,rfl⟩:=hI;have H:=η.ex β;have next:∀w',Ex w2 w'->i< j->((decide (gl i+1=91))=true->(Ex w2 w'/\∃i':Nat,i'<=j/\(192:UInt8)=gl i')/\256 - (192:UInt8).toNat< 256 - (gl i).toNat)/\((decide (gl i+1=91))=false->(Ex w2 w'/\∃i':Nat,i'<=j/\gl i+1=gl i')/\256 - (gl i+1).toNat< 256 - (gl i).toNat):=by
    intro w' hx' hij;obtain⟨n1,n2⟩:=H0 (i:=i) (by omega);have e1:=jy (show i< 90 by omega);have e2:=jy (show i+1< 90 by omega);refine⟨λhc=>?_,λhc=>?_⟩
    ·have hc:=NB hc;refine⟨⟨hx',i+1,by omega,(n1 hc).symm⟩,?_⟩;rw [<-n1 hc,e2,e1];split<;>split<;>omega
    ·have hc:=Ny hc;refine⟨⟨hx',i+1,by omega,(n2 hc).symm⟩,?_⟩;rw [<-n2 hc,e2,e1];split<;>split<;>omega
   refine⟨b,0,rfl,gH j,H.c0,ib (by rw [gN];omega) ⟨λhq=>?_,λhq=>?_⟩⟩
   ·have hq:¬gl i∈gH j:=Ny hq;have hij:i=j:=by
     rcases ON i j with h1 | h1
     ·exact absurd (gR.2 ⟨i,h1,rfl⟩) hq
     ·omega
    subst hij;refine iG _ (Nc _) υ λs w4 hx4 hs4 hm4=>ib (by have :=hs4.bound;omega) ⟨λκ=>?_,λκ=>?_⟩
    ·have κ:gl i∈s:=NB κ;obtain⟨i',h1,h2⟩:=ζ _ ((hm4 _).1 κ) (yp hj);exact absurd (xD hj (by omega) h2) (by omega)
    ·have κ:¬(T.res x a).Fr (gl i):=by rw [<-hm4];exact Ny κ
     have hx24:Ex w2 w4:=β.trans hx4;have ς:Ex w w4:=γ.trans hx24;have fin:∀w5 w6,Ex w4 w5->w6=w5.setCell ⟨b,0,none⟩ (.string (ay (gH i++[gl i])))->Kp w w6 (gS b v)/\GL B w6 b (gH (i+1)) v L:=by
      rintro w5 w6 ε rfl
      refine⟨Kp.set (Kp.ah (ς.trans ε) _) (.inl rfl) _,?_⟩;rw [AF];exact(δ.ex (ς.trans ε)).FA _
     refine⟨λw'=>Kp w w' (gS b v)/\GL B w' b (gH (i+1)) v L,⟨λ _=>True,λw5 μ=>⟨trivial,b,0,rfl,?_,λb6 w6 hb6 ν=>⟨trivial,?_,?_⟩⟩⟩,λw6 hJ=>?_⟩
     ·have ε:Ex w4 w5:=μ▸Ex.drew w4;have θ:=(δ.ex (ς.trans ε))
      refine⟨gH i,θ.c0,trivial,λb6 w6 hb6 ν=>⟨trivial,b6,0,1,1,[gl i],rfl,rfl,kN _ hb6 ν,trivial,by rw [gN];simp;omega,?_⟩⟩;have ι:Ex w4 w6:=ε.trans (ν▸Ex.alloc w5 _);have G:=δ.ex (ς.trans ι);exact⟨b,0,rfl,⟨⟨_,G.c0⟩,G.f0⟩,λw7 ξ=>⟨trivial,fin w6 w7 ι ξ⟩⟩
     ·have ε:Ex w4 w5:=μ▸Ex.drew w4;have ι:Ex w4 w6:=ε.trans (ν▸Ex.alloc w5 _);have G:=δ.ex (ς.trans ι);refine⟨gH i,G.c0,trivial,b6,0,1,1,[gl i],rfl,rfl,kN _ hb6 ν,trivial,by rw [gN];simp;omega,?_⟩;exact⟨b,0,rfl,⟨⟨_,G.c0⟩,G.f0⟩,λw7 ξ=>⟨trivial,fin w6 w7 ι ξ⟩⟩
     ·have ε:Ex w4 w5:=μ▸Ex.drew w4;have ι:Ex w4 w6:=ε.trans (ν▸Ex.alloc w5 _);have G:=δ.ex (ς.trans ι);refine⟨b6,0,1,1,[gl i],rfl,rfl,kN _ hb6 ν,trivial,gH i,G.c0,trivial,by rw [gN];simp;omega,?_⟩;exact⟨b,0,rfl,⟨⟨_,G.c0⟩,G.f0⟩,λw7 ξ=>⟨trivial,fin w6 w7 ι ξ⟩⟩
     ·obtain⟨hk6,G⟩:=hJ;refine⟨λ _=>True,λw7 ξ=>⟨trivial,by simp only [T.text,M0];omega,by simp only [T.text,M0];omega,?_⟩⟩;have hx7:Ex w6 w7:=ξ▸Ex.drew w6;have hle:=d'.bd.le;simp only [T.pm]at hle;simp only [T.ow]at how';simp only [T.size]at hsz;have hbda:=T.rN a;refine gh _ (Nc _) oka d'.bd.eb.2 (by omega) (Lk hj) (JH hj) λq' w8 hx8 hq'=>⟨trivial,?_⟩
      have dr:=d'.res hq' κ;have hsz':=T.oD hq'.shp;have how2:=T.GJ hq'.shp;have ψ:=hx7.trans hx8;refine ih (by omega) dr (λz hz J=>?_) (by omega) (G.ex ψ) (by omega) λw9 v9 ps hk9 hv9 hGL9 ha9=>⟨trivial,?_⟩
      ·rcases hq'.ok.free z hz with h1 | h1 | h1
       ·exact⟨i,by omega,h1⟩
       ·obtain⟨i',h2,h3⟩:=ζ z ⟨h1.1,h1.2⟩ J;exact⟨i',by omega,h3⟩
       ·exact absurd J (dS (h1.1▸d'.bd.eb.1.1))
      ·have hus:(td Z).2.has y=true:=(fH Z y χ.fD).2 hpu;have e1:(aj (T.res y Z)).1=y::(aj Z).1:=by simp [aj,hus]
       have sz6:=hk6.size;refine h w9 v9 ps ?_ ?_ ?_ ?_
       ·exact Kp.trans hk6 (Kp.trans (Kp.ah ψ (gS b v)) hk9 λg _ hS=>hS) λg _ hS=>hS
       ·intro g J;rcases hv9 g J with h1 | h1
        ·exact .inl h1
        ·right;have :=ψ.size;omega
       ·rw [e1,M0];have e2:i+((aj Z).1.length+1)=i+1+(aj Z).1.length:=by omega
        rw [e2];exact hGL9
       ·refine ha9.mono λp' t' _ _ ⟨m',τ,q1,q2,q3,q4⟩=>⟨m',τ,by omega,q2,λz hz=>?_,λz hz J=>?_⟩
        ·rw [e1,asgN];exact q3 z hz
        ·obtain⟨i',h2,h3⟩:=q4 z hz J;exact⟨i',by rw [e1,M0];omega,h3⟩
   ·have hq:gl i∈gH j:=NB hq;obtain⟨i',h1,h2⟩:=gR.1 hq;have hij:i< j:=by rw [xD (by omega) (by omega) h2];exact h1
    exact next w3 β hij
  ·
   have hnp:∀a c,t≠ .par a c:=λa c e=>by
    subst e;cases q<;>first | exact d'.ae.elim | simp [T.kind]at hc
   have hnr:∀x a,t≠ .res x a:=λx a e=>by
    subst e;cases q<;>first | exact d'.ae.elim | simp [T.kind]at hc2
   have J:=Fg hpu hud hnp hnr;have hlen:L.length+1<=1099511627776:=by have :=aU p;omega
   refine⟨b,0,rfl,v,η.c1,λb3 w3 hb3 hw3=>?_⟩;have β:Ex w2 w3:=hw3▸Ex.alloc w2 _;have H:=η.ex β;refine Own.push H.own (N8 H.base (Qn H.lt)) (Strs.one hb3 hw3) (by simpa using hlen) λv4 w4 hb4 ho4 hg4 hw4=>?_
   have hne:v4.ownBlock≠some b:=λe=>by
    rcases hw4 b e with h1 | h1
    ·exact δ.ne h1
    ·have :=H.lt;omega
   obtain⟨θ,hcell⟩:=H.Cd hg4 ho4 hne;refine⟨b,0,rfl,?_,hcell,λw5 μ=>?_⟩
   ·rcases ho4.2 with⟨rfl,_⟩ | ⟨_,_,_,rfl,_⟩<;>rfl
   ·have μ:w5=w4.setCell ⟨b,1,none⟩ v4:=μ;subst μ;refine h _ v4 [q] ?_ ?_ ?_ ?_
    ·refine Kp.set (Kp.grown (Kp.ah (γ.trans β) _) hg4 λg hg' _=> .inr hg') (.inl rfl) _
    ·intro g hg';rcases hw4 g hg' with h1 | h1
     ·exact .inl h1
     ·right;have :=(γ.trans β).size;omega
    ·rw [J];exact θ
    ·rw [J];refine aO.one ⟨m,φ,Nc _,d',λy _=>by rw [J];rfl,by rw [J];exact ζ⟩
def ja (l:List U):Nat:=(l.map T.aN).sum+3* l.length
def qy (l m:List U):ja (l++m)=ja l+ja m:=by simp [ja];omega
def iN:ja []=0:=rfl
def bW (u:U):ja [u]=u.aN+3:=by simp [ja]
def y7 (u:U):1<=u.aN:=by cases u<;>simp only [T.aN]<;>omega
def eX:∀u:U,ja (aj u).2+3* (aj u).1.length<=u.aN+3
 | .nil=>by simp [aj,iN]
 | .snd .. =>by simp [aj,bW]
 | .rcv .. =>by simp [aj,bW]
 | .tau .. =>by simp [aj,bW]
 | .sum p q=>by
  have :=eX p;have :=eX q;simp only [aj,T.aN];split
  ·omega
  ·split
   ·omega
   ·simp [bW,T.aN]
 | .par p q=>by
  have :=eX p;have :=eX q;simp only [aj,T.aN,qy,Nb];omega
 | .res x p=>by
  have :=eX p;simp only [aj,T.aN];split
  ·simp only [M0];omega
  ·omega
 | .mat a b p=>by
  have :=eX p;simp only [aj,T.aN];split
  ·omega
  ·split
   ·simp [iN]
   ·simp [bW,T.aN]
 | .rep p=>by
  simp only [aj,T.aN];split
  ·simp [iN]
  ·simp [bW,T.aN]
def dA:∀u:U,ja (ak u)<=u.aN+3
 | .nil=>by simp [ak,iN]
 | .snd .. =>by simp [ak,bW]
 | .rcv .. =>by simp [ak,bW]
 | .tau .. =>by simp [ak,bW]
 | .sum p q=>by
  have :=dA p;have :=dA q;simp only [ak,T.aN,qy];omega
 | .par p q=>by
  have :=dA p;have :=dA q;simp only [ak,T.aN];split
  ·omega
  ·split
   ·omega
   ·simp [bW,T.aN]
 | .res x p=>by
  have :=dA p;simp only [ak,T.aN];split
  ·simp [bW,T.aN]
  ·omega
 | .mat a b p=>by
  have :=dA p;simp only [ak,T.aN];split
  ·omega
  ·split
   ·simp [iN]
   ·simp [bW,T.aN]
 | .rep p=>by
  simp only [ak,T.aN];split
  ·simp [iN]
  ·simp [bW,T.aN]
def oS {p:P}{u:U}{ρ:UInt8->Nat}{σ:Nat->Nat}(h:AE ρ p σ u):u.aN=p.aN:=by
 induction p generalizing u ρ σ<;>cases u<;>simp only [AE]at h<;>simp only [T.aN]
 case snd.snd G _ _ _=>rw [G h.2.2]
 case mat.mat G _ _ _=>rw [G h.2.2]
 case rcv.rcv G _ _ _=>rw [G (h.2 0)]
 case res.res G _ _=>rw [G (h 0)]
 case tau.tau G _=>rw [G h]
 case rep.rep G _=>rw [G h]
 case sum.sum G H _ _=>rw [G h.1,H h.2]
 case par.par G H _ _=>rw [G h.1,H h.2]
def KK {c:UInt8}(h:c∈DA):lt c=true:=by
 obtain⟨i,hi,rfl⟩:=NT.1 h;rw [OQ]at hi;have e:(UInt8.ofNat (97+i)).toNat=97+i:=by rw [Om];omega
 simp only [lt,M8,Nj];exact⟨NA.2 (by rw [e];show 97<=_;omega),NA.2 (by rw [e];show _<=122;omega)⟩
def Ag {tk:Tk}{c:UInt8}(h:uH tk=some c):tk c=false/\lt c=true/\ic tk=c:=by
 have h1:=Py h;have G:=List.find?_some h;exact⟨by simpa using G,KK h1,by unfold ic;rw [h];rfl⟩
def GV {tk:Tk}(h:(uH tk).isNone=false):tk (ic tk)=false/\lt (ic tk)=true:=by
 cases e:uH tk with
 | none=>rw [e]at h;cases h
 | some c=>obtain⟨h1,G,H⟩:=Ag e;rw [H];exact⟨h1,G⟩
def ym:∀(l:List UInt8) (tk:Tk) (c:UInt8),addK l tk c=(tk c||decide (c∈l))
 | [],tk,c=>by simp [addK]
 | d::l,tk,c=>by
  rw [addK,ym l];by_cases h:c=d
  ·subst h;simp [cA]
  ·have hb:(c==d)=false:=by simpa using h
   simp [cA,hb,h]
def vR:∀(n:Nat) (tk:Tk),fR n tk=false->(lets n tk).Nodup/\∀c∈lets n tk,tk c=false/\lt c=true
 | 0,tk,_=>⟨OG,λc h=>by cases h⟩
 | n+1,tk,h=>by
  simp only [fR,Oz]at h;obtain⟨h1,J⟩:=GV h.1;obtain⟨Z,H⟩:=vR n _ h.2;rw [lets];refine⟨N7.2 ⟨λhm=>?_,Z⟩,λc G=>?_⟩
  ·have :=(H _ hm).1;simp [cA]at this
  ·rcases Nw.1 G with rfl | G
   ·exact⟨h1,J⟩
   ·obtain⟨m1,m2⟩:=H c G;simp only [cA,Oz]at m1;exact⟨m1.1,m2⟩
def F0:∀(u:U) (y:Nat),u.Us y->∃t∈(aj u).2,t.Us y:=by
 intro u
 induction u with
 | nil=>intro y h;exact h.elim
 | snd a b p G=>intro y h;exact⟨_,by simp [aj],h⟩
 | rcv a b p G=>intro y h;exact⟨_,by simp [aj],h⟩
 | tau p G=>intro y h;exact⟨_,by simp [aj],h⟩
 | sum p q G H=>
  intro y h;simp only [aj];split
  ·rename_i e;exact H y (h.resolve_left (T.bD e))
  ·split
   ·rename_i e;exact G y (h.resolve_right (T.bD e))
   ·exact⟨_,by simp,h⟩
 | par p q G H=>
  intro y h;simp only [aj,Nk];rcases h with h | h
  ·obtain⟨t,h1,J⟩:=G y h;exact⟨t,.inl h1,J⟩
  ·obtain⟨t,h1,J⟩:=H y h;exact⟨t,.inr h1,J⟩
 | res x p G=>intro y h;exact G y h.2
 | mat a b p G=>
  intro y h;simp only [aj];rcases h with⟨e,h⟩ | ⟨e,hd,h⟩
  ·rw [NO e];exact G y h
  ·rw [Nt e,Nt (by simp [hd])];exact⟨.mat a b p,by simp,.inr ⟨e,hd,h⟩⟩
 | rep p G=>
  intro y h;simp only [aj];split
  ·rename_i e;exact absurd h (T.bD (p:=p) e)
  ·exact⟨_,by simp,h⟩
def zI:∀(u:U),Uq u->∀x∈(aj u).1,∃t∈(aj u).2,t.Us x:=by
 intro u
 induction u with
 | nil=>intro _ x h;simp [aj]at h
 | snd=>intro _ x h;simp [aj]at h
 | rcv=>intro _ x h;simp [aj]at h
 | tau=>intro _ x h;simp [aj]at h
 | sum p q G H=>
  intro hu x h;simp only [aj]at h|-;split at h
  ·rename_i e;rw [NO e];exact H hu.dh x h
  ·rename_i e;rw [Nt e];split at h
   ·rename_i Z;rw [NO Z];exact G hu.dF x h
   ·simp at h
 | par p q G H=>
  intro hu x h;simp only [aj,Nk]at h|-;rcases h with h | h
  ·obtain⟨t,h1,J⟩:=G hu.fK x h;exact⟨t,.inl h1,J⟩
  ·obtain⟨t,h1,J⟩:=H hu.eV x h;exact⟨t,.inr h1,J⟩
 | res y p G=>
  intro hu x h;have e2:(aj (.res y p)).2=(aj p).2:=rfl;rw [e2];simp only [aj]at h;split at h
  ·rename_i hh;rcases Nw.1 h with rfl | h
   ·exact F0 p x ((fH p x hu.fD).1 hh)
   ·exact G hu.res x h
  ·exact G hu.res x h
 | mat a b p G=>
  intro hu x h;simp only [aj]at h|-;split at h
  ·rename_i e;rw [NO e];exact G hu.mat x h
  ·rename_i e;split at h<;>simp at h
 | rep p G=>
  intro hu x h;simp only [aj]at h;split at h<;>simp at h
def fV:∀(u:U),Uq u->(aj u).1.Nodup:=by
 intro u
 induction u with
 | nil=>intro _;simp [aj]
 | snd=>intro _;simp [aj]
 | rcv=>intro _;simp [aj]
 | tau=>intro _;simp [aj]
 | sum p q G H=>
  intro hu;simp only [aj];split
  ·exact H hu.dh
  ·split
   ·exact G hu.dF
   ·simp
 | par p q G H=>
  intro hu;simp only [aj];refine NU.2 ⟨G hu.fK,H hu.eV,λa ha b hb e=>?_⟩;exact(NU.1 hu.nd).2.2 a (ig p a ha) b (ig q b hb) e
 | res y p G=>
  intro hu;simp only [aj];split
  ·exact N7.2 ⟨λh=>hu.fD (ig p y h),G hu.res⟩
  ·exact G hu.res
 | mat a b p G=>
  intro hu;simp only [aj];split
  ·exact G hu.mat
  ·split<;>simp
 | rep p G=>
  intro hu;simp only [aj];split<;>simp
def js:∀(l:List Nat) (n:Nat) (σ:Nat->Nat) (i:Nat) (h:i< l.length),l.Nodup->asgN l n σ l[i]=(gl (n+i)).toNat
 | [],_,_,_,h,_=>by simp at h
 | x::l,n,σ,0,_,G=>by
  have :=N7.1 G;simp only [List.getElem_cons_zero,asgN];rw [iQ _ _ _ _ this.1];simp [aF]
 | x::l,n,σ,i+1,h,G=>by
  have :=N7.1 G;simp only [List.getElem_cons_succ,asgN];rw [js l _ _ i (by simpa using h) this.2]
  congr 2
  omega
attribute [go_sem] Tryz.f203
def jY (m1:Value)(G:aJ)(t3:aJ)(w:World)(R:aJ->Qx)(h:vc az (aZ [(5,[(8,.s),(32,.i)]),(11,[(11,.s),(12,.i)]),(23,[(13,.s),(14,.s),(84,.i)]),(33,[(16,.s),(107,.i)]),(40,[(16,.s),(21,.i)])] [(12,[(11,.s)]),(32,[(17,.v)]),(38,[(16,.s)])] []) (ab Tryz.f203) (ai 0 [.v m1,.s G,.s t3]) w (fin az [.tmp 6 .s] R)):
  Qy 203 #[m1,(.string (ay G)),(.string (ay t3))] w (ax [.s] R):=
 a7 Tryz.func203 (by kernel_rfl) h
attribute [go_sem] Tryz.f243
def kI (m1:Value)(t2:Value)(G:aJ)(l4:aJ)(t5:aJ)(w:World)(R:aJ->Qx)(h:vc az (aZ [(3,[(11,.v),(17,.i)]),(6,[(13,.s),(14,.i)])] [] [(8,false,.lt 0 (.lt 1 (.lt 2 (.lt 3 (.lt 4 (.lt 5 (.lt 6 (.one .h 7 (.lt 8 .done)))))))))]) (ab Tryz.f243) (ai 0 [.v m1,.v t2,.s G,.s l4,.s t5]) w (fin az [.tmp 10 .s] R)):
  Qy 243 #[m1,t2,(.string (ay G)),(.string (ay l4)),(.string (ay t5))] w (ax [.s] R):=
 a7 Tryz.func243 (by kernel_rfl) h
attribute [go_sem] Tryz.f258
def jR (m1:Value)(G:aJ)(t3:aJ)(w:World)(R:aJ->Qx)(h:vc az (aZ [(17,[(10,.v),(87,.i)])] [] [(4,false,.lt 0 (.lt 1 (.lt 4 (.lt 5 (.lt 6 (.lt 9 (.one .h 2 (.lt 3 (.one .h 7 (.lt 8 (.one .h 10 (.lt 11 (.lt 12 .done))))))))))))),(7,false,.lt 0 (.lt 1 (.lt 2 (.lt 7 (.lt 8 (.lt 9 (.lt 10 (.lt 11 (.lt 12 (.lt 14 (.lt 15 (.br .h 3 (.br .h 4 (.lt 5 (.lt 6 (.one .h 13 (.one .h 16 (.one .h 17 (.lt 18 (.lt 19 .done))))))) (.one .h 13 (.br .h 4 (.lt 5 (.lt 6 (.one .h 16 (.one .h 17 (.lt 18 (.lt 19 .done)))))) (.one .h 16 (.br .h 4 (.lt 5 (.lt 6 (.one .h 17 (.lt 18 (.lt 19 .done))))) (.one .h 17 (.one .h 4 (.lt 5 (.lt 6 (.lt 18 (.lt 19 .done))))))))))) (.one .h 13 (.br .h 3 (.br .h 4 (.lt 5 (.lt 6 (.one .h 16 (.one .h 17 (.lt 18 (.lt 19 .done)))))) (.one .h 16 (.br .h 4 (.lt 5 (.lt 6 (.one .h 17 (.lt 18 (.lt 19 .done))))) (.one .h 17 (.one .h 4 (.lt 5 (.lt 6 (.lt 18 (.lt 19 .done))))))))) (.one .h 16 (.br .h 3 (.br .h 4 (.lt 5 (.lt 6 (.one .h 17 (.lt 18 (.lt 19 .done))))) (.one .h 17 (.one .h 4 (.lt 5 (.lt 6 (.lt 18 (.lt 19 .done))))))) (.one .h 17 (.one .h 3 (.one .h 4 (.lt 5 (.lt 6 (.lt 18 (.lt 19 .done))))))))))))))))))))))),(9,false,.lt 0 (.lt 1 (.lt 2 (.lt 3 (.lt 4 (.lt 5 .done))))))]) (ab Tryz.f258) (ai 0 [.v m1,.s G,.s t3]) w (fin az [.tmp 6 .s] R)):
  Qy 258 #[m1,(.string (ay G)),(.string (ay t3))] w (ax [.s] R):=
 a7 Tryz.func258 (by kernel_rfl) h
attribute [go_sem] Tryz.f162
def wQ (G:aJ)(w:World)(R:aJ->Bool->Qx)(h:vc az (aZ [(4,[(5,.i),(19,.i)])] [] [(13,false,.lt 0 (.lt 1 (.lt 2 (.lt 3 (.lt 4 (.lt 5 (.lt 6 (.lt 7 .done))))))))]) (ab Tryz.f162) (ai 0 [.s G]) w (fin az [.tmp 2 .s,.tmp 3 .b] R)):
  Qy 162 #[(.string (ay G))] w (ax [.s,.b] R):=
 a7 Tryz.func162 (by kernel_rfl) h
attribute [go_sem] Tryz.f90
def xt (G:aJ)(w:World)(R:aJ->Bool->Qx)(h:vc az (aZ [] [] []) (ab Tryz.f90) (ai 0 [.s G]) w (fin az [.tmp 2 .s,.tmp 3 .b] R)):
  Qy 90 #[(.string (ay G))] w (ax [.s,.b] R):=
 a7 Tryz.func90 (by kernel_rfl) h
structure MK (w:World)(bm:Nat)(br on:Bool):Prop where
 lt:bm< w.heap.size
 c0:w.cell? ⟨bm,0,none⟩=some (.bool br)
 c1:w.cell? ⟨bm,1,none⟩=some (.bool on)
 f0:w.frozen? ⟨bm,0,none⟩=false
def MK.ex {w w':World}{bm:Nat}{br on:Bool}(h:MK w bm br on)(k:Ex w w'):MK w' bm br on:=
 ⟨Nz h.lt k.size,by rw [k.cell h.lt];exact h.c0,by rw [k.cell h.lt];exact h.c1,by rw [Pb k h.lt];exact h.f0⟩
def cy (T:Tx):Tk:=λc=>decide (c∈T)
structure xL (k:Nat)(T:Tx)(σ:Nat->Nat)(u:U):Prop where
 srt:kC T
 okn:∀c∈T,okn k c/\ngr c
 cov:∀y,u.Us y->∃c∈T,c.toNat=σ y
def Compat (ρ:Rh)(σ:Nat->Nat)(u:U):Prop:=∀y,u.Us y->(ρ y).toNat=σ y
structure WR (on:Bool)(u:U)(σ:Nat->Nat)(T r:Tx):Prop where
 ne:r≠[]
 len:r.length<=u.aN
 cnt:aY u<=5->r.count 35=ck u
 bad:aY u<=5->on=false->cN u (cy T)=true->∃c∈r,128<=c
 eq:aY u<=5->on=false->cN u (cy T)=false->∀ρ,Compat ρ σ u->r=LS u ρ (cy T)
structure TR (on:Bool)(t:U)(σ:Nat->Nat)(T r:Tx):Prop where
 ne:r≠[]
 len:r.length<=t.aN
 cnt:an (tl [t])<=5->r.count 35=thAll (tl [t])
 bad:an (tl [t])<=5->on=false->thBad (tl [t]) (cy T)=true->∃c∈r,128<=c
 eq:an (tl [t])<=5->on=false->thBad (tl [t]) (cy T)=false->∀ρ,Compat ρ σ t->r=thU t ρ (cy T)
def CM:∀(u:U),∀t∈(aj u).2,t.ow+(aj u).1.length<=u.ow/\t.rd<=u.rd:=by
 intro u
 induction u with
 | nil=>intro t h;simp [aj]at h
 | snd=>intro t h;simp [aj]at h;subst h;simp [aj]
 | rcv=>intro t h;simp [aj]at h;subst h;simp [aj]
 | tau=>intro t h;simp [aj]at h;subst h;simp [aj]
 | sum p q G H=>
  intro t h;simp only [aj]at h|-;split at h
  ·rename_i e;rw [NO e];have :=H t h;simp only [T.ow,T.rd];omega
  ·rename_i e;rw [Nt e];split at h
   ·rename_i J;rw [NO J];have :=G t h;simp only [T.ow,T.rd];omega
   ·rename_i J;rw [Nt J];simp at h;subst h;simp
 | par p q G H=>
  intro t h;simp only [aj,Nk]at h;simp only [aj,T.ow,T.rd,Nb];have Z:=hZ p;have hq:=hZ q;rcases h with h | h
  ·have :=G t h;omega
  ·have :=H t h;omega
 | res x p G=>
  intro t h;have :=G t h;simp only [aj,T.ow,T.rd];split
  ·simp only [M0];omega
  ·omega
 | mat a b p G=>
  intro t h;simp only [aj]at h|-;split at h
  ·rename_i e;rw [NO e];exact G t h
  ·rename_i e;rw [Nt e];split at h
   ·simp at h
   ·rename_i J;rw [Nt J];simp at h;subst h;simp
 | rep p G=>
  intro t h;simp only [aj]at h|-;split at h
  ·simp at h
  ·rename_i J;rw [Nt J];simp at h;subst h;simp
def Gu {p:P}{u:U}{ρ:UInt8->Nat}{σ:Nat->Nat}(h:AE ρ p σ u):u.rd=p.rd:=by
 induction p generalizing u ρ σ<;>cases u<;>simp only [AE]at h<;>simp only [T.rd]
 case snd.snd G _ _ _=>exact G h.2.2
 case mat.mat G _ _ _=>exact G h.2.2
 case rcv.rcv G _ _ _=>rw [G (h.2 0)]
 case res.res G _ _=>exact G (h 0)
 case tau.tau G _=>exact G h
 case rep.rep G _=>exact G h
 case sum.sum G H _ _=>rw [G h.1,H h.2]
 case par.par G H _ _=>rw [G h.1,H h.2]
def Lb (k:Nat)(u:U):Prop:=u.ow<=64/\((aj u).1.length<=5->∀t∈(aj u).2,k+(aj u).1.length+t.rd+t.ow<=64)
def Lb.of {k:Nat}{u:U}(h:k+u.rd+u.ow<=64):Lb k u:=⟨by omega,λ _ t G=>by have :=CM u t G;omega⟩
def Den.lb {k m:Nat}{p:P}{σ:Nat->Nat}{u:U}(d:Den m p σ u)(h:k+(p.rd+p.ow)<=64):Lb k u:=Lb.of (by rw [Gu d.ae,sT d.ae];omega)
def Gv (n:Nat):Prop:=∀{k:Nat} {p:P} {σ:Nat->Nat} {u:U} {T:Tx} {w:World} {bm:Nat} {br on:Bool} {R:aJ->Qx},
 p.size<=n->Den k p σ u->Lb k u->GF 0 p->xL k T σ u->MK w bm br on->
 (∀r w',Kp w w' (λg=>g=bm)->MK w' bm (br||decide (5< aY u)) on->WR on u σ T r->R r w')->
 Qy 203 #[.pointer (some ⟨bm,0,none⟩),.string (ay p.text),.string (ay T)] w (ax [.s] R)
def yz (n:Nat):Prop:=∀{k:Nat} {p:P} {σ:Nat->Nat} {t:U} {T:Tx} {w:World} {bm:Nat} {br on:Bool} {R:aJ->Qx},
 p.size<=n->Den k p σ t->I8 t=true->t.cX->t.dead=false->GF 0 p->xL k T σ t->MK w bm br on->
 (∀r w',Kp w w' (λg=>g=bm)->MK w' bm (br||decide (5< an (tl [t]))) on->TR on t σ T r->R r w')->
 Qy 258 #[.pointer (some ⟨bm,0,none⟩),.string (ay p.text),.string (ay T)] w (ax [.s] R)
def iE (a b:Nat)(p:U)(tk:Tk):thBad (tl [.snd a b p]) tk=cN p tk:=by simp [tl,thBad,cN]
def iM (p:U)(tk:Tk):thBad (tl [.tau p]) tk=cN p tk:=by simp [tl,thBad,cN]
def eC (a b:Nat)(p:U)(tk:Tk):thBad (tl [.mat a b p]) tk=cN p tk:=by simp [tl,thBad,cN]
def im (p:U)(tk:Tk):thBad (tl [.rep p]) tk=cN p tk:=by simp [tl,thBad,cN]
def iF (a x:Nat)(p:U)(tk:Tk):thBad (tl [.rcv a x p]) tk=((uH tk).isNone||cN p (cA tk (ic tk))):=by simp [tl,thBad,cN]
def pE (a b:Nat)(p:U):thAll (tl [.snd a b p])=ck p:=by simp [tl,thAll,ck]
def pO (p:U):thAll (tl [.tau p])=ck p:=by simp [tl,thAll,ck]
def iP (a b:Nat)(p:U):thAll (tl [.mat a b p])=ck p:=by simp [tl,thAll,ck]
def pT (p:U):thAll (tl [.rep p])=ck p:=by simp [tl,thAll,ck]
def pd (a b:Nat)(p:U):thAll (tl [.rcv a b p])=ck p:=by simp [tl,thAll,ck]
def eh (a b:Nat)(p:U):an (tl [.snd a b p])=aY p:=by simp [tl,an,aY]
def eM (p:U):an (tl [.tau p])=aY p:=by simp [tl,an,aY]
def cM (a b:Nat)(p:U):an (tl [.mat a b p])=aY p:=by simp [tl,an,aY]
def eA (p:U):an (tl [.rep p])=aY p:=by simp [tl,an,aY]
def eF (a b:Nat)(p:U):an (tl [.rcv a b p])=aY p:=by simp [tl,an,aY]
def wC (l:List U)(tk:Tk):thBad (tp l) tk=l.any λu=>cN u tk:=by
 induction l with
 | nil=>rfl
 | cons u l G=>rw [tp,thBad,G];rfl
def Hp (l:List U):thAll (tp l)=(l.map ck).sum:=by
 induction l with
 | nil=>rfl
 | cons u l G=>rw [tp,thAll,G];rfl
def xI (l:List U)(n:Nat):an (tp l)<=n↔∀u∈l,aY u<=n:=by
 induction l with
 | nil=>simp [tp,an]
 | cons u l G=>
  rw [tp,an];rw [Ni,<-G];unfold aY;exact⟨λh=>⟨by omega,by omega⟩,λh=>by have :=h.1;have :=h.2;omega⟩
def tW (l:List U)(tk:Tk):thBad (tl l) tk=l.any λt=>thBad (tl [t]) tk:=by
 induction l with
 | nil=>rfl
 | cons u l G=>
  have:tl (u::l)=(tl [u]).app (tl l):=gj [u] l;rw [this,cE,G];rfl
def Cf (l:List U):thAll (tl l)=(l.map λt=>thAll (tl [t])).sum:=by
 induction l with
 | nil=>rfl
 | cons u l G=>
  have:tl (u::l)=(tl [u]).app (tl l):=gj [u] l;rw [this,bN,G];rfl
def rh (l:List U)(n:Nat):an (tl l)<=n↔∀t∈l,an (tl [t])<=n:=by
 induction l with
 | nil=>simp [tl,an]
 | cons u l G=>
  have:tl (u::l)=(tl [u]).app (tl l):=gj [u] l;rw [this,bQ];rw [Ni,<-G];exact⟨λh=>⟨by omega,by omega⟩,λh=>by have :=h.1;have :=h.2;omega⟩
section
open Classical
namespace T
section
variable {A B:Type} [DecidableEq A] [DecidableEq B]
def th:T A->Bool
 | snd .. =>true | rcv .. =>true | tau .. =>true | mat .. =>true | rep .. =>true | sum .. =>true
 | nil=>false | par .. =>false | res .. =>false
def isS:T A->Bool
 | sum .. =>true
 | _=>false
def isP:T A->Bool
 | par .. =>true
 | _=>false
def Nr:T A->Prop
 | nil=>True
 | snd _ _ p=>p.Nr
 | rcv _ _ p=>p.Nr
 | tau p=>p.Nr
 | sum p q=>(p.dead=false/\q.dead=false/\p.isS=false)/\p.Nr/\q.Nr
 | par p q=>(p.th=true/\(q.th=true\/q.isP=true))/\p.Nr/\q.Nr
 | res x p=>p.Us x/\p.Nr
 | mat a b p=>(a≠b/\p.dead=false)/\p.Nr
 | rep p=>p.dead=false/\p.Nr
def Nr.gW {A:Type}{x:A}:∀{p:T A},p.Nr->p.Fr x->p.Us x
 | nil,_,h=>h.elim
 | snd a b p,n,h=>h.imp id λh=>h.imp id (Nr.gW (p:=p) n)
 | rcv a y p,n,h=>h.imp id λh=>h.imp id (Nr.gW (p:=p) n)
 | tau p,n,h=>Nr.gW (p:=p) n h
 | sum p q,n,h=>Or.imp (Nr.gW n.2.1) (Nr.gW n.2.2) h
 | par p q,n,h=>Or.imp (Nr.gW n.2.1) (Nr.gW n.2.2) h
 | res y p,n,h=>And.imp id (Nr.gW (p:=p) n.2) h
 | mat a b p,n,h=> .inr ⟨n.1.1,n.1.2,h.imp id λh=>h.imp id (Nr.gW (p:=p) n.2)⟩
 | rep p,n,h=>Nr.gW (p:=p) n.2 h
def H7 {A:Type}{p:T A}{x:A}(h:p.Us x):p.dead=false:=by
 cases hd:p.dead with
 | false=>rfl
 | true=>exact absurd h (bD hd)
def Nr.rz {A:Type}:∀{p:T A},p.Nr->p.th=true->p.dead=false
 | snd ..,_,_=>rfl
 | rcv ..,_,_=>rfl
 | tau ..,_,_=>rfl
 | sum p q,n,_=>by simp [dead,n.1.1]
 | mat a b p,n,_=>n.1.2
 | rep p,n,_=>n.1
def Nr.live {A:Type}{p:T A}(n:p.Nr)(h:p≠nil):p.dead=false:=by
 cases p with
 | nil=>exact absurd rfl h
 | res x p=>exact H7 (p:=p) n.1
 | par p q=>simp [dead,n.2.1.rz n.1.1]
 | _=>exact n.rz rfl
def Nr.cX {A:Type}{p:T A}(n:p.Nr):p.cX:=by
 cases p with
 | mat a b p=>exact n.1.1
 | sum p q=>exact⟨n.1.1,n.1.2.1⟩
 | par p q=>
  refine⟨n.2.1.rz n.1.1,?_⟩;refine n.2.2.live ?_
  rintro rfl
  rcases n.1.2 with h | h<;>cases h
 | res x p=>exact n.1
 | _=>trivial
def frL:T A->List A
 | res x p=>x::p.frL
 | _=>[]
def ths:T A->List (T A)
 | nil=>[]
 | res _ p=>p.ths
 | par p q=>p::q.ths
 | t=>[t]
def ly:T A->List (T A)
 | sum p q=>p::q.ly
 | t=>[t]
def resL:List A->T A->T A
 | [],p=>p
 | x::l,p=>res x (resL l p)
def parL:List (T A)->T A
 | []=>nil
 | [t]=>t
 | t::u::l=>par t (parL (u::l))
def cY:List (T A)->T A
 | []=>nil
 | [t]=>t
 | t::u::l=>sum t (cY (u::l))
def eQ {A:Type}{x:A}{p:T A}:∀{l:List A},(resL l p).Fr x↔x∉l/\p.Fr x
 | []=>by simp [resL]
 | y::l=>by simp only [resL,Fr,eQ (l:=l),Nw,Qt];exact Pk.symm
def jt {A:Type}{x:A}{p:T A}:∀{l:List A},(resL l p).Us x↔x∉l/\p.Us x
 | []=>by simp [resL]
 | y::l=>by simp only [resL,Us,jt (l:=l),Nw,Qt];exact Pk.symm
def AL {A:Type}{p:T A}:∀{l:List A},(resL l p).frL=l++p.frL
 | []=>rfl
 | y::l=>by simp only [resL,frL,AL (l:=l),N6]
def zX {A:Type}{p:T A}:∀{l:List A},(resL l p).ths=p.ths
 | []=>rfl
 | y::l=>by simp only [resL,ths,zX (l:=l)]
def iW {A:Type}{x:A}:∀{l:List (T A)},(parL l).Fr x↔∃t∈l,t.Fr x
 | []=>by simp [parL,Fr]
 | [t]=>by simp [parL]
 | t::u::l=>by simp only [parL,Fr,iW (l:=u::l),Nw,exists_eq_or_imp]
def rb {A:Type}{x:A}:∀{l:List (T A)},(parL l).Us x↔∃t∈l,t.Us x
 | []=>by simp [parL,Us]
 | [t]=>by simp [parL]
 | t::u::l=>by simp only [parL,Us,rb (l:=u::l),Nw,exists_eq_or_imp]
def Cs {A:Type}{x:A}:∀{l:List (T A)},(cY l).Us x↔∃t∈l,t.Us x
 | []=>by simp [cY,Us]
 | [t]=>by simp [cY]
 | t::u::l=>by simp only [cY,Us,Cs (l:=u::l),Nw,exists_eq_or_imp]
def C5 {A:Type}:∀{l:List (T A)},(∀t∈l,t.th=true/\t.Nr)->(parL l).Nr/\(l≠[]->(parL l).th=true\/(parL l).isP=true)
 | [],_=>⟨trivial,λh=>absurd rfl h⟩
 | [t],h=>⟨(h t (by simp)).2,λ _=> .inl (h t (by simp)).1⟩
 | t::u::l,h=>by
  obtain⟨h1,G⟩:=C5 (l:=u::l) λt H=>h t (Nh _ H)
  exact⟨⟨⟨(h t (by simp)).1,G (by simp)⟩,(h t (by simp)).2,h1⟩,λ _=> .inr rfl⟩
def np {A:Type}{t:T A}(h:t.th=true):t.ths=[t]:=by cases t<;>first | rfl | cases h
def ia {A:Type}{t:T A}(h:t.th=true):t.frL=[]:=by cases t<;>first | rfl | cases h
def Az {A:Type}:∀{l:List (T A)},(∀t∈l,t.th=true)->(parL l).ths=l
 | [],_=>rfl
 | [t],h=>np (h t (by simp))
 | t::u::l,h=>by simp only [parL,ths,Az (l:=u::l) λt G=>h t (Nh _ G)]
def ES {A:Type}:∀{l:List (T A)},(∀t∈l,t.th=true)->(parL l).frL=[]
 | [],_=>rfl
 | [t],h=>ia (h t (by simp))
 | t::u::l,h=>rfl
def CL {A:Type}{p:T A}(n:p.Nr):∀{l:List A},l.Nodup->(∀x∈l,p.Us x)->(resL l p).Nr
 | [],_,_=>n
 | x::l,G,h=>by
  have :=N7.1 G;exact⟨jt.2 ⟨this.1,h x (by simp)⟩,CL n this.2 λy H=>h y (Nh _ H)⟩
def CF {A:Type}:∀{l:List (T A)},l≠[]->(∀t∈l,t.dead=false/\t.isS=false/\t.Nr)->(cY l).Nr/\(cY l).dead=false
 | [],h,_=>absurd rfl h
 | [t],_,h=>⟨(h t (by simp)).2.2,(h t (by simp)).1⟩
 | t::u::l,_,h=>by
  obtain⟨h1,H⟩:=CF (l:=u::l) (by simp) λt G=>h t (Nh _ G)
  have G:=h t (by simp);exact⟨⟨⟨G.1,H,G.2.1⟩,G.2.2,h1⟩,by simp [cY,dead,G.1]⟩
def fP {A:Type}{t:T A}(h:t.isS=false):t.ly=[t]:=by cases t<;>first | rfl | cases h
def zk {A:Type}:∀{l:List (T A)},l≠[]->(∀t∈l,t.isS=false)->(cY l).ly=l
 | [],h,_=>absurd rfl h
 | [t],_,h=>fP (h t (by simp))
 | t::u::l,_,h=>by simp only [cY,ly,zk (l:=u::l) (by simp) λt G=>h t (Nh _ G)]
def zq {A:Type}:∀{p:T A},p.Nr->(p.th=true\/p.isP=true)->parL p.ths=p
 | par p q,n,_=>by
  have H:=zq n.2.2 n.1.2;have G:q.ths≠[]:=by
   rcases n.1.2 with h | h
   ·rw [np h];simp
   ·cases q<;>first | (cases h;done) | simp [ths]
  simp only [ths];cases e:q.ths with
  | nil=>exact absurd e G
  | cons u l=>rw [parL,<-e,H]
 | snd ..,_,_=>rfl
 | rcv ..,_,_=>rfl
 | tau ..,_,_=>rfl
 | sum ..,_,_=>rfl
 | mat ..,_,_=>rfl
 | rep ..,_,_=>rfl
 | nil,_,h=>by rcases h with h | h<;>cases h
 | res ..,_,h=>by rcases h with h | h<;>cases h
def Nr.shape {A:Type}:∀{p:T A},p.Nr->p=resL p.frL (parL p.ths)
 | res x p,n=>by
  have :=Nr.shape n.2;simp only [frL,ths,resL];rw [<-this]
 | nil,_=>rfl
 | par p q,n=>by
  have :=zq (p:=par p q) n (.inr rfl);rw [this];rfl
 | snd ..,_=>rfl
 | rcv ..,_=>rfl
 | tau ..,_=>rfl
 | sum ..,_=>rfl
 | mat ..,_=>rfl
 | rep ..,_=>rfl
def Nr.ths {A:Type}:∀{p:T A},p.Nr->∀t∈p.ths,t.th=true/\t.Nr
 | nil,_,t,h=>by cases h
 | res x p,n,t,h=>Nr.ths (p:=p) n.2 t h
 | par p q,n,t,h=>by
  rcases Nw.1 h with rfl | h
  ·exact⟨n.1.1,n.2.1⟩
  ·exact Nr.ths n.2.2 t h
 | snd ..,n,t,h=>by simp [T.ths]at h;subst h;exact⟨rfl,n⟩
 | rcv ..,n,t,h=>by simp [T.ths]at h;subst h;exact⟨rfl,n⟩
 | tau ..,n,t,h=>by simp [T.ths]at h;subst h;exact⟨rfl,n⟩
 | sum ..,n,t,h=>by simp [T.ths]at h;subst h;exact⟨rfl,n⟩
 | mat ..,n,t,h=>by simp [T.ths]at h;subst h;exact⟨rfl,n⟩
 | rep ..,n,t,h=>by simp [T.ths]at h;subst h;exact⟨rfl,n⟩
def Nr.EV {A:Type}:∀{p:T A},p.Nr->p.frL.Nodup/\∀x∈p.frL,(parL p.ths).Us x
 | res y p,n=>by
  obtain⟨h1,H⟩:=Nr.EV n.2;have hu:=n.1;rw [Nr.shape n.2]at hu;have hu:=jt.1 hu;refine⟨N7.2 ⟨hu.1,h1⟩,λx G=>?_⟩;rcases Nw.1 G with rfl | G
  ·exact hu.2
  ·exact H x G
 | nil,_=>⟨OG,λx h=>by cases h⟩
 | par ..,_=>⟨OG,λx h=>by cases h⟩
 | snd ..,_=>⟨OG,λx h=>by cases h⟩
 | rcv ..,_=>⟨OG,λx h=>by cases h⟩
 | tau ..,_=>⟨OG,λx h=>by cases h⟩
 | sum ..,_=>⟨OG,λx h=>by cases h⟩
 | mat ..,_=>⟨OG,λx h=>by cases h⟩
 | rep ..,_=>⟨OG,λx h=>by cases h⟩
end
def pM (p:P):∀l:List UInt8,(resL l p).text=wrap l p.text
 | []=>rfl
 | x::l=>by simp only [resL,text,wrap,pM p l]
def pc:∀{l:List P},l≠[]->(parL l).text=joinS 38 (l.map T.text)
 | [],h=>absurd rfl h
 | [t],_=>rfl
 | t::u::l,_=>by
  have :=pc (l:=u::l) (by simp);simp only [parL,text,NI,joinS]at this|-;rw [this]
def vk:∀{l:List P},l≠[]->(cY l).text=joinS 43 (l.map T.text)
 | [],h=>absurd rfl h
 | [t],_=>rfl
 | t::u::l,_=>by
  have :=vk (l:=u::l) (by simp);simp only [cY,text,NI,joinS]at this|-;rw [this]
end T
section
variable {A B:Type} [DecidableEq A] [DecidableEq B]
def AE.th {p:T A}{q:T B}{ρ:A->Nat}{σ:B->Nat}(h:AE ρ p σ q):p.th=q.th/\p.isS=q.isS/\p.isP=q.isP:=by
 cases p<;>cases q<;>first | exact h.elim | exact⟨rfl,rfl,rfl⟩
def ee {ρ:A->Nat}{p:T A}{x:A}{v:Nat}(h:ef ρ (.res x p))(H:∀y,p.Fr y->ρ y≠v):ef (aF ρ x v) p:=
 .aF (λy z G J h5 Z=>h y z ⟨G,h5⟩ ⟨J,Z⟩) λy _ G=>H y (T.bw G)
def IZ {p:T A}{u:T B}{ρ:A->Nat}{σ:B->Nat}{x:A}{y:B}(h:∀v,AE (aF ρ x v) p (aF σ y v) u)(hi:ef ρ (.res x p))(hj:ef σ (.res y u)):p.Us x↔u.Us y:=by
 obtain⟨v,h1,h2⟩:=bO p u ρ σ;have G:=ee hi h1;have H:=ee hj h2;constructor
 ·intro hx;obtain⟨z,J,e⟩:=(h v).used G H x hx;rw [bS]at e;unfold aF at e;split at e
  ·rename_i Z;exact Z▸J
  ·exact absurd e (h2 z (T.bw J))
 ·intro hy;obtain⟨z,J,e⟩:=(h v).symm.used H G y hy;rw [bS]at e;unfold aF at e;split at e
  ·rename_i Z;exact Z▸J
  ·exact absurd e (h1 z (T.bw J))
def ef.FN {A:Type}{ρ:A->Nat}{p:T A}{a x:A}(h:ef ρ (.rcv a x p)):ef ρ (.res x p):=λy z G H=>h y z (.inr G) (.inr H)
def AE.nr:∀{p:T A} {q:T B} {ρ:A->Nat} {σ:B->Nat},AE ρ p σ q->ef ρ p->ef σ q->p.Nr->q.Nr:=by
 intro p
 induction p<;>intro q ρ σ h hi J n<;>cases q<;>simp only [AE]at h
 case nil.nil=>trivial
 case snd.snd H _ _ _=>have k:=H h.2.2 (hi.sub λx G=>Or.inr (Or.inr G)) (J.sub λx G=> .inr (.inr G)) n;exact k
 case rcv.rcv p H _ _ q=>
  obtain⟨v,h1,h2⟩:=bO p q ρ σ;have k:=H (h.2 v) (ee hi.FN h1) (ee J.FN h2) n;exact k
 case tau.tau H _=>have k:=H h hi J n;exact k
 case rep.rep H _=>exact⟨h.dead▸n.1,H h hi J n.2⟩
 case res.res p H _ q=>
  obtain⟨v,h1,h2⟩:=bO p q ρ σ;exact⟨(IZ h hi J).1 n.1,H (h v) (ee hi h1) (ee J h2) n.2⟩
 case mat.mat p H c d q=>
  have hd:q.dead=false:=h.2.2.dead▸n.1.2;have β:c≠d:=by
   rintro rfl
   exact n.1.1 (hi _ _ (.inr ⟨n.1.1,n.1.2,.inl rfl⟩) (.inr ⟨n.1.1,n.1.2,.inr (.inl rfl)⟩) (h.1.trans h.2.1.symm))
  exact⟨⟨β,hd⟩,H h.2.2 (hi.sub λx G=> .inr ⟨n.1.1,n.1.2,.inr (.inr G)⟩) (J.sub λx G=> .inr ⟨β,hd,.inr (.inr G)⟩) n.2⟩
 case sum.sum H Z _ _=>
  exact⟨⟨h.1.dead▸n.1.1,h.2.dead▸n.1.2.1,h.1.th.2.1▸n.1.2.2⟩,H h.1 (hi.sub λx G=> .inl G) (J.sub λx G=> .inl G) n.2.1,Z h.2 (hi.sub λx G=> .inr G) (J.sub λx G=> .inr G) n.2.2⟩
 case par.par H Z _ _=>
  exact⟨⟨h.1.th.1▸n.1.1,n.1.2.imp (λk=>h.2.th.1▸k) (λk=>h.2.th.2.2▸k)⟩,H h.1 (hi.sub λx G=> .inl G) (J.sub λx G=> .inl G) n.2.1,Z h.2 (hi.sub λx G=> .inr G) (J.sub λx G=> .inr G) n.2.2⟩
end
def eJ {u:U}(n:u.Nr)(h:u.th=true):aj u=([],[u]):=by
 cases u<;>first | (cases h;done) | rfl | skip
 case sum p q=>simp [aj,n.1.1,n.1.2.1]
 case mat a b p=>simp [aj,n.1.1,n.1.2]
 case rep p=>simp [aj,n.1]
def Ce:∀{u:U},Uq u->u.Nr->aj u=(u.frL,u.ths)
 | .nil,_,_=>rfl
 | .res x p,hu,n=>by
  have :=Ce hu.res n.2;have h:(td p).2.has x=true:=(fH p x hu.fD).2 n.1;simp [aj,h,this,T.frL,T.ths]
 | .par p q,hu,n=>by
  have G:=Ce hu.eV n.2.2;have H:q.frL=[]:=by
   rcases n.1.2 with h | h
   ·exact T.ia h
   ·cases q<;>first | (cases h;done) | rfl
  simp [aj,G,eJ n.2.1 n.1.1,T.frL,T.ths,H]
 | .snd ..,_,n=>eJ n rfl
 | .rcv ..,_,n=>eJ n rfl
 | .tau ..,_,n=>eJ n rfl
 | .sum ..,_,n=>eJ n rfl
 | .mat ..,_,n=>eJ n rfl
 | .rep ..,_,n=>eJ n rfl
def eI {u:U}(H:u.cX)(hd:u.dead=false)(J:∀p q,u≠ .sum p q)(hu:Uq u):ak u=[u]:=by
 cases u with
 | nil=>cases hd
 | snd=>rfl
 | rcv=>rfl
 | tau=>rfl
 | sum p q=>exact absurd rfl (J p q)
 | par p q=>
  have h1:p.dead=false:=H.1;have G:q.dead=false:=H.2;simp [ak,h1,G]
 | res x p=>
  have:(td p).2.has x=true:=(fH p x hu.fD).2 H;simp [ak,this]
 | mat a b p=>
  have h1:a≠b:=H;have G:p.dead=false:=hd;simp [ak,h1,G]
 | rep p=>
  have G:p.dead=false:=hd;simp [ak,G]
def dU:∀{u:U},Uq u->u.Nr->u.dead=false->ak u=u.ly
 | .nil,_,_,h=>by cases h
 | .sum p q,hu,n,_=>by
  have h1:=dU hu.dF n.2.1 n.1.1;have G:=dU hu.dh n.2.2 n.1.2.1;simp only [ak,T.ly,h1,G,T.fP n.1.2.2];rfl
 | .res x p,hu,n,h=>eI n.cX h (λ _ _ e=>by cases e) hu
 | .par ..,hu,n,h=>eI n.cX h (λ _ _ e=>by cases e) hu
 | .snd ..,hu,n,h=>eI n.cX h (λ _ _ e=>by cases e) hu
 | .rcv ..,hu,n,h=>eI n.cX h (λ _ _ e=>by cases e) hu
 | .tau ..,hu,n,h=>eI n.cX h (λ _ _ e=>by cases e) hu
 | .mat ..,hu,n,h=>eI n.cX h (λ _ _ e=>by cases e) hu
 | .rep ..,hu,n,h=>eI n.cX h (λ _ _ e=>by cases e) hu
namespace Lv
def map (f:Nat->Nat):Lv->Lv
 | nil=>nil
 | thr k a b o r n=>thr k (if k= .t\/k= .p then a else f a) (if k= .t\/k= .p then b else f b) (o.map f) (r.map f) (n.map f)
 | sum ps n=>sum (ps.map f) (n.map f)
 | part o q n=>part (o.map f) (q.map f) (n.map f)
def Al (D:Nat->Prop):Lv->Prop
 | nil=>True
 | thr k a b o r n=>(k= .t\/k= .p\/(D a/\D b))/\(∀x∈o,D x)/\r.Al D/\n.Al D
 | sum ps n=>ps.Al D/\n.Al D
 | part o q n=>(∀x∈o,D x)/\q.Al D/\n.Al D
def eO (f:Nat->Nat):∀l m:Lv,(l.app m).map f=(l.map f).app (m.map f)
 | nil,m=>rfl
 | thr k a b o r n,m=>by simp only [app,map,eO f n m]
 | sum ps n,m=>by simp only [app,map,eO f n m]
 | part o q n,m=>by simp only [app,map,eO f n m]
def mU {D:Nat->Prop}:∀{l m:Lv},(l.app m).Al D↔l.Al D/\m.Al D
 | nil,m=>by simp [app,Al]
 | thr k a b o r n,m=>by simp only [app,Al,mU (l:=n),Pk]
 | sum ps n,m=>by simp only [app,Al,mU (l:=n),Pk]
 | part o q n,m=>by simp only [app,Al,mU (l:=n),Pk]
def lz (f:Nat->Nat)(l:Lv):(l.map f).isNil=l.isNil:=by cases l<;>rfl
def lA {D E:Nat->Prop}(h:∀x,D x->E x):∀{l:Lv},l.Al D->l.Al E
 | nil,_=>trivial
 | thr k a b o r n,⟨h1,G,H,h4⟩=>⟨h1.imp id λh1=>h1.imp id λh1=>⟨h _ h1.1,h _ h1.2⟩,λx J=>h x (G x J),lA h H,lA h h4⟩
 | sum ps n,⟨h1,G⟩=>⟨lA h h1,lA h G⟩
 | part o q n,⟨h1,G,H⟩=>⟨λx J=>h x (h1 x J),lA h G,lA h H⟩
section
variable {D:Nat->Prop} {f:Nat->Nat}
def lJ (G:∀x y,D x->D y->f x=f y->x=y){x y:Nat}(H:D x)(J:D y):(f x==f y)=(x==y):=by
 rw [N',PI,PI];exact⟨G x y H J,λh=>by rw [h]⟩
def jd (G:∀x y,D x->D y->f x=f y->x=y){x:Nat}(H:D x):∀{l:Lv},l.Al D->(l.map f).has (f x)=l.has x
 | nil,_=>rfl
 | thr k a b o r n,⟨h1,J,Z,h4⟩=>by
  simp only [map,has,jd G H Z,jd G H h4];cases k with
  | t=>rfl
  | p=>rfl
  | s=>simp at h1;simp [lJ G h1.1 H,lJ G h1.2 H]
  | m=>simp at h1;simp [lJ G h1.1 H,lJ G h1.2 H]
  | r=>simp at h1;simp [lJ G h1.1 H,lJ G h1.2 H]
 | sum ps n,⟨h1,J⟩=>by simp only [map,has,jd G H h1,jd G H J]
 | part o q n,⟨h1,J,Z⟩=>by simp only [map,has,jd G H J,jd G H Z]
abbrev eD (f:Nat->Nat)(r:List Nat×Lv):List Nat×Lv:=(r.1.map f,r.2.map f)
abbrev JS (D:Nat->Prop)(r:List Nat×Lv):Prop:=(∀x∈r.1,D x)/\r.2.Al D
def sO (J:∀x y,D x->D y->f x=f y->x=y){own:List Nat}{r:List Nat×Lv}(H:∀x∈own,D x)(hr:JS D r):kept (own.map f) (eD f r)=eD f (kept own r)/\JS D (kept own r):=by
 constructor
 ·unfold kept eD;refine Prod.ext ?_ rfl;simp only [<-N0,List.filter_map]
  congr 1
  refine List.filter_congr λx G=>?_
  exact jd J ((Nk.1 G).elim (H x) (hr.1 x)) hr.2
 ·refine⟨λx G=>?_,hr.2⟩;simp only [kept,List.mem_filter,Nk]at G;exact G.1.elim (H x) (hr.1 x)
def HM (ps:Lv)(n:List Nat×Lv):spl (ps.map f) (eD f n)=eD f (spl ps n):=by
 unfold spl;cases ps with
 | nil=>rfl
 | thr=>rfl
 | sum=>rfl
 | part o q m=>
  cases m<;>simp [map,eD,eO]
def JM {ps:Lv}{n:List Nat×Lv}(h:ps.Al D)(G:JS D n):JS D (spl ps n):=by
 unfold spl;split
 ·exact G
 ·exact⟨λx H=>(Nk.1 H).elim (h.1 x) (G.1 x),mU.2 ⟨h.2.1,G.2⟩⟩
 ·exact⟨G.1,h,G.2⟩
def IU (o:List Nat)(q n:Lv):prt (o.map f) (q.map f) (n.map f)=(prt o q n).map f:=by
 unfold prt;cases q with
 | nil=>rfl
 | thr=>rfl
 | part=>rfl
 | sum ps m=>
  cases m<;>simp only [map]
  by_cases h:o.isEmpty=true
  ·have G:(o.map f).isEmpty=true:=by simpa using h
   rw [NO h,NO G,eO]
  ·have G:¬(o.map f).isEmpty=true:=by simpa using h
   rw [Nt h,Nt G];simp [map]
def JN {o:List Nat}{q n:Lv}(J:∀x∈o,D x)(H:q.Al D)(G:n.Al D):(prt o q n).Al D:=by
 unfold prt;split
 ·exact G
 ·split
  ·exact mU.2 ⟨H.1,G⟩
  ·exact⟨J,H,G⟩
 ·exact⟨J,H,G⟩
def jr (G:∀x y,D x->D y->f x=f y->x=y):∀{l:Lv},l.Al D->tid (l.map f)=eD f (tid l)/\JS D (tid l)
 | nil,_=>⟨rfl,⟨λx h=>(by cases h),trivial⟩⟩
 | sum ps n,⟨h1,H⟩=>by
  obtain⟨J,a2⟩:=jr G h1;obtain⟨b1,b2⟩:=jr G H;simp only [map,tid];rw [J,b1];exact⟨HM _ _,JM a2.2 b2⟩
 | part o q n,⟨h1,H,Z⟩=>by
  obtain⟨J,a2⟩:=jr G H;obtain⟨b1,b2⟩:=jr G Z;obtain⟨c1,c2⟩:=sO G h1 a2;simp only [map,tid];rw [J,b1,c1];exact⟨Prod.ext rfl (IU _ _ _),⟨λx h=>(by cases h),JN c2.1 c2.2 b2.2⟩⟩
 | thr k a b o r n,⟨h1,H,Z,h4⟩=>by
  obtain⟨J,a2⟩:=jr G Z;obtain⟨b1,b2⟩:=jr G h4;obtain⟨c1,c2⟩:=sO G H a2;simp only [map,tid];rw [J,b1,c1];have e1:(k= .m/\(if k= .t\/k= .p then a else f a)=(if k= .t\/k= .p then b else f b))↔(k= .m/\a=b):=by
   refine and_congr_right λhk=>?_
   subst hk;simp at h1|-;exact⟨G a b h1.1 h1.2,λh=>by rw [h]⟩
  have e2:((eD f (kept o (tid r))).2.isNil)=(kept o (tid r)).2.isNil:=lz _ _;by_cases g1:k= .m/\a=b
  ·rw [NO (e1.2 g1),NO g1];exact⟨by simp [eD,eO],⟨λx hx=>(Nk.1 hx).elim (c2.1 x) (b2.1 x),mU.2 ⟨c2.2,b2.2⟩⟩⟩
  ·rw [Nt λh=>g1 (e1.1 h),Nt g1,e2];split
   ·exact⟨rfl,b2⟩
   ·exact⟨rfl,⟨b2.1,⟨h1,c2.1,c2.2,b2.2⟩⟩⟩
end
end Lv
def vH {α β:Type}(f:α->β):∀l:List α,perms (l.map f)=(perms l).map (List.map f)
 | []=>rfl
 | x::l=>by
  have hi:∀(x:α) (l:List α),ins (f x) (l.map f)=(ins x l).map (List.map f):=by
   intro x l
   induction l with
   | nil=>rfl
   | cons y l G=>simp only [NI,ins,G,Oq];rfl
  simp only [NI,perms,vH f l,Qb,List.map_flatMap]
  congr 1
  funext m
  exact hi x m
def CJ {f:Nat->Nat}{ρ ρ':Rh}{x:Nat}:∀(π:List Nat) (ls:List UInt8) (ρ ρ':Rh),(∀y∈π,f x=f y->x=y)->ρ (f x)=ρ' x->asg (π.map f) ls ρ (f x)=asg π ls ρ' x
 | [],_,_,_,_,h=>by simpa [asg]using h
 | _::_,[],_,_,_,h=>by simpa [asg]using h
 | y::π,c::ls,ρ,ρ',hi,h=>by
  rw [NI,asg,asg];refine CJ (ρ:=ρ) (ρ':=ρ') π ls _ _ (λz G=>hi z (Nh _ G)) ?_;unfold aF;by_cases e:x=y
  ·subst e;simp
  ·rw [Nt e,Nt λH=>e (hi y (NP ..) H),h]
def nE {D:Nat->Prop}{f:Nat->Nat}(hf:∀x y,D x->D y->f x=f y->x=y){own:List Nat}{F G:Rh->Tk->List Tx}{H:Nat->Prop}(ho:∀x∈own,D x)(hH:∀x,H x->D x)
  (Z:∀ρ ρ' tk,(∀x,H x->ρ (f x)=ρ' x)->F ρ tk=G ρ' tk) {ρ ρ':Rh} {tk:Tk} (h:∀x,H x->ρ (f x)=ρ' x):aP (own.map f) F ρ tk=aP own G ρ' tk:=by
 unfold aP;rw [Z ρ ρ' tk h,vH,Nq];split
 ·rfl
 ·show wrap _ (bE _)=wrap _ (bE _);rw [Oq]
  congr 2
  refine Ot λπ J=>?_
  show joinS 38 (bf (F _ _))=_;rw [Z _ (asg π (lets own.length tk) ρ') _ λx hx=>CJ (ρ:=ρ) (ρ':=ρ') π _ _ _ (λy hy e=>hf x y (hH x hx) (ho y (((cF own π).1 J).subset hy)) e) (h x hx)]
def gZ {D:Nat->Prop}{x:Nat}:∀{l:Lv},l.Al D->l.has x=true->D x
 | .nil,_,h=>by cases h
 | .thr k a b o r n,⟨h1,G,H,h4⟩,h=>by
  simp only [Lv.has,OK]at h;rcases h with(h | h) | h
  ·cases k<;>simp at h h1
   ·rcases h with rfl | rfl
    ·exact h1.1
    ·exact h1.2
   ·rcases h with rfl | rfl
    ·exact h1.1
    ·exact h1.2
   ·rcases h with rfl | rfl
    ·exact h1.1
    ·exact h1.2
  ·exact gZ H h
  ·exact gZ h4 h
 | .sum ps n,⟨h1,G⟩,h=>by
  simp only [Lv.has,OK]at h;exact h.elim (gZ h1) (gZ G)
 | .part o q n,⟨h1,G,H⟩,h=>by
  simp only [Lv.has,OK]at h;exact h.elim (gZ G) (gZ H)
def jA {D:Nat->Prop}{f:Nat->Nat}(J:∀x y,D x->D y->f x=f y->x=y):∀{l:Lv},l.Al D->∀(ρ ρ':Rh) (tk:Tk),(∀x,l.has x=true->ρ (f x)=ρ' x)->thS (l.map f) ρ tk=thS l ρ' tk
 | .nil,_,_,_,_,_=>rfl
 | .thr k a b o r n,⟨h1,Z,h3,h4⟩,ρ,ρ',tk,h=>by
  have hn:thS (n.map f) ρ tk=thS n ρ' tk:=jA J h4 ρ ρ' tk λx G=>h x (by simp [Lv.has,G])
  have H:∀x,r.has x=true->ρ (f x)=ρ' x:=λx G=>h x (by simp [Lv.has,G])
  have hl:∀ρ ρ' tk,(∀x,r.has x=true->ρ (f x)=ρ' x)->aP (o.map f) (thS (r.map f)) ρ tk=aP o (thS r) ρ' tk:=λρ ρ' tk h=>
   nE J Z (λx G=>gZ h3 G) (λρ ρ' tk=>jA J h3 ρ ρ' tk) h
  cases k with
  | s=>
   have ha:=h a (by simp [Lv.has]);have hb:=h b (by simp [Lv.has]);simp [Lv.map,thS,hn,hl ρ ρ' tk H,ha,hb]
  | m=>
   have ha:=h a (by simp [Lv.has]);have hb:=h b (by simp [Lv.has]);simp [Lv.map,thS,hn,hl ρ ρ' tk H,ha,hb]
  | t=>simp [Lv.map,thS,kText,hn,hl ρ ρ' tk H]
  | p=>simp [Lv.map,thS,kText,hn,hl ρ ρ' tk H]
  | r=>
   have ha:=h a (by simp [Lv.has]);simp at h1;have hu:∀x,r.has x=true->aF ρ (f b) (ic tk) (f x)=aF ρ' b (ic tk) x:=λx G=>by
    unfold aF;by_cases e:x=b
    ·subst e;simp
    ·rw [Nt e,Nt λh'=>e (J x b (gZ h3 G) h1.2 h')];exact H x G
   simp [Lv.map,thS,hn,hl _ _ _ hu,ha]
 | .sum ps n,⟨h1,Z⟩,ρ,ρ',tk,h=>by
  simp only [Lv.map,thS,jA J h1 ρ ρ' tk λx G=>h x (by simp [Lv.has,G]),jA J Z ρ ρ' tk λx G=>h x (by simp [Lv.has,G])]
 | .part o q n,⟨h1,Z,h3⟩,ρ,ρ',tk,h=>by
  simp only [Lv.map,thS,jA J h3 ρ ρ' tk λx G=>h x (by simp [Lv.has,G])];rw [nE J h1 (λx G=>gZ Z G) (λρ ρ' tk=>jA J Z ρ ρ' tk) λx G=>h x (by simp [Lv.has,G])]
def dY (f:Nat->Nat):∀(l:Lv) (tk:Tk),thBad (l.map f) tk=thBad l tk
 | .nil,_=>rfl
 | .thr k a b o r n,tk=>by
  have hr:thBad (r.map f)=thBad r:=funext λtk=>dY f r tk
  simp only [Lv.map,thBad,dY f n,Lv.lz,Nq,hr]
 | .sum ps n,tk=>by simp only [Lv.map,thBad,dY f n,dY f ps]
 | .part o q n,tk=>by
  have hr:thBad (q.map f)=thBad q:=funext λtk=>dY f q tk
  simp only [Lv.map,thBad,dY f n,Lv.lz,Nq,hr]
def en (f:Nat->Nat):∀l:Lv,thAll (l.map f)=thAll l
 | .nil=>rfl
 | .thr k a b o r n=>by simp only [Lv.map,thAll,en f n,en f r,Nq]
 | .sum ps n=>by simp only [Lv.map,thAll,en f n,en f ps]
 | .part o q n=>by simp only [Lv.map,thAll,en f n,en f q,Nq]
def dw (f:Nat->Nat):∀l:Lv,an (l.map f)=an l
 | .nil=>rfl
 | .thr k a b o r n=>by simp only [Lv.map,an,dw f n,dw f r,Nq]
 | .sum ps n=>by simp only [Lv.map,an,dw f n,dw f ps]
 | .part o q n=>by simp only [Lv.map,an,dw f n,dw f q,Nq]
def T.Al {A:Type}(D:A->Prop):T A->Prop
 | .nil=>True
 | .snd a b p=>D a/\D b/\p.Al D
 | .rcv a b p=>D a/\D b/\p.Al D
 | .mat a b p=>D a/\D b/\p.Al D
 | .tau p=>p.Al D
 | .rep p=>p.Al D
 | .sum p q=>p.Al D/\q.Al D
 | .par p q=>p.Al D/\q.Al D
 | .res x p=>D x/\p.Al D
def bU (f:Nat->Nat):∀u:U,flat (u.map f)=Lv.eD f (flat u)
 | .nil=>rfl
 | .snd a b p=>by simp [T.map,flat,bU f p,Lv.eD,Lv.map]
 | .rcv a b p=>by simp [T.map,flat,bU f p,Lv.eD,Lv.map]
 | .mat a b p=>by simp [T.map,flat,bU f p,Lv.eD,Lv.map]
 | .tau p=>by simp [T.map,flat,bU f p,Lv.eD,Lv.map]
 | .rep p=>by simp [T.map,flat,bU f p,Lv.eD,Lv.map]
 | .sum p q=>by simp [T.map,flat,bU f p,bU f q,Lv.eD,Lv.map]
 | .par p q=>by simp [T.map,flat,bU f p,bU f q,Lv.eD,Lv.eO]
 | .res x p=>by simp [T.map,flat,bU f p,Lv.eD]
def bG {D:Nat->Prop}:∀{u:U},u.Al D->Lv.JS D (flat u)
 | .nil,_=>⟨λx h=>(by cases h),trivial⟩
 | .snd a b p,⟨h1,G,h⟩=>⟨λx h=>(by simp [flat]at h),⟨.inr (.inr ⟨h1,G⟩),(bG h).1,(bG h).2,trivial⟩⟩
 | .rcv a b p,⟨h1,G,h⟩=>⟨λx h=>(by simp [flat]at h),⟨.inr (.inr ⟨h1,G⟩),(bG h).1,(bG h).2,trivial⟩⟩
 | .mat a b p,⟨h1,G,h⟩=>⟨λx h=>(by simp [flat]at h),⟨.inr (.inr ⟨h1,G⟩),(bG h).1,(bG h).2,trivial⟩⟩
 | .tau p,h=>⟨λx h=>(by simp [flat]at h),⟨.inl rfl,(bG (u:=p) h).1,(bG (u:=p) h).2,trivial⟩⟩
 | .rep p,h=>⟨λx h=>(by simp [flat]at h),⟨.inr (.inl rfl),(bG (u:=p) h).1,(bG (u:=p) h).2,trivial⟩⟩
 | .sum p q,⟨h1,G⟩=>⟨λx h=>(by simp [flat]at h),⟨(bG h1).1,(bG h1).2,(bG G).1,(bG G).2,trivial⟩,trivial⟩
 | .par p q,⟨h1,G⟩=>⟨λx h=>by
   simp only [flat,Nk]at h;exact h.elim ((bG h1).1 x) ((bG G).1 x),Lv.mU.2 ⟨(bG h1).2,(bG G).2⟩⟩
 | .res x p,⟨h1,h⟩=>⟨λy H=>by
   simp only [flat,Nw]at H;rcases H with rfl | H
   ·exact h1
   ·exact(bG h).1 y H,(bG h).2⟩
def E7 {D:Nat->Prop}{f:Nat->Nat}(G:∀x y,D x->D y->f x=f y->x=y){u:U}(h:u.Al D):td (u.map f)=Lv.eD f (td u)/\Lv.JS D (td u):=by
 unfold td Lv.tidy;have h1:=bG h;obtain⟨H,J⟩:=Lv.jr G h1.2;rw [bU];show Lv.kept ((flat u).1.map f) (Lv.tid ((flat u).2.map f))=_/\_;rw [H];exact Lv.sO G h1.1 J
def J2 {D:Nat->Prop}{f:Nat->Nat}(G:∀x y,D x->D y->f x=f y->x=y){u:U}(h:u.Al D)(ρ:Rh)(tk:Tk):LS (u.map f) ρ tk=LS u (λx=>ρ (f x)) tk:=by
 obtain⟨h1,H⟩:=E7 G h;unfold LS;rw [h1];exact nE G H.1 (λx J=>gZ H.2 J) (λρ ρ' tk=>jA G H.2 ρ ρ' tk) λx _=>rfl
def FC {D:Nat->Prop}{f:Nat->Nat}(G:∀x y,D x->D y->f x=f y->x=y){u:U}(h:u.Al D):cN (u.map f)=cN u/\ck (u.map f)=ck u/\aY (u.map f)=aY u:=by
 obtain⟨h1,H⟩:=E7 G h;unfold cN ck aY;rw [h1];have hr:thBad ((td u).2.map f)=thBad (td u).2:=funext λtk=>dY f _ tk
 simp [Lv.eD,Lv.lz,en,dw,hr]
def xE (Q:U->Prop)(Z:∀p q,Q (.sum p q)->Q p/\Q q)(hp:∀p q,Q (.par p q)->Q p/\Q q)(hr:∀x p,Q (.res x p)->Q p)(hm:∀a b p,Q (.mat a b p)->Q p):∀u:U,Q u->∀t∈(aj u).2,Q t:=by
 intro u
 induction u with
 | nil=>intro _ t h;simp [aj]at h
 | snd=>intro q t h;simp [aj]at h;exact h▸q
 | rcv=>intro q t h;simp [aj]at h;exact h▸q
 | tau=>intro q t h;simp [aj]at h;exact h▸q
 | sum p q H J=>
  intro G t h;simp only [aj]at h;split at h
  ·exact J (Z _ _ G).2 t h
  ·split at h
   ·exact H (Z _ _ G).1 t h
   ·simp at h;exact h▸G
 | par p q H J=>
  intro G t h;simp only [aj,Nk]at h;exact h.elim (H (hp _ _ G).1 t) (J (hp _ _ G).2 t)
 | res x p H=>intro G t h;exact H (hr _ _ G) t h
 | mat a b p H=>
  intro G t h;simp only [aj]at h;split at h
  ·exact H (hm _ _ _ G) t h
  ·split at h
   ·simp at h
   ·simp at h;exact h▸G
 | rep p H=>
  intro G t h;simp only [aj]at h;split at h
  ·simp at h
  ·simp at h;exact h▸G
def rB (Q:U->Prop)(Z:∀p q,Q (.sum p q)->Q p/\Q q)(hp:∀p q,Q (.par p q)->Q p/\Q q)(hr:∀x p,Q (.res x p)->Q p)(hm:∀a b p,Q (.mat a b p)->Q p):∀u:U,Q u->∀t∈ak u,Q t:=by
 intro u
 induction u with
 | nil=>intro _ t h;simp [ak]at h
 | snd=>intro q t h;simp [ak]at h;exact h▸q
 | rcv=>intro q t h;simp [ak]at h;exact h▸q
 | tau=>intro q t h;simp [ak]at h;exact h▸q
 | par p q H J=>
  intro G t h;simp only [ak]at h;split at h
  ·exact J (hp _ _ G).2 t h
  ·split at h
   ·exact H (hp _ _ G).1 t h
   ·simp at h;exact h▸G
 | sum p q H J=>
  intro G t h;simp only [ak,Nk]at h;exact h.elim (H (Z _ _ G).1 t) (J (Z _ _ G).2 t)
 | res x p H=>
  intro G t h;simp only [ak]at h;split at h
  ·simp at h;exact h▸G
  ·exact H (hr _ _ G) t h
 | mat a b p H=>
  intro G t h;simp only [ak]at h;split at h
  ·exact H (hm _ _ _ G) t h
  ·split at h
   ·simp at h
   ·simp at h;exact h▸G
 | rep p H=>
  intro G t h;simp only [ak]at h;split at h
  ·simp at h
  ·simp at h;exact h▸G
def Fm {u:U}(h:Uq u):∀t∈(aj u).2,Uq t:=
 xE Uq (λ _ _ h=>⟨h.dF,h.dh⟩) (λ _ _ h=>⟨h.fK,h.eV⟩) (λ _ _ h=>h.res) (λ _ _ _ h=>h.mat) u h
def wN {u:U}(h:Uq u):∀t∈ak u,Uq t:=
 rB Uq (λ _ _ h=>⟨h.dF,h.dh⟩) (λ _ _ h=>⟨h.fK,h.eV⟩) (λ _ _ h=>h.res) (λ _ _ _ h=>h.mat) u h
def Bt (u:U):∀t∈(aj u).2,t.size<=u.size:=
 xE (λt=>t.size<=u.size) (λ _ _ h=>by simp only [T.size]at h;omega) (λ _ _ h=>by simp only [T.size]at h;omega) (λ _ _ h=>by simp only [T.size]at h;omega) (λ _ _ _ h=>by simp only [T.size]at h;omega) u (Nc _)
def lv (u:U):∀t∈ak u,t.size<=u.size:=
 rB (λt=>t.size<=u.size) (λ _ _ h=>by simp only [T.size]at h;omega) (λ _ _ h=>by simp only [T.size]at h;omega) (λ _ _ h=>by simp only [T.size]at h;omega) (λ _ _ _ h=>by simp only [T.size]at h;omega) u (Nc _)
def Dd (u:U):∀t∈(aj u).2,∀x∈BV t,x∈BV u:=
 xE (λt=>∀x∈BV t,x∈BV u) (λ _ _ h=>⟨λx G=>h x (NS _ G),λx G=>h x (NG _ G)⟩)
  (λ _ _ h=>⟨λx G=>h x (NS _ G),λx G=>h x (NG _ G)⟩) (λ _ _ h=>λx G=>h x (Nh _ G)) (λ _ _ _ h=>h) u (λx h=>h)
def zv (u:U):∀t∈ak u,∀x∈BV t,x∈BV u:=
 rB (λt=>∀x∈BV t,x∈BV u) (λ _ _ h=>⟨λx G=>h x (NS _ G),λx G=>h x (NG _ G)⟩)
  (λ _ _ h=>⟨λx G=>h x (NS _ G),λx G=>h x (NG _ G)⟩) (λ _ _ h=>λx G=>h x (Nh _ G)) (λ _ _ _ h=>h) u (λx h=>h)
def lR:∀(u:U),Uq u->∀y,u.Us y↔∃t∈ak u,t.Us y:=by
 intro u
 induction u with
 | nil=>intro _ y;simp [ak,T.Us]
 | snd=>intro _ y;simp [ak]
 | rcv=>intro _ y;simp [ak]
 | tau=>intro _ y;simp [ak]
 | sum p q G H=>
  intro h y;have:(T.sum p q).Us y↔p.Us y\/q.Us y:=P2;rw [this,G h.dF y,H h.dh y];simp only [ak,Nk];constructor
  ·rintro(⟨t,h1,J⟩ | ⟨t,h1,J⟩)
   ·exact⟨t,.inl h1,J⟩
   ·exact⟨t,.inr h1,J⟩
  ·rintro⟨t,h1 | h1,J⟩
   ·exact .inl ⟨t,h1,J⟩
   ·exact .inr ⟨t,h1,J⟩
 | par p q G H=>
  intro h y;have e:(T.par p q).Us y↔p.Us y\/q.Us y:=P2;simp only [ak];split
  ·rename_i hd;rw [e,<-H h.eV y];exact⟨λk=>k.resolve_left (T.bD hd),.inr⟩
  ·split
   ·rename_i hd;rw [e,<-G h.fK y];exact⟨λk=>k.resolve_right (T.bD hd),.inl⟩
   ·simp
 | res x p G=>
  intro h y;simp only [ak];split
  ·simp
  ·rename_i Z;rw [<-G h.res y];have hn:¬p.Us x:=λk=>Z ((fH p x h.fD).2 k)
   exact⟨λk=>k.2,λk=>⟨λe=>hn (e▸k),k⟩⟩
 | mat a b p G=>
  intro h y;simp only [ak];split
  ·rename_i e;rw [<-G h.mat y];simp [T.Us,e]
  ·rename_i e;split
   ·rename_i hd;simp [T.Us,e,hd]
   ·simp
 | rep p G=>
  intro h y;simp only [ak];split
  ·rename_i hd;simp [T.Us];exact T.bD hd
  ·simp
def Lv.fh (x:Nat):Lv->Prop
 | nil=>False
 | thr k a b o r n=>((k= .s\/k= .m)/\(x=a\/x=b))\/(k= .r/\x=a)\/(x∉o/\¬(k= .r/\x=b)/\r.fh x)\/n.fh x
 | sum ps n=>ps.fh x\/n.fh x
 | part o q n=>(x∉o/\q.fh x)\/n.fh x
def xb:∀(π:List Nat) (ls:List UInt8) (ρ ρ':Rh) (x:Nat),x∈π->π.length=ls.length->asg π ls ρ x=asg π ls ρ' x
 | [],_,_,_,_,h,_=>by cases h
 | _::_,[],_,_,_,_,h=>by cases h
 | y::π,c::ls,ρ,ρ',x,h,H=>by
  rw [asg,asg];by_cases G:x∈π
  ·exact xb π ls _ _ x G (by simpa using H)
  ·have e:x=y:=(Nw.1 h).resolve_right G;subst e;exact eo π ls _ _ x (by simp [aF])
def dD {own:List Nat}{f:Rh->Tk->List Tx}{H:Nat->Prop}(he:∀ρ ρ' tk,(f ρ tk).isEmpty=(f ρ' tk).isEmpty)(Z:∀ρ ρ' tk,(∀x,H x->ρ x=ρ' x)->f ρ tk=f ρ' tk)
  {ρ ρ':Rh} {tk:Tk} (h:∀x,x∉own->H x->ρ x=ρ' x):aP own f ρ tk=aP own f ρ' tk:=by
 unfold aP;rw [he ρ ρ' tk];split
 ·rfl
 ·show wrap _ (bE _)=wrap _ (bE _)
  congr 2
  refine Ot λπ G=>?_
  have J:=(cF own π).1 G;rw [Z _ (asg π (lets own.length tk) ρ') _ λx hx=>?_];by_cases hm:x∈own
  ·exact xb π _ _ _ x (J.symm.subset hm) (by rw [fq,J.length_eq])
  ·exact eo π _ _ _ x (h x hm hx)
def gY (l:Lv)(ρ ρ':Rh)(tk:Tk):(thS l ρ tk).isEmpty=(thS l ρ' tk).isEmpty:=by
 rw [N',Qa,Qa,<-List.length_eq_zero_iff,<-List.length_eq_zero_iff,bj,bj]
def sJ:∀(l:Lv) (ρ ρ':Rh) (tk:Tk),(∀x,l.fh x->ρ x=ρ' x)->thS l ρ tk=thS l ρ' tk:=by
 intro l
 induction l with
 | nil=>intro _ _ _ _;rfl
 | thr k a b o r n J Z=>
  intro ρ ρ' tk h;have hn:thS n ρ tk=thS n ρ' tk:=Z ρ ρ' tk λx H=>h x (.inr (.inr (.inr H)))
  cases k with
  | r=>
   have ha:=h a (.inr (.inl ⟨rfl,rfl⟩));simp only [thS,ha,hn];rw [dD (ρ:=aF ρ b (ic tk)) (ρ':=aF ρ' b (ic tk)) (gY r) J λx H G=>?_];unfold aF;split
   ·rfl
   ·rename_i e;exact h x (.inr (.inr (.inl ⟨H,λhh=>e hh.2,G⟩)))
  | s=>
   have ha:=h a (.inl ⟨.inl rfl,.inl rfl⟩);have hb:=h b (.inl ⟨.inl rfl,.inr rfl⟩);simp only [thS,ha,hb,hn];rw [dD (ρ:=ρ) (ρ':=ρ') (gY r) J λx H G=>h x (.inr (.inr (.inl ⟨H,(λhh=>by cases hh.1),G⟩)))]
  | m=>
   have ha:=h a (.inl ⟨.inr rfl,.inl rfl⟩);have hb:=h b (.inl ⟨.inr rfl,.inr rfl⟩);simp only [thS,ha,hb,hn];rw [dD (ρ:=ρ) (ρ':=ρ') (gY r) J λx H G=>h x (.inr (.inr (.inl ⟨H,(λhh=>by cases hh.1),G⟩)))]
  | t=>
   simp only [thS,kText,hn];rw [dD (ρ:=ρ) (ρ':=ρ') (gY r) J λx H G=>h x (.inr (.inr (.inl ⟨H,(λhh=>by cases hh.1),G⟩)))]
  | p=>
   simp only [thS,kText,hn];rw [dD (ρ:=ρ) (ρ':=ρ') (gY r) J λx H G=>h x (.inr (.inr (.inl ⟨H,(λhh=>by cases hh.1),G⟩)))]
 | sum ps n β Z=>
  intro ρ ρ' tk h;simp only [thS,β ρ ρ' tk λx H=>h x (.inl H),Z ρ ρ' tk λx H=>h x (.inr H)]
 | part o q n γ Z=>
  intro ρ ρ' tk h;simp only [thS,Z ρ ρ' tk λx H=>h x (.inr H)];rw [dD (ρ:=ρ) (ρ':=ρ') (gY q) γ λx H G=>h x (.inl ⟨H,G⟩)]
def xU (x:Nat):∀l m:Lv,(l.app m).fh x↔l.fh x\/m.fh x
 | .nil,m=>by simp [Lv.app,Lv.fh]
 | .thr k a b o r n,m=>by simp only [Lv.app,Lv.fh,xU x n m,Qf]
 | .sum ps n,m=>by simp only [Lv.app,Lv.fh,xU x n m,Qf]
 | .part o q n,m=>by simp only [Lv.app,Lv.fh,xU x n m,Qf]
def Jx (x:Nat):∀l:List U,(tl l).fh x↔∃t∈l,(tl [t]).fh x
 | []=>by simp [tl,Lv.fh]
 | u::l=>by
  have:tl (u::l)=(tl [u]).app (tl l):=gj [u] l;rw [this,xU,Jx x l];simp
def Jo (x:Nat):∀l:List U,(tp l).fh x↔∃t∈l,x∉(td t).1/\(td t).2.fh x
 | []=>by simp [tp,Lv.fh]
 | u::l=>by simp [tp,Lv.fh,Jo x l]
def tu:∀(u:U),∀t∈(aj u).2,t.cX/\t.dead=false:=by
 intro u
 induction u with
 | nil=>intro t h;simp [aj]at h
 | snd=>intro t h;simp [aj]at h;subst h;exact⟨trivial,rfl⟩
 | rcv=>intro t h;simp [aj]at h;subst h;exact⟨trivial,rfl⟩
 | tau=>intro t h;simp [aj]at h;subst h;exact⟨trivial,rfl⟩
 | sum p q G J=>
  intro t h;simp only [aj]at h;split at h
  ·exact J t h
  ·rename_i h1;split at h
   ·exact G t h
   ·rename_i H;simp at h;subst h;simp at h1 H;exact⟨⟨h1,H⟩,by simp [T.dead,h1]⟩
 | par p q G J=>
  intro t h;simp only [aj,Nk]at h;exact h.elim (G t) (J t)
 | res x p G=>intro t h;exact G t h
 | mat a b p G=>
  intro t h;simp only [aj]at h;split at h
  ·exact G t h
  ·rename_i h1;split at h
   ·simp at h
   ·rename_i H;simp at h;subst h;simp at H;exact⟨h1,H⟩
 | rep p G=>
  intro t h;simp only [aj]at h;split at h
  ·simp at h
  ·rename_i H;simp at h;subst h;simp at H;exact⟨trivial,H⟩
def HP (u:U)(a b:Nat)(p:U)(h:T.mat a b p∈(aj u).2):a≠b/\p.dead=false:=tu u _ h
def Gl:∀(n:Nat) (u:U),u.size<=n->Uq u->∀x,(td u).2.fh x->x∉(td u).1->u.Us x:=by
 intro n
 induction n with
 | zero=>intro u h;cases u<;>simp [T.size]at h
 | succ n Z=>
  intro u hn hu x H hx;obtain⟨h1,h2,_⟩:=fF u hu;rw [h1,Jx]at H;obtain⟨t,ht,H⟩:=H;have hx:x∉(aj u).1:=λh=>hx (h2.symm.subset h)
  have hle:=Bt u t ht;have G:=Fm hu t ht;have β:=wP u t ht;have key:t.Us x:=by
   cases t with
   | nil=>cases β
   | par=>cases β
   | res=>cases β
   | snd a b p=>
    simp only [T.size]at hle;simp only [tl,Lv.fh,reduceCtorEq,false_and,true_or,PE,Qg,Qw,P4]at H;rcases H with(h | h) | ⟨h,h'⟩
    ·exact .inl h
    ·exact .inr (.inl h)
    ·exact .inr (.inr (Z p (by omega) G.snd x h' h))
   | rcv a b p=>
    simp only [T.size]at hle;simp only [tl,Lv.fh,reduceCtorEq,false_and,or_self,PE,Qg,Qw]at H;rcases H with h | ⟨h,δ,h'⟩
    ·exact .inl h
    ·exact .inr ⟨δ,Z p (by omega) G.rcv x h' h⟩
   | tau p=>
    simp only [T.size]at hle;simp only [tl,Lv.fh,reduceCtorEq,false_and,or_self,PE,Qg,Qw,P4]at H;exact Z p (by omega) G.tau x H.2 H.1
   | rep p=>
    simp only [T.size]at hle;simp only [tl,Lv.fh,reduceCtorEq,false_and,or_self,PE,Qg,Qw,P4]at H;exact Z p (by omega) G.rep x H.2 H.1
   | mat a b p=>
    simp only [T.size]at hle;obtain⟨γ,hd⟩:a≠b/\p.dead=false:=HP u a b p ht;simp only [tl,Lv.fh,reduceCtorEq,false_and,or_true,PE,Qg,Qw,P4]at H;rcases H with(h | h) | ⟨h,h'⟩
    ·exact .inr ⟨γ,hd,.inl h⟩
    ·exact .inr ⟨γ,hd,.inr (.inl h)⟩
    ·exact .inr ⟨γ,hd,.inr (.inr (Z p (by omega) G.mat x h' h))⟩
   | sum p q=>
    simp only [T.size]at hle;simp only [tl,Lv.fh,Qg]at H;rw [Jo]at H;obtain⟨v,J,k1,k2⟩:=H;rcases Nk.1 J with J | J
    ·have :=lv p v J;exact .inl ((lR p G.dF x).2 ⟨v,J,Z v (by omega) (wN G.dF v J) x k2 k1⟩)
    ·have :=lv q v J;exact .inr ((lR q G.dh x).2 ⟨v,J,Z v (by omega) (wN G.dh v J) x k2 k1⟩)
  exact(kX u hu t ht x key).resolve_right hx
def LG {u:U}(hu:Uq u){ρ ρ':Rh}(tk:Tk)(h:∀y,u.Us y->ρ y=ρ' y):LS u ρ tk=LS u ρ' tk:=
 dD (gY _) (sJ _) λx G H=>h x (Gl _ u (Nc _) hu x H G)
def z7:∀(l m:List Nat),l.Nodup->l.length=m.length->∃f:Nat->Nat,m=l.map f
 | [],[],_,_=>⟨id,rfl⟩
 | [],_::_,_,h=>by cases h
 | _::_,[],_,h=>by cases h
 | x::l,y::m,G,h=>by
  have G:=N7.1 G;obtain⟨f,H⟩:=z7 l m G.2 (by simpa using h);refine⟨aF f x y,?_⟩;rw [NI,H]
  congr 1
  ·simp [aF]
  ·exact Ot λz J=>by
    unfold aF;rw [Nt λe:z=x=>G.1 (e▸J)]
def AE.Br:∀{u Z:U} {σ J:Nat->Nat},AE σ u J Z->(BV u).length=(BV Z).length:=by
 intro u
 induction u<;>intro Z σ J h<;>cases Z<;>simp only [AE]at h<;>simp only [BV,M0,Nb]
 case snd.snd G _ _ _=>exact G h.2.2
 case mat.mat G _ _ _=>exact G h.2.2
 case rcv.rcv G _ _ _=>rw [G (h.2 0)]
 case res.res G _ _=>rw [G (h 0)]
 case tau.tau G _=>exact G h
 case rep.rep G _=>exact G h
 case sum.sum G H _ _=>rw [G h.1,H h.2]
 case par.par G H _ _=>rw [G h.1,H h.2]
def AE.J0 {f:Nat->Nat}:∀{u u':U} {σ δ:Nat->Nat},AE σ u δ u'->Uq u'->(∀y,u.Fr y->u'.Fr (f y)/\δ (f y)=σ y)->(∀y z,u'.Fr y->u'.Fr z->δ y=δ z->y=z)->BV u'=(BV u).map f->u'=u.map f:=by
 intro u
 induction u<;>intro u' σ δ h hu J hi hb<;>cases u'<;>simp only [AE]at h<;>simp only [T.map]
 case snd.snd a b p ih c d q=>
  have e1:c=f a:=hi _ _ (.inl rfl) (J a (.inl rfl)).1 (by rw [(J a (.inl rfl)).2,h.1]);have e2:d=f b:=hi _ _ (.inr (.inl rfl)) (J b (.inr (.inl rfl))).1 (by rw [(J b (.inr (.inl rfl))).2,h.2.1]);rw [<-e1,<-e2];rw [ih h.2.2 hu.snd (λy G=>?_) (λy z G hz=>hi y z (.inr (.inr G)) (.inr (.inr hz))) hb];obtain⟨H,h1,Z⟩:=h.2.2.free y G;have :=J y (.inr (.inr G));have e:H=f y:=hi _ _ (.inr (.inr h1)) this.1 (by rw [Z,this.2]);exact⟨e▸h1,this.2⟩
 case mat.mat a b p ih c d q=>
  have e1:c=f a:=hi _ _ (.inl rfl) (J a (.inl rfl)).1 (by rw [(J a (.inl rfl)).2,h.1]);have e2:d=f b:=hi _ _ (.inr (.inl rfl)) (J b (.inr (.inl rfl))).1 (by rw [(J b (.inr (.inl rfl))).2,h.2.1]);rw [<-e1,<-e2];rw [ih h.2.2 hu.mat (λy G=>?_) (λy z G hz=>hi y z (.inr (.inr G)) (.inr (.inr hz))) hb];obtain⟨H,h1,Z⟩:=h.2.2.free y G;have :=J y (.inr (.inr G));have e:H=f y:=hi _ _ (.inr (.inr h1)) this.1 (by rw [Z,this.2]);exact⟨e▸h1,this.2⟩
 case rcv.rcv a x p ih c z q=>
  simp only [BV,NI,OC]at hb;have e1:c=f a:=hi _ _ (.inl rfl) (J a (.inl rfl)).1 (by rw [(J a (.inl rfl)).2,h.1]);rw [<-e1,<-hb.1];obtain⟨v,h1,Z⟩:=bO p q σ δ;have hz:¬(T.rcv c z q).Fr z:=hu.nf z (by simp [BV]);rw [ih (h.2 v) hu.rcv (λy G=>?_) (λy H G ζ e=>?_) hb.2]
  ·obtain⟨H,k1,k2⟩:=(h.2 v).free y G;by_cases e:y=x
   ·subst e;rw [bS]at k2;have:H=z:=Oy λε=>by
     rw [bz _ _ ε]at k2;exact Z H k1 k2
    subst this;rw [<-hb.1,bS,bS];exact⟨k1,rfl⟩
   ·have β:=J y (.inr ⟨e,G⟩);have ε:f y≠z:=λe'=>hz (e'▸β.1)
    rw [bz _ _ e]at k2|-;rw [bz _ _ ε];have γ:H≠z:=λe'=>by
     rw [e',bS]at k2;exact h1 y G k2.symm
    rw [bz _ _ γ]at k2;have e2:H=f y:=hi _ _ (.inr ⟨γ,k1⟩) β.1 (by rw [k2,β.2]);exact⟨e2▸k1,β.2⟩
  ·by_cases g1:y=z<;>by_cases g2:H=z
   ·rw [g1,g2]
   ·rw [g1,bS,bz _ _ g2]at e;exact absurd e.symm (Z H ζ)
   ·rw [g2,bS,bz _ _ g1]at e;exact absurd e (Z y G)
   ·rw [bz _ _ g1,bz _ _ g2]at e;exact hi y H (.inr ⟨g1,G⟩) (.inr ⟨g2,ζ⟩) e
 case res.res x p ih z q=>
  simp only [BV,NI,OC]at hb;rw [<-hb.1];obtain⟨v,h1,Z⟩:=bO p q σ δ;have hz:¬(T.res z q).Fr z:=hu.nf z (by simp [BV]);rw [ih (h v) hu.res (λy G=>?_) (λy H G ζ e=>?_) hb.2]
  ·obtain⟨H,k1,k2⟩:=(h v).free y G;by_cases e:y=x
   ·subst e;rw [bS]at k2;have:H=z:=Oy λε=>by
     rw [bz _ _ ε]at k2;exact Z H k1 k2
    subst this;rw [<-hb.1,bS,bS];exact⟨k1,rfl⟩
   ·have β:=J y ⟨e,G⟩;have ε:f y≠z:=λe'=>hz (e'▸β.1)
    rw [bz _ _ e]at k2|-;rw [bz _ _ ε];have γ:H≠z:=λe'=>by
     rw [e',bS]at k2;exact h1 y G k2.symm
    rw [bz _ _ γ]at k2;have e2:H=f y:=hi _ _ ⟨γ,k1⟩ β.1 (by rw [k2,β.2]);exact⟨e2▸k1,β.2⟩
  ·by_cases g1:y=z<;>by_cases g2:H=z
   ·rw [g1,g2]
   ·rw [g1,bS,bz _ _ g2]at e;exact absurd e.symm (Z H ζ)
   ·rw [g2,bS,bz _ _ g1]at e;exact absurd e (Z y G)
   ·rw [bz _ _ g1,bz _ _ g2]at e;exact hi y H ⟨g1,G⟩ ⟨g2,ζ⟩ e
 case tau.tau p ih q=>rw [ih h hu.tau J hi hb]
 case rep.rep p ih q=>rw [ih h hu.rep J hi hb]
 case sum.sum p p' ih η q q'=>
  simp only [BV,N0]at hb;obtain⟨b1,b2⟩:=List.append_inj hb (by rw [Nq,h.1.Br]);rw [ih h.1 hu.dF (λy G=>?_) (λy z G hz=>hi y z (.inl G) (.inl hz)) b1,η h.2 hu.dh (λy G=>?_) (λy z G hz=>hi y z (.inr G) (.inr hz)) b2]
  ·obtain⟨H,h1,Z⟩:=h.2.free y G;have :=J y (.inr G);have e:H=f y:=hi _ _ (.inr h1) this.1 (by rw [Z,this.2]);exact⟨e▸h1,this.2⟩
  ·obtain⟨H,h1,Z⟩:=h.1.free y G;have :=J y (.inl G);have e:H=f y:=hi _ _ (.inl h1) this.1 (by rw [Z,this.2]);exact⟨e▸h1,this.2⟩
 case par.par p p' ih η q q'=>
  simp only [BV,N0]at hb;obtain⟨b1,b2⟩:=List.append_inj hb (by rw [Nq,h.1.Br]);rw [ih h.1 hu.fK (λy G=>?_) (λy z G hz=>hi y z (.inl G) (.inl hz)) b1,η h.2 hu.eV (λy G=>?_) (λy z G hz=>hi y z (.inr G) (.inr hz)) b2]
  ·obtain⟨H,h1,Z⟩:=h.2.free y G;have :=J y (.inr G);have e:H=f y:=hi _ _ (.inr h1) this.1 (by rw [Z,this.2]);exact⟨e▸h1,this.2⟩
  ·obtain⟨H,h1,Z⟩:=h.1.free y G;have :=J y (.inl G);have e:H=f y:=hi _ _ (.inl h1) this.1 (by rw [Z,this.2]);exact⟨e▸h1,this.2⟩
def T.lj {D:Nat->Prop}:∀{u:U},(∀x,u.Fr x->D x)->(∀x∈BV u,D x)->u.Al D
 | .nil,_,_=>trivial
 | .snd a b p,h,k=>⟨h a (.inl rfl),h b (.inr (.inl rfl)),T.lj (λx G=>h x (.inr (.inr G))) k⟩
 | .mat a b p,h,k=>⟨h a (.inl rfl),h b (.inr (.inl rfl)),T.lj (λx G=>h x (.inr (.inr G))) k⟩
 | .rcv a y p,h,k=>⟨h a (.inl rfl),k y (by simp [BV]),T.lj (λx G=>by
   by_cases e:x=y
   ·subst e;exact k x (by simp [BV])
   ·exact h x (.inr ⟨e,G⟩)) λx G=>k x (by simp [BV,G])⟩
 | .res y p,h,k=>⟨k y (by simp [BV]),T.lj (λx G=>by
   by_cases e:x=y
   ·subst e;exact k x (by simp [BV])
   ·exact h x ⟨e,G⟩) λx G=>k x (by simp [BV,G])⟩
 | .tau p,h,k=>T.lj (u:=p) h k
 | .rep p,h,k=>T.lj (u:=p) h k
 | .sum p q,h,k=>⟨T.lj (λx G=>h x (.inl G)) λx G=>k x (NS _ G),T.lj (λx G=>h x (.inr G)) λx G=>k x (NG _ G)⟩
 | .par p q,h,k=>⟨T.lj (λx G=>h x (.inl G)) λx G=>k x (NS _ G),T.lj (λx G=>h x (.inr G)) λx G=>k x (NG _ G)⟩
def mG {f:Nat->Nat}:∀{l:List Nat},(l.map f).Nodup->∀x∈l,∀y∈l,f x=f y->x=y
 | [],_,_,h,_,_,_=>by cases h
 | z::l,H,x,J,y,Z,e=>by
  rw [NI,N7]at H;rcases Nw.1 J with h1 | h1<;>rcases Nw.1 Z with G | G
  ·rw [h1,G]
  ·exact absurd (NT.2 ⟨y,G,by rw [<-e,h1]⟩) H.1
  ·exact absurd (NT.2 ⟨x,h1,by rw [e,G]⟩) H.1
  ·exact mG H.2 x h1 y G e
def AE.KN {u Z:U}{σ J:Nat->Nat}(h:AE σ u J Z)(hu:Uq u)(β:Uq Z)(hi:∀y z,u.Fr y->u.Fr z->σ y=σ z->y=z)(δ:∀y z,Z.Fr y->Z.Fr z->J y=J z->y=z):
  ∃(f:Nat->Nat) (D:Nat->Prop),Z=u.map f/\u.Al D/\(∀x y,D x->D y->f x=f y->x=y)/\∀y,u.Fr y->Z.Fr (f y)/\J (f y)=σ y:=by
 obtain⟨g,hg⟩:=z7 (BV u) (BV Z) hu.nd h.Br;have γ:∀y,∃y',u.Fr y->Z.Fr y'/\J y'=σ y:=λy=>by
  by_cases H:u.Fr y
  ·obtain⟨y',h1,h2⟩:=h.free y H;exact⟨y',λ _=>⟨h1,h2⟩⟩
  ·exact⟨0,λk=>absurd k H⟩
 let f:Nat->Nat:=λy=>if u.Fr y then Classical.choose (γ y)else g y
 have f1:∀y,u.Fr y->Z.Fr (f y)/\J (f y)=σ y:=λy H=>by
  have:f y=Classical.choose (γ y):=NO H;rw [this];exact Classical.choose_spec (γ y) H
 have f2:BV Z=(BV u).map f:=by
  rw [hg];exact Ot λx G=>(Nt (hu.nf x G)).symm
 refine⟨f,λx=>u.Fr x\/x∈BV u,h.J0 β f1 δ f2,T.lj (λx G=> .inl G) (λx G=> .inr G),?_,f1⟩;intro x y G H e;have hb:∀x∈BV u,f x∈BV Z:=λx G=>by rw [f2];exact OO G
 rcases G with G | G<;>rcases H with H | H
 ·exact hi x y G H (by rw [<-(f1 x G).2,<-(f1 y H).2,e])
 ·exact absurd (e▸(f1 x G).1) (β.nf _ (hb y H))
 ·exact absurd (e▸(f1 y H).1) (λk=>β.nf _ (hb x G) (by rw [e];exact(f1 y H).1))
 ·exact mG (f2▸β.nd) x G y H e
def Jq {u G:U}{σ H:Nat->Nat}(h:AE σ u H G)(hu:Uq u)(J:Uq G)(hi:∀y z,u.Fr y->u.Fr z->σ y=σ z->y=z)(Z:∀y z,G.Fr y->G.Fr z->H y=H z->y=z)
  {ρ ρ':Rh} (β:∀y y',u.Us y->G.Fr y'->σ y=H y'->ρ y=ρ' y') (tk:Tk):LS u ρ tk=LS G ρ' tk/\cN u=cN G/\ck u=ck G/\aY u=aY G:=by
 obtain⟨f,D,rfl,h1,h2,h3⟩:=h.KN hu J hi Z;obtain⟨k1,k2,k3⟩:=FC h2 h1;refine⟨?_,k1.symm,k2.symm,k3.symm⟩;rw [J2 h2 h1];exact LG hu tk λy hy=>β y (f y) hy (h3 y (T.bw hy)).1 (h3 y (T.bw hy)).2.symm
namespace T
section
variable {A B:Type}
def tg:T A->Nat
 | nil=>0 | snd .. =>1 | rcv .. =>2 | tau .. =>3 | sum .. =>4 | par .. =>5 | res .. =>6 | mat .. =>7 | rep .. =>8
def gp:T A->Bool
 | nil=>true | snd .. =>true | rcv .. =>true | tau .. =>true | sum .. =>true
 | par .. =>false | res .. =>false | mat .. =>false | rep .. =>false
def isR:T A->Bool
 | rcv .. =>true
 | _=>false
def smp:T A->Bool
 | nil=>true | snd _ _ p=>p.smp | rcv _ _ p=>p.smp | tau p=>p.smp | sum p q=>(p.gp&&q.gp)&&(p.smp&&q.smp) | par p q=>p.smp&&q.smp
 | res _ p=>p.smp | mat _ _ p=>p.smp | rep p=>p.isR&&p.smp
def zV {t:T A}:t.gp=decide (t.tg< 5):=by cases t<;>rfl
def EH {t:T A}:t.isS=decide (t.tg=4):=by cases t<;>rfl
def yh {t:T A}:t.isR=decide (t.tg=2):=by cases t<;>rfl
def ET [DecidableEq A][DecidableEq B]{p:T A}{q:T B}{ρ:A->Nat}{σ:B->Nat}(h:AE ρ p σ q):p.tg=q.tg:=by
 cases p<;>cases q<;>first | exact h.elim | rfl
def yf [DecidableEq A][DecidableEq B]{p:T A}{q:T B}{ρ:A->Nat}{σ:B->Nat}(h:AE ρ p σ q):p.smp=q.smp:=by
 induction p generalizing q ρ σ<;>cases q<;>simp only [AE]at h<;>simp only [smp]
 case snd.snd G _ _ _=>exact G h.2.2
 case mat.mat G _ _ _=>exact G h.2.2
 case rcv.rcv G _ _ _=>exact G (h.2 0)
 case res.res G _ _=>exact G (h 0)
 case tau.tau G _=>exact G h
 case rep.rep G _=>rw [G h,yh,yh,ET h]
 case sum.sum G H _ _=>rw [G h.1,H h.2,zV,zV,zV,zV,ET h.1,ET h.2]
 case par.par G H _ _=>rw [G h.1,H h.2]
end
end T
structure Mh (t w:U):Prop where
 th:w.th=true
 nr:w.Nr
 uq:Uq w
 bv:∀x∈BV w,x∈BV t
 us:∀x,w.Us x↔t.Us x
 tx:∀ρ tk,thU w ρ tk=thU t ρ tk
 bad:∀tk,thBad (tl [w]) tk=thBad (tl [t]) tk
 all:thAll (tl [w])=thAll (tl [t])
 most:an (tl [w])=an (tl [t])
 smp:t.smp=true->w.smp=true
 tg:w.tg=t.tg
structure MG (u v:U):Prop where
 nr:v.Nr
 uq:Uq v
 bv:∀x∈BV v,x∈BV u
 us:∀x,v.Us x↔u.Us x
 ls:∀ρ tk,LS v ρ tk=LS u ρ tk
 bad:∀tk,cN v tk=cN u tk
 all:ck v=ck u
 most:aY v=aY u
 dead:v.dead=u.dead
 smp:u.smp=true->v.smp=true
 tg:∀t,aj u=([],[t])->v.tg=t.tg
 isS:(∀p q,aj u≠([],[T.sum p q]))->v.isS=false
def qo {t w:U}(G:(BV w).Nodup)(nr:w.Nr)(hb:∀x∈BV w,x∈BV t)(hu:∀x,w.Us x->t.Us x)(H:Uq t):Uq w:=
 ⟨G,λx J Z=>H.nf x (hb x J) (T.bw (hu x (nr.gW Z)))⟩
def AE.JD {p:P}{q:U}{ρ:Rh}{y:Nat}{c:UInt8}(G:∀z,q.Fr z->z≠y->ρ z≠c)(h:AE UInt8.toNat p (λz=>(aF ρ y c z).toNat) q)(v:Nat):AE (aF UInt8.toNat c v) p (aF (λz=>(ρ z).toNat) y v) q:=by
 refine(h.map λn=>if n=c.toNat then v else n).congr (λx _=>?_) λz H=>?_
 ·unfold aF;by_cases e:x=c
  ·subst e;simp
  ·rw [Nt e,Nt λh=>e (NK.1 h)]
 ·unfold aF;by_cases e:z=y
  ·subst e;simp
  ·simp only [Nt e];rw [Nt λh=>G z H e (NK.1 h)]
def bn:∀(π:List Nat) (ls:List UInt8) (ρ:Rh) (x:Nat),x∉π->asg π ls ρ x=ρ x
 | [],_,_,_,_=>by simp [asg]
 | _::_,[],_,_,_=>by simp [asg]
 | y::π,c::ls,ρ,x,h=>by
  simp only [Nw,Qt]at h;rw [asg,bn π ls _ x h.2];unfold aF;rw [Nt h.1]
def df:∀(π:List Nat) (ls:List UInt8) (ρ:Rh) (x:Nat),x∈π->π.length=ls.length->asg π ls ρ x∈ls
 | [],_,_,_,h,_=>by cases h
 | _::_,[],_,_,_,h=>by cases h
 | y::π,c::ls,ρ,x,h,H=>by
  rw [asg];by_cases G:x∈π
  ·exact Nh _ (df π ls _ x G (by simpa using H))
  ·have e:x=y:=(Nw.1 h).resolve_right G;subst e;rw [bn π ls _ x G];simp [aF]
def qZ:∀(π:List Nat) (ls:List UInt8) (ρ:Rh) (x z:Nat),x∈π->z∈π->π.length=ls.length->ls.Nodup->asg π ls ρ x=asg π ls ρ z->x=z
 | [],_,_,_,_,h,_,_,_,_=>by cases h
 | _::_,[],_,_,_,_,_,h,_,_=>by cases h
 | y::π,c::ls,ρ,x,z,hx,hz,J,G,e=>by
  have G:=N7.1 G;have Z:π.length=ls.length:=by simpa using J
  rw [asg]at e;by_cases h1:x∈π<;>by_cases H:z∈π
  ·exact qZ π ls _ x z h1 H Z G.2 e
  ·have e2:z=y:=(Nw.1 hz).resolve_right H;subst e2;rw [bn π ls _ z H]at e;have :=df π ls (aF ρ z c) x h1 (by simpa using J);rw [e]at this;exact absurd (by simpa [aF]using this) G.1
  ·have e2:x=y:=(Nw.1 hx).resolve_right h1;subst e2;rw [bn π ls _ x h1]at e;have :=df π ls (aF ρ x c) z H (by simpa using J);rw [<-e]at this;exact absurd (by simpa [aF]using this) G.1
  ·rw [(Nw.1 hx).resolve_right h1,(Nw.1 hz).resolve_right H]
def AE.FV {p:P}{q:U}:∀(π:List Nat) (ls:List UInt8) (ρ:Rh),π.length=ls.length->ls.Nodup->(∀z,q.Fr z->z∉π->ρ z∉ls)->AE UInt8.toNat p (λz=>(asg π ls ρ z).toNat) q->
  AE UInt8.toNat (T.resL ls p) (λz=>(ρ z).toNat) (T.resL π q)
 | [],[],_,_,_,_,h=>h
 | [],_::_,_,h,_,_,_=>by cases h
 | _::_,[],_,h,_,_,_=>by cases h
 | y::π,c::ls,ρ,hl,H,Z,h=>by
  have H:=N7.1 H;have ih:=AE.FV π ls (aF ρ y c) (by simpa using hl) H.2 (λz G hm=>by
   unfold aF;split
   ·exact H.1
   ·rename_i e;exact λJ=>Z z G (by simp [e,hm]) (Nh _ J)) h
  intro v;refine AE.JD (λz G e=>?_) ih v;have G:=T.eQ.1 G;exact λJ=>Z z G.2 (by simp [e,G.1]) (by rw [J];exact NP ..)
def Cb (a b:UInt8)(r:Tx):kText .m a b r=kText .m b a r:=by
 unfold kText;by_cases h1:b< a
 ·have G:¬a< b:=λh=>by
   rw [N1]at h h1;omega
  simp [h1,G]
 ·by_cases G:a< b
  ·simp [h1,G]
  ·have:a=b:=by
    apply NK.1;rw [N1]at h1 G;omega
   subst this;rfl
def zb {α:Type}{f:α->Bool}{l m:List α}(h:l.Perm m):l.any f=m.any f:=by
 rw [N',O7,O7];exact⟨fun⟨x,h1,G⟩=>⟨x,h.subset h1,G⟩,fun⟨x,h1,G⟩=>⟨x,h.symm.subset h1,G⟩⟩
def iB {l m:List Nat}(h:l.Perm m):l.sum=m.sum:=by
 induction h with
 | nil=>rfl
 | cons x _ G=>simp [G]
 | swap x y l=>simp;omega
 | trans _ _ h1 H=>exact h1.trans H
def triples {α β γ:Type}{R:α->β->γ->Prop}:∀{l:List α},(∀a∈l,∃b c,R a b c)->∃zs:List (α×β×γ),zs.map (·.1)=l/\∀z∈zs,R z.1 z.2.1 z.2.2
 | [],_=>⟨[],rfl,λz h=>by cases h⟩
 | a::l,h=>by
  obtain⟨b,c,hr⟩:=h a (NP ..);obtain⟨zs,h1,H⟩:=triples (l:=l) λa ha=>h a (Nh _ ha)
  refine⟨(a,b,c)::zs,by simp [h1],λz G=>?_⟩;rcases Nw.1 G with rfl | G
  ·exact hr
  ·exact H z G
def vV {α:Type}(zs:List α)(g:α->Tx):∃G:List α,G.Perm zs/\G.map g=bf (zs.map g):=by
 refine⟨zs.mergeSort λa b=>iS (g a) (g b),List.mergeSort_perm _ _,?_⟩
 symm
 refine sX ?_ ((List.mergeSort_perm _ _).map g);have :=List.pairwise_mergeSort (le:=λa b:α=>iS (g a) (g b)) (λa b c=>fU _ _ _) (λa b=>pR _ _) zs;exact List.pairwise_map.2 this
def dK (p:U):∀l:List Nat,BV (T.resL l p)=l++BV p
 | []=>rfl
 | x::l=>by simp only [T.resL,BV,dK p l,N6]
def dJ:∀l:List U,BV (T.parL l)=l.flatMap BV
 | []=>rfl
 | [t]=>by simp [T.parL]
 | t::u::l=>by simp only [T.parL,BV,dJ (u::l),Ob]
def xg:∀l:List U,BV (T.cY l)=l.flatMap BV
 | []=>rfl
 | [t]=>by simp [T.cY]
 | t::u::l=>by simp only [T.cY,BV,xg (u::l),Ob]
def pD {α:Type}{f g:α->List Nat}:∀{l:List α},(l.flatMap f).Nodup->(∀z∈l,(g z).Nodup/\∀x∈g z,x∈f z)->(l.flatMap g).Nodup
 | [],_,_=>OG
 | z::l,G,h=>by
  rw [Ob]at G|-;have G:=NU.1 G;refine NU.2 ⟨(h z (NP ..)).1,pD G.2.1 λy H=>h y (Nh _ H),λa ha b hb=>?_⟩;obtain⟨y,H,J⟩:=Oo.1 hb;exact G.2.2 a ((h z (NP ..)).2 a ha) b (Oo.2 ⟨y,H,(h y (Nh _ H)).2 b J⟩)
def Hs:∀u:U,Uq u->((ak u).flatMap BV).Nodup:=by
 intro u;have sub:∀u:U,∀x∈(ak u).flatMap BV,x∈BV u:=λu x J=>by
  obtain⟨t,h1,Z⟩:=Oo.1 J;exact zv u t h1 x Z
 induction u with
 | nil=>intro _;simp [ak]
 | snd a b p G=>intro h;simpa [ak]using h.nd
 | rcv a b p G=>intro h;simpa [ak]using h.nd
 | tau p G=>intro h;simpa [ak]using h.nd
 | sum p q G H=>
  intro h;simp only [ak,OH];exact NU.2 ⟨G h.dF,H h.dh,λa ha b hb=>(NU.1 h.nd).2.2 a (sub p a ha) b (sub q b hb)⟩
 | par p q G H=>
  intro h;simp only [ak];split
  ·exact H h.eV
  ·split
   ·exact G h.fK
   ·simpa using h.nd
 | res x p G=>
  intro h;simp only [ak];split
  ·simpa using h.nd
  ·exact G h.res
 | mat a b p G=>
  intro h;simp only [ak];split
  ·exact G h.mat
  ·split
   ·simp
   ·simpa using h.nd
 | rep p G=>
  intro h;simp only [ak];split
  ·simp
  ·simpa using h.nd
def Hx:∀u:U,Uq u->((aj u).1++(aj u).2.flatMap BV).Nodup:=by
 intro u;have sub:∀u:U,∀x∈(aj u).1++(aj u).2.flatMap BV,x∈BV u:=λu x H=>by
  rcases Nk.1 H with H | H
  ·exact ig u x H
  ·obtain⟨t,h1,Z⟩:=Oo.1 H;exact Dd u t h1 x Z
 induction u with
 | nil=>intro _;simp [aj]
 | snd a b p G=>intro h;simpa [aj]using h.nd
 | rcv a b p G=>intro h;simpa [aj]using h.nd
 | tau p G=>intro h;simpa [aj]using h.nd
 | sum p q G J=>
  intro h;simp only [aj];split
  ·exact J h.dh
  ·split
   ·exact G h.dF
   ·simpa using h.nd
 | par p q G J=>
  intro h;have hp:(((aj p).1++(aj q).1)++((aj p).2++(aj q).2).flatMap BV).Perm (((aj p).1++(aj p).2.flatMap BV)++((aj q).1++(aj q).2.flatMap BV)):=by
   rw [OH];exact sf _ _ _ _
  simp only [aj];rw [hp.nodup_iff];exact NU.2 ⟨G h.fK,J h.eV,λa ha b hb=>(NU.1 h.nd).2.2 a (sub p a ha) b (sub q b hb)⟩
 | res x p G=>
  intro h;simp only [aj];split
  ·exact N7.2 ⟨λH=>h.fD (sub p x H),G h.res⟩
  ·exact G h.res
 | mat a b p G=>
  intro h;simp only [aj];split
  ·exact G h.mat
  ·split
   ·simp
   ·simpa using h.nd
 | rep p G=>
  intro h;simp only [aj];split
  ·simp
  ·simpa using h.nd
def xj {u:U}(h:u.dead=false)(hu:Uq u):(aj u).2≠[]:=λe=>by
 have h1:=(fF u hu).1;rw [e]at h1;have :=(j9 u).1 h;rw [h1]at this;exact this rfl
def IA {u:U}(hu:Uq u)(h:(aj u).2=[]):u.dead=true:=by
 cases hd:u.dead with
 | true=>rfl
 | false=>exact absurd h (xj hd hu)
def oO {u:U}(h:u.dead=false)(hu:Uq u):ak u≠[]:=λe=>by
 have h1:=(fF u hu).2.2;rw [e]at h1;have :=(bF u).2.1;rw [h1]at this;rw [this.1 rfl]at h;cases h
def Dv:∀u:U,Uq u->∀t∈ak u,∀p q,aj t≠([],[T.sum p q]):=by
 intro u
 induction u with
 | nil=>intro _ t h;simp [ak]at h
 | snd=>intro _ t h;simp [ak]at h;subst h;intro p q e;simp [aj]at e
 | rcv=>intro _ t h;simp [ak]at h;subst h;intro p q e;simp [aj]at e
 | tau=>intro _ t h;simp [ak]at h;subst h;intro p q e;simp [aj]at e
 | sum p q G H=>
  intro hu t h;simp only [ak,Nk]at h;exact h.elim (G hu.dF t) (H hu.dh t)
 | par p q G H=>
  intro hu t h;simp only [ak]at h;split at h
  ·exact H hu.eV t h
  ·rename_i h1;split at h
   ·exact G hu.fK t h
   ·rename_i J;simp at h;subst h;intro p' q' e;have Z:=N9 Prod.snd e;simp only [aj]at Z;have l1:(aj p).2.length≠0:=λe=>xj (by simpa using h1) hu.fK (NF e)
    have l2:(aj q).2.length≠0:=λe=>xj (by simpa using J) hu.eV (NF e)
    have :=N9 List.length Z;simp only [Nb,M0,Np]at this;omega
 | res x p G=>
  intro hu t h;simp only [ak]at h;split at h
  ·rename_i h1;simp at h;subst h;intro p' q' e;have Z:=N9 Prod.fst e;simp [aj,h1]at Z
  ·exact G hu.res t h
 | mat a b p G=>
  intro hu t h;simp only [ak]at h;split at h
  ·exact G hu.mat t h
  ·rename_i h1;split at h
   ·simp at h
   ·rename_i J;simp at h;subst h;intro p' q' e;simp [aj,h1,J]at e
 | rep p G=>
  intro hu t h;simp only [ak]at h;split at h
  ·simp at h
  ·rename_i J;simp at h;subst h;intro p' q' e;simp [aj,J]at e
def Eh:∀(u:U),∀t∈ak u,t.dead=false:=by
 intro u
 induction u with
 | nil=>intro t h;simp [ak]at h
 | snd=>intro t h;simp [ak]at h;subst h;rfl
 | rcv=>intro t h;simp [ak]at h;subst h;rfl
 | tau=>intro t h;simp [ak]at h;subst h;rfl
 | sum p q G H=>intro t h;simp only [ak,Nk]at h;exact h.elim (G t) (H t)
 | par p q G H=>
  intro t h;simp only [ak]at h;split at h
  ·exact H t h
  ·rename_i h1;split at h
   ·exact G t h
   ·simp at h;subst h;simp at h1;simp [T.dead,h1]
 | res x p G=>
  intro t h;simp only [ak]at h;split at h
  ·rename_i h1;simp at h;subst h;cases hd:p.dead with
   | false=>exact hd
   | true=>rw [lP hd]at h1;cases h1
  ·exact G t h
 | mat a b p G=>
  intro t h;simp only [ak]at h;split at h
  ·exact G t h
  ·split at h
   ·simp at h
   ·rename_i J;simp at h;subst h;simp at J;exact J
 | rep p G=>
  intro t h;simp only [ak]at h;split at h
  ·simp at h
  ·rename_i J;simp at h;subst h;simp at J;exact J
def yg:∀u:U,u.gp=true->u.smp=true->∀t∈ak u,(t.tg=1\/t.tg=2\/t.tg=3)/\aj t=([],[t])
 | .nil,_,_,t,h=>by simp [ak]at h
 | .snd ..,_,_,t,h=>by simp [ak]at h;subst h;exact⟨.inl rfl,rfl⟩
 | .rcv ..,_,_,t,h=>by simp [ak]at h;subst h;exact⟨.inr (.inl rfl),rfl⟩
 | .tau ..,_,_,t,h=>by simp [ak]at h;subst h;exact⟨.inr (.inr rfl),rfl⟩
 | .sum p q,_,G,t,h=>by
  simp only [T.smp,M8]at G;simp only [ak,Nk]at h;exact h.elim (yg p G.1.1 G.2.1 t) (yg q G.1.2 G.2.2 t)
 | .par ..,h,_,_,_=>by cases h
 | .res ..,h,_,_,_=>by cases h
 | .mat ..,h,_,_,_=>by cases h
 | .rep ..,h,_,_,_=>by cases h
def AJ {l:List U}(h:∀t∈l,t.smp=true):(T.parL l).smp=true:=by
 induction l with
 | nil=>rfl
 | cons t l G=>
  cases l with
  | nil=>exact h t (by simp)
  | cons u l=>
   simp only [T.parL,T.smp,M8];exact⟨h t (by simp),G λt H=>h t (Nh _ H)⟩
def Aq {p:U}(l:List Nat):(T.resL l p).smp=p.smp:=by
 induction l with
 | nil=>rfl
 | cons x l G=>exact G
def G3 {l:List U}(H:l≠[])(h:∀t∈l,t.smp=true/\t.gp=true):(T.cY l).smp=true/\(T.cY l).gp=true:=by
 induction l with
 | nil=>exact absurd rfl H
 | cons t l J=>
  cases l with
  | nil=>exact h t (by simp)
  | cons u l=>
   obtain⟨h1,Z⟩:=J (by simp) λt G=>h t (Nh _ G)
   have G:=h t (by simp);simp only [T.cY,T.smp,M8];exact⟨⟨⟨G.2,Z⟩,G.1,h1⟩,rfl⟩
def F7 (u:U)(h:u.smp=true):∀t∈ak u,t.smp=true:=
 rB (λt=>t.smp=true) (λp q h=>by simp only [T.smp,M8]at h;exact h.2) (λp q h=>by simpa only [T.smp,M8]using h) (λ _ _ h=>h) (λ _ _ _ h=>h) u h
def Hw (u:U)(h:u.smp=true):∀t∈(aj u).2,t.smp=true:=
 xE (λt=>t.smp=true) (λp q h=>by simp only [T.smp,M8]at h;exact h.2) (λp q h=>by simpa only [T.smp,M8]using h) (λ _ _ h=>h) (λ _ _ _ h=>h) u h
def AE.cY {ρ:UInt8->Nat}{σ:Nat->Nat}:∀{l:List (U×P×U)},(∀z∈l,AE ρ z.2.1 σ z.2.2)->AE ρ (T.cY (l.map (·.2.1))) σ (T.cY (l.map (·.2.2)))
 | [],_=>trivial
 | [z],h=>h z (by simp)
 | z::y::l,h=>⟨h z (by simp),AE.cY (l:=y::l) λt G=>h t (Nh _ G)⟩
def AE.parL {ρ:UInt8->Nat}{σ:Nat->Nat}:∀{l:List (U×P×U)},(∀z∈l,AE ρ z.2.1 σ z.2.2)->AE ρ (T.parL (l.map (·.2.1))) σ (T.parL (l.map (·.2.2)))
 | [],_=>trivial
 | [z],h=>h z (by simp)
 | z::y::l,h=>⟨h z (by simp),AE.parL (l:=y::l) λt G=>h t (Nh _ G)⟩
def CP {D:UInt8->Prop}:∀{l:List P},(∀t∈l,t.Al D)->(T.cY l).Al D
 | [],_=>trivial
 | [z],h=>h z (by simp)
 | z::y::l,h=>⟨h z (by simp),CP (l:=y::l) λt G=>h t (Nh _ G)⟩
def Dt {D:UInt8->Prop}:∀{l:List P},(∀t∈l,t.Al D)->(T.parL l).Al D
 | [],_=>trivial
 | [z],h=>h z (by simp)
 | z::y::l,h=>⟨h z (by simp),Dt (l:=y::l) λt G=>h t (Nh _ G)⟩
def C4 {D:UInt8->Prop}{p:P}(G:p.Al D):∀{l:List UInt8},(∀c∈l,D c)->(T.resL l p).Al D
 | [],_=>G
 | c::l,h=>⟨h c (by simp),C4 G (l:=l) λt H=>h t (Nh _ H)⟩
def eP {w:U}(h:w.isS=true)(ρ:Rh)(tk:Tk):thU w ρ tk=joinS 43 (bf ((ak w).map λu=>LS u ρ tk))/\tl [w]= .sum (tp (ak w)) .nil:=by
 cases w<;>first | (cases h;done) | exact⟨rfl,rfl⟩
def Dr {a b:Nat}(h:∀n,a<=n↔b<=n):a=b:=by
 have h1:=(h a).1 (Nc _);have G:=(h b).2 (Nc _);omega
end
def xL.sub {k m:Nat}{Θ:Tx}{σ:Nat->Nat}{u v:U}(h:xL k Θ σ u)(hk:k<=m)(H:∀y,v.Us y->u.Us y):xL m Θ σ v:=
 ⟨h.srt,λc G=>⟨(h.okn c G).1.mono hk,(h.okn c G).2⟩,λy J=>h.cov y (H y J)⟩
def Compat.sub {ρ:Rh}{σ:Nat->Nat}{u v:U}(h:Compat ρ σ u)(G:∀y,v.Us y->u.Us y):Compat ρ σ v:=λy H=>h y (G y H)
def iY {c:UInt8}(h:nm c=true):¬c=35:=(tj h).2.2.2.1
def a6 {c:UInt8}(h:¬c=35)(l:Tx):(c::l).count 35=l.count 35:=by
 rw [List.count_cons];simp [h]
def TR.snd {on:Bool}{a b:Nat}{p:U}{σ:Nat->Nat}{Θ r:Tx}{x y:UInt8}(Z:nm x=true)(G:nm y=true)(ex:x.toNat=σ a)(ey:y.toNat=σ b)(h:WR on p σ Θ r):TR on (.snd a b p) σ Θ (x::33::y::46::r):=by
 refine⟨by simp,?_,λhm=>?_,λhm H hb=>?_,λhm H hb ρ J=>?_⟩
 ·have :=h.len;simp only [M0,T.aN];omega
 ·rw [eh]at hm;rw [a6 (iY Z),a6 (by decide),a6 (iY G),a6 (by decide),h.cnt hm,pE]
 ·rw [eh]at hm;rw [iE]at hb;obtain⟨c,h1,h2⟩:=h.bad hm H hb;exact⟨c,by simp [h1],h2⟩
 ·rw [eh]at hm;rw [iE]at hb;have e1:ρ a=x:=NK.1 ((J a (.inl rfl)).trans ex.symm);have e2:ρ b=y:=NK.1 ((J b (.inr (.inl rfl))).trans ey.symm);simp only [thU,kText,e1,e2];rw [h.eq hm H hb ρ (J.sub λy G=> .inr (.inr G))]
def TR.tau {on:Bool}{p:U}{σ:Nat->Nat}{Θ r:Tx}(h:WR on p σ Θ r):TR on (.tau p) σ Θ (126::46::r):=by
 refine⟨by simp,?_,λhm=>?_,λhm G hb=>?_,λhm G hb ρ H=>?_⟩
 ·have :=h.len;simp only [M0,T.aN];omega
 ·rw [eM]at hm;rw [a6 (by decide),a6 (by decide),h.cnt hm,pO]
 ·rw [eM]at hm;rw [iM]at hb;obtain⟨c,h1,J⟩:=h.bad hm G hb;exact⟨c,by simp [h1],J⟩
 ·rw [eM]at hm;rw [iM]at hb;simp only [thU,kText];rw [h.eq hm G hb ρ H]
def TR.rep {on:Bool}{p:U}{σ:Nat->Nat}{Θ r:Tx}(h:WR on p σ Θ r):TR on (.rep p) σ Θ (42::r):=by
 refine⟨by simp,?_,λhm=>?_,λhm G hb=>?_,λhm G hb ρ H=>?_⟩
 ·have :=h.len;simp only [M0,T.aN];omega
 ·rw [eA]at hm;rw [a6 (by decide),h.cnt hm,pT]
 ·rw [eA]at hm;rw [im]at hb;obtain⟨c,h1,J⟩:=h.bad hm G hb;exact⟨c,by simp [h1],J⟩
 ·rw [eA]at hm;rw [im]at hb;simp only [thU,kText];rw [h.eq hm G hb ρ H]
def TR.mat {on:Bool}{a b:Nat}{p:U}{σ:Nat->Nat}{Θ r:Tx}{x y:UInt8}(G:a≠b)(hd:p.dead=false)(hx:nm x=true)(hy:nm y=true)(ex:x.toNat=σ a)(ey:y.toNat=σ b)(h:WR on p σ Θ r):
  TR on (.mat a b p) σ Θ (91::(if y< x then y else x)::61::(if y< x then x else y)::93::r):=by
 have H:¬(if y< x then y else x)=35:=by split<;>exact iY (by assumption)
 have J:¬(if y< x then x else y)=35:=by split<;>exact iY (by assumption)
 refine⟨by simp,?_,λhm=>?_,λhm Z hb=>?_,λhm Z hb ρ hc=>?_⟩
 ·have :=h.len;simp only [M0,T.aN];omega
 ·rw [cM]at hm;rw [a6 (by decide),a6 H,a6 (by decide),a6 J,a6 (by decide),h.cnt hm,iP]
 ·rw [cM]at hm;rw [eC]at hb;obtain⟨c,h1,h2⟩:=h.bad hm Z hb;exact⟨c,by simp [h1],h2⟩
 ·rw [cM]at hm;rw [eC]at hb;have e1:ρ a=x:=NK.1 ((hc a (.inr ⟨G,hd,.inl rfl⟩)).trans ex.symm);have e2:ρ b=y:=NK.1 ((hc b (.inr ⟨G,hd,.inr (.inl rfl)⟩)).trans ey.symm);simp only [thU,kText,e1,e2];rw [h.eq hm Z hb ρ (hc.sub λy hy=> .inr ⟨G,hd,.inr (.inr hy)⟩)]
structure zP (k:Nat)(Θ:Tx)(c:UInt8):Prop where
 nin:c∉Θ
 okn:okn (k+1) c
 ngr:ngr c
 nm:nm c=true
 bad:(uH (cy Θ)).isNone=true->128<=c
 good:(uH (cy Θ)).isNone=false->c=ic (cy Θ)
def GH {c:UInt8}(h:lt c=true):nm c=true/\ngr c/\∀k,okn k c:=by
 refine⟨?_,?_,λk=>mQ h⟩
 ·simp only [lt,nm]at*;rw [h];rfl
 ·simp only [lt,M8,Nj]at h;have h1:=NA.1 h.1;have J:=NA.1 h.2;have H:(97:UInt8).toNat=97:=rfl;have G:(122:UInt8).toNat=122:=rfl;right;omega
def zP.of {k:Nat}{Θ:Tx}{c:UInt8}(hk:k+1<=64)(ht:∀c∈Θ,Proofs.YthekamjhgabkjaaGreat.okn k c/\Proofs.YthekamjhgabkjaaGreat.ngr c)(h:rQ Θ c):zP k Θ c:=by
 rcases h with h | ⟨h,h1,h2,h3,h4⟩
 ·obtain⟨k1,k2,k3⟩:=Ag h;obtain⟨f1,f2,f3⟩:=GH k2;have Z:uH (cy Θ)=some c:=h;exact⟨by simpa [cy]using k1,f3 _,f2,f1,λH=>(by rw [Z]at H;cases H),λ _=>(by simp [ic,Z])⟩
 ·have Z:uH (cy Θ)=none:=h;have b1:=NA.1 h1;have b2:=NA.1 h2;have β:(128:UInt8).toNat=128:=rfl;have γ:(191:UInt8).toNat=191:=rfl;have hle:c.toNat<=128+k:=by
   refine Oy λhc=>?_
   have e:(UInt8.ofNat (128+k)).toNat=128+k:=by rw [Om];omega
   have G:=h3 (UInt8.ofNat (128+k)) (NA.2 (by omega)) (N1.2 (by omega));rcases(ht _ G).1 with h | h<;>omega
  have J:c∉Θ:=by
   rcases h4 with h4 | h4
   ·exact h4
   ·intro G;have:c.toNat=191:=by rw [h4];rfl
    rcases(ht _ G).1 with h | h<;>omega
  refine⟨J,.inl (by omega),.inr (by omega),?_,λ _=>h1,λH=>by rw [Z]at H;cases H⟩;simp only [Proofs.YthekamjhgabkjaaGreat.nm,OK,Nj];exact .inr h1
def sN {Θ G:Tx}{c:UInt8}(h:∀x,x∈G↔x=c\/x∈Θ):cy G=cA (cy Θ) c:=by
 funext d
 unfold cy cA;rw [N'];simp only [Nj,OK,PI,h];exact or_comm
def TR.rcv {on:Bool}{k a n:Nat}{p:U}{σ:Nat->Nat}{Θ G r:Tx}{x c:UInt8}(hx:nm x=true)(ex:x.toNat=σ a)(Z:zP k Θ c)(hT:∀x,x∈G↔x=c\/x∈Θ)(h:WR on p (aF σ n c.toNat) G r):
  TR on (.rcv a n p) σ Θ (x::63::c::46::r):=by
 refine⟨by simp,?_,λhm=>?_,λhm ho hb=>?_,λhm ho hb ρ H=>?_⟩
 ·have :=h.len;simp only [M0,T.aN];omega
 ·rw [eF]at hm;rw [a6 (iY hx),a6 (by decide),a6 (iY Z.nm),a6 (by decide),h.cnt hm,pd]
 ·rw [eF]at hm;rw [iF,OK]at hb;cases hn:(uH (cy Θ)).isNone with
  | true=>exact⟨c,by simp,Z.bad hn⟩
  | false=>
   rw [hn]at hb;have hb:=hb.resolve_left (by simp);rw [<-Z.good hn,<-sN hT]at hb;obtain⟨c,h1,h2⟩:=h.bad hm ho hb;exact⟨c,by simp [h1],h2⟩
 ·rw [eF]at hm;rw [iF,Oz]at hb;have e1:ρ a=x:=NK.1 ((H a (.inl rfl)).trans ex.symm);have e2:=Z.good hb.1;have J:=hb.2;rw [<-e2,<-sN hT]at J;simp only [thU,kText,e1,<-e2];rw [<-sN hT,<-h.eq hm ho J (aF ρ n c) λy hy=>?_];unfold aF;by_cases e:y=n
  ·simp [e]
  ·simp only [Nt e];exact H y (.inr ⟨e,hy⟩)
def nh (c:UInt8):∀l:List Tx,l≠[]->(joinS c l).length+3=cZ l
 | [],h=>absurd rfl h
 | [s],_=>by simp [joinS,cZ]
 | s::t::l,_=>by
  have :=nh c (t::l) (by simp);rw [eu (by simp),dy];simp only [M0,Nb,Np];omega
def kF {c:UInt8}(G:¬c=35):∀l:List Tx,(joinS c l).count 35=(l.map (List.count 35)).sum
 | []=>rfl
 | [s]=>by simp [joinS]
 | s::t::l=>by
  have :=kF G (t::l);rw [eu (by simp),a6 (by decide),N3,a6 G,N3,this];simp
def pG {c d:UInt8}{s:Tx}:∀{l:List Tx},s∈l->d∈s->d∈joinS c l
 | [],h,_=>by cases h
 | [t],h,hd=>by
  have:s=t:=by simpa using h
  subst this;exact hd
 | t::u::l,h,hd=>by
  rw [eu (by simp)];rcases Nw.1 h with rfl | h
  ·simp [hd]
  ·have :=pG (c:=c) h hd;simp [this]
def Ap {c:UInt8}{l:List Tx}(h:∀s∈l,s≠[])(G:l≠[]):joinS c l≠[]:=by
 match l,G with
 | [s],_=>exact h s (by simp)
 | s::t::l,_=>rw [eu (by simp)];simp
def WR.env {on:Bool}{u:U}{σ τ:Nat->Nat}{Θ r:Tx}(h:WR on u σ Θ r)(he:∀y,u.Us y->σ y=τ y):WR on u τ Θ r:=
 ⟨h.ne,h.len,h.cnt,h.bad,λa b c ρ H=>h.eq a b c ρ λy G=>(H y G).trans (he y G).symm⟩
def aO.cZ {on:Bool}{σ:Nat->Nat}{Θ:Tx}:∀{rs:List Tx} {us:List U},aO (λr u=>WR on u σ Θ r) rs us->Proofs.YthekamjhgabkjaaGreat.cZ rs<=ja us
 | [],[],_=>by simp [Proofs.YthekamjhgabkjaaGreat.cZ,ja]
 | [],_::_,h=>by have :=h.1;simp at this
 | _::_,[],h=>by have :=h.1;simp at this
 | r::rs,u::us,h=>by
  have H:=(h.2 0 r u rfl rfl).len;have G:=aO.cZ (rs:=rs) (us:=us) (on:=on) (σ:=σ) (Θ:=Θ) ⟨by have :=h.1;simpa using this,λi a b ha hb=>h.2 (i+1) a b (by simpa using ha) (by simpa using hb)⟩;rw [dy];simp only [ja,NI,Ol,M0]at G|-;omega
def aO.map_eq {A B C:Type}{f:A->C}{g:B->C}:∀{l:List A} {m:List B},aO (λa b=>f a=g b) l m->l.map f=m.map g
 | [],[],_=>rfl
 | [],_::_,h=>by have :=h.1;simp at this
 | _::_,[],h=>by have :=h.1;simp at this
 | a::l,b::m,h=>by
  have G:=h.2 0 a b rfl rfl;have H:=aO.map_eq (l:=l) (m:=m) (f:=f) (g:=g) ⟨by have :=h.1;simpa using this,λi a b ha hb=>h.2 (i+1) a b (by simpa using ha) (by simpa using hb)⟩;rw [NI,NI,H,G]
def aO.get {A B:Type}{R:A->B->Prop}{l:List A}{m:List B}(h:aO R l m){b:B}(hb:b∈m):∃a∈l,R a b:=by
 obtain⟨i,hi,e⟩:=Od.1 hb;have G:i< l.length:=by rw [h.1];exact hi
 exact⟨l[i],NC _,h.2 i l[i] b (M6 G) (by rw [M6 hi,e])⟩
def aO.get' {A B:Type}{R:A->B->Prop}{l:List A}{m:List B}(h:aO R l m){a:A}(ha:a∈l):∃b∈m,R a b:=by
 obtain⟨i,hi,e⟩:=Od.1 ha;have G:i< m.length:=by rw [<-h.1];exact hi
 exact⟨m[i],NC _,h.2 i a m[i] (by rw [M6 hi,e]) (M6 G)⟩
def TR.sum {on:Bool}{p q:U}{σ:Nat->Nat}{Θ:Tx}{rs:List Tx}(hu:Uq (.sum p q))(γ:ak (T.sum p q)≠[])(h:aO (λr u=>WR on u σ Θ r) rs (ak (T.sum p q))):TR on (.sum p q) σ Θ (joinS 43 (bf rs)):=by
 have J:tl [T.sum p q]= .sum (tp (ak (T.sum p q))) .nil:=rfl;have δ:rs≠[]:=λe=>γ (NF (by rw [<-h.1,e];rfl))
 have Z:=aS rs;have β:bf rs≠[]:=λe=>δ (by rw [e]at Z;exact Z.symm.eq_nil)
 have G:an (tl [T.sum p q])<=5->∀u∈ak (T.sum p q),aY u<=5:=λhm=>by
  rw [J,an]at hm;exact(xI _ _).1 (by omega)
 refine⟨Ap (λs hs=>?_) β,?_,λhm=>?_,λhm ho hb=>?_,λhm ho hb ρ hc=>?_⟩
 ·obtain⟨u,_,hw⟩:=h.get' (Z.subset hs);exact hw.ne
 ·have h1:=nh 43 _ β;have h2:=lK Z;have h3:=h.cZ;have h4:=dA (T.sum p q);omega
 ·rw [kF (by decide),iB (Z.map _),J,thAll,Hp];show _=_+0;rw [PC]
  congr 1
  refine aO.map_eq (h.mono λr u _ hu hw=>hw.cnt (G hm u hu))
 ·rw [J,thBad,wC]at hb;simp only [thBad,Pr,O7]at hb;obtain⟨u,H,ε⟩:=hb;obtain⟨r,hr,hw⟩:=h.get H;obtain⟨c,h1,h2⟩:=hw.bad (G hm u H) ho ε;exact⟨c,pG (Z.symm.subset hr) h1,h2⟩
 ·rw [J,thBad,wC]at hb;simp only [thBad,Pr]at hb;have hb:∀u∈ak (T.sum p q),cN u (cy Θ)=false:=by simpa [List.any_eq_false]using hb
  have e:rs=(ak (T.sum p q)).map λu=>LS u ρ (cy Θ):=by
   have :=aO.map_eq (f:=λr:Tx=>r) (g:=λu=>LS u ρ (cy Θ)) (h.mono λr u _ H hw=>hw.eq (G hm u H) ho (hb u H) ρ (hc.sub λy hy=>(lR _ hu y).2 ⟨u,H,hy⟩));simpa using this
  rw [e];rfl
def WR.le {on:Bool}{u:U}{k:Nat}{p:P}{σ τ:Nat->Nat}{Θ r:Tx}(h:WR on u τ Θ r)(d:Den k p σ u):r.length<=p.text.length:=by
 have h1:=h.len;have G:=oS d.ae;rw [T.aQ];omega
structure uW (w0 w:World)(bm:Nat)(br on:Bool)(c:UInt8)(o:Option Nat):Prop where
 kp:Kp w0 w (λg=>g=bm)
 mm:MK w bm br on
 bx:∀b,o=some b->b≠bm/\b< w.heap.size/\w.cell? ⟨b,0,none⟩=some (.int .u8 c.toNat)
def uW.step {w0 w w':World}{bm:Nat}{br G on:Bool}{c:UInt8}{o:Option Nat}(h:uW w0 w bm br on c o)(hk:Kp w w' (λg=>g=bm))(hm:MK w' bm G on):uW w0 w' bm G on c o:=
 ⟨Kp.trans h.kp hk λ _ _ h=>h,hm,λb hb=>by
  obtain⟨h1,H,J⟩:=h.bx b hb;refine⟨h1,Nz H hk.size,?_⟩;rw [M5 (w:=w) (hk.block b H h1)];exact J⟩
def uW.ex {w0 w w':World}{bm:Nat}{br on:Bool}{c:UInt8}{o:Option Nat}(h:uW w0 w bm br on c o)(G:Ex w w'):uW w0 w' bm br on c o:=
 h.step (Kp.ah G _) (h.mm.ex G)
def uW.box {w0 w w':World}{bm b:Nat}{br on:Bool}{c:UInt8}(h:uW w0 w bm br on c none)(hb:b=w.heap.size)(hw:w'=w.alloc (.cells #[.int .u8 c.toNat] 5)):uW w0 w' bm br on c (some b):=by
 have G:Ex w w':=hw▸Ex.alloc w _;have :=h.mm.lt;refine⟨(h.ex G).kp,(h.ex G).mm,λH e=>?_⟩;cases e;subst hb hw;exact⟨by omega,by rw [size_alloc];omega,aa rfl⟩
def uW.conv {w0 w:World}{bm b:Nat}{br on:Bool}{c:UInt8}(h:uW w0 w bm br on c (some b)):∀(j:Nat) (x:UInt8),[c][j]?=some x->w.cell? ⟨b,0+j,none⟩=some (.int .u8 x.toNat):=by
 intro j x G
 match j,G with
 | 0,G=>simp at G;subst G;exact(h.bx b rfl).2.2
def Own.kp {B:Nat}{w w':World}{v:Value}{l:List Tx}{S:Nat->Prop}(h:Own B w v l)(k:Kp w w' S)(H:∀g,v.ownBlock=some g->¬S g):Own B w' v l:=by
 refine⟨h.1,?_⟩;rcases h.2 with J | ⟨g,cap,cur,rfl,hb,G,rest⟩
 ·exact .inl J
 ·exact .inr ⟨g,cap,cur,rfl,hb,by rw [k.block g (NL.1 G).1 (H g rfl)];exact G,rest⟩
def MK.same {w w':World}{bm:Nat}{br on:Bool}(h:MK w bm br on)(G:w.heap.size<=w'.heap.size)(hb:w'.heap[bm]?=w.heap[bm]?):MK w' bm br on:=
 ⟨Nz h.lt G,by rw [M5 (w:=w) hb];exact h.c0,by rw [M5 (w:=w) hb];exact h.c1,by rw [NH (w:=w) hb];exact h.f0⟩
def MK.below {w w':World}{bm B:Nat}{br on:Bool}(h:MK w bm br on)(k:Below B w w')(hb:bm< B):MK w' bm br on:=h.same k.size (k.block bm hb)
def Own.below {B C:Nat}{w w':World}{v:Value}{l:List Tx}(h:Own B w v l)(k:Below C w w')(G:∀g,v.ownBlock=some g->g< C):Own B w' v l:=by
 refine⟨h.1,?_⟩;rcases h.2 with H | ⟨g,cap,cur,rfl,hb,J,rest⟩
 ·exact .inl H
 ·exact .inr ⟨g,cap,cur,rfl,hb,by rw [k.block g (G g rfl)];exact J,rest⟩
def Kp.Lm {w w':World}{B:Nat}(h:Below B w w')(hB:w.heap.size<=B)(S:Nat->Prop):Kp w w' S:=⟨h.os,h.tape,h.output,h.size,λg G _=>h.block g (by omega)⟩
def Kp.FE {w w1 w':World}{B:Nat}{S:Nat->Prop}(h:Kp w w1 S)(k:Below B w1 w')(hB:w.heap.size<=B):Kp w w' S:=
 ⟨k.os.trans h.os,k.tape.trans h.tape,k.output.trans h.output,N8 h.size k.size,λg G H=>(k.block g (by omega)).trans (h.block g G H)⟩
def aO.snoc {A B:Type}{R:A->B->Prop}{l:List A}{m:List B}{a:A}{b:B}(h:aO R l m)(k:R a b):aO R (l++[a]) (m++[b]):=h.append (aO.one k)
def Fx {n:Nat}(ζ:Gv n):yz (n+1):=by
 intro k p σ t Θ w bm br on R hn d hth hpl hlv η G γ h;refine jR _ _ _ w R ?_;dsimp only [go_sem];dsimp only [go_sem,Nat.reduceAdd];refine aK d.ok ?_;have hw:=d.wf;have hl:=d.len;have ε:=d.ae;cases p<;>cases t<;>(try exact ε.elim)<;>(try (cases hth;done))
 case snd.snd a b p a' b' u=>
  simp only [T.kind]
  repeat' first | refine aR (by decide) ?_ | refine cI (by decide) ?_ | refine bV (by decide) ?_ | refine dx (by decide) ?_
  simp only [T.wf,M8]at hw;simp only [T.size]at hn;simp only [T.text,M0]at hl;have ξ:(T.snd a b p).text.length=p.text.length+4:=by simp [T.text]
  refine⟨λ _=>True,λw1 δ=>⟨trivial,cB d.ok ⟨trivial,⟨by simp only [T.hd];omega,by simp only [T.hd];omega⟩,cB d.ok ⟨trivial,⟨by simp only [T.hd];omega,by simp only [T.hd];omega⟩,?_⟩⟩⟩⟩;have e1:List.drop (Int.toNat ((T.snd a b p).hd:Int)) (T.snd a b p).text=p.text:=rfl;have e2:List.take (Int.toNat ((T.snd a b p).hd:Int)) (T.snd a b p).text=[a,33,b,46]:=rfl;rw [e1,e2];have hx:Ex w w1:=δ▸Ex.drew w;refine ζ (by omega) d.snd (d.snd.lb d.bd.le) (λz hz=>η z (.inr (.inr hz))) (G.sub (Nc _) λy hy=> .inr (.inr hy)) (γ.ex hx) λr J Z β hr=>?_
  have ο:=hr.le d.snd;refine⟨trivial,by simp only [M0,Np];omega,h _ J (Kp.trans (Kp.ah hx _) Z λ _ _ h=>h) (by rw [eh];exact β) (TR.snd hw.1.1 hw.1.2 ε.1 ε.2.1 hr)⟩
 case tau.tau p u=>
  simp only [T.kind]
  repeat' first | refine aR (by decide) ?_ | refine cI (by decide) ?_ | refine bV (by decide) ?_ | refine dx (by decide) ?_
  simp only [T.size]at hn;simp only [T.text,M0]at hl;have ξ:(T.tau p).text.length=p.text.length+2:=by simp [T.text]
  refine⟨λ _=>True,λw1 δ=>⟨trivial,cB d.ok ⟨trivial,⟨by simp only [T.hd];omega,by simp only [T.hd];omega⟩,cB d.ok ⟨trivial,⟨by simp only [T.hd];omega,by simp only [T.hd];omega⟩,?_⟩⟩⟩⟩;have e1:List.drop (Int.toNat ((T.tau p).hd:Int)) (T.tau p).text=p.text:=rfl;have e2:List.take (Int.toNat ((T.tau p).hd:Int)) (T.tau p).text=[126,46]:=rfl;rw [e1,e2];have hx:Ex w w1:=δ▸Ex.drew w;refine ζ (by omega) d.tau (d.tau.lb d.bd.le) (λz hz=>η z hz) (G.sub (Nc _) λy hy=>hy) (γ.ex hx) λr J Z β hr=>?_
  have ο:=hr.le d.tau;refine⟨trivial,by simp only [M0,Np];omega,h _ J (Kp.trans (Kp.ah hx _) Z λ _ _ h=>h) (by rw [eM];exact β) (TR.tau hr)⟩
 case rep.rep p u=>
  simp only [T.kind]
  repeat' first | refine aR (by decide) ?_ | refine cI (by decide) ?_ | refine bV (by decide) ?_ | refine dx (by decide) ?_
  simp only [T.size]at hn;simp only [T.text,M0]at hl;have ξ:(T.rep p).text.length=p.text.length+1:=by simp [T.text]
  refine⟨⟨by omega,by omega⟩,?_⟩;have e1:List.drop (Int.toNat 1) (T.rep p).text=p.text:=rfl;rw [e1];refine ζ (by omega) d.rep (d.rep.lb d.bd.le) (λz hz=>η z hz) (G.sub (Nc _) λy hy=>hy) γ λr J Z β hr=>?_
  have ο:=hr.le d.rep;refine⟨by simp only [M0,Np];omega,h _ J Z (by rw [eA];exact β) (TR.rep hr)⟩
 case mat.mat a b p a' b' u=>
  simp only [T.kind]
  repeat' first | refine aR (by decide) ?_ | refine cI (by decide) ?_ | refine bV (by decide) ?_ | refine dx (by decide) ?_
  simp only [T.wf,M8]at hw;simp only [T.size]at hn;simp only [T.text,M0]at hl;have ξ:(T.mat a b p).text.length=p.text.length+5:=by simp [T.text]
  have hab:a'≠b':=hpl;have hud:u.dead=false:=hlv;have hpd:p.dead=false:=by rw [ε.2.2.dead];exact hud
  have e1:List.drop (Int.toNat 5) (T.mat a b p).text=p.text:=rfl;have e2:List.drop (Int.toNat 3) (List.take (Int.toNat 4) (T.mat a b p).text)=[b]:=rfl;have e3:List.drop (Int.toNat 1) (List.take (Int.toNat 2) (T.mat a b p).text)=[a]:=rfl;have eb:Op.bytesLess [b] [a]=decide (b< a):=by
   rw [Pd,N',Nj,Nj,List.cons_lt_cons_iff];simp
  rw [e1,e2,e3,eb];refine⟨λ _=>True,λw1 δ=>⟨trivial,⟨by omega,by omega,by omega⟩,⟨by omega,by omega,by omega⟩,?_⟩⟩;have hx:Ex w w1:=δ▸Ex.drew w;have sub:∀y,u.Us y->(T.mat a' b' u).Us y:=λy hy=> .inr ⟨hab,hud,.inr (.inr hy)⟩
  have dm:=d.mat hpd;have key:∀{K:aJ->Qx},(∀r J,r.length<=1099511627776->Kp w J (λg=>g=bm)->MK J bm (br||decide (5< an (tl [T.mat a' b' u]))) on->TR on (.mat a' b' u) σ Θ (91::(if b< a then b else a)::61::(if b< a then a else b)::93::r)->K r J)->
    Qy 203 #[.pointer (some ⟨bm,0,none⟩),.string (ay p.text),.string (ay Θ)] w1 (ax [.s] K):=λhk=>by
   refine ζ (by omega) dm (dm.lb d.bd.le) (λz hz=>η z (.inr (.inr hz))) (G.sub (Nc _) sub) (γ.ex hx) λr J Z β hr=>?_
   have ο:=hr.le dm;exact hk r J (by omega) (Kp.trans (Kp.ah hx _) Z λ _ _ h=>h) (by rw [cM];exact β) (TR.mat hab hud hw.1.1 hw.1.2 ε.1 ε.2.1 hr)
  refine⟨λH=>?_,λH=>?_⟩
  ·have H:=NB H;refine⟨by simp,by simp,by simp,by simp,⟨by omega,by omega⟩,key λr J h1 h2 h3 h4=>⟨by simp only [Nb,M0,Np];omega,?_⟩⟩;simp only [NO H]at h4;exact h _ J h2 h3 h4
  ·have H:=Ny H;refine⟨by simp,by simp,by simp,by simp,⟨by omega,by omega⟩,key λr J h1 h2 h3 h4=>⟨by simp only [Nb,M0,Np];omega,?_⟩⟩;simp only [Nt H]at h4;exact h _ J h2 h3 h4
 case sum.sum p q u v=>
  simp only [T.kind]
  repeat' first | refine aR (by decide) ?_ | refine cI (by decide) ?_ | refine bV (by decide) ?_ | refine dx (by decide) ?_
  have hpu:u.dead=false/\v.dead=false:=hpl;have ς:ak (T.sum u v)≠[]:=oO (by simp [T.dead,hpu.1]) d.uq;refine yv _ (Nc _) d λvs J ps υ ι hps hgs=>?_
  have hsz:(ak (T.sum u v)).length<=(T.sum p q).size:=by rw [d.ae.size];exact cQ _
  have hszt:=bc (T.sum p q);have hl':(T.sum p q).text.length<=1099511627776:=hl;have ω:(ps.map T.text).length=(ak (T.sum u v)).length:=by rw [Nq,hps.1]
  have hbm:bm< J.heap.size:=Nz γ.lt υ.size;have hvb:∀g,vs.ownBlock=some g->g< J.heap.size:=λg hg=>(ι.block g hg).2
  have hvn:∀g,vs.ownBlock=some g->¬g=bm:=λg hg e=>by
   have :=(ι.block g hg).1;have :=γ.lt;omega
  obtain⟨av,cap,hv⟩:=ι.strs.slice;have hlen:=ι.1;refine⟨av,_,cap,hv,λlist x w'=>∃(i:Nat) (rs:List Tx),x=i/\i<=(ak (T.sum u v)).length/\Kp w w' (λg=>g=bm)/\MK w' bm (br||((ak (T.sum u v)).take i).any λu=>decide (5< aY u)) on/\
   J.heap.size<=w'.heap.size/\Own J.heap.size w' list rs/\Own w.heap.size w' vs (ps.map T.text)/\aO (λr u=>WR on u σ Θ r) rs ((ak (T.sum u v)).take i),λ _ x _=>((ak (T.sum u v)).length - x).toNat,?_,λlist x w3 hI=>?_⟩
  ·exact⟨0,[],rfl,by omega,Kp.ah υ _,by simpa using γ.ex υ,Nc _,Own.nil _ _,ι,aO.nil⟩
  obtain⟨i,rs,rfl,hi,hk3,hm3,hs3,ho3,hv3,θ⟩:=hI;refine⟨λH=>?_,λH=>?_⟩
  ·have H:=NB H;rw [ω]at H;have φ:i< (ak (T.sum u v)).length:=by omega
   have hip:i< ps.length:=by rw [hps.1];exact φ
   refine hv3.strs.get (Ex.refl w3) (i:=i) (x:=(ps[i]).text) (by omega) (by simp [hip]) ?_;obtain⟨m,τ,hkm,dp,hτ,hlo⟩:=hps.2 i _ _ (M6 hip) (M6 φ);have hmem:(ak (T.sum u v))[i]∈ak (T.sum u v):=NC _;have hus:∀y,((ak (T.sum u v))[i]).Us y->(T.sum u v).Us y:=λy hy=>(lR _ d.uq y).2 ⟨_,hmem,hy⟩
   have hτu:∀y,((ak (T.sum u v))[i]).Us y->τ y=σ y:=λy hy=>hτ y (d.uq.CA (hus y hy))
   have hszi:ps[i].size<=n:=by
    rw [dp.ae.size];have h1:((ak (T.sum u v))[i]).size<=u.size+v.size:=by
     have hmem':(ak (T.sum u v))[i]∈ak u++ak v:=hmem;rcases Nk.1 hmem' with h | h
     ·have :=lv u _ h;omega
     ·have :=lv v _ h;omega
    have h2:(T.sum p q).size=(T.sum u v).size:=d.ae.size;simp only [T.size]at hn h2;omega
   have hgfp:GF 0 ps[i]:=hgs _ (NC _) 0 η;refine ζ hszi dp (dp.lb (by have :=d.bd.le;simp only [T.pm]at this;simp only [T.rd,T.ow]at hlo;omega)) hgfp ⟨G.srt,λc H=>⟨(G.okn c H).1.mono hkm,(G.okn c H).2⟩,λy hy=>by rw [hτu y hy];exact G.cov y (hus y hy)⟩ hm3 λr w4 χ hm4 hr=>?_
   intro b5 w5 hb5 hw5;have κ:Ex w4 w5:=hw5▸Ex.alloc w4 _;have ho4:Own J.heap.size w5 list rs:=(ho3.kp χ λg hg e=>by have :=(ho3.block g hg).1;omega).ex κ;have hsz4:=χ.size;have hsz5:=κ.size;have hrsl:rs.length=i:=by rw [θ.1,NW];omega
   refine Own.push ho4 (by omega) (Strs.one hb5 hw5) (by simp only [M0,Np];omega) λv6 w6 ψ ho6 _ _=>?_
   refine⟨by omega,⟨i+1,rs++[r],by omega,by omega,?_,?_,?_,ho6,?_,?_⟩,by dsimp only;omega⟩
   ·exact Kp.FE (Kp.trans (Kp.trans hk3 χ λ _ _ h=>h) (Kp.ah κ _) λ _ _ h=>h) ψ υ.size
   ·have hm5:=(hm4.ex κ).below ψ hbm;rw [Ng φ,List.any_append,<-OL];simpa using hm5
   ·have :=ψ.size;omega
   ·exact((hv3.kp χ hvn).ex κ).below ψ hvb
   ·rw [Ng φ];exact θ.snoc (hr.env hτu)
  ·have H:=Ny H;rw [ω]at H;have e:i=(ak (T.sum u v)).length:=by omega
   subst e;rw [NR]at hm3 θ;have hll:=θ.cZ;have ht2:=dA (T.sum u v);have htl:=oS d.ae;have hle:cZ rs<=1099511627776+3:=by rw [T.aQ]at hl';omega
   have hrsl:rs.length=(ak (T.sum u v)).length:=θ.1;have hrs:rs≠[]:=λe=>ς (NF (by rw [<-hrsl,e];rfl))
   refine tI ho3.strs (by omega) λv4 w4 hx4 ho4=>?_
   have hsn:bf rs≠[]:=λe=>hrs (by have :=aS rs;rw [e]at this;exact this.symm.eq_nil)
   refine sd ho4.strs hsn (by rw [lK (aS rs)];omega) ?_;refine h _ w4 (Kp.trans hk3 (Kp.ah hx4 _) λ _ _ h=>h) ?_ (TR.sum d.uq ς θ);have e2:(ak (T.sum u v)).any (λu=>decide (5< aY u))=decide (5< an (tl [T.sum u v])):=by
    rw [N',O7,Nj];have etl:tl [T.sum u v]= .sum (tp (ak (T.sum u v))) .nil:=rfl;have hmx:an (.sum (tp (ak (T.sum u v))) .nil)=an (tp (ak (T.sum u v))):=by simp [an]
    rw [etl,hmx,<-Nat.not_le,xI];constructor
    ·rintro⟨x,h1,h2⟩ h3
     have :=h3 x h1;have :=NB h2;omega
    ·intro h1;refine Oy λh2=>h1 λx hx=>?_
     rcases ON 5 (aY x)with h3 | h3
     ·exact absurd ⟨x,hx,OS h3⟩ h2
     ·exact h3
   rw [<-e2];exact hm3.ex hx4
 case rcv.rcv a x p a' x' u=>
  simp only [T.kind]
  repeat' first | refine aR (by decide) ?_ | refine cI (by decide) ?_ | refine bV (by decide) ?_ | refine dx (by decide) ?_
  simp only [T.wf,M8]at hw;simp only [T.size]at hn;simp only [T.text,M0]at hl;have ξ:(T.rcv a x p).text.length=p.text.length+4:=by simp [T.text]
  have hΘ:=G.srt.bound;refine iy (by omega) λc hc0=>?_
  have hbd:=d.bd.le;simp only [T.pm]at hbd;have H:zP k Θ c:=zP.of (by omega) G.okn hc0;have okp:=d.ok.parts p (by simp [T.parts]);have hbdp:=T.wi p;have e1:List.drop (Int.toNat 4) (T.rcv a x p).text=p.text:=rfl;have e2:bt (T.rcv a x p).text (Int.toNat 2)=x:=rfl;have e3:List.take (Int.toNat 2) (T.rcv a x p).text=[a,63]:=rfl;rw [e1,e2,e3];refine⟨λ _=>True,λw1 δ=>⟨trivial,⟨by omega,by omega⟩,⟨by omega,by omega⟩,⟨by omega,by omega⟩,?_⟩⟩;have hst:uW w w1 bm br on c none:=⟨Kp.ah (δ▸Ex.drew w) _,γ.ex (δ▸Ex.drew w),λb hb=>by cases hb⟩
  have renL:∀{o:Option Nat} {wx:World} {K:aJ->Qx},uW w wx bm br on c o->(∀q wy,uW w wy bm br on c o->fG (k+1) p x c q->K q.text wy)->Qy 112 #[.string (ay p.text),.int .u8 x.toNat,.int .u8 c.toNat] wx (ax [.s] K):=λhs hK=>
   gh _ (Nc _) okp d.bd.eb.2.2 (by omega) H.nm H.okn λq wy hx hq=>hK q wy (hs.ex hx) hq
  have addL:∀{o:Option Nat} {wx:World} {K:aJ->Qx},uW w wx bm br on c o->(∀s wy,uW w wy bm br on c o->(kC s/\∀x,x∈s↔x=c\/x∈Θ)->K s wy)->Qy 145 #[.string (ay Θ),.int .u8 c.toNat] wx (ax [.s] K):=λhs hK=>
   fT G.srt λs' wy hx h1 h2=>hK s' wy (hs.ex hx) ⟨h1,h2⟩
  have whoL:∀{o:Option Nat} {wx:World} {K:aJ->Qx} {q:P} {s:Tx},uW w wx bm br on c o->fG (k+1) p x c q->(kC s/\∀x,x∈s↔x=c\/x∈Θ)->
    (∀r wy,uW w wy bm (br||decide (5< an (tl [T.rcv a' x' u]))) on c o->(TR on (.rcv a' x' u) σ Θ (a::63::c::46::r)/\r.length<=1099511627776)->K r wy)->Qy 203 #[.pointer (some ⟨bm,0,none⟩),.string (ay q.text),.string (ay s)] wx (ax [.s] K):=λ{o wx K q s} hs hq μ hK=>by
   have dr:=d.rcv hq λz hz ς e=>by
    obtain⟨c',h1,h2⟩:=G.cov z (.inr ⟨ς,hz⟩);have:c'=c:=NK.1 (h2.trans e);exact H.nin (this▸h1)
   have hsz:=T.oD hq.shp;refine ζ (by omega) dr (dr.lb (by rw [T.Ka hq.shp,T.GJ hq.shp];omega)) (λz hz hg=>?_) ⟨μ.1,λc' hc'=>?_,λy hy=>?_⟩ hs.mm λr wy Z β hr=>?_
   ·rcases hq.ok.free z hz with h1 | h1 | h1
    ·exact absurd hg (dS (h1▸H.ngr))
    ·exact η z (.inr ⟨h1.1,h1.2⟩) hg
    ·exact absurd hg (dS (h1.1▸d.bd.eb.2.1.1))
   ·rcases(μ.2 c').1 hc' with h1 | h1
    ·rw [h1];exact⟨H.okn,H.ngr⟩
    ·exact⟨(G.okn c' h1).1.mono (by omega),(G.okn c' h1).2⟩
   ·by_cases e:y=x'
    ·subst e;exact⟨c,(μ.2 c).2 (.inl rfl),by rw [bS]⟩
    ·obtain⟨c',h1,h2⟩:=G.cov y (.inr ⟨e,hy⟩);exact⟨c',(μ.2 c').2 (.inr h1),by rw [bz _ _ e];exact h2⟩
   ·have ο:=hr.le dr;have hlq:q.text.length=p.text.length:=by rw [T.aQ,T.gm hq.shp,<-T.aQ]
    refine hK r wy (hs.step Z (by rw [eF];exact β)) ⟨TR.rcv hw.1.1 ε.1 H μ.2 hr,by omega⟩
  have fin:∀{o:Option Nat} {wx:World} {r:Tx},uW w wx bm (br||decide (5< an (tl [T.rcv a' x' u]))) on c o->(TR on (.rcv a' x' u) σ Θ (a::63::c::46::r)/\r.length<=1099511627776)->R (((([a,63]++[c])++[46])++r)) wx:=λhs hr=>h _ _ hs.kp hs.mm hr.1
  have bnd:∀{r:Tx},(TR on (.rcv a' x' u) σ Θ (a::63::c::46::r)/\r.length<=1099511627776)->List.length (([a,63]++[c])++[46])+List.length r<=4611686018427387904:=λhr=>by
   have :=hr.2;simp only [Nb,M0,Np];omega
  repeat' first
   | (refine renL (by assumption) ?_;intro q wy ν hq;refine⟨trivial,?_⟩)
   | (refine addL (by assumption) ?_;intro s wy ν hs;refine⟨trivial,?_⟩)
   | (refine whoL (by assumption) (by assumption) (by assumption) ?_;intro r wy ν hr;refine⟨trivial,?_⟩)
   | exact fin (by assumption) (by assumption)
   | exact bnd (by assumption)
   | (refine⟨_,0,1,1,[c],rfl,rfl,uW.conv (by assumption),trivial,by simp,by simp,?_⟩)
   | (refine⟨?_,?_⟩)
   | (intro b J hb hw2;have ν:=uW.box (by assumption) hb hw2;refine⟨trivial,?_⟩)
def jl {α β:Type}{g:α->β}:∀{l:List α} {m:List β},m.Perm (l.map g)->∃π:List α,π.Perm l/\m=π.map g
 | [],m,h=>⟨[],Of _,by simpa using h⟩
 | a::l,m,h=>by
  have hm:g a∈m:=h.symm.subset (by simp);obtain⟨s,t,rfl⟩:=List.append_of_mem hm;have G:(s++t).Perm (l.map g):=(List.perm_cons (g a)).1 (PN.symm.trans (by simpa using h));obtain⟨π,H,h4⟩:=jl G;obtain⟨x,y,rfl,h5,J⟩:=List.append_eq_map_iff.1 h4;refine⟨x++a::y,PN.trans (List.Perm.cons a H),?_⟩;simp [h5,J]
def rnv:List UInt8->List UInt8->Nat->Nat
 | o::os,l::ls,n=>rnv os ls (if n=o.toNat then l.toNat else n)
 | _,_,n=>n
def zN:∀(os ls:List UInt8) (o l:UInt8) (n:Nat),os.length=ls.length->rnv (os++[o]) (ls++[l]) n=if rnv os ls n=o.toNat then l.toNat else rnv os ls n
 | [],[],o,l,n,_=>rfl
 | [],_::_,_,_,_,h=>by cases h
 | _::_,[],_,_,_,h=>by cases h
 | a::os,b::ls,o,l,n,h=>by
  simp only [N6,rnv];exact zN os ls o l _ (by simpa using h)
def wV:∀(os ls:List UInt8) (n:Nat),(∀o∈os,n≠o.toNat)->rnv os ls n=n
 | [],_,_,_=>by simp [rnv]
 | _::_,[],_,_=>by simp [rnv]
 | a::os,b::ls,n,h=>by
  rw [rnv,Nt (h a (by simp))];exact wV os ls n λo G=>h o (Nh _ G)
def Dk:∀(π:List Nat) (os ls:List UInt8) (g:Nat->Nat) (ρ:Rh) (y:Nat),os.map UInt8.toNat=π.map g->π.length=ls.length->(∀l∈ls,l∉os)->y∈π->(∀z∈π,g z=g y->z=y)->os.Nodup->
  rnv os ls (g y)=(asg π ls ρ y).toNat
 | [],_,_,_,_,_,_,_,_,h,_,_=>by cases h
 | z::π,[],_,_,_,_,h,_,_,_,_,_=>by simp at h
 | _::_,_::_,[],_,_,_,_,h,_,_,_,_=>by cases h
 | z::π,o::os,l::ls,g,ρ,y,h,hl,hd,hy,hi,G=>by
  simp only [NI,OC]at h;have G:=N7.1 G;have H:∀J∈os,l.toNat≠J.toNat:=λJ ho e=>hd l (by simp) (by rw [NK.1 e];exact Nh _ ho)
  rw [rnv,asg];by_cases e:y=z
  ·subst e;rw [NO h.1.symm,wV os ls _ H];by_cases hyp:y∈π
   ·exfalso;have:g y∈π.map g:=OO hyp;rw [<-h.2,<-h.1]at this;obtain⟨J,h1,h2⟩:=NT.1 this;exact G.1 (NK.1 h2▸h1)
   ·rw [bn π ls _ y hyp];simp [aF]
  ·have hyp:y∈π:=(Nw.1 hy).resolve_left e;have Z:¬g y=o.toNat:=λh'=>e ((hi z (by simp) (h.1.symm.trans h'.symm)).symm)
   rw [Nt Z];exact Dk π os ls g _ y h.2 (by simpa using hl) (λl' β γ=>hd l' (Nh _ β) (Nh _ γ)) hyp (λx hx=>hi x (Nh _ hx)) G.2
structure Gn (k m:Nat)(Θ ls A:Tx):Prop where
 len:ls.length=m
 nd:ls.Nodup
 ok:∀c∈ls,c∉Θ/\okn (k+m) c/\ngr c/\nm c=true
 srt:kC A
 mem:∀c,c∈A↔c∈Θ\/c∈ls
def TR.env {on:Bool}{u:U}{σ τ:Nat->Nat}{Θ r:Tx}(h:TR on u σ Θ r)(he:∀y,u.Us y->σ y=τ y):TR on u τ Θ r:=
 ⟨h.ne,h.len,h.cnt,h.bad,λa b c ρ H=>h.eq a b c ρ λy G=>(H y G).trans (he y G).symm⟩
def TR.le {on:Bool}{u:U}{k:Nat}{p:P}{σ τ:Nat->Nat}{Θ r:Tx}(h:TR on u τ Θ r)(d:Den k p σ u):r.length<=p.text.length:=by
 have h1:=h.len;have G:=oS d.ae;rw [T.aQ];omega
structure LY (M:Nat)(p:P)(t:U)(τ:Nat->Nat)(Θ o ls:Tx)(i:Nat)(q:P):Prop where
 den:Den M q (λy=>rnv (o.take i) (ls.take i) (τ y)) t
 shp:q.shp=p.shp
 gf:∀z,q.Fr z->Jr z->z∈o.drop i
 cov:∀y,t.Us y->∃c:UInt8,c.toNat=rnv (o.take i) (ls.take i) (τ y)/\(c∈Θ\/c∈ls.take i\/c∈o.drop i)
def rj {l:Tx}{i:Nat}(h:i< l.length):l.drop i=bt l i::l.drop (i+1):=bC h
def gM {l:Tx}{i:Nat}(h:i< l.length):l.take (i+1)=l.take i++[bt l i]:=by
 rw [Ng h];simp [bt,h]
def LY.step {M k m:Nat}{p q q':P}{t:U}{τ:Nat->Nat}{Θ o ls A:Tx}{i:Nat}(h:LY M p t τ Θ o ls i q)(κ:∀c∈Θ,ngr c)(δ:Gn k m Θ ls A)(ho:o.length=m)(ε:∀c∈o,Jr c)(hi:i< m)
  (hr:fG M q (bt o i) (bt ls i) q'):LY M p t τ Θ o ls (i+1) q':=by
 have γ:i< o.length:=by omega
 have β:i< ls.length:=by rw [δ.len];exact hi
 have hlen:(o.take i).length=(ls.take i).length:=by rw [NW,NW];omega
 have e:∀y,rnv (o.take (i+1)) (ls.take (i+1)) (τ y)=if rnv (o.take i) (ls.take i) (τ y)=(bt o i).toNat then(bt ls i).toNat else rnv (o.take i) (ls.take i) (τ y):=λy=>by
  rw [gM γ,gM β,zN _ _ _ _ _ hlen]
 have H:=δ.ok _ (pv β);have θ:bt ls i∉ls.take i:=λhm=>by
  have ζ:=δ.nd;rw [<-Oi i ls,rj β]at ζ;exact(NU.1 ζ).2.2 _ hm _ (by simp) rfl
 have ι:bt ls i∉o.drop i:=λhm=>dS H.2.2.1 (ε _ (List.mem_of_mem_drop hm))
 have J:∀y,t.Us y->rnv (o.take i) (ls.take i) (τ y)≠(bt ls i).toNat:=λy hy he=>by
  obtain⟨c,h1,G⟩:=h.cov y hy;have hc:c=bt ls i:=NK.1 (h1.trans he);rcases G with G | G | G
  ·exact H.1 (hc▸G)
  ·exact θ (hc▸G)
  ·exact ι (hc▸G)
 refine⟨⟨hr.wf,?_,⟨hr.eb,?_⟩,?_,?_,h.den.uq⟩,hr.shp.trans h.shp,λz hz hg=>?_,λy hy=>?_⟩
 ·have :=h.den.len;rw [T.aQ,T.gm hr.shp,<-T.aQ];exact this
 ·rw [T.wu hr.shp];exact h.den.bd.le
 ·have hh:=h.den.ae.renamed hr.ok (λx _ e=>NK.1 e);have e':(λy=>rnv (o.take (i+1)) (ls.take (i+1)) (τ y))=λy=>if rnv (o.take i) (ls.take i) (τ y)=(bt o i).toNat then(bt ls i).toNat else rnv (o.take i) (ls.take i) (τ y):=funext e
  rw [e'];exact hh
 ·intro y z hy hz Z;simp only [e]at Z;have η:=h.den.inj y z hy hz;split at Z<;>split at Z
  ·rename_i h1 G;exact η (h1.trans G.symm)
  ·exact absurd Z.symm (J z hz)
  ·exact absurd Z (J y hy)
  ·exact η Z
 ·rcases hr.ok.free z hz with h1 | h1 | h1
  ·exact absurd hg (dS (h1▸H.2.2.1))
  ·have :=h.gf z h1.2 hg;rw [rj γ]at this;exact(Nw.1 this).resolve_left h1.1
  ·have hh:=ε _ (pv γ);rw [h1.2.2]at hh;exact absurd hh (dS H.2.2.1)
 ·obtain⟨c,h1,G⟩:=h.cov y hy;rw [e];by_cases hc:rnv (o.take i) (ls.take i) (τ y)=(bt o i).toNat
  ·rw [NO hc];exact⟨bt ls i,rfl,.inr (.inl (by rw [gM β];simp))⟩
  ·rw [Nt hc];refine⟨c,h1,?_⟩;rcases G with G | G | G
   ·exact .inl G
   ·exact .inr (.inl (by rw [gM β];simp [G]))
   ·rw [rj γ]at G;rcases Nw.1 G with h3 | h3
    ·exact absurd (h1.symm.trans (by rw [h3])) hc
    ·exact .inr (.inr h3)
def aO.Gj {on:Bool}{σ:Nat->Nat}{Θ:Tx}:∀{rs:List Tx} {us:List U},aO (λr u=>TR on u σ Θ r) rs us->Proofs.YthekamjhgabkjaaGreat.cZ rs<=ja us
 | [],[],_=>by simp [Proofs.YthekamjhgabkjaaGreat.cZ,ja]
 | [],_::_,h=>by have :=h.1;simp at this
 | _::_,[],h=>by have :=h.1;simp at this
 | r::rs,u::us,h=>by
  have H:=(h.2 0 r u rfl rfl).len;have G:=aO.Gj (rs:=rs) (us:=us) (on:=on) (σ:=σ) (Θ:=Θ) ⟨by have :=h.1;simpa using this,λi a b ha hb=>h.2 (i+1) a b (by simpa using ha) (by simpa using hb)⟩;rw [dy];simp only [ja,NI,Ol,M0]at G|-;omega
def yl (on:Bool)(σ:Nat->Nat)(u:U)(o ls A r:Tx):Prop:=
 ∃rs:List Tx,r=joinS 38 (bf rs)/\aO (λr t=>TR on t (λy=>rnv o ls (asgN (aj u).1 0 σ y)) A r) rs (aj u).2
def HQ {n:Nat}(iht:yz n){k:Nat}{σ:Nat->Nat}{u:U}{Θ A o ls:Tx}{ps:List P}{on br:Bool}{bm B:Nat}{vt:Value}{w:World}{R:aJ->Qx}
  (hu:Uq u) (hne:(aj u).2≠[]) (hb:∀p∈ps,k+(aj u).1.length+p.rd+p.ow<=64) (hsz:∀p∈ps,p.size<=n) (ε:xL k Θ σ u) (φ:aO (H3 k σ u 0) ps (aj u).2) (G:Gn k (aj u).1.length Θ ls A) (ho:o.Perm (gH (aj u).1.length))
  (hm64:(aj u).1.length<=64) (ζ:Own B w vt (ps.map T.text)) (hB:bm< B) (χ:MK w bm br on) (htl:ja (aj u).2<=1099511627776+3)
  (h:∀r w',Kp w w' (λg=>g=bm)->MK w' bm (br||(aj u).2.any λt=>decide (5< an (tl [t]))) on->yl on σ u o ls A r->R r w'):
  Qy 243 #[.pointer (some ⟨bm,0,none⟩),vt,.string (ay o),.string (ay ls),.string (ay A)] w (ax [.s] R):=by
 refine kI _ vt o ls A w R ?_;dsimp only [go_sem];dsimp only [go_sem,Nat.reduceAdd];have ψ:o.length=(aj u).1.length:=by rw [ho.length_eq,gN]
 have hog:∀c∈o,Jr c:=λc hc=>by
  obtain⟨j,h1,rfl⟩:=gR.1 (ho.subset hc);exact yp (by omega)
 have hlen:=φ.1;have hbm:=χ.lt;have hlu:3* (aj u).2.length<=ja (aj u).2:=by unfold ja;omega
 obtain⟨av,cap,hv⟩:=ζ.strs.slice;rw [Nq]at hv;refine⟨av,_,cap,hv,λlist x w'=>∃(i:Nat) (rs:List Tx),x=i/\i<=(aj u).2.length/\Kp w w' (λg=>g=bm)/\MK w' bm (br||((aj u).2.take i).any λt=>decide (5< an (tl [t]))) on/\
   Own w.heap.size w' list rs/\Own B w' vt (ps.map T.text)/\aO (λr t=>TR on t (λy=>rnv o ls (asgN (aj u).1 0 σ y)) A r) rs ((aj u).2.take i),λ _ x _=>((aj u).2.length - x).toNat,?_,λlist x w3 hI=>?_⟩
 ·exact⟨0,[],rfl,by omega,Kp.ah (Ex.refl w) _,by simpa using χ,Own.nil _ _,ζ,aO.nil⟩
 obtain⟨i,rs,rfl,hi,μ,ν,ξ,ω,β⟩:=hI;have hs3:=μ.size;refine⟨λhc=>?_,λhc=>?_⟩
 ·have hc:=NB hc;have hip:i< ps.length:=by omega
  have ο:i< (aj u).2.length:=by omega
  refine ω.strs.get (Ex.refl w3) (i:=i) (x:=(ps[i]).text) (by omega) (by simp [hip]) ?_;obtain⟨m0,τ,hkm,dp,hτ,hgf⟩:=φ.2 i _ _ (M6 hip) (M6 ο);have Z:(aj u).2[i]∈(aj u).2:=NC _;have ς:ps[i]∈ps:=NC _;have hbp:=hb _ ς;have hszp:=hsz _ ς;generalize hM:max m0 (k+(aj u).1.length)=M;have hM1:m0<=M:=by omega
  have hM2:k+(aj u).1.length<=M:=by omega
  have hle:=dp.bd.le;have ς:=T.fk ps[i];have dM:Den M ps[i] τ (aj u).2[i]:=⟨dp.wf,dp.len,⟨dp.bd.eb.mono hM1,by omega⟩,dp.ae,dp.inj,dp.uq⟩
  have hus:=kX u hu _ Z;refine⟨λs j w'=>Ex w3 w'/\∃(j':Nat) (q:P),j=j'/\j'<=o.length/\s=q.text/\LY M ps[i] (aj u).2[i] τ Θ o ls j' q,λ _ j _=>(o.length - j).toNat,⟨Ex.refl w3,0,ps[i],rfl,by omega,rfl,?_⟩,λs j w4 hJ=>?_⟩
  ·refine⟨by simpa [rnv]using dM,rfl,λz hz hg=>?_,λy hy=>?_⟩
   ·obtain⟨j,h1,h2⟩:=hgf z hz hg;rw [O4];exact ho.symm.subset (gR.2 ⟨j,by omega,h2⟩)
   ·simp only [List.take_zero,rnv,O4];rw [hτ y hy];by_cases γ:y∈(aj u).1
    ·obtain⟨j,hj,e⟩:=Od.1 γ;refine⟨gl j,?_,.inr (.inr (ho.symm.subset (gR.2 ⟨j,hj,rfl⟩)))⟩;rw [<-e,js _ _ _ _ hj (fV u hu),NJ]
    ·rw [iQ _ _ _ _ γ];obtain⟨c,h1,h2⟩:=ε.cov y ((hus y hy).resolve_right γ);exact⟨c,h2,.inl h1⟩
  obtain⟨H,j',q,rfl,hj,rfl,hq⟩:=hJ;refine⟨λδ=>?_,λδ=>?_⟩
  ·have δ:=NB δ;have hj':j'< o.length:=by omega
   refine⟨λ _=>True,λw5 hw5=>⟨trivial,⟨by omega,by omega⟩,⟨by omega,by rw [G.len];omega⟩,?_⟩⟩;have hx5:Ex w4 w5:=hw5▸Ex.drew w4;have hlq:=G.ok _ (pv (s:=ls) (i:=j') (by rw [G.len];omega));have hbd:=T.rN q;have hqle:=hq.den.bd.le;rw [Nf];refine gh _ (Nc _) hq.den.ok hq.den.bd.eb (by omega) hlq.2.2.2 (hlq.2.1.mono hM2) λq' w6 J hq'=>⟨trivial,by omega,⟨(H.trans hx5).trans J,j'+1,q',by omega,by omega,rfl,?_⟩,by dsimp only;omega⟩
   exact hq.step (λc hc=>(ε.okn c hc).2) G ψ hog (by omega) hq'
  ·have δ:=Ny δ;have ej:j'=o.length:=by omega
   subst ej;have θ:=hq.den;have e1:o.take o.length=o:=NR;have e2:ls.take o.length=ls:=by rw [ψ,<-G.len];exact NR
   have ι:=hq.cov;simp only [e1,e2]at θ ι;have hm4:=ν.ex H;have hszq:=T.oD hq.shp;refine iht (by omega) θ (wP u _ Z) (tu u _ Z).1 (tu u _ Z).2 (λz hz hg=>?_) ⟨G.srt,λc hc=>?_,λy hy=>?_⟩ hm4 λr w5 η hm5 hr=>?_
   ·have :=hq.gf z hz hg;rw [O8]at this;cases this
   ·rcases(G.mem c).1 hc with h1 | h1
    ·exact⟨(ε.okn c h1).1.mono (by omega),(ε.okn c h1).2⟩
    ·have :=G.ok c h1;exact⟨this.2.1.mono hM2,this.2.2.1⟩
   ·obtain⟨c,h1,h2⟩:=ι y hy;refine⟨c,(G.mem c).2 ?_,h1⟩;rcases h2 with h2 | h2 | h2
    ·exact .inl h2
    ·exact .inr h2
    ·rw [O8]at h2;cases h2
   ·intro b6 w6 hb6 hw6;have J:Ex w5 w6:=hw6▸Ex.alloc w5 _;have hbl:∀g,list.ownBlock=some g->¬g=bm:=λg hg e=>by have :=(ξ.block g hg).1;omega
    have ho5:Own w.heap.size w6 list rs:=((ξ.ex H).kp η hbl).ex J;have z4:=H.size;have z5:=η.size;have z6:=J.size;have κ:rs.length=i:=by rw [β.1,NW];omega
    refine Own.push ho5 (by omega) (Strs.one hb6 hw6) (by simp only [M0,Np];omega) λv7 w7 υ ho7 hg7 _=>?_
    refine⟨by omega,⟨i+1,rs++[r],by omega,by omega,?_,?_,ho7,?_,?_⟩,by dsimp only;omega⟩
    ·exact Kp.FE (Kp.trans (Kp.trans (Kp.trans μ (Kp.ah H _) λ _ _ h=>h) η λ _ _ h=>h) (Kp.ah J _) λ _ _ h=>h) υ (Nc _)
    ·have hm6:=(hm5.ex J).below υ hbm;rw [Ng ο,List.any_append,<-OL];simpa using hm6
    ·have hvn:∀g,vt.ownBlock=some g->¬g=bm:=λg hg e=>by have :=(ζ.block g hg).1;omega
     exact(((ω.ex H).kp η hvn).ex J).below υ λg hg=>(ζ.block g hg).2
    ·rw [Ng ο];refine β.snoc (hr.env λy hy=>?_);show rnv o ls (τ y)=_;rw [hτ y hy]
 ·have hc:=Ny hc;have e:i=(aj u).2.length:=by omega
  subst e;rw [NR]at ν β;have κ:rs.length=(aj u).2.length:=β.1;have hrs:rs≠[]:=λe=>hne (NF (by rw [<-κ,e];rfl))
  refine tI ξ.strs (by omega) λv4 w4 H ho4=>?_
  have hsn:bf rs≠[]:=λe=>hrs (by have :=aS rs;rw [e]at this;exact this.symm.eq_nil)
  have hll:cZ rs<=ja (aj u).2:=β.Gj;refine sd ho4.strs hsn (by rw [lK (aS rs)];omega) ?_;exact h _ w4 (Kp.trans μ (Kp.ah H _) λ _ _ h=>h) (ν.ex H) ⟨rs,rfl,β⟩
section
open Classical
structure IB (u:U)(ρ:Rh)(tk:Tk):Prop where
 ok:∀y,u.Us y->tk (ρ y)=true/\lt (ρ y)=true
 inj:∀y z,u.Us y->u.Us z->ρ y=ρ z->y=z
def IB.sub {u v:U}{ρ:Rh}{tk:Tk}(h:IB u ρ tk)(G:∀y,v.Us y->u.Us y):IB v ρ tk:=
 ⟨λy H=>h.ok y (G y H),λy z H J=>h.inj y z (G y H) (G z J)⟩
def Ih (u:U)(ρ:Rh)(tk:Tk)(t:P)(v:U):Prop:=
 t.text=LS u ρ tk/\AE UInt8.toNat t (λy=>(ρ y).toNat) v/\t.Al (λc=>lt c=true)/\MG u v
def EL (u:U)(ρ:Rh)(tk:Tk)(t:P)(v:U):Prop:=
 t.text=thU u ρ tk/\AE UInt8.toNat t (λy=>(ρ y).toNat) v/\t.Al (λc=>lt c=true)/\Mh u v
def Me {n:Nat}(ih:∀(u:U) (ρ:Rh) (tk:Tk),u.size<=n->Uq u->IB u ρ tk->cN u tk=false->∃t v,Ih u ρ tk t v){t:U}{ρ:Rh}{tk:Tk}(hn:t.size<=n+1)(hu:Uq t)(ξ:I8 t=true)
  (υ:t.cX) (hl:t.dead=false) (hm:IB t ρ tk) (hb:thBad (tl [t]) tk=false):∃q w,EL t ρ tk q w:=by
 cases t with
 | nil=>cases ξ
 | par=>cases ξ
 | res=>cases ξ
 | snd a b p=>
  simp only [T.size]at hn;rw [iE]at hb;obtain⟨q,v,h1,h2,G,h4⟩:=ih p ρ tk (by omega) hu.snd (hm.sub λy hy=> .inr (.inr hy)) hb;have ε:∀x,(T.snd a b v).Us x↔(T.snd a b p).Us x:=λx=>or_congr_right (or_congr_right (h4.us x))
  refine⟨.snd (ρ a) (ρ b) q,.snd a b v,?_,⟨rfl,rfl,h2⟩,⟨(hm.ok a (.inl rfl)).2,(hm.ok b (.inr (.inl rfl))).2,G⟩,?_⟩
  ·simp only [T.text,thU,kText,h1]
  ·exact⟨rfl,h4.nr,qo (t:=T.snd a b p) h4.uq.nd h4.nr h4.bv (λx=>(ε x).1) hu,h4.bv,ε,λρ tk=>by simp only [thU,h4.ls],λtk=>by rw [iE,iE,h4.bad],by rw [pE,pE,h4.all],by rw [eh,eh,h4.most],h4.smp,rfl⟩
 | tau p=>
  simp only [T.size]at hn;rw [iM]at hb;obtain⟨q,v,h1,h2,G,h4⟩:=ih p ρ tk (by omega) hu.tau (hm.sub λy hy=>hy) hb;refine⟨.tau q,.tau v,?_,h2,G,?_⟩
  ·simp only [T.text,thU,kText,h1]
  ·exact⟨rfl,h4.nr,qo (t:=T.tau p) h4.uq.nd h4.nr h4.bv (λx=>(h4.us x).1) hu,h4.bv,h4.us,λρ tk=>by simp only [thU,h4.ls],λtk=>by rw [iM,iM,h4.bad],by rw [pO,pO,h4.all],by rw [eM,eM,h4.most],h4.smp,rfl⟩
 | rep p=>
  simp only [T.size]at hn;rw [im]at hb;obtain⟨q,v,h1,h2,G,h4⟩:=ih p ρ tk (by omega) hu.rep (hm.sub λy hy=>hy) hb;have hd:v.dead=false:=by rw [h4.dead];exact hl
  have nr:(T.rep v).Nr:=⟨hd,h4.nr⟩
  refine⟨.rep q,.rep v,?_,h2,G,?_⟩
  ·simp only [T.text,thU,kText,h1]
  ·refine⟨rfl,nr,qo (t:=T.rep p) h4.uq.nd nr h4.bv (λx=>(h4.us x).1) hu,h4.bv,h4.us,λρ tk=>by simp only [thU,h4.ls],λtk=>by rw [im,im,h4.bad],by rw [pT,pT,h4.all],by rw [eA,eA,h4.most],λhs=>?_,rfl⟩;simp only [T.smp,M8]at hs|-;refine⟨?_,h4.smp hs.2⟩;have:aj p=([],[p]):=by
    have hr:=hs.1;cases p<;>first | rfl | cases hr
   rw [T.yh,h4.tg p this,<-T.yh];exact hs.1
 | mat a b p=>
  simp only [T.size]at hn;have ζ:a≠b:=υ;have hd:p.dead=false:=hl;rw [eC]at hb;obtain⟨q,v,h1,h2,G,h4⟩:=ih p ρ tk (by omega) hu.mat (hm.sub λy hy=> .inr ⟨ζ,hd,.inr (.inr hy)⟩) hb;have ι:v.dead=false:=by rw [h4.dead];exact hd
  have ha:=(hm.ok a (.inr ⟨ζ,hd,.inl rfl⟩)).2;have φ:=(hm.ok b (.inr ⟨ζ,hd,.inr (.inl rfl)⟩)).2;have us:∀x,(T.mat a b v).Us x↔(T.mat a b p).Us x:=λx=>by simp only [T.Us,ζ,hd,ι,h4.us]
  have χ:∀x,(T.mat b a v).Us x↔(T.mat a b p).Us x:=λx=>by
   simp only [T.Us,ζ,ζ.symm,hd,ι,h4.us,false_and,Qw,ne_eq,P4,PE];rw [<-Qf,<-Qf,or_comm (a:=x=b)]
  by_cases ψ:ρ b< ρ a
  ·have nr:(T.mat b a v).Nr:=⟨⟨ζ.symm,ι⟩,h4.nr⟩
   refine⟨.mat (ρ b) (ρ a) q,.mat b a v,?_,⟨rfl,rfl,h2⟩,⟨φ,ha,G⟩,?_⟩
   ·simp only [T.text,thU,kText,h1,NO ψ]
   ·exact⟨rfl,nr,qo (t:=T.mat a b p) h4.uq.nd nr h4.bv (λx=>(χ x).1) hu,h4.bv,χ,λρ tk=>by simp only [thU,h4.ls];exact Cb _ _ _,λtk=>by rw [eC,eC,h4.bad],by rw [iP,iP,h4.all],by rw [cM,cM,h4.most],h4.smp,rfl⟩
  ·have nr:(T.mat a b v).Nr:=⟨⟨ζ,ι⟩,h4.nr⟩
   refine⟨.mat (ρ a) (ρ b) q,.mat a b v,?_,⟨rfl,rfl,h2⟩,⟨ha,φ,G⟩,?_⟩
   ·simp only [T.text,thU,kText,h1,Nt ψ]
   ·exact⟨rfl,nr,qo (t:=T.mat a b p) h4.uq.nd nr h4.bv (λx=>(us x).1) hu,h4.bv,us,λρ tk=>by simp only [thU,h4.ls],λtk=>by rw [eC,eC,h4.bad],by rw [iP,iP,h4.all],by rw [cM,cM,h4.most],h4.smp,rfl⟩
 | rcv a x p=>
  simp only [T.size]at hn;rw [iF,Oz]at hb;obtain⟨f1,f2⟩:=GV hb.1;have hm':IB p (aF ρ x (ic tk)) (cA tk (ic tk)):=by
   refine⟨λy hy=>?_,λy z hy H e=>?_⟩
   ·by_cases e:y=x
    ·subst e;simp [aF,cA,f2]
    ·obtain⟨k1,k2⟩:=hm.ok y (.inr ⟨e,hy⟩);simp [aF,e,cA,k1,k2]
   ·by_cases g1:y=x<;>by_cases g2:z=x
    ·rw [g1,g2]
    ·simp only [aF,NO g1,Nt g2]at e;have :=(hm.ok z (.inr ⟨g2,H⟩)).1;rw [<-e,f1]at this;cases this
    ·simp only [aF,Nt g1,NO g2]at e;have :=(hm.ok y (.inr ⟨g1,hy⟩)).1;rw [e,f1]at this;cases this
    ·simp only [aF,Nt g1,Nt g2]at e;exact hm.inj y z (.inr ⟨g1,hy⟩) (.inr ⟨g2,H⟩) e
  obtain⟨q,v,h1,h2,G,h4⟩:=ih p _ _ (by omega) hu.rcv hm' hb.2;have ε:∀y,(T.rcv a x v).Us y↔(T.rcv a x p).Us y:=λy=>or_congr_right (and_congr_right λ _=>h4.us y)
  have nr:(T.rcv a x v).Nr:=h4.nr;have ο:(BV (T.rcv a x v)).Nodup:=N7.2 ⟨λhx=>hu.jb (h4.bv x hx),h4.uq.nd⟩;have θ:∀y∈BV (T.rcv a x v),y∈BV (T.rcv a x p):=λy hy=>by
   rcases Nw.1 hy with rfl | hy
   ·exact NP ..
   ·exact Nh _ (h4.bv y hy)
  refine⟨.rcv (ρ a) (ic tk) q,.rcv a x v,?_,⟨rfl,λn=>AE.JD (λz H e=>?_) h2 n⟩,⟨(hm.ok a (.inl rfl)).2,f2,G⟩,?_⟩
  ·simp only [T.text,thU,kText,h1]
  ·intro hc;have :=(hm.ok z (.inr ⟨e,(h4.us z).1 (h4.nr.gW H)⟩)).1;rw [hc,f1]at this;cases this
  ·exact⟨rfl,nr,qo ο nr θ (λx=>(ε x).1) hu,θ,ε,λρ tk=>by simp only [thU,h4.ls],λtk=>by rw [iF,iF,h4.bad],by rw [pd,pd,h4.all],by rw [eF,eF,h4.most],h4.smp,rfl⟩
 | sum p q=>
  simp only [T.size]at hn;obtain⟨hd1,hd2⟩:p.dead=false/\q.dead=false:=υ;have eS:ak (T.sum p q)=ak p++ak q:=rfl;have ω:∀u∈ak (T.sum p q),u.size<=n:=λu δ=>by
   rw [eS]at δ;rcases Nk.1 δ with h | h
   ·have :=lv p u h;omega
   ·have :=lv q u h;omega
  have hbad:∀u∈ak (T.sum p q),cN u tk=false:=by
   rw [(eP (w:=T.sum p q) rfl ρ tk).2]at hb;simp only [thBad,Pr,wC]at hb;simpa [List.any_eq_false]using hb
  obtain⟨zs,z1,z2⟩:=triples (R:=λu=>Ih u ρ tk) (l:=ak (T.sum p q)) λu δ=>
   ih u ρ tk (ω u δ) (wN hu u δ) (hm.sub λy hy=>(lR _ hu y).2 ⟨u,δ,hy⟩) (hbad u δ)
  obtain⟨J,y1,y2⟩:=vV zs λz=>z.2.1.text
  have γ:(J.map (·.1)).Perm (ak (T.sum p q)):=z1▸y1.map _;have H:∀z∈J,Ih z.1 ρ tk z.2.1 z.2.2:=λz H=>z2 z (y1.subset H)
  have Z:∀z∈J,z.1∈ak (T.sum p q):=λz H=>γ.subset (OO H)
  have hlen:2<=J.length:=by
   have l1:(ak p).length≠0:=λe=>oO hd1 hu.dF (NF e)
   have l2:(ak q).length≠0:=λe=>oO hd2 hu.dh (NF e)
   have :=γ.length_eq;rw [Nq,eS,Nb]at this;omega
  have κ:J≠[]:=λe=>by rw [e]at hlen;simp at hlen
  have η:(T.cY (J.map (·.2.2))).isS=true/\(T.cY (J.map (·.2.2))).th=true/\(T.cY (J.map (·.2.2))).tg=4:=by
   match J,hlen with
   | a::b::l,_=>exact⟨rfl,rfl,rfl⟩
   | [a],h=>simp at h
   | [],h=>simp at h
  have hvs:∀v∈J.map (·.2.2),v.dead=false/\v.isS=false/\v.Nr:=λv hv=>by
   obtain⟨z,h1,rfl⟩:=NT.1 hv;have ha:=(H z h1).2.2.2;refine⟨?_,ha.isS (Dv _ hu z.1 (Z z h1)),ha.nr⟩;rw [ha.dead];cases hd:z.1.dead with
   | false=>rfl
   | true=>
    have hcp:∀u:U,∀t∈ak u,t.dead=false:=Eh;exact absurd (hcp _ _ (Z z h1)) (by rw [hd];simp)
  have μ:=(T.CF (l:=J.map (·.2.2)) (by simpa using κ) hvs)
  have θ:∀x∈BV (T.cY (J.map (·.2.2))),x∈BV (T.sum p q):=λx hx=>by
   rw [xg]at hx;obtain⟨v,h1,h2⟩:=Oo.1 hx;obtain⟨z,G,rfl⟩:=NT.1 h1;exact zv _ z.1 (Z z G) x ((H z G).2.2.2.bv x h2)
  have ε:∀x,(T.cY (J.map (·.2.2))).Us x↔(T.sum p q).Us x:=λx=>by
   rw [T.Cs,lR _ hu];constructor
   ·rintro⟨v,h1,h2⟩
    obtain⟨z,G,rfl⟩:=NT.1 h1;exact⟨z.1,Z z G,((H z G).2.2.2.us x).1 h2⟩
   ·rintro⟨u,h1,h2⟩
    obtain⟨z,G,rfl⟩:=NT.1 (γ.symm.subset h1);exact⟨_,OO G,((H z G).2.2.2.us x).2 h2⟩
  have ο:(BV (T.cY (J.map (·.2.2)))).Nodup:=by
   rw [xg,Qb];refine pD (f:=λz=>BV z.1) ?_ λz h=>⟨(H z h).2.2.2.uq.nd,(H z h).2.2.2.bv⟩
   have hp:=(γ.flatMap_right BV)
   rw [Qb]at hp;exact hp.nodup_iff.2 (Hs _ hu)
  have huq:=qo ο μ.1 θ (λx=>(ε x).1) hu;have ν:ak (T.cY (J.map (·.2.2)))=J.map (·.2.2):=by
   rw [dU huq μ.1 μ.2,T.zk (by simpa using κ) λt ht=>(hvs t ht).2.1]
  have ς:∀{β:Type} (g:U->β),(∀z∈J,g z.2.2=g z.1)->((J.map (·.2.2)).map g).Perm ((ak (T.sum p q)).map g):=λg hg=>by
   have e:(J.map (·.2.2)).map g=(J.map (·.1)).map g:=by
    rw [Oq,Oq];exact Ot hg
   rw [e];exact γ.map g
  refine⟨T.cY (J.map (·.2.1)),T.cY (J.map (·.2.2)),?_,AE.cY λz h=>(H z h).2.1,CP λt ht=>?_,?_⟩
  ·rw [T.vk (by simpa using κ),Oq,(eP (w:=T.sum p q) rfl ρ tk).1];have e:J.map (T.text∘λz=>z.2.1)=bf (zs.map λz=>z.2.1.text):=y2;rw [e]
   congr 2
   rw [<-z1,Oq];exact Ot λz h=>(z2 z h).1
  ·obtain⟨z,h1,rfl⟩:=NT.1 ht;exact(H z h1).2.2.1
  ·refine⟨η.2.1,μ.1,huq,θ,ε,λρ tk=>?_,λtk=>?_,?_,?_,λhs=>?_,η.2.2⟩
   ·rw [(eP η.1 ρ tk).1,(eP (w:=T.sum p q) rfl ρ tk).1,ν]
    congr 1
    exact lf (ς _ λz h=>(H z h).2.2.2.ls ρ tk)
   ·rw [(eP η.1 ρ tk).2,(eP (w:=T.sum p q) rfl ρ tk).2,ν];simp only [thBad,Pr,wC];have h1:=zb (f:=λb:Bool=>b) (ς (λu=>cN u tk) λz h=>(H z h).2.2.2.bad tk);simpa [List.any_map,Function.comp_def]using h1
   ·rw [(eP η.1 ρ tk).2,(eP (w:=T.sum p q) rfl ρ tk).2,ν];simp only [thAll,PC,Hp];exact iB (ς ck λz h=>(H z h).2.2.2.all)
   ·rw [(eP η.1 ρ tk).2,(eP (w:=T.sum p q) rfl ρ tk).2,ν];refine Dr λk=>?_
    simp only [an,Nat.max_zero,xI];constructor
    ·intro h u δ;obtain⟨z,G,rfl⟩:=NT.1 (γ.symm.subset δ);rw [<-(H z G).2.2.2.most];exact h _ (OO G)
    ·intro h v hv;obtain⟨z,G,rfl⟩:=NT.1 hv;rw [(H z G).2.2.2.most];exact h _ (Z z G)
   ·have hg:=yg (T.sum p q) rfl hs;refine(G3 (by simpa using κ) λt ht=>?_).1;obtain⟨z,h1,rfl⟩:=NT.1 ht;have ha:=(H z h1).2.2.2;have hgz:=hg z.1 (Z z h1);refine⟨ha.smp (F7 _ hs z.1 (Z z h1)),?_⟩;rw [T.zV,ha.tg z.1 hgz.2,Nj];rcases hgz.1 with h | h | h<;>omega
def oJ {u:U}(hu:Uq u)(hd:u.dead=true):(∀ρ tk,LS u ρ tk=[48])/\(∀tk,cN u tk=false)/\ck u=0/\aY u=0:=by
 have h1:=lP hd;have G:(td u).1=[]:=by
  have :=(fF u hu).2.1;rw [cK u hu hd]at this;exact this.eq_nil
 refine⟨λρ tk=>?_,λtk=>?_,?_,?_⟩
 ·simp [LS,aP,h1,thS]
 ·simp [cN,fu,h1,Lv.isNil]
 ·simp [ck,h1,G,thAll]
 ·simp [aY,h1,G,an]
def arr:∀(n:Nat) (u:U) (ρ:Rh) (tk:Tk),u.size<=n->Uq u->IB u ρ tk->cN u tk=false->∃t v,Ih u ρ tk t v:=by
 intro n
 induction n with
 | zero=>intro u ρ tk h;cases u<;>simp [T.size]at h
 | succ n ih=>
  intro u ρ tk hn hu hm hb;cases hd:u.dead with
  | true=>
   obtain⟨d1,d2,d3,d4⟩:=oJ hu hd;have ω:Uq .nil:=⟨OG,λx h=>by cases h⟩
   obtain⟨e1,e2,e3,e4⟩:=oJ ω rfl;refine⟨.nil,.nil,by rw [d1];rfl,trivial,trivial,trivial,ω,λx h=>(by cases h),λx=>⟨λh=>h.elim,λh=>absurd h (T.bD hd)⟩,λρ tk=>by rw [d1,e1],λtk=>by rw [d2,e2],by rw [d3,e3],by rw [d4,e4],hd.symm,λ _=>rfl,λt ht=>?_,λ _=>rfl⟩;rw [cK u hu hd]at ht;cases ht
  | false=>
   have hne:=xj hd hu;obtain⟨g1,g2,_⟩:=fF u hu;have hlen:(td u).1.length=(aj u).1.length:=g2.length_eq;have hnil:(td u).2.isNil=false:=by rw [de,hd]
   simp only [cN,fu,hnil,Bool.not_false,OZ,Oz,hlen]at hb;obtain⟨hb1,ζ⟩:=hb;rw [g1,tW]at ζ;have ζ:∀t∈(aj u).2,thBad (tl [t]) (addK (lets (aj u).1.length tk) tk)=false:=by simpa [List.any_eq_false]using ζ
   obtain⟨l1,l2⟩:=vR _ tk hb1;have hls:=fq (aj u).1.length tk;generalize hl:lets (aj u).1.length tk=ls at*;have hLS:LS u ρ tk=wrap ls (bE ((perms (aj u).1).map λπ=>joinS 38 (bf ((aj u).2.map λt=>thU t (asg π ls ρ) (addK ls tk))))):=by
    rw [wY hu];unfold aP;rw [Nt (by simpa using hne)];show wrap (lets _ tk) (bE (List.map (λπ=>joinS 38 (bf ((aj u).2.map λt=>thU t (asg π (lets _ tk) ρ) (addK (lets _ tk) tk)))) _))=_;rw [hl]
   obtain⟨hmem,_⟩:=cf (l:=(perms (aj u).1).map λπ=>joinS 38 (bf ((aj u).2.map λt=>thU t (asg π ls ρ) (addK ls tk)))) (by simpa using oC _);obtain⟨π,G,ξ⟩:=NT.1 hmem;have G:=(cF _ π).1 G;have δ:π.length=ls.length:=by rw [G.length_eq,hls]
   have ο:=Hx u hu;have ι:π.Nodup:=G.nodup_iff.2 (NU.1 ο).1;have hmt:∀t∈(aj u).2,IB t (asg π ls ρ) (addK ls tk):=by
    intro t ht;have ς:∀y,t.Us y->y∈π\/(y∉π/\u.Us y):=λy hy=>by
     by_cases hp:y∈π
     ·exact .inl hp
     ·exact .inr ⟨hp,(kX u hu t ht y hy).resolve_right λh=>hp (G.symm.subset h)⟩
    refine⟨λy hy=>?_,λy z hy J e=>?_⟩
    ·rw [ym];rcases ς y hy with h | ⟨h,h'⟩
     ·have :=df π ls ρ y h δ;exact⟨by simp [this],(l2 _ this).2⟩
     ·rw [bn π ls ρ y h];exact⟨by simp [(hm.ok y h').1],(hm.ok y h').2⟩
    ·rcases ς y hy with h | ⟨h,h'⟩<;>rcases ς z J with k | ⟨k,k'⟩
     ·exact qZ π ls ρ y z h k δ l1 e
     ·rw [bn π ls ρ z k]at e;have :=(l2 _ (df π ls ρ y h δ)).1;rw [e,(hm.ok z k').1]at this;cases this
     ·rw [bn π ls ρ y h]at e;have :=(l2 _ (df π ls ρ z k δ)).1;rw [<-e,(hm.ok y h').1]at this;cases this
     ·rw [bn π ls ρ y h,bn π ls ρ z k]at e;exact hm.inj y z h' k' e
   obtain⟨zs,z1,z2⟩:=triples (R:=λu=>EL u (asg π ls ρ) (addK ls tk)) (l:=(aj u).2) λt ht=>
    Me ih (by have :=Bt u t ht;omega) (Fm hu t ht) (wP u t ht) (tu u t ht).1 (tu u t ht).2 (hmt t ht) (ζ t ht)
   obtain⟨Z,y1,y2⟩:=vV zs λz=>z.2.1.text
   have H:(Z.map (·.1)).Perm (aj u).2:=z1▸y1.map _;have J:∀z∈Z,EL z.1 (asg π ls ρ) (addK ls tk) z.2.1 z.2.2:=λz J=>z2 z (y1.subset J)
   have γ:∀z∈Z,z.1∈(aj u).2:=λz J=>H.subset (OO J)
   have ε:Z≠[]:=λe=>hne (by have :=H;rw [e]at this;exact this.symm.eq_nil)
   have η:∀w∈Z.map (·.2.2),w.th=true/\w.Nr:=λw hw=>by
    obtain⟨z,h1,rfl⟩:=NT.1 hw;exact⟨(J z h1).2.2.2.th,(J z h1).2.2.2.nr⟩
   have κ:∀x,(T.parL (Z.map (·.2.2))).Us x↔∃t∈(aj u).2,t.Us x:=λx=>by
    rw [T.rb];constructor
    ·rintro⟨v,h1,h2⟩
     obtain⟨z,h3,rfl⟩:=NT.1 h1;exact⟨z.1,γ z h3,((J z h3).2.2.2.us x).1 h2⟩
    ·rintro⟨u',h1,h2⟩
     obtain⟨z,h3,rfl⟩:=NT.1 (H.symm.subset h1);exact⟨_,OO h3,((J z h3).2.2.2.us x).2 h2⟩
   have μ:=T.C5 η;have υ:(T.resL π (T.parL (Z.map (·.2.2)))).Nr:=T.CL μ.1 ι λx hx=>(κ x).2 (zI u hu x (G.subset hx))
   have φ:∀x,(T.resL π (T.parL (Z.map (·.2.2)))).Us x↔u.Us x:=λx=>by
    rw [T.jt,κ];constructor
    ·rintro⟨h1,t,h2,h3⟩
     exact(kX u hu t h2 x h3).resolve_right λh=>h1 (G.symm.subset h)
    ·intro h;exact⟨λhx=>hu.nf x (ig u x (G.subset hx)) (T.bw h),F0 u x h⟩
   have hbv:∀x∈BV (T.resL π (T.parL (Z.map (·.2.2)))),x∈BV u:=λx hx=>by
    rw [dK,dJ]at hx;rcases Nk.1 hx with hx | hx
    ·exact ig u x (G.subset hx)
    ·obtain⟨v,h1,h2⟩:=Oo.1 hx;obtain⟨z,h3,rfl⟩:=NT.1 h1;exact Dd _ z.1 (γ z h3) x ((J z h3).2.2.2.bv x h2)
   have hndv:(BV (T.resL π (T.parL (Z.map (·.2.2))))).Nodup:=by
    rw [dK,dJ,Qb];have hp:=(H.flatMap_right BV)
    rw [Qb]at hp;have hnd':(Z.flatMap λz=>BV z.1).Nodup:=hp.nodup_iff.2 (NU.1 ο).2.1;refine NU.2 ⟨ι,pD (f:=λz=>BV z.1) hnd' λz h=>⟨(J z h).2.2.2.uq.nd,(J z h).2.2.2.bv⟩,λa ha b hb=>?_⟩;obtain⟨z,h1,h2⟩:=Oo.1 hb;exact(NU.1 ο).2.2 a (G.subset ha) b (Oo.2 ⟨z.1,γ z h1,(J z h1).2.2.2.bv b h2⟩)
   have θ:=qo hndv υ hbv (λx=>(φ x).1) hu;have ν:aj (T.resL π (T.parL (Z.map (·.2.2))))=(π,Z.map (·.2.2)):=by
    rw [Ce θ υ,T.AL,T.zX,T.Az λt ht=>(η t ht).1,T.ES λt ht=>(η t ht).1,NM]
   have χ:∀{β:Type} (g:U->β),(∀z∈Z,g z.2.2=g z.1)->((Z.map (·.2.2)).map g).Perm ((aj u).2.map g):=λg hg=>by
    have e:(Z.map (·.2.2)).map g=(Z.map (·.1)).map g:=by
     rw [Oq,Oq];exact Ot hg
    rw [e];exact H.map g
   obtain⟨k1,k2,_⟩:=fF _ θ;rw [ν]at k1 k2;have hdv:(T.resL π (T.parL (Z.map (·.2.2)))).dead=false:=by
    rw [j9,k1]
    match Z,ε,η with
    | z::l,_,h=>
     have :=(h z.2.2 (by simp)).1;intro hh;revert hh this;simp only [NI];cases z.2.2<;>simp [tl,Lv.len,T.th]
   have ψ:(td (T.resL π (T.parL (Z.map (·.2.2))))).1.length=(td u).1.length:=by rw [k2.length_eq,G.length_eq,hlen]
   refine⟨T.resL ls (T.parL (Z.map (·.2.1))),T.resL π (T.parL (Z.map (·.2.2))),?_,?_,?_,υ,θ,hbv,φ,λρ tk=>?_,λtk=>?_,?_,?_,by rw [hdv,hd],λhs=>?_,λt ht=>?_,λhns=>?_⟩
   ·rw [T.pM,hLS,<-ξ,T.pc (by simpa using ε),Oq];have e:Z.map (T.text∘λz=>z.2.1)=bf (zs.map λz=>z.2.1.text):=y2;rw [e,<-z1,Oq]
    congr 3
    exact Ot λz h=>(z2 z h).1
   ·refine AE.FV π ls ρ δ l1 (λz hz' hzp hc=>?_) (AE.parL λz h=>(J z h).2.1);have hzu:u.Us z:=(φ z).1 (T.jt.2 ⟨hzp,μ.1.gW hz'⟩);have :=(l2 _ hc).1;rw [(hm.ok z hzu).1]at this;cases this
   ·refine C4 (Dt λt ht=>?_) λc hc=>(l2 c hc).2
    obtain⟨z,h1,rfl⟩:=NT.1 ht;exact(J z h1).2.2.1
   ·rw [wY θ,wY hu,ν];exact jW G (λρ tk=>χ (λt=>thU t ρ tk) λz h=>(J z h).2.2.2.tx ρ tk) ρ tk
   ·unfold cN fu;rw [ψ,de,de,hdv,hd,k1,g1]
    congr 2
    rw [tW,tW];have h1:=zb (f:=λb:Bool=>b) (χ (λt=>thBad (tl [t]) (addK (lets (td u).1.length tk) tk)) λz h=>(J z h).2.2.2.bad _);simpa [List.any_map,Function.comp_def]using h1
   ·unfold ck;rw [ψ,k1,g1,Cf,Cf (aj u).2]
    congr 1
    exact iB (χ (λt=>thAll (tl [t])) λz h=>(J z h).2.2.2.all)
   ·unfold aY;rw [ψ,k1,g1]
    congr 1
    refine Dr λk=>?_
    rw [rh,rh];constructor
    ·intro h t ht;obtain⟨z,h3,rfl⟩:=NT.1 (H.symm.subset ht);rw [<-(J z h3).2.2.2.most];exact h _ (OO h3)
    ·intro h v hv;obtain⟨z,h3,rfl⟩:=NT.1 hv;rw [(J z h3).2.2.2.most];exact h _ (γ z h3)
   ·rw [Aq];refine AJ λt ht=>?_
    obtain⟨z,h1,rfl⟩:=NT.1 ht;exact(J z h1).2.2.2.smp (Hw u hs z.1 (γ z h1))
   ·rw [ht]at G H;have e1:π=[]:=G.eq_nil;have e2:=H.length_eq;rw [Nq]at e2
    match Z,e2,H,J with
    | [z],_,hs,J=>
     have:z.1=t:=by simpa using hs
     subst this;rw [e1];exact(J z (by simp)).2.2.2.tg
   ·cases hp:π with
    | cons x l=>rfl
    | nil=>
     rw [hp]at G;have e0:(aj u).1=[]:=G.symm.eq_nil
     match Z,ε,H,J with
     | [z],_,hs,J=>
      have e1:(aj u).2=[z.1]:=by
       have :=List.perm_singleton.1 hs.symm;simpa using this
      show z.2.2.isS=false;have htg:=(J z (by simp)).2.2.2.tg;rw [T.EH,htg,<-T.EH];cases hz1:z.1<;>first | rfl | skip
      rename_i p q;exact absurd (Prod.ext e0 (by rw [e1,hz1])) (hns p q)
     | z::y::l,_,_,_=>rfl
end
def vM:∀(n:Nat) (tk:Tk),lets (n+1) tk=lets n tk++[ic (addK (lets n tk) tk)]
 | 0,tk=>rfl
 | n+1,tk=>by
  rw [lets,vM n,lets];rfl
def pz:∀(n:Nat) (tk:Tk),fR (n+1) tk=(fR n tk||(uH (addK (lets n tk) tk)).isNone)
 | 0,tk=>by simp [fR,lets,addK]
 | n+1,tk=>by
  rw [fR,pz n,fR];rw [lets,addK,OL]
def gi:∀(l:List UInt8) (s:Tx),(wrap l s).length=3* l.length+s.length
 | [],s=>by simp [wrap]
 | c::l,s=>by simp only [wrap,M0,gi l s];omega
def sZ:∀{l:List UInt8} (s:Tx),(∀c∈l,¬c=35)->(wrap l s).count 35=l.length+s.count 35
 | [],s,_=>by simp [wrap]
 | c::l,s,h=>by
  have G:=sZ (l:=l) s λc H=>h c (Nh _ H)
  simp only [wrap,M0];rw [List.count_cons,a6 (h c (by simp)),a6 (by decide),G];simp;omega
def nR:∀{l:List UInt8} {s:Tx} {c:UInt8},(c∈l\/c∈s)->c∈wrap l s
 | [],s,c,h=>by simpa [wrap]using h
 | d::l,s,c,h=>by
  simp only [wrap,Nw];rcases h with h | h
  ·rcases Nw.1 h with h | h
   ·exact .inr (.inl h)
   ·exact .inr (.inr (.inr (nR (.inl h))))
  ·exact .inr (.inr (.inr (nR (.inr h))))
def fY {k m:Nat}{Θ ls A:Tx}(h:Gn k m Θ ls A):cy A=addK ls (cy Θ):=by
 funext c
 rw [ym,cy,cy,N'];simp only [Nj,OK];exact h.mem c
structure Je (k i:Nat)(Θ ls A:Tx):Prop where
 ok:Gn k i Θ ls A
 good:fR i (cy Θ)=false->ls=lets i (cy Θ)
 bad:fR i (cy Θ)=true->∃c∈ls,128<=c
def Je.zero {k:Nat}{Θ:Tx}(h:kC Θ):Je k 0 Θ [] Θ:=
 ⟨⟨rfl,OG,λc G=>(by cases G),h,λc=>by simp⟩,λ _=>rfl,λh=>by simp [fR]at h⟩
def Je.snoc {k i:Nat}{Θ ls A A':Tx}{c:UInt8}(h:Je k i Θ ls A)(H:zP (k+i) A c)(hs:kC A')(hA:∀x,x∈A'↔x=c\/x∈A):Je k (i+1) Θ (ls++[c]) A':=by
 have Z:c∉ls:=λhm=>H.nin ((h.ok.mem c).2 (.inr hm))
 have β:c∉Θ:=λhm=>H.nin ((h.ok.mem c).2 (.inl hm))
 refine⟨⟨by simp [h.ok.len],?_,λd hd=>?_,hs,λd=>?_⟩,λhb=>?_,λhb=>?_⟩
 ·refine NU.2 ⟨h.ok.nd,by simp,λa ha b hb e=>?_⟩;have:b=c:=by simpa using hb
  subst this;subst e;exact Z ha
 ·rcases Nk.1 hd with hd | hd
  ·have :=h.ok.ok d hd;exact⟨this.1,this.2.1.mono (by omega),this.2.2⟩
  ·have:d=c:=by simpa using hd
   subst this;exact⟨β,by rw [<-O'];exact H.okn,H.ngr,H.nm⟩
 ·rw [hA,h.ok.mem,Nk,ND];constructor
  ·rintro(h | h | h)
   ·exact .inr (.inr h)
   ·exact .inl h
   ·exact .inr (.inl h)
  ·rintro(h | h | h)
   ·exact .inr (.inl h)
   ·exact .inr (.inr h)
   ·exact .inl h
 ·rw [pz,Oz]at hb;have e:=h.good hb.1;rw [vM,<-e]
  congr 2
  have G:=hb.2;rw [<-e,<-fY h.ok]at G;rw [<-fY h.ok];exact H.good G
 ·rw [pz,OK]at hb;cases J:fR i (cy Θ)with
  | true=>
   obtain⟨d,h1,h2⟩:=h.bad J;exact⟨d,by simp [h1],h2⟩
  | false=>
   rw [J]at hb;have G:=hb.resolve_left (by simp);rw [<-h.good J,<-fY h.ok]at G;exact⟨c,by simp,H.bad G⟩
def wh:∀n,n<=90->(gH n).Nodup
 | 0,_=>OG
 | n+1,h=>by
  rw [AF];refine NU.2 ⟨wh n (by omega),by simp,λa ha b hb e=>?_⟩;have hb:b=gl n:=by simpa using hb
  obtain⟨j,H,G⟩:=gR.1 ha;have :=xD (by omega) (by omega) (G.symm.trans (e.trans hb));omega
structure Cq (on:Bool)(σ:Nat->Nat)(u:U)(Lo:List Tx)(ls A best:Tx):Prop where
 mem:∃o∈Lo,yl on σ u o ls A best
 le:∀o∈Lo,∃r,yl on σ u o ls A r/\iS best r=true
def yl.ne {on:Bool}{σ:Nat->Nat}{u:U}{o ls A r:Tx}(h:yl on σ u o ls A r)(G:(aj u).2≠[]):r≠[]:=by
 obtain⟨rs,rfl,ha⟩:=h;have H:=aS rs;refine Ap (λs J=>?_) λe=>G (NF ?_)
 ·obtain⟨t,_,Z⟩:=ha.get' (H.subset J);exact Z.ne
 ·rw [e]at H;rw [<-ha.1,H.symm.eq_nil];rfl
def yl.text {k:Nat}{σ:Nat->Nat}{u:U}{Θ o ls A r:Tx}{π:List Nat}(h:yl false σ u o ls A r)(hu:Uq u)(β:xL k Θ σ u)(γ:Gn k (aj u).1.length Θ ls A)(H:π.Perm (aj u).1)
  (ho:o.map UInt8.toNat=π.map (asgN (aj u).1 0 σ)) (J:o.Perm (gH (aj u).1.length)) (hm:(aj u).1.length<=64) (Z:∀t∈(aj u).2,an (tl [t])<=5) (δ:∀t∈(aj u).2,thBad (tl [t]) (cy A)=false) {ρ:Rh} (hc:Compat ρ σ u):
  r=joinS 38 (bf ((aj u).2.map λt=>thU t (asg π ls ρ) (cy A))):=by
 obtain⟨rs,rfl,ha⟩:=h
 congr 2
 have ζ:∀y∈(aj u).1,∀z∈(aj u).1,asgN (aj u).1 0 σ z=asgN (aj u).1 0 σ y->z=y:=by
  intro y hy z hz e;obtain⟨i,hi,rfl⟩:=Od.1 hy;obtain⟨j,hj,rfl⟩:=Od.1 hz;rw [js _ _ _ _ hi (fV u hu),js _ _ _ _ hj (fV u hu),NJ,NJ]at e;have :=xD (by omega) (by omega) (NK.1 e);subst this;rfl
 have η:o.Nodup:=J.nodup_iff.2 (wh _ (by omega));have :=aO.map_eq (f:=λr:Tx=>r) (g:=λt=>thU t (asg π ls ρ) (cy A)) (ha.mono λr t _ ht hw=>hw.eq (Z t ht) rfl (δ t ht) (asg π ls ρ) λy hy=>?_)
 ·simpa using this
 ·show(asg π ls ρ y).toNat=rnv o ls (asgN (aj u).1 0 σ y);by_cases G:y∈(aj u).1
  ·refine(Dk π o ls _ ρ y ho (by rw [H.length_eq,γ.len]) (λl hl θ=>?_) (H.symm.subset G) (λz hz e=>ζ y G z (H.subset hz) e) η).symm;obtain⟨j,h1,rfl⟩:=gR.1 (J.subset θ);exact dS (γ.ok _ hl).2.2.1 (yp (by omega))
  ·have ε:=(kX u hu t ht y hy).resolve_right G;rw [bn π ls ρ y λh=>G (H.subset h),iQ _ _ _ _ G,wV,hc y ε];intro o' ι e;obtain⟨c,h1,h2⟩:=β.cov y ε;obtain⟨j,h3,rfl⟩:=gR.1 (J.subset ι);have:c=gl j:=NK.1 (h2.trans e);exact dS (β.okn c h1).2 (this▸yp (by omega))
def rE {u:U}(hu:Uq u):aY u<=5->(aj u).1.length<=5/\∀t∈(aj u).2,an (tl [t])<=5:=by
 intro h;obtain⟨h1,G,_⟩:=fF u hu;unfold aY at h;rw [h1,G.length_eq]at h;exact⟨by omega,(rh _ _).1 (by omega)⟩
def Ac {u:U}(hu:Uq u):decide (5< aY u)=(decide (5< (aj u).1.length)||(aj u).2.any λt=>decide (5< an (tl [t]))):=by
 rw [N',OK,Nj,Nj,O7];constructor
 ·intro h;rcases ON 5 (aj u).1.length with h1 | h1
  ·exact .inl h1
  ·right;refine Oy λZ=>?_
   have G:∀t∈(aj u).2,an (tl [t])<=5:=λt ht=>by
    rcases ON 5 (an (tl [t]))with H | H
    ·exact absurd ⟨t,ht,OS H⟩ Z
    ·exact H
   obtain⟨k1,J,_⟩:=fF u hu;unfold aY at h;rw [k1,J.length_eq]at h;have :=(rh (aj u).2 5).2 G;omega
 ·intro h;refine Oy λZ=>?_
  obtain⟨k1,J⟩:=rE hu (by omega);rcases h with h | ⟨t,h1,G⟩
  ·omega
  ·have :=J t h1;have :=NB G;omega
def WR.HJ {on:Bool}{k:Nat}{σ:Nat->Nat}{u:U}{Θ ls A best:Tx}{Lo:List Tx}(hu:Uq u)(J:(aj u).2≠[])(ε:xL k Θ σ u)(hl:Je k (aj u).1.length Θ ls A)(hm:(aj u).1.length<=64)
  (ζ:∀o∈Lo,o.Perm (gH (aj u).1.length)) (η:on=false->∀o,o.Perm (gH (aj u).1.length)->o∈Lo) (h:Cq on σ u Lo ls A best):WR on u σ Θ (wrap ls best):=by
 obtain⟨o0,θ,hN⟩:=h.mem;have ι:=hN.ne J;obtain⟨rs,G,ha⟩:=hN;have H:=hl.ok;have hp:=aS rs;have μ:rs≠[]:=λe=>J (NF (by rw [<-ha.1,e];rfl))
 have ν:bf rs≠[]:=λe=>μ (by rw [e]at hp;exact hp.symm.eq_nil)
 have ξ:∀c∈ls,¬c=35:=λc hc=>iY (H.ok c hc).2.2.2
 obtain⟨g1,g2,_⟩:=fF u hu;have Z:(td u).2.isNil=false:=by
  rw [de];cases hd:u.dead with
  | false=>rfl
  | true=>rw [cK u hu hd]at J;exact absurd rfl J
 refine⟨λe=>?_,?_,λhM=>?_,λhM γ hb=>?_,λhM γ hb ρ hc=>?_⟩
 ·have :=gi ls best;rw [e]at this;have h2:best.length≠0:=λe=>ι (NF e)
  simp at this;omega
 ·have h1:=nh 38 _ ν;have h2:=lK hp;have h3:=ha.Gj;have h4:=eX u;rw [gi,H.len,G];omega
 ·obtain⟨m1,m2⟩:=rE hu hM;rw [sZ _ ξ,H.len,G,kF (by decide),iB (hp.map _)];unfold ck;rw [g1,g2.length_eq,Cf]
  congr 2
  exact aO.map_eq (ha.mono λr t _ ht hw=>hw.cnt (m2 t ht))
 ·obtain⟨m1,m2⟩:=rE hu hM;unfold cN fu at hb;rw [Z,g2.length_eq]at hb;simp only [Bool.not_false,OZ,OK]at hb;cases δ:fR (aj u).1.length (cy Θ)with
  | true=>
   obtain⟨c,h1,h2⟩:=hl.bad δ;exact⟨c,nR (.inl h1),h2⟩
  | false=>
   rw [δ]at hb;have hb:=hb.resolve_left (by simp);rw [<-hl.good δ,<-fY H,g1,tW,O7]at hb;obtain⟨t,h1,h2⟩:=hb;obtain⟨r,h3,h4⟩:=ha.get h1;obtain⟨c,h5,h6⟩:=h4.bad (m2 t h1) γ h2;refine⟨c,nR (.inr ?_),h6⟩;rw [G];exact pG (hp.symm.subset h3) h5
 ·obtain⟨m1,m2⟩:=rE hu hM;subst γ;unfold cN fu at hb;rw [Z,g2.length_eq]at hb;simp only [Bool.not_false,OZ,Oz]at hb;have e:=hl.good hb.1;have β:=hb.2;rw [<-e,<-fY H,g1,tW,List.any_eq_false]at β;have β:∀t∈(aj u).2,thBad (tl [t]) (cy A)=false:=λt ht=>by simpa using β t ht
  rw [wY hu];unfold aP;rw [Nt (by simpa using J)];show _=wrap (lets _ (cy Θ)) (bE (List.map (λπ=>joinS 38 (bf ((aj u).2.map λt=>thU t (asg π (lets _ (cy Θ)) ρ) (addK (lets _ (cy Θ)) (cy Θ))))) _));rw [<-e,<-fY H]
  congr 1
  symm
  have κ:∀o:Tx,o.Perm (gH (aj u).1.length)->∃π:List Nat,π.Perm (aj u).1/\o.map UInt8.toNat=π.map (asgN (aj u).1 0 σ):=λo ho=>by
   refine jl ((ho.map UInt8.toNat).trans ?_);have:(gH (aj u).1.length).map UInt8.toNat=(aj u).1.map (asgN (aj u).1 0 σ):=by
    refine Ps (by simp [gN]) λi h1 h2=>?_
    simp only [Ov];have hi:i< (aj u).1.length:=by simpa using h2
    rw [js _ _ _ _ hi (fV u hu),NJ];simp [gH]
   rw [this]
  refine fZ ?_ λs hs=>?_
  ·obtain⟨π,h1,h2⟩:=κ o0 (ζ _ θ);refine NT.2 ⟨π,(cF _ _).2 h1,?_⟩;exact(yl.text ⟨rs,G,ha⟩ hu ε H h1 h2 (ζ _ θ) hm m2 β hc).symm
  ·obtain⟨π,h1,rfl⟩:=NT.1 hs;have h1:=(cF _ _).1 h1;have h3:(π.map (asgN (aj u).1 0 σ)).Perm ((gH (aj u).1.length).map UInt8.toNat):=by
    have:(gH (aj u).1.length).map UInt8.toNat=(aj u).1.map (asgN (aj u).1 0 σ):=by
     refine Ps (by simp [gN]) λi h1 h2=>?_
     simp only [Ov];have hi:i< (aj u).1.length:=by simpa using h2
     rw [js _ _ _ _ hi (fV u hu),NJ];simp [gH]
    rw [this];exact h1.map _
   obtain⟨o,h4,h5⟩:=jl h3;obtain⟨r,h6,h7⟩:=h.le o (η rfl o h4);rw [<-h6.text hu ε H h1 h5.symm h4 hm m2 β hc];exact h7
def WR.Ij {on:Bool}{u:U}{σ:Nat->Nat}{Θ:Tx}(hu:Uq u)(hd:u.dead=true):WR on u σ Θ [48]:=by
 obtain⟨h1,G,H,h4⟩:=oJ hu hd;exact⟨by simp,y7 u,λ _=>by rw [H];rfl,λ _ _ hb=>(by rw [G]at hb;cases hb),λ _ _ _ ρ _=>by rw [h1]⟩
def WR.Ef {on:Bool}{u:U}{σ:Nat->Nat}{Θ:Tx}(h:5< aY u):WR on u σ Θ [48]:=
 ⟨by simp,y7 u,λhm=>by omega,λhm=>by omega,λhm=>by omega⟩
def Ex.aG {w w':World}(h:w.grownBy w' none):Ex w w':=⟨h.os,h.tape,h.output,h.size,λg G=>h.block g G (by simp)⟩
def Bw {l:Tx}{i:Nat}(h:i< l.length):List.drop (Int.toNat (i:Int)) (List.take (Int.toNat ((i:Int)+1)) l)=[bt l i]:=by
 have e:Int.toNat ((i:Int)+1)=i+1:=by omega
 rw [e,Nf,gM h];exact List.drop_left' (by rw [NW];omega)
def Cx {l:Tx}{i:Nat}(h:i< l.length):List.drop i (List.take (Int.toNat ((i:Int)+1)) l)=[bt l i]:=by
 have :=Bw h
 rwa [Nf]at this
def vn {l:Tx}{i:Nat}(h:i< l.length)(s:Tx):wrap (l.drop i) s=35::bt l i::46::wrap (l.drop (i+1)) s:=by
 rw [rj h];rfl
end Go.Proofs.YthekamjhgabkjaaGreat
