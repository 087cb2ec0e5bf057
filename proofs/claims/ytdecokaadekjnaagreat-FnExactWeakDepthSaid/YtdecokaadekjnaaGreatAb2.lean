/- Part 2 of a proof of what the last text states; no condition. -/
import Derived.Test.YtdecokaadekjnaaGreatAb1
set_option maxRecDepth 100000
set_option maxHeartbeats 4000000
namespace Go.Proofs.YtdecokaadekjnaaGreat
open Go Go.RowKit
theorem lV {s:Tx}{i:Nat}(h:i< s.length):bt s i∈s:=by
 simp only [bt,P9,OH h,Option.getD_some];exact OP h
theorem Cv {s:Tx}{c:UInt8}(h:c∈s):∃i,i< s.length/\bt s i=c:=by
 obtain⟨i,hi,e⟩:=PD.1 h;exact⟨i,hi,by simp [bt,hi,e]⟩
theorem iR {s:Tx}{c:UInt8}(V:s.length<=1099511627776){w:World}{R:Bool->Sl}(h:R (decide (c∈s)) w):Sm 56 #[.string (ai s),.int .u8 c.toNat] w (an [.b] R):=by
 refine yn s c w R ?_;dsimp only [go_sem];dsimp only [go_sem,UInt8.reduceOfNat,UInt32.reduceOfNat,Nat.reduceAdd];refine⟨λi w'=>w=w'/\0<=i/\i<=s.length/\∀j:Nat,j< i->bt s j≠c,λi _=>((s.length:Int) - i).toNat,⟨rfl,by omega,by omega,λj hj=>by omega⟩,λi w1 H=>?_⟩;obtain⟨rfl,W,Z,h2⟩:=H;refine⟨λhc=>⟨by simp at hc;omega,λhe=>?_,λhe=>?_⟩,λhc=>?_⟩
 ·simp only [OW]at hc he;rw [PL (he▸lV (by omega))]at h;exact h
 ·simp only [OW,OV]at hc he;refine⟨by omega,⟨rfl,by omega,by omega,λj hj=>?_⟩,by dsimp only;omega⟩;rcases Qn j i.toNat with G | G
  ·exact h2 j (by omega)
  ·have:j=i.toNat:=by omega
   rw [this];exact he
 ·simp only [OV]at hc;have J:¬c∈s:=λhm=>by
   obtain⟨j,hj,e⟩:=Cv hm;exact h2 j (by omega) e
  rw [PX J]at h;exact h
theorem wJ {s:Tx}{i:Int}(H:0<=i)(h:i< s.length):List.drop i.toNat (List.take (i+1).toNat s)=[bt s i.toNat]:=by
 obtain⟨n,rfl⟩:∃n:Nat,i=n:=⟨i.toNat,by omega⟩
 have e:((n:Int)+1).toNat=n+1:=by omega
 have G:n< s.length:=by omega
 rw [e,OU,List.drop_take,Nat.add_sub_cancel_left,bJ G];rfl
theorem gC {s:Tx}{i:Int}(H:0<=i)(h:i< s.length):s.take (i+1).toNat=s.take i.toNat++[bt s i.toNat]:=by
 obtain⟨n,rfl⟩:∃n:Nat,i=n:=⟨i.toNat,by omega⟩
 have e:((n:Int)+1).toNat=n+1:=by omega
 have G:n< s.length:=by omega
 rw [e,OU,List.take_add_one]
 congr 1
 simp [bt,OH G]
theorem Bu {s:Tx}{c:UInt8}(J:s.length<=1099511627776){w:World}{R:aB->Sl}(h:R (s.filter λd=>decide (d≠c)) w):Sm 119 #[.string (ai s),.int .u8 c.toNat] w (an [.s] R):=by
 refine uj s c w R ?_;dsimp only [go_sem];dsimp only [go_sem,UInt8.reduceOfNat,UInt32.reduceOfNat,Nat.reduceAdd];refine⟨λout i w'=>w=w'/\0<=i/\i<=s.length/\out=(s.take i.toNat).filter λd=>decide (d≠c),λ _ i _=>((s.length:Int) - i).toNat,⟨rfl,by omega,by omega,rfl⟩,λout i w1 H=>?_⟩;obtain⟨rfl,G,V,rfl⟩:=H;refine⟨λhc=>?_,λhc=>?_⟩
 ·simp only [OW]at hc;have W:((s.take i.toNat).filter λd=>decide (d≠c)).length<=s.length:=PN (QI ..) (by rw [Pt];omega);refine⟨by omega,λhe=>?_,λhe=>?_⟩
  ·simp only [QG,OV]at he;rw [wJ G hc];refine⟨by omega,by omega,by simp only [OF,OX];omega,by omega,⟨rfl,by omega,by omega,?_⟩,by dsimp only;omega⟩;rw [gC G hc,List.filter_append,List.filter_cons,if_pos (by simpa using he),List.filter_nil]
  ·simp only [Bool.not_eq_false',OW]at he;refine⟨by omega,⟨rfl,by omega,by omega,?_⟩,by dsimp only;omega⟩;rw [gC G hc,List.filter_append,List.filter_cons,if_neg (by simpa using he),List.filter_nil,List.append_nil]
 ·simp only [OV]at hc;have:i.toNat=s.length:=by omega
  rw [this,Pa];exact h
theorem lz {w1:World}(c:UInt8){w2:World}{b:Nat}(hb:b=w1.heap.size)(h:w2=w1.alloc (.cells #[.int .u8 c.toNat] 5)):
  ∀(j:Nat) (x:UInt8),[c][j]?=some x->w2.cell? ⟨b,0+j,none⟩=some (.int .u8 x.toNat):=by
 intro j x G;subst hb h
 match j,G with
 | 0,G=>simp at G;subst G;exact aa rfl
 | j+1,G=>simp at G
theorem fD {s:Tx}{c:UInt8}(hs:jb s){w:World}{R:aB->Sl}(h:∀s' w',Ex w w'->jb s'->(∀x,x∈s'↔x=c\/x∈s)->R s' w'):
  Sm 121 #[.string (ai s),.int .u8 c.toNat] w (an [.s] R):=by
 refine vR s c w R ?_;dsimp only [go_sem];dsimp only [go_sem,UInt8.reduceOfNat,UInt32.reduceOfNat,Nat.reduceAdd];have hl:=hs.bound;refine⟨λi w'=>w=w'/\0<=i/\i<=s.length/\∀j:Nat,j< i->bt s j< c,λi _=>((s.length:Int) - i).toNat,⟨rfl,by omega,by omega,λj hj=>by omega⟩,λi w1 hI=>?_⟩;obtain⟨rfl,h0,h1,h2⟩:=hI;have put:(i=s.length\/c< bt s i.toNat)->∀w1,w1=w.drew->(0<=i/\i<=s.length)/\(0<=i/\i<=s.length)/\∀(b9:Nat) (J:World),b9=w1.heap.size->J=w1.alloc (.cells #[.int .u8 c.toNat] 5)->
   True/\∃(β γ δ W:Nat) (H:aB),(Value.slice (some ⟨b9,0,none⟩) 1 1)=Value.slice (some ⟨β,γ,none⟩) δ W/\H.length=δ/\(∀(j:Nat) (x:UInt8),H[j]?=some x->J.cell? ⟨β,γ+j,none⟩=some (.int .u8 x.toNat))/\True/\
    ((s.take i.toNat).length+H.length<=4611686018427387904)/\((s.take i.toNat++H).length+(s.drop i.toNat).length<=4611686018427387904)/\R ((s.take i.toNat++H)++s.drop i.toNat) J:=by
  rintro hp w1 rfl
  refine⟨by omega,by omega,λb9 J hb hw=>⟨trivial,b9,0,1,1,[c],rfl,rfl,lz c hb hw,trivial,?_,?_,?_⟩⟩
  ·simp only [Pt,OF,OX];omega
  ·simp only [OM,Pt,Qq,OF,OX];omega
  ·have ε:∀x∈s.take i.toNat,x< c:=by
    intro x G;obtain⟨j,hj,e⟩:=Cv G;rw [Pt]at hj;have:bt (s.take i.toNat) j=bt s j:=by simp only [bt,P9];rw [Qm (by omega)]
    rw [<-e,this];exact h2 j (by omega)
   have ζ:∀x∈s.drop i.toNat,c< x:=by
    rcases hp with hp | hp
    ·intro x G;rw [hp,OU,QQ]at G;cases G
    ·intro x G;have hi:i.toNat< s.length:=by
      rcases Qn i.toNat s.length with h | h
      ·exact h
      ·rw [Qs h]at G;cases G
     have hd:=bJ hi;have η:jb (s.drop i.toNat):=QJ (List.drop_sublist _ _) hs;rw [hd]at G η;rcases O4.1 G with rfl | G
     ·exact hp
     ·exact UInt8.lt_trans hp ((QX.1 η).1 x G)
   refine h _ _ (hw▸(Ex.drew w).trans (Ex.alloc _ _)) ?_ ?_
   ·rw [Pv];refine RV.2 ⟨QJ (List.take_sublist _ _) hs,?_,?_⟩
    ·exact QX.2 ⟨ζ,QJ (List.drop_sublist _ _) hs⟩
    ·intro x G y hy;rcases O4.1 hy with rfl | hy
     ·exact ε x G
     ·exact UInt8.lt_trans (ε x G) (ζ y hy)
   ·intro x;have:x∈s↔x∈s.take i.toNat\/x∈s.drop i.toNat:=by rw [<-OS,P4]
    rw [this];simp only [OS,O4,QE,Q6];constructor
    ·rintro((h | h) | h)
     ·exact .inr (.inl h)
     ·exact .inl h
     ·exact .inr (.inr h)
    ·rintro(h | h | h)
     ·exact .inl (.inr h)
     ·exact .inl (.inl h)
     ·exact .inr h
 have same:i< s.length->bt s i.toNat=c->R s w:=λhi he=>h s w (Ex.refl w) hs λx=>⟨.inr,λG=>G.elim (λe=>by rw [e,<-he];exact lV (by omega)) id⟩
 have fin:i< s.length->¬bt s i.toNat< c->¬bt s i.toNat=c->c< bt s i.toNat:=λ _ h1 h2=>by
  rcases UInt8.lt_or_lt_of_ne (R2 h2)with h | h
  ·exact h
  ·exact absurd h h1
 refine⟨λhc=>?_,λhc=>?_⟩
 ·have V:i< s.length:=by simpa using hc
  refine⟨by omega,λhb=>?_,λhb=>?_⟩
  ·simp only [OW]at hb;refine⟨by omega,⟨rfl,by omega,by omega,λj hj=>?_⟩,by dsimp only;omega⟩;rcases Qn j i.toNat with θ | θ
   ·exact h2 j (by omega)
   ·have:j=i.toNat:=by omega
    rw [this];exact hb
  ·simp only [OV]at hb;refine⟨λ _=>⟨by omega,λhe=>same V (by simpa using he),λhe=>?_⟩,λZ=>absurd hc (by rw [Z];simp)⟩;exact⟨λ _=>True,λw1 α=>⟨trivial,put (.inr (fin V hb (by simpa using he))) w1 α⟩⟩
 ·have V:i=s.length:=by simp at hc;omega
  refine⟨λZ=>absurd Z (by rw [hc];simp),λ _=>?_⟩;exact⟨λ _=>True,λw1 α=>⟨trivial,put (.inl V) w1 α⟩⟩
theorem fX {s t:Tx}(Z:jb s)(ht:t.length<=1099511627776){w:World}{R:aB->Sl}(h:∀G w',Ex w w'->jb G->(∀x,x∈G↔x∈s\/x∈t)->R G w'):
  Sm 104 #[.string (ai s),.string (ai t)] w (an [.s] R):=by
 refine uI s t w R ?_;dsimp only [go_sem];dsimp only [go_sem,UInt8.reduceOfNat,UInt32.reduceOfNat,Nat.reduceAdd];refine⟨λout i w'=>Ex w w'/\0<=i/\i<=t.length/\jb out/\∀x,x∈out↔x∈s\/x∈t.take i.toNat,λ _ i _=>((t.length:Int) - i).toNat,⟨Ex.refl w,by omega,by omega,Z,by simp⟩,λout i w1 hI=>?_⟩;obtain⟨W,h0,h1,h2,H⟩:=hI;refine⟨λhc=>?_,λhc=>?_⟩
 ·simp only [OW]at hc;refine⟨by omega,fD h2 λG w' J V hm=>⟨by omega,⟨W.trans J,by omega,by omega,V,λx=>?_⟩,by dsimp only;omega⟩⟩;rw [hm,H,gC h0 hc,List.mem_append,List.mem_singleton];constructor
  ·rintro(h | h | h)
   ·exact .inr (.inr h)
   ·exact .inl h
   ·exact .inr (.inl h)
  ·rintro(h | h | h)
   ·exact .inr (.inl h)
   ·exact .inr (.inr h)
   ·exact .inl h
 ·simp only [OV]at hc;have:i.toNat=t.length:=by omega
  rw [this,Pa]at H;exact h out w1 W h2 H
def tL (s:Tx)(c:UInt8):Prop:=
 vF (λd=>decide (d∈s))=some c\/
 (vF (λd=>decide (d∈s))=none/\128<=c/\c<=191/\(∀d:UInt8,128<=d->d< c->d∈s)/\(c∉s\/c=191))
theorem CV (i:Nat)(h:i< nA.length):nA[i]=UInt8.ofNat (97+i):=by
 simp [nA]
theorem ud {f:UInt8->Bool}{c:UInt8}(G:97<=c)(h2:c<=122)(H:f c=true)(J:∀d:UInt8,97<=d->d< c->f d=false):nA.find? f=some c:=by
 have V:97<=c.toNat:=O6.1 G;have W:c.toNat<=122:=O6.1 h2;have Z:nA.length=26:=by simp [nA]
 rw [List.find?_eq_some_iff_getElem];refine⟨H,c.toNat - 97,by omega,?_,λj hj=>?_⟩
 ·rw [CV];apply Pe.1;rw [PT];omega
 ·rw [CV];have e:(UInt8.ofNat (97+j)).toNat=97+j:=by rw [PT];omega
  rw [J _ (O6.2 (by rw [e];show 97<=_;omega)) (PA.2 (by omega))];rfl
theorem wX {f:UInt8->Bool}(G:∀d:UInt8,97<=d->d<=122->f d=false):nA.find? f=none:=by
 rw [List.find?_eq_none];intro d hd;have H:nA.length=26:=by simp [nA]
 obtain⟨j,hj,rfl⟩:=PD.1 hd;rw [CV];have e:(UInt8.ofNat (97+j)).toNat=97+j:=by rw [PT];omega
 rw [G _ (O6.2 (by rw [e];show 97<=_;omega)) (O6.2 (by rw [e];show _<=122;omega))];simp
theorem jB {s:Tx}(hs:s.length<=1099511627776){w:World}{R:UInt8->Sl}(h:∀c,tL s c->R c w):Sm 75 #[.string (ai s)] w (an [.c] R):=by
 refine rS s w R ?_;dsimp only [go_sem];dsimp only [go_sem,UInt8.reduceOfNat,UInt32.reduceOfNat,Nat.reduceAdd];refine⟨λc w'=>w=w'/\97<=c/\c<=123/\∀d:UInt8,97<=d->d< c->d∈s,λc _=>200 - c.toNat,⟨rfl,by decide,by decide,λd h1 h2=>absurd (UInt8.lt_of_le_of_lt h1 h2) (RG _)⟩,λc w1 hI=>?_⟩;obtain⟨rfl,h0,h1,h2⟩:=hI;have ε:=O6.1 h0;have ζ:=O6.1 h1;refine⟨λhc=>iR hs ?_,λhc=>?_⟩
 ·simp only [OW]at hc;have Z:=O6.1 hc;refine⟨λhm=>?_,λhm=>?_⟩
  ·simp only [QG,OV]at hm;refine h c (.inl (ud h0 hc (by simpa using hm) λd G H=>by simpa using h2 d G H))
  ·simp only [Bool.not_eq_false',OW]at hm;have e:(c+1).toNat=c.toNat+1:=by rw [RE];show(c.toNat+1) % 256=_;exact RZ (by have:(122:UInt8).toNat=122:=rfl;omega)
   have α:(122:UInt8).toNat=122:=rfl;have γ:(123:UInt8).toNat=123:=rfl;have η:(97:UInt8).toNat=97:=rfl;refine⟨⟨rfl,O6.2 (by omega),O6.2 (by omega),λd G H=>?_⟩,by dsimp only;omega⟩;have W:=PA.1 H;by_cases J:d=c
   ·rw [J];exact hm
   ·refine h2 d G (PA.2 ?_);have:d.toNat≠c.toNat:=λe=>J (Pe.1 e)
    omega
 ·simp only [OV]at hc;have Z:¬c.toNat<=122:=λhh=>hc (O6.2 hh)
  have V:vF (λd=>decide (d∈s))=none:=by
   refine wX λd G H=>?_
   have W:=O6.1 H;have α:(122:UInt8).toNat=122:=rfl;simpa using h2 d G (PA.2 (by omega))
  refine⟨λc w'=>w=w'/\128<=c/\c<=191/\∀d:UInt8,128<=d->d< c->d∈s,λc _=>200 - c.toNat,⟨rfl,by decide,by decide,λd h1 h2=>absurd (UInt8.lt_of_le_of_lt h1 h2) (RG _)⟩,λc w1 hI=>?_⟩;obtain⟨rfl,k0,k1,k2⟩:=hI;have θ:=O6.1 k0;have ι:=O6.1 k1;refine⟨λhc=>iR hs ?_,λhc=>?_⟩
  ·simp only [OW]at hc;have Z:=PA.1 hc;have β:(191:UInt8).toNat=191:=rfl;have δ:(128:UInt8).toNat=128:=rfl;refine⟨λhm=>?_,λhm=>?_⟩
   ·simp only [OW]at hm;have e:(c+1).toNat=c.toNat+1:=by rw [RE];show(c.toNat+1) % 256=_;exact RZ (by omega)
    refine⟨⟨rfl,O6.2 (by omega),O6.2 (by omega),λd G H=>?_⟩,by dsimp only;omega⟩;have W:=PA.1 H;by_cases J:d=c
    ·rw [J];exact hm
    ·refine k2 d G (PA.2 ?_);have:d.toNat≠c.toNat:=λe=>J (Pe.1 e)
     omega
   ·simp only [OV]at hm;exact h c (.inr ⟨V,k0,k1,k2,.inl hm⟩)
  ·simp only [OV]at hc;have Z:¬c.toNat< 191:=λhh=>hc (PA.2 hh)
   have β:(191:UInt8).toNat=191:=rfl;exact h c (.inr ⟨V,k0,k1,k2,.inr (Pe.1 (by omega))⟩)
theorem a8 (t:P):t.size=1+(t.parts.map T.size).sum:=by
 cases t<;>simp [T.size,T.parts]<;>omega
theorem BG (l:List P)(k:Nat):((l.take k).map T.size).sum<=(l.map T.size).sum:=by
 conv=>rhs;rw [<-P4 k l]
 rw [PH,R9];omega
theorem dY (t:P):t.parts.length<=2:=by cases t<;>simp [T.parts]
theorem eA {t p:P}(h:p∈t.parts):p.size< t.size:=by
 cases t<;>simp only [T.parts,O4,QE,Q6,List.mem_nil_iff]at h<;>simp only [T.size]
 all_goals first | exact h.elim | (rcases h with rfl | rfl<;>omega) | (subst h;omega)
theorem GK:∀(n:Nat) {t:P},t.size<=n->Ok t->∀{w:World} {R:Int->Sl},(∀w',Ex w w'->R (t.size:Int) w')->Sm 111 #[.string (ai t.text)] w (an [.i] R):=by
 intro n
 induction n with
 | zero=>intro t h;have :=a8 t;omega
 | succ n ih=>
  intro t hn ok w R h;refine tb _ w R ?_;dsimp only [go_sem];dsimp only [go_sem,UInt8.reduceOfNat,UInt32.reduceOfNat,Nat.reduceAdd];refine de ok λv w1 hx Z=>?_
  obtain⟨a,cap,hv⟩:=Z.slice;rw [O8]at hv;have α:=bE t;have hle:=ok.len;refine⟨a,t.parts.length,cap,hv,λm x w'=>Ex w w'/\Strs w' v (t.parts.map T.text)/\∃k:Nat,x=k/\k<=t.parts.length/\m=1+(((t.parts.take k).map T.size).sum:Int),λ _ x _=>((t.parts.length:Int) - x).toNat,
   ⟨hx,Z,0,rfl,by omega,by simp⟩,λm x w2 hI=>?_⟩
  obtain⟨H,J,k,rfl,hk,rfl⟩:=hI;refine⟨λhc=>?_,λhc=>?_⟩
  ·have G:k< t.parts.length:=by simpa using hc
   obtain⟨b,o,cp,e1,e2,e3⟩:=J.at (i:=k) (by rw [O8];exact G);rw [O8]at e1;refine⟨b,o,t.parts.length,cp,e1,by omega,by omega,(t.parts[k]).text,?_,?_⟩
   ·rw [OU,Pn,e3,RY]
   ·have hm:t.parts[k]∈t.parts:=OP G;refine ih (by have :=eA hm;omega) (ok.parts _ hm) λw3 V=>?_
    have W:((t.parts.take (k+1)).map T.size).sum=((t.parts.take k).map T.size).sum+(t.parts[k]).size:=by
     rw [OK G,PH,R9];simp
    have h1:=BG t.parts (k+1);have h2:=a8 t;have h3:=dY t;refine⟨by omega,by omega,⟨H.trans V,J.ex V,k+1,by omega,G,by rw [W];omega⟩,by dsimp only;omega⟩
  ·have G:k=t.parts.length:=by simp at hc;omega
   subst G;have e:=a8 t;rw [Pa];have:(1:Int)+((t.parts.map T.size).sum:Int)=(t.size:Int):=by omega
   rw [this];exact h _ H
def dU (c:UInt8):Bool:= !((65<=c&&c<=90)||128<=c)
theorem FX {p:Tx}(W:p.length<=1099511627776){w:World}{R:Bool->Sl}(h:R (p.all dU) w):Sm 109 #[.string (ai p)] w (an [.b] R):=by
 refine rV p w R ?_;dsimp only [go_sem];dsimp only [go_sem,UInt8.reduceOfNat,UInt32.reduceOfNat,Nat.reduceAdd];refine⟨λi w'=>w=w'/\0<=i/\i<=p.length/\∀j:Nat,j< i->dU (bt p j)=true,λi _=>((p.length:Int) - i).toNat,⟨rfl,by omega,by omega,λj hj=>by omega⟩,λi w1 H=>?_⟩;obtain⟨rfl,Z,h1,h2⟩:=H;have bad:i< p.length->dU (bt p i.toNat)=false->R false w:=λhi hb=>by
  have:p.all dU=false:=by
   rw [List.all_eq_false];exact⟨bt p i.toNat,lV (by omega),by simp [hb]⟩
  rw [this]at h;exact h
 have next:i< p.length->dU (bt p i.toNat)=true->a7 (i+1)/\(w=w/\0<=i+1/\i+1<=p.length/\∀j:Nat,j< i+1->dU (bt p j)=true)/\((p.length:Int) - (i+1)).toNat< ((p.length:Int) - i).toNat:=λhi hb=>by
  refine⟨by omega,⟨rfl,by omega,by omega,λj hj=>?_⟩,by omega⟩;rcases Qn j i.toNat with G | G
  ·exact h2 j (by omega)
  ·have:j=i.toNat:=by omega
   rw [this];exact hb
 refine⟨λhc=>?_,λhc=>?_⟩
 ·simp only [OW]at hc;refine⟨by omega,λJ=>⟨by omega,λa2=>⟨by omega,λa3=>bad hc ?_,λa3=>next hc ?_⟩,λa2=>bad hc ?_⟩,λJ=>⟨by omega,λa3=>bad hc ?_,λa3=>next hc ?_⟩⟩<;>
   simp_all [dU]
 ·simp only [OV]at hc;have:p.all dU=true:=by
   rw [QN];intro x V;obtain⟨j,hj,rfl⟩:=Cv V;exact h2 j (by omega)
  rw [this]at h;exact h
def T.lw:P->Bool
 | .nil=>true | .snd a b p=>lt a&&lt b&&p.lw | .rcv a b p=>lt a&&lt b&&p.lw | .tau p=>p.lw | .sum p q=>p.lw&&q.lw
 | .par p q=>p.lw&&q.lw | .res x p=>lt x&&p.lw | .mat a b p=>lt a&&lt b&&p.lw | .rep p=>p.lw
theorem il {c:UInt8}(h:lt c=true):nm c=true/\dU c=true:=by
 simp only [lt,OJ,OW]at h;have V:=O6.1 h.1;have h2:=O6.1 h.2;refine⟨by simp [nm,h.1,h.2],?_⟩;have J:(97:UInt8).toNat=97:=rfl;have H:(122:UInt8).toNat=122:=rfl;simp only [dU,QG,Qd,Bool.and_eq_false_iff,OV];refine⟨.inr λG=>?_,λG=>?_⟩
 ·have :=O6.1 G;have e:(90:UInt8).toNat=90:=rfl;omega
 ·have :=O6.1 G;have e:(128:UInt8).toNat=128:=rfl;omega
theorem tV {c:UInt8}(h:nm c=true)(k:dU c=true):lt c=true:=by
 simp only [nm,lt,dU,Qg,OJ,OW,QG,Qd,Bool.and_eq_false_iff,OV]at*;rcases h with(h | h) | h
 ·exact h
 ·exact absurd h (by rcases k.1 with k | k<;>simp [k])
 ·exact absurd h k.2
theorem jm:∀{t:P},t.lw=true->t.wf=true/\t.text.all dU=true
 | .nil,_=>⟨rfl,rfl⟩
 | .snd a b p,h=>by
  simp only [T.lw,OJ]at h;have :=jm h.2;simp [T.wf,T.text,(il h.1.1).1,(il h.1.1).2,(il h.1.2).1,(il h.1.2).2,this.1,this.2];decide
 | .rcv a b p,h=>by
  simp only [T.lw,OJ]at h;have :=jm h.2;simp [T.wf,T.text,(il h.1.1).1,(il h.1.1).2,(il h.1.2).1,(il h.1.2).2,this.1,this.2];decide
 | .mat a b p,h=>by
  simp only [T.lw,OJ]at h;have :=jm h.2;simp [T.wf,T.text,(il h.1.1).1,(il h.1.1).2,(il h.1.2).1,(il h.1.2).2,this.1,this.2];decide
 | .res x p,h=>by
  simp only [T.lw,OJ]at h;have :=jm h.2;simp [T.wf,T.text,(il h.1).1,(il h.1).2,this.1,this.2];decide
 | .tau p,h=>by have :=jm (t:=p) h;simp [T.wf,T.text,this.1,this.2];decide
 | .rep p,h=>by have :=jm (t:=p) h;simp [T.wf,T.text,this.1,this.2];decide
 | .sum p q,h=>by
  simp only [T.lw,OJ]at h;have G:=jm h.1;have h2:=jm h.2;simp [T.wf,T.text,G.1,G.2,h2.1,h2.2];decide
 | .par p q,h=>by
  simp only [T.lw,OJ]at h;have G:=jm h.1;have h2:=jm h.2;simp [T.wf,T.text,G.1,G.2,h2.1,h2.2];decide
theorem lx:∀{t:P},t.wf=true->t.text.all dU=true->t.lw=true
 | .nil,_,_=>rfl
 | .snd a b p,h,k=>by
  simp only [T.wf,T.text,OJ,PZ]at h k;simp [T.lw,tV h.1.1 k.1,tV h.1.2 k.2.2.1,lx h.2 k.2.2.2.2]
 | .rcv a b p,h,k=>by
  simp only [T.wf,T.text,OJ,PZ]at h k;simp [T.lw,tV h.1.1 k.1,tV h.1.2 k.2.2.1,lx h.2 k.2.2.2.2]
 | .mat a b p,h,k=>by
  simp only [T.wf,T.text,OJ,PZ]at h k;simp [T.lw,tV h.1.1 k.2.1,tV h.1.2 k.2.2.2.1,lx h.2 k.2.2.2.2.2]
 | .res x p,h,k=>by
  simp only [T.wf,T.text,OJ,PZ]at h k;simp [T.lw,tV h.1 k.2.1,lx h.2 k.2.2.2]
 | .tau p,h,k=>by simp only [T.text,OJ,PZ]at k;exact lx (t:=p) h k.2.2
 | .rep p,h,k=>by simp only [T.text,OJ,PZ]at k;exact lx (t:=p) h k.2
 | .sum p q,h,k=>by
  simp only [T.wf,T.text,OJ,PZ,Rl]at h k;simp [T.lw,lx h.1 k.2.1,lx h.2 k.2.2.2.1]
 | .par p q,h,k=>by
  simp only [T.wf,T.text,OJ,PZ,Rl]at h k;simp [T.lw,lx h.1 k.2.1,lx h.2 k.2.2.2.1]
structure Good (t:P):Prop where
 lw:t.lw=true
 len:t.text.length<=300
 size:t.size<=60
theorem Good.ok {t:P}(h:Good t):Ok t:=⟨(jm h.lw).1,by have :=h.len;omega⟩
theorem xu {p:Tx}{w:World}{R:Bool->Sl}(h:∀b w',Ex w w'->(b=true↔∃t:P,Good t/\t.text=p)->R b w'):Sm 65 #[.string (ai p)] w (an [.b] R):=by
 refine uV p w R ?_;dsimp only [go_sem];dsimp only [go_sem,UInt8.reduceOfNat,UInt32.reduceOfNat,Nat.reduceAdd];by_cases W:p.length<=1099511627776
 rotate_left
 ·exact aW (by omega) (h _ _ (Ex.refl w) ⟨λH=>by simp at H,fun⟨t,G,e⟩=>by have :=G.len;rw [e]at this;omega⟩)
 refine⟨λhc=>FX W ⟨λJ=>?_,λJ=>?_⟩,λhc=>?_⟩
 ·simp only [OW]at hc;refine oX p (by omega) (p.length+1) 0 (by omega) (by omega) (by omega) ⟨λhe=>?_,λhe=>?_⟩
  ·simp only [OW]at he;obtain⟨t,hw,G⟩:=CG (l:=p) (p.length+1) 0 (by show 0<=endI p _ 0;omega);have e0:endI p (p.length+1) ((0:Nat):Int)=p.length:=he;rw [e0,OU,QQ,Po,Qz]at G;subst G;have V:=lx hw J;refine GK t.size (OQ _) ⟨hw,W⟩ λw' Z=>h _ _ Z ?_
   simp only [OW];constructor
   ·intro α;exact⟨t,⟨V,by omega,by omega⟩,rfl⟩
   ·rintro⟨u,hu,e⟩
    have h1:=wU (l:=t.text) u (u.size+t.size) 0 [] hu.ok.wf (by omega) (by simp [e]);have:u=t:=by
     exact(mj hu.ok.wf hw (r:=[]) (r':=[]) (by simpa using e)).1
    rw [<-this];exact_mod_cast hu.size
  ·simp only [OV]at he;refine h _ _ (Ex.refl w) ⟨λH=>by simp at H,?_⟩
   rintro⟨t,G,rfl⟩
   exact absurd (by simpa using pH t G.ok.wf t.text 0 [] (by simp) (t.text.length+1) (by omega)) he
 ·refine h _ _ (Ex.refl w) ⟨λH=>by simp at H,?_⟩
  rintro⟨t,G,rfl⟩
  rw [(jm G.lw).2]at J;cases J
 ·simp only [OV]at hc;refine h _ _ (Ex.refl w) ⟨λH=>by simp at H,?_⟩
  rintro⟨t,G,rfl⟩
  have :=G.len;exact absurd (by omega) hc
theorem IY {p:Tx}(G:p.length<=1099511627776){w:World}{R:Bool->Sl}(h:∀b w',Ex w w'->(b=true↔∃t:P,Good t/\t.text=p)->R b w'):Sm 65 #[.string (ai p)] w (an [.b] R):=xu h
end Go.Proofs.YtdecokaadekjnaaGreat
namespace Go.Proofs.YtdecokaadekjnaaGreat
namespace T
def map {A B:Type}(f:A->B):T A->T B
 | nil=>nil | snd a b p=>snd (f a) (f b) (p.map f) | rcv a x p=>rcv (f a) (f x) (p.map f) | tau p=>tau (p.map f)
 | sum p q=>sum (p.map f) (q.map f) | par p q=>par (p.map f) (q.map f) | res x p=>res (f x) (p.map f) | mat a b p=>mat (f a) (f b) (p.map f) | rep p=>rep (p.map f)
def shp {A:Type}(p:T A):T Unit:=p.map λ _=>()
def aN {A:Type}:T A->Nat
 | nil=>1 | snd _ _ p=>p.aN+4 | rcv _ _ p=>p.aN+4 | tau p=>p.aN+2 | sum p q=>p.aN+q.aN+3 | par p q=>p.aN+q.aN+3
 | res _ p=>p.aN+3 | mat _ _ p=>p.aN+5 | rep p=>p.aN+1
def bd {A:Type}:T A->Nat
 | nil=>0 | snd _ _ p=>p.bd | rcv _ _ p=>p.bd+1 | tau p=>p.bd | sum p q=>max p.bd q.bd | par p q=>max p.bd q.bd
 | res _ p=>p.bd+1 | mat _ _ p=>p.bd | rep p=>p.bd
def rd {A:Type}:T A->Nat
 | nil=>0 | snd _ _ p=>p.rd | rcv _ _ p=>p.rd+1 | tau p=>p.rd | sum p q=>max p.rd q.rd | par p q=>max p.rd q.rd
 | res _ p=>p.rd | mat _ _ p=>p.rd | rep p=>p.rd
def ow {A:Type}:T A->Nat
 | nil=>0 | snd _ _ p=>p.ow | rcv _ _ p=>p.ow | tau p=>p.ow | sum p q=>p.ow+q.ow | par p q=>p.ow+q.ow
 | res _ p=>p.ow+1 | mat _ _ p=>p.ow | rep p=>p.ow
section
variable {A B:Type}
theorem size_map (f:A->B)(p:T A):(p.map f).size=p.size:=by induction p<;>simp_all [map,size]
theorem Ih (f:A->B)(p:T A):(p.map f).aN=p.aN:=by induction p<;>simp_all [map,aN]
theorem L7 (f:A->B)(p:T A):(p.map f).bd=p.bd:=by induction p<;>simp_all [map,bd]
theorem Lj (f:A->B)(p:T A):(p.map f).rd=p.rd:=by induction p<;>simp_all [map,rd]
theorem Lu (f:A->B)(p:T A):(p.map f).ow=p.ow:=by induction p<;>simp_all [map,ow]
theorem pG {p:T A}{q:T B}(h:p.shp=q.shp):p.size=q.size:=by
 have :=PS size h;simpa [shp,size_map]using this
theorem je {p:T A}{q:T B}(h:p.shp=q.shp):p.aN=q.aN:=by
 have :=PS aN h;simpa [shp,Ih]using this
theorem MB {p:T A}{q:T B}(h:p.shp=q.shp):p.bd=q.bd:=by
 have :=PS bd h;simpa [shp,L7]using this
theorem CE {p:T A}{q:T B}(h:p.shp=q.shp):p.rd=q.rd:=by
 have :=PS rd h;simpa [shp,Lj]using this
theorem zt {p:T A}{q:T B}(h:p.shp=q.shp):p.ow=q.ow:=by
 have :=PS ow h;simpa [shp,Lu]using this
theorem Ao (p:T A):p.bd<=p.rd+p.ow:=by induction p<;>simp only [bd,rd,ow]<;>omega
theorem cd (p:T A):p.rd+p.ow+1<=p.size:=by induction p<;>simp only [size,rd,ow]<;>omega
end
theorem aX (p:P):p.text.length=p.aN:=by
 induction p<;>simp_all [text,aN]<;>omega
end T
def okn (k:Nat)(x:UInt8):Prop:=x.toNat< 128+k\/192<=x.toNat
theorem okn.mono {k m:Nat}{x:UInt8}(h:okn k x)(G:k<=m):okn m x:=by unfold okn at*;omega
def ngr (x:UInt8):Prop:=x.toNat< 65\/(90< x.toNat/\x.toNat< 192)
def Eb:Nat->P->Prop
 | _,.nil=>True
 | k,.snd a b p=>okn k a/\okn k b/\Eb k p
 | k,.rcv a x p=>okn k a/\(ngr x/\∀z,p.Fr z->z≠x->okn k z)/\Eb (k+1) p
 | k,.tau p=>Eb k p
 | k,.sum p q=>Eb k p/\Eb k q
 | k,.par p q=>Eb k p/\Eb k q
 | k,.res x p=>(ngr x/\∀z,p.Fr z->z≠x->okn k z)/\Eb (k+1) p
 | k,.mat a b p=>okn k a/\okn k b/\Eb k p
 | k,.rep p=>Eb k p
theorem Eb.free:∀{p:P} {k:Nat},Eb k p->∀z,p.Fr z->okn k z
 | .nil,_,_,_,h=>h.elim
 | .snd a b p,k,e,z,h=>by
  rcases h with rfl | rfl | h
  ·exact e.1
  ·exact e.2.1
  ·exact Eb.free e.2.2 z h
 | .mat a b p,k,e,z,h=>by
  rcases h with rfl | rfl | h
  ·exact e.1
  ·exact e.2.1
  ·exact Eb.free e.2.2 z h
 | .rcv a x p,k,e,z,h=>by
  rcases h with rfl | h
  ·exact e.1
  ·exact e.2.1.2 z h.2 h.1
 | .res x p,k,e,z,h=>e.1.2 z h.2 h.1
 | .tau p,k,e,z,h=>Eb.free (p:=p) e z h
 | .rep p,k,e,z,h=>Eb.free (p:=p) e z h
 | .sum p q,k,e,z,h=>h.elim (Eb.free e.1 z) (Eb.free e.2 z)
 | .par p q,k,e,z,h=>h.elim (Eb.free e.1 z) (Eb.free e.2 z)
theorem Eb.mono:∀{p:P} {k m:Nat},Eb k p->k<=m->Eb m p
 | .nil,_,_,_,_=>trivial
 | .snd a b p,k,m,e,h=>⟨e.1.mono h,e.2.1.mono h,Eb.mono e.2.2 h⟩
 | .mat a b p,k,m,e,h=>⟨e.1.mono h,e.2.1.mono h,Eb.mono e.2.2 h⟩
 | .rcv a x p,k,m,e,h=>⟨e.1.mono h,⟨e.2.1.1,λz G h2=>(e.2.1.2 z G h2).mono h⟩,Eb.mono e.2.2 (by omega)⟩
 | .res x p,k,m,e,h=>⟨⟨e.1.1,λz G h2=>(e.1.2 z G h2).mono h⟩,Eb.mono e.2 (by omega)⟩
 | .tau p,k,m,e,h=>Eb.mono (p:=p) e h
 | .rep p,k,m,e,h=>Eb.mono (p:=p) e h
 | .sum p q,k,m,e,h=>⟨Eb.mono e.1 h,Eb.mono e.2 h⟩
 | .par p q,k,m,e,h=>⟨Eb.mono e.1 h,Eb.mono e.2 h⟩
theorem oB {k:Nat}{c:UInt8}(h:lt c=true):okn k c:=by
 simp only [lt,OJ,OW]at h;have h2:=O6.1 h.2;have G:(122:UInt8).toNat=122:=rfl;left;omega
theorem aD.free {p q:P}{old nm:UInt8}(h:aD p old nm q)(z:UInt8)(H:q.Fr z):z=nm\/(z≠old/\p.Fr z)\/(z=old/\p.Fr z/\old=nm):=by
 obtain⟨y,J,e⟩:=(h UInt8.toNat).symm.free z H;unfold aI at e;split at e
 ·left;exact(Pe.1 e).symm
 ·rename_i G;have:y=z:=Pe.1 e;subst this;exact .inr (.inl ⟨G,J⟩)
structure iQ (k:Nat)(p:P)(old nm:UInt8)(q:P):Prop where
 ok:aD p old nm q
 shp:q.shp=p.shp
 wf:q.wf=true
 eb:Eb k q
end Go.Proofs.YtdecokaadekjnaaGreat
namespace Go.Proofs.YtdecokaadekjnaaGreat
open Go Go.RowKit
theorem mo {c old nm:UInt8}{w:World}{R:UInt8->Sl}(h:R (sw c old nm) w):Sm 192 #[.int .u8 c.toNat,.int .u8 old.toNat,.int .u8 nm.toNat] w (an [.c] R):=by
 refine sZ c old nm w R ?_;dsimp only [go_sem];dsimp only [go_sem,UInt8.reduceOfNat,UInt32.reduceOfNat,Nat.reduceAdd];unfold sw at h;refine⟨λhc=>?_,λhc=>?_⟩
 ·rw [Pj (O7 hc)]at h;exact h
 ·rw [O1 (O9 hc)]at h;exact h
def T.bindC:P->UInt8
 | .rcv _ x _=>x | .res x _=>x | _=>0
def T.rb:P->Bool
 | .rcv .. =>true | .res .. =>true | _=>false
theorem p8 {t:P}(ok:Ok t){w:World}{R:UInt8->Bool->Sl}(h:R t.bindC t.rb w):Sm 118 #[.string (ai t.text)] w (an [.c,.b] R):=by
 refine r9 _ w R ?_;dsimp only [go_sem];dsimp only [go_sem,UInt8.reduceOfNat,UInt32.reduceOfNat,Nat.reduceAdd];refine aO ok ?_;cases t<;>simp only [T.kind]<;>repeat' first | refine aW (by decide) ?_ | refine dc (by decide) ?_
 all_goals first
  | exact h
  | (refine⟨by simp only [T.text,OF];omega,?_⟩;exact h)
def T.names:P->Tx
 | .snd a b _=>[a,b] | .rcv a _ _=>[a] | .mat a b _=>[a,b] | _=>[]
theorem EY {t:P}(ok:Ok t){w:World}{R:aB->Sl}(h:∀w',Ex w w'->R t.names w'):Sm 247 #[.string (ai t.text)] w (an [.s] R):=by
 refine rM _ w R ?_;dsimp only [go_sem];dsimp only [go_sem,UInt8.reduceOfNat,UInt32.reduceOfNat,Nat.reduceAdd];refine aO ok ?_;cases t<;>simp only [T.kind]<;>repeat' first | refine aW (by decide) ?_ | refine dc (by decide) ?_
 case nil=>exact h w (Ex.refl w)
 case tau=>exact h w (Ex.refl w)
 case sum=>exact h w (Ex.refl w)
 case par=>exact h w (Ex.refl w)
 case res=>exact h w (Ex.refl w)
 case rep=>exact h w (Ex.refl w)
 case rcv=>exact⟨by simp only [T.text,OF];omega,h w (Ex.refl w)⟩
 case snd=>exact⟨λ _=>True,λw1 G=>⟨trivial,by simp only [T.text,OF];omega,by simp only [T.text,OF];omega,by simp [T.text],h w1 (G▸Ex.drew w)⟩⟩
 case mat=>exact⟨λ _=>True,λw1 G=>⟨trivial,by simp only [T.text,OF];omega,by simp only [T.text,OF];omega,by simp [T.text],h w1 (G▸Ex.drew w)⟩⟩
theorem G4 (t:P)(x:UInt8):t.Fr x↔x∈t.names\/(∃p∈t.parts,p.Fr x)/\¬(t.rb=true/\x=t.bindC):=by
 cases t<;>simp [T.Fr,T.names,T.parts,T.rb,T.bindC,RF,and_comm]
theorem jb.nil:jb []:=List.Pairwise.nil
theorem jb.filter {s:Tx}(h:jb s)(f:UInt8->Bool):jb (s.filter f):=QJ (List.filter_sublist) h
theorem jA:∀(n:Nat) {t:P},t.size<=n->Ok t->∀{w:World} {R:aB->Sl},(∀s w',Ex w w'->jb s->(∀x,x∈s↔t.Fr x)->R s w')->Sm 76 #[.string (ai t.text)] w (an [.s] R):=by
 intro n
 induction n with
 | zero=>intro t h;have :=a8 t;omega
 | succ n ih=>
  intro t hn ok w R h;refine tA _ w R ?_;dsimp only [go_sem];dsimp only [go_sem,UInt8.reduceOfNat,UInt32.reduceOfNat,Nat.reduceAdd];refine de ok λv w1 hx hs=>?_
  obtain⟨a,cap,hv⟩:=hs.slice;rw [O8]at hv;refine⟨a,t.parts.length,cap,hv,λout x w'=>Ex w w'/\Strs w' v (t.parts.map T.text)/\jb out/\∃k:Nat,x=k/\k<=t.parts.length/\∀x,x∈out↔∃p∈t.parts.take k,p.Fr x,λ _ x _=>((t.parts.length:Int) - x).toNat,
   ⟨hx,hs,jb.nil,0,rfl,by omega,by simp⟩,λout x w2 hI=>?_⟩
  obtain⟨γ,ν,Z,k,rfl,hk,hm⟩:=hI;refine⟨λhc=>?_,λhc=>?_⟩
  ·have H:k< t.parts.length:=by simpa using hc
   obtain⟨b,o,cp,e1,e2,e3⟩:=ν.at (i:=k) (by rw [O8];exact H);rw [O8]at e1;refine⟨b,o,t.parts.length,cp,e1,by omega,by omega,(t.parts[k]).text,?_,?_⟩
   ·rw [OU,Pn,e3,RY]
   ·have β:t.parts[k]∈t.parts:=OP H;refine ih (by have :=eA β;omega) (ok.parts _ β) λs w3 α ο δ=>?_
    refine fX Z (by have :=ο.bound;omega) λs' w4 J V W=>?_
    have h3:=dY t;refine⟨by omega,⟨(γ.trans α).trans J,(ν.ex α).ex J,V,k+1,by omega,H,λx=>?_⟩,by dsimp only;omega⟩;rw [W,hm,δ,List.take_succ_eq_append_getElem H];simp only [OS,OO];constructor
    ·rintro(⟨p,hp,hf⟩ | hf)
     ·exact⟨p,.inl hp,hf⟩
     ·exact⟨_,.inr rfl,hf⟩
    ·rintro⟨p,hp | rfl,hf⟩
     ·exact .inl ⟨p,hp,hf⟩
     ·exact .inr hf
  ·have H:k=t.parts.length:=by simp at hc;omega
   subst H;rw [Pa]at hm;refine⟨λout w'=>Ex w w'/\jb out/\∀x,x∈out↔(∃p∈t.parts,p.Fr x)/\¬(t.rb=true/\x=t.bindC),p8 ok ⟨λhb=>?_,λhb=>?_⟩,λξ w3 hJ=>?_⟩
   ·refine Bu (by have :=Z.bound;omega) ⟨γ,Z.filter _,λx=>?_⟩;simp [hm,hb]
   ·exact⟨γ,Z,λx=>by simp [hm,hb]⟩
   obtain⟨α,G,δ⟩:=hJ;refine aO ok ?_;have done:∀s w',Ex w3 w'->jb s->(∀x,x∈s↔x∈t.names\/x∈ξ)->R s w':=λs w' J V W=>h s w' (α.trans J) V λx=>by rw [W,δ,G4]
   cases t<;>simp only [T.kind]<;>repeat' first | refine aW (by decide) ?_ | refine dc (by decide) ?_
   case nil=>exact done _ _ (Ex.refl _) G λx=>by simp [T.names]
   case tau=>exact done _ _ (Ex.refl _) G λx=>by simp [T.names]
   case sum=>exact done _ _ (Ex.refl _) G λx=>by simp [T.names]
   case par=>exact done _ _ (Ex.refl _) G λx=>by simp [T.names]
   case res=>exact done _ _ (Ex.refl _) G λx=>by simp [T.names]
   case rep=>exact done _ _ (Ex.refl _) G λx=>by simp [T.names]
   case rcv a x p=>
    refine⟨by simp only [T.text,OF];omega,fD G λs w4 J V W=>done s w4 J V λx=>?_⟩;rw [W];simp [T.names,T.text,bt]
   case snd a b p=>
    refine⟨λ _=>True,λw4 ε=>⟨trivial,by simp only [T.text,OF];omega,by simp only [T.text,OF];omega,fD G λs w5 ζ η θ=>⟨trivial,fD η λs' w6 ι κ μ=>⟨trivial,done s' w6 (((ε▸Ex.drew w3).trans ζ).trans ι) κ λx=>?_⟩⟩⟩⟩;rw [μ,θ];simp [T.names,T.text,bt,RF,or_left_comm]
   case mat a b p=>
    refine⟨λ _=>True,λw4 ε=>⟨trivial,by simp only [T.text,OF];omega,by simp only [T.text,OF];omega,fD G λs w5 ζ η θ=>⟨trivial,fD η λs' w6 ι κ μ=>⟨trivial,done s' w6 (((ε▸Ex.drew w3).trans ζ).trans ι) κ λx=>?_⟩⟩⟩⟩;rw [μ,θ];simp [T.names,T.text,bt,RF,or_left_comm]
structure ru (w:World)(b:Nat)(l:Tx):Prop where
 lt:b< w.heap.size
 cell:∀j,j< l.length->w.cell? ⟨b,j,none⟩=some (.int .u8 (bt l j).toNat)
 fz:∀j,j< l.length->w.frozen? ⟨b,j,none⟩=false
theorem ru.GH {w:World}{el b:Nat}{l:Tx}(h:y5 w el b l):ru w b l:=by
 obtain⟨cur,lo,hi,G,h2,H,h4⟩:=h;have hb:b< w.heap.size:=by
  rcases Qn b w.heap.size with h | h
  ·exact h
  ·rw [Array.getElem?_eq_none h]at G;cases G
 refine⟨hb,λj hj=>?_,λj hj=>?_⟩
 ·unfold World.cell?;rw [G];have e:=PS (λl=>l[j]?) h2;simp only [dN,Rf,hj,Qw,Qu,OH hj,QB]at e;simp only [Option.isSome_none,Qx,Rm];rw [<-Qj,e];simp [bt,hj]
 ·unfold World.frozen?;rw [G];simp;omega
theorem ru.ex {w w':World}{b:Nat}{l:Tx}(h:ru w b l)(k:Ex w w'):ru w' b l:=
 ⟨O' h.lt k.size,λj hj=>by rw [k.cell h.lt];exact h.cell j hj,λj hj=>by rw [PV k h.lt];exact h.fz j hj⟩
theorem Mh {l:Tx}{i j:Nat}{c:UInt8}(hi:i< l.length):bt (l.set i c) j=if i=j then c else bt l j:=by
 simp only [bt,P9,List.getElem?_set];by_cases h:i=j
 ·subst h;simp [hi]
 ·simp [h]
theorem ru.set {w:World}{b:Nat}{l:Tx}(h:ru w b l){i:Nat}(hi:i< l.length)(c:UInt8):ru (w.setCell ⟨b,i,none⟩ (.int .u8 c.toNat)) b (l.set i c):=by
 refine⟨by rw [Pu];exact h.lt,λj hj=>?_,λj hj=>?_⟩
 ·rw [Qp]at hj;rw [Mh hi];by_cases e:i=j
  ·subst e;rw [Pj rfl,OY _ _ _ (h.cell i hi)]
  ·rw [O1 e,OL _ _ _ _ (by simp [e])];exact h.cell j hj
 ·rw [O0];exact h.fz j (by simpa using hj)
theorem ru.read {w:World}{b:Nat}{l:Tx}(h:ru w b l):∀(j:Nat) (x:UInt8),l[j]?=some x->w.cell? ⟨b,0+j,none⟩=some (.int .u8 x.toNat):=by
 intro j x G;obtain⟨hj,e⟩:=PB.1 G;rw [Ph,h.cell j hj];simp [bt,hj,e]
theorem ru.at {w:World}{b:Nat}{l:Tx}(h:ru w b l){i:Nat}(hi:i< l.length):w.cell? ⟨b,0+i* 1,none⟩=some (.int .u8 (bt l i).toNat):=by
 rw [Ph,Pn];exact h.cell i hi
theorem Ex.own {w w':World}(h:Ex w w'){b i:Nat}(hb:w.heap.size<=b)(v:Value):Ex w (w'.setCell ⟨b,i,none⟩ v):=Below.setCell h hb v
theorem Ik {t:P}(ok:Ok t){v:Value}{l:List Tx}{w:World}(hs:Strs w v l){R:aB->Sl}
  (μ:(t.kind=43\/t.kind=38)->∃x y,l=[x,y]/\x.length+y.length<=1099511627776/\∀w',Ex w w'->R (40::(x++t.kind::(y++[41]))) w')
  (ν:t.kind=48->R [48] w)
  (ξ:t.kind≠48->t.kind≠43->t.kind≠38->∃x,l=[x]/\x.length<=1099511627776/\∀w',Ex w w'->R (t.text.take t.hd++x) w'):
  Sm 193 #[.string (ai t.text),v] w (an [.s] R):=by
 refine ub _ v w R ?_;dsimp only [go_sem];dsimp only [go_sem,UInt8.reduceOfNat,UInt32.reduceOfNat,Nat.reduceAdd];refine aO ok ?_;have two:∀(k:UInt8),(t.kind=k)->(k=43\/k=38)->∃S5:Sl,∀w6:World,w6=World.drew w->S5 w6/\∃(b7 o8 γ ε:Nat),v=Value.slice (some ⟨b7,o8,none⟩) γ ε/\0<=(0:Int)/\(0:Int)< γ/\∃H:aB,(∀w',S5 w'->World.cell? w' ⟨b7,(o8+Int.toNat 0* 1),none⟩=some (Value.string (ai H)))/\(List.length [(40:UInt8)]+List.length H<=4611686018427387904)/\(List.length ([(40:UInt8)]++H)+List.length [k]<=4611686018427387904)/\∃(ο ς J ζ:Nat),v=Value.slice (some ⟨ο,ς,none⟩) J ζ/\0<=(1:Int)/\(1:Int)< J/\∃α:aB,(∀w',S5 w'->World.cell? w' ⟨ο,(ς+Int.toNat 1* 1),none⟩=some (Value.string (ai α)))/\(List.length (([(40:UInt8)]++H)++[k])+List.length α<=4611686018427387904)/\(List.length ((([(40:UInt8)]++H)++[k])++α)+List.length [(41:UInt8)]<=4611686018427387904)/\R ((((([(40:UInt8)]++H)++[k])++α)++[(41:UInt8)])) w6:=by
  intro k hk ψ;obtain⟨x,y,rfl,hl,hR⟩:=μ (hk▸ψ);refine⟨λw'=>Strs w' v [x,y],λw6 V=>?_⟩;have h6:Strs w6 v [x,y]:=V▸hs.ex (Ex.drew w);obtain⟨b,o,cap,e1,e2,_⟩:=h6.at (i:=0) (by simp);refine⟨h6,b,o,2,cap,e1,by omega,by omega,x,λw' W=>?_,by simp;omega,by simp;omega,b,o,2,cap,e1,by omega,by omega,y,λw' W=>?_,by simp;omega,by simp;omega,?_⟩
  ·obtain⟨b',o',δ,G,_,e3⟩:=W.at (i:=0) (by simp);rw [e1]at G;cases G;exact e3
  ·obtain⟨b',o',δ,G,_,e3⟩:=W.at (i:=1) (by simp);rw [e1]at G;cases G;exact e3
  ·have :=hR w6 (V▸Ex.drew w);rw [hk]at this;simpa using this
 have one:t.kind≠48->t.kind≠43->t.kind≠38->∃η:Sl,∀θ:World,θ=World.drew w->η θ/\∃(υ φ Z ι:Nat),v=Value.slice (some ⟨υ,φ,none⟩) Z ι/\0<=(0:Int)/\(0:Int)< Z/\∃κ:aB,(∀w',η w'->World.cell? w' ⟨υ,(φ+Int.toNat 0* 1),none⟩=some (Value.string (ai κ)))/\Sm 165 #[(Value.string (ai t.text))] θ (an [.i] fun(β:Int) (χ:World)=>η χ/\(0<=(β:Int)/\(β:Int)<=List.length t.text)/\(List.length (List.take (Int.toNat β) t.text)+List.length κ<=4611686018427387904)/\R (((List.take (Int.toNat β) t.text)++κ)) χ):=by
  intro h1 h2 h3;obtain⟨x,rfl,hl,hR⟩:=ξ h1 h2 h3;refine⟨λw'=>Strs w' v [x],λw6 V=>?_⟩;have h6:Strs w6 v [x]:=V▸hs.ex (Ex.drew w);obtain⟨b,o,cap,e1,e2,_⟩:=h6.at (i:=0) (by simp);have hlen:=ok.len;have hd:t.hd<=t.text.length:=by
   cases t<;>simp only [T.kind,ne_eq,RM]at h1<;>simp only [T.hd,T.text,OF]<;>omega
  refine⟨h6,b,o,1,cap,e1,by omega,by omega,x,λw' W=>?_,cW ok ⟨h6,by omega,?_,?_⟩⟩
  ·obtain⟨b',o',δ,G,_,e3⟩:=W.at (i:=0) (by simp);rw [e1]at G;cases G;exact e3
  ·rw [Pt];omega
  ·rw [OU];exact hR w6 (V▸Ex.drew w)
 refine⟨λh=>?_,λh=>⟨λh2=>two 43 (O7 h2) (.inl rfl),λh2=>⟨λh3=>two 38 (O7 h3) (.inr rfl),λh3=>one (O9 h) (O9 h2) (O9 h3)⟩⟩⟩;have hk:=O7 h;have :=ν hk;cases t<;>first | exact this | (exact absurd hk (by simp [T.kind]))
theorem tL.ok {s:Tx}{c:UInt8}(h:tL s c){k:Nat}(hk:k<=63)(W:∀d∈s,okn k d):c∉s/\okn (k+1) c/\nm c=true/\ngr c:=by
 rcases h with h | ⟨_,H,h2,h3,h4⟩
 ·have hm:=Rj h;have hp:=List.find?_some h;have G:lt c=true:=by
   obtain⟨i,hi,rfl⟩:=Pw.1 hm;rw [Qc]at hi;have e:(UInt8.ofNat (97+i)).toNat=97+i:=by rw [PT];omega
   simp only [lt,OJ,OW];exact⟨O6.2 (by rw [e];show 97<=_;omega),O6.2 (by rw [e];show _<=122;omega)⟩
  refine⟨by simpa using hp,oB G,(il G).1,?_⟩;simp only [lt,OJ,OW]at G;have H:=O6.1 G.1;have h2:=O6.1 G.2;have γ:(97:UInt8).toNat=97:=rfl;have Z:(122:UInt8).toNat=122:=rfl;unfold ngr;omega
 ·have δ:=O6.1 H;have ε:=O6.1 h2;have α:(128:UInt8).toNat=128:=rfl;have β:(191:UInt8).toNat=191:=rfl;have hle:c.toNat<=128+k:=by
   rcases Qn (128+k) c.toNat with J | V
   ·exfalso;have e:(UInt8.ofNat (128+k)).toNat=128+k:=by rw [PT];omega
    have hm:=h3 (UInt8.ofNat (128+k)) (O6.2 (by rw [e];omega)) (PA.2 (by rw [e];exact J));have :=W _ hm;unfold okn at this;rw [e]at this;omega
   ·exact V
  refine⟨?_,.inl (by omega),?_,by unfold ngr;omega⟩
  ·rcases h4 with h4 | h4
   ·exact h4
   ·intro hm;have :=W _ hm;unfold okn at this;subst h4;omega
  ·simp [nm,H]
def T.rebind (t:P)(old nw y:UInt8)(q:P):P:=match t with
 | .rcv a _ _=> .rcv (sw a old nw) y q
 | _=> .res y q
theorem Ar {c old nw:UInt8}(hc:nm c=true)(G:nm nw=true):nm (sw c old nw)=true:=by
 unfold sw;split<;>assumption
theorem uJ {k:Nat}{c old nw:UInt8}(hc:okn k c)(G:okn k nw):okn k (sw c old nw):=by
 unfold sw;split<;>assumption
structure LM (k:Nat)(t:P)(old nw:UInt8)(p:P):Prop where
 drop:t.text.drop t.hd=p.text
 ok:Ok p
 size:p.size< t.size
 eb:Eb (k+1) p
 bd:p.bd+1=t.bd
 okz:∀z,p.Fr z->z≠t.bindC->okn k z
 nmc:nm t.bindC=true
 ngc:ngr t.bindC
 under:∀q,t.bindC≠old->(t.bindC≠nw\/¬p.Fr old)->aD p old nw q->aD t old nw (t.rebind old nw t.bindC q)
 cap:∀y p1 p2,t.bindC=nw->nw≠old->¬p.Fr y->y≠old->y≠nw->aD p nw y p1->aD p1 old nw p2->aD t old nw (t.rebind old nw y p2)
 over:t.bindC=old->t.Fr old->aD t old nw (t.rebind old nw old p)
 fin:∀y q,aD t old nw (t.rebind old nw y q)->q.shp=p.shp->q.wf=true->nm y=true->ngr y->Eb (k+1) q->iQ k t old nw (t.rebind old nw y q)
theorem E' {k:Nat}{t:P}{old nw:UInt8}(ok:Ok t)(eb:Eb k t)(hn:nm nw=true)(kn:okn k nw)(hb:t.rb=true):∃p,LM k t old nw p:=by
 have hw:=ok.wf;have hl:=ok.len;have fr:∀q,aD t old nw q->∀z,q.Fr z->okn k z:=λq h z V=>by
  rcases h.free z V with rfl | h | h
  ·exact kn
  ·exact eb.free z h.2
  ·exact eb.free z h.2.1
 cases t with
 | rcv a x p=>
  simp only [T.wf,OJ]at hw;simp only [T.text,OF]at hl;refine⟨p,rfl,⟨hw.2,by omega⟩,by simp only [T.size];omega,eb.2.2,rfl,eb.2.1.2,hw.1.2,eb.2.1.1,λq G h2 H=>aD.FM a G h2 H,λy p1 p2 G h2 H h4 h5 W Z=>?_,λG h2=>?_,λy q G h2 H h4 hg h5=>⟨G,?_,?_,?_⟩⟩
  ·have G:x=nw:=G;subst G;exact aD.Jo a h2 H h4 h5 W Z
  ·have G:x=old:=G;subst G;exact aD.Gx a
  ·show T.rcv () () q.shp=T.rcv () () p.shp;rw [h2]
  ·simp [T.rebind,T.wf,Ar hw.1.1 hn,H,h4]
  ·exact⟨uJ eb.1 kn,⟨hg,λz V J=>fr _ G z (.inr ⟨J,V⟩)⟩,h5⟩
 | res x p=>
  simp only [T.wf,OJ]at hw;simp only [T.text,OF]at hl;refine⟨p,rfl,⟨hw.2,by omega⟩,by simp only [T.size];omega,eb.2,rfl,eb.1.2,hw.1,eb.1.1,λq G h2 H=>aD.FI G h2 H,λy p1 p2 G h2 H h4 h5 W Z=>?_,λG h2=>?_,λy q G h2 H h4 hg h5=>⟨G,?_,?_,?_⟩⟩
  ·have G:x=nw:=G;subst G;exact aD.Kh h2 H h4 h5 W Z
  ·have G:x=old:=G;exact absurd G.symm h2.1
  ·show T.res () q.shp=T.res () p.shp;rw [h2]
  ·simp [T.rebind,T.wf,H,h4]
  ·exact⟨⟨hg,λz V J=>fr _ G z ⟨J,V⟩⟩,h5⟩
 | _=>cases hb
theorem vd {w w':World}(h:w.grownBy w' none):Ex w w':=Below.grown (Sj _ _) h (OQ _) (λk G=>by cases G)
theorem Mp {t:P}(h:t.kind≠48):t.hd<=t.text.length:=by
 cases t<;>simp only [T.kind,ne_eq,RM]at h<;>simp only [T.hd,T.text,OF]<;>omega
theorem qj {w1:World}(c d:UInt8){w2:World}{b:Nat}(hb:b=w1.heap.size)(h:w2=w1.alloc (.cells #[.int .u8 c.toNat,.int .u8 d.toNat] 5)):
  b< w2.heap.size/\∀(j:Nat) (x:UInt8),[c,d][j]?=some x->w2.cell? ⟨b,0+j,none⟩=some (.int .u8 x.toNat):=by
 subst hb h;refine⟨by rw [size_alloc];omega,λj x G=>?_⟩;rw [Ph]
 match j,G with
 | 0,G=>simp at G;subst G;exact aa rfl
 | 1,G=>simp at G;subst G;exact aa rfl
 | j+2,G=>simp at G
theorem iQ.refl {k:Nat}{t:P}{old nw:UInt8}(h:aD t old nw t)(ok:Ok t)(eb:Eb k t):iQ k t old nw t:=⟨h,rfl,ok.wf,eb⟩
theorem iQ.B6 {k:Nat}{t:P}{old nw:UInt8}{q:P}(h:iQ k t old nw q)(ok:Ok t):Ok q:=⟨h.wf,by rw [T.aX,T.je h.shp,<-T.aX];exact ok.len⟩
theorem ig:∀(n:Nat) {t:P} {k:Nat} {old nw:UInt8},t.size<=n->Ok t->Eb k t->k+t.bd<=64->nm nw=true->okn k nw->
  ∀{w:World} {R:aB->Sl},(∀q w',Ex w w'->iQ k t old nw q->R q.text w')->Sm 153 #[.string (ai t.text),.int .u8 old.toNat,.int .u8 nw.toNat] w (an [.s] R):=by
 intro n
 induction n with
 | zero=>intro t k old nw h;have :=a8 t;omega
 | succ n ih=>
  intro t k old nw hn ok eb hbd μ ε w R h;refine qi _ old nw w R ?_;dsimp only [go_sem];dsimp only [go_sem,UInt8.reduceOfNat,UInt32.reduceOfNat,Nat.reduceAdd];refine⟨λhne=>?_,λhe=>by
   have he:=O7 he;subst he;exact h t w (Ex.refl w) (.refl (aD.same old) ok eb)⟩
  have hne:old≠nw:=O9 hne;refine jA _ (OQ _) ok λs w1 hx1 hs1 hm1=>iR (by have :=hs1.bound;omega) ⟨λW=>?_,λW=>?_⟩
  ·have W:¬t.Fr old:=by
    rw [<-hm1];simpa using W
   exact h t w1 hx1 (.refl (aD.skip W) ok eb)
  have hfr:t.Fr old:=by rw [<-hm1];simpa using W
  have hk0:t.kind≠48:=by cases t<;>first | exact hfr.elim | simp [T.kind]
  have hhd:=Mp hk0;have hlen:=ok.len;refine cW ok ⟨by omega,λb cap w2 hb hrow hgr=>?_⟩;rw [OU]at hrow|-;have ς:Ex w w2:=hx1.trans (vd hgr);have α:=ru.GH hrow;have ψ:w.heap.size<=b:=by rw [hb];exact hx1.size
  have Z:(t.text.take t.hd).length=t.hd:=by rw [Pt];omega
  refine p8 ok ⟨λhq2=>?_,λhq2=>?_⟩
  ·
   obtain⟨p,B⟩:=E' (nw:=nw) (old:=old) ok eb μ ε hq2;have hszp:=B.size;have hbdp:=B.bd;refine⟨some ⟨b,0,none⟩,(t.text.take t.hd).length,cap,rfl,by omega,?_⟩;rw [Z,OU,B.drop];refine⟨λpart x w'=>Ex w w'/\ru w' b (t.text.take t.hd)/\∃p1:P,part=p1.text/\p1.shp=p.shp/\Ok p1/\Eb (k+1) p1/\(nm x=true/\ngr x)/\
    ((x=t.bindC/\p1=p/\(x≠nw\/¬p.Fr old))\/(t.bindC=nw/\¬p.Fr x/\x≠old/\x≠nw/\aD p nw x p1)),⟨λhc=>?_,λhc=>?_⟩,λpart x w3 hJ=>?_⟩
   ·have hc:=O7 hc;refine jA _ (OQ _) B.ok λs3 w3 ζ ω hm3=>iR (by have :=ω.bound;omega) ⟨λhq3=>?_,λhq3=>?_⟩
    ·have hfo:p.Fr old:=by rw [<-hm3];simpa using hq3
     have fin:∀(w':World),Ex w3 w'->∀s4,jb s4->(∀x,x∈s4↔p.Fr x\/x∈[old,nw])->∀y,tL s4 y->(Ex w w'/\ru w' b (t.text.take t.hd))/\(¬p.Fr y/\y≠old/\y≠nw/\okn (k+1) y/\nm y=true/\ngr y):=by
      intro w' hx' s4 hs4 hm4 y hy;have hall:∀d∈s4,okn k d:=by
       intro d hd;rcases(hm4 d).1 hd with hd | hd
       ·by_cases hz:d=t.bindC
        ·rw [hz,hc];exact ε
        ·exact B.okz d hd hz
       ·simp only [O4,QE,Q6]at hd;rcases hd with rfl | rfl
        ·exact eb.free _ hfr
        ·exact ε
      obtain⟨h1,h2,h3⟩:=hy.ok (by omega) hall;rw [hm4]at h1;simp only [O4,QE,Q6,Sk]at h1;exact⟨⟨(ς.trans ζ).trans hx',(α.ex ζ).ex hx'⟩,h1.1,h1.2.1,h1.2.2,h2,h3⟩
     refine⟨λy w'=>(Ex w w'/\ru w' b (t.text.take t.hd))/\(¬p.Fr y/\y≠old/\y≠nw/\okn (k+1) y/\nm y=true/\ngr y),⟨λw'=>True,λw4 υ=>⟨trivial,?_,λb2 w5 hb2 H=>⟨trivial,?_,?_⟩⟩⟩,λy w4 hJ=>?_⟩
     ·have V:Ex w3 w4:=υ▸Ex.drew w3;refine jA _ (OQ _) B.ok λs5 w5 J hs5 hm5=>⟨trivial,λb2 w6 hb2 β=>⟨trivial,b2,0,2,2,[old,nw],rfl,rfl,(qj old nw hb2 β).2,trivial,?_⟩⟩
      refine fX hs5 (by simp) λs7 w7 ο ν hm7=>⟨trivial,jB (by have :=ν.bound;omega) λy hy=>⟨trivial,?_⟩⟩
      exact fin w7 (((V.trans J).trans (β▸Ex.alloc w5 _)).trans ο) s7 ν (λx=>by rw [hm7,hm5]) y hy
     ·have V:Ex w3 w4:=υ▸Ex.drew w3;have J:Ex w4 w5:=H▸Ex.alloc w4 _;obtain⟨G,hc5⟩:=qj old nw hb2 H;refine jA _ (OQ _) B.ok λs6 w6 η hs6 hm6=>⟨trivial,b2,0,2,2,[old,nw],rfl,rfl,λj x hj=>by rw [η.cell G];exact hc5 j x hj,trivial,?_⟩
      refine fX hs6 (by simp) λs7 w7 ο ν hm7=>⟨trivial,jB (by have :=ν.bound;omega) λy hy=>⟨trivial,?_⟩⟩
      exact fin w7 (((V.trans J).trans η).trans ο) s7 ν (λx=>by rw [hm7,hm6]) y hy
     ·have V:Ex w3 w4:=υ▸Ex.drew w3;have J:Ex w4 w5:=H▸Ex.alloc w4 _;obtain⟨G,hc5⟩:=qj old nw hb2 H;refine⟨b2,0,2,2,[old,nw],rfl,rfl,hc5,trivial,?_⟩;refine jA _ (OQ _) B.ok λs6 w6 η hs6 hm6=>⟨trivial,?_⟩
      refine fX hs6 (by simp) λs7 w7 ο ν hm7=>⟨trivial,jB (by have :=ν.bound;omega) λy hy=>⟨trivial,?_⟩⟩
      exact fin w7 (((V.trans J).trans η).trans ο) s7 ν (λx=>by rw [hm7,hm6]) y hy
     ·obtain⟨⟨J,G⟩,hy1,hy2,hy3,hy4,hy5,hy6⟩:=hJ;refine ih (by omega) B.ok B.eb (by omega) hy5 hy4 λq w6 η W=>⟨J.trans η,G.ex η,q,rfl,W.shp,W.B6 B.ok,W.eb,⟨hy5,hy6⟩,.inr ⟨hc,hy1,hy2,hy3,?_⟩⟩
      rw [<-hc];exact W.ok
    ·have hfo:¬p.Fr old:=by rw [<-hm3];simpa using hq3
     exact⟨ς.trans ζ,α.ex ζ,p,rfl,rfl,B.ok,B.eb,⟨B.nmc,B.ngc⟩,.inl ⟨rfl,rfl,.inr hfo⟩⟩
   ·have hc:=O9 hc;exact⟨ς,α,p,rfl,rfl,B.ok,B.eb,⟨B.nmc,B.ngc⟩,.inl ⟨rfl,rfl,.inl hc⟩⟩
   ·obtain⟨ζ,hb3,p1,rfl,hsh1,ok1,eb1,hnx,hmid⟩:=hJ;refine⟨λpart w'=>Ex w w'/\ru w' b (t.text.take t.hd)/\∃p2:P,part=p2.text/\p2.shp=p.shp/\Ok p2/\Eb (k+1) p2/\aD t old nw (t.rebind old nw x p2),⟨λhc=>?_,λhc=>?_⟩,λpart w4 hJ=>?_⟩
    ·have hc:x≠old:=by simpa using hc
     refine ih (by have :=T.pG hsh1;omega) ok1 eb1 (by have :=T.MB hsh1;omega) μ (ε.mono (by omega)) λq w5 J W=>⟨ζ.trans J,hb3.ex J,q,rfl,W.shp.trans hsh1,W.B6 ok1,W.eb,?_⟩
     rcases hmid with⟨rfl,rfl,hu⟩ | ⟨h1,h2,h3,h4,h5⟩
     ·exact B.under q hc hu W.ok
     ·exact B.cap x p1 q h1 (R2 hne) h2 h3 h4 h5 W.ok
    ·have hc:x=old:=by simpa using hc
     refine⟨ζ,hb3,p1,rfl,hsh1,ok1,eb1,?_⟩;rcases hmid with⟨h1,rfl,hu⟩ | ⟨h1,h2,h3,h4,h5⟩
     ·rw [hc];exact B.over (h1.symm.trans hc) hfr
     ·exact absurd hc h3
    ·obtain⟨V,hb4,p2,rfl,hsh2,ok2,eb2,hren⟩:=hJ;have hfin:=B.fin x p2 hren hsh2 ok2.wf hnx.1 hnx.2 eb2;have hok2:=ok2.len;refine⟨λw'=>Ex w w'/\∃l:Tx,ru w' b l/\l.length=t.hd/\l++p2.text=(t.rebind old nw x p2).text,aO ok ?_,λw5 hJ=>?_⟩
     ·cases t with
      | rcv a y p'=>
       simp only [T.kind];refine dc (by decide) ?_;have hl3:(3:Nat)<=4:=by omega
       refine⟨b,0,_,cap,rfl,by omega,by simp only [T.hd];omega,a,hb4.at (i:=0) (by rw [Z];simp only [T.hd];omega),mo ?_⟩;have l0:0< ((T.rcv a y p').text.take (T.rcv a y p').hd).length:=by rw [Z];simp only [T.hd];omega
       have l2:2< ((T.rcv a y p').text.take (T.rcv a y p').hd).length:=by rw [Z];simp only [T.hd];omega
       refine⟨b,0,_,cap,rfl,by omega,by omega,⟨⟨_,hb4.at (i:=0) l0⟩,?_⟩,λw5 H=>?_⟩
       ·exact hb4.fz 0 l0
       have G:=hb4.set (i:=0) l0 (sw a old nw);have H:w5=w4.setCell ⟨b,0,none⟩ (.int .u8 (sw a old nw).toNat):=H;rw [<-H]at G;have l2':2< (((T.rcv a y p').text.take (T.rcv a y p').hd).set 0 (sw a old nw)).length:=by rw [Qp];exact l2
       refine⟨b,0,_,cap,rfl,by omega,by omega,⟨⟨_,G.at (i:=2) l2'⟩,?_⟩,λw6 β=>?_⟩
       ·exact G.fz 2 l2'
       have φ:=G.set (i:=2) l2' x;have β:w6=w5.setCell ⟨b,2,none⟩ (.int .u8 x.toNat):=β;rw [<-β]at φ;exact⟨β▸(Ex.own (H▸V.own ψ _) ψ _),_,φ,by rw [Qp,Qp,Z],rfl⟩
      | res y p'=>
       simp only [T.kind];refine aW (by decide) ?_;have l1:1< ((T.res y p').text.take (T.res y p').hd).length:=by rw [Z];simp only [T.hd];omega
       refine⟨b,0,_,cap,rfl,by omega,by omega,⟨⟨_,hb4.at (i:=1) l1⟩,?_⟩,λw5 H=>?_⟩
       ·exact hb4.fz 1 l1
       have G:=hb4.set (i:=1) l1 x;have H:w5=w4.setCell ⟨b,1,none⟩ (.int .u8 x.toNat):=H;rw [<-H]at G;exact⟨H▸(V.own ψ _),_,G,by rw [Qp,Z],rfl⟩
      | _=>cases hq2
     ·obtain⟨J,l,G,hl5,e5⟩:=hJ;refine⟨b,0,_,cap,l,rfl,hl5,G.read,by omega,?_⟩;rw [e5];exact h _ _ J hfin
  ·
   have hw:=ok.wf;have fin:∀(p:P) (l:Tx) (mk:P->P),t.text.drop t.hd=p.text->Ok p->p.size<=n->Eb k p->k+p.bd<=64->l.length=t.hd->(∀q,iQ k p old nw q->iQ k t old nw (mk q)/\(mk q).text=l++q.text)->
     ∀w3,Ex w w3->ru w3 b l->∃χ:Sl,∀ξ:World,ξ=World.drew w3->χ ξ/\∃(a212:Option Addr) (γ cap214:Nat),(Value.slice (some ⟨b,0,none⟩) (List.length (List.take t.hd t.text)) cap)=Value.slice a212 γ cap214/\(0<=((γ:Int):Int)/\((γ:Int):Int)<=List.length t.text)/\(∃(b215 o216 n217 cap218:Nat) (l219:aB),(Value.slice (some ⟨b,0,none⟩) (List.length (List.take t.hd t.text)) cap)=Value.slice (some ⟨b215,o216,none⟩) n217 cap218/\List.length l219=n217/\(∀(j:Nat) (x:UInt8),l219[j]?=some x->World.cell? ξ ⟨b215,o216+j,none⟩=some (Value.int IntKind.u8 (UInt8.toNat x)))/\χ ξ/\Sm 153 #[(Value.string (ai (List.drop (Int.toNat (γ:Int)) t.text))),(Value.int IntKind.u8 (UInt8.toNat old)),(Value.int IntKind.u8 (UInt8.toNat nw))] ξ (an [.s] fun(s220:aB) (w221:World)=>χ w221/\(List.length l219+List.length s220<=4611686018427387904)/\R ((l219++s220)) w221))/\(Sm 153 #[(Value.string (ai (List.drop (Int.toNat (γ:Int)) t.text))),(Value.int IntKind.u8 (UInt8.toNat old)),(Value.int IntKind.u8 (UInt8.toNat nw))] ξ (an [.s] fun(s222:aB) (w223:World)=>χ w223/\∃(b224 o225 n226 cap227:Nat) (l228:aB),(Value.slice (some ⟨b,0,none⟩) (List.length (List.take t.hd t.text)) cap)=Value.slice (some ⟨b224,o225,none⟩) n226 cap227/\List.length l228=n226/\(∀(j:Nat) (x:UInt8),l228[j]?=some x->World.cell? w223 ⟨b224,o225+j,none⟩=some (Value.int IntKind.u8 (UInt8.toNat x)))/\χ w223/\(List.length l228+List.length s222<=4611686018427387904)/\R ((l228++s222)) w223)):=by
    intro p l mk hdr okp hsz ebp hbp hll hmk w3 ζ hb3;refine⟨λ _=>True,λw4 υ=>⟨trivial,_,_,_,rfl,by rw [Z];omega,?_,?_⟩⟩
    ·have V:Ex w3 w4:=υ▸Ex.drew w3;rw [Z,OU,hdr];refine⟨b,0,_,cap,l,rfl,hll,(hb3.ex V).read,trivial,ih hsz okp ebp hbp μ ε λq w5 J W=>⟨trivial,?_,?_⟩⟩
     ·have :=(W.B6 okp).len;omega
     ·obtain⟨h1,h2⟩:=hmk q W;rw [<-h2];exact h _ _ ((ζ.trans V).trans J) h1
    ·have V:Ex w3 w4:=υ▸Ex.drew w3;rw [Z,OU,hdr];refine ih hsz okp ebp hbp μ ε λq w5 J W=>⟨trivial,b,0,_,cap,l,rfl,hll,((hb3.ex V).ex J).read,trivial,?_,?_⟩
     ·have :=(W.B6 okp).len;omega
     ·obtain⟨h1,h2⟩:=hmk q W;rw [<-h2];exact h _ _ ((ζ.trans V).trans J) h1
   have two:∀(p q:P) (mk:P->P->P),t.parts=[p,q]->(t.kind=43\/t.kind=38)->(∀p' q',iQ k p old nw p'->iQ k q old nw q'->iQ k t old nw (mk p' q')/\(mk p' q').text=40::(p'.text++t.kind::(q'.text++[41]))/\Ok (mk p' q'))->Eb k p->Eb k q->k+p.bd<=64->k+q.bd<=64->
     Sm 117 #[(Value.string (ai t.text))] w2 (an [.v] fun(v165:Value) (w166:World)=>∃ι:Sl,∀w168:World,w168=World.drew w166->ι w168/\∃(b169 o170 len171 cap172:Nat),v165=Value.slice (some ⟨b169,o170,none⟩) len171 cap172/\0<=(0:Int)/\(0:Int)< len171/\∃s173:aB,(∀w',ι w'->World.cell? w' ⟨b169,(o170+Int.toNat 0* 1),none⟩=some (Value.string (ai s173)))/\∃(b174 o175 len176 cap177:Nat),v165=Value.slice (some ⟨b174,o175,none⟩) len176 cap177/\0<=(1:Int)/\(1:Int)< len176/\∃s178:aB,(∀w',ι w'->World.cell? w' ⟨b174,(o175+Int.toNat 1* 1),none⟩=some (Value.string (ai s178)))/\Sm 153 #[(Value.string (ai s173)),(Value.int IntKind.u8 (UInt8.toNat old)),(Value.int IntKind.u8 (UInt8.toNat nw))] w168 (an [.s] fun(s179:aB) (w180:World)=>ι w180/\Sm 153 #[(Value.string (ai s178)),(Value.int IntKind.u8 (UInt8.toNat old)),(Value.int IntKind.u8 (UInt8.toNat nw))] w180 (an [.s] fun(s181:aB) (w182:World)=>ι w182
 /\∀(b183:Nat) (w184:World),b183=Array.size (World.heap w182)->w184=World.alloc w182 (Obj.cells #[(Value.string (ai s179)),(Value.string (ai s181))] 9)->ι w184/\Sm 193 #[(Value.string (ai t.text)),(Value.slice (some ⟨b183,0,none⟩) 2 2)] w184 (an [.s] fun(s185:aB) (w186:World)=>ι w186/\R (s185) w186)))):=by
    intro p q mk δ hkind hmk ebp ebq hbp hbq;refine de ok λv w3 ζ ω=>?_
    rw [δ]at ω;have ω:Strs w3 v [p.text,q.text]:=ω;have okp:=ok.parts p (by rw [δ];simp);have okq:=ok.parts q (by rw [δ];simp);have szp:p.size< t.size:=eA (by rw [δ];simp);have szq:q.size< t.size:=eA (by rw [δ];simp);obtain⟨b3,o3,cap3,e1,e2,_⟩:=ω.at (i:=0) (by simp);have rd:∀w' (i:Nat) (x:Tx),Ex w3 w'->[p.text,q.text][i]?=some x->w'.cell? ⟨b3,o3+i* 1,none⟩=some (.string (ai x)):=by
     intro w' i x hx hi;obtain⟨hi',e⟩:=PB.1 hi;obtain⟨b',o',cap',e1',_,e3⟩:=(ω.ex hx).at hi';rw [e1]at e1';cases e1';rw [Pn,e3,e]
    refine⟨λw'=>Ex w3 w',λw4 υ=>?_⟩;have V:Ex w3 w4:=υ▸Ex.drew w3;refine⟨V,b3,o3,2,cap3,e1,by omega,by omega,p.text,λw' hx=>rd w' 0 _ hx rfl,b3,o3,2,cap3,e1,by omega,by omega,q.text,λw' hx=>rd w' 1 _ hx rfl,?_⟩;refine ih (by omega) okp ebp hbp μ ε λp' w5 J θ=>⟨V.trans J,ih (by omega) okq ebq hbq μ ε λq' w6 η κ=>⟨(V.trans J).trans η,λb7 w7 hb7 hw7=>?_⟩⟩
    have ο:Ex w6 w7:=hw7▸Ex.alloc w6 _;obtain⟨m1,m2,m3⟩:=hmk p' q' θ κ;refine⟨((V.trans J).trans η).trans ο,?_⟩;have ν:Strs w7 (.slice (some ⟨b7,0,none⟩) 2 2) [p'.text,q'.text]:=by
     refine .inr ⟨b7,0,2,rfl,by rw [hw7,size_alloc];omega,λi z hz=>?_⟩;rw [Ph,hb7,hw7];refine aa ?_
     match i,hz with
     | 0,hz=>simp at hz|-;exact hz▸rfl
     | 1,hz=>simp at hz|-;exact hz▸rfl
     | i+2,hz=>simp at hz
    have hbase:Ex w w7:=(((ς.trans ζ).trans (V.trans J)).trans η).trans ο;refine Ik ok ν (λ _=>⟨_,_,rfl,?_,λw8 hx8=>⟨?_,?_⟩⟩) (λh0=>absurd h0 hk0) λ _ h2 h3=>absurd hkind (by simp [h2,h3])
    ·have :=(θ.B6 okp).len;have e:=PS List.length m2;have hml:=m3.len;simp only [OF,OM,OX]at e;omega
    ·exact(((V.trans J).trans η).trans ο).trans hx8
    ·rw [<-m2];exact h _ _ (hbase.trans hx8) m1
   cases t with
   | nil=>exact hfr.elim
   | rcv a x p=>cases hq2
   | res x p=>cases hq2
   | tau p=>
    simp only [T.wf]at hw;simp only [T.text,OF]at hlen;refine⟨λw'=>Ex w w'/\ru w' b [126,46],aO ok ?_,λw3 hJ=>fin p [126,46] .tau rfl ⟨hw,by omega⟩ (by simp only [T.size]at hn;omega) eb hbd rfl (λq W=>⟨⟨aD.tau W.ok,?_,W.wf,W.eb⟩,rfl⟩) w3 hJ.1 hJ.2⟩
    ·simp only [T.kind]
     repeat' first | refine aW (by decide) ?_ | refine dc (by decide) ?_
     exact⟨ς,α⟩
    ·show T.tau q.shp=T.tau p.shp;rw [W.shp]
   | rep p=>
    simp only [T.wf]at hw;simp only [T.text,OF]at hlen;refine⟨λw'=>Ex w w'/\ru w' b [42],aO ok ?_,λw3 hJ=>fin p [42] .rep rfl ⟨hw,by omega⟩ (by simp only [T.size]at hn;omega) eb hbd rfl (λq W=>⟨⟨aD.rep W.ok,?_,W.wf,W.eb⟩,rfl⟩) w3 hJ.1 hJ.2⟩
    ·simp only [T.kind]
     repeat' first | refine aW (by decide) ?_ | refine dc (by decide) ?_
     exact⟨ς,α⟩
    ·show T.rep q.shp=T.rep p.shp;rw [W.shp]
   | snd a c p=>
    simp only [T.wf,OJ]at hw;simp only [T.text,OF]at hlen;refine⟨λw'=>Ex w w'/\ru w' b [sw a old nw,33,sw c old nw,46],aO ok ?_,λw3 hJ=>fin p [sw a old nw,33,sw c old nw,46] (.snd (sw a old nw) (sw c old nw)) rfl ⟨hw.2,by omega⟩ (by simp only [T.size]at hn;omega) eb.2.2 hbd rfl (λq W=>⟨⟨aD.snd a c W.ok,?_,?_,⟨uJ eb.1 ε,uJ eb.2.1 ε,W.eb⟩⟩,rfl⟩) w3 hJ.1 hJ.2⟩
    ·simp only [T.kind];refine dc (by decide) ?_;have α:ru w2 b [a,33,c,46]:=α;refine⟨b,0,_,cap,rfl,by omega,by rw [Z];simp only [T.hd];omega,a,α.at (i:=0) (by simp),mo ?_⟩;refine⟨b,0,_,cap,rfl,by omega,by rw [Z];simp only [T.hd];omega,⟨⟨_,α.at (i:=0) (by simp)⟩,α.fz 0 (by simp)⟩,λw5 H=>?_⟩;have G:=α.set (i:=0) (by simp) (sw a old nw);have H:w5=w2.setCell ⟨b,0,none⟩ (.int .u8 (sw a old nw).toNat):=H;rw [<-H]at G;refine⟨b,0,_,cap,rfl,by omega,by rw [Z];simp only [T.hd];omega,c,G.at (i:=2) (by simp),mo ?_⟩;refine⟨b,0,_,cap,rfl,by omega,by rw [Z];simp only [T.hd];omega,⟨⟨_,G.at (i:=2) (by simp)⟩,G.fz 2 (by simp)⟩,λw6 β=>?_⟩;have φ:=G.set (i:=2) (by simp) (sw c old nw);have β:w6=w5.setCell ⟨b,2,none⟩ (.int .u8 (sw c old nw).toNat):=β;rw [<-β]at φ;exact⟨β▸(Ex.own (H▸ς.own ψ _) ψ _),φ⟩
    ·show T.snd () () q.shp=T.snd () () p.shp;rw [W.shp]
    ·simp [T.wf,Ar hw.1.1 μ,Ar hw.1.2 μ,W.wf]
   | mat a c p=>
    simp only [T.wf,OJ]at hw;simp only [T.text,OF]at hlen;refine⟨λw'=>Ex w w'/\ru w' b [91,sw a old nw,61,sw c old nw,93],aO ok ?_,λw3 hJ=>fin p [91,sw a old nw,61,sw c old nw,93] (.mat (sw a old nw) (sw c old nw)) rfl ⟨hw.2,by omega⟩ (by simp only [T.size]at hn;omega) eb.2.2 hbd rfl (λq W=>⟨⟨aD.mat a c W.ok,?_,?_,⟨uJ eb.1 ε,uJ eb.2.1 ε,W.eb⟩⟩,rfl⟩) w3 hJ.1 hJ.2⟩
    ·simp only [T.kind];refine aW (by decide) (dc (by decide) ?_);have α:ru w2 b [91,a,61,c,93]:=α;refine⟨b,0,_,cap,rfl,by omega,by rw [Z];simp only [T.hd];omega,a,α.at (i:=1) (by simp),mo ?_⟩;refine⟨b,0,_,cap,rfl,by omega,by rw [Z];simp only [T.hd];omega,⟨⟨_,α.at (i:=1) (by simp)⟩,α.fz 1 (by simp)⟩,λw5 H=>?_⟩;have G:=α.set (i:=1) (by simp) (sw a old nw);have H:w5=w2.setCell ⟨b,1,none⟩ (.int .u8 (sw a old nw).toNat):=H;rw [<-H]at G;refine⟨b,0,_,cap,rfl,by omega,by rw [Z];simp only [T.hd];omega,c,G.at (i:=3) (by simp),mo ?_⟩;refine⟨b,0,_,cap,rfl,by omega,by rw [Z];simp only [T.hd];omega,⟨⟨_,G.at (i:=3) (by simp)⟩,G.fz 3 (by simp)⟩,λw6 β=>?_⟩;have φ:=G.set (i:=3) (by simp) (sw c old nw);have β:w6=w5.setCell ⟨b,3,none⟩ (.int .u8 (sw c old nw).toNat):=β;rw [<-β]at φ;exact⟨β▸(Ex.own (H▸ς.own ψ _) ψ _),φ⟩
    ·show T.mat () () q.shp=T.mat () () p.shp;rw [W.shp]
    ·simp [T.wf,Ar hw.1.1 μ,Ar hw.1.2 μ,W.wf]
   | sum p q=>
    simp only [T.bd]at hbd;have hwf:=hw;simp only [T.wf,OJ]at hw;refine⟨λ _=>False,aO ok ?_,λw3 hJ=>hJ.elim⟩;simp only [T.kind];refine aW (by decide) (aW (by decide) (dc (by decide) (dc (by decide) ?_)));refine two p q .sum rfl (.inl rfl) (λp' q' θ κ=>?_) eb.1 eb.2 (by omega) (by omega);have hs:(T.sum p' q').shp=(T.sum p q).shp:=by show T.sum p'.shp q'.shp=T.sum p.shp q.shp;rw [θ.shp,κ.shp]
    have hr:iQ k (.sum p q) old nw (.sum p' q'):=⟨aD.sum θ.ok κ.ok,hs,by simp [T.wf,θ.wf,κ.wf],⟨θ.eb,κ.eb⟩⟩
    exact⟨hr,rfl,hr.B6 ok⟩
   | par p q=>
    simp only [T.bd]at hbd;have hwf:=hw;simp only [T.wf,OJ]at hw;refine⟨λ _=>False,aO ok ?_,λw3 hJ=>hJ.elim⟩;simp only [T.kind];refine aW (by decide) (aW (by decide) (aW (by decide) (dc (by decide) ?_)));refine two p q .par rfl (.inr rfl) (λp' q' θ κ=>?_) eb.1 eb.2 (by omega) (by omega);have hs:(T.par p' q').shp=(T.par p q).shp:=by show T.par p'.shp q'.shp=T.par p.shp q.shp;rw [θ.shp,κ.shp]
    have hr:iQ k (.par p q) old nw (.par p' q'):=⟨aD.par θ.ok κ.ok,hs,by simp [T.wf,θ.wf,κ.wf],⟨θ.eb,κ.eb⟩⟩
    exact⟨hr,rfl,hr.B6 ok⟩
end Go.Proofs.YtdecokaadekjnaaGreat
namespace Go.Proofs.YtdecokaadekjnaaGreat
section
variable {A B:Type} [DecidableEq A] [DecidableEq B]
open Classical
namespace T
def strip:T A->T A
 | mat a b p=>if a=b then p.strip else mat a b p
 | p=>p
noncomputable def peel:T A->T A
 | mat a b p=>if a=b then p.peel else mat a b p
 | sum p q=>if p.dead then q.peel else if q.dead then p.peel else sum p q
 | par p q=>if p.dead then q.peel else if q.dead then p.peel else par p q
 | res x p=>if p.Us x then res x p else p.peel
 | p=>p
theorem ue:∀p:T A,p.strip.dead=p.dead
 | mat a b p=>by
  unfold strip;split
  ·rw [ue p];rfl
  ·rfl
 | nil=>rfl | snd .. =>rfl | rcv .. =>rfl | tau .. =>rfl | sum .. =>rfl | par .. =>rfl | res .. =>rfl | rep .. =>rfl
theorem A7 (x:A):∀p:T A,p.strip.Us x↔p.Us x
 | mat a b p=>by
  unfold strip;split
  ·rename_i h;rw [A7 x p];simp [Us,h]
  ·rfl
 | nil=>RO | snd .. =>RO | rcv .. =>RO | tau .. =>RO | sum .. =>RO | par .. =>RO | res .. =>RO | rep .. =>RO
theorem oO:∀p:T A,p.strip.size<=p.size
 | mat a b p=>by
  unfold strip;split
  ·have :=oO p;simp only [size];omega
  ·exact OQ _
 | nil=>OQ _ | snd .. =>OQ _ | rcv .. =>OQ _ | tau .. =>OQ _ | sum .. =>OQ _ | par .. =>OQ _ | res .. =>OQ _ | rep .. =>OQ _
theorem qU:∀(p:T A) (a b:A) (q:T A),p.strip=mat a b q->a≠b
 | mat a b p,c,d,q,h=>by
  unfold strip at h;split at h
  ·exact qU p c d q h
  ·cases h;assumption
 | nil,_,_,_,h=>by cases h
 | snd ..,_,_,_,h=>by cases h
 | rcv ..,_,_,_,h=>by cases h
 | tau ..,_,_,_,h=>by cases h
 | sum ..,_,_,_,h=>by cases h
 | par ..,_,_,_,h=>by cases h
 | res ..,_,_,_,h=>by cases h
 | rep ..,_,_,_,h=>by cases h
theorem iz (Q:T A->Prop)(hm:∀a p,Q (mat a a p)->Q p)(J:∀p q,Q (sum p q)->Q p/\Q q)(V:∀p q,Q (par p q)->Q p/\Q q)(hr:∀x p,¬p.Us x->Q (res x p)->Q p):∀p:T A,Q p->Q p.peel:=by
 intro p
 induction p with
 | mat a b p G=>
  intro h;unfold peel;split
  ·rename_i e;subst e;exact G (hm a p h)
  ·exact h
 | sum p q G H=>
  intro h;unfold peel;split
  ·exact H (J p q h).2
  ·split
   ·exact G (J p q h).1
   ·exact h
 | par p q G H=>
  intro h;unfold peel;split
  ·exact H (V p q h).2
  ·split
   ·exact G (V p q h).1
   ·exact h
 | res x p G=>
  intro h;unfold peel;split
  ·exact h
  ·rename_i e;exact G (hr x p e h)
 | nil=>exact id
 | snd=>exact id
 | rcv=>exact id
 | tau=>exact id
 | rep=>exact id
theorem mW:∀p:T A,p.peel.dead=p.dead:=by
 intro p
 induction p with
 | mat a b p H=>unfold peel;split<;>simp_all [dead]
 | sum p q H G=>
  unfold peel;split
  ·rename_i h;rw [G];simp [dead,h]
  ·split
   ·rename_i h h';rw [H];simp [dead,h']
   ·rfl
 | par p q H G=>
  unfold peel;split
  ·rename_i h;rw [G];simp [dead,h]
  ·split
   ·rename_i h h';rw [H];simp [dead,h']
   ·rfl
 | res x p H=>
  unfold peel;split
  ·rfl
  ·rw [H];rfl
 | nil=>rfl
 | snd=>rfl
 | rcv=>rfl
 | tau=>rfl
 | rep=>rfl
def dI:T A->Prop
 | mat a b _=>a≠b
 | sum p q=>p.dead=false/\q.dead=false
 | par p q=>p.dead=false/\q.dead=false
 | res x p=>p.Us x
 | _=>True
theorem lv:∀p:T A,p.peel.dI:=by
 intro p
 induction p with
 | mat a b p H=>unfold peel;split<;>assumption
 | sum p q H G=>
  unfold peel;split
  ·exact G
  ·split
   ·exact H
   ·rename_i h h';exact⟨by simpa using h,by simpa using h'⟩
 | par p q H G=>
  unfold peel;split
  ·exact G
  ·split
   ·exact H
   ·rename_i h h';exact⟨by simpa using h,by simpa using h'⟩
 | res x p H=>unfold peel;split<;>assumption
 | nil=>trivial
 | snd=>trivial
 | rcv=>trivial
 | tau=>trivial
 | rep=>trivial
theorem wK (p:T A):p.peel.size<=p.size:=
 iz (λq=>q.size<=p.size) (λa q h=>by simp only [size]at h;omega) (λq r h=>by simp only [size]at h;omega) (λq r h=>by simp only [size]at h;omega) (λx q _ h=>by simp only [size]at h;omega) p (OQ _)
theorem Jy (p:T A):p.peel.ow<=p.ow:=
 iz (λq=>q.ow<=p.ow) (λa q h=>h) (λq r h=>by simp only [ow]at h;omega) (λq r h=>by simp only [ow]at h;omega) (λx q _ h=>by simp only [ow]at h;omega) p (OQ _)
theorem D9 (x:A):∀p:T A,p.peel.Us x↔p.Us x:=by
 intro p
 induction p with
 | mat a b p G=>
  unfold peel;split
  ·rename_i h;rw [G];simp [Us,h]
  ·rfl
 | sum p q G H=>
  unfold peel;split
  ·rename_i h;rw [H];exact⟨.inr,λh'=>h'.elim (λh'=>absurd h' (bK h)) id⟩
  ·split
   ·rename_i h h';rw [G];exact⟨.inl,λk=>k.elim id (λk=>absurd k (bK h'))⟩
   ·rfl
 | par p q G H=>
  unfold peel;split
  ·rename_i h;rw [H];exact⟨.inr,λh'=>h'.elim (λh'=>absurd h' (bK h)) id⟩
  ·split
   ·rename_i h h';rw [G];exact⟨.inl,λk=>k.elim id (λk=>absurd k (bK h'))⟩
   ·rfl
 | res y p G=>
  unfold peel;split
  ·rfl
  ·rename_i h;rw [G];refine⟨λk=>⟨λe=>h (e▸k),k⟩,λk=>k.2⟩
 | nil=>rfl
 | snd=>rfl
 | rcv=>rfl
 | tau=>rfl
 | rep=>rfl
end T
end
open Classical
theorem fp.sub {A:Type}[DecidableEq A]{ρ:A->Nat}{p q:T A}(h:fp ρ p)(G:∀x,q.Us x->p.Us x):fp ρ q:=λx y H J=>h x y (G x H) (G y J)
theorem JJ (u:U)(h:Uq u):Uq u.peel:=
 T.iz Uq (λ _ _ h=>h.mat) (λ _ _ h=>⟨h.eD,h.dS⟩) (λ _ _ h=>⟨h.gz,h.fU⟩) (λ _ _ _ h=>h.res) u h
theorem Ec (u:U):∀x∈BV u.peel,x∈BV u:=
 T.iz (λq=>∀x∈BV q,x∈BV u) (λ _ _ h=>h) (λ _ _ h=>⟨λx G=>h x (Pm _ G),λx G=>h x (Pf _ G)⟩)
  (λ _ _ h=>⟨λx G=>h x (Pm _ G),λx G=>h x (Pf _ G)⟩) (λ _ _ _ h=>λx G=>h x (OZ _ G)) u (λx h=>h)
theorem du:∀u:U,Uq u->u.dead=true->ak u=([],[])
 | .nil,_,_=>rfl
 | .snd ..,_,h=>by cases h
 | .rcv ..,_,h=>by cases h
 | .tau ..,_,h=>by cases h
 | .sum p q,hu,h=>by
  simp only [T.dead,OJ]at h;simp only [ak,h.1,Qw];exact du q hu.dS h.2
 | .par p q,hu,h=>by
  simp only [T.dead,OJ]at h;simp [ak,du p hu.gz h.1,du q hu.fU h.2]
 | .res x p,hu,h=>by
  have hd:p.dead=true:=h;simp [ak,du p hu.res hd,mK hd,Lv.has]
 | .mat a b p,hu,h=>by
  have hd:p.dead=true:=h;simp only [ak,hd,Qw,du p hu.mat hd];split<;>rfl
 | .rep p,hu,h=>by
  have hd:p.dead=true:=h;simp [ak,hd]
theorem py:∀u:U,Uq u->ak u.peel=ak u:=by
 intro u
 induction u with
 | nil=>intro _;rfl
 | snd=>intro _;rfl
 | rcv=>intro _;rfl
 | tau=>intro _;rfl
 | rep=>intro _;rfl
 | mat a b p G=>
  intro h;unfold T.peel;split
  ·rename_i e;rw [G h.mat];simp [ak,e]
  ·rfl
 | sum p q G H=>
  intro h;unfold T.peel;split
  ·rename_i e;rw [H h.dS];simp [ak,e]
  ·split
   ·rename_i e J;rw [G h.eD];simp [ak,e,J]
   ·rfl
 | par p q G H=>
  intro h;unfold T.peel;split
  ·rename_i e;rw [H h.fU];simp [ak,du p h.gz e]
  ·split
   ·rename_i e J;rw [G h.gz];simp [ak,du q h.fU J]
   ·rfl
 | res x p G=>
  intro h;unfold T.peel;split
  ·rfl
  ·rename_i e;rw [G h.res];have:¬(td p).2.has x=true:=λV=>e ((gk p x h.gm).1 V)
   simp [ak,this]
theorem LN {p:T UInt8}{u:U}{ρ:UInt8->Nat}{σ:Nat->Nat}{x:UInt8}{y:Nat}(h:∀v,AE (aI ρ x v) p (aI σ y v) u)(hi:fp ρ (.res x p))(hj:fp σ (.res y u)):p.Us x↔u.Us y:=by
 obtain⟨v,Z,h2⟩:=cu p u ρ σ;have G:fp (aI ρ x v) p:= .aI (λa b ha hb h5 V=>hi a b ⟨ha,h5⟩ ⟨hb,V⟩) λa _ ha=>Z a (T.bI ha)
 have H:fp (aI σ y v) u:= .aI (λa b ha hb h5 V=>hj a b ⟨ha,h5⟩ ⟨hb,V⟩) λa _ ha=>h2 a (T.bI ha)
 constructor
 ·intro hx;obtain⟨z,J,e⟩:=(h v).used G H x hx;rw [dg]at e;unfold aI at e;split at e
  ·rename_i W;exact W▸J
  ·exact absurd e (h2 z (T.bI J))
 ·intro hy;obtain⟨z,J,e⟩:=(h v).symm.used H G y hy;rw [dg]at e;unfold aI at e;split at e
  ·rename_i W;exact W▸J
  ·exact absurd e (Z z (T.bI J))
theorem AE.Jl {p:T UInt8}{u:U}{ρ:UInt8->Nat}{σ:Nat->Nat}{a b:UInt8}{c d:Nat}(h:AE ρ (.mat a b p) σ (.mat c d u))(hi:fp ρ (.mat a b p))(hj:fp σ (.mat c d u))(hd:p.dead=false):a=b↔c=d:=by
 have H:u.dead=false:=h.2.2.dead▸hd;constructor
 ·rintro rfl
  refine PJ λG=>G (hj c d (.inr ⟨G,H,.inl rfl⟩) (.inr ⟨G,H,.inr (.inl rfl)⟩) (h.1.symm.trans h.2.1))
 ·rintro rfl
  refine PJ λG=>G (hi a b (.inr ⟨G,hd,.inl rfl⟩) (.inr ⟨G,hd,.inr (.inl rfl)⟩) (h.1.trans h.2.1.symm))
theorem AE.peel:∀{p:T UInt8} {u:U} {ρ:UInt8->Nat} {σ:Nat->Nat},AE ρ p σ u->fp ρ p->fp σ u->Uq u->p.dead=false->
  ∃G,AE ρ p.peel G u.peel/\∀y,y∉BV u->G y=σ y:=by
 intro p
 induction p<;>intro u ρ σ h hi hj hu hd<;>cases u<;>simp only [AE]at h
 case nil.nil=>exact⟨σ,trivial,λ _ _=>rfl⟩
 case snd.snd=>exact⟨σ,h,λ _ _=>rfl⟩
 case rcv.rcv=>exact⟨σ,h,λ _ _=>rfl⟩
 case tau.tau=>exact⟨σ,h,λ _ _=>rfl⟩
 case rep.rep=>exact⟨σ,h,λ _ _=>rfl⟩
 case mat.mat a b p ih c d u=>
  have V:=AE.Jl (p:=p) (u:=u) h hi hj hd;unfold T.peel;by_cases e:a=b
  ·rw [Pj e,Pj (V.1 e)];exact ih h.2.2 (hi.sub λx H=> .inl ⟨e,H⟩) (hj.sub λx H=> .inl ⟨V.1 e,H⟩) hu.mat hd
  ·rw [O1 e,O1 λh'=>e (V.2 h')];exact⟨σ,h,λ _ _=>rfl⟩
 case sum.sum p q ih α u v=>
  have h1:=h.1.dead;have h2:=h.2.dead;unfold T.peel;rw [<-h1,<-h2];by_cases e:p.dead=true
  ·rw [Pj e,Pj e];obtain⟨G,Z,k2⟩:=α h.2 (hi.sub λx H=> .inr H) (hj.sub λx H=> .inr H) hu.dS (by simpa [T.dead,e]using hd);exact⟨G,Z,λy hy=>k2 y λJ=>hy (Pf _ J)⟩
  ·rw [O1 e,O1 e];by_cases W:q.dead=true
   ·rw [Pj W,Pj W];obtain⟨G,Z,k2⟩:=ih h.1 (hi.sub λx H=> .inl H) (hj.sub λx H=> .inl H) hu.eD (by simpa using e);exact⟨G,Z,λy hy=>k2 y λJ=>hy (Pm _ J)⟩
   ·rw [O1 W,O1 W];exact⟨σ,h,λ _ _=>rfl⟩
 case par.par p q ih α u v=>
  have h1:=h.1.dead;have h2:=h.2.dead;unfold T.peel;rw [<-h1,<-h2];by_cases e:p.dead=true
  ·rw [Pj e,Pj e];obtain⟨G,Z,k2⟩:=α h.2 (hi.sub λx H=> .inr H) (hj.sub λx H=> .inr H) hu.fU (by simpa [T.dead,e]using hd);exact⟨G,Z,λy hy=>k2 y λJ=>hy (Pf _ J)⟩
  ·rw [O1 e,O1 e];by_cases W:q.dead=true
   ·rw [Pj W,Pj W];obtain⟨G,Z,k2⟩:=ih h.1 (hi.sub λx H=> .inl H) (hj.sub λx H=> .inl H) hu.gz (by simpa using e);exact⟨G,Z,λy hy=>k2 y λJ=>hy (Pm _ J)⟩
   ·rw [O1 W,O1 W];exact⟨σ,h,λ _ _=>rfl⟩
 case res.res x p ih y u=>
  have β:=LN (p:=p) (u:=u) h hi hj;unfold T.peel;by_cases e:p.Us x
  ·rw [Pj e,Pj (β.1 e)];exact⟨σ,h,λ _ _=>rfl⟩
  ·have W:¬u.Us y:=λh'=>e (β.2 h')
   rw [O1 e,O1 W];have hv:=h (ρ x);have hv:AE ρ p (aI σ y (ρ x)) u:=hv.congr (λz _=>by unfold aI;split<;>simp_all) λ _ _=>rfl
   obtain⟨G,Z,k2⟩:=ih hv (λa b ha hb=>hi a b ⟨λhh=>e (hh▸ha),ha⟩ ⟨λhh=>e (hh▸hb),hb⟩)
    (λa b ha hb V=>by
     have na:a≠y:=λhh=>W (hh▸ha)
     have nb:b≠y:=λhh=>W (hh▸hb)
     rw [bQ _ _ na,bQ _ _ nb]at V;exact hj a b ⟨na,ha⟩ ⟨nb,hb⟩ V) hu.res hd
   refine⟨G,Z,λz hz=>?_⟩;simp only [BV,O4,Sk]at hz;rw [k2 z hz.2,bQ _ _ hz.1]
structure Bd (k:Nat)(p:P):Prop where
 eb:Eb k p
 le:k+p.rd+p.ow<=64
theorem Bd.bd {k:Nat}{p:P}(h:Bd k p):k+p.bd<=64:=by have :=T.Ao p;have :=h.le;omega
theorem Bd.peel {k:Nat}{p:P}(h:Bd k p):∃m,k<=m/\Bd m p.peel:=by
 refine T.iz (λq=>∃m,k<=m/\Bd m q) ?_ ?_ ?_ ?_ p ⟨k,OQ k,h⟩
 ·rintro a q ⟨m,hm,hb⟩;exact⟨m,hm,hb.eb.2.2,hb.le⟩
 ·rintro q r ⟨m,hm,hb⟩
  have :=hb.le;simp only [T.rd,T.ow]at this;exact⟨⟨m,hm,hb.eb.1,by omega⟩,⟨m,hm,hb.eb.2,by omega⟩⟩
 ·rintro q r ⟨m,hm,hb⟩
  have :=hb.le;simp only [T.rd,T.ow]at this;exact⟨⟨m,hm,hb.eb.1,by omega⟩,⟨m,hm,hb.eb.2,by omega⟩⟩
 ·rintro x q _ ⟨m,hm,hb⟩
  have :=hb.le;simp only [T.rd,T.ow]at this;exact⟨m+1,by omega,hb.eb.2,by omega⟩
theorem J4 {p:P}(h:p.wf=true):p.peel.wf=true:=
 T.iz (λq=>q.wf=true) (λ _ _ h=>by simp only [T.wf,OJ]at h;exact h.2) (λ _ _ h=>by simpa only [T.wf,OJ]using h)
  (λ _ _ h=>by simpa only [T.wf,OJ]using h) (λ _ _ _ h=>by simp only [T.wf,OJ]at h;exact h.2) p h
theorem FG (p:P):p.peel.aN<=p.aN:=
 T.iz (λq=>q.aN<=p.aN) (λ _ _ h=>by simp only [T.aN]at h;omega) (λ _ _ h=>by simp only [T.aN]at h;omega) (λ _ _ h=>by simp only [T.aN]at h;omega) (λ _ _ _ h=>by simp only [T.aN]at h;omega) p (OQ _)
end Go.Proofs.YtdecokaadekjnaaGreat
namespace Go.Proofs.YtdecokaadekjnaaGreat
open Go
attribute [go_sem] Tryz.f245
theorem rG (G:aB)(w:World)(R:aB->Sl)(h:vc az (bf [(1,[(0,.s)])] [] [(1,false,.lt 0 (.one .h 1 (.lt 2 (.lt 3 (.lt 4 (.lt 5 (.lt 6 (.lt 7 (.lt 8 (.lt 9 .done))))))))))]) (ab Tryz.f245) (aj 0 [.s G]) w (fin az [.tmp 2 .s] R)):
  Sm 245 #[(.string (ai G))] w (an [.s] R):=
 bD Tryz.func245 (by kernel_rfl) h
attribute [go_sem] Tryz.f246
theorem tH (G:aB)(w:World)(R:Bool->Sl)(h:vc az (bf [(10,[(18,.i)])] [] []) (ab Tryz.f246) (aj 0 [.s G]) w (fin az [.tmp 2 .b] R)):
  Sm 246 #[(.string (ai G))] w (an [.b] R):=
 bD Tryz.func246 (by kernel_rfl) h
attribute [go_sem] Tryz.f225
theorem tE (G:aB)(w:World)(R:aB->Sl)(h:vc az (bf [(6,[(3,.s),(17,.i)]),(14,[(3,.s),(39,.i)])] [(13,[(3,.s)])] []) (ab Tryz.f225) (aj 0 [.s G]) w (fin az [.tmp 2 .s] R)):
  Sm 225 #[(.string (ai G))] w (an [.s] R):=
 bD Tryz.func225 (by kernel_rfl) h
attribute [go_sem] Tryz.f256
theorem uB (G:aB)(w:World)(R:aB->Sl)(h:vc az (bf [(1,[(0,.s)])] [] [(9,false,.lt 0 (.lt 1 (.lt 2 (.lt 3 (.lt 4 (.lt 5 (.lt 7 (.lt 8 (.one .h 6 (.one .h 9 (.lt 10 (.lt 11 (.lt 12 .done)))))))))))))]) (ab Tryz.f256) (aj 0 [.s G]) w (fin az [.tmp 2 .s] R)):
  Sm 256 #[(.string (ai G))] w (an [.s] R):=
 bD Tryz.func256 (by kernel_rfl) h
attribute [go_sem] Tryz.f242
theorem j9 (G:Value)(H:aB)(w:World)(R:Sl)(h:vc az (bf [(10,[(5,.c)])] [(15,[])] [(14,false,.lt 0 (.lt 1 (.lt 2 (.lt 4 (.br .h 3 (.one .h 5 (.one .h 6 (.lt 7 (.lt 8 (.lt 9 (.one .h 10 .done)))))) (.one .h 5 (.br .h 3 (.one .h 6 (.lt 7 (.lt 8 (.lt 9 (.one .h 10 .done))))) (.one .h 6 (.one .h 3 (.lt 7 (.lt 8 (.lt 9 (.one .h 10 .done))))))))))))),(15,false,.lt 0 (.lt 1 (.lt 2 (.lt 3 (.lt 4 (.lt 5 (.one .h 6 (.one .h 7 .done))))))))]) (ab Tryz.f242) (aj 0 [.v G,.s H]) w (fin az [] R)):
  Sm 242 #[G,(.string (ai H))] w (an [] R):=
 bD Tryz.func242 (by kernel_rfl) h
attribute [go_sem] Tryz.f243
theorem jE (s1:aB)(w:World)(R:Value->Sl)(h:vc az (bf [(5,[(3,.v),(13,.i)]),(8,[(3,.v),(26,.i)])] [] [(7,false,.lt 0 (.lt 1 (.lt 2 (.lt 3 (.lt 4 (.lt 5 (.lt 6 (.lt 7 (.lt 10 (.one .h 8 (.lt 9 .done)))))))))))]) (ab Tryz.f243) (aj 0 [.s s1]) w (fin az [.tmp 2 .v] R)):
  Sm 243 #[(.string (ai s1))] w (an [.v] R):=
 bD Tryz.func243 (by kernel_rfl) h
attribute [go_sem] Tryz.f191
theorem tn (G:Value)(s2:aB)(w:World)(R:aB->Sl)(h:vc az (bf [(3,[(5,.s),(6,.i)])] [] []) (ab Tryz.f191) (aj 0 [.v G,.s s2]) w (fin az [.tmp 4 .s] R)):
  Sm 191 #[G,(.string (ai s2))] w (an [.s] R):=
 bD Tryz.func191 (by kernel_rfl) h
attribute [go_sem] Tryz.f69
theorem qE (G:Value)(w:World)(R:Value->Sl)(h:vc az (bf [(3,[(3,.v),(10,.i)]),(6,[(6,.i)])] [(8,[(6,.i)])] []) (ab Tryz.f69) (aj 0 [.v G]) w (fin az [.tmp 2 .v] R)):
  Sm 69 #[G] w (an [.v] R):=
 bD Tryz.func69 (by kernel_rfl) h
attribute [go_sem] Tryz.f258
theorem oM (G:aB)(w:World)(R:Value->Sl)(h:vc az (bf [] [] [(7,false,.lt 0 (.lt 1 (.lt 2 (.lt 4 (.lt 5 (.lt 6 (.one .h 3 (.one .h 7 (.one .h 8 (.lt 9 .done))))))))))]) (ab Tryz.f258) (aj 0 [.s G]) w (fin az [.tmp 2 .v] R)):
  Sm 258 #[(.string (ai G))] w (an [.v] R):=
 bD Tryz.func258 (by kernel_rfl) h
end Go.Proofs.YtdecokaadekjnaaGreat
namespace Go.Proofs.YtdecokaadekjnaaGreat
open Go Go.RowKit
theorem Strs.get {w w':World}{v:Value}{l:List Tx}(h:Strs w v l)(hw:Ex w w'){i:Int}{x:Tx}(G:0<=i)(H:l[i.toNat]?=some x){Q:aB->Prop}(J:Q x):
  ∃(b o len cap:Nat),v=Value.slice (some ⟨b,o,none⟩) len cap/\0<=i/\i< (len:Int)/\∃s:aB,World.cell? w' ⟨b,o+Int.toNat i* 1,none⟩=some (Value.string (ai s))/\Q s:=by
 obtain⟨hi,e⟩:=PB.1 H;obtain⟨b,o,cap,V,Z,W⟩:=(h.ex hw).at hi;exact⟨b,o,l.length,cap,V,G,by omega,x,by rw [Pn,W,e],J⟩
theorem Strs.GA {w:World}{v:Value}{l:List Tx}(h:Strs w v l){i:Int}{x:Tx}(G:0<=i)(H:l[i.toNat]?=some x){Q:aB->Prop}(J:Q x):
  ∃(b o len cap:Nat),v=Value.slice (some ⟨b,o,none⟩) len cap/\0<=i/\i< (len:Int)/\∃s:aB,(∀w',Ex w w'->World.cell? w' ⟨b,o+Int.toNat i* 1,none⟩=some (Value.string (ai s)))/\Q s:=by
 obtain⟨hi,e⟩:=PB.1 H;obtain⟨b,o,cap,V,W,Z⟩:=h.at hi;exact⟨b,o,l.length,cap,V,G,by omega,x,λw' hw=>by rw [hw.cell W,Pn,Z,e],J⟩
theorem uT {t:P}(ok:Ok t):Ok t.strip:=by
 have:∀t:P,t.wf=true->t.strip.wf=true/\t.strip.aN<=t.aN:=by
  intro t
  induction t with
  | mat a b p G=>
   intro h;unfold T.strip;split
   ·simp only [T.wf,OJ]at h;have :=G h.2;exact⟨this.1,by simp only [T.aN];omega⟩
   ·exact⟨h,OQ _⟩
  | _=>exact λh=>⟨h,OQ _⟩
 have h:=this t ok.wf;exact⟨h.1,by have :=ok.len;rw [T.aX]at*;omega⟩
theorem qQ {t:P}(ok:Ok t){w:World}{R:aB->Sl}(h:∀w',Ex w w'->R t.strip.text w'):Sm 245 #[.string (ai t.text)] w (an [.s] R):=by
 refine rG _ w R ?_;dsimp only [go_sem];dsimp only [go_sem,UInt8.reduceOfNat,UInt32.reduceOfNat,Nat.reduceAdd];refine⟨λp w'=>Ex w w'/\∃q:P,p=q.text/\Ok q/\q.strip=t.strip,λp _=>p.length,⟨Ex.refl w,t,rfl,ok,rfl⟩,λp w1 W=>?_⟩;obtain⟨Z,q,rfl,G,V⟩:=W;refine⟨λ _=>True,λw2 J=>⟨trivial,aO G ⟨trivial,?_⟩⟩⟩;have H:Ex w w2:=Z.trans (J▸Ex.drew w1);have no:q.strip=q->R q.text w2:=λe=>by
  have :=h w2 H;rw [<-V,e]at this;exact this
 cases q with
 | mat a b p=>
  simp only [T.kind];refine dc (by decide) ⟨by simp only [T.text,OF];omega,by simp only [T.text,OF];omega,λhc=>?_,λhc=>?_⟩
  ·have e:a=b:=O7 hc;subst e;have h2:T.strip (.mat a a p)=p.strip:=by conv=>lhs;unfold T.strip;rw [Pj rfl]
   refine⟨by simp only [T.text,OF];omega,⟨H,p,rfl,G.parts p (by simp [T.parts]),h2.symm.trans V⟩,?_⟩;show p.text.length< (T.mat a a p).text.length;simp only [T.text,OF];omega
  ·have e:a≠b:=O9 hc;exact no (by conv=>lhs;unfold T.strip;rw [O1 e])
 | _=>simp only [T.kind];exact aW (by decide) (no rfl)
theorem tJ {t:P}(G:t.kind≠33)(h2:t.kind≠63)(H:t.kind≠126):t.dead=t.parts.all T.dead:=by
 cases t<;>first | (exact absurd rfl G) | (exact absurd rfl h2) | (exact absurd rfl H) | simp [T.dead,T.parts]
theorem fR:∀(n:Nat) {t:P},t.size<=n->Ok t->∀{w:World} {R:Bool->Sl},(∀w',Ex w w'->R t.dead w')->Sm 246 #[.string (ai t.text)] w (an [.b] R):=by
 intro n
 induction n with
 | zero=>intro t h;have :=a8 t;omega
 | succ n ih=>
  intro t hn ok w R h;refine tH _ w R ?_;dsimp only [go_sem];dsimp only [go_sem,UInt8.reduceOfNat,UInt32.reduceOfNat,Nat.reduceAdd];refine qQ ok λw1 γ=>?_
  have δ:=uT ok;have hq:=T.oO t;rw [<-T.ue]at h;generalize t.strip=q at*;refine aO δ ?_;have loop:q.kind≠33->q.kind≠63->q.kind≠126->Sm 117 #[(Value.string (ai q.text))] w1 (an [.v] fun(ι:Value) (υ:World)=>∃(a40:Option Addr) (H ε:Nat),ι=Value.slice a40 H ε/\∃(ζ:Int->Sl) (κ:Int->World->Nat),ζ (0) υ/\∀(G:Int) (V:World),ζ G V->((decide (G< (H:Int)))=true->∃(b47 μ W η:Nat),ι=Value.slice (some ⟨b47,μ,none⟩) W η/\0<=(G:Int)/\(G:Int)< W/\∃ν:aB,World.cell? V ⟨b47,(μ+Int.toNat G* 1),none⟩=some (Value.string (ai ν))/\Sm 246 #[(Value.string (ai ν))] V (an [.b] fun(ξ:Bool) (θ:World)=>((!ξ)=true->R (false) θ)/\((!ξ)=false->a7 (G+1)/\ζ ((G+1)) θ/\κ ((G+1)) θ< κ G V)))/\((decide (G< (H:Int)))=false->R (true) V)):=by
   intro h1 h2 h3;refine de δ λv w2 ο hs=>?_
   obtain⟨a,cap,hv⟩:=hs.slice;rw [O8]at hv;have φ:=dY q;refine⟨a,q.parts.length,cap,hv,λx w'=>Ex w2 w'/\∃k:Nat,x=k/\k<=q.parts.length/\∀p∈q.parts.take k,p.dead=true,λx _=>((q.parts.length:Int) - x).toNat,⟨Ex.refl _,0,rfl,by omega,by simp⟩,λx w3 hI=>?_⟩;obtain⟨β,k,rfl,hk,Z⟩:=hI;refine⟨λhc=>?_,λhc=>?_⟩
   ·have J:k< q.parts.length:=by simpa using hc
    have α:q.parts[k]∈q.parts:=OP J;refine hs.get β (i:=k) (by omega) (x:=(q.parts[k]).text) (by simp [J]) ?_;refine ih (by have :=eA α;omega) (δ.parts _ α) λw4 ς=>⟨λhd=>?_,λhd=>?_⟩
    ·have hd:(q.parts[k]).dead=false:=by simpa using hd
     have e:q.dead=false:=by
      rw [tJ h1 h2 h3,List.all_eq_false];exact⟨_,α,by simp [hd]⟩
     rw [<-e];exact h w4 (((γ.trans ο).trans β).trans ς)
    ·have hd:(q.parts[k]).dead=true:=by simpa using hd
     refine⟨by omega,⟨β.trans ς,k+1,by omega,J,λp hp=>?_⟩,by dsimp only;omega⟩;rw [List.take_succ_eq_append_getElem J]at hp;rcases OS.1 hp with hp | hp
     ·exact Z p hp
     ·rw [OO.1 hp];exact hd
   ·have J:k=q.parts.length:=by simp at hc;omega
    subst J;rw [Pa]at Z;have e:q.dead=true:=by
     rw [tJ h1 h2 h3,QN];exact Z
    rw [<-e];exact h w3 ((γ.trans ο).trans β)
  have h:=h w1 γ;cases q with
  | nil=>simp only [T.kind];exact dc (by decide) h
  | snd a b p=>simp only [T.kind];exact aW (by decide) (dc (by decide) (dc (by decide) h))
  | rcv a b p=>simp only [T.kind];exact aW (by decide) (aW (by decide) (dc (by decide) (dc (by decide) h)))
  | tau p=>simp only [T.kind];exact aW (by decide) (aW (by decide) (aW (by decide) (dc (by decide) h)))
  | sum p q=>simp only [T.kind];exact aW (by decide) (aW (by decide) (aW (by decide) (aW (by decide) (loop (by simp [T.kind]) (by simp [T.kind]) (by simp [T.kind])))))
  | par p q=>simp only [T.kind];exact aW (by decide) (aW (by decide) (aW (by decide) (aW (by decide) (loop (by simp [T.kind]) (by simp [T.kind]) (by simp [T.kind])))))
  | res x p=>simp only [T.kind];exact aW (by decide) (aW (by decide) (aW (by decide) (aW (by decide) (loop (by simp [T.kind]) (by simp [T.kind]) (by simp [T.kind])))))
  | mat a b p=>simp only [T.kind];exact aW (by decide) (aW (by decide) (aW (by decide) (aW (by decide) (loop (by simp [T.kind]) (by simp [T.kind]) (by simp [T.kind])))))
  | rep p=>simp only [T.kind];exact aW (by decide) (aW (by decide) (aW (by decide) (aW (by decide) (loop (by simp [T.kind]) (by simp [T.kind]) (by simp [T.kind])))))
theorem G1 {t:P}(hd:t.dead=false)(hm:∀a b p,t= .mat a b p->a≠b)(x:UInt8):t.Us x↔x∈t.names\/(∃p∈t.parts,p.Us x)/\¬(t.rb=true/\x=t.bindC):=by
 cases t<;>simp [T.Us,T.names,T.parts,T.rb,T.bindC,RF,and_comm]
 case mat a b p=>
  have G:=hm a b p rfl;have hd:p.dead=false:=hd;simp [G,hd]
theorem oT:∀(n:Nat) {t:P},t.size<=n->Ok t->∀{w:World} {R:aB->Sl},(∀s w',Ex w w'->jb s->(∀x,x∈s↔t.Us x)->R s w')->Sm 225 #[.string (ai t.text)] w (an [.s] R):=by
 intro n
 induction n with
 | zero=>intro t h;have :=a8 t;omega
 | succ n ih=>
  intro t0 hn ok w R h;refine tE _ w R ?_;dsimp only [go_sem];dsimp only [go_sem,UInt8.reduceOfNat,UInt32.reduceOfNat,Nat.reduceAdd];refine qQ ok λw1 η=>?_
  have H:=uT ok;have hsz:=T.oO t0;have θ:=T.qU t0;have h:∀s w',Ex w w'->jb s->(∀x,x∈s↔t0.strip.Us x)->R s w':=λs w' a b c=>h s w' a b λx=>by rw [c,T.A7]
  generalize t0.strip=t at*;refine fR _ (OQ _) H λw2 ι=>⟨λhd=>?_,λhd=>?_⟩
  ·exact h [] w2 (η.trans ι) jb.nil λx=>⟨λhx=>absurd hx QE,λhx=>absurd hx (T.bK hd)⟩
  refine de H λv w3 ξ hs=>?_
  have J:=(η.trans ι).trans ξ;obtain⟨a,cap,hv⟩:=hs.slice;rw [O8]at hv;have hpl:=dY t;refine⟨a,t.parts.length,cap,hv,λout x w'=>Ex w3 w'/\jb out/\∃k:Nat,x=k/\k<=t.parts.length/\∀x,x∈out↔∃p∈t.parts.take k,p.Us x,λ _ x _=>((t.parts.length:Int) - x).toNat,
   ⟨Ex.refl _,jb.nil,0,rfl,by omega,by simp⟩,λout x w4 hI=>?_⟩
  obtain⟨V,W,k,rfl,hk,hm⟩:=hI;refine⟨λhc=>?_,λhc=>?_⟩
  ·have G:k< t.parts.length:=by simpa using hc
   have Z:t.parts[k]∈t.parts:=OP G;refine hs.get V (i:=k) (by omega) (x:=(t.parts[k]).text) (by simp [G]) ?_;refine ih (by have :=eA Z;omega) (H.parts _ Z) λs w5 β ο γ=>?_
   refine fX W (by have :=ο.bound;omega) λs' w6 δ ς υ=>⟨by omega,⟨(V.trans β).trans δ,ς,k+1,by omega,G,λx=>?_⟩,by dsimp only;omega⟩
   rw [υ,hm,γ,OK G];simp only [OS,OO];constructor
   ·rintro(⟨p,hp,hf⟩ | hf)
    ·exact⟨p,.inl hp,hf⟩
    ·exact⟨_,.inr rfl,hf⟩
   ·rintro⟨p,hp | rfl,hf⟩
    ·exact .inl ⟨p,hp,hf⟩
    ·exact .inr hf
  ·have G:k=t.parts.length:=by simp at hc;omega
   subst G;rw [Pa]at hm;refine⟨λout w'=>Ex w w'/\jb out/\∀x,x∈out↔(∃p∈t.parts,p.Us x)/\¬(t.rb=true/\x=t.bindC),p8 H ⟨λhb=>?_,λhb=>?_⟩,λκ w5 hJ=>?_⟩
   ·refine Bu (by have :=W.bound;omega) ⟨J.trans V,W.filter _,λx=>?_⟩;simp [hm,hb]
   ·exact⟨J.trans V,W,λx=>by simp [hm,hb]⟩
   obtain⟨β,μ,γ⟩:=hJ;refine EY H λw6 δ=>λb cp w7 hb ν φ=>?_
   have χ:=ru.GH ν;have ψ:Ex w w7:=(β.trans δ).trans (vd φ);have hnl:t.names.length<=2:=by cases t<;>simp [T.names]
   refine⟨some ⟨b,0,none⟩,t.names.length,cp,rfl,λout x w'=>Ex w7 w'/\jb out/\∃k:Nat,x=k/\k<=t.names.length/\∀x,x∈out↔x∈t.names.take k\/x∈κ,λ _ x _=>((t.names.length:Int) - x).toNat,
    ⟨Ex.refl _,μ,0,rfl,by omega,by simp⟩,λout x w8 hI=>?_⟩
   obtain⟨ε,α,k,rfl,hk,ζ⟩:=hI;refine⟨λhc=>?_,λhc=>?_⟩
   ·have G:k< t.names.length:=by simpa using hc
    refine⟨b,0,t.names.length,cp,rfl,by omega,by omega,bt t.names k,(χ.ex ε).at G,?_⟩;refine fD α λs w9 ω hs9 hm9=>⟨by omega,⟨ε.trans ω,hs9,k+1,by omega,G,λx=>?_⟩,by dsimp only;omega⟩
    have e:t.names.take (k+1)=t.names.take k++[bt t.names k]:=by
     have :=gC (s:=t.names) (i:=k) (by omega) (by omega);have e2:((k:Int)+1).toNat=k+1:=by omega
     rw [e2]at this;exact this
    rw [hm9,ζ,e];simp only [OS,OO];constructor
    ·rintro(h | h | h)
     ·exact .inl (.inr h)
     ·exact .inl (.inl h)
     ·exact .inr h
    ·rintro((h | h) | h)
     ·exact .inr (.inl h)
     ·exact .inl h
     ·exact .inr (.inr h)
   ·have G:k=t.names.length:=by simp at hc;omega
    subst G;rw [Pa]at ζ;refine h out w8 (ψ.trans ε) α λx=>?_
    rw [ζ,γ,G1 hd (λa b p e=>θ a b p e)]
theorem CD (t:P):t.strip.peel=t.peel:=by
 induction t with
 | mat a b p G=>
  unfold T.strip;split
  ·rename_i e;rw [G];conv=>rhs;unfold T.peel;rw [Pj e]
  ·rfl
 | _=>rfl
theorem BM {t:P}(ok:Ok t){w:World}{R:aB->Sl}(h:∀w',Ex w w'->Ok t.peel->R t.peel.text w'):Sm 256 #[.string (ai t.text)] w (an [.s] R):=by
 refine uB _ w R ?_;dsimp only [go_sem];dsimp only [go_sem,UInt8.reduceOfNat,UInt32.reduceOfNat,Nat.reduceAdd];refine⟨λp w'=>Ex w w'/\∃q:P,p=q.text/\Ok q/\q.peel=t.peel,λp _=>p.length,⟨Ex.refl w,t,rfl,ok,rfl⟩,λp w1 hI=>?_⟩;obtain⟨hx,q0,rfl,δ,V⟩:=hI;refine qQ δ λw2 θ=>?_
 have W:=uT δ;have hlen:q0.strip.text.length<=q0.text.length:=by
  have:∀t:P,t.strip.aN<=t.aN:=by
   intro t
   induction t with
   | mat a b p ih=>
    unfold T.strip;split
    ·simp only [T.aN];omega
    ·exact OQ _
   | _=>exact OQ _
  rw [T.aX,T.aX];exact this q0
 have ζ:=T.qU q0;rw [<-CD]at V;generalize q0.strip=q at*;refine de W λv w3 ι hs=>aO W ?_
 have β:Ex w w3:=(hx.trans θ).trans ι;have stay:q.peel=q->∀w',Ex w3 w'->R q.text w':=λe w' κ=>by
  have :=h w' (β.trans κ) (V▸e.symm▸W);rw [<-V,e]at this;exact this
 cases q with
 | nil=>
  simp only [T.kind]
  repeat' first | refine aW (by decide) ?_ | refine dc (by decide) ?_ | refine cF (by decide) ?_ | refine dQ (by decide) ?_
  exact⟨λ _=>True,λw4 H=>⟨trivial,aW (by decide) (stay rfl w4 (H▸Ex.drew w3))⟩⟩
 | snd a b p=>
  simp only [T.kind]
  repeat' first | refine aW (by decide) ?_ | refine dc (by decide) ?_ | refine cF (by decide) ?_ | refine dQ (by decide) ?_
  exact⟨λ _=>True,λw4 H=>⟨trivial,aW (by decide) (stay rfl w4 (H▸Ex.drew w3))⟩⟩
 | rcv a b p=>
  simp only [T.kind]
  repeat' first | refine aW (by decide) ?_ | refine dc (by decide) ?_ | refine cF (by decide) ?_ | refine dQ (by decide) ?_
  exact⟨λ _=>True,λw4 H=>⟨trivial,aW (by decide) (stay rfl w4 (H▸Ex.drew w3))⟩⟩
 | tau p=>
  simp only [T.kind]
  repeat' first | refine aW (by decide) ?_ | refine dc (by decide) ?_ | refine cF (by decide) ?_ | refine dQ (by decide) ?_
  exact⟨λ _=>True,λw4 H=>⟨trivial,aW (by decide) (stay rfl w4 (H▸Ex.drew w3))⟩⟩
 | rep p=>
  simp only [T.kind]
  repeat' first | refine aW (by decide) ?_ | refine dc (by decide) ?_ | refine cF (by decide) ?_ | refine dQ (by decide) ?_
  exact⟨λ _=>True,λw4 H=>⟨trivial,aW (by decide) (stay rfl w4 (H▸Ex.drew w3))⟩⟩
 | mat a b p=>
  have μ:=ζ a b p rfl;simp only [T.kind]
  repeat' first | refine aW (by decide) ?_ | refine dc (by decide) ?_ | refine cF (by decide) ?_ | refine dQ (by decide) ?_
  exact⟨λ _=>True,λw4 H=>⟨trivial,aW (by decide) (stay (by unfold T.peel;rw [O1 μ]) w4 (H▸Ex.drew w3))⟩⟩
 | res x p=>
  have Z:=W.parts p (by simp [T.parts]);simp only [T.kind]
  repeat' first | refine aW (by decide) ?_ | refine dc (by decide) ?_ | refine cF (by decide) ?_ | refine dQ (by decide) ?_
  refine⟨λw'=>Ex w3 w',λw4 H=>⟨H▸Ex.drew w3,dc (by decide) ?_⟩⟩;have G:Ex w3 w4:=H▸Ex.drew w3;refine hs.GA (i:=0) (x:=p.text) (by omega) rfl ⟨by simp only [T.text,OF];omega,?_⟩;refine oT _ (OQ _) Z λs w5 J ν η=>⟨G.trans J,iR (by have :=ν.bound;omega) ⟨G.trans J,λhq=>?_,λhq=>?_⟩⟩
  ·have hq:¬p.Us x:=by
    rw [<-η];simpa [T.text,bt]using hq
   refine hs.get (G.trans J) (i:=0) (x:=p.text) (by omega) rfl ⟨⟨β.trans (G.trans J),p,rfl,Z,?_⟩,?_⟩
   ·rw [<-V];conv=>rhs;unfold T.peel;rw [O1 hq]
   ·have:p.text.length< (T.res x p).text.length:=by simp only [T.text,OF];omega
    exact O' this hlen
  ·have hq:p.Us x:=by
    rw [<-η];simpa [T.text,bt]using hq
   exact stay (by unfold T.peel;rw [Pj hq]) w5 (G.trans J)
 | sum p r=>
  have Z:=W.parts p (by simp [T.parts]);have γ:=W.parts r (by simp [T.parts]);have lp:p.text.length< (T.sum p r).text.length:=by simp only [T.text,OF,OM];omega
  have lr:r.text.length< (T.sum p r).text.length:=by simp only [T.text,OF,OM];omega
  simp only [T.kind]
  repeat' first | refine aW (by decide) ?_ | refine dc (by decide) ?_ | refine cF (by decide) ?_ | refine dQ (by decide) ?_
  refine hs.get (Ex.refl w3) (i:=0) (x:=p.text) (by omega) rfl (fR _ (OQ _) Z λw4 G=>⟨λhd=>?_,λhd=>?_⟩)
  ·refine hs.get G (i:=1) (x:=r.text) (by omega) rfl ⟨⟨β.trans G,r,rfl,γ,?_⟩,O' lr hlen⟩;rw [<-V];conv=>rhs;unfold T.peel;rw [Pj hd]
  repeat' first | refine aW (by decide) ?_ | refine dc (by decide) ?_ | refine cF (by decide) ?_ | refine dQ (by decide) ?_
  refine hs.get G (i:=1) (x:=r.text) (by omega) rfl (fR _ (OQ _) γ λw5 J=>⟨λα=>?_,λα=>?_⟩)
  ·refine hs.get (G.trans J) (i:=0) (x:=p.text) (by omega) rfl ⟨⟨β.trans (G.trans J),p,rfl,Z,?_⟩,O' lp hlen⟩;rw [<-V];conv=>rhs;unfold T.peel;rw [O1 (by simp [hd]),Pj α]
  ·exact⟨λ _=>True,λw6 ε=>⟨trivial,aW (by decide) (stay (by unfold T.peel;rw [O1 (by simp [hd]),O1 (by simp [α])]) w6 ((G.trans J).trans (ε▸Ex.drew w5)))⟩⟩
 | par p r=>
  have Z:=W.parts p (by simp [T.parts]);have γ:=W.parts r (by simp [T.parts]);have lp:p.text.length< (T.par p r).text.length:=by simp only [T.text,OF,OM];omega
  have lr:r.text.length< (T.par p r).text.length:=by simp only [T.text,OF,OM];omega
  simp only [T.kind]
  repeat' first | refine aW (by decide) ?_ | refine dc (by decide) ?_ | refine cF (by decide) ?_ | refine dQ (by decide) ?_
  refine hs.get (Ex.refl w3) (i:=0) (x:=p.text) (by omega) rfl (fR _ (OQ _) Z λw4 G=>⟨λhd=>?_,λhd=>?_⟩)
  ·refine hs.get G (i:=1) (x:=r.text) (by omega) rfl ⟨⟨β.trans G,r,rfl,γ,?_⟩,O' lr hlen⟩;rw [<-V];conv=>rhs;unfold T.peel;rw [Pj hd]
  repeat' first | refine aW (by decide) ?_ | refine dc (by decide) ?_ | refine cF (by decide) ?_ | refine dQ (by decide) ?_
  refine hs.get G (i:=1) (x:=r.text) (by omega) rfl (fR _ (OQ _) γ λw5 J=>⟨λα=>?_,λα=>?_⟩)
  ·refine hs.get (G.trans J) (i:=0) (x:=p.text) (by omega) rfl ⟨⟨β.trans (G.trans J),p,rfl,Z,?_⟩,O' lp hlen⟩;rw [<-V];conv=>rhs;unfold T.peel;rw [O1 (by simp [hd]),Pj α]
  ·exact⟨λ _=>True,λw6 ε=>⟨trivial,aW (by decide) (stay (by unfold T.peel;rw [O1 (by simp [hd]),O1 (by simp [α])]) w6 ((G.trans J).trans (ε▸Ex.drew w5)))⟩⟩
def sv (x:Tx):Value:= .string (ai x)
def Own (B:Nat)(w:World)(v:Value)(l:List Tx):Prop:=w.ownsRow B 9 1 v l.length (l.map sv)
theorem Own.nil (B:Nat)(w:World):Own B w (.slice none 0 0) []:=World.ownsRow_nil _ _ _ _
theorem Own.strs {B:Nat}{w:World}{v:Value}{l:List Tx}(h:Own B w v l):Strs w v l:=by
 rcases h.2 with⟨rfl,J⟩ | ⟨g,cap,cur,rfl,hb,G,V,h2,W,h4⟩
 ·exact .inl ⟨rfl,Pg J⟩
 ·refine .inr ⟨g,0,cap,rfl,(Ps.1 G).1,λi x H=>?_⟩;unfold World.cell?;simp only [G,Ph];have e:=PS (λl=>l[i]?) h4;obtain⟨hi,_⟩:=PB.1 H;simp only [Pn,Rf,hi,Qw,Qu,H,QB]at e;rw [<-Qj];exact e
theorem Own.ex {B:Nat}{w w':World}{v:Value}{l:List Tx}(h:Own B w v l)(k:Ex w w'):Own B w' v l:=by
 refine⟨h.1,?_⟩;rcases h.2 with H | ⟨g,cap,cur,rfl,hb,G,rest⟩
 ·exact .inl H
 ·exact .inr ⟨g,cap,cur,rfl,hb,by rw [k.block g (Ps.1 G).1];exact G,rest⟩
theorem Own.mono {B G:Nat}{w:World}{v:Value}{l:List Tx}(h:Own B w v l)(hb:G<=B):Own G w v l:=Sa h hb
theorem Own.push {B:Nat}{w:World}{v:Value}{l:List Tx}(h:Own B w v l)(hB:B<=w.heap.size){x:Value}{m:List Tx}(H:Strs w x m)(Z:l.length+m.length<=1099511627776){K:Value->Sl}
  (J:∀v' w',Below B w w'->Own B w' v' (l++m)->w.grownBy w' v.ownBlock->(∀b,v'.ownBlock=some b->v.ownBlock=some b\/w.heap.size<=b)->K v' w'):
  ∃(base n k:Nat) (xs news:List Value),World.ownsRow w base 9 1 v n xs/\base<=Array.size (World.heap w)/\dW w x k 1 news/\(n+k<=maxLen/\(n+k)* 16<=140737488355328)/\
   ∀(v':Value) (w':World),World.ownsRow w' base 9 1 v' (n+k) (xs++news)->World.grownBy w w' (Value.ownBlock v)->(∀b:Nat,Value.ownBlock v'=some b->Value.ownBlock v=some b\/Array.size (World.heap w)<=b)->K v' w':=by
 refine⟨B,l.length,m.length,l.map sv,m.map sv,h,hB,?_,⟨by unfold maxLen;omega,by omega⟩,λv' w' V G hw=>J v' w' ?_ ?_ G hw⟩
 ·refine⟨by simp,by simp [sv,ay],?_⟩;rcases H with⟨rfl,rfl⟩ | ⟨b,off,cap,rfl,hb,hc⟩
  ·exact .inl ⟨rfl,rfl⟩
  ·refine .inr ⟨b,off,cap,rfl,λj u hu=>?_⟩;rw [Qu]at hu;cases e:m[j]? with
   | none=>rw [e]at hu;cases hu
   | some y=>rw [e]at hu;cases hu;exact hc j y e
 ·exact Below.grown (Sj B w) G hB λk W=>(Rx h k W).1
 ·unfold Own;rw [OM,PH];exact V
theorem Strs.grown {w w':World}{v:Value}{l:List Tx}{row:Option Nat}(h:Strs w v l)(H:w.grownBy w' row)(G:∀b,v.ownBlock=some b->row≠some b):Strs w' v l:=by
 rcases h with h | ⟨b,off,cap,J,h2,V⟩
 ·exact .inl h
 ·refine .inr ⟨b,off,cap,J,O' h2 H.size,λi x W=>?_⟩;rw [OG (w:=w) (H.block b h2 (λe=>G b (by rw [J];rfl) e.symm))];exact V i x W
theorem Own.block {B:Nat}{w:World}{v:Value}{l:List Tx}(h:Own B w v l):∀b,v.ownBlock=some b->B<=b/\b< w.heap.size:=Rx h
theorem Ex.below {w0 w w':World}(h:Ex w0 w)(k:Below w0.heap.size w w'):Ex w0 w':=Qr h k
theorem Strs.one {w w':World}{b:Nat}{x:Tx}(hb:b=w.heap.size)(h:w'=w.alloc (.cells #[.string (ai x)] 9)):Strs w' (.slice (some ⟨b,0,none⟩) 1 1) [x]:=by
 subst hb h;refine .inr ⟨_,0,1,rfl,by rw [size_alloc];omega,λi z G=>?_⟩;rw [Ph];refine aa ?_
 match i,G with
 | 0,G=>simp at G|-;exact G▸rfl
 | i+1,G=>simp at G
theorem Own.one {w w':World}{B b:Nat}{x:Tx}(hB:B<=w.heap.size)(hb:b=w.heap.size)(h:w'=w.alloc (.cells #[.string (ai x)] 9)):Own B w' (.slice (some ⟨b,0,none⟩) 1 1) [x]:=by
 subst hb h;refine⟨rfl,.inr ⟨_,1,#[.string (ai x)],rfl,hB,?_,by simp,by unfold maxLen;omega,rfl,rfl⟩⟩;unfold World.alloc;simp
theorem Own.none {w w':World}{B b:Nat}(hB:B<=w.heap.size)(hb:b=w.heap.size)(h:w'=w.alloc (.cells #[] 9)):Own B w' (.slice (some ⟨b,0,none⟩) 0 0) []:=by
 subst hb h;refine⟨rfl,.inr ⟨_,0,#[],rfl,hB,?_,by simp,by unfold maxLen;omega,rfl,rfl⟩⟩;unfold World.alloc;simp
theorem Strs.take {w:World}{a:Option Addr}{n cap:Nat}{l:List Tx}(h:Strs w (.slice a n cap) l){k:Int}(Z:0<=k)(J:k<=l.length):
  Strs w (.slice (if cap=Int.toNat 0 then a else Option.map (·.add (Int.toNat 0* 1)) a) (Int.toNat k - Int.toNat 0) (cap - Int.toNat 0)) (l.take k.toNat):=by
 have H:Int.toNat 0=0:=rfl;rcases h with⟨h,rfl⟩ | ⟨b,off,c,V,h2,W⟩
 ·cases h;have:k=0:=by simp at J;omega
  subst this;exact .inl ⟨rfl,rfl⟩
 ·cases V;refine .inr ⟨b,off,cap,?_,h2,λi x G=>W i x ?_⟩
  ·have e:(if cap=Int.toNat 0 then some (⟨b,off,none⟩:Addr)else Option.map (λq:Addr=>q.add (Int.toNat 0* 1)) (some (⟨b,off,none⟩:Addr)))=some ⟨b,off,none⟩:=by
    split
    ·rfl
    ·simp [Addr.add,H]
   rw [e,H,Pt]
   congr 1
   omega
  ·rw [Rf]at G;split at G
   ·exact G
   ·cases G
theorem Strs.drop {w:World}{a:Option Addr}{n cap:Nat}{l:List Tx}(h:Strs w (.slice a n cap) l){k:Int}(Z:0<=k)(H:k<=l.length)(hc:n<=cap):
  Strs w (.slice (if cap=Int.toNat k then a else Option.map (·.add (Int.toNat k* 1)) a) (Int.toNat (n:Int) - Int.toNat k) (cap - Int.toNat k)) (l.drop k.toNat):=by
 rcases h with⟨h,rfl⟩ | ⟨b,off,c,J,h2,V⟩
 ·cases h;have:k=0:=by simp at H;omega
  subst this;exact .inl ⟨rfl,rfl⟩
 ·cases J;by_cases e:cap=k.toNat
  ·have W:l.drop k.toNat=[]:=Qs (by omega);rw [Pj e,W];refine .inr ⟨b,off,cap - k.toNat,?_,h2,λi x G=>by simp at G⟩;rw [OU]
   congr 1
   simp only [OX];omega
  ·rw [O1 e];refine .inr ⟨b,off+k.toNat,cap - k.toNat,?_,h2,λi x G=>?_⟩
   ·rw [OU,Qq];simp [Addr.add]
   ·rw [List.getElem?_drop]at G;rw [Q9];exact V _ x G
theorem IF (a b:Tx):(Op.bytesLess a b||decide (a=b))=jJ a b:=by
 rw [Se,jJ,PM];simp only [Qg,OW];constructor
 ·rintro(h | rfl)
  ·exact List.le_of_lt h
  ·exact List.le_refl _
 ·intro h;by_cases e:a=b
  ·exact .inr e
  ·left;rcases List.le_iff_lt_or_eq.1 h with h | h
   ·exact h
   ·exact absurd h e
theorem eX {c:UInt8}{s:Tx}{l:List Tx}(h:l≠[]):joinS c (s::l)=40::(s++(c::(joinS c l++[41]))):=by
 cases l with
 | nil=>exact absurd rfl h
 | cons=>rfl
def dz (l:List Tx):Nat:=(l.map List.length).sum+3* l.length
theorem dX (s:Tx)(l:List Tx):dz (s::l)=s.length+dz l+3:=by simp [dz];omega
theorem Bp (l m:List Tx):dz (l++m)=dz l+dz m:=by simp [dz];omega
theorem mJ {l m:List Tx}(h:l.Perm m):dz l=dz m:=by
 induction h with
 | nil=>rfl
 | cons x _ G=>rw [dX,dX,G]
 | swap x y l=>simp only [dX];omega
 | trans _ _ H h2=>exact H.trans h2
theorem xn (c:UInt8):∀l:List Tx,(joinS c l).length<=dz l
 | []=>by simp [joinS]
 | [s]=>by simp [joinS,dz]
 | s::t::l=>by
  have :=xn c (t::l);rw [eX (by simp),dX];simp only [OF,OM,OX];omega
theorem FK (l:List Tx)(k:Nat):dz (l.drop k)<=dz l:=by
 conv=>rhs;rw [<-P4 k l,Bp]
 omega
theorem tz {w:World}{v:Value}{l:List Tx}{c:UInt8}(W:Strs w v l)(G:l≠[])(hl:dz l<=2199023255552){R:aB->Sl}(h:R (joinS c l) w):
  Sm 191 #[v,.string (ai [c])] w (an [.s] R):=by
 refine tn v [c] w R ?_;dsimp only [go_sem];dsimp only [go_sem,UInt8.reduceOfNat,UInt32.reduceOfNat,Nat.reduceAdd];have Z:0< l.length:=Rt.2 G;have α:3* l.length<=dz l:=by unfold dz;omega
 obtain⟨a,cap,hv⟩:=W.slice;refine⟨a,l.length,cap,hv,by omega,?_⟩;have H:l[((l.length:Int) - 1).toNat]?=some (l.getLast G):=by
  have e:((l.length:Int) - 1).toNat=l.length - 1:=by omega
  rw [e,List.getLast_eq_getElem,OH]
 refine W.get (Ex.refl w) (i:=(l.length:Int) - 1) (by omega) H ?_;refine⟨a,l.length,cap,hv,by omega,λout i w'=>w=w'/\ -1<=i/\i<=(l.length:Int) - 2/\out=joinS c (l.drop (i+1).toNat),λ _ i _=>(i+1).toNat,⟨rfl,by omega,by omega,?_⟩,λout i w1 hI=>?_⟩
 ·have e:((l.length:Int) - 2+1).toNat=l.length - 1:=by omega
  have e2:l.drop (l.length - 1)=[l.getLast G]:=by
   rw [PK (by omega:l.length - 1< l.length),List.getLast_eq_getElem,Qs (by omega)]
  rw [e,e2];rfl
 ·obtain⟨rfl,h0,h1,rfl⟩:=hI;refine⟨λhc=>?_,λhc=>?_⟩
  ·have hc:0<=i:=O7 hc;have hi:i.toNat< l.length:=by omega
   have J:l.drop (i+1).toNat≠[]:=by
    intro e;have :=PS List.length e;rw [Qq,OX]at this;omega
   have hd:l.drop i.toNat=l[i.toNat]::l.drop (i+1).toNat:=by
    have e:(i+1).toNat=i.toNat+1:=by omega
    rw [e];exact PK hi
   have hj:joinS c (l.drop i.toNat)=40::(l[i.toNat]++(c::(joinS c (l.drop (i+1).toNat)++[41]))):=by rw [hd,eX J]
   have V:=xn c (l.drop i.toNat);have β:=FK l i.toNat;rw [hj]at V;simp only [OF,OM,OX]at V;refine W.get (Ex.refl w) (i:=i) hc (x:=l[i.toNat]) (OH hi) ⟨by simp only [OF,OX];omega,by simp only [OM,OF,OX];omega,by simp only [OM,OF,OX];omega,by simp only [OM,OF,OX];omega,by omega,⟨rfl,by omega,by omega,?_⟩,by dsimp only;omega⟩;have e:(i - 1+1).toNat=i.toNat:=by omega
   rw [e,hj];simp
  ·have hc:¬0<=i:=O9 hc;have e:(i+1).toNat=0:=by omega
   rw [e,Qz];exact h
theorem nW {w:World}{v:Value}{l:List Tx}(hs:Strs w v l)(hl:l.length<=1099511627776){R:Value->Sl}(h:∀v' w',Ex w w'->Own w.heap.size w' v' (a6 l)->R v' w'):
  Sm 69 #[v] w (an [.v] R):=by
 refine qE v w R ?_;dsimp only [go_sem];dsimp only [go_sem,UInt8.reduceOfNat,UInt32.reduceOfNat,Nat.reduceAdd];obtain⟨a,cap,hv⟩:=hs.slice;refine⟨a,l.length,cap,hv,λout x w'=>Ex w w'/\∃k:Nat,x=k/\k<=l.length/\∃m:List Tx,Own w.heap.size w' out m/\m.Pairwise (λa b=>jJ a b=true)/\m.Perm (l.take k),λ _ x _=>((l.length:Int) - x).toNat,
  ⟨Ex.refl w,0,rfl,by omega,[],Own.nil _ _,List.Pairwise.nil,by simp⟩,λout x w1 hI=>?_⟩
 obtain⟨α,k,rfl,hk,m,J,β,γ⟩:=hI;refine⟨λhc=>?_,λhc=>?_⟩
 ·have W:k< l.length:=by simpa using hc
  refine hs.get α (i:=k) (by omega) (x:=l[k]) (by simp [W]) ?_;have κ:=J.strs;obtain⟨ao,co,ho⟩:=κ.slice;have hml:m.length=k:=by rw [γ.length_eq,Pt];omega
  refine⟨λj w'=>w1=w'/\0<=j/\j<=m.length/\(∀y∈m.take j.toNat,jJ y l[k]=true)/\∀y∈m.drop j.toNat,jJ l[k] y=true,?_,?_⟩
  ·refine⟨λj w'=>w1=w'/\0<=j/\j<=m.length/\∀y∈m.take j.toNat,jJ y l[k]=true,λj _=>((m.length:Int) - j).toNat,⟨rfl,by omega,by omega,by simp⟩,λj w2 hI=>?_⟩;obtain⟨rfl,H,Z,V⟩:=hI;refine⟨ao,m.length,co,ho,λε=>?_,λε=>?_⟩
   ·have hj:j< m.length:=O7 ε;have ζ:j.toNat< m.length:=by omega
    refine κ.get (Ex.refl w1) (i:=j) H (x:=m[j.toNat]) (OH ζ) ⟨λhle=>?_,λhle=>?_⟩
    ·rw [IF]at hle;refine⟨by omega,⟨rfl,by omega,by omega,λy G=>?_⟩,by dsimp only;omega⟩;have e:(j+1).toNat=j.toNat+1:=by omega
     rw [e,OK ζ]at G;rcases OS.1 G with G | G
     ·exact V y G
     ·rw [OO.1 G];exact hle
    ·rw [IF]at hle;refine⟨rfl,H,Z,V,λy G=>?_⟩;have δ:jJ l[k] m[j.toNat]=true:=by
      have :=qP l[k] m[j.toNat];rw [hle,Q8]at this;exact this
     have hd:=PK ζ;have hp:(m.drop j.toNat).Pairwise (λa b=>jJ a b=true):=QJ (List.drop_sublist _ _) β;rw [hd]at hp G;rcases O4.1 G with rfl | G
     ·exact δ
     ·exact gU _ _ _ δ ((QX.1 hp).1 y G)
   ·have hj:¬j< m.length:=O9 ε;refine⟨rfl,H,Z,V,λy G=>?_⟩;rw [Qs (by omega)]at G;cases G
  ·intro j w2 hJ;obtain⟨rfl,H,Z,V,μ⟩:=hJ;intro b w3 hb ν;have η:Ex w1 w3:=ν▸Ex.alloc w1 _;have ξ:=(J.ex η).strs;rw [ho]at ξ;have ο:m.length<=co:=by
    rcases J.2 with⟨e,h0⟩ | ⟨g,cap,cur,e,_,_,hc,_⟩
    ·rw [ho]at e;injection e with _ e2 _;omega
    ·rw [ho]at e;cases e;exact hc
   refine⟨ao,m.length,co,ho,by omega,H,by omega,?_⟩;refine Own.push (Own.none (B:=w1.heap.size) (OQ _) hb ν) η.size (ξ.take H Z) (by simp;omega) λv4 w4 χ ψ _ _=>?_
   have ς:Ex w1 w4:=η.below χ;intro b5 w5 ω υ;have θ:Ex w4 w5:=υ▸Ex.alloc w4 _;refine Own.push (ψ.ex θ) (ς.trans θ).size (Strs.one ω υ) (by simp;omega) λv6 w6 hb6 ho6 _ _=>?_
   have ι:Ex w1 w6:=(ς.trans θ).below hb6;have φ:=(J.ex ι).strs;rw [ho]at φ;refine⟨ao,m.length,co,ho,H,by omega,by omega,?_⟩;refine Own.push ho6 ι.size (φ.drop H Z ο) (by simp;omega) λv7 w7 hb7 ho7 _ _=>?_
   have hx7:Ex w1 w7:=ι.below hb7;refine⟨by omega,⟨α.trans hx7,k+1,by omega,W,_,ho7.mono α.size,?_,?_⟩,by dsimp only;omega⟩
   ·simp only [PG];refine RV.2 ⟨RV.2 ⟨QJ (List.take_sublist _ _) β,List.pairwise_singleton _ _,λx hx y G=>?_⟩,QJ (List.drop_sublist _ _) β,λx hx y G=>?_⟩
    ·rw [OO.1 G];exact V x hx
    ·rcases OS.1 hx with hx | hx
     ·exact gU _ _ _ (V x hx) (μ y G)
     ·rw [OO.1 hx];exact μ y G
   ·simp only [PG];rw [OK W,Pv];refine List.Perm.trans ?_ (γ.append_right [l[k]]);refine(List.Perm.append_left _ QV).trans ?_;rw [<-Pv,P4]
 ·have W:k=l.length:=by simp at hc;omega
  subst W;rw [Pa]at γ;rw [<-uQ β γ]at J;exact h out w1 α J
end Go.Proofs.YtdecokaadekjnaaGreat
namespace Go.Proofs.YtdecokaadekjnaaGreat
open Classical
def aP {A B:Type}(R:A->B->Prop)(l:List A)(m:List B):Prop:=l.length=m.length/\∀(i:Nat) (a:A) (b:B),l[i]?=some a->m[i]?=some b->R a b
theorem aP.nil {A B:Type}{R:A->B->Prop}:aP R [] []:=⟨rfl,λi a b h=>by simp at h⟩
theorem aP.one {A B:Type}{R:A->B->Prop}{a:A}{b:B}(h:R a b):aP R [a] [b]:=⟨rfl,λi x y G H=>by
 match i,G,H with
 | 0,G,H=>simp at G H;subst G H;exact h
 | i+1,G,H=>simp at G⟩
theorem aP.append {A B:Type}{R:A->B->Prop}{l G:List A}{m m':List B}(h:aP R l m)(k:aP R G m'):aP R (l++G) (m++m'):=by
 refine⟨by simp [h.1,k.1],λi a b ha hb=>?_⟩;rw [List.getElem?_append]at ha hb;rw [<-h.1]at hb;split at ha
 ·rename_i hi;rw [Pj hi]at hb;exact h.2 i a b ha hb
 ·rename_i hi;rw [O1 hi]at hb;exact k.2 _ a b ha hb
theorem aP.mono {A B:Type}{R G:A->B->Prop}{l:List A}{m:List B}(h:aP R l m)(hr:∀a b,a∈l->b∈m->R a b->G a b):aP G l m:=
 ⟨h.1,λi a b ha hb=>hr a b (QO ha) (QO hb) (h.2 i a b ha hb)⟩
structure Den (k:Nat)(p:P)(σ:Nat->Nat)(u:U):Prop where
 wf:p.wf=true
 len:p.text.length<=1099511627776
 bd:Bd k p
 ae:AE UInt8.toNat p σ u
 inj:fp σ u
 uq:Uq u
theorem eZ (p:P):fp UInt8.toNat p:=λ _ _ _ _ h=>Pe.1 h
theorem Uq.DF {u:U}(h:Uq u){y:Nat}(G:u.Us y):y∉BV u:=λhb=>h.nf y hb (T.bI G)
theorem Den.dead {k:Nat}{p:P}{σ:Nat->Nat}{u:U}(d:Den k p σ u):p.dead=u.dead:=d.ae.dead
theorem Den.peel {k:Nat}{p:P}{σ:Nat->Nat}{u:U}(d:Den k p σ u)(hd:p.dead=false):∃m G,k<=m/\Den m p.peel G u.peel/\∀y,y∉BV u->G y=σ y:=by
 obtain⟨m,hm,hb⟩:=d.bd.peel;obtain⟨G,J,h2⟩:=d.ae.peel (eZ p) d.inj d.uq hd;refine⟨m,G,hm,⟨J4 d.wf,?_,hb,J,λa b ha hb H=>?_,JJ u d.uq⟩,h2⟩
 ·have :=FG p;have V:=d.len;rw [T.aX]at*;omega
 ·rw [T.D9]at ha hb;rw [h2 a (d.uq.DF ha),h2 b (d.uq.DF hb)]at H;exact d.inj a b ha hb H
section
variable {k:Nat} {p q:P} {σ:Nat->Nat} {u v:U}
theorem Den.sum (d:Den k (.sum p q) σ (.sum u v)):Den k p σ u/\Den k q σ v:=by
 have hw:=d.wf;have H:=d.len;have hb:=d.bd.le;simp only [T.wf,OJ]at hw;simp only [T.text,OF,OM]at H;simp only [T.rd,T.ow]at hb;exact⟨⟨hw.1,by omega,⟨d.bd.eb.1,by omega⟩,d.ae.1,d.inj.sub λx G=> .inl G,d.uq.eD⟩,⟨hw.2,by omega,⟨d.bd.eb.2,by omega⟩,d.ae.2,d.inj.sub λx G=> .inr G,d.uq.dS⟩⟩
theorem Den.par (d:Den k (.par p q) σ (.par u v)):Den k p σ u/\Den k q σ v:=by
 have hw:=d.wf;have H:=d.len;have hb:=d.bd.le;simp only [T.wf,OJ]at hw;simp only [T.text,OF,OM]at H;simp only [T.rd,T.ow]at hb;exact⟨⟨hw.1,by omega,⟨d.bd.eb.1,by omega⟩,d.ae.1,d.inj.sub λx G=> .inl G,d.uq.gz⟩,⟨hw.2,by omega,⟨d.bd.eb.2,by omega⟩,d.ae.2,d.inj.sub λx G=> .inr G,d.uq.fU⟩⟩
theorem Den.tau (d:Den k (.tau p) σ (.tau u)):Den k p σ u:=by
 have G:=d.len;simp only [T.text,OF]at G;exact⟨d.wf,by omega,⟨d.bd.eb,d.bd.le⟩,d.ae,d.inj,d.uq.tau⟩
theorem Den.rep (d:Den k (.rep p) σ (.rep u)):Den k p σ u:=by
 have G:=d.len;simp only [T.text,OF]at G;exact⟨d.wf,by omega,⟨d.bd.eb,d.bd.le⟩,d.ae,d.inj,d.uq.rep⟩
theorem Den.snd {a b:UInt8}{c e:Nat}(d:Den k (.snd a b p) σ (.snd c e u)):Den k p σ u:=by
 have hw:=d.wf;have G:=d.len;simp only [T.wf,OJ]at hw;simp only [T.text,OF]at G;exact⟨hw.2,by omega,⟨d.bd.eb.2.2,d.bd.le⟩,d.ae.2.2,d.inj.sub λx H=> .inr (.inr H),d.uq.snd⟩
theorem Den.mat {a b:UInt8}{c e:Nat}(d:Den k (.mat a b p) σ (.mat c e u))(h:p.dead=false):Den k p σ u:=by
 have hw:=d.wf;have J:=d.len;simp only [T.wf,OJ]at hw;simp only [T.text,OF]at J;have hd:u.dead=false:=by have :=d.ae.2.2.dead;rw [<-this];exact h
 refine⟨hw.2,by omega,⟨d.bd.eb.2.2,d.bd.le⟩,d.ae.2.2,d.inj.sub λx G=>?_,d.uq.mat⟩;by_cases H:c=e
 ·exact .inl ⟨H,G⟩
 ·exact .inr ⟨H,hd,.inr (.inr G)⟩
theorem Den.res {x y:UInt8}{n:Nat}{q:P}(d:Den k (.res x p) σ (.res n u))(hr:iQ (k+1) p x y q)(H:¬(T.res x p).Fr y):Den (k+1) q (aI σ n y.toNat) u:=by
 have hb:=d.bd.le;have J:=d.len;simp only [T.rd,T.ow]at hb;simp only [T.text,OF]at J;have V:AE (aI UInt8.toNat x y.toNat) p (aI σ n y.toNat) u:=d.ae y.toNat;refine⟨hr.wf,?_,⟨hr.eb,?_⟩,(hr.ok UInt8.toNat).symm.trans V,?_,d.uq.res⟩
 ·rw [T.aX,T.je hr.shp,<-T.aX];omega
 ·rw [T.CE hr.shp,T.zt hr.shp];omega
 ·refine .aI (λa b ha hb G h2 W=>d.inj a b ⟨ha,G⟩ ⟨hb,h2⟩ W) λz Z hu e=>H ?_
  obtain⟨x',G,h2⟩:=d.ae.symm.free z ⟨Z,T.bI hu⟩;have:x'=y:=Pe.1 (h2.trans e);exact this▸G
theorem Den.rcv {a x y:UInt8}{c n:Nat}{q:P}(d:Den k (.rcv a x p) σ (.rcv c n u))(hr:iQ (k+1) p x y q)(G:∀z,u.Us z->z≠n->σ z≠y.toNat):Den (k+1) q (aI σ n y.toNat) u:=by
 have hb:=d.bd.le;have H:=d.len;simp only [T.rd,T.ow]at hb;simp only [T.text,OF]at H;have J:AE (aI UInt8.toNat x y.toNat) p (aI σ n y.toNat) u:=d.ae.2 y.toNat;refine⟨hr.wf,?_,⟨hr.eb,?_⟩,(hr.ok UInt8.toNat).symm.trans J,?_,d.uq.rcv⟩
 ·rw [T.aX,T.je hr.shp,<-T.aX];omega
 ·rw [T.CE hr.shp,T.zt hr.shp];omega
 ·exact .aI (λa b ha hb V h2 W=>d.inj a b (.inr ⟨ha,V⟩) (.inr ⟨hb,h2⟩) W) λz Z hu e=>G z hu Z e
end
theorem eh:∀u:U,u.dead=true->aw u=[]
 | .nil,_=>rfl
 | .snd ..,h=>by cases h
 | .rcv ..,h=>by cases h
 | .tau ..,h=>by cases h
 | .sum p q,h=>by
  simp only [T.dead,OJ]at h;simp [aw,eh p h.1,eh q h.2]
 | .par p q,h=>by
  simp only [T.dead,OJ]at h;simp [aw,h.1,eh q h.2]
 | .res x p,h=>by
  have hd:p.dead=true:=h;simp [aw,mK hd,Lv.has,eh p hd]
 | .mat a b p,h=>by
  have hd:p.dead=true:=h;simp only [aw,hd,Qw,eh p hd];split<;>rfl
 | .rep p,h=>by
  have hd:p.dead=true:=h;simp [aw,hd]
theorem FV:∀u:U,Uq u->aw u.peel=aw u:=by
 intro u
 induction u with
 | nil=>intro _;rfl
 | snd=>intro _;rfl
 | rcv=>intro _;rfl
 | tau=>intro _;rfl
 | rep=>intro _;rfl
 | mat a b p G=>
  intro h;unfold T.peel;split
  ·rename_i e;rw [G h.mat];simp [aw,e]
  ·rfl
 | sum p q G H=>
  intro h;unfold T.peel;split
  ·rename_i e;rw [H h.dS];simp [aw,eh p e]
  ·split
   ·rename_i e J;rw [G h.eD];simp [aw,eh q J]
   ·rfl
 | par p q G H=>
  intro h;unfold T.peel;split
  ·rename_i e;rw [H h.fU];simp [aw,e]
  ·split
   ·rename_i e J;rw [G h.gz];simp [aw,e,J]
   ·rfl
 | res x p G=>
  intro h;unfold T.peel;split
  ·rfl
  ·rename_i e;rw [G h.res];have:¬(td p).2.has x=true:=λV=>e ((gk p x h.gm).1 V)
   simp [aw,this]
theorem dA:∀u:U,(aw u).length<=u.size
 | .nil=>by simp [aw,T.size]
 | .snd .. =>by simp [aw,T.size]
 | .rcv .. =>by simp [aw,T.size]
 | .tau .. =>by simp [aw,T.size]
 | .sum p q=>by have :=dA p;have :=dA q;simp only [aw,T.size,OM];omega
 | .par p q=>by
  have :=dA p;have :=dA q;simp only [aw,T.size];split
  ·omega
  ·split
   ·omega
   ·simp
 | .res x p=>by
  have :=dA p;simp only [aw,T.size];split
  ·simp
  ·omega
 | .mat a b p=>by
  have :=dA p;simp only [aw,T.size];split
  ·omega
  ·split<;>simp
 | .rep p=>by
  simp only [aw,T.size];split<;>simp
theorem AE.size {p:P}{u:U}{ρ:UInt8->Nat}{σ:Nat->Nat}(h:AE ρ p σ u):p.size=u.size:=by
 induction p generalizing u ρ σ<;>cases u<;>simp only [AE]at h<;>simp only [T.size]
 case snd.snd G _ _ _=>rw [G h.2.2]
 case mat.mat G _ _ _=>rw [G h.2.2]
 case rcv.rcv G _ _ _=>rw [G (h.2 0)]
 case res.res G _ _=>rw [G (h 0)]
 case tau.tau G _=>rw [G h]
 case rep.rep G _=>rw [G h]
 case sum.sum G H _ _=>rw [G h.1,H h.2]
 case par.par G H _ _=>rw [G h.1,H h.2]
theorem qG:∀(π:List Nat) (ls:List UInt8) (ρ ρ':Rh) (x:Nat),ρ x=ρ' x->asg π ls ρ x=asg π ls ρ' x
 | [],_,_,_,_,h=>by simpa [asg]using h
 | _::_,[],_,_,_,h=>by simpa [asg]using h
 | y::π,c::ls,ρ,ρ',x,h=>by
  rw [asg,asg];refine qG π ls _ _ x ?_;unfold aI;split
  ·rfl
  ·exact h
end Go.Proofs.YtdecokaadekjnaaGreat
namespace Go.Proofs.YtdecokaadekjnaaGreat
def gl (i:Nat):UInt8:=if i< 26 then UInt8.ofNat (65+i)else UInt8.ofNat (166+i)
def KY (c:UInt8):Prop:=(65<=c.toNat/\c.toNat<=90)\/192<=c.toNat
def iq (n:Nat):Tx:=(List.range n).map gl
theorem ky {i:Nat}(h:i< 90):(gl i).toNat=if i< 26 then 65+i else 166+i:=by
 unfold gl;split
 ·rw [PT];omega
 ·rw [PT];omega
theorem yu {i j:Nat}(hi:i< 90)(hj:j< 90)(h:gl i=gl j):i=j:=by
 have :=PS UInt8.toNat h;rw [ky hi,ky hj]at this;split at this<;>split at this<;>omega
theorem yv {i:Nat}(h:i< 90):KY (gl i):=by
 unfold KY;rw [ky h];split<;>omega
theorem LU {i k:Nat}(h:i< 90):okn k (gl i):=by
 unfold okn;rw [ky h];split<;>omega
theorem Nv {i:Nat}(h:i< 90):nm (gl i)=true:=by
 have e:=ky h;have H:(65:UInt8).toNat=65:=rfl;have J:(90:UInt8).toNat=90:=rfl;have G:(128:UInt8).toNat=128:=rfl;simp only [nm,Qg,OJ,OW];split at e
 ·left;right;exact⟨O6.2 (by omega),O6.2 (by omega)⟩
 ·right;exact O6.2 (by omega)
theorem KF {i:Nat}(h:i+1< 90):(gl i+1=91->gl (i+1)=192)/\(gl i+1≠91->gl (i+1)=gl i+1):=by
 have e:=ky (show i< 90 by omega);have Z:=ky h;have J:(gl i+1).toNat=(gl i).toNat+1:=by
  rw [RE];show((gl i).toNat+1) % 256=_;refine RZ ?_;rw [e];split<;>omega
 have V:(91:UInt8).toNat=91:=rfl;have G:(192:UInt8).toNat=192:=rfl;constructor
 ·intro W;have :=PS UInt8.toNat W;rw [J,e,V]at this;apply Pe.1;rw [Z,G];split at this<;>split<;>omega
 ·intro W;have H:(gl i+1).toNat≠91:=λhc=>W (Pe.1 hc)
  rw [J,e]at H;apply Pe.1;rw [J,Z,e];split at H<;>split<;>(try split)<;>omega
theorem iE {n:Nat}{c:UInt8}:c∈iq n↔∃j,j< n/\c=gl j:=by
 simp only [iq,Pw,Qc];exact⟨fun⟨j,G,h2⟩=>⟨j,G,h2.symm⟩,fun⟨j,G,h2⟩=>⟨j,G,h2.symm⟩⟩
theorem Ae (n:Nat):iq (n+1)=iq n++[gl n]:=by simp [iq,RH]
theorem iC (n:Nat):(iq n).length=n:=by simp [iq]
def asgN:List Nat->Nat->(Nat->Nat)->Nat->Nat
 | [],_,σ=>σ
 | x::l,n,σ=>asgN l (n+1) (aI σ x (gl n).toNat)
theorem lu:∀(l m:List Nat) (n:Nat) (σ:Nat->Nat),asgN (l++m) n σ=asgN m (n+l.length) (asgN l n σ)
 | [],m,n,σ=>rfl
 | x::l,m,n,σ=>by
  rw [PI,asgN,asgN,lu l m,OF]
  congr 1
  omega
theorem jv:∀(l:List Nat) (n:Nat) (σ:Nat->Nat) (y:Nat),y∉l->asgN l n σ y=σ y
 | [],_,_,_,_=>rfl
 | x::l,n,σ,y,h=>by
  simp only [O4,Sk]at h;rw [asgN,jv l _ _ y h.2,bQ _ _ h.1]
theorem u9:∀(l:List Nat) (n:Nat) (σ τ:Nat->Nat) (y:Nat),σ y=τ y->asgN l n σ y=asgN l n τ y
 | [],_,_,_,_,h=>h
 | x::l,n,σ,τ,y,h=>by
  rw [asgN,asgN];refine u9 l _ _ _ y ?_;unfold aI;split
  ·rfl
  ·exact h
def GF (n:Nat)(p:P):Prop:=∀z,p.Fr z->KY z->∃j,j< n/\z=gl j
theorem eM {x:UInt8}(h:ngr x):¬KY x:=by unfold ngr KY at*;omega
theorem GF.peel {n k:Nat}{p:P}(h:GF n p)(e:Eb k p):GF n p.peel:=by
 refine(T.iz (λq=>GF n q/\∃k,Eb k q) ?_ ?_ ?_ ?_ p ⟨h,k,e⟩).1
 ·rintro a q ⟨h,k,e⟩
  exact⟨λz G=>h z (.inr (.inr G)),k,e.2.2⟩
 ·rintro q r ⟨h,k,e⟩
  exact⟨⟨λz G=>h z (.inl G),k,e.1⟩,λz G=>h z (.inr G),k,e.2⟩
 ·rintro q r ⟨h,k,e⟩
  exact⟨⟨λz G=>h z (.inl G),k,e.1⟩,λz G=>h z (.inr G),k,e.2⟩
 ·rintro x q _ ⟨h,k,e⟩
  refine⟨λz G H=>?_,k+1,e.2⟩;by_cases J:z=x
  ·exact absurd H (eM (J▸e.1.1))
  ·exact h z ⟨J,G⟩ H
theorem iP:∀(u:U),∀x∈(ak u).1,x∈BV u:=by
 intro u
 induction u with
 | nil=>intro x h;simp [ak]at h
 | snd=>intro x h;simp [ak]at h
 | rcv=>intro x h;simp [ak]at h
 | tau=>intro x h;simp [ak]at h
 | sum p q G H=>
  intro x h;simp only [ak]at h;split at h
  ·exact Pf _ (H x h)
  ·split at h
   ·exact Pm _ (G x h)
   ·simp at h
 | par p q G H=>
  intro x h;simp only [ak,OS]at h;exact h.elim (λh=>Pm _ (G x h)) (λh=>Pf _ (H x h))
 | res y p G=>
  intro x h;simp only [ak]at h;split at h
  ·rcases O4.1 h with rfl | h
   ·exact Py ..
   ·exact OZ _ (G x h)
  ·exact OZ _ (G x h)
 | mat a b p G=>
  intro x h;simp only [ak]at h;split at h
  ·exact G x h
  ·split at h<;>simp at h
 | rep p G=>
  intro x h;simp only [ak]at h;split at h<;>simp at h
theorem lA:∀(u:U),Uq u->∀t∈(ak u).2,∀y,t.Us y->u.Us y\/y∈(ak u).1:=by
 intro u
 induction u with
 | nil=>intro _ t h;simp [ak]at h
 | snd=>intro _ t h;simp [ak]at h;subst h;exact λy G=> .inl G
 | rcv=>intro _ t h;simp [ak]at h;subst h;exact λy G=> .inl G
 | tau=>intro _ t h;simp [ak]at h;subst h;exact λy G=> .inl G
 | sum p q H J=>
  intro hu t h y G;simp only [ak]at h|-;split at h
  ·rename_i e;simp only [e,Qw];exact(J hu.dS t h y G).imp .inr id
  ·rename_i e;split at h
   ·rename_i W;simp only [e,W,Qw];exact(H hu.eD t h y G).imp .inl id
   ·simp at h;subst h;exact .inl G
 | par p q H J=>
  intro hu t h y G;simp only [ak,OS]at h|-;rcases h with h | h
  ·exact(H hu.gz t h y G).imp .inl .inl
  ·exact(J hu.fU t h y G).imp .inr .inr
 | res x p H=>
  intro hu t h y G;have h:t∈(ak p).2:=h;rcases H hu.res t h y G with V | V
  ·by_cases e:y=x
   ·subst e;right;simp only [ak];rw [Pj ((gk p y hu.gm).2 V)];exact Py ..
   ·exact .inl ⟨e,V⟩
  ·right;simp only [ak];split
   ·exact OZ _ V
   ·exact V
 | mat a b p H=>
  intro hu t h y G;simp only [ak]at h|-;split at h
  ·rename_i e;simp only [e,Qw];exact(H hu.mat t h y G).imp (λh=> .inl ⟨rfl,h⟩) id
  ·split at h
   ·simp at h
   ·simp at h;subst h;exact .inl G
 | rep p H=>
  intro hu t h y G;simp only [ak]at h|-;split at h
  ·simp at h
  ·simp at h;subst h;exact .inl G
end Go.Proofs.YtdecokaadekjnaaGreat
namespace Go.Proofs.YtdecokaadekjnaaGreat
open Go Go.RowKit
theorem Den.ok {k:Nat}{p:P}{σ:Nat->Nat}{u:U}(d:Den k p σ u):Ok p:=⟨d.wf,d.len⟩
def ME (k:Nat)(σ:Nat->Nat)(u:U)(p:P)(q:U):Prop:=∃m G,k<=m/\Den m p G q/\∀y,y∉BV u->G y=σ y
theorem Hr {u:U}(G:u.dI)(hd:u.dead=false)(J:∀p q,u≠ .sum p q)(hu:Uq u):aw u=[u]:=by
 cases u with
 | nil=>cases hd
 | snd=>rfl
 | rcv=>rfl
 | tau=>rfl
 | sum p q=>exact absurd rfl (J p q)
 | par p q=>
  have H:p.dead=false:=G.1;have h2:q.dead=false:=G.2;simp [aw,H,h2]
 | res x p=>
  have:(td p).2.has x=true:=(gk p x hu.gm).2 G;simp [aw,this]
 | mat a b p=>
  have H:a≠b:=G;have h2:p.dead=false:=hd;simp [aw,H,h2]
 | rep p=>
  have h2:p.dead=false:=hd;simp [aw,h2]
theorem JY {p:P}{u:U}{ρ:UInt8->Nat}{σ:Nat->Nat}(h:AE ρ p σ u):(∀a b,p≠ .sum a b)↔∀a b,u≠ .sum a b:=by
 cases p<;>cases u<;>simp [AE]at h|-
theorem yY:∀(n:Nat) {k:Nat} {p:P} {σ:Nat->Nat} {u:U},p.size<=n->Den k p σ u->∀{w:World} {R:Value->Sl},
  (∀v w' (ps:List P),Ex w w'->Own w.heap.size w' v (ps.map T.text)->aP (ME k σ u) ps (aw u)->(∀x∈ps,∀j,GF j p->GF j x)->R v w')->Sm 258 #[.string (ai p.text)] w (an [.v] R):=by
 intro n
 induction n with
 | zero=>intro k p σ u h;have :=a8 p;omega
 | succ n ih=>
  intro k p σ u hn d w R h;refine oM _ w R ?_;dsimp only [go_sem];dsimp only [go_sem,UInt8.reduceOfNat,UInt32.reduceOfNat,Nat.reduceAdd];refine BM d.ok λw1 V H=>?_
  have ξ:=T.wK p;have ε:=T.mW p;by_cases hd:p.dead=true
  ·
   have hq:p.peel.dead=true:=by rw [ε];exact hd
   have hs:aw u=[]:=eh u (by rw [<-d.dead];exact hd);have hp:=T.lv p;refine aO H ⟨λhc=>?_,λhc=>?_⟩
   ·exact fR _ (OQ _) H λw2 G=>⟨λ _=>h _ w2 [] (V.trans G) (Own.nil _ _) (by rw [hs];exact aP.nil) (λx h=>(by cases h)),λhh=>absurd hh (by rw [hq];simp)⟩
   ·exfalso;generalize p.peel=q at*;cases q<;>simp [T.kind]at hc
    simp [T.dead,hp.1]at hq
  have hd:p.dead=false:=by simpa using hd
  obtain⟨m,ο,hm,d',γ⟩:=d.peel hd;have ς:=T.lv u;rw [<-FV u d.uq]at h;have υ:u.peel.dead=false:=by rw [T.mW,<-d.dead];exact hd
  have φ:p.peel.dead=false:=by rw [ε];exact hd
  have ζ:∀y,y∉BV u->y∉BV u.peel:=λy hy hb=>hy (Ec u y hb)
  have η:∀j,GF j p->GF j p.peel:=λj hj=>hj.peel d.bd.eb
  generalize p.peel=q at*;generalize u.peel=v at*;refine aO H ⟨λhc=>?_,λhc=>?_⟩
  ·have χ:∀a b,q≠ .sum a b:=λa b e=>by subst e;simp [T.kind]at hc
   refine fR _ (OQ _) H λw2 G=>⟨λhh=>absurd hh (by rw [φ];simp),λ _=>λb w3 hb J=>?_⟩
   refine h _ w3 [q] ((V.trans G).trans (J▸Ex.alloc w2 _)) (Own.one (V.trans G).size hb J) ?_ λx hx j hj=>?_
   ·rw [Hr ς υ ((JY d'.ae).1 χ) d'.uq];exact aP.one ⟨m,ο,hm,d',γ⟩
   ·have:x=q:=by simpa using hx
    subst this;exact η j hj
  ·cases q<;>simp [T.kind]at hc
   rename_i a b;cases v<;>(try exact d'.ae.elim)
   rename_i u1 u2;obtain⟨d1,d2⟩:=d'.sum;simp only [T.size]at ξ;refine de H λvp w2 G W=>?_
   have W:Strs w2 vp [a.text,b.text]:=W;refine⟨λw'=>Ex w2 w',λw3 J=>⟨J▸Ex.drew w2,?_⟩⟩;have Z:Ex w2 w3:=J▸Ex.drew w2;refine W.GA (i:=0) (x:=a.text) (by omega) rfl ?_;refine W.GA (i:=1) (x:=b.text) (by omega) rfl ?_;refine ih (by omega) d1 λv4 w4 ψ α ω θ hg4=>⟨Z.trans α,ih (by omega) d2 λv5 w5 ps2 β ho5 ι hg5=>⟨(Z.trans α).trans β,?_⟩⟩
   have z1:=dA u1;have z2:=dA u2;have e1:=d1.ae.size;have e2:=d2.ae.size;have t1:=bE a;have t2:=bE b;have hl:=d'.len;simp only [T.text,OF,OM]at hl;have l1:=θ.1;have l2:=ι.1;have hE:Ex w w3:=(V.trans G).trans Z;refine Own.push (ω.ex β) (α.trans β).size ho5.strs (by simp only [O8];omega) λv6 w6 hb6 ho6 _ _=>?_
   have κ:Ex w3 w6:=(α.trans β).below hb6;refine⟨Z.trans κ,h _ w6 (ψ++ps2) (hE.trans κ) ?_ ?_ λx hx j hj=>?_⟩
   ·rw [PH];exact ho6.mono hE.size
   ·have μ:∀y,y∉BV u->y∉BV u1:=λy hy hb=>ζ y hy (Pm _ hb)
    have ν:∀y,y∉BV u->y∉BV u2:=λy hy hb=>ζ y hy (Pf _ hb)
    refine aP.append (θ.mono λx y _ _ ⟨m',δ,h1,h2,h3⟩=>⟨m',δ,by omega,h2,λz hz=>?_⟩) (ι.mono λx y _ _ ⟨m',δ,h1,h2,h3⟩=>⟨m',δ,by omega,h2,λz hz=>?_⟩)
    ·rw [h3 z (μ z hz),γ z hz]
    ·rw [h3 z (ν z hz),γ z hz]
   ·have hj:=η j hj;exact(OS.1 hx).elim (λhx=>hg4 x hx j λz hz=>hj z (.inl hz)) (λhx=>hg5 x hx j λz hz=>hj z (.inr hz))
theorem E6 {s o:Tx}:s≠[]->(o.Perm s↔∃i r,i< s.length/\r.Perm (s.take i++s.drop (i+1))/\o=bt s i::r):=by
 intro G;constructor
 ·intro h;cases o with
  | nil=>exact absurd h.symm.eq_nil G
  | cons c r=>
   obtain⟨i,hi,e⟩:=PD.1 (h.subset (Py ..));refine⟨i,r,hi,?_,by simp [bt,hi,e]⟩;have h2:s.Perm (s[i]::(s.take i++s.drop (i+1))):=by
    conv=>lhs;rw [<-P4 i s,PK hi]
    exact Rw
   rw [e]at h2;exact(Sd c).1 (h.trans h2)
 ·rintro⟨i,r,hi,hr,rfl⟩
  have h2:s.Perm (s[i]::(s.take i++s.drop (i+1))):=by
   conv=>lhs;rw [<-P4 i s,PK hi]
   exact Rw
  have e:bt s i=s[i]:=by simp [bt,hi]
  rw [e];exact(List.Perm.cons _ hr).trans h2.symm
theorem Cy:∀(n:Nat) {s:Tx},s.length<=n->n<=5->∀{w:World} {R:Value->Sl},
  (∀v w' (L:List Tx),Ex w w'->Own w.heap.size w' v L->L.length<=6^s.length->(∀o,o∈L↔o.Perm s)->R v w')->Sm 243 #[.string (ai s)] w (an [.v] R):=by
 intro n
 induction n with
 | zero=>
  intro s hs hn w R h;have:s=[]:=Pg (by omega);subst this;refine jE _ w R ?_;dsimp only [go_sem];dsimp only [go_sem,UInt8.reduceOfNat,UInt32.reduceOfNat,Nat.reduceAdd];refine⟨λ _=>λb w1 hb J=>h _ w1 [[]] (J▸Ex.alloc w _) (Own.one (OQ _) hb J) (by simp) λo=>by simp,λhc=>absurd hc (by simp)⟩
 | succ n ih=>
  intro s hs hn w R h;refine jE _ w R ?_;dsimp only [go_sem];dsimp only [go_sem,UInt8.reduceOfNat,UInt32.reduceOfNat,Nat.reduceAdd];refine⟨λhc=>?_,λhc=>?_⟩
  ·have hc:s=[]:=O7 hc;subst hc;exact λb w1 hb J=>h _ w1 [[]] (J▸Ex.alloc w _) (Own.one (OQ _) hb J) (by simp) λo=>by simp
  ·have κ:s≠[]:=O9 hc;have hpos:0< s.length:=Rt.2 κ;intro b cap w1 hb hrow ψ;have ω:Ex w w1:=vd ψ;have h6:6^(s.length - 1)<=1296:=PN (Nat.pow_le_pow_right (by omega) (by omega:s.length - 1<=4)) (by decide);have h6':6^s.length=6* 6^(s.length - 1):=by
    conv=>lhs;rw [show s.length=(s.length - 1)+1 by omega,Nat.pow_succ]
    omega
   generalize hP:6^(s.length - 1)=P6 at*;refine⟨some ⟨b,0,none⟩,s.length,cap,rfl,λout x w'=>Ex w w'/\∃i:Nat,x=i/\i<=s.length/\∃L:List Tx,Own w.heap.size w' out L/\L.length<=i* P6/\∀o,o∈L↔∃j r,j< i/\r.Perm (s.take j++s.drop (j+1))/\o=bt s j::r,
    λ _ x _=>((s.length:Int) - x).toNat,⟨ω,0,rfl,by omega,[],Own.nil _ _,by simp,λo=>by simp⟩,λout x w2 hI=>?_⟩
   obtain⟨μ,i,rfl,hi,L,β,hL2,ν⟩:=hI;refine⟨λγ=>?_,λγ=>?_⟩
   ·have δ:i< s.length:=by simpa using γ
    have ei:((i:Int)+1).toNat=i+1:=by omega
    refine⟨λw'=>True,λw3 hw3=>⟨trivial,by omega,by omega,by omega,by simp only [Pt,Qq];omega,?_⟩⟩;have ξ:Ex w2 w3:=hw3▸Ex.drew w2;rw [ei,OU];have hlen:(s.take i++s.drop (i+1)).length=s.length - 1:=by simp only [OM,Pt,Qq];omega
    refine ih (by omega) (by omega) λvr w4 M hx4 ε hM2 ζ=>⟨trivial,?_⟩
    rw [hlen,hP]at hM2;have ο:=ε.strs;obtain⟨ar,cr,hvr⟩:=ο.slice;have W:=ξ.trans hx4;have hE4:Ex w w4:=μ.trans W;refine⟨ar,M.length,cr,hvr,λout y w'=>(Ex w w'/\w4.heap.size<=w'.heap.size/\Strs w' vr M/\∀b,out.ownBlock=some b->vr.ownBlock≠some b)/\∃j:Nat,y=j/\j<=M.length/\Own w.heap.size w' out (L++(M.take j).map (bt s i::·)),λ _ y _=>((M.length:Int) - y).toNat,
     ⟨⟨hE4,OQ _,ο,λb hb G=>?_⟩,0,rfl,by omega,by simpa using β.ex W⟩,λout2 y w5 hI=>?_⟩
    ·have h1:=(β.block b hb).2;have h2:=(ε.block b G).1;have h3:=ξ.size;omega
    obtain⟨⟨ς,hsz5,Z,α⟩,j,rfl,hj,η⟩:=hI;have hmul:i* P6+P6<=6480:=by
     have:i* P6<=4* 1296:=RX (by omega) h6;omega
    refine⟨λθ=>?_,λθ=>?_⟩
    ·have H:j< M.length:=by simpa using θ
     refine Z.get (Ex.refl w5) (i:=j) (by omega) (x:=M[j]) (by simp [H]) ⟨by omega,by omega,?_,λb6 w6 hb6 ι=>?_⟩
     ·have :=(ζ M[j]).1 (OP H);have h7:=this.length_eq;simp only [Qq,Pt,ei,OU];omega
     ·have υ:=wJ (s:=s) (i:=(i:Int)) (by omega) (by omega);rw [ei,OU]at υ;rw [υ]at ι;have V:Ex w5 w6:=ι▸Ex.alloc w5 _;have φ:Ex w w6:=ς.trans V;refine Own.push (η.ex V) φ.size (Strs.one hb6 ι) (by simp only [OM,O8,Pt,OF,OX];omega) λv7 w7 χ ho7 hg7 hw7=>?_
      have hE7:Ex w w7:=φ.below χ;have hs7:Strs w7 vr M:=(Z.ex V).grown hg7 λb hb G=>α b G hb
      refine⟨by omega,⟨⟨hE7,?_,hs7,λb hb G=>?_⟩,j+1,by omega,H,?_⟩,by dsimp only;omega⟩
      ·have :=V.size;have :=χ.size;omega
      ·rcases hw7 b hb with h | h
       ·exact α b h G
       ·have h2:=(ε.block b G).2;have :=V.size;omega
      ·have e:L++(M.take (j+1)).map (bt s i::·)=(L++(M.take j).map (bt s i::·))++[[bt s i]++M[j]]:=by
        rw [OK H,PH,Pv];rfl
       rw [e];exact ho7
    ·have H:j=M.length:=by simp at θ;omega
     subst H;rw [Pa]at η;refine⟨by omega,⟨ς,i+1,by omega,δ,_,η,?_,λo=>?_⟩,by dsimp only;omega⟩
     ·rw [OM,O8,Nat.add_mul];omega
     ·rw [OS,ν,Pw];constructor
      ·rintro(⟨j,r,h1,h2,h3⟩ | ⟨r,hr,rfl⟩)
       ·exact⟨j,r,by omega,h2,h3⟩
       ·exact⟨i,r,by omega,(ζ r).1 hr,rfl⟩
      ·rintro⟨j,r,h1,h2,rfl⟩
       by_cases e:j=i
       ·subst e;exact .inr ⟨r,(ζ r).2 h2,rfl⟩
       ·exact .inl ⟨j,r,by omega,h2,rfl⟩
   ·have δ:i=s.length:=by simp at γ;omega
    subst δ;refine h out w2 L μ β ?_ λo=>?_
    ·have:s.length* P6<=6* P6:=Nat.mul_le_mul_right _ (by omega);omega
    ·rw [ν,E6 κ]
structure Kp (w w':World)(S:Nat->Prop):Prop where
 os:w'.os=w.os
 tape:w'.tape=w.tape
 output:w'.output=w.output
 size:w.heap.size<=w'.heap.size
 block:∀g,g< w.heap.size->¬S g->w'.heap[g]?=w.heap[g]?
theorem Kp.af {w w':World}(h:Ex w w')(S:Nat->Prop):Kp w w' S:=⟨h.os,h.tape,h.output,h.size,λg G _=>h.block g G⟩
theorem Kp.trans {a b c:World}{S T:Nat->Prop}(h:Kp a b S)(k:Kp b c T)(J:∀g,g< a.heap.size->T g->S g):Kp a c S:=
 ⟨k.os.trans h.os,k.tape.trans h.tape,k.output.trans h.output,PN h.size k.size,λg G H=>
  (k.block g (O' G h.size) λV=>H (J g G V)).trans (h.block g G H)⟩
theorem Kp.below {w w':World}{S:Nat->Prop}{B:Nat}(h:Kp w w' S)(hB:B<=w.heap.size)(G:∀g,g< B->¬S g):Below B w w':=
 ⟨h.os,h.tape,h.output,h.size,λg H=>h.block g (by omega) (G g H)⟩
theorem Strs.kp {w w':World}{v:Value}{l:List Tx}{S:Nat->Prop}(h:Strs w v l)(k:Kp w w' S)(H:∀b off n cap,v= .slice (some ⟨b,off,none⟩) n cap->¬S b):Strs w' v l:=by
 rcases h with h | ⟨b,off,cap,G,h2,J⟩
 ·exact .inl h
 ·refine .inr ⟨b,off,cap,G,O' h2 k.size,λi x V=>?_⟩;rw [OG (w:=w) (k.block b h2 (H b off _ cap G))];exact J i x V
structure GL (B:Nat)(w:World)(b:Nat)(f:Tx)(v:Value)(L:List Tx):Prop where
 lt:b< w.heap.size
 base:B<=b
 c0:w.cell? ⟨b,0,none⟩=some (sv f)
 c1:w.cell? ⟨b,1,none⟩=some v
 own:Own B w v L
 ne:v.ownBlock≠some b
 f0:w.frozen? ⟨b,0,none⟩=false
 f1:w.frozen? ⟨b,1,none⟩=false
def gS (b:Nat)(v:Value)(g:Nat):Prop:=g=b\/v.ownBlock=some g
theorem GL.ex {B:Nat}{w w':World}{b:Nat}{f:Tx}{v:Value}{L:List Tx}(h:GL B w b f v L)(k:Ex w w'):GL B w' b f v L:=
 ⟨O' h.lt k.size,h.base,by rw [k.cell h.lt];exact h.c0,by rw [k.cell h.lt];exact h.c1,h.own.ex k,h.ne,by rw [PV k h.lt];exact h.f0,by rw [PV k h.lt];exact h.f1⟩
def Je (k:Nat)(σ:Nat->Nat)(u:U)(j:Nat)(p:P)(t:U):Prop:=
 ∃m τ,k<=m/\Den m p τ t/\(∀y,t.Us y->τ y=asgN (ak u).1 j σ y)/\GF (j+(ak u).1.length) p
theorem xf:∀(l:List Nat) (n:Nat) (σ τ:Nat->Nat) (y:Nat),(y∈l\/σ y=τ y)->asgN l n σ y=asgN l n τ y
 | [],_,_,_,_,h=>by simpa [asgN]using h
 | x::l,n,σ,τ,y,h=>by
  rw [asgN,asgN];refine xf l _ _ _ y ?_;by_cases e:y=x
  ·right;subst e;simp [aI]
  ·rcases h with h | h
   ·exact .inl ((O4.1 h).resolve_left e)
   ·right;simp [aI,e,h]
theorem HE {u:U}(H:u.dI)(hd:u.dead=false)(G:∀p q,u≠ .par p q)(h2:∀x p,u≠ .res x p):ak u=([],[u]):=by
 cases u with
 | nil=>cases hd
 | snd=>rfl
 | rcv=>rfl
 | tau=>rfl
 | par p q=>exact absurd rfl (G p q)
 | res x p=>exact absurd rfl (h2 x p)
 | sum p q=>
  have G:p.dead=false:=H.1;have h2:q.dead=false:=H.2;simp [ak,G,h2]
 | mat a b p=>
  have G:a≠b:=H;have h2:p.dead=false:=hd;simp [ak,G,h2]
 | rep p=>
  have h2:p.dead=false:=hd;simp [ak,h2]
theorem GL.Hd {B:Nat}{w:World}{b:Nat}{f:Tx}{v:Value}{L:List Tx}(h:GL B w b f v L)(g:Tx):GL B (w.setCell ⟨b,0,none⟩ (sv g)) b g v L:=by
 have J:∀n,n≠b->(w.setCell ⟨b,0,none⟩ (sv g)).heap[n]?=w.heap[n]?:=λn G=>Rg _ _ _ _ G
 refine⟨by rw [Pu];exact h.lt,h.base,OY _ _ _ h.c0,?_,⟨h.own.1,?_⟩,h.ne,by rw [O0];exact h.f0,by rw [O0];exact h.f1⟩
 ·rw [OL _ _ _ _ (by simp)];exact h.c1
 ·rcases h.own.2 with G | ⟨H,cap,cur,e,hb,V,rest⟩
  ·exact .inl G
  ·refine .inr ⟨H,cap,cur,e,hb,?_,rest⟩;rw [J H λW=>h.ne (by rw [e,<-W];rfl)];exact V
theorem GL.C4 {B:Nat}{w w':World}{b:Nat}{f:Tx}{v v':Value}{L V:List Tx}(h:GL B w b f v L)(W:w.grownBy w' v.ownBlock)(Z:Own B w' v' V)(G:v'.ownBlock≠some b):
  GL B (w'.setCell ⟨b,1,none⟩ v') b f v' V/\((∃u,w'.cell? ⟨b,1,none⟩=some u)/\w'.frozen? ⟨b,1,none⟩=false):=by
 have hb:w'.heap[b]?=w.heap[b]?:=W.block b h.lt λe=>h.ne e.symm
 have e0:w'.cell? ⟨b,0,none⟩=some (sv f):=by rw [OG (w:=w) hb];exact h.c0
 have e1:w'.cell? ⟨b,1,none⟩=some v:=by rw [OG (w:=w) hb];exact h.c1
 have z0:w'.frozen? ⟨b,0,none⟩=false:=by rw [Pd (w:=w) hb];exact h.f0
 have z1:w'.frozen? ⟨b,1,none⟩=false:=by rw [Pd (w:=w) hb];exact h.f1
 have hk:∀n,n≠b->(w'.setCell ⟨b,1,none⟩ v').heap[n]?=w'.heap[n]?:=λn H=>Rg _ _ _ _ H
 refine⟨⟨by rw [Pu];exact O' h.lt W.size,h.base,?_,OY _ _ _ e1,⟨Z.1,?_⟩,G,by rw [O0];exact z0,by rw [O0];exact z1⟩,⟨⟨_,e1⟩,z1⟩⟩
 ·rw [OL _ _ _ _ (by simp)];exact e0
 ·rcases Z.2 with H | ⟨g',cap,cur,e,hb,J,rest⟩
  ·exact .inl H
  ·refine .inr ⟨g',cap,cur,e,hb,?_,rest⟩;rw [hk g' λhh=>G (by rw [e,<-hh];rfl)];exact J
theorem Kp.set {w w':World}{S:Nat->Prop}(h:Kp w w' S){b i:Nat}(hb:S b)(v:Value):Kp w (w'.setCell ⟨b,i,none⟩ v) S:=
 ⟨h.os,h.tape,h.output,by rw [Pu];exact h.size,λg H G=>(Rg _ _ _ _ (show g≠b from λe=>G (by rw [e];exact hb))).trans (h.block g H G)⟩
theorem Kp.grown {w w1 w':World}{S:Nat->Prop}(h:Kp w w1 S){row:Option Nat}(H:w1.grownBy w' row)(hr:∀g,row=some g->g< w.heap.size->S g):Kp w w' S:=
 ⟨H.os.trans h.os,H.tape.trans h.tape,H.output.trans h.output,PN h.size H.size,λg G J=>
  (H.block g (O' G h.size) (λe=>J (hr g e.symm G))).trans (h.block g G J)⟩
theorem fW:∀u:U,(ak u).2.length<=u.size
 | .nil=>by simp [ak]
 | .snd .. =>by simp [ak,T.size]
 | .rcv .. =>by simp [ak,T.size]
 | .tau .. =>by simp [ak,T.size]
 | .sum p q=>by
  have :=fW p;have :=fW q;simp only [ak,T.size];split
  ·omega
  ·split
   ·omega
   ·simp
 | .par p q=>by have :=fW p;have :=fW q;simp only [ak,T.size,OM];omega
 | .res x p=>by have :=fW p;simp only [ak,T.size];omega
 | .mat a b p=>by
  have :=fW p;simp only [ak,T.size];split
  ·omega
  ·split<;>simp
 | .rep p=>by
  simp only [ak,T.size];split<;>simp
theorem iZ:∀u:U,(ak u).1.length<=u.ow
 | .nil=>by simp [ak]
 | .snd .. =>by simp [ak]
 | .rcv .. =>by simp [ak]
 | .tau .. =>by simp [ak]
 | .sum p q=>by
  have :=iZ p;have :=iZ q;simp only [ak,T.ow];split
  ·omega
  ·split
   ·omega
   ·simp
 | .par p q=>by have :=iZ p;have :=iZ q;simp only [ak,T.ow,OM];omega
 | .res x p=>by
  have :=iZ p;simp only [ak,T.ow];split
  ·simp only [OF];omega
  ·omega
 | .mat a b p=>by
  have :=iZ p;simp only [ak,T.ow];split
  ·omega
  ·split<;>simp
 | .rep p=>by
  simp only [ak,T.ow];split<;>simp
theorem En {p:P}{u:U}{ρ:UInt8->Nat}{σ:Nat->Nat}(h:AE ρ p σ u):u.ow=p.ow:=by
 induction p generalizing u ρ σ<;>cases u<;>simp only [AE]at h<;>simp only [T.ow]
 case snd.snd G _ _ _=>exact G h.2.2
 case mat.mat G _ _ _=>exact G h.2.2
 case rcv.rcv G _ _ _=>exact G (h.2 0)
 case res.res G _ _=>rw [G (h 0)]
 case tau.tau G _=>exact G h
 case rep.rep G _=>exact G h
 case sum.sum G H _ _=>rw [G h.1,H h.2]
 case par.par G H _ _=>rw [G h.1,H h.2]
theorem H2:∀(n:Nat) {k:Nat} {p:P} {σ:Nat->Nat} {u:U} {j:Nat},p.size<=n->Den k p σ u->GF j p->j+p.ow<=64->
  ∀{B b:Nat} {v:Value} {L:List Tx} {w:World} {R:Sl},GL B w b (iq j) v L->L.length+p.size<=1099511627776->
  (∀w' v' (ps:List P),Kp w w' (gS b v)->(∀g,v'.ownBlock=some g->v.ownBlock=some g\/w.heap.size<=g)->GL B w' b (iq (j+(ak u).1.length)) v' (L++ps.map T.text)->aP (Je k σ u j) ps (ak u).2->R w')->
  Sm 242 #[.pointer (some ⟨b,0,none⟩),.string (ai p.text)] w (an [] R):=by
 intro n
 induction n with
 | zero=>intro k p σ u j h;have :=a8 p;omega
 | succ n ih=>
  intro k p σ u j hn d hgf how B b v L w R β hL h;refine j9 _ _ w R ?_;dsimp only [go_sem];dsimp only [go_sem,UInt8.reduceOfNat,UInt32.reduceOfNat,Nat.reduceAdd];refine BM d.ok λw1 hx1 ο=>?_
  have hsz:=T.wK p;have hdd:=T.mW p;refine fR _ (OQ _) ο λw2 hx2=>⟨λhd=>?_,λhd=>?_⟩
  ·have hx:Ex w w2:=hx1.trans hx2;have V:=du u d.uq (by rw [<-d.dead,<-hdd];exact hd);rw [V]at h;exact h w2 v [] (Kp.af hx _) (λg V=> .inl V) (by simpa using β.ex hx) aP.nil
  have hpd:p.dead=false:=by rw [<-hdd];exact hd
  obtain⟨m,ς,hm,d',hσ⟩:=d.peel hpd;have δ:GF j p.peel:=hgf.peel d.bd.eb;have how':j+p.peel.ow<=64:=by have :=T.Jy p;omega
  have hpu:=T.lv u;have hud:u.peel.dead=false:=by rw [T.mW,<-d.dead];exact hpd
  have hbv:∀y,y∉BV u->y∉BV u.peel:=λy hy hb=>hy (Ec u y hb)
  have υ:=d'.uq;have h:∀w' v' (ps:List P),Kp w w' (gS b v)->(∀g,v'.ownBlock=some g->v.ownBlock=some g\/w.heap.size<=g)->GL B w' b (iq (j+(ak u.peel).1.length)) v' (L++ps.map T.text)->aP (Je m ς u.peel j) ps (ak u.peel).2->R w':=by
   intro w' v' ps G h2 h3 h4;have hus:=lA u.peel υ;rw [py u d.uq]at h3;have hmem:∀t∈(ak u.peel).2,∀y,t.Us y->asgN (ak u.peel).1 j ς y=asgN (ak u.peel).1 j σ y:=by
    intro t ht y hy;refine xf _ _ _ _ _ ?_;rcases hus t ht y hy with hh | hh
    ·right;rw [T.D9]at hh;exact hσ y (d.uq.DF hh)
    ·exact .inl hh
   have h4':aP (Je k σ u j) ps (ak u.peel).2:=h4.mono λa t _ ht ⟨m',τ,q1,q2,q3,q4⟩=>⟨m',τ,by omega,q2,λy hy=>by rw [q3 y hy,hmem t ht y hy,py u d.uq],by rw [py u d.uq]at q4;exact q4⟩
   rw [py u d.uq]at h4';exact h w' v' ps G h2 h3 h4'
  generalize p.peel=q at*;generalize u.peel=t at*;have α:Ex w w2:=hx1.trans hx2;have ε:=β.ex α;have thread:(∀a b,q≠ .par a b)->(∀x a,q≠ .res x a)->True:=λ _ _=>trivial
  refine aO ο ⟨λhc=>?_,λhc=>⟨λhc2=>?_,λhc2=>?_⟩⟩
  ·
   cases q<;>simp [T.kind]at hc
   rename_i a c;cases t<;>(try exact d'.ae.elim)
   rename_i W u2;obtain⟨d1,d2⟩:=d'.par;simp only [T.size]at hsz;simp only [T.ow]at how';have z1:=d1.ae.size;have z2:=d2.ae.size;refine p9 ο λvp w3 Z χ hfr=>?_
   have χ:Strs w3 vp [a.text,c.text]:=χ;have J:=ε.ex Z;have ν:Ex w w3:=α.trans Z;refine χ.get (Ex.refl w3) (i:=0) (x:=a.text) (by omega) rfl ?_;refine ih (by omega) d1 (λz hz=>δ z (.inl hz)) (by omega) J (by omega) λw4 v4 ps1 hk4 hv4 hGL4 ha4=>?_
   have hs4:Strs w4 vp [a.text,c.text]:=χ.kp hk4 λbp off n' cap e hS=>by
    have hb:=hfr bp (by rw [e];rfl);rcases hS with rfl | hS
    ·have :=ε.lt;omega
    ·have :=(β.own.block bp hS).2;have :=α.size;omega
   refine hs4.get (Ex.refl w4) (i:=1) (x:=c.text) (by omega) rfl ?_;have l1:=ha4.1;have g1:(ak W).2.length<=W.size:=fW W;have o1:(ak W).1.length<=a.ow:=by rw [<-En d1.ae];exact iZ W
   refine ih (by omega) d2 (λz hz V=>?_) (by omega) hGL4 (by simp only [OM,O8];omega) λw5 v5 ps2 hk5 hv5 ζ ha5=>?_
   ·obtain⟨i,hi,e⟩:=δ z (.inr hz) V;exact⟨i,by omega,e⟩
   ·have hv45:∀g,v5.ownBlock=some g->v.ownBlock=some g\/w.heap.size<=g:=by
     intro g V;rcases hv5 g V with G | G
     ·rcases hv4 g G with h2 | h2
      ·exact .inl h2
      ·right;have :=ν.size;omega
     ·right;have :=ν.size;have :=hk4.size;omega
    refine h w5 v5 (ps1++ps2) ?_ hv45 ?_ ?_
    ·refine Kp.trans (Kp.trans (Kp.af ν (gS b v)) hk4 λg _ V=>V) hk5 λg V hS=>?_
     rcases hS with G | G
     ·exact .inl G
     ·rcases hv4 g G with h2 | h2
      ·exact .inr h2
      ·have :=ν.size;omega
    ·have e1:(ak (T.par W u2)).1.length=(ak W).1.length+(ak u2).1.length:=by simp [ak]
     rw [e1,<-Q9,PH,<-Pv];exact ζ
    ·have hnd:=Pp.1 υ.nd;have hus1:=lA W d1.uq;have hus2:=lA u2 d2.uq;refine aP.append (ha4.mono λx y _ hy ⟨m',τ,q1,q2,q3,q4⟩=>⟨m',τ,q1,q2,λz hz=>?_,λz hz V=>?_⟩) (ha5.mono λx y _ hy ⟨m',τ,q1,q2,q3,q4⟩=>⟨m',τ,q1,q2,λz hz=>?_,λz hz V=>?_⟩)
     ·have hno:z∉(ak u2).1:=λhin=>by
       have hb2:=iP u2 z hin;rcases hus1 y hy z hz with G | G
       ·exact υ.nf z (Pf _ hb2) (.inl (T.bI G))
       ·exact hnd.2.2 z (iP W z G) z hb2 rfl
      show τ z=asgN ((ak W).1++(ak u2).1) j ς z;rw [lu,jv _ _ _ _ hno];exact q3 z hz
     ·obtain⟨i,hi,e⟩:=q4 z hz V;have e1:(ak (T.par W u2)).1.length=(ak W).1.length+(ak u2).1.length:=by simp [ak]
      exact⟨i,by omega,e⟩
     ·have hno:z∉(ak W).1:=λhin=>by
       have hb1:=iP W z hin;rcases hus2 y hy z hz with G | G
       ·exact υ.nf z (Pm _ hb1) (.inr (T.bI G))
       ·exact hnd.2.2 z hb1 z (iP u2 z G) rfl
      show τ z=asgN ((ak W).1++(ak u2).1) j ς z;rw [lu,q3 z hz];exact u9 _ _ _ _ _ (jv _ _ _ _ hno).symm
     ·obtain⟨i,hi,e⟩:=q4 z hz V;have e1:(ak (T.par W u2)).1.length=(ak W).1.length+(ak u2).1.length:=by simp [ak]
      exact⟨i,by omega,e⟩
  ·cases q<;>simp [T.kind]at hc2
   rename_i x a;cases t<;>(try exact d'.ae.elim)
   rename_i y W;have hne:T.res x a≠ .nil:=λe=>by cases e
   have hj:j< 90:=by omega
   have oka:=ο.parts a (by simp [T.parts]);refine⟨λc w'=>Ex w2 w'/\∃i:Nat,i<=j/\c=gl i,λc _=>256 - c.toNat,⟨Ex.refl _,0,by omega,rfl⟩,λc w3 hI=>?_⟩;obtain⟨Z,i,hi,rfl⟩:=hI;have J:=ε.ex Z;have next:∀w',Ex w2 w'->i< j->((decide (gl i+1=91))=true->(Ex w2 w'/\∃i':Nat,i'<=j/\(192:UInt8)=gl i')/\256 - (192:UInt8).toNat< 256 - (gl i).toNat)/\((decide (gl i+1=91))=false->(Ex w2 w'/\∃i':Nat,i'<=j/\gl i+1=gl i')/\256 - (gl i+1).toNat< 256 - (gl i).toNat):=by
    intro w' hx' ψ;obtain⟨n1,n2⟩:=KF (i:=i) (by omega);have e1:=ky (show i< 90 by omega);have e2:=ky (show i+1< 90 by omega);refine⟨λhc=>?_,λhc=>?_⟩
    ·have hc:=O7 hc;refine⟨⟨hx',i+1,by omega,(n1 hc).symm⟩,?_⟩;rw [<-n1 hc,e2,e1];split<;>split<;>omega
    ·have hc:=O9 hc;refine⟨⟨hx',i+1,by omega,(n2 hc).symm⟩,?_⟩;rw [<-n2 hc,e2,e1];split<;>split<;>omega
   refine⟨b,0,rfl,iq j,J.c0,iR (by rw [iC];omega) ⟨λhq=>?_,λhq=>?_⟩⟩
   ·have hq:¬gl i∈iq j:=O9 hq;have ψ:i=j:=by
     rcases Qn i j with G | G
     ·exact absurd (iE.2 ⟨i,G,rfl⟩) hq
     ·omega
    subst ψ;refine jA _ (OQ _) ο λs w4 hx4 hs4 hm4=>iR (by have :=hs4.bound;omega) ⟨λθ=>?_,λθ=>?_⟩
    ·have θ:gl i∈s:=O7 θ;obtain⟨i',G,h2⟩:=δ _ ((hm4 _).1 θ) (yv hj);exact absurd (yu hj (by omega) h2) (by omega)
    ·have θ:¬(T.res x a).Fr (gl i):=by rw [<-hm4];exact O9 θ
     have hx24:Ex w2 w4:=Z.trans hx4;have ξ:Ex w w4:=α.trans hx24;have fin:∀w5 w6,Ex w4 w5->w6=w5.setCell ⟨b,0,none⟩ (.string (ai (iq i++[gl i])))->Kp w w6 (gS b v)/\GL B w6 b (iq (i+1)) v L:=by
      rintro w5 w6 γ rfl
      refine⟨Kp.set (Kp.af (ξ.trans γ) _) (.inl rfl) _,?_⟩;rw [Ae];exact(β.ex (ξ.trans γ)).Hd _
     refine⟨λw'=>Kp w w' (gS b v)/\GL B w' b (iq (i+1)) v L,⟨λ _=>True,λw5 ι=>⟨trivial,b,0,rfl,?_,λb6 w6 ω κ=>⟨trivial,?_,?_⟩⟩⟩,λw6 hJ=>?_⟩
     ·have γ:Ex w4 w5:=ι▸Ex.drew w4;have ζ:=(β.ex (ξ.trans γ))
      refine⟨iq i,ζ.c0,trivial,λb6 w6 ω κ=>⟨trivial,b6,0,1,1,[gl i],rfl,rfl,lz _ ω κ,trivial,by rw [iC];simp;omega,?_⟩⟩;have η:Ex w4 w6:=γ.trans (κ▸Ex.alloc w5 _);have H:=β.ex (ξ.trans η);exact⟨b,0,rfl,⟨⟨_,H.c0⟩,H.f0⟩,λw7 μ=>⟨trivial,fin w6 w7 η μ⟩⟩
     ·have γ:Ex w4 w5:=ι▸Ex.drew w4;have η:Ex w4 w6:=γ.trans (κ▸Ex.alloc w5 _);have H:=β.ex (ξ.trans η);refine⟨iq i,H.c0,trivial,b6,0,1,1,[gl i],rfl,rfl,lz _ ω κ,trivial,by rw [iC];simp;omega,?_⟩;exact⟨b,0,rfl,⟨⟨_,H.c0⟩,H.f0⟩,λw7 μ=>⟨trivial,fin w6 w7 η μ⟩⟩
     ·have γ:Ex w4 w5:=ι▸Ex.drew w4;have η:Ex w4 w6:=γ.trans (κ▸Ex.alloc w5 _);have H:=β.ex (ξ.trans η);refine⟨b6,0,1,1,[gl i],rfl,rfl,lz _ ω κ,trivial,iq i,H.c0,trivial,by rw [iC];simp;omega,?_⟩;exact⟨b,0,rfl,⟨⟨_,H.c0⟩,H.f0⟩,λw7 μ=>⟨trivial,fin w6 w7 η μ⟩⟩
     ·obtain⟨hk6,H⟩:=hJ;refine⟨λ _=>True,λw7 μ=>⟨trivial,by simp only [T.text,OF];omega,by simp only [T.text,OF];omega,?_⟩⟩;have hx7:Ex w6 w7:=μ▸Ex.drew w6;have hle:=d'.bd.le;simp only [T.rd,T.ow]at hle;simp only [T.ow]at how';simp only [T.size]at hsz;have hbda:=T.Ao a;refine ig _ (OQ _) oka d'.bd.eb.2 (by omega) (Nv hj) (LU hj) λq' w8 hx8 hq'=>⟨trivial,?_⟩
      have dr:=d'.res hq' θ;have hsz':=T.pG hq'.shp;have how2:=T.zt hq'.shp;have φ:=hx7.trans hx8;refine ih (by omega) dr (λz hz V=>?_) (by omega) (H.ex φ) (by omega) λw9 v9 ps hk9 hv9 hGL9 ha9=>⟨trivial,?_⟩
      ·rcases hq'.ok.free z hz with G | G | G
       ·exact⟨i,by omega,G⟩
       ·obtain⟨i',h2,h3⟩:=δ z ⟨G.1,G.2⟩ V;exact⟨i',by omega,h3⟩
       ·exact absurd V (eM (G.1▸d'.bd.eb.1.1))
      ·have hus:(td W).2.has y=true:=(gk W y υ.gm).2 hpu;have e1:(ak (T.res y W)).1=y::(ak W).1:=by simp [ak,hus]
       have sz6:=hk6.size;refine h w9 v9 ps ?_ ?_ ?_ ?_
       ·exact Kp.trans hk6 (Kp.trans (Kp.af φ (gS b v)) hk9 λg _ hS=>hS) λg _ hS=>hS
       ·intro g V;rcases hv9 g V with G | G
        ·exact .inl G
        ·right;have :=φ.size;omega
       ·rw [e1,OF];have e2:i+((ak W).1.length+1)=i+1+(ak W).1.length:=by omega
        rw [e2];exact hGL9
       ·refine ha9.mono λp' t' _ _ ⟨m',τ,q1,q2,q3,q4⟩=>⟨m',τ,by omega,q2,λz hz=>?_,λz hz V=>?_⟩
        ·rw [e1,asgN];exact q3 z hz
        ·obtain⟨i',h2,h3⟩:=q4 z hz V;exact⟨i',by rw [e1,OF];omega,h3⟩
   ·have hq:gl i∈iq j:=O7 hq;obtain⟨i',G,h2⟩:=iE.1 hq;have ψ:i< j:=by rw [yu (by omega) (by omega) h2];exact G
    exact next w3 Z ψ
  ·
   have hnp:∀a c,t≠ .par a c:=λa c e=>by
    subst e;cases q<;>first | exact d'.ae.elim | simp [T.kind]at hc
   have hnr:∀x a,t≠ .res x a:=λx a e=>by
    subst e;cases q<;>first | exact d'.ae.elim | simp [T.kind]at hc2
   have V:=HE hpu hud hnp hnr;have hlen:L.length+1<=1099511627776:=by have :=a8 p;omega
   refine⟨b,0,rfl,v,ε.c1,λb3 w3 hb3 hw3=>?_⟩;have Z:Ex w2 w3:=hw3▸Ex.alloc w2 _;have J:=ε.ex Z;refine Own.push J.own (PN J.base (Nat.le_of_lt J.lt)) (Strs.one hb3 hw3) (by simpa using hlen) λv4 w4 hb4 ho4 hg4 hw4=>?_
   have hne:v4.ownBlock≠some b:=λe=>by
    rcases hw4 b e with G | G
    ·exact β.ne G
    ·have :=J.lt;omega
   obtain⟨ζ,hcell⟩:=J.C4 hg4 ho4 hne;refine⟨b,0,rfl,?_,hcell,λw5 ι=>?_⟩
   ·rcases ho4.2 with⟨rfl,_⟩ | ⟨_,_,_,rfl,_⟩<;>rfl
   ·have ι:w5=w4.setCell ⟨b,1,none⟩ v4:=ι;subst ι;refine h _ v4 [q] ?_ ?_ ?_ ?_
    ·refine Kp.set (Kp.grown (Kp.af (α.trans Z) _) hg4 λg hg' _=> .inr hg') (.inl rfl) _
    ·intro g hg';rcases hw4 g hg' with G | G
     ·exact .inl G
     ·right;have :=(α.trans Z).size;omega
    ·rw [V];exact ζ
    ·rw [V];refine aP.one ⟨m,ς,OQ _,d',λy _=>by rw [V];rfl,by rw [V];exact δ⟩
end Go.Proofs.YtdecokaadekjnaaGreat
namespace Go.Proofs.YtdecokaadekjnaaGreat
def kD (l:List U):Nat:=(l.map T.aN).sum+3* l.length
theorem rz (l m:List U):kD (l++m)=kD l+kD m:=by simp [kD];omega
theorem jk:kD []=0:=rfl
theorem cH (u:U):kD [u]=u.aN+3:=by simp [kD]
theorem A6 (u:U):1<=u.aN:=by cases u<;>simp only [T.aN]<;>omega
theorem fM:∀u:U,kD (ak u).2+3* (ak u).1.length<=u.aN+3
 | .nil=>by simp [ak,jk]
 | .snd .. =>by simp [ak,cH]
 | .rcv .. =>by simp [ak,cH]
 | .tau .. =>by simp [ak,cH]
 | .sum p q=>by
  have :=fM p;have :=fM q;simp only [ak,T.aN];split
  ·omega
  ·split
   ·omega
   ·simp [cH,T.aN]
 | .par p q=>by
  have :=fM p;have :=fM q;simp only [ak,T.aN,rz,OM];omega
 | .res x p=>by
  have :=fM p;simp only [ak,T.aN];split
  ·simp only [OF];omega
  ·omega
 | .mat a b p=>by
  have :=fM p;simp only [ak,T.aN];split
  ·omega
  ·split
   ·simp [jk]
   ·simp [cH,T.aN]
 | .rep p=>by
  simp only [ak,T.aN];split
  ·simp [jk]
  ·simp [cH,T.aN]
theorem dZ:∀u:U,kD (aw u)<=u.aN+3
 | .nil=>by simp [aw,jk]
 | .snd .. =>by simp [aw,cH]
 | .rcv .. =>by simp [aw,cH]
 | .tau .. =>by simp [aw,cH]
 | .sum p q=>by
  have :=dZ p;have :=dZ q;simp only [aw,T.aN,rz];omega
 | .par p q=>by
  have :=dZ p;have :=dZ q;simp only [aw,T.aN];split
  ·omega
  ·split
   ·omega
   ·simp [cH,T.aN]
 | .res x p=>by
  have :=dZ p;simp only [aw,T.aN];split
  ·simp [cH,T.aN]
  ·omega
 | .mat a b p=>by
  have :=dZ p;simp only [aw,T.aN];split
  ·omega
  ·split
   ·simp [jk]
   ·simp [cH,T.aN]
 | .rep p=>by
  simp only [aw,T.aN];split
  ·simp [jk]
  ·simp [cH,T.aN]
theorem o7 {p:P}{u:U}{ρ:UInt8->Nat}{σ:Nat->Nat}(h:AE ρ p σ u):u.aN=p.aN:=by
 induction p generalizing u ρ σ<;>cases u<;>simp only [AE]at h<;>simp only [T.aN]
 case snd.snd G _ _ _=>rw [G h.2.2]
 case mat.mat G _ _ _=>rw [G h.2.2]
 case rcv.rcv G _ _ _=>rw [G (h.2 0)]
 case res.res G _ _=>rw [G (h 0)]
 case tau.tau G _=>rw [G h]
 case rep.rep G _=>rw [G h]
 case sum.sum G H _ _=>rw [G h.1,H h.2]
 case par.par G H _ _=>rw [G h.1,H h.2]
theorem Io {c:UInt8}(h:c∈nA):lt c=true:=by
 obtain⟨i,hi,rfl⟩:=Pw.1 h;rw [Qc]at hi;have e:(UInt8.ofNat (97+i)).toNat=97+i:=by rw [PT];omega
 simp only [lt,OJ,OW];exact⟨O6.2 (by rw [e];show 97<=_;omega),O6.2 (by rw [e];show _<=122;omega)⟩
theorem Bc {tk:Tk}{c:UInt8}(h:vF tk=some c):tk c=false/\lt c=true/\iV tk=c:=by
 have G:=Rj h;have h2:=List.find?_some h;exact⟨by simpa using h2,Io G,by unfold iV;rw [h];rfl⟩
theorem HA {tk:Tk}(h:(vF tk).isNone=false):tk (iV tk)=false/\lt (iV tk)=true:=by
 cases e:vF tk with
 | none=>rw [e]at h;cases h
 | some c=>obtain⟨G,h2,H⟩:=Bc e;rw [H];exact⟨G,h2⟩
theorem yi:∀(l:List UInt8) (tk:Tk) (c:UInt8),addK l tk c=(tk c||decide (c∈l))
 | [],tk,c=>by simp [addK]
 | d::l,tk,c=>by
  rw [addK,yi l];by_cases h:c=d
  ·subst h;simp [cz]
  ·have hb:(c==d)=false:=by simpa using h
   simp [cz,hb,h]
theorem wL:∀(n:Nat) (tk:Tk),gI n tk=false->(lets n tk).Nodup/\∀c∈lets n tk,tk c=false/\lt c=true
 | 0,tk,_=>⟨Qi,λc h=>by cases h⟩
 | n+1,tk,h=>by
  simp only [gI,Qd]at h;obtain⟨J,h2⟩:=HA h.1;obtain⟨V,G⟩:=wL n _ h.2;rw [lets];refine⟨PO.2 ⟨λhm=>?_,V⟩,λc hc=>?_⟩
  ·have :=(G _ hm).1;simp [cz]at this
  ·rcases O4.1 hc with rfl | hc
   ·exact⟨J,h2⟩
   ·obtain⟨H,W⟩:=G c hc;simp only [cz,Qd]at H;exact⟨H.1,W⟩
theorem IL:∀(u:U) (y:Nat),u.Us y->∃t∈(ak u).2,t.Us y:=by
 intro u
 induction u with
 | nil=>intro y h;exact h.elim
 | snd a b p G=>intro y h;exact⟨_,by simp [ak],h⟩
 | rcv a b p G=>intro y h;exact⟨_,by simp [ak],h⟩
 | tau p G=>intro y h;exact⟨_,by simp [ak],h⟩
 | sum p q G H=>
  intro y h;simp only [ak];split
  ·rename_i e;exact H y (h.resolve_left (T.bK e))
  ·split
   ·rename_i e;exact G y (h.resolve_right (T.bK e))
   ·exact⟨_,by simp,h⟩
 | par p q G H=>
  intro y h;simp only [ak,OS];rcases h with h | h
  ·obtain⟨t,J,h2⟩:=G y h;exact⟨t,.inl J,h2⟩
  ·obtain⟨t,J,h2⟩:=H y h;exact⟨t,.inr J,h2⟩
 | res x p G=>intro y h;exact G y h.2
 | mat a b p G=>
  intro y h;simp only [ak];rcases h with⟨e,h⟩ | ⟨e,hd,h⟩
  ·rw [Pj e];exact G y h
  ·rw [O1 e,O1 (by simp [hd])];exact⟨.mat a b p,by simp,.inr ⟨e,hd,h⟩⟩
 | rep p G=>
  intro y h;simp only [ak];split
  ·rename_i e;exact absurd h (T.bK (p:=p) e)
  ·exact⟨_,by simp,h⟩
theorem AM:∀(u:U),Uq u->∀x∈(ak u).1,∃t∈(ak u).2,t.Us x:=by
 intro u
 induction u with
 | nil=>intro _ x h;simp [ak]at h
 | snd=>intro _ x h;simp [ak]at h
 | rcv=>intro _ x h;simp [ak]at h
 | tau=>intro _ x h;simp [ak]at h
 | sum p q G H=>
  intro hu x h;simp only [ak]at h|-;split at h
  ·rename_i e;rw [Pj e];exact H hu.dS x h
  ·rename_i e;rw [O1 e];split at h
   ·rename_i V;rw [Pj V];exact G hu.eD x h
   ·simp at h
 | par p q G H=>
  intro hu x h;simp only [ak,OS]at h|-;rcases h with h | h
  ·obtain⟨t,J,h2⟩:=G hu.gz x h;exact⟨t,.inl J,h2⟩
  ·obtain⟨t,J,h2⟩:=H hu.fU x h;exact⟨t,.inr J,h2⟩
 | res y p G=>
  intro hu x h;have W:(ak (.res y p)).2=(ak p).2:=rfl;rw [W];simp only [ak]at h;split at h
  ·rename_i Z;rcases O4.1 h with rfl | h
   ·exact IL p x ((gk p x hu.gm).1 Z)
   ·exact G hu.res x h
  ·exact G hu.res x h
 | mat a b p G=>
  intro hu x h;simp only [ak]at h|-;split at h
  ·rename_i e;rw [Pj e];exact G hu.mat x h
  ·rename_i e;split at h<;>simp at h
 | rep p G=>
  intro hu x h;simp only [ak]at h;split at h<;>simp at h
theorem gO:∀(u:U),Uq u->(ak u).1.Nodup:=by
 intro u
 induction u with
 | nil=>intro _;simp [ak]
 | snd=>intro _;simp [ak]
 | rcv=>intro _;simp [ak]
 | tau=>intro _;simp [ak]
 | sum p q G H=>
  intro hu;simp only [ak];split
  ·exact H hu.dS
  ·split
   ·exact G hu.eD
   ·simp
 | par p q G H=>
  intro hu;simp only [ak];refine Pp.2 ⟨G hu.gz,H hu.fU,λa ha b hb e=>?_⟩;exact(Pp.1 hu.nd).2.2 a (iP p a ha) b (iP q b hb) e
 | res y p G=>
  intro hu;simp only [ak];split
  ·exact PO.2 ⟨λh=>hu.gm (iP p y h),G hu.res⟩
  ·exact G hu.res
 | mat a b p G=>
  intro hu;simp only [ak];split
  ·exact G hu.mat
  ·split<;>simp
 | rep p G=>
  intro hu;simp only [ak];split<;>simp
theorem kz:∀(l:List Nat) (n:Nat) (σ:Nat->Nat) (i:Nat) (h:i< l.length),l.Nodup->asgN l n σ l[i]=(gl (n+i)).toNat
 | [],_,_,_,h,_=>by simp at h
 | x::l,n,σ,0,_,G=>by
  have :=PO.1 G;simp only [QT,asgN];rw [jv _ _ _ _ this.1];simp [aI]
 | x::l,n,σ,i+1,h,G=>by
  have :=PO.1 G;simp only [List.getElem_cons_succ,asgN];rw [kz l _ _ i (by simpa using h) this.2]
  congr 2
  omega
end Go.Proofs.YtdecokaadekjnaaGreat
namespace Go.Proofs.YtdecokaadekjnaaGreat
open Go
attribute [go_sem] Tryz.f224
theorem mh (G:Value)(H:aB)(t3:aB)(w:World)(R:aB->Sl)(h:vc az (bf [(5,[(8,.s),(32,.i)]),(11,[(11,.s),(12,.i)]),(23,[(13,.s),(14,.s),(84,.i)]),(33,[(16,.s),(107,.i)]),(40,[(16,.s),(21,.i)])] [(12,[(11,.s)]),(32,[(17,.v)]),(38,[(16,.s)])] []) (ab Tryz.f224) (aj 0 [.v G,.s H,.s t3]) w (fin az [.tmp 6 .s] R)):
  Sm 224 #[G,(.string (ai H)),(.string (ai t3))] w (an [.s] R):=
 bD Tryz.func224 (by kernel_rfl) h
attribute [go_sem] Tryz.f244
theorem lB (G:Value)(t2:Value)(H:aB)(l4:aB)(t5:aB)(w:World)(R:aB->Sl)(h:vc az (bf [(3,[(11,.v),(17,.i)]),(6,[(13,.s),(14,.i)])] [] [(8,false,.lt 0 (.lt 1 (.lt 2 (.lt 3 (.lt 4 (.lt 5 (.lt 6 (.one .h 7 (.lt 8 .done)))))))))]) (ab Tryz.f244) (aj 0 [.v G,.v t2,.s H,.s l4,.s t5]) w (fin az [.tmp 10 .s] R)):
  Sm 244 #[G,t2,(.string (ai H)),(.string (ai l4)),(.string (ai t5))] w (an [.s] R):=
 bD Tryz.func244 (by kernel_rfl) h
attribute [go_sem] Tryz.f257
theorem kX (G:Value)(H:aB)(t3:aB)(w:World)(R:aB->Sl)(h:vc az (bf [(17,[(10,.v),(87,.i)])] [] [(4,false,.lt 0 (.lt 1 (.lt 4 (.lt 5 (.lt 6 (.lt 9 (.one .h 2 (.lt 3 (.one .h 7 (.lt 8 (.one .h 10 (.lt 11 (.lt 12 .done))))))))))))),(7,false,.lt 0 (.lt 1 (.lt 2 (.lt 7 (.lt 8 (.lt 9 (.lt 10 (.lt 11 (.lt 12 (.lt 14 (.lt 15 (.br .h 3 (.br .h 4 (.lt 5 (.lt 6 (.one .h 13 (.one .h 16 (.one .h 17 (.lt 18 (.lt 19 .done))))))) (.one .h 13 (.br .h 4 (.lt 5 (.lt 6 (.one .h 16 (.one .h 17 (.lt 18 (.lt 19 .done)))))) (.one .h 16 (.br .h 4 (.lt 5 (.lt 6 (.one .h 17 (.lt 18 (.lt 19 .done))))) (.one .h 17 (.one .h 4 (.lt 5 (.lt 6 (.lt 18 (.lt 19 .done))))))))))) (.one .h 13 (.br .h 3 (.br .h 4 (.lt 5 (.lt 6 (.one .h 16 (.one .h 17 (.lt 18 (.lt 19 .done)))))) (.one .h 16 (.br .h 4 (.lt 5 (.lt 6 (.one .h 17 (.lt 18 (.lt 19 .done))))) (.one .h 17 (.one .h 4 (.lt 5 (.lt 6 (.lt 18 (.lt 19 .done))))))))) (.one .h 16 (.br .h 3 (.br .h 4 (.lt 5 (.lt 6 (.one .h 17 (.lt 18 (.lt 19 .done))))) (.one .h 17 (.one .h 4 (.lt 5 (.lt 6 (.lt 18 (.lt 19 .done))))))) (.one .h 17 (.one .h 3 (.one .h 4 (.lt 5 (.lt 6 (.lt 18 (.lt 19 .done))))))))))))))))))))))),(9,false,.lt 0 (.lt 1 (.lt 2 (.lt 3 (.lt 4 (.lt 5 .done))))))]) (ab Tryz.f257) (aj 0 [.v G,.s H,.s t3]) w (fin az [.tmp 6 .s] R)):
  Sm 257 #[G,(.string (ai H)),(.string (ai t3))] w (an [.s] R):=
 bD Tryz.func257 (by kernel_rfl) h
attribute [go_sem] Tryz.f189
theorem yM (G:aB)(w:World)(R:aB->Bool->Sl)(h:vc az (bf [(4,[(5,.i),(19,.i)])] [] [(13,false,.lt 0 (.lt 1 (.lt 2 (.lt 3 (.lt 4 (.lt 5 (.lt 6 (.lt 7 .done))))))))]) (ab Tryz.f189) (aj 0 [.s G]) w (fin az [.tmp 2 .s,.tmp 3 .b] R)):
  Sm 189 #[(.string (ai G))] w (an [.s,.b] R):=
 bD Tryz.func189 (by kernel_rfl) h
attribute [go_sem] Tryz.f150
theorem xP (G:aB)(w:World)(R:aB->Bool->Sl)(h:vc az (bf [] [] []) (ab Tryz.f150) (aj 0 [.s G]) w (fin az [.tmp 2 .s,.tmp 3 .b] R)):
  Sm 150 #[(.string (ai G))] w (an [.s,.b] R):=
 bD Tryz.func150 (by kernel_rfl) h
end Go.Proofs.YtdecokaadekjnaaGreat
namespace Go.Proofs.YtdecokaadekjnaaGreat
open Go Go.RowKit
structure MK (w:World)(bm:Nat)(br on:Bool):Prop where
 lt:bm< w.heap.size
 c0:w.cell? ⟨bm,0,none⟩=some (.bool br)
 c1:w.cell? ⟨bm,1,none⟩=some (.bool on)
 f0:w.frozen? ⟨bm,0,none⟩=false
theorem MK.ex {w w':World}{bm:Nat}{br on:Bool}(h:MK w bm br on)(k:Ex w w'):MK w' bm br on:=
 ⟨O' h.lt k.size,by rw [k.cell h.lt];exact h.c0,by rw [k.cell h.lt];exact h.c1,by rw [PV k h.lt];exact h.f0⟩
def cT (T:Tx):Tk:=λc=>decide (c∈T)
structure xS (k:Nat)(T:Tx)(σ:Nat->Nat)(u:U):Prop where
 srt:jb T
 okn:∀c∈T,okn k c/\ngr c
 cov:∀y,u.Us y->∃c∈T,c.toNat=σ y
def Compat (ρ:Rh)(σ:Nat->Nat)(u:U):Prop:=∀y,u.Us y->(ρ y).toNat=σ y
structure WR (on:Bool)(u:U)(σ:Nat->Nat)(T r:Tx):Prop where
 ne:r≠[]
 len:r.length<=u.aN
 cnt:bn u<=5->r.count 35=cQ u
 bad:bn u<=5->on=false->dD u (cT T)=true->∃c∈r,128<=c
 eq:bn u<=5->on=false->dD u (cT T)=false->∀ρ,Compat ρ σ u->r=LS u ρ (cT T)
structure TR (on:Bool)(t:U)(σ:Nat->Nat)(T r:Tx):Prop where
 ne:r≠[]
 len:r.length<=t.aN
 cnt:ax (tl [t])<=5->r.count 35=thAll (tl [t])
 bad:ax (tl [t])<=5->on=false->thBad (tl [t]) (cT T)=true->∃c∈r,128<=c
 eq:ax (tl [t])<=5->on=false->thBad (tl [t]) (cT T)=false->∀ρ,Compat ρ σ t->r=thU t ρ (cT T)
def IH (n:Nat):Prop:=∀{k:Nat} {p:P} {σ:Nat->Nat} {u:U} {T:Tx} {w:World} {bm:Nat} {br on:Bool} {R:aB->Sl},
 p.size<=n->Den k p σ u->GF 0 p->xS k T σ u->MK w bm br on->
 (∀r w',Kp w w' (λg=>g=bm)->MK w' bm (br||decide (5< bn u)) on->WR on u σ T r->R r w')->
 Sm 224 #[.pointer (some ⟨bm,0,none⟩),.string (ai p.text),.string (ai T)] w (an [.s] R)
def zI (n:Nat):Prop:=∀{k:Nat} {p:P} {σ:Nat->Nat} {t:U} {T:Tx} {w:World} {bm:Nat} {br on:Bool} {R:aB->Sl},
 p.size<=n->Den k p σ t->JA t=true->t.dI->t.dead=false->GF 0 p->xS k T σ t->MK w bm br on->
 (∀r w',Kp w w' (λg=>g=bm)->MK w' bm (br||decide (5< ax (tl [t]))) on->TR on t σ T r->R r w')->
 Sm 257 #[.pointer (some ⟨bm,0,none⟩),.string (ai p.text),.string (ai T)] w (an [.s] R)
end Go.Proofs.YtdecokaadekjnaaGreat
namespace Go.Proofs.YtdecokaadekjnaaGreat
theorem jw (a b:Nat)(p:U)(tk:Tk):thBad (tl [.snd a b p]) tk=dD p tk:=by simp [tl,thBad,dD]
theorem jy (p:U)(tk:Tk):thBad (tl [.tau p]) tk=dD p tk:=by simp [tl,thBad,dD]
theorem fy (a b:Nat)(p:U)(tk:Tk):thBad (tl [.mat a b p]) tk=dD p tk:=by simp [tl,thBad,dD]
theorem ji (p:U)(tk:Tk):thBad (tl [.rep p]) tk=dD p tk:=by simp [tl,thBad,dD]
theorem jn (a x:Nat)(p:U)(tk:Tk):thBad (tl [.rcv a x p]) tk=((vF tk).isNone||dD p (cz tk (iV tk))):=by simp [tl,thBad,dD]
theorem p4 (a b:Nat)(p:U):thAll (tl [.snd a b p])=cQ p:=by simp [tl,thAll,cQ]
theorem p5 (p:U):thAll (tl [.tau p])=cQ p:=by simp [tl,thAll,cQ]
theorem jt (a b:Nat)(p:U):thAll (tl [.mat a b p])=cQ p:=by simp [tl,thAll,cQ]
theorem qd (p:U):thAll (tl [.rep p])=cQ p:=by simp [tl,thAll,cQ]
theorem qu (a b:Nat)(p:U):thAll (tl [.rcv a b p])=cQ p:=by simp [tl,thAll,cQ]
theorem fq (a b:Nat)(p:U):ax (tl [.snd a b p])=bn p:=by simp [tl,ax,bn]
theorem fk (p:U):ax (tl [.tau p])=bn p:=by simp [tl,ax,bn]
theorem dt (a b:Nat)(p:U):ax (tl [.mat a b p])=bn p:=by simp [tl,ax,bn]
theorem e9 (p:U):ax (tl [.rep p])=bn p:=by simp [tl,ax,bn]
theorem eY (a b:Nat)(p:U):ax (tl [.rcv a b p])=bn p:=by simp [tl,ax,bn]
theorem zm (l:List U)(tk:Tk):thBad (tp l) tk=l.any λu=>dD u tk:=by
 induction l with
 | nil=>rfl
 | cons u l G=>rw [tp,thBad,G];rfl
theorem GI (l:List U):thAll (tp l)=(l.map cQ).sum:=by
 induction l with
 | nil=>rfl
 | cons u l G=>rw [tp,thAll,G];rfl
theorem xz (l:List U)(n:Nat):ax (tp l)<=n↔∀u∈l,bn u<=n:=by
 induction l with
 | nil=>simp [tp,ax]
 | cons u l G=>
  rw [tp,ax];rw [OT,<-G];unfold bn;exact⟨λh=>⟨by omega,by omega⟩,λh=>by have :=h.1;have :=h.2;omega⟩
theorem sY (l:List U)(tk:Tk):thBad (tl l) tk=l.any λt=>thBad (tl [t]) tk:=by
 induction l with
 | nil=>rfl
 | cons u l G=>
  have:tl (u::l)=(tl [u]).app (tl l):=ik [u] l;rw [this,cZ,G];rfl
theorem Cw (l:List U):thAll (tl l)=(l.map λt=>thAll (tl [t])).sum:=by
 induction l with
 | nil=>rfl
 | cons u l G=>
  have:tl (u::l)=(tl [u]).app (tl l):=ik [u] l;rw [this,ct,G];rfl
theorem sS (l:List U)(n:Nat):ax (tl l)<=n↔∀t∈l,ax (tl [t])<=n:=by
 induction l with
 | nil=>simp [tl,ax]
 | cons u l G=>
  have:tl (u::l)=(tl [u]).app (tl l):=ik [u] l;rw [this,cA];rw [OT,<-G];exact⟨λh=>⟨by omega,by omega⟩,λh=>by have :=h.1;have :=h.2;omega⟩
end Go.Proofs.YtdecokaadekjnaaGreat
namespace Go.Proofs.YtdecokaadekjnaaGreat
open Classical
namespace T
section
variable {A B:Type} [DecidableEq A] [DecidableEq B]
def th:T A->Bool
 | snd .. =>true | rcv .. =>true | tau .. =>true | mat .. =>true | rep .. =>true | sum .. =>true
 | nil=>false | par .. =>false | res .. =>false
def isS:T A->Bool
 | sum .. =>true
 | _=>false
def isP:T A->Bool
 | par .. =>true
 | _=>false
def Nr:T A->Prop
 | nil=>True
 | snd _ _ p=>p.Nr
 | rcv _ _ p=>p.Nr
 | tau p=>p.Nr
 | sum p q=>(p.dead=false/\q.dead=false/\p.isS=false)/\p.Nr/\q.Nr
 | par p q=>(p.th=true/\(q.th=true\/q.isP=true))/\p.Nr/\q.Nr
 | res x p=>p.Us x/\p.Nr
 | mat a b p=>(a≠b/\p.dead=false)/\p.Nr
 | rep p=>p.dead=false/\p.Nr
theorem Nr.iA {A:Type}{x:A}:∀{p:T A},p.Nr->p.Fr x->p.Us x
 | nil,_,h=>h.elim
 | snd a b p,n,h=>h.imp id λh=>h.imp id (Nr.iA (p:=p) n)
 | rcv a y p,n,h=>h.imp id λh=>h.imp id (Nr.iA (p:=p) n)
 | tau p,n,h=>Nr.iA (p:=p) n h
 | sum p q,n,h=>Or.imp (Nr.iA n.2.1) (Nr.iA n.2.2) h
 | par p q,n,h=>Or.imp (Nr.iA n.2.1) (Nr.iA n.2.2) h
 | res y p,n,h=>And.imp id (Nr.iA (p:=p) n.2) h
 | mat a b p,n,h=> .inr ⟨n.1.1,n.1.2,h.imp id λh=>h.imp id (Nr.iA (p:=p) n.2)⟩
 | rep p,n,h=>Nr.iA (p:=p) n.2 h
theorem J0 {A:Type}{p:T A}{x:A}(h:p.Us x):p.dead=false:=by
 cases hd:p.dead with
 | false=>rfl
 | true=>exact absurd h (bK hd)
theorem Nr.sT {A:Type}:∀{p:T A},p.Nr->p.th=true->p.dead=false
 | snd ..,_,_=>rfl
 | rcv ..,_,_=>rfl
 | tau ..,_,_=>rfl
 | sum p q,n,_=>by simp [dead,n.1.1]
 | mat a b p,n,_=>n.1.2
 | rep p,n,_=>n.1
theorem Nr.live {A:Type}{p:T A}(n:p.Nr)(h:p≠nil):p.dead=false:=by
 cases p with
 | nil=>exact absurd rfl h
 | res x p=>exact J0 (p:=p) n.1
 | par p q=>simp [dead,n.2.1.sT n.1.1]
 | _=>exact n.sT rfl
theorem Nr.dI {A:Type}{p:T A}(n:p.Nr):p.dI:=by
 cases p with
 | mat a b p=>exact n.1.1
 | sum p q=>exact⟨n.1.1,n.1.2.1⟩
 | par p q=>
  refine⟨n.2.1.sT n.1.1,?_⟩;refine n.2.2.live ?_
  rintro rfl
  rcases n.1.2 with h | h<;>cases h
 | res x p=>exact n.1
 | _=>trivial
def frL:T A->List A
 | res x p=>x::p.frL
 | _=>[]
def ths:T A->List (T A)
 | nil=>[]
 | res _ p=>p.ths
 | par p q=>p::q.ths
 | t=>[t]
def mX:T A->List (T A)
 | sum p q=>p::q.mX
 | t=>[t]
def resL:List A->T A->T A
 | [],p=>p
 | x::l,p=>res x (resL l p)
def parL:List (T A)->T A
 | []=>nil
 | [t]=>t
 | t::u::l=>par t (parL (u::l))
def dH:List (T A)->T A
 | []=>nil
 | [t]=>t
 | t::u::l=>sum t (dH (u::l))
theorem fE {A:Type}{x:A}{p:T A}:∀{l:List A},(resL l p).Fr x↔x∉l/\p.Fr x
 | []=>by simp [resL]
 | y::l=>by simp only [resL,Fr,fE (l:=l),O4,Sk];exact Q4.symm
theorem jZ {A:Type}{x:A}{p:T A}:∀{l:List A},(resL l p).Us x↔x∉l/\p.Us x
 | []=>by simp [resL]
 | y::l=>by simp only [resL,Us,jZ (l:=l),O4,Sk];exact Q4.symm
theorem AZ {A:Type}{p:T A}:∀{l:List A},(resL l p).frL=l++p.frL
 | []=>rfl
 | y::l=>by simp only [resL,frL,AZ (l:=l),PI]
theorem AN {A:Type}{p:T A}:∀{l:List A},(resL l p).ths=p.ths
 | []=>rfl
 | y::l=>by simp only [resL,ths,AN (l:=l)]
theorem mM {A:Type}{x:A}:∀{l:List (T A)},(parL l).Fr x↔∃t∈l,t.Fr x
 | []=>by simp [parL,Fr]
 | [t]=>by simp [parL]
 | t::u::l=>by simp only [parL,Fr,mM (l:=u::l),O4,exists_eq_or_imp]
theorem sL {A:Type}{x:A}:∀{l:List (T A)},(parL l).Us x↔∃t∈l,t.Us x
 | []=>by simp [parL,Us]
 | [t]=>by simp [parL]
 | t::u::l=>by simp only [parL,Us,sL (l:=u::l),O4,exists_eq_or_imp]
theorem El {A:Type}{x:A}:∀{l:List (T A)},(dH l).Us x↔∃t∈l,t.Us x
 | []=>by simp [dH,Us]
 | [t]=>by simp [dH]
 | t::u::l=>by simp only [dH,Us,El (l:=u::l),O4,exists_eq_or_imp]
theorem ED {A:Type}:∀{l:List (T A)},(∀t∈l,t.th=true/\t.Nr)->(parL l).Nr/\(l≠[]->(parL l).th=true\/(parL l).isP=true)
 | [],_=>⟨trivial,λh=>absurd rfl h⟩
 | [t],h=>⟨(h t (by simp)).2,λ _=> .inl (h t (by simp)).1⟩
 | t::u::l,h=>by
  obtain⟨G,h2⟩:=ED (l:=u::l) λt H=>h t (OZ _ H)
  exact⟨⟨⟨(h t (by simp)).1,h2 (by simp)⟩,(h t (by simp)).2,G⟩,λ _=> .inr rfl⟩
theorem nR {A:Type}{t:T A}(h:t.th=true):t.ths=[t]:=by cases t<;>first | rfl | cases h
theorem iO {A:Type}{t:T A}(h:t.th=true):t.frL=[]:=by cases t<;>first | rfl | cases h
theorem BL {A:Type}:∀{l:List (T A)},(∀t∈l,t.th=true)->(parL l).ths=l
 | [],_=>rfl
 | [t],h=>nR (h t (by simp))
 | t::u::l,h=>by simp only [parL,ths,BL (l:=u::l) λt G=>h t (OZ _ G)]
theorem It {A:Type}:∀{l:List (T A)},(∀t∈l,t.th=true)->(parL l).frL=[]
 | [],_=>rfl
 | [t],h=>iO (h t (by simp))
 | t::u::l,h=>rfl
theorem DX {A:Type}{p:T A}(n:p.Nr):∀{l:List A},l.Nodup->(∀x∈l,p.Us x)->(resL l p).Nr
 | [],_,_=>n
 | x::l,G,h=>by
  have :=PO.1 G;exact⟨jZ.2 ⟨this.1,h x (by simp)⟩,DX n this.2 λy H=>h y (OZ _ H)⟩
theorem Ea {A:Type}:∀{l:List (T A)},l≠[]->(∀t∈l,t.dead=false/\t.isS=false/\t.Nr)->(dH l).Nr/\(dH l).dead=false
 | [],h,_=>absurd rfl h
 | [t],_,h=>⟨(h t (by simp)).2.2,(h t (by simp)).1⟩
 | t::u::l,_,h=>by
  obtain⟨H,h2⟩:=Ea (l:=u::l) (by simp) λt G=>h t (OZ _ G)
  have G:=h t (by simp);exact⟨⟨⟨G.1,h2,G.2.1⟩,G.2.2,H⟩,by simp [dH,dead,G.1]⟩
theorem gF {A:Type}{t:T A}(h:t.isS=false):t.mX=[t]:=by cases t<;>first | rfl | cases h
theorem A0 {A:Type}:∀{l:List (T A)},l≠[]->(∀t∈l,t.isS=false)->(dH l).mX=l
 | [],h,_=>absurd rfl h
 | [t],_,h=>gF (h t (by simp))
 | t::u::l,_,h=>by simp only [dH,mX,A0 (l:=u::l) (by simp) λt G=>h t (OZ _ G)]
theorem Ay {A:Type}:∀{p:T A},p.Nr->(p.th=true\/p.isP=true)->parL p.ths=p
 | par p q,n,_=>by
  have H:=Ay n.2.2 n.1.2;have G:q.ths≠[]:=by
   rcases n.1.2 with h | h
   ·rw [nR h];simp
   ·cases q<;>first | (cases h;done) | simp [ths]
  simp only [ths];cases e:q.ths with
  | nil=>exact absurd e G
  | cons u l=>rw [parL,<-e,H]
 | snd ..,_,_=>rfl
 | rcv ..,_,_=>rfl
 | tau ..,_,_=>rfl
 | sum ..,_,_=>rfl
 | mat ..,_,_=>rfl
 | rep ..,_,_=>rfl
 | nil,_,h=>by rcases h with h | h<;>cases h
 | res ..,_,h=>by rcases h with h | h<;>cases h
theorem Nr.shape {A:Type}:∀{p:T A},p.Nr->p=resL p.frL (parL p.ths)
 | res x p,n=>by
  have :=Nr.shape n.2;simp only [frL,ths,resL];rw [<-this]
 | nil,_=>rfl
 | par p q,n=>by
  have :=Ay (p:=par p q) n (.inr rfl);rw [this];rfl
 | snd ..,_=>rfl
 | rcv ..,_=>rfl
 | tau ..,_=>rfl
 | sum ..,_=>rfl
 | mat ..,_=>rfl
 | rep ..,_=>rfl
theorem Nr.ths {A:Type}:∀{p:T A},p.Nr->∀t∈p.ths,t.th=true/\t.Nr
 | nil,_,t,h=>by cases h
 | res x p,n,t,h=>Nr.ths (p:=p) n.2 t h
 | par p q,n,t,h=>by
  rcases O4.1 h with rfl | h
  ·exact⟨n.1.1,n.2.1⟩
  ·exact Nr.ths n.2.2 t h
 | snd ..,n,t,h=>by simp [T.ths]at h;subst h;exact⟨rfl,n⟩
 | rcv ..,n,t,h=>by simp [T.ths]at h;subst h;exact⟨rfl,n⟩
 | tau ..,n,t,h=>by simp [T.ths]at h;subst h;exact⟨rfl,n⟩
 | sum ..,n,t,h=>by simp [T.ths]at h;subst h;exact⟨rfl,n⟩
 | mat ..,n,t,h=>by simp [T.ths]at h;subst h;exact⟨rfl,n⟩
 | rep ..,n,t,h=>by simp [T.ths]at h;subst h;exact⟨rfl,n⟩
theorem Nr.Gn {A:Type}:∀{p:T A},p.Nr->p.frL.Nodup/\∀x∈p.frL,(parL p.ths).Us x
 | res y p,n=>by
  obtain⟨H,h2⟩:=Nr.Gn n.2;have hu:=n.1;rw [Nr.shape n.2]at hu;have hu:=jZ.1 hu;refine⟨PO.2 ⟨hu.1,H⟩,λx G=>?_⟩;rcases O4.1 G with rfl | G
  ·exact hu.2
  ·exact h2 x G
 | nil,_=>⟨Qi,λx h=>by cases h⟩
 | par ..,_=>⟨Qi,λx h=>by cases h⟩
 | snd ..,_=>⟨Qi,λx h=>by cases h⟩
 | rcv ..,_=>⟨Qi,λx h=>by cases h⟩
 | tau ..,_=>⟨Qi,λx h=>by cases h⟩
 | sum ..,_=>⟨Qi,λx h=>by cases h⟩
 | mat ..,_=>⟨Qi,λx h=>by cases h⟩
 | rep ..,_=>⟨Qi,λx h=>by cases h⟩
end
theorem qD (p:P):∀l:List UInt8,(resL l p).text=wrap l p.text
 | []=>rfl
 | x::l=>by simp only [resL,text,wrap,qD p l]
theorem qc:∀{l:List P},l≠[]->(parL l).text=joinS 38 (l.map T.text)
 | [],h=>absurd rfl h
 | [t],_=>rfl
 | t::u::l,_=>by
  have :=qc (l:=u::l) (by simp);simp only [parL,text,Pk,joinS]at this|-;rw [this]
theorem wD:∀{l:List P},l≠[]->(dH l).text=joinS 43 (l.map T.text)
 | [],h=>absurd rfl h
 | [t],_=>rfl
 | t::u::l,_=>by
  have :=wD (l:=u::l) (by simp);simp only [dH,text,Pk,joinS]at this|-;rw [this]
end T
section
variable {A B:Type} [DecidableEq A] [DecidableEq B]
theorem AE.th {p:T A}{q:T B}{ρ:A->Nat}{σ:B->Nat}(h:AE ρ p σ q):p.th=q.th/\p.isS=q.isS/\p.isP=q.isP:=by
 cases p<;>cases q<;>first | exact h.elim | exact⟨rfl,rfl,rfl⟩
theorem fg {ρ:A->Nat}{p:T A}{x:A}{v:Nat}(h:fp ρ (.res x p))(H:∀y,p.Fr y->ρ y≠v):fp (aI ρ x v) p:=
 .aI (λy z G J h5 V=>h y z ⟨G,h5⟩ ⟨J,V⟩) λy _ G=>H y (T.bI G)
theorem Ju {p:T A}{u:T B}{ρ:A->Nat}{σ:B->Nat}{x:A}{y:B}(h:∀v,AE (aI ρ x v) p (aI σ y v) u)(hi:fp ρ (.res x p))(hj:fp σ (.res y u)):p.Us x↔u.Us y:=by
 obtain⟨v,W,h2⟩:=cu p u ρ σ;have G:=fg hi W;have H:=fg hj h2;constructor
 ·intro Z;obtain⟨z,J,e⟩:=(h v).used G H x Z;rw [dg]at e;unfold aI at e;split at e
  ·rename_i V;exact V▸J
  ·exact absurd e (h2 z (T.bI J))
 ·intro hy;obtain⟨z,J,e⟩:=(h v).symm.used H G y hy;rw [dg]at e;unfold aI at e;split at e
  ·rename_i V;exact V▸J
  ·exact absurd e (W z (T.bI J))
theorem fp.GM {A:Type}{ρ:A->Nat}{p:T A}{a x:A}(h:fp ρ (.rcv a x p)):fp ρ (.res x p):=λy z G H=>h y z (.inr G) (.inr H)
theorem AE.nr:∀{p:T A} {q:T B} {ρ:A->Nat} {σ:B->Nat},AE ρ p σ q->fp ρ p->fp σ q->p.Nr->q.Nr:=by
 intro p
 induction p<;>intro q ρ σ h hi hj n<;>cases q<;>simp only [AE]at h
 case nil.nil=>trivial
 case snd.snd H _ _ _=>have k:=H h.2.2 (hi.sub λx G=>Or.inr (Or.inr G)) (hj.sub λx G=> .inr (.inr G)) n;exact k
 case rcv.rcv p H _ _ q=>
  obtain⟨v,W,h2⟩:=cu p q ρ σ;have k:=H (h.2 v) (fg hi.GM W) (fg hj.GM h2) n;exact k
 case tau.tau H _=>have k:=H h hi hj n;exact k
 case rep.rep H _=>exact⟨h.dead▸n.1,H h hi hj n.2⟩
 case res.res p H _ q=>
  obtain⟨v,W,h2⟩:=cu p q ρ σ;exact⟨(Ju h hi hj).1 n.1,H (h v) (fg hi W) (fg hj h2) n.2⟩
 case mat.mat p H c d q=>
  have hd:q.dead=false:=h.2.2.dead▸n.1.2;have V:c≠d:=by
   rintro rfl
   exact n.1.1 (hi _ _ (.inr ⟨n.1.1,n.1.2,.inl rfl⟩) (.inr ⟨n.1.1,n.1.2,.inr (.inl rfl)⟩) (h.1.trans h.2.1.symm))
  exact⟨⟨V,hd⟩,H h.2.2 (hi.sub λx G=> .inr ⟨n.1.1,n.1.2,.inr (.inr G)⟩) (hj.sub λx G=> .inr ⟨V,hd,.inr (.inr G)⟩) n.2⟩
 case sum.sum H J _ _=>
  exact⟨⟨h.1.dead▸n.1.1,h.2.dead▸n.1.2.1,h.1.th.2.1▸n.1.2.2⟩,H h.1 (hi.sub λx G=> .inl G) (hj.sub λx G=> .inl G) n.2.1,J h.2 (hi.sub λx G=> .inr G) (hj.sub λx G=> .inr G) n.2.2⟩
 case par.par H J _ _=>
  exact⟨⟨h.1.th.1▸n.1.1,n.1.2.imp (λk=>h.2.th.1▸k) (λk=>h.2.th.2.2▸k)⟩,H h.1 (hi.sub λx G=> .inl G) (hj.sub λx G=> .inl G) n.2.1,J h.2 (hi.sub λx G=> .inr G) (hj.sub λx G=> .inr G) n.2.2⟩
end
theorem fe {u:U}(n:u.Nr)(h:u.th=true):ak u=([],[u]):=by
 cases u<;>first | (cases h;done) | rfl | skip
 case sum p q=>simp [ak,n.1.1,n.1.2.1]
 case mat a b p=>simp [ak,n.1.1,n.1.2]
 case rep p=>simp [ak,n.1]
theorem CT:∀{u:U},Uq u->u.Nr->ak u=(u.frL,u.ths)
 | .nil,_,_=>rfl
 | .res x p,hu,n=>by
  have :=CT hu.res n.2;have h:(td p).2.has x=true:=(gk p x hu.gm).2 n.1;simp [ak,h,this,T.frL,T.ths]
 | .par p q,hu,n=>by
  have h2:=CT hu.fU n.2.2;have G:q.frL=[]:=by
   rcases n.1.2 with h | h
   ·exact T.iO h
   ·cases q<;>first | (cases h;done) | rfl
  simp [ak,h2,fe n.2.1 n.1.1,T.frL,T.ths,G]
 | .snd ..,_,n=>fe n rfl
 | .rcv ..,_,n=>fe n rfl
 | .tau ..,_,n=>fe n rfl
 | .sum ..,_,n=>fe n rfl
 | .mat ..,_,n=>fe n rfl
 | .rep ..,_,n=>fe n rfl
theorem fu {u:U}(G:u.dI)(hd:u.dead=false)(J:∀p q,u≠ .sum p q)(hu:Uq u):aw u=[u]:=by
 cases u with
 | nil=>cases hd
 | snd=>rfl
 | rcv=>rfl
 | tau=>rfl
 | sum p q=>exact absurd rfl (J p q)
 | par p q=>
  have H:p.dead=false:=G.1;have h2:q.dead=false:=G.2;simp [aw,H,h2]
 | res x p=>
  have:(td p).2.has x=true:=(gk p x hu.gm).2 G;simp [aw,this]
 | mat a b p=>
  have H:a≠b:=G;have h2:p.dead=false:=hd;simp [aw,H,h2]
 | rep p=>
  have h2:p.dead=false:=hd;simp [aw,h2]
theorem eQ:∀{u:U},Uq u->u.Nr->u.dead=false->aw u=u.mX
 | .nil,_,_,h=>by cases h
 | .sum p q,hu,n,_=>by
  have G:=eQ hu.eD n.2.1 n.1.1;have h2:=eQ hu.dS n.2.2 n.1.2.1;simp only [aw,T.mX,G,h2,T.gF n.1.2.2];rfl
 | .res x p,hu,n,h=>fu n.dI h (λ _ _ e=>by cases e) hu
 | .par ..,hu,n,h=>fu n.dI h (λ _ _ e=>by cases e) hu
 | .snd ..,hu,n,h=>fu n.dI h (λ _ _ e=>by cases e) hu
 | .rcv ..,hu,n,h=>fu n.dI h (λ _ _ e=>by cases e) hu
 | .tau ..,hu,n,h=>fu n.dI h (λ _ _ e=>by cases e) hu
 | .mat ..,hu,n,h=>fu n.dI h (λ _ _ e=>by cases e) hu
 | .rep ..,hu,n,h=>fu n.dI h (λ _ _ e=>by cases e) hu
namespace Lv
def map (f:Nat->Nat):Lv->Lv
 | nil=>nil
 | thr k a b o r n=>thr k (if k= .t\/k= .p then a else f a) (if k= .t\/k= .p then b else f b) (o.map f) (r.map f) (n.map f)
 | sum ps n=>sum (ps.map f) (n.map f)
 | part o q n=>part (o.map f) (q.map f) (n.map f)
def Al (D:Nat->Prop):Lv->Prop
 | nil=>True
 | thr k a b o r n=>(k= .t\/k= .p\/(D a/\D b))/\(∀x∈o,D x)/\r.Al D/\n.Al D
 | sum ps n=>ps.Al D/\n.Al D
 | part o q n=>(∀x∈o,D x)/\q.Al D/\n.Al D
theorem fF (f:Nat->Nat):∀l m:Lv,(l.app m).map f=(l.map f).app (m.map f)
 | nil,m=>rfl
 | thr k a b o r n,m=>by simp only [app,map,fF f n m]
 | sum ps n,m=>by simp only [app,map,fF f n m]
 | part o q n,m=>by simp only [app,map,fF f n m]
theorem oI {D:Nat->Prop}:∀{l m:Lv},(l.app m).Al D↔l.Al D/\m.Al D
 | nil,m=>by simp [app,Al]
 | thr k a b o r n,m=>by simp only [app,Al,oI (l:=n),Q4]
 | sum ps n,m=>by simp only [app,Al,oI (l:=n),Q4]
 | part o q n,m=>by simp only [app,Al,oI (l:=n),Q4]
theorem mZ (f:Nat->Nat)(l:Lv):(l.map f).isNil=l.isNil:=by cases l<;>rfl
theorem mN {D E:Nat->Prop}(h:∀x,D x->E x):∀{l:Lv},l.Al D->l.Al E
 | nil,_=>trivial
 | thr k a b o r n,⟨G,h2,H,h4⟩=>⟨G.imp id λG=>G.imp id λG=>⟨h _ G.1,h _ G.2⟩,λx J=>h x (h2 x J),mN h H,mN h h4⟩
 | sum ps n,⟨G,h2⟩=>⟨mN h G,mN h h2⟩
 | part o q n,⟨G,h2,H⟩=>⟨λx J=>h x (G x J),mN h h2,mN h H⟩
section
variable {D:Nat->Prop} {f:Nat->Nat}
theorem mC (G:∀x y,D x->D y->f x=f y->x=y){x y:Nat}(H:D x)(J:D y):(f x==f y)=(x==y):=by
 rw [PM,Rb,Rb];exact⟨G x y H J,λh=>by rw [h]⟩
theorem jX (G:∀x y,D x->D y->f x=f y->x=y){x:Nat}(H:D x):∀{l:Lv},l.Al D->(l.map f).has (f x)=l.has x
 | nil,_=>rfl
 | thr k a b o r n,⟨J,h2,V,h4⟩=>by
  simp only [map,has,jX G H V,jX G H h4];cases k with
  | t=>rfl
  | p=>rfl
  | s=>simp at J;simp [mC G J.1 H,mC G J.2 H]
  | m=>simp at J;simp [mC G J.1 H,mC G J.2 H]
  | r=>simp at J;simp [mC G J.1 H,mC G J.2 H]
 | sum ps n,⟨J,h2⟩=>by simp only [map,has,jX G H J,jX G H h2]
 | part o q n,⟨J,h2,V⟩=>by simp only [map,has,jX G H h2,jX G H V]
abbrev eE (f:Nat->Nat)(r:List Nat×Lv):List Nat×Lv:=(r.1.map f,r.2.map f)
abbrev Mx (D:Nat->Prop)(r:List Nat×Lv):Prop:=(∀x∈r.1,D x)/\r.2.Al D
theorem tF (J:∀x y,D x->D y->f x=f y->x=y){own:List Nat}{r:List Nat×Lv}(H:∀x∈own,D x)(hr:Mx D r):kept (own.map f) (eE f r)=eE f (kept own r)/\Mx D (kept own r):=by
 constructor
 ·unfold kept eE;refine Prod.ext ?_ rfl;simp only [<-PH,List.filter_map]
  congr 1
  refine Q5 λx G=>?_
  exact jX J ((OS.1 G).elim (H x) (hr.1 x)) hr.2
 ·refine⟨λx G=>?_,hr.2⟩;simp only [kept,QK,OS]at G;exact G.1.elim (H x) (hr.1 x)
theorem Jd (ps:Lv)(n:List Nat×Lv):spl (ps.map f) (eE f n)=eE f (spl ps n):=by
 unfold spl;cases ps with
 | nil=>rfl
 | thr=>rfl
 | sum=>rfl
 | part o q m=>
  cases m<;>simp [map,eE,fF]
theorem Lr {ps:Lv}{n:List Nat×Lv}(h:ps.Al D)(G:Mx D n):Mx D (spl ps n):=by
 unfold spl;split
 ·exact G
 ·exact⟨λx H=>(OS.1 H).elim (h.1 x) (G.1 x),oI.2 ⟨h.2.1,G.2⟩⟩
 ·exact⟨G.1,h,G.2⟩
theorem KH (o:List Nat)(q n:Lv):prt (o.map f) (q.map f) (n.map f)=(prt o q n).map f:=by
 unfold prt;cases q with
 | nil=>rfl
 | thr=>rfl
 | part=>rfl
 | sum ps m=>
  cases m<;>simp only [map]
  by_cases h:o.isEmpty=true
  ·have h':(o.map f).isEmpty=true:=by simpa using h
   rw [Pj h,Pj h',fF]
  ·have h':¬(o.map f).isEmpty=true:=by simpa using h
   rw [O1 h,O1 h'];simp [map]
theorem LY {o:List Nat}{q n:Lv}(J:∀x∈o,D x)(H:q.Al D)(G:n.Al D):(prt o q n).Al D:=by
 unfold prt;split
 ·exact G
 ·split
  ·exact oI.2 ⟨H.1,G⟩
  ·exact⟨J,H,G⟩
 ·exact⟨J,H,G⟩
theorem j4 (G:∀x y,D x->D y->f x=f y->x=y):∀{l:Lv},l.Al D->tid (l.map f)=eE f (tid l)/\Mx D (tid l)
 | nil,_=>⟨rfl,⟨λx h=>(by cases h),trivial⟩⟩
 | sum ps n,⟨H,h2⟩=>by
  obtain⟨J,a2⟩:=j4 G H;obtain⟨b1,b2⟩:=j4 G h2;simp only [map,tid];rw [J,b1];exact⟨Jd _ _,Lr a2.2 b2⟩
 | part o q n,⟨H,h2,V⟩=>by
  obtain⟨J,a2⟩:=j4 G h2;obtain⟨b1,b2⟩:=j4 G V;obtain⟨c1,c2⟩:=tF G H a2;simp only [map,tid];rw [J,b1,c1];exact⟨Prod.ext rfl (KH _ _ _),⟨λx h=>(by cases h),LY c2.1 c2.2 b2.2⟩⟩
 | thr k a b o r n,⟨H,h2,V,h4⟩=>by
  obtain⟨J,a2⟩:=j4 G V;obtain⟨b1,b2⟩:=j4 G h4;obtain⟨c1,c2⟩:=tF G h2 a2;simp only [map,tid];rw [J,b1,c1];have W:(k= .m/\(if k= .t\/k= .p then a else f a)=(if k= .t\/k= .p then b else f b))↔(k= .m/\a=b):=by
   refine and_congr_right λZ=>?_
   subst Z;simp at H|-;exact⟨G a b H.1 H.2,λh=>by rw [h]⟩
  have e2:((eE f (kept o (tid r))).2.isNil)=(kept o (tid r)).2.isNil:=mZ _ _;by_cases g1:k= .m/\a=b
  ·rw [Pj (W.2 g1),Pj g1];exact⟨by simp [eE,fF],⟨λx hx=>(OS.1 hx).elim (c2.1 x) (b2.1 x),oI.2 ⟨c2.2,b2.2⟩⟩⟩
  ·rw [O1 λh=>g1 (W.1 h),O1 g1,e2];split
   ·exact⟨rfl,b2⟩
   ·exact⟨rfl,⟨b2.1,⟨H,c2.1,c2.2,b2.2⟩⟩⟩
end
end Lv
theorem wR {α β:Type}(f:α->β):∀l:List α,perms (l.map f)=(perms l).map (List.map f)
 | []=>rfl
 | x::l=>by
  have hi:∀(x:α) (l:List α),ins (f x) (l.map f)=(ins x l).map (List.map f):=by
   intro x l
   induction l with
   | nil=>rfl
   | cons y l G=>simp only [Pk,ins,G,Qv];rfl
  simp only [Pk,perms,wR f l,R5,List.map_flatMap]
  congr 1
  funext m
  exact hi x m
theorem DS {f:Nat->Nat}{ρ ρ':Rh}{x:Nat}:∀(π:List Nat) (ls:List UInt8) (ρ ρ':Rh),(∀y∈π,f x=f y->x=y)->ρ (f x)=ρ' x->asg (π.map f) ls ρ (f x)=asg π ls ρ' x
 | [],_,_,_,_,h=>by simpa [asg]using h
 | _::_,[],_,_,_,h=>by simpa [asg]using h
 | y::π,c::ls,ρ,ρ',hi,h=>by
  rw [Pk,asg,asg];refine DS (ρ:=ρ) (ρ':=ρ') π ls _ _ (λz G=>hi z (OZ _ G)) ?_;unfold aI;by_cases e:x=y
  ·subst e;simp
  ·rw [O1 e,O1 λh'=>e (hi y (Py ..) h'),h]
theorem oC {D:Nat->Prop}{f:Nat->Nat}(Z:∀x y,D x->D y->f x=f y->x=y){own:List Nat}{F G:Rh->Tk->List Tx}{H:Nat->Prop}(ho:∀x∈own,D x)(hH:∀x,H x->D x)
  (V:∀ρ ρ' tk,(∀x,H x->ρ (f x)=ρ' x)->F ρ tk=G ρ' tk) {ρ ρ':Rh} {tk:Tk} (h:∀x,H x->ρ (f x)=ρ' x):aU (own.map f) F ρ tk=aU own G ρ' tk:=by
 unfold aU;rw [V ρ ρ' tk h,wR,O8];split
 ·rfl
 ·show wrap _ (bO _)=wrap _ (bO _);rw [Qv]
  congr 2
  refine P7 λπ J=>?_
  show joinS 38 (a6 (F _ _))=_;rw [V _ (asg π (lets own.length tk) ρ') _ λx W=>DS (ρ:=ρ) (ρ':=ρ') π _ _ _ (λy hy e=>Z x y (hH x W) (ho y (((db own π).1 J).subset hy)) e) (h x W)]
theorem iL {D:Nat->Prop}{x:Nat}:∀{l:Lv},l.Al D->l.has x=true->D x
 | .nil,_,h=>by cases h
 | .thr k a b o r n,⟨G,h2,H,h4⟩,h=>by
  simp only [Lv.has,Qg]at h;rcases h with(h | h) | h
  ·cases k<;>simp at h G
   ·rcases h with rfl | rfl
    ·exact G.1
    ·exact G.2
   ·rcases h with rfl | rfl
    ·exact G.1
    ·exact G.2
   ·rcases h with rfl | rfl
    ·exact G.1
    ·exact G.2
  ·exact iL H h
  ·exact iL h4 h
 | .sum ps n,⟨G,h2⟩,h=>by
  simp only [Lv.has,Qg]at h;exact h.elim (iL G) (iL h2)
 | .part o q n,⟨G,h2,H⟩,h=>by
  simp only [Lv.has,Qg]at h;exact h.elim (iL h2) (iL H)
theorem kF {D:Nat->Prop}{f:Nat->Nat}(J:∀x y,D x->D y->f x=f y->x=y):∀{l:Lv},l.Al D->∀(ρ ρ':Rh) (tk:Tk),(∀x,l.has x=true->ρ (f x)=ρ' x)->thS (l.map f) ρ tk=thS l ρ' tk
 | .nil,_,_,_,_,_=>rfl
 | .thr k a b o r n,⟨V,h2,W,h4⟩,ρ,ρ',tk,h=>by
  have Z:thS (n.map f) ρ tk=thS n ρ' tk:=kF J h4 ρ ρ' tk λx G=>h x (by simp [Lv.has,G])
  have H:∀x,r.has x=true->ρ (f x)=ρ' x:=λx G=>h x (by simp [Lv.has,G])
  have hl:∀ρ ρ' tk,(∀x,r.has x=true->ρ (f x)=ρ' x)->aU (o.map f) (thS (r.map f)) ρ tk=aU o (thS r) ρ' tk:=λρ ρ' tk h=>
   oC J h2 (λx G=>iL W G) (λρ ρ' tk=>kF J W ρ ρ' tk) h
  cases k with
  | s=>
   have ha:=h a (by simp [Lv.has]);have hb:=h b (by simp [Lv.has]);simp [Lv.map,thS,Z,hl ρ ρ' tk H,ha,hb]
  | m=>
   have ha:=h a (by simp [Lv.has]);have hb:=h b (by simp [Lv.has]);simp [Lv.map,thS,Z,hl ρ ρ' tk H,ha,hb]
  | t=>simp [Lv.map,thS,kText,Z,hl ρ ρ' tk H]
  | p=>simp [Lv.map,thS,kText,Z,hl ρ ρ' tk H]
  | r=>
   have ha:=h a (by simp [Lv.has]);simp at V;have hu:∀x,r.has x=true->aI ρ (f b) (iV tk) (f x)=aI ρ' b (iV tk) x:=λx G=>by
    unfold aI;by_cases e:x=b
    ·subst e;simp
    ·rw [O1 e,O1 λh'=>e (J x b (iL W G) V.2 h')];exact H x G
   simp [Lv.map,thS,Z,hl _ _ _ hu,ha]
 | .sum ps n,⟨V,h2⟩,ρ,ρ',tk,h=>by
  simp only [Lv.map,thS,kF J V ρ ρ' tk λx G=>h x (by simp [Lv.has,G]),kF J h2 ρ ρ' tk λx G=>h x (by simp [Lv.has,G])]
 | .part o q n,⟨V,h2,W⟩,ρ,ρ',tk,h=>by
  simp only [Lv.map,thS,kF J W ρ ρ' tk λx G=>h x (by simp [Lv.has,G])];rw [oC J V (λx G=>iL h2 G) (λρ ρ' tk=>kF J h2 ρ ρ' tk) λx G=>h x (by simp [Lv.has,G])]
theorem fv (f:Nat->Nat):∀(l:Lv) (tk:Tk),thBad (l.map f) tk=thBad l tk
 | .nil,_=>rfl
 | .thr k a b o r n,tk=>by
  have hr:thBad (r.map f)=thBad r:=funext λtk=>fv f r tk
  simp only [Lv.map,thBad,fv f n,Lv.mZ,O8,hr]
 | .sum ps n,tk=>by simp only [Lv.map,thBad,fv f n,fv f ps]
 | .part o q n,tk=>by
  have hr:thBad (q.map f)=thBad q:=funext λtk=>fv f q tk
  simp only [Lv.map,thBad,fv f n,Lv.mZ,O8,hr]
theorem eW (f:Nat->Nat):∀l:Lv,thAll (l.map f)=thAll l
 | .nil=>rfl
 | .thr k a b o r n=>by simp only [Lv.map,thAll,eW f n,eW f r,O8]
 | .sum ps n=>by simp only [Lv.map,thAll,eW f n,eW f ps]
 | .part o q n=>by simp only [Lv.map,thAll,eW f n,eW f q,O8]
theorem dR (f:Nat->Nat):∀l:Lv,ax (l.map f)=ax l
 | .nil=>rfl
 | .thr k a b o r n=>by simp only [Lv.map,ax,dR f n,dR f r,O8]
 | .sum ps n=>by simp only [Lv.map,ax,dR f n,dR f ps]
 | .part o q n=>by simp only [Lv.map,ax,dR f n,dR f q,O8]
def T.Al {A:Type}(D:A->Prop):T A->Prop
 | .nil=>True
 | .snd a b p=>D a/\D b/\p.Al D
 | .rcv a b p=>D a/\D b/\p.Al D
 | .mat a b p=>D a/\D b/\p.Al D
 | .tau p=>p.Al D
 | .rep p=>p.Al D
 | .sum p q=>p.Al D/\q.Al D
 | .par p q=>p.Al D/\q.Al D
 | .res x p=>D x/\p.Al D
theorem cC (f:Nat->Nat):∀u:U,flat (u.map f)=Lv.eE f (flat u)
 | .nil=>rfl
 | .snd a b p=>by simp [T.map,flat,cC f p,Lv.eE,Lv.map]
 | .rcv a b p=>by simp [T.map,flat,cC f p,Lv.eE,Lv.map]
 | .mat a b p=>by simp [T.map,flat,cC f p,Lv.eE,Lv.map]
 | .tau p=>by simp [T.map,flat,cC f p,Lv.eE,Lv.map]
 | .rep p=>by simp [T.map,flat,cC f p,Lv.eE,Lv.map]
 | .sum p q=>by simp [T.map,flat,cC f p,cC f q,Lv.eE,Lv.map]
 | .par p q=>by simp [T.map,flat,cC f p,cC f q,Lv.eE,Lv.fF]
 | .res x p=>by simp [T.map,flat,cC f p,Lv.eE]
theorem bP {D:Nat->Prop}:∀{u:U},u.Al D->Lv.Mx D (flat u)
 | .nil,_=>⟨λx h=>(by cases h),trivial⟩
 | .snd a b p,⟨G,h2,h⟩=>⟨λx h=>(by simp [flat]at h),⟨.inr (.inr ⟨G,h2⟩),(bP h).1,(bP h).2,trivial⟩⟩
 | .rcv a b p,⟨G,h2,h⟩=>⟨λx h=>(by simp [flat]at h),⟨.inr (.inr ⟨G,h2⟩),(bP h).1,(bP h).2,trivial⟩⟩
 | .mat a b p,⟨G,h2,h⟩=>⟨λx h=>(by simp [flat]at h),⟨.inr (.inr ⟨G,h2⟩),(bP h).1,(bP h).2,trivial⟩⟩
 | .tau p,h=>⟨λx h=>(by simp [flat]at h),⟨.inl rfl,(bP (u:=p) h).1,(bP (u:=p) h).2,trivial⟩⟩
 | .rep p,h=>⟨λx h=>(by simp [flat]at h),⟨.inr (.inl rfl),(bP (u:=p) h).1,(bP (u:=p) h).2,trivial⟩⟩
 | .sum p q,⟨G,h2⟩=>⟨λx h=>(by simp [flat]at h),⟨(bP G).1,(bP G).2,(bP h2).1,(bP h2).2,trivial⟩,trivial⟩
 | .par p q,⟨G,h2⟩=>⟨λx h=>by
   simp only [flat,OS]at h;exact h.elim ((bP G).1 x) ((bP h2).1 x),Lv.oI.2 ⟨(bP G).2,(bP h2).2⟩⟩
 | .res x p,⟨G,h⟩=>⟨λy H=>by
   simp only [flat,O4]at H;rcases H with rfl | H
   ·exact G
   ·exact(bP h).1 y H,(bP h).2⟩
theorem GN {D:Nat->Prop}{f:Nat->Nat}(G:∀x y,D x->D y->f x=f y->x=y){u:U}(h:u.Al D):td (u.map f)=Lv.eE f (td u)/\Lv.Mx D (td u):=by
 unfold td Lv.tidy;have H:=bP h;obtain⟨h2,J⟩:=Lv.j4 G H.2;rw [cC];show Lv.kept ((flat u).1.map f) (Lv.tid ((flat u).2.map f))=_/\_;rw [h2];exact Lv.tF G H.1 J
theorem MF {D:Nat->Prop}{f:Nat->Nat}(G:∀x y,D x->D y->f x=f y->x=y){u:U}(h:u.Al D)(ρ:Rh)(tk:Tk):LS (u.map f) ρ tk=LS u (λx=>ρ (f x)) tk:=by
 obtain⟨H,h2⟩:=GN G h;unfold LS;rw [H];exact oC G h2.1 (λx J=>iL h2.2 J) (λρ ρ' tk=>kF G h2.2 ρ ρ' tk) λx _=>rfl
theorem Hp {D:Nat->Prop}{f:Nat->Nat}(G:∀x y,D x->D y->f x=f y->x=y){u:U}(h:u.Al D):dD (u.map f)=dD u/\cQ (u.map f)=cQ u/\bn (u.map f)=bn u:=by
 obtain⟨H,h2⟩:=GN G h;unfold dD cQ bn;rw [H];have hr:thBad ((td u).2.map f)=thBad (td u).2:=funext λtk=>fv f _ tk
 simp [Lv.eE,Lv.mZ,eW,dR,hr]
theorem yf (Q:U->Prop)(V:∀p q,Q (.sum p q)->Q p/\Q q)(W:∀p q,Q (.par p q)->Q p/\Q q)(hr:∀x p,Q (.res x p)->Q p)(hm:∀a b p,Q (.mat a b p)->Q p):∀u:U,Q u->∀t∈(ak u).2,Q t:=by
 intro u
 induction u with
 | nil=>intro _ t h;simp [ak]at h
 | snd=>intro q t h;simp [ak]at h;exact h▸q
 | rcv=>intro q t h;simp [ak]at h;exact h▸q
 | tau=>intro q t h;simp [ak]at h;exact h▸q
 | sum p q H J=>
  intro G t h;simp only [ak]at h;split at h
  ·exact J (V _ _ G).2 t h
  ·split at h
   ·exact H (V _ _ G).1 t h
   ·simp at h;exact h▸G
 | par p q H J=>
  intro G t h;simp only [ak,OS]at h;exact h.elim (H (W _ _ G).1 t) (J (W _ _ G).2 t)
 | res x p H=>intro G t h;exact H (hr _ _ G) t h
 | mat a b p H=>
  intro G t h;simp only [ak]at h;split at h
  ·exact H (hm _ _ _ G) t h
  ·split at h
   ·simp at h
   ·simp at h;exact h▸G
 | rep p H=>
  intro G t h;simp only [ak]at h;split at h
  ·simp at h
  ·simp at h;exact h▸G
theorem sF (Q:U->Prop)(V:∀p q,Q (.sum p q)->Q p/\Q q)(W:∀p q,Q (.par p q)->Q p/\Q q)(hr:∀x p,Q (.res x p)->Q p)(hm:∀a b p,Q (.mat a b p)->Q p):∀u:U,Q u->∀t∈aw u,Q t:=by
 intro u
 induction u with
 | nil=>intro _ t h;simp [aw]at h
 | snd=>intro q t h;simp [aw]at h;exact h▸q
 | rcv=>intro q t h;simp [aw]at h;exact h▸q
 | tau=>intro q t h;simp [aw]at h;exact h▸q
 | par p q H J=>
  intro G t h;simp only [aw]at h;split at h
  ·exact J (W _ _ G).2 t h
  ·split at h
   ·exact H (W _ _ G).1 t h
   ·simp at h;exact h▸G
 | sum p q H J=>
  intro G t h;simp only [aw,OS]at h;exact h.elim (H (V _ _ G).1 t) (J (V _ _ G).2 t)
 | res x p H=>
  intro G t h;simp only [aw]at h;split at h
  ·simp at h;exact h▸G
  ·exact H (hr _ _ G) t h
 | mat a b p H=>
  intro G t h;simp only [aw]at h;split at h
  ·exact H (hm _ _ _ G) t h
  ·split at h
   ·simp at h
   ·simp at h;exact h▸G
 | rep p H=>
  intro G t h;simp only [aw]at h;split at h
  ·simp at h
  ·simp at h;exact h▸G
theorem Hj {u:U}(h:Uq u):∀t∈(ak u).2,Uq t:=
 yf Uq (λ _ _ h=>⟨h.eD,h.dS⟩) (λ _ _ h=>⟨h.gz,h.fU⟩) (λ _ _ h=>h.res) (λ _ _ _ h=>h.mat) u h
theorem yb {u:U}(h:Uq u):∀t∈aw u,Uq t:=
 sF Uq (λ _ _ h=>⟨h.eD,h.dS⟩) (λ _ _ h=>⟨h.gz,h.fU⟩) (λ _ _ h=>h.res) (λ _ _ _ h=>h.mat) u h
theorem Ce (u:U):∀t∈(ak u).2,t.size<=u.size:=
 yf (λt=>t.size<=u.size) (λ _ _ h=>by simp only [T.size]at h;omega) (λ _ _ h=>by simp only [T.size]at h;omega) (λ _ _ h=>by simp only [T.size]at h;omega) (λ _ _ _ h=>by simp only [T.size]at h;omega) u (OQ _)
theorem mE (u:U):∀t∈aw u,t.size<=u.size:=
 sF (λt=>t.size<=u.size) (λ _ _ h=>by simp only [T.size]at h;omega) (λ _ _ h=>by simp only [T.size]at h;omega) (λ _ _ h=>by simp only [T.size]at h;omega) (λ _ _ _ h=>by simp only [T.size]at h;omega) u (OQ _)
theorem Ez (u:U):∀t∈(ak u).2,∀x∈BV t,x∈BV u:=
 yf (λt=>∀x∈BV t,x∈BV u) (λ _ _ h=>⟨λx G=>h x (Pm _ G),λx G=>h x (Pf _ G)⟩)
  (λ _ _ h=>⟨λx G=>h x (Pm _ G),λx G=>h x (Pf _ G)⟩) (λ _ _ h=>λx G=>h x (OZ _ G)) (λ _ _ _ h=>h) u (λx h=>h)
theorem AI (u:U):∀t∈aw u,∀x∈BV t,x∈BV u:=
 sF (λt=>∀x∈BV t,x∈BV u) (λ _ _ h=>⟨λx G=>h x (Pm _ G),λx G=>h x (Pf _ G)⟩)
  (λ _ _ h=>⟨λx G=>h x (Pm _ G),λx G=>h x (Pf _ G)⟩) (λ _ _ h=>λx G=>h x (OZ _ G)) (λ _ _ _ h=>h) u (λx h=>h)
theorem mT:∀(u:U),Uq u->∀y,u.Us y↔∃t∈aw u,t.Us y:=by
 intro u
 induction u with
 | nil=>intro _ y;simp [aw,T.Us]
 | snd=>intro _ y;simp [aw]
 | rcv=>intro _ y;simp [aw]
 | tau=>intro _ y;simp [aw]
 | sum p q G H=>
  intro h y;have:(T.sum p q).Us y↔p.Us y\/q.Us y:=RO;rw [this,G h.eD y,H h.dS y];simp only [aw,OS];constructor
  ·rintro(⟨t,J,h2⟩ | ⟨t,J,h2⟩)
   ·exact⟨t,.inl J,h2⟩
   ·exact⟨t,.inr J,h2⟩
  ·rintro⟨t,J | J,h2⟩
   ·exact .inl ⟨t,J,h2⟩
   ·exact .inr ⟨t,J,h2⟩
 | par p q G H=>
  intro h y;have e:(T.par p q).Us y↔p.Us y\/q.Us y:=RO;simp only [aw];split
  ·rename_i hd;rw [e,<-H h.fU y];exact⟨λk=>k.resolve_left (T.bK hd),.inr⟩
  ·split
   ·rename_i hd;rw [e,<-G h.gz y];exact⟨λk=>k.resolve_right (T.bK hd),.inl⟩
   ·simp
 | res x p G=>
  intro h y;simp only [aw];split
  ·simp
  ·rename_i V;rw [<-G h.res y];have W:¬p.Us x:=λk=>V ((gk p x h.gm).2 k)
   exact⟨λk=>k.2,λk=>⟨λe=>W (e▸k),k⟩⟩
 | mat a b p G=>
  intro h y;simp only [aw];split
  ·rename_i e;rw [<-G h.mat y];simp [T.Us,e]
  ·rename_i e;split
   ·rename_i hd;simp [T.Us,e,hd]
   ·simp
 | rep p G=>
  intro h y;simp only [aw];split
  ·rename_i hd;simp [T.Us];exact T.bK hd
  ·simp
def Lv.fh (x:Nat):Lv->Prop
 | nil=>False
 | thr k a b o r n=>((k= .s\/k= .m)/\(x=a\/x=b))\/(k= .r/\x=a)\/(x∉o/\¬(k= .r/\x=b)/\r.fh x)\/n.fh x
 | sum ps n=>ps.fh x\/n.fh x
 | part o q n=>(x∉o/\q.fh x)\/n.fh x
theorem Cd:∀(π:List Nat) (ls:List UInt8) (ρ ρ':Rh) (x:Nat),x∈π->π.length=ls.length->asg π ls ρ x=asg π ls ρ' x
 | [],_,_,_,_,h,_=>by cases h
 | _::_,[],_,_,_,_,h=>by cases h
 | y::π,c::ls,ρ,ρ',x,h,H=>by
  rw [asg,asg];by_cases G:x∈π
  ·exact Cd π ls _ _ x G (by simpa using H)
  ·have e:x=y:=(O4.1 h).resolve_right G;subst e;exact qG π ls _ _ x (by simp [aI])
theorem ef {own:List Nat}{f:Rh->Tk->List Tx}{H:Nat->Prop}(he:∀ρ ρ' tk,(f ρ tk).isEmpty=(f ρ' tk).isEmpty)(V:∀ρ ρ' tk,(∀x,H x->ρ x=ρ' x)->f ρ tk=f ρ' tk)
  {ρ ρ':Rh} {tk:Tk} (h:∀x,x∉own->H x->ρ x=ρ' x):aU own f ρ tk=aU own f ρ' tk:=by
 unfold aU;rw [he ρ ρ' tk];split
 ·rfl
 ·show wrap _ (bO _)=wrap _ (bO _)
  congr 2
  refine P7 λπ G=>?_
  have J:=(db own π).1 G;rw [V _ (asg π (lets own.length tk) ρ') _ λx W=>?_];by_cases hm:x∈own
  ·exact Cd π _ _ _ x (J.symm.subset hm) (by rw [fO,J.length_eq])
  ·exact qG π _ _ _ x (h x hm W)
theorem iF (l:Lv)(ρ ρ':Rh)(tk:Tk):(thS l ρ tk).isEmpty=(thS l ρ' tk).isEmpty:=by
 rw [PM,R3,R3,<-List.length_eq_zero_iff,<-List.length_eq_zero_iff,bG,bG]
theorem uh:∀(l:Lv) (ρ ρ':Rh) (tk:Tk),(∀x,l.fh x->ρ x=ρ' x)->thS l ρ tk=thS l ρ' tk:=by
 intro l
 induction l with
 | nil=>intro _ _ _ _;rfl
 | thr k a b o r n J V=>
  intro ρ ρ' tk h;have Z:thS n ρ tk=thS n ρ' tk:=V ρ ρ' tk λx H=>h x (.inr (.inr (.inr H)))
  cases k with
  | r=>
   have ha:=h a (.inr (.inl ⟨rfl,rfl⟩));simp only [thS,ha,Z];rw [ef (ρ:=aI ρ b (iV tk)) (ρ':=aI ρ' b (iV tk)) (iF r) J λx H G=>?_];unfold aI;split
   ·rfl
   ·rename_i e;exact h x (.inr (.inr (.inl ⟨H,λW=>e W.2,G⟩)))
  | s=>
   have ha:=h a (.inl ⟨.inl rfl,.inl rfl⟩);have hb:=h b (.inl ⟨.inl rfl,.inr rfl⟩);simp only [thS,ha,hb,Z];rw [ef (ρ:=ρ) (ρ':=ρ') (iF r) J λx H G=>h x (.inr (.inr (.inl ⟨H,(λW=>by cases W.1),G⟩)))]
  | m=>
   have ha:=h a (.inl ⟨.inr rfl,.inl rfl⟩);have hb:=h b (.inl ⟨.inr rfl,.inr rfl⟩);simp only [thS,ha,hb,Z];rw [ef (ρ:=ρ) (ρ':=ρ') (iF r) J λx H G=>h x (.inr (.inr (.inl ⟨H,(λW=>by cases W.1),G⟩)))]
  | t=>
   simp only [thS,kText,Z];rw [ef (ρ:=ρ) (ρ':=ρ') (iF r) J λx H G=>h x (.inr (.inr (.inl ⟨H,(λW=>by cases W.1),G⟩)))]
  | p=>
   simp only [thS,kText,Z];rw [ef (ρ:=ρ) (ρ':=ρ') (iF r) J λx H G=>h x (.inr (.inr (.inl ⟨H,(λW=>by cases W.1),G⟩)))]
 | sum ps n α V=>
  intro ρ ρ' tk h;simp only [thS,α ρ ρ' tk λx H=>h x (.inl H),V ρ ρ' tk λx H=>h x (.inr H)]
 | part o q n β V=>
  intro ρ ρ' tk h;simp only [thS,V ρ ρ' tk λx H=>h x (.inr H)];rw [ef (ρ:=ρ) (ρ':=ρ') (iF q) β λx H G=>h x (.inl ⟨H,G⟩)]
theorem xN (x:Nat):∀l m:Lv,(l.app m).fh x↔l.fh x\/m.fh x
 | .nil,m=>by simp [Lv.app,Lv.fh]
 | .thr k a b o r n,m=>by simp only [Lv.app,Lv.fh,xN x n m,RF]
 | .sum ps n,m=>by simp only [Lv.app,Lv.fh,xN x n m,RF]
 | .part o q n,m=>by simp only [Lv.app,Lv.fh,xN x n m,RF]
theorem K7 (x:Nat):∀l:List U,(tl l).fh x↔∃t∈l,(tl [t]).fh x
 | []=>by simp [tl,Lv.fh]
 | u::l=>by
  have:tl (u::l)=(tl [u]).app (tl l):=ik [u] l;rw [this,xN,K7 x l];simp
theorem KZ (x:Nat):∀l:List U,(tp l).fh x↔∃t∈l,x∉(td t).1/\(td t).2.fh x
 | []=>by simp [tp,Lv.fh]
 | u::l=>by simp [tp,Lv.fh,KZ x l]
theorem uu:∀(u:U),∀t∈(ak u).2,t.dI/\t.dead=false:=by
 intro u
 induction u with
 | nil=>intro t h;simp [ak]at h
 | snd=>intro t h;simp [ak]at h;subst h;exact⟨trivial,rfl⟩
 | rcv=>intro t h;simp [ak]at h;subst h;exact⟨trivial,rfl⟩
 | tau=>intro t h;simp [ak]at h;subst h;exact⟨trivial,rfl⟩
 | sum p q G H=>
  intro t h;simp only [ak]at h;split at h
  ·exact H t h
  ·rename_i J;split at h
   ·exact G t h
   ·rename_i h2;simp at h;subst h;simp at J h2;exact⟨⟨J,h2⟩,by simp [T.dead,J]⟩
 | par p q G H=>
  intro t h;simp only [ak,OS]at h;exact h.elim (G t) (H t)
 | res x p G=>intro t h;exact G t h
 | mat a b p G=>
  intro t h;simp only [ak]at h;split at h
  ·exact G t h
  ·rename_i J;split at h
   ·simp at h
   ·rename_i h2;simp at h;subst h;simp at h2;exact⟨J,h2⟩
 | rep p G=>
  intro t h;simp only [ak]at h;split at h
  ·simp at h
  ·rename_i h2;simp at h;subst h;simp at h2;exact⟨trivial,h2⟩
theorem Jk (u:U)(a b:Nat)(p:U)(h:T.mat a b p∈(ak u).2):a≠b/\p.dead=false:=uu u _ h
theorem Gm:∀(n:Nat) (u:U),u.size<=n->Uq u->∀x,(td u).2.fh x->x∉(td u).1->u.Us x:=by
 intro n
 induction n with
 | zero=>intro u h;cases u<;>simp [T.size]at h
 | succ n V=>
  intro u hn hu x H hx;obtain⟨h1,h2,_⟩:=gu u hu;rw [h1,K7]at H;obtain⟨t,ht,H⟩:=H;have hx:x∉(ak u).1:=λh=>hx (h2.symm.subset h)
  have hle:=Ce u t ht;have G:=Hj hu t ht;have W:=zz u t ht;have key:t.Us x:=by
   cases t with
   | nil=>cases W
   | par=>cases W
   | res=>cases W
   | snd a b p=>
    simp only [T.size]at hle;simp only [tl,Lv.fh,reduceCtorEq,false_and,true_or,QS,Q6,Sc,RR]at H;rcases H with(h | h) | ⟨h,h'⟩
    ·exact .inl h
    ·exact .inr (.inl h)
    ·exact .inr (.inr (V p (by omega) G.snd x h' h))
   | rcv a b p=>
    simp only [T.size]at hle;simp only [tl,Lv.fh,reduceCtorEq,false_and,or_self,QS,Q6,Sc]at H;rcases H with h | ⟨h,α,h'⟩
    ·exact .inl h
    ·exact .inr ⟨α,V p (by omega) G.rcv x h' h⟩
   | tau p=>
    simp only [T.size]at hle;simp only [tl,Lv.fh,reduceCtorEq,false_and,or_self,QS,Q6,Sc,RR]at H;exact V p (by omega) G.tau x H.2 H.1
   | rep p=>
    simp only [T.size]at hle;simp only [tl,Lv.fh,reduceCtorEq,false_and,or_self,QS,Q6,Sc,RR]at H;exact V p (by omega) G.rep x H.2 H.1
   | mat a b p=>
    simp only [T.size]at hle;obtain⟨Z,hd⟩:a≠b/\p.dead=false:=Jk u a b p ht;simp only [tl,Lv.fh,reduceCtorEq,false_and,or_true,QS,Q6,Sc,RR]at H;rcases H with(h | h) | ⟨h,h'⟩
    ·exact .inr ⟨Z,hd,.inl h⟩
    ·exact .inr ⟨Z,hd,.inr (.inl h)⟩
    ·exact .inr ⟨Z,hd,.inr (.inr (V p (by omega) G.mat x h' h))⟩
   | sum p q=>
    simp only [T.size]at hle;simp only [tl,Lv.fh,Q6]at H;rw [KZ]at H;obtain⟨v,J,k1,k2⟩:=H;rcases OS.1 J with J | J
    ·have :=mE p v J;exact .inl ((mT p G.eD x).2 ⟨v,J,V v (by omega) (yb G.eD v J) x k2 k1⟩)
    ·have :=mE q v J;exact .inr ((mT q G.dS x).2 ⟨v,J,V v (by omega) (yb G.dS v J) x k2 k1⟩)
  exact(lA u hu t ht x key).resolve_right hx
theorem No {u:U}(hu:Uq u){ρ ρ':Rh}(tk:Tk)(h:∀y,u.Us y->ρ y=ρ' y):LS u ρ tk=LS u ρ' tk:=
 ef (iF _) (uh _) λx G H=>h x (Gm _ u (OQ _) hu x H G)
theorem A1:∀(l m:List Nat),l.Nodup->l.length=m.length->∃f:Nat->Nat,m=l.map f
 | [],[],_,_=>⟨id,rfl⟩
 | [],_::_,_,h=>by cases h
 | _::_,[],_,h=>by cases h
 | x::l,y::m,G,h=>by
  have G:=PO.1 G;obtain⟨f,H⟩:=A1 l m G.2 (by simpa using h);refine⟨aI f x y,?_⟩;rw [Pk,H]
  congr 1
  ·simp [aI]
  ·exact P7 λz J=>by
    unfold aI;rw [O1 λe:z=x=>G.1 (e▸J)]
theorem AE.CU:∀{u V:U} {σ J:Nat->Nat},AE σ u J V->(BV u).length=(BV V).length:=by
 intro u
 induction u<;>intro V σ J h<;>cases V<;>simp only [AE]at h<;>simp only [BV,OF,OM]
 case snd.snd G _ _ _=>exact G h.2.2
 case mat.mat G _ _ _=>exact G h.2.2
 case rcv.rcv G _ _ _=>rw [G (h.2 0)]
 case res.res G _ _=>rw [G (h 0)]
 case tau.tau G _=>exact G h
 case rep.rep G _=>exact G h
 case sum.sum G H _ _=>rw [G h.1,H h.2]
 case par.par G H _ _=>rw [G h.1,H h.2]
theorem AE.LA {f:Nat->Nat}:∀{u u':U} {σ β:Nat->Nat},AE σ u β u'->Uq u'->(∀y,u.Fr y->u'.Fr (f y)/\β (f y)=σ y)->(∀y z,u'.Fr y->u'.Fr z->β y=β z->y=z)->BV u'=(BV u).map f->u'=u.map f:=by
 intro u
 induction u<;>intro u' σ β h hu V hi hb<;>cases u'<;>simp only [AE]at h<;>simp only [T.map]
 case snd.snd a b p ih c d q=>
  have e1:c=f a:=hi _ _ (.inl rfl) (V a (.inl rfl)).1 (by rw [(V a (.inl rfl)).2,h.1]);have e2:d=f b:=hi _ _ (.inr (.inl rfl)) (V b (.inr (.inl rfl))).1 (by rw [(V b (.inr (.inl rfl))).2,h.2.1]);rw [<-e1,<-e2];rw [ih h.2.2 hu.snd (λy G=>?_) (λy z G hz=>hi y z (.inr (.inr G)) (.inr (.inr hz))) hb];obtain⟨H,J,h2⟩:=h.2.2.free y G;have :=V y (.inr (.inr G));have e:H=f y:=hi _ _ (.inr (.inr J)) this.1 (by rw [h2,this.2]);exact⟨e▸J,this.2⟩
 case mat.mat a b p ih c d q=>
  have e1:c=f a:=hi _ _ (.inl rfl) (V a (.inl rfl)).1 (by rw [(V a (.inl rfl)).2,h.1]);have e2:d=f b:=hi _ _ (.inr (.inl rfl)) (V b (.inr (.inl rfl))).1 (by rw [(V b (.inr (.inl rfl))).2,h.2.1]);rw [<-e1,<-e2];rw [ih h.2.2 hu.mat (λy G=>?_) (λy z G hz=>hi y z (.inr (.inr G)) (.inr (.inr hz))) hb];obtain⟨H,J,h2⟩:=h.2.2.free y G;have :=V y (.inr (.inr G));have e:H=f y:=hi _ _ (.inr (.inr J)) this.1 (by rw [h2,this.2]);exact⟨e▸J,this.2⟩
 case rcv.rcv a x p ih c z q=>
  simp only [BV,Pk,PC]at hb;have e1:c=f a:=hi _ _ (.inl rfl) (V a (.inl rfl)).1 (by rw [(V a (.inl rfl)).2,h.1]);rw [<-e1,<-hb.1];obtain⟨v,J,h2⟩:=cu p q σ β;have hz:¬(T.rcv c z q).Fr z:=hu.nf z (by simp [BV]);rw [ih (h.2 v) hu.rcv (λy G=>?_) (λy H G δ e=>?_) hb.2]
  ·obtain⟨H,k1,Z⟩:=(h.2 v).free y G;by_cases e:y=x
   ·subst e;rw [dg]at Z;have:H=z:=PJ λγ=>by
     rw [bQ _ _ γ]at Z;exact h2 H k1 Z
    subst this;rw [<-hb.1,dg,dg];exact⟨k1,rfl⟩
   ·have W:=V y (.inr ⟨e,G⟩);have γ:f y≠z:=λe'=>hz (e'▸W.1)
    rw [bQ _ _ e]at Z|-;rw [bQ _ _ γ];have α:H≠z:=λe'=>by
     rw [e',dg]at Z;exact J y G Z.symm
    rw [bQ _ _ α]at Z;have e2:H=f y:=hi _ _ (.inr ⟨α,k1⟩) W.1 (by rw [Z,W.2]);exact⟨e2▸k1,W.2⟩
  ·by_cases g1:y=z<;>by_cases g2:H=z
   ·rw [g1,g2]
   ·rw [g1,dg,bQ _ _ g2]at e;exact absurd e.symm (h2 H δ)
   ·rw [g2,dg,bQ _ _ g1]at e;exact absurd e (h2 y G)
   ·rw [bQ _ _ g1,bQ _ _ g2]at e;exact hi y H (.inr ⟨g1,G⟩) (.inr ⟨g2,δ⟩) e
 case res.res x p ih z q=>
  simp only [BV,Pk,PC]at hb;rw [<-hb.1];obtain⟨v,J,h2⟩:=cu p q σ β;have hz:¬(T.res z q).Fr z:=hu.nf z (by simp [BV]);rw [ih (h v) hu.res (λy G=>?_) (λy H G δ e=>?_) hb.2]
  ·obtain⟨H,k1,Z⟩:=(h v).free y G;by_cases e:y=x
   ·subst e;rw [dg]at Z;have:H=z:=PJ λγ=>by
     rw [bQ _ _ γ]at Z;exact h2 H k1 Z
    subst this;rw [<-hb.1,dg,dg];exact⟨k1,rfl⟩
   ·have W:=V y ⟨e,G⟩;have γ:f y≠z:=λe'=>hz (e'▸W.1)
    rw [bQ _ _ e]at Z|-;rw [bQ _ _ γ];have α:H≠z:=λe'=>by
     rw [e',dg]at Z;exact J y G Z.symm
    rw [bQ _ _ α]at Z;have e2:H=f y:=hi _ _ ⟨α,k1⟩ W.1 (by rw [Z,W.2]);exact⟨e2▸k1,W.2⟩
  ·by_cases g1:y=z<;>by_cases g2:H=z
   ·rw [g1,g2]
   ·rw [g1,dg,bQ _ _ g2]at e;exact absurd e.symm (h2 H δ)
   ·rw [g2,dg,bQ _ _ g1]at e;exact absurd e (h2 y G)
   ·rw [bQ _ _ g1,bQ _ _ g2]at e;exact hi y H ⟨g1,G⟩ ⟨g2,δ⟩ e
 case tau.tau p ih q=>rw [ih h hu.tau V hi hb]
 case rep.rep p ih q=>rw [ih h hu.rep V hi hb]
 case sum.sum p p' ih ε q q'=>
  simp only [BV,PH]at hb;obtain⟨b1,b2⟩:=List.append_inj hb (by rw [O8,h.1.CU]);rw [ih h.1 hu.eD (λy G=>?_) (λy z G hz=>hi y z (.inl G) (.inl hz)) b1,ε h.2 hu.dS (λy G=>?_) (λy z G hz=>hi y z (.inr G) (.inr hz)) b2]
  ·obtain⟨H,J,h2⟩:=h.2.free y G;have :=V y (.inr G);have e:H=f y:=hi _ _ (.inr J) this.1 (by rw [h2,this.2]);exact⟨e▸J,this.2⟩
  ·obtain⟨H,J,h2⟩:=h.1.free y G;have :=V y (.inl G);have e:H=f y:=hi _ _ (.inl J) this.1 (by rw [h2,this.2]);exact⟨e▸J,this.2⟩
 case par.par p p' ih ε q q'=>
  simp only [BV,PH]at hb;obtain⟨b1,b2⟩:=List.append_inj hb (by rw [O8,h.1.CU]);rw [ih h.1 hu.gz (λy G=>?_) (λy z G hz=>hi y z (.inl G) (.inl hz)) b1,ε h.2 hu.fU (λy G=>?_) (λy z G hz=>hi y z (.inr G) (.inr hz)) b2]
  ·obtain⟨H,J,h2⟩:=h.2.free y G;have :=V y (.inr G);have e:H=f y:=hi _ _ (.inr J) this.1 (by rw [h2,this.2]);exact⟨e▸J,this.2⟩
  ·obtain⟨H,J,h2⟩:=h.1.free y G;have :=V y (.inl G);have e:H=f y:=hi _ _ (.inl J) this.1 (by rw [h2,this.2]);exact⟨e▸J,this.2⟩
theorem T.mv {D:Nat->Prop}:∀{u:U},(∀x,u.Fr x->D x)->(∀x∈BV u,D x)->u.Al D
 | .nil,_,_=>trivial
 | .snd a b p,h,k=>⟨h a (.inl rfl),h b (.inr (.inl rfl)),T.mv (λx G=>h x (.inr (.inr G))) k⟩
 | .mat a b p,h,k=>⟨h a (.inl rfl),h b (.inr (.inl rfl)),T.mv (λx G=>h x (.inr (.inr G))) k⟩
 | .rcv a y p,h,k=>⟨h a (.inl rfl),k y (by simp [BV]),T.mv (λx G=>by
   by_cases e:x=y
   ·subst e;exact k x (by simp [BV])
   ·exact h x (.inr ⟨e,G⟩)) λx G=>k x (by simp [BV,G])⟩
 | .res y p,h,k=>⟨k y (by simp [BV]),T.mv (λx G=>by
   by_cases e:x=y
   ·subst e;exact k x (by simp [BV])
   ·exact h x ⟨e,G⟩) λx G=>k x (by simp [BV,G])⟩
 | .tau p,h,k=>T.mv (u:=p) h k
 | .rep p,h,k=>T.mv (u:=p) h k
 | .sum p q,h,k=>⟨T.mv (λx G=>h x (.inl G)) λx G=>k x (Pm _ G),T.mv (λx G=>h x (.inr G)) λx G=>k x (Pf _ G)⟩
 | .par p q,h,k=>⟨T.mv (λx G=>h x (.inl G)) λx G=>k x (Pm _ G),T.mv (λx G=>h x (.inr G)) λx G=>k x (Pf _ G)⟩
theorem nM {f:Nat->Nat}:∀{l:List Nat},(l.map f).Nodup->∀x∈l,∀y∈l,f x=f y->x=y
 | [],_,_,h,_,_,_=>by cases h
 | z::l,H,x,J,y,V,e=>by
  rw [Pk,PO]at H;rcases O4.1 J with G | G<;>rcases O4.1 V with h2 | h2
  ·rw [G,h2]
  ·exact absurd (Pw.2 ⟨y,h2,by rw [<-e,G]⟩) H.1
  ·exact absurd (Pw.2 ⟨x,G,by rw [e,h2]⟩) H.1
  ·exact nM H.2 x G y h2 e
theorem AE.Lm {u V:U}{σ J:Nat->Nat}(h:AE σ u J V)(hu:Uq u)(W:Uq V)(hi:∀y z,u.Fr y->u.Fr z->σ y=σ z->y=z)(α:∀y z,V.Fr y->V.Fr z->J y=J z->y=z):
  ∃(f:Nat->Nat) (D:Nat->Prop),V=u.map f/\u.Al D/\(∀x y,D x->D y->f x=f y->x=y)/\∀y,u.Fr y->V.Fr (f y)/\J (f y)=σ y:=by
 obtain⟨g,hg⟩:=A1 (BV u) (BV V) hu.nd h.CU;have Z:∀y,∃y',u.Fr y->V.Fr y'/\J y'=σ y:=λy=>by
  by_cases H:u.Fr y
  ·obtain⟨y',h1,h2⟩:=h.free y H;exact⟨y',λ _=>⟨h1,h2⟩⟩
  ·exact⟨0,λk=>absurd k H⟩
 let f:Nat->Nat:=λy=>if u.Fr y then Classical.choose (Z y)else g y
 have f1:∀y,u.Fr y->V.Fr (f y)/\J (f y)=σ y:=λy H=>by
  have:f y=Classical.choose (Z y):=Pj H;rw [this];exact Classical.choose_spec (Z y) H
 have f2:BV V=(BV u).map f:=by
  rw [hg];exact P7 λx G=>(O1 (hu.nf x G)).symm
 refine⟨f,λx=>u.Fr x\/x∈BV u,h.LA W f1 α f2,T.mv (λx G=> .inl G) (λx G=> .inr G),?_,f1⟩;intro x y G H e;have hb:∀x∈BV u,f x∈BV V:=λx G=>by rw [f2];exact Qo G
 rcases G with G | G<;>rcases H with H | H
 ·exact hi x y G H (by rw [<-(f1 x G).2,<-(f1 y H).2,e])
 ·exact absurd (e▸(f1 x G).1) (W.nf _ (hb y H))
 ·exact absurd (e▸(f1 y H).1) (λk=>W.nf _ (hb x G) (by rw [e];exact(f1 y H).1))
 ·exact nM (f2▸W.nd) x G y H e
theorem K3 {u G:U}{σ H:Nat->Nat}(h:AE σ u H G)(hu:Uq u)(J:Uq G)(hi:∀y z,u.Fr y->u.Fr z->σ y=σ z->y=z)(V:∀y z,G.Fr y->G.Fr z->H y=H z->y=z)
  {ρ ρ':Rh} (W:∀y Z,u.Us y->G.Fr Z->σ y=H Z->ρ y=ρ' Z) (tk:Tk):LS u ρ tk=LS G ρ' tk/\dD u=dD G/\cQ u=cQ G/\bn u=bn G:=by
 obtain⟨f,D,rfl,h1,h2,h3⟩:=h.Lm hu J hi V;obtain⟨k1,k2,k3⟩:=Hp h2 h1;refine⟨?_,k1.symm,k2.symm,k3.symm⟩;rw [MF h2 h1];exact No hu tk λy hy=>W y (f y) hy (h3 y (T.bI hy)).1 (h3 y (T.bI hy)).2.symm
namespace T
section
variable {A B:Type}
def tg:T A->Nat
 | nil=>0 | snd .. =>1 | rcv .. =>2 | tau .. =>3 | sum .. =>4 | par .. =>5 | res .. =>6 | mat .. =>7 | rep .. =>8
def gp:T A->Bool
 | nil=>true | snd .. =>true | rcv .. =>true | tau .. =>true | sum .. =>true
 | par .. =>false | res .. =>false | mat .. =>false | rep .. =>false
def isR:T A->Bool
 | rcv .. =>true
 | _=>false
def smp:T A->Bool
 | nil=>true | snd _ _ p=>p.smp | rcv _ _ p=>p.smp | tau p=>p.smp | sum p q=>(p.gp&&q.gp)&&(p.smp&&q.smp) | par p q=>p.smp&&q.smp
 | res _ p=>p.smp | mat _ _ p=>p.smp | rep p=>p.isR&&p.smp
theorem BN {t:T A}:t.gp=decide (t.tg< 5):=by cases t<;>rfl
theorem H0 {t:T A}:t.isS=decide (t.tg=4):=by cases t<;>rfl
theorem xL {t:T A}:t.isR=decide (t.tg=2):=by cases t<;>rfl
theorem Gz [DecidableEq A][DecidableEq B]{p:T A}{q:T B}{ρ:A->Nat}{σ:B->Nat}(h:AE ρ p σ q):p.tg=q.tg:=by
 cases p<;>cases q<;>first | exact h.elim | rfl
theorem uW [DecidableEq A][DecidableEq B]{p:T A}{q:T B}{ρ:A->Nat}{σ:B->Nat}(h:AE ρ p σ q):p.smp=q.smp:=by
 induction p generalizing q ρ σ<;>cases q<;>simp only [AE]at h<;>simp only [smp]
 case snd.snd G _ _ _=>exact G h.2.2
 case mat.mat G _ _ _=>exact G h.2.2
 case rcv.rcv G _ _ _=>exact G (h.2 0)
 case res.res G _ _=>exact G (h 0)
 case tau.tau G _=>exact G h
 case rep.rep G _=>rw [G h,xL,xL,Gz h]
 case sum.sum G H _ _=>rw [G h.1,H h.2,BN,BN,BN,BN,Gz h.1,Gz h.2]
 case par.par G H _ _=>rw [G h.1,H h.2]
end
end T
structure N7 (t w:U):Prop where
 th:w.th=true
 nr:w.Nr
 uq:Uq w
 bv:∀x∈BV w,x∈BV t
 us:∀x,w.Us x↔t.Us x
 tx:∀ρ tk,thU w ρ tk=thU t ρ tk
 bad:∀tk,thBad (tl [w]) tk=thBad (tl [t]) tk
 all:thAll (tl [w])=thAll (tl [t])
 most:ax (tl [w])=ax (tl [t])
 smp:t.smp=true->w.smp=true
 tg:w.tg=t.tg
structure Og (u v:U):Prop where
 nr:v.Nr
 uq:Uq v
 bv:∀x∈BV v,x∈BV u
 us:∀x,v.Us x↔u.Us x
 ls:∀ρ tk,LS v ρ tk=LS u ρ tk
 bad:∀tk,dD v tk=dD u tk
 all:cQ v=cQ u
 most:bn v=bn u
 dead:v.dead=u.dead
 smp:u.smp=true->v.smp=true
 tg:∀t,ak u=([],[t])->v.tg=t.tg
 isS:(∀p q,ak u≠([],[T.sum p q]))->v.isS=false
theorem qY {t w:U}(G:(BV w).Nodup)(nr:w.Nr)(hb:∀x∈BV w,x∈BV t)(hu:∀x,w.Us x->t.Us x)(H:Uq t):Uq w:=
 ⟨G,λx J V=>H.nf x (hb x J) (T.bI (hu x (nr.iA V)))⟩
theorem AE.Lb {p:P}{q:U}{ρ:Rh}{y:Nat}{c:UInt8}(hc:∀z,q.Fr z->z≠y->ρ z≠c)(h:AE UInt8.toNat p (λz=>(aI ρ y c z).toNat) q)(v:Nat):AE (aI UInt8.toNat c v) p (aI (λz=>(ρ z).toNat) y v) q:=by
 refine(h.map λn=>if n=c.toNat then v else n).congr (λx _=>?_) λz G=>?_
 ·unfold aI;by_cases e:x=c
  ·subst e;simp
  ·rw [O1 e,O1 λh=>e (Pe.1 h)]
 ·unfold aI;by_cases e:z=y
  ·subst e;simp
  ·simp only [O1 e];rw [O1 λh=>hc z G e (Pe.1 h)]
theorem bV:∀(π:List Nat) (ls:List UInt8) (ρ:Rh) (x:Nat),x∉π->asg π ls ρ x=ρ x
 | [],_,_,_,_=>by simp [asg]
 | _::_,[],_,_,_=>by simp [asg]
 | y::π,c::ls,ρ,x,h=>by
  simp only [O4,Sk]at h;rw [asg,bV π ls _ x h.2];unfold aI;rw [O1 h.1]
theorem fK:∀(π:List Nat) (ls:List UInt8) (ρ:Rh) (x:Nat),x∈π->π.length=ls.length->asg π ls ρ x∈ls
 | [],_,_,_,h,_=>by cases h
 | _::_,[],_,_,_,h=>by cases h
 | y::π,c::ls,ρ,x,h,H=>by
  rw [asg];by_cases G:x∈π
  ·exact OZ _ (fK π ls _ x G (by simpa using H))
  ·have e:x=y:=(O4.1 h).resolve_right G;subst e;rw [bV π ls _ x G];simp [aI]
theorem yD:∀(π:List Nat) (ls:List UInt8) (ρ:Rh) (x z:Nat),x∈π->z∈π->π.length=ls.length->ls.Nodup->asg π ls ρ x=asg π ls ρ z->x=z
 | [],_,_,_,_,h,_,_,_,_=>by cases h
 | _::_,[],_,_,_,_,_,h,_,_=>by cases h
 | y::π,c::ls,ρ,x,z,Z,hz,J,G,e=>by
  have G:=PO.1 G;have V:π.length=ls.length:=by simpa using J
  rw [asg]at e;by_cases H:x∈π<;>by_cases h2:z∈π
  ·exact yD π ls _ x z H h2 V G.2 e
  ·have W:z=y:=(O4.1 hz).resolve_right h2;subst W;rw [bV π ls _ z h2]at e;have :=fK π ls (aI ρ z c) x H (by simpa using J);rw [e]at this;exact absurd (by simpa [aI]using this) G.1
  ·have W:x=y:=(O4.1 Z).resolve_right H;subst W;rw [bV π ls _ x H]at e;have :=fK π ls (aI ρ x c) z h2 (by simpa using J);rw [<-e]at this;exact absurd (by simpa [aI]using this) G.1
  ·rw [(O4.1 Z).resolve_right H,(O4.1 hz).resolve_right h2]
theorem AE.IW {p:P}{q:U}:∀(π:List Nat) (ls:List UInt8) (ρ:Rh),π.length=ls.length->ls.Nodup->(∀z,q.Fr z->z∉π->ρ z∉ls)->AE UInt8.toNat p (λz=>(asg π ls ρ z).toNat) q->
  AE UInt8.toNat (T.resL ls p) (λz=>(ρ z).toNat) (T.resL π q)
 | [],[],_,_,_,_,h=>h
 | [],_::_,_,h,_,_,_=>by cases h
 | _::_,[],_,h,_,_,_=>by cases h
 | y::π,c::ls,ρ,V,H,hc,h=>by
  have H:=PO.1 H;have W:=AE.IW π ls (aI ρ y c) (by simpa using V) H.2 (λz G hm=>by
   unfold aI;split
   ·exact H.1
   ·rename_i e;exact λJ=>hc z G (by simp [e,hm]) (OZ _ J)) h
  intro v;refine AE.Lb (λz G e=>?_) W v;have G:=T.fE.1 G;exact λJ=>hc z G.2 (by simp [e,G.1]) (by rw [J];exact Py ..)
theorem CH (a b:UInt8)(r:Tx):kText .m a b r=kText .m b a r:=by
 unfold kText;by_cases G:b< a
 ·have h2:¬a< b:=λh=>by
   rw [PA]at h G;omega
  simp [G,h2]
 ·by_cases h2:a< b
  ·simp [G,h2]
  ·have:a=b:=by
    apply Pe.1;rw [PA]at G h2;omega
   subst this;rfl
theorem BS {α:Type}{f:α->Bool}{l m:List α}(h:l.Perm m):l.any f=m.any f:=by
 rw [PM,QP,QP];exact⟨fun⟨x,G,h2⟩=>⟨x,h.subset G,h2⟩,fun⟨x,G,h2⟩=>⟨x,h.symm.subset G,h2⟩⟩
theorem jr {l m:List Nat}(h:l.Perm m):l.sum=m.sum:=by
 induction h with
 | nil=>rfl
 | cons x _ G=>simp [G]
 | swap x y l=>simp;omega
 | trans _ _ H h2=>exact H.trans h2
theorem triples {α β γ:Type}{R:α->β->γ->Prop}:∀{l:List α},(∀a∈l,∃b c,R a b c)->∃zs:List (α×β×γ),zs.map (·.1)=l/\∀z∈zs,R z.1 z.2.1 z.2.2
 | [],_=>⟨[],rfl,λz h=>by cases h⟩
 | a::l,h=>by
  obtain⟨b,c,hr⟩:=h a (Py ..);obtain⟨zs,H,h2⟩:=triples (l:=l) λa ha=>h a (OZ _ ha)
  refine⟨(a,b,c)::zs,by simp [H],λz G=>?_⟩;rcases O4.1 G with rfl | G
  ·exact hr
  ·exact h2 z G
theorem wO {α:Type}(zs:List α)(g:α->Tx):∃G:List α,G.Perm zs/\G.map g=a6 (zs.map g):=by
 refine⟨zs.mergeSort λa b=>jJ (g a) (g b),List.mergeSort_perm _ _,?_⟩
 symm
 refine uQ ?_ ((List.mergeSort_perm _ _).map g);have :=List.pairwise_mergeSort (le:=λa b:α=>jJ (g a) (g b)) (λa b c=>gU _ _ _) (λa b=>qP _ _) zs;exact List.pairwise_map.2 this
theorem gD (p:U):∀l:List Nat,BV (T.resL l p)=l++BV p
 | []=>rfl
 | x::l=>by simp only [T.resL,BV,gD p l,PI]
theorem gK:∀l:List U,BV (T.parL l)=l.flatMap BV
 | []=>rfl
 | [t]=>by simp [T.parL]
 | t::u::l=>by simp only [T.parL,BV,gK (u::l),Qh]
theorem yZ:∀l:List U,BV (T.dH l)=l.flatMap BV
 | []=>rfl
 | [t]=>by simp [T.dH]
 | t::u::l=>by simp only [T.dH,BV,yZ (u::l),Qh]
theorem qB {α:Type}{f g:α->List Nat}:∀{l:List α},(l.flatMap f).Nodup->(∀z∈l,(g z).Nodup/\∀x∈g z,x∈f z)->(l.flatMap g).Nodup
 | [],_,_=>Qi
 | z::l,G,h=>by
  rw [Qh]at G|-;have G:=Pp.1 G;refine Pp.2 ⟨(h z (Py ..)).1,qB G.2.1 λy H=>h y (OZ _ H),λa ha b hb=>?_⟩;obtain⟨y,H,J⟩:=PE.1 hb;exact G.2.2 a ((h z (Py ..)).2 a ha) b (PE.2 ⟨y,H,(h y (OZ _ H)).2 b J⟩)
theorem IU:∀u:U,Uq u->((aw u).flatMap BV).Nodup:=by
 intro u;have sub:∀u:U,∀x∈(aw u).flatMap BV,x∈BV u:=λu x J=>by
  obtain⟨t,V,h2⟩:=PE.1 J;exact AI u t V x h2
 induction u with
 | nil=>intro _;simp [aw]
 | snd a b p G=>intro h;simpa [aw]using h.nd
 | rcv a b p G=>intro h;simpa [aw]using h.nd
 | tau p G=>intro h;simpa [aw]using h.nd
 | sum p q G H=>
  intro h;simp only [aw,P2];exact Pp.2 ⟨G h.eD,H h.dS,λa ha b hb=>(Pp.1 h.nd).2.2 a (sub p a ha) b (sub q b hb)⟩
 | par p q G H=>
  intro h;simp only [aw];split
  ·exact H h.fU
  ·split
   ·exact G h.gz
   ·simpa using h.nd
 | res x p G=>
  intro h;simp only [aw];split
  ·simpa using h.nd
  ·exact G h.res
 | mat a b p G=>
  intro h;simp only [aw];split
  ·exact G h.mat
  ·split
   ·simp
   ·simpa using h.nd
 | rep p G=>
  intro h;simp only [aw];split
  ·simp
  ·simpa using h.nd
theorem JC:∀u:U,Uq u->((ak u).1++(ak u).2.flatMap BV).Nodup:=by
 intro u;have sub:∀u:U,∀x∈(ak u).1++(ak u).2.flatMap BV,x∈BV u:=λu x H=>by
  rcases OS.1 H with H | H
  ·exact iP u x H
  ·obtain⟨t,V,h2⟩:=PE.1 H;exact Ez u t V x h2
 induction u with
 | nil=>intro _;simp [ak]
 | snd a b p G=>intro h;simpa [ak]using h.nd
 | rcv a b p G=>intro h;simpa [ak]using h.nd
 | tau p G=>intro h;simpa [ak]using h.nd
 | sum p q G J=>
  intro h;simp only [ak];split
  ·exact J h.dS
  ·split
   ·exact G h.eD
   ·simpa using h.nd
 | par p q G J=>
  intro h;have W:(((ak p).1++(ak q).1)++((ak p).2++(ak q).2).flatMap BV).Perm (((ak p).1++(ak p).2.flatMap BV)++((ak q).1++(ak q).2.flatMap BV)):=by
   rw [P2];exact uC _ _ _ _
  simp only [ak];rw [W.nodup_iff];exact Pp.2 ⟨G h.gz,J h.fU,λa ha b hb=>(Pp.1 h.nd).2.2 a (sub p a ha) b (sub q b hb)⟩
 | res x p G=>
  intro h;simp only [ak];split
  ·exact PO.2 ⟨λH=>h.gm (sub p x H),G h.res⟩
  ·exact G h.res
 | mat a b p G=>
  intro h;simp only [ak];split
  ·exact G h.mat
  ·split
   ·simp
   ·simpa using h.nd
 | rep p G=>
  intro h;simp only [ak];split
  ·simp
  ·simpa using h.nd
theorem ya {u:U}(h:u.dead=false)(hu:Uq u):(ak u).2≠[]:=λe=>by
 have G:=(gu u hu).1;rw [e]at G;have :=(lZ u).1 h;rw [G]at this;exact this rfl
theorem JO {u:U}(hu:Uq u)(h:(ak u).2=[]):u.dead=true:=by
 cases hd:u.dead with
 | true=>rfl
 | false=>exact absurd h (ya hd hu)
theorem pe {u:U}(h:u.dead=false)(hu:Uq u):aw u≠[]:=λe=>by
 have G:=(gu u hu).2.2;rw [e]at G;have :=(bN u).2.1;rw [G]at this;rw [this.1 rfl]at h;cases h
theorem EX:∀u:U,Uq u->∀t∈aw u,∀p q,ak t≠([],[T.sum p q]):=by
 intro u
 induction u with
 | nil=>intro _ t h;simp [aw]at h
 | snd=>intro _ t h;simp [aw]at h;subst h;intro p q e;simp [ak]at e
 | rcv=>intro _ t h;simp [aw]at h;subst h;intro p q e;simp [ak]at e
 | tau=>intro _ t h;simp [aw]at h;subst h;intro p q e;simp [ak]at e
 | sum p q G H=>
  intro hu t h;simp only [aw,OS]at h;exact h.elim (G hu.eD t) (H hu.dS t)
 | par p q G H=>
  intro hu t h;simp only [aw]at h;split at h
  ·exact H hu.fU t h
  ·rename_i J;split at h
   ·exact G hu.gz t h
   ·rename_i h2;simp at h;subst h;intro W Z e;have V:=PS Prod.snd e;simp only [ak]at V;have l1:(ak p).2.length≠0:=λe=>ya (by simpa using J) hu.gz (Pg e)
    have l2:(ak q).2.length≠0:=λe=>ya (by simpa using h2) hu.fU (Pg e)
    have :=PS List.length V;simp only [OM,OF,OX]at this;omega
 | res x p G=>
  intro hu t h;simp only [aw]at h;split at h
  ·rename_i J;simp at h;subst h;intro W Z e;have V:=PS Prod.fst e;simp [ak,J]at V
  ·exact G hu.res t h
 | mat a b p G=>
  intro hu t h;simp only [aw]at h;split at h
  ·exact G hu.mat t h
  ·rename_i J;split at h
   ·simp at h
   ·rename_i h2;simp at h;subst h;intro W Z e;simp [ak,J,h2]at e
 | rep p G=>
  intro hu t h;simp only [aw]at h;split at h
  ·simp at h
  ·rename_i h2;simp at h;subst h;intro W Z e;simp [ak,h2]at e
theorem FD:∀(u:U),∀t∈aw u,t.dead=false:=by
 intro u
 induction u with
 | nil=>intro t h;simp [aw]at h
 | snd=>intro t h;simp [aw]at h;subst h;rfl
 | rcv=>intro t h;simp [aw]at h;subst h;rfl
 | tau=>intro t h;simp [aw]at h;subst h;rfl
 | sum p q G H=>intro t h;simp only [aw,OS]at h;exact h.elim (G t) (H t)
 | par p q G H=>
  intro t h;simp only [aw]at h;split at h
  ·exact H t h
  ·rename_i J;split at h
   ·exact G t h
   ·simp at h;subst h;simp at J;simp [T.dead,J]
 | res x p G=>
  intro t h;simp only [aw]at h;split at h
  ·rename_i J;simp at h;subst h;cases hd:p.dead with
   | false=>exact hd
   | true=>rw [mK hd]at J;cases J
  ·exact G t h
 | mat a b p G=>
  intro t h;simp only [aw]at h;split at h
  ·exact G t h
  ·split at h
   ·simp at h
   ·rename_i h2;simp at h;subst h;simp at h2;exact h2
 | rep p G=>
  intro t h;simp only [aw]at h;split at h
  ·simp at h
  ·rename_i h2;simp at h;subst h;simp at h2;exact h2
theorem yA:∀u:U,u.gp=true->u.smp=true->∀t∈aw u,(t.tg=1\/t.tg=2\/t.tg=3)/\ak t=([],[t])
 | .nil,_,_,t,h=>by simp [aw]at h
 | .snd ..,_,_,t,h=>by simp [aw]at h;subst h;exact⟨.inl rfl,rfl⟩
 | .rcv ..,_,_,t,h=>by simp [aw]at h;subst h;exact⟨.inr (.inl rfl),rfl⟩
 | .tau ..,_,_,t,h=>by simp [aw]at h;subst h;exact⟨.inr (.inr rfl),rfl⟩
 | .sum p q,_,G,t,h=>by
  simp only [T.smp,OJ]at G;simp only [aw,OS]at h;exact h.elim (yA p G.1.1 G.2.1 t) (yA q G.1.2 G.2.2 t)
 | .par ..,h,_,_,_=>by cases h
 | .res ..,h,_,_,_=>by cases h
 | .mat ..,h,_,_,_=>by cases h
 | .rep ..,h,_,_,_=>by cases h
theorem tj {l:List U}(h:∀t∈l,t.smp=true):(T.parL l).smp=true:=by
 induction l with
 | nil=>rfl
 | cons t l G=>
  cases l with
  | nil=>exact h t (by simp)
  | cons u l=>
   simp only [T.parL,T.smp,OJ];exact⟨h t (by simp),G λt H=>h t (OZ _ H)⟩
theorem uH {p:U}(l:List Nat):(T.resL l p).smp=p.smp:=by
 induction l with
 | nil=>rfl
 | cons x l G=>exact G
theorem IK {l:List U}(H:l≠[])(h:∀t∈l,t.smp=true/\t.gp=true):(T.dH l).smp=true/\(T.dH l).gp=true:=by
 induction l with
 | nil=>exact absurd rfl H
 | cons t l J=>
  cases l with
  | nil=>exact h t (by simp)
  | cons u l=>
   obtain⟨V,h2⟩:=J (by simp) λt G=>h t (OZ _ G)
   have G:=h t (by simp);simp only [T.dH,T.smp,OJ];exact⟨⟨⟨G.2,h2⟩,G.1,V⟩,rfl⟩
theorem GP (u:U)(h:u.smp=true):∀t∈aw u,t.smp=true:=
 sF (λt=>t.smp=true) (λp q h=>by simp only [T.smp,OJ]at h;exact h.2) (λp q h=>by simpa only [T.smp,OJ]using h) (λ _ _ h=>h) (λ _ _ _ h=>h) u h
theorem Jq (u:U)(h:u.smp=true):∀t∈(ak u).2,t.smp=true:=
 yf (λt=>t.smp=true) (λp q h=>by simp only [T.smp,OJ]at h;exact h.2) (λp q h=>by simpa only [T.smp,OJ]using h) (λ _ _ h=>h) (λ _ _ _ h=>h) u h
theorem AE.dH {ρ:UInt8->Nat}{σ:Nat->Nat}:∀{l:List (U×P×U)},(∀z∈l,AE ρ z.2.1 σ z.2.2)->AE ρ (T.dH (l.map (·.2.1))) σ (T.dH (l.map (·.2.2)))
 | [],_=>trivial
 | [z],h=>h z (by simp)
 | z::y::l,h=>⟨h z (by simp),AE.dH (l:=y::l) λt G=>h t (OZ _ G)⟩
theorem AE.parL {ρ:UInt8->Nat}{σ:Nat->Nat}:∀{l:List (U×P×U)},(∀z∈l,AE ρ z.2.1 σ z.2.2)->AE ρ (T.parL (l.map (·.2.1))) σ (T.parL (l.map (·.2.2)))
 | [],_=>trivial
 | [z],h=>h z (by simp)
 | z::y::l,h=>⟨h z (by simp),AE.parL (l:=y::l) λt G=>h t (OZ _ G)⟩
theorem EK {D:UInt8->Prop}:∀{l:List P},(∀t∈l,t.Al D)->(T.dH l).Al D
 | [],_=>trivial
 | [z],h=>h z (by simp)
 | z::y::l,h=>⟨h z (by simp),EK (l:=y::l) λt G=>h t (OZ _ G)⟩
theorem Ew {D:UInt8->Prop}:∀{l:List P},(∀t∈l,t.Al D)->(T.parL l).Al D
 | [],_=>trivial
 | [z],h=>h z (by simp)
 | z::y::l,h=>⟨h z (by simp),Ew (l:=y::l) λt G=>h t (OZ _ G)⟩
theorem D4 {D:UInt8->Prop}{p:P}(G:p.Al D):∀{l:List UInt8},(∀c∈l,D c)->(T.resL l p).Al D
 | [],_=>G
 | c::l,h=>⟨h c (by simp),D4 G (l:=l) λt H=>h t (OZ _ H)⟩
theorem fJ {w:U}(h:w.isS=true)(ρ:Rh)(tk:Tk):thU w ρ tk=joinS 43 (a6 ((aw w).map λu=>LS u ρ tk))/\tl [w]= .sum (tp (aw w)) .nil:=by
 cases w<;>first | (cases h;done) | exact⟨rfl,rfl⟩
theorem D1 {a b:Nat}(h:∀n,a<=n↔b<=n):a=b:=by
 have G:=(h a).1 (OQ _);have h2:=(h b).2 (OQ _);omega
end Go.Proofs.YtdecokaadekjnaaGreat
namespace Go.Proofs.YtdecokaadekjnaaGreat
open Go Go.RowKit
theorem xS.sub {k m:Nat}{Θ:Tx}{σ:Nat->Nat}{u v:U}(h:xS k Θ σ u)(G:k<=m)(H:∀y,v.Us y->u.Us y):xS m Θ σ v:=
 ⟨h.srt,λc hc=>⟨(h.okn c hc).1.mono G,(h.okn c hc).2⟩,λy J=>h.cov y (H y J)⟩
theorem Compat.sub {ρ:Rh}{σ:Nat->Nat}{u v:U}(h:Compat ρ σ u)(G:∀y,v.Us y->u.Us y):Compat ρ σ v:=λy H=>h y (G y H)
theorem jL {c:UInt8}(h:nm c=true):¬c=35:=(tZ h).2.2.2.1
theorem bs {c:UInt8}(h:¬c=35)(l:Tx):(c::l).count 35=l.count 35:=by
 rw [List.count_cons];simp [h]
theorem TR.snd {on:Bool}{a b:Nat}{p:U}{σ:Nat->Nat}{Θ r:Tx}{x y:UInt8}(J:nm x=true)(G:nm y=true)(ex:x.toNat=σ a)(V:y.toNat=σ b)(h:WR on p σ Θ r):TR on (.snd a b p) σ Θ (x::33::y::46::r):=by
 refine⟨by simp,?_,λhm=>?_,λhm H hb=>?_,λhm H hb ρ hc=>?_⟩
 ·have :=h.len;simp only [OF,T.aN];omega
 ·rw [fq]at hm;rw [bs (jL J),bs (by decide),bs (jL G),bs (by decide),h.cnt hm,p4]
 ·rw [fq]at hm;rw [jw]at hb;obtain⟨c,W,h2⟩:=h.bad hm H hb;exact⟨c,by simp [W],h2⟩
 ·rw [fq]at hm;rw [jw]at hb;have Z:ρ a=x:=Pe.1 ((hc a (.inl rfl)).trans ex.symm);have e2:ρ b=y:=Pe.1 ((hc b (.inr (.inl rfl))).trans V.symm);simp only [thU,kText,Z,e2];rw [h.eq hm H hb ρ (hc.sub λy G=> .inr (.inr G))]
theorem TR.tau {on:Bool}{p:U}{σ:Nat->Nat}{Θ r:Tx}(h:WR on p σ Θ r):TR on (.tau p) σ Θ (126::46::r):=by
 refine⟨by simp,?_,λhm=>?_,λhm G hb=>?_,λhm G hb ρ hc=>?_⟩
 ·have :=h.len;simp only [OF,T.aN];omega
 ·rw [fk]at hm;rw [bs (by decide),bs (by decide),h.cnt hm,p5]
 ·rw [fk]at hm;rw [jy]at hb;obtain⟨c,H,h2⟩:=h.bad hm G hb;exact⟨c,by simp [H],h2⟩
 ·rw [fk]at hm;rw [jy]at hb;simp only [thU,kText];rw [h.eq hm G hb ρ hc]
theorem TR.rep {on:Bool}{p:U}{σ:Nat->Nat}{Θ r:Tx}(h:WR on p σ Θ r):TR on (.rep p) σ Θ (42::r):=by
 refine⟨by simp,?_,λhm=>?_,λhm G hb=>?_,λhm G hb ρ hc=>?_⟩
 ·have :=h.len;simp only [OF,T.aN];omega
 ·rw [e9]at hm;rw [bs (by decide),h.cnt hm,qd]
 ·rw [e9]at hm;rw [ji]at hb;obtain⟨c,H,h2⟩:=h.bad hm G hb;exact⟨c,by simp [H],h2⟩
 ·rw [e9]at hm;rw [ji]at hb;simp only [thU,kText];rw [h.eq hm G hb ρ hc]
theorem TR.mat {on:Bool}{a b:Nat}{p:U}{σ:Nat->Nat}{Θ r:Tx}{x y:UInt8}(G:a≠b)(hd:p.dead=false)(hx:nm x=true)(W:nm y=true)(ex:x.toNat=σ a)(Z:y.toNat=σ b)(h:WR on p σ Θ r):
  TR on (.mat a b p) σ Θ (91::(if y< x then y else x)::61::(if y< x then x else y)::93::r):=by
 have H:¬(if y< x then y else x)=35:=by split<;>exact jL (by assumption)
 have J:¬(if y< x then x else y)=35:=by split<;>exact jL (by assumption)
 refine⟨by simp,?_,λhm=>?_,λhm V hb=>?_,λhm V hb ρ hc=>?_⟩
 ·have :=h.len;simp only [OF,T.aN];omega
 ·rw [dt]at hm;rw [bs (by decide),bs H,bs (by decide),bs J,bs (by decide),h.cnt hm,jt]
 ·rw [dt]at hm;rw [fy]at hb;obtain⟨c,h1,h2⟩:=h.bad hm V hb;exact⟨c,by simp [h1],h2⟩
 ·rw [dt]at hm;rw [fy]at hb;have e1:ρ a=x:=Pe.1 ((hc a (.inr ⟨G,hd,.inl rfl⟩)).trans ex.symm);have e2:ρ b=y:=Pe.1 ((hc b (.inr ⟨G,hd,.inr (.inl rfl)⟩)).trans Z.symm);simp only [thU,kText,e1,e2];rw [h.eq hm V hb ρ (hc.sub λy W=> .inr ⟨G,hd,.inr (.inr W)⟩)]
structure Ag (k:Nat)(Θ:Tx)(c:UInt8):Prop where
 nin:c∉Θ
 okn:okn (k+1) c
 ngr:ngr c
 nm:nm c=true
 bad:(vF (cT Θ)).isNone=true->128<=c
 good:(vF (cT Θ)).isNone=false->c=iV (cT Θ)
theorem GG {c:UInt8}(h:lt c=true):nm c=true/\ngr c/\∀k,okn k c:=by
 refine⟨?_,?_,λk=>oB h⟩
 ·simp only [lt,nm]at*;rw [h];rfl
 ·simp only [lt,OJ,OW]at h;have J:=O6.1 h.1;have h2:=O6.1 h.2;have H:(97:UInt8).toNat=97:=rfl;have G:(122:UInt8).toNat=122:=rfl;right;omega
theorem Ag.of {k:Nat}{Θ:Tx}{c:UInt8}(hk:k+1<=64)(W:∀c∈Θ,Proofs.YtdecokaadekjnaaGreat.okn k c/\Proofs.YtdecokaadekjnaaGreat.ngr c)(h:tL Θ c):Ag k Θ c:=by
 rcases h with h | ⟨h,V,h2,h3,h4⟩
 ·obtain⟨k1,k2,k3⟩:=Bc h;obtain⟨f1,f2,f3⟩:=GG k2;have h':vF (cT Θ)=some c:=h;exact⟨by simpa [cT]using k1,f3 _,f2,f1,λH=>(by rw [h']at H;cases H),λ _=>(by simp [iV,h'])⟩
 ·have h':vF (cT Θ)=none:=h;have b1:=O6.1 V;have b2:=O6.1 h2;have Z:(128:UInt8).toNat=128:=rfl;have α:(191:UInt8).toNat=191:=rfl;have hle:c.toNat<=128+k:=by
   refine PJ λhc=>?_
   have e:(UInt8.ofNat (128+k)).toNat=128+k:=by rw [PT];omega
   have G:=h3 (UInt8.ofNat (128+k)) (O6.2 (by omega)) (PA.2 (by omega));rcases(W _ G).1 with h | h<;>omega
  have J:c∉Θ:=by
   rcases h4 with h4 | h4
   ·exact h4
   ·intro G;have:c.toNat=191:=by rw [h4];rfl
    rcases(W _ G).1 with h | h<;>omega
  refine⟨J,.inl (by omega),.inr (by omega),?_,λ _=>V,λH=>by rw [h']at H;cases H⟩;simp only [Proofs.YtdecokaadekjnaaGreat.nm,Qg,OW];exact .inr V
theorem u7 {Θ G:Tx}{c:UInt8}(h:∀x,x∈G↔x=c\/x∈Θ):cT G=cz (cT Θ) c:=by
 funext d
 unfold cT cz;rw [PM];simp only [OW,Qg,Rb,h];exact or_comm
theorem TR.rcv {on:Bool}{k a n:Nat}{p:U}{σ:Nat->Nat}{Θ G r:Tx}{x c:UInt8}(hx:nm x=true)(ex:x.toNat=σ a)(hc:Ag k Θ c)(V:∀x,x∈G↔x=c\/x∈Θ)(h:WR on p (aI σ n c.toNat) G r):
  TR on (.rcv a n p) σ Θ (x::63::c::46::r):=by
 refine⟨by simp,?_,λhm=>?_,λhm W hb=>?_,λhm W hb ρ H=>?_⟩
 ·have :=h.len;simp only [OF,T.aN];omega
 ·rw [eY]at hm;rw [bs (jL hx),bs (by decide),bs (jL hc.nm),bs (by decide),h.cnt hm,qu]
 ·rw [eY]at hm;rw [jn,Qg]at hb;cases Z:(vF (cT Θ)).isNone with
  | true=>exact⟨c,by simp,hc.bad Z⟩
  | false=>
   rw [Z]at hb;have hb:=hb.resolve_left (by simp);rw [<-hc.good Z,<-u7 V]at hb;obtain⟨c,h1,h2⟩:=h.bad hm W hb;exact⟨c,by simp [h1],h2⟩
 ·rw [eY]at hm;rw [jn,Qd]at hb;have e1:ρ a=x:=Pe.1 ((H a (.inl rfl)).trans ex.symm);have e2:=hc.good hb.1;have J:=hb.2;rw [<-e2,<-u7 V]at J;simp only [thU,kText,e1,<-e2];rw [<-u7 V,<-h.eq hm W J (aI ρ n c) λy hy=>?_];unfold aI;by_cases e:y=n
  ·simp [e]
  ·simp only [O1 e];exact H y (.inr ⟨e,hy⟩)
theorem oH (c:UInt8):∀l:List Tx,l≠[]->(joinS c l).length+3=dz l
 | [],h=>absurd rfl h
 | [s],_=>by simp [joinS,dz]
 | s::t::l,_=>by
  have :=oH c (t::l) (by simp);rw [eX (by simp),dX];simp only [OF,OM,OX];omega
theorem lH {c:UInt8}(hc:¬c=35):∀l:List Tx,(joinS c l).count 35=(l.map (List.count 35)).sum
 | []=>rfl
 | [s]=>by simp [joinS]
 | s::t::l=>by
  have :=lH hc (t::l);rw [eX (by simp),bs (by decide),PF,bs hc,PF,this];simp
theorem qS {c d:UInt8}{s:Tx}:∀{l:List Tx},s∈l->d∈s->d∈joinS c l
 | [],h,_=>by cases h
 | [t],h,hd=>by
  have:s=t:=by simpa using h
  subst this;exact hd
 | t::u::l,h,hd=>by
  rw [eX (by simp)];rcases O4.1 h with rfl | h
  ·simp [hd]
  ·have :=qS (c:=c) h hd;simp [this]
theorem BK {c:UInt8}{l:List Tx}(h:∀s∈l,s≠[])(G:l≠[]):joinS c l≠[]:=by
 match l,G with
 | [s],_=>exact h s (by simp)
 | s::t::l,_=>rw [eX (by simp)];simp
theorem WR.env {on:Bool}{u:U}{σ τ:Nat->Nat}{Θ r:Tx}(h:WR on u σ Θ r)(he:∀y,u.Us y->σ y=τ y):WR on u τ Θ r:=
 ⟨h.ne,h.len,h.cnt,h.bad,λa b c ρ hc=>h.eq a b c ρ λy G=>(hc y G).trans (he y G).symm⟩
theorem aP.dz {on:Bool}{σ:Nat->Nat}{Θ:Tx}:∀{rs:List Tx} {us:List U},aP (λr u=>WR on u σ Θ r) rs us->Proofs.YtdecokaadekjnaaGreat.dz rs<=kD us
 | [],[],_=>by simp [Proofs.YtdecokaadekjnaaGreat.dz,kD]
 | [],_::_,h=>by have :=h.1;simp at this
 | _::_,[],h=>by have :=h.1;simp at this
 | r::rs,u::us,h=>by
  have H:=(h.2 0 r u rfl rfl).len;have G:=aP.dz (rs:=rs) (us:=us) (on:=on) (σ:=σ) (Θ:=Θ) ⟨by have :=h.1;simpa using this,λi a b ha hb=>h.2 (i+1) a b (by simpa using ha) (by simpa using hb)⟩;rw [dX];simp only [kD,Pk,P0,OF]at G|-;omega
theorem aP.map_eq {A B C:Type}{f:A->C}{g:B->C}:∀{l:List A} {m:List B},aP (λa b=>f a=g b) l m->l.map f=m.map g
 | [],[],_=>rfl
 | [],_::_,h=>by have :=h.1;simp at this
 | _::_,[],h=>by have :=h.1;simp at this
 | a::l,b::m,h=>by
  have G:=h.2 0 a b rfl rfl;have H:=aP.map_eq (l:=l) (m:=m) (f:=f) (g:=g) ⟨by have :=h.1;simpa using this,λi a b ha hb=>h.2 (i+1) a b (by simpa using ha) (by simpa using hb)⟩;rw [Pk,Pk,H,G]
theorem aP.get {A B:Type}{R:A->B->Prop}{l:List A}{m:List B}(h:aP R l m){b:B}(hb:b∈m):∃a∈l,R a b:=by
 obtain⟨i,hi,e⟩:=PD.1 hb;have G:i< l.length:=by rw [h.1];exact hi
 exact⟨l[i],OP _,h.2 i l[i] b (OH G) (by rw [OH hi,e])⟩
theorem aP.get' {A B:Type}{R:A->B->Prop}{l:List A}{m:List B}(h:aP R l m){a:A}(ha:a∈l):∃b∈m,R a b:=by
 obtain⟨i,hi,e⟩:=PD.1 ha;have G:i< m.length:=by rw [<-h.1];exact hi
 exact⟨m[i],OP _,h.2 i a m[i] (by rw [OH hi,e]) (OH G)⟩
theorem TR.sum {on:Bool}{p q:U}{σ:Nat->Nat}{Θ:Tx}{rs:List Tx}(hu:Uq (.sum p q))(Z:aw (T.sum p q)≠[])(h:aP (λr u=>WR on u σ Θ r) rs (aw (T.sum p q))):TR on (.sum p q) σ Θ (joinS 43 (a6 rs)):=by
 have J:tl [T.sum p q]= .sum (tp (aw (T.sum p q))) .nil:=rfl;have α:rs≠[]:=λe=>Z (Pg (by rw [<-h.1,e];rfl))
 have V:=aR rs;have W:a6 rs≠[]:=λe=>α (by rw [e]at V;exact V.symm.eq_nil)
 have G:ax (tl [T.sum p q])<=5->∀u∈aw (T.sum p q),bn u<=5:=λhm=>by
  rw [J,ax]at hm;exact(xz _ _).1 (by omega)
 refine⟨BK (λs hs=>?_) W,?_,λhm=>?_,λhm ho hb=>?_,λhm ho hb ρ hc=>?_⟩
 ·obtain⟨u,_,hw⟩:=h.get' (V.subset hs);exact hw.ne
 ·have h1:=oH 43 _ W;have h2:=mJ V;have h3:=h.dz;have h4:=dZ (T.sum p q);omega
 ·rw [lH (by decide),jr (V.map _),J,thAll,GI];show _=_+0;rw [Ro]
  congr 1
  refine aP.map_eq (h.mono λr u _ hu hw=>hw.cnt (G hm u hu))
 ·rw [J,thBad,zm]at hb;simp only [thBad,Q8,QP]at hb;obtain⟨u,H,β⟩:=hb;obtain⟨r,hr,hw⟩:=h.get H;obtain⟨c,h1,h2⟩:=hw.bad (G hm u H) ho β;exact⟨c,qS (V.symm.subset hr) h1,h2⟩
 ·rw [J,thBad,zm]at hb;simp only [thBad,Q8]at hb;have hb:∀u∈aw (T.sum p q),dD u (cT Θ)=false:=by simpa [List.any_eq_false]using hb
  have e:rs=(aw (T.sum p q)).map λu=>LS u ρ (cT Θ):=by
   have :=aP.map_eq (f:=λr:Tx=>r) (g:=λu=>LS u ρ (cT Θ)) (h.mono λr u _ H hw=>hw.eq (G hm u H) ho (hb u H) ρ (hc.sub λy hy=>(mT _ hu y).2 ⟨u,H,hy⟩));simpa using this
  rw [e];rfl
theorem WR.le {on:Bool}{u:U}{k:Nat}{p:P}{σ τ:Nat->Nat}{Θ r:Tx}(h:WR on u τ Θ r)(d:Den k p σ u):r.length<=p.text.length:=by
 have G:=h.len;have h2:=o7 d.ae;rw [T.aX];omega
structure vH (w0 w:World)(bm:Nat)(br on:Bool)(c:UInt8)(o:Option Nat):Prop where
 kp:Kp w0 w (λg=>g=bm)
 mm:MK w bm br on
 bx:∀b,o=some b->b≠bm/\b< w.heap.size/\w.cell? ⟨b,0,none⟩=some (.int .u8 c.toNat)
theorem vH.step {w0 w w':World}{bm:Nat}{br G on:Bool}{c:UInt8}{o:Option Nat}(h:vH w0 w bm br on c o)(H:Kp w w' (λg=>g=bm))(hm:MK w' bm G on):vH w0 w' bm G on c o:=
 ⟨Kp.trans h.kp H λ _ _ h=>h,hm,λb hb=>by
  obtain⟨J,h2,V⟩:=h.bx b hb;refine⟨J,O' h2 H.size,?_⟩;rw [OG (w:=w) (H.block b h2 J)];exact V⟩
theorem vH.ex {w0 w w':World}{bm:Nat}{br on:Bool}{c:UInt8}{o:Option Nat}(h:vH w0 w bm br on c o)(G:Ex w w'):vH w0 w' bm br on c o:=
 h.step (Kp.af G _) (h.mm.ex G)
theorem vH.box {w0 w w':World}{bm b:Nat}{br on:Bool}{c:UInt8}(h:vH w0 w bm br on c none)(hb:b=w.heap.size)(hw:w'=w.alloc (.cells #[.int .u8 c.toNat] 5)):vH w0 w' bm br on c (some b):=by
 have G:Ex w w':=hw▸Ex.alloc w _;have :=h.mm.lt;refine⟨(h.ex G).kp,(h.ex G).mm,λH e=>?_⟩;cases e;subst hb hw;exact⟨by omega,by rw [size_alloc];omega,aa rfl⟩
theorem vH.conv {w0 w:World}{bm b:Nat}{br on:Bool}{c:UInt8}(h:vH w0 w bm br on c (some b)):∀(j:Nat) (x:UInt8),[c][j]?=some x->w.cell? ⟨b,0+j,none⟩=some (.int .u8 x.toNat):=by
 intro j x G
 match j,G with
 | 0,G=>simp at G;subst G;exact(h.bx b rfl).2.2
theorem Own.kp {B:Nat}{w w':World}{v:Value}{l:List Tx}{S:Nat->Prop}(h:Own B w v l)(k:Kp w w' S)(H:∀g,v.ownBlock=some g->¬S g):Own B w' v l:=by
 refine⟨h.1,?_⟩;rcases h.2 with J | ⟨g,cap,cur,rfl,hb,G,rest⟩
 ·exact .inl J
 ·exact .inr ⟨g,cap,cur,rfl,hb,by rw [k.block g (Ps.1 G).1 (H g rfl)];exact G,rest⟩
theorem MK.same {w w':World}{bm:Nat}{br on:Bool}(h:MK w bm br on)(G:w.heap.size<=w'.heap.size)(hb:w'.heap[bm]?=w.heap[bm]?):MK w' bm br on:=
 ⟨O' h.lt G,by rw [OG (w:=w) hb];exact h.c0,by rw [OG (w:=w) hb];exact h.c1,by rw [Pd (w:=w) hb];exact h.f0⟩
theorem MK.below {w w':World}{bm B:Nat}{br on:Bool}(h:MK w bm br on)(k:Below B w w')(hb:bm< B):MK w' bm br on:=h.same k.size (k.block bm hb)
theorem Own.below {B C:Nat}{w w':World}{v:Value}{l:List Tx}(h:Own B w v l)(k:Below C w w')(G:∀g,v.ownBlock=some g->g< C):Own B w' v l:=by
 refine⟨h.1,?_⟩;rcases h.2 with H | ⟨g,cap,cur,rfl,hb,J,rest⟩
 ·exact .inl H
 ·exact .inr ⟨g,cap,cur,rfl,hb,by rw [k.block g (G g rfl)];exact J,rest⟩
theorem Kp.Nk {w w':World}{B:Nat}(h:Below B w w')(hB:w.heap.size<=B)(S:Nat->Prop):Kp w w' S:=⟨h.os,h.tape,h.output,h.size,λg G _=>h.block g (by omega)⟩
theorem Kp.GW {w w1 w':World}{B:Nat}{S:Nat->Prop}(h:Kp w w1 S)(k:Below B w1 w')(hB:w.heap.size<=B):Kp w w' S:=
 ⟨k.os.trans h.os,k.tape.trans h.tape,k.output.trans h.output,PN h.size k.size,λg G H=>(k.block g (by omega)).trans (h.block g G H)⟩
theorem aP.snoc {A B:Type}{R:A->B->Prop}{l:List A}{m:List B}{a:A}{b:B}(h:aP R l m)(k:R a b):aP R (l++[a]) (m++[b]):=h.append (aP.one k)
theorem Gy {n:Nat}(β:IH n):zI (n+1):=by
 intro k p σ t Θ w bm br on R hn d hth hpl hlv γ G W h;refine kX _ _ _ w R ?_;dsimp only [go_sem];dsimp only [go_sem,UInt8.reduceOfNat,UInt32.reduceOfNat,Nat.reduceAdd];refine aO d.ok ?_;have hw:=d.wf;have hl:=d.len;have α:=d.ae;cases p<;>cases t<;>(try exact α.elim)<;>(try (cases hth;done))
 case snd.snd a b p a' b' u=>
  simp only [T.kind]
  repeat' first | refine aW (by decide) ?_ | refine dc (by decide) ?_ | refine cF (by decide) ?_ | refine dQ (by decide) ?_
  simp only [T.wf,OJ]at hw;simp only [T.size]at hn;simp only [T.text,OF]at hl;have ι:(T.snd a b p).text.length=p.text.length+4:=by simp [T.text]
  refine⟨λ _=>True,λw1 Z=>⟨trivial,cW d.ok ⟨trivial,⟨by simp only [T.hd];omega,by simp only [T.hd];omega⟩,cW d.ok ⟨trivial,⟨by simp only [T.hd];omega,by simp only [T.hd];omega⟩,?_⟩⟩⟩⟩;have e1:List.drop (Int.toNat ((T.snd a b p).hd:Int)) (T.snd a b p).text=p.text:=rfl;have e2:List.take (Int.toNat ((T.snd a b p).hd:Int)) (T.snd a b p).text=[a,33,b,46]:=rfl;rw [e1,e2];have hx:Ex w w1:=Z▸Ex.drew w;refine β (by omega) d.snd (λz hz=>γ z (.inr (.inr hz))) (G.sub (OQ _) λy hy=> .inr (.inr hy)) (W.ex hx) λr w2 J V hr=>?_
  have κ:=hr.le d.snd;refine⟨trivial,by simp only [OF,OX];omega,h _ w2 (Kp.trans (Kp.af hx _) J λ _ _ h=>h) (by rw [fq];exact V) (TR.snd hw.1.1 hw.1.2 α.1 α.2.1 hr)⟩
 case tau.tau p u=>
  simp only [T.kind]
  repeat' first | refine aW (by decide) ?_ | refine dc (by decide) ?_ | refine cF (by decide) ?_ | refine dQ (by decide) ?_
  simp only [T.size]at hn;simp only [T.text,OF]at hl;have ι:(T.tau p).text.length=p.text.length+2:=by simp [T.text]
  refine⟨λ _=>True,λw1 Z=>⟨trivial,cW d.ok ⟨trivial,⟨by simp only [T.hd];omega,by simp only [T.hd];omega⟩,cW d.ok ⟨trivial,⟨by simp only [T.hd];omega,by simp only [T.hd];omega⟩,?_⟩⟩⟩⟩;have e1:List.drop (Int.toNat ((T.tau p).hd:Int)) (T.tau p).text=p.text:=rfl;have e2:List.take (Int.toNat ((T.tau p).hd:Int)) (T.tau p).text=[126,46]:=rfl;rw [e1,e2];have hx:Ex w w1:=Z▸Ex.drew w;refine β (by omega) d.tau (λz hz=>γ z hz) (G.sub (OQ _) λy hy=>hy) (W.ex hx) λr w2 J V hr=>?_
  have κ:=hr.le d.tau;refine⟨trivial,by simp only [OF,OX];omega,h _ w2 (Kp.trans (Kp.af hx _) J λ _ _ h=>h) (by rw [fk];exact V) (TR.tau hr)⟩
 case rep.rep p u=>
  simp only [T.kind]
  repeat' first | refine aW (by decide) ?_ | refine dc (by decide) ?_ | refine cF (by decide) ?_ | refine dQ (by decide) ?_
  simp only [T.size]at hn;simp only [T.text,OF]at hl;have ι:(T.rep p).text.length=p.text.length+1:=by simp [T.text]
  refine⟨⟨by omega,by omega⟩,?_⟩;have e1:List.drop (Int.toNat 1) (T.rep p).text=p.text:=rfl;rw [e1];refine β (by omega) d.rep (λz hz=>γ z hz) (G.sub (OQ _) λy hy=>hy) W λr w2 J V hr=>?_
  have κ:=hr.le d.rep;refine⟨by simp only [OF,OX];omega,h _ w2 J (by rw [e9];exact V) (TR.rep hr)⟩
 case mat.mat a b p a' b' u=>
  simp only [T.kind]
  repeat' first | refine aW (by decide) ?_ | refine dc (by decide) ?_ | refine cF (by decide) ?_ | refine dQ (by decide) ?_
  simp only [T.wf,OJ]at hw;simp only [T.size]at hn;simp only [T.text,OF]at hl;have ι:(T.mat a b p).text.length=p.text.length+5:=by simp [T.text]
  have hab:a'≠b':=hpl;have ω:u.dead=false:=hlv;have hpd:p.dead=false:=by rw [α.2.2.dead];exact ω
  have e1:List.drop (Int.toNat 5) (T.mat a b p).text=p.text:=rfl;have e2:List.drop (Int.toNat 3) (List.take (Int.toNat 4) (T.mat a b p).text)=[b]:=rfl;have e3:List.drop (Int.toNat 1) (List.take (Int.toNat 2) (T.mat a b p).text)=[a]:=rfl;have eb:Op.bytesLess [b] [a]=decide (b< a):=by
   rw [Se,PM,OW,OW,List.cons_lt_cons_iff];simp
  rw [e1,e2,e3,eb];refine⟨λ _=>True,λw1 Z=>⟨trivial,⟨by omega,by omega,by omega⟩,⟨by omega,by omega,by omega⟩,?_⟩⟩;have hx:Ex w w1:=Z▸Ex.drew w;have sub:∀y,u.Us y->(T.mat a' b' u).Us y:=λy hy=> .inr ⟨hab,ω,.inr (.inr hy)⟩
  have dm:=d.mat hpd;have key:∀{K:aB->Sl},(∀r w2,r.length<=1099511627776->Kp w w2 (λg=>g=bm)->MK w2 bm (br||decide (5< ax (tl [T.mat a' b' u]))) on->TR on (.mat a' b' u) σ Θ (91::(if b< a then b else a)::61::(if b< a then a else b)::93::r)->K r w2)->
    Sm 224 #[.pointer (some ⟨bm,0,none⟩),.string (ai p.text),.string (ai Θ)] w1 (an [.s] K):=λhk=>by
   refine β (by omega) dm (λz hz=>γ z (.inr (.inr hz))) (G.sub (OQ _) sub) (W.ex hx) λr w2 J V hr=>?_
   have κ:=hr.le dm;exact hk r w2 (by omega) (Kp.trans (Kp.af hx _) J λ _ _ h=>h) (by rw [dt];exact V) (TR.mat hab ω hw.1.1 hw.1.2 α.1 α.2.1 hr)
  refine⟨λhc=>?_,λhc=>?_⟩
  ·have hc:=O7 hc;refine⟨by simp,by simp,by simp,by simp,⟨by omega,by omega⟩,key λr w2 H h2 h3 h4=>⟨by simp only [OM,OF,OX];omega,?_⟩⟩;simp only [Pj hc]at h4;exact h _ w2 h2 h3 h4
  ·have hc:=O9 hc;refine⟨by simp,by simp,by simp,by simp,⟨by omega,by omega⟩,key λr w2 H h2 h3 h4=>⟨by simp only [OM,OF,OX];omega,?_⟩⟩;simp only [O1 hc]at h4;exact h _ w2 h2 h3 h4
 case sum.sum p q u v=>
  simp only [T.kind]
  repeat' first | refine aW (by decide) ?_ | refine dc (by decide) ?_ | refine cF (by decide) ?_ | refine dQ (by decide) ?_
  have hpu:u.dead=false/\v.dead=false:=hpl;have μ:aw (T.sum u v)≠[]:=pe (by simp [T.dead,hpu.1]) d.uq;refine yY _ (OQ _) d λvs w2 ps ν ε hps hgs=>?_
  have hsz:(aw (T.sum u v)).length<=(T.sum p q).size:=by rw [d.ae.size];exact dA _
  have hszt:=bE (T.sum p q);have hl':(T.sum p q).text.length<=1099511627776:=hl;have υ:(ps.map T.text).length=(aw (T.sum u v)).length:=by rw [O8,hps.1]
  have hbm:bm< w2.heap.size:=O' W.lt ν.size;have hvb:∀g,vs.ownBlock=some g->g< w2.heap.size:=λg hg=>(ε.block g hg).2
  have hvn:∀g,vs.ownBlock=some g->¬g=bm:=λg hg e=>by
   have :=(ε.block g hg).1;have :=W.lt;omega
  obtain⟨av,cap,hv⟩:=ε.strs.slice;have hlen:=ε.1;refine⟨av,_,cap,hv,λlist x w'=>∃(i:Nat) (rs:List Tx),x=i/\i<=(aw (T.sum u v)).length/\Kp w w' (λg=>g=bm)/\MK w' bm (br||((aw (T.sum u v)).take i).any λu=>decide (5< bn u)) on/\
   w2.heap.size<=w'.heap.size/\Own w2.heap.size w' list rs/\Own w.heap.size w' vs (ps.map T.text)/\aP (λr u=>WR on u σ Θ r) rs ((aw (T.sum u v)).take i),λ _ x _=>((aw (T.sum u v)).length - x).toNat,?_,λlist x w3 hI=>?_⟩
  ·exact⟨0,[],rfl,by omega,Kp.af ν _,by simpa using W.ex ν,OQ _,Own.nil _ _,ε,aP.nil⟩
  obtain⟨i,rs,rfl,hi,hk3,hm3,hs3,ho3,hv3,δ⟩:=hI;refine⟨λhc=>?_,λhc=>?_⟩
  ·have hc:=O7 hc;rw [υ]at hc;have ξ:i< (aw (T.sum u v)).length:=by omega
   have hip:i< ps.length:=by rw [hps.1];exact ξ
   refine hv3.strs.get (Ex.refl w3) (i:=i) (x:=(ps[i]).text) (by omega) (by simp [hip]) ?_;obtain⟨m,τ,hkm,dp,hτ⟩:=hps.2 i _ _ (OH hip) (OH ξ);have φ:(aw (T.sum u v))[i]∈aw (T.sum u v):=OP _;have hus:∀y,((aw (T.sum u v))[i]).Us y->(T.sum u v).Us y:=λy hy=>(mT _ d.uq y).2 ⟨_,φ,hy⟩
   have χ:∀y,((aw (T.sum u v))[i]).Us y->τ y=σ y:=λy hy=>hτ y (d.uq.DF (hus y hy))
   have hszi:ps[i].size<=n:=by
    rw [dp.ae.size];have H:((aw (T.sum u v))[i]).size<=u.size+v.size:=by
     have hmem':(aw (T.sum u v))[i]∈aw u++aw v:=φ;rcases OS.1 hmem' with h | h
     ·have :=mE u _ h;omega
     ·have :=mE v _ h;omega
    have h2:(T.sum p q).size=(T.sum u v).size:=d.ae.size;simp only [T.size]at hn h2;omega
   have hgfp:GF 0 ps[i]:=hgs _ (OP _) 0 γ;refine β hszi dp hgfp ⟨G.srt,λc hc=>⟨(G.okn c hc).1.mono hkm,(G.okn c hc).2⟩,λy hy=>by rw [χ y hy];exact G.cov y (hus y hy)⟩ hm3 λr w4 ο hm4 hr=>?_
   intro b5 w5 hb5 hw5;have ζ:Ex w4 w5:=hw5▸Ex.alloc w4 _;have ho4:Own w2.heap.size w5 list rs:=(ho3.kp ο λg hg e=>by have :=(ho3.block g hg).1;omega).ex ζ;have hsz4:=ο.size;have hsz5:=ζ.size;have ψ:rs.length=i:=by rw [δ.1,Pt];omega
   refine Own.push ho4 (by omega) (Strs.one hb5 hw5) (by simp only [OF,OX];omega) λv6 w6 ς ho6 _ _=>?_
   refine⟨by omega,⟨i+1,rs++[r],by omega,by omega,?_,?_,?_,ho6,?_,?_⟩,by dsimp only;omega⟩
   ·exact Kp.GW (Kp.trans (Kp.trans hk3 ο λ _ _ h=>h) (Kp.af ζ _) λ _ _ h=>h) ς ν.size
   ·have hm5:=(hm4.ex ζ).below ς hbm;rw [OK ξ,List.any_append,<-Ql];simpa using hm5
   ·have :=ς.size;omega
   ·exact((hv3.kp ο hvn).ex ζ).below ς hvb
   ·rw [OK ξ];exact δ.snoc (hr.env χ)
  ·have hc:=O9 hc;rw [υ]at hc;have e:i=(aw (T.sum u v)).length:=by omega
   subst e;rw [Pa]at hm3 δ;have hll:=δ.dz;have ht2:=dZ (T.sum u v);have htl:=o7 d.ae;have hle:dz rs<=1099511627776+3:=by rw [T.aX]at hl';omega
   have ψ:rs.length=(aw (T.sum u v)).length:=δ.1;have hrs:rs≠[]:=λe=>μ (Pg (by rw [<-ψ,e];rfl))
   refine nW ho3.strs (by omega) λv4 w4 hx4 ho4=>?_
   have hsn:a6 rs≠[]:=λe=>hrs (by have :=aR rs;rw [e]at this;exact this.symm.eq_nil)
   refine tz ho4.strs hsn (by rw [mJ (aR rs)];omega) ?_;refine h _ w4 (Kp.trans hk3 (Kp.af hx4 _) λ _ _ h=>h) ?_ (TR.sum d.uq μ δ);have e2:(aw (T.sum u v)).any (λu=>decide (5< bn u))=decide (5< ax (tl [T.sum u v])):=by
    rw [PM,QP,OW];have etl:tl [T.sum u v]= .sum (tp (aw (T.sum u v))) .nil:=rfl;have hmx:ax (.sum (tp (aw (T.sum u v))) .nil)=ax (tp (aw (T.sum u v))):=by simp [ax]
    rw [etl,hmx,<-Nat.not_le,xz];constructor
    ·rintro⟨x,H,h2⟩ h3
     have :=h3 x H;have :=O7 h2;omega
    ·intro H;refine PJ λh2=>H λx hx=>?_
     rcases Qn 5 (bn x)with h3 | h3
     ·exact absurd ⟨x,hx,PL h3⟩ h2
     ·exact h3
   rw [<-e2];exact hm3.ex hx4
 case rcv.rcv a x p a' x' u=>
  simp only [T.kind]
  repeat' first | refine aW (by decide) ?_ | refine dc (by decide) ?_ | refine cF (by decide) ?_ | refine dQ (by decide) ?_
  simp only [T.wf,OJ]at hw;simp only [T.size]at hn;simp only [T.text,OF]at hl;have ι:(T.rcv a x p).text.length=p.text.length+4:=by simp [T.text]
  have hΘ:=G.srt.bound;refine jB (by omega) λc hc0=>?_
  have hbd:=d.bd.le;simp only [T.rd,T.ow]at hbd;have hc:Ag k Θ c:=Ag.of (by omega) G.okn hc0;have okp:=d.ok.parts p (by simp [T.parts]);have hbdp:=T.Ao p;have e1:List.drop (Int.toNat 4) (T.rcv a x p).text=p.text:=rfl;have e2:bt (T.rcv a x p).text (Int.toNat 2)=x:=rfl;have e3:List.take (Int.toNat 2) (T.rcv a x p).text=[a,63]:=rfl;rw [e1,e2,e3];refine⟨λ _=>True,λw1 Z=>⟨trivial,⟨by omega,by omega⟩,⟨by omega,by omega⟩,⟨by omega,by omega⟩,?_⟩⟩;have hst:vH w w1 bm br on c none:=⟨Kp.af (Z▸Ex.drew w) _,W.ex (Z▸Ex.drew w),λb hb=>by cases hb⟩
  have renL:∀{o:Option Nat} {wx:World} {K:aB->Sl},vH w wx bm br on c o->(∀q wy,vH w wy bm br on c o->iQ (k+1) p x c q->K q.text wy)->Sm 153 #[.string (ai p.text),.int .u8 x.toNat,.int .u8 c.toNat] wx (an [.s] K):=λhs hK=>
   ig _ (OQ _) okp d.bd.eb.2.2 (by omega) hc.nm hc.okn λq wy hx hq=>hK q wy (hs.ex hx) hq
  have addL:∀{o:Option Nat} {wx:World} {K:aB->Sl},vH w wx bm br on c o->(∀s wy,vH w wy bm br on c o->(jb s/\∀x,x∈s↔x=c\/x∈Θ)->K s wy)->Sm 121 #[.string (ai Θ),.int .u8 c.toNat] wx (an [.s] K):=λhs hK=>
   fD G.srt λs' wy hx H h2=>hK s' wy (hs.ex hx) ⟨H,h2⟩
  have whoL:∀{o:Option Nat} {wx:World} {K:aB->Sl} {q:P} {s:Tx},vH w wx bm br on c o->iQ (k+1) p x c q->(jb s/\∀x,x∈s↔x=c\/x∈Θ)->
    (∀r wy,vH w wy bm (br||decide (5< ax (tl [T.rcv a' x' u]))) on c o->(TR on (.rcv a' x' u) σ Θ (a::63::c::46::r)/\r.length<=1099511627776)->K r wy)->Sm 224 #[.pointer (some ⟨bm,0,none⟩),.string (ai q.text),.string (ai s)] wx (an [.s] K):=λ{o wx K q s} hs hq η hK=>by
   have dr:=d.rcv hq λz hz μ e=>by
    obtain⟨c',H,h2⟩:=G.cov z (.inr ⟨μ,hz⟩);have:c'=c:=Pe.1 (h2.trans e);exact hc.nin (this▸H)
   have hsz:=T.pG hq.shp;refine β (by omega) dr (λz hz hg=>?_) ⟨η.1,λc' hc'=>?_,λy hy=>?_⟩ hs.mm λr wy J V hr=>?_
   ·rcases hq.ok.free z hz with H | H | H
    ·exact absurd hg (eM (H▸hc.ngr))
    ·exact γ z (.inr ⟨H.1,H.2⟩) hg
    ·exact absurd hg (eM (H.1▸d.bd.eb.2.1.1))
   ·rcases(η.2 c').1 hc' with H | H
    ·rw [H];exact⟨hc.okn,hc.ngr⟩
    ·exact⟨(G.okn c' H).1.mono (by omega),(G.okn c' H).2⟩
   ·by_cases e:y=x'
    ·subst e;exact⟨c,(η.2 c).2 (.inl rfl),by rw [dg]⟩
    ·obtain⟨c',H,h2⟩:=G.cov y (.inr ⟨e,hy⟩);exact⟨c',(η.2 c').2 (.inr H),by rw [bQ _ _ e];exact h2⟩
   ·have κ:=hr.le dr;have hlq:q.text.length=p.text.length:=by rw [T.aX,T.je hq.shp,<-T.aX]
    refine hK r wy (hs.step J (by rw [eY];exact V)) ⟨TR.rcv hw.1.1 α.1 hc η.2 hr,by omega⟩
  have fin:∀{o:Option Nat} {wx:World} {r:Tx},vH w wx bm (br||decide (5< ax (tl [T.rcv a' x' u]))) on c o->(TR on (.rcv a' x' u) σ Θ (a::63::c::46::r)/\r.length<=1099511627776)->R (((([a,63]++[c])++[46])++r)) wx:=λhs hr=>h _ _ hs.kp hs.mm hr.1
  have bnd:∀{r:Tx},(TR on (.rcv a' x' u) σ Θ (a::63::c::46::r)/\r.length<=1099511627776)->List.length (([a,63]++[c])++[46])+List.length r<=4611686018427387904:=λhr=>by
   have :=hr.2;simp only [OM,OF,OX];omega
  repeat' first
   | (refine renL (by assumption) ?_;intro q wy θ hq;refine⟨trivial,?_⟩)
   | (refine addL (by assumption) ?_;intro s wy θ hs;refine⟨trivial,?_⟩)
   | (refine whoL (by assumption) (by assumption) (by assumption) ?_;intro r wy θ hr;refine⟨trivial,?_⟩)
   | exact fin (by assumption) (by assumption)
   | exact bnd (by assumption)
   | (refine⟨_,0,1,1,[c],rfl,rfl,vH.conv (by assumption),trivial,by simp,by simp,?_⟩)
   | (refine⟨?_,?_⟩)
   | (intro b w2 hb hw2;have θ:=vH.box (by assumption) hb hw2;refine⟨trivial,?_⟩)
theorem ka {α β:Type}{g:α->β}:∀{l:List α} {m:List β},m.Perm (l.map g)->∃π:List α,π.Perm l/\m=π.map g
 | [],m,h=>⟨[],PW _,by simpa using h⟩
 | a::l,m,h=>by
  have hm:g a∈m:=h.symm.subset (by simp);obtain⟨s,t,rfl⟩:=List.append_of_mem hm;have h2:(s++t).Perm (l.map g):=(Sd (g a)).1 (Rw.symm.trans (by simpa using h));obtain⟨π,G,h4⟩:=ka h2;obtain⟨x,y,rfl,h5,H⟩:=List.append_eq_map_iff.1 h4;refine⟨x++a::y,Rw.trans (List.Perm.cons a G),?_⟩;simp [h5,H]
def rnv:List UInt8->List UInt8->Nat->Nat
 | o::os,l::ls,n=>rnv os ls (if n=o.toNat then l.toNat else n)
 | _,_,n=>n
theorem zV:∀(os ls:List UInt8) (o l:UInt8) (n:Nat),os.length=ls.length->rnv (os++[o]) (ls++[l]) n=if rnv os ls n=o.toNat then l.toNat else rnv os ls n
 | [],[],o,l,n,_=>rfl
 | [],_::_,_,_,_,h=>by cases h
 | _::_,[],_,_,_,h=>by cases h
 | a::os,b::ls,o,l,n,h=>by
  simp only [PI,rnv];exact zV os ls o l _ (by simpa using h)
theorem xU:∀(os ls:List UInt8) (n:Nat),(∀o∈os,n≠o.toNat)->rnv os ls n=n
 | [],_,_,_=>by simp [rnv]
 | _::_,[],_,_=>by simp [rnv]
 | a::os,b::ls,n,h=>by
  rw [rnv,O1 (h a (by simp))];exact xU os ls n λo G=>h o (OZ _ G)
theorem D7:∀(π:List Nat) (os ls:List UInt8) (g:Nat->Nat) (ρ:Rh) (y:Nat),os.map UInt8.toNat=π.map g->π.length=ls.length->(∀l∈ls,l∉os)->y∈π->(∀z∈π,g z=g y->z=y)->os.Nodup->
  rnv os ls (g y)=(asg π ls ρ y).toNat
 | [],_,_,_,_,_,_,_,_,h,_,_=>by cases h
 | z::π,[],_,_,_,_,h,_,_,_,_,_=>by simp at h
 | _::_,_::_,[],_,_,_,_,h,_,_,_,_=>by cases h
 | z::π,o::os,l::ls,g,ρ,y,h,hl,hd,hy,hi,G=>by
  simp only [Pk,PC]at h;have G:=PO.1 G;have H:∀J∈os,l.toNat≠J.toNat:=λJ ho e=>hd l (by simp) (by rw [Pe.1 e];exact OZ _ ho)
  rw [rnv,asg];by_cases e:y=z
  ·subst e;rw [Pj h.1.symm,xU os ls _ H];by_cases hyp:y∈π
   ·exfalso;have:g y∈π.map g:=Qo hyp;rw [<-h.2,<-h.1]at this;obtain⟨J,h1,h2⟩:=Pw.1 this;exact G.1 (Pe.1 h2▸h1)
   ·rw [bV π ls _ y hyp];simp [aI]
  ·have hyp:y∈π:=(O4.1 hy).resolve_left e;have V:¬g y=o.toNat:=λh'=>e ((hi z (by simp) (h.1.symm.trans h'.symm)).symm)
   rw [O1 V];exact D7 π os ls g _ y h.2 (by simpa using hl) (λl' W Z=>hd l' (OZ _ W) (OZ _ Z)) hyp (λx hx=>hi x (OZ _ hx)) G.2
structure Ir (k m:Nat)(Θ ls A:Tx):Prop where
 len:ls.length=m
 nd:ls.Nodup
 ok:∀c∈ls,c∉Θ/\okn (k+m) c/\ngr c/\nm c=true
 srt:jb A
 mem:∀c,c∈A↔c∈Θ\/c∈ls
theorem TR.env {on:Bool}{u:U}{σ τ:Nat->Nat}{Θ r:Tx}(h:TR on u σ Θ r)(he:∀y,u.Us y->σ y=τ y):TR on u τ Θ r:=
 ⟨h.ne,h.len,h.cnt,h.bad,λa b c ρ hc=>h.eq a b c ρ λy G=>(hc y G).trans (he y G).symm⟩
theorem TR.le {on:Bool}{u:U}{k:Nat}{p:P}{σ τ:Nat->Nat}{Θ r:Tx}(h:TR on u τ Θ r)(d:Den k p σ u):r.length<=p.text.length:=by
 have G:=h.len;have h2:=o7 d.ae;rw [T.aX];omega
structure Ny (M:Nat)(p:P)(t:U)(τ:Nat->Nat)(Θ o ls:Tx)(i:Nat)(q:P):Prop where
 den:Den M q (λy=>rnv (o.take i) (ls.take i) (τ y)) t
 shp:q.shp=p.shp
 gf:∀z,q.Fr z->KY z->z∈o.drop i
 cov:∀y,t.Us y->∃c:UInt8,c.toNat=rnv (o.take i) (ls.take i) (τ y)/\(c∈Θ\/c∈ls.take i\/c∈o.drop i)
theorem sW {l:Tx}{i:Nat}(h:i< l.length):l.drop i=bt l i::l.drop (i+1):=bJ h
theorem iH {l:Tx}{i:Nat}(h:i< l.length):l.take (i+1)=l.take i++[bt l i]:=by
 rw [OK h];simp [bt,h]
theorem Ny.step {M k m:Nat}{p q q':P}{t:U}{τ:Nat->Nat}{Θ o ls A:Tx}{i:Nat}(h:Ny M p t τ Θ o ls i q)(η:∀c∈Θ,ngr c)(α:Ir k m Θ ls A)(ho:o.length=m)(β:∀c∈o,KY c)(hi:i< m)
  (hr:iQ M q (bt o i) (bt ls i) q'):Ny M p t τ Θ o ls (i+1) q':=by
 have Z:i< o.length:=by omega
 have W:i< ls.length:=by rw [α.len];exact hi
 have hlen:(o.take i).length=(ls.take i).length:=by rw [Pt,Pt];omega
 have e:∀y,rnv (o.take (i+1)) (ls.take (i+1)) (τ y)=if rnv (o.take i) (ls.take i) (τ y)=(bt o i).toNat then(bt ls i).toNat else rnv (o.take i) (ls.take i) (τ y):=λy=>by
  rw [iH Z,iH W,zV _ _ _ _ _ hlen]
 have G:=α.ok _ (lV W);have ε:bt ls i∉ls.take i:=λhm=>by
  have γ:=α.nd;rw [<-P4 i ls,sW W]at γ;exact(Pp.1 γ).2.2 _ hm _ (by simp) rfl
 have ζ:bt ls i∉o.drop i:=λhm=>eM G.2.2.1 (β _ (List.mem_of_mem_drop hm))
 have H:∀y,t.Us y->rnv (o.take i) (ls.take i) (τ y)≠(bt ls i).toNat:=λy hy he=>by
  obtain⟨c,J,h2⟩:=h.cov y hy;have hc:c=bt ls i:=Pe.1 (J.trans he);rcases h2 with h2 | h2 | h2
  ·exact G.1 (hc▸h2)
  ·exact ε (hc▸h2)
  ·exact ζ (hc▸h2)
 refine⟨⟨hr.wf,?_,⟨hr.eb,?_⟩,?_,?_,h.den.uq⟩,hr.shp.trans h.shp,λz hz hg=>?_,λy hy=>?_⟩
 ·have :=h.den.len;rw [T.aX,T.je hr.shp,<-T.aX];exact this
 ·rw [T.CE hr.shp,T.zt hr.shp];exact h.den.bd.le
 ·have hh:=h.den.ae.renamed hr.ok (λx _ e=>Pe.1 e);have e':(λy=>rnv (o.take (i+1)) (ls.take (i+1)) (τ y))=λy=>if rnv (o.take i) (ls.take i) (τ y)=(bt o i).toNat then(bt ls i).toNat else rnv (o.take i) (ls.take i) (τ y):=funext e
  rw [e'];exact hh
 ·intro y z hy hz V;simp only [e]at V;have δ:=h.den.inj y z hy hz;split at V<;>split at V
  ·rename_i J h2;exact δ (J.trans h2.symm)
  ·exact absurd V.symm (H z hz)
  ·exact absurd V (H y hy)
  ·exact δ V
 ·rcases hr.ok.free z hz with J | J | J
  ·exact absurd hg (eM (J▸G.2.2.1))
  ·have :=h.gf z J.2 hg;rw [sW Z]at this;exact(O4.1 this).resolve_left J.1
  ·have hh:=β _ (lV Z);rw [J.2.2]at hh;exact absurd hh (eM G.2.2.1)
 ·obtain⟨c,J,h2⟩:=h.cov y hy;rw [e];by_cases hc:rnv (o.take i) (ls.take i) (τ y)=(bt o i).toNat
  ·rw [Pj hc];exact⟨bt ls i,rfl,.inr (.inl (by rw [iH W];simp))⟩
  ·rw [O1 hc];refine⟨c,J,?_⟩;rcases h2 with h2 | h2 | h2
   ·exact .inl h2
   ·exact .inr (.inl (by rw [iH W];simp [h2]))
   ·rw [sW Z]at h2;rcases O4.1 h2 with h3 | h3
    ·exact absurd (J.symm.trans (by rw [h3])) hc
    ·exact .inr (.inr h3)
theorem aP.G8 {on:Bool}{σ:Nat->Nat}{Θ:Tx}:∀{rs:List Tx} {us:List U},aP (λr u=>TR on u σ Θ r) rs us->Proofs.YtdecokaadekjnaaGreat.dz rs<=kD us
 | [],[],_=>by simp [Proofs.YtdecokaadekjnaaGreat.dz,kD]
 | [],_::_,h=>by have :=h.1;simp at this
 | _::_,[],h=>by have :=h.1;simp at this
 | r::rs,u::us,h=>by
  have H:=(h.2 0 r u rfl rfl).len;have G:=aP.G8 (rs:=rs) (us:=us) (on:=on) (σ:=σ) (Θ:=Θ) ⟨by have :=h.1;simpa using this,λi a b ha hb=>h.2 (i+1) a b (by simpa using ha) (by simpa using hb)⟩;rw [dX];simp only [kD,Pk,P0,OF]at G|-;omega
def xI (on:Bool)(σ:Nat->Nat)(u:U)(o ls A r:Tx):Prop:=
 ∃rs:List Tx,r=joinS 38 (a6 rs)/\aP (λr t=>TR on t (λy=>rnv o ls (asgN (ak u).1 0 σ y)) A r) rs (ak u).2
theorem Ke {n:Nat}(iht:zI n){k:Nat}{σ:Nat->Nat}{u:U}{Θ A o ls:Tx}{ps:List P}{on br:Bool}{bm B:Nat}{vt:Value}{w:World}{R:aB->Sl}
  (hu:Uq u) (hne:(ak u).2≠[]) (hb:∀p∈ps,k+(ak u).1.length+p.rd+p.ow<=64) (hsz:∀p∈ps,p.size<=n) (β:xS k Θ σ u) (ξ:aP (Je k σ u 0) ps (ak u).2) (G:Ir k (ak u).1.length Θ ls A) (ho:o.Perm (iq (ak u).1.length))
  (hm64:(ak u).1.length<=64) (γ:Own B w vt (ps.map T.text)) (hB:bm< B) (ο:MK w bm br on) (htl:kD (ak u).2<=1099511627776+3)
  (h:∀r w',Kp w w' (λg=>g=bm)->MK w' bm (br||(ak u).2.any λt=>decide (5< ax (tl [t]))) on->xI on σ u o ls A r->R r w'):
  Sm 244 #[.pointer (some ⟨bm,0,none⟩),vt,.string (ai o),.string (ai ls),.string (ai A)] w (an [.s] R):=by
 refine lB _ vt o ls A w R ?_;dsimp only [go_sem];dsimp only [go_sem,UInt8.reduceOfNat,UInt32.reduceOfNat,Nat.reduceAdd];have ς:o.length=(ak u).1.length:=by rw [ho.length_eq,iC]
 have hog:∀c∈o,KY c:=λc hc=>by
  obtain⟨j,h1,rfl⟩:=iE.1 (ho.subset hc);exact yv (by omega)
 have hlen:=ξ.1;have hbm:=ο.lt;have hlu:3* (ak u).2.length<=kD (ak u).2:=by unfold kD;omega
 obtain⟨av,cap,hv⟩:=γ.strs.slice;rw [O8]at hv;refine⟨av,_,cap,hv,λlist x w'=>∃(i:Nat) (rs:List Tx),x=i/\i<=(ak u).2.length/\Kp w w' (λg=>g=bm)/\MK w' bm (br||((ak u).2.take i).any λt=>decide (5< ax (tl [t]))) on/\
   Own w.heap.size w' list rs/\Own B w' vt (ps.map T.text)/\aP (λr t=>TR on t (λy=>rnv o ls (asgN (ak u).1 0 σ y)) A r) rs ((ak u).2.take i),λ _ x _=>((ak u).2.length - x).toNat,?_,λlist x w3 hI=>?_⟩
 ·exact⟨0,[],rfl,by omega,Kp.af (Ex.refl w) _,by simpa using ο,Own.nil _ _,γ,aP.nil⟩
 obtain⟨i,rs,rfl,hi,θ,ι,κ,υ,W⟩:=hI;have hs3:=θ.size;refine⟨λhc=>?_,λhc=>?_⟩
 ·have hc:=O7 hc;have φ:i< ps.length:=by omega
  have μ:i< (ak u).2.length:=by omega
  refine υ.strs.get (Ex.refl w3) (i:=i) (x:=(ps[i]).text) (by omega) (by simp [φ]) ?_;obtain⟨m0,τ,hkm,dp,χ,hgf⟩:=ξ.2 i _ _ (OH φ) (OH μ);have V:(ak u).2[i]∈(ak u).2:=OP _;have ψ:ps[i]∈ps:=OP _;have hbp:=hb _ ψ;have hszp:=hsz _ ψ;generalize hM:max m0 (k+(ak u).1.length)=M;have hM1:m0<=M:=by omega
  have ω:k+(ak u).1.length<=M:=by omega
  have hle:=dp.bd.le;have dM:Den M ps[i] τ (ak u).2[i]:=⟨dp.wf,dp.len,⟨dp.bd.eb.mono hM1,by omega⟩,dp.ae,dp.inj,dp.uq⟩
  have hus:=lA u hu _ V;refine⟨λs j w'=>Ex w3 w'/\∃(j':Nat) (q:P),j=j'/\j'<=o.length/\s=q.text/\Ny M ps[i] (ak u).2[i] τ Θ o ls j' q,λ _ j _=>(o.length - j).toNat,⟨Ex.refl w3,0,ps[i],rfl,by omega,rfl,?_⟩,λs j w4 hJ=>?_⟩
  ·refine⟨by simpa [rnv]using dM,rfl,λz hz hg=>?_,λy hy=>?_⟩
   ·obtain⟨j,h1,h2⟩:=hgf z hz hg;rw [Qz];exact ho.symm.subset (iE.2 ⟨j,by omega,h2⟩)
   ·simp only [List.take_zero,rnv,Qz];rw [χ y hy];by_cases Z:y∈(ak u).1
    ·obtain⟨j,hj,e⟩:=PD.1 Z;refine⟨gl j,?_,.inr (.inr (ho.symm.subset (iE.2 ⟨j,hj,rfl⟩)))⟩;rw [<-e,kz _ _ _ _ hj (gO u hu),Ph]
    ·rw [jv _ _ _ _ Z];obtain⟨c,h1,h2⟩:=β.cov y ((hus y hy).resolve_right Z);exact⟨c,h2,.inl h1⟩
  obtain⟨H,j',q,rfl,hj,rfl,hq⟩:=hJ;refine⟨λα=>?_,λα=>?_⟩
  ·have α:=O7 α;have hj':j'< o.length:=by omega
   refine⟨λ _=>True,λw5 hw5=>⟨trivial,⟨by omega,by omega⟩,⟨by omega,by rw [G.len];omega⟩,?_⟩⟩;have hx5:Ex w4 w5:=hw5▸Ex.drew w4;have hlq:=G.ok _ (lV (s:=ls) (i:=j') (by rw [G.len];omega));have hbd:=T.Ao q;have hqle:=hq.den.bd.le;rw [OU];refine ig _ (OQ _) hq.den.ok hq.den.bd.eb (by omega) hlq.2.2.2 (hlq.2.1.mono ω) λq' w6 J hq'=>⟨trivial,by omega,⟨(H.trans hx5).trans J,j'+1,q',by omega,by omega,rfl,?_⟩,by dsimp only;omega⟩
   exact hq.step (λc hc=>(β.okn c hc).2) G ς hog (by omega) hq'
  ·have α:=O9 α;have ej:j'=o.length:=by omega
   subst ej;have ε:=hq.den;have e1:o.take o.length=o:=Pa;have e2:ls.take o.length=ls:=by rw [ς,<-G.len];exact Pa
   have ζ:=hq.cov;simp only [e1,e2]at ε ζ;have hm4:=ι.ex H;have hszq:=T.pG hq.shp;refine iht (by omega) ε (zz u _ V) (uu u _ V).1 (uu u _ V).2 (λz hz hg=>?_) ⟨G.srt,λc hc=>?_,λy hy=>?_⟩ hm4 λr w5 δ hm5 hr=>?_
   ·have :=hq.gf z hz hg;rw [QQ]at this;cases this
   ·rcases(G.mem c).1 hc with h1 | h1
    ·exact⟨(β.okn c h1).1.mono (by omega),(β.okn c h1).2⟩
    ·have :=G.ok c h1;exact⟨this.2.1.mono ω,this.2.2.1⟩
   ·obtain⟨c,h1,h2⟩:=ζ y hy;refine⟨c,(G.mem c).2 ?_,h1⟩;rcases h2 with h2 | h2 | h2
    ·exact .inl h2
    ·exact .inr h2
    ·rw [QQ]at h2;cases h2
   ·intro b6 w6 hb6 hw6;have J:Ex w5 w6:=hw6▸Ex.alloc w5 _;have hbl:∀g,list.ownBlock=some g->¬g=bm:=λg hg e=>by have :=(κ.block g hg).1;omega
    have ho5:Own w.heap.size w6 list rs:=((κ.ex H).kp δ hbl).ex J;have z4:=H.size;have z5:=δ.size;have z6:=J.size;have η:rs.length=i:=by rw [W.1,Pt];omega
    refine Own.push ho5 (by omega) (Strs.one hb6 hw6) (by simp only [OF,OX];omega) λv7 w7 ν ho7 hg7 _=>?_
    refine⟨by omega,⟨i+1,rs++[r],by omega,by omega,?_,?_,ho7,?_,?_⟩,by dsimp only;omega⟩
    ·exact Kp.GW (Kp.trans (Kp.trans (Kp.trans θ (Kp.af H _) λ _ _ h=>h) δ λ _ _ h=>h) (Kp.af J _) λ _ _ h=>h) ν (OQ _)
    ·have hm6:=(hm5.ex J).below ν hbm;rw [OK μ,List.any_append,<-Ql];simpa using hm6
    ·have hvn:∀g,vt.ownBlock=some g->¬g=bm:=λg hg e=>by have :=(γ.block g hg).1;omega
     exact(((υ.ex H).kp δ hvn).ex J).below ν λg hg=>(γ.block g hg).2
    ·rw [OK μ];refine W.snoc (hr.env λy hy=>?_);show rnv o ls (τ y)=_;rw [χ y hy]
 ·have hc:=O9 hc;have e:i=(ak u).2.length:=by omega
  subst e;rw [Pa]at ι W;have η:rs.length=(ak u).2.length:=W.1;have hrs:rs≠[]:=λe=>hne (Pg (by rw [<-η,e];rfl))
  refine nW κ.strs (by omega) λv4 w4 H ho4=>?_
  have hsn:a6 rs≠[]:=λe=>hrs (by have :=aR rs;rw [e]at this;exact this.symm.eq_nil)
  have hll:dz rs<=kD (ak u).2:=W.G8;refine tz ho4.strs hsn (by rw [mJ (aR rs)];omega) ?_;exact h _ w4 (Kp.trans θ (Kp.af H _) λ _ _ h=>h) (ι.ex H) ⟨rs,rfl,W⟩
end Go.Proofs.YtdecokaadekjnaaGreat
namespace Go.Proofs.YtdecokaadekjnaaGreat
open Classical
structure KE (u:U)(ρ:Rh)(tk:Tk):Prop where
 ok:∀y,u.Us y->tk (ρ y)=true/\lt (ρ y)=true
 inj:∀y z,u.Us y->u.Us z->ρ y=ρ z->y=z
theorem KE.sub {u v:U}{ρ:Rh}{tk:Tk}(h:KE u ρ tk)(G:∀y,v.Us y->u.Us y):KE v ρ tk:=
 ⟨λy H=>h.ok y (G y H),λy z H J=>h.inj y z (G y H) (G z J)⟩
def JW (u:U)(ρ:Rh)(tk:Tk)(t:P)(v:U):Prop:=
 t.text=LS u ρ tk/\AE UInt8.toNat t (λy=>(ρ y).toNat) v/\t.Al (λc=>lt c=true)/\Og u v
def GX (u:U)(ρ:Rh)(tk:Tk)(t:P)(v:U):Prop:=
 t.text=thU u ρ tk/\AE UInt8.toNat t (λy=>(ρ y).toNat) v/\t.Al (λc=>lt c=true)/\N7 u v
theorem NK {n:Nat}(ih:∀(u:U) (ρ:Rh) (tk:Tk),u.size<=n->Uq u->KE u ρ tk->dD u tk=false->∃t v,JW u ρ tk t v){t:U}{ρ:Rh}{tk:Tk}(hn:t.size<=n+1)(hu:Uq t)(μ:JA t=true)
  (ο:t.dI) (hl:t.dead=false) (hm:KE t ρ tk) (hb:thBad (tl [t]) tk=false):∃q w,GX t ρ tk q w:=by
 cases t with
 | nil=>cases μ
 | par=>cases μ
 | res=>cases μ
 | snd a b p=>
  simp only [T.size]at hn;rw [jw]at hb;obtain⟨q,v,G,h2,H,h4⟩:=ih p ρ tk (by omega) hu.snd (hm.sub λy hy=> .inr (.inr hy)) hb;have γ:∀x,(T.snd a b v).Us x↔(T.snd a b p).Us x:=λx=>or_congr_right (or_congr_right (h4.us x))
  refine⟨.snd (ρ a) (ρ b) q,.snd a b v,?_,⟨rfl,rfl,h2⟩,⟨(hm.ok a (.inl rfl)).2,(hm.ok b (.inr (.inl rfl))).2,H⟩,?_⟩
  ·simp only [T.text,thU,kText,G]
  ·exact⟨rfl,h4.nr,qY (t:=T.snd a b p) h4.uq.nd h4.nr h4.bv (λx=>(γ x).1) hu,h4.bv,γ,λρ tk=>by simp only [thU,h4.ls],λtk=>by rw [jw,jw,h4.bad],by rw [p4,p4,h4.all],by rw [fq,fq,h4.most],h4.smp,rfl⟩
 | tau p=>
  simp only [T.size]at hn;rw [jy]at hb;obtain⟨q,v,G,h2,H,h4⟩:=ih p ρ tk (by omega) hu.tau (hm.sub λy hy=>hy) hb;refine⟨.tau q,.tau v,?_,h2,H,?_⟩
  ·simp only [T.text,thU,kText,G]
  ·exact⟨rfl,h4.nr,qY (t:=T.tau p) h4.uq.nd h4.nr h4.bv (λx=>(h4.us x).1) hu,h4.bv,h4.us,λρ tk=>by simp only [thU,h4.ls],λtk=>by rw [jy,jy,h4.bad],by rw [p5,p5,h4.all],by rw [fk,fk,h4.most],h4.smp,rfl⟩
 | rep p=>
  simp only [T.size]at hn;rw [ji]at hb;obtain⟨q,v,G,h2,H,h4⟩:=ih p ρ tk (by omega) hu.rep (hm.sub λy hy=>hy) hb;have hd:v.dead=false:=by rw [h4.dead];exact hl
  have nr:(T.rep v).Nr:=⟨hd,h4.nr⟩
  refine⟨.rep q,.rep v,?_,h2,H,?_⟩
  ·simp only [T.text,thU,kText,G]
  ·refine⟨rfl,nr,qY (t:=T.rep p) h4.uq.nd nr h4.bv (λx=>(h4.us x).1) hu,h4.bv,h4.us,λρ tk=>by simp only [thU,h4.ls],λtk=>by rw [ji,ji,h4.bad],by rw [qd,qd,h4.all],by rw [e9,e9,h4.most],λhs=>?_,rfl⟩;simp only [T.smp,OJ]at hs|-;refine⟨?_,h4.smp hs.2⟩;have:ak p=([],[p]):=by
    have hr:=hs.1;cases p<;>first | rfl | cases hr
   rw [T.xL,h4.tg p this,<-T.xL];exact hs.1
 | mat a b p=>
  simp only [T.size]at hn;have δ:a≠b:=ο;have hd:p.dead=false:=hl;rw [fy]at hb;obtain⟨q,v,G,h2,H,h4⟩:=ih p ρ tk (by omega) hu.mat (hm.sub λy hy=> .inr ⟨δ,hd,.inr (.inr hy)⟩) hb;have η:v.dead=false:=by rw [h4.dead];exact hd
  have ha:=(hm.ok a (.inr ⟨δ,hd,.inl rfl⟩)).2;have ς:=(hm.ok b (.inr ⟨δ,hd,.inr (.inl rfl)⟩)).2;have us:∀x,(T.mat a b v).Us x↔(T.mat a b p).Us x:=λx=>by simp only [T.Us,δ,hd,η,h4.us]
  have υ:∀x,(T.mat b a v).Us x↔(T.mat a b p).Us x:=λx=>by
   simp only [T.Us,δ,δ.symm,hd,η,h4.us,false_and,Sc,ne_eq,RR,QS];rw [<-RF,<-RF,or_comm (a:=x=b)]
  by_cases φ:ρ b< ρ a
  ·have nr:(T.mat b a v).Nr:=⟨⟨δ.symm,η⟩,h4.nr⟩
   refine⟨.mat (ρ b) (ρ a) q,.mat b a v,?_,⟨rfl,rfl,h2⟩,⟨ς,ha,H⟩,?_⟩
   ·simp only [T.text,thU,kText,G,Pj φ]
   ·exact⟨rfl,nr,qY (t:=T.mat a b p) h4.uq.nd nr h4.bv (λx=>(υ x).1) hu,h4.bv,υ,λρ tk=>by simp only [thU,h4.ls];exact CH _ _ _,λtk=>by rw [fy,fy,h4.bad],by rw [jt,jt,h4.all],by rw [dt,dt,h4.most],h4.smp,rfl⟩
  ·have nr:(T.mat a b v).Nr:=⟨⟨δ,η⟩,h4.nr⟩
   refine⟨.mat (ρ a) (ρ b) q,.mat a b v,?_,⟨rfl,rfl,h2⟩,⟨ha,ς,H⟩,?_⟩
   ·simp only [T.text,thU,kText,G,O1 φ]
   ·exact⟨rfl,nr,qY (t:=T.mat a b p) h4.uq.nd nr h4.bv (λx=>(us x).1) hu,h4.bv,us,λρ tk=>by simp only [thU,h4.ls],λtk=>by rw [fy,fy,h4.bad],by rw [jt,jt,h4.all],by rw [dt,dt,h4.most],h4.smp,rfl⟩
 | rcv a x p=>
  simp only [T.size]at hn;rw [jn,Qd]at hb;obtain⟨f1,f2⟩:=HA hb.1;have hm':KE p (aI ρ x (iV tk)) (cz tk (iV tk)):=by
   refine⟨λy hy=>?_,λy z hy J e=>?_⟩
   ·by_cases e:y=x
    ·subst e;simp [aI,cz,f2]
    ·obtain⟨k1,k2⟩:=hm.ok y (.inr ⟨e,hy⟩);simp [aI,e,cz,k1,k2]
   ·by_cases g1:y=x<;>by_cases g2:z=x
    ·rw [g1,g2]
    ·simp only [aI,Pj g1,O1 g2]at e;have :=(hm.ok z (.inr ⟨g2,J⟩)).1;rw [<-e,f1]at this;cases this
    ·simp only [aI,O1 g1,Pj g2]at e;have :=(hm.ok y (.inr ⟨g1,hy⟩)).1;rw [e,f1]at this;cases this
    ·simp only [aI,O1 g1,O1 g2]at e;exact hm.inj y z (.inr ⟨g1,hy⟩) (.inr ⟨g2,J⟩) e
  obtain⟨q,v,G,h2,H,h4⟩:=ih p _ _ (by omega) hu.rcv hm' hb.2;have γ:∀y,(T.rcv a x v).Us y↔(T.rcv a x p).Us y:=λy=>or_congr_right (and_congr_right λ _=>h4.us y)
  have nr:(T.rcv a x v).Nr:=h4.nr;have ν:(BV (T.rcv a x v)).Nodup:=PO.2 ⟨λhx=>hu.lQ (h4.bv x hx),h4.uq.nd⟩;have ζ:∀y∈BV (T.rcv a x v),y∈BV (T.rcv a x p):=λy hy=>by
   rcases O4.1 hy with rfl | hy
   ·exact Py ..
   ·exact OZ _ (h4.bv y hy)
  refine⟨.rcv (ρ a) (iV tk) q,.rcv a x v,?_,⟨rfl,λn=>AE.Lb (λz J e=>?_) h2 n⟩,⟨(hm.ok a (.inl rfl)).2,f2,H⟩,?_⟩
  ·simp only [T.text,thU,kText,G]
  ·intro hc;have :=(hm.ok z (.inr ⟨e,(h4.us z).1 (h4.nr.iA J)⟩)).1;rw [hc,f1]at this;cases this
  ·exact⟨rfl,nr,qY ν nr ζ (λx=>(γ x).1) hu,ζ,γ,λρ tk=>by simp only [thU,h4.ls],λtk=>by rw [jn,jn,h4.bad],by rw [qu,qu,h4.all],by rw [eY,eY,h4.most],h4.smp,rfl⟩
 | sum p q=>
  simp only [T.size]at hn;obtain⟨hd1,hd2⟩:p.dead=false/\q.dead=false:=ο;have eS:aw (T.sum p q)=aw p++aw q:=rfl;have χ:∀u∈aw (T.sum p q),u.size<=n:=λu α=>by
   rw [eS]at α;rcases OS.1 α with h | h
   ·have :=mE p u h;omega
   ·have :=mE q u h;omega
  have ψ:∀u∈aw (T.sum p q),dD u tk=false:=by
   rw [(fJ (w:=T.sum p q) rfl ρ tk).2]at hb;simp only [thBad,Q8,zm]at hb;simpa [List.any_eq_false]using hb
  obtain⟨zs,z1,z2⟩:=triples (R:=λu=>JW u ρ tk) (l:=aw (T.sum p q)) λu α=>
   ih u ρ tk (χ u α) (yb hu u α) (hm.sub λy hy=>(mT _ hu y).2 ⟨u,α,hy⟩) (ψ u α)
  obtain⟨V,y1,y2⟩:=wO zs λz=>z.2.1.text
  have Z:(V.map (·.1)).Perm (aw (T.sum p q)):=z1▸y1.map _;have J:∀z∈V,JW z.1 ρ tk z.2.1 z.2.2:=λz J=>z2 z (y1.subset J)
  have W:∀z∈V,z.1∈aw (T.sum p q):=λz J=>Z.subset (Qo J)
  have hlen:2<=V.length:=by
   have l1:(aw p).length≠0:=λe=>pe hd1 hu.eD (Pg e)
   have l2:(aw q).length≠0:=λe=>pe hd2 hu.dS (Pg e)
   have :=Z.length_eq;rw [O8,eS,OM]at this;omega
  have θ:V≠[]:=λe=>by rw [e]at hlen;simp at hlen
  have ε:(T.dH (V.map (·.2.2))).isS=true/\(T.dH (V.map (·.2.2))).th=true/\(T.dH (V.map (·.2.2))).tg=4:=by
   match V,hlen with
   | a::b::l,_=>exact⟨rfl,rfl,rfl⟩
   | [a],h=>simp at h
   | [],h=>simp at h
  have ω:∀v∈V.map (·.2.2),v.dead=false/\v.isS=false/\v.Nr:=λv hv=>by
   obtain⟨z,G,rfl⟩:=Pw.1 hv;have ha:=(J z G).2.2.2;refine⟨?_,ha.isS (EX _ hu z.1 (W z G)),ha.nr⟩;rw [ha.dead];cases hd:z.1.dead with
   | false=>rfl
   | true=>
    have hcp:∀u:U,∀t∈aw u,t.dead=false:=FD;exact absurd (hcp _ _ (W z G)) (by rw [hd];simp)
  have ι:=(T.Ea (l:=V.map (·.2.2)) (by simpa using θ) ω)
  have ζ:∀x∈BV (T.dH (V.map (·.2.2))),x∈BV (T.sum p q):=λx hx=>by
   rw [yZ]at hx;obtain⟨v,G,h2⟩:=PE.1 hx;obtain⟨z,H,rfl⟩:=Pw.1 G;exact AI _ z.1 (W z H) x ((J z H).2.2.2.bv x h2)
  have γ:∀x,(T.dH (V.map (·.2.2))).Us x↔(T.sum p q).Us x:=λx=>by
   rw [T.El,mT _ hu];constructor
   ·rintro⟨v,G,h2⟩
    obtain⟨z,H,rfl⟩:=Pw.1 G;exact⟨z.1,W z H,((J z H).2.2.2.us x).1 h2⟩
   ·rintro⟨u,G,h2⟩
    obtain⟨z,H,rfl⟩:=Pw.1 (Z.symm.subset G);exact⟨_,Qo H,((J z H).2.2.2.us x).2 h2⟩
  have ν:(BV (T.dH (V.map (·.2.2)))).Nodup:=by
   rw [yZ,R5];refine qB (f:=λz=>BV z.1) ?_ λz h=>⟨(J z h).2.2.2.uq.nd,(J z h).2.2.2.bv⟩
   have hp:=(Z.flatMap_right BV)
   rw [R5]at hp;exact hp.nodup_iff.2 (IU _ hu)
  have huq:=qY ν ι.1 ζ (λx=>(γ x).1) hu;have κ:aw (T.dH (V.map (·.2.2)))=V.map (·.2.2):=by
   rw [eQ huq ι.1 ι.2,T.A0 (by simpa using θ) λt ht=>(ω t ht).2.1]
  have ξ:∀{β:Type} (g:U->β),(∀z∈V,g z.2.2=g z.1)->((V.map (·.2.2)).map g).Perm ((aw (T.sum p q)).map g):=λg hg=>by
   have e:(V.map (·.2.2)).map g=(V.map (·.1)).map g:=by
    rw [Qv,Qv];exact P7 hg
   rw [e];exact Z.map g
  refine⟨T.dH (V.map (·.2.1)),T.dH (V.map (·.2.2)),?_,AE.dH λz h=>(J z h).2.1,EK λt ht=>?_,?_⟩
  ·rw [T.wD (by simpa using θ),Qv,(fJ (w:=T.sum p q) rfl ρ tk).1];have e:V.map (T.text∘λz=>z.2.1)=a6 (zs.map λz=>z.2.1.text):=y2;rw [e]
   congr 2
   rw [<-z1,Qv];exact P7 λz h=>(z2 z h).1
  ·obtain⟨z,G,rfl⟩:=Pw.1 ht;exact(J z G).2.2.1
  ·refine⟨ε.2.1,ι.1,huq,ζ,γ,λρ tk=>?_,λtk=>?_,?_,?_,λhs=>?_,ε.2.2⟩
   ·rw [(fJ ε.1 ρ tk).1,(fJ (w:=T.sum p q) rfl ρ tk).1,κ]
    congr 1
    exact lK (ξ _ λz h=>(J z h).2.2.2.ls ρ tk)
   ·rw [(fJ ε.1 ρ tk).2,(fJ (w:=T.sum p q) rfl ρ tk).2,κ];simp only [thBad,Q8,zm];have G:=BS (f:=λb:Bool=>b) (ξ (λu=>dD u tk) λz h=>(J z h).2.2.2.bad tk);simpa [List.any_map,Function.comp_def]using G
   ·rw [(fJ ε.1 ρ tk).2,(fJ (w:=T.sum p q) rfl ρ tk).2,κ];simp only [thAll,Ro,GI];exact jr (ξ cQ λz h=>(J z h).2.2.2.all)
   ·rw [(fJ ε.1 ρ tk).2,(fJ (w:=T.sum p q) rfl ρ tk).2,κ];refine D1 λk=>?_
    simp only [ax,Nat.max_zero,xz];constructor
    ·intro h u α;obtain⟨z,H,rfl⟩:=Pw.1 (Z.symm.subset α);rw [<-(J z H).2.2.2.most];exact h _ (Qo H)
    ·intro h v hv;obtain⟨z,H,rfl⟩:=Pw.1 hv;rw [(J z H).2.2.2.most];exact h _ (W z H)
   ·have hg:=yA (T.sum p q) rfl hs;refine(IK (by simpa using θ) λt ht=>?_).1;obtain⟨z,G,rfl⟩:=Pw.1 ht;have ha:=(J z G).2.2.2;have hgz:=hg z.1 (W z G);refine⟨ha.smp (GP _ hs z.1 (W z G)),?_⟩;rw [T.BN,ha.tg z.1 hgz.2,OW];rcases hgz.1 with h | h | h<;>omega
theorem pR {u:U}(hu:Uq u)(hd:u.dead=true):(∀ρ tk,LS u ρ tk=[48])/\(∀tk,dD u tk=false)/\cQ u=0/\bn u=0:=by
 have G:=mK hd;have h2:(td u).1=[]:=by
  have :=(gu u hu).2.1;rw [du u hu hd]at this;exact this.eq_nil
 refine⟨λρ tk=>?_,λtk=>?_,?_,?_⟩
 ·simp [LS,aU,G,thS]
 ·simp [dD,gg,G,Lv.isNil]
 ·simp [cQ,G,h2,thAll]
 ·simp [bn,G,h2,ax]
theorem arr:∀(n:Nat) (u:U) (ρ:Rh) (tk:Tk),u.size<=n->Uq u->KE u ρ tk->dD u tk=false->∃t v,JW u ρ tk t v:=by
 intro n
 induction n with
 | zero=>intro u ρ tk h;cases u<;>simp [T.size]at h
 | succ n ih=>
  intro u ρ tk hn hu hm hb;cases hd:u.dead with
  | true=>
   obtain⟨d1,d2,d3,d4⟩:=pR hu hd;have χ:Uq .nil:=⟨Qi,λx h=>by cases h⟩
   obtain⟨e1,e2,e3,e4⟩:=pR χ rfl;refine⟨.nil,.nil,by rw [d1];rfl,trivial,trivial,trivial,χ,λx h=>(by cases h),λx=>⟨λh=>h.elim,λh=>absurd h (T.bK hd)⟩,λρ tk=>by rw [d1,e1],λtk=>by rw [d2,e2],by rw [d3,e3],by rw [d4,e4],hd.symm,λ _=>rfl,λt W=>?_,λ _=>rfl⟩;rw [du u hu hd]at W;cases W
  | false=>
   have ψ:=ya hd hu;obtain⟨g1,g2,_⟩:=gu u hu;have hlen:(td u).1.length=(ak u).1.length:=g2.length_eq;have ω:(td u).2.isNil=false:=by rw [dJ,hd]
   simp only [dD,gg,ω,Bool.not_false,QC,Qd,hlen]at hb;obtain⟨hb1,δ⟩:=hb;rw [g1,sY]at δ;have δ:∀t∈(ak u).2,thBad (tl [t]) (addK (lets (ak u).1.length tk) tk)=false:=by simpa [List.any_eq_false]using δ
   obtain⟨l1,l2⟩:=wL _ tk hb1;have hls:=fO (ak u).1.length tk;generalize hl:lets (ak u).1.length tk=ls at*;have hLS:LS u ρ tk=wrap ls (bO ((perms (ak u).1).map λπ=>joinS 38 (a6 ((ak u).2.map λt=>thU t (asg π ls ρ) (addK ls tk))))):=by
    rw [yc hu];unfold aU;rw [O1 (by simpa using ψ)];show wrap (lets _ tk) (bO (List.map (λπ=>joinS 38 (a6 ((ak u).2.map λt=>thU t (asg π (lets _ tk) ρ) (addK (lets _ tk) tk)))) _))=_;rw [hl]
   obtain⟨hmem,_⟩:=cL (l:=(perms (ak u).1).map λπ=>joinS 38 (a6 ((ak u).2.map λt=>thU t (asg π ls ρ) (addK ls tk)))) (by simpa using pc _);obtain⟨π,G,μ⟩:=Pw.1 hmem;have G:=(db _ π).1 G;have α:π.length=ls.length:=by rw [G.length_eq,hls]
   have ν:=JC u hu;have η:π.Nodup:=G.nodup_iff.2 (Pp.1 ν).1;have hmt:∀t∈(ak u).2,KE t (asg π ls ρ) (addK ls tk):=by
    intro t W;have ξ:∀y,t.Us y->y∈π\/(y∉π/\u.Us y):=λy hy=>by
     by_cases hp:y∈π
     ·exact .inl hp
     ·exact .inr ⟨hp,(lA u hu t W y hy).resolve_right λh=>hp (G.symm.subset h)⟩
    refine⟨λy hy=>?_,λy z hy J e=>?_⟩
    ·rw [yi];rcases ξ y hy with h | ⟨h,h'⟩
     ·have :=fK π ls ρ y h α;exact⟨by simp [this],(l2 _ this).2⟩
     ·rw [bV π ls ρ y h];exact⟨by simp [(hm.ok y h').1],(hm.ok y h').2⟩
    ·rcases ξ y hy with h | ⟨h,h'⟩<;>rcases ξ z J with k | ⟨k,k'⟩
     ·exact yD π ls ρ y z h k α l1 e
     ·rw [bV π ls ρ z k]at e;have :=(l2 _ (fK π ls ρ y h α)).1;rw [e,(hm.ok z k').1]at this;cases this
     ·rw [bV π ls ρ y h]at e;have :=(l2 _ (fK π ls ρ z k α)).1;rw [<-e,(hm.ok y h').1]at this;cases this
     ·rw [bV π ls ρ y h,bV π ls ρ z k]at e;exact hm.inj y z h' k' e
   obtain⟨zs,z1,z2⟩:=triples (R:=λu=>GX u (asg π ls ρ) (addK ls tk)) (l:=(ak u).2) λt W=>
    NK ih (by have :=Ce u t W;omega) (Hj hu t W) (zz u t W) (uu u t W).1 (uu u t W).2 (hmt t W) (δ t W)
   obtain⟨V,y1,y2⟩:=wO zs λz=>z.2.1.text
   have H:(V.map (·.1)).Perm (ak u).2:=z1▸y1.map _;have J:∀z∈V,GX z.1 (asg π ls ρ) (addK ls tk) z.2.1 z.2.2:=λz J=>z2 z (y1.subset J)
   have Z:∀z∈V,z.1∈(ak u).2:=λz J=>H.subset (Qo J)
   have γ:V≠[]:=λe=>ψ (by have :=H;rw [e]at this;exact this.symm.eq_nil)
   have ε:∀w∈V.map (·.2.2),w.th=true/\w.Nr:=λw hw=>by
    obtain⟨z,h1,rfl⟩:=Pw.1 hw;exact⟨(J z h1).2.2.2.th,(J z h1).2.2.2.nr⟩
   have θ:∀x,(T.parL (V.map (·.2.2))).Us x↔∃t∈(ak u).2,t.Us x:=λx=>by
    rw [T.sL];constructor
    ·rintro⟨v,h1,h2⟩
     obtain⟨z,h3,rfl⟩:=Pw.1 h1;exact⟨z.1,Z z h3,((J z h3).2.2.2.us x).1 h2⟩
    ·rintro⟨u',h1,h2⟩
     obtain⟨z,h3,rfl⟩:=Pw.1 (H.symm.subset h1);exact⟨_,Qo h3,((J z h3).2.2.2.us x).2 h2⟩
   have ι:=T.ED ε;have ο:(T.resL π (T.parL (V.map (·.2.2)))).Nr:=T.DX ι.1 η λx hx=>(θ x).2 (AM u hu x (G.subset hx))
   have ς:∀x,(T.resL π (T.parL (V.map (·.2.2)))).Us x↔u.Us x:=λx=>by
    rw [T.jZ,θ];constructor
    ·rintro⟨h1,t,h2,h3⟩
     exact(lA u hu t h2 x h3).resolve_right λh=>h1 (G.symm.subset h)
    ·intro h;exact⟨λhx=>hu.nf x (iP u x (G.subset hx)) (T.bI h),IL u x h⟩
   have hbv:∀x∈BV (T.resL π (T.parL (V.map (·.2.2)))),x∈BV u:=λx hx=>by
    rw [gD,gK]at hx;rcases OS.1 hx with hx | hx
    ·exact iP u x (G.subset hx)
    ·obtain⟨v,h1,h2⟩:=PE.1 hx;obtain⟨z,h3,rfl⟩:=Pw.1 h1;exact Ez _ z.1 (Z z h3) x ((J z h3).2.2.2.bv x h2)
   have hndv:(BV (T.resL π (T.parL (V.map (·.2.2))))).Nodup:=by
    rw [gD,gK,R5];have hp:=(H.flatMap_right BV)
    rw [R5]at hp;have hnd':(V.flatMap λz=>BV z.1).Nodup:=hp.nodup_iff.2 (Pp.1 ν).2.1;refine Pp.2 ⟨η,qB (f:=λz=>BV z.1) hnd' λz h=>⟨(J z h).2.2.2.uq.nd,(J z h).2.2.2.bv⟩,λa ha b hb=>?_⟩;obtain⟨z,h1,h2⟩:=PE.1 hb;exact(Pp.1 ν).2.2 a (G.subset ha) b (PE.2 ⟨z.1,Z z h1,(J z h1).2.2.2.bv b h2⟩)
   have ζ:=qY hndv ο hbv (λx=>(ς x).1) hu;have κ:ak (T.resL π (T.parL (V.map (·.2.2))))=(π,V.map (·.2.2)):=by
    rw [CT ζ ο,T.AZ,T.AN,T.BL λt W=>(ε t W).1,T.It λt W=>(ε t W).1,Po]
   have υ:∀{β:Type} (g:U->β),(∀z∈V,g z.2.2=g z.1)->((V.map (·.2.2)).map g).Perm ((ak u).2.map g):=λg hg=>by
    have e:(V.map (·.2.2)).map g=(V.map (·.1)).map g:=by
     rw [Qv,Qv];exact P7 hg
    rw [e];exact H.map g
   obtain⟨k1,k2,_⟩:=gu _ ζ;rw [κ]at k1 k2;have hdv:(T.resL π (T.parL (V.map (·.2.2)))).dead=false:=by
    rw [lZ,k1]
    match V,γ,ε with
    | z::l,_,h=>
     have :=(h z.2.2 (by simp)).1;intro hh;revert hh this;simp only [Pk];cases z.2.2<;>simp [tl,Lv.len,T.th]
   have φ:(td (T.resL π (T.parL (V.map (·.2.2))))).1.length=(td u).1.length:=by rw [k2.length_eq,G.length_eq,hlen]
   refine⟨T.resL ls (T.parL (V.map (·.2.1))),T.resL π (T.parL (V.map (·.2.2))),?_,?_,?_,ο,ζ,hbv,ς,λρ tk=>?_,λtk=>?_,?_,?_,by rw [hdv,hd],λhs=>?_,λt W=>?_,λhns=>?_⟩
   ·rw [T.qD,hLS,<-μ,T.qc (by simpa using γ),Qv];have e:V.map (T.text∘λz=>z.2.1)=a6 (zs.map λz=>z.2.1.text):=y2;rw [e,<-z1,Qv]
    congr 3
    exact P7 λz h=>(z2 z h).1
   ·refine AE.IW π ls ρ α l1 (λz hz' hzp hc=>?_) (AE.parL λz h=>(J z h).2.1);have hzu:u.Us z:=(ς z).1 (T.jZ.2 ⟨hzp,ι.1.iA hz'⟩);have :=(l2 _ hc).1;rw [(hm.ok z hzu).1]at this;cases this
   ·refine D4 (Ew λt W=>?_) λc hc=>(l2 c hc).2
    obtain⟨z,h1,rfl⟩:=Pw.1 W;exact(J z h1).2.2.1
   ·rw [yc ζ,yc hu,κ];exact my G (λρ tk=>υ (λt=>thU t ρ tk) λz h=>(J z h).2.2.2.tx ρ tk) ρ tk
   ·unfold dD gg;rw [φ,dJ,dJ,hdv,hd,k1,g1]
    congr 2
    rw [sY,sY];have h1:=BS (f:=λb:Bool=>b) (υ (λt=>thBad (tl [t]) (addK (lets (td u).1.length tk) tk)) λz h=>(J z h).2.2.2.bad _);simpa [List.any_map,Function.comp_def]using h1
   ·unfold cQ;rw [φ,k1,g1,Cw,Cw (ak u).2]
    congr 1
    exact jr (υ (λt=>thAll (tl [t])) λz h=>(J z h).2.2.2.all)
   ·unfold bn;rw [φ,k1,g1]
    congr 1
    refine D1 λk=>?_
    rw [sS,sS];constructor
    ·intro h t W;obtain⟨z,h3,rfl⟩:=Pw.1 (H.symm.subset W);rw [<-(J z h3).2.2.2.most];exact h _ (Qo h3)
    ·intro h v hv;obtain⟨z,h3,rfl⟩:=Pw.1 hv;rw [(J z h3).2.2.2.most];exact h _ (Z z h3)
   ·rw [uH];refine tj λt W=>?_
    obtain⟨z,h1,rfl⟩:=Pw.1 W;exact(J z h1).2.2.2.smp (Jq u hs z.1 (Z z h1))
   ·rw [W]at G H;have e1:π=[]:=G.eq_nil;have e2:=H.length_eq;rw [O8]at e2
    match V,e2,H,J with
    | [z],_,hs,J=>
     have:z.1=t:=by simpa using hs
     subst this;rw [e1];exact(J z (by simp)).2.2.2.tg
   ·cases hp:π with
    | cons x l=>rfl
    | nil=>
     rw [hp]at G;have e0:(ak u).1=[]:=G.symm.eq_nil
     match V,γ,H,J with
     | [z],_,hs,J=>
      have e1:(ak u).2=[z.1]:=by
       have :=List.perm_singleton.1 hs.symm;simpa using this
      show z.2.2.isS=false;have htg:=(J z (by simp)).2.2.2.tg;rw [T.H0,htg,<-T.H0];cases hz1:z.1<;>first | rfl | skip
      rename_i p q;exact absurd (Prod.ext e0 (by rw [e1,hz1])) (hns p q)
     | z::y::l,_,_,_=>rfl
end Go.Proofs.YtdecokaadekjnaaGreat
namespace Go.Proofs.YtdecokaadekjnaaGreat
open Go Go.RowKit
theorem xq:∀(n:Nat) (tk:Tk),lets (n+1) tk=lets n tk++[iV (addK (lets n tk) tk)]
 | 0,tk=>rfl
 | n+1,tk=>by
  rw [lets,xq n,lets];rfl
theorem qF:∀(n:Nat) (tk:Tk),gI (n+1) tk=(gI n tk||(vF (addK (lets n tk) tk)).isNone)
 | 0,tk=>by simp [gI,lets,addK]
 | n+1,tk=>by
  rw [gI,qF n,gI];rw [lets,addK,Ql]
theorem fP:∀(l:List UInt8) (s:Tx),(wrap l s).length=3* l.length+s.length
 | [],s=>by simp [wrap]
 | c::l,s=>by simp only [wrap,OF,fP l s];omega
theorem uX:∀{l:List UInt8} (s:Tx),(∀c∈l,¬c=35)->(wrap l s).count 35=l.length+s.count 35
 | [],s,_=>by simp [wrap]
 | c::l,s,h=>by
  have G:=uX (l:=l) s λc hc=>h c (OZ _ hc)
  simp only [wrap,OF];rw [List.count_cons,bs (h c (by simp)),bs (by decide),G];simp;omega
theorem pD:∀{l:List UInt8} {s:Tx} {c:UInt8},(c∈l\/c∈s)->c∈wrap l s
 | [],s,c,h=>by simpa [wrap]using h
 | d::l,s,c,h=>by
  simp only [wrap,O4];rcases h with h | h
  ·rcases O4.1 h with h | h
   ·exact .inr (.inl h)
   ·exact .inr (.inr (.inr (pD (.inl h))))
  ·exact .inr (.inr (.inr (pD (.inr h))))
theorem gQ {k m:Nat}{Θ ls A:Tx}(h:Ir k m Θ ls A):cT A=addK ls (cT Θ):=by
 funext c
 rw [yi,cT,cT,PM];simp only [OW,Qg];exact h.mem c
structure KR (k i:Nat)(Θ ls A:Tx):Prop where
 ok:Ir k i Θ ls A
 good:gI i (cT Θ)=false->ls=lets i (cT Θ)
 bad:gI i (cT Θ)=true->∃c∈ls,128<=c
theorem KR.zero {k:Nat}{Θ:Tx}(h:jb Θ):KR k 0 Θ [] Θ:=
 ⟨⟨rfl,Qi,λc hc=>(by cases hc),h,λc=>by simp⟩,λ _=>rfl,λh=>by simp [gI]at h⟩
theorem KR.snoc {k i:Nat}{Θ ls A W:Tx}{c:UInt8}(h:KR k i Θ ls A)(hc:Ag (k+i) A c)(Z:jb W)(hA:∀x,x∈W↔x=c\/x∈A):KR k (i+1) Θ (ls++[c]) W:=by
 have J:c∉ls:=λhm=>hc.nin ((h.ok.mem c).2 (.inr hm))
 have V:c∉Θ:=λhm=>hc.nin ((h.ok.mem c).2 (.inl hm))
 refine⟨⟨by simp [h.ok.len],?_,λd hd=>?_,Z,λd=>?_⟩,λhb=>?_,λhb=>?_⟩
 ·refine Pp.2 ⟨h.ok.nd,by simp,λa ha b hb e=>?_⟩;have:b=c:=by simpa using hb
  subst this;subst e;exact J ha
 ·rcases OS.1 hd with hd | hd
  ·have :=h.ok.ok d hd;exact⟨this.1,this.2.1.mono (by omega),this.2.2⟩
  ·have:d=c:=by simpa using hd
   subst this;exact⟨V,by rw [<-Q9];exact hc.okn,hc.ngr,hc.nm⟩
 ·rw [hA,h.ok.mem,OS,OO];constructor
  ·rintro(h | h | h)
   ·exact .inr (.inr h)
   ·exact .inl h
   ·exact .inr (.inl h)
  ·rintro(h | h | h)
   ·exact .inr (.inl h)
   ·exact .inr (.inr h)
   ·exact .inl h
 ·rw [qF,Qd]at hb;have e:=h.good hb.1;rw [xq,<-e]
  congr 2
  have G:=hb.2;rw [<-e,<-gQ h.ok]at G;rw [<-gQ h.ok];exact hc.good G
 ·rw [qF,Qg]at hb;cases H:gI i (cT Θ)with
  | true=>
   obtain⟨d,h1,h2⟩:=h.bad H;exact⟨d,by simp [h1],h2⟩
  | false=>
   rw [H]at hb;have G:=hb.resolve_left (by simp);rw [<-h.good H,<-gQ h.ok]at G;exact⟨c,by simp,hc.bad G⟩
theorem xk:∀n,n<=90->(iq n).Nodup
 | 0,_=>Qi
 | n+1,h=>by
  rw [Ae];refine Pp.2 ⟨xk n (by omega),by simp,λa ha b hb e=>?_⟩;have hb:b=gl n:=by simpa using hb
  obtain⟨j,hj,G⟩:=iE.1 ha;have :=yu (by omega) (by omega) (G.symm.trans (e.trans hb));omega
structure Es (on:Bool)(σ:Nat->Nat)(u:U)(Lo:List Tx)(ls A best:Tx):Prop where
 mem:∃o∈Lo,xI on σ u o ls A best
 le:∀o∈Lo,∃r,xI on σ u o ls A r/\jJ best r=true
theorem xI.ne {on:Bool}{σ:Nat->Nat}{u:U}{o ls A r:Tx}(h:xI on σ u o ls A r)(G:(ak u).2≠[]):r≠[]:=by
 obtain⟨rs,rfl,ha⟩:=h;have H:=aR rs;refine BK (λs J=>?_) λe=>G (Pg ?_)
 ·obtain⟨t,_,V⟩:=ha.get' (H.subset J);exact V.ne
 ·rw [e]at H;rw [<-ha.1,H.symm.eq_nil];rfl
theorem xI.text {k:Nat}{σ:Nat->Nat}{u:U}{Θ o ls A r:Tx}{π:List Nat}(h:xI false σ u o ls A r)(hu:Uq u)(W:xS k Θ σ u)(Z:Ir k (ak u).1.length Θ ls A)(H:π.Perm (ak u).1)
  (ho:o.map UInt8.toNat=π.map (asgN (ak u).1 0 σ)) (J:o.Perm (iq (ak u).1.length)) (hm:(ak u).1.length<=64) (V:∀t∈(ak u).2,ax (tl [t])<=5) (α:∀t∈(ak u).2,thBad (tl [t]) (cT A)=false) {ρ:Rh} (hc:Compat ρ σ u):
  r=joinS 38 (a6 ((ak u).2.map λt=>thU t (asg π ls ρ) (cT A))):=by
 obtain⟨rs,rfl,ha⟩:=h
 congr 2
 have γ:∀y∈(ak u).1,∀z∈(ak u).1,asgN (ak u).1 0 σ z=asgN (ak u).1 0 σ y->z=y:=by
  intro y hy z hz e;obtain⟨i,hi,rfl⟩:=PD.1 hy;obtain⟨j,hj,rfl⟩:=PD.1 hz;rw [kz _ _ _ _ hi (gO u hu),kz _ _ _ _ hj (gO u hu),Ph,Ph]at e;have :=yu (by omega) (by omega) (Pe.1 e);subst this;rfl
 have δ:o.Nodup:=J.nodup_iff.2 (xk _ (by omega));have :=aP.map_eq (f:=λr:Tx=>r) (g:=λt=>thU t (asg π ls ρ) (cT A)) (ha.mono λr t _ ht hw=>hw.eq (V t ht) rfl (α t ht) (asg π ls ρ) λy hy=>?_)
 ·simpa using this
 ·show(asg π ls ρ y).toNat=rnv o ls (asgN (ak u).1 0 σ y);by_cases G:y∈(ak u).1
  ·refine(D7 π o ls _ ρ y ho (by rw [H.length_eq,Z.len]) (λl hl ε=>?_) (H.symm.subset G) (λz hz e=>γ y G z (H.subset hz) e) δ).symm;obtain⟨j,h1,rfl⟩:=iE.1 (J.subset ε);exact eM (Z.ok _ hl).2.2.1 (yv (by omega))
  ·have β:=(lA u hu t ht y hy).resolve_right G;rw [bV π ls ρ y λh=>G (H.subset h),jv _ _ _ _ G,xU,hc y β];intro o' ζ e;obtain⟨c,h1,h2⟩:=W.cov y β;obtain⟨j,h3,rfl⟩:=iE.1 (J.subset ζ);have:c=gl j:=Pe.1 (h2.trans e);exact eM (W.okn c h1).2 (this▸yv (by omega))
theorem sB {u:U}(hu:Uq u):bn u<=5->(ak u).1.length<=5/\∀t∈(ak u).2,ax (tl [t])<=5:=by
 intro h;obtain⟨G,h2,_⟩:=gu u hu;unfold bn at h;rw [G,h2.length_eq]at h;exact⟨by omega,(sS _ _).1 (by omega)⟩
theorem AP {u:U}(hu:Uq u):decide (5< bn u)=(decide (5< (ak u).1.length)||(ak u).2.any λt=>decide (5< ax (tl [t]))):=by
 rw [PM,Qg,OW,OW,QP];constructor
 ·intro h;rcases Qn 5 (ak u).1.length with G | G
  ·exact .inl G
  ·right;refine PJ λV=>?_
   have h2:∀t∈(ak u).2,ax (tl [t])<=5:=λt Z=>by
    rcases Qn 5 (ax (tl [t]))with H | H
    ·exact absurd ⟨t,Z,PL H⟩ V
    ·exact H
   obtain⟨W,J,_⟩:=gu u hu;unfold bn at h;rw [W,J.length_eq]at h;have :=(sS (ak u).2 5).2 h2;omega
 ·intro h;refine PJ λV=>?_
  obtain⟨W,J⟩:=sB hu (by omega);rcases h with h | ⟨t,G,h2⟩
  ·omega
  ·have :=J t G;have :=O7 h2;omega
theorem WR.KK {on:Bool}{k:Nat}{σ:Nat->Nat}{u:U}{Θ ls A best:Tx}{Lo:List Tx}(hu:Uq u)(V:(ak u).2≠[])(γ:xS k Θ σ u)(hl:KR k (ak u).1.length Θ ls A)(hm:(ak u).1.length<=64)
  (δ:∀o∈Lo,o.Perm (iq (ak u).1.length)) (ε:on=false->∀o,o.Perm (iq (ak u).1.length)->o∈Lo) (h:Es on σ u Lo ls A best):WR on u σ Θ (wrap ls best):=by
 obtain⟨o0,ζ,hN⟩:=h.mem;have η:=hN.ne V;obtain⟨rs,G,ha⟩:=hN;have H:=hl.ok;have hp:=aR rs;have ι:rs≠[]:=λe=>V (Pg (by rw [<-ha.1,e];rfl))
 have κ:a6 rs≠[]:=λe=>ι (by rw [e]at hp;exact hp.symm.eq_nil)
 have μ:∀c∈ls,¬c=35:=λc hc=>jL (H.ok c hc).2.2.2
 obtain⟨g1,g2,_⟩:=gu u hu;have W:(td u).2.isNil=false:=by
  rw [dJ];cases hd:u.dead with
  | false=>rfl
  | true=>rw [du u hu hd]at V;exact absurd rfl V
 refine⟨λe=>?_,?_,λhM=>?_,λhM α hb=>?_,λhM α hb ρ hc=>?_⟩
 ·have :=fP ls best;rw [e]at this;have h2:best.length≠0:=λe=>η (Pg e)
  simp at this;omega
 ·have J:=oH 38 _ κ;have h2:=mJ hp;have h3:=ha.G8;have h4:=fM u;rw [fP,H.len,G];omega
 ·obtain⟨m1,m2⟩:=sB hu hM;rw [uX _ μ,H.len,G,lH (by decide),jr (hp.map _)];unfold cQ;rw [g1,g2.length_eq,Cw]
  congr 2
  exact aP.map_eq (ha.mono λr t _ ht hw=>hw.cnt (m2 t ht))
 ·obtain⟨m1,m2⟩:=sB hu hM;unfold dD gg at hb;rw [W,g2.length_eq]at hb;simp only [Bool.not_false,QC,Qg]at hb;cases β:gI (ak u).1.length (cT Θ)with
  | true=>
   obtain⟨c,J,h2⟩:=hl.bad β;exact⟨c,pD (.inl J),h2⟩
  | false=>
   rw [β]at hb;have hb:=hb.resolve_left (by simp);rw [<-hl.good β,<-gQ H,g1,sY,QP]at hb;obtain⟨t,J,h2⟩:=hb;obtain⟨r,h3,h4⟩:=ha.get J;obtain⟨c,h5,h6⟩:=h4.bad (m2 t J) α h2;refine⟨c,pD (.inr ?_),h6⟩;rw [G];exact qS (hp.symm.subset h3) h5
 ·obtain⟨m1,m2⟩:=sB hu hM;subst α;unfold dD gg at hb;rw [W,g2.length_eq]at hb;simp only [Bool.not_false,QC,Qd]at hb;have e:=hl.good hb.1;have Z:=hb.2;rw [<-e,<-gQ H,g1,sY,List.any_eq_false]at Z;have Z:∀t∈(ak u).2,thBad (tl [t]) (cT A)=false:=λt ht=>by simpa using Z t ht
  rw [yc hu];unfold aU;rw [O1 (by simpa using V)];show _=wrap (lets _ (cT Θ)) (bO (List.map (λπ=>joinS 38 (a6 ((ak u).2.map λt=>thU t (asg π (lets _ (cT Θ)) ρ) (addK (lets _ (cT Θ)) (cT Θ))))) _));rw [<-e,<-gQ H]
  congr 1
  symm
  have θ:∀o:Tx,o.Perm (iq (ak u).1.length)->∃π:List Nat,π.Perm (ak u).1/\o.map UInt8.toNat=π.map (asgN (ak u).1 0 σ):=λo ho=>by
   refine ka ((ho.map UInt8.toNat).trans ?_);have:(iq (ak u).1.length).map UInt8.toNat=(ak u).1.map (asgN (ak u).1 0 σ):=by
    refine Rv (by simp [iC]) λi J h2=>?_
    simp only [RY];have hi:i< (ak u).1.length:=by simpa using h2
    rw [kz _ _ _ _ hi (gO u hu),Ph];simp [iq]
   rw [this]
  refine gM ?_ λs hs=>?_
  ·obtain⟨π,J,h2⟩:=θ o0 (δ _ ζ);refine Pw.2 ⟨π,(db _ _).2 J,?_⟩;exact(xI.text ⟨rs,G,ha⟩ hu γ H J h2 (δ _ ζ) hm m2 Z hc).symm
  ·obtain⟨π,J,rfl⟩:=Pw.1 hs;have J:=(db _ _).1 J;have h3:(π.map (asgN (ak u).1 0 σ)).Perm ((iq (ak u).1.length).map UInt8.toNat):=by
    have:(iq (ak u).1.length).map UInt8.toNat=(ak u).1.map (asgN (ak u).1 0 σ):=by
     refine Rv (by simp [iC]) λi J h2=>?_
     simp only [RY];have hi:i< (ak u).1.length:=by simpa using h2
     rw [kz _ _ _ _ hi (gO u hu),Ph];simp [iq]
    rw [this];exact J.map _
   obtain⟨o,h4,h5⟩:=ka h3;obtain⟨r,h6,h7⟩:=h.le o (ε rfl o h4);rw [<-h6.text hu γ H J h5.symm h4 hm m2 Z hc];exact h7
theorem WR.Jc {on:Bool}{u:U}{σ:Nat->Nat}{Θ:Tx}(hu:Uq u)(hd:u.dead=true):WR on u σ Θ [48]:=by
 obtain⟨G,h2,H,h4⟩:=pR hu hd;exact⟨by simp,A6 u,λ _=>by rw [H];rfl,λ _ _ hb=>(by rw [h2]at hb;cases hb),λ _ _ _ ρ _=>by rw [G]⟩
theorem WR.FE {on:Bool}{u:U}{σ:Nat->Nat}{Θ:Tx}(h:5< bn u):WR on u σ Θ [48]:=
 ⟨by simp,A6 u,λhm=>by omega,λhm=>by omega,λhm=>by omega⟩
theorem Ex.aJ {w w':World}(h:w.grownBy w' none):Ex w w':=⟨h.os,h.tape,h.output,h.size,λg G=>h.block g G (by simp)⟩
theorem JH:∀(u:U),∀t∈(ak u).2,t.ow+(ak u).1.length<=u.ow/\t.rd<=u.rd:=by
 intro u
 induction u with
 | nil=>intro t h;simp [ak]at h
 | snd=>intro t h;simp [ak]at h;subst h;simp [ak]
 | rcv=>intro t h;simp [ak]at h;subst h;simp [ak]
 | tau=>intro t h;simp [ak]at h;subst h;simp [ak]
 | sum p q G H=>
  intro t h;simp only [ak]at h|-;split at h
  ·rename_i e;rw [Pj e];have :=H t h;simp only [T.ow,T.rd];omega
  ·rename_i e;rw [O1 e];split at h
   ·rename_i J;rw [Pj J];have :=G t h;simp only [T.ow,T.rd];omega
   ·rename_i J;rw [O1 J];simp at h;subst h;simp
 | par p q G H=>
  intro t h;simp only [ak,OS]at h;simp only [ak,T.ow,T.rd,OM];have V:=iZ p;have W:=iZ q;rcases h with h | h
  ·have :=G t h;omega
  ·have :=H t h;omega
 | res x p G=>
  intro t h;have :=G t h;simp only [ak,T.ow,T.rd];split
  ·simp only [OF];omega
  ·omega
 | mat a b p G=>
  intro t h;simp only [ak]at h|-;split at h
  ·rename_i e;rw [Pj e];exact G t h
  ·rename_i e;rw [O1 e];split at h
   ·simp at h
   ·rename_i J;rw [O1 J];simp at h;subst h;simp
 | rep p G=>
  intro t h;simp only [ak]at h|-;split at h
  ·simp at h
  ·rename_i J;rw [O1 J];simp at h;subst h;simp
theorem K2 {p:P}{u:U}{ρ:UInt8->Nat}{σ:Nat->Nat}(h:AE ρ p σ u):u.rd=p.rd:=by
 induction p generalizing u ρ σ<;>cases u<;>simp only [AE]at h<;>simp only [T.rd]
 case snd.snd G _ _ _=>exact G h.2.2
 case mat.mat G _ _ _=>exact G h.2.2
 case rcv.rcv G _ _ _=>rw [G (h.2 0)]
 case res.res G _ _=>exact G (h 0)
 case tau.tau G _=>exact G h
 case rep.rep G _=>exact G h
 case sum.sum G H _ _=>rw [G h.1,H h.2]
 case par.par G H _ _=>rw [G h.1,H h.2]
theorem yj {l:Tx}{i:Nat}(h:i< l.length):List.drop (Int.toNat (i:Int)) (List.take (Int.toNat ((i:Int)+1)) l)=[bt l i]:=by
 have e:Int.toNat ((i:Int)+1)=i+1:=by omega
 rw [e,OU,iH h];exact List.drop_left' (by rw [Pt];omega)
theorem EN {l:Tx}{i:Nat}(h:i< l.length):List.drop i (List.take (Int.toNat ((i:Int)+1)) l)=[bt l i]:=by
 have :=yj h
 rwa [OU]at this
theorem qT {l:Tx}{i:Nat}(h:i< l.length)(s:Tx):wrap (l.drop i) s=35::bt l i::46::wrap (l.drop (i+1)) s:=by
 rw [sW h];rfl
end Go.Proofs.YtdecokaadekjnaaGreat
