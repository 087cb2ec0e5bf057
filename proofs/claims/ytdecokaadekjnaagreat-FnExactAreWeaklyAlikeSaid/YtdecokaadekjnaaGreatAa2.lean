/- Part 2 of a proof of what the last text states; no condition. -/
import Derived.Test.YtdecokaadekjnaaGreatAa1
set_option maxRecDepth 100000
set_option maxHeartbeats 4000000
namespace Go.Proofs.YtdecokaadekjnaaGreat
open Go Go.RowKit
theorem lj {s:Tx}{i:Nat}(h:i< s.length):bt s i∈s:=by
 simp only [bt,P3,OC h,Option.getD_some];exact OK h
theorem C6 {s:Tx}{c:UInt8}(h:c∈s):∃i,i< s.length/\bt s i=c:=by
 obtain⟨i,hi,e⟩:=Py.1 h;exact⟨i,hi,by simp [bt,hi,e]⟩
theorem iU {s:Tx}{c:UInt8}(V:s.length<=1099511627776){w:World}{R:Bool->Sg}(h:R (decide (c∈s)) w):Sh 56 #[.string (ai s),.int .u8 c.toNat] w (aw [.b] R):=by
 refine yh s c w R ?_;dsimp only [go_sem];dsimp only [go_sem,UInt8.reduceOfNat,UInt32.reduceOfNat,Nat.reduceAdd];refine⟨λi w'=>w=w'/\0<=i/\i<=s.length/\∀j:Nat,j< i->bt s j≠c,λi _=>((s.length:Int) - i).toNat,⟨rfl,by omega,by omega,λj hj=>by omega⟩,λi w1 H=>?_⟩;obtain⟨rfl,W,Z,h2⟩:=H;refine⟨λhc=>⟨by simp at hc;omega,λhe=>?_,λhe=>?_⟩,λhc=>?_⟩
 ·simp only [OQ]at hc he;rw [PG (he▸lj (by omega))]at h;exact h
 ·simp only [OQ,OP]at hc he;refine⟨by omega,⟨rfl,by omega,by omega,λj hj=>?_⟩,by dsimp only;omega⟩;rcases Qi j i.toNat with G | G
  ·exact h2 j (by omega)
  ·have:j=i.toNat:=by omega
   rw [this];exact he
 ·simp only [OP]at hc;have J:¬c∈s:=λhm=>by
   obtain⟨j,hj,e⟩:=C6 hm;exact h2 j (by omega) e
  rw [PT J]at h;exact h
theorem wY {s:Tx}{i:Int}(H:0<=i)(h:i< s.length):List.drop i.toNat (List.take (i+1).toNat s)=[bt s i.toNat]:=by
 obtain⟨n,rfl⟩:∃n:Nat,i=n:=⟨i.toNat,by omega⟩
 have e:((n:Int)+1).toNat=n+1:=by omega
 have G:n< s.length:=by omega
 rw [e,OO,List.drop_take,Nat.add_sub_cancel_left,bK G];rfl
theorem gM {s:Tx}{i:Int}(H:0<=i)(h:i< s.length):s.take (i+1).toNat=s.take i.toNat++[bt s i.toNat]:=by
 obtain⟨n,rfl⟩:∃n:Nat,i=n:=⟨i.toNat,by omega⟩
 have e:((n:Int)+1).toNat=n+1:=by omega
 have G:n< s.length:=by omega
 rw [e,OO,List.take_add_one]
 congr 1
 simp [bt,OC G]
theorem Ay {s:Tx}{c:UInt8}(J:s.length<=1099511627776){w:World}{R:aB->Sg}(h:R (s.filter λd=>decide (d≠c)) w):Sh 119 #[.string (ai s),.int .u8 c.toNat] w (aw [.s] R):=by
 refine uw s c w R ?_;dsimp only [go_sem];dsimp only [go_sem,UInt8.reduceOfNat,UInt32.reduceOfNat,Nat.reduceAdd];refine⟨λout i w'=>w=w'/\0<=i/\i<=s.length/\out=(s.take i.toNat).filter λd=>decide (d≠c),λ _ i _=>((s.length:Int) - i).toNat,⟨rfl,by omega,by omega,rfl⟩,λout i w1 H=>?_⟩;obtain⟨rfl,G,V,rfl⟩:=H;refine⟨λhc=>?_,λhc=>?_⟩
 ·simp only [OQ]at hc;have W:((s.take i.toNat).filter λd=>decide (d≠c)).length<=s.length:=PI (QD ..) (by rw [Pm];omega);refine⟨by omega,λhe=>?_,λhe=>?_⟩
  ·simp only [QB,OP]at he;rw [wY G hc];refine⟨by omega,by omega,by simp only [OA,OS];omega,by omega,⟨rfl,by omega,by omega,?_⟩,by dsimp only;omega⟩;rw [gM G hc,List.filter_append,List.filter_cons,if_pos (by simpa using he),List.filter_nil]
  ·simp only [Bool.not_eq_false',OQ]at he;refine⟨by omega,⟨rfl,by omega,by omega,?_⟩,by dsimp only;omega⟩;rw [gM G hc,List.filter_append,List.filter_cons,if_neg (by simpa using he),List.filter_nil,List.append_nil]
 ·simp only [OP]at hc;have:i.toNat=s.length:=by omega
  rw [this,O6];exact h
theorem lQ {w1:World}(c:UInt8){w2:World}{b:Nat}(hb:b=w1.heap.size)(h:w2=w1.alloc (.cells #[.int .u8 c.toNat] 5)):
  ∀(j:Nat) (x:UInt8),[c][j]?=some x->w2.cell? ⟨b,0+j,none⟩=some (.int .u8 x.toNat):=by
 intro j x G;subst hb h
 match j,G with
 | 0,G=>simp at G;subst G;exact aa rfl
 | j+1,G=>simp at G
theorem fG {s:Tx}{c:UInt8}(hs:jb s){w:World}{R:aB->Sg}(h:∀s' w',Ex w w'->jb s'->(∀x,x∈s'↔x=c\/x∈s)->R s' w'):
  Sh 121 #[.string (ai s),.int .u8 c.toNat] w (aw [.s] R):=by
 refine vN s c w R ?_;dsimp only [go_sem];dsimp only [go_sem,UInt8.reduceOfNat,UInt32.reduceOfNat,Nat.reduceAdd];have hl:=hs.bound;refine⟨λi w'=>w=w'/\0<=i/\i<=s.length/\∀j:Nat,j< i->bt s j< c,λi _=>((s.length:Int) - i).toNat,⟨rfl,by omega,by omega,λj hj=>by omega⟩,λi w1 hI=>?_⟩;obtain⟨rfl,h0,h1,h2⟩:=hI;have put:(i=s.length\/c< bt s i.toNat)->∀w1,w1=w.drew->(0<=i/\i<=s.length)/\(0<=i/\i<=s.length)/\∀(b9:Nat) (J:World),b9=w1.heap.size->J=w1.alloc (.cells #[.int .u8 c.toNat] 5)->
   True/\∃(β γ δ W:Nat) (H:aB),(Value.slice (some ⟨b9,0,none⟩) 1 1)=Value.slice (some ⟨β,γ,none⟩) δ W/\H.length=δ/\(∀(j:Nat) (x:UInt8),H[j]?=some x->J.cell? ⟨β,γ+j,none⟩=some (.int .u8 x.toNat))/\True/\
    ((s.take i.toNat).length+H.length<=4611686018427387904)/\((s.take i.toNat++H).length+(s.drop i.toNat).length<=4611686018427387904)/\R ((s.take i.toNat++H)++s.drop i.toNat) J:=by
  rintro hp w1 rfl
  refine⟨by omega,by omega,λb9 J hb hw=>⟨trivial,b9,0,1,1,[c],rfl,rfl,lQ c hb hw,trivial,?_,?_,?_⟩⟩
  ·simp only [Pm,OA,OS];omega
  ·simp only [OG,Pm,Ql,OA,OS];omega
  ·have ε:∀x∈s.take i.toNat,x< c:=by
    intro x G;obtain⟨j,hj,e⟩:=C6 G;rw [Pm]at hj;have:bt (s.take i.toNat) j=bt s j:=by simp only [bt,P3];rw [Qh (by omega)]
    rw [<-e,this];exact h2 j (by omega)
   have ζ:∀x∈s.drop i.toNat,c< x:=by
    rcases hp with hp | hp
    ·intro x G;rw [hp,OO,QL]at G;cases G
    ·intro x G;have hi:i.toNat< s.length:=by
      rcases Qi i.toNat s.length with h | h
      ·exact h
      ·rw [Qn h]at G;cases G
     have hd:=bK hi;have η:jb (s.drop i.toNat):=QE (List.drop_sublist _ _) hs;rw [hd]at G η;rcases OY.1 G with rfl | G
     ·exact hp
     ·exact UInt8.lt_trans hp ((QS.1 η).1 x G)
   refine h _ _ (hw▸(Ex.drew w).trans (Ex.alloc _ _)) ?_ ?_
   ·rw [Po];refine RN.2 ⟨QE (List.take_sublist _ _) hs,?_,?_⟩
    ·exact QS.2 ⟨ζ,QE (List.drop_sublist _ _) hs⟩
    ·intro x G y hy;rcases OY.1 hy with rfl | hy
     ·exact ε x G
     ·exact UInt8.lt_trans (ε x G) (ζ y hy)
   ·intro x;have:x∈s↔x∈s.take i.toNat\/x∈s.drop i.toNat:=by rw [<-OM,PZ]
    rw [this];simp only [OM,OY,Qz,QZ];constructor
    ·rintro((h | h) | h)
     ·exact .inr (.inl h)
     ·exact .inl h
     ·exact .inr (.inr h)
    ·rintro(h | h | h)
     ·exact .inl (.inr h)
     ·exact .inl (.inl h)
     ·exact .inr h
 have same:i< s.length->bt s i.toNat=c->R s w:=λhi he=>h s w (Ex.refl w) hs λx=>⟨.inr,λG=>G.elim (λe=>by rw [e,<-he];exact lj (by omega)) id⟩
 have fin:i< s.length->¬bt s i.toNat< c->¬bt s i.toNat=c->c< bt s i.toNat:=λ _ h1 h2=>by
  rcases UInt8.lt_or_lt_of_ne (RV h2)with h | h
  ·exact h
  ·exact absurd h h1
 refine⟨λhc=>?_,λhc=>?_⟩
 ·have V:i< s.length:=by simpa using hc
  refine⟨by omega,λhb=>?_,λhb=>?_⟩
  ·simp only [OQ]at hb;refine⟨by omega,⟨rfl,by omega,by omega,λj hj=>?_⟩,by dsimp only;omega⟩;rcases Qi j i.toNat with θ | θ
   ·exact h2 j (by omega)
   ·have:j=i.toNat:=by omega
    rw [this];exact hb
  ·simp only [OP]at hb;refine⟨λ _=>⟨by omega,λhe=>same V (by simpa using he),λhe=>?_⟩,λZ=>absurd hc (by rw [Z];simp)⟩;exact⟨λ _=>True,λw1 α=>⟨trivial,put (.inr (fin V hb (by simpa using he))) w1 α⟩⟩
 ·have V:i=s.length:=by simp at hc;omega
  refine⟨λZ=>absurd Z (by rw [hc];simp),λ _=>?_⟩;exact⟨λ _=>True,λw1 α=>⟨trivial,put (.inl V) w1 α⟩⟩
theorem fN {s t:Tx}(Z:jb s)(ht:t.length<=1099511627776){w:World}{R:aB->Sg}(h:∀G w',Ex w w'->jb G->(∀x,x∈G↔x∈s\/x∈t)->R G w'):
  Sh 104 #[.string (ai s),.string (ai t)] w (aw [.s] R):=by
 refine sY s t w R ?_;dsimp only [go_sem];dsimp only [go_sem,UInt8.reduceOfNat,UInt32.reduceOfNat,Nat.reduceAdd];refine⟨λout i w'=>Ex w w'/\0<=i/\i<=t.length/\jb out/\∀x,x∈out↔x∈s\/x∈t.take i.toNat,λ _ i _=>((t.length:Int) - i).toNat,⟨Ex.refl w,by omega,by omega,Z,by simp⟩,λout i w1 hI=>?_⟩;obtain⟨W,h0,h1,h2,H⟩:=hI;refine⟨λhc=>?_,λhc=>?_⟩
 ·simp only [OQ]at hc;refine⟨by omega,fG h2 λG w' J V hm=>⟨by omega,⟨W.trans J,by omega,by omega,V,λx=>?_⟩,by dsimp only;omega⟩⟩;rw [hm,H,gM h0 hc,List.mem_append,List.mem_singleton];constructor
  ·rintro(h | h | h)
   ·exact .inr (.inr h)
   ·exact .inl h
   ·exact .inr (.inl h)
  ·rintro(h | h | h)
   ·exact .inr (.inl h)
   ·exact .inr (.inr h)
   ·exact .inl h
 ·simp only [OP]at hc;have:i.toNat=t.length:=by omega
  rw [this,O6]at H;exact h out w1 W h2 H
def tZ (s:Tx)(c:UInt8):Prop:=
 we (λd=>decide (d∈s))=some c\/
 (we (λd=>decide (d∈s))=none/\128<=c/\c<=191/\(∀d:UInt8,128<=d->d< c->d∈s)/\(c∉s\/c=191))
theorem CZ (i:Nat)(h:i< nz.length):nz[i]=UInt8.ofNat (97+i):=by
 simp [nz]
theorem tV {f:UInt8->Bool}{c:UInt8}(G:97<=c)(h2:c<=122)(H:f c=true)(J:∀d:UInt8,97<=d->d< c->f d=false):nz.find? f=some c:=by
 have V:97<=c.toNat:=O0.1 G;have W:c.toNat<=122:=O0.1 h2;have Z:nz.length=26:=by simp [nz]
 rw [List.find?_eq_some_iff_getElem];refine⟨H,c.toNat - 97,by omega,?_,λj hj=>?_⟩
 ·rw [CZ];apply O8.1;rw [PM];omega
 ·rw [CZ];have e:(UInt8.ofNat (97+j)).toNat=97+j:=by rw [PM];omega
  rw [J _ (O0.2 (by rw [e];show 97<=_;omega)) (Pv.2 (by omega))];rfl
theorem wq {f:UInt8->Bool}(G:∀d:UInt8,97<=d->d<=122->f d=false):nz.find? f=none:=by
 rw [List.find?_eq_none];intro d hd;have H:nz.length=26:=by simp [nz]
 obtain⟨j,hj,rfl⟩:=Py.1 hd;rw [CZ];have e:(UInt8.ofNat (97+j)).toNat=97+j:=by rw [PM];omega
 rw [G _ (O0.2 (by rw [e];show 97<=_;omega)) (O0.2 (by rw [e];show _<=122;omega))];simp
theorem jd {s:Tx}(hs:s.length<=1099511627776){w:World}{R:UInt8->Sg}(h:∀c,tZ s c->R c w):Sh 75 #[.string (ai s)] w (aw [.c] R):=by
 refine rQ s w R ?_;dsimp only [go_sem];dsimp only [go_sem,UInt8.reduceOfNat,UInt32.reduceOfNat,Nat.reduceAdd];refine⟨λc w'=>w=w'/\97<=c/\c<=123/\∀d:UInt8,97<=d->d< c->d∈s,λc _=>200 - c.toNat,⟨rfl,by decide,by decide,λd h1 h2=>absurd (UInt8.lt_of_le_of_lt h1 h2) (RB _)⟩,λc w1 hI=>?_⟩;obtain⟨rfl,h0,h1,h2⟩:=hI;have ε:=O0.1 h0;have ζ:=O0.1 h1;refine⟨λhc=>iU hs ?_,λhc=>?_⟩
 ·simp only [OQ]at hc;have Z:=O0.1 hc;refine⟨λhm=>?_,λhm=>?_⟩
  ·simp only [QB,OP]at hm;refine h c (.inl (tV h0 hc (by simpa using hm) λd G H=>by simpa using h2 d G H))
  ·simp only [Bool.not_eq_false',OQ]at hm;have e:(c+1).toNat=c.toNat+1:=by rw [Rz];show(c.toNat+1) % 256=_;exact RT (by have:(122:UInt8).toNat=122:=rfl;omega)
   have α:(122:UInt8).toNat=122:=rfl;have γ:(123:UInt8).toNat=123:=rfl;have η:(97:UInt8).toNat=97:=rfl;refine⟨⟨rfl,O0.2 (by omega),O0.2 (by omega),λd G H=>?_⟩,by dsimp only;omega⟩;have W:=Pv.1 H;by_cases J:d=c
   ·rw [J];exact hm
   ·refine h2 d G (Pv.2 ?_);have:d.toNat≠c.toNat:=λe=>J (O8.1 e)
    omega
 ·simp only [OP]at hc;have Z:¬c.toNat<=122:=λhh=>hc (O0.2 hh)
  have V:we (λd=>decide (d∈s))=none:=by
   refine wq λd G H=>?_
   have W:=O0.1 H;have α:(122:UInt8).toNat=122:=rfl;simpa using h2 d G (Pv.2 (by omega))
  refine⟨λc w'=>w=w'/\128<=c/\c<=191/\∀d:UInt8,128<=d->d< c->d∈s,λc _=>200 - c.toNat,⟨rfl,by decide,by decide,λd h1 h2=>absurd (UInt8.lt_of_le_of_lt h1 h2) (RB _)⟩,λc w1 hI=>?_⟩;obtain⟨rfl,k0,k1,k2⟩:=hI;have θ:=O0.1 k0;have ι:=O0.1 k1;refine⟨λhc=>iU hs ?_,λhc=>?_⟩
  ·simp only [OQ]at hc;have Z:=Pv.1 hc;have β:(191:UInt8).toNat=191:=rfl;have δ:(128:UInt8).toNat=128:=rfl;refine⟨λhm=>?_,λhm=>?_⟩
   ·simp only [OQ]at hm;have e:(c+1).toNat=c.toNat+1:=by rw [Rz];show(c.toNat+1) % 256=_;exact RT (by omega)
    refine⟨⟨rfl,O0.2 (by omega),O0.2 (by omega),λd G H=>?_⟩,by dsimp only;omega⟩;have W:=Pv.1 H;by_cases J:d=c
    ·rw [J];exact hm
    ·refine k2 d G (Pv.2 ?_);have:d.toNat≠c.toNat:=λe=>J (O8.1 e)
     omega
   ·simp only [OP]at hm;exact h c (.inr ⟨V,k0,k1,k2,.inl hm⟩)
  ·simp only [OP]at hc;have Z:¬c.toNat< 191:=λhh=>hc (Pv.2 hh)
   have β:(191:UInt8).toNat=191:=rfl;exact h c (.inr ⟨V,k0,k1,k2,.inr (O8.1 (by omega))⟩)
theorem bc (t:P):t.size=1+(t.parts.map T.size).sum:=by
 cases t<;>simp [T.size,T.parts]<;>omega
theorem Au (l:List P)(k:Nat):((l.take k).map T.size).sum<=(l.map T.size).sum:=by
 conv=>rhs;rw [<-PZ k l]
 rw [PC,R4];omega
theorem eh (t:P):t.parts.length<=2:=by cases t<;>simp [T.parts]
theorem ef {t p:P}(h:p∈t.parts):p.size< t.size:=by
 cases t<;>simp only [T.parts,OY,Qz,QZ,List.mem_nil_iff]at h<;>simp only [T.size]
 all_goals first | exact h.elim | (rcases h with rfl | rfl<;>omega) | (subst h;omega)
theorem Iz:∀(n:Nat) {t:P},t.size<=n->Ok t->∀{w:World} {R:Int->Sg},(∀w',Ex w w'->R (t.size:Int) w')->Sh 111 #[.string (ai t.text)] w (aw [.i] R):=by
 intro n
 induction n with
 | zero=>intro t h;have :=bc t;omega
 | succ n ih=>
  intro t hn ok w R h;refine uP _ w R ?_;dsimp only [go_sem];dsimp only [go_sem,UInt8.reduceOfNat,UInt32.reduceOfNat,Nat.reduceAdd];refine de ok λv w1 hx Z=>?_
  obtain⟨a,cap,hv⟩:=Z.slice;rw [O3]at hv;have α:=bD t;have hle:=ok.len;refine⟨a,t.parts.length,cap,hv,λm x w'=>Ex w w'/\Strs w' v (t.parts.map T.text)/\∃k:Nat,x=k/\k<=t.parts.length/\m=1+(((t.parts.take k).map T.size).sum:Int),λ _ x _=>((t.parts.length:Int) - x).toNat,
   ⟨hx,Z,0,rfl,by omega,by simp⟩,λm x w2 hI=>?_⟩
  obtain⟨H,J,k,rfl,hk,rfl⟩:=hI;refine⟨λhc=>?_,λhc=>?_⟩
  ·have G:k< t.parts.length:=by simpa using hc
   obtain⟨b,o,cp,e1,e2,e3⟩:=J.at (i:=k) (by rw [O3];exact G);rw [O3]at e1;refine⟨b,o,t.parts.length,cp,e1,by omega,by omega,(t.parts[k]).text,?_,?_⟩
   ·rw [OO,Pg,e3,RR]
   ·have hm:t.parts[k]∈t.parts:=OK G;refine ih (by have :=ef hm;omega) (ok.parts _ hm) λw3 V=>?_
    have W:((t.parts.take (k+1)).map T.size).sum=((t.parts.take k).map T.size).sum+(t.parts[k]).size:=by
     rw [OE G,PC,R4];simp
    have h1:=Au t.parts (k+1);have h2:=bc t;have h3:=eh t;refine⟨by omega,by omega,⟨H.trans V,J.ex V,k+1,by omega,G,by rw [W];omega⟩,by dsimp only;omega⟩
  ·have G:k=t.parts.length:=by simp at hc;omega
   subst G;have e:=bc t;rw [O6];have:(1:Int)+((t.parts.map T.size).sum:Int)=(t.size:Int):=by omega
   rw [this];exact h _ H
def dR (c:UInt8):Bool:= !((65<=c&&c<=90)||128<=c)
theorem FO {p:Tx}(W:p.length<=1099511627776){w:World}{R:Bool->Sg}(h:R (p.all dR) w):Sh 109 #[.string (ai p)] w (aw [.b] R):=by
 refine rW p w R ?_;dsimp only [go_sem];dsimp only [go_sem,UInt8.reduceOfNat,UInt32.reduceOfNat,Nat.reduceAdd];refine⟨λi w'=>w=w'/\0<=i/\i<=p.length/\∀j:Nat,j< i->dR (bt p j)=true,λi _=>((p.length:Int) - i).toNat,⟨rfl,by omega,by omega,λj hj=>by omega⟩,λi w1 H=>?_⟩;obtain⟨rfl,Z,h1,h2⟩:=H;have bad:i< p.length->dR (bt p i.toNat)=false->R false w:=λhi hb=>by
  have:p.all dR=false:=by
   rw [List.all_eq_false];exact⟨bt p i.toNat,lj (by omega),by simp [hb]⟩
  rw [this]at h;exact h
 have next:i< p.length->dR (bt p i.toNat)=true->a7 (i+1)/\(w=w/\0<=i+1/\i+1<=p.length/\∀j:Nat,j< i+1->dR (bt p j)=true)/\((p.length:Int) - (i+1)).toNat< ((p.length:Int) - i).toNat:=λhi hb=>by
  refine⟨by omega,⟨rfl,by omega,by omega,λj hj=>?_⟩,by omega⟩;rcases Qi j i.toNat with G | G
  ·exact h2 j (by omega)
  ·have:j=i.toNat:=by omega
   rw [this];exact hb
 refine⟨λhc=>?_,λhc=>?_⟩
 ·simp only [OQ]at hc;refine⟨by omega,λJ=>⟨by omega,λa2=>⟨by omega,λa3=>bad hc ?_,λa3=>next hc ?_⟩,λa2=>bad hc ?_⟩,λJ=>⟨by omega,λa3=>bad hc ?_,λa3=>next hc ?_⟩⟩<;>
   simp_all [dR]
 ·simp only [OP]at hc;have:p.all dR=true:=by
   rw [QI];intro x V;obtain⟨j,hj,rfl⟩:=C6 V;exact h2 j (by omega)
  rw [this]at h;exact h
def T.lw:P->Bool
 | .nil=>true | .snd a b p=>lt a&&lt b&&p.lw | .rcv a b p=>lt a&&lt b&&p.lw | .tau p=>p.lw | .sum p q=>p.lw&&q.lw
 | .par p q=>p.lw&&q.lw | .res x p=>lt x&&p.lw | .mat a b p=>lt a&&lt b&&p.lw | .rep p=>p.lw
theorem ib {c:UInt8}(h:lt c=true):nm c=true/\dR c=true:=by
 simp only [lt,OD,OQ]at h;have V:=O0.1 h.1;have h2:=O0.1 h.2;refine⟨by simp [nm,h.1,h.2],?_⟩;have J:(97:UInt8).toNat=97:=rfl;have H:(122:UInt8).toNat=122:=rfl;simp only [dR,QB,P8,Bool.and_eq_false_iff,OP];refine⟨.inr λG=>?_,λG=>?_⟩
 ·have :=O0.1 G;have e:(90:UInt8).toNat=90:=rfl;omega
 ·have :=O0.1 G;have e:(128:UInt8).toNat=128:=rfl;omega
theorem uV {c:UInt8}(h:nm c=true)(k:dR c=true):lt c=true:=by
 simp only [nm,lt,dR,Qb,OD,OQ,QB,P8,Bool.and_eq_false_iff,OP]at*;rcases h with(h | h) | h
 ·exact h
 ·exact absurd h (by rcases k.1 with k | k<;>simp [k])
 ·exact absurd h k.2
theorem jq:∀{t:P},t.lw=true->t.wf=true/\t.text.all dR=true
 | .nil,_=>⟨rfl,rfl⟩
 | .snd a b p,h=>by
  simp only [T.lw,OD]at h;have :=jq h.2;simp [T.wf,T.text,(ib h.1.1).1,(ib h.1.1).2,(ib h.1.2).1,(ib h.1.2).2,this.1,this.2];decide
 | .rcv a b p,h=>by
  simp only [T.lw,OD]at h;have :=jq h.2;simp [T.wf,T.text,(ib h.1.1).1,(ib h.1.1).2,(ib h.1.2).1,(ib h.1.2).2,this.1,this.2];decide
 | .mat a b p,h=>by
  simp only [T.lw,OD]at h;have :=jq h.2;simp [T.wf,T.text,(ib h.1.1).1,(ib h.1.1).2,(ib h.1.2).1,(ib h.1.2).2,this.1,this.2];decide
 | .res x p,h=>by
  simp only [T.lw,OD]at h;have :=jq h.2;simp [T.wf,T.text,(ib h.1).1,(ib h.1).2,this.1,this.2];decide
 | .tau p,h=>by have :=jq (t:=p) h;simp [T.wf,T.text,this.1,this.2];decide
 | .rep p,h=>by have :=jq (t:=p) h;simp [T.wf,T.text,this.1,this.2];decide
 | .sum p q,h=>by
  simp only [T.lw,OD]at h;have G:=jq h.1;have h2:=jq h.2;simp [T.wf,T.text,G.1,G.2,h2.1,h2.2];decide
 | .par p q,h=>by
  simp only [T.lw,OD]at h;have G:=jq h.1;have h2:=jq h.2;simp [T.wf,T.text,G.1,G.2,h2.1,h2.2];decide
theorem lP:∀{t:P},t.wf=true->t.text.all dR=true->t.lw=true
 | .nil,_,_=>rfl
 | .snd a b p,h,k=>by
  simp only [T.wf,T.text,OD,PU]at h k;simp [T.lw,uV h.1.1 k.1,uV h.1.2 k.2.2.1,lP h.2 k.2.2.2.2]
 | .rcv a b p,h,k=>by
  simp only [T.wf,T.text,OD,PU]at h k;simp [T.lw,uV h.1.1 k.1,uV h.1.2 k.2.2.1,lP h.2 k.2.2.2.2]
 | .mat a b p,h,k=>by
  simp only [T.wf,T.text,OD,PU]at h k;simp [T.lw,uV h.1.1 k.2.1,uV h.1.2 k.2.2.2.1,lP h.2 k.2.2.2.2.2]
 | .res x p,h,k=>by
  simp only [T.wf,T.text,OD,PU]at h k;simp [T.lw,uV h.1 k.2.1,lP h.2 k.2.2.2]
 | .tau p,h,k=>by simp only [T.text,OD,PU]at k;exact lP (t:=p) h k.2.2
 | .rep p,h,k=>by simp only [T.text,OD,PU]at k;exact lP (t:=p) h k.2
 | .sum p q,h,k=>by
  simp only [T.wf,T.text,OD,PU,Rf]at h k;simp [T.lw,lP h.1 k.2.1,lP h.2 k.2.2.2.1]
 | .par p q,h,k=>by
  simp only [T.wf,T.text,OD,PU,Rf]at h k;simp [T.lw,lP h.1 k.2.1,lP h.2 k.2.2.2.1]
structure Good (t:P):Prop where
 lw:t.lw=true
 len:t.text.length<=300
 size:t.size<=60
theorem Good.ok {t:P}(h:Good t):Ok t:=⟨(jq h.lw).1,by have :=h.len;omega⟩
theorem xj {p:Tx}{w:World}{R:Bool->Sg}(h:∀b w',Ex w w'->(b=true↔∃t:P,Good t/\t.text=p)->R b w'):Sh 65 #[.string (ai p)] w (aw [.b] R):=by
 refine uk p w R ?_;dsimp only [go_sem];dsimp only [go_sem,UInt8.reduceOfNat,UInt32.reduceOfNat,Nat.reduceAdd];by_cases W:p.length<=1099511627776
 rotate_left
 ·exact aW (by omega) (h _ _ (Ex.refl w) ⟨λH=>by simp at H,fun⟨t,G,e⟩=>by have :=G.len;rw [e]at this;omega⟩)
 refine⟨λhc=>FO W ⟨λJ=>?_,λJ=>?_⟩,λhc=>?_⟩
 ·simp only [OQ]at hc;refine ph p (by omega) (p.length+1) 0 (by omega) (by omega) (by omega) ⟨λhe=>?_,λhe=>?_⟩
  ·simp only [OQ]at he;obtain⟨t,hw,G⟩:=Du (l:=p) (p.length+1) 0 (by show 0<=endI p _ 0;omega);have e0:endI p (p.length+1) ((0:Nat):Int)=p.length:=he;rw [e0,OO,QL,Ph,Qu]at G;subst G;have V:=lP hw J;refine Iz t.size (OL _) ⟨hw,W⟩ λw' Z=>h _ _ Z ?_
   simp only [OQ];constructor
   ·intro α;exact⟨t,⟨V,by omega,by omega⟩,rfl⟩
   ·rintro⟨u,hu,e⟩
    have h1:=wW (l:=t.text) u (u.size+t.size) 0 [] hu.ok.wf (by omega) (by simp [e]);have:u=t:=by
     exact(lX hu.ok.wf hw (r:=[]) (r':=[]) (by simpa using e)).1
    rw [<-this];exact_mod_cast hu.size
  ·simp only [OP]at he;refine h _ _ (Ex.refl w) ⟨λH=>by simp at H,?_⟩
   rintro⟨t,G,rfl⟩
   exact absurd (by simpa using pC t G.ok.wf t.text 0 [] (by simp) (t.text.length+1) (by omega)) he
 ·refine h _ _ (Ex.refl w) ⟨λH=>by simp at H,?_⟩
  rintro⟨t,G,rfl⟩
  rw [(jq G.lw).2]at J;cases J
 ·simp only [OP]at hc;refine h _ _ (Ex.refl w) ⟨λH=>by simp at H,?_⟩
  rintro⟨t,G,rfl⟩
  have :=G.len;exact absurd (by omega) hc
theorem H5 {p:Tx}(G:p.length<=1099511627776){w:World}{R:Bool->Sg}(h:∀b w',Ex w w'->(b=true↔∃t:P,Good t/\t.text=p)->R b w'):Sh 65 #[.string (ai p)] w (aw [.b] R):=xj h
end Go.Proofs.YtdecokaadekjnaaGreat
namespace Go.Proofs.YtdecokaadekjnaaGreat
namespace T
def map {A B:Type}(f:A->B):T A->T B
 | nil=>nil | snd a b p=>snd (f a) (f b) (p.map f) | rcv a x p=>rcv (f a) (f x) (p.map f) | tau p=>tau (p.map f)
 | sum p q=>sum (p.map f) (q.map f) | par p q=>par (p.map f) (q.map f) | res x p=>res (f x) (p.map f) | mat a b p=>mat (f a) (f b) (p.map f) | rep p=>rep (p.map f)
def shp {A:Type}(p:T A):T Unit:=p.map λ _=>()
def aN {A:Type}:T A->Nat
 | nil=>1 | snd _ _ p=>p.aN+4 | rcv _ _ p=>p.aN+4 | tau p=>p.aN+2 | sum p q=>p.aN+q.aN+3 | par p q=>p.aN+q.aN+3
 | res _ p=>p.aN+3 | mat _ _ p=>p.aN+5 | rep p=>p.aN+1
def bd {A:Type}:T A->Nat
 | nil=>0 | snd _ _ p=>p.bd | rcv _ _ p=>p.bd+1 | tau p=>p.bd | sum p q=>max p.bd q.bd | par p q=>max p.bd q.bd
 | res _ p=>p.bd+1 | mat _ _ p=>p.bd | rep p=>p.bd
def rd {A:Type}:T A->Nat
 | nil=>0 | snd _ _ p=>p.rd | rcv _ _ p=>p.rd+1 | tau p=>p.rd | sum p q=>max p.rd q.rd | par p q=>max p.rd q.rd
 | res _ p=>p.rd | mat _ _ p=>p.rd | rep p=>p.rd
def ow {A:Type}:T A->Nat
 | nil=>0 | snd _ _ p=>p.ow | rcv _ _ p=>p.ow | tau p=>p.ow | sum p q=>p.ow+q.ow | par p q=>p.ow+q.ow
 | res _ p=>p.ow+1 | mat _ _ p=>p.ow | rep p=>p.ow
section
variable {A B:Type}
theorem size_map (f:A->B)(p:T A):(p.map f).size=p.size:=by induction p<;>simp_all [map,size]
theorem H4 (f:A->B)(p:T A):(p.map f).aN=p.aN:=by induction p<;>simp_all [map,aN]
theorem Mn (f:A->B)(p:T A):(p.map f).bd=p.bd:=by induction p<;>simp_all [map,bd]
theorem Lb (f:A->B)(p:T A):(p.map f).rd=p.rd:=by induction p<;>simp_all [map,rd]
theorem L3 (f:A->B)(p:T A):(p.map f).ow=p.ow:=by induction p<;>simp_all [map,ow]
theorem px {p:T A}{q:T B}(h:p.shp=q.shp):p.size=q.size:=by
 have :=PL size h;simpa [shp,size_map]using this
theorem jn {p:T A}{q:T B}(h:p.shp=q.shp):p.aN=q.aN:=by
 have :=PL aN h;simpa [shp,H4]using this
theorem LX {p:T A}{q:T B}(h:p.shp=q.shp):p.bd=q.bd:=by
 have :=PL bd h;simpa [shp,Mn]using this
theorem CL {p:T A}{q:T B}(h:p.shp=q.shp):p.rd=q.rd:=by
 have :=PL rd h;simpa [shp,Lb]using this
theorem zo {p:T A}{q:T B}(h:p.shp=q.shp):p.ow=q.ow:=by
 have :=PL ow h;simpa [shp,L3]using this
theorem AI (p:T A):p.bd<=p.rd+p.ow:=by induction p<;>simp only [bd,rd,ow]<;>omega
theorem cd (p:T A):p.rd+p.ow+1<=p.size:=by induction p<;>simp only [size,rd,ow]<;>omega
end
theorem aX (p:P):p.text.length=p.aN:=by
 induction p<;>simp_all [text,aN]<;>omega
end T
def okn (k:Nat)(x:UInt8):Prop:=x.toNat< 128+k\/192<=x.toNat
theorem okn.mono {k m:Nat}{x:UInt8}(h:okn k x)(G:k<=m):okn m x:=by unfold okn at*;omega
def ngr (x:UInt8):Prop:=x.toNat< 65\/(90< x.toNat/\x.toNat< 192)
def Eb:Nat->P->Prop
 | _,.nil=>True
 | k,.snd a b p=>okn k a/\okn k b/\Eb k p
 | k,.rcv a x p=>okn k a/\(ngr x/\∀z,p.Fr z->z≠x->okn k z)/\Eb (k+1) p
 | k,.tau p=>Eb k p
 | k,.sum p q=>Eb k p/\Eb k q
 | k,.par p q=>Eb k p/\Eb k q
 | k,.res x p=>(ngr x/\∀z,p.Fr z->z≠x->okn k z)/\Eb (k+1) p
 | k,.mat a b p=>okn k a/\okn k b/\Eb k p
 | k,.rep p=>Eb k p
theorem Eb.free:∀{p:P} {k:Nat},Eb k p->∀z,p.Fr z->okn k z
 | .nil,_,_,_,h=>h.elim
 | .snd a b p,k,e,z,h=>by
  rcases h with rfl | rfl | h
  ·exact e.1
  ·exact e.2.1
  ·exact Eb.free e.2.2 z h
 | .mat a b p,k,e,z,h=>by
  rcases h with rfl | rfl | h
  ·exact e.1
  ·exact e.2.1
  ·exact Eb.free e.2.2 z h
 | .rcv a x p,k,e,z,h=>by
  rcases h with rfl | h
  ·exact e.1
  ·exact e.2.1.2 z h.2 h.1
 | .res x p,k,e,z,h=>e.1.2 z h.2 h.1
 | .tau p,k,e,z,h=>Eb.free (p:=p) e z h
 | .rep p,k,e,z,h=>Eb.free (p:=p) e z h
 | .sum p q,k,e,z,h=>h.elim (Eb.free e.1 z) (Eb.free e.2 z)
 | .par p q,k,e,z,h=>h.elim (Eb.free e.1 z) (Eb.free e.2 z)
theorem Eb.mono:∀{p:P} {k m:Nat},Eb k p->k<=m->Eb m p
 | .nil,_,_,_,_=>trivial
 | .snd a b p,k,m,e,h=>⟨e.1.mono h,e.2.1.mono h,Eb.mono e.2.2 h⟩
 | .mat a b p,k,m,e,h=>⟨e.1.mono h,e.2.1.mono h,Eb.mono e.2.2 h⟩
 | .rcv a x p,k,m,e,h=>⟨e.1.mono h,⟨e.2.1.1,λz G h2=>(e.2.1.2 z G h2).mono h⟩,Eb.mono e.2.2 (by omega)⟩
 | .res x p,k,m,e,h=>⟨⟨e.1.1,λz G h2=>(e.1.2 z G h2).mono h⟩,Eb.mono e.2 (by omega)⟩
 | .tau p,k,m,e,h=>Eb.mono (p:=p) e h
 | .rep p,k,m,e,h=>Eb.mono (p:=p) e h
 | .sum p q,k,m,e,h=>⟨Eb.mono e.1 h,Eb.mono e.2 h⟩
 | .par p q,k,m,e,h=>⟨Eb.mono e.1 h,Eb.mono e.2 h⟩
theorem nV {k:Nat}{c:UInt8}(h:lt c=true):okn k c:=by
 simp only [lt,OD,OQ]at h;have h2:=O0.1 h.2;have G:(122:UInt8).toNat=122:=rfl;left;omega
theorem aD.free {p q:P}{old nm:UInt8}(h:aD p old nm q)(z:UInt8)(H:q.Fr z):z=nm\/(z≠old/\p.Fr z)\/(z=old/\p.Fr z/\old=nm):=by
 obtain⟨y,J,e⟩:=(h UInt8.toNat).symm.free z H;unfold aI at e;split at e
 ·left;exact(O8.1 e).symm
 ·rename_i G;have:y=z:=O8.1 e;subst this;exact .inr (.inl ⟨G,J⟩)
structure ja (k:Nat)(p:P)(old nm:UInt8)(q:P):Prop where
 ok:aD p old nm q
 shp:q.shp=p.shp
 wf:q.wf=true
 eb:Eb k q
end Go.Proofs.YtdecokaadekjnaaGreat
namespace Go.Proofs.YtdecokaadekjnaaGreat
open Go Go.RowKit
theorem mg {c old nm:UInt8}{w:World}{R:UInt8->Sg}(h:R (sw c old nm) w):Sh 192 #[.int .u8 c.toNat,.int .u8 old.toNat,.int .u8 nm.toNat] w (aw [.c] R):=by
 refine tu c old nm w R ?_;dsimp only [go_sem];dsimp only [go_sem,UInt8.reduceOfNat,UInt32.reduceOfNat,Nat.reduceAdd];unfold sw at h;refine⟨λhc=>?_,λhc=>?_⟩
 ·rw [Pd (O1 hc)]at h;exact h
 ·rw [OW (O4 hc)]at h;exact h
def T.bindC:P->UInt8
 | .rcv _ x _=>x | .res x _=>x | _=>0
def T.rf:P->Bool
 | .rcv .. =>true | .res .. =>true | _=>false
theorem qL {t:P}(ok:Ok t){w:World}{R:UInt8->Bool->Sg}(h:R t.bindC t.rf w):Sh 118 #[.string (ai t.text)] w (aw [.c,.b] R):=by
 refine rZ _ w R ?_;dsimp only [go_sem];dsimp only [go_sem,UInt8.reduceOfNat,UInt32.reduceOfNat,Nat.reduceAdd];refine aQ ok ?_;cases t<;>simp only [T.kind]<;>repeat' first | refine aW (by decide) ?_ | refine cZ (by decide) ?_
 all_goals first
  | exact h
  | (refine⟨by simp only [T.text,OA];omega,?_⟩;exact h)
def T.names:P->Tx
 | .snd a b _=>[a,b] | .rcv a _ _=>[a] | .mat a b _=>[a,b] | _=>[]
theorem FE {t:P}(ok:Ok t){w:World}{R:aB->Sg}(h:∀w',Ex w w'->R t.names w'):Sh 247 #[.string (ai t.text)] w (aw [.s] R):=by
 refine rM _ w R ?_;dsimp only [go_sem];dsimp only [go_sem,UInt8.reduceOfNat,UInt32.reduceOfNat,Nat.reduceAdd];refine aQ ok ?_;cases t<;>simp only [T.kind]<;>repeat' first | refine aW (by decide) ?_ | refine cZ (by decide) ?_
 case nil=>exact h w (Ex.refl w)
 case tau=>exact h w (Ex.refl w)
 case sum=>exact h w (Ex.refl w)
 case par=>exact h w (Ex.refl w)
 case res=>exact h w (Ex.refl w)
 case rep=>exact h w (Ex.refl w)
 case rcv=>exact⟨by simp only [T.text,OA];omega,h w (Ex.refl w)⟩
 case snd=>exact⟨λ _=>True,λw1 G=>⟨trivial,by simp only [T.text,OA];omega,by simp only [T.text,OA];omega,by simp [T.text],h w1 (G▸Ex.drew w)⟩⟩
 case mat=>exact⟨λ _=>True,λw1 G=>⟨trivial,by simp only [T.text,OA];omega,by simp only [T.text,OA];omega,by simp [T.text],h w1 (G▸Ex.drew w)⟩⟩
theorem IQ (t:P)(x:UInt8):t.Fr x↔x∈t.names\/(∃p∈t.parts,p.Fr x)/\¬(t.rf=true/\x=t.bindC):=by
 cases t<;>simp [T.Fr,T.names,T.parts,T.rf,T.bindC,RA,and_comm]
theorem jb.nil:jb []:=List.Pairwise.nil
theorem jb.filter {s:Tx}(h:jb s)(f:UInt8->Bool):jb (s.filter f):=QE (List.filter_sublist) h
theorem jc:∀(n:Nat) {t:P},t.size<=n->Ok t->∀{w:World} {R:aB->Sg},(∀s w',Ex w w'->jb s->(∀x,x∈s↔t.Fr x)->R s w')->Sh 76 #[.string (ai t.text)] w (aw [.s] R):=by
 intro n
 induction n with
 | zero=>intro t h;have :=bc t;omega
 | succ n ih=>
  intro t hn ok w R h;refine tw _ w R ?_;dsimp only [go_sem];dsimp only [go_sem,UInt8.reduceOfNat,UInt32.reduceOfNat,Nat.reduceAdd];refine de ok λv w1 hx hs=>?_
  obtain⟨a,cap,hv⟩:=hs.slice;rw [O3]at hv;refine⟨a,t.parts.length,cap,hv,λout x w'=>Ex w w'/\Strs w' v (t.parts.map T.text)/\jb out/\∃k:Nat,x=k/\k<=t.parts.length/\∀x,x∈out↔∃p∈t.parts.take k,p.Fr x,λ _ x _=>((t.parts.length:Int) - x).toNat,
   ⟨hx,hs,jb.nil,0,rfl,by omega,by simp⟩,λout x w2 hI=>?_⟩
  obtain⟨γ,ν,Z,k,rfl,hk,hm⟩:=hI;refine⟨λhc=>?_,λhc=>?_⟩
  ·have H:k< t.parts.length:=by simpa using hc
   obtain⟨b,o,cp,e1,e2,e3⟩:=ν.at (i:=k) (by rw [O3];exact H);rw [O3]at e1;refine⟨b,o,t.parts.length,cp,e1,by omega,by omega,(t.parts[k]).text,?_,?_⟩
   ·rw [OO,Pg,e3,RR]
   ·have β:t.parts[k]∈t.parts:=OK H;refine ih (by have :=ef β;omega) (ok.parts _ β) λs w3 α ο δ=>?_
    refine fN Z (by have :=ο.bound;omega) λs' w4 J V W=>?_
    have h3:=eh t;refine⟨by omega,⟨(γ.trans α).trans J,(ν.ex α).ex J,V,k+1,by omega,H,λx=>?_⟩,by dsimp only;omega⟩;rw [W,hm,δ,List.take_succ_eq_append_getElem H];simp only [OM,OJ];constructor
    ·rintro(⟨p,hp,hf⟩ | hf)
     ·exact⟨p,.inl hp,hf⟩
     ·exact⟨_,.inr rfl,hf⟩
    ·rintro⟨p,hp | rfl,hf⟩
     ·exact .inl ⟨p,hp,hf⟩
     ·exact .inr hf
  ·have H:k=t.parts.length:=by simp at hc;omega
   subst H;rw [O6]at hm;refine⟨λout w'=>Ex w w'/\jb out/\∀x,x∈out↔(∃p∈t.parts,p.Fr x)/\¬(t.rf=true/\x=t.bindC),qL ok ⟨λhb=>?_,λhb=>?_⟩,λξ w3 hJ=>?_⟩
   ·refine Ay (by have :=Z.bound;omega) ⟨γ,Z.filter _,λx=>?_⟩;simp [hm,hb]
   ·exact⟨γ,Z,λx=>by simp [hm,hb]⟩
   obtain⟨α,G,δ⟩:=hJ;refine aQ ok ?_;have done:∀s w',Ex w3 w'->jb s->(∀x,x∈s↔x∈t.names\/x∈ξ)->R s w':=λs w' J V W=>h s w' (α.trans J) V λx=>by rw [W,δ,IQ]
   cases t<;>simp only [T.kind]<;>repeat' first | refine aW (by decide) ?_ | refine cZ (by decide) ?_
   case nil=>exact done _ _ (Ex.refl _) G λx=>by simp [T.names]
   case tau=>exact done _ _ (Ex.refl _) G λx=>by simp [T.names]
   case sum=>exact done _ _ (Ex.refl _) G λx=>by simp [T.names]
   case par=>exact done _ _ (Ex.refl _) G λx=>by simp [T.names]
   case res=>exact done _ _ (Ex.refl _) G λx=>by simp [T.names]
   case rep=>exact done _ _ (Ex.refl _) G λx=>by simp [T.names]
   case rcv a x p=>
    refine⟨by simp only [T.text,OA];omega,fG G λs w4 J V W=>done s w4 J V λx=>?_⟩;rw [W];simp [T.names,T.text,bt]
   case snd a b p=>
    refine⟨λ _=>True,λw4 ε=>⟨trivial,by simp only [T.text,OA];omega,by simp only [T.text,OA];omega,fG G λs w5 ζ η θ=>⟨trivial,fG η λs' w6 ι κ μ=>⟨trivial,done s' w6 (((ε▸Ex.drew w3).trans ζ).trans ι) κ λx=>?_⟩⟩⟩⟩;rw [μ,θ];simp [T.names,T.text,bt,RA,or_left_comm]
   case mat a b p=>
    refine⟨λ _=>True,λw4 ε=>⟨trivial,by simp only [T.text,OA];omega,by simp only [T.text,OA];omega,fG G λs w5 ζ η θ=>⟨trivial,fG η λs' w6 ι κ μ=>⟨trivial,done s' w6 (((ε▸Ex.drew w3).trans ζ).trans ι) κ λx=>?_⟩⟩⟩⟩;rw [μ,θ];simp [T.names,T.text,bt,RA,or_left_comm]
structure rm (w:World)(b:Nat)(l:Tx):Prop where
 lt:b< w.heap.size
 cell:∀j,j< l.length->w.cell? ⟨b,j,none⟩=some (.int .u8 (bt l j).toNat)
 fz:∀j,j< l.length->w.frozen? ⟨b,j,none⟩=false
theorem rm.GC {w:World}{el b:Nat}{l:Tx}(h:zc w el b l):rm w b l:=by
 obtain⟨cur,lo,hi,G,h2,H,h4⟩:=h;have hb:b< w.heap.size:=by
  rcases Qi b w.heap.size with h | h
  ·exact h
  ·rw [Array.getElem?_eq_none h]at G;cases G
 refine⟨hb,λj hj=>?_,λj hj=>?_⟩
 ·unfold World.cell?;rw [G];have e:=PL (λl=>l[j]?) h2;simp only [dL,Q9,hj,Qr,Qp,OC hj,Qw]at e;simp only [Option.isSome_none,Qs,Rg];rw [<-Qe,e];simp [bt,hj]
 ·unfold World.frozen?;rw [G];simp;omega
theorem rm.ex {w w':World}{b:Nat}{l:Tx}(h:rm w b l)(k:Ex w w'):rm w' b l:=
 ⟨O5 h.lt k.size,λj hj=>by rw [k.cell h.lt];exact h.cell j hj,λj hj=>by rw [PO k h.lt];exact h.fz j hj⟩
theorem Mt {l:Tx}{i j:Nat}{c:UInt8}(hi:i< l.length):bt (l.set i c) j=if i=j then c else bt l j:=by
 simp only [bt,P3,List.getElem?_set];by_cases h:i=j
 ·subst h;simp [hi]
 ·simp [h]
theorem rm.set {w:World}{b:Nat}{l:Tx}(h:rm w b l){i:Nat}(hi:i< l.length)(c:UInt8):rm (w.setCell ⟨b,i,none⟩ (.int .u8 c.toNat)) b (l.set i c):=by
 refine⟨by rw [Pn];exact h.lt,λj hj=>?_,λj hj=>?_⟩
 ·rw [Qk]at hj;rw [Mt hi];by_cases e:i=j
  ·subst e;rw [Pd rfl,OT _ _ _ (h.cell i hi)]
  ·rw [OW e,OF _ _ _ _ (by simp [e])];exact h.cell j hj
 ·rw [OV];exact h.fz j (by simpa using hj)
theorem rm.read {w:World}{b:Nat}{l:Tx}(h:rm w b l):∀(j:Nat) (x:UInt8),l[j]?=some x->w.cell? ⟨b,0+j,none⟩=some (.int .u8 x.toNat):=by
 intro j x G;obtain⟨hj,e⟩:=Pw.1 G;rw [Pa,h.cell j hj];simp [bt,hj,e]
theorem rm.at {w:World}{b:Nat}{l:Tx}(h:rm w b l){i:Nat}(hi:i< l.length):w.cell? ⟨b,0+i* 1,none⟩=some (.int .u8 (bt l i).toNat):=by
 rw [Pa,Pg];exact h.cell i hi
theorem Ex.own {w w':World}(h:Ex w w'){b i:Nat}(hb:w.heap.size<=b)(v:Value):Ex w (w'.setCell ⟨b,i,none⟩ v):=Below.setCell h hb v
theorem Hw {t:P}(ok:Ok t){v:Value}{l:List Tx}{w:World}(hs:Strs w v l){R:aB->Sg}
  (μ:(t.kind=43\/t.kind=38)->∃x y,l=[x,y]/\x.length+y.length<=1099511627776/\∀w',Ex w w'->R (40::(x++t.kind::(y++[41]))) w')
  (ν:t.kind=48->R [48] w)
  (ξ:t.kind≠48->t.kind≠43->t.kind≠38->∃x,l=[x]/\x.length<=1099511627776/\∀w',Ex w w'->R (t.text.take t.hd++x) w'):
  Sh 193 #[.string (ai t.text),v] w (aw [.s] R):=by
 refine uF _ v w R ?_;dsimp only [go_sem];dsimp only [go_sem,UInt8.reduceOfNat,UInt32.reduceOfNat,Nat.reduceAdd];refine aQ ok ?_;have two:∀(k:UInt8),(t.kind=k)->(k=43\/k=38)->∃S5:Sg,∀w6:World,w6=World.drew w->S5 w6/\∃(b7 o8 γ ε:Nat),v=Value.slice (some ⟨b7,o8,none⟩) γ ε/\0<=(0:Int)/\(0:Int)< γ/\∃H:aB,(∀w',S5 w'->World.cell? w' ⟨b7,(o8+Int.toNat 0* 1),none⟩=some (Value.string (ai H)))/\(List.length [(40:UInt8)]+List.length H<=4611686018427387904)/\(List.length ([(40:UInt8)]++H)+List.length [k]<=4611686018427387904)/\∃(ο ς J ζ:Nat),v=Value.slice (some ⟨ο,ς,none⟩) J ζ/\0<=(1:Int)/\(1:Int)< J/\∃α:aB,(∀w',S5 w'->World.cell? w' ⟨ο,(ς+Int.toNat 1* 1),none⟩=some (Value.string (ai α)))/\(List.length (([(40:UInt8)]++H)++[k])+List.length α<=4611686018427387904)/\(List.length ((([(40:UInt8)]++H)++[k])++α)+List.length [(41:UInt8)]<=4611686018427387904)/\R ((((([(40:UInt8)]++H)++[k])++α)++[(41:UInt8)])) w6:=by
  intro k hk ψ;obtain⟨x,y,rfl,hl,hR⟩:=μ (hk▸ψ);refine⟨λw'=>Strs w' v [x,y],λw6 V=>?_⟩;have h6:Strs w6 v [x,y]:=V▸hs.ex (Ex.drew w);obtain⟨b,o,cap,e1,e2,_⟩:=h6.at (i:=0) (by simp);refine⟨h6,b,o,2,cap,e1,by omega,by omega,x,λw' W=>?_,by simp;omega,by simp;omega,b,o,2,cap,e1,by omega,by omega,y,λw' W=>?_,by simp;omega,by simp;omega,?_⟩
  ·obtain⟨b',o',δ,G,_,e3⟩:=W.at (i:=0) (by simp);rw [e1]at G;cases G;exact e3
  ·obtain⟨b',o',δ,G,_,e3⟩:=W.at (i:=1) (by simp);rw [e1]at G;cases G;exact e3
  ·have :=hR w6 (V▸Ex.drew w);rw [hk]at this;simpa using this
 have one:t.kind≠48->t.kind≠43->t.kind≠38->∃η:Sg,∀θ:World,θ=World.drew w->η θ/\∃(υ φ Z ι:Nat),v=Value.slice (some ⟨υ,φ,none⟩) Z ι/\0<=(0:Int)/\(0:Int)< Z/\∃κ:aB,(∀w',η w'->World.cell? w' ⟨υ,(φ+Int.toNat 0* 1),none⟩=some (Value.string (ai κ)))/\Sh 165 #[(Value.string (ai t.text))] θ (aw [.i] fun(β:Int) (χ:World)=>η χ/\(0<=(β:Int)/\(β:Int)<=List.length t.text)/\(List.length (List.take (Int.toNat β) t.text)+List.length κ<=4611686018427387904)/\R (((List.take (Int.toNat β) t.text)++κ)) χ):=by
  intro h1 h2 h3;obtain⟨x,rfl,hl,hR⟩:=ξ h1 h2 h3;refine⟨λw'=>Strs w' v [x],λw6 V=>?_⟩;have h6:Strs w6 v [x]:=V▸hs.ex (Ex.drew w);obtain⟨b,o,cap,e1,e2,_⟩:=h6.at (i:=0) (by simp);have hlen:=ok.len;have hd:t.hd<=t.text.length:=by
   cases t<;>simp only [T.kind,ne_eq,RE]at h1<;>simp only [T.hd,T.text,OA]<;>omega
  refine⟨h6,b,o,1,cap,e1,by omega,by omega,x,λw' W=>?_,cW ok ⟨h6,by omega,?_,?_⟩⟩
  ·obtain⟨b',o',δ,G,_,e3⟩:=W.at (i:=0) (by simp);rw [e1]at G;cases G;exact e3
  ·rw [Pm];omega
  ·rw [OO];exact hR w6 (V▸Ex.drew w)
 refine⟨λh=>?_,λh=>⟨λh2=>two 43 (O1 h2) (.inl rfl),λh2=>⟨λh3=>two 38 (O1 h3) (.inr rfl),λh3=>one (O4 h) (O4 h2) (O4 h3)⟩⟩⟩;have hk:=O1 h;have :=ν hk;cases t<;>first | exact this | (exact absurd hk (by simp [T.kind]))
theorem tZ.ok {s:Tx}{c:UInt8}(h:tZ s c){k:Nat}(hk:k<=63)(W:∀d∈s,okn k d):c∉s/\okn (k+1) c/\nm c=true/\ngr c:=by
 rcases h with h | ⟨_,H,h2,h3,h4⟩
 ·have hm:=Rc h;have hp:=List.find?_some h;have G:lt c=true:=by
   obtain⟨i,hi,rfl⟩:=Pp.1 hm;rw [P7]at hi;have e:(UInt8.ofNat (97+i)).toNat=97+i:=by rw [PM];omega
   simp only [lt,OD,OQ];exact⟨O0.2 (by rw [e];show 97<=_;omega),O0.2 (by rw [e];show _<=122;omega)⟩
  refine⟨by simpa using hp,nV G,(ib G).1,?_⟩;simp only [lt,OD,OQ]at G;have H:=O0.1 G.1;have h2:=O0.1 G.2;have γ:(97:UInt8).toNat=97:=rfl;have Z:(122:UInt8).toNat=122:=rfl;unfold ngr;omega
 ·have δ:=O0.1 H;have ε:=O0.1 h2;have α:(128:UInt8).toNat=128:=rfl;have β:(191:UInt8).toNat=191:=rfl;have hle:c.toNat<=128+k:=by
   rcases Qi (128+k) c.toNat with J | V
   ·exfalso;have e:(UInt8.ofNat (128+k)).toNat=128+k:=by rw [PM];omega
    have hm:=h3 (UInt8.ofNat (128+k)) (O0.2 (by rw [e];omega)) (Pv.2 (by rw [e];exact J));have :=W _ hm;unfold okn at this;rw [e]at this;omega
   ·exact V
  refine⟨?_,.inl (by omega),?_,by unfold ngr;omega⟩
  ·rcases h4 with h4 | h4
   ·exact h4
   ·intro hm;have :=W _ hm;unfold okn at this;subst h4;omega
  ·simp [nm,H]
def T.rebind (t:P)(old nw y:UInt8)(q:P):P:=match t with
 | .rcv a _ _=> .rcv (sw a old nw) y q
 | _=> .res y q
theorem Av {c old nw:UInt8}(hc:nm c=true)(G:nm nw=true):nm (sw c old nw)=true:=by
 unfold sw;split<;>assumption
theorem sV {k:Nat}{c old nw:UInt8}(hc:okn k c)(G:okn k nw):okn k (sw c old nw):=by
 unfold sw;split<;>assumption
structure MB (k:Nat)(t:P)(old nw:UInt8)(p:P):Prop where
 drop:t.text.drop t.hd=p.text
 ok:Ok p
 size:p.size< t.size
 eb:Eb (k+1) p
 bd:p.bd+1=t.bd
 okz:∀z,p.Fr z->z≠t.bindC->okn k z
 nmc:nm t.bindC=true
 ngc:ngr t.bindC
 under:∀q,t.bindC≠old->(t.bindC≠nw\/¬p.Fr old)->aD p old nw q->aD t old nw (t.rebind old nw t.bindC q)
 cap:∀y p1 p2,t.bindC=nw->nw≠old->¬p.Fr y->y≠old->y≠nw->aD p nw y p1->aD p1 old nw p2->aD t old nw (t.rebind old nw y p2)
 over:t.bindC=old->t.Fr old->aD t old nw (t.rebind old nw old p)
 fin:∀y q,aD t old nw (t.rebind old nw y q)->q.shp=p.shp->q.wf=true->nm y=true->ngr y->Eb (k+1) q->ja k t old nw (t.rebind old nw y q)
theorem Fl {k:Nat}{t:P}{old nw:UInt8}(ok:Ok t)(eb:Eb k t)(hn:nm nw=true)(kn:okn k nw)(hb:t.rf=true):∃p,MB k t old nw p:=by
 have hw:=ok.wf;have hl:=ok.len;have fr:∀q,aD t old nw q->∀z,q.Fr z->okn k z:=λq h z V=>by
  rcases h.free z V with rfl | h | h
  ·exact kn
  ·exact eb.free z h.2
  ·exact eb.free z h.2.1
 cases t with
 | rcv a x p=>
  simp only [T.wf,OD]at hw;simp only [T.text,OA]at hl;refine⟨p,rfl,⟨hw.2,by omega⟩,by simp only [T.size];omega,eb.2.2,rfl,eb.2.1.2,hw.1.2,eb.2.1.1,λq G h2 H=>aD.Fp a G h2 H,λy p1 p2 G h2 H h4 h5 W Z=>?_,λG h2=>?_,λy q G h2 H h4 hg h5=>⟨G,?_,?_,?_⟩⟩
  ·have G:x=nw:=G;subst G;exact aD.I' a h2 H h4 h5 W Z
  ·have G:x=old:=G;subst G;exact aD.Gk a
  ·show T.rcv () () q.shp=T.rcv () () p.shp;rw [h2]
  ·simp [T.rebind,T.wf,Av hw.1.1 hn,H,h4]
  ·exact⟨sV eb.1 kn,⟨hg,λz V J=>fr _ G z (.inr ⟨J,V⟩)⟩,h5⟩
 | res x p=>
  simp only [T.wf,OD]at hw;simp only [T.text,OA]at hl;refine⟨p,rfl,⟨hw.2,by omega⟩,by simp only [T.size];omega,eb.2,rfl,eb.1.2,hw.1,eb.1.1,λq G h2 H=>aD.Fi G h2 H,λy p1 p2 G h2 H h4 h5 W Z=>?_,λG h2=>?_,λy q G h2 H h4 hg h5=>⟨G,?_,?_,?_⟩⟩
  ·have G:x=nw:=G;subst G;exact aD.JI h2 H h4 h5 W Z
  ·have G:x=old:=G;exact absurd G.symm h2.1
  ·show T.res () q.shp=T.res () p.shp;rw [h2]
  ·simp [T.rebind,T.wf,H,h4]
  ·exact⟨⟨hg,λz V J=>fr _ G z ⟨J,V⟩⟩,h5⟩
 | _=>cases hb
theorem tK {w w':World}(h:w.grownBy w' none):Ex w w':=Below.grown (Se _ _) h (OL _) (λk G=>by cases G)
theorem Ly {t:P}(h:t.kind≠48):t.hd<=t.text.length:=by
 cases t<;>simp only [T.kind,ne_eq,RE]at h<;>simp only [T.hd,T.text,OA]<;>omega
theorem pW {w1:World}(c d:UInt8){w2:World}{b:Nat}(hb:b=w1.heap.size)(h:w2=w1.alloc (.cells #[.int .u8 c.toNat,.int .u8 d.toNat] 5)):
  b< w2.heap.size/\∀(j:Nat) (x:UInt8),[c,d][j]?=some x->w2.cell? ⟨b,0+j,none⟩=some (.int .u8 x.toNat):=by
 subst hb h;refine⟨by rw [size_alloc];omega,λj x G=>?_⟩;rw [Pa]
 match j,G with
 | 0,G=>simp at G;subst G;exact aa rfl
 | 1,G=>simp at G;subst G;exact aa rfl
 | j+2,G=>simp at G
theorem ja.refl {k:Nat}{t:P}{old nw:UInt8}(h:aD t old nw t)(ok:Ok t)(eb:Eb k t):ja k t old nw t:=⟨h,rfl,ok.wf,eb⟩
theorem ja.B1 {k:Nat}{t:P}{old nw:UInt8}{q:P}(h:ja k t old nw q)(ok:Ok t):Ok q:=⟨h.wf,by rw [T.aX,T.jn h.shp,<-T.aX];exact ok.len⟩
theorem hZ:∀(n:Nat) {t:P} {k:Nat} {old nw:UInt8},t.size<=n->Ok t->Eb k t->k+t.bd<=64->nm nw=true->okn k nw->
  ∀{w:World} {R:aB->Sg},(∀q w',Ex w w'->ja k t old nw q->R q.text w')->Sh 153 #[.string (ai t.text),.int .u8 old.toNat,.int .u8 nw.toNat] w (aw [.s] R):=by
 intro n
 induction n with
 | zero=>intro t k old nw h;have :=bc t;omega
 | succ n ih=>
  intro t k old nw hn ok eb hbd μ ε w R h;refine p5 _ old nw w R ?_;dsimp only [go_sem];dsimp only [go_sem,UInt8.reduceOfNat,UInt32.reduceOfNat,Nat.reduceAdd];refine⟨λhne=>?_,λhe=>by
   have he:=O1 he;subst he;exact h t w (Ex.refl w) (.refl (aD.same old) ok eb)⟩
  have hne:old≠nw:=O4 hne;refine jc _ (OL _) ok λs w1 hx1 hs1 hm1=>iU (by have :=hs1.bound;omega) ⟨λW=>?_,λW=>?_⟩
  ·have W:¬t.Fr old:=by
    rw [<-hm1];simpa using W
   exact h t w1 hx1 (.refl (aD.skip W) ok eb)
  have hfr:t.Fr old:=by rw [<-hm1];simpa using W
  have hk0:t.kind≠48:=by cases t<;>first | exact hfr.elim | simp [T.kind]
  have hhd:=Ly hk0;have hlen:=ok.len;refine cW ok ⟨by omega,λb cap w2 hb hrow hgr=>?_⟩;rw [OO]at hrow|-;have ς:Ex w w2:=hx1.trans (tK hgr);have α:=rm.GC hrow;have ψ:w.heap.size<=b:=by rw [hb];exact hx1.size
  have Z:(t.text.take t.hd).length=t.hd:=by rw [Pm];omega
  refine qL ok ⟨λhq2=>?_,λhq2=>?_⟩
  ·
   obtain⟨p,B⟩:=Fl (nw:=nw) (old:=old) ok eb μ ε hq2;have hszp:=B.size;have hbdp:=B.bd;refine⟨some ⟨b,0,none⟩,(t.text.take t.hd).length,cap,rfl,by omega,?_⟩;rw [Z,OO,B.drop];refine⟨λpart x w'=>Ex w w'/\rm w' b (t.text.take t.hd)/\∃p1:P,part=p1.text/\p1.shp=p.shp/\Ok p1/\Eb (k+1) p1/\(nm x=true/\ngr x)/\
    ((x=t.bindC/\p1=p/\(x≠nw\/¬p.Fr old))\/(t.bindC=nw/\¬p.Fr x/\x≠old/\x≠nw/\aD p nw x p1)),⟨λhc=>?_,λhc=>?_⟩,λpart x w3 hJ=>?_⟩
   ·have hc:=O1 hc;refine jc _ (OL _) B.ok λs3 w3 ζ ω hm3=>iU (by have :=ω.bound;omega) ⟨λhq3=>?_,λhq3=>?_⟩
    ·have hfo:p.Fr old:=by rw [<-hm3];simpa using hq3
     have fin:∀(w':World),Ex w3 w'->∀s4,jb s4->(∀x,x∈s4↔p.Fr x\/x∈[old,nw])->∀y,tZ s4 y->(Ex w w'/\rm w' b (t.text.take t.hd))/\(¬p.Fr y/\y≠old/\y≠nw/\okn (k+1) y/\nm y=true/\ngr y):=by
      intro w' hx' s4 hs4 hm4 y hy;have hall:∀d∈s4,okn k d:=by
       intro d hd;rcases(hm4 d).1 hd with hd | hd
       ·by_cases hz:d=t.bindC
        ·rw [hz,hc];exact ε
        ·exact B.okz d hd hz
       ·simp only [OY,Qz,QZ]at hd;rcases hd with rfl | rfl
        ·exact eb.free _ hfr
        ·exact ε
      obtain⟨h1,h2,h3⟩:=hy.ok (by omega) hall;rw [hm4]at h1;simp only [OY,Qz,QZ,Sf]at h1;exact⟨⟨(ς.trans ζ).trans hx',(α.ex ζ).ex hx'⟩,h1.1,h1.2.1,h1.2.2,h2,h3⟩
     refine⟨λy w'=>(Ex w w'/\rm w' b (t.text.take t.hd))/\(¬p.Fr y/\y≠old/\y≠nw/\okn (k+1) y/\nm y=true/\ngr y),⟨λw'=>True,λw4 υ=>⟨trivial,?_,λb2 w5 hb2 H=>⟨trivial,?_,?_⟩⟩⟩,λy w4 hJ=>?_⟩
     ·have V:Ex w3 w4:=υ▸Ex.drew w3;refine jc _ (OL _) B.ok λs5 w5 J hs5 hm5=>⟨trivial,λb2 w6 hb2 β=>⟨trivial,b2,0,2,2,[old,nw],rfl,rfl,(pW old nw hb2 β).2,trivial,?_⟩⟩
      refine fN hs5 (by simp) λs7 w7 ο ν hm7=>⟨trivial,jd (by have :=ν.bound;omega) λy hy=>⟨trivial,?_⟩⟩
      exact fin w7 (((V.trans J).trans (β▸Ex.alloc w5 _)).trans ο) s7 ν (λx=>by rw [hm7,hm5]) y hy
     ·have V:Ex w3 w4:=υ▸Ex.drew w3;have J:Ex w4 w5:=H▸Ex.alloc w4 _;obtain⟨G,hc5⟩:=pW old nw hb2 H;refine jc _ (OL _) B.ok λs6 w6 η hs6 hm6=>⟨trivial,b2,0,2,2,[old,nw],rfl,rfl,λj x hj=>by rw [η.cell G];exact hc5 j x hj,trivial,?_⟩
      refine fN hs6 (by simp) λs7 w7 ο ν hm7=>⟨trivial,jd (by have :=ν.bound;omega) λy hy=>⟨trivial,?_⟩⟩
      exact fin w7 (((V.trans J).trans η).trans ο) s7 ν (λx=>by rw [hm7,hm6]) y hy
     ·have V:Ex w3 w4:=υ▸Ex.drew w3;have J:Ex w4 w5:=H▸Ex.alloc w4 _;obtain⟨G,hc5⟩:=pW old nw hb2 H;refine⟨b2,0,2,2,[old,nw],rfl,rfl,hc5,trivial,?_⟩;refine jc _ (OL _) B.ok λs6 w6 η hs6 hm6=>⟨trivial,?_⟩
      refine fN hs6 (by simp) λs7 w7 ο ν hm7=>⟨trivial,jd (by have :=ν.bound;omega) λy hy=>⟨trivial,?_⟩⟩
      exact fin w7 (((V.trans J).trans η).trans ο) s7 ν (λx=>by rw [hm7,hm6]) y hy
     ·obtain⟨⟨J,G⟩,hy1,hy2,hy3,hy4,hy5,hy6⟩:=hJ;refine ih (by omega) B.ok B.eb (by omega) hy5 hy4 λq w6 η W=>⟨J.trans η,G.ex η,q,rfl,W.shp,W.B1 B.ok,W.eb,⟨hy5,hy6⟩,.inr ⟨hc,hy1,hy2,hy3,?_⟩⟩
      rw [<-hc];exact W.ok
    ·have hfo:¬p.Fr old:=by rw [<-hm3];simpa using hq3
     exact⟨ς.trans ζ,α.ex ζ,p,rfl,rfl,B.ok,B.eb,⟨B.nmc,B.ngc⟩,.inl ⟨rfl,rfl,.inr hfo⟩⟩
   ·have hc:=O4 hc;exact⟨ς,α,p,rfl,rfl,B.ok,B.eb,⟨B.nmc,B.ngc⟩,.inl ⟨rfl,rfl,.inl hc⟩⟩
   ·obtain⟨ζ,hb3,p1,rfl,hsh1,ok1,eb1,hnx,hmid⟩:=hJ;refine⟨λpart w'=>Ex w w'/\rm w' b (t.text.take t.hd)/\∃p2:P,part=p2.text/\p2.shp=p.shp/\Ok p2/\Eb (k+1) p2/\aD t old nw (t.rebind old nw x p2),⟨λhc=>?_,λhc=>?_⟩,λpart w4 hJ=>?_⟩
    ·have hc:x≠old:=by simpa using hc
     refine ih (by have :=T.px hsh1;omega) ok1 eb1 (by have :=T.LX hsh1;omega) μ (ε.mono (by omega)) λq w5 J W=>⟨ζ.trans J,hb3.ex J,q,rfl,W.shp.trans hsh1,W.B1 ok1,W.eb,?_⟩
     rcases hmid with⟨rfl,rfl,hu⟩ | ⟨h1,h2,h3,h4,h5⟩
     ·exact B.under q hc hu W.ok
     ·exact B.cap x p1 q h1 (RV hne) h2 h3 h4 h5 W.ok
    ·have hc:x=old:=by simpa using hc
     refine⟨ζ,hb3,p1,rfl,hsh1,ok1,eb1,?_⟩;rcases hmid with⟨h1,rfl,hu⟩ | ⟨h1,h2,h3,h4,h5⟩
     ·rw [hc];exact B.over (h1.symm.trans hc) hfr
     ·exact absurd hc h3
    ·obtain⟨V,hb4,p2,rfl,hsh2,ok2,eb2,hren⟩:=hJ;have hfin:=B.fin x p2 hren hsh2 ok2.wf hnx.1 hnx.2 eb2;have hok2:=ok2.len;refine⟨λw'=>Ex w w'/\∃l:Tx,rm w' b l/\l.length=t.hd/\l++p2.text=(t.rebind old nw x p2).text,aQ ok ?_,λw5 hJ=>?_⟩
     ·cases t with
      | rcv a y p'=>
       simp only [T.kind];refine cZ (by decide) ?_;have hl3:(3:Nat)<=4:=by omega
       refine⟨b,0,_,cap,rfl,by omega,by simp only [T.hd];omega,a,hb4.at (i:=0) (by rw [Z];simp only [T.hd];omega),mg ?_⟩;have l0:0< ((T.rcv a y p').text.take (T.rcv a y p').hd).length:=by rw [Z];simp only [T.hd];omega
       have l2:2< ((T.rcv a y p').text.take (T.rcv a y p').hd).length:=by rw [Z];simp only [T.hd];omega
       refine⟨b,0,_,cap,rfl,by omega,by omega,⟨⟨_,hb4.at (i:=0) l0⟩,?_⟩,λw5 H=>?_⟩
       ·exact hb4.fz 0 l0
       have G:=hb4.set (i:=0) l0 (sw a old nw);have H:w5=w4.setCell ⟨b,0,none⟩ (.int .u8 (sw a old nw).toNat):=H;rw [<-H]at G;have l2':2< (((T.rcv a y p').text.take (T.rcv a y p').hd).set 0 (sw a old nw)).length:=by rw [Qk];exact l2
       refine⟨b,0,_,cap,rfl,by omega,by omega,⟨⟨_,G.at (i:=2) l2'⟩,?_⟩,λw6 β=>?_⟩
       ·exact G.fz 2 l2'
       have φ:=G.set (i:=2) l2' x;have β:w6=w5.setCell ⟨b,2,none⟩ (.int .u8 x.toNat):=β;rw [<-β]at φ;exact⟨β▸(Ex.own (H▸V.own ψ _) ψ _),_,φ,by rw [Qk,Qk,Z],rfl⟩
      | res y p'=>
       simp only [T.kind];refine aW (by decide) ?_;have l1:1< ((T.res y p').text.take (T.res y p').hd).length:=by rw [Z];simp only [T.hd];omega
       refine⟨b,0,_,cap,rfl,by omega,by omega,⟨⟨_,hb4.at (i:=1) l1⟩,?_⟩,λw5 H=>?_⟩
       ·exact hb4.fz 1 l1
       have G:=hb4.set (i:=1) l1 x;have H:w5=w4.setCell ⟨b,1,none⟩ (.int .u8 x.toNat):=H;rw [<-H]at G;exact⟨H▸(V.own ψ _),_,G,by rw [Qk,Z],rfl⟩
      | _=>cases hq2
     ·obtain⟨J,l,G,hl5,e5⟩:=hJ;refine⟨b,0,_,cap,l,rfl,hl5,G.read,by omega,?_⟩;rw [e5];exact h _ _ J hfin
  ·
   have hw:=ok.wf;have fin:∀(p:P) (l:Tx) (mk:P->P),t.text.drop t.hd=p.text->Ok p->p.size<=n->Eb k p->k+p.bd<=64->l.length=t.hd->(∀q,ja k p old nw q->ja k t old nw (mk q)/\(mk q).text=l++q.text)->
     ∀w3,Ex w w3->rm w3 b l->∃χ:Sg,∀ξ:World,ξ=World.drew w3->χ ξ/\∃(a212:Option Addr) (γ cap214:Nat),(Value.slice (some ⟨b,0,none⟩) (List.length (List.take t.hd t.text)) cap)=Value.slice a212 γ cap214/\(0<=((γ:Int):Int)/\((γ:Int):Int)<=List.length t.text)/\(∃(b215 o216 n217 cap218:Nat) (l219:aB),(Value.slice (some ⟨b,0,none⟩) (List.length (List.take t.hd t.text)) cap)=Value.slice (some ⟨b215,o216,none⟩) n217 cap218/\List.length l219=n217/\(∀(j:Nat) (x:UInt8),l219[j]?=some x->World.cell? ξ ⟨b215,o216+j,none⟩=some (Value.int IntKind.u8 (UInt8.toNat x)))/\χ ξ/\Sh 153 #[(Value.string (ai (List.drop (Int.toNat (γ:Int)) t.text))),(Value.int IntKind.u8 (UInt8.toNat old)),(Value.int IntKind.u8 (UInt8.toNat nw))] ξ (aw [.s] fun(s220:aB) (w221:World)=>χ w221/\(List.length l219+List.length s220<=4611686018427387904)/\R ((l219++s220)) w221))/\(Sh 153 #[(Value.string (ai (List.drop (Int.toNat (γ:Int)) t.text))),(Value.int IntKind.u8 (UInt8.toNat old)),(Value.int IntKind.u8 (UInt8.toNat nw))] ξ (aw [.s] fun(s222:aB) (w223:World)=>χ w223/\∃(b224 o225 n226 cap227:Nat) (l228:aB),(Value.slice (some ⟨b,0,none⟩) (List.length (List.take t.hd t.text)) cap)=Value.slice (some ⟨b224,o225,none⟩) n226 cap227/\List.length l228=n226/\(∀(j:Nat) (x:UInt8),l228[j]?=some x->World.cell? w223 ⟨b224,o225+j,none⟩=some (Value.int IntKind.u8 (UInt8.toNat x)))/\χ w223/\(List.length l228+List.length s222<=4611686018427387904)/\R ((l228++s222)) w223)):=by
    intro p l mk hdr okp hsz ebp hbp hll hmk w3 ζ hb3;refine⟨λ _=>True,λw4 υ=>⟨trivial,_,_,_,rfl,by rw [Z];omega,?_,?_⟩⟩
    ·have V:Ex w3 w4:=υ▸Ex.drew w3;rw [Z,OO,hdr];refine⟨b,0,_,cap,l,rfl,hll,(hb3.ex V).read,trivial,ih hsz okp ebp hbp μ ε λq w5 J W=>⟨trivial,?_,?_⟩⟩
     ·have :=(W.B1 okp).len;omega
     ·obtain⟨h1,h2⟩:=hmk q W;rw [<-h2];exact h _ _ ((ζ.trans V).trans J) h1
    ·have V:Ex w3 w4:=υ▸Ex.drew w3;rw [Z,OO,hdr];refine ih hsz okp ebp hbp μ ε λq w5 J W=>⟨trivial,b,0,_,cap,l,rfl,hll,((hb3.ex V).ex J).read,trivial,?_,?_⟩
     ·have :=(W.B1 okp).len;omega
     ·obtain⟨h1,h2⟩:=hmk q W;rw [<-h2];exact h _ _ ((ζ.trans V).trans J) h1
   have two:∀(p q:P) (mk:P->P->P),t.parts=[p,q]->(t.kind=43\/t.kind=38)->(∀p' q',ja k p old nw p'->ja k q old nw q'->ja k t old nw (mk p' q')/\(mk p' q').text=40::(p'.text++t.kind::(q'.text++[41]))/\Ok (mk p' q'))->Eb k p->Eb k q->k+p.bd<=64->k+q.bd<=64->
     Sh 117 #[(Value.string (ai t.text))] w2 (aw [.v] fun(v165:Value) (w166:World)=>∃ι:Sg,∀w168:World,w168=World.drew w166->ι w168/\∃(b169 o170 len171 cap172:Nat),v165=Value.slice (some ⟨b169,o170,none⟩) len171 cap172/\0<=(0:Int)/\(0:Int)< len171/\∃s173:aB,(∀w',ι w'->World.cell? w' ⟨b169,(o170+Int.toNat 0* 1),none⟩=some (Value.string (ai s173)))/\∃(b174 o175 len176 cap177:Nat),v165=Value.slice (some ⟨b174,o175,none⟩) len176 cap177/\0<=(1:Int)/\(1:Int)< len176/\∃s178:aB,(∀w',ι w'->World.cell? w' ⟨b174,(o175+Int.toNat 1* 1),none⟩=some (Value.string (ai s178)))/\Sh 153 #[(Value.string (ai s173)),(Value.int IntKind.u8 (UInt8.toNat old)),(Value.int IntKind.u8 (UInt8.toNat nw))] w168 (aw [.s] fun(s179:aB) (w180:World)=>ι w180/\Sh 153 #[(Value.string (ai s178)),(Value.int IntKind.u8 (UInt8.toNat old)),(Value.int IntKind.u8 (UInt8.toNat nw))] w180 (aw [.s] fun(s181:aB) (w182:World)=>ι w182
 /\∀(b183:Nat) (w184:World),b183=Array.size (World.heap w182)->w184=World.alloc w182 (Obj.cells #[(Value.string (ai s179)),(Value.string (ai s181))] 9)->ι w184/\Sh 193 #[(Value.string (ai t.text)),(Value.slice (some ⟨b183,0,none⟩) 2 2)] w184 (aw [.s] fun(s185:aB) (w186:World)=>ι w186/\R (s185) w186)))):=by
    intro p q mk δ hkind hmk ebp ebq hbp hbq;refine de ok λv w3 ζ ω=>?_
    rw [δ]at ω;have ω:Strs w3 v [p.text,q.text]:=ω;have okp:=ok.parts p (by rw [δ];simp);have okq:=ok.parts q (by rw [δ];simp);have szp:p.size< t.size:=ef (by rw [δ];simp);have szq:q.size< t.size:=ef (by rw [δ];simp);obtain⟨b3,o3,cap3,e1,e2,_⟩:=ω.at (i:=0) (by simp);have rd:∀w' (i:Nat) (x:Tx),Ex w3 w'->[p.text,q.text][i]?=some x->w'.cell? ⟨b3,o3+i* 1,none⟩=some (.string (ai x)):=by
     intro w' i x hx hi;obtain⟨hi',e⟩:=Pw.1 hi;obtain⟨b',o',cap',e1',_,e3⟩:=(ω.ex hx).at hi';rw [e1]at e1';cases e1';rw [Pg,e3,e]
    refine⟨λw'=>Ex w3 w',λw4 υ=>?_⟩;have V:Ex w3 w4:=υ▸Ex.drew w3;refine⟨V,b3,o3,2,cap3,e1,by omega,by omega,p.text,λw' hx=>rd w' 0 _ hx rfl,b3,o3,2,cap3,e1,by omega,by omega,q.text,λw' hx=>rd w' 1 _ hx rfl,?_⟩;refine ih (by omega) okp ebp hbp μ ε λp' w5 J θ=>⟨V.trans J,ih (by omega) okq ebq hbq μ ε λq' w6 η κ=>⟨(V.trans J).trans η,λb7 w7 hb7 hw7=>?_⟩⟩
    have ο:Ex w6 w7:=hw7▸Ex.alloc w6 _;obtain⟨m1,m2,m3⟩:=hmk p' q' θ κ;refine⟨((V.trans J).trans η).trans ο,?_⟩;have ν:Strs w7 (.slice (some ⟨b7,0,none⟩) 2 2) [p'.text,q'.text]:=by
     refine .inr ⟨b7,0,2,rfl,by rw [hw7,size_alloc];omega,λi z hz=>?_⟩;rw [Pa,hb7,hw7];refine aa ?_
     match i,hz with
     | 0,hz=>simp at hz|-;exact hz▸rfl
     | 1,hz=>simp at hz|-;exact hz▸rfl
     | i+2,hz=>simp at hz
    have hbase:Ex w w7:=(((ς.trans ζ).trans (V.trans J)).trans η).trans ο;refine Hw ok ν (λ _=>⟨_,_,rfl,?_,λw8 hx8=>⟨?_,?_⟩⟩) (λh0=>absurd h0 hk0) λ _ h2 h3=>absurd hkind (by simp [h2,h3])
    ·have :=(θ.B1 okp).len;have e:=PL List.length m2;have hml:=m3.len;simp only [OA,OG,OS]at e;omega
    ·exact(((V.trans J).trans η).trans ο).trans hx8
    ·rw [<-m2];exact h _ _ (hbase.trans hx8) m1
   cases t with
   | nil=>exact hfr.elim
   | rcv a x p=>cases hq2
   | res x p=>cases hq2
   | tau p=>
    simp only [T.wf]at hw;simp only [T.text,OA]at hlen;refine⟨λw'=>Ex w w'/\rm w' b [126,46],aQ ok ?_,λw3 hJ=>fin p [126,46] .tau rfl ⟨hw,by omega⟩ (by simp only [T.size]at hn;omega) eb hbd rfl (λq W=>⟨⟨aD.tau W.ok,?_,W.wf,W.eb⟩,rfl⟩) w3 hJ.1 hJ.2⟩
    ·simp only [T.kind]
     repeat' first | refine aW (by decide) ?_ | refine cZ (by decide) ?_
     exact⟨ς,α⟩
    ·show T.tau q.shp=T.tau p.shp;rw [W.shp]
   | rep p=>
    simp only [T.wf]at hw;simp only [T.text,OA]at hlen;refine⟨λw'=>Ex w w'/\rm w' b [42],aQ ok ?_,λw3 hJ=>fin p [42] .rep rfl ⟨hw,by omega⟩ (by simp only [T.size]at hn;omega) eb hbd rfl (λq W=>⟨⟨aD.rep W.ok,?_,W.wf,W.eb⟩,rfl⟩) w3 hJ.1 hJ.2⟩
    ·simp only [T.kind]
     repeat' first | refine aW (by decide) ?_ | refine cZ (by decide) ?_
     exact⟨ς,α⟩
    ·show T.rep q.shp=T.rep p.shp;rw [W.shp]
   | snd a c p=>
    simp only [T.wf,OD]at hw;simp only [T.text,OA]at hlen;refine⟨λw'=>Ex w w'/\rm w' b [sw a old nw,33,sw c old nw,46],aQ ok ?_,λw3 hJ=>fin p [sw a old nw,33,sw c old nw,46] (.snd (sw a old nw) (sw c old nw)) rfl ⟨hw.2,by omega⟩ (by simp only [T.size]at hn;omega) eb.2.2 hbd rfl (λq W=>⟨⟨aD.snd a c W.ok,?_,?_,⟨sV eb.1 ε,sV eb.2.1 ε,W.eb⟩⟩,rfl⟩) w3 hJ.1 hJ.2⟩
    ·simp only [T.kind];refine cZ (by decide) ?_;have α:rm w2 b [a,33,c,46]:=α;refine⟨b,0,_,cap,rfl,by omega,by rw [Z];simp only [T.hd];omega,a,α.at (i:=0) (by simp),mg ?_⟩;refine⟨b,0,_,cap,rfl,by omega,by rw [Z];simp only [T.hd];omega,⟨⟨_,α.at (i:=0) (by simp)⟩,α.fz 0 (by simp)⟩,λw5 H=>?_⟩;have G:=α.set (i:=0) (by simp) (sw a old nw);have H:w5=w2.setCell ⟨b,0,none⟩ (.int .u8 (sw a old nw).toNat):=H;rw [<-H]at G;refine⟨b,0,_,cap,rfl,by omega,by rw [Z];simp only [T.hd];omega,c,G.at (i:=2) (by simp),mg ?_⟩;refine⟨b,0,_,cap,rfl,by omega,by rw [Z];simp only [T.hd];omega,⟨⟨_,G.at (i:=2) (by simp)⟩,G.fz 2 (by simp)⟩,λw6 β=>?_⟩;have φ:=G.set (i:=2) (by simp) (sw c old nw);have β:w6=w5.setCell ⟨b,2,none⟩ (.int .u8 (sw c old nw).toNat):=β;rw [<-β]at φ;exact⟨β▸(Ex.own (H▸ς.own ψ _) ψ _),φ⟩
    ·show T.snd () () q.shp=T.snd () () p.shp;rw [W.shp]
    ·simp [T.wf,Av hw.1.1 μ,Av hw.1.2 μ,W.wf]
   | mat a c p=>
    simp only [T.wf,OD]at hw;simp only [T.text,OA]at hlen;refine⟨λw'=>Ex w w'/\rm w' b [91,sw a old nw,61,sw c old nw,93],aQ ok ?_,λw3 hJ=>fin p [91,sw a old nw,61,sw c old nw,93] (.mat (sw a old nw) (sw c old nw)) rfl ⟨hw.2,by omega⟩ (by simp only [T.size]at hn;omega) eb.2.2 hbd rfl (λq W=>⟨⟨aD.mat a c W.ok,?_,?_,⟨sV eb.1 ε,sV eb.2.1 ε,W.eb⟩⟩,rfl⟩) w3 hJ.1 hJ.2⟩
    ·simp only [T.kind];refine aW (by decide) (cZ (by decide) ?_);have α:rm w2 b [91,a,61,c,93]:=α;refine⟨b,0,_,cap,rfl,by omega,by rw [Z];simp only [T.hd];omega,a,α.at (i:=1) (by simp),mg ?_⟩;refine⟨b,0,_,cap,rfl,by omega,by rw [Z];simp only [T.hd];omega,⟨⟨_,α.at (i:=1) (by simp)⟩,α.fz 1 (by simp)⟩,λw5 H=>?_⟩;have G:=α.set (i:=1) (by simp) (sw a old nw);have H:w5=w2.setCell ⟨b,1,none⟩ (.int .u8 (sw a old nw).toNat):=H;rw [<-H]at G;refine⟨b,0,_,cap,rfl,by omega,by rw [Z];simp only [T.hd];omega,c,G.at (i:=3) (by simp),mg ?_⟩;refine⟨b,0,_,cap,rfl,by omega,by rw [Z];simp only [T.hd];omega,⟨⟨_,G.at (i:=3) (by simp)⟩,G.fz 3 (by simp)⟩,λw6 β=>?_⟩;have φ:=G.set (i:=3) (by simp) (sw c old nw);have β:w6=w5.setCell ⟨b,3,none⟩ (.int .u8 (sw c old nw).toNat):=β;rw [<-β]at φ;exact⟨β▸(Ex.own (H▸ς.own ψ _) ψ _),φ⟩
    ·show T.mat () () q.shp=T.mat () () p.shp;rw [W.shp]
    ·simp [T.wf,Av hw.1.1 μ,Av hw.1.2 μ,W.wf]
   | sum p q=>
    simp only [T.bd]at hbd;have hwf:=hw;simp only [T.wf,OD]at hw;refine⟨λ _=>False,aQ ok ?_,λw3 hJ=>hJ.elim⟩;simp only [T.kind];refine aW (by decide) (aW (by decide) (cZ (by decide) (cZ (by decide) ?_)));refine two p q .sum rfl (.inl rfl) (λp' q' θ κ=>?_) eb.1 eb.2 (by omega) (by omega);have hs:(T.sum p' q').shp=(T.sum p q).shp:=by show T.sum p'.shp q'.shp=T.sum p.shp q.shp;rw [θ.shp,κ.shp]
    have hr:ja k (.sum p q) old nw (.sum p' q'):=⟨aD.sum θ.ok κ.ok,hs,by simp [T.wf,θ.wf,κ.wf],⟨θ.eb,κ.eb⟩⟩
    exact⟨hr,rfl,hr.B1 ok⟩
   | par p q=>
    simp only [T.bd]at hbd;have hwf:=hw;simp only [T.wf,OD]at hw;refine⟨λ _=>False,aQ ok ?_,λw3 hJ=>hJ.elim⟩;simp only [T.kind];refine aW (by decide) (aW (by decide) (aW (by decide) (cZ (by decide) ?_)));refine two p q .par rfl (.inr rfl) (λp' q' θ κ=>?_) eb.1 eb.2 (by omega) (by omega);have hs:(T.par p' q').shp=(T.par p q).shp:=by show T.par p'.shp q'.shp=T.par p.shp q.shp;rw [θ.shp,κ.shp]
    have hr:ja k (.par p q) old nw (.par p' q'):=⟨aD.par θ.ok κ.ok,hs,by simp [T.wf,θ.wf,κ.wf],⟨θ.eb,κ.eb⟩⟩
    exact⟨hr,rfl,hr.B1 ok⟩
end Go.Proofs.YtdecokaadekjnaaGreat
namespace Go.Proofs.YtdecokaadekjnaaGreat
section
variable {A B:Type} [DecidableEq A] [DecidableEq B]
open Classical
namespace T
def strip:T A->T A
 | mat a b p=>if a=b then p.strip else mat a b p
 | p=>p
noncomputable def peel:T A->T A
 | mat a b p=>if a=b then p.peel else mat a b p
 | sum p q=>if p.dead then q.peel else if q.dead then p.peel else sum p q
 | par p q=>if p.dead then q.peel else if q.dead then p.peel else par p q
 | res x p=>if p.Us x then res x p else p.peel
 | p=>p
theorem sZ:∀p:T A,p.strip.dead=p.dead
 | mat a b p=>by
  unfold strip;split
  ·rw [sZ p];rfl
  ·rfl
 | nil=>rfl | snd .. =>rfl | rcv .. =>rfl | tau .. =>rfl | sum .. =>rfl | par .. =>rfl | res .. =>rfl | rep .. =>rfl
theorem BW (x:A):∀p:T A,p.strip.Us x↔p.Us x
 | mat a b p=>by
  unfold strip;split
  ·rename_i h;rw [BW x p];simp [Us,h]
  ·rfl
 | nil=>RG | snd .. =>RG | rcv .. =>RG | tau .. =>RG | sum .. =>RG | par .. =>RG | res .. =>RG | rep .. =>RG
theorem nQ:∀p:T A,p.strip.size<=p.size
 | mat a b p=>by
  unfold strip;split
  ·have :=nQ p;simp only [size];omega
  ·exact OL _
 | nil=>OL _ | snd .. =>OL _ | rcv .. =>OL _ | tau .. =>OL _ | sum .. =>OL _ | par .. =>OL _ | res .. =>OL _ | rep .. =>OL _
theorem qb:∀(p:T A) (a b:A) (q:T A),p.strip=mat a b q->a≠b
 | mat a b p,c,d,q,h=>by
  unfold strip at h;split at h
  ·exact qb p c d q h
  ·cases h;assumption
 | nil,_,_,_,h=>by cases h
 | snd ..,_,_,_,h=>by cases h
 | rcv ..,_,_,_,h=>by cases h
 | tau ..,_,_,_,h=>by cases h
 | sum ..,_,_,_,h=>by cases h
 | par ..,_,_,_,h=>by cases h
 | res ..,_,_,_,h=>by cases h
 | rep ..,_,_,_,h=>by cases h
theorem iG (Q:T A->Prop)(hm:∀a p,Q (mat a a p)->Q p)(J:∀p q,Q (sum p q)->Q p/\Q q)(V:∀p q,Q (par p q)->Q p/\Q q)(hr:∀x p,¬p.Us x->Q (res x p)->Q p):∀p:T A,Q p->Q p.peel:=by
 intro p
 induction p with
 | mat a b p G=>
  intro h;unfold peel;split
  ·rename_i e;subst e;exact G (hm a p h)
  ·exact h
 | sum p q G H=>
  intro h;unfold peel;split
  ·exact H (J p q h).2
  ·split
   ·exact G (J p q h).1
   ·exact h
 | par p q G H=>
  intro h;unfold peel;split
  ·exact H (V p q h).2
  ·split
   ·exact G (V p q h).1
   ·exact h
 | res x p G=>
  intro h;unfold peel;split
  ·exact h
  ·rename_i e;exact G (hr x p e h)
 | nil=>exact id
 | snd=>exact id
 | rcv=>exact id
 | tau=>exact id
 | rep=>exact id
theorem mH:∀p:T A,p.peel.dead=p.dead:=by
 intro p
 induction p with
 | mat a b p H=>unfold peel;split<;>simp_all [dead]
 | sum p q H G=>
  unfold peel;split
  ·rename_i h;rw [G];simp [dead,h]
  ·split
   ·rename_i h h';rw [H];simp [dead,h']
   ·rfl
 | par p q H G=>
  unfold peel;split
  ·rename_i h;rw [G];simp [dead,h]
  ·split
   ·rename_i h h';rw [H];simp [dead,h']
   ·rfl
 | res x p H=>
  unfold peel;split
  ·rfl
  ·rw [H];rfl
 | nil=>rfl
 | snd=>rfl
 | rcv=>rfl
 | tau=>rfl
 | rep=>rfl
def dH:T A->Prop
 | mat a b _=>a≠b
 | sum p q=>p.dead=false/\q.dead=false
 | par p q=>p.dead=false/\q.dead=false
 | res x p=>p.Us x
 | _=>True
theorem mi:∀p:T A,p.peel.dH:=by
 intro p
 induction p with
 | mat a b p H=>unfold peel;split<;>assumption
 | sum p q H G=>
  unfold peel;split
  ·exact G
  ·split
   ·exact H
   ·rename_i h h';exact⟨by simpa using h,by simpa using h'⟩
 | par p q H G=>
  unfold peel;split
  ·exact G
  ·split
   ·exact H
   ·rename_i h h';exact⟨by simpa using h,by simpa using h'⟩
 | res x p H=>unfold peel;split<;>assumption
 | nil=>trivial
 | snd=>trivial
 | rcv=>trivial
 | tau=>trivial
 | rep=>trivial
theorem wu (p:T A):p.peel.size<=p.size:=
 iG (λq=>q.size<=p.size) (λa q h=>by simp only [size]at h;omega) (λq r h=>by simp only [size]at h;omega) (λq r h=>by simp only [size]at h;omega) (λx q _ h=>by simp only [size]at h;omega) p (OL _)
theorem Ky (p:T A):p.peel.ow<=p.ow:=
 iG (λq=>q.ow<=p.ow) (λa q h=>h) (λq r h=>by simp only [ow]at h;omega) (λq r h=>by simp only [ow]at h;omega) (λx q _ h=>by simp only [ow]at h;omega) p (OL _)
theorem DY (x:A):∀p:T A,p.peel.Us x↔p.Us x:=by
 intro p
 induction p with
 | mat a b p G=>
  unfold peel;split
  ·rename_i h;rw [G];simp [Us,h]
  ·rfl
 | sum p q G H=>
  unfold peel;split
  ·rename_i h;rw [H];exact⟨.inr,λh'=>h'.elim (λh'=>absurd h' (bL h)) id⟩
  ·split
   ·rename_i h h';rw [G];exact⟨.inl,λk=>k.elim id (λk=>absurd k (bL h'))⟩
   ·rfl
 | par p q G H=>
  unfold peel;split
  ·rename_i h;rw [H];exact⟨.inr,λh'=>h'.elim (λh'=>absurd h' (bL h)) id⟩
  ·split
   ·rename_i h h';rw [G];exact⟨.inl,λk=>k.elim id (λk=>absurd k (bL h'))⟩
   ·rfl
 | res y p G=>
  unfold peel;split
  ·rfl
  ·rename_i h;rw [G];refine⟨λk=>⟨λe=>h (e▸k),k⟩,λk=>k.2⟩
 | nil=>rfl
 | snd=>rfl
 | rcv=>rfl
 | tau=>rfl
 | rep=>rfl
end T
end
open Classical
theorem fw.sub {A:Type}[DecidableEq A]{ρ:A->Nat}{p q:T A}(h:fw ρ p)(G:∀x,q.Us x->p.Us x):fw ρ q:=λx y H J=>h x y (G x H) (G y J)
theorem Je (u:U)(h:Uq u):Uq u.peel:=
 T.iG Uq (λ _ _ h=>h.mat) (λ _ _ h=>⟨h.eD,h.dV⟩) (λ _ _ h=>⟨h.gB,h.fL⟩) (λ _ _ _ h=>h.res) u h
theorem Ef (u:U):∀x∈BV u.peel,x∈BV u:=
 T.iG (λq=>∀x∈BV q,x∈BV u) (λ _ _ h=>h) (λ _ _ h=>⟨λx G=>h x (Pf _ G),λx G=>h x (O9 _ G)⟩)
  (λ _ _ h=>⟨λx G=>h x (Pf _ G),λx G=>h x (O9 _ G)⟩) (λ _ _ _ h=>λx G=>h x (OU _ G)) u (λx h=>h)
theorem dt:∀u:U,Uq u->u.dead=true->ak u=([],[])
 | .nil,_,_=>rfl
 | .snd ..,_,h=>by cases h
 | .rcv ..,_,h=>by cases h
 | .tau ..,_,h=>by cases h
 | .sum p q,hu,h=>by
  simp only [T.dead,OD]at h;simp only [ak,h.1,Qr];exact dt q hu.dV h.2
 | .par p q,hu,h=>by
  simp only [T.dead,OD]at h;simp [ak,dt p hu.gB h.1,dt q hu.fL h.2]
 | .res x p,hu,h=>by
  have hd:p.dead=true:=h;simp [ak,dt p hu.res hd,mN hd,Lv.has]
 | .mat a b p,hu,h=>by
  have hd:p.dead=true:=h;simp only [ak,hd,Qr,dt p hu.mat hd];split<;>rfl
 | .rep p,hu,h=>by
  have hd:p.dead=true:=h;simp [ak,hd]
theorem pS:∀u:U,Uq u->ak u.peel=ak u:=by
 intro u
 induction u with
 | nil=>intro _;rfl
 | snd=>intro _;rfl
 | rcv=>intro _;rfl
 | tau=>intro _;rfl
 | rep=>intro _;rfl
 | mat a b p G=>
  intro h;unfold T.peel;split
  ·rename_i e;rw [G h.mat];simp [ak,e]
  ·rfl
 | sum p q G H=>
  intro h;unfold T.peel;split
  ·rename_i e;rw [H h.dV];simp [ak,e]
  ·split
   ·rename_i e J;rw [G h.eD];simp [ak,e,J]
   ·rfl
 | par p q G H=>
  intro h;unfold T.peel;split
  ·rename_i e;rw [H h.fL];simp [ak,dt p h.gB e]
  ·split
   ·rename_i e J;rw [G h.gB];simp [ak,dt q h.fL J]
   ·rfl
 | res x p G=>
  intro h;unfold T.peel;split
  ·rfl
  ·rename_i e;rw [G h.res];have:¬(td p).2.has x=true:=λV=>e ((gu p x h.gz).1 V)
   simp [ak,this]
theorem Lz {p:T UInt8}{u:U}{ρ:UInt8->Nat}{σ:Nat->Nat}{x:UInt8}{y:Nat}(h:∀v,AE (aI ρ x v) p (aI σ y v) u)(hi:fw ρ (.res x p))(hj:fw σ (.res y u)):p.Us x↔u.Us y:=by
 obtain⟨v,Z,h2⟩:=cw p u ρ σ;have G:fw (aI ρ x v) p:= .aI (λa b ha hb h5 V=>hi a b ⟨ha,h5⟩ ⟨hb,V⟩) λa _ ha=>Z a (T.bI ha)
 have H:fw (aI σ y v) u:= .aI (λa b ha hb h5 V=>hj a b ⟨ha,h5⟩ ⟨hb,V⟩) λa _ ha=>h2 a (T.bI ha)
 constructor
 ·intro hx;obtain⟨z,J,e⟩:=(h v).used G H x hx;rw [dg]at e;unfold aI at e;split at e
  ·rename_i W;exact W▸J
  ·exact absurd e (h2 z (T.bI J))
 ·intro hy;obtain⟨z,J,e⟩:=(h v).symm.used H G y hy;rw [dg]at e;unfold aI at e;split at e
  ·rename_i W;exact W▸J
  ·exact absurd e (Z z (T.bI J))
theorem AE.Kt {p:T UInt8}{u:U}{ρ:UInt8->Nat}{σ:Nat->Nat}{a b:UInt8}{c d:Nat}(h:AE ρ (.mat a b p) σ (.mat c d u))(hi:fw ρ (.mat a b p))(hj:fw σ (.mat c d u))(hd:p.dead=false):a=b↔c=d:=by
 have H:u.dead=false:=h.2.2.dead▸hd;constructor
 ·rintro rfl
  refine PE λG=>G (hj c d (.inr ⟨G,H,.inl rfl⟩) (.inr ⟨G,H,.inr (.inl rfl)⟩) (h.1.symm.trans h.2.1))
 ·rintro rfl
  refine PE λG=>G (hi a b (.inr ⟨G,hd,.inl rfl⟩) (.inr ⟨G,hd,.inr (.inl rfl)⟩) (h.1.trans h.2.1.symm))
theorem AE.peel:∀{p:T UInt8} {u:U} {ρ:UInt8->Nat} {σ:Nat->Nat},AE ρ p σ u->fw ρ p->fw σ u->Uq u->p.dead=false->
  ∃G,AE ρ p.peel G u.peel/\∀y,y∉BV u->G y=σ y:=by
 intro p
 induction p<;>intro u ρ σ h hi hj hu hd<;>cases u<;>simp only [AE]at h
 case nil.nil=>exact⟨σ,trivial,λ _ _=>rfl⟩
 case snd.snd=>exact⟨σ,h,λ _ _=>rfl⟩
 case rcv.rcv=>exact⟨σ,h,λ _ _=>rfl⟩
 case tau.tau=>exact⟨σ,h,λ _ _=>rfl⟩
 case rep.rep=>exact⟨σ,h,λ _ _=>rfl⟩
 case mat.mat a b p ih c d u=>
  have V:=AE.Kt (p:=p) (u:=u) h hi hj hd;unfold T.peel;by_cases e:a=b
  ·rw [Pd e,Pd (V.1 e)];exact ih h.2.2 (hi.sub λx H=> .inl ⟨e,H⟩) (hj.sub λx H=> .inl ⟨V.1 e,H⟩) hu.mat hd
  ·rw [OW e,OW λh'=>e (V.2 h')];exact⟨σ,h,λ _ _=>rfl⟩
 case sum.sum p q ih α u v=>
  have h1:=h.1.dead;have h2:=h.2.dead;unfold T.peel;rw [<-h1,<-h2];by_cases e:p.dead=true
  ·rw [Pd e,Pd e];obtain⟨G,Z,k2⟩:=α h.2 (hi.sub λx H=> .inr H) (hj.sub λx H=> .inr H) hu.dV (by simpa [T.dead,e]using hd);exact⟨G,Z,λy hy=>k2 y λJ=>hy (O9 _ J)⟩
  ·rw [OW e,OW e];by_cases W:q.dead=true
   ·rw [Pd W,Pd W];obtain⟨G,Z,k2⟩:=ih h.1 (hi.sub λx H=> .inl H) (hj.sub λx H=> .inl H) hu.eD (by simpa using e);exact⟨G,Z,λy hy=>k2 y λJ=>hy (Pf _ J)⟩
   ·rw [OW W,OW W];exact⟨σ,h,λ _ _=>rfl⟩
 case par.par p q ih α u v=>
  have h1:=h.1.dead;have h2:=h.2.dead;unfold T.peel;rw [<-h1,<-h2];by_cases e:p.dead=true
  ·rw [Pd e,Pd e];obtain⟨G,Z,k2⟩:=α h.2 (hi.sub λx H=> .inr H) (hj.sub λx H=> .inr H) hu.fL (by simpa [T.dead,e]using hd);exact⟨G,Z,λy hy=>k2 y λJ=>hy (O9 _ J)⟩
  ·rw [OW e,OW e];by_cases W:q.dead=true
   ·rw [Pd W,Pd W];obtain⟨G,Z,k2⟩:=ih h.1 (hi.sub λx H=> .inl H) (hj.sub λx H=> .inl H) hu.gB (by simpa using e);exact⟨G,Z,λy hy=>k2 y λJ=>hy (Pf _ J)⟩
   ·rw [OW W,OW W];exact⟨σ,h,λ _ _=>rfl⟩
 case res.res x p ih y u=>
  have β:=Lz (p:=p) (u:=u) h hi hj;unfold T.peel;by_cases e:p.Us x
  ·rw [Pd e,Pd (β.1 e)];exact⟨σ,h,λ _ _=>rfl⟩
  ·have W:¬u.Us y:=λh'=>e (β.2 h')
   rw [OW e,OW W];have hv:=h (ρ x);have hv:AE ρ p (aI σ y (ρ x)) u:=hv.congr (λz _=>by unfold aI;split<;>simp_all) λ _ _=>rfl
   obtain⟨G,Z,k2⟩:=ih hv (λa b ha hb=>hi a b ⟨λhh=>e (hh▸ha),ha⟩ ⟨λhh=>e (hh▸hb),hb⟩)
    (λa b ha hb V=>by
     have na:a≠y:=λhh=>W (hh▸ha)
     have nb:b≠y:=λhh=>W (hh▸hb)
     rw [bR _ _ na,bR _ _ nb]at V;exact hj a b ⟨na,ha⟩ ⟨nb,hb⟩ V) hu.res hd
   refine⟨G,Z,λz hz=>?_⟩;simp only [BV,OY,Sf]at hz;rw [k2 z hz.2,bR _ _ hz.1]
structure Bd (k:Nat)(p:P):Prop where
 eb:Eb k p
 le:k+p.rd+p.ow<=64
theorem Bd.bd {k:Nat}{p:P}(h:Bd k p):k+p.bd<=64:=by have :=T.AI p;have :=h.le;omega
theorem Bd.peel {k:Nat}{p:P}(h:Bd k p):∃m,k<=m/\Bd m p.peel:=by
 refine T.iG (λq=>∃m,k<=m/\Bd m q) ?_ ?_ ?_ ?_ p ⟨k,OL k,h⟩
 ·rintro a q ⟨m,hm,hb⟩;exact⟨m,hm,hb.eb.2.2,hb.le⟩
 ·rintro q r ⟨m,hm,hb⟩
  have :=hb.le;simp only [T.rd,T.ow]at this;exact⟨⟨m,hm,hb.eb.1,by omega⟩,⟨m,hm,hb.eb.2,by omega⟩⟩
 ·rintro q r ⟨m,hm,hb⟩
  have :=hb.le;simp only [T.rd,T.ow]at this;exact⟨⟨m,hm,hb.eb.1,by omega⟩,⟨m,hm,hb.eb.2,by omega⟩⟩
 ·rintro x q _ ⟨m,hm,hb⟩
  have :=hb.le;simp only [T.rd,T.ow]at this;exact⟨m+1,by omega,hb.eb.2,by omega⟩
theorem Jg {p:P}(h:p.wf=true):p.peel.wf=true:=
 T.iG (λq=>q.wf=true) (λ _ _ h=>by simp only [T.wf,OD]at h;exact h.2) (λ _ _ h=>by simpa only [T.wf,OD]using h)
  (λ _ _ h=>by simpa only [T.wf,OD]using h) (λ _ _ _ h=>by simp only [T.wf,OD]at h;exact h.2) p h
theorem FI (p:P):p.peel.aN<=p.aN:=
 T.iG (λq=>q.aN<=p.aN) (λ _ _ h=>by simp only [T.aN]at h;omega) (λ _ _ h=>by simp only [T.aN]at h;omega) (λ _ _ h=>by simp only [T.aN]at h;omega) (λ _ _ _ h=>by simp only [T.aN]at h;omega) p (OL _)
end Go.Proofs.YtdecokaadekjnaaGreat
namespace Go.Proofs.YtdecokaadekjnaaGreat
open Go
attribute [go_sem] Tryz.f245
theorem sg (G:aB)(w:World)(R:aB->Sg)(h:vc az (bf [(1,[(0,.s)])] [] [(1,false,.lt 0 (.one .h 1 (.lt 2 (.lt 3 (.lt 4 (.lt 5 (.lt 6 (.lt 7 (.lt 8 (.lt 9 .done))))))))))]) (ab Tryz.f245) (aj 0 [.s G]) w (fin az [.tmp 2 .s] R)):
  Sh 245 #[(.string (ai G))] w (aw [.s] R):=
 bE Tryz.func245 (by kernel_rfl) h
attribute [go_sem] Tryz.f246
theorem tW (G:aB)(w:World)(R:Bool->Sg)(h:vc az (bf [(10,[(18,.i)])] [] []) (ab Tryz.f246) (aj 0 [.s G]) w (fin az [.tmp 2 .b] R)):
  Sh 246 #[(.string (ai G))] w (aw [.b] R):=
 bE Tryz.func246 (by kernel_rfl) h
attribute [go_sem] Tryz.f225
theorem ug (G:aB)(w:World)(R:aB->Sg)(h:vc az (bf [(6,[(3,.s),(17,.i)]),(14,[(3,.s),(39,.i)])] [(13,[(3,.s)])] []) (ab Tryz.f225) (aj 0 [.s G]) w (fin az [.tmp 2 .s] R)):
  Sh 225 #[(.string (ai G))] w (aw [.s] R):=
 bE Tryz.func225 (by kernel_rfl) h
attribute [go_sem] Tryz.f256
theorem uA (G:aB)(w:World)(R:aB->Sg)(h:vc az (bf [(1,[(0,.s)])] [] [(9,false,.lt 0 (.lt 1 (.lt 2 (.lt 3 (.lt 4 (.lt 5 (.lt 7 (.lt 8 (.one .h 6 (.one .h 9 (.lt 10 (.lt 11 (.lt 12 .done)))))))))))))]) (ab Tryz.f256) (aj 0 [.s G]) w (fin az [.tmp 2 .s] R)):
  Sh 256 #[(.string (ai G))] w (aw [.s] R):=
 bE Tryz.func256 (by kernel_rfl) h
attribute [go_sem] Tryz.f242
theorem ky (G:Value)(H:aB)(w:World)(R:Sg)(h:vc az (bf [(10,[(5,.c)])] [(15,[])] [(14,false,.lt 0 (.lt 1 (.lt 2 (.lt 4 (.br .h 3 (.one .h 5 (.one .h 6 (.lt 7 (.lt 8 (.lt 9 (.one .h 10 .done)))))) (.one .h 5 (.br .h 3 (.one .h 6 (.lt 7 (.lt 8 (.lt 9 (.one .h 10 .done))))) (.one .h 6 (.one .h 3 (.lt 7 (.lt 8 (.lt 9 (.one .h 10 .done))))))))))))),(15,false,.lt 0 (.lt 1 (.lt 2 (.lt 3 (.lt 4 (.lt 5 (.one .h 6 (.one .h 7 .done))))))))]) (ab Tryz.f242) (aj 0 [.v G,.s H]) w (fin az [] R)):
  Sh 242 #[G,(.string (ai H))] w (aw [] R):=
 bE Tryz.func242 (by kernel_rfl) h
attribute [go_sem] Tryz.f243
theorem jD (s1:aB)(w:World)(R:Value->Sg)(h:vc az (bf [(5,[(3,.v),(13,.i)]),(8,[(3,.v),(26,.i)])] [] [(7,false,.lt 0 (.lt 1 (.lt 2 (.lt 3 (.lt 4 (.lt 5 (.lt 6 (.lt 7 (.lt 10 (.one .h 8 (.lt 9 .done)))))))))))]) (ab Tryz.f243) (aj 0 [.s s1]) w (fin az [.tmp 2 .v] R)):
  Sh 243 #[(.string (ai s1))] w (aw [.v] R):=
 bE Tryz.func243 (by kernel_rfl) h
attribute [go_sem] Tryz.f191
theorem tf (G:Value)(s2:aB)(w:World)(R:aB->Sg)(h:vc az (bf [(3,[(5,.s),(6,.i)])] [] []) (ab Tryz.f191) (aj 0 [.v G,.s s2]) w (fin az [.tmp 4 .s] R)):
  Sh 191 #[G,(.string (ai s2))] w (aw [.s] R):=
 bE Tryz.func191 (by kernel_rfl) h
attribute [go_sem] Tryz.f69
theorem qm (G:Value)(w:World)(R:Value->Sg)(h:vc az (bf [(3,[(3,.v),(10,.i)]),(6,[(6,.i)])] [(8,[(6,.i)])] []) (ab Tryz.f69) (aj 0 [.v G]) w (fin az [.tmp 2 .v] R)):
  Sh 69 #[G] w (aw [.v] R):=
 bE Tryz.func69 (by kernel_rfl) h
attribute [go_sem] Tryz.f258
theorem oG (G:aB)(w:World)(R:Value->Sg)(h:vc az (bf [] [] [(7,false,.lt 0 (.lt 1 (.lt 2 (.lt 4 (.lt 5 (.lt 6 (.one .h 3 (.one .h 7 (.one .h 8 (.lt 9 .done))))))))))]) (ab Tryz.f258) (aj 0 [.s G]) w (fin az [.tmp 2 .v] R)):
  Sh 258 #[(.string (ai G))] w (aw [.v] R):=
 bE Tryz.func258 (by kernel_rfl) h
end Go.Proofs.YtdecokaadekjnaaGreat
namespace Go.Proofs.YtdecokaadekjnaaGreat
open Go Go.RowKit
theorem Strs.get {w w':World}{v:Value}{l:List Tx}(h:Strs w v l)(hw:Ex w w'){i:Int}{x:Tx}(G:0<=i)(H:l[i.toNat]?=some x){Q:aB->Prop}(J:Q x):
  ∃(b o len cap:Nat),v=Value.slice (some ⟨b,o,none⟩) len cap/\0<=i/\i< (len:Int)/\∃s:aB,World.cell? w' ⟨b,o+Int.toNat i* 1,none⟩=some (Value.string (ai s))/\Q s:=by
 obtain⟨hi,e⟩:=Pw.1 H;obtain⟨b,o,cap,V,Z,W⟩:=(h.ex hw).at hi;exact⟨b,o,l.length,cap,V,G,by omega,x,by rw [Pg,W,e],J⟩
theorem Strs.HK {w:World}{v:Value}{l:List Tx}(h:Strs w v l){i:Int}{x:Tx}(G:0<=i)(H:l[i.toNat]?=some x){Q:aB->Prop}(J:Q x):
  ∃(b o len cap:Nat),v=Value.slice (some ⟨b,o,none⟩) len cap/\0<=i/\i< (len:Int)/\∃s:aB,(∀w',Ex w w'->World.cell? w' ⟨b,o+Int.toNat i* 1,none⟩=some (Value.string (ai s)))/\Q s:=by
 obtain⟨hi,e⟩:=Pw.1 H;obtain⟨b,o,cap,V,W,Z⟩:=h.at hi;exact⟨b,o,l.length,cap,V,G,by omega,x,λw' hw=>by rw [hw.cell W,Pg,Z,e],J⟩
theorem ue {t:P}(ok:Ok t):Ok t.strip:=by
 have:∀t:P,t.wf=true->t.strip.wf=true/\t.strip.aN<=t.aN:=by
  intro t
  induction t with
  | mat a b p G=>
   intro h;unfold T.strip;split
   ·simp only [T.wf,OD]at h;have :=G h.2;exact⟨this.1,by simp only [T.aN];omega⟩
   ·exact⟨h,OL _⟩
  | _=>exact λh=>⟨h,OL _⟩
 have h:=this t ok.wf;exact⟨h.1,by have :=ok.len;rw [T.aX]at*;omega⟩
theorem qK {t:P}(ok:Ok t){w:World}{R:aB->Sg}(h:∀w',Ex w w'->R t.strip.text w'):Sh 245 #[.string (ai t.text)] w (aw [.s] R):=by
 refine sg _ w R ?_;dsimp only [go_sem];dsimp only [go_sem,UInt8.reduceOfNat,UInt32.reduceOfNat,Nat.reduceAdd];refine⟨λp w'=>Ex w w'/\∃q:P,p=q.text/\Ok q/\q.strip=t.strip,λp _=>p.length,⟨Ex.refl w,t,rfl,ok,rfl⟩,λp w1 W=>?_⟩;obtain⟨Z,q,rfl,G,V⟩:=W;refine⟨λ _=>True,λw2 J=>⟨trivial,aQ G ⟨trivial,?_⟩⟩⟩;have H:Ex w w2:=Z.trans (J▸Ex.drew w1);have no:q.strip=q->R q.text w2:=λe=>by
  have :=h w2 H;rw [<-V,e]at this;exact this
 cases q with
 | mat a b p=>
  simp only [T.kind];refine cZ (by decide) ⟨by simp only [T.text,OA];omega,by simp only [T.text,OA];omega,λhc=>?_,λhc=>?_⟩
  ·have e:a=b:=O1 hc;subst e;have h2:T.strip (.mat a a p)=p.strip:=by conv=>lhs;unfold T.strip;rw [Pd rfl]
   refine⟨by simp only [T.text,OA];omega,⟨H,p,rfl,G.parts p (by simp [T.parts]),h2.symm.trans V⟩,?_⟩;show p.text.length< (T.mat a a p).text.length;simp only [T.text,OA];omega
  ·have e:a≠b:=O4 hc;exact no (by conv=>lhs;unfold T.strip;rw [OW e])
 | _=>simp only [T.kind];exact aW (by decide) (no rfl)
theorem uh {t:P}(G:t.kind≠33)(h2:t.kind≠63)(H:t.kind≠126):t.dead=t.parts.all T.dead:=by
 cases t<;>first | (exact absurd rfl G) | (exact absurd rfl h2) | (exact absurd rfl H) | simp [T.dead,T.parts]
theorem fV:∀(n:Nat) {t:P},t.size<=n->Ok t->∀{w:World} {R:Bool->Sg},(∀w',Ex w w'->R t.dead w')->Sh 246 #[.string (ai t.text)] w (aw [.b] R):=by
 intro n
 induction n with
 | zero=>intro t h;have :=bc t;omega
 | succ n ih=>
  intro t hn ok w R h;refine tW _ w R ?_;dsimp only [go_sem];dsimp only [go_sem,UInt8.reduceOfNat,UInt32.reduceOfNat,Nat.reduceAdd];refine qK ok λw1 γ=>?_
  have δ:=ue ok;have hq:=T.nQ t;rw [<-T.sZ]at h;generalize t.strip=q at*;refine aQ δ ?_;have loop:q.kind≠33->q.kind≠63->q.kind≠126->Sh 117 #[(Value.string (ai q.text))] w1 (aw [.v] fun(ι:Value) (υ:World)=>∃(a40:Option Addr) (H ε:Nat),ι=Value.slice a40 H ε/\∃(ζ:Int->Sg) (κ:Int->World->Nat),ζ (0) υ/\∀(G:Int) (V:World),ζ G V->((decide (G< (H:Int)))=true->∃(b47 μ W η:Nat),ι=Value.slice (some ⟨b47,μ,none⟩) W η/\0<=(G:Int)/\(G:Int)< W/\∃ν:aB,World.cell? V ⟨b47,(μ+Int.toNat G* 1),none⟩=some (Value.string (ai ν))/\Sh 246 #[(Value.string (ai ν))] V (aw [.b] fun(ξ:Bool) (θ:World)=>((!ξ)=true->R (false) θ)/\((!ξ)=false->a7 (G+1)/\ζ ((G+1)) θ/\κ ((G+1)) θ< κ G V)))/\((decide (G< (H:Int)))=false->R (true) V)):=by
   intro h1 h2 h3;refine de δ λv w2 ο hs=>?_
   obtain⟨a,cap,hv⟩:=hs.slice;rw [O3]at hv;have φ:=eh q;refine⟨a,q.parts.length,cap,hv,λx w'=>Ex w2 w'/\∃k:Nat,x=k/\k<=q.parts.length/\∀p∈q.parts.take k,p.dead=true,λx _=>((q.parts.length:Int) - x).toNat,⟨Ex.refl _,0,rfl,by omega,by simp⟩,λx w3 hI=>?_⟩;obtain⟨β,k,rfl,hk,Z⟩:=hI;refine⟨λhc=>?_,λhc=>?_⟩
   ·have J:k< q.parts.length:=by simpa using hc
    have α:q.parts[k]∈q.parts:=OK J;refine hs.get β (i:=k) (by omega) (x:=(q.parts[k]).text) (by simp [J]) ?_;refine ih (by have :=ef α;omega) (δ.parts _ α) λw4 ς=>⟨λhd=>?_,λhd=>?_⟩
    ·have hd:(q.parts[k]).dead=false:=by simpa using hd
     have e:q.dead=false:=by
      rw [uh h1 h2 h3,List.all_eq_false];exact⟨_,α,by simp [hd]⟩
     rw [<-e];exact h w4 (((γ.trans ο).trans β).trans ς)
    ·have hd:(q.parts[k]).dead=true:=by simpa using hd
     refine⟨by omega,⟨β.trans ς,k+1,by omega,J,λp hp=>?_⟩,by dsimp only;omega⟩;rw [List.take_succ_eq_append_getElem J]at hp;rcases OM.1 hp with hp | hp
     ·exact Z p hp
     ·rw [OJ.1 hp];exact hd
   ·have J:k=q.parts.length:=by simp at hc;omega
    subst J;rw [O6]at Z;have e:q.dead=true:=by
     rw [uh h1 h2 h3,QI];exact Z
    rw [<-e];exact h w3 ((γ.trans ο).trans β)
  have h:=h w1 γ;cases q with
  | nil=>simp only [T.kind];exact cZ (by decide) h
  | snd a b p=>simp only [T.kind];exact aW (by decide) (cZ (by decide) (cZ (by decide) h))
  | rcv a b p=>simp only [T.kind];exact aW (by decide) (aW (by decide) (cZ (by decide) (cZ (by decide) h)))
  | tau p=>simp only [T.kind];exact aW (by decide) (aW (by decide) (aW (by decide) (cZ (by decide) h)))
  | sum p q=>simp only [T.kind];exact aW (by decide) (aW (by decide) (aW (by decide) (aW (by decide) (loop (by simp [T.kind]) (by simp [T.kind]) (by simp [T.kind])))))
  | par p q=>simp only [T.kind];exact aW (by decide) (aW (by decide) (aW (by decide) (aW (by decide) (loop (by simp [T.kind]) (by simp [T.kind]) (by simp [T.kind])))))
  | res x p=>simp only [T.kind];exact aW (by decide) (aW (by decide) (aW (by decide) (aW (by decide) (loop (by simp [T.kind]) (by simp [T.kind]) (by simp [T.kind])))))
  | mat a b p=>simp only [T.kind];exact aW (by decide) (aW (by decide) (aW (by decide) (aW (by decide) (loop (by simp [T.kind]) (by simp [T.kind]) (by simp [T.kind])))))
  | rep p=>simp only [T.kind];exact aW (by decide) (aW (by decide) (aW (by decide) (aW (by decide) (loop (by simp [T.kind]) (by simp [T.kind]) (by simp [T.kind])))))
theorem HF {t:P}(hd:t.dead=false)(hm:∀a b p,t= .mat a b p->a≠b)(x:UInt8):t.Us x↔x∈t.names\/(∃p∈t.parts,p.Us x)/\¬(t.rf=true/\x=t.bindC):=by
 cases t<;>simp [T.Us,T.names,T.parts,T.rf,T.bindC,RA,and_comm]
 case mat a b p=>
  have G:=hm a b p rfl;have hd:p.dead=false:=hd;simp [G,hd]
theorem pg:∀(n:Nat) {t:P},t.size<=n->Ok t->∀{w:World} {R:aB->Sg},(∀s w',Ex w w'->jb s->(∀x,x∈s↔t.Us x)->R s w')->Sh 225 #[.string (ai t.text)] w (aw [.s] R):=by
 intro n
 induction n with
 | zero=>intro t h;have :=bc t;omega
 | succ n ih=>
  intro t0 hn ok w R h;refine ug _ w R ?_;dsimp only [go_sem];dsimp only [go_sem,UInt8.reduceOfNat,UInt32.reduceOfNat,Nat.reduceAdd];refine qK ok λw1 η=>?_
  have H:=ue ok;have hsz:=T.nQ t0;have θ:=T.qb t0;have h:∀s w',Ex w w'->jb s->(∀x,x∈s↔t0.strip.Us x)->R s w':=λs w' a b c=>h s w' a b λx=>by rw [c,T.BW]
  generalize t0.strip=t at*;refine fV _ (OL _) H λw2 ι=>⟨λhd=>?_,λhd=>?_⟩
  ·exact h [] w2 (η.trans ι) jb.nil λx=>⟨λhx=>absurd hx Qz,λhx=>absurd hx (T.bL hd)⟩
  refine de H λv w3 ξ hs=>?_
  have J:=(η.trans ι).trans ξ;obtain⟨a,cap,hv⟩:=hs.slice;rw [O3]at hv;have hpl:=eh t;refine⟨a,t.parts.length,cap,hv,λout x w'=>Ex w3 w'/\jb out/\∃k:Nat,x=k/\k<=t.parts.length/\∀x,x∈out↔∃p∈t.parts.take k,p.Us x,λ _ x _=>((t.parts.length:Int) - x).toNat,
   ⟨Ex.refl _,jb.nil,0,rfl,by omega,by simp⟩,λout x w4 hI=>?_⟩
  obtain⟨V,W,k,rfl,hk,hm⟩:=hI;refine⟨λhc=>?_,λhc=>?_⟩
  ·have G:k< t.parts.length:=by simpa using hc
   have Z:t.parts[k]∈t.parts:=OK G;refine hs.get V (i:=k) (by omega) (x:=(t.parts[k]).text) (by simp [G]) ?_;refine ih (by have :=ef Z;omega) (H.parts _ Z) λs w5 β ο γ=>?_
   refine fN W (by have :=ο.bound;omega) λs' w6 δ ς υ=>⟨by omega,⟨(V.trans β).trans δ,ς,k+1,by omega,G,λx=>?_⟩,by dsimp only;omega⟩
   rw [υ,hm,γ,OE G];simp only [OM,OJ];constructor
   ·rintro(⟨p,hp,hf⟩ | hf)
    ·exact⟨p,.inl hp,hf⟩
    ·exact⟨_,.inr rfl,hf⟩
   ·rintro⟨p,hp | rfl,hf⟩
    ·exact .inl ⟨p,hp,hf⟩
    ·exact .inr hf
  ·have G:k=t.parts.length:=by simp at hc;omega
   subst G;rw [O6]at hm;refine⟨λout w'=>Ex w w'/\jb out/\∀x,x∈out↔(∃p∈t.parts,p.Us x)/\¬(t.rf=true/\x=t.bindC),qL H ⟨λhb=>?_,λhb=>?_⟩,λκ w5 hJ=>?_⟩
   ·refine Ay (by have :=W.bound;omega) ⟨J.trans V,W.filter _,λx=>?_⟩;simp [hm,hb]
   ·exact⟨J.trans V,W,λx=>by simp [hm,hb]⟩
   obtain⟨β,μ,γ⟩:=hJ;refine FE H λw6 δ=>λb cp w7 hb ν φ=>?_
   have χ:=rm.GC ν;have ψ:Ex w w7:=(β.trans δ).trans (tK φ);have hnl:t.names.length<=2:=by cases t<;>simp [T.names]
   refine⟨some ⟨b,0,none⟩,t.names.length,cp,rfl,λout x w'=>Ex w7 w'/\jb out/\∃k:Nat,x=k/\k<=t.names.length/\∀x,x∈out↔x∈t.names.take k\/x∈κ,λ _ x _=>((t.names.length:Int) - x).toNat,
    ⟨Ex.refl _,μ,0,rfl,by omega,by simp⟩,λout x w8 hI=>?_⟩
   obtain⟨ε,α,k,rfl,hk,ζ⟩:=hI;refine⟨λhc=>?_,λhc=>?_⟩
   ·have G:k< t.names.length:=by simpa using hc
    refine⟨b,0,t.names.length,cp,rfl,by omega,by omega,bt t.names k,(χ.ex ε).at G,?_⟩;refine fG α λs w9 ω hs9 hm9=>⟨by omega,⟨ε.trans ω,hs9,k+1,by omega,G,λx=>?_⟩,by dsimp only;omega⟩
    have e:t.names.take (k+1)=t.names.take k++[bt t.names k]:=by
     have :=gM (s:=t.names) (i:=k) (by omega) (by omega);have e2:((k:Int)+1).toNat=k+1:=by omega
     rw [e2]at this;exact this
    rw [hm9,ζ,e];simp only [OM,OJ];constructor
    ·rintro(h | h | h)
     ·exact .inl (.inr h)
     ·exact .inl (.inl h)
     ·exact .inr h
    ·rintro((h | h) | h)
     ·exact .inr (.inl h)
     ·exact .inl h
     ·exact .inr (.inr h)
   ·have G:k=t.names.length:=by simp at hc;omega
    subst G;rw [O6]at ζ;refine h out w8 (ψ.trans ε) α λx=>?_
    rw [ζ,γ,HF hd (λa b p e=>θ a b p e)]
theorem Cq (t:P):t.strip.peel=t.peel:=by
 induction t with
 | mat a b p G=>
  unfold T.strip;split
  ·rename_i e;rw [G];conv=>rhs;unfold T.peel;rw [Pd e]
  ·rfl
 | _=>rfl
theorem AU {t:P}(ok:Ok t){w:World}{R:aB->Sg}(h:∀w',Ex w w'->Ok t.peel->R t.peel.text w'):Sh 256 #[.string (ai t.text)] w (aw [.s] R):=by
 refine uA _ w R ?_;dsimp only [go_sem];dsimp only [go_sem,UInt8.reduceOfNat,UInt32.reduceOfNat,Nat.reduceAdd];refine⟨λp w'=>Ex w w'/\∃q:P,p=q.text/\Ok q/\q.peel=t.peel,λp _=>p.length,⟨Ex.refl w,t,rfl,ok,rfl⟩,λp w1 hI=>?_⟩;obtain⟨hx,q0,rfl,δ,V⟩:=hI;refine qK δ λw2 θ=>?_
 have W:=ue δ;have hlen:q0.strip.text.length<=q0.text.length:=by
  have:∀t:P,t.strip.aN<=t.aN:=by
   intro t
   induction t with
   | mat a b p ih=>
    unfold T.strip;split
    ·simp only [T.aN];omega
    ·exact OL _
   | _=>exact OL _
  rw [T.aX,T.aX];exact this q0
 have ζ:=T.qb q0;rw [<-Cq]at V;generalize q0.strip=q at*;refine de W λv w3 ι hs=>aQ W ?_
 have β:Ex w w3:=(hx.trans θ).trans ι;have stay:q.peel=q->∀w',Ex w3 w'->R q.text w':=λe w' κ=>by
  have :=h w' (β.trans κ) (V▸e.symm▸W);rw [<-V,e]at this;exact this
 cases q with
 | nil=>
  simp only [T.kind]
  repeat' first | refine aW (by decide) ?_ | refine cZ (by decide) ?_ | refine cD (by decide) ?_ | refine dU (by decide) ?_
  exact⟨λ _=>True,λw4 H=>⟨trivial,aW (by decide) (stay rfl w4 (H▸Ex.drew w3))⟩⟩
 | snd a b p=>
  simp only [T.kind]
  repeat' first | refine aW (by decide) ?_ | refine cZ (by decide) ?_ | refine cD (by decide) ?_ | refine dU (by decide) ?_
  exact⟨λ _=>True,λw4 H=>⟨trivial,aW (by decide) (stay rfl w4 (H▸Ex.drew w3))⟩⟩
 | rcv a b p=>
  simp only [T.kind]
  repeat' first | refine aW (by decide) ?_ | refine cZ (by decide) ?_ | refine cD (by decide) ?_ | refine dU (by decide) ?_
  exact⟨λ _=>True,λw4 H=>⟨trivial,aW (by decide) (stay rfl w4 (H▸Ex.drew w3))⟩⟩
 | tau p=>
  simp only [T.kind]
  repeat' first | refine aW (by decide) ?_ | refine cZ (by decide) ?_ | refine cD (by decide) ?_ | refine dU (by decide) ?_
  exact⟨λ _=>True,λw4 H=>⟨trivial,aW (by decide) (stay rfl w4 (H▸Ex.drew w3))⟩⟩
 | rep p=>
  simp only [T.kind]
  repeat' first | refine aW (by decide) ?_ | refine cZ (by decide) ?_ | refine cD (by decide) ?_ | refine dU (by decide) ?_
  exact⟨λ _=>True,λw4 H=>⟨trivial,aW (by decide) (stay rfl w4 (H▸Ex.drew w3))⟩⟩
 | mat a b p=>
  have μ:=ζ a b p rfl;simp only [T.kind]
  repeat' first | refine aW (by decide) ?_ | refine cZ (by decide) ?_ | refine cD (by decide) ?_ | refine dU (by decide) ?_
  exact⟨λ _=>True,λw4 H=>⟨trivial,aW (by decide) (stay (by unfold T.peel;rw [OW μ]) w4 (H▸Ex.drew w3))⟩⟩
 | res x p=>
  have Z:=W.parts p (by simp [T.parts]);simp only [T.kind]
  repeat' first | refine aW (by decide) ?_ | refine cZ (by decide) ?_ | refine cD (by decide) ?_ | refine dU (by decide) ?_
  refine⟨λw'=>Ex w3 w',λw4 H=>⟨H▸Ex.drew w3,cZ (by decide) ?_⟩⟩;have G:Ex w3 w4:=H▸Ex.drew w3;refine hs.HK (i:=0) (x:=p.text) (by omega) rfl ⟨by simp only [T.text,OA];omega,?_⟩;refine pg _ (OL _) Z λs w5 J ν η=>⟨G.trans J,iU (by have :=ν.bound;omega) ⟨G.trans J,λhq=>?_,λhq=>?_⟩⟩
  ·have hq:¬p.Us x:=by
    rw [<-η];simpa [T.text,bt]using hq
   refine hs.get (G.trans J) (i:=0) (x:=p.text) (by omega) rfl ⟨⟨β.trans (G.trans J),p,rfl,Z,?_⟩,?_⟩
   ·rw [<-V];conv=>rhs;unfold T.peel;rw [OW hq]
   ·have:p.text.length< (T.res x p).text.length:=by simp only [T.text,OA];omega
    exact O5 this hlen
  ·have hq:p.Us x:=by
    rw [<-η];simpa [T.text,bt]using hq
   exact stay (by unfold T.peel;rw [Pd hq]) w5 (G.trans J)
 | sum p r=>
  have Z:=W.parts p (by simp [T.parts]);have γ:=W.parts r (by simp [T.parts]);have lp:p.text.length< (T.sum p r).text.length:=by simp only [T.text,OA,OG];omega
  have lr:r.text.length< (T.sum p r).text.length:=by simp only [T.text,OA,OG];omega
  simp only [T.kind]
  repeat' first | refine aW (by decide) ?_ | refine cZ (by decide) ?_ | refine cD (by decide) ?_ | refine dU (by decide) ?_
  refine hs.get (Ex.refl w3) (i:=0) (x:=p.text) (by omega) rfl (fV _ (OL _) Z λw4 G=>⟨λhd=>?_,λhd=>?_⟩)
  ·refine hs.get G (i:=1) (x:=r.text) (by omega) rfl ⟨⟨β.trans G,r,rfl,γ,?_⟩,O5 lr hlen⟩;rw [<-V];conv=>rhs;unfold T.peel;rw [Pd hd]
  repeat' first | refine aW (by decide) ?_ | refine cZ (by decide) ?_ | refine cD (by decide) ?_ | refine dU (by decide) ?_
  refine hs.get G (i:=1) (x:=r.text) (by omega) rfl (fV _ (OL _) γ λw5 J=>⟨λα=>?_,λα=>?_⟩)
  ·refine hs.get (G.trans J) (i:=0) (x:=p.text) (by omega) rfl ⟨⟨β.trans (G.trans J),p,rfl,Z,?_⟩,O5 lp hlen⟩;rw [<-V];conv=>rhs;unfold T.peel;rw [OW (by simp [hd]),Pd α]
  ·exact⟨λ _=>True,λw6 ε=>⟨trivial,aW (by decide) (stay (by unfold T.peel;rw [OW (by simp [hd]),OW (by simp [α])]) w6 ((G.trans J).trans (ε▸Ex.drew w5)))⟩⟩
 | par p r=>
  have Z:=W.parts p (by simp [T.parts]);have γ:=W.parts r (by simp [T.parts]);have lp:p.text.length< (T.par p r).text.length:=by simp only [T.text,OA,OG];omega
  have lr:r.text.length< (T.par p r).text.length:=by simp only [T.text,OA,OG];omega
  simp only [T.kind]
  repeat' first | refine aW (by decide) ?_ | refine cZ (by decide) ?_ | refine cD (by decide) ?_ | refine dU (by decide) ?_
  refine hs.get (Ex.refl w3) (i:=0) (x:=p.text) (by omega) rfl (fV _ (OL _) Z λw4 G=>⟨λhd=>?_,λhd=>?_⟩)
  ·refine hs.get G (i:=1) (x:=r.text) (by omega) rfl ⟨⟨β.trans G,r,rfl,γ,?_⟩,O5 lr hlen⟩;rw [<-V];conv=>rhs;unfold T.peel;rw [Pd hd]
  repeat' first | refine aW (by decide) ?_ | refine cZ (by decide) ?_ | refine cD (by decide) ?_ | refine dU (by decide) ?_
  refine hs.get G (i:=1) (x:=r.text) (by omega) rfl (fV _ (OL _) γ λw5 J=>⟨λα=>?_,λα=>?_⟩)
  ·refine hs.get (G.trans J) (i:=0) (x:=p.text) (by omega) rfl ⟨⟨β.trans (G.trans J),p,rfl,Z,?_⟩,O5 lp hlen⟩;rw [<-V];conv=>rhs;unfold T.peel;rw [OW (by simp [hd]),Pd α]
  ·exact⟨λ _=>True,λw6 ε=>⟨trivial,aW (by decide) (stay (by unfold T.peel;rw [OW (by simp [hd]),OW (by simp [α])]) w6 ((G.trans J).trans (ε▸Ex.drew w5)))⟩⟩
def sv (x:Tx):Value:= .string (ai x)
def Own (B:Nat)(w:World)(v:Value)(l:List Tx):Prop:=w.ownsRow B 9 1 v l.length (l.map sv)
theorem Own.nil (B:Nat)(w:World):Own B w (.slice none 0 0) []:=World.ownsRow_nil _ _ _ _
theorem Own.strs {B:Nat}{w:World}{v:Value}{l:List Tx}(h:Own B w v l):Strs w v l:=by
 rcases h.2 with⟨rfl,J⟩ | ⟨g,cap,cur,rfl,hb,G,V,h2,W,h4⟩
 ·exact .inl ⟨rfl,O' J⟩
 ·refine .inr ⟨g,0,cap,rfl,(Pk.1 G).1,λi x H=>?_⟩;unfold World.cell?;simp only [G,Pa];have e:=PL (λl=>l[i]?) h4;obtain⟨hi,_⟩:=Pw.1 H;simp only [Pg,Q9,hi,Qr,Qp,H,Qw]at e;rw [<-Qe];exact e
theorem Own.ex {B:Nat}{w w':World}{v:Value}{l:List Tx}(h:Own B w v l)(k:Ex w w'):Own B w' v l:=by
 refine⟨h.1,?_⟩;rcases h.2 with H | ⟨g,cap,cur,rfl,hb,G,rest⟩
 ·exact .inl H
 ·exact .inr ⟨g,cap,cur,rfl,hb,by rw [k.block g (Pk.1 G).1];exact G,rest⟩
theorem Own.mono {B G:Nat}{w:World}{v:Value}{l:List Tx}(h:Own B w v l)(hb:G<=B):Own G w v l:=R5 h hb
theorem Own.push {B:Nat}{w:World}{v:Value}{l:List Tx}(h:Own B w v l)(hB:B<=w.heap.size){x:Value}{m:List Tx}(H:Strs w x m)(Z:l.length+m.length<=1099511627776){K:Value->Sg}
  (J:∀v' w',Below B w w'->Own B w' v' (l++m)->w.grownBy w' v.ownBlock->(∀b,v'.ownBlock=some b->v.ownBlock=some b\/w.heap.size<=b)->K v' w'):
  ∃(base n k:Nat) (xs news:List Value),World.ownsRow w base 9 1 v n xs/\base<=Array.size (World.heap w)/\dY w x k 1 news/\(n+k<=maxLen/\(n+k)* 16<=140737488355328)/\
   ∀(v':Value) (w':World),World.ownsRow w' base 9 1 v' (n+k) (xs++news)->World.grownBy w w' (Value.ownBlock v)->(∀b:Nat,Value.ownBlock v'=some b->Value.ownBlock v=some b\/Array.size (World.heap w)<=b)->K v' w':=by
 refine⟨B,l.length,m.length,l.map sv,m.map sv,h,hB,?_,⟨by unfold maxLen;omega,by omega⟩,λv' w' V G hw=>J v' w' ?_ ?_ G hw⟩
 ·refine⟨by simp,by simp [sv,ay],?_⟩;rcases H with⟨rfl,rfl⟩ | ⟨b,off,cap,rfl,hb,hc⟩
  ·exact .inl ⟨rfl,rfl⟩
  ·refine .inr ⟨b,off,cap,rfl,λj u hu=>?_⟩;rw [Qp]at hu;cases e:m[j]? with
   | none=>rw [e]at hu;cases hu
   | some y=>rw [e]at hu;cases hu;exact hc j y e
 ·exact Below.grown (Se B w) G hB λk W=>(Rr h k W).1
 ·unfold Own;rw [OG,PC];exact V
theorem Strs.grown {w w':World}{v:Value}{l:List Tx}{row:Option Nat}(h:Strs w v l)(H:w.grownBy w' row)(G:∀b,v.ownBlock=some b->row≠some b):Strs w' v l:=by
 rcases h with h | ⟨b,off,cap,J,h2,V⟩
 ·exact .inl h
 ·refine .inr ⟨b,off,cap,J,O5 h2 H.size,λi x W=>?_⟩;rw [OB (w:=w) (H.block b h2 (λe=>G b (by rw [J];rfl) e.symm))];exact V i x W
theorem Own.block {B:Nat}{w:World}{v:Value}{l:List Tx}(h:Own B w v l):∀b,v.ownBlock=some b->B<=b/\b< w.heap.size:=Rr h
theorem Ex.below {w0 w w':World}(h:Ex w0 w)(k:Below w0.heap.size w w'):Ex w0 w':=Qm h k
theorem Strs.one {w w':World}{b:Nat}{x:Tx}(hb:b=w.heap.size)(h:w'=w.alloc (.cells #[.string (ai x)] 9)):Strs w' (.slice (some ⟨b,0,none⟩) 1 1) [x]:=by
 subst hb h;refine .inr ⟨_,0,1,rfl,by rw [size_alloc];omega,λi z G=>?_⟩;rw [Pa];refine aa ?_
 match i,G with
 | 0,G=>simp at G|-;exact G▸rfl
 | i+1,G=>simp at G
theorem Own.one {w w':World}{B b:Nat}{x:Tx}(hB:B<=w.heap.size)(hb:b=w.heap.size)(h:w'=w.alloc (.cells #[.string (ai x)] 9)):Own B w' (.slice (some ⟨b,0,none⟩) 1 1) [x]:=by
 subst hb h;refine⟨rfl,.inr ⟨_,1,#[.string (ai x)],rfl,hB,?_,by simp,by unfold maxLen;omega,rfl,rfl⟩⟩;unfold World.alloc;simp
theorem Own.none {w w':World}{B b:Nat}(hB:B<=w.heap.size)(hb:b=w.heap.size)(h:w'=w.alloc (.cells #[] 9)):Own B w' (.slice (some ⟨b,0,none⟩) 0 0) []:=by
 subst hb h;refine⟨rfl,.inr ⟨_,0,#[],rfl,hB,?_,by simp,by unfold maxLen;omega,rfl,rfl⟩⟩;unfold World.alloc;simp
theorem Strs.take {w:World}{a:Option Addr}{n cap:Nat}{l:List Tx}(h:Strs w (.slice a n cap) l){k:Int}(Z:0<=k)(J:k<=l.length):
  Strs w (.slice (if cap=Int.toNat 0 then a else Option.map (·.add (Int.toNat 0* 1)) a) (Int.toNat k - Int.toNat 0) (cap - Int.toNat 0)) (l.take k.toNat):=by
 have H:Int.toNat 0=0:=rfl;rcases h with⟨h,rfl⟩ | ⟨b,off,c,V,h2,W⟩
 ·cases h;have:k=0:=by simp at J;omega
  subst this;exact .inl ⟨rfl,rfl⟩
 ·cases V;refine .inr ⟨b,off,cap,?_,h2,λi x G=>W i x ?_⟩
  ·have e:(if cap=Int.toNat 0 then some (⟨b,off,none⟩:Addr)else Option.map (λq:Addr=>q.add (Int.toNat 0* 1)) (some (⟨b,off,none⟩:Addr)))=some ⟨b,off,none⟩:=by
    split
    ·rfl
    ·simp [Addr.add,H]
   rw [e,H,Pm]
   congr 1
   omega
  ·rw [Q9]at G;split at G
   ·exact G
   ·cases G
theorem Strs.drop {w:World}{a:Option Addr}{n cap:Nat}{l:List Tx}(h:Strs w (.slice a n cap) l){k:Int}(Z:0<=k)(H:k<=l.length)(hc:n<=cap):
  Strs w (.slice (if cap=Int.toNat k then a else Option.map (·.add (Int.toNat k* 1)) a) (Int.toNat (n:Int) - Int.toNat k) (cap - Int.toNat k)) (l.drop k.toNat):=by
 rcases h with⟨h,rfl⟩ | ⟨b,off,c,J,h2,V⟩
 ·cases h;have:k=0:=by simp at H;omega
  subst this;exact .inl ⟨rfl,rfl⟩
 ·cases J;by_cases e:cap=k.toNat
  ·have W:l.drop k.toNat=[]:=Qn (by omega);rw [Pd e,W];refine .inr ⟨b,off,cap - k.toNat,?_,h2,λi x G=>by simp at G⟩;rw [OO]
   congr 1
   simp only [OS];omega
  ·rw [OW e];refine .inr ⟨b,off+k.toNat,cap - k.toNat,?_,h2,λi x G=>?_⟩
   ·rw [OO,Ql];simp [Addr.add]
   ·rw [List.getElem?_drop]at G;rw [Q4];exact V _ x G
theorem Hx (a b:Tx):(Op.bytesLess a b||decide (a=b))=jI a b:=by
 rw [R9,jI,PH];simp only [Qb,OQ];constructor
 ·rintro(h | rfl)
  ·exact List.le_of_lt h
  ·exact List.le_refl _
 ·intro h;by_cases e:a=b
  ·exact .inr e
  ·left;rcases List.le_iff_lt_or_eq.1 h with h | h
   ·exact h
   ·exact absurd h e
theorem e9 {c:UInt8}{s:Tx}{l:List Tx}(h:l≠[]):joinS c (s::l)=40::(s++(c::(joinS c l++[41]))):=by
 cases l with
 | nil=>exact absurd rfl h
 | cons=>rfl
def dE (l:List Tx):Nat:=(l.map List.length).sum+3* l.length
theorem dZ (s:Tx)(l:List Tx):dE (s::l)=s.length+dE l+3:=by simp [dE];omega
theorem Bi (l m:List Tx):dE (l++m)=dE l+dE m:=by simp [dE];omega
theorem mF {l m:List Tx}(h:l.Perm m):dE l=dE m:=by
 induction h with
 | nil=>rfl
 | cons x _ G=>rw [dZ,dZ,G]
 | swap x y l=>simp only [dZ];omega
 | trans _ _ H h2=>exact H.trans h2
theorem wS (c:UInt8):∀l:List Tx,(joinS c l).length<=dE l
 | []=>by simp [joinS]
 | [s]=>by simp [joinS,dE]
 | s::t::l=>by
  have :=wS c (t::l);rw [e9 (by simp),dZ];simp only [OA,OG,OS];omega
theorem E8 (l:List Tx)(k:Nat):dE (l.drop k)<=dE l:=by
 conv=>rhs;rw [<-PZ k l,Bi]
 omega
theorem uX {w:World}{v:Value}{l:List Tx}{c:UInt8}(W:Strs w v l)(G:l≠[])(hl:dE l<=2199023255552){R:aB->Sg}(h:R (joinS c l) w):
  Sh 191 #[v,.string (ai [c])] w (aw [.s] R):=by
 refine tf v [c] w R ?_;dsimp only [go_sem];dsimp only [go_sem,UInt8.reduceOfNat,UInt32.reduceOfNat,Nat.reduceAdd];have Z:0< l.length:=Rm.2 G;have α:3* l.length<=dE l:=by unfold dE;omega
 obtain⟨a,cap,hv⟩:=W.slice;refine⟨a,l.length,cap,hv,by omega,?_⟩;have H:l[((l.length:Int) - 1).toNat]?=some (l.getLast G):=by
  have e:((l.length:Int) - 1).toNat=l.length - 1:=by omega
  rw [e,List.getLast_eq_getElem,OC]
 refine W.get (Ex.refl w) (i:=(l.length:Int) - 1) (by omega) H ?_;refine⟨a,l.length,cap,hv,by omega,λout i w'=>w=w'/\ -1<=i/\i<=(l.length:Int) - 2/\out=joinS c (l.drop (i+1).toNat),λ _ i _=>(i+1).toNat,⟨rfl,by omega,by omega,?_⟩,λout i w1 hI=>?_⟩
 ·have e:((l.length:Int) - 2+1).toNat=l.length - 1:=by omega
  have e2:l.drop (l.length - 1)=[l.getLast G]:=by
   rw [PF (by omega:l.length - 1< l.length),List.getLast_eq_getElem,Qn (by omega)]
  rw [e,e2];rfl
 ·obtain⟨rfl,h0,h1,rfl⟩:=hI;refine⟨λhc=>?_,λhc=>?_⟩
  ·have hc:0<=i:=O1 hc;have hi:i.toNat< l.length:=by omega
   have J:l.drop (i+1).toNat≠[]:=by
    intro e;have :=PL List.length e;rw [Ql,OS]at this;omega
   have hd:l.drop i.toNat=l[i.toNat]::l.drop (i+1).toNat:=by
    have e:(i+1).toNat=i.toNat+1:=by omega
    rw [e];exact PF hi
   have hj:joinS c (l.drop i.toNat)=40::(l[i.toNat]++(c::(joinS c (l.drop (i+1).toNat)++[41]))):=by rw [hd,e9 J]
   have V:=wS c (l.drop i.toNat);have β:=E8 l i.toNat;rw [hj]at V;simp only [OA,OG,OS]at V;refine W.get (Ex.refl w) (i:=i) hc (x:=l[i.toNat]) (OC hi) ⟨by simp only [OA,OS];omega,by simp only [OG,OA,OS];omega,by simp only [OG,OA,OS];omega,by simp only [OG,OA,OS];omega,by omega,⟨rfl,by omega,by omega,?_⟩,by dsimp only;omega⟩;have e:(i - 1+1).toNat=i.toNat:=by omega
   rw [e,hj];simp
  ·have hc:¬0<=i:=O4 hc;have e:(i+1).toNat=0:=by omega
   rw [e,Qu];exact h
theorem oR {w:World}{v:Value}{l:List Tx}(hs:Strs w v l)(hl:l.length<=1099511627776){R:Value->Sg}(h:∀v' w',Ex w w'->Own w.heap.size w' v' (a6 l)->R v' w'):
  Sh 69 #[v] w (aw [.v] R):=by
 refine qm v w R ?_;dsimp only [go_sem];dsimp only [go_sem,UInt8.reduceOfNat,UInt32.reduceOfNat,Nat.reduceAdd];obtain⟨a,cap,hv⟩:=hs.slice;refine⟨a,l.length,cap,hv,λout x w'=>Ex w w'/\∃k:Nat,x=k/\k<=l.length/\∃m:List Tx,Own w.heap.size w' out m/\m.Pairwise (λa b=>jI a b=true)/\m.Perm (l.take k),λ _ x _=>((l.length:Int) - x).toNat,
  ⟨Ex.refl w,0,rfl,by omega,[],Own.nil _ _,List.Pairwise.nil,by simp⟩,λout x w1 hI=>?_⟩
 obtain⟨α,k,rfl,hk,m,J,β,γ⟩:=hI;refine⟨λhc=>?_,λhc=>?_⟩
 ·have W:k< l.length:=by simpa using hc
  refine hs.get α (i:=k) (by omega) (x:=l[k]) (by simp [W]) ?_;have κ:=J.strs;obtain⟨ao,co,ho⟩:=κ.slice;have hml:m.length=k:=by rw [γ.length_eq,Pm];omega
  refine⟨λj w'=>w1=w'/\0<=j/\j<=m.length/\(∀y∈m.take j.toNat,jI y l[k]=true)/\∀y∈m.drop j.toNat,jI l[k] y=true,?_,?_⟩
  ·refine⟨λj w'=>w1=w'/\0<=j/\j<=m.length/\∀y∈m.take j.toNat,jI y l[k]=true,λj _=>((m.length:Int) - j).toNat,⟨rfl,by omega,by omega,by simp⟩,λj w2 hI=>?_⟩;obtain⟨rfl,H,Z,V⟩:=hI;refine⟨ao,m.length,co,ho,λε=>?_,λε=>?_⟩
   ·have hj:j< m.length:=O1 ε;have ζ:j.toNat< m.length:=by omega
    refine κ.get (Ex.refl w1) (i:=j) H (x:=m[j.toNat]) (OC ζ) ⟨λhle=>?_,λhle=>?_⟩
    ·rw [Hx]at hle;refine⟨by omega,⟨rfl,by omega,by omega,λy G=>?_⟩,by dsimp only;omega⟩;have e:(j+1).toNat=j.toNat+1:=by omega
     rw [e,OE ζ]at G;rcases OM.1 G with G | G
     ·exact V y G
     ·rw [OJ.1 G];exact hle
    ·rw [Hx]at hle;refine⟨rfl,H,Z,V,λy G=>?_⟩;have δ:jI l[k] m[j.toNat]=true:=by
      have :=ql l[k] m[j.toNat];rw [hle,Q3]at this;exact this
     have hd:=PF ζ;have hp:(m.drop j.toNat).Pairwise (λa b=>jI a b=true):=QE (List.drop_sublist _ _) β;rw [hd]at hp G;rcases OY.1 G with rfl | G
     ·exact δ
     ·exact gT _ _ _ δ ((QS.1 hp).1 y G)
   ·have hj:¬j< m.length:=O4 ε;refine⟨rfl,H,Z,V,λy G=>?_⟩;rw [Qn (by omega)]at G;cases G
  ·intro j w2 hJ;obtain⟨rfl,H,Z,V,μ⟩:=hJ;intro b w3 hb ν;have η:Ex w1 w3:=ν▸Ex.alloc w1 _;have ξ:=(J.ex η).strs;rw [ho]at ξ;have ο:m.length<=co:=by
    rcases J.2 with⟨e,h0⟩ | ⟨g,cap,cur,e,_,_,hc,_⟩
    ·rw [ho]at e;injection e with _ e2 _;omega
    ·rw [ho]at e;cases e;exact hc
   refine⟨ao,m.length,co,ho,by omega,H,by omega,?_⟩;refine Own.push (Own.none (B:=w1.heap.size) (OL _) hb ν) η.size (ξ.take H Z) (by simp;omega) λv4 w4 χ ψ _ _=>?_
   have ς:Ex w1 w4:=η.below χ;intro b5 w5 ω υ;have θ:Ex w4 w5:=υ▸Ex.alloc w4 _;refine Own.push (ψ.ex θ) (ς.trans θ).size (Strs.one ω υ) (by simp;omega) λv6 w6 hb6 ho6 _ _=>?_
   have ι:Ex w1 w6:=(ς.trans θ).below hb6;have φ:=(J.ex ι).strs;rw [ho]at φ;refine⟨ao,m.length,co,ho,H,by omega,by omega,?_⟩;refine Own.push ho6 ι.size (φ.drop H Z ο) (by simp;omega) λv7 w7 hb7 ho7 _ _=>?_
   have hx7:Ex w1 w7:=ι.below hb7;refine⟨by omega,⟨α.trans hx7,k+1,by omega,W,_,ho7.mono α.size,?_,?_⟩,by dsimp only;omega⟩
   ·simp only [PB];refine RN.2 ⟨RN.2 ⟨QE (List.take_sublist _ _) β,List.pairwise_singleton _ _,λx hx y G=>?_⟩,QE (List.drop_sublist _ _) β,λx hx y G=>?_⟩
    ·rw [OJ.1 G];exact V x hx
    ·rcases OM.1 hx with hx | hx
     ·exact gT _ _ _ (V x hx) (μ y G)
     ·rw [OJ.1 hx];exact μ y G
   ·simp only [PB];rw [OE W,Po];refine List.Perm.trans ?_ (γ.append_right [l[k]]);refine(List.Perm.append_left _ QQ).trans ?_;rw [<-Po,PZ]
 ·have W:k=l.length:=by simp at hc;omega
  subst W;rw [O6]at γ;rw [<-ud β γ]at J;exact h out w1 α J
end Go.Proofs.YtdecokaadekjnaaGreat
namespace Go.Proofs.YtdecokaadekjnaaGreat
open Classical
def aP {A B:Type}(R:A->B->Prop)(l:List A)(m:List B):Prop:=l.length=m.length/\∀(i:Nat) (a:A) (b:B),l[i]?=some a->m[i]?=some b->R a b
theorem aP.nil {A B:Type}{R:A->B->Prop}:aP R [] []:=⟨rfl,λi a b h=>by simp at h⟩
theorem aP.one {A B:Type}{R:A->B->Prop}{a:A}{b:B}(h:R a b):aP R [a] [b]:=⟨rfl,λi x y G H=>by
 match i,G,H with
 | 0,G,H=>simp at G H;subst G H;exact h
 | i+1,G,H=>simp at G⟩
theorem aP.append {A B:Type}{R:A->B->Prop}{l G:List A}{m m':List B}(h:aP R l m)(k:aP R G m'):aP R (l++G) (m++m'):=by
 refine⟨by simp [h.1,k.1],λi a b ha hb=>?_⟩;rw [List.getElem?_append]at ha hb;rw [<-h.1]at hb;split at ha
 ·rename_i hi;rw [Pd hi]at hb;exact h.2 i a b ha hb
 ·rename_i hi;rw [OW hi]at hb;exact k.2 _ a b ha hb
theorem aP.mono {A B:Type}{R G:A->B->Prop}{l:List A}{m:List B}(h:aP R l m)(hr:∀a b,a∈l->b∈m->R a b->G a b):aP G l m:=
 ⟨h.1,λi a b ha hb=>hr a b (QJ ha) (QJ hb) (h.2 i a b ha hb)⟩
structure Den (k:Nat)(p:P)(σ:Nat->Nat)(u:U):Prop where
 wf:p.wf=true
 len:p.text.length<=1099511627776
 bd:Bd k p
 ae:AE UInt8.toNat p σ u
 inj:fw σ u
 uq:Uq u
theorem eW (p:P):fw UInt8.toNat p:=λ _ _ _ _ h=>O8.1 h
theorem Uq.Ez {u:U}(h:Uq u){y:Nat}(G:u.Us y):y∉BV u:=λhb=>h.nf y hb (T.bI G)
theorem Den.dead {k:Nat}{p:P}{σ:Nat->Nat}{u:U}(d:Den k p σ u):p.dead=u.dead:=d.ae.dead
theorem Den.peel {k:Nat}{p:P}{σ:Nat->Nat}{u:U}(d:Den k p σ u)(hd:p.dead=false):∃m G,k<=m/\Den m p.peel G u.peel/\∀y,y∉BV u->G y=σ y:=by
 obtain⟨m,hm,hb⟩:=d.bd.peel;obtain⟨G,J,h2⟩:=d.ae.peel (eW p) d.inj d.uq hd;refine⟨m,G,hm,⟨Jg d.wf,?_,hb,J,λa b ha hb H=>?_,Je u d.uq⟩,h2⟩
 ·have :=FI p;have V:=d.len;rw [T.aX]at*;omega
 ·rw [T.DY]at ha hb;rw [h2 a (d.uq.Ez ha),h2 b (d.uq.Ez hb)]at H;exact d.inj a b ha hb H
section
variable {k:Nat} {p q:P} {σ:Nat->Nat} {u v:U}
theorem Den.sum (d:Den k (.sum p q) σ (.sum u v)):Den k p σ u/\Den k q σ v:=by
 have hw:=d.wf;have H:=d.len;have hb:=d.bd.le;simp only [T.wf,OD]at hw;simp only [T.text,OA,OG]at H;simp only [T.rd,T.ow]at hb;exact⟨⟨hw.1,by omega,⟨d.bd.eb.1,by omega⟩,d.ae.1,d.inj.sub λx G=> .inl G,d.uq.eD⟩,⟨hw.2,by omega,⟨d.bd.eb.2,by omega⟩,d.ae.2,d.inj.sub λx G=> .inr G,d.uq.dV⟩⟩
theorem Den.par (d:Den k (.par p q) σ (.par u v)):Den k p σ u/\Den k q σ v:=by
 have hw:=d.wf;have H:=d.len;have hb:=d.bd.le;simp only [T.wf,OD]at hw;simp only [T.text,OA,OG]at H;simp only [T.rd,T.ow]at hb;exact⟨⟨hw.1,by omega,⟨d.bd.eb.1,by omega⟩,d.ae.1,d.inj.sub λx G=> .inl G,d.uq.gB⟩,⟨hw.2,by omega,⟨d.bd.eb.2,by omega⟩,d.ae.2,d.inj.sub λx G=> .inr G,d.uq.fL⟩⟩
theorem Den.tau (d:Den k (.tau p) σ (.tau u)):Den k p σ u:=by
 have G:=d.len;simp only [T.text,OA]at G;exact⟨d.wf,by omega,⟨d.bd.eb,d.bd.le⟩,d.ae,d.inj,d.uq.tau⟩
theorem Den.rep (d:Den k (.rep p) σ (.rep u)):Den k p σ u:=by
 have G:=d.len;simp only [T.text,OA]at G;exact⟨d.wf,by omega,⟨d.bd.eb,d.bd.le⟩,d.ae,d.inj,d.uq.rep⟩
theorem Den.snd {a b:UInt8}{c e:Nat}(d:Den k (.snd a b p) σ (.snd c e u)):Den k p σ u:=by
 have hw:=d.wf;have G:=d.len;simp only [T.wf,OD]at hw;simp only [T.text,OA]at G;exact⟨hw.2,by omega,⟨d.bd.eb.2.2,d.bd.le⟩,d.ae.2.2,d.inj.sub λx H=> .inr (.inr H),d.uq.snd⟩
theorem Den.mat {a b:UInt8}{c e:Nat}(d:Den k (.mat a b p) σ (.mat c e u))(h:p.dead=false):Den k p σ u:=by
 have hw:=d.wf;have J:=d.len;simp only [T.wf,OD]at hw;simp only [T.text,OA]at J;have hd:u.dead=false:=by have :=d.ae.2.2.dead;rw [<-this];exact h
 refine⟨hw.2,by omega,⟨d.bd.eb.2.2,d.bd.le⟩,d.ae.2.2,d.inj.sub λx G=>?_,d.uq.mat⟩;by_cases H:c=e
 ·exact .inl ⟨H,G⟩
 ·exact .inr ⟨H,hd,.inr (.inr G)⟩
theorem Den.res {x y:UInt8}{n:Nat}{q:P}(d:Den k (.res x p) σ (.res n u))(hr:ja (k+1) p x y q)(H:¬(T.res x p).Fr y):Den (k+1) q (aI σ n y.toNat) u:=by
 have hb:=d.bd.le;have J:=d.len;simp only [T.rd,T.ow]at hb;simp only [T.text,OA]at J;have V:AE (aI UInt8.toNat x y.toNat) p (aI σ n y.toNat) u:=d.ae y.toNat;refine⟨hr.wf,?_,⟨hr.eb,?_⟩,(hr.ok UInt8.toNat).symm.trans V,?_,d.uq.res⟩
 ·rw [T.aX,T.jn hr.shp,<-T.aX];omega
 ·rw [T.CL hr.shp,T.zo hr.shp];omega
 ·refine .aI (λa b ha hb G h2 W=>d.inj a b ⟨ha,G⟩ ⟨hb,h2⟩ W) λz Z hu e=>H ?_
  obtain⟨x',G,h2⟩:=d.ae.symm.free z ⟨Z,T.bI hu⟩;have:x'=y:=O8.1 (h2.trans e);exact this▸G
theorem Den.rcv {a x y:UInt8}{c n:Nat}{q:P}(d:Den k (.rcv a x p) σ (.rcv c n u))(hr:ja (k+1) p x y q)(G:∀z,u.Us z->z≠n->σ z≠y.toNat):Den (k+1) q (aI σ n y.toNat) u:=by
 have hb:=d.bd.le;have H:=d.len;simp only [T.rd,T.ow]at hb;simp only [T.text,OA]at H;have J:AE (aI UInt8.toNat x y.toNat) p (aI σ n y.toNat) u:=d.ae.2 y.toNat;refine⟨hr.wf,?_,⟨hr.eb,?_⟩,(hr.ok UInt8.toNat).symm.trans J,?_,d.uq.rcv⟩
 ·rw [T.aX,T.jn hr.shp,<-T.aX];omega
 ·rw [T.CL hr.shp,T.zo hr.shp];omega
 ·exact .aI (λa b ha hb V h2 W=>d.inj a b (.inr ⟨ha,V⟩) (.inr ⟨hb,h2⟩) W) λz Z hu e=>G z hu Z e
end
theorem eC:∀u:U,u.dead=true->an u=[]
 | .nil,_=>rfl
 | .snd ..,h=>by cases h
 | .rcv ..,h=>by cases h
 | .tau ..,h=>by cases h
 | .sum p q,h=>by
  simp only [T.dead,OD]at h;simp [an,eC p h.1,eC q h.2]
 | .par p q,h=>by
  simp only [T.dead,OD]at h;simp [an,h.1,eC q h.2]
 | .res x p,h=>by
  have hd:p.dead=true:=h;simp [an,mN hd,Lv.has,eC p hd]
 | .mat a b p,h=>by
  have hd:p.dead=true:=h;simp only [an,hd,Qr,eC p hd];split<;>rfl
 | .rep p,h=>by
  have hd:p.dead=true:=h;simp [an,hd]
theorem EW:∀u:U,Uq u->an u.peel=an u:=by
 intro u
 induction u with
 | nil=>intro _;rfl
 | snd=>intro _;rfl
 | rcv=>intro _;rfl
 | tau=>intro _;rfl
 | rep=>intro _;rfl
 | mat a b p G=>
  intro h;unfold T.peel;split
  ·rename_i e;rw [G h.mat];simp [an,e]
  ·rfl
 | sum p q G H=>
  intro h;unfold T.peel;split
  ·rename_i e;rw [H h.dV];simp [an,eC p e]
  ·split
   ·rename_i e J;rw [G h.eD];simp [an,eC q J]
   ·rfl
 | par p q G H=>
  intro h;unfold T.peel;split
  ·rename_i e;rw [H h.fL];simp [an,e]
  ·split
   ·rename_i e J;rw [G h.gB];simp [an,e,J]
   ·rfl
 | res x p G=>
  intro h;unfold T.peel;split
  ·rfl
  ·rename_i e;rw [G h.res];have:¬(td p).2.has x=true:=λV=>e ((gu p x h.gz).1 V)
   simp [an,this]
theorem dw:∀u:U,(an u).length<=u.size
 | .nil=>by simp [an,T.size]
 | .snd .. =>by simp [an,T.size]
 | .rcv .. =>by simp [an,T.size]
 | .tau .. =>by simp [an,T.size]
 | .sum p q=>by have :=dw p;have :=dw q;simp only [an,T.size,OG];omega
 | .par p q=>by
  have :=dw p;have :=dw q;simp only [an,T.size];split
  ·omega
  ·split
   ·omega
   ·simp
 | .res x p=>by
  have :=dw p;simp only [an,T.size];split
  ·simp
  ·omega
 | .mat a b p=>by
  have :=dw p;simp only [an,T.size];split
  ·omega
  ·split<;>simp
 | .rep p=>by
  simp only [an,T.size];split<;>simp
theorem AE.size {p:P}{u:U}{ρ:UInt8->Nat}{σ:Nat->Nat}(h:AE ρ p σ u):p.size=u.size:=by
 induction p generalizing u ρ σ<;>cases u<;>simp only [AE]at h<;>simp only [T.size]
 case snd.snd G _ _ _=>rw [G h.2.2]
 case mat.mat G _ _ _=>rw [G h.2.2]
 case rcv.rcv G _ _ _=>rw [G (h.2 0)]
 case res.res G _ _=>rw [G (h 0)]
 case tau.tau G _=>rw [G h]
 case rep.rep G _=>rw [G h]
 case sum.sum G H _ _=>rw [G h.1,H h.2]
 case par.par G H _ _=>rw [G h.1,H h.2]
theorem qe:∀(π:List Nat) (ls:List UInt8) (ρ ρ':Rh) (x:Nat),ρ x=ρ' x->asg π ls ρ x=asg π ls ρ' x
 | [],_,_,_,_,h=>by simpa [asg]using h
 | _::_,[],_,_,_,h=>by simpa [asg]using h
 | y::π,c::ls,ρ,ρ',x,h=>by
  rw [asg,asg];refine qe π ls _ _ x ?_;unfold aI;split
  ·rfl
  ·exact h
end Go.Proofs.YtdecokaadekjnaaGreat
namespace Go.Proofs.YtdecokaadekjnaaGreat
def gl (i:Nat):UInt8:=if i< 26 then UInt8.ofNat (65+i)else UInt8.ofNat (166+i)
def KW (c:UInt8):Prop:=(65<=c.toNat/\c.toNat<=90)\/192<=c.toNat
def iw (n:Nat):Tx:=(List.range n).map gl
theorem ka {i:Nat}(h:i< 90):(gl i).toNat=if i< 26 then 65+i else 166+i:=by
 unfold gl;split
 ·rw [PM];omega
 ·rw [PM];omega
theorem yq {i j:Nat}(hi:i< 90)(hj:j< 90)(h:gl i=gl j):i=j:=by
 have :=PL UInt8.toNat h;rw [ka hi,ka hj]at this;split at this<;>split at this<;>omega
theorem xS {i:Nat}(h:i< 90):KW (gl i):=by
 unfold KW;rw [ka h];split<;>omega
theorem Ld {i k:Nat}(h:i< 90):okn k (gl i):=by
 unfold okn;rw [ka h];split<;>omega
theorem MV {i:Nat}(h:i< 90):nm (gl i)=true:=by
 have e:=ka h;have H:(65:UInt8).toNat=65:=rfl;have J:(90:UInt8).toNat=90:=rfl;have G:(128:UInt8).toNat=128:=rfl;simp only [nm,Qb,OD,OQ];split at e
 ·left;right;exact⟨O0.2 (by omega),O0.2 (by omega)⟩
 ·right;exact O0.2 (by omega)
theorem JM {i:Nat}(h:i+1< 90):(gl i+1=91->gl (i+1)=192)/\(gl i+1≠91->gl (i+1)=gl i+1):=by
 have e:=ka (show i< 90 by omega);have Z:=ka h;have J:(gl i+1).toNat=(gl i).toNat+1:=by
  rw [Rz];show((gl i).toNat+1) % 256=_;refine RT ?_;rw [e];split<;>omega
 have V:(91:UInt8).toNat=91:=rfl;have G:(192:UInt8).toNat=192:=rfl;constructor
 ·intro W;have :=PL UInt8.toNat W;rw [J,e,V]at this;apply O8.1;rw [Z,G];split at this<;>split<;>omega
 ·intro W;have H:(gl i+1).toNat≠91:=λhc=>W (O8.1 hc)
  rw [J,e]at H;apply O8.1;rw [J,Z,e];split at H<;>split<;>(try split)<;>omega
theorem iD {n:Nat}{c:UInt8}:c∈iw n↔∃j,j< n/\c=gl j:=by
 simp only [iw,Pp,P7];exact⟨fun⟨j,G,h2⟩=>⟨j,G,h2.symm⟩,fun⟨j,G,h2⟩=>⟨j,G,h2.symm⟩⟩
theorem BU (n:Nat):iw (n+1)=iw n++[gl n]:=by simp [iw,RC]
theorem iz (n:Nat):(iw n).length=n:=by simp [iw]
def asgN:List Nat->Nat->(Nat->Nat)->Nat->Nat
 | [],_,σ=>σ
 | x::l,n,σ=>asgN l (n+1) (aI σ x (gl n).toNat)
theorem me:∀(l m:List Nat) (n:Nat) (σ:Nat->Nat),asgN (l++m) n σ=asgN m (n+l.length) (asgN l n σ)
 | [],m,n,σ=>rfl
 | x::l,m,n,σ=>by
  rw [PD,asgN,asgN,me l m,OA]
  congr 1
  omega
theorem jk:∀(l:List Nat) (n:Nat) (σ:Nat->Nat) (y:Nat),y∉l->asgN l n σ y=σ y
 | [],_,_,_,_=>rfl
 | x::l,n,σ,y,h=>by
  simp only [OY,Sf]at h;rw [asgN,jk l _ _ y h.2,bR _ _ h.1]
theorem uC:∀(l:List Nat) (n:Nat) (σ τ:Nat->Nat) (y:Nat),σ y=τ y->asgN l n σ y=asgN l n τ y
 | [],_,_,_,_,h=>h
 | x::l,n,σ,τ,y,h=>by
  rw [asgN,asgN];refine uC l _ _ _ y ?_;unfold aI;split
  ·rfl
  ·exact h
def GF (n:Nat)(p:P):Prop:=∀z,p.Fr z->KW z->∃j,j< n/\z=gl j
theorem eK {x:UInt8}(h:ngr x):¬KW x:=by unfold ngr KW at*;omega
theorem GF.peel {n k:Nat}{p:P}(h:GF n p)(e:Eb k p):GF n p.peel:=by
 refine(T.iG (λq=>GF n q/\∃k,Eb k q) ?_ ?_ ?_ ?_ p ⟨h,k,e⟩).1
 ·rintro a q ⟨h,k,e⟩
  exact⟨λz G=>h z (.inr (.inr G)),k,e.2.2⟩
 ·rintro q r ⟨h,k,e⟩
  exact⟨⟨λz G=>h z (.inl G),k,e.1⟩,λz G=>h z (.inr G),k,e.2⟩
 ·rintro q r ⟨h,k,e⟩
  exact⟨⟨λz G=>h z (.inl G),k,e.1⟩,λz G=>h z (.inr G),k,e.2⟩
 ·rintro x q _ ⟨h,k,e⟩
  refine⟨λz G H=>?_,k+1,e.2⟩;by_cases J:z=x
  ·exact absurd H (eK (J▸e.1.1))
  ·exact h z ⟨J,G⟩ H
theorem iM:∀(u:U),∀x∈(ak u).1,x∈BV u:=by
 intro u
 induction u with
 | nil=>intro x h;simp [ak]at h
 | snd=>intro x h;simp [ak]at h
 | rcv=>intro x h;simp [ak]at h
 | tau=>intro x h;simp [ak]at h
 | sum p q G H=>
  intro x h;simp only [ak]at h;split at h
  ·exact O9 _ (H x h)
  ·split at h
   ·exact Pf _ (G x h)
   ·simp at h
 | par p q G H=>
  intro x h;simp only [ak,OM]at h;exact h.elim (λh=>Pf _ (G x h)) (λh=>O9 _ (H x h))
 | res y p G=>
  intro x h;simp only [ak]at h;split at h
  ·rcases OY.1 h with rfl | h
   ·exact Pt ..
   ·exact OU _ (G x h)
  ·exact OU _ (G x h)
 | mat a b p G=>
  intro x h;simp only [ak]at h;split at h
  ·exact G x h
  ·split at h<;>simp at h
 | rep p G=>
  intro x h;simp only [ak]at h;split at h<;>simp at h
theorem lv:∀(u:U),Uq u->∀t∈(ak u).2,∀y,t.Us y->u.Us y\/y∈(ak u).1:=by
 intro u
 induction u with
 | nil=>intro _ t h;simp [ak]at h
 | snd=>intro _ t h;simp [ak]at h;subst h;exact λy G=> .inl G
 | rcv=>intro _ t h;simp [ak]at h;subst h;exact λy G=> .inl G
 | tau=>intro _ t h;simp [ak]at h;subst h;exact λy G=> .inl G
 | sum p q H J=>
  intro hu t h y G;simp only [ak]at h|-;split at h
  ·rename_i e;simp only [e,Qr];exact(J hu.dV t h y G).imp .inr id
  ·rename_i e;split at h
   ·rename_i W;simp only [e,W,Qr];exact(H hu.eD t h y G).imp .inl id
   ·simp at h;subst h;exact .inl G
 | par p q H J=>
  intro hu t h y G;simp only [ak,OM]at h|-;rcases h with h | h
  ·exact(H hu.gB t h y G).imp .inl .inl
  ·exact(J hu.fL t h y G).imp .inr .inr
 | res x p H=>
  intro hu t h y G;have h:t∈(ak p).2:=h;rcases H hu.res t h y G with V | V
  ·by_cases e:y=x
   ·subst e;right;simp only [ak];rw [Pd ((gu p y hu.gz).2 V)];exact Pt ..
   ·exact .inl ⟨e,V⟩
  ·right;simp only [ak];split
   ·exact OU _ V
   ·exact V
 | mat a b p H=>
  intro hu t h y G;simp only [ak]at h|-;split at h
  ·rename_i e;simp only [e,Qr];exact(H hu.mat t h y G).imp (λh=> .inl ⟨rfl,h⟩) id
  ·split at h
   ·simp at h
   ·simp at h;subst h;exact .inl G
 | rep p H=>
  intro hu t h y G;simp only [ak]at h|-;split at h
  ·simp at h
  ·simp at h;subst h;exact .inl G
end Go.Proofs.YtdecokaadekjnaaGreat
namespace Go.Proofs.YtdecokaadekjnaaGreat
open Go Go.RowKit
theorem Den.ok {k:Nat}{p:P}{σ:Nat->Nat}{u:U}(d:Den k p σ u):Ok p:=⟨d.wf,d.len⟩
def L5 (k:Nat)(σ:Nat->Nat)(u:U)(p:P)(q:U):Prop:=∃m G,k<=m/\Den m p G q/\∀y,y∉BV u->G y=σ y
theorem G0 {u:U}(G:u.dH)(hd:u.dead=false)(J:∀p q,u≠ .sum p q)(hu:Uq u):an u=[u]:=by
 cases u with
 | nil=>cases hd
 | snd=>rfl
 | rcv=>rfl
 | tau=>rfl
 | sum p q=>exact absurd rfl (J p q)
 | par p q=>
  have H:p.dead=false:=G.1;have h2:q.dead=false:=G.2;simp [an,H,h2]
 | res x p=>
  have:(td p).2.has x=true:=(gu p x hu.gz).2 G;simp [an,this]
 | mat a b p=>
  have H:a≠b:=G;have h2:p.dead=false:=hd;simp [an,H,h2]
 | rep p=>
  have h2:p.dead=false:=hd;simp [an,h2]
theorem JA {p:P}{u:U}{ρ:UInt8->Nat}{σ:Nat->Nat}(h:AE ρ p σ u):(∀a b,p≠ .sum a b)↔∀a b,u≠ .sum a b:=by
 cases p<;>cases u<;>simp [AE]at h|-
theorem zt:∀(n:Nat) {k:Nat} {p:P} {σ:Nat->Nat} {u:U},p.size<=n->Den k p σ u->∀{w:World} {R:Value->Sg},
  (∀v w' (ps:List P),Ex w w'->Own w.heap.size w' v (ps.map T.text)->aP (L5 k σ u) ps (an u)->(∀x∈ps,∀j,GF j p->GF j x)->R v w')->Sh 258 #[.string (ai p.text)] w (aw [.v] R):=by
 intro n
 induction n with
 | zero=>intro k p σ u h;have :=bc p;omega
 | succ n ih=>
  intro k p σ u hn d w R h;refine oG _ w R ?_;dsimp only [go_sem];dsimp only [go_sem,UInt8.reduceOfNat,UInt32.reduceOfNat,Nat.reduceAdd];refine AU d.ok λw1 V H=>?_
  have ξ:=T.wu p;have ε:=T.mH p;by_cases hd:p.dead=true
  ·
   have hq:p.peel.dead=true:=by rw [ε];exact hd
   have hs:an u=[]:=eC u (by rw [<-d.dead];exact hd);have hp:=T.mi p;refine aQ H ⟨λhc=>?_,λhc=>?_⟩
   ·exact fV _ (OL _) H λw2 G=>⟨λ _=>h _ w2 [] (V.trans G) (Own.nil _ _) (by rw [hs];exact aP.nil) (λx h=>(by cases h)),λhh=>absurd hh (by rw [hq];simp)⟩
   ·exfalso;generalize p.peel=q at*;cases q<;>simp [T.kind]at hc
    simp [T.dead,hp.1]at hq
  have hd:p.dead=false:=by simpa using hd
  obtain⟨m,ο,hm,d',γ⟩:=d.peel hd;have ς:=T.mi u;rw [<-EW u d.uq]at h;have υ:u.peel.dead=false:=by rw [T.mH,<-d.dead];exact hd
  have φ:p.peel.dead=false:=by rw [ε];exact hd
  have ζ:∀y,y∉BV u->y∉BV u.peel:=λy hy hb=>hy (Ef u y hb)
  have η:∀j,GF j p->GF j p.peel:=λj hj=>hj.peel d.bd.eb
  generalize p.peel=q at*;generalize u.peel=v at*;refine aQ H ⟨λhc=>?_,λhc=>?_⟩
  ·have χ:∀a b,q≠ .sum a b:=λa b e=>by subst e;simp [T.kind]at hc
   refine fV _ (OL _) H λw2 G=>⟨λhh=>absurd hh (by rw [φ];simp),λ _=>λb w3 hb J=>?_⟩
   refine h _ w3 [q] ((V.trans G).trans (J▸Ex.alloc w2 _)) (Own.one (V.trans G).size hb J) ?_ λx hx j hj=>?_
   ·rw [G0 ς υ ((JA d'.ae).1 χ) d'.uq];exact aP.one ⟨m,ο,hm,d',γ⟩
   ·have:x=q:=by simpa using hx
    subst this;exact η j hj
  ·cases q<;>simp [T.kind]at hc
   rename_i a b;cases v<;>(try exact d'.ae.elim)
   rename_i u1 u2;obtain⟨d1,d2⟩:=d'.sum;simp only [T.size]at ξ;refine de H λvp w2 G W=>?_
   have W:Strs w2 vp [a.text,b.text]:=W;refine⟨λw'=>Ex w2 w',λw3 J=>⟨J▸Ex.drew w2,?_⟩⟩;have Z:Ex w2 w3:=J▸Ex.drew w2;refine W.HK (i:=0) (x:=a.text) (by omega) rfl ?_;refine W.HK (i:=1) (x:=b.text) (by omega) rfl ?_;refine ih (by omega) d1 λv4 w4 ψ α ω θ hg4=>⟨Z.trans α,ih (by omega) d2 λv5 w5 ps2 β ho5 ι hg5=>⟨(Z.trans α).trans β,?_⟩⟩
   have z1:=dw u1;have z2:=dw u2;have e1:=d1.ae.size;have e2:=d2.ae.size;have t1:=bD a;have t2:=bD b;have hl:=d'.len;simp only [T.text,OA,OG]at hl;have l1:=θ.1;have l2:=ι.1;have hE:Ex w w3:=(V.trans G).trans Z;refine Own.push (ω.ex β) (α.trans β).size ho5.strs (by simp only [O3];omega) λv6 w6 hb6 ho6 _ _=>?_
   have κ:Ex w3 w6:=(α.trans β).below hb6;refine⟨Z.trans κ,h _ w6 (ψ++ps2) (hE.trans κ) ?_ ?_ λx hx j hj=>?_⟩
   ·rw [PC];exact ho6.mono hE.size
   ·have μ:∀y,y∉BV u->y∉BV u1:=λy hy hb=>ζ y hy (Pf _ hb)
    have ν:∀y,y∉BV u->y∉BV u2:=λy hy hb=>ζ y hy (O9 _ hb)
    refine aP.append (θ.mono λx y _ _ ⟨m',δ,h1,h2,h3⟩=>⟨m',δ,by omega,h2,λz hz=>?_⟩) (ι.mono λx y _ _ ⟨m',δ,h1,h2,h3⟩=>⟨m',δ,by omega,h2,λz hz=>?_⟩)
    ·rw [h3 z (μ z hz),γ z hz]
    ·rw [h3 z (ν z hz),γ z hz]
   ·have hj:=η j hj;exact(OM.1 hx).elim (λhx=>hg4 x hx j λz hz=>hj z (.inl hz)) (λhx=>hg5 x hx j λz hz=>hj z (.inr hz))
theorem FQ {s o:Tx}:s≠[]->(o.Perm s↔∃i r,i< s.length/\r.Perm (s.take i++s.drop (i+1))/\o=bt s i::r):=by
 intro G;constructor
 ·intro h;cases o with
  | nil=>exact absurd h.symm.eq_nil G
  | cons c r=>
   obtain⟨i,hi,e⟩:=Py.1 (h.subset (Pt ..));refine⟨i,r,hi,?_,by simp [bt,hi,e]⟩;have h2:s.Perm (s[i]::(s.take i++s.drop (i+1))):=by
    conv=>lhs;rw [<-PZ i s,PF hi]
    exact Rq
   rw [e]at h2;exact(R8 c).1 (h.trans h2)
 ·rintro⟨i,r,hi,hr,rfl⟩
  have h2:s.Perm (s[i]::(s.take i++s.drop (i+1))):=by
   conv=>lhs;rw [<-PZ i s,PF hi]
   exact Rq
  have e:bt s i=s[i]:=by simp [bt,hi]
  rw [e];exact(List.Perm.cons _ hr).trans h2.symm
theorem Co:∀(n:Nat) {s:Tx},s.length<=n->n<=5->∀{w:World} {R:Value->Sg},
  (∀v w' (L:List Tx),Ex w w'->Own w.heap.size w' v L->L.length<=6^s.length->(∀o,o∈L↔o.Perm s)->R v w')->Sh 243 #[.string (ai s)] w (aw [.v] R):=by
 intro n
 induction n with
 | zero=>
  intro s hs hn w R h;have:s=[]:=O' (by omega);subst this;refine jD _ w R ?_;dsimp only [go_sem];dsimp only [go_sem,UInt8.reduceOfNat,UInt32.reduceOfNat,Nat.reduceAdd];refine⟨λ _=>λb w1 hb J=>h _ w1 [[]] (J▸Ex.alloc w _) (Own.one (OL _) hb J) (by simp) λo=>by simp,λhc=>absurd hc (by simp)⟩
 | succ n ih=>
  intro s hs hn w R h;refine jD _ w R ?_;dsimp only [go_sem];dsimp only [go_sem,UInt8.reduceOfNat,UInt32.reduceOfNat,Nat.reduceAdd];refine⟨λhc=>?_,λhc=>?_⟩
  ·have hc:s=[]:=O1 hc;subst hc;exact λb w1 hb J=>h _ w1 [[]] (J▸Ex.alloc w _) (Own.one (OL _) hb J) (by simp) λo=>by simp
  ·have κ:s≠[]:=O4 hc;have hpos:0< s.length:=Rm.2 κ;intro b cap w1 hb hrow ψ;have ω:Ex w w1:=tK ψ;have h6:6^(s.length - 1)<=1296:=PI (Nat.pow_le_pow_right (by omega) (by omega:s.length - 1<=4)) (by decide);have h6':6^s.length=6* 6^(s.length - 1):=by
    conv=>lhs;rw [show s.length=(s.length - 1)+1 by omega,Nat.pow_succ]
    omega
   generalize hP:6^(s.length - 1)=P6 at*;refine⟨some ⟨b,0,none⟩,s.length,cap,rfl,λout x w'=>Ex w w'/\∃i:Nat,x=i/\i<=s.length/\∃L:List Tx,Own w.heap.size w' out L/\L.length<=i* P6/\∀o,o∈L↔∃j r,j< i/\r.Perm (s.take j++s.drop (j+1))/\o=bt s j::r,
    λ _ x _=>((s.length:Int) - x).toNat,⟨ω,0,rfl,by omega,[],Own.nil _ _,by simp,λo=>by simp⟩,λout x w2 hI=>?_⟩
   obtain⟨μ,i,rfl,hi,L,β,hL2,ν⟩:=hI;refine⟨λγ=>?_,λγ=>?_⟩
   ·have δ:i< s.length:=by simpa using γ
    have ei:((i:Int)+1).toNat=i+1:=by omega
    refine⟨λw'=>True,λw3 hw3=>⟨trivial,by omega,by omega,by omega,by simp only [Pm,Ql];omega,?_⟩⟩;have ξ:Ex w2 w3:=hw3▸Ex.drew w2;rw [ei,OO];have hlen:(s.take i++s.drop (i+1)).length=s.length - 1:=by simp only [OG,Pm,Ql];omega
    refine ih (by omega) (by omega) λvr w4 M hx4 ε hM2 ζ=>⟨trivial,?_⟩
    rw [hlen,hP]at hM2;have ο:=ε.strs;obtain⟨ar,cr,hvr⟩:=ο.slice;have W:=ξ.trans hx4;have hE4:Ex w w4:=μ.trans W;refine⟨ar,M.length,cr,hvr,λout y w'=>(Ex w w'/\w4.heap.size<=w'.heap.size/\Strs w' vr M/\∀b,out.ownBlock=some b->vr.ownBlock≠some b)/\∃j:Nat,y=j/\j<=M.length/\Own w.heap.size w' out (L++(M.take j).map (bt s i::·)),λ _ y _=>((M.length:Int) - y).toNat,
     ⟨⟨hE4,OL _,ο,λb hb G=>?_⟩,0,rfl,by omega,by simpa using β.ex W⟩,λout2 y w5 hI=>?_⟩
    ·have h1:=(β.block b hb).2;have h2:=(ε.block b G).1;have h3:=ξ.size;omega
    obtain⟨⟨ς,hsz5,Z,α⟩,j,rfl,hj,η⟩:=hI;have hmul:i* P6+P6<=6480:=by
     have:i* P6<=4* 1296:=RO (by omega) h6;omega
    refine⟨λθ=>?_,λθ=>?_⟩
    ·have H:j< M.length:=by simpa using θ
     refine Z.get (Ex.refl w5) (i:=j) (by omega) (x:=M[j]) (by simp [H]) ⟨by omega,by omega,?_,λb6 w6 hb6 ι=>?_⟩
     ·have :=(ζ M[j]).1 (OK H);have h7:=this.length_eq;simp only [Ql,Pm,ei,OO];omega
     ·have υ:=wY (s:=s) (i:=(i:Int)) (by omega) (by omega);rw [ei,OO]at υ;rw [υ]at ι;have V:Ex w5 w6:=ι▸Ex.alloc w5 _;have φ:Ex w w6:=ς.trans V;refine Own.push (η.ex V) φ.size (Strs.one hb6 ι) (by simp only [OG,O3,Pm,OA,OS];omega) λv7 w7 χ ho7 hg7 hw7=>?_
      have hE7:Ex w w7:=φ.below χ;have hs7:Strs w7 vr M:=(Z.ex V).grown hg7 λb hb G=>α b G hb
      refine⟨by omega,⟨⟨hE7,?_,hs7,λb hb G=>?_⟩,j+1,by omega,H,?_⟩,by dsimp only;omega⟩
      ·have :=V.size;have :=χ.size;omega
      ·rcases hw7 b hb with h | h
       ·exact α b h G
       ·have h2:=(ε.block b G).2;have :=V.size;omega
      ·have e:L++(M.take (j+1)).map (bt s i::·)=(L++(M.take j).map (bt s i::·))++[[bt s i]++M[j]]:=by
        rw [OE H,PC,Po];rfl
       rw [e];exact ho7
    ·have H:j=M.length:=by simp at θ;omega
     subst H;rw [O6]at η;refine⟨by omega,⟨ς,i+1,by omega,δ,_,η,?_,λo=>?_⟩,by dsimp only;omega⟩
     ·rw [OG,O3,Nat.add_mul];omega
     ·rw [OM,ν,Pp];constructor
      ·rintro(⟨j,r,h1,h2,h3⟩ | ⟨r,hr,rfl⟩)
       ·exact⟨j,r,by omega,h2,h3⟩
       ·exact⟨i,r,by omega,(ζ r).1 hr,rfl⟩
      ·rintro⟨j,r,h1,h2,rfl⟩
       by_cases e:j=i
       ·subst e;exact .inr ⟨r,(ζ r).2 h2,rfl⟩
       ·exact .inl ⟨j,r,by omega,h2,rfl⟩
   ·have δ:i=s.length:=by simp at γ;omega
    subst δ;refine h out w2 L μ β ?_ λo=>?_
    ·have:s.length* P6<=6* P6:=Nat.mul_le_mul_right _ (by omega);omega
    ·rw [ν,FQ κ]
structure Kp (w w':World)(S:Nat->Prop):Prop where
 os:w'.os=w.os
 tape:w'.tape=w.tape
 output:w'.output=w.output
 size:w.heap.size<=w'.heap.size
 block:∀g,g< w.heap.size->¬S g->w'.heap[g]?=w.heap[g]?
theorem Kp.af {w w':World}(h:Ex w w')(S:Nat->Prop):Kp w w' S:=⟨h.os,h.tape,h.output,h.size,λg G _=>h.block g G⟩
theorem Kp.trans {a b c:World}{S T:Nat->Prop}(h:Kp a b S)(k:Kp b c T)(J:∀g,g< a.heap.size->T g->S g):Kp a c S:=
 ⟨k.os.trans h.os,k.tape.trans h.tape,k.output.trans h.output,PI h.size k.size,λg G H=>
  (k.block g (O5 G h.size) λV=>H (J g G V)).trans (h.block g G H)⟩
theorem Kp.below {w w':World}{S:Nat->Prop}{B:Nat}(h:Kp w w' S)(hB:B<=w.heap.size)(G:∀g,g< B->¬S g):Below B w w':=
 ⟨h.os,h.tape,h.output,h.size,λg H=>h.block g (by omega) (G g H)⟩
theorem Strs.kp {w w':World}{v:Value}{l:List Tx}{S:Nat->Prop}(h:Strs w v l)(k:Kp w w' S)(H:∀b off n cap,v= .slice (some ⟨b,off,none⟩) n cap->¬S b):Strs w' v l:=by
 rcases h with h | ⟨b,off,cap,G,h2,J⟩
 ·exact .inl h
 ·refine .inr ⟨b,off,cap,G,O5 h2 k.size,λi x V=>?_⟩;rw [OB (w:=w) (k.block b h2 (H b off _ cap G))];exact J i x V
structure GL (B:Nat)(w:World)(b:Nat)(f:Tx)(v:Value)(L:List Tx):Prop where
 lt:b< w.heap.size
 base:B<=b
 c0:w.cell? ⟨b,0,none⟩=some (sv f)
 c1:w.cell? ⟨b,1,none⟩=some v
 own:Own B w v L
 ne:v.ownBlock≠some b
 f0:w.frozen? ⟨b,0,none⟩=false
 f1:w.frozen? ⟨b,1,none⟩=false
def gS (b:Nat)(v:Value)(g:Nat):Prop:=g=b\/v.ownBlock=some g
theorem GL.ex {B:Nat}{w w':World}{b:Nat}{f:Tx}{v:Value}{L:List Tx}(h:GL B w b f v L)(k:Ex w w'):GL B w' b f v L:=
 ⟨O5 h.lt k.size,h.base,by rw [k.cell h.lt];exact h.c0,by rw [k.cell h.lt];exact h.c1,h.own.ex k,h.ne,by rw [PO k h.lt];exact h.f0,by rw [PO k h.lt];exact h.f1⟩
def JS (k:Nat)(σ:Nat->Nat)(u:U)(j:Nat)(p:P)(t:U):Prop:=
 ∃m τ,k<=m/\Den m p τ t/\(∀y,t.Us y->τ y=asgN (ak u).1 j σ y)/\GF (j+(ak u).1.length) p
theorem wF:∀(l:List Nat) (n:Nat) (σ τ:Nat->Nat) (y:Nat),(y∈l\/σ y=τ y)->asgN l n σ y=asgN l n τ y
 | [],_,_,_,_,h=>by simpa [asgN]using h
 | x::l,n,σ,τ,y,h=>by
  rw [asgN,asgN];refine wF l _ _ _ y ?_;by_cases e:y=x
  ·right;subst e;simp [aI]
  ·rcases h with h | h
   ·exact .inl ((OY.1 h).resolve_left e)
   ·right;simp [aI,e,h]
theorem GQ {u:U}(H:u.dH)(hd:u.dead=false)(G:∀p q,u≠ .par p q)(h2:∀x p,u≠ .res x p):ak u=([],[u]):=by
 cases u with
 | nil=>cases hd
 | snd=>rfl
 | rcv=>rfl
 | tau=>rfl
 | par p q=>exact absurd rfl (G p q)
 | res x p=>exact absurd rfl (h2 x p)
 | sum p q=>
  have G:p.dead=false:=H.1;have h2:q.dead=false:=H.2;simp [ak,G,h2]
 | mat a b p=>
  have G:a≠b:=H;have h2:p.dead=false:=hd;simp [ak,G,h2]
 | rep p=>
  have h2:p.dead=false:=hd;simp [ak,h2]
theorem GL.IB {B:Nat}{w:World}{b:Nat}{f:Tx}{v:Value}{L:List Tx}(h:GL B w b f v L)(g:Tx):GL B (w.setCell ⟨b,0,none⟩ (sv g)) b g v L:=by
 have J:∀n,n≠b->(w.setCell ⟨b,0,none⟩ (sv g)).heap[n]?=w.heap[n]?:=λn G=>Ra _ _ _ _ G
 refine⟨by rw [Pn];exact h.lt,h.base,OT _ _ _ h.c0,?_,⟨h.own.1,?_⟩,h.ne,by rw [OV];exact h.f0,by rw [OV];exact h.f1⟩
 ·rw [OF _ _ _ _ (by simp)];exact h.c1
 ·rcases h.own.2 with G | ⟨H,cap,cur,e,hb,V,rest⟩
  ·exact .inl G
  ·refine .inr ⟨H,cap,cur,e,hb,?_,rest⟩;rw [J H λW=>h.ne (by rw [e,<-W];rfl)];exact V
theorem GL.Dg {B:Nat}{w w':World}{b:Nat}{f:Tx}{v v':Value}{L V:List Tx}(h:GL B w b f v L)(W:w.grownBy w' v.ownBlock)(Z:Own B w' v' V)(G:v'.ownBlock≠some b):
  GL B (w'.setCell ⟨b,1,none⟩ v') b f v' V/\((∃u,w'.cell? ⟨b,1,none⟩=some u)/\w'.frozen? ⟨b,1,none⟩=false):=by
 have hb:w'.heap[b]?=w.heap[b]?:=W.block b h.lt λe=>h.ne e.symm
 have e0:w'.cell? ⟨b,0,none⟩=some (sv f):=by rw [OB (w:=w) hb];exact h.c0
 have e1:w'.cell? ⟨b,1,none⟩=some v:=by rw [OB (w:=w) hb];exact h.c1
 have z0:w'.frozen? ⟨b,0,none⟩=false:=by rw [O7 (w:=w) hb];exact h.f0
 have z1:w'.frozen? ⟨b,1,none⟩=false:=by rw [O7 (w:=w) hb];exact h.f1
 have hk:∀n,n≠b->(w'.setCell ⟨b,1,none⟩ v').heap[n]?=w'.heap[n]?:=λn H=>Ra _ _ _ _ H
 refine⟨⟨by rw [Pn];exact O5 h.lt W.size,h.base,?_,OT _ _ _ e1,⟨Z.1,?_⟩,G,by rw [OV];exact z0,by rw [OV];exact z1⟩,⟨⟨_,e1⟩,z1⟩⟩
 ·rw [OF _ _ _ _ (by simp)];exact e0
 ·rcases Z.2 with H | ⟨g',cap,cur,e,hb,J,rest⟩
  ·exact .inl H
  ·refine .inr ⟨g',cap,cur,e,hb,?_,rest⟩;rw [hk g' λhh=>G (by rw [e,<-hh];rfl)];exact J
theorem Kp.set {w w':World}{S:Nat->Prop}(h:Kp w w' S){b i:Nat}(hb:S b)(v:Value):Kp w (w'.setCell ⟨b,i,none⟩ v) S:=
 ⟨h.os,h.tape,h.output,by rw [Pn];exact h.size,λg H G=>(Ra _ _ _ _ (show g≠b from λe=>G (by rw [e];exact hb))).trans (h.block g H G)⟩
theorem Kp.grown {w w1 w':World}{S:Nat->Prop}(h:Kp w w1 S){row:Option Nat}(H:w1.grownBy w' row)(hr:∀g,row=some g->g< w.heap.size->S g):Kp w w' S:=
 ⟨H.os.trans h.os,H.tape.trans h.tape,H.output.trans h.output,PI h.size H.size,λg G J=>
  (H.block g (O5 G h.size) (λe=>J (hr g e.symm G))).trans (h.block g G J)⟩
theorem gi:∀u:U,(ak u).2.length<=u.size
 | .nil=>by simp [ak]
 | .snd .. =>by simp [ak,T.size]
 | .rcv .. =>by simp [ak,T.size]
 | .tau .. =>by simp [ak,T.size]
 | .sum p q=>by
  have :=gi p;have :=gi q;simp only [ak,T.size];split
  ·omega
  ·split
   ·omega
   ·simp
 | .par p q=>by have :=gi p;have :=gi q;simp only [ak,T.size,OG];omega
 | .res x p=>by have :=gi p;simp only [ak,T.size];omega
 | .mat a b p=>by
  have :=gi p;simp only [ak,T.size];split
  ·omega
  ·split<;>simp
 | .rep p=>by
  simp only [ak,T.size];split<;>simp
theorem iO:∀u:U,(ak u).1.length<=u.ow
 | .nil=>by simp [ak]
 | .snd .. =>by simp [ak]
 | .rcv .. =>by simp [ak]
 | .tau .. =>by simp [ak]
 | .sum p q=>by
  have :=iO p;have :=iO q;simp only [ak,T.ow];split
  ·omega
  ·split
   ·omega
   ·simp
 | .par p q=>by have :=iO p;have :=iO q;simp only [ak,T.ow,OG];omega
 | .res x p=>by
  have :=iO p;simp only [ak,T.ow];split
  ·simp only [OA];omega
  ·omega
 | .mat a b p=>by
  have :=iO p;simp only [ak,T.ow];split
  ·omega
  ·split<;>simp
 | .rep p=>by
  simp only [ak,T.ow];split<;>simp
theorem DB {p:P}{u:U}{ρ:UInt8->Nat}{σ:Nat->Nat}(h:AE ρ p σ u):u.ow=p.ow:=by
 induction p generalizing u ρ σ<;>cases u<;>simp only [AE]at h<;>simp only [T.ow]
 case snd.snd G _ _ _=>exact G h.2.2
 case mat.mat G _ _ _=>exact G h.2.2
 case rcv.rcv G _ _ _=>exact G (h.2 0)
 case res.res G _ _=>rw [G (h 0)]
 case tau.tau G _=>exact G h
 case rep.rep G _=>exact G h
 case sum.sum G H _ _=>rw [G h.1,H h.2]
 case par.par G H _ _=>rw [G h.1,H h.2]
theorem Gp:∀(n:Nat) {k:Nat} {p:P} {σ:Nat->Nat} {u:U} {j:Nat},p.size<=n->Den k p σ u->GF j p->j+p.ow<=64->
  ∀{B b:Nat} {v:Value} {L:List Tx} {w:World} {R:Sg},GL B w b (iw j) v L->L.length+p.size<=1099511627776->
  (∀w' v' (ps:List P),Kp w w' (gS b v)->(∀g,v'.ownBlock=some g->v.ownBlock=some g\/w.heap.size<=g)->GL B w' b (iw (j+(ak u).1.length)) v' (L++ps.map T.text)->aP (JS k σ u j) ps (ak u).2->R w')->
  Sh 242 #[.pointer (some ⟨b,0,none⟩),.string (ai p.text)] w (aw [] R):=by
 intro n
 induction n with
 | zero=>intro k p σ u j h;have :=bc p;omega
 | succ n ih=>
  intro k p σ u j hn d hgf how B b v L w R β hL h;refine ky _ _ w R ?_;dsimp only [go_sem];dsimp only [go_sem,UInt8.reduceOfNat,UInt32.reduceOfNat,Nat.reduceAdd];refine AU d.ok λw1 hx1 ο=>?_
  have hsz:=T.wu p;have hdd:=T.mH p;refine fV _ (OL _) ο λw2 hx2=>⟨λhd=>?_,λhd=>?_⟩
  ·have hx:Ex w w2:=hx1.trans hx2;have V:=dt u d.uq (by rw [<-d.dead,<-hdd];exact hd);rw [V]at h;exact h w2 v [] (Kp.af hx _) (λg V=> .inl V) (by simpa using β.ex hx) aP.nil
  have hpd:p.dead=false:=by rw [<-hdd];exact hd
  obtain⟨m,ς,hm,d',hσ⟩:=d.peel hpd;have δ:GF j p.peel:=hgf.peel d.bd.eb;have how':j+p.peel.ow<=64:=by have :=T.Ky p;omega
  have hpu:=T.mi u;have hud:u.peel.dead=false:=by rw [T.mH,<-d.dead];exact hpd
  have hbv:∀y,y∉BV u->y∉BV u.peel:=λy hy hb=>hy (Ef u y hb)
  have υ:=d'.uq;have h:∀w' v' (ps:List P),Kp w w' (gS b v)->(∀g,v'.ownBlock=some g->v.ownBlock=some g\/w.heap.size<=g)->GL B w' b (iw (j+(ak u.peel).1.length)) v' (L++ps.map T.text)->aP (JS m ς u.peel j) ps (ak u.peel).2->R w':=by
   intro w' v' ps G h2 h3 h4;have hus:=lv u.peel υ;rw [pS u d.uq]at h3;have hmem:∀t∈(ak u.peel).2,∀y,t.Us y->asgN (ak u.peel).1 j ς y=asgN (ak u.peel).1 j σ y:=by
    intro t ht y hy;refine wF _ _ _ _ _ ?_;rcases hus t ht y hy with hh | hh
    ·right;rw [T.DY]at hh;exact hσ y (d.uq.Ez hh)
    ·exact .inl hh
   have h4':aP (JS k σ u j) ps (ak u.peel).2:=h4.mono λa t _ ht ⟨m',τ,q1,q2,q3,q4⟩=>⟨m',τ,by omega,q2,λy hy=>by rw [q3 y hy,hmem t ht y hy,pS u d.uq],by rw [pS u d.uq]at q4;exact q4⟩
   rw [pS u d.uq]at h4';exact h w' v' ps G h2 h3 h4'
  generalize p.peel=q at*;generalize u.peel=t at*;have α:Ex w w2:=hx1.trans hx2;have ε:=β.ex α;have thread:(∀a b,q≠ .par a b)->(∀x a,q≠ .res x a)->True:=λ _ _=>trivial
  refine aQ ο ⟨λhc=>?_,λhc=>⟨λhc2=>?_,λhc2=>?_⟩⟩
  ·
   cases q<;>simp [T.kind]at hc
   rename_i a c;cases t<;>(try exact d'.ae.elim)
   rename_i W u2;obtain⟨d1,d2⟩:=d'.par;simp only [T.size]at hsz;simp only [T.ow]at how';have z1:=d1.ae.size;have z2:=d2.ae.size;refine qD ο λvp w3 Z χ hfr=>?_
   have χ:Strs w3 vp [a.text,c.text]:=χ;have J:=ε.ex Z;have ν:Ex w w3:=α.trans Z;refine χ.get (Ex.refl w3) (i:=0) (x:=a.text) (by omega) rfl ?_;refine ih (by omega) d1 (λz hz=>δ z (.inl hz)) (by omega) J (by omega) λw4 v4 ps1 hk4 hv4 hGL4 ha4=>?_
   have hs4:Strs w4 vp [a.text,c.text]:=χ.kp hk4 λbp off n' cap e hS=>by
    have hb:=hfr bp (by rw [e];rfl);rcases hS with rfl | hS
    ·have :=ε.lt;omega
    ·have :=(β.own.block bp hS).2;have :=α.size;omega
   refine hs4.get (Ex.refl w4) (i:=1) (x:=c.text) (by omega) rfl ?_;have l1:=ha4.1;have g1:(ak W).2.length<=W.size:=gi W;have o1:(ak W).1.length<=a.ow:=by rw [<-DB d1.ae];exact iO W
   refine ih (by omega) d2 (λz hz V=>?_) (by omega) hGL4 (by simp only [OG,O3];omega) λw5 v5 ps2 hk5 hv5 ζ ha5=>?_
   ·obtain⟨i,hi,e⟩:=δ z (.inr hz) V;exact⟨i,by omega,e⟩
   ·have hv45:∀g,v5.ownBlock=some g->v.ownBlock=some g\/w.heap.size<=g:=by
     intro g V;rcases hv5 g V with G | G
     ·rcases hv4 g G with h2 | h2
      ·exact .inl h2
      ·right;have :=ν.size;omega
     ·right;have :=ν.size;have :=hk4.size;omega
    refine h w5 v5 (ps1++ps2) ?_ hv45 ?_ ?_
    ·refine Kp.trans (Kp.trans (Kp.af ν (gS b v)) hk4 λg _ V=>V) hk5 λg V hS=>?_
     rcases hS with G | G
     ·exact .inl G
     ·rcases hv4 g G with h2 | h2
      ·exact .inr h2
      ·have :=ν.size;omega
    ·have e1:(ak (T.par W u2)).1.length=(ak W).1.length+(ak u2).1.length:=by simp [ak]
     rw [e1,<-Q4,PC,<-Po];exact ζ
    ·have hnd:=Pj.1 υ.nd;have hus1:=lv W d1.uq;have hus2:=lv u2 d2.uq;refine aP.append (ha4.mono λx y _ hy ⟨m',τ,q1,q2,q3,q4⟩=>⟨m',τ,q1,q2,λz hz=>?_,λz hz V=>?_⟩) (ha5.mono λx y _ hy ⟨m',τ,q1,q2,q3,q4⟩=>⟨m',τ,q1,q2,λz hz=>?_,λz hz V=>?_⟩)
     ·have hno:z∉(ak u2).1:=λhin=>by
       have hb2:=iM u2 z hin;rcases hus1 y hy z hz with G | G
       ·exact υ.nf z (O9 _ hb2) (.inl (T.bI G))
       ·exact hnd.2.2 z (iM W z G) z hb2 rfl
      show τ z=asgN ((ak W).1++(ak u2).1) j ς z;rw [me,jk _ _ _ _ hno];exact q3 z hz
     ·obtain⟨i,hi,e⟩:=q4 z hz V;have e1:(ak (T.par W u2)).1.length=(ak W).1.length+(ak u2).1.length:=by simp [ak]
      exact⟨i,by omega,e⟩
     ·have hno:z∉(ak W).1:=λhin=>by
       have hb1:=iM W z hin;rcases hus2 y hy z hz with G | G
       ·exact υ.nf z (Pf _ hb1) (.inr (T.bI G))
       ·exact hnd.2.2 z hb1 z (iM u2 z G) rfl
      show τ z=asgN ((ak W).1++(ak u2).1) j ς z;rw [me,q3 z hz];exact uC _ _ _ _ _ (jk _ _ _ _ hno).symm
     ·obtain⟨i,hi,e⟩:=q4 z hz V;have e1:(ak (T.par W u2)).1.length=(ak W).1.length+(ak u2).1.length:=by simp [ak]
      exact⟨i,by omega,e⟩
  ·cases q<;>simp [T.kind]at hc2
   rename_i x a;cases t<;>(try exact d'.ae.elim)
   rename_i y W;have hne:T.res x a≠ .nil:=λe=>by cases e
   have hj:j< 90:=by omega
   have oka:=ο.parts a (by simp [T.parts]);refine⟨λc w'=>Ex w2 w'/\∃i:Nat,i<=j/\c=gl i,λc _=>256 - c.toNat,⟨Ex.refl _,0,by omega,rfl⟩,λc w3 hI=>?_⟩;obtain⟨Z,i,hi,rfl⟩:=hI;have J:=ε.ex Z;have next:∀w',Ex w2 w'->i< j->((decide (gl i+1=91))=true->(Ex w2 w'/\∃i':Nat,i'<=j/\(192:UInt8)=gl i')/\256 - (192:UInt8).toNat< 256 - (gl i).toNat)/\((decide (gl i+1=91))=false->(Ex w2 w'/\∃i':Nat,i'<=j/\gl i+1=gl i')/\256 - (gl i+1).toNat< 256 - (gl i).toNat):=by
    intro w' hx' ψ;obtain⟨n1,n2⟩:=JM (i:=i) (by omega);have e1:=ka (show i< 90 by omega);have e2:=ka (show i+1< 90 by omega);refine⟨λhc=>?_,λhc=>?_⟩
    ·have hc:=O1 hc;refine⟨⟨hx',i+1,by omega,(n1 hc).symm⟩,?_⟩;rw [<-n1 hc,e2,e1];split<;>split<;>omega
    ·have hc:=O4 hc;refine⟨⟨hx',i+1,by omega,(n2 hc).symm⟩,?_⟩;rw [<-n2 hc,e2,e1];split<;>split<;>omega
   refine⟨b,0,rfl,iw j,J.c0,iU (by rw [iz];omega) ⟨λhq=>?_,λhq=>?_⟩⟩
   ·have hq:¬gl i∈iw j:=O4 hq;have ψ:i=j:=by
     rcases Qi i j with G | G
     ·exact absurd (iD.2 ⟨i,G,rfl⟩) hq
     ·omega
    subst ψ;refine jc _ (OL _) ο λs w4 hx4 hs4 hm4=>iU (by have :=hs4.bound;omega) ⟨λθ=>?_,λθ=>?_⟩
    ·have θ:gl i∈s:=O1 θ;obtain⟨i',G,h2⟩:=δ _ ((hm4 _).1 θ) (xS hj);exact absurd (yq hj (by omega) h2) (by omega)
    ·have θ:¬(T.res x a).Fr (gl i):=by rw [<-hm4];exact O4 θ
     have hx24:Ex w2 w4:=Z.trans hx4;have ξ:Ex w w4:=α.trans hx24;have fin:∀w5 w6,Ex w4 w5->w6=w5.setCell ⟨b,0,none⟩ (.string (ai (iw i++[gl i])))->Kp w w6 (gS b v)/\GL B w6 b (iw (i+1)) v L:=by
      rintro w5 w6 γ rfl
      refine⟨Kp.set (Kp.af (ξ.trans γ) _) (.inl rfl) _,?_⟩;rw [BU];exact(β.ex (ξ.trans γ)).IB _
     refine⟨λw'=>Kp w w' (gS b v)/\GL B w' b (iw (i+1)) v L,⟨λ _=>True,λw5 ι=>⟨trivial,b,0,rfl,?_,λb6 w6 ω κ=>⟨trivial,?_,?_⟩⟩⟩,λw6 hJ=>?_⟩
     ·have γ:Ex w4 w5:=ι▸Ex.drew w4;have ζ:=(β.ex (ξ.trans γ))
      refine⟨iw i,ζ.c0,trivial,λb6 w6 ω κ=>⟨trivial,b6,0,1,1,[gl i],rfl,rfl,lQ _ ω κ,trivial,by rw [iz];simp;omega,?_⟩⟩;have η:Ex w4 w6:=γ.trans (κ▸Ex.alloc w5 _);have H:=β.ex (ξ.trans η);exact⟨b,0,rfl,⟨⟨_,H.c0⟩,H.f0⟩,λw7 μ=>⟨trivial,fin w6 w7 η μ⟩⟩
     ·have γ:Ex w4 w5:=ι▸Ex.drew w4;have η:Ex w4 w6:=γ.trans (κ▸Ex.alloc w5 _);have H:=β.ex (ξ.trans η);refine⟨iw i,H.c0,trivial,b6,0,1,1,[gl i],rfl,rfl,lQ _ ω κ,trivial,by rw [iz];simp;omega,?_⟩;exact⟨b,0,rfl,⟨⟨_,H.c0⟩,H.f0⟩,λw7 μ=>⟨trivial,fin w6 w7 η μ⟩⟩
     ·have γ:Ex w4 w5:=ι▸Ex.drew w4;have η:Ex w4 w6:=γ.trans (κ▸Ex.alloc w5 _);have H:=β.ex (ξ.trans η);refine⟨b6,0,1,1,[gl i],rfl,rfl,lQ _ ω κ,trivial,iw i,H.c0,trivial,by rw [iz];simp;omega,?_⟩;exact⟨b,0,rfl,⟨⟨_,H.c0⟩,H.f0⟩,λw7 μ=>⟨trivial,fin w6 w7 η μ⟩⟩
     ·obtain⟨hk6,H⟩:=hJ;refine⟨λ _=>True,λw7 μ=>⟨trivial,by simp only [T.text,OA];omega,by simp only [T.text,OA];omega,?_⟩⟩;have hx7:Ex w6 w7:=μ▸Ex.drew w6;have hle:=d'.bd.le;simp only [T.rd,T.ow]at hle;simp only [T.ow]at how';simp only [T.size]at hsz;have hbda:=T.AI a;refine hZ _ (OL _) oka d'.bd.eb.2 (by omega) (MV hj) (Ld hj) λq' w8 hx8 hq'=>⟨trivial,?_⟩
      have dr:=d'.res hq' θ;have hsz':=T.px hq'.shp;have how2:=T.zo hq'.shp;have φ:=hx7.trans hx8;refine ih (by omega) dr (λz hz V=>?_) (by omega) (H.ex φ) (by omega) λw9 v9 ps hk9 hv9 hGL9 ha9=>⟨trivial,?_⟩
      ·rcases hq'.ok.free z hz with G | G | G
       ·exact⟨i,by omega,G⟩
       ·obtain⟨i',h2,h3⟩:=δ z ⟨G.1,G.2⟩ V;exact⟨i',by omega,h3⟩
       ·exact absurd V (eK (G.1▸d'.bd.eb.1.1))
      ·have hus:(td W).2.has y=true:=(gu W y υ.gz).2 hpu;have e1:(ak (T.res y W)).1=y::(ak W).1:=by simp [ak,hus]
       have sz6:=hk6.size;refine h w9 v9 ps ?_ ?_ ?_ ?_
       ·exact Kp.trans hk6 (Kp.trans (Kp.af φ (gS b v)) hk9 λg _ hS=>hS) λg _ hS=>hS
       ·intro g V;rcases hv9 g V with G | G
        ·exact .inl G
        ·right;have :=φ.size;omega
       ·rw [e1,OA];have e2:i+((ak W).1.length+1)=i+1+(ak W).1.length:=by omega
        rw [e2];exact hGL9
       ·refine ha9.mono λp' t' _ _ ⟨m',τ,q1,q2,q3,q4⟩=>⟨m',τ,by omega,q2,λz hz=>?_,λz hz V=>?_⟩
        ·rw [e1,asgN];exact q3 z hz
        ·obtain⟨i',h2,h3⟩:=q4 z hz V;exact⟨i',by rw [e1,OA];omega,h3⟩
   ·have hq:gl i∈iw j:=O1 hq;obtain⟨i',G,h2⟩:=iD.1 hq;have ψ:i< j:=by rw [yq (by omega) (by omega) h2];exact G
    exact next w3 Z ψ
  ·
   have hnp:∀a c,t≠ .par a c:=λa c e=>by
    subst e;cases q<;>first | exact d'.ae.elim | simp [T.kind]at hc
   have hnr:∀x a,t≠ .res x a:=λx a e=>by
    subst e;cases q<;>first | exact d'.ae.elim | simp [T.kind]at hc2
   have V:=GQ hpu hud hnp hnr;have hlen:L.length+1<=1099511627776:=by have :=bc p;omega
   refine⟨b,0,rfl,v,ε.c1,λb3 w3 hb3 hw3=>?_⟩;have Z:Ex w2 w3:=hw3▸Ex.alloc w2 _;have J:=ε.ex Z;refine Own.push J.own (PI J.base (Nat.le_of_lt J.lt)) (Strs.one hb3 hw3) (by simpa using hlen) λv4 w4 hb4 ho4 hg4 hw4=>?_
   have hne:v4.ownBlock≠some b:=λe=>by
    rcases hw4 b e with G | G
    ·exact β.ne G
    ·have :=J.lt;omega
   obtain⟨ζ,hcell⟩:=J.Dg hg4 ho4 hne;refine⟨b,0,rfl,?_,hcell,λw5 ι=>?_⟩
   ·rcases ho4.2 with⟨rfl,_⟩ | ⟨_,_,_,rfl,_⟩<;>rfl
   ·have ι:w5=w4.setCell ⟨b,1,none⟩ v4:=ι;subst ι;refine h _ v4 [q] ?_ ?_ ?_ ?_
    ·refine Kp.set (Kp.grown (Kp.af (α.trans Z) _) hg4 λg hg' _=> .inr hg') (.inl rfl) _
    ·intro g hg';rcases hw4 g hg' with G | G
     ·exact .inl G
     ·right;have :=(α.trans Z).size;omega
    ·rw [V];exact ζ
    ·rw [V];refine aP.one ⟨m,ς,OL _,d',λy _=>by rw [V];rfl,by rw [V];exact δ⟩
end Go.Proofs.YtdecokaadekjnaaGreat
namespace Go.Proofs.YtdecokaadekjnaaGreat
def kz (l:List U):Nat:=(l.map T.aN).sum+3* l.length
theorem rb (l m:List U):kz (l++m)=kz l+kz m:=by simp [kz];omega
theorem jy:kz []=0:=rfl
theorem cF (u:U):kz [u]=u.aN+3:=by simp [kz]
theorem BD (u:U):1<=u.aN:=by cases u<;>simp only [T.aN]<;>omega
theorem gj:∀u:U,kz (ak u).2+3* (ak u).1.length<=u.aN+3
 | .nil=>by simp [ak,jy]
 | .snd .. =>by simp [ak,cF]
 | .rcv .. =>by simp [ak,cF]
 | .tau .. =>by simp [ak,cF]
 | .sum p q=>by
  have :=gj p;have :=gj q;simp only [ak,T.aN];split
  ·omega
  ·split
   ·omega
   ·simp [cF,T.aN]
 | .par p q=>by
  have :=gj p;have :=gj q;simp only [ak,T.aN,rb,OG];omega
 | .res x p=>by
  have :=gj p;simp only [ak,T.aN];split
  ·simp only [OA];omega
  ·omega
 | .mat a b p=>by
  have :=gj p;simp only [ak,T.aN];split
  ·omega
  ·split
   ·simp [jy]
   ·simp [cF,T.aN]
 | .rep p=>by
  simp only [ak,T.aN];split
  ·simp [jy]
  ·simp [cF,T.aN]
theorem dW:∀u:U,kz (an u)<=u.aN+3
 | .nil=>by simp [an,jy]
 | .snd .. =>by simp [an,cF]
 | .rcv .. =>by simp [an,cF]
 | .tau .. =>by simp [an,cF]
 | .sum p q=>by
  have :=dW p;have :=dW q;simp only [an,T.aN,rb];omega
 | .par p q=>by
  have :=dW p;have :=dW q;simp only [an,T.aN];split
  ·omega
  ·split
   ·omega
   ·simp [cF,T.aN]
 | .res x p=>by
  have :=dW p;simp only [an,T.aN];split
  ·simp [cF,T.aN]
  ·omega
 | .mat a b p=>by
  have :=dW p;simp only [an,T.aN];split
  ·omega
  ·split
   ·simp [jy]
   ·simp [cF,T.aN]
 | .rep p=>by
  simp only [an,T.aN];split
  ·simp [jy]
  ·simp [cF,T.aN]
theorem pO {p:P}{u:U}{ρ:UInt8->Nat}{σ:Nat->Nat}(h:AE ρ p σ u):u.aN=p.aN:=by
 induction p generalizing u ρ σ<;>cases u<;>simp only [AE]at h<;>simp only [T.aN]
 case snd.snd G _ _ _=>rw [G h.2.2]
 case mat.mat G _ _ _=>rw [G h.2.2]
 case rcv.rcv G _ _ _=>rw [G (h.2 0)]
 case res.res G _ _=>rw [G (h 0)]
 case tau.tau G _=>rw [G h]
 case rep.rep G _=>rw [G h]
 case sum.sum G H _ _=>rw [G h.1,H h.2]
 case par.par G H _ _=>rw [G h.1,H h.2]
theorem IC {c:UInt8}(h:c∈nz):lt c=true:=by
 obtain⟨i,hi,rfl⟩:=Pp.1 h;rw [P7]at hi;have e:(UInt8.ofNat (97+i)).toNat=97+i:=by rw [PM];omega
 simp only [lt,OD,OQ];exact⟨O0.2 (by rw [e];show 97<=_;omega),O0.2 (by rw [e];show _<=122;omega)⟩
theorem AV {tk:Tk}{c:UInt8}(h:we tk=some c):tk c=false/\lt c=true/\iT tk=c:=by
 have G:=Rc h;have h2:=List.find?_some h;exact⟨by simpa using h2,IC G,by unfold iT;rw [h];rfl⟩
theorem IN {tk:Tk}(h:(we tk).isNone=false):tk (iT tk)=false/\lt (iT tk)=true:=by
 cases e:we tk with
 | none=>rw [e]at h;cases h
 | some c=>obtain⟨G,h2,H⟩:=AV e;rw [H];exact⟨G,h2⟩
theorem ze:∀(l:List UInt8) (tk:Tk) (c:UInt8),addK l tk c=(tk c||decide (c∈l))
 | [],tk,c=>by simp [addK]
 | d::l,tk,c=>by
  rw [addK,ze l];by_cases h:c=d
  ·subst h;simp [cy]
  ·have hb:(c==d)=false:=by simpa using h
   simp [cy,hb,h]
theorem wJ:∀(n:Nat) (tk:Tk),gH n tk=false->(lets n tk).Nodup/\∀c∈lets n tk,tk c=false/\lt c=true
 | 0,tk,_=>⟨Qd,λc h=>by cases h⟩
 | n+1,tk,h=>by
  simp only [gH,P8]at h;obtain⟨J,h2⟩:=IN h.1;obtain⟨V,G⟩:=wJ n _ h.2;rw [lets];refine⟨PJ.2 ⟨λhm=>?_,V⟩,λc hc=>?_⟩
  ·have :=(G _ hm).1;simp [cy]at this
  ·rcases OY.1 hc with rfl | hc
   ·exact⟨J,h2⟩
   ·obtain⟨H,W⟩:=G c hc;simp only [cy,P8]at H;exact⟨H.1,W⟩
theorem HY:∀(u:U) (y:Nat),u.Us y->∃t∈(ak u).2,t.Us y:=by
 intro u
 induction u with
 | nil=>intro y h;exact h.elim
 | snd a b p G=>intro y h;exact⟨_,by simp [ak],h⟩
 | rcv a b p G=>intro y h;exact⟨_,by simp [ak],h⟩
 | tau p G=>intro y h;exact⟨_,by simp [ak],h⟩
 | sum p q G H=>
  intro y h;simp only [ak];split
  ·rename_i e;exact H y (h.resolve_left (T.bL e))
  ·split
   ·rename_i e;exact G y (h.resolve_right (T.bL e))
   ·exact⟨_,by simp,h⟩
 | par p q G H=>
  intro y h;simp only [ak,OM];rcases h with h | h
  ·obtain⟨t,J,h2⟩:=G y h;exact⟨t,.inl J,h2⟩
  ·obtain⟨t,J,h2⟩:=H y h;exact⟨t,.inr J,h2⟩
 | res x p G=>intro y h;exact G y h.2
 | mat a b p G=>
  intro y h;simp only [ak];rcases h with⟨e,h⟩ | ⟨e,hd,h⟩
  ·rw [Pd e];exact G y h
  ·rw [OW e,OW (by simp [hd])];exact⟨.mat a b p,by simp,.inr ⟨e,hd,h⟩⟩
 | rep p G=>
  intro y h;simp only [ak];split
  ·rename_i e;exact absurd h (T.bL (p:=p) e)
  ·exact⟨_,by simp,h⟩
theorem Bu:∀(u:U),Uq u->∀x∈(ak u).1,∃t∈(ak u).2,t.Us x:=by
 intro u
 induction u with
 | nil=>intro _ x h;simp [ak]at h
 | snd=>intro _ x h;simp [ak]at h
 | rcv=>intro _ x h;simp [ak]at h
 | tau=>intro _ x h;simp [ak]at h
 | sum p q G H=>
  intro hu x h;simp only [ak]at h|-;split at h
  ·rename_i e;rw [Pd e];exact H hu.dV x h
  ·rename_i e;rw [OW e];split at h
   ·rename_i V;rw [Pd V];exact G hu.eD x h
   ·simp at h
 | par p q G H=>
  intro hu x h;simp only [ak,OM]at h|-;rcases h with h | h
  ·obtain⟨t,J,h2⟩:=G hu.gB x h;exact⟨t,.inl J,h2⟩
  ·obtain⟨t,J,h2⟩:=H hu.fL x h;exact⟨t,.inr J,h2⟩
 | res y p G=>
  intro hu x h;have W:(ak (.res y p)).2=(ak p).2:=rfl;rw [W];simp only [ak]at h;split at h
  ·rename_i Z;rcases OY.1 h with rfl | h
   ·exact HY p x ((gu p x hu.gz).1 Z)
   ·exact G hu.res x h
  ·exact G hu.res x h
 | mat a b p G=>
  intro hu x h;simp only [ak]at h|-;split at h
  ·rename_i e;rw [Pd e];exact G hu.mat x h
  ·rename_i e;split at h<;>simp at h
 | rep p G=>
  intro hu x h;simp only [ak]at h;split at h<;>simp at h
theorem gN:∀(u:U),Uq u->(ak u).1.Nodup:=by
 intro u
 induction u with
 | nil=>intro _;simp [ak]
 | snd=>intro _;simp [ak]
 | rcv=>intro _;simp [ak]
 | tau=>intro _;simp [ak]
 | sum p q G H=>
  intro hu;simp only [ak];split
  ·exact H hu.dV
  ·split
   ·exact G hu.eD
   ·simp
 | par p q G H=>
  intro hu;simp only [ak];refine Pj.2 ⟨G hu.gB,H hu.fL,λa ha b hb e=>?_⟩;exact(Pj.1 hu.nd).2.2 a (iM p a ha) b (iM q b hb) e
 | res y p G=>
  intro hu;simp only [ak];split
  ·exact PJ.2 ⟨λh=>hu.gz (iM p y h),G hu.res⟩
  ·exact G hu.res
 | mat a b p G=>
  intro hu;simp only [ak];split
  ·exact G hu.mat
  ·split<;>simp
 | rep p G=>
  intro hu;simp only [ak];split<;>simp
theorem jM:∀(l:List Nat) (n:Nat) (σ:Nat->Nat) (i:Nat) (h:i< l.length),l.Nodup->asgN l n σ l[i]=(gl (n+i)).toNat
 | [],_,_,_,h,_=>by simp at h
 | x::l,n,σ,0,_,G=>by
  have :=PJ.1 G;simp only [QO,asgN];rw [jk _ _ _ _ this.1];simp [aI]
 | x::l,n,σ,i+1,h,G=>by
  have :=PJ.1 G;simp only [List.getElem_cons_succ,asgN];rw [jM l _ _ i (by simpa using h) this.2]
  congr 2
  omega
end Go.Proofs.YtdecokaadekjnaaGreat
namespace Go.Proofs.YtdecokaadekjnaaGreat
open Go
attribute [go_sem] Tryz.f224
theorem lx (G:Value)(H:aB)(t3:aB)(w:World)(R:aB->Sg)(h:vc az (bf [(5,[(8,.s),(32,.i)]),(11,[(11,.s),(12,.i)]),(23,[(13,.s),(14,.s),(84,.i)]),(33,[(16,.s),(107,.i)]),(40,[(16,.s),(21,.i)])] [(12,[(11,.s)]),(32,[(17,.v)]),(38,[(16,.s)])] []) (ab Tryz.f224) (aj 0 [.v G,.s H,.s t3]) w (fin az [.tmp 6 .s] R)):
  Sh 224 #[G,(.string (ai H)),(.string (ai t3))] w (aw [.s] R):=
 bE Tryz.func224 (by kernel_rfl) h
attribute [go_sem] Tryz.f244
theorem lM (G:Value)(t2:Value)(H:aB)(l4:aB)(t5:aB)(w:World)(R:aB->Sg)(h:vc az (bf [(3,[(11,.v),(17,.i)]),(6,[(13,.s),(14,.i)])] [] [(8,false,.lt 0 (.lt 1 (.lt 2 (.lt 3 (.lt 4 (.lt 5 (.lt 6 (.one .h 7 (.lt 8 .done)))))))))]) (ab Tryz.f244) (aj 0 [.v G,.v t2,.s H,.s l4,.s t5]) w (fin az [.tmp 10 .s] R)):
  Sh 244 #[G,t2,(.string (ai H)),(.string (ai l4)),(.string (ai t5))] w (aw [.s] R):=
 bE Tryz.func244 (by kernel_rfl) h
attribute [go_sem] Tryz.f257
theorem kZ (G:Value)(H:aB)(t3:aB)(w:World)(R:aB->Sg)(h:vc az (bf [(17,[(10,.v),(87,.i)])] [] [(4,false,.lt 0 (.lt 1 (.lt 4 (.lt 5 (.lt 6 (.lt 9 (.one .h 2 (.lt 3 (.one .h 7 (.lt 8 (.one .h 10 (.lt 11 (.lt 12 .done))))))))))))),(7,false,.lt 0 (.lt 1 (.lt 2 (.lt 7 (.lt 8 (.lt 9 (.lt 10 (.lt 11 (.lt 12 (.lt 14 (.lt 15 (.br .h 3 (.br .h 4 (.lt 5 (.lt 6 (.one .h 13 (.one .h 16 (.one .h 17 (.lt 18 (.lt 19 .done))))))) (.one .h 13 (.br .h 4 (.lt 5 (.lt 6 (.one .h 16 (.one .h 17 (.lt 18 (.lt 19 .done)))))) (.one .h 16 (.br .h 4 (.lt 5 (.lt 6 (.one .h 17 (.lt 18 (.lt 19 .done))))) (.one .h 17 (.one .h 4 (.lt 5 (.lt 6 (.lt 18 (.lt 19 .done))))))))))) (.one .h 13 (.br .h 3 (.br .h 4 (.lt 5 (.lt 6 (.one .h 16 (.one .h 17 (.lt 18 (.lt 19 .done)))))) (.one .h 16 (.br .h 4 (.lt 5 (.lt 6 (.one .h 17 (.lt 18 (.lt 19 .done))))) (.one .h 17 (.one .h 4 (.lt 5 (.lt 6 (.lt 18 (.lt 19 .done))))))))) (.one .h 16 (.br .h 3 (.br .h 4 (.lt 5 (.lt 6 (.one .h 17 (.lt 18 (.lt 19 .done))))) (.one .h 17 (.one .h 4 (.lt 5 (.lt 6 (.lt 18 (.lt 19 .done))))))) (.one .h 17 (.one .h 3 (.one .h 4 (.lt 5 (.lt 6 (.lt 18 (.lt 19 .done))))))))))))))))))))))),(9,false,.lt 0 (.lt 1 (.lt 2 (.lt 3 (.lt 4 (.lt 5 .done))))))]) (ab Tryz.f257) (aj 0 [.v G,.s H,.s t3]) w (fin az [.tmp 6 .s] R)):
  Sh 257 #[G,(.string (ai H)),(.string (ai t3))] w (aw [.s] R):=
 bE Tryz.func257 (by kernel_rfl) h
attribute [go_sem] Tryz.f189
theorem xZ (G:aB)(w:World)(R:aB->Bool->Sg)(h:vc az (bf [(4,[(5,.i),(19,.i)])] [] [(13,false,.lt 0 (.lt 1 (.lt 2 (.lt 3 (.lt 4 (.lt 5 (.lt 6 (.lt 7 .done))))))))]) (ab Tryz.f189) (aj 0 [.s G]) w (fin az [.tmp 2 .s,.tmp 3 .b] R)):
  Sh 189 #[(.string (ai G))] w (aw [.s,.b] R):=
 bE Tryz.func189 (by kernel_rfl) h
attribute [go_sem] Tryz.f150
theorem yr (G:aB)(w:World)(R:aB->Bool->Sg)(h:vc az (bf [] [] []) (ab Tryz.f150) (aj 0 [.s G]) w (fin az [.tmp 2 .s,.tmp 3 .b] R)):
  Sh 150 #[(.string (ai G))] w (aw [.s,.b] R):=
 bE Tryz.func150 (by kernel_rfl) h
end Go.Proofs.YtdecokaadekjnaaGreat
namespace Go.Proofs.YtdecokaadekjnaaGreat
open Go Go.RowKit
structure MK (w:World)(bm:Nat)(br on:Bool):Prop where
 lt:bm< w.heap.size
 c0:w.cell? ⟨bm,0,none⟩=some (.bool br)
 c1:w.cell? ⟨bm,1,none⟩=some (.bool on)
 f0:w.frozen? ⟨bm,0,none⟩=false
theorem MK.ex {w w':World}{bm:Nat}{br on:Bool}(h:MK w bm br on)(k:Ex w w'):MK w' bm br on:=
 ⟨O5 h.lt k.size,by rw [k.cell h.lt];exact h.c0,by rw [k.cell h.lt];exact h.c1,by rw [PO k h.lt];exact h.f0⟩
def cP (T:Tx):Tk:=λc=>decide (c∈T)
structure yv (k:Nat)(T:Tx)(σ:Nat->Nat)(u:U):Prop where
 srt:jb T
 okn:∀c∈T,okn k c/\ngr c
 cov:∀y,u.Us y->∃c∈T,c.toNat=σ y
def Compat (ρ:Rh)(σ:Nat->Nat)(u:U):Prop:=∀y,u.Us y->(ρ y).toNat=σ y
structure WR (on:Bool)(u:U)(σ:Nat->Nat)(T r:Tx):Prop where
 ne:r≠[]
 len:r.length<=u.aN
 cnt:bn u<=5->r.count 35=cN u
 bad:bn u<=5->on=false->dC u (cP T)=true->∃c∈r,128<=c
 eq:bn u<=5->on=false->dC u (cP T)=false->∀ρ,Compat ρ σ u->r=LS u ρ (cP T)
structure TR (on:Bool)(t:U)(σ:Nat->Nat)(T r:Tx):Prop where
 ne:r≠[]
 len:r.length<=t.aN
 cnt:ax (tl [t])<=5->r.count 35=thAll (tl [t])
 bad:ax (tl [t])<=5->on=false->thBad (tl [t]) (cP T)=true->∃c∈r,128<=c
 eq:ax (tl [t])<=5->on=false->thBad (tl [t]) (cP T)=false->∀ρ,Compat ρ σ t->r=thU t ρ (cP T)
def GU (n:Nat):Prop:=∀{k:Nat} {p:P} {σ:Nat->Nat} {u:U} {T:Tx} {w:World} {bm:Nat} {br on:Bool} {R:aB->Sg},
 p.size<=n->Den k p σ u->GF 0 p->yv k T σ u->MK w bm br on->
 (∀r w',Kp w w' (λg=>g=bm)->MK w' bm (br||decide (5< bn u)) on->WR on u σ T r->R r w')->
 Sh 224 #[.pointer (some ⟨bm,0,none⟩),.string (ai p.text),.string (ai T)] w (aw [.s] R)
def yu (n:Nat):Prop:=∀{k:Nat} {p:P} {σ:Nat->Nat} {t:U} {T:Tx} {w:World} {bm:Nat} {br on:Bool} {R:aB->Sg},
 p.size<=n->Den k p σ t->J3 t=true->t.dH->t.dead=false->GF 0 p->yv k T σ t->MK w bm br on->
 (∀r w',Kp w w' (λg=>g=bm)->MK w' bm (br||decide (5< ax (tl [t]))) on->TR on t σ T r->R r w')->
 Sh 257 #[.pointer (some ⟨bm,0,none⟩),.string (ai p.text),.string (ai T)] w (aw [.s] R)
end Go.Proofs.YtdecokaadekjnaaGreat
namespace Go.Proofs.YtdecokaadekjnaaGreat
theorem jl (a b:Nat)(p:U)(tk:Tk):thBad (tl [.snd a b p]) tk=dC p tk:=by simp [tl,thBad,dC]
theorem jE (p:U)(tk:Tk):thBad (tl [.tau p]) tk=dC p tk:=by simp [tl,thBad,dC]
theorem fu (a b:Nat)(p:U)(tk:Tk):thBad (tl [.mat a b p]) tk=dC p tk:=by simp [tl,thBad,dC]
theorem jH (p:U)(tk:Tk):thBad (tl [.rep p]) tk=dC p tk:=by simp [tl,thBad,dC]
theorem jG (a x:Nat)(p:U)(tk:Tk):thBad (tl [.rcv a x p]) tk=((we tk).isNone||dC p (cy tk (iT tk))):=by simp [tl,thBad,dC]
theorem qo (a b:Nat)(p:U):thAll (tl [.snd a b p])=cN p:=by simp [tl,thAll,cN]
theorem qv (p:U):thAll (tl [.tau p])=cN p:=by simp [tl,thAll,cN]
theorem jm (a b:Nat)(p:U):thAll (tl [.mat a b p])=cN p:=by simp [tl,thAll,cN]
theorem qf (p:U):thAll (tl [.rep p])=cN p:=by simp [tl,thAll,cN]
theorem qt (a b:Nat)(p:U):thAll (tl [.rcv a b p])=cN p:=by simp [tl,thAll,cN]
theorem fg (a b:Nat)(p:U):ax (tl [.snd a b p])=bn p:=by simp [tl,ax,bn]
theorem fe (p:U):ax (tl [.tau p])=bn p:=by simp [tl,ax,bn]
theorem dq (a b:Nat)(p:U):ax (tl [.mat a b p])=bn p:=by simp [tl,ax,bn]
theorem fk (p:U):ax (tl [.rep p])=bn p:=by simp [tl,ax,bn]
theorem fv (a b:Nat)(p:U):ax (tl [.rcv a b p])=bn p:=by simp [tl,ax,bn]
theorem xy (l:List U)(tk:Tk):thBad (tp l) tk=l.any λu=>dC u tk:=by
 induction l with
 | nil=>rfl
 | cons u l G=>rw [tp,thBad,G];rfl
theorem HI (l:List U):thAll (tp l)=(l.map cN).sum:=by
 induction l with
 | nil=>rfl
 | cons u l G=>rw [tp,thAll,G];rfl
theorem xJ (l:List U)(n:Nat):ax (tp l)<=n↔∀u∈l,bn u<=n:=by
 induction l with
 | nil=>simp [tp,ax]
 | cons u l G=>
  rw [tp,ax];rw [ON,<-G];unfold bn;exact⟨λh=>⟨by omega,by omega⟩,λh=>by have :=h.1;have :=h.2;omega⟩
theorem tc (l:List U)(tk:Tk):thBad (tl l) tk=l.any λt=>thBad (tl [t]) tk:=by
 induction l with
 | nil=>rfl
 | cons u l G=>
  have:tl (u::l)=(tl [u]).app (tl l):=ik [u] l;rw [this,db,G];rfl
theorem CP (l:List U):thAll (tl l)=(l.map λt=>thAll (tl [t])).sum:=by
 induction l with
 | nil=>rfl
 | cons u l G=>
  have:tl (u::l)=(tl [u]).app (tl l):=ik [u] l;rw [this,cu,G];rfl
theorem sD (l:List U)(n:Nat):ax (tl l)<=n↔∀t∈l,ax (tl [t])<=n:=by
 induction l with
 | nil=>simp [tl,ax]
 | cons u l G=>
  have:tl (u::l)=(tl [u]).app (tl l):=ik [u] l;rw [this,cA];rw [ON,<-G];exact⟨λh=>⟨by omega,by omega⟩,λh=>by have :=h.1;have :=h.2;omega⟩
end Go.Proofs.YtdecokaadekjnaaGreat
namespace Go.Proofs.YtdecokaadekjnaaGreat
open Classical
namespace T
section
variable {A B:Type} [DecidableEq A] [DecidableEq B]
def th:T A->Bool
 | snd .. =>true | rcv .. =>true | tau .. =>true | mat .. =>true | rep .. =>true | sum .. =>true
 | nil=>false | par .. =>false | res .. =>false
def isS:T A->Bool
 | sum .. =>true
 | _=>false
def isP:T A->Bool
 | par .. =>true
 | _=>false
def Nr:T A->Prop
 | nil=>True
 | snd _ _ p=>p.Nr
 | rcv _ _ p=>p.Nr
 | tau p=>p.Nr
 | sum p q=>(p.dead=false/\q.dead=false/\p.isS=false)/\p.Nr/\q.Nr
 | par p q=>(p.th=true/\(q.th=true\/q.isP=true))/\p.Nr/\q.Nr
 | res x p=>p.Us x/\p.Nr
 | mat a b p=>(a≠b/\p.dead=false)/\p.Nr
 | rep p=>p.dead=false/\p.Nr
theorem Nr.iH {A:Type}{x:A}:∀{p:T A},p.Nr->p.Fr x->p.Us x
 | nil,_,h=>h.elim
 | snd a b p,n,h=>h.imp id λh=>h.imp id (Nr.iH (p:=p) n)
 | rcv a y p,n,h=>h.imp id λh=>h.imp id (Nr.iH (p:=p) n)
 | tau p,n,h=>Nr.iH (p:=p) n h
 | sum p q,n,h=>Or.imp (Nr.iH n.2.1) (Nr.iH n.2.2) h
 | par p q,n,h=>Or.imp (Nr.iH n.2.1) (Nr.iH n.2.2) h
 | res y p,n,h=>And.imp id (Nr.iH (p:=p) n.2) h
 | mat a b p,n,h=> .inr ⟨n.1.1,n.1.2,h.imp id λh=>h.imp id (Nr.iH (p:=p) n.2)⟩
 | rep p,n,h=>Nr.iH (p:=p) n.2 h
theorem JY {A:Type}{p:T A}{x:A}(h:p.Us x):p.dead=false:=by
 cases hd:p.dead with
 | false=>rfl
 | true=>exact absurd h (bL hd)
theorem Nr.sG {A:Type}:∀{p:T A},p.Nr->p.th=true->p.dead=false
 | snd ..,_,_=>rfl
 | rcv ..,_,_=>rfl
 | tau ..,_,_=>rfl
 | sum p q,n,_=>by simp [dead,n.1.1]
 | mat a b p,n,_=>n.1.2
 | rep p,n,_=>n.1
theorem Nr.live {A:Type}{p:T A}(n:p.Nr)(h:p≠nil):p.dead=false:=by
 cases p with
 | nil=>exact absurd rfl h
 | res x p=>exact JY (p:=p) n.1
 | par p q=>simp [dead,n.2.1.sG n.1.1]
 | _=>exact n.sG rfl
theorem Nr.dH {A:Type}{p:T A}(n:p.Nr):p.dH:=by
 cases p with
 | mat a b p=>exact n.1.1
 | sum p q=>exact⟨n.1.1,n.1.2.1⟩
 | par p q=>
  refine⟨n.2.1.sG n.1.1,?_⟩;refine n.2.2.live ?_
  rintro rfl
  rcases n.1.2 with h | h<;>cases h
 | res x p=>exact n.1
 | _=>trivial
def frL:T A->List A
 | res x p=>x::p.frL
 | _=>[]
def ths:T A->List (T A)
 | nil=>[]
 | res _ p=>p.ths
 | par p q=>p::q.ths
 | t=>[t]
def mT:T A->List (T A)
 | sum p q=>p::q.mT
 | t=>[t]
def resL:List A->T A->T A
 | [],p=>p
 | x::l,p=>res x (resL l p)
def parL:List (T A)->T A
 | []=>nil
 | [t]=>t
 | t::u::l=>par t (parL (u::l))
def dI:List (T A)->T A
 | []=>nil
 | [t]=>t
 | t::u::l=>sum t (dI (u::l))
theorem fJ {A:Type}{x:A}{p:T A}:∀{l:List A},(resL l p).Fr x↔x∉l/\p.Fr x
 | []=>by simp [resL]
 | y::l=>by simp only [resL,Fr,fJ (l:=l),OY,Sf];exact QX.symm
theorem kh {A:Type}{x:A}{p:T A}:∀{l:List A},(resL l p).Us x↔x∉l/\p.Us x
 | []=>by simp [resL]
 | y::l=>by simp only [resL,Us,kh (l:=l),OY,Sf];exact QX.symm
theorem Bf {A:Type}{p:T A}:∀{l:List A},(resL l p).frL=l++p.frL
 | []=>rfl
 | y::l=>by simp only [resL,frL,Bf (l:=l),PD]
theorem Bk {A:Type}{p:T A}:∀{l:List A},(resL l p).ths=p.ths
 | []=>rfl
 | y::l=>by simp only [resL,ths,Bk (l:=l)]
theorem mL {A:Type}{x:A}:∀{l:List (T A)},(parL l).Fr x↔∃t∈l,t.Fr x
 | []=>by simp [parL,Fr]
 | [t]=>by simp [parL]
 | t::u::l=>by simp only [parL,Fr,mL (l:=u::l),OY,exists_eq_or_imp]
theorem sF {A:Type}{x:A}:∀{l:List (T A)},(parL l).Us x↔∃t∈l,t.Us x
 | []=>by simp [parL,Us]
 | [t]=>by simp [parL]
 | t::u::l=>by simp only [parL,Us,sF (l:=u::l),OY,exists_eq_or_imp]
theorem EM {A:Type}{x:A}:∀{l:List (T A)},(dI l).Us x↔∃t∈l,t.Us x
 | []=>by simp [dI,Us]
 | [t]=>by simp [dI]
 | t::u::l=>by simp only [dI,Us,EM (l:=u::l),OY,exists_eq_or_imp]
theorem DA {A:Type}:∀{l:List (T A)},(∀t∈l,t.th=true/\t.Nr)->(parL l).Nr/\(l≠[]->(parL l).th=true\/(parL l).isP=true)
 | [],_=>⟨trivial,λh=>absurd rfl h⟩
 | [t],h=>⟨(h t (by simp)).2,λ _=> .inl (h t (by simp)).1⟩
 | t::u::l,h=>by
  obtain⟨G,h2⟩:=DA (l:=u::l) λt H=>h t (OU _ H)
  exact⟨⟨⟨(h t (by simp)).1,h2 (by simp)⟩,(h t (by simp)).2,G⟩,λ _=> .inr rfl⟩
theorem oA {A:Type}{t:T A}(h:t.th=true):t.ths=[t]:=by cases t<;>first | rfl | cases h
theorem iV {A:Type}{t:T A}(h:t.th=true):t.frL=[]:=by cases t<;>first | rfl | cases h
theorem AX {A:Type}:∀{l:List (T A)},(∀t∈l,t.th=true)->(parL l).ths=l
 | [],_=>rfl
 | [t],h=>oA (h t (by simp))
 | t::u::l,h=>by simp only [parL,ths,AX (l:=u::l) λt G=>h t (OU _ G)]
theorem HZ {A:Type}:∀{l:List (T A)},(∀t∈l,t.th=true)->(parL l).frL=[]
 | [],_=>rfl
 | [t],h=>iV (h t (by simp))
 | t::u::l,h=>rfl
theorem DV {A:Type}{p:T A}(n:p.Nr):∀{l:List A},l.Nodup->(∀x∈l,p.Us x)->(resL l p).Nr
 | [],_,_=>n
 | x::l,G,h=>by
  have :=PJ.1 G;exact⟨kh.2 ⟨this.1,h x (by simp)⟩,DV n this.2 λy H=>h y (OU _ H)⟩
theorem Ew {A:Type}:∀{l:List (T A)},l≠[]->(∀t∈l,t.dead=false/\t.isS=false/\t.Nr)->(dI l).Nr/\(dI l).dead=false
 | [],h,_=>absurd rfl h
 | [t],_,h=>⟨(h t (by simp)).2.2,(h t (by simp)).1⟩
 | t::u::l,_,h=>by
  obtain⟨H,h2⟩:=Ew (l:=u::l) (by simp) λt G=>h t (OU _ G)
  have G:=h t (by simp);exact⟨⟨⟨G.1,h2,G.2.1⟩,G.2.2,H⟩,by simp [dI,dead,G.1]⟩
theorem gF {A:Type}{t:T A}(h:t.isS=false):t.mT=[t]:=by cases t<;>first | rfl | cases h
theorem Ae {A:Type}:∀{l:List (T A)},l≠[]->(∀t∈l,t.isS=false)->(dI l).mT=l
 | [],h,_=>absurd rfl h
 | [t],_,h=>gF (h t (by simp))
 | t::u::l,_,h=>by simp only [dI,mT,Ae (l:=u::l) (by simp) λt G=>h t (OU _ G)]
theorem BL {A:Type}:∀{p:T A},p.Nr->(p.th=true\/p.isP=true)->parL p.ths=p
 | par p q,n,_=>by
  have H:=BL n.2.2 n.1.2;have G:q.ths≠[]:=by
   rcases n.1.2 with h | h
   ·rw [oA h];simp
   ·cases q<;>first | (cases h;done) | simp [ths]
  simp only [ths];cases e:q.ths with
  | nil=>exact absurd e G
  | cons u l=>rw [parL,<-e,H]
 | snd ..,_,_=>rfl
 | rcv ..,_,_=>rfl
 | tau ..,_,_=>rfl
 | sum ..,_,_=>rfl
 | mat ..,_,_=>rfl
 | rep ..,_,_=>rfl
 | nil,_,h=>by rcases h with h | h<;>cases h
 | res ..,_,h=>by rcases h with h | h<;>cases h
theorem Nr.shape {A:Type}:∀{p:T A},p.Nr->p=resL p.frL (parL p.ths)
 | res x p,n=>by
  have :=Nr.shape n.2;simp only [frL,ths,resL];rw [<-this]
 | nil,_=>rfl
 | par p q,n=>by
  have :=BL (p:=par p q) n (.inr rfl);rw [this];rfl
 | snd ..,_=>rfl
 | rcv ..,_=>rfl
 | tau ..,_=>rfl
 | sum ..,_=>rfl
 | mat ..,_=>rfl
 | rep ..,_=>rfl
theorem Nr.ths {A:Type}:∀{p:T A},p.Nr->∀t∈p.ths,t.th=true/\t.Nr
 | nil,_,t,h=>by cases h
 | res x p,n,t,h=>Nr.ths (p:=p) n.2 t h
 | par p q,n,t,h=>by
  rcases OY.1 h with rfl | h
  ·exact⟨n.1.1,n.2.1⟩
  ·exact Nr.ths n.2.2 t h
 | snd ..,n,t,h=>by simp [T.ths]at h;subst h;exact⟨rfl,n⟩
 | rcv ..,n,t,h=>by simp [T.ths]at h;subst h;exact⟨rfl,n⟩
 | tau ..,n,t,h=>by simp [T.ths]at h;subst h;exact⟨rfl,n⟩
 | sum ..,n,t,h=>by simp [T.ths]at h;subst h;exact⟨rfl,n⟩
 | mat ..,n,t,h=>by simp [T.ths]at h;subst h;exact⟨rfl,n⟩
 | rep ..,n,t,h=>by simp [T.ths]at h;subst h;exact⟨rfl,n⟩
theorem Nr.IK {A:Type}:∀{p:T A},p.Nr->p.frL.Nodup/\∀x∈p.frL,(parL p.ths).Us x
 | res y p,n=>by
  obtain⟨H,h2⟩:=Nr.IK n.2;have hu:=n.1;rw [Nr.shape n.2]at hu;have hu:=kh.1 hu;refine⟨PJ.2 ⟨hu.1,H⟩,λx G=>?_⟩;rcases OY.1 G with rfl | G
  ·exact hu.2
  ·exact h2 x G
 | nil,_=>⟨Qd,λx h=>by cases h⟩
 | par ..,_=>⟨Qd,λx h=>by cases h⟩
 | snd ..,_=>⟨Qd,λx h=>by cases h⟩
 | rcv ..,_=>⟨Qd,λx h=>by cases h⟩
 | tau ..,_=>⟨Qd,λx h=>by cases h⟩
 | sum ..,_=>⟨Qd,λx h=>by cases h⟩
 | mat ..,_=>⟨Qd,λx h=>by cases h⟩
 | rep ..,_=>⟨Qd,λx h=>by cases h⟩
end
theorem qh (p:P):∀l:List UInt8,(resL l p).text=wrap l p.text
 | []=>rfl
 | x::l=>by simp only [resL,text,wrap,qh p l]
theorem qk:∀{l:List P},l≠[]->(parL l).text=joinS 38 (l.map T.text)
 | [],h=>absurd rfl h
 | [t],_=>rfl
 | t::u::l,_=>by
  have :=qk (l:=u::l) (by simp);simp only [parL,text,Pe,joinS]at this|-;rw [this]
theorem wU:∀{l:List P},l≠[]->(dI l).text=joinS 43 (l.map T.text)
 | [],h=>absurd rfl h
 | [t],_=>rfl
 | t::u::l,_=>by
  have :=wU (l:=u::l) (by simp);simp only [dI,text,Pe,joinS]at this|-;rw [this]
end T
section
variable {A B:Type} [DecidableEq A] [DecidableEq B]
theorem AE.th {p:T A}{q:T B}{ρ:A->Nat}{σ:B->Nat}(h:AE ρ p σ q):p.th=q.th/\p.isS=q.isS/\p.isP=q.isP:=by
 cases p<;>cases q<;>first | exact h.elim | exact⟨rfl,rfl,rfl⟩
theorem eX {ρ:A->Nat}{p:T A}{x:A}{v:Nat}(h:fw ρ (.res x p))(H:∀y,p.Fr y->ρ y≠v):fw (aI ρ x v) p:=
 .aI (λy z G J h5 V=>h y z ⟨G,h5⟩ ⟨J,V⟩) λy _ G=>H y (T.bI G)
theorem Kg {p:T A}{u:T B}{ρ:A->Nat}{σ:B->Nat}{x:A}{y:B}(h:∀v,AE (aI ρ x v) p (aI σ y v) u)(hi:fw ρ (.res x p))(hj:fw σ (.res y u)):p.Us x↔u.Us y:=by
 obtain⟨v,W,h2⟩:=cw p u ρ σ;have G:=eX hi W;have H:=eX hj h2;constructor
 ·intro Z;obtain⟨z,J,e⟩:=(h v).used G H x Z;rw [dg]at e;unfold aI at e;split at e
  ·rename_i V;exact V▸J
  ·exact absurd e (h2 z (T.bI J))
 ·intro hy;obtain⟨z,J,e⟩:=(h v).symm.used H G y hy;rw [dg]at e;unfold aI at e;split at e
  ·rename_i V;exact V▸J
  ·exact absurd e (W z (T.bI J))
theorem fw.IE {A:Type}{ρ:A->Nat}{p:T A}{a x:A}(h:fw ρ (.rcv a x p)):fw ρ (.res x p):=λy z G H=>h y z (.inr G) (.inr H)
theorem AE.nr:∀{p:T A} {q:T B} {ρ:A->Nat} {σ:B->Nat},AE ρ p σ q->fw ρ p->fw σ q->p.Nr->q.Nr:=by
 intro p
 induction p<;>intro q ρ σ h hi hj n<;>cases q<;>simp only [AE]at h
 case nil.nil=>trivial
 case snd.snd H _ _ _=>have k:=H h.2.2 (hi.sub λx G=>Or.inr (Or.inr G)) (hj.sub λx G=> .inr (.inr G)) n;exact k
 case rcv.rcv p H _ _ q=>
  obtain⟨v,W,h2⟩:=cw p q ρ σ;have k:=H (h.2 v) (eX hi.IE W) (eX hj.IE h2) n;exact k
 case tau.tau H _=>have k:=H h hi hj n;exact k
 case rep.rep H _=>exact⟨h.dead▸n.1,H h hi hj n.2⟩
 case res.res p H _ q=>
  obtain⟨v,W,h2⟩:=cw p q ρ σ;exact⟨(Kg h hi hj).1 n.1,H (h v) (eX hi W) (eX hj h2) n.2⟩
 case mat.mat p H c d q=>
  have hd:q.dead=false:=h.2.2.dead▸n.1.2;have V:c≠d:=by
   rintro rfl
   exact n.1.1 (hi _ _ (.inr ⟨n.1.1,n.1.2,.inl rfl⟩) (.inr ⟨n.1.1,n.1.2,.inr (.inl rfl)⟩) (h.1.trans h.2.1.symm))
  exact⟨⟨V,hd⟩,H h.2.2 (hi.sub λx G=> .inr ⟨n.1.1,n.1.2,.inr (.inr G)⟩) (hj.sub λx G=> .inr ⟨V,hd,.inr (.inr G)⟩) n.2⟩
 case sum.sum H J _ _=>
  exact⟨⟨h.1.dead▸n.1.1,h.2.dead▸n.1.2.1,h.1.th.2.1▸n.1.2.2⟩,H h.1 (hi.sub λx G=> .inl G) (hj.sub λx G=> .inl G) n.2.1,J h.2 (hi.sub λx G=> .inr G) (hj.sub λx G=> .inr G) n.2.2⟩
 case par.par H J _ _=>
  exact⟨⟨h.1.th.1▸n.1.1,n.1.2.imp (λk=>h.2.th.1▸k) (λk=>h.2.th.2.2▸k)⟩,H h.1 (hi.sub λx G=> .inl G) (hj.sub λx G=> .inl G) n.2.1,J h.2 (hi.sub λx G=> .inr G) (hj.sub λx G=> .inr G) n.2.2⟩
end
theorem eZ {u:U}(n:u.Nr)(h:u.th=true):ak u=([],[u]):=by
 cases u<;>first | (cases h;done) | rfl | skip
 case sum p q=>simp [ak,n.1.1,n.1.2.1]
 case mat a b p=>simp [ak,n.1.1,n.1.2]
 case rep p=>simp [ak,n.1]
theorem C7:∀{u:U},Uq u->u.Nr->ak u=(u.frL,u.ths)
 | .nil,_,_=>rfl
 | .res x p,hu,n=>by
  have :=C7 hu.res n.2;have h:(td p).2.has x=true:=(gu p x hu.gz).2 n.1;simp [ak,h,this,T.frL,T.ths]
 | .par p q,hu,n=>by
  have h2:=C7 hu.fL n.2.2;have G:q.frL=[]:=by
   rcases n.1.2 with h | h
   ·exact T.iV h
   ·cases q<;>first | (cases h;done) | rfl
  simp [ak,h2,eZ n.2.1 n.1.1,T.frL,T.ths,G]
 | .snd ..,_,n=>eZ n rfl
 | .rcv ..,_,n=>eZ n rfl
 | .tau ..,_,n=>eZ n rfl
 | .sum ..,_,n=>eZ n rfl
 | .mat ..,_,n=>eZ n rfl
 | .rep ..,_,n=>eZ n rfl
theorem eV {u:U}(G:u.dH)(hd:u.dead=false)(J:∀p q,u≠ .sum p q)(hu:Uq u):an u=[u]:=by
 cases u with
 | nil=>cases hd
 | snd=>rfl
 | rcv=>rfl
 | tau=>rfl
 | sum p q=>exact absurd rfl (J p q)
 | par p q=>
  have H:p.dead=false:=G.1;have h2:q.dead=false:=G.2;simp [an,H,h2]
 | res x p=>
  have:(td p).2.has x=true:=(gu p x hu.gz).2 G;simp [an,this]
 | mat a b p=>
  have H:a≠b:=G;have h2:p.dead=false:=hd;simp [an,H,h2]
 | rep p=>
  have h2:p.dead=false:=hd;simp [an,h2]
theorem eQ:∀{u:U},Uq u->u.Nr->u.dead=false->an u=u.mT
 | .nil,_,_,h=>by cases h
 | .sum p q,hu,n,_=>by
  have G:=eQ hu.eD n.2.1 n.1.1;have h2:=eQ hu.dV n.2.2 n.1.2.1;simp only [an,T.mT,G,h2,T.gF n.1.2.2];rfl
 | .res x p,hu,n,h=>eV n.dH h (λ _ _ e=>by cases e) hu
 | .par ..,hu,n,h=>eV n.dH h (λ _ _ e=>by cases e) hu
 | .snd ..,hu,n,h=>eV n.dH h (λ _ _ e=>by cases e) hu
 | .rcv ..,hu,n,h=>eV n.dH h (λ _ _ e=>by cases e) hu
 | .tau ..,hu,n,h=>eV n.dH h (λ _ _ e=>by cases e) hu
 | .mat ..,hu,n,h=>eV n.dH h (λ _ _ e=>by cases e) hu
 | .rep ..,hu,n,h=>eV n.dH h (λ _ _ e=>by cases e) hu
namespace Lv
def map (f:Nat->Nat):Lv->Lv
 | nil=>nil
 | thr k a b o r n=>thr k (if k= .t\/k= .p then a else f a) (if k= .t\/k= .p then b else f b) (o.map f) (r.map f) (n.map f)
 | sum ps n=>sum (ps.map f) (n.map f)
 | part o q n=>part (o.map f) (q.map f) (n.map f)
def Al (D:Nat->Prop):Lv->Prop
 | nil=>True
 | thr k a b o r n=>(k= .t\/k= .p\/(D a/\D b))/\(∀x∈o,D x)/\r.Al D/\n.Al D
 | sum ps n=>ps.Al D/\n.Al D
 | part o q n=>(∀x∈o,D x)/\q.Al D/\n.Al D
theorem fD (f:Nat->Nat):∀l m:Lv,(l.app m).map f=(l.map f).app (m.map f)
 | nil,m=>rfl
 | thr k a b o r n,m=>by simp only [app,map,fD f n m]
 | sum ps n,m=>by simp only [app,map,fD f n m]
 | part o q n,m=>by simp only [app,map,fD f n m]
theorem nS {D:Nat->Prop}:∀{l m:Lv},(l.app m).Al D↔l.Al D/\m.Al D
 | nil,m=>by simp [app,Al]
 | thr k a b o r n,m=>by simp only [app,Al,nS (l:=n),QX]
 | sum ps n,m=>by simp only [app,Al,nS (l:=n),QX]
 | part o q n,m=>by simp only [app,Al,nS (l:=n),QX]
theorem mE (f:Nat->Nat)(l:Lv):(l.map f).isNil=l.isNil:=by cases l<;>rfl
theorem mJ {D E:Nat->Prop}(h:∀x,D x->E x):∀{l:Lv},l.Al D->l.Al E
 | nil,_=>trivial
 | thr k a b o r n,⟨G,h2,H,h4⟩=>⟨G.imp id λG=>G.imp id λG=>⟨h _ G.1,h _ G.2⟩,λx J=>h x (h2 x J),mJ h H,mJ h h4⟩
 | sum ps n,⟨G,h2⟩=>⟨mJ h G,mJ h h2⟩
 | part o q n,⟨G,h2,H⟩=>⟨λx J=>h x (G x J),mJ h h2,mJ h H⟩
section
variable {D:Nat->Prop} {f:Nat->Nat}
theorem mY (G:∀x y,D x->D y->f x=f y->x=y){x y:Nat}(H:D x)(J:D y):(f x==f y)=(x==y):=by
 rw [PH,Q6,Q6];exact⟨G x y H J,λh=>by rw [h]⟩
theorem jN (G:∀x y,D x->D y->f x=f y->x=y){x:Nat}(H:D x):∀{l:Lv},l.Al D->(l.map f).has (f x)=l.has x
 | nil,_=>rfl
 | thr k a b o r n,⟨J,h2,V,h4⟩=>by
  simp only [map,has,jN G H V,jN G H h4];cases k with
  | t=>rfl
  | p=>rfl
  | s=>simp at J;simp [mY G J.1 H,mY G J.2 H]
  | m=>simp at J;simp [mY G J.1 H,mY G J.2 H]
  | r=>simp at J;simp [mY G J.1 H,mY G J.2 H]
 | sum ps n,⟨J,h2⟩=>by simp only [map,has,jN G H J,jN G H h2]
 | part o q n,⟨J,h2,V⟩=>by simp only [map,has,jN G H h2,jN G H V]
abbrev eE (f:Nat->Nat)(r:List Nat×Lv):List Nat×Lv:=(r.1.map f,r.2.map f)
abbrev LQ (D:Nat->Prop)(r:List Nat×Lv):Prop:=(∀x∈r.1,D x)/\r.2.Al D
theorem uR (J:∀x y,D x->D y->f x=f y->x=y){own:List Nat}{r:List Nat×Lv}(H:∀x∈own,D x)(hr:LQ D r):kept (own.map f) (eE f r)=eE f (kept own r)/\LQ D (kept own r):=by
 constructor
 ·unfold kept eE;refine Prod.ext ?_ rfl;simp only [<-PC,List.filter_map]
  congr 1
  refine QY λx G=>?_
  exact jN J ((OM.1 G).elim (H x) (hr.1 x)) hr.2
 ·refine⟨λx G=>?_,hr.2⟩;simp only [kept,QF,OM]at G;exact G.1.elim (H x) (hr.1 x)
theorem J0 (ps:Lv)(n:List Nat×Lv):spl (ps.map f) (eE f n)=eE f (spl ps n):=by
 unfold spl;cases ps with
 | nil=>rfl
 | thr=>rfl
 | sum=>rfl
 | part o q m=>
  cases m<;>simp [map,eE,fD]
theorem Md {ps:Lv}{n:List Nat×Lv}(h:ps.Al D)(G:LQ D n):LQ D (spl ps n):=by
 unfold spl;split
 ·exact G
 ·exact⟨λx H=>(OM.1 H).elim (h.1 x) (G.1 x),nS.2 ⟨h.2.1,G.2⟩⟩
 ·exact⟨G.1,h,G.2⟩
theorem J4 (o:List Nat)(q n:Lv):prt (o.map f) (q.map f) (n.map f)=(prt o q n).map f:=by
 unfold prt;cases q with
 | nil=>rfl
 | thr=>rfl
 | part=>rfl
 | sum ps m=>
  cases m<;>simp only [map]
  by_cases h:o.isEmpty=true
  ·have h':(o.map f).isEmpty=true:=by simpa using h
   rw [Pd h,Pd h',fD]
  ·have h':¬(o.map f).isEmpty=true:=by simpa using h
   rw [OW h,OW h'];simp [map]
theorem L0 {o:List Nat}{q n:Lv}(J:∀x∈o,D x)(H:q.Al D)(G:n.Al D):(prt o q n).Al D:=by
 unfold prt;split
 ·exact G
 ·split
  ·exact nS.2 ⟨H.1,G⟩
  ·exact⟨J,H,G⟩
 ·exact⟨J,H,G⟩
theorem kF (G:∀x y,D x->D y->f x=f y->x=y):∀{l:Lv},l.Al D->tid (l.map f)=eE f (tid l)/\LQ D (tid l)
 | nil,_=>⟨rfl,⟨λx h=>(by cases h),trivial⟩⟩
 | sum ps n,⟨H,h2⟩=>by
  obtain⟨J,a2⟩:=kF G H;obtain⟨b1,b2⟩:=kF G h2;simp only [map,tid];rw [J,b1];exact⟨J0 _ _,Md a2.2 b2⟩
 | part o q n,⟨H,h2,V⟩=>by
  obtain⟨J,a2⟩:=kF G h2;obtain⟨b1,b2⟩:=kF G V;obtain⟨c1,c2⟩:=uR G H a2;simp only [map,tid];rw [J,b1,c1];exact⟨Prod.ext rfl (J4 _ _ _),⟨λx h=>(by cases h),L0 c2.1 c2.2 b2.2⟩⟩
 | thr k a b o r n,⟨H,h2,V,h4⟩=>by
  obtain⟨J,a2⟩:=kF G V;obtain⟨b1,b2⟩:=kF G h4;obtain⟨c1,c2⟩:=uR G h2 a2;simp only [map,tid];rw [J,b1,c1];have W:(k= .m/\(if k= .t\/k= .p then a else f a)=(if k= .t\/k= .p then b else f b))↔(k= .m/\a=b):=by
   refine and_congr_right λZ=>?_
   subst Z;simp at H|-;exact⟨G a b H.1 H.2,λh=>by rw [h]⟩
  have e2:((eE f (kept o (tid r))).2.isNil)=(kept o (tid r)).2.isNil:=mE _ _;by_cases g1:k= .m/\a=b
  ·rw [Pd (W.2 g1),Pd g1];exact⟨by simp [eE,fD],⟨λx hx=>(OM.1 hx).elim (c2.1 x) (b2.1 x),nS.2 ⟨c2.2,b2.2⟩⟩⟩
  ·rw [OW λh=>g1 (W.1 h),OW g1,e2];split
   ·exact⟨rfl,b2⟩
   ·exact⟨rfl,⟨b2.1,⟨H,c2.1,c2.2,b2.2⟩⟩⟩
end
end Lv
theorem wV {α β:Type}(f:α->β):∀l:List α,perms (l.map f)=(perms l).map (List.map f)
 | []=>rfl
 | x::l=>by
  have hi:∀(x:α) (l:List α),ins (f x) (l.map f)=(ins x l).map (List.map f):=by
   intro x l
   induction l with
   | nil=>rfl
   | cons y l G=>simp only [Pe,ins,G,Qq];rfl
  simp only [Pe,perms,wV f l,RZ,List.map_flatMap]
  congr 1
  funext m
  exact hi x m
theorem Em {f:Nat->Nat}{ρ ρ':Rh}{x:Nat}:∀(π:List Nat) (ls:List UInt8) (ρ ρ':Rh),(∀y∈π,f x=f y->x=y)->ρ (f x)=ρ' x->asg (π.map f) ls ρ (f x)=asg π ls ρ' x
 | [],_,_,_,_,h=>by simpa [asg]using h
 | _::_,[],_,_,_,h=>by simpa [asg]using h
 | y::π,c::ls,ρ,ρ',hi,h=>by
  rw [Pe,asg,asg];refine Em (ρ:=ρ) (ρ':=ρ') π ls _ _ (λz G=>hi z (OU _ G)) ?_;unfold aI;by_cases e:x=y
  ·subst e;simp
  ·rw [OW e,OW λh'=>e (hi y (Pt ..) h'),h]
theorem oF {D:Nat->Prop}{f:Nat->Nat}(Z:∀x y,D x->D y->f x=f y->x=y){own:List Nat}{F G:Rh->Tk->List Tx}{H:Nat->Prop}(ho:∀x∈own,D x)(hH:∀x,H x->D x)
  (V:∀ρ ρ' tk,(∀x,H x->ρ (f x)=ρ' x)->F ρ tk=G ρ' tk) {ρ ρ':Rh} {tk:Tk} (h:∀x,H x->ρ (f x)=ρ' x):aU (own.map f) F ρ tk=aU own G ρ' tk:=by
 unfold aU;rw [V ρ ρ' tk h,wV,O3];split
 ·rfl
 ·show wrap _ (bN _)=wrap _ (bN _);rw [Qq]
  congr 2
  refine P1 λπ J=>?_
  show joinS 38 (a6 (F _ _))=_;rw [V _ (asg π (lets own.length tk) ρ') _ λx W=>Em (ρ:=ρ) (ρ':=ρ') π _ _ _ (λy hy e=>Z x y (hH x W) (ho y (((dc own π).1 J).subset hy)) e) (h x W)]
theorem iZ {D:Nat->Prop}{x:Nat}:∀{l:Lv},l.Al D->l.has x=true->D x
 | .nil,_,h=>by cases h
 | .thr k a b o r n,⟨G,h2,H,h4⟩,h=>by
  simp only [Lv.has,Qb]at h;rcases h with(h | h) | h
  ·cases k<;>simp at h G
   ·rcases h with rfl | rfl
    ·exact G.1
    ·exact G.2
   ·rcases h with rfl | rfl
    ·exact G.1
    ·exact G.2
   ·rcases h with rfl | rfl
    ·exact G.1
    ·exact G.2
  ·exact iZ H h
  ·exact iZ h4 h
 | .sum ps n,⟨G,h2⟩,h=>by
  simp only [Lv.has,Qb]at h;exact h.elim (iZ G) (iZ h2)
 | .part o q n,⟨G,h2,H⟩,h=>by
  simp only [Lv.has,Qb]at h;exact h.elim (iZ h2) (iZ H)
theorem kA {D:Nat->Prop}{f:Nat->Nat}(J:∀x y,D x->D y->f x=f y->x=y):∀{l:Lv},l.Al D->∀(ρ ρ':Rh) (tk:Tk),(∀x,l.has x=true->ρ (f x)=ρ' x)->thS (l.map f) ρ tk=thS l ρ' tk
 | .nil,_,_,_,_,_=>rfl
 | .thr k a b o r n,⟨V,h2,W,h4⟩,ρ,ρ',tk,h=>by
  have Z:thS (n.map f) ρ tk=thS n ρ' tk:=kA J h4 ρ ρ' tk λx G=>h x (by simp [Lv.has,G])
  have H:∀x,r.has x=true->ρ (f x)=ρ' x:=λx G=>h x (by simp [Lv.has,G])
  have hl:∀ρ ρ' tk,(∀x,r.has x=true->ρ (f x)=ρ' x)->aU (o.map f) (thS (r.map f)) ρ tk=aU o (thS r) ρ' tk:=λρ ρ' tk h=>
   oF J h2 (λx G=>iZ W G) (λρ ρ' tk=>kA J W ρ ρ' tk) h
  cases k with
  | s=>
   have ha:=h a (by simp [Lv.has]);have hb:=h b (by simp [Lv.has]);simp [Lv.map,thS,Z,hl ρ ρ' tk H,ha,hb]
  | m=>
   have ha:=h a (by simp [Lv.has]);have hb:=h b (by simp [Lv.has]);simp [Lv.map,thS,Z,hl ρ ρ' tk H,ha,hb]
  | t=>simp [Lv.map,thS,kText,Z,hl ρ ρ' tk H]
  | p=>simp [Lv.map,thS,kText,Z,hl ρ ρ' tk H]
  | r=>
   have ha:=h a (by simp [Lv.has]);simp at V;have hu:∀x,r.has x=true->aI ρ (f b) (iT tk) (f x)=aI ρ' b (iT tk) x:=λx G=>by
    unfold aI;by_cases e:x=b
    ·subst e;simp
    ·rw [OW e,OW λh'=>e (J x b (iZ W G) V.2 h')];exact H x G
   simp [Lv.map,thS,Z,hl _ _ _ hu,ha]
 | .sum ps n,⟨V,h2⟩,ρ,ρ',tk,h=>by
  simp only [Lv.map,thS,kA J V ρ ρ' tk λx G=>h x (by simp [Lv.has,G]),kA J h2 ρ ρ' tk λx G=>h x (by simp [Lv.has,G])]
 | .part o q n,⟨V,h2,W⟩,ρ,ρ',tk,h=>by
  simp only [Lv.map,thS,kA J W ρ ρ' tk λx G=>h x (by simp [Lv.has,G])];rw [oF J V (λx G=>iZ h2 G) (λρ ρ' tk=>kA J h2 ρ ρ' tk) λx G=>h x (by simp [Lv.has,G])]
theorem fp (f:Nat->Nat):∀(l:Lv) (tk:Tk),thBad (l.map f) tk=thBad l tk
 | .nil,_=>rfl
 | .thr k a b o r n,tk=>by
  have hr:thBad (r.map f)=thBad r:=funext λtk=>fp f r tk
  simp only [Lv.map,thBad,fp f n,Lv.mE,O3,hr]
 | .sum ps n,tk=>by simp only [Lv.map,thBad,fp f n,fp f ps]
 | .part o q n,tk=>by
  have hr:thBad (q.map f)=thBad q:=funext λtk=>fp f q tk
  simp only [Lv.map,thBad,fp f n,Lv.mE,O3,hr]
theorem ft (f:Nat->Nat):∀l:Lv,thAll (l.map f)=thAll l
 | .nil=>rfl
 | .thr k a b o r n=>by simp only [Lv.map,thAll,ft f n,ft f r,O3]
 | .sum ps n=>by simp only [Lv.map,thAll,ft f n,ft f ps]
 | .part o q n=>by simp only [Lv.map,thAll,ft f n,ft f q,O3]
theorem dP (f:Nat->Nat):∀l:Lv,ax (l.map f)=ax l
 | .nil=>rfl
 | .thr k a b o r n=>by simp only [Lv.map,ax,dP f n,dP f r,O3]
 | .sum ps n=>by simp only [Lv.map,ax,dP f n,dP f ps]
 | .part o q n=>by simp only [Lv.map,ax,dP f n,dP f q,O3]
def T.Al {A:Type}(D:A->Prop):T A->Prop
 | .nil=>True
 | .snd a b p=>D a/\D b/\p.Al D
 | .rcv a b p=>D a/\D b/\p.Al D
 | .mat a b p=>D a/\D b/\p.Al D
 | .tau p=>p.Al D
 | .rep p=>p.Al D
 | .sum p q=>p.Al D/\q.Al D
 | .par p q=>p.Al D/\q.Al D
 | .res x p=>D x/\p.Al D
theorem cI (f:Nat->Nat):∀u:U,flat (u.map f)=Lv.eE f (flat u)
 | .nil=>rfl
 | .snd a b p=>by simp [T.map,flat,cI f p,Lv.eE,Lv.map]
 | .rcv a b p=>by simp [T.map,flat,cI f p,Lv.eE,Lv.map]
 | .mat a b p=>by simp [T.map,flat,cI f p,Lv.eE,Lv.map]
 | .tau p=>by simp [T.map,flat,cI f p,Lv.eE,Lv.map]
 | .rep p=>by simp [T.map,flat,cI f p,Lv.eE,Lv.map]
 | .sum p q=>by simp [T.map,flat,cI f p,cI f q,Lv.eE,Lv.map]
 | .par p q=>by simp [T.map,flat,cI f p,cI f q,Lv.eE,Lv.fD]
 | .res x p=>by simp [T.map,flat,cI f p,Lv.eE]
theorem bP {D:Nat->Prop}:∀{u:U},u.Al D->Lv.LQ D (flat u)
 | .nil,_=>⟨λx h=>(by cases h),trivial⟩
 | .snd a b p,⟨G,h2,h⟩=>⟨λx h=>(by simp [flat]at h),⟨.inr (.inr ⟨G,h2⟩),(bP h).1,(bP h).2,trivial⟩⟩
 | .rcv a b p,⟨G,h2,h⟩=>⟨λx h=>(by simp [flat]at h),⟨.inr (.inr ⟨G,h2⟩),(bP h).1,(bP h).2,trivial⟩⟩
 | .mat a b p,⟨G,h2,h⟩=>⟨λx h=>(by simp [flat]at h),⟨.inr (.inr ⟨G,h2⟩),(bP h).1,(bP h).2,trivial⟩⟩
 | .tau p,h=>⟨λx h=>(by simp [flat]at h),⟨.inl rfl,(bP (u:=p) h).1,(bP (u:=p) h).2,trivial⟩⟩
 | .rep p,h=>⟨λx h=>(by simp [flat]at h),⟨.inr (.inl rfl),(bP (u:=p) h).1,(bP (u:=p) h).2,trivial⟩⟩
 | .sum p q,⟨G,h2⟩=>⟨λx h=>(by simp [flat]at h),⟨(bP G).1,(bP G).2,(bP h2).1,(bP h2).2,trivial⟩,trivial⟩
 | .par p q,⟨G,h2⟩=>⟨λx h=>by
   simp only [flat,OM]at h;exact h.elim ((bP G).1 x) ((bP h2).1 x),Lv.nS.2 ⟨(bP G).2,(bP h2).2⟩⟩
 | .res x p,⟨G,h⟩=>⟨λy H=>by
   simp only [flat,OY]at H;rcases H with rfl | H
   ·exact G
   ·exact(bP h).1 y H,(bP h).2⟩
theorem Gy {D:Nat->Prop}{f:Nat->Nat}(G:∀x y,D x->D y->f x=f y->x=y){u:U}(h:u.Al D):td (u.map f)=Lv.eE f (td u)/\Lv.LQ D (td u):=by
 unfold td Lv.tidy;have H:=bP h;obtain⟨h2,J⟩:=Lv.kF G H.2;rw [cI];show Lv.kept ((flat u).1.map f) (Lv.tid ((flat u).2.map f))=_/\_;rw [h2];exact Lv.uR G H.1 J
theorem LV {D:Nat->Prop}{f:Nat->Nat}(G:∀x y,D x->D y->f x=f y->x=y){u:U}(h:u.Al D)(ρ:Rh)(tk:Tk):LS (u.map f) ρ tk=LS u (λx=>ρ (f x)) tk:=by
 obtain⟨H,h2⟩:=Gy G h;unfold LS;rw [H];exact oF G h2.1 (λx J=>iZ h2.2 J) (λρ ρ' tk=>kA G h2.2 ρ ρ' tk) λx _=>rfl
theorem Hc {D:Nat->Prop}{f:Nat->Nat}(G:∀x y,D x->D y->f x=f y->x=y){u:U}(h:u.Al D):dC (u.map f)=dC u/\cN (u.map f)=cN u/\bn (u.map f)=bn u:=by
 obtain⟨H,h2⟩:=Gy G h;unfold dC cN bn;rw [H];have hr:thBad ((td u).2.map f)=thBad (td u).2:=funext λtk=>fp f _ tk
 simp [Lv.eE,Lv.mE,ft,dP,hr]
theorem yU (Q:U->Prop)(V:∀p q,Q (.sum p q)->Q p/\Q q)(W:∀p q,Q (.par p q)->Q p/\Q q)(hr:∀x p,Q (.res x p)->Q p)(hm:∀a b p,Q (.mat a b p)->Q p):∀u:U,Q u->∀t∈(ak u).2,Q t:=by
 intro u
 induction u with
 | nil=>intro _ t h;simp [ak]at h
 | snd=>intro q t h;simp [ak]at h;exact h▸q
 | rcv=>intro q t h;simp [ak]at h;exact h▸q
 | tau=>intro q t h;simp [ak]at h;exact h▸q
 | sum p q H J=>
  intro G t h;simp only [ak]at h;split at h
  ·exact J (V _ _ G).2 t h
  ·split at h
   ·exact H (V _ _ G).1 t h
   ·simp at h;exact h▸G
 | par p q H J=>
  intro G t h;simp only [ak,OM]at h;exact h.elim (H (W _ _ G).1 t) (J (W _ _ G).2 t)
 | res x p H=>intro G t h;exact H (hr _ _ G) t h
 | mat a b p H=>
  intro G t h;simp only [ak]at h;split at h
  ·exact H (hm _ _ _ G) t h
  ·split at h
   ·simp at h
   ·simp at h;exact h▸G
 | rep p H=>
  intro G t h;simp only [ak]at h;split at h
  ·simp at h
  ·simp at h;exact h▸G
theorem si (Q:U->Prop)(V:∀p q,Q (.sum p q)->Q p/\Q q)(W:∀p q,Q (.par p q)->Q p/\Q q)(hr:∀x p,Q (.res x p)->Q p)(hm:∀a b p,Q (.mat a b p)->Q p):∀u:U,Q u->∀t∈an u,Q t:=by
 intro u
 induction u with
 | nil=>intro _ t h;simp [an]at h
 | snd=>intro q t h;simp [an]at h;exact h▸q
 | rcv=>intro q t h;simp [an]at h;exact h▸q
 | tau=>intro q t h;simp [an]at h;exact h▸q
 | par p q H J=>
  intro G t h;simp only [an]at h;split at h
  ·exact J (W _ _ G).2 t h
  ·split at h
   ·exact H (W _ _ G).1 t h
   ·simp at h;exact h▸G
 | sum p q H J=>
  intro G t h;simp only [an,OM]at h;exact h.elim (H (V _ _ G).1 t) (J (V _ _ G).2 t)
 | res x p H=>
  intro G t h;simp only [an]at h;split at h
  ·simp at h;exact h▸G
  ·exact H (hr _ _ G) t h
 | mat a b p H=>
  intro G t h;simp only [an]at h;split at h
  ·exact H (hm _ _ _ G) t h
  ·split at h
   ·simp at h
   ·simp at h;exact h▸G
 | rep p H=>
  intro G t h;simp only [an]at h;split at h
  ·simp at h
  ·simp at h;exact h▸G
theorem G9 {u:U}(h:Uq u):∀t∈(ak u).2,Uq t:=
 yU Uq (λ _ _ h=>⟨h.eD,h.dV⟩) (λ _ _ h=>⟨h.gB,h.fL⟩) (λ _ _ h=>h.res) (λ _ _ _ h=>h.mat) u h
theorem xW {u:U}(h:Uq u):∀t∈an u,Uq t:=
 si Uq (λ _ _ h=>⟨h.eD,h.dV⟩) (λ _ _ h=>⟨h.gB,h.fL⟩) (λ _ _ h=>h.res) (λ _ _ _ h=>h.mat) u h
theorem CV (u:U):∀t∈(ak u).2,t.size<=u.size:=
 yU (λt=>t.size<=u.size) (λ _ _ h=>by simp only [T.size]at h;omega) (λ _ _ h=>by simp only [T.size]at h;omega) (λ _ _ h=>by simp only [T.size]at h;omega) (λ _ _ _ h=>by simp only [T.size]at h;omega) u (OL _)
theorem mS (u:U):∀t∈an u,t.size<=u.size:=
 si (λt=>t.size<=u.size) (λ _ _ h=>by simp only [T.size]at h;omega) (λ _ _ h=>by simp only [T.size]at h;omega) (λ _ _ h=>by simp only [T.size]at h;omega) (λ _ _ _ h=>by simp only [T.size]at h;omega) u (OL _)
theorem Ep (u:U):∀t∈(ak u).2,∀x∈BV t,x∈BV u:=
 yU (λt=>∀x∈BV t,x∈BV u) (λ _ _ h=>⟨λx G=>h x (Pf _ G),λx G=>h x (O9 _ G)⟩)
  (λ _ _ h=>⟨λx G=>h x (Pf _ G),λx G=>h x (O9 _ G)⟩) (λ _ _ h=>λx G=>h x (OU _ G)) (λ _ _ _ h=>h) u (λx h=>h)
theorem BF (u:U):∀t∈an u,∀x∈BV t,x∈BV u:=
 si (λt=>∀x∈BV t,x∈BV u) (λ _ _ h=>⟨λx G=>h x (Pf _ G),λx G=>h x (O9 _ G)⟩)
  (λ _ _ h=>⟨λx G=>h x (Pf _ G),λx G=>h x (O9 _ G)⟩) (λ _ _ h=>λx G=>h x (OU _ G)) (λ _ _ _ h=>h) u (λx h=>h)
theorem mX:∀(u:U),Uq u->∀y,u.Us y↔∃t∈an u,t.Us y:=by
 intro u
 induction u with
 | nil=>intro _ y;simp [an,T.Us]
 | snd=>intro _ y;simp [an]
 | rcv=>intro _ y;simp [an]
 | tau=>intro _ y;simp [an]
 | sum p q G H=>
  intro h y;have:(T.sum p q).Us y↔p.Us y\/q.Us y:=RG;rw [this,G h.eD y,H h.dV y];simp only [an,OM];constructor
  ·rintro(⟨t,J,h2⟩ | ⟨t,J,h2⟩)
   ·exact⟨t,.inl J,h2⟩
   ·exact⟨t,.inr J,h2⟩
  ·rintro⟨t,J | J,h2⟩
   ·exact .inl ⟨t,J,h2⟩
   ·exact .inr ⟨t,J,h2⟩
 | par p q G H=>
  intro h y;have e:(T.par p q).Us y↔p.Us y\/q.Us y:=RG;simp only [an];split
  ·rename_i hd;rw [e,<-H h.fL y];exact⟨λk=>k.resolve_left (T.bL hd),.inr⟩
  ·split
   ·rename_i hd;rw [e,<-G h.gB y];exact⟨λk=>k.resolve_right (T.bL hd),.inl⟩
   ·simp
 | res x p G=>
  intro h y;simp only [an];split
  ·simp
  ·rename_i V;rw [<-G h.res y];have W:¬p.Us x:=λk=>V ((gu p x h.gz).2 k)
   exact⟨λk=>k.2,λk=>⟨λe=>W (e▸k),k⟩⟩
 | mat a b p G=>
  intro h y;simp only [an];split
  ·rename_i e;rw [<-G h.mat y];simp [T.Us,e]
  ·rename_i e;split
   ·rename_i hd;simp [T.Us,e,hd]
   ·simp
 | rep p G=>
  intro h y;simp only [an];split
  ·rename_i hd;simp [T.Us];exact T.bL hd
  ·simp
def Lv.fh (x:Nat):Lv->Prop
 | nil=>False
 | thr k a b o r n=>((k= .s\/k= .m)/\(x=a\/x=b))\/(k= .r/\x=a)\/(x∉o/\¬(k= .r/\x=b)/\r.fh x)\/n.fh x
 | sum ps n=>ps.fh x\/n.fh x
 | part o q n=>(x∉o/\q.fh x)\/n.fh x
theorem CG:∀(π:List Nat) (ls:List UInt8) (ρ ρ':Rh) (x:Nat),x∈π->π.length=ls.length->asg π ls ρ x=asg π ls ρ' x
 | [],_,_,_,_,h,_=>by cases h
 | _::_,[],_,_,_,_,h=>by cases h
 | y::π,c::ls,ρ,ρ',x,h,H=>by
  rw [asg,asg];by_cases G:x∈π
  ·exact CG π ls _ _ x G (by simpa using H)
  ·have e:x=y:=(OY.1 h).resolve_right G;subst e;exact qe π ls _ _ x (by simp [aI])
theorem eA {own:List Nat}{f:Rh->Tk->List Tx}{H:Nat->Prop}(he:∀ρ ρ' tk,(f ρ tk).isEmpty=(f ρ' tk).isEmpty)(V:∀ρ ρ' tk,(∀x,H x->ρ x=ρ' x)->f ρ tk=f ρ' tk)
  {ρ ρ':Rh} {tk:Tk} (h:∀x,x∉own->H x->ρ x=ρ' x):aU own f ρ tk=aU own f ρ' tk:=by
 unfold aU;rw [he ρ ρ' tk];split
 ·rfl
 ·show wrap _ (bN _)=wrap _ (bN _)
  congr 2
  refine P1 λπ G=>?_
  have J:=(dc own π).1 G;rw [V _ (asg π (lets own.length tk) ρ') _ λx W=>?_];by_cases hm:x∈own
  ·exact CG π _ _ _ x (J.symm.subset hm) (by rw [fQ,J.length_eq])
  ·exact qe π _ _ _ x (h x hm W)
theorem iK (l:Lv)(ρ ρ':Rh)(tk:Tk):(thS l ρ tk).isEmpty=(thS l ρ' tk).isEmpty:=by
 rw [PH,RX,RX,<-List.length_eq_zero_iff,<-List.length_eq_zero_iff,bG,bG]
theorem ux:∀(l:Lv) (ρ ρ':Rh) (tk:Tk),(∀x,l.fh x->ρ x=ρ' x)->thS l ρ tk=thS l ρ' tk:=by
 intro l
 induction l with
 | nil=>intro _ _ _ _;rfl
 | thr k a b o r n J V=>
  intro ρ ρ' tk h;have Z:thS n ρ tk=thS n ρ' tk:=V ρ ρ' tk λx H=>h x (.inr (.inr (.inr H)))
  cases k with
  | r=>
   have ha:=h a (.inr (.inl ⟨rfl,rfl⟩));simp only [thS,ha,Z];rw [eA (ρ:=aI ρ b (iT tk)) (ρ':=aI ρ' b (iT tk)) (iK r) J λx H G=>?_];unfold aI;split
   ·rfl
   ·rename_i e;exact h x (.inr (.inr (.inl ⟨H,λW=>e W.2,G⟩)))
  | s=>
   have ha:=h a (.inl ⟨.inl rfl,.inl rfl⟩);have hb:=h b (.inl ⟨.inl rfl,.inr rfl⟩);simp only [thS,ha,hb,Z];rw [eA (ρ:=ρ) (ρ':=ρ') (iK r) J λx H G=>h x (.inr (.inr (.inl ⟨H,(λW=>by cases W.1),G⟩)))]
  | m=>
   have ha:=h a (.inl ⟨.inr rfl,.inl rfl⟩);have hb:=h b (.inl ⟨.inr rfl,.inr rfl⟩);simp only [thS,ha,hb,Z];rw [eA (ρ:=ρ) (ρ':=ρ') (iK r) J λx H G=>h x (.inr (.inr (.inl ⟨H,(λW=>by cases W.1),G⟩)))]
  | t=>
   simp only [thS,kText,Z];rw [eA (ρ:=ρ) (ρ':=ρ') (iK r) J λx H G=>h x (.inr (.inr (.inl ⟨H,(λW=>by cases W.1),G⟩)))]
  | p=>
   simp only [thS,kText,Z];rw [eA (ρ:=ρ) (ρ':=ρ') (iK r) J λx H G=>h x (.inr (.inr (.inl ⟨H,(λW=>by cases W.1),G⟩)))]
 | sum ps n α V=>
  intro ρ ρ' tk h;simp only [thS,α ρ ρ' tk λx H=>h x (.inl H),V ρ ρ' tk λx H=>h x (.inr H)]
 | part o q n β V=>
  intro ρ ρ' tk h;simp only [thS,V ρ ρ' tk λx H=>h x (.inr H)];rw [eA (ρ:=ρ) (ρ':=ρ') (iK q) β λx H G=>h x (.inl ⟨H,G⟩)]
theorem xp (x:Nat):∀l m:Lv,(l.app m).fh x↔l.fh x\/m.fh x
 | .nil,m=>by simp [Lv.app,Lv.fh]
 | .thr k a b o r n,m=>by simp only [Lv.app,Lv.fh,xp x n m,RA]
 | .sum ps n,m=>by simp only [Lv.app,Lv.fh,xp x n m,RA]
 | .part o q n,m=>by simp only [Lv.app,Lv.fh,xp x n m,RA]
theorem KT (x:Nat):∀l:List U,(tl l).fh x↔∃t∈l,(tl [t]).fh x
 | []=>by simp [tl,Lv.fh]
 | u::l=>by
  have:tl (u::l)=(tl [u]).app (tl l):=ik [u] l;rw [this,xp,KT x l];simp
theorem K6 (x:Nat):∀l:List U,(tp l).fh x↔∃t∈l,x∉(td t).1/\(td t).2.fh x
 | []=>by simp [tp,Lv.fh]
 | u::l=>by simp [tp,Lv.fh,K6 x l]
theorem uz:∀(u:U),∀t∈(ak u).2,t.dH/\t.dead=false:=by
 intro u
 induction u with
 | nil=>intro t h;simp [ak]at h
 | snd=>intro t h;simp [ak]at h;subst h;exact⟨trivial,rfl⟩
 | rcv=>intro t h;simp [ak]at h;subst h;exact⟨trivial,rfl⟩
 | tau=>intro t h;simp [ak]at h;subst h;exact⟨trivial,rfl⟩
 | sum p q G H=>
  intro t h;simp only [ak]at h;split at h
  ·exact H t h
  ·rename_i J;split at h
   ·exact G t h
   ·rename_i h2;simp at h;subst h;simp at J h2;exact⟨⟨J,h2⟩,by simp [T.dead,J]⟩
 | par p q G H=>
  intro t h;simp only [ak,OM]at h;exact h.elim (G t) (H t)
 | res x p G=>intro t h;exact G t h
 | mat a b p G=>
  intro t h;simp only [ak]at h;split at h
  ·exact G t h
  ·rename_i J;split at h
   ·simp at h
   ·rename_i h2;simp at h;subst h;simp at h2;exact⟨J,h2⟩
 | rep p G=>
  intro t h;simp only [ak]at h;split at h
  ·simp at h
  ·rename_i h2;simp at h;subst h;simp at h2;exact⟨trivial,h2⟩
theorem Ke (u:U)(a b:Nat)(p:U)(h:T.mat a b p∈(ak u).2):a≠b/\p.dead=false:=uz u _ h
theorem ID:∀(n:Nat) (u:U),u.size<=n->Uq u->∀x,(td u).2.fh x->x∉(td u).1->u.Us x:=by
 intro n
 induction n with
 | zero=>intro u h;cases u<;>simp [T.size]at h
 | succ n V=>
  intro u hn hu x H hx;obtain⟨h1,h2,_⟩:=gw u hu;rw [h1,KT]at H;obtain⟨t,ht,H⟩:=H;have hx:x∉(ak u).1:=λh=>hx (h2.symm.subset h)
  have hle:=CV u t ht;have G:=G9 hu t ht;have W:=xB u t ht;have key:t.Us x:=by
   cases t with
   | nil=>cases W
   | par=>cases W
   | res=>cases W
   | snd a b p=>
    simp only [T.size]at hle;simp only [tl,Lv.fh,reduceCtorEq,false_and,true_or,QN,QZ,R7,RH]at H;rcases H with(h | h) | ⟨h,h'⟩
    ·exact .inl h
    ·exact .inr (.inl h)
    ·exact .inr (.inr (V p (by omega) G.snd x h' h))
   | rcv a b p=>
    simp only [T.size]at hle;simp only [tl,Lv.fh,reduceCtorEq,false_and,or_self,QN,QZ,R7]at H;rcases H with h | ⟨h,α,h'⟩
    ·exact .inl h
    ·exact .inr ⟨α,V p (by omega) G.rcv x h' h⟩
   | tau p=>
    simp only [T.size]at hle;simp only [tl,Lv.fh,reduceCtorEq,false_and,or_self,QN,QZ,R7,RH]at H;exact V p (by omega) G.tau x H.2 H.1
   | rep p=>
    simp only [T.size]at hle;simp only [tl,Lv.fh,reduceCtorEq,false_and,or_self,QN,QZ,R7,RH]at H;exact V p (by omega) G.rep x H.2 H.1
   | mat a b p=>
    simp only [T.size]at hle;obtain⟨Z,hd⟩:a≠b/\p.dead=false:=Ke u a b p ht;simp only [tl,Lv.fh,reduceCtorEq,false_and,or_true,QN,QZ,R7,RH]at H;rcases H with(h | h) | ⟨h,h'⟩
    ·exact .inr ⟨Z,hd,.inl h⟩
    ·exact .inr ⟨Z,hd,.inr (.inl h)⟩
    ·exact .inr ⟨Z,hd,.inr (.inr (V p (by omega) G.mat x h' h))⟩
   | sum p q=>
    simp only [T.size]at hle;simp only [tl,Lv.fh,QZ]at H;rw [K6]at H;obtain⟨v,J,k1,k2⟩:=H;rcases OM.1 J with J | J
    ·have :=mS p v J;exact .inl ((mX p G.eD x).2 ⟨v,J,V v (by omega) (xW G.eD v J) x k2 k1⟩)
    ·have :=mS q v J;exact .inr ((mX q G.dV x).2 ⟨v,J,V v (by omega) (xW G.dV v J) x k2 k1⟩)
  exact(lv u hu t ht x key).resolve_right hx
theorem MR {u:U}(hu:Uq u){ρ ρ':Rh}(tk:Tk)(h:∀y,u.Us y->ρ y=ρ' y):LS u ρ tk=LS u ρ' tk:=
 eA (iK _) (ux _) λx G H=>h x (ID _ u (OL _) hu x H G)
theorem BH:∀(l m:List Nat),l.Nodup->l.length=m.length->∃f:Nat->Nat,m=l.map f
 | [],[],_,_=>⟨id,rfl⟩
 | [],_::_,_,h=>by cases h
 | _::_,[],_,h=>by cases h
 | x::l,y::m,G,h=>by
  have G:=PJ.1 G;obtain⟨f,H⟩:=BH l m G.2 (by simpa using h);refine⟨aI f x y,?_⟩;rw [Pe,H]
  congr 1
  ·simp [aI]
  ·exact P1 λz J=>by
    unfold aI;rw [OW λe:z=x=>G.1 (e▸J)]
theorem AE.Di:∀{u V:U} {σ J:Nat->Nat},AE σ u J V->(BV u).length=(BV V).length:=by
 intro u
 induction u<;>intro V σ J h<;>cases V<;>simp only [AE]at h<;>simp only [BV,OA,OG]
 case snd.snd G _ _ _=>exact G h.2.2
 case mat.mat G _ _ _=>exact G h.2.2
 case rcv.rcv G _ _ _=>rw [G (h.2 0)]
 case res.res G _ _=>rw [G (h 0)]
 case tau.tau G _=>exact G h
 case rep.rep G _=>exact G h
 case sum.sum G H _ _=>rw [G h.1,H h.2]
 case par.par G H _ _=>rw [G h.1,H h.2]
theorem AE.Li {f:Nat->Nat}:∀{u u':U} {σ β:Nat->Nat},AE σ u β u'->Uq u'->(∀y,u.Fr y->u'.Fr (f y)/\β (f y)=σ y)->(∀y z,u'.Fr y->u'.Fr z->β y=β z->y=z)->BV u'=(BV u).map f->u'=u.map f:=by
 intro u
 induction u<;>intro u' σ β h hu V hi hb<;>cases u'<;>simp only [AE]at h<;>simp only [T.map]
 case snd.snd a b p ih c d q=>
  have e1:c=f a:=hi _ _ (.inl rfl) (V a (.inl rfl)).1 (by rw [(V a (.inl rfl)).2,h.1]);have e2:d=f b:=hi _ _ (.inr (.inl rfl)) (V b (.inr (.inl rfl))).1 (by rw [(V b (.inr (.inl rfl))).2,h.2.1]);rw [<-e1,<-e2];rw [ih h.2.2 hu.snd (λy G=>?_) (λy z G hz=>hi y z (.inr (.inr G)) (.inr (.inr hz))) hb];obtain⟨H,J,h2⟩:=h.2.2.free y G;have :=V y (.inr (.inr G));have e:H=f y:=hi _ _ (.inr (.inr J)) this.1 (by rw [h2,this.2]);exact⟨e▸J,this.2⟩
 case mat.mat a b p ih c d q=>
  have e1:c=f a:=hi _ _ (.inl rfl) (V a (.inl rfl)).1 (by rw [(V a (.inl rfl)).2,h.1]);have e2:d=f b:=hi _ _ (.inr (.inl rfl)) (V b (.inr (.inl rfl))).1 (by rw [(V b (.inr (.inl rfl))).2,h.2.1]);rw [<-e1,<-e2];rw [ih h.2.2 hu.mat (λy G=>?_) (λy z G hz=>hi y z (.inr (.inr G)) (.inr (.inr hz))) hb];obtain⟨H,J,h2⟩:=h.2.2.free y G;have :=V y (.inr (.inr G));have e:H=f y:=hi _ _ (.inr (.inr J)) this.1 (by rw [h2,this.2]);exact⟨e▸J,this.2⟩
 case rcv.rcv a x p ih c z q=>
  simp only [BV,Pe,Px]at hb;have e1:c=f a:=hi _ _ (.inl rfl) (V a (.inl rfl)).1 (by rw [(V a (.inl rfl)).2,h.1]);rw [<-e1,<-hb.1];obtain⟨v,J,h2⟩:=cw p q σ β;have hz:¬(T.rcv c z q).Fr z:=hu.nf z (by simp [BV]);rw [ih (h.2 v) hu.rcv (λy G=>?_) (λy H G δ e=>?_) hb.2]
  ·obtain⟨H,k1,Z⟩:=(h.2 v).free y G;by_cases e:y=x
   ·subst e;rw [dg]at Z;have:H=z:=PE λγ=>by
     rw [bR _ _ γ]at Z;exact h2 H k1 Z
    subst this;rw [<-hb.1,dg,dg];exact⟨k1,rfl⟩
   ·have W:=V y (.inr ⟨e,G⟩);have γ:f y≠z:=λe'=>hz (e'▸W.1)
    rw [bR _ _ e]at Z|-;rw [bR _ _ γ];have α:H≠z:=λe'=>by
     rw [e',dg]at Z;exact J y G Z.symm
    rw [bR _ _ α]at Z;have e2:H=f y:=hi _ _ (.inr ⟨α,k1⟩) W.1 (by rw [Z,W.2]);exact⟨e2▸k1,W.2⟩
  ·by_cases g1:y=z<;>by_cases g2:H=z
   ·rw [g1,g2]
   ·rw [g1,dg,bR _ _ g2]at e;exact absurd e.symm (h2 H δ)
   ·rw [g2,dg,bR _ _ g1]at e;exact absurd e (h2 y G)
   ·rw [bR _ _ g1,bR _ _ g2]at e;exact hi y H (.inr ⟨g1,G⟩) (.inr ⟨g2,δ⟩) e
 case res.res x p ih z q=>
  simp only [BV,Pe,Px]at hb;rw [<-hb.1];obtain⟨v,J,h2⟩:=cw p q σ β;have hz:¬(T.res z q).Fr z:=hu.nf z (by simp [BV]);rw [ih (h v) hu.res (λy G=>?_) (λy H G δ e=>?_) hb.2]
  ·obtain⟨H,k1,Z⟩:=(h v).free y G;by_cases e:y=x
   ·subst e;rw [dg]at Z;have:H=z:=PE λγ=>by
     rw [bR _ _ γ]at Z;exact h2 H k1 Z
    subst this;rw [<-hb.1,dg,dg];exact⟨k1,rfl⟩
   ·have W:=V y ⟨e,G⟩;have γ:f y≠z:=λe'=>hz (e'▸W.1)
    rw [bR _ _ e]at Z|-;rw [bR _ _ γ];have α:H≠z:=λe'=>by
     rw [e',dg]at Z;exact J y G Z.symm
    rw [bR _ _ α]at Z;have e2:H=f y:=hi _ _ ⟨α,k1⟩ W.1 (by rw [Z,W.2]);exact⟨e2▸k1,W.2⟩
  ·by_cases g1:y=z<;>by_cases g2:H=z
   ·rw [g1,g2]
   ·rw [g1,dg,bR _ _ g2]at e;exact absurd e.symm (h2 H δ)
   ·rw [g2,dg,bR _ _ g1]at e;exact absurd e (h2 y G)
   ·rw [bR _ _ g1,bR _ _ g2]at e;exact hi y H ⟨g1,G⟩ ⟨g2,δ⟩ e
 case tau.tau p ih q=>rw [ih h hu.tau V hi hb]
 case rep.rep p ih q=>rw [ih h hu.rep V hi hb]
 case sum.sum p p' ih ε q q'=>
  simp only [BV,PC]at hb;obtain⟨b1,b2⟩:=List.append_inj hb (by rw [O3,h.1.Di]);rw [ih h.1 hu.eD (λy G=>?_) (λy z G hz=>hi y z (.inl G) (.inl hz)) b1,ε h.2 hu.dV (λy G=>?_) (λy z G hz=>hi y z (.inr G) (.inr hz)) b2]
  ·obtain⟨H,J,h2⟩:=h.2.free y G;have :=V y (.inr G);have e:H=f y:=hi _ _ (.inr J) this.1 (by rw [h2,this.2]);exact⟨e▸J,this.2⟩
  ·obtain⟨H,J,h2⟩:=h.1.free y G;have :=V y (.inl G);have e:H=f y:=hi _ _ (.inl J) this.1 (by rw [h2,this.2]);exact⟨e▸J,this.2⟩
 case par.par p p' ih ε q q'=>
  simp only [BV,PC]at hb;obtain⟨b1,b2⟩:=List.append_inj hb (by rw [O3,h.1.Di]);rw [ih h.1 hu.gB (λy G=>?_) (λy z G hz=>hi y z (.inl G) (.inl hz)) b1,ε h.2 hu.fL (λy G=>?_) (λy z G hz=>hi y z (.inr G) (.inr hz)) b2]
  ·obtain⟨H,J,h2⟩:=h.2.free y G;have :=V y (.inr G);have e:H=f y:=hi _ _ (.inr J) this.1 (by rw [h2,this.2]);exact⟨e▸J,this.2⟩
  ·obtain⟨H,J,h2⟩:=h.1.free y G;have :=V y (.inl G);have e:H=f y:=hi _ _ (.inl J) this.1 (by rw [h2,this.2]);exact⟨e▸J,this.2⟩
theorem T.lR {D:Nat->Prop}:∀{u:U},(∀x,u.Fr x->D x)->(∀x∈BV u,D x)->u.Al D
 | .nil,_,_=>trivial
 | .snd a b p,h,k=>⟨h a (.inl rfl),h b (.inr (.inl rfl)),T.lR (λx G=>h x (.inr (.inr G))) k⟩
 | .mat a b p,h,k=>⟨h a (.inl rfl),h b (.inr (.inl rfl)),T.lR (λx G=>h x (.inr (.inr G))) k⟩
 | .rcv a y p,h,k=>⟨h a (.inl rfl),k y (by simp [BV]),T.lR (λx G=>by
   by_cases e:x=y
   ·subst e;exact k x (by simp [BV])
   ·exact h x (.inr ⟨e,G⟩)) λx G=>k x (by simp [BV,G])⟩
 | .res y p,h,k=>⟨k y (by simp [BV]),T.lR (λx G=>by
   by_cases e:x=y
   ·subst e;exact k x (by simp [BV])
   ·exact h x ⟨e,G⟩) λx G=>k x (by simp [BV,G])⟩
 | .tau p,h,k=>T.lR (u:=p) h k
 | .rep p,h,k=>T.lR (u:=p) h k
 | .sum p q,h,k=>⟨T.lR (λx G=>h x (.inl G)) λx G=>k x (Pf _ G),T.lR (λx G=>h x (.inr G)) λx G=>k x (O9 _ G)⟩
 | .par p q,h,k=>⟨T.lR (λx G=>h x (.inl G)) λx G=>k x (Pf _ G),T.lR (λx G=>h x (.inr G)) λx G=>k x (O9 _ G)⟩
theorem nK {f:Nat->Nat}:∀{l:List Nat},(l.map f).Nodup->∀x∈l,∀y∈l,f x=f y->x=y
 | [],_,_,h,_,_,_=>by cases h
 | z::l,H,x,J,y,V,e=>by
  rw [Pe,PJ]at H;rcases OY.1 J with G | G<;>rcases OY.1 V with h2 | h2
  ·rw [G,h2]
  ·exact absurd (Pp.2 ⟨y,h2,by rw [<-e,G]⟩) H.1
  ·exact absurd (Pp.2 ⟨x,G,by rw [e,h2]⟩) H.1
  ·exact nK H.2 x G y h2 e
theorem AE.LU {u V:U}{σ J:Nat->Nat}(h:AE σ u J V)(hu:Uq u)(W:Uq V)(hi:∀y z,u.Fr y->u.Fr z->σ y=σ z->y=z)(α:∀y z,V.Fr y->V.Fr z->J y=J z->y=z):
  ∃(f:Nat->Nat) (D:Nat->Prop),V=u.map f/\u.Al D/\(∀x y,D x->D y->f x=f y->x=y)/\∀y,u.Fr y->V.Fr (f y)/\J (f y)=σ y:=by
 obtain⟨g,hg⟩:=BH (BV u) (BV V) hu.nd h.Di;have Z:∀y,∃y',u.Fr y->V.Fr y'/\J y'=σ y:=λy=>by
  by_cases H:u.Fr y
  ·obtain⟨y',h1,h2⟩:=h.free y H;exact⟨y',λ _=>⟨h1,h2⟩⟩
  ·exact⟨0,λk=>absurd k H⟩
 let f:Nat->Nat:=λy=>if u.Fr y then Classical.choose (Z y)else g y
 have f1:∀y,u.Fr y->V.Fr (f y)/\J (f y)=σ y:=λy H=>by
  have:f y=Classical.choose (Z y):=Pd H;rw [this];exact Classical.choose_spec (Z y) H
 have f2:BV V=(BV u).map f:=by
  rw [hg];exact P1 λx G=>(OW (hu.nf x G)).symm
 refine⟨f,λx=>u.Fr x\/x∈BV u,h.Li W f1 α f2,T.lR (λx G=> .inl G) (λx G=> .inr G),?_,f1⟩;intro x y G H e;have hb:∀x∈BV u,f x∈BV V:=λx G=>by rw [f2];exact Qj G
 rcases G with G | G<;>rcases H with H | H
 ·exact hi x y G H (by rw [<-(f1 x G).2,<-(f1 y H).2,e])
 ·exact absurd (e▸(f1 x G).1) (W.nf _ (hb y H))
 ·exact absurd (e▸(f1 y H).1) (λk=>W.nf _ (hb x G) (by rw [e];exact(f1 y H).1))
 ·exact nK (f2▸W.nd) x G y H e
theorem K7 {u G:U}{σ H:Nat->Nat}(h:AE σ u H G)(hu:Uq u)(J:Uq G)(hi:∀y z,u.Fr y->u.Fr z->σ y=σ z->y=z)(V:∀y z,G.Fr y->G.Fr z->H y=H z->y=z)
  {ρ ρ':Rh} (W:∀y Z,u.Us y->G.Fr Z->σ y=H Z->ρ y=ρ' Z) (tk:Tk):LS u ρ tk=LS G ρ' tk/\dC u=dC G/\cN u=cN G/\bn u=bn G:=by
 obtain⟨f,D,rfl,h1,h2,h3⟩:=h.LU hu J hi V;obtain⟨k1,k2,k3⟩:=Hc h2 h1;refine⟨?_,k1.symm,k2.symm,k3.symm⟩;rw [LV h2 h1];exact MR hu tk λy hy=>W y (f y) hy (h3 y (T.bI hy)).1 (h3 y (T.bI hy)).2.symm
namespace T
section
variable {A B:Type}
def tg:T A->Nat
 | nil=>0 | snd .. =>1 | rcv .. =>2 | tau .. =>3 | sum .. =>4 | par .. =>5 | res .. =>6 | mat .. =>7 | rep .. =>8
def gp:T A->Bool
 | nil=>true | snd .. =>true | rcv .. =>true | tau .. =>true | sum .. =>true
 | par .. =>false | res .. =>false | mat .. =>false | rep .. =>false
def isR:T A->Bool
 | rcv .. =>true
 | _=>false
def smp:T A->Bool
 | nil=>true | snd _ _ p=>p.smp | rcv _ _ p=>p.smp | tau p=>p.smp | sum p q=>(p.gp&&q.gp)&&(p.smp&&q.smp) | par p q=>p.smp&&q.smp
 | res _ p=>p.smp | mat _ _ p=>p.smp | rep p=>p.isR&&p.smp
theorem Ag {t:T A}:t.gp=decide (t.tg< 5):=by cases t<;>rfl
theorem IL {t:T A}:t.isS=decide (t.tg=4):=by cases t<;>rfl
theorem zC {t:T A}:t.isR=decide (t.tg=2):=by cases t<;>rfl
theorem HT [DecidableEq A][DecidableEq B]{p:T A}{q:T B}{ρ:A->Nat}{σ:B->Nat}(h:AE ρ p σ q):p.tg=q.tg:=by
 cases p<;>cases q<;>first | exact h.elim | rfl
theorem tv [DecidableEq A][DecidableEq B]{p:T A}{q:T B}{ρ:A->Nat}{σ:B->Nat}(h:AE ρ p σ q):p.smp=q.smp:=by
 induction p generalizing q ρ σ<;>cases q<;>simp only [AE]at h<;>simp only [smp]
 case snd.snd G _ _ _=>exact G h.2.2
 case mat.mat G _ _ _=>exact G h.2.2
 case rcv.rcv G _ _ _=>exact G (h.2 0)
 case res.res G _ _=>exact G (h 0)
 case tau.tau G _=>exact G h
 case rep.rep G _=>rw [G h,zC,zC,HT h]
 case sum.sum G H _ _=>rw [G h.1,H h.2,Ag,Ag,Ag,Ag,HT h.1,HT h.2]
 case par.par G H _ _=>rw [G h.1,H h.2]
end
end T
structure NZ (t w:U):Prop where
 th:w.th=true
 nr:w.Nr
 uq:Uq w
 bv:∀x∈BV w,x∈BV t
 us:∀x,w.Us x↔t.Us x
 tx:∀ρ tk,thU w ρ tk=thU t ρ tk
 bad:∀tk,thBad (tl [w]) tk=thBad (tl [t]) tk
 all:thAll (tl [w])=thAll (tl [t])
 most:ax (tl [w])=ax (tl [t])
 smp:t.smp=true->w.smp=true
 tg:w.tg=t.tg
structure N8 (u v:U):Prop where
 nr:v.Nr
 uq:Uq v
 bv:∀x∈BV v,x∈BV u
 us:∀x,v.Us x↔u.Us x
 ls:∀ρ tk,LS v ρ tk=LS u ρ tk
 bad:∀tk,dC v tk=dC u tk
 all:cN v=cN u
 most:bn v=bn u
 dead:v.dead=u.dead
 smp:u.smp=true->v.smp=true
 tg:∀t,ak u=([],[t])->v.tg=t.tg
 isS:(∀p q,ak u≠([],[T.sum p q]))->v.isS=false
theorem qY {t w:U}(G:(BV w).Nodup)(nr:w.Nr)(hb:∀x∈BV w,x∈BV t)(hu:∀x,w.Us x->t.Us x)(H:Uq t):Uq w:=
 ⟨G,λx J V=>H.nf x (hb x J) (T.bI (hu x (nr.iH V)))⟩
theorem AE.K8 {p:P}{q:U}{ρ:Rh}{y:Nat}{c:UInt8}(hc:∀z,q.Fr z->z≠y->ρ z≠c)(h:AE UInt8.toNat p (λz=>(aI ρ y c z).toNat) q)(v:Nat):AE (aI UInt8.toNat c v) p (aI (λz=>(ρ z).toNat) y v) q:=by
 refine(h.map λn=>if n=c.toNat then v else n).congr (λx _=>?_) λz G=>?_
 ·unfold aI;by_cases e:x=c
  ·subst e;simp
  ·rw [OW e,OW λh=>e (O8.1 h)]
 ·unfold aI;by_cases e:z=y
  ·subst e;simp
  ·simp only [OW e];rw [OW λh=>hc z G e (O8.1 h)]
theorem bV:∀(π:List Nat) (ls:List UInt8) (ρ:Rh) (x:Nat),x∉π->asg π ls ρ x=ρ x
 | [],_,_,_,_=>by simp [asg]
 | _::_,[],_,_,_=>by simp [asg]
 | y::π,c::ls,ρ,x,h=>by
  simp only [OY,Sf]at h;rw [asg,bV π ls _ x h.2];unfold aI;rw [OW h.1]
theorem fK:∀(π:List Nat) (ls:List UInt8) (ρ:Rh) (x:Nat),x∈π->π.length=ls.length->asg π ls ρ x∈ls
 | [],_,_,_,h,_=>by cases h
 | _::_,[],_,_,_,h=>by cases h
 | y::π,c::ls,ρ,x,h,H=>by
  rw [asg];by_cases G:x∈π
  ·exact OU _ (fK π ls _ x G (by simpa using H))
  ·have e:x=y:=(OY.1 h).resolve_right G;subst e;rw [bV π ls _ x G];simp [aI]
theorem zj:∀(π:List Nat) (ls:List UInt8) (ρ:Rh) (x z:Nat),x∈π->z∈π->π.length=ls.length->ls.Nodup->asg π ls ρ x=asg π ls ρ z->x=z
 | [],_,_,_,_,h,_,_,_,_=>by cases h
 | _::_,[],_,_,_,_,_,h,_,_=>by cases h
 | y::π,c::ls,ρ,x,z,Z,hz,J,G,e=>by
  have G:=PJ.1 G;have V:π.length=ls.length:=by simpa using J
  rw [asg]at e;by_cases H:x∈π<;>by_cases h2:z∈π
  ·exact zj π ls _ x z H h2 V G.2 e
  ·have W:z=y:=(OY.1 hz).resolve_right h2;subst W;rw [bV π ls _ z h2]at e;have :=fK π ls (aI ρ z c) x H (by simpa using J);rw [e]at this;exact absurd (by simpa [aI]using this) G.1
  ·have W:x=y:=(OY.1 Z).resolve_right H;subst W;rw [bV π ls _ x H]at e;have :=fK π ls (aI ρ x c) z h2 (by simpa using J);rw [<-e]at this;exact absurd (by simpa [aI]using this) G.1
  ·rw [(OY.1 Z).resolve_right H,(OY.1 hz).resolve_right h2]
theorem AE.H7 {p:P}{q:U}:∀(π:List Nat) (ls:List UInt8) (ρ:Rh),π.length=ls.length->ls.Nodup->(∀z,q.Fr z->z∉π->ρ z∉ls)->AE UInt8.toNat p (λz=>(asg π ls ρ z).toNat) q->
  AE UInt8.toNat (T.resL ls p) (λz=>(ρ z).toNat) (T.resL π q)
 | [],[],_,_,_,_,h=>h
 | [],_::_,_,h,_,_,_=>by cases h
 | _::_,[],_,h,_,_,_=>by cases h
 | y::π,c::ls,ρ,V,H,hc,h=>by
  have H:=PJ.1 H;have W:=AE.H7 π ls (aI ρ y c) (by simpa using V) H.2 (λz G hm=>by
   unfold aI;split
   ·exact H.1
   ·rename_i e;exact λJ=>hc z G (by simp [e,hm]) (OU _ J)) h
  intro v;refine AE.K8 (λz G e=>?_) W v;have G:=T.fJ.1 G;exact λJ=>hc z G.2 (by simp [e,G.1]) (by rw [J];exact Pt ..)
theorem C5 (a b:UInt8)(r:Tx):kText .m a b r=kText .m b a r:=by
 unfold kText;by_cases G:b< a
 ·have h2:¬a< b:=λh=>by
   rw [Pv]at h G;omega
  simp [G,h2]
 ·by_cases h2:a< b
  ·simp [G,h2]
  ·have:a=b:=by
    apply O8.1;rw [Pv]at G h2;omega
   subst this;rfl
theorem As {α:Type}{f:α->Bool}{l m:List α}(h:l.Perm m):l.any f=m.any f:=by
 rw [PH,QK,QK];exact⟨fun⟨x,G,h2⟩=>⟨x,h.subset G,h2⟩,fun⟨x,G,h2⟩=>⟨x,h.symm.subset G,h2⟩⟩
theorem jt {l m:List Nat}(h:l.Perm m):l.sum=m.sum:=by
 induction h with
 | nil=>rfl
 | cons x _ G=>simp [G]
 | swap x y l=>simp;omega
 | trans _ _ H h2=>exact H.trans h2
theorem triples {α β γ:Type}{R:α->β->γ->Prop}:∀{l:List α},(∀a∈l,∃b c,R a b c)->∃zs:List (α×β×γ),zs.map (·.1)=l/\∀z∈zs,R z.1 z.2.1 z.2.2
 | [],_=>⟨[],rfl,λz h=>by cases h⟩
 | a::l,h=>by
  obtain⟨b,c,hr⟩:=h a (Pt ..);obtain⟨zs,H,h2⟩:=triples (l:=l) λa ha=>h a (OU _ ha)
  refine⟨(a,b,c)::zs,by simp [H],λz G=>?_⟩;rcases OY.1 G with rfl | G
  ·exact hr
  ·exact h2 z G
theorem wE {α:Type}(zs:List α)(g:α->Tx):∃G:List α,G.Perm zs/\G.map g=a6 (zs.map g):=by
 refine⟨zs.mergeSort λa b=>jI (g a) (g b),List.mergeSort_perm _ _,?_⟩
 symm
 refine ud ?_ ((List.mergeSort_perm _ _).map g);have :=List.pairwise_mergeSort (le:=λa b:α=>jI (g a) (g b)) (λa b c=>gT _ _ _) (λa b=>ql _ _) zs;exact List.pairwise_map.2 this
theorem gJ (p:U):∀l:List Nat,BV (T.resL l p)=l++BV p
 | []=>rfl
 | x::l=>by simp only [T.resL,BV,gJ p l,PD]
theorem gD:∀l:List U,BV (T.parL l)=l.flatMap BV
 | []=>rfl
 | [t]=>by simp [T.parL]
 | t::u::l=>by simp only [T.parL,BV,gD (u::l),Qc]
theorem xC:∀l:List U,BV (T.dI l)=l.flatMap BV
 | []=>rfl
 | [t]=>by simp [T.dI]
 | t::u::l=>by simp only [T.dI,BV,xC (u::l),Qc]
theorem qM {α:Type}{f g:α->List Nat}:∀{l:List α},(l.flatMap f).Nodup->(∀z∈l,(g z).Nodup/\∀x∈g z,x∈f z)->(l.flatMap g).Nodup
 | [],_,_=>Qd
 | z::l,G,h=>by
  rw [Qc]at G|-;have G:=Pj.1 G;refine Pj.2 ⟨(h z (Pt ..)).1,qM G.2.1 λy H=>h y (OU _ H),λa ha b hb=>?_⟩;obtain⟨y,H,J⟩:=Pz.1 hb;exact G.2.2 a ((h z (Pt ..)).2 a ha) b (Pz.2 ⟨y,H,(h y (OU _ H)).2 b J⟩)
theorem Gi:∀u:U,Uq u->((an u).flatMap BV).Nodup:=by
 intro u;have sub:∀u:U,∀x∈(an u).flatMap BV,x∈BV u:=λu x J=>by
  obtain⟨t,V,h2⟩:=Pz.1 J;exact BF u t V x h2
 induction u with
 | nil=>intro _;simp [an]
 | snd a b p G=>intro h;simpa [an]using h.nd
 | rcv a b p G=>intro h;simpa [an]using h.nd
 | tau p G=>intro h;simpa [an]using h.nd
 | sum p q G H=>
  intro h;simp only [an,PX];exact Pj.2 ⟨G h.eD,H h.dV,λa ha b hb=>(Pj.1 h.nd).2.2 a (sub p a ha) b (sub q b hb)⟩
 | par p q G H=>
  intro h;simp only [an];split
  ·exact H h.fL
  ·split
   ·exact G h.gB
   ·simpa using h.nd
 | res x p G=>
  intro h;simp only [an];split
  ·simpa using h.nd
  ·exact G h.res
 | mat a b p G=>
  intro h;simp only [an];split
  ·exact G h.mat
  ·split
   ·simp
   ·simpa using h.nd
 | rep p G=>
  intro h;simp only [an];split
  ·simp
  ·simpa using h.nd
theorem JN:∀u:U,Uq u->((ak u).1++(ak u).2.flatMap BV).Nodup:=by
 intro u;have sub:∀u:U,∀x∈(ak u).1++(ak u).2.flatMap BV,x∈BV u:=λu x H=>by
  rcases OM.1 H with H | H
  ·exact iM u x H
  ·obtain⟨t,V,h2⟩:=Pz.1 H;exact Ep u t V x h2
 induction u with
 | nil=>intro _;simp [ak]
 | snd a b p G=>intro h;simpa [ak]using h.nd
 | rcv a b p G=>intro h;simpa [ak]using h.nd
 | tau p G=>intro h;simpa [ak]using h.nd
 | sum p q G J=>
  intro h;simp only [ak];split
  ·exact J h.dV
  ·split
   ·exact G h.eD
   ·simpa using h.nd
 | par p q G J=>
  intro h;have W:(((ak p).1++(ak q).1)++((ak p).2++(ak q).2).flatMap BV).Perm (((ak p).1++(ak p).2.flatMap BV)++((ak q).1++(ak q).2.flatMap BV)):=by
   rw [PX];exact tT _ _ _ _
  simp only [ak];rw [W.nodup_iff];exact Pj.2 ⟨G h.gB,J h.fL,λa ha b hb=>(Pj.1 h.nd).2.2 a (sub p a ha) b (sub q b hb)⟩
 | res x p G=>
  intro h;simp only [ak];split
  ·exact PJ.2 ⟨λH=>h.gz (sub p x H),G h.res⟩
  ·exact G h.res
 | mat a b p G=>
  intro h;simp only [ak];split
  ·exact G h.mat
  ·split
   ·simp
   ·simpa using h.nd
 | rep p G=>
  intro h;simp only [ak];split
  ·simp
  ·simpa using h.nd
theorem zu {u:U}(h:u.dead=false)(hu:Uq u):(ak u).2≠[]:=λe=>by
 have G:=(gw u hu).1;rw [e]at G;have :=(lE u).1 h;rw [G]at this;exact this rfl
theorem I4 {u:U}(hu:Uq u)(h:(ak u).2=[]):u.dead=true:=by
 cases hd:u.dead with
 | true=>rfl
 | false=>exact absurd h (zu hd hu)
theorem pA {u:U}(h:u.dead=false)(hu:Uq u):an u≠[]:=λe=>by
 have G:=(gw u hu).2.2;rw [e]at G;have :=(bO u).2.1;rw [G]at this;rw [this.1 rfl]at h;cases h
theorem FT:∀u:U,Uq u->∀t∈an u,∀p q,ak t≠([],[T.sum p q]):=by
 intro u
 induction u with
 | nil=>intro _ t h;simp [an]at h
 | snd=>intro _ t h;simp [an]at h;subst h;intro p q e;simp [ak]at e
 | rcv=>intro _ t h;simp [an]at h;subst h;intro p q e;simp [ak]at e
 | tau=>intro _ t h;simp [an]at h;subst h;intro p q e;simp [ak]at e
 | sum p q G H=>
  intro hu t h;simp only [an,OM]at h;exact h.elim (G hu.eD t) (H hu.dV t)
 | par p q G H=>
  intro hu t h;simp only [an]at h;split at h
  ·exact H hu.fL t h
  ·rename_i J;split at h
   ·exact G hu.gB t h
   ·rename_i h2;simp at h;subst h;intro W Z e;have V:=PL Prod.snd e;simp only [ak]at V;have l1:(ak p).2.length≠0:=λe=>zu (by simpa using J) hu.gB (O' e)
    have l2:(ak q).2.length≠0:=λe=>zu (by simpa using h2) hu.fL (O' e)
    have :=PL List.length V;simp only [OG,OA,OS]at this;omega
 | res x p G=>
  intro hu t h;simp only [an]at h;split at h
  ·rename_i J;simp at h;subst h;intro W Z e;have V:=PL Prod.fst e;simp [ak,J]at V
  ·exact G hu.res t h
 | mat a b p G=>
  intro hu t h;simp only [an]at h;split at h
  ·exact G hu.mat t h
  ·rename_i J;split at h
   ·simp at h
   ·rename_i h2;simp at h;subst h;intro W Z e;simp [ak,J,h2]at e
 | rep p G=>
  intro hu t h;simp only [an]at h;split at h
  ·simp at h
  ·rename_i h2;simp at h;subst h;intro W Z e;simp [ak,h2]at e
theorem F9:∀(u:U),∀t∈an u,t.dead=false:=by
 intro u
 induction u with
 | nil=>intro t h;simp [an]at h
 | snd=>intro t h;simp [an]at h;subst h;rfl
 | rcv=>intro t h;simp [an]at h;subst h;rfl
 | tau=>intro t h;simp [an]at h;subst h;rfl
 | sum p q G H=>intro t h;simp only [an,OM]at h;exact h.elim (G t) (H t)
 | par p q G H=>
  intro t h;simp only [an]at h;split at h
  ·exact H t h
  ·rename_i J;split at h
   ·exact G t h
   ·simp at h;subst h;simp at J;simp [T.dead,J]
 | res x p G=>
  intro t h;simp only [an]at h;split at h
  ·rename_i J;simp at h;subst h;cases hd:p.dead with
   | false=>exact hd
   | true=>rw [mN hd]at J;cases J
  ·exact G t h
 | mat a b p G=>
  intro t h;simp only [an]at h;split at h
  ·exact G t h
  ·split at h
   ·simp at h
   ·rename_i h2;simp at h;subst h;simp at h2;exact h2
 | rep p G=>
  intro t h;simp only [an]at h;split at h
  ·simp at h
  ·rename_i h2;simp at h;subst h;simp at h2;exact h2
theorem yD:∀u:U,u.gp=true->u.smp=true->∀t∈an u,(t.tg=1\/t.tg=2\/t.tg=3)/\ak t=([],[t])
 | .nil,_,_,t,h=>by simp [an]at h
 | .snd ..,_,_,t,h=>by simp [an]at h;subst h;exact⟨.inl rfl,rfl⟩
 | .rcv ..,_,_,t,h=>by simp [an]at h;subst h;exact⟨.inr (.inl rfl),rfl⟩
 | .tau ..,_,_,t,h=>by simp [an]at h;subst h;exact⟨.inr (.inr rfl),rfl⟩
 | .sum p q,_,G,t,h=>by
  simp only [T.smp,OD]at G;simp only [an,OM]at h;exact h.elim (yD p G.1.1 G.2.1 t) (yD q G.1.2 G.2.2 t)
 | .par ..,h,_,_,_=>by cases h
 | .res ..,h,_,_,_=>by cases h
 | .mat ..,h,_,_,_=>by cases h
 | .rep ..,h,_,_,_=>by cases h
theorem uH {l:List U}(h:∀t∈l,t.smp=true):(T.parL l).smp=true:=by
 induction l with
 | nil=>rfl
 | cons t l G=>
  cases l with
  | nil=>exact h t (by simp)
  | cons u l=>
   simp only [T.parL,T.smp,OD];exact⟨h t (by simp),G λt H=>h t (OU _ H)⟩
theorem uN {p:U}(l:List Nat):(T.resL l p).smp=p.smp:=by
 induction l with
 | nil=>rfl
 | cons x l G=>exact G
theorem He {l:List U}(H:l≠[])(h:∀t∈l,t.smp=true/\t.gp=true):(T.dI l).smp=true/\(T.dI l).gp=true:=by
 induction l with
 | nil=>exact absurd rfl H
 | cons t l J=>
  cases l with
  | nil=>exact h t (by simp)
  | cons u l=>
   obtain⟨V,h2⟩:=J (by simp) λt G=>h t (OU _ G)
   have G:=h t (by simp);simp only [T.dI,T.smp,OD];exact⟨⟨⟨G.2,h2⟩,G.1,V⟩,rfl⟩
theorem Ip (u:U)(h:u.smp=true):∀t∈an u,t.smp=true:=
 si (λt=>t.smp=true) (λp q h=>by simp only [T.smp,OD]at h;exact h.2) (λp q h=>by simpa only [T.smp,OD]using h) (λ _ _ h=>h) (λ _ _ _ h=>h) u h
theorem I7 (u:U)(h:u.smp=true):∀t∈(ak u).2,t.smp=true:=
 yU (λt=>t.smp=true) (λp q h=>by simp only [T.smp,OD]at h;exact h.2) (λp q h=>by simpa only [T.smp,OD]using h) (λ _ _ h=>h) (λ _ _ _ h=>h) u h
theorem AE.dI {ρ:UInt8->Nat}{σ:Nat->Nat}:∀{l:List (U×P×U)},(∀z∈l,AE ρ z.2.1 σ z.2.2)->AE ρ (T.dI (l.map (·.2.1))) σ (T.dI (l.map (·.2.2)))
 | [],_=>trivial
 | [z],h=>h z (by simp)
 | z::y::l,h=>⟨h z (by simp),AE.dI (l:=y::l) λt G=>h t (OU _ G)⟩
theorem AE.parL {ρ:UInt8->Nat}{σ:Nat->Nat}:∀{l:List (U×P×U)},(∀z∈l,AE ρ z.2.1 σ z.2.2)->AE ρ (T.parL (l.map (·.2.1))) σ (T.parL (l.map (·.2.2)))
 | [],_=>trivial
 | [z],h=>h z (by simp)
 | z::y::l,h=>⟨h z (by simp),AE.parL (l:=y::l) λt G=>h t (OU _ G)⟩
theorem Ey {D:UInt8->Prop}:∀{l:List P},(∀t∈l,t.Al D)->(T.dI l).Al D
 | [],_=>trivial
 | [z],h=>h z (by simp)
 | z::y::l,h=>⟨h z (by simp),Ey (l:=y::l) λt G=>h t (OU _ G)⟩
theorem DE {D:UInt8->Prop}:∀{l:List P},(∀t∈l,t.Al D)->(T.parL l).Al D
 | [],_=>trivial
 | [z],h=>h z (by simp)
 | z::y::l,h=>⟨h z (by simp),DE (l:=y::l) λt G=>h t (OU _ G)⟩
theorem EP {D:UInt8->Prop}{p:P}(G:p.Al D):∀{l:List UInt8},(∀c∈l,D c)->(T.resL l p).Al D
 | [],_=>G
 | c::l,h=>⟨h c (by simp),EP G (l:=l) λt H=>h t (OU _ H)⟩
theorem fI {w:U}(h:w.isS=true)(ρ:Rh)(tk:Tk):thU w ρ tk=joinS 43 (a6 ((an w).map λu=>LS u ρ tk))/\tl [w]= .sum (tp (an w)) .nil:=by
 cases w<;>first | (cases h;done) | exact⟨rfl,rfl⟩
theorem DN {a b:Nat}(h:∀n,a<=n↔b<=n):a=b:=by
 have G:=(h a).1 (OL _);have h2:=(h b).2 (OL _);omega
end Go.Proofs.YtdecokaadekjnaaGreat
namespace Go.Proofs.YtdecokaadekjnaaGreat
open Go Go.RowKit
theorem yv.sub {k m:Nat}{Θ:Tx}{σ:Nat->Nat}{u v:U}(h:yv k Θ σ u)(G:k<=m)(H:∀y,v.Us y->u.Us y):yv m Θ σ v:=
 ⟨h.srt,λc hc=>⟨(h.okn c hc).1.mono G,(h.okn c hc).2⟩,λy J=>h.cov y (H y J)⟩
theorem Compat.sub {ρ:Rh}{σ:Nat->Nat}{u v:U}(h:Compat ρ σ u)(G:∀y,v.Us y->u.Us y):Compat ρ σ v:=λy H=>h y (G y H)
theorem kB {c:UInt8}(h:nm c=true):¬c=35:=(sT h).2.2.2.1
theorem bw {c:UInt8}(h:¬c=35)(l:Tx):(c::l).count 35=l.count 35:=by
 rw [List.count_cons];simp [h]
theorem TR.snd {on:Bool}{a b:Nat}{p:U}{σ:Nat->Nat}{Θ r:Tx}{x y:UInt8}(J:nm x=true)(G:nm y=true)(ex:x.toNat=σ a)(V:y.toNat=σ b)(h:WR on p σ Θ r):TR on (.snd a b p) σ Θ (x::33::y::46::r):=by
 refine⟨by simp,?_,λhm=>?_,λhm H hb=>?_,λhm H hb ρ hc=>?_⟩
 ·have :=h.len;simp only [OA,T.aN];omega
 ·rw [fg]at hm;rw [bw (kB J),bw (by decide),bw (kB G),bw (by decide),h.cnt hm,qo]
 ·rw [fg]at hm;rw [jl]at hb;obtain⟨c,W,h2⟩:=h.bad hm H hb;exact⟨c,by simp [W],h2⟩
 ·rw [fg]at hm;rw [jl]at hb;have Z:ρ a=x:=O8.1 ((hc a (.inl rfl)).trans ex.symm);have e2:ρ b=y:=O8.1 ((hc b (.inr (.inl rfl))).trans V.symm);simp only [thU,kText,Z,e2];rw [h.eq hm H hb ρ (hc.sub λy G=> .inr (.inr G))]
theorem TR.tau {on:Bool}{p:U}{σ:Nat->Nat}{Θ r:Tx}(h:WR on p σ Θ r):TR on (.tau p) σ Θ (126::46::r):=by
 refine⟨by simp,?_,λhm=>?_,λhm G hb=>?_,λhm G hb ρ hc=>?_⟩
 ·have :=h.len;simp only [OA,T.aN];omega
 ·rw [fe]at hm;rw [bw (by decide),bw (by decide),h.cnt hm,qv]
 ·rw [fe]at hm;rw [jE]at hb;obtain⟨c,H,h2⟩:=h.bad hm G hb;exact⟨c,by simp [H],h2⟩
 ·rw [fe]at hm;rw [jE]at hb;simp only [thU,kText];rw [h.eq hm G hb ρ hc]
theorem TR.rep {on:Bool}{p:U}{σ:Nat->Nat}{Θ r:Tx}(h:WR on p σ Θ r):TR on (.rep p) σ Θ (42::r):=by
 refine⟨by simp,?_,λhm=>?_,λhm G hb=>?_,λhm G hb ρ hc=>?_⟩
 ·have :=h.len;simp only [OA,T.aN];omega
 ·rw [fk]at hm;rw [bw (by decide),h.cnt hm,qf]
 ·rw [fk]at hm;rw [jH]at hb;obtain⟨c,H,h2⟩:=h.bad hm G hb;exact⟨c,by simp [H],h2⟩
 ·rw [fk]at hm;rw [jH]at hb;simp only [thU,kText];rw [h.eq hm G hb ρ hc]
theorem TR.mat {on:Bool}{a b:Nat}{p:U}{σ:Nat->Nat}{Θ r:Tx}{x y:UInt8}(G:a≠b)(hd:p.dead=false)(hx:nm x=true)(W:nm y=true)(ex:x.toNat=σ a)(Z:y.toNat=σ b)(h:WR on p σ Θ r):
  TR on (.mat a b p) σ Θ (91::(if y< x then y else x)::61::(if y< x then x else y)::93::r):=by
 have H:¬(if y< x then y else x)=35:=by split<;>exact kB (by assumption)
 have J:¬(if y< x then x else y)=35:=by split<;>exact kB (by assumption)
 refine⟨by simp,?_,λhm=>?_,λhm V hb=>?_,λhm V hb ρ hc=>?_⟩
 ·have :=h.len;simp only [OA,T.aN];omega
 ·rw [dq]at hm;rw [bw (by decide),bw H,bw (by decide),bw J,bw (by decide),h.cnt hm,jm]
 ·rw [dq]at hm;rw [fu]at hb;obtain⟨c,h1,h2⟩:=h.bad hm V hb;exact⟨c,by simp [h1],h2⟩
 ·rw [dq]at hm;rw [fu]at hb;have e1:ρ a=x:=O8.1 ((hc a (.inr ⟨G,hd,.inl rfl⟩)).trans ex.symm);have e2:ρ b=y:=O8.1 ((hc b (.inr ⟨G,hd,.inr (.inl rfl)⟩)).trans Z.symm);simp only [thU,kText,e1,e2];rw [h.eq hm V hb ρ (hc.sub λy W=> .inr ⟨G,hd,.inr (.inr W)⟩)]
structure BY (k:Nat)(Θ:Tx)(c:UInt8):Prop where
 nin:c∉Θ
 okn:okn (k+1) c
 ngr:ngr c
 nm:nm c=true
 bad:(we (cP Θ)).isNone=true->128<=c
 good:(we (cP Θ)).isNone=false->c=iT (cP Θ)
theorem Hn {c:UInt8}(h:lt c=true):nm c=true/\ngr c/\∀k,okn k c:=by
 refine⟨?_,?_,λk=>nV h⟩
 ·simp only [lt,nm]at*;rw [h];rfl
 ·simp only [lt,OD,OQ]at h;have J:=O0.1 h.1;have h2:=O0.1 h.2;have H:(97:UInt8).toNat=97:=rfl;have G:(122:UInt8).toNat=122:=rfl;right;omega
theorem BY.of {k:Nat}{Θ:Tx}{c:UInt8}(hk:k+1<=64)(W:∀c∈Θ,Proofs.YtdecokaadekjnaaGreat.okn k c/\Proofs.YtdecokaadekjnaaGreat.ngr c)(h:tZ Θ c):BY k Θ c:=by
 rcases h with h | ⟨h,V,h2,h3,h4⟩
 ·obtain⟨k1,k2,k3⟩:=AV h;obtain⟨f1,f2,f3⟩:=Hn k2;have h':we (cP Θ)=some c:=h;exact⟨by simpa [cP]using k1,f3 _,f2,f1,λH=>(by rw [h']at H;cases H),λ _=>(by simp [iT,h'])⟩
 ·have h':we (cP Θ)=none:=h;have b1:=O0.1 V;have b2:=O0.1 h2;have Z:(128:UInt8).toNat=128:=rfl;have α:(191:UInt8).toNat=191:=rfl;have hle:c.toNat<=128+k:=by
   refine PE λhc=>?_
   have e:(UInt8.ofNat (128+k)).toNat=128+k:=by rw [PM];omega
   have G:=h3 (UInt8.ofNat (128+k)) (O0.2 (by omega)) (Pv.2 (by omega));rcases(W _ G).1 with h | h<;>omega
  have J:c∉Θ:=by
   rcases h4 with h4 | h4
   ·exact h4
   ·intro G;have:c.toNat=191:=by rw [h4];rfl
    rcases(W _ G).1 with h | h<;>omega
  refine⟨J,.inl (by omega),.inr (by omega),?_,λ _=>V,λH=>by rw [h']at H;cases H⟩;simp only [Proofs.YtdecokaadekjnaaGreat.nm,Qb,OQ];exact .inr V
theorem uO {Θ G:Tx}{c:UInt8}(h:∀x,x∈G↔x=c\/x∈Θ):cP G=cy (cP Θ) c:=by
 funext d
 unfold cP cy;rw [PH];simp only [OQ,Qb,Q6,h];exact or_comm
theorem TR.rcv {on:Bool}{k a n:Nat}{p:U}{σ:Nat->Nat}{Θ G r:Tx}{x c:UInt8}(hx:nm x=true)(ex:x.toNat=σ a)(hc:BY k Θ c)(V:∀x,x∈G↔x=c\/x∈Θ)(h:WR on p (aI σ n c.toNat) G r):
  TR on (.rcv a n p) σ Θ (x::63::c::46::r):=by
 refine⟨by simp,?_,λhm=>?_,λhm W hb=>?_,λhm W hb ρ H=>?_⟩
 ·have :=h.len;simp only [OA,T.aN];omega
 ·rw [fv]at hm;rw [bw (kB hx),bw (by decide),bw (kB hc.nm),bw (by decide),h.cnt hm,qt]
 ·rw [fv]at hm;rw [jG,Qb]at hb;cases Z:(we (cP Θ)).isNone with
  | true=>exact⟨c,by simp,hc.bad Z⟩
  | false=>
   rw [Z]at hb;have hb:=hb.resolve_left (by simp);rw [<-hc.good Z,<-uO V]at hb;obtain⟨c,h1,h2⟩:=h.bad hm W hb;exact⟨c,by simp [h1],h2⟩
 ·rw [fv]at hm;rw [jG,P8]at hb;have e1:ρ a=x:=O8.1 ((H a (.inl rfl)).trans ex.symm);have e2:=hc.good hb.1;have J:=hb.2;rw [<-e2,<-uO V]at J;simp only [thU,kText,e1,<-e2];rw [<-uO V,<-h.eq hm W J (aI ρ n c) λy hy=>?_];unfold aI;by_cases e:y=n
  ·simp [e]
  ·simp only [OW e];exact H y (.inr ⟨e,hy⟩)
theorem oN (c:UInt8):∀l:List Tx,l≠[]->(joinS c l).length+3=dE l
 | [],h=>absurd rfl h
 | [s],_=>by simp [joinS,dE]
 | s::t::l,_=>by
  have :=oN c (t::l) (by simp);rw [e9 (by simp),dZ];simp only [OA,OG,OS];omega
theorem mh {c:UInt8}(hc:¬c=35):∀l:List Tx,(joinS c l).count 35=(l.map (List.count 35)).sum
 | []=>rfl
 | [s]=>by simp [joinS]
 | s::t::l=>by
  have :=mh hc (t::l);rw [e9 (by simp),bw (by decide),PA,bw hc,PA,this];simp
theorem pZ {c d:UInt8}{s:Tx}:∀{l:List Tx},s∈l->d∈s->d∈joinS c l
 | [],h,_=>by cases h
 | [t],h,hd=>by
  have:s=t:=by simpa using h
  subst this;exact hd
 | t::u::l,h,hd=>by
  rw [e9 (by simp)];rcases OY.1 h with rfl | h
  ·simp [hd]
  ·have :=pZ (c:=c) h hd;simp [this]
theorem Ax {c:UInt8}{l:List Tx}(h:∀s∈l,s≠[])(G:l≠[]):joinS c l≠[]:=by
 match l,G with
 | [s],_=>exact h s (by simp)
 | s::t::l,_=>rw [e9 (by simp)];simp
theorem WR.env {on:Bool}{u:U}{σ τ:Nat->Nat}{Θ r:Tx}(h:WR on u σ Θ r)(he:∀y,u.Us y->σ y=τ y):WR on u τ Θ r:=
 ⟨h.ne,h.len,h.cnt,h.bad,λa b c ρ hc=>h.eq a b c ρ λy G=>(hc y G).trans (he y G).symm⟩
theorem aP.dE {on:Bool}{σ:Nat->Nat}{Θ:Tx}:∀{rs:List Tx} {us:List U},aP (λr u=>WR on u σ Θ r) rs us->Proofs.YtdecokaadekjnaaGreat.dE rs<=kz us
 | [],[],_=>by simp [Proofs.YtdecokaadekjnaaGreat.dE,kz]
 | [],_::_,h=>by have :=h.1;simp at this
 | _::_,[],h=>by have :=h.1;simp at this
 | r::rs,u::us,h=>by
  have H:=(h.2 0 r u rfl rfl).len;have G:=aP.dE (rs:=rs) (us:=us) (on:=on) (σ:=σ) (Θ:=Θ) ⟨by have :=h.1;simpa using this,λi a b ha hb=>h.2 (i+1) a b (by simpa using ha) (by simpa using hb)⟩;rw [dZ];simp only [kz,Pe,PV,OA]at G|-;omega
theorem aP.map_eq {A B C:Type}{f:A->C}{g:B->C}:∀{l:List A} {m:List B},aP (λa b=>f a=g b) l m->l.map f=m.map g
 | [],[],_=>rfl
 | [],_::_,h=>by have :=h.1;simp at this
 | _::_,[],h=>by have :=h.1;simp at this
 | a::l,b::m,h=>by
  have G:=h.2 0 a b rfl rfl;have H:=aP.map_eq (l:=l) (m:=m) (f:=f) (g:=g) ⟨by have :=h.1;simpa using this,λi a b ha hb=>h.2 (i+1) a b (by simpa using ha) (by simpa using hb)⟩;rw [Pe,Pe,H,G]
theorem aP.get {A B:Type}{R:A->B->Prop}{l:List A}{m:List B}(h:aP R l m){b:B}(hb:b∈m):∃a∈l,R a b:=by
 obtain⟨i,hi,e⟩:=Py.1 hb;have G:i< l.length:=by rw [h.1];exact hi
 exact⟨l[i],OK _,h.2 i l[i] b (OC G) (by rw [OC hi,e])⟩
theorem aP.get' {A B:Type}{R:A->B->Prop}{l:List A}{m:List B}(h:aP R l m){a:A}(ha:a∈l):∃b∈m,R a b:=by
 obtain⟨i,hi,e⟩:=Py.1 ha;have G:i< m.length:=by rw [<-h.1];exact hi
 exact⟨m[i],OK _,h.2 i a m[i] (by rw [OC hi,e]) (OC G)⟩
theorem TR.sum {on:Bool}{p q:U}{σ:Nat->Nat}{Θ:Tx}{rs:List Tx}(hu:Uq (.sum p q))(Z:an (T.sum p q)≠[])(h:aP (λr u=>WR on u σ Θ r) rs (an (T.sum p q))):TR on (.sum p q) σ Θ (joinS 43 (a6 rs)):=by
 have J:tl [T.sum p q]= .sum (tp (an (T.sum p q))) .nil:=rfl;have α:rs≠[]:=λe=>Z (O' (by rw [<-h.1,e];rfl))
 have V:=aR rs;have W:a6 rs≠[]:=λe=>α (by rw [e]at V;exact V.symm.eq_nil)
 have G:ax (tl [T.sum p q])<=5->∀u∈an (T.sum p q),bn u<=5:=λhm=>by
  rw [J,ax]at hm;exact(xJ _ _).1 (by omega)
 refine⟨Ax (λs hs=>?_) W,?_,λhm=>?_,λhm ho hb=>?_,λhm ho hb ρ hc=>?_⟩
 ·obtain⟨u,_,hw⟩:=h.get' (V.subset hs);exact hw.ne
 ·have h1:=oN 43 _ W;have h2:=mF V;have h3:=h.dE;have h4:=dW (T.sum p q);omega
 ·rw [mh (by decide),jt (V.map _),J,thAll,HI];show _=_+0;rw [Ri]
  congr 1
  refine aP.map_eq (h.mono λr u _ hu hw=>hw.cnt (G hm u hu))
 ·rw [J,thBad,xy]at hb;simp only [thBad,Q3,QK]at hb;obtain⟨u,H,β⟩:=hb;obtain⟨r,hr,hw⟩:=h.get H;obtain⟨c,h1,h2⟩:=hw.bad (G hm u H) ho β;exact⟨c,pZ (V.symm.subset hr) h1,h2⟩
 ·rw [J,thBad,xy]at hb;simp only [thBad,Q3]at hb;have hb:∀u∈an (T.sum p q),dC u (cP Θ)=false:=by simpa [List.any_eq_false]using hb
  have e:rs=(an (T.sum p q)).map λu=>LS u ρ (cP Θ):=by
   have :=aP.map_eq (f:=λr:Tx=>r) (g:=λu=>LS u ρ (cP Θ)) (h.mono λr u _ H hw=>hw.eq (G hm u H) ho (hb u H) ρ (hc.sub λy hy=>(mX _ hu y).2 ⟨u,H,hy⟩));simpa using this
  rw [e];rfl
theorem WR.le {on:Bool}{u:U}{k:Nat}{p:P}{σ τ:Nat->Nat}{Θ r:Tx}(h:WR on u τ Θ r)(d:Den k p σ u):r.length<=p.text.length:=by
 have G:=h.len;have h2:=pO d.ae;rw [T.aX];omega
structure vQ (w0 w:World)(bm:Nat)(br on:Bool)(c:UInt8)(o:Option Nat):Prop where
 kp:Kp w0 w (λg=>g=bm)
 mm:MK w bm br on
 bx:∀b,o=some b->b≠bm/\b< w.heap.size/\w.cell? ⟨b,0,none⟩=some (.int .u8 c.toNat)
theorem vQ.step {w0 w w':World}{bm:Nat}{br G on:Bool}{c:UInt8}{o:Option Nat}(h:vQ w0 w bm br on c o)(H:Kp w w' (λg=>g=bm))(hm:MK w' bm G on):vQ w0 w' bm G on c o:=
 ⟨Kp.trans h.kp H λ _ _ h=>h,hm,λb hb=>by
  obtain⟨J,h2,V⟩:=h.bx b hb;refine⟨J,O5 h2 H.size,?_⟩;rw [OB (w:=w) (H.block b h2 J)];exact V⟩
theorem vQ.ex {w0 w w':World}{bm:Nat}{br on:Bool}{c:UInt8}{o:Option Nat}(h:vQ w0 w bm br on c o)(G:Ex w w'):vQ w0 w' bm br on c o:=
 h.step (Kp.af G _) (h.mm.ex G)
theorem vQ.box {w0 w w':World}{bm b:Nat}{br on:Bool}{c:UInt8}(h:vQ w0 w bm br on c none)(hb:b=w.heap.size)(hw:w'=w.alloc (.cells #[.int .u8 c.toNat] 5)):vQ w0 w' bm br on c (some b):=by
 have G:Ex w w':=hw▸Ex.alloc w _;have :=h.mm.lt;refine⟨(h.ex G).kp,(h.ex G).mm,λH e=>?_⟩;cases e;subst hb hw;exact⟨by omega,by rw [size_alloc];omega,aa rfl⟩
theorem vQ.conv {w0 w:World}{bm b:Nat}{br on:Bool}{c:UInt8}(h:vQ w0 w bm br on c (some b)):∀(j:Nat) (x:UInt8),[c][j]?=some x->w.cell? ⟨b,0+j,none⟩=some (.int .u8 x.toNat):=by
 intro j x G
 match j,G with
 | 0,G=>simp at G;subst G;exact(h.bx b rfl).2.2
theorem Own.kp {B:Nat}{w w':World}{v:Value}{l:List Tx}{S:Nat->Prop}(h:Own B w v l)(k:Kp w w' S)(H:∀g,v.ownBlock=some g->¬S g):Own B w' v l:=by
 refine⟨h.1,?_⟩;rcases h.2 with J | ⟨g,cap,cur,rfl,hb,G,rest⟩
 ·exact .inl J
 ·exact .inr ⟨g,cap,cur,rfl,hb,by rw [k.block g (Pk.1 G).1 (H g rfl)];exact G,rest⟩
theorem MK.same {w w':World}{bm:Nat}{br on:Bool}(h:MK w bm br on)(G:w.heap.size<=w'.heap.size)(hb:w'.heap[bm]?=w.heap[bm]?):MK w' bm br on:=
 ⟨O5 h.lt G,by rw [OB (w:=w) hb];exact h.c0,by rw [OB (w:=w) hb];exact h.c1,by rw [O7 (w:=w) hb];exact h.f0⟩
theorem MK.below {w w':World}{bm B:Nat}{br on:Bool}(h:MK w bm br on)(k:Below B w w')(hb:bm< B):MK w' bm br on:=h.same k.size (k.block bm hb)
theorem Own.below {B C:Nat}{w w':World}{v:Value}{l:List Tx}(h:Own B w v l)(k:Below C w w')(G:∀g,v.ownBlock=some g->g< C):Own B w' v l:=by
 refine⟨h.1,?_⟩;rcases h.2 with H | ⟨g,cap,cur,rfl,hb,J,rest⟩
 ·exact .inl H
 ·exact .inr ⟨g,cap,cur,rfl,hb,by rw [k.block g (G g rfl)];exact J,rest⟩
theorem Kp.Nn {w w':World}{B:Nat}(h:Below B w w')(hB:w.heap.size<=B)(S:Nat->Prop):Kp w w' S:=⟨h.os,h.tape,h.output,h.size,λg G _=>h.block g (by omega)⟩
theorem Kp.HU {w w1 w':World}{B:Nat}{S:Nat->Prop}(h:Kp w w1 S)(k:Below B w1 w')(hB:w.heap.size<=B):Kp w w' S:=
 ⟨k.os.trans h.os,k.tape.trans h.tape,k.output.trans h.output,PI h.size k.size,λg G H=>(k.block g (by omega)).trans (h.block g G H)⟩
theorem aP.snoc {A B:Type}{R:A->B->Prop}{l:List A}{m:List B}{a:A}{b:B}(h:aP R l m)(k:R a b):aP R (l++[a]) (m++[b]):=h.append (aP.one k)
theorem H8 {n:Nat}(β:GU n):yu (n+1):=by
 intro k p σ t Θ w bm br on R hn d hth hpl hlv γ G W h;refine kZ _ _ _ w R ?_;dsimp only [go_sem];dsimp only [go_sem,UInt8.reduceOfNat,UInt32.reduceOfNat,Nat.reduceAdd];refine aQ d.ok ?_;have hw:=d.wf;have hl:=d.len;have α:=d.ae;cases p<;>cases t<;>(try exact α.elim)<;>(try (cases hth;done))
 case snd.snd a b p a' b' u=>
  simp only [T.kind]
  repeat' first | refine aW (by decide) ?_ | refine cZ (by decide) ?_ | refine cD (by decide) ?_ | refine dU (by decide) ?_
  simp only [T.wf,OD]at hw;simp only [T.size]at hn;simp only [T.text,OA]at hl;have ι:(T.snd a b p).text.length=p.text.length+4:=by simp [T.text]
  refine⟨λ _=>True,λw1 Z=>⟨trivial,cW d.ok ⟨trivial,⟨by simp only [T.hd];omega,by simp only [T.hd];omega⟩,cW d.ok ⟨trivial,⟨by simp only [T.hd];omega,by simp only [T.hd];omega⟩,?_⟩⟩⟩⟩;have e1:List.drop (Int.toNat ((T.snd a b p).hd:Int)) (T.snd a b p).text=p.text:=rfl;have e2:List.take (Int.toNat ((T.snd a b p).hd:Int)) (T.snd a b p).text=[a,33,b,46]:=rfl;rw [e1,e2];have hx:Ex w w1:=Z▸Ex.drew w;refine β (by omega) d.snd (λz hz=>γ z (.inr (.inr hz))) (G.sub (OL _) λy hy=> .inr (.inr hy)) (W.ex hx) λr w2 J V hr=>?_
  have κ:=hr.le d.snd;refine⟨trivial,by simp only [OA,OS];omega,h _ w2 (Kp.trans (Kp.af hx _) J λ _ _ h=>h) (by rw [fg];exact V) (TR.snd hw.1.1 hw.1.2 α.1 α.2.1 hr)⟩
 case tau.tau p u=>
  simp only [T.kind]
  repeat' first | refine aW (by decide) ?_ | refine cZ (by decide) ?_ | refine cD (by decide) ?_ | refine dU (by decide) ?_
  simp only [T.size]at hn;simp only [T.text,OA]at hl;have ι:(T.tau p).text.length=p.text.length+2:=by simp [T.text]
  refine⟨λ _=>True,λw1 Z=>⟨trivial,cW d.ok ⟨trivial,⟨by simp only [T.hd];omega,by simp only [T.hd];omega⟩,cW d.ok ⟨trivial,⟨by simp only [T.hd];omega,by simp only [T.hd];omega⟩,?_⟩⟩⟩⟩;have e1:List.drop (Int.toNat ((T.tau p).hd:Int)) (T.tau p).text=p.text:=rfl;have e2:List.take (Int.toNat ((T.tau p).hd:Int)) (T.tau p).text=[126,46]:=rfl;rw [e1,e2];have hx:Ex w w1:=Z▸Ex.drew w;refine β (by omega) d.tau (λz hz=>γ z hz) (G.sub (OL _) λy hy=>hy) (W.ex hx) λr w2 J V hr=>?_
  have κ:=hr.le d.tau;refine⟨trivial,by simp only [OA,OS];omega,h _ w2 (Kp.trans (Kp.af hx _) J λ _ _ h=>h) (by rw [fe];exact V) (TR.tau hr)⟩
 case rep.rep p u=>
  simp only [T.kind]
  repeat' first | refine aW (by decide) ?_ | refine cZ (by decide) ?_ | refine cD (by decide) ?_ | refine dU (by decide) ?_
  simp only [T.size]at hn;simp only [T.text,OA]at hl;have ι:(T.rep p).text.length=p.text.length+1:=by simp [T.text]
  refine⟨⟨by omega,by omega⟩,?_⟩;have e1:List.drop (Int.toNat 1) (T.rep p).text=p.text:=rfl;rw [e1];refine β (by omega) d.rep (λz hz=>γ z hz) (G.sub (OL _) λy hy=>hy) W λr w2 J V hr=>?_
  have κ:=hr.le d.rep;refine⟨by simp only [OA,OS];omega,h _ w2 J (by rw [fk];exact V) (TR.rep hr)⟩
 case mat.mat a b p a' b' u=>
  simp only [T.kind]
  repeat' first | refine aW (by decide) ?_ | refine cZ (by decide) ?_ | refine cD (by decide) ?_ | refine dU (by decide) ?_
  simp only [T.wf,OD]at hw;simp only [T.size]at hn;simp only [T.text,OA]at hl;have ι:(T.mat a b p).text.length=p.text.length+5:=by simp [T.text]
  have hab:a'≠b':=hpl;have ω:u.dead=false:=hlv;have hpd:p.dead=false:=by rw [α.2.2.dead];exact ω
  have e1:List.drop (Int.toNat 5) (T.mat a b p).text=p.text:=rfl;have e2:List.drop (Int.toNat 3) (List.take (Int.toNat 4) (T.mat a b p).text)=[b]:=rfl;have e3:List.drop (Int.toNat 1) (List.take (Int.toNat 2) (T.mat a b p).text)=[a]:=rfl;have eb:Op.bytesLess [b] [a]=decide (b< a):=by
   rw [R9,PH,OQ,OQ,List.cons_lt_cons_iff];simp
  rw [e1,e2,e3,eb];refine⟨λ _=>True,λw1 Z=>⟨trivial,⟨by omega,by omega,by omega⟩,⟨by omega,by omega,by omega⟩,?_⟩⟩;have hx:Ex w w1:=Z▸Ex.drew w;have sub:∀y,u.Us y->(T.mat a' b' u).Us y:=λy hy=> .inr ⟨hab,ω,.inr (.inr hy)⟩
  have dm:=d.mat hpd;have key:∀{K:aB->Sg},(∀r w2,r.length<=1099511627776->Kp w w2 (λg=>g=bm)->MK w2 bm (br||decide (5< ax (tl [T.mat a' b' u]))) on->TR on (.mat a' b' u) σ Θ (91::(if b< a then b else a)::61::(if b< a then a else b)::93::r)->K r w2)->
    Sh 224 #[.pointer (some ⟨bm,0,none⟩),.string (ai p.text),.string (ai Θ)] w1 (aw [.s] K):=λhk=>by
   refine β (by omega) dm (λz hz=>γ z (.inr (.inr hz))) (G.sub (OL _) sub) (W.ex hx) λr w2 J V hr=>?_
   have κ:=hr.le dm;exact hk r w2 (by omega) (Kp.trans (Kp.af hx _) J λ _ _ h=>h) (by rw [dq];exact V) (TR.mat hab ω hw.1.1 hw.1.2 α.1 α.2.1 hr)
  refine⟨λhc=>?_,λhc=>?_⟩
  ·have hc:=O1 hc;refine⟨by simp,by simp,by simp,by simp,⟨by omega,by omega⟩,key λr w2 H h2 h3 h4=>⟨by simp only [OG,OA,OS];omega,?_⟩⟩;simp only [Pd hc]at h4;exact h _ w2 h2 h3 h4
  ·have hc:=O4 hc;refine⟨by simp,by simp,by simp,by simp,⟨by omega,by omega⟩,key λr w2 H h2 h3 h4=>⟨by simp only [OG,OA,OS];omega,?_⟩⟩;simp only [OW hc]at h4;exact h _ w2 h2 h3 h4
 case sum.sum p q u v=>
  simp only [T.kind]
  repeat' first | refine aW (by decide) ?_ | refine cZ (by decide) ?_ | refine cD (by decide) ?_ | refine dU (by decide) ?_
  have hpu:u.dead=false/\v.dead=false:=hpl;have μ:an (T.sum u v)≠[]:=pA (by simp [T.dead,hpu.1]) d.uq;refine zt _ (OL _) d λvs w2 ps ν ε hps hgs=>?_
  have hsz:(an (T.sum u v)).length<=(T.sum p q).size:=by rw [d.ae.size];exact dw _
  have hszt:=bD (T.sum p q);have hl':(T.sum p q).text.length<=1099511627776:=hl;have υ:(ps.map T.text).length=(an (T.sum u v)).length:=by rw [O3,hps.1]
  have hbm:bm< w2.heap.size:=O5 W.lt ν.size;have hvb:∀g,vs.ownBlock=some g->g< w2.heap.size:=λg hg=>(ε.block g hg).2
  have hvn:∀g,vs.ownBlock=some g->¬g=bm:=λg hg e=>by
   have :=(ε.block g hg).1;have :=W.lt;omega
  obtain⟨av,cap,hv⟩:=ε.strs.slice;have hlen:=ε.1;refine⟨av,_,cap,hv,λlist x w'=>∃(i:Nat) (rs:List Tx),x=i/\i<=(an (T.sum u v)).length/\Kp w w' (λg=>g=bm)/\MK w' bm (br||((an (T.sum u v)).take i).any λu=>decide (5< bn u)) on/\
   w2.heap.size<=w'.heap.size/\Own w2.heap.size w' list rs/\Own w.heap.size w' vs (ps.map T.text)/\aP (λr u=>WR on u σ Θ r) rs ((an (T.sum u v)).take i),λ _ x _=>((an (T.sum u v)).length - x).toNat,?_,λlist x w3 hI=>?_⟩
  ·exact⟨0,[],rfl,by omega,Kp.af ν _,by simpa using W.ex ν,OL _,Own.nil _ _,ε,aP.nil⟩
  obtain⟨i,rs,rfl,hi,hk3,hm3,hs3,ho3,hv3,δ⟩:=hI;refine⟨λhc=>?_,λhc=>?_⟩
  ·have hc:=O1 hc;rw [υ]at hc;have ξ:i< (an (T.sum u v)).length:=by omega
   have hip:i< ps.length:=by rw [hps.1];exact ξ
   refine hv3.strs.get (Ex.refl w3) (i:=i) (x:=(ps[i]).text) (by omega) (by simp [hip]) ?_;obtain⟨m,τ,hkm,dp,hτ⟩:=hps.2 i _ _ (OC hip) (OC ξ);have φ:(an (T.sum u v))[i]∈an (T.sum u v):=OK _;have hus:∀y,((an (T.sum u v))[i]).Us y->(T.sum u v).Us y:=λy hy=>(mX _ d.uq y).2 ⟨_,φ,hy⟩
   have χ:∀y,((an (T.sum u v))[i]).Us y->τ y=σ y:=λy hy=>hτ y (d.uq.Ez (hus y hy))
   have hszi:ps[i].size<=n:=by
    rw [dp.ae.size];have H:((an (T.sum u v))[i]).size<=u.size+v.size:=by
     have hmem':(an (T.sum u v))[i]∈an u++an v:=φ;rcases OM.1 hmem' with h | h
     ·have :=mS u _ h;omega
     ·have :=mS v _ h;omega
    have h2:(T.sum p q).size=(T.sum u v).size:=d.ae.size;simp only [T.size]at hn h2;omega
   have hgfp:GF 0 ps[i]:=hgs _ (OK _) 0 γ;refine β hszi dp hgfp ⟨G.srt,λc hc=>⟨(G.okn c hc).1.mono hkm,(G.okn c hc).2⟩,λy hy=>by rw [χ y hy];exact G.cov y (hus y hy)⟩ hm3 λr w4 ο hm4 hr=>?_
   intro b5 w5 hb5 hw5;have ζ:Ex w4 w5:=hw5▸Ex.alloc w4 _;have ho4:Own w2.heap.size w5 list rs:=(ho3.kp ο λg hg e=>by have :=(ho3.block g hg).1;omega).ex ζ;have hsz4:=ο.size;have hsz5:=ζ.size;have ψ:rs.length=i:=by rw [δ.1,Pm];omega
   refine Own.push ho4 (by omega) (Strs.one hb5 hw5) (by simp only [OA,OS];omega) λv6 w6 ς ho6 _ _=>?_
   refine⟨by omega,⟨i+1,rs++[r],by omega,by omega,?_,?_,?_,ho6,?_,?_⟩,by dsimp only;omega⟩
   ·exact Kp.HU (Kp.trans (Kp.trans hk3 ο λ _ _ h=>h) (Kp.af ζ _) λ _ _ h=>h) ς ν.size
   ·have hm5:=(hm4.ex ζ).below ς hbm;rw [OE ξ,List.any_append,<-Qg];simpa using hm5
   ·have :=ς.size;omega
   ·exact((hv3.kp ο hvn).ex ζ).below ς hvb
   ·rw [OE ξ];exact δ.snoc (hr.env χ)
  ·have hc:=O4 hc;rw [υ]at hc;have e:i=(an (T.sum u v)).length:=by omega
   subst e;rw [O6]at hm3 δ;have hll:=δ.dE;have ht2:=dW (T.sum u v);have htl:=pO d.ae;have hle:dE rs<=1099511627776+3:=by rw [T.aX]at hl';omega
   have ψ:rs.length=(an (T.sum u v)).length:=δ.1;have hrs:rs≠[]:=λe=>μ (O' (by rw [<-ψ,e];rfl))
   refine oR ho3.strs (by omega) λv4 w4 hx4 ho4=>?_
   have hsn:a6 rs≠[]:=λe=>hrs (by have :=aR rs;rw [e]at this;exact this.symm.eq_nil)
   refine uX ho4.strs hsn (by rw [mF (aR rs)];omega) ?_;refine h _ w4 (Kp.trans hk3 (Kp.af hx4 _) λ _ _ h=>h) ?_ (TR.sum d.uq μ δ);have e2:(an (T.sum u v)).any (λu=>decide (5< bn u))=decide (5< ax (tl [T.sum u v])):=by
    rw [PH,QK,OQ];have etl:tl [T.sum u v]= .sum (tp (an (T.sum u v))) .nil:=rfl;have hmx:ax (.sum (tp (an (T.sum u v))) .nil)=ax (tp (an (T.sum u v))):=by simp [ax]
    rw [etl,hmx,<-Nat.not_le,xJ];constructor
    ·rintro⟨x,H,h2⟩ h3
     have :=h3 x H;have :=O1 h2;omega
    ·intro H;refine PE λh2=>H λx hx=>?_
     rcases Qi 5 (bn x)with h3 | h3
     ·exact absurd ⟨x,hx,PG h3⟩ h2
     ·exact h3
   rw [<-e2];exact hm3.ex hx4
 case rcv.rcv a x p a' x' u=>
  simp only [T.kind]
  repeat' first | refine aW (by decide) ?_ | refine cZ (by decide) ?_ | refine cD (by decide) ?_ | refine dU (by decide) ?_
  simp only [T.wf,OD]at hw;simp only [T.size]at hn;simp only [T.text,OA]at hl;have ι:(T.rcv a x p).text.length=p.text.length+4:=by simp [T.text]
  have hΘ:=G.srt.bound;refine jd (by omega) λc hc0=>?_
  have hbd:=d.bd.le;simp only [T.rd,T.ow]at hbd;have hc:BY k Θ c:=BY.of (by omega) G.okn hc0;have okp:=d.ok.parts p (by simp [T.parts]);have hbdp:=T.AI p;have e1:List.drop (Int.toNat 4) (T.rcv a x p).text=p.text:=rfl;have e2:bt (T.rcv a x p).text (Int.toNat 2)=x:=rfl;have e3:List.take (Int.toNat 2) (T.rcv a x p).text=[a,63]:=rfl;rw [e1,e2,e3];refine⟨λ _=>True,λw1 Z=>⟨trivial,⟨by omega,by omega⟩,⟨by omega,by omega⟩,⟨by omega,by omega⟩,?_⟩⟩;have hst:vQ w w1 bm br on c none:=⟨Kp.af (Z▸Ex.drew w) _,W.ex (Z▸Ex.drew w),λb hb=>by cases hb⟩
  have renL:∀{o:Option Nat} {wx:World} {K:aB->Sg},vQ w wx bm br on c o->(∀q wy,vQ w wy bm br on c o->ja (k+1) p x c q->K q.text wy)->Sh 153 #[.string (ai p.text),.int .u8 x.toNat,.int .u8 c.toNat] wx (aw [.s] K):=λhs hK=>
   hZ _ (OL _) okp d.bd.eb.2.2 (by omega) hc.nm hc.okn λq wy hx hq=>hK q wy (hs.ex hx) hq
  have addL:∀{o:Option Nat} {wx:World} {K:aB->Sg},vQ w wx bm br on c o->(∀s wy,vQ w wy bm br on c o->(jb s/\∀x,x∈s↔x=c\/x∈Θ)->K s wy)->Sh 121 #[.string (ai Θ),.int .u8 c.toNat] wx (aw [.s] K):=λhs hK=>
   fG G.srt λs' wy hx H h2=>hK s' wy (hs.ex hx) ⟨H,h2⟩
  have whoL:∀{o:Option Nat} {wx:World} {K:aB->Sg} {q:P} {s:Tx},vQ w wx bm br on c o->ja (k+1) p x c q->(jb s/\∀x,x∈s↔x=c\/x∈Θ)->
    (∀r wy,vQ w wy bm (br||decide (5< ax (tl [T.rcv a' x' u]))) on c o->(TR on (.rcv a' x' u) σ Θ (a::63::c::46::r)/\r.length<=1099511627776)->K r wy)->Sh 224 #[.pointer (some ⟨bm,0,none⟩),.string (ai q.text),.string (ai s)] wx (aw [.s] K):=λ{o wx K q s} hs hq η hK=>by
   have dr:=d.rcv hq λz hz μ e=>by
    obtain⟨c',H,h2⟩:=G.cov z (.inr ⟨μ,hz⟩);have:c'=c:=O8.1 (h2.trans e);exact hc.nin (this▸H)
   have hsz:=T.px hq.shp;refine β (by omega) dr (λz hz hg=>?_) ⟨η.1,λc' hc'=>?_,λy hy=>?_⟩ hs.mm λr wy J V hr=>?_
   ·rcases hq.ok.free z hz with H | H | H
    ·exact absurd hg (eK (H▸hc.ngr))
    ·exact γ z (.inr ⟨H.1,H.2⟩) hg
    ·exact absurd hg (eK (H.1▸d.bd.eb.2.1.1))
   ·rcases(η.2 c').1 hc' with H | H
    ·rw [H];exact⟨hc.okn,hc.ngr⟩
    ·exact⟨(G.okn c' H).1.mono (by omega),(G.okn c' H).2⟩
   ·by_cases e:y=x'
    ·subst e;exact⟨c,(η.2 c).2 (.inl rfl),by rw [dg]⟩
    ·obtain⟨c',H,h2⟩:=G.cov y (.inr ⟨e,hy⟩);exact⟨c',(η.2 c').2 (.inr H),by rw [bR _ _ e];exact h2⟩
   ·have κ:=hr.le dr;have hlq:q.text.length=p.text.length:=by rw [T.aX,T.jn hq.shp,<-T.aX]
    refine hK r wy (hs.step J (by rw [fv];exact V)) ⟨TR.rcv hw.1.1 α.1 hc η.2 hr,by omega⟩
  have fin:∀{o:Option Nat} {wx:World} {r:Tx},vQ w wx bm (br||decide (5< ax (tl [T.rcv a' x' u]))) on c o->(TR on (.rcv a' x' u) σ Θ (a::63::c::46::r)/\r.length<=1099511627776)->R (((([a,63]++[c])++[46])++r)) wx:=λhs hr=>h _ _ hs.kp hs.mm hr.1
  have bnd:∀{r:Tx},(TR on (.rcv a' x' u) σ Θ (a::63::c::46::r)/\r.length<=1099511627776)->List.length (([a,63]++[c])++[46])+List.length r<=4611686018427387904:=λhr=>by
   have :=hr.2;simp only [OG,OA,OS];omega
  repeat' first
   | (refine renL (by assumption) ?_;intro q wy θ hq;refine⟨trivial,?_⟩)
   | (refine addL (by assumption) ?_;intro s wy θ hs;refine⟨trivial,?_⟩)
   | (refine whoL (by assumption) (by assumption) (by assumption) ?_;intro r wy θ hr;refine⟨trivial,?_⟩)
   | exact fin (by assumption) (by assumption)
   | exact bnd (by assumption)
   | (refine⟨_,0,1,1,[c],rfl,rfl,vQ.conv (by assumption),trivial,by simp,by simp,?_⟩)
   | (refine⟨?_,?_⟩)
   | (intro b w2 hb hw2;have θ:=vQ.box (by assumption) hb hw2;refine⟨trivial,?_⟩)
theorem j6 {α β:Type}{g:α->β}:∀{l:List α} {m:List β},m.Perm (l.map g)->∃π:List α,π.Perm l/\m=π.map g
 | [],m,h=>⟨[],PQ _,by simpa using h⟩
 | a::l,m,h=>by
  have hm:g a∈m:=h.symm.subset (by simp);obtain⟨s,t,rfl⟩:=List.append_of_mem hm;have h2:(s++t).Perm (l.map g):=(R8 (g a)).1 (Rq.symm.trans (by simpa using h));obtain⟨π,G,h4⟩:=j6 h2;obtain⟨x,y,rfl,h5,H⟩:=List.append_eq_map_iff.1 h4;refine⟨x++a::y,Rq.trans (List.Perm.cons a G),?_⟩;simp [h5,H]
def rnv:List UInt8->List UInt8->Nat->Nat
 | o::os,l::ls,n=>rnv os ls (if n=o.toNat then l.toNat else n)
 | _,_,n=>n
theorem Bs:∀(os ls:List UInt8) (o l:UInt8) (n:Nat),os.length=ls.length->rnv (os++[o]) (ls++[l]) n=if rnv os ls n=o.toNat then l.toNat else rnv os ls n
 | [],[],o,l,n,_=>rfl
 | [],_::_,_,_,_,h=>by cases h
 | _::_,[],_,_,_,h=>by cases h
 | a::os,b::ls,o,l,n,h=>by
  simp only [PD,rnv];exact Bs os ls o l _ (by simpa using h)
theorem xU:∀(os ls:List UInt8) (n:Nat),(∀o∈os,n≠o.toNat)->rnv os ls n=n
 | [],_,_,_=>by simp [rnv]
 | _::_,[],_,_=>by simp [rnv]
 | a::os,b::ls,n,h=>by
  rw [rnv,OW (h a (by simp))];exact xU os ls n λo G=>h o (OU _ G)
theorem DW:∀(π:List Nat) (os ls:List UInt8) (g:Nat->Nat) (ρ:Rh) (y:Nat),os.map UInt8.toNat=π.map g->π.length=ls.length->(∀l∈ls,l∉os)->y∈π->(∀z∈π,g z=g y->z=y)->os.Nodup->
  rnv os ls (g y)=(asg π ls ρ y).toNat
 | [],_,_,_,_,_,_,_,_,h,_,_=>by cases h
 | z::π,[],_,_,_,_,h,_,_,_,_,_=>by simp at h
 | _::_,_::_,[],_,_,_,_,h,_,_,_,_=>by cases h
 | z::π,o::os,l::ls,g,ρ,y,h,hl,hd,hy,hi,G=>by
  simp only [Pe,Px]at h;have G:=PJ.1 G;have H:∀J∈os,l.toNat≠J.toNat:=λJ ho e=>hd l (by simp) (by rw [O8.1 e];exact OU _ ho)
  rw [rnv,asg];by_cases e:y=z
  ·subst e;rw [Pd h.1.symm,xU os ls _ H];by_cases hyp:y∈π
   ·exfalso;have:g y∈π.map g:=Qj hyp;rw [<-h.2,<-h.1]at this;obtain⟨J,h1,h2⟩:=Pp.1 this;exact G.1 (O8.1 h2▸h1)
   ·rw [bV π ls _ y hyp];simp [aI]
  ·have hyp:y∈π:=(OY.1 hy).resolve_left e;have V:¬g y=o.toNat:=λh'=>e ((hi z (by simp) (h.1.symm.trans h'.symm)).symm)
   rw [OW V];exact DW π os ls g _ y h.2 (by simpa using hl) (λl' W Z=>hd l' (OU _ W) (OU _ Z)) hyp (λx hx=>hi x (OU _ hx)) G.2
structure Iw (k m:Nat)(Θ ls A:Tx):Prop where
 len:ls.length=m
 nd:ls.Nodup
 ok:∀c∈ls,c∉Θ/\okn (k+m) c/\ngr c/\nm c=true
 srt:jb A
 mem:∀c,c∈A↔c∈Θ\/c∈ls
theorem TR.env {on:Bool}{u:U}{σ τ:Nat->Nat}{Θ r:Tx}(h:TR on u σ Θ r)(he:∀y,u.Us y->σ y=τ y):TR on u τ Θ r:=
 ⟨h.ne,h.len,h.cnt,h.bad,λa b c ρ hc=>h.eq a b c ρ λy G=>(hc y G).trans (he y G).symm⟩
theorem TR.le {on:Bool}{u:U}{k:Nat}{p:P}{σ τ:Nat->Nat}{Θ r:Tx}(h:TR on u τ Θ r)(d:Den k p σ u):r.length<=p.text.length:=by
 have G:=h.len;have h2:=pO d.ae;rw [T.aX];omega
structure No (M:Nat)(p:P)(t:U)(τ:Nat->Nat)(Θ o ls:Tx)(i:Nat)(q:P):Prop where
 den:Den M q (λy=>rnv (o.take i) (ls.take i) (τ y)) t
 shp:q.shp=p.shp
 gf:∀z,q.Fr z->KW z->z∈o.drop i
 cov:∀y,t.Us y->∃c:UInt8,c.toNat=rnv (o.take i) (ls.take i) (τ y)/\(c∈Θ\/c∈ls.take i\/c∈o.drop i)
theorem sS {l:Tx}{i:Nat}(h:i< l.length):l.drop i=bt l i::l.drop (i+1):=bK h
theorem iC {l:Tx}{i:Nat}(h:i< l.length):l.take (i+1)=l.take i++[bt l i]:=by
 rw [OE h];simp [bt,h]
theorem No.step {M k m:Nat}{p q q':P}{t:U}{τ:Nat->Nat}{Θ o ls A:Tx}{i:Nat}(h:No M p t τ Θ o ls i q)(η:∀c∈Θ,ngr c)(α:Iw k m Θ ls A)(ho:o.length=m)(β:∀c∈o,KW c)(hi:i< m)
  (hr:ja M q (bt o i) (bt ls i) q'):No M p t τ Θ o ls (i+1) q':=by
 have Z:i< o.length:=by omega
 have W:i< ls.length:=by rw [α.len];exact hi
 have hlen:(o.take i).length=(ls.take i).length:=by rw [Pm,Pm];omega
 have e:∀y,rnv (o.take (i+1)) (ls.take (i+1)) (τ y)=if rnv (o.take i) (ls.take i) (τ y)=(bt o i).toNat then(bt ls i).toNat else rnv (o.take i) (ls.take i) (τ y):=λy=>by
  rw [iC Z,iC W,Bs _ _ _ _ _ hlen]
 have G:=α.ok _ (lj W);have ε:bt ls i∉ls.take i:=λhm=>by
  have γ:=α.nd;rw [<-PZ i ls,sS W]at γ;exact(Pj.1 γ).2.2 _ hm _ (by simp) rfl
 have ζ:bt ls i∉o.drop i:=λhm=>eK G.2.2.1 (β _ (List.mem_of_mem_drop hm))
 have H:∀y,t.Us y->rnv (o.take i) (ls.take i) (τ y)≠(bt ls i).toNat:=λy hy he=>by
  obtain⟨c,J,h2⟩:=h.cov y hy;have hc:c=bt ls i:=O8.1 (J.trans he);rcases h2 with h2 | h2 | h2
  ·exact G.1 (hc▸h2)
  ·exact ε (hc▸h2)
  ·exact ζ (hc▸h2)
 refine⟨⟨hr.wf,?_,⟨hr.eb,?_⟩,?_,?_,h.den.uq⟩,hr.shp.trans h.shp,λz hz hg=>?_,λy hy=>?_⟩
 ·have :=h.den.len;rw [T.aX,T.jn hr.shp,<-T.aX];exact this
 ·rw [T.CL hr.shp,T.zo hr.shp];exact h.den.bd.le
 ·have hh:=h.den.ae.renamed hr.ok (λx _ e=>O8.1 e);have e':(λy=>rnv (o.take (i+1)) (ls.take (i+1)) (τ y))=λy=>if rnv (o.take i) (ls.take i) (τ y)=(bt o i).toNat then(bt ls i).toNat else rnv (o.take i) (ls.take i) (τ y):=funext e
  rw [e'];exact hh
 ·intro y z hy hz V;simp only [e]at V;have δ:=h.den.inj y z hy hz;split at V<;>split at V
  ·rename_i J h2;exact δ (J.trans h2.symm)
  ·exact absurd V.symm (H z hz)
  ·exact absurd V (H y hy)
  ·exact δ V
 ·rcases hr.ok.free z hz with J | J | J
  ·exact absurd hg (eK (J▸G.2.2.1))
  ·have :=h.gf z J.2 hg;rw [sS Z]at this;exact(OY.1 this).resolve_left J.1
  ·have hh:=β _ (lj Z);rw [J.2.2]at hh;exact absurd hh (eK G.2.2.1)
 ·obtain⟨c,J,h2⟩:=h.cov y hy;rw [e];by_cases hc:rnv (o.take i) (ls.take i) (τ y)=(bt o i).toNat
  ·rw [Pd hc];exact⟨bt ls i,rfl,.inr (.inl (by rw [iC W];simp))⟩
  ·rw [OW hc];refine⟨c,J,?_⟩;rcases h2 with h2 | h2 | h2
   ·exact .inl h2
   ·exact .inr (.inl (by rw [iC W];simp [h2]))
   ·rw [sS Z]at h2;rcases OY.1 h2 with h3 | h3
    ·exact absurd (J.symm.trans (by rw [h3])) hc
    ·exact .inr (.inr h3)
theorem aP.GX {on:Bool}{σ:Nat->Nat}{Θ:Tx}:∀{rs:List Tx} {us:List U},aP (λr u=>TR on u σ Θ r) rs us->Proofs.YtdecokaadekjnaaGreat.dE rs<=kz us
 | [],[],_=>by simp [Proofs.YtdecokaadekjnaaGreat.dE,kz]
 | [],_::_,h=>by have :=h.1;simp at this
 | _::_,[],h=>by have :=h.1;simp at this
 | r::rs,u::us,h=>by
  have H:=(h.2 0 r u rfl rfl).len;have G:=aP.GX (rs:=rs) (us:=us) (on:=on) (σ:=σ) (Θ:=Θ) ⟨by have :=h.1;simpa using this,λi a b ha hb=>h.2 (i+1) a b (by simpa using ha) (by simpa using hb)⟩;rw [dZ];simp only [kz,Pe,PV,OA]at G|-;omega
def xt (on:Bool)(σ:Nat->Nat)(u:U)(o ls A r:Tx):Prop:=
 ∃rs:List Tx,r=joinS 38 (a6 rs)/\aP (λr t=>TR on t (λy=>rnv o ls (asgN (ak u).1 0 σ y)) A r) rs (ak u).2
theorem Ks {n:Nat}(iht:yu n){k:Nat}{σ:Nat->Nat}{u:U}{Θ A o ls:Tx}{ps:List P}{on br:Bool}{bm B:Nat}{vt:Value}{w:World}{R:aB->Sg}
  (hu:Uq u) (hne:(ak u).2≠[]) (hb:∀p∈ps,k+(ak u).1.length+p.rd+p.ow<=64) (hsz:∀p∈ps,p.size<=n) (β:yv k Θ σ u) (ξ:aP (JS k σ u 0) ps (ak u).2) (G:Iw k (ak u).1.length Θ ls A) (ho:o.Perm (iw (ak u).1.length))
  (hm64:(ak u).1.length<=64) (γ:Own B w vt (ps.map T.text)) (hB:bm< B) (ο:MK w bm br on) (htl:kz (ak u).2<=1099511627776+3)
  (h:∀r w',Kp w w' (λg=>g=bm)->MK w' bm (br||(ak u).2.any λt=>decide (5< ax (tl [t]))) on->xt on σ u o ls A r->R r w'):
  Sh 244 #[.pointer (some ⟨bm,0,none⟩),vt,.string (ai o),.string (ai ls),.string (ai A)] w (aw [.s] R):=by
 refine lM _ vt o ls A w R ?_;dsimp only [go_sem];dsimp only [go_sem,UInt8.reduceOfNat,UInt32.reduceOfNat,Nat.reduceAdd];have ς:o.length=(ak u).1.length:=by rw [ho.length_eq,iz]
 have hog:∀c∈o,KW c:=λc hc=>by
  obtain⟨j,h1,rfl⟩:=iD.1 (ho.subset hc);exact xS (by omega)
 have hlen:=ξ.1;have hbm:=ο.lt;have hlu:3* (ak u).2.length<=kz (ak u).2:=by unfold kz;omega
 obtain⟨av,cap,hv⟩:=γ.strs.slice;rw [O3]at hv;refine⟨av,_,cap,hv,λlist x w'=>∃(i:Nat) (rs:List Tx),x=i/\i<=(ak u).2.length/\Kp w w' (λg=>g=bm)/\MK w' bm (br||((ak u).2.take i).any λt=>decide (5< ax (tl [t]))) on/\
   Own w.heap.size w' list rs/\Own B w' vt (ps.map T.text)/\aP (λr t=>TR on t (λy=>rnv o ls (asgN (ak u).1 0 σ y)) A r) rs ((ak u).2.take i),λ _ x _=>((ak u).2.length - x).toNat,?_,λlist x w3 hI=>?_⟩
 ·exact⟨0,[],rfl,by omega,Kp.af (Ex.refl w) _,by simpa using ο,Own.nil _ _,γ,aP.nil⟩
 obtain⟨i,rs,rfl,hi,θ,ι,κ,υ,W⟩:=hI;have hs3:=θ.size;refine⟨λhc=>?_,λhc=>?_⟩
 ·have hc:=O1 hc;have φ:i< ps.length:=by omega
  have μ:i< (ak u).2.length:=by omega
  refine υ.strs.get (Ex.refl w3) (i:=i) (x:=(ps[i]).text) (by omega) (by simp [φ]) ?_;obtain⟨m0,τ,hkm,dp,χ,hgf⟩:=ξ.2 i _ _ (OC φ) (OC μ);have V:(ak u).2[i]∈(ak u).2:=OK _;have ψ:ps[i]∈ps:=OK _;have hbp:=hb _ ψ;have hszp:=hsz _ ψ;generalize hM:max m0 (k+(ak u).1.length)=M;have hM1:m0<=M:=by omega
  have ω:k+(ak u).1.length<=M:=by omega
  have hle:=dp.bd.le;have dM:Den M ps[i] τ (ak u).2[i]:=⟨dp.wf,dp.len,⟨dp.bd.eb.mono hM1,by omega⟩,dp.ae,dp.inj,dp.uq⟩
  have hus:=lv u hu _ V;refine⟨λs j w'=>Ex w3 w'/\∃(j':Nat) (q:P),j=j'/\j'<=o.length/\s=q.text/\No M ps[i] (ak u).2[i] τ Θ o ls j' q,λ _ j _=>(o.length - j).toNat,⟨Ex.refl w3,0,ps[i],rfl,by omega,rfl,?_⟩,λs j w4 hJ=>?_⟩
  ·refine⟨by simpa [rnv]using dM,rfl,λz hz hg=>?_,λy hy=>?_⟩
   ·obtain⟨j,h1,h2⟩:=hgf z hz hg;rw [Qu];exact ho.symm.subset (iD.2 ⟨j,by omega,h2⟩)
   ·simp only [List.take_zero,rnv,Qu];rw [χ y hy];by_cases Z:y∈(ak u).1
    ·obtain⟨j,hj,e⟩:=Py.1 Z;refine⟨gl j,?_,.inr (.inr (ho.symm.subset (iD.2 ⟨j,hj,rfl⟩)))⟩;rw [<-e,jM _ _ _ _ hj (gN u hu),Pa]
    ·rw [jk _ _ _ _ Z];obtain⟨c,h1,h2⟩:=β.cov y ((hus y hy).resolve_right Z);exact⟨c,h2,.inl h1⟩
  obtain⟨H,j',q,rfl,hj,rfl,hq⟩:=hJ;refine⟨λα=>?_,λα=>?_⟩
  ·have α:=O1 α;have hj':j'< o.length:=by omega
   refine⟨λ _=>True,λw5 hw5=>⟨trivial,⟨by omega,by omega⟩,⟨by omega,by rw [G.len];omega⟩,?_⟩⟩;have hx5:Ex w4 w5:=hw5▸Ex.drew w4;have hlq:=G.ok _ (lj (s:=ls) (i:=j') (by rw [G.len];omega));have hbd:=T.AI q;have hqle:=hq.den.bd.le;rw [OO];refine hZ _ (OL _) hq.den.ok hq.den.bd.eb (by omega) hlq.2.2.2 (hlq.2.1.mono ω) λq' w6 J hq'=>⟨trivial,by omega,⟨(H.trans hx5).trans J,j'+1,q',by omega,by omega,rfl,?_⟩,by dsimp only;omega⟩
   exact hq.step (λc hc=>(β.okn c hc).2) G ς hog (by omega) hq'
  ·have α:=O4 α;have ej:j'=o.length:=by omega
   subst ej;have ε:=hq.den;have e1:o.take o.length=o:=O6;have e2:ls.take o.length=ls:=by rw [ς,<-G.len];exact O6
   have ζ:=hq.cov;simp only [e1,e2]at ε ζ;have hm4:=ι.ex H;have hszq:=T.px hq.shp;refine iht (by omega) ε (xB u _ V) (uz u _ V).1 (uz u _ V).2 (λz hz hg=>?_) ⟨G.srt,λc hc=>?_,λy hy=>?_⟩ hm4 λr w5 δ hm5 hr=>?_
   ·have :=hq.gf z hz hg;rw [QL]at this;cases this
   ·rcases(G.mem c).1 hc with h1 | h1
    ·exact⟨(β.okn c h1).1.mono (by omega),(β.okn c h1).2⟩
    ·have :=G.ok c h1;exact⟨this.2.1.mono ω,this.2.2.1⟩
   ·obtain⟨c,h1,h2⟩:=ζ y hy;refine⟨c,(G.mem c).2 ?_,h1⟩;rcases h2 with h2 | h2 | h2
    ·exact .inl h2
    ·exact .inr h2
    ·rw [QL]at h2;cases h2
   ·intro b6 w6 hb6 hw6;have J:Ex w5 w6:=hw6▸Ex.alloc w5 _;have hbl:∀g,list.ownBlock=some g->¬g=bm:=λg hg e=>by have :=(κ.block g hg).1;omega
    have ho5:Own w.heap.size w6 list rs:=((κ.ex H).kp δ hbl).ex J;have z4:=H.size;have z5:=δ.size;have z6:=J.size;have η:rs.length=i:=by rw [W.1,Pm];omega
    refine Own.push ho5 (by omega) (Strs.one hb6 hw6) (by simp only [OA,OS];omega) λv7 w7 ν ho7 hg7 _=>?_
    refine⟨by omega,⟨i+1,rs++[r],by omega,by omega,?_,?_,ho7,?_,?_⟩,by dsimp only;omega⟩
    ·exact Kp.HU (Kp.trans (Kp.trans (Kp.trans θ (Kp.af H _) λ _ _ h=>h) δ λ _ _ h=>h) (Kp.af J _) λ _ _ h=>h) ν (OL _)
    ·have hm6:=(hm5.ex J).below ν hbm;rw [OE μ,List.any_append,<-Qg];simpa using hm6
    ·have hvn:∀g,vt.ownBlock=some g->¬g=bm:=λg hg e=>by have :=(γ.block g hg).1;omega
     exact(((υ.ex H).kp δ hvn).ex J).below ν λg hg=>(γ.block g hg).2
    ·rw [OE μ];refine W.snoc (hr.env λy hy=>?_);show rnv o ls (τ y)=_;rw [χ y hy]
 ·have hc:=O4 hc;have e:i=(ak u).2.length:=by omega
  subst e;rw [O6]at ι W;have η:rs.length=(ak u).2.length:=W.1;have hrs:rs≠[]:=λe=>hne (O' (by rw [<-η,e];rfl))
  refine oR κ.strs (by omega) λv4 w4 H ho4=>?_
  have hsn:a6 rs≠[]:=λe=>hrs (by have :=aR rs;rw [e]at this;exact this.symm.eq_nil)
  have hll:dE rs<=kz (ak u).2:=W.GX;refine uX ho4.strs hsn (by rw [mF (aR rs)];omega) ?_;exact h _ w4 (Kp.trans θ (Kp.af H _) λ _ _ h=>h) (ι.ex H) ⟨rs,rfl,W⟩
end Go.Proofs.YtdecokaadekjnaaGreat
namespace Go.Proofs.YtdecokaadekjnaaGreat
open Classical
structure JD (u:U)(ρ:Rh)(tk:Tk):Prop where
 ok:∀y,u.Us y->tk (ρ y)=true/\lt (ρ y)=true
 inj:∀y z,u.Us y->u.Us z->ρ y=ρ z->y=z
theorem JD.sub {u v:U}{ρ:Rh}{tk:Tk}(h:JD u ρ tk)(G:∀y,v.Us y->u.Us y):JD v ρ tk:=
 ⟨λy H=>h.ok y (G y H),λy z H J=>h.inj y z (G y H) (G z J)⟩
def KJ (u:U)(ρ:Rh)(tk:Tk)(t:P)(v:U):Prop:=
 t.text=LS u ρ tk/\AE UInt8.toNat t (λy=>(ρ y).toNat) v/\t.Al (λc=>lt c=true)/\N8 u v
def G8 (u:U)(ρ:Rh)(tk:Tk)(t:P)(v:U):Prop:=
 t.text=thU u ρ tk/\AE UInt8.toNat t (λy=>(ρ y).toNat) v/\t.Al (λc=>lt c=true)/\NZ u v
theorem NJ {n:Nat}(ih:∀(u:U) (ρ:Rh) (tk:Tk),u.size<=n->Uq u->JD u ρ tk->dC u tk=false->∃t v,KJ u ρ tk t v){t:U}{ρ:Rh}{tk:Tk}(hn:t.size<=n+1)(hu:Uq t)(μ:J3 t=true)
  (ο:t.dH) (hl:t.dead=false) (hm:JD t ρ tk) (hb:thBad (tl [t]) tk=false):∃q w,G8 t ρ tk q w:=by
 cases t with
 | nil=>cases μ
 | par=>cases μ
 | res=>cases μ
 | snd a b p=>
  simp only [T.size]at hn;rw [jl]at hb;obtain⟨q,v,G,h2,H,h4⟩:=ih p ρ tk (by omega) hu.snd (hm.sub λy hy=> .inr (.inr hy)) hb;have γ:∀x,(T.snd a b v).Us x↔(T.snd a b p).Us x:=λx=>or_congr_right (or_congr_right (h4.us x))
  refine⟨.snd (ρ a) (ρ b) q,.snd a b v,?_,⟨rfl,rfl,h2⟩,⟨(hm.ok a (.inl rfl)).2,(hm.ok b (.inr (.inl rfl))).2,H⟩,?_⟩
  ·simp only [T.text,thU,kText,G]
  ·exact⟨rfl,h4.nr,qY (t:=T.snd a b p) h4.uq.nd h4.nr h4.bv (λx=>(γ x).1) hu,h4.bv,γ,λρ tk=>by simp only [thU,h4.ls],λtk=>by rw [jl,jl,h4.bad],by rw [qo,qo,h4.all],by rw [fg,fg,h4.most],h4.smp,rfl⟩
 | tau p=>
  simp only [T.size]at hn;rw [jE]at hb;obtain⟨q,v,G,h2,H,h4⟩:=ih p ρ tk (by omega) hu.tau (hm.sub λy hy=>hy) hb;refine⟨.tau q,.tau v,?_,h2,H,?_⟩
  ·simp only [T.text,thU,kText,G]
  ·exact⟨rfl,h4.nr,qY (t:=T.tau p) h4.uq.nd h4.nr h4.bv (λx=>(h4.us x).1) hu,h4.bv,h4.us,λρ tk=>by simp only [thU,h4.ls],λtk=>by rw [jE,jE,h4.bad],by rw [qv,qv,h4.all],by rw [fe,fe,h4.most],h4.smp,rfl⟩
 | rep p=>
  simp only [T.size]at hn;rw [jH]at hb;obtain⟨q,v,G,h2,H,h4⟩:=ih p ρ tk (by omega) hu.rep (hm.sub λy hy=>hy) hb;have hd:v.dead=false:=by rw [h4.dead];exact hl
  have nr:(T.rep v).Nr:=⟨hd,h4.nr⟩
  refine⟨.rep q,.rep v,?_,h2,H,?_⟩
  ·simp only [T.text,thU,kText,G]
  ·refine⟨rfl,nr,qY (t:=T.rep p) h4.uq.nd nr h4.bv (λx=>(h4.us x).1) hu,h4.bv,h4.us,λρ tk=>by simp only [thU,h4.ls],λtk=>by rw [jH,jH,h4.bad],by rw [qf,qf,h4.all],by rw [fk,fk,h4.most],λhs=>?_,rfl⟩;simp only [T.smp,OD]at hs|-;refine⟨?_,h4.smp hs.2⟩;have:ak p=([],[p]):=by
    have hr:=hs.1;cases p<;>first | rfl | cases hr
   rw [T.zC,h4.tg p this,<-T.zC];exact hs.1
 | mat a b p=>
  simp only [T.size]at hn;have δ:a≠b:=ο;have hd:p.dead=false:=hl;rw [fu]at hb;obtain⟨q,v,G,h2,H,h4⟩:=ih p ρ tk (by omega) hu.mat (hm.sub λy hy=> .inr ⟨δ,hd,.inr (.inr hy)⟩) hb;have η:v.dead=false:=by rw [h4.dead];exact hd
  have ha:=(hm.ok a (.inr ⟨δ,hd,.inl rfl⟩)).2;have ς:=(hm.ok b (.inr ⟨δ,hd,.inr (.inl rfl)⟩)).2;have us:∀x,(T.mat a b v).Us x↔(T.mat a b p).Us x:=λx=>by simp only [T.Us,δ,hd,η,h4.us]
  have υ:∀x,(T.mat b a v).Us x↔(T.mat a b p).Us x:=λx=>by
   simp only [T.Us,δ,δ.symm,hd,η,h4.us,false_and,R7,ne_eq,RH,QN];rw [<-RA,<-RA,or_comm (a:=x=b)]
  by_cases φ:ρ b< ρ a
  ·have nr:(T.mat b a v).Nr:=⟨⟨δ.symm,η⟩,h4.nr⟩
   refine⟨.mat (ρ b) (ρ a) q,.mat b a v,?_,⟨rfl,rfl,h2⟩,⟨ς,ha,H⟩,?_⟩
   ·simp only [T.text,thU,kText,G,Pd φ]
   ·exact⟨rfl,nr,qY (t:=T.mat a b p) h4.uq.nd nr h4.bv (λx=>(υ x).1) hu,h4.bv,υ,λρ tk=>by simp only [thU,h4.ls];exact C5 _ _ _,λtk=>by rw [fu,fu,h4.bad],by rw [jm,jm,h4.all],by rw [dq,dq,h4.most],h4.smp,rfl⟩
  ·have nr:(T.mat a b v).Nr:=⟨⟨δ,η⟩,h4.nr⟩
   refine⟨.mat (ρ a) (ρ b) q,.mat a b v,?_,⟨rfl,rfl,h2⟩,⟨ha,ς,H⟩,?_⟩
   ·simp only [T.text,thU,kText,G,OW φ]
   ·exact⟨rfl,nr,qY (t:=T.mat a b p) h4.uq.nd nr h4.bv (λx=>(us x).1) hu,h4.bv,us,λρ tk=>by simp only [thU,h4.ls],λtk=>by rw [fu,fu,h4.bad],by rw [jm,jm,h4.all],by rw [dq,dq,h4.most],h4.smp,rfl⟩
 | rcv a x p=>
  simp only [T.size]at hn;rw [jG,P8]at hb;obtain⟨f1,f2⟩:=IN hb.1;have hm':JD p (aI ρ x (iT tk)) (cy tk (iT tk)):=by
   refine⟨λy hy=>?_,λy z hy J e=>?_⟩
   ·by_cases e:y=x
    ·subst e;simp [aI,cy,f2]
    ·obtain⟨k1,k2⟩:=hm.ok y (.inr ⟨e,hy⟩);simp [aI,e,cy,k1,k2]
   ·by_cases g1:y=x<;>by_cases g2:z=x
    ·rw [g1,g2]
    ·simp only [aI,Pd g1,OW g2]at e;have :=(hm.ok z (.inr ⟨g2,J⟩)).1;rw [<-e,f1]at this;cases this
    ·simp only [aI,OW g1,Pd g2]at e;have :=(hm.ok y (.inr ⟨g1,hy⟩)).1;rw [e,f1]at this;cases this
    ·simp only [aI,OW g1,OW g2]at e;exact hm.inj y z (.inr ⟨g1,hy⟩) (.inr ⟨g2,J⟩) e
  obtain⟨q,v,G,h2,H,h4⟩:=ih p _ _ (by omega) hu.rcv hm' hb.2;have γ:∀y,(T.rcv a x v).Us y↔(T.rcv a x p).Us y:=λy=>or_congr_right (and_congr_right λ _=>h4.us y)
  have nr:(T.rcv a x v).Nr:=h4.nr;have ν:(BV (T.rcv a x v)).Nodup:=PJ.2 ⟨λhx=>hu.lL (h4.bv x hx),h4.uq.nd⟩;have ζ:∀y∈BV (T.rcv a x v),y∈BV (T.rcv a x p):=λy hy=>by
   rcases OY.1 hy with rfl | hy
   ·exact Pt ..
   ·exact OU _ (h4.bv y hy)
  refine⟨.rcv (ρ a) (iT tk) q,.rcv a x v,?_,⟨rfl,λn=>AE.K8 (λz J e=>?_) h2 n⟩,⟨(hm.ok a (.inl rfl)).2,f2,H⟩,?_⟩
  ·simp only [T.text,thU,kText,G]
  ·intro hc;have :=(hm.ok z (.inr ⟨e,(h4.us z).1 (h4.nr.iH J)⟩)).1;rw [hc,f1]at this;cases this
  ·exact⟨rfl,nr,qY ν nr ζ (λx=>(γ x).1) hu,ζ,γ,λρ tk=>by simp only [thU,h4.ls],λtk=>by rw [jG,jG,h4.bad],by rw [qt,qt,h4.all],by rw [fv,fv,h4.most],h4.smp,rfl⟩
 | sum p q=>
  simp only [T.size]at hn;obtain⟨hd1,hd2⟩:p.dead=false/\q.dead=false:=ο;have eS:an (T.sum p q)=an p++an q:=rfl;have χ:∀u∈an (T.sum p q),u.size<=n:=λu α=>by
   rw [eS]at α;rcases OM.1 α with h | h
   ·have :=mS p u h;omega
   ·have :=mS q u h;omega
  have ψ:∀u∈an (T.sum p q),dC u tk=false:=by
   rw [(fI (w:=T.sum p q) rfl ρ tk).2]at hb;simp only [thBad,Q3,xy]at hb;simpa [List.any_eq_false]using hb
  obtain⟨zs,z1,z2⟩:=triples (R:=λu=>KJ u ρ tk) (l:=an (T.sum p q)) λu α=>
   ih u ρ tk (χ u α) (xW hu u α) (hm.sub λy hy=>(mX _ hu y).2 ⟨u,α,hy⟩) (ψ u α)
  obtain⟨V,y1,y2⟩:=wE zs λz=>z.2.1.text
  have Z:(V.map (·.1)).Perm (an (T.sum p q)):=z1▸y1.map _;have J:∀z∈V,KJ z.1 ρ tk z.2.1 z.2.2:=λz J=>z2 z (y1.subset J)
  have W:∀z∈V,z.1∈an (T.sum p q):=λz J=>Z.subset (Qj J)
  have hlen:2<=V.length:=by
   have l1:(an p).length≠0:=λe=>pA hd1 hu.eD (O' e)
   have l2:(an q).length≠0:=λe=>pA hd2 hu.dV (O' e)
   have :=Z.length_eq;rw [O3,eS,OG]at this;omega
  have θ:V≠[]:=λe=>by rw [e]at hlen;simp at hlen
  have ε:(T.dI (V.map (·.2.2))).isS=true/\(T.dI (V.map (·.2.2))).th=true/\(T.dI (V.map (·.2.2))).tg=4:=by
   match V,hlen with
   | a::b::l,_=>exact⟨rfl,rfl,rfl⟩
   | [a],h=>simp at h
   | [],h=>simp at h
  have ω:∀v∈V.map (·.2.2),v.dead=false/\v.isS=false/\v.Nr:=λv hv=>by
   obtain⟨z,G,rfl⟩:=Pp.1 hv;have ha:=(J z G).2.2.2;refine⟨?_,ha.isS (FT _ hu z.1 (W z G)),ha.nr⟩;rw [ha.dead];cases hd:z.1.dead with
   | false=>rfl
   | true=>
    have hcp:∀u:U,∀t∈an u,t.dead=false:=F9;exact absurd (hcp _ _ (W z G)) (by rw [hd];simp)
  have ι:=(T.Ew (l:=V.map (·.2.2)) (by simpa using θ) ω)
  have ζ:∀x∈BV (T.dI (V.map (·.2.2))),x∈BV (T.sum p q):=λx hx=>by
   rw [xC]at hx;obtain⟨v,G,h2⟩:=Pz.1 hx;obtain⟨z,H,rfl⟩:=Pp.1 G;exact BF _ z.1 (W z H) x ((J z H).2.2.2.bv x h2)
  have γ:∀x,(T.dI (V.map (·.2.2))).Us x↔(T.sum p q).Us x:=λx=>by
   rw [T.EM,mX _ hu];constructor
   ·rintro⟨v,G,h2⟩
    obtain⟨z,H,rfl⟩:=Pp.1 G;exact⟨z.1,W z H,((J z H).2.2.2.us x).1 h2⟩
   ·rintro⟨u,G,h2⟩
    obtain⟨z,H,rfl⟩:=Pp.1 (Z.symm.subset G);exact⟨_,Qj H,((J z H).2.2.2.us x).2 h2⟩
  have ν:(BV (T.dI (V.map (·.2.2)))).Nodup:=by
   rw [xC,RZ];refine qM (f:=λz=>BV z.1) ?_ λz h=>⟨(J z h).2.2.2.uq.nd,(J z h).2.2.2.bv⟩
   have hp:=(Z.flatMap_right BV)
   rw [RZ]at hp;exact hp.nodup_iff.2 (Gi _ hu)
  have huq:=qY ν ι.1 ζ (λx=>(γ x).1) hu;have κ:an (T.dI (V.map (·.2.2)))=V.map (·.2.2):=by
   rw [eQ huq ι.1 ι.2,T.Ae (by simpa using θ) λt ht=>(ω t ht).2.1]
  have ξ:∀{β:Type} (g:U->β),(∀z∈V,g z.2.2=g z.1)->((V.map (·.2.2)).map g).Perm ((an (T.sum p q)).map g):=λg hg=>by
   have e:(V.map (·.2.2)).map g=(V.map (·.1)).map g:=by
    rw [Qq,Qq];exact P1 hg
   rw [e];exact Z.map g
  refine⟨T.dI (V.map (·.2.1)),T.dI (V.map (·.2.2)),?_,AE.dI λz h=>(J z h).2.1,Ey λt ht=>?_,?_⟩
  ·rw [T.wU (by simpa using θ),Qq,(fI (w:=T.sum p q) rfl ρ tk).1];have e:V.map (T.text∘λz=>z.2.1)=a6 (zs.map λz=>z.2.1.text):=y2;rw [e]
   congr 2
   rw [<-z1,Qq];exact P1 λz h=>(z2 z h).1
  ·obtain⟨z,G,rfl⟩:=Pp.1 ht;exact(J z G).2.2.1
  ·refine⟨ε.2.1,ι.1,huq,ζ,γ,λρ tk=>?_,λtk=>?_,?_,?_,λhs=>?_,ε.2.2⟩
   ·rw [(fI ε.1 ρ tk).1,(fI (w:=T.sum p q) rfl ρ tk).1,κ]
    congr 1
    exact mz (ξ _ λz h=>(J z h).2.2.2.ls ρ tk)
   ·rw [(fI ε.1 ρ tk).2,(fI (w:=T.sum p q) rfl ρ tk).2,κ];simp only [thBad,Q3,xy];have G:=As (f:=λb:Bool=>b) (ξ (λu=>dC u tk) λz h=>(J z h).2.2.2.bad tk);simpa [List.any_map,Function.comp_def]using G
   ·rw [(fI ε.1 ρ tk).2,(fI (w:=T.sum p q) rfl ρ tk).2,κ];simp only [thAll,Ri,HI];exact jt (ξ cN λz h=>(J z h).2.2.2.all)
   ·rw [(fI ε.1 ρ tk).2,(fI (w:=T.sum p q) rfl ρ tk).2,κ];refine DN λk=>?_
    simp only [ax,Nat.max_zero,xJ];constructor
    ·intro h u α;obtain⟨z,H,rfl⟩:=Pp.1 (Z.symm.subset α);rw [<-(J z H).2.2.2.most];exact h _ (Qj H)
    ·intro h v hv;obtain⟨z,H,rfl⟩:=Pp.1 hv;rw [(J z H).2.2.2.most];exact h _ (W z H)
   ·have hg:=yD (T.sum p q) rfl hs;refine(He (by simpa using θ) λt ht=>?_).1;obtain⟨z,G,rfl⟩:=Pp.1 ht;have ha:=(J z G).2.2.2;have hgz:=hg z.1 (W z G);refine⟨ha.smp (Ip _ hs z.1 (W z G)),?_⟩;rw [T.Ag,ha.tg z.1 hgz.2,OQ];rcases hgz.1 with h | h | h<;>omega
theorem pf {u:U}(hu:Uq u)(hd:u.dead=true):(∀ρ tk,LS u ρ tk=[48])/\(∀tk,dC u tk=false)/\cN u=0/\bn u=0:=by
 have G:=mN hd;have h2:(td u).1=[]:=by
  have :=(gw u hu).2.1;rw [dt u hu hd]at this;exact this.eq_nil
 refine⟨λρ tk=>?_,λtk=>?_,?_,?_⟩
 ·simp [LS,aU,G,thS]
 ·simp [dC,fO,G,Lv.isNil]
 ·simp [cN,G,h2,thAll]
 ·simp [bn,G,h2,ax]
theorem arr:∀(n:Nat) (u:U) (ρ:Rh) (tk:Tk),u.size<=n->Uq u->JD u ρ tk->dC u tk=false->∃t v,KJ u ρ tk t v:=by
 intro n
 induction n with
 | zero=>intro u ρ tk h;cases u<;>simp [T.size]at h
 | succ n ih=>
  intro u ρ tk hn hu hm hb;cases hd:u.dead with
  | true=>
   obtain⟨d1,d2,d3,d4⟩:=pf hu hd;have χ:Uq .nil:=⟨Qd,λx h=>by cases h⟩
   obtain⟨e1,e2,e3,e4⟩:=pf χ rfl;refine⟨.nil,.nil,by rw [d1];rfl,trivial,trivial,trivial,χ,λx h=>(by cases h),λx=>⟨λh=>h.elim,λh=>absurd h (T.bL hd)⟩,λρ tk=>by rw [d1,e1],λtk=>by rw [d2,e2],by rw [d3,e3],by rw [d4,e4],hd.symm,λ _=>rfl,λt W=>?_,λ _=>rfl⟩;rw [dt u hu hd]at W;cases W
  | false=>
   have ψ:=zu hd hu;obtain⟨g1,g2,_⟩:=gw u hu;have hlen:(td u).1.length=(ak u).1.length:=g2.length_eq;have ω:(td u).2.isNil=false:=by rw [dK,hd]
   simp only [dC,fO,ω,Bool.not_false,Qx,P8,hlen]at hb;obtain⟨hb1,δ⟩:=hb;rw [g1,tc]at δ;have δ:∀t∈(ak u).2,thBad (tl [t]) (addK (lets (ak u).1.length tk) tk)=false:=by simpa [List.any_eq_false]using δ
   obtain⟨l1,l2⟩:=wJ _ tk hb1;have hls:=fQ (ak u).1.length tk;generalize hl:lets (ak u).1.length tk=ls at*;have hLS:LS u ρ tk=wrap ls (bN ((perms (ak u).1).map λπ=>joinS 38 (a6 ((ak u).2.map λt=>thU t (asg π ls ρ) (addK ls tk))))):=by
    rw [xM hu];unfold aU;rw [OW (by simpa using ψ)];show wrap (lets _ tk) (bN (List.map (λπ=>joinS 38 (a6 ((ak u).2.map λt=>thU t (asg π (lets _ tk) ρ) (addK (lets _ tk) tk)))) _))=_;rw [hl]
   obtain⟨hmem,_⟩:=cL (l:=(perms (ak u).1).map λπ=>joinS 38 (a6 ((ak u).2.map λt=>thU t (asg π ls ρ) (addK ls tk)))) (by simpa using pI _);obtain⟨π,G,μ⟩:=Pp.1 hmem;have G:=(dc _ π).1 G;have α:π.length=ls.length:=by rw [G.length_eq,hls]
   have ν:=JN u hu;have η:π.Nodup:=G.nodup_iff.2 (Pj.1 ν).1;have hmt:∀t∈(ak u).2,JD t (asg π ls ρ) (addK ls tk):=by
    intro t W;have ξ:∀y,t.Us y->y∈π\/(y∉π/\u.Us y):=λy hy=>by
     by_cases hp:y∈π
     ·exact .inl hp
     ·exact .inr ⟨hp,(lv u hu t W y hy).resolve_right λh=>hp (G.symm.subset h)⟩
    refine⟨λy hy=>?_,λy z hy J e=>?_⟩
    ·rw [ze];rcases ξ y hy with h | ⟨h,h'⟩
     ·have :=fK π ls ρ y h α;exact⟨by simp [this],(l2 _ this).2⟩
     ·rw [bV π ls ρ y h];exact⟨by simp [(hm.ok y h').1],(hm.ok y h').2⟩
    ·rcases ξ y hy with h | ⟨h,h'⟩<;>rcases ξ z J with k | ⟨k,k'⟩
     ·exact zj π ls ρ y z h k α l1 e
     ·rw [bV π ls ρ z k]at e;have :=(l2 _ (fK π ls ρ y h α)).1;rw [e,(hm.ok z k').1]at this;cases this
     ·rw [bV π ls ρ y h]at e;have :=(l2 _ (fK π ls ρ z k α)).1;rw [<-e,(hm.ok y h').1]at this;cases this
     ·rw [bV π ls ρ y h,bV π ls ρ z k]at e;exact hm.inj y z h' k' e
   obtain⟨zs,z1,z2⟩:=triples (R:=λu=>G8 u (asg π ls ρ) (addK ls tk)) (l:=(ak u).2) λt W=>
    NJ ih (by have :=CV u t W;omega) (G9 hu t W) (xB u t W) (uz u t W).1 (uz u t W).2 (hmt t W) (δ t W)
   obtain⟨V,y1,y2⟩:=wE zs λz=>z.2.1.text
   have H:(V.map (·.1)).Perm (ak u).2:=z1▸y1.map _;have J:∀z∈V,G8 z.1 (asg π ls ρ) (addK ls tk) z.2.1 z.2.2:=λz J=>z2 z (y1.subset J)
   have Z:∀z∈V,z.1∈(ak u).2:=λz J=>H.subset (Qj J)
   have γ:V≠[]:=λe=>ψ (by have :=H;rw [e]at this;exact this.symm.eq_nil)
   have ε:∀w∈V.map (·.2.2),w.th=true/\w.Nr:=λw hw=>by
    obtain⟨z,h1,rfl⟩:=Pp.1 hw;exact⟨(J z h1).2.2.2.th,(J z h1).2.2.2.nr⟩
   have θ:∀x,(T.parL (V.map (·.2.2))).Us x↔∃t∈(ak u).2,t.Us x:=λx=>by
    rw [T.sF];constructor
    ·rintro⟨v,h1,h2⟩
     obtain⟨z,h3,rfl⟩:=Pp.1 h1;exact⟨z.1,Z z h3,((J z h3).2.2.2.us x).1 h2⟩
    ·rintro⟨u',h1,h2⟩
     obtain⟨z,h3,rfl⟩:=Pp.1 (H.symm.subset h1);exact⟨_,Qj h3,((J z h3).2.2.2.us x).2 h2⟩
   have ι:=T.DA ε;have ο:(T.resL π (T.parL (V.map (·.2.2)))).Nr:=T.DV ι.1 η λx hx=>(θ x).2 (Bu u hu x (G.subset hx))
   have ς:∀x,(T.resL π (T.parL (V.map (·.2.2)))).Us x↔u.Us x:=λx=>by
    rw [T.kh,θ];constructor
    ·rintro⟨h1,t,h2,h3⟩
     exact(lv u hu t h2 x h3).resolve_right λh=>h1 (G.symm.subset h)
    ·intro h;exact⟨λhx=>hu.nf x (iM u x (G.subset hx)) (T.bI h),HY u x h⟩
   have hbv:∀x∈BV (T.resL π (T.parL (V.map (·.2.2)))),x∈BV u:=λx hx=>by
    rw [gJ,gD]at hx;rcases OM.1 hx with hx | hx
    ·exact iM u x (G.subset hx)
    ·obtain⟨v,h1,h2⟩:=Pz.1 hx;obtain⟨z,h3,rfl⟩:=Pp.1 h1;exact Ep _ z.1 (Z z h3) x ((J z h3).2.2.2.bv x h2)
   have hndv:(BV (T.resL π (T.parL (V.map (·.2.2))))).Nodup:=by
    rw [gJ,gD,RZ];have hp:=(H.flatMap_right BV)
    rw [RZ]at hp;have hnd':(V.flatMap λz=>BV z.1).Nodup:=hp.nodup_iff.2 (Pj.1 ν).2.1;refine Pj.2 ⟨η,qM (f:=λz=>BV z.1) hnd' λz h=>⟨(J z h).2.2.2.uq.nd,(J z h).2.2.2.bv⟩,λa ha b hb=>?_⟩;obtain⟨z,h1,h2⟩:=Pz.1 hb;exact(Pj.1 ν).2.2 a (G.subset ha) b (Pz.2 ⟨z.1,Z z h1,(J z h1).2.2.2.bv b h2⟩)
   have ζ:=qY hndv ο hbv (λx=>(ς x).1) hu;have κ:ak (T.resL π (T.parL (V.map (·.2.2))))=(π,V.map (·.2.2)):=by
    rw [C7 ζ ο,T.Bf,T.Bk,T.AX λt W=>(ε t W).1,T.HZ λt W=>(ε t W).1,Ph]
   have υ:∀{β:Type} (g:U->β),(∀z∈V,g z.2.2=g z.1)->((V.map (·.2.2)).map g).Perm ((ak u).2.map g):=λg hg=>by
    have e:(V.map (·.2.2)).map g=(V.map (·.1)).map g:=by
     rw [Qq,Qq];exact P1 hg
    rw [e];exact H.map g
   obtain⟨k1,k2,_⟩:=gw _ ζ;rw [κ]at k1 k2;have hdv:(T.resL π (T.parL (V.map (·.2.2)))).dead=false:=by
    rw [lE,k1]
    match V,γ,ε with
    | z::l,_,h=>
     have :=(h z.2.2 (by simp)).1;intro hh;revert hh this;simp only [Pe];cases z.2.2<;>simp [tl,Lv.len,T.th]
   have φ:(td (T.resL π (T.parL (V.map (·.2.2))))).1.length=(td u).1.length:=by rw [k2.length_eq,G.length_eq,hlen]
   refine⟨T.resL ls (T.parL (V.map (·.2.1))),T.resL π (T.parL (V.map (·.2.2))),?_,?_,?_,ο,ζ,hbv,ς,λρ tk=>?_,λtk=>?_,?_,?_,by rw [hdv,hd],λhs=>?_,λt W=>?_,λhns=>?_⟩
   ·rw [T.qh,hLS,<-μ,T.qk (by simpa using γ),Qq];have e:V.map (T.text∘λz=>z.2.1)=a6 (zs.map λz=>z.2.1.text):=y2;rw [e,<-z1,Qq]
    congr 3
    exact P1 λz h=>(z2 z h).1
   ·refine AE.H7 π ls ρ α l1 (λz hz' hzp hc=>?_) (AE.parL λz h=>(J z h).2.1);have hzu:u.Us z:=(ς z).1 (T.kh.2 ⟨hzp,ι.1.iH hz'⟩);have :=(l2 _ hc).1;rw [(hm.ok z hzu).1]at this;cases this
   ·refine EP (DE λt W=>?_) λc hc=>(l2 c hc).2
    obtain⟨z,h1,rfl⟩:=Pp.1 W;exact(J z h1).2.2.1
   ·rw [xM ζ,xM hu,κ];exact mv G (λρ tk=>υ (λt=>thU t ρ tk) λz h=>(J z h).2.2.2.tx ρ tk) ρ tk
   ·unfold dC fO;rw [φ,dK,dK,hdv,hd,k1,g1]
    congr 2
    rw [tc,tc];have h1:=As (f:=λb:Bool=>b) (υ (λt=>thBad (tl [t]) (addK (lets (td u).1.length tk) tk)) λz h=>(J z h).2.2.2.bad _);simpa [List.any_map,Function.comp_def]using h1
   ·unfold cN;rw [φ,k1,g1,CP,CP (ak u).2]
    congr 1
    exact jt (υ (λt=>thAll (tl [t])) λz h=>(J z h).2.2.2.all)
   ·unfold bn;rw [φ,k1,g1]
    congr 1
    refine DN λk=>?_
    rw [sD,sD];constructor
    ·intro h t W;obtain⟨z,h3,rfl⟩:=Pp.1 (H.symm.subset W);rw [<-(J z h3).2.2.2.most];exact h _ (Qj h3)
    ·intro h v hv;obtain⟨z,h3,rfl⟩:=Pp.1 hv;rw [(J z h3).2.2.2.most];exact h _ (Z z h3)
   ·rw [uN];refine uH λt W=>?_
    obtain⟨z,h1,rfl⟩:=Pp.1 W;exact(J z h1).2.2.2.smp (I7 u hs z.1 (Z z h1))
   ·rw [W]at G H;have e1:π=[]:=G.eq_nil;have e2:=H.length_eq;rw [O3]at e2
    match V,e2,H,J with
    | [z],_,hs,J=>
     have:z.1=t:=by simpa using hs
     subst this;rw [e1];exact(J z (by simp)).2.2.2.tg
   ·cases hp:π with
    | cons x l=>rfl
    | nil=>
     rw [hp]at G;have e0:(ak u).1=[]:=G.symm.eq_nil
     match V,γ,H,J with
     | [z],_,hs,J=>
      have e1:(ak u).2=[z.1]:=by
       have :=List.perm_singleton.1 hs.symm;simpa using this
      show z.2.2.isS=false;have htg:=(J z (by simp)).2.2.2.tg;rw [T.IL,htg,<-T.IL];cases hz1:z.1<;>first | rfl | skip
      rename_i p q;exact absurd (Prod.ext e0 (by rw [e1,hz1])) (hns p q)
     | z::y::l,_,_,_=>rfl
end Go.Proofs.YtdecokaadekjnaaGreat
namespace Go.Proofs.YtdecokaadekjnaaGreat
open Go Go.RowKit
theorem wC:∀(n:Nat) (tk:Tk),lets (n+1) tk=lets n tk++[iT (addK (lets n tk) tk)]
 | 0,tk=>rfl
 | n+1,tk=>by
  rw [lets,wC n,lets];rfl
theorem pX:∀(n:Nat) (tk:Tk),gH (n+1) tk=(gH n tk||(we (addK (lets n tk) tk)).isNone)
 | 0,tk=>by simp [gH,lets,addK]
 | n+1,tk=>by
  rw [gH,pX n,gH];rw [lets,addK,Qg]
theorem fR:∀(l:List UInt8) (s:Tx),(wrap l s).length=3* l.length+s.length
 | [],s=>by simp [wrap]
 | c::l,s=>by simp only [wrap,OA,fR l s];omega
theorem tA:∀{l:List UInt8} (s:Tx),(∀c∈l,¬c=35)->(wrap l s).count 35=l.length+s.count 35
 | [],s,_=>by simp [wrap]
 | c::l,s,h=>by
  have G:=tA (l:=l) s λc hc=>h c (OU _ hc)
  simp only [wrap,OA];rw [List.count_cons,bw (h c (by simp)),bw (by decide),G];simp;omega
theorem po:∀{l:List UInt8} {s:Tx} {c:UInt8},(c∈l\/c∈s)->c∈wrap l s
 | [],s,c,h=>by simpa [wrap]using h
 | d::l,s,c,h=>by
  simp only [wrap,OY];rcases h with h | h
  ·rcases OY.1 h with h | h
   ·exact .inr (.inl h)
   ·exact .inr (.inr (.inr (po (.inl h))))
  ·exact .inr (.inr (.inr (po (.inr h))))
theorem gV {k m:Nat}{Θ ls A:Tx}(h:Iw k m Θ ls A):cP A=addK ls (cP Θ):=by
 funext c
 rw [ze,cP,cP,PH];simp only [OQ,Qb];exact h.mem c
structure K1 (k i:Nat)(Θ ls A:Tx):Prop where
 ok:Iw k i Θ ls A
 good:gH i (cP Θ)=false->ls=lets i (cP Θ)
 bad:gH i (cP Θ)=true->∃c∈ls,128<=c
theorem K1.zero {k:Nat}{Θ:Tx}(h:jb Θ):K1 k 0 Θ [] Θ:=
 ⟨⟨rfl,Qd,λc hc=>(by cases hc),h,λc=>by simp⟩,λ _=>rfl,λh=>by simp [gH]at h⟩
theorem K1.snoc {k i:Nat}{Θ ls A W:Tx}{c:UInt8}(h:K1 k i Θ ls A)(hc:BY (k+i) A c)(Z:jb W)(hA:∀x,x∈W↔x=c\/x∈A):K1 k (i+1) Θ (ls++[c]) W:=by
 have J:c∉ls:=λhm=>hc.nin ((h.ok.mem c).2 (.inr hm))
 have V:c∉Θ:=λhm=>hc.nin ((h.ok.mem c).2 (.inl hm))
 refine⟨⟨by simp [h.ok.len],?_,λd hd=>?_,Z,λd=>?_⟩,λhb=>?_,λhb=>?_⟩
 ·refine Pj.2 ⟨h.ok.nd,by simp,λa ha b hb e=>?_⟩;have:b=c:=by simpa using hb
  subst this;subst e;exact J ha
 ·rcases OM.1 hd with hd | hd
  ·have :=h.ok.ok d hd;exact⟨this.1,this.2.1.mono (by omega),this.2.2⟩
  ·have:d=c:=by simpa using hd
   subst this;exact⟨V,by rw [<-Q4];exact hc.okn,hc.ngr,hc.nm⟩
 ·rw [hA,h.ok.mem,OM,OJ];constructor
  ·rintro(h | h | h)
   ·exact .inr (.inr h)
   ·exact .inl h
   ·exact .inr (.inl h)
  ·rintro(h | h | h)
   ·exact .inr (.inl h)
   ·exact .inr (.inr h)
   ·exact .inl h
 ·rw [pX,P8]at hb;have e:=h.good hb.1;rw [wC,<-e]
  congr 2
  have G:=hb.2;rw [<-e,<-gV h.ok]at G;rw [<-gV h.ok];exact hc.good G
 ·rw [pX,Qb]at hb;cases H:gH i (cP Θ)with
  | true=>
   obtain⟨d,h1,h2⟩:=h.bad H;exact⟨d,by simp [h1],h2⟩
  | false=>
   rw [H]at hb;have G:=hb.resolve_left (by simp);rw [<-h.good H,<-gV h.ok]at G;exact⟨c,by simp,hc.bad G⟩
theorem xh:∀n,n<=90->(iw n).Nodup
 | 0,_=>Qd
 | n+1,h=>by
  rw [BU];refine Pj.2 ⟨xh n (by omega),by simp,λa ha b hb e=>?_⟩;have hb:b=gl n:=by simpa using hb
  obtain⟨j,hj,G⟩:=iD.1 ha;have :=yq (by omega) (by omega) (G.symm.trans (e.trans hb));omega
structure ED (on:Bool)(σ:Nat->Nat)(u:U)(Lo:List Tx)(ls A best:Tx):Prop where
 mem:∃o∈Lo,xt on σ u o ls A best
 le:∀o∈Lo,∃r,xt on σ u o ls A r/\jI best r=true
theorem xt.ne {on:Bool}{σ:Nat->Nat}{u:U}{o ls A r:Tx}(h:xt on σ u o ls A r)(G:(ak u).2≠[]):r≠[]:=by
 obtain⟨rs,rfl,ha⟩:=h;have H:=aR rs;refine Ax (λs J=>?_) λe=>G (O' ?_)
 ·obtain⟨t,_,V⟩:=ha.get' (H.subset J);exact V.ne
 ·rw [e]at H;rw [<-ha.1,H.symm.eq_nil];rfl
theorem xt.text {k:Nat}{σ:Nat->Nat}{u:U}{Θ o ls A r:Tx}{π:List Nat}(h:xt false σ u o ls A r)(hu:Uq u)(W:yv k Θ σ u)(Z:Iw k (ak u).1.length Θ ls A)(H:π.Perm (ak u).1)
  (ho:o.map UInt8.toNat=π.map (asgN (ak u).1 0 σ)) (J:o.Perm (iw (ak u).1.length)) (hm:(ak u).1.length<=64) (V:∀t∈(ak u).2,ax (tl [t])<=5) (α:∀t∈(ak u).2,thBad (tl [t]) (cP A)=false) {ρ:Rh} (hc:Compat ρ σ u):
  r=joinS 38 (a6 ((ak u).2.map λt=>thU t (asg π ls ρ) (cP A))):=by
 obtain⟨rs,rfl,ha⟩:=h
 congr 2
 have γ:∀y∈(ak u).1,∀z∈(ak u).1,asgN (ak u).1 0 σ z=asgN (ak u).1 0 σ y->z=y:=by
  intro y hy z hz e;obtain⟨i,hi,rfl⟩:=Py.1 hy;obtain⟨j,hj,rfl⟩:=Py.1 hz;rw [jM _ _ _ _ hi (gN u hu),jM _ _ _ _ hj (gN u hu),Pa,Pa]at e;have :=yq (by omega) (by omega) (O8.1 e);subst this;rfl
 have δ:o.Nodup:=J.nodup_iff.2 (xh _ (by omega));have :=aP.map_eq (f:=λr:Tx=>r) (g:=λt=>thU t (asg π ls ρ) (cP A)) (ha.mono λr t _ ht hw=>hw.eq (V t ht) rfl (α t ht) (asg π ls ρ) λy hy=>?_)
 ·simpa using this
 ·show(asg π ls ρ y).toNat=rnv o ls (asgN (ak u).1 0 σ y);by_cases G:y∈(ak u).1
  ·refine(DW π o ls _ ρ y ho (by rw [H.length_eq,Z.len]) (λl hl ε=>?_) (H.symm.subset G) (λz hz e=>γ y G z (H.subset hz) e) δ).symm;obtain⟨j,h1,rfl⟩:=iD.1 (J.subset ε);exact eK (Z.ok _ hl).2.2.1 (xS (by omega))
  ·have β:=(lv u hu t ht y hy).resolve_right G;rw [bV π ls ρ y λh=>G (H.subset h),jk _ _ _ _ G,xU,hc y β];intro o' ζ e;obtain⟨c,h1,h2⟩:=W.cov y β;obtain⟨j,h3,rfl⟩:=iD.1 (J.subset ζ);have:c=gl j:=O8.1 (h2.trans e);exact eK (W.okn c h1).2 (this▸xS (by omega))
theorem sA {u:U}(hu:Uq u):bn u<=5->(ak u).1.length<=5/\∀t∈(ak u).2,ax (tl [t])<=5:=by
 intro h;obtain⟨G,h2,_⟩:=gw u hu;unfold bn at h;rw [G,h2.length_eq]at h;exact⟨by omega,(sD _ _).1 (by omega)⟩
theorem Ar {u:U}(hu:Uq u):decide (5< bn u)=(decide (5< (ak u).1.length)||(ak u).2.any λt=>decide (5< ax (tl [t]))):=by
 rw [PH,Qb,OQ,OQ,QK];constructor
 ·intro h;rcases Qi 5 (ak u).1.length with G | G
  ·exact .inl G
  ·right;refine PE λV=>?_
   have h2:∀t∈(ak u).2,ax (tl [t])<=5:=λt Z=>by
    rcases Qi 5 (ax (tl [t]))with H | H
    ·exact absurd ⟨t,Z,PG H⟩ V
    ·exact H
   obtain⟨W,J,_⟩:=gw u hu;unfold bn at h;rw [W,J.length_eq]at h;have :=(sD (ak u).2 5).2 h2;omega
 ·intro h;refine PE λV=>?_
  obtain⟨W,J⟩:=sA hu (by omega);rcases h with h | ⟨t,G,h2⟩
  ·omega
  ·have :=J t G;have :=O1 h2;omega
theorem WR.JX {on:Bool}{k:Nat}{σ:Nat->Nat}{u:U}{Θ ls A best:Tx}{Lo:List Tx}(hu:Uq u)(V:(ak u).2≠[])(γ:yv k Θ σ u)(hl:K1 k (ak u).1.length Θ ls A)(hm:(ak u).1.length<=64)
  (δ:∀o∈Lo,o.Perm (iw (ak u).1.length)) (ε:on=false->∀o,o.Perm (iw (ak u).1.length)->o∈Lo) (h:ED on σ u Lo ls A best):WR on u σ Θ (wrap ls best):=by
 obtain⟨o0,ζ,hN⟩:=h.mem;have η:=hN.ne V;obtain⟨rs,G,ha⟩:=hN;have H:=hl.ok;have hp:=aR rs;have ι:rs≠[]:=λe=>V (O' (by rw [<-ha.1,e];rfl))
 have κ:a6 rs≠[]:=λe=>ι (by rw [e]at hp;exact hp.symm.eq_nil)
 have μ:∀c∈ls,¬c=35:=λc hc=>kB (H.ok c hc).2.2.2
 obtain⟨g1,g2,_⟩:=gw u hu;have W:(td u).2.isNil=false:=by
  rw [dK];cases hd:u.dead with
  | false=>rfl
  | true=>rw [dt u hu hd]at V;exact absurd rfl V
 refine⟨λe=>?_,?_,λhM=>?_,λhM α hb=>?_,λhM α hb ρ hc=>?_⟩
 ·have :=fR ls best;rw [e]at this;have h2:best.length≠0:=λe=>η (O' e)
  simp at this;omega
 ·have J:=oN 38 _ κ;have h2:=mF hp;have h3:=ha.GX;have h4:=gj u;rw [fR,H.len,G];omega
 ·obtain⟨m1,m2⟩:=sA hu hM;rw [tA _ μ,H.len,G,mh (by decide),jt (hp.map _)];unfold cN;rw [g1,g2.length_eq,CP]
  congr 2
  exact aP.map_eq (ha.mono λr t _ ht hw=>hw.cnt (m2 t ht))
 ·obtain⟨m1,m2⟩:=sA hu hM;unfold dC fO at hb;rw [W,g2.length_eq]at hb;simp only [Bool.not_false,Qx,Qb]at hb;cases β:gH (ak u).1.length (cP Θ)with
  | true=>
   obtain⟨c,J,h2⟩:=hl.bad β;exact⟨c,po (.inl J),h2⟩
  | false=>
   rw [β]at hb;have hb:=hb.resolve_left (by simp);rw [<-hl.good β,<-gV H,g1,tc,QK]at hb;obtain⟨t,J,h2⟩:=hb;obtain⟨r,h3,h4⟩:=ha.get J;obtain⟨c,h5,h6⟩:=h4.bad (m2 t J) α h2;refine⟨c,po (.inr ?_),h6⟩;rw [G];exact pZ (hp.symm.subset h3) h5
 ·obtain⟨m1,m2⟩:=sA hu hM;subst α;unfold dC fO at hb;rw [W,g2.length_eq]at hb;simp only [Bool.not_false,Qx,P8]at hb;have e:=hl.good hb.1;have Z:=hb.2;rw [<-e,<-gV H,g1,tc,List.any_eq_false]at Z;have Z:∀t∈(ak u).2,thBad (tl [t]) (cP A)=false:=λt ht=>by simpa using Z t ht
  rw [xM hu];unfold aU;rw [OW (by simpa using V)];show _=wrap (lets _ (cP Θ)) (bN (List.map (λπ=>joinS 38 (a6 ((ak u).2.map λt=>thU t (asg π (lets _ (cP Θ)) ρ) (addK (lets _ (cP Θ)) (cP Θ))))) _));rw [<-e,<-gV H]
  congr 1
  symm
  have θ:∀o:Tx,o.Perm (iw (ak u).1.length)->∃π:List Nat,π.Perm (ak u).1/\o.map UInt8.toNat=π.map (asgN (ak u).1 0 σ):=λo ho=>by
   refine j6 ((ho.map UInt8.toNat).trans ?_);have:(iw (ak u).1.length).map UInt8.toNat=(ak u).1.map (asgN (ak u).1 0 σ):=by
    refine Rp (by simp [iz]) λi J h2=>?_
    simp only [RR];have hi:i< (ak u).1.length:=by simpa using h2
    rw [jM _ _ _ _ hi (gN u hu),Pa];simp [iw]
   rw [this]
  refine gU ?_ λs hs=>?_
  ·obtain⟨π,J,h2⟩:=θ o0 (δ _ ζ);refine Pp.2 ⟨π,(dc _ _).2 J,?_⟩;exact(xt.text ⟨rs,G,ha⟩ hu γ H J h2 (δ _ ζ) hm m2 Z hc).symm
  ·obtain⟨π,J,rfl⟩:=Pp.1 hs;have J:=(dc _ _).1 J;have h3:(π.map (asgN (ak u).1 0 σ)).Perm ((iw (ak u).1.length).map UInt8.toNat):=by
    have:(iw (ak u).1.length).map UInt8.toNat=(ak u).1.map (asgN (ak u).1 0 σ):=by
     refine Rp (by simp [iz]) λi J h2=>?_
     simp only [RR];have hi:i< (ak u).1.length:=by simpa using h2
     rw [jM _ _ _ _ hi (gN u hu),Pa];simp [iw]
    rw [this];exact J.map _
   obtain⟨o,h4,h5⟩:=j6 h3;obtain⟨r,h6,h7⟩:=h.le o (ε rfl o h4);rw [<-h6.text hu γ H J h5.symm h4 hm m2 Z hc];exact h7
theorem WR.J' {on:Bool}{u:U}{σ:Nat->Nat}{Θ:Tx}(hu:Uq u)(hd:u.dead=true):WR on u σ Θ [48]:=by
 obtain⟨G,h2,H,h4⟩:=pf hu hd;exact⟨by simp,BD u,λ _=>by rw [H];rfl,λ _ _ hb=>(by rw [h2]at hb;cases hb),λ _ _ _ ρ _=>by rw [G]⟩
theorem WR.FA {on:Bool}{u:U}{σ:Nat->Nat}{Θ:Tx}(h:5< bn u):WR on u σ Θ [48]:=
 ⟨by simp,BD u,λhm=>by omega,λhm=>by omega,λhm=>by omega⟩
theorem Ex.aK {w w':World}(h:w.grownBy w' none):Ex w w':=⟨h.os,h.tape,h.output,h.size,λg G=>h.block g G (by simp)⟩
theorem Jp:∀(u:U),∀t∈(ak u).2,t.ow+(ak u).1.length<=u.ow/\t.rd<=u.rd:=by
 intro u
 induction u with
 | nil=>intro t h;simp [ak]at h
 | snd=>intro t h;simp [ak]at h;subst h;simp [ak]
 | rcv=>intro t h;simp [ak]at h;subst h;simp [ak]
 | tau=>intro t h;simp [ak]at h;subst h;simp [ak]
 | sum p q G H=>
  intro t h;simp only [ak]at h|-;split at h
  ·rename_i e;rw [Pd e];have :=H t h;simp only [T.ow,T.rd];omega
  ·rename_i e;rw [OW e];split at h
   ·rename_i J;rw [Pd J];have :=G t h;simp only [T.ow,T.rd];omega
   ·rename_i J;rw [OW J];simp at h;subst h;simp
 | par p q G H=>
  intro t h;simp only [ak,OM]at h;simp only [ak,T.ow,T.rd,OG];have V:=iO p;have W:=iO q;rcases h with h | h
  ·have :=G t h;omega
  ·have :=H t h;omega
 | res x p G=>
  intro t h;have :=G t h;simp only [ak,T.ow,T.rd];split
  ·simp only [OA];omega
  ·omega
 | mat a b p G=>
  intro t h;simp only [ak]at h|-;split at h
  ·rename_i e;rw [Pd e];exact G t h
  ·rename_i e;rw [OW e];split at h
   ·simp at h
   ·rename_i J;rw [OW J];simp at h;subst h;simp
 | rep p G=>
  intro t h;simp only [ak]at h|-;split at h
  ·simp at h
  ·rename_i J;rw [OW J];simp at h;subst h;simp
theorem K9 {p:P}{u:U}{ρ:UInt8->Nat}{σ:Nat->Nat}(h:AE ρ p σ u):u.rd=p.rd:=by
 induction p generalizing u ρ σ<;>cases u<;>simp only [AE]at h<;>simp only [T.rd]
 case snd.snd G _ _ _=>exact G h.2.2
 case mat.mat G _ _ _=>exact G h.2.2
 case rcv.rcv G _ _ _=>rw [G (h.2 0)]
 case res.res G _ _=>exact G (h 0)
 case tau.tau G _=>exact G h
 case rep.rep G _=>exact G h
 case sum.sum G H _ _=>rw [G h.1,H h.2]
 case par.par G H _ _=>rw [G h.1,H h.2]
theorem yA {l:Tx}{i:Nat}(h:i< l.length):List.drop (Int.toNat (i:Int)) (List.take (Int.toNat ((i:Int)+1)) l)=[bt l i]:=by
 have e:Int.toNat ((i:Int)+1)=i+1:=by omega
 rw [e,OO,iC h];exact List.drop_left' (by rw [Pm];omega)
theorem DU {l:Tx}{i:Nat}(h:i< l.length):List.drop i (List.take (Int.toNat ((i:Int)+1)) l)=[bt l i]:=by
 have :=yA h
 rwa [OO]at this
theorem qB {l:Tx}{i:Nat}(h:i< l.length)(s:Tx):wrap (l.drop i) s=35::bt l i::46::wrap (l.drop (i+1)) s:=by
 rw [sS h];rfl
end Go.Proofs.YtdecokaadekjnaaGreat
