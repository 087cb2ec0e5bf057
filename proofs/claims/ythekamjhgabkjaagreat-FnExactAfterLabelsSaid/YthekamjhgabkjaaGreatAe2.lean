/- Part 2 of a proof of what the last text states; no condition. -/
import Derived.Test.YthekamjhgabkjaaGreatAe1
set_option maxRecDepth 100000
set_option maxHeartbeats 4000000
set_option linter.defProp false
set_option linter.unusedVariables false
set_option linter.unusedSimpArgs false
namespace Go.Proofs.YthekamjhgabkjaaGreat
open Go Go.RowKit
def hU {s:Tx}{c:UInt8}(hs:lR s){w:World}{R:aD->Sb}(h:∀s' w',Ex w w'->lR s'->(∀x,x∈s'↔x=c\/x∈s)->R s' w'):
  Sc 145 #[.string (ak s),.int .u8 c.toNat] w (aw [.s] R):=by
 refine xh s c w R ?_;dsimp only [go_sem];dsimp only [go_sem,Nat.reduceAdd];have hl:=hs.bound;refine⟨λi w'=>w=w'/\0<=i/\i<=s.length/\∀j:Nat,j< i->bt s j< c,λi _=>((s.length:Int) - i).toNat,⟨rfl,by omega,by omega,λj hj=>by omega⟩,λi w1 hI=>?_⟩;obtain⟨rfl,h0,h1,h2⟩:=hI;have put:(i=s.length\/c< bt s i.toNat)->∀w1,w1=w.drew->(0<=i/\i<=s.length)/\(0<=i/\i<=s.length)/\∀(b9:Nat) (J:World),b9=w1.heap.size->J=w1.alloc (.cells #[.int .u8 c.toNat] 5)->
   True/\∃(δ ε ζ α:Nat) (H:aD),(Value.slice (some ⟨b9,0,none⟩) 1 1)=Value.slice (some ⟨δ,ε,none⟩) ζ α/\H.length=ζ/\(∀(j:Nat) (x:UInt8),H[j]?=some x->J.cell? ⟨δ,ε+j,none⟩=some (.int .u8 x.toNat))/\True/\
    ((s.take i.toNat).length+H.length<=4611686018427387904)/\((s.take i.toNat++H).length+(s.drop i.toNat).length<=4611686018427387904)/\R ((s.take i.toNat++H)++s.drop i.toNat) J:=by
  rintro hp w1 rfl
  refine⟨by omega,by omega,λb9 J hb hw=>⟨trivial,b9,0,1,1,[c],rfl,rfl,lx c hb hw,trivial,?_,?_,?_⟩⟩
  ·simp only [Pd,Ov,ON];omega
  ·simp only [Oy,Pd,P7,Ov,ON];omega
  ·have η:∀x∈s.take i.toNat,x< c:=by
    intro x G;obtain⟨j,hj,e⟩:=DD G;rw [Pd]at hj;have:bt (s.take i.toNat) j=bt s j:=by simp only [bt,List.getD_eq_getElem?_getD];rw [PS (by omega)]
    rw [<-e,this];exact h2 j (by omega)
   have θ:∀x∈s.drop i.toNat,c< x:=by
    rcases hp with hp | hp
    ·intro x G;rw [hp,OG,Qd]at G;cases G
    ·intro x G;have hi:i.toNat< s.length:=by
      rcases Qi i.toNat s.length with h | h
      ·exact h
      ·rw [Qo h]at G;cases G
     have hd:=bI hi;have ι:lR (s.drop i.toNat):=QC (List.drop_sublist _ _) hs;rw [hd]at G ι;rcases OY.1 G with rfl | G
     ·exact hp
     ·exact UInt8.lt_trans hp ((Ro.1 ι).1 x G)
   refine h _ _ (hw▸(Ex.drew w).trans (Ex.alloc _ _)) ?_ ?_
   ·rw [Pe];refine List.pairwise_append.2 ⟨QC (List.take_sublist _ _) hs,?_,?_⟩
    ·exact Ro.2 ⟨θ,QC (List.drop_sublist _ _) hs⟩
    ·intro x G y hy;rcases OY.1 hy with rfl | hy
     ·exact η x G
     ·exact UInt8.lt_trans (η x G) (θ y hy)
   ·intro x;have:x∈s↔x∈s.take i.toNat\/x∈s.drop i.toNat:=by rw [<-OH,PV]
    rw [this];simp only [OH,OY,Rk,RU];constructor
    ·rintro((h | h) | h)
     ·exact .inr (.inl h)
     ·exact .inl h
     ·exact .inr (.inr h)
    ·rintro(h | h | h)
     ·exact .inl (.inr h)
     ·exact .inl (.inl h)
     ·exact .inr h
 have same:i< s.length->bt s i.toNat=c->R s w:=λhi he=>h s w (Ex.refl w) hs λx=>⟨.inr,λG=>G.elim (λe=>by rw [e,<-he];exact rB (by omega)) id⟩
 have fin:i< s.length->¬bt s i.toNat< c->¬bt s i.toNat=c->c< bt s i.toNat:=λ _ h1 h2=>by
  rcases UInt8.lt_or_lt_of_ne (Ry h2)with h | h
  ·exact h
  ·exact absurd h h1
 refine⟨λhc=>?_,λhc=>?_⟩
 ·have Z:i< s.length:=by simpa using hc
  refine⟨by omega,λhb=>?_,λhb=>?_⟩
  ·simp only [OK]at hb;refine⟨by omega,⟨rfl,by omega,by omega,λj hj=>?_⟩,by dsimp only;omega⟩;rcases Qi j i.toNat with κ | κ
   ·exact h2 j (by omega)
   ·have:j=i.toNat:=by omega
    rw [this];exact hb
  ·simp only [OF]at hb;refine⟨λ _=>⟨by omega,λhe=>same Z (by simpa using he),λhe=>?_⟩,λβ=>absurd hc (by rw [β];simp)⟩;exact⟨λ _=>True,λw1 γ=>⟨trivial,put (.inr (fin Z hb (by simpa using he))) w1 γ⟩⟩
 ·have Z:i=s.length:=by simp at hc;omega
  refine⟨λβ=>absurd β (by rw [hc];simp),λ _=>?_⟩;exact⟨λ _=>True,λw1 γ=>⟨trivial,put (.inl Z) w1 γ⟩⟩
def jK {s t:Tx}(hs:lR s)(ht:t.length<=1099511627776){w:World}{R:aD->Sb}(h:∀G w',Ex w w'->lR G->(∀x,x∈G↔x∈s\/x∈t)->R G w'):
  Sc 142 #[.string (ak s),.string (ak t)] w (aw [.s] R):=by
 refine vF s t w R ?_;dsimp only [go_sem];dsimp only [go_sem,Nat.reduceAdd];refine⟨λout i w'=>Ex w w'/\0<=i/\i<=t.length/\lR out/\∀x,x∈out↔x∈s\/x∈t.take i.toNat,λ _ i _=>((t.length:Int) - i).toNat,⟨Ex.refl w,by omega,by omega,hs,by simp⟩,λout i w1 hI=>?_⟩;obtain⟨hx,h0,h1,h2,J⟩:=hI;refine⟨λH=>?_,λH=>?_⟩
 ·simp only [OK]at H;refine⟨by omega,hU h2 λG w' Z α hm=>⟨by omega,⟨hx.trans Z,by omega,by omega,α,λx=>?_⟩,by dsimp only;omega⟩⟩;rw [hm,J,gZ h0 H,List.mem_append,List.mem_singleton];constructor
  ·rintro(h | h | h)
   ·exact .inr (.inr h)
   ·exact .inl h
   ·exact .inr (.inl h)
  ·rintro(h | h | h)
   ·exact .inr (.inl h)
   ·exact .inr (.inr h)
   ·exact .inl h
 ·simp only [OF]at H;have:i.toNat=t.length:=by omega
  rw [this,O4]at J;exact h out w1 hx h2 J
def vP (s:Tx)(c:UInt8):Prop:=
 wV (λd=>decide (d∈s))=some c\/
 (wV (λd=>decide (d∈s))=none/\128<=c/\c<=191/\(∀d:UInt8,128<=d->d< c->d∈s)/\(c∉s\/c=191))
def DA (i:Nat)(h:i< Gm.length):Gm[i]=UInt8.ofNat (97+i):=by
 simp [Gm]
def vk {f:UInt8->Bool}{c:UInt8}(G:97<=c)(H:c<=122)(J:f c=true)(Z:∀d:UInt8,97<=d->d< c->f d=false):Gm.find? f=some c:=by
 have α:97<=c.toNat:=OZ.1 G;have β:c.toNat<=122:=OZ.1 H;have hl:Gm.length=26:=by simp [Gm]
 rw [List.find?_eq_some_iff_getElem];refine⟨J,c.toNat - 97,by omega,?_,λj hj=>?_⟩
 ·rw [DA];apply OU.1;rw [PT];omega
 ·rw [DA];have e:(UInt8.ofNat (97+j)).toNat=97+j:=by rw [PT];omega
  rw [Z _ (OZ.2 (by rw [e];show 97<=_;omega)) (Pu.2 (by omega))];rfl
def xT {f:UInt8->Bool}(G:∀d:UInt8,97<=d->d<=122->f d=false):Gm.find? f=none:=by
 rw [List.find?_eq_none];intro d hd;have H:Gm.length=26:=by simp [Gm]
 obtain⟨j,J,rfl⟩:=PK.1 hd;rw [DA];have e:(UInt8.ofNat (97+j)).toNat=97+j:=by rw [PT];omega
 rw [G _ (OZ.2 (by rw [e];show 97<=_;omega)) (OZ.2 (by rw [e];show _<=122;omega))];simp
def jh {s:Tx}(hs:s.length<=1099511627776){w:World}{R:UInt8->Sb}(h:∀c,vP s c->R c w):Sc 78 #[.string (ak s)] w (aw [.c] R):=by
 refine tj s w R ?_;dsimp only [go_sem];dsimp only [go_sem,UInt8.reduceOfNat];refine⟨λc w'=>w=w'/\97<=c/\c<=123/\∀d:UInt8,97<=d->d< c->d∈s,λc _=>200 - c.toNat,⟨rfl,by decide,by decide,λd h1 h2=>absurd (UInt8.lt_of_le_of_lt h1 h2) (UInt8.lt_irrefl _)⟩,λc w1 hI=>?_⟩;obtain⟨rfl,h0,h1,h2⟩:=hI;have θ:=OZ.1 h0;have ι:=OZ.1 h1;refine⟨λJ=>dZ hs ?_,λJ=>?_⟩
 ·simp only [OK]at J;have γ:=OZ.1 J;refine⟨λhm=>?_,λhm=>?_⟩
  ·simp only [QA,OF]at hm;refine h c (.inl (vk h0 J (by simpa using hm) λd G H=>by simpa using h2 d G H))
  ·simp only [Bool.not_eq_false',OK]at hm;have e:(c+1).toNat=c.toNat+1:=by rw [RV];show(c.toNat+1) % 256=_;exact Nat.mod_eq_of_lt (by have:(122:UInt8).toNat=122:=rfl;omega)
   have δ:(122:UInt8).toNat=122:=rfl;have ζ:(123:UInt8).toNat=123:=rfl;have κ:(97:UInt8).toNat=97:=rfl;refine⟨⟨rfl,OZ.2 (by omega),OZ.2 (by omega),λd G H=>?_⟩,by dsimp only;omega⟩;have β:=Pu.1 H;by_cases Z:d=c
   ·rw [Z];exact hm
   ·refine h2 d G (Pu.2 ?_);have:d.toNat≠c.toNat:=λe=>Z (OU.1 e)
    omega
 ·simp only [OF]at J;have γ:¬c.toNat<=122:=λhh=>J (OZ.2 hh)
  have α:wV (λd=>decide (d∈s))=none:=by
   refine xT λd G H=>?_
   have β:=OZ.1 H;have δ:(122:UInt8).toNat=122:=rfl;simpa using h2 d G (Pu.2 (by omega))
  refine⟨λc w'=>w=w'/\128<=c/\c<=191/\∀d:UInt8,128<=d->d< c->d∈s,λc _=>200 - c.toNat,⟨rfl,by decide,by decide,λd h1 h2=>absurd (UInt8.lt_of_le_of_lt h1 h2) (UInt8.lt_irrefl _)⟩,λc w1 hI=>?_⟩;obtain⟨rfl,k0,k1,k2⟩:=hI;have μ:=OZ.1 k0;have ν:=OZ.1 k1;refine⟨λJ=>dZ hs ?_,λJ=>?_⟩
  ·simp only [OK]at J;have γ:=Pu.1 J;have ε:(191:UInt8).toNat=191:=rfl;have η:(128:UInt8).toNat=128:=rfl;refine⟨λhm=>?_,λhm=>?_⟩
   ·simp only [OK]at hm;have e:(c+1).toNat=c.toNat+1:=by rw [RV];show(c.toNat+1) % 256=_;exact Nat.mod_eq_of_lt (by omega)
    refine⟨⟨rfl,OZ.2 (by omega),OZ.2 (by omega),λd G H=>?_⟩,by dsimp only;omega⟩;have β:=Pu.1 H;by_cases Z:d=c
    ·rw [Z];exact hm
    ·refine k2 d G (Pu.2 ?_);have:d.toNat≠c.toNat:=λe=>Z (OU.1 e)
     omega
   ·simp only [OF]at hm;exact h c (.inr ⟨α,k0,k1,k2,.inl hm⟩)
  ·simp only [OF]at J;have γ:¬c.toNat< 191:=λhh=>J (Pu.2 hh)
   have ε:(191:UInt8).toNat=191:=rfl;exact h c (.inr ⟨α,k0,k1,k2,.inr (OU.1 (by omega))⟩)
def aX (t:P):t.size=1+(t.parts.map T.size).sum:=by
 cases t<;>simp [T.size,T.parts]<;>omega
def AP (l:List P)(k:Nat):((l.take k).map T.size).sum<=(l.map T.size).sum:=by
 conv=>rhs;rw [<-PV k l]
 rw [Pm,Ra];omega
def dE (t:P):t.parts.length<=2:=by cases t<;>simp [T.parts]
def eA {t p:P}(h:p∈t.parts):p.size< t.size:=by
 cases t<;>simp only [T.parts,OY,Rk,RU,List.mem_nil_iff]at h<;>simp only [T.size]
 all_goals first | exact h.elim | (rcases h with rfl | rfl<;>omega) | (subst h;omega)
def Gv:∀(n:Nat) {t:P},t.size<=n->Ok t->∀{w:World} {R:Int->Sb},(∀w',Ex w w'->R (t.size:Int) w')->Sc 131 #[.string (ak t.text)] w (aw [.i] R):=by
 intro n
 induction n with
 | zero=>intro t h;have :=aX t;omega
 | succ n ih=>
  intro t hn ok w R h;refine vz _ w R ?_;dsimp only [go_sem];dsimp only [go_sem,Nat.reduceAdd];refine de ok λv w1 hx hs=>?_
  obtain⟨a,cap,hv⟩:=hs.slice;rw [OM]at hv;have β:=bz t;have hle:=ok.len;refine⟨a,t.parts.length,cap,hv,λm x w'=>Ex w w'/\Strs w' v (t.parts.map T.text)/\∃k:Nat,x=k/\k<=t.parts.length/\m=1+(((t.parts.take k).map T.size).sum:Int),λ _ x _=>((t.parts.length:Int) - x).toNat,
   ⟨hx,hs,0,rfl,by omega,by simp⟩,λm x w2 hI=>?_⟩
  obtain⟨H,J,k,rfl,hk,rfl⟩:=hI;refine⟨λhc=>?_,λhc=>?_⟩
  ·have G:k< t.parts.length:=by simpa using hc
   obtain⟨b,o,cp,e1,e2,e3⟩:=J.at (i:=k) (by rw [OM];exact G);rw [OM]at e1;refine⟨b,o,t.parts.length,cp,e1,by omega,by omega,(t.parts[k]).text,?_,?_⟩
   ·rw [OG,O8,e3,QF]
   ·have hm:t.parts[k]∈t.parts:=Oz G;refine ih (by have :=eA hm;omega) (ok.parts _ hm) λw3 Z=>?_
    have α:((t.parts.take (k+1)).map T.size).sum=((t.parts.take k).map T.size).sum+(t.parts[k]).size:=by
     rw [OC G,Pm,Ra];simp
    have h1:=AP t.parts (k+1);have h2:=aX t;have h3:=dE t;refine⟨by omega,by omega,⟨H.trans Z,J.ex Z,k+1,by omega,G,by rw [α];omega⟩,by dsimp only;omega⟩
  ·have G:k=t.parts.length:=by simp at hc;omega
   subst G;have e:=aX t;rw [O4];have:(1:Int)+((t.parts.map T.size).sum:Int)=(t.size:Int):=by omega
   rw [this];exact h _ H
def eo (c:UInt8):Bool:= !((65<=c&&c<=90)||128<=c)
def Gh {p:Tx}(hp:p.length<=1099511627776){w:World}{R:Bool->Sb}(h:R (p.all eo) w):Sc 158 #[.string (ak p)] w (aw [.b] R):=by
 refine sG p w R ?_;dsimp only [go_sem];dsimp only [go_sem,Nat.reduceAdd];refine⟨λi w'=>w=w'/\0<=i/\i<=p.length/\∀j:Nat,j< i->eo (bt p j)=true,λi _=>((p.length:Int) - i).toNat,⟨rfl,by omega,by omega,λj J=>by omega⟩,λi w1 hI=>?_⟩;obtain⟨rfl,h0,h1,Z⟩:=hI;have bad:i< p.length->eo (bt p i.toNat)=false->R false w:=λhi hb=>by
  have:p.all eo=false:=by
   rw [List.all_eq_false];exact⟨bt p i.toNat,rB (by omega),by simp [hb]⟩
  rw [this]at h;exact h
 have next:i< p.length->eo (bt p i.toNat)=true->bG (i+1)/\(w=w/\0<=i+1/\i+1<=p.length/\∀j:Nat,j< i+1->eo (bt p j)=true)/\((p.length:Int) - (i+1)).toNat< ((p.length:Int) - i).toNat:=λhi hb=>by
  refine⟨by omega,⟨rfl,by omega,by omega,λj J=>?_⟩,by omega⟩;rcases Qi j i.toNat with H | H
  ·exact Z j (by omega)
  ·have:j=i.toNat:=by omega
   rw [this];exact hb
 refine⟨λG=>?_,λG=>?_⟩
 ·simp only [OK]at G;refine⟨by omega,λa1=>⟨by omega,λa2=>⟨by omega,λa3=>bad G ?_,λa3=>next G ?_⟩,λa2=>bad G ?_⟩,λa1=>⟨by omega,λa3=>bad G ?_,λa3=>next G ?_⟩⟩<;>
   simp_all [eo]
 ·simp only [OF]at G;have:p.all eo=true:=by
   rw [PL];intro x hx;obtain⟨j,J,rfl⟩:=DD hx;exact Z j (by omega)
  rw [this]at h;exact h
def T.lw:P->Bool
 | .nil=>true | .snd a b p=>lt a&&lt b&&p.lw | .rcv a b p=>lt a&&lt b&&p.lw | .tau p=>p.lw | .sum p q=>p.lw&&q.lw
 | .par p q=>p.lw&&q.lw | .res x p=>lt x&&p.lw | .mat a b p=>lt a&&lt b&&p.lw | .rep p=>p.lw
def iz {c:UInt8}(h:lt c=true):nm c=true/\eo c=true:=by
 simp only [lt,OA,OK]at h;have Z:=OZ.1 h.1;have h2:=OZ.1 h.2;refine⟨by simp [nm,h.1,h.2],?_⟩;have J:(97:UInt8).toNat=97:=rfl;have H:(122:UInt8).toNat=122:=rfl;simp only [eo,QA,P4,Bool.and_eq_false_iff,OF];refine⟨.inr λG=>?_,λG=>?_⟩
 ·have :=OZ.1 G;have e:(90:UInt8).toNat=90:=rfl;omega
 ·have :=OZ.1 G;have e:(128:UInt8).toNat=128:=rfl;omega
def vN {c:UInt8}(h:nm c=true)(k:eo c=true):lt c=true:=by
 simp only [nm,lt,eo,P0,OA,OK,QA,P4,Bool.and_eq_false_iff,OF]at*;rcases h with(h | h) | h
 ·exact h
 ·exact absurd h (by rcases k.1 with k | k<;>simp [k])
 ·exact absurd h k.2
def jD:∀{t:P},t.lw=true->t.wf=true/\t.text.all eo=true
 | .nil,_=>⟨rfl,rfl⟩
 | .snd a b p,h=>by
  simp only [T.lw,OA]at h;have :=jD h.2;simp [T.wf,T.text,(iz h.1.1).1,(iz h.1.1).2,(iz h.1.2).1,(iz h.1.2).2,this.1,this.2];decide
 | .rcv a b p,h=>by
  simp only [T.lw,OA]at h;have :=jD h.2;simp [T.wf,T.text,(iz h.1.1).1,(iz h.1.1).2,(iz h.1.2).1,(iz h.1.2).2,this.1,this.2];decide
 | .mat a b p,h=>by
  simp only [T.lw,OA]at h;have :=jD h.2;simp [T.wf,T.text,(iz h.1.1).1,(iz h.1.1).2,(iz h.1.2).1,(iz h.1.2).2,this.1,this.2];decide
 | .res x p,h=>by
  simp only [T.lw,OA]at h;have :=jD h.2;simp [T.wf,T.text,(iz h.1).1,(iz h.1).2,this.1,this.2];decide
 | .tau p,h=>by have :=jD (t:=p) h;simp [T.wf,T.text,this.1,this.2];decide
 | .rep p,h=>by have :=jD (t:=p) h;simp [T.wf,T.text,this.1,this.2];decide
 | .sum p q,h=>by
  simp only [T.lw,OA]at h;have G:=jD h.1;have H:=jD h.2;simp [T.wf,T.text,G.1,G.2,H.1,H.2];decide
 | .par p q,h=>by
  simp only [T.lw,OA]at h;have G:=jD h.1;have H:=jD h.2;simp [T.wf,T.text,G.1,G.2,H.1,H.2];decide
def lY:∀{t:P},t.wf=true->t.text.all eo=true->t.lw=true
 | .nil,_,_=>rfl
 | .snd a b p,h,k=>by
  simp only [T.wf,T.text,OA,PQ]at h k;simp [T.lw,vN h.1.1 k.1,vN h.1.2 k.2.2.1,lY h.2 k.2.2.2.2]
 | .rcv a b p,h,k=>by
  simp only [T.wf,T.text,OA,PQ]at h k;simp [T.lw,vN h.1.1 k.1,vN h.1.2 k.2.2.1,lY h.2 k.2.2.2.2]
 | .mat a b p,h,k=>by
  simp only [T.wf,T.text,OA,PQ]at h k;simp [T.lw,vN h.1.1 k.2.1,vN h.1.2 k.2.2.2.1,lY h.2 k.2.2.2.2.2]
 | .res x p,h,k=>by
  simp only [T.wf,T.text,OA,PQ]at h k;simp [T.lw,vN h.1 k.2.1,lY h.2 k.2.2.2]
 | .tau p,h,k=>by simp only [T.text,OA,PQ]at k;exact lY (t:=p) h k.2.2
 | .rep p,h,k=>by simp only [T.text,OA,PQ]at k;exact lY (t:=p) h k.2
 | .sum p q,h,k=>by
  simp only [T.wf,T.text,OA,PQ,QP]at h k;simp [T.lw,lY h.1 k.2.1,lY h.2 k.2.2.2.1]
 | .par p q,h,k=>by
  simp only [T.wf,T.text,OA,PQ,QP]at h k;simp [T.lw,lY h.1 k.2.1,lY h.2 k.2.2.2.1]
structure Good (t:P):Prop where
 lw:t.lw=true
 len:t.text.length<=300
 size:t.size<=60
def Good.ok {t:P}(h:Good t):Ok t:=⟨(jD h.lw).1,by have :=h.len;omega⟩
def yh {p:Tx}{w:World}{R:Bool->Sb}(h:∀b w',Ex w w'->(b=true↔∃t:P,Good t/\t.text=p)->R b w'):Sc 88 #[.string (ak p)] w (aw [.b] R):=by
 refine ui p w R ?_;dsimp only [go_sem];by_cases hp:p.length<=1099511627776
 rotate_left
 ·exact aW (by omega) (h _ _ (Ex.refl w) ⟨λH=>by simp at H,fun⟨t,G,e⟩=>by have :=G.len;rw [e]at this;omega⟩)
 refine⟨λJ=>Gh hp ⟨λZ=>?_,λZ=>?_⟩,λJ=>?_⟩
 ·simp only [OK]at J;refine py p (by omega) (p.length+1) 0 (by omega) (by omega) (by omega) ⟨λhe=>?_,λhe=>?_⟩
  ·simp only [OK]at he;obtain⟨t,hw,G⟩:=C1 (l:=p) (p.length+1) 0 (by show 0<=endI p _ 0;omega);have e0:endI p (p.length+1) ((0:Nat):Int)=p.length:=he;rw [e0,OG,Qd,O5,Qk]at G;subst G;have α:=lY hw Z;refine Gv t.size (OB _) ⟨hw,hp⟩ λw' hx=>h _ _ hx ?_
   simp only [OK];constructor
   ·intro β;exact⟨t,⟨α,by omega,by omega⟩,rfl⟩
   ·rintro⟨u,hu,e⟩
    have h1:=xZ (l:=t.text) u (u.size+t.size) 0 [] hu.ok.wf (by omega) (by simp [e]);have:u=t:=by
     exact(mg hu.ok.wf hw (r:=[]) (r':=[]) (by simpa using e)).1
    rw [<-this];exact_mod_cast hu.size
  ·simp only [OF]at he;refine h _ _ (Ex.refl w) ⟨λH=>by simp at H,?_⟩
   rintro⟨t,G,rfl⟩
   exact absurd (by simpa using pL t G.ok.wf t.text 0 [] (by simp) (t.text.length+1) (by omega)) he
 ·refine h _ _ (Ex.refl w) ⟨λH=>by simp at H,?_⟩
  rintro⟨t,G,rfl⟩
  rw [(jD G.lw).2]at Z;cases Z
 ·simp only [OF]at J;refine h _ _ (Ex.refl w) ⟨λH=>by simp at H,?_⟩
  rintro⟨t,G,rfl⟩
  have :=G.len;exact absurd (by omega) J
def Hd {p:Tx}(G:p.length<=1099511627776){w:World}{R:Bool->Sb}(h:∀b w',Ex w w'->(b=true↔∃t:P,Good t/\t.text=p)->R b w'):Sc 88 #[.string (ak p)] w (aw [.b] R):=yh h
namespace T
def map {A B:Type}(f:A->B):T A->T B
 | nil=>nil | snd a b p=>snd (f a) (f b) (p.map f) | rcv a x p=>rcv (f a) (f x) (p.map f) | tau p=>tau (p.map f)
 | sum p q=>sum (p.map f) (q.map f) | par p q=>par (p.map f) (q.map f) | res x p=>res (f x) (p.map f) | mat a b p=>mat (f a) (f b) (p.map f) | rep p=>rep (p.map f)
def shp {A:Type}(p:T A):T Unit:=p.map λ _=>()
def aJ {A:Type}:T A->Nat
 | nil=>1 | snd _ _ p=>p.aJ+4 | rcv _ _ p=>p.aJ+4 | tau p=>p.aJ+2 | sum p q=>p.aJ+q.aJ+3 | par p q=>p.aJ+q.aJ+3
 | res _ p=>p.aJ+3 | mat _ _ p=>p.aJ+5 | rep p=>p.aJ+1
def bd {A:Type}:T A->Nat
 | nil=>0 | snd _ _ p=>p.bd | rcv _ _ p=>p.bd+1 | tau p=>p.bd | sum p q=>max p.bd q.bd | par p q=>max p.bd q.bd
 | res _ p=>p.bd+1 | mat _ _ p=>p.bd | rep p=>p.bd
def rd {A:Type}:T A->Nat
 | nil=>0 | snd _ _ p=>p.rd | rcv _ _ p=>p.rd+1 | tau p=>p.rd | sum p q=>max p.rd q.rd | par p q=>max p.rd q.rd
 | res _ p=>p.rd | mat _ _ p=>p.rd | rep p=>p.rd
def ow {A:Type}:T A->Nat
 | nil=>0 | snd _ _ p=>p.ow | rcv _ _ p=>p.ow | tau p=>p.ow | sum p q=>p.ow+q.ow | par p q=>p.ow+q.ow
 | res _ p=>p.ow+1 | mat _ _ p=>p.ow | rep p=>p.ow
def pm {A:Type}:T A->Nat
 | par p q=>max p.pm q.pm | res _ p=>p.pm+1
 | nil=>0 | snd _ _ p=>p.rd+p.ow | rcv _ _ p=>p.rd+1+p.ow | tau p=>p.rd+p.ow | sum p q=>max p.rd q.rd+(p.ow+q.ow) | mat _ _ p=>p.rd+p.ow | rep p=>p.rd+p.ow
section
variable {A B:Type}
def size_map (f:A->B)(p:T A):(p.map f).size=p.size:=by induction p<;>simp_all [map,size]
def IN (f:A->B)(p:T A):(p.map f).aJ=p.aJ:=by induction p<;>simp_all [map,aJ]
def MA (f:A->B)(p:T A):(p.map f).bd=p.bd:=by induction p<;>simp_all [map,bd]
def C5 (f:A->B)(p:T A):(p.map f).rd=p.rd:=by induction p<;>simp_all [map,rd]
def zU (f:A->B)(p:T A):(p.map f).ow=p.ow:=by induction p<;>simp_all [map,ow]
def Ll (f:A->B)(p:T A):(p.map f).pm=p.pm:=by induction p<;>simp_all [map,pm,C5,zU]
def gh (p:T A):p.pm<=p.rd+p.ow:=by induction p<;>simp only [pm,rd,ow]<;>omega
def pO {p:T A}{q:T B}(h:p.shp=q.shp):p.size=q.size:=by
 have :=PA size h;simpa [shp,size_map]using this
def gn {p:T A}{q:T B}(h:p.shp=q.shp):p.aJ=q.aJ:=by
 have :=PA aJ h;simpa [shp,IN]using this
def LV {p:T A}{q:T B}(h:p.shp=q.shp):p.bd=q.bd:=by
 have :=PA bd h;simpa [shp,MA]using this
def MD {p:T A}{q:T B}(h:p.shp=q.shp):p.rd=q.rd:=by
 have :=PA rd h;simpa [shp,C5]using this
def GB {p:T A}{q:T B}(h:p.shp=q.shp):p.ow=q.ow:=by
 have :=PA ow h;simpa [shp,zU]using this
def um {p:T A}{q:T B}(h:p.shp=q.shp):p.pm=q.pm:=by
 have :=PA pm h;simpa [shp,Ll]using this
def we (p:T A):p.bd<=p.rd+p.ow:=by induction p<;>simp only [bd,rd,ow]<;>omega
def vL:∀p:T A,p.bd<=p.pm
 | nil=>OB _
 | par p q=>by have :=vL p;have :=vL q;simp only [bd,pm];omega
 | res _ p=>by have :=vL p;simp only [bd,pm];omega
 | snd _ _ p | tau p | mat _ _ p | rep p=>we p
 | rcv _ _ p=>by have :=we p;simp only [bd,pm];omega
 | sum p q=>by have :=we p;have :=we q;simp only [bd,pm];omega
def bX (p:T A):p.rd+p.ow+1<=p.size:=by induction p<;>simp only [size,rd,ow]<;>omega
end
def aQ (p:P):p.text.length=p.aJ:=by
 induction p<;>simp_all [text,aJ]<;>omega
end T
def okn (k:Nat)(x:UInt8):Prop:=x.toNat< 128+k\/192<=x.toNat
def okn.mono {k m:Nat}{x:UInt8}(h:okn k x)(G:k<=m):okn m x:=by unfold okn at*;omega
def ngr (x:UInt8):Prop:=x.toNat< 65\/(90< x.toNat/\x.toNat< 192)
def Eb:Nat->P->Prop
 | _,.nil=>True
 | k,.snd a b p=>okn k a/\okn k b/\Eb k p
 | k,.rcv a x p=>okn k a/\(ngr x/\∀z,p.Fr z->z≠x->okn k z)/\Eb (k+1) p
 | k,.tau p=>Eb k p
 | k,.sum p q=>Eb k p/\Eb k q
 | k,.par p q=>Eb k p/\Eb k q
 | k,.res x p=>(ngr x/\∀z,p.Fr z->z≠x->okn k z)/\Eb (k+1) p
 | k,.mat a b p=>okn k a/\okn k b/\Eb k p
 | k,.rep p=>Eb k p
def Eb.free:∀{p:P} {k:Nat},Eb k p->∀z,p.Fr z->okn k z
 | .nil,_,_,_,h=>h.elim
 | .snd a b p,k,e,z,h=>by
  rcases h with rfl | rfl | h
  ·exact e.1
  ·exact e.2.1
  ·exact Eb.free e.2.2 z h
 | .mat a b p,k,e,z,h=>by
  rcases h with rfl | rfl | h
  ·exact e.1
  ·exact e.2.1
  ·exact Eb.free e.2.2 z h
 | .rcv a x p,k,e,z,h=>by
  rcases h with rfl | h
  ·exact e.1
  ·exact e.2.1.2 z h.2 h.1
 | .res x p,k,e,z,h=>e.1.2 z h.2 h.1
 | .tau p,k,e,z,h=>Eb.free (p:=p) e z h
 | .rep p,k,e,z,h=>Eb.free (p:=p) e z h
 | .sum p q,k,e,z,h=>h.elim (Eb.free e.1 z) (Eb.free e.2 z)
 | .par p q,k,e,z,h=>h.elim (Eb.free e.1 z) (Eb.free e.2 z)
def Eb.mono:∀{p:P} {k m:Nat},Eb k p->k<=m->Eb m p
 | .nil,_,_,_,_=>trivial
 | .snd a b p,k,m,e,h=>⟨e.1.mono h,e.2.1.mono h,Eb.mono e.2.2 h⟩
 | .mat a b p,k,m,e,h=>⟨e.1.mono h,e.2.1.mono h,Eb.mono e.2.2 h⟩
 | .rcv a x p,k,m,e,h=>⟨e.1.mono h,⟨e.2.1.1,λz G H=>(e.2.1.2 z G H).mono h⟩,Eb.mono e.2.2 (by omega)⟩
 | .res x p,k,m,e,h=>⟨⟨e.1.1,λz G H=>(e.1.2 z G H).mono h⟩,Eb.mono e.2 (by omega)⟩
 | .tau p,k,m,e,h=>Eb.mono (p:=p) e h
 | .rep p,k,m,e,h=>Eb.mono (p:=p) e h
 | .sum p q,k,m,e,h=>⟨Eb.mono e.1 h,Eb.mono e.2 h⟩
 | .par p q,k,m,e,h=>⟨Eb.mono e.1 h,Eb.mono e.2 h⟩
def nX {k:Nat}{c:UInt8}(h:lt c=true):okn k c:=by
 simp only [lt,OA,OK]at h;have H:=OZ.1 h.2;have G:(122:UInt8).toNat=122:=rfl;left;omega
def aE.free {p q:P}{old nm:UInt8}(h:aE p old nm q)(z:UInt8)(H:q.Fr z):z=nm\/(z≠old/\p.Fr z)\/(z=old/\p.Fr z/\old=nm):=by
 obtain⟨y,J,e⟩:=(h UInt8.toNat).symm.free z H;unfold aI at e;split at e
 ·left;exact(OU.1 e).symm
 ·rename_i G;have:y=z:=OU.1 e;subst this;exact .inr (.inl ⟨G,J⟩)
structure dq (k:Nat)(p:P)(old nm:UInt8)(q:P):Prop where
 ok:aE p old nm q
 shp:q.shp=p.shp
 wf:q.wf=true
 eb:Eb k q
def lZ {c old nm:UInt8}{w:World}{R:UInt8->Sb}(h:R (sw c old nm) w):Sc 181 #[.int .u8 c.toNat,.int .u8 old.toNat,.int .u8 nm.toNat] w (aw [.c] R):=by
 refine uo c old nm w R ?_;dsimp only [go_sem];unfold sw at h;refine⟨λG=>?_,λG=>?_⟩
 ·rw [O' (OW G)]at h;exact h
 ·rw [OP (OX G)]at h;exact h
def T.bindC:P->UInt8
 | .rcv _ x _=>x | .res x _=>x | _=>0
def T.sB:P->Bool
 | .rcv .. =>true | .res .. =>true | _=>false
def qZ {t:P}(ok:Ok t){w:World}{R:UInt8->Bool->Sb}(h:R t.bindC t.sB w):Sc 143 #[.string (ak t.text)] w (aw [.c,.b] R):=by
 refine sJ _ w R ?_;dsimp only [go_sem];refine aT ok ?_;cases t<;>simp only [T.kind]<;>repeat' first | refine aW (by decide) ?_ | refine df (by decide) ?_
 all_goals first
  | exact h
  | (refine⟨by simp only [T.text,Ov];omega,?_⟩;exact h)
def T.names:P->Tx
 | .snd a b _=>[a,b] | .rcv a _ _=>[a] | .mat a b _=>[a,b] | _=>[]
def FY {t:P}(ok:Ok t){w:World}{R:aD->Sb}(h:∀w',Ex w w'->R t.names w'):Sc 246 #[.string (ak t.text)] w (aw [.s] R):=by
 refine sQ _ w R ?_;dsimp only [go_sem];refine aT ok ?_;cases t<;>simp only [T.kind]<;>repeat' first | refine aW (by decide) ?_ | refine df (by decide) ?_
 case nil=>exact h w (Ex.refl w)
 case tau=>exact h w (Ex.refl w)
 case sum=>exact h w (Ex.refl w)
 case par=>exact h w (Ex.refl w)
 case res=>exact h w (Ex.refl w)
 case rep=>exact h w (Ex.refl w)
 case rcv=>exact⟨by simp only [T.text,Ov];omega,h w (Ex.refl w)⟩
 case snd=>exact⟨λ _=>True,λw1 G=>⟨trivial,by simp only [T.text,Ov];omega,by simp only [T.text,Ov];omega,by simp [T.text],h w1 (G▸Ex.drew w)⟩⟩
 case mat=>exact⟨λ _=>True,λw1 G=>⟨trivial,by simp only [T.text,Ov];omega,by simp only [T.text,Ov];omega,by simp [T.text],h w1 (G▸Ex.drew w)⟩⟩
def Gw (t:P)(x:UInt8):t.Fr x↔x∈t.names\/(∃p∈t.parts,p.Fr x)/\¬(t.sB=true/\x=t.bindC):=by
 cases t<;>simp [T.Fr,T.names,T.parts,T.sB,T.bindC,RT,and_comm]
def lR.nil:lR []:=List.Pairwise.nil
def lR.filter {s:Tx}(h:lR s)(f:UInt8->Bool):lR (s.filter f):=QC (List.filter_sublist) h
def iu:∀(n:Nat) {t:P},t.size<=n->Ok t->∀{w:World} {R:aD->Sb},(∀s w',Ex w w'->lR s->(∀x,x∈s↔t.Fr x)->R s w')->Sc 79 #[.string (ak t.text)] w (aw [.s] R):=by
 intro n
 induction n with
 | zero=>intro t h;have :=aX t;omega
 | succ n ih=>
  intro t hn ok w R h;refine uA _ w R ?_;dsimp only [go_sem];dsimp only [go_sem,Nat.reduceAdd];refine de ok λv w1 hx hs=>?_
  obtain⟨a,cap,hv⟩:=hs.slice;rw [OM]at hv;refine⟨a,t.parts.length,cap,hv,λout x w'=>Ex w w'/\Strs w' v (t.parts.map T.text)/\lR out/\∃k:Nat,x=k/\k<=t.parts.length/\∀x,x∈out↔∃p∈t.parts.take k,p.Fr x,λ _ x _=>((t.parts.length:Int) - x).toNat,
   ⟨hx,hs,lR.nil,0,rfl,by omega,by simp⟩,λout x w2 hI=>?_⟩
  obtain⟨ε,ο,β,k,rfl,hk,hm⟩:=hI;refine⟨λhc=>?_,λhc=>?_⟩
  ·have H:k< t.parts.length:=by simpa using hc
   obtain⟨b,o,cp,e1,e2,e3⟩:=ο.at (i:=k) (by rw [OM];exact H);rw [OM]at e1;refine⟨b,o,t.parts.length,cp,e1,by omega,by omega,(t.parts[k]).text,?_,?_⟩
   ·rw [OG,O8,e3,QF]
   ·have δ:t.parts[k]∈t.parts:=Oz H;refine ih (by have :=eA δ;omega) (ok.parts _ δ) λs w3 γ υ ζ=>?_
    refine jK β (by have :=υ.bound;omega) λs' w4 J Z α=>?_
    have h3:=dE t;refine⟨by omega,⟨(ε.trans γ).trans J,(ο.ex γ).ex J,Z,k+1,by omega,H,λx=>?_⟩,by dsimp only;omega⟩;rw [α,hm,ζ,List.take_succ_eq_append_getElem H];simp only [OH,OL];constructor
    ·rintro(⟨p,hp,hf⟩ | hf)
     ·exact⟨p,.inl hp,hf⟩
     ·exact⟨_,.inr rfl,hf⟩
    ·rintro⟨p,hp | rfl,hf⟩
     ·exact .inl ⟨p,hp,hf⟩
     ·exact .inr hf
  ·have H:k=t.parts.length:=by simp at hc;omega
   subst H;rw [O4]at hm;refine⟨λout w'=>Ex w w'/\lR out/\∀x,x∈out↔(∃p∈t.parts,p.Fr x)/\¬(t.sB=true/\x=t.bindC),qZ ok ⟨λhb=>?_,λhb=>?_⟩,λς w3 hJ=>?_⟩
   ·refine uf (by have :=β.bound;omega) ⟨ε,β.filter _,λx=>?_⟩;simp [hm,hb]
   ·exact⟨ε,β,λx=>by simp [hm,hb]⟩
   obtain⟨γ,G,ζ⟩:=hJ;refine aT ok ?_;have done:∀s w',Ex w3 w'->lR s->(∀x,x∈s↔x∈t.names\/x∈ς)->R s w':=λs w' J Z α=>h s w' (γ.trans J) Z λx=>by rw [α,ζ,Gw]
   cases t<;>simp only [T.kind]<;>repeat' first | refine aW (by decide) ?_ | refine df (by decide) ?_
   case nil=>exact done _ _ (Ex.refl _) G λx=>by simp [T.names]
   case tau=>exact done _ _ (Ex.refl _) G λx=>by simp [T.names]
   case sum=>exact done _ _ (Ex.refl _) G λx=>by simp [T.names]
   case par=>exact done _ _ (Ex.refl _) G λx=>by simp [T.names]
   case res=>exact done _ _ (Ex.refl _) G λx=>by simp [T.names]
   case rep=>exact done _ _ (Ex.refl _) G λx=>by simp [T.names]
   case rcv a x p=>
    refine⟨by simp only [T.text,Ov];omega,hU G λs w4 J Z α=>done s w4 J Z λx=>?_⟩;rw [α];simp [T.names,T.text,bt]
   case snd a b p=>
    refine⟨λ _=>True,λw4 η=>⟨trivial,by simp only [T.text,Ov];omega,by simp only [T.text,Ov];omega,hU G λs w5 θ ι κ=>⟨trivial,hU ι λs' w6 μ ν ξ=>⟨trivial,done s' w6 (((η▸Ex.drew w3).trans θ).trans μ) ν λx=>?_⟩⟩⟩⟩;rw [ξ,κ];simp [T.names,T.text,bt,RT,or_left_comm]
   case mat a b p=>
    refine⟨λ _=>True,λw4 η=>⟨trivial,by simp only [T.text,Ov];omega,by simp only [T.text,Ov];omega,hU G λs w5 θ ι κ=>⟨trivial,hU ι λs' w6 μ ν ξ=>⟨trivial,done s' w6 (((η▸Ex.drew w3).trans θ).trans μ) ν λx=>?_⟩⟩⟩⟩;rw [ξ,κ];simp [T.names,T.text,bt,RT,or_left_comm]
structure rZ (w:World)(b:Nat)(l:Tx):Prop where
 lt:b< w.heap.size
 cell:∀j,j< l.length->w.cell? ⟨b,j,none⟩=some (.int .u8 (bt l j).toNat)
 fz:∀j,j< l.length->w.frozen? ⟨b,j,none⟩=false
def rZ.G5 {w:World}{el b:Nat}{l:Tx}(h:Ae w el b l):rZ w b l:=by
 obtain⟨cur,lo,hi,G,J,Z,h4⟩:=h;have hb:b< w.heap.size:=by
  rcases Qi b w.heap.size with h | h
  ·exact h
  ·rw [Array.getElem?_eq_none h]at G;cases G
 refine⟨hb,λj H=>?_,λj H=>?_⟩
 ·unfold World.cell?;rw [G];have e:=PA (λl=>l[j]?) J;simp only [dQ,Q3,H,Qu,Qm,Ox H,P8]at e;simp only [Option.isSome_none,Qp,Rb];rw [<-PO,e];simp [bt,H]
 ·unfold World.frozen?;rw [G];simp;omega
def rZ.ex {w w':World}{b:Nat}{l:Tx}(h:rZ w b l)(k:Ex w w'):rZ w' b l:=
 ⟨O1 h.lt k.size,λj G=>by rw [k.cell h.lt];exact h.cell j G,λj G=>by rw [Qr k h.lt];exact h.fz j G⟩
def Mp {l:Tx}{i j:Nat}{c:UInt8}(hi:i< l.length):bt (l.set i c) j=if i=j then c else bt l j:=by
 simp only [bt,List.getD_eq_getElem?_getD,List.getElem?_set];by_cases h:i=j
 ·subst h;simp [hi]
 ·simp [h]
def rZ.set {w:World}{b:Nat}{l:Tx}(h:rZ w b l){i:Nat}(hi:i< l.length)(c:UInt8):rZ (w.setCell ⟨b,i,none⟩ (.int .u8 c.toNat)) b (l.set i c):=by
 refine⟨by rw [Pj];exact h.lt,λj G=>?_,λj G=>?_⟩
 ·rw [PW]at G;rw [Mp hi];by_cases e:i=j
  ·subst e;rw [O' rfl,OQ _ _ _ (h.cell i hi)]
  ·rw [OP e,OD _ _ _ _ (by simp [e])];exact h.cell j G
 ·rw [OS];exact h.fz j (by simpa using G)
def rZ.read {w:World}{b:Nat}{l:Tx}(h:rZ w b l):∀(j:Nat) (x:UInt8),l[j]?=some x->w.cell? ⟨b,0+j,none⟩=some (.int .u8 x.toNat):=by
 intro j x H;obtain⟨G,e⟩:=Px.1 H;rw [O6,h.cell j G];simp [bt,G,e]
def rZ.at {w:World}{b:Nat}{l:Tx}(h:rZ w b l){i:Nat}(hi:i< l.length):w.cell? ⟨b,0+i* 1,none⟩=some (.int .u8 (bt l i).toNat):=by
 rw [O6,O8];exact h.cell i hi
def Ex.own {w w':World}(h:Ex w w'){b i:Nat}(hb:w.heap.size<=b)(v:Value):Ex w (w'.setCell ⟨b,i,none⟩ v):=Below.setCell h hb v
def Ib {t:P}(ok:Ok t){v:Value}{l:List Tx}{w:World}(hs:Strs w v l){R:aD->Sb}
  (ν:(t.kind=43\/t.kind=38)->∃x y,l=[x,y]/\x.length+y.length<=1099511627776/\∀w',Ex w w'->R (40::(x++t.kind::(y++[41]))) w')
  (ξ:t.kind=48->R [48] w)
  (ο:t.kind≠48->t.kind≠43->t.kind≠38->∃x,l=[x]/\x.length<=1099511627776/\∀w',Ex w w'->R (t.text.take t.hd++x) w'):
  Sc 182 #[.string (ak t.text),v] w (aw [.s] R):=by
 refine vD _ v w R ?_;dsimp only [go_sem];refine aT ok ?_;have two:∀(k:UInt8),(t.kind=k)->(k=43\/k=38)->∃S5:Sb,∀w6:World,w6=World.drew w->S5 w6/\∃(b7 o8 δ ζ:Nat),v=Value.slice (some ⟨b7,o8,none⟩) δ ζ/\0<=(0:Int)/\(0:Int)< δ/\∃H:aD,(∀w',S5 w'->World.cell? w' ⟨b7,(o8+Int.toNat 0* 1),none⟩=some (Value.string (ak H)))/\(List.length [(40:UInt8)]+List.length H<=4611686018427387904)/\(List.length ([(40:UInt8)]++H)+List.length [k]<=4611686018427387904)/\∃(ς υ J η:Nat),v=Value.slice (some ⟨ς,υ,none⟩) J η/\0<=(1:Int)/\(1:Int)< J/\∃γ:aD,(∀w',S5 w'->World.cell? w' ⟨ς,(υ+Int.toNat 1* 1),none⟩=some (Value.string (ak γ)))/\(List.length (([(40:UInt8)]++H)++[k])+List.length γ<=4611686018427387904)/\(List.length ((([(40:UInt8)]++H)++[k])++γ)+List.length [(41:UInt8)]<=4611686018427387904)/\R ((((([(40:UInt8)]++H)++[k])++γ)++[(41:UInt8)])) w6:=by
  intro k hk ω;obtain⟨x,y,rfl,hl,hR⟩:=ν (hk▸ω);refine⟨λw'=>Strs w' v [x,y],λw6 Z=>?_⟩;have h6:Strs w6 v [x,y]:=Z▸hs.ex (Ex.drew w);obtain⟨b,o,cap,e1,e2,_⟩:=h6.at (i:=0) (by simp);refine⟨h6,b,o,2,cap,e1,by omega,by omega,x,λw' α=>?_,by simp;omega,by simp;omega,b,o,2,cap,e1,by omega,by omega,y,λw' α=>?_,by simp;omega,by simp;omega,?_⟩
  ·obtain⟨b',o',ε,G,_,e3⟩:=α.at (i:=0) (by simp);rw [e1]at G;cases G;exact e3
  ·obtain⟨b',o',ε,G,_,e3⟩:=α.at (i:=1) (by simp);rw [e1]at G;cases G;exact e3
  ·have :=hR w6 (Z▸Ex.drew w);rw [hk]at this;simpa using this
 have one:t.kind≠48->t.kind≠43->t.kind≠38->∃θ:Sb,∀ι:World,ι=World.drew w->θ ι/\∃(φ χ β κ:Nat),v=Value.slice (some ⟨φ,χ,none⟩) β κ/\0<=(0:Int)/\(0:Int)< β/\∃μ:aD,(∀w',θ w'->World.cell? w' ⟨φ,(χ+Int.toNat 0* 1),none⟩=some (Value.string (ak μ)))/\Sc 180 #[(Value.string (ak t.text))] ι (aw [.i] fun(n36:Int) (ψ:World)=>θ ψ/\(0<=(n36:Int)/\(n36:Int)<=List.length t.text)/\(List.length (List.take (Int.toNat n36) t.text)+List.length μ<=4611686018427387904)/\R (((List.take (Int.toNat n36) t.text)++μ)) ψ):=by
  intro h1 h2 h3;obtain⟨x,rfl,hl,hR⟩:=ο h1 h2 h3;refine⟨λw'=>Strs w' v [x],λw6 Z=>?_⟩;have h6:Strs w6 v [x]:=Z▸hs.ex (Ex.drew w);obtain⟨b,o,cap,e1,e2,_⟩:=h6.at (i:=0) (by simp);have hlen:=ok.len;have hd:t.hd<=t.text.length:=by
   cases t<;>simp only [T.kind,ne_eq,Rv]at h1<;>simp only [T.hd,T.text,Ov]<;>omega
  refine⟨h6,b,o,1,cap,e1,by omega,by omega,x,λw' α=>?_,cZ ok ⟨h6,by omega,?_,?_⟩⟩
  ·obtain⟨b',o',ε,G,_,e3⟩:=α.at (i:=0) (by simp);rw [e1]at G;cases G;exact e3
  ·rw [Pd];omega
  ·rw [OG];exact hR w6 (Z▸Ex.drew w)
 refine⟨λh=>?_,λh=>⟨λh2=>two 43 (OW h2) (.inl rfl),λh2=>⟨λh3=>two 38 (OW h3) (.inr rfl),λh3=>one (OX h) (OX h2) (OX h3)⟩⟩⟩;have hk:=OW h;have :=ξ hk;cases t<;>first | exact this | (exact absurd hk (by simp [T.kind]))
def vP.ok {s:Tx}{c:UInt8}(h:vP s c){k:Nat}(hk:k<=63)(hs:∀d∈s,okn k d):c∉s/\okn (k+1) c/\nm c=true/\ngr c:=by
 rcases h with h | ⟨_,H,h2,h3,h4⟩
 ·have hm:=Q7 h;have hp:=List.find?_some h;have G:lt c=true:=by
   obtain⟨i,hi,rfl⟩:=Pf.1 hm;rw [PH]at hi;have e:(UInt8.ofNat (97+i)).toNat=97+i:=by rw [PT];omega
   simp only [lt,OA,OK];exact⟨OZ.2 (by rw [e];show 97<=_;omega),OZ.2 (by rw [e];show _<=122;omega)⟩
  refine⟨by simpa using hp,nX G,(iz G).1,?_⟩;simp only [lt,OA,OK]at G;have H:=OZ.1 G.1;have h2:=OZ.1 G.2;have δ:(97:UInt8).toNat=97:=rfl;have α:(122:UInt8).toNat=122:=rfl;unfold ngr;omega
 ·have ε:=OZ.1 H;have ζ:=OZ.1 h2;have β:(128:UInt8).toNat=128:=rfl;have γ:(191:UInt8).toNat=191:=rfl;have hle:c.toNat<=128+k:=by
   rcases Qi (128+k) c.toNat with J | Z
   ·exfalso;have e:(UInt8.ofNat (128+k)).toNat=128+k:=by rw [PT];omega
    have hm:=h3 (UInt8.ofNat (128+k)) (OZ.2 (by rw [e];omega)) (Pu.2 (by rw [e];exact J));have :=hs _ hm;unfold okn at this;rw [e]at this;omega
   ·exact Z
  refine⟨?_,.inl (by omega),?_,by unfold ngr;omega⟩
  ·rcases h4 with h4 | h4
   ·exact h4
   ·intro hm;have :=hs _ hm;unfold okn at this;subst h4;omega
  ·simp [nm,H]
def T.rebind (t:P)(old nw y:UInt8)(q:P):P:=match t with
 | .rcv a _ _=> .rcv (sw a old nw) y q
 | _=> .res y q
def AB {c old nw:UInt8}(G:nm c=true)(H:nm nw=true):nm (sw c old nw)=true:=by
 unfold sw;split<;>assumption
def vT {k:Nat}{c old nw:UInt8}(G:okn k c)(H:okn k nw):okn k (sw c old nw):=by
 unfold sw;split<;>assumption
structure Mw (k:Nat)(t:P)(old nw:UInt8)(p:P):Prop where
 drop:t.text.drop t.hd=p.text
 ok:Ok p
 size:p.size< t.size
 eb:Eb (k+1) p
 bd:p.bd+1=t.bd
 okz:∀z,p.Fr z->z≠t.bindC->okn k z
 nmc:nm t.bindC=true
 ngc:ngr t.bindC
 under:∀q,t.bindC≠old->(t.bindC≠nw\/¬p.Fr old)->aE p old nw q->aE t old nw (t.rebind old nw t.bindC q)
 cap:∀y p1 p2,t.bindC=nw->nw≠old->¬p.Fr y->y≠old->y≠nw->aE p nw y p1->aE p1 old nw p2->aE t old nw (t.rebind old nw y p2)
 over:t.bindC=old->t.Fr old->aE t old nw (t.rebind old nw old p)
 fin:∀y q,aE t old nw (t.rebind old nw y q)->q.shp=p.shp->q.wf=true->nm y=true->ngr y->Eb (k+1) q->dq k t old nw (t.rebind old nw y q)
def FX {k:Nat}{t:P}{old nw:UInt8}(ok:Ok t)(eb:Eb k t)(hn:nm nw=true)(kn:okn k nw)(hb:t.sB=true):∃p,Mw k t old nw p:=by
 have hw:=ok.wf;have hl:=ok.len;have fr:∀q,aE t old nw q->∀z,q.Fr z->okn k z:=λq h z hz=>by
  rcases h.free z hz with rfl | h | h
  ·exact kn
  ·exact eb.free z h.2
  ·exact eb.free z h.2.1
 cases t with
 | rcv a x p=>
  simp only [T.wf,OA]at hw;simp only [T.text,Ov]at hl;refine⟨p,rfl,⟨hw.2,by omega⟩,by simp only [T.size];omega,eb.2.2,rfl,eb.2.1.2,hw.1.2,eb.2.1.1,λq G H J=>aE.Fp a G H J,λy p1 p2 G H J h4 h5 h6 h7=>?_,λG H=>?_,λy q G H J h4 hg h5=>⟨G,?_,?_,?_⟩⟩
  ·have G:x=nw:=G;subst G;exact aE.Ja a H J h4 h5 h6 h7
  ·have G:x=old:=G;subst G;exact aE.H7 a
  ·show T.rcv () () q.shp=T.rcv () () p.shp;rw [H]
  ·simp [T.rebind,T.wf,AB hw.1.1 hn,J,h4]
  ·exact⟨vT eb.1 kn,⟨hg,λz hz Z=>fr _ G z (.inr ⟨Z,hz⟩)⟩,h5⟩
 | res x p=>
  simp only [T.wf,OA]at hw;simp only [T.text,Ov]at hl;refine⟨p,rfl,⟨hw.2,by omega⟩,by simp only [T.size];omega,eb.2,rfl,eb.1.2,hw.1,eb.1.1,λq G H J=>aE.FW G H J,λy p1 p2 G H J h4 h5 h6 h7=>?_,λG H=>?_,λy q G H J h4 hg h5=>⟨G,?_,?_,?_⟩⟩
  ·have G:x=nw:=G;subst G;exact aE.JE H J h4 h5 h6 h7
  ·have G:x=old:=G;exact absurd G.symm H.1
  ·show T.res () q.shp=T.res () p.shp;rw [H]
  ·simp [T.rebind,T.wf,J,h4]
  ·exact⟨⟨hg,λz hz Z=>fr _ G z ⟨Z,hz⟩⟩,h5⟩
 | _=>cases hb
def uC {w w':World}(h:w.grownBy w' none):Ex w w':=Below.grown (R8 _ _) h (OB _) (λk G=>by cases G)
def LW {t:P}(h:t.kind≠48):t.hd<=t.text.length:=by
 cases t<;>simp only [T.kind,ne_eq,Rv]at h<;>simp only [T.hd,T.text,Ov]<;>omega
def qD {w1:World}(c d:UInt8){H:World}{b:Nat}(hb:b=w1.heap.size)(h:H=w1.alloc (.cells #[.int .u8 c.toNat,.int .u8 d.toNat] 5)):
  b< H.heap.size/\∀(j:Nat) (x:UInt8),[c,d][j]?=some x->H.cell? ⟨b,0+j,none⟩=some (.int .u8 x.toNat):=by
 subst hb h;refine⟨by rw [size_alloc];omega,λj x G=>?_⟩;rw [O6]
 match j,G with
 | 0,G=>simp at G;subst G;exact aa rfl
 | 1,G=>simp at G;subst G;exact aa rfl
 | j+2,G=>simp at G
def dq.refl {k:Nat}{t:P}{old nw:UInt8}(h:aE t old nw t)(ok:Ok t)(eb:Eb k t):dq k t old nw t:=⟨h,rfl,ok.wf,eb⟩
def dq.Ms {k:Nat}{t:P}{old nw:UInt8}{q:P}(h:dq k t old nw q)(ok:Ok t):Ok q:=⟨h.wf,by rw [T.aQ,T.gn h.shp,<-T.aQ];exact ok.len⟩
def dz:∀(n:Nat) {t:P} {k:Nat} {old nw:UInt8},t.size<=n->Ok t->Eb k t->k+t.bd<=64->nm nw=true->okn k nw->
  ∀{w:World} {R:aD->Sb},(∀q w',Ex w w'->dq k t old nw q->R q.text w')->Sc 112 #[.string (ak t.text),.int .u8 old.toNat,.int .u8 nw.toNat] w (aw [.s] R):=by
 intro n
 induction n with
 | zero=>intro t k old nw h;have :=aX t;omega
 | succ n ih=>
  intro t k old nw hn ok eb hbd ν ζ w R h;refine qY _ old nw w R ?_;dsimp only [go_sem];refine⟨λhne=>?_,λhe=>by
   have he:=OW he;subst he;exact h t w (Ex.refl w) (.refl (aE.same old) ok eb)⟩
  have hne:old≠nw:=OX hne;refine iu _ (OB _) ok λs w1 hx1 hs1 hm1=>dZ (by have :=hs1.bound;omega) ⟨λhq=>?_,λhq=>?_⟩
  ·have hq:¬t.Fr old:=by
    rw [<-hm1];simpa using hq
   exact h t w1 hx1 (.refl (aE.skip hq) ok eb)
  have hfr:t.Fr old:=by rw [<-hm1];simpa using hq
  have hk0:t.kind≠48:=by cases t<;>first | exact hfr.elim | simp [T.kind]
  have hhd:=LW hk0;have hlen:=ok.len;refine cZ ok ⟨by omega,λb cap w2 hb hrow hgr=>?_⟩;rw [OG]at hrow|-;have υ:Ex w w2:=hx1.trans (uC hgr);have β:=rZ.G5 hrow;have ω:w.heap.size<=b:=by rw [hb];exact hx1.size
  have α:(t.text.take t.hd).length=t.hd:=by rw [Pd];omega
  refine qZ ok ⟨λhq2=>?_,λhq2=>?_⟩
  ·
   obtain⟨p,B⟩:=FX (nw:=nw) (old:=old) ok eb ν ζ hq2;have hszp:=B.size;have hbdp:=B.bd;refine⟨some ⟨b,0,none⟩,(t.text.take t.hd).length,cap,rfl,by omega,?_⟩;rw [α,OG,B.drop];refine⟨λpart x w'=>Ex w w'/\rZ w' b (t.text.take t.hd)/\∃p1:P,part=p1.text/\p1.shp=p.shp/\Ok p1/\Eb (k+1) p1/\(nm x=true/\ngr x)/\
    ((x=t.bindC/\p1=p/\(x≠nw\/¬p.Fr old))\/(t.bindC=nw/\¬p.Fr x/\x≠old/\x≠nw/\aE p nw x p1)),⟨λhc=>?_,λhc=>?_⟩,λpart x w3 hJ=>?_⟩
   ·have hc:=OW hc;refine iu _ (OB _) B.ok λs3 w3 η hs3 hm3=>dZ (by have :=hs3.bound;omega) ⟨λhq3=>?_,λhq3=>?_⟩
    ·have hfo:p.Fr old:=by rw [<-hm3];simpa using hq3
     have fin:∀(w':World),Ex w3 w'->∀s4,lR s4->(∀x,x∈s4↔p.Fr x\/x∈[old,nw])->∀y,vP s4 y->(Ex w w'/\rZ w' b (t.text.take t.hd))/\(¬p.Fr y/\y≠old/\y≠nw/\okn (k+1) y/\nm y=true/\ngr y):=by
      intro w' hx' s4 hs4 hm4 y hy;have hall:∀d∈s4,okn k d:=by
       intro d hd;rcases(hm4 d).1 hd with hd | hd
       ·by_cases hz:d=t.bindC
        ·rw [hz,hc];exact ζ
        ·exact B.okz d hd hz
       ·simp only [OY,Rk,RU]at hd;rcases hd with rfl | rfl
        ·exact eb.free _ hfr
        ·exact ζ
      obtain⟨h1,h2,h3⟩:=hy.ok (by omega) hall;rw [hm4]at h1;simp only [OY,Rk,RU,R9]at h1;exact⟨⟨(υ.trans η).trans hx',(β.ex η).ex hx'⟩,h1.1,h1.2.1,h1.2.2,h2,h3⟩
     refine⟨λy w'=>(Ex w w'/\rZ w' b (t.text.take t.hd))/\(¬p.Fr y/\y≠old/\y≠nw/\okn (k+1) y/\nm y=true/\ngr y),⟨λw'=>True,λw4 φ=>⟨trivial,?_,λb2 w5 hb2 H=>⟨trivial,?_,?_⟩⟩⟩,λy w4 hJ=>?_⟩
     ·have Z:Ex w3 w4:=φ▸Ex.drew w3;refine iu _ (OB _) B.ok λs5 w5 J hs5 hm5=>⟨trivial,λb2 w6 hb2 γ=>⟨trivial,b2,0,2,2,[old,nw],rfl,rfl,(qD old nw hb2 γ).2,trivial,?_⟩⟩
      refine jK hs5 (by simp) λs7 w7 ς ξ hm7=>⟨trivial,jh (by have :=ξ.bound;omega) λy hy=>⟨trivial,?_⟩⟩
      exact fin w7 (((Z.trans J).trans (γ▸Ex.alloc w5 _)).trans ς) s7 ξ (λx=>by rw [hm7,hm5]) y hy
     ·have Z:Ex w3 w4:=φ▸Ex.drew w3;have J:Ex w4 w5:=H▸Ex.alloc w4 _;obtain⟨G,hc5⟩:=qD old nw hb2 H;refine iu _ (OB _) B.ok λs6 w6 θ hs6 hm6=>⟨trivial,b2,0,2,2,[old,nw],rfl,rfl,λj x hj=>by rw [θ.cell G];exact hc5 j x hj,trivial,?_⟩
      refine jK hs6 (by simp) λs7 w7 ς ξ hm7=>⟨trivial,jh (by have :=ξ.bound;omega) λy hy=>⟨trivial,?_⟩⟩
      exact fin w7 (((Z.trans J).trans θ).trans ς) s7 ξ (λx=>by rw [hm7,hm6]) y hy
     ·have Z:Ex w3 w4:=φ▸Ex.drew w3;have J:Ex w4 w5:=H▸Ex.alloc w4 _;obtain⟨G,hc5⟩:=qD old nw hb2 H;refine⟨b2,0,2,2,[old,nw],rfl,rfl,hc5,trivial,?_⟩;refine iu _ (OB _) B.ok λs6 w6 θ hs6 hm6=>⟨trivial,?_⟩
      refine jK hs6 (by simp) λs7 w7 ς ξ hm7=>⟨trivial,jh (by have :=ξ.bound;omega) λy hy=>⟨trivial,?_⟩⟩
      exact fin w7 (((Z.trans J).trans θ).trans ς) s7 ξ (λx=>by rw [hm7,hm6]) y hy
     ·obtain⟨⟨J,G⟩,hy1,hy2,hy3,hy4,hy5,hy6⟩:=hJ;refine ih (by omega) B.ok B.eb (by omega) hy5 hy4 λq w6 θ hq=>⟨J.trans θ,G.ex θ,q,rfl,hq.shp,hq.Ms B.ok,hq.eb,⟨hy5,hy6⟩,.inr ⟨hc,hy1,hy2,hy3,?_⟩⟩
      rw [<-hc];exact hq.ok
    ·have hfo:¬p.Fr old:=by rw [<-hm3];simpa using hq3
     exact⟨υ.trans η,β.ex η,p,rfl,rfl,B.ok,B.eb,⟨B.nmc,B.ngc⟩,.inl ⟨rfl,rfl,.inr hfo⟩⟩
   ·have hc:=OX hc;exact⟨υ,β,p,rfl,rfl,B.ok,B.eb,⟨B.nmc,B.ngc⟩,.inl ⟨rfl,rfl,.inl hc⟩⟩
   ·obtain⟨η,hb3,p1,rfl,hsh1,ok1,eb1,hnx,hmid⟩:=hJ;refine⟨λpart w'=>Ex w w'/\rZ w' b (t.text.take t.hd)/\∃p2:P,part=p2.text/\p2.shp=p.shp/\Ok p2/\Eb (k+1) p2/\aE t old nw (t.rebind old nw x p2),⟨λhc=>?_,λhc=>?_⟩,λpart w4 hJ=>?_⟩
    ·have hc:x≠old:=by simpa using hc
     refine ih (by have :=T.pO hsh1;omega) ok1 eb1 (by have :=T.LV hsh1;omega) ν (ζ.mono (by omega)) λq w5 J hq=>⟨η.trans J,hb3.ex J,q,rfl,hq.shp.trans hsh1,hq.Ms ok1,hq.eb,?_⟩
     rcases hmid with⟨rfl,rfl,hu⟩ | ⟨h1,h2,h3,h4,h5⟩
     ·exact B.under q hc hu hq.ok
     ·exact B.cap x p1 q h1 (Ry hne) h2 h3 h4 h5 hq.ok
    ·have hc:x=old:=by simpa using hc
     refine⟨η,hb3,p1,rfl,hsh1,ok1,eb1,?_⟩;rcases hmid with⟨h1,rfl,hu⟩ | ⟨h1,h2,h3,h4,h5⟩
     ·rw [hc];exact B.over (h1.symm.trans hc) hfr
     ·exact absurd hc h3
    ·obtain⟨Z,hb4,p2,rfl,hsh2,ok2,eb2,hren⟩:=hJ;have hfin:=B.fin x p2 hren hsh2 ok2.wf hnx.1 hnx.2 eb2;have hok2:=ok2.len;refine⟨λw'=>Ex w w'/\∃l:Tx,rZ w' b l/\l.length=t.hd/\l++p2.text=(t.rebind old nw x p2).text,aT ok ?_,λw5 hJ=>?_⟩
     ·cases t with
      | rcv a y p'=>
       simp only [T.kind];refine df (by decide) ?_;have hl3:(3:Nat)<=4:=by omega
       refine⟨b,0,_,cap,rfl,by omega,by simp only [T.hd];omega,a,hb4.at (i:=0) (by rw [α];simp only [T.hd];omega),lZ ?_⟩;have l0:0< ((T.rcv a y p').text.take (T.rcv a y p').hd).length:=by rw [α];simp only [T.hd];omega
       have l2:2< ((T.rcv a y p').text.take (T.rcv a y p').hd).length:=by rw [α];simp only [T.hd];omega
       refine⟨b,0,_,cap,rfl,by omega,by omega,⟨⟨_,hb4.at (i:=0) l0⟩,?_⟩,λw5 H=>?_⟩
       ·exact hb4.fz 0 l0
       have G:=hb4.set (i:=0) l0 (sw a old nw);have H:w5=w4.setCell ⟨b,0,none⟩ (.int .u8 (sw a old nw).toNat):=H;rw [<-H]at G;have l2':2< (((T.rcv a y p').text.take (T.rcv a y p').hd).set 0 (sw a old nw)).length:=by rw [PW];exact l2
       refine⟨b,0,_,cap,rfl,by omega,by omega,⟨⟨_,G.at (i:=2) l2'⟩,?_⟩,λw6 γ=>?_⟩
       ·exact G.fz 2 l2'
       have χ:=G.set (i:=2) l2' x;have γ:w6=w5.setCell ⟨b,2,none⟩ (.int .u8 x.toNat):=γ;rw [<-γ]at χ;exact⟨γ▸(Ex.own (H▸Z.own ω _) ω _),_,χ,by rw [PW,PW,α],rfl⟩
      | res y p'=>
       simp only [T.kind];refine aW (by decide) ?_;have l1:1< ((T.res y p').text.take (T.res y p').hd).length:=by rw [α];simp only [T.hd];omega
       refine⟨b,0,_,cap,rfl,by omega,by omega,⟨⟨_,hb4.at (i:=1) l1⟩,?_⟩,λw5 H=>?_⟩
       ·exact hb4.fz 1 l1
       have G:=hb4.set (i:=1) l1 x;have H:w5=w4.setCell ⟨b,1,none⟩ (.int .u8 x.toNat):=H;rw [<-H]at G;exact⟨H▸(Z.own ω _),_,G,by rw [PW,α],rfl⟩
      | _=>cases hq2
     ·obtain⟨J,l,G,hl5,e5⟩:=hJ;refine⟨b,0,_,cap,l,rfl,hl5,G.read,by omega,?_⟩;rw [e5];exact h _ _ J hfin
  ·
   have hw:=ok.wf;have fin:∀(p:P) (l:Tx) (mk:P->P),t.text.drop t.hd=p.text->Ok p->p.size<=n->Eb k p->k+p.bd<=64->l.length=t.hd->(∀q,dq k p old nw q->dq k t old nw (mk q)/\(mk q).text=l++q.text)->
     ∀w3,Ex w w3->rZ w3 b l->∃ψ:Sb,∀ο:World,ο=World.drew w3->ψ ο/\∃(a212:Option Addr) (δ cap214:Nat),(Value.slice (some ⟨b,0,none⟩) (List.length (List.take t.hd t.text)) cap)=Value.slice a212 δ cap214/\(0<=((δ:Int):Int)/\((δ:Int):Int)<=List.length t.text)/\(∃(b215 o216 n217 cap218:Nat) (l219:aD),(Value.slice (some ⟨b,0,none⟩) (List.length (List.take t.hd t.text)) cap)=Value.slice (some ⟨b215,o216,none⟩) n217 cap218/\List.length l219=n217/\(∀(j:Nat) (x:UInt8),l219[j]?=some x->World.cell? ο ⟨b215,o216+j,none⟩=some (Value.int IntKind.u8 (UInt8.toNat x)))/\ψ ο/\Sc 112 #[(Value.string (ak (List.drop (Int.toNat (δ:Int)) t.text))),(Value.int IntKind.u8 (UInt8.toNat old)),(Value.int IntKind.u8 (UInt8.toNat nw))] ο (aw [.s] fun(s220:aD) (w221:World)=>ψ w221/\(List.length l219+List.length s220<=4611686018427387904)/\R ((l219++s220)) w221))/\(Sc 112 #[(Value.string (ak (List.drop (Int.toNat (δ:Int)) t.text))),(Value.int IntKind.u8 (UInt8.toNat old)),(Value.int IntKind.u8 (UInt8.toNat nw))] ο (aw [.s] fun(s222:aD) (w223:World)=>ψ w223/\∃(b224 o225 n226 cap227:Nat) (l228:aD),(Value.slice (some ⟨b,0,none⟩) (List.length (List.take t.hd t.text)) cap)=Value.slice (some ⟨b224,o225,none⟩) n226 cap227/\List.length l228=n226/\(∀(j:Nat) (x:UInt8),l228[j]?=some x->World.cell? w223 ⟨b224,o225+j,none⟩=some (Value.int IntKind.u8 (UInt8.toNat x)))/\ψ w223/\(List.length l228+List.length s222<=4611686018427387904)/\R ((l228++s222)) w223)):=by
    intro p l mk hdr okp hsz ebp hbp hll hmk w3 η hb3;refine⟨λ _=>True,λw4 φ=>⟨trivial,_,_,_,rfl,by rw [α];omega,?_,?_⟩⟩
    ·have Z:Ex w3 w4:=φ▸Ex.drew w3;rw [α,OG,hdr];refine⟨b,0,_,cap,l,rfl,hll,(hb3.ex Z).read,trivial,ih hsz okp ebp hbp ν ζ λq w5 J hq=>⟨trivial,?_,?_⟩⟩
     ·have :=(hq.Ms okp).len;omega
     ·obtain⟨h1,h2⟩:=hmk q hq;rw [<-h2];exact h _ _ ((η.trans Z).trans J) h1
    ·have Z:Ex w3 w4:=φ▸Ex.drew w3;rw [α,OG,hdr];refine ih hsz okp ebp hbp ν ζ λq w5 J hq=>⟨trivial,b,0,_,cap,l,rfl,hll,((hb3.ex Z).ex J).read,trivial,?_,?_⟩
     ·have :=(hq.Ms okp).len;omega
     ·obtain⟨h1,h2⟩:=hmk q hq;rw [<-h2];exact h _ _ ((η.trans Z).trans J) h1
   have two:∀(p q:P) (mk:P->P->P),t.parts=[p,q]->(t.kind=43\/t.kind=38)->(∀p' q',dq k p old nw p'->dq k q old nw q'->dq k t old nw (mk p' q')/\(mk p' q').text=40::(p'.text++t.kind::(q'.text++[41]))/\Ok (mk p' q'))->Eb k p->Eb k q->k+p.bd<=64->k+q.bd<=64->
     Sc 141 #[(Value.string (ak t.text))] w2 (aw [.v] fun(v165:Value) (w166:World)=>∃κ:Sb,∀w168:World,w168=World.drew w166->κ w168/\∃(b169 o170 len171 cap172:Nat),v165=Value.slice (some ⟨b169,o170,none⟩) len171 cap172/\0<=(0:Int)/\(0:Int)< len171/\∃s173:aD,(∀w',κ w'->World.cell? w' ⟨b169,(o170+Int.toNat 0* 1),none⟩=some (Value.string (ak s173)))/\∃(b174 o175 len176 cap177:Nat),v165=Value.slice (some ⟨b174,o175,none⟩) len176 cap177/\0<=(1:Int)/\(1:Int)< len176/\∃s178:aD,(∀w',κ w'->World.cell? w' ⟨b174,(o175+Int.toNat 1* 1),none⟩=some (Value.string (ak s178)))/\Sc 112 #[(Value.string (ak s173)),(Value.int IntKind.u8 (UInt8.toNat old)),(Value.int IntKind.u8 (UInt8.toNat nw))] w168 (aw [.s] fun(s179:aD) (w180:World)=>κ w180/\Sc 112 #[(Value.string (ak s178)),(Value.int IntKind.u8 (UInt8.toNat old)),(Value.int IntKind.u8 (UInt8.toNat nw))] w180 (aw [.s] fun(s181:aD) (w182:World)=>κ w182
 /\∀(b183:Nat) (w184:World),b183=Array.size (World.heap w182)->w184=World.alloc w182 (Obj.cells #[(Value.string (ak s179)),(Value.string (ak s181))] 9)->κ w184/\Sc 182 #[(Value.string (ak t.text)),(Value.slice (some ⟨b183,0,none⟩) 2 2)] w184 (aw [.s] fun(s185:aD) (w186:World)=>κ w186/\R (s185) w186)))):=by
    intro p q mk ε hkind hmk ebp ebq hbp hbq;refine de ok λv w3 η hs3=>?_
    rw [ε]at hs3;have hs3:Strs w3 v [p.text,q.text]:=hs3;have okp:=ok.parts p (by rw [ε];simp);have okq:=ok.parts q (by rw [ε];simp);have szp:p.size< t.size:=eA (by rw [ε];simp);have szq:q.size< t.size:=eA (by rw [ε];simp);obtain⟨b3,o3,cap3,e1,e2,_⟩:=hs3.at (i:=0) (by simp);have rd:∀w' (i:Nat) (x:Tx),Ex w3 w'->[p.text,q.text][i]?=some x->w'.cell? ⟨b3,o3+i* 1,none⟩=some (.string (ak x)):=by
     intro w' i x hx hi;obtain⟨hi',e⟩:=Px.1 hi;obtain⟨b',o',cap',e1',_,e3⟩:=(hs3.ex hx).at hi';rw [e1]at e1';cases e1';rw [O8,e3,e]
    refine⟨λw'=>Ex w3 w',λw4 φ=>?_⟩;have Z:Ex w3 w4:=φ▸Ex.drew w3;refine⟨Z,b3,o3,2,cap3,e1,by omega,by omega,p.text,λw' hx=>rd w' 0 _ hx rfl,b3,o3,2,cap3,e1,by omega,by omega,q.text,λw' hx=>rd w' 1 _ hx rfl,?_⟩;refine ih (by omega) okp ebp hbp ν ζ λp' w5 J ι=>⟨Z.trans J,ih (by omega) okq ebq hbq ν ζ λq' w6 θ μ=>⟨(Z.trans J).trans θ,λb7 w7 hb7 hw7=>?_⟩⟩
    have ς:Ex w6 w7:=hw7▸Ex.alloc w6 _;obtain⟨m1,m2,m3⟩:=hmk p' q' ι μ;refine⟨((Z.trans J).trans θ).trans ς,?_⟩;have ξ:Strs w7 (.slice (some ⟨b7,0,none⟩) 2 2) [p'.text,q'.text]:=by
     refine .inr ⟨b7,0,2,rfl,by rw [hw7,size_alloc];omega,λi z hz=>?_⟩;rw [O6,hb7,hw7];refine aa ?_
     match i,hz with
     | 0,hz=>simp at hz|-;exact hz▸rfl
     | 1,hz=>simp at hz|-;exact hz▸rfl
     | i+2,hz=>simp at hz
    have hbase:Ex w w7:=(((υ.trans η).trans (Z.trans J)).trans θ).trans ς;refine Ib ok ξ (λ _=>⟨_,_,rfl,?_,λw8 hx8=>⟨?_,?_⟩⟩) (λh0=>absurd h0 hk0) λ _ h2 h3=>absurd hkind (by simp [h2,h3])
    ·have :=(ι.Ms okp).len;have e:=PA List.length m2;have hml:=m3.len;simp only [Ov,Oy,ON]at e;omega
    ·exact(((Z.trans J).trans θ).trans ς).trans hx8
    ·rw [<-m2];exact h _ _ (hbase.trans hx8) m1
   cases t with
   | nil=>exact hfr.elim
   | rcv a x p=>cases hq2
   | res x p=>cases hq2
   | tau p=>
    simp only [T.wf]at hw;simp only [T.text,Ov]at hlen;refine⟨λw'=>Ex w w'/\rZ w' b [126,46],aT ok ?_,λw3 hJ=>fin p [126,46] .tau rfl ⟨hw,by omega⟩ (by simp only [T.size]at hn;omega) eb hbd rfl (λq hq=>⟨⟨aE.tau hq.ok,?_,hq.wf,hq.eb⟩,rfl⟩) w3 hJ.1 hJ.2⟩
    ·simp only [T.kind]
     repeat' first | refine aW (by decide) ?_ | refine df (by decide) ?_
     exact⟨υ,β⟩
    ·show T.tau q.shp=T.tau p.shp;rw [hq.shp]
   | rep p=>
    simp only [T.wf]at hw;simp only [T.text,Ov]at hlen;refine⟨λw'=>Ex w w'/\rZ w' b [42],aT ok ?_,λw3 hJ=>fin p [42] .rep rfl ⟨hw,by omega⟩ (by simp only [T.size]at hn;omega) eb hbd rfl (λq hq=>⟨⟨aE.rep hq.ok,?_,hq.wf,hq.eb⟩,rfl⟩) w3 hJ.1 hJ.2⟩
    ·simp only [T.kind]
     repeat' first | refine aW (by decide) ?_ | refine df (by decide) ?_
     exact⟨υ,β⟩
    ·show T.rep q.shp=T.rep p.shp;rw [hq.shp]
   | snd a c p=>
    simp only [T.wf,OA]at hw;simp only [T.text,Ov]at hlen;refine⟨λw'=>Ex w w'/\rZ w' b [sw a old nw,33,sw c old nw,46],aT ok ?_,λw3 hJ=>fin p [sw a old nw,33,sw c old nw,46] (.snd (sw a old nw) (sw c old nw)) rfl ⟨hw.2,by omega⟩ (by simp only [T.size]at hn;omega) eb.2.2 hbd rfl (λq hq=>⟨⟨aE.snd a c hq.ok,?_,?_,⟨vT eb.1 ζ,vT eb.2.1 ζ,hq.eb⟩⟩,rfl⟩) w3 hJ.1 hJ.2⟩
    ·simp only [T.kind];refine df (by decide) ?_;have β:rZ w2 b [a,33,c,46]:=β;refine⟨b,0,_,cap,rfl,by omega,by rw [α];simp only [T.hd];omega,a,β.at (i:=0) (by simp),lZ ?_⟩;refine⟨b,0,_,cap,rfl,by omega,by rw [α];simp only [T.hd];omega,⟨⟨_,β.at (i:=0) (by simp)⟩,β.fz 0 (by simp)⟩,λw5 H=>?_⟩;have G:=β.set (i:=0) (by simp) (sw a old nw);have H:w5=w2.setCell ⟨b,0,none⟩ (.int .u8 (sw a old nw).toNat):=H;rw [<-H]at G;refine⟨b,0,_,cap,rfl,by omega,by rw [α];simp only [T.hd];omega,c,G.at (i:=2) (by simp),lZ ?_⟩;refine⟨b,0,_,cap,rfl,by omega,by rw [α];simp only [T.hd];omega,⟨⟨_,G.at (i:=2) (by simp)⟩,G.fz 2 (by simp)⟩,λw6 γ=>?_⟩;have χ:=G.set (i:=2) (by simp) (sw c old nw);have γ:w6=w5.setCell ⟨b,2,none⟩ (.int .u8 (sw c old nw).toNat):=γ;rw [<-γ]at χ;exact⟨γ▸(Ex.own (H▸υ.own ω _) ω _),χ⟩
    ·show T.snd () () q.shp=T.snd () () p.shp;rw [hq.shp]
    ·simp [T.wf,AB hw.1.1 ν,AB hw.1.2 ν,hq.wf]
   | mat a c p=>
    simp only [T.wf,OA]at hw;simp only [T.text,Ov]at hlen;refine⟨λw'=>Ex w w'/\rZ w' b [91,sw a old nw,61,sw c old nw,93],aT ok ?_,λw3 hJ=>fin p [91,sw a old nw,61,sw c old nw,93] (.mat (sw a old nw) (sw c old nw)) rfl ⟨hw.2,by omega⟩ (by simp only [T.size]at hn;omega) eb.2.2 hbd rfl (λq hq=>⟨⟨aE.mat a c hq.ok,?_,?_,⟨vT eb.1 ζ,vT eb.2.1 ζ,hq.eb⟩⟩,rfl⟩) w3 hJ.1 hJ.2⟩
    ·simp only [T.kind];refine aW (by decide) (df (by decide) ?_);have β:rZ w2 b [91,a,61,c,93]:=β;refine⟨b,0,_,cap,rfl,by omega,by rw [α];simp only [T.hd];omega,a,β.at (i:=1) (by simp),lZ ?_⟩;refine⟨b,0,_,cap,rfl,by omega,by rw [α];simp only [T.hd];omega,⟨⟨_,β.at (i:=1) (by simp)⟩,β.fz 1 (by simp)⟩,λw5 H=>?_⟩;have G:=β.set (i:=1) (by simp) (sw a old nw);have H:w5=w2.setCell ⟨b,1,none⟩ (.int .u8 (sw a old nw).toNat):=H;rw [<-H]at G;refine⟨b,0,_,cap,rfl,by omega,by rw [α];simp only [T.hd];omega,c,G.at (i:=3) (by simp),lZ ?_⟩;refine⟨b,0,_,cap,rfl,by omega,by rw [α];simp only [T.hd];omega,⟨⟨_,G.at (i:=3) (by simp)⟩,G.fz 3 (by simp)⟩,λw6 γ=>?_⟩;have χ:=G.set (i:=3) (by simp) (sw c old nw);have γ:w6=w5.setCell ⟨b,3,none⟩ (.int .u8 (sw c old nw).toNat):=γ;rw [<-γ]at χ;exact⟨γ▸(Ex.own (H▸υ.own ω _) ω _),χ⟩
    ·show T.mat () () q.shp=T.mat () () p.shp;rw [hq.shp]
    ·simp [T.wf,AB hw.1.1 ν,AB hw.1.2 ν,hq.wf]
   | sum p q=>
    simp only [T.bd]at hbd;have hwf:=hw;simp only [T.wf,OA]at hw;refine⟨λ _=>False,aT ok ?_,λw3 hJ=>hJ.elim⟩;simp only [T.kind];refine aW (by decide) (aW (by decide) (df (by decide) (df (by decide) ?_)));refine two p q .sum rfl (.inl rfl) (λp' q' ι μ=>?_) eb.1 eb.2 (by omega) (by omega);have hs:(T.sum p' q').shp=(T.sum p q).shp:=by show T.sum p'.shp q'.shp=T.sum p.shp q.shp;rw [ι.shp,μ.shp]
    have hr:dq k (.sum p q) old nw (.sum p' q'):=⟨aE.sum ι.ok μ.ok,hs,by simp [T.wf,ι.wf,μ.wf],⟨ι.eb,μ.eb⟩⟩
    exact⟨hr,rfl,hr.Ms ok⟩
   | par p q=>
    simp only [T.bd]at hbd;have hwf:=hw;simp only [T.wf,OA]at hw;refine⟨λ _=>False,aT ok ?_,λw3 hJ=>hJ.elim⟩;simp only [T.kind];refine aW (by decide) (aW (by decide) (aW (by decide) (df (by decide) ?_)));refine two p q .par rfl (.inr rfl) (λp' q' ι μ=>?_) eb.1 eb.2 (by omega) (by omega);have hs:(T.par p' q').shp=(T.par p q).shp:=by show T.par p'.shp q'.shp=T.par p.shp q.shp;rw [ι.shp,μ.shp]
    have hr:dq k (.par p q) old nw (.par p' q'):=⟨aE.par ι.ok μ.ok,hs,by simp [T.wf,ι.wf,μ.wf],⟨ι.eb,μ.eb⟩⟩
    exact⟨hr,rfl,hr.Ms ok⟩
section
variable {A B:Type} [DecidableEq A] [DecidableEq B]
open Classical
namespace T
def strip:T A->T A
 | mat a b p=>if a=b then p.strip else mat a b p
 | p=>p
noncomputable def peel:T A->T A
 | mat a b p=>if a=b then p.peel else mat a b p
 | sum p q=>if p.dead then q.peel else if q.dead then p.peel else sum p q
 | par p q=>if p.dead then q.peel else if q.dead then p.peel else par p q
 | res x p=>if p.Us x then res x p else p.peel
 | p=>p
def vf:∀p:T A,p.strip.dead=p.dead
 | mat a b p=>by
  unfold strip;split
  ·rw [vf p];rfl
  ·rfl
 | nil=>rfl | snd .. =>rfl | rcv .. =>rfl | tau .. =>rfl | sum .. =>rfl | par .. =>rfl | res .. =>rfl | rep .. =>rfl
def BK (x:A):∀p:T A,p.strip.Us x↔p.Us x
 | mat a b p=>by
  unfold strip;split
  ·rename_i h;rw [BK x p];simp [Us,h]
  ·rfl
 | nil=>Rx | snd .. =>Rx | rcv .. =>Rx | tau .. =>Rx | sum .. =>Rx | par .. =>Rx | res .. =>Rx | rep .. =>Rx
def oW:∀p:T A,p.strip.size<=p.size
 | mat a b p=>by
  unfold strip;split
  ·have :=oW p;simp only [size];omega
  ·exact OB _
 | nil=>OB _ | snd .. =>OB _ | rcv .. =>OB _ | tau .. =>OB _ | sum .. =>OB _ | par .. =>OB _ | res .. =>OB _ | rep .. =>OB _
def ri:∀(p:T A) (a b:A) (q:T A),p.strip=mat a b q->a≠b
 | mat a b p,c,d,q,h=>by
  unfold strip at h;split at h
  ·exact ri p c d q h
  ·cases h;assumption
 | nil,_,_,_,h=>by cases h
 | snd ..,_,_,_,h=>by cases h
 | rcv ..,_,_,_,h=>by cases h
 | tau ..,_,_,_,h=>by cases h
 | sum ..,_,_,_,h=>by cases h
 | par ..,_,_,_,h=>by cases h
 | res ..,_,_,_,h=>by cases h
 | rep ..,_,_,_,h=>by cases h
def iQ (Q:T A->Prop)(hm:∀a p,Q (mat a a p)->Q p)(J:∀p q,Q (sum p q)->Q p/\Q q)(Z:∀p q,Q (par p q)->Q p/\Q q)(hr:∀x p,¬p.Us x->Q (res x p)->Q p):∀p:T A,Q p->Q p.peel:=by
 intro p
 induction p with
 | mat a b p G=>
  intro h;unfold peel;split
  ·rename_i e;subst e;exact G (hm a p h)
  ·exact h
 | sum p q G H=>
  intro h;unfold peel;split
  ·exact H (J p q h).2
  ·split
   ·exact G (J p q h).1
   ·exact h
 | par p q G H=>
  intro h;unfold peel;split
  ·exact H (Z p q h).2
  ·split
   ·exact G (Z p q h).1
   ·exact h
 | res x p G=>
  intro h;unfold peel;split
  ·exact h
  ·rename_i e;exact G (hr x p e h)
 | nil=>exact id
 | snd=>exact id
 | rcv=>exact id
 | tau=>exact id
 | rep=>exact id
def mE:∀p:T A,p.peel.dead=p.dead:=by
 intro p
 induction p with
 | mat a b p H=>unfold peel;split<;>simp_all [dead]
 | sum p q H G=>
  unfold peel;split
  ·rename_i h;rw [G];simp [dead,h]
  ·split
   ·rename_i h J;rw [H];simp [dead,J]
   ·rfl
 | par p q H G=>
  unfold peel;split
  ·rename_i h;rw [G];simp [dead,h]
  ·split
   ·rename_i h J;rw [H];simp [dead,J]
   ·rfl
 | res x p H=>
  unfold peel;split
  ·rfl
  ·rw [H];rfl
 | nil=>rfl
 | snd=>rfl
 | rcv=>rfl
 | tau=>rfl
 | rep=>rfl
def dK:T A->Prop
 | mat a b _=>a≠b
 | sum p q=>p.dead=false/\q.dead=false
 | par p q=>p.dead=false/\q.dead=false
 | res x p=>p.Us x
 | _=>True
def lv:∀p:T A,p.peel.dK:=by
 intro p
 induction p with
 | mat a b p H=>unfold peel;split<;>assumption
 | sum p q H G=>
  unfold peel;split
  ·exact G
  ·split
   ·exact H
   ·rename_i h J;exact⟨by simpa using h,by simpa using J⟩
 | par p q H G=>
  unfold peel;split
  ·exact G
  ·split
   ·exact H
   ·rename_i h J;exact⟨by simpa using h,by simpa using J⟩
 | res x p H=>unfold peel;split<;>assumption
 | nil=>trivial
 | snd=>trivial
 | rcv=>trivial
 | tau=>trivial
 | rep=>trivial
def xV (p:T A):p.peel.size<=p.size:=
 iQ (λq=>q.size<=p.size) (λa q h=>by simp only [size]at h;omega) (λq r h=>by simp only [size]at h;omega) (λq r h=>by simp only [size]at h;omega) (λx q _ h=>by simp only [size]at h;omega) p (OB _)
def JK (p:T A):p.peel.ow<=p.ow:=
 iQ (λq=>q.ow<=p.ow) (λa q h=>h) (λq r h=>by simp only [ow]at h;omega) (λq r h=>by simp only [ow]at h;omega) (λx q _ h=>by simp only [ow]at h;omega) p (OB _)
def EI (x:A):∀p:T A,p.peel.Us x↔p.Us x:=by
 intro p
 induction p with
 | mat a b p H=>
  unfold peel;split
  ·rename_i h;rw [H];simp [Us,h]
  ·rfl
 | sum p q H J=>
  unfold peel;split
  ·rename_i h;rw [J];exact⟨.inr,λG=>G.elim (λG=>absurd G (bF h)) id⟩
  ·split
   ·rename_i h G;rw [H];exact⟨.inl,λk=>k.elim id (λk=>absurd k (bF G))⟩
   ·rfl
 | par p q H J=>
  unfold peel;split
  ·rename_i h;rw [J];exact⟨.inr,λG=>G.elim (λG=>absurd G (bF h)) id⟩
  ·split
   ·rename_i h G;rw [H];exact⟨.inl,λk=>k.elim id (λk=>absurd k (bF G))⟩
   ·rfl
 | res y p H=>
  unfold peel;split
  ·rfl
  ·rename_i h;rw [H];refine⟨λk=>⟨λe=>h (e▸k),k⟩,λk=>k.2⟩
 | nil=>rfl
 | snd=>rfl
 | rcv=>rfl
 | tau=>rfl
 | rep=>rfl
end T
end
open Classical
def fF.sub {A:Type}[DecidableEq A]{ρ:A->Nat}{p q:T A}(h:fF ρ p)(G:∀x,q.Us x->p.Us x):fF ρ q:=λx y H J=>h x y (G x H) (G y J)
def J7 (u:U)(h:Uq u):Uq u.peel:=
 T.iQ Uq (λ _ _ h=>h.mat) (λ _ _ h=>⟨h.eJ,h.dX⟩) (λ _ _ h=>⟨h.gP,h.ga⟩) (λ _ _ _ h=>h.res) u h
def D8 (u:U):∀x∈BV u.peel,x∈BV u:=
 T.iQ (λq=>∀x∈BV q,x∈BV u) (λ _ _ h=>h) (λ _ _ h=>⟨λx G=>h x (O9 _ G),λx G=>h x (O0 _ G)⟩)
  (λ _ _ h=>⟨λx G=>h x (O9 _ G),λx G=>h x (O0 _ G)⟩) (λ _ _ _ h=>λx G=>h x (OJ _ G)) u (λx h=>h)
def dB:∀u:U,Uq u->u.dead=true->an u=([],[])
 | .nil,_,_=>rfl
 | .snd ..,_,h=>by cases h
 | .rcv ..,_,h=>by cases h
 | .tau ..,_,h=>by cases h
 | .sum p q,hu,h=>by
  simp only [T.dead,OA]at h;simp only [an,h.1,Qu];exact dB q hu.dX h.2
 | .par p q,hu,h=>by
  simp only [T.dead,OA]at h;simp [an,dB p hu.gP h.1,dB q hu.ga h.2]
 | .res x p,hu,h=>by
  have hd:p.dead=true:=h;simp [an,dB p hu.res hd,m7 hd,Lv.has]
 | .mat a b p,hu,h=>by
  have hd:p.dead=true:=h;simp only [an,hd,Qu,dB p hu.mat hd];split<;>rfl
 | .rep p,hu,h=>by
  have hd:p.dead=true:=h;simp [an,hd]
def qk:∀u:U,Uq u->an u.peel=an u:=by
 intro u
 induction u with
 | nil=>intro _;rfl
 | snd=>intro _;rfl
 | rcv=>intro _;rfl
 | tau=>intro _;rfl
 | rep=>intro _;rfl
 | mat a b p G=>
  intro h;unfold T.peel;split
  ·rename_i e;rw [G h.mat];simp [an,e]
  ·rfl
 | sum p q G H=>
  intro h;unfold T.peel;split
  ·rename_i e;rw [H h.dX];simp [an,e]
  ·split
   ·rename_i e J;rw [G h.eJ];simp [an,e,J]
   ·rfl
 | par p q G H=>
  intro h;unfold T.peel;split
  ·rename_i e;rw [H h.ga];simp [an,dB p h.gP e]
  ·split
   ·rename_i e J;rw [G h.gP];simp [an,dB q h.ga J]
   ·rfl
 | res x p G=>
  intro h;unfold T.peel;split
  ·rfl
  ·rename_i e;rw [G h.res];have:¬(td p).2.has x=true:=λZ=>e ((gL p x h.gI).1 Z)
   simp [an,this]
def LJ {p:T UInt8}{u:U}{ρ:UInt8->Nat}{σ:Nat->Nat}{x:UInt8}{y:Nat}(h:∀v,AE (aI ρ x v) p (aI σ y v) u)(hi:fF ρ (.res x p))(hj:fF σ (.res y u)):p.Us x↔u.Us y:=by
 obtain⟨v,h1,h2⟩:=cc p u ρ σ;have G:fF (aI ρ x v) p:= .aI (λa b ha hb h5 Z=>hi a b ⟨ha,h5⟩ ⟨hb,Z⟩) λa _ ha=>h1 a (T.bj ha)
 have H:fF (aI σ y v) u:= .aI (λa b ha hb h5 Z=>hj a b ⟨ha,h5⟩ ⟨hb,Z⟩) λa _ ha=>h2 a (T.bj ha)
 constructor
 ·intro hx;obtain⟨z,J,e⟩:=(h v).used G H x hx;rw [cE]at e;unfold aI at e;split at e
  ·rename_i hh;exact hh▸J
  ·exact absurd e (h2 z (T.bj J))
 ·intro hy;obtain⟨z,J,e⟩:=(h v).symm.used H G y hy;rw [cE]at e;unfold aI at e;split at e
  ·rename_i hh;exact hh▸J
  ·exact absurd e (h1 z (T.bj J))
def AE.Ka {p:T UInt8}{u:U}{ρ:UInt8->Nat}{σ:Nat->Nat}{a b:UInt8}{c d:Nat}(h:AE ρ (.mat a b p) σ (.mat c d u))(hi:fF ρ (.mat a b p))(J:fF σ (.mat c d u))(hd:p.dead=false):a=b↔c=d:=by
 have H:u.dead=false:=h.2.2.dead▸hd;constructor
 ·rintro rfl
  refine P1 λG=>G (J c d (.inr ⟨G,H,.inl rfl⟩) (.inr ⟨G,H,.inr (.inl rfl)⟩) (h.1.symm.trans h.2.1))
 ·rintro rfl
  refine P1 λG=>G (hi a b (.inr ⟨G,hd,.inl rfl⟩) (.inr ⟨G,hd,.inr (.inl rfl)⟩) (h.1.trans h.2.1.symm))
def AE.peel:∀{p:T UInt8} {u:U} {ρ:UInt8->Nat} {σ:Nat->Nat},AE ρ p σ u->fF ρ p->fF σ u->Uq u->p.dead=false->
  ∃G,AE ρ p.peel G u.peel/\∀y,y∉BV u->G y=σ y:=by
 intro p
 induction p<;>intro u ρ σ h hi hj hu hd<;>cases u<;>simp only [AE]at h
 case nil.nil=>exact⟨σ,trivial,λ _ _=>rfl⟩
 case snd.snd=>exact⟨σ,h,λ _ _=>rfl⟩
 case rcv.rcv=>exact⟨σ,h,λ _ _=>rfl⟩
 case tau.tau=>exact⟨σ,h,λ _ _=>rfl⟩
 case rep.rep=>exact⟨σ,h,λ _ _=>rfl⟩
 case mat.mat a b p ih c d u=>
  have Z:=AE.Ka (p:=p) (u:=u) h hi hj hd;unfold T.peel;by_cases e:a=b
  ·rw [O' e,O' (Z.1 e)];exact ih h.2.2 (hi.sub λx H=> .inl ⟨e,H⟩) (hj.sub λx H=> .inl ⟨Z.1 e,H⟩) hu.mat hd
  ·rw [OP e,OP λh'=>e (Z.2 h')];exact⟨σ,h,λ _ _=>rfl⟩
 case sum.sum p q ih α u v=>
  have h1:=h.1.dead;have h2:=h.2.dead;unfold T.peel;rw [<-h1,<-h2];by_cases e:p.dead=true
  ·rw [O' e,O' e];obtain⟨G,k1,k2⟩:=α h.2 (hi.sub λx H=> .inr H) (hj.sub λx H=> .inr H) hu.dX (by simpa [T.dead,e]using hd);exact⟨G,k1,λy hy=>k2 y λJ=>hy (O0 _ J)⟩
  ·rw [OP e,OP e];by_cases e':q.dead=true
   ·rw [O' e',O' e'];obtain⟨G,k1,k2⟩:=ih h.1 (hi.sub λx H=> .inl H) (hj.sub λx H=> .inl H) hu.eJ (by simpa using e);exact⟨G,k1,λy hy=>k2 y λJ=>hy (O9 _ J)⟩
   ·rw [OP e',OP e'];exact⟨σ,h,λ _ _=>rfl⟩
 case par.par p q ih α u v=>
  have h1:=h.1.dead;have h2:=h.2.dead;unfold T.peel;rw [<-h1,<-h2];by_cases e:p.dead=true
  ·rw [O' e,O' e];obtain⟨G,k1,k2⟩:=α h.2 (hi.sub λx H=> .inr H) (hj.sub λx H=> .inr H) hu.ga (by simpa [T.dead,e]using hd);exact⟨G,k1,λy hy=>k2 y λJ=>hy (O0 _ J)⟩
  ·rw [OP e,OP e];by_cases e':q.dead=true
   ·rw [O' e',O' e'];obtain⟨G,k1,k2⟩:=ih h.1 (hi.sub λx H=> .inl H) (hj.sub λx H=> .inl H) hu.gP (by simpa using e);exact⟨G,k1,λy hy=>k2 y λJ=>hy (O9 _ J)⟩
   ·rw [OP e',OP e'];exact⟨σ,h,λ _ _=>rfl⟩
 case res.res x p ih y u=>
  have β:=LJ (p:=p) (u:=u) h hi hj;unfold T.peel;by_cases e:p.Us x
  ·rw [O' e,O' (β.1 e)];exact⟨σ,h,λ _ _=>rfl⟩
  ·have e':¬u.Us y:=λh'=>e (β.2 h')
   rw [OP e,OP e'];have hv:=h (ρ x);have hv:AE ρ p (aI σ y (ρ x)) u:=hv.congr (λz _=>by unfold aI;split<;>simp_all) λ _ _=>rfl
   obtain⟨G,k1,k2⟩:=ih hv (λa b ha hb=>hi a b ⟨λhh=>e (hh▸ha),ha⟩ ⟨λhh=>e (hh▸hb),hb⟩)
    (λa b ha hb Z=>by
     have na:a≠y:=λhh=>e' (hh▸ha)
     have nb:b≠y:=λhh=>e' (hh▸hb)
     rw [bE _ _ na,bE _ _ nb]at Z;exact hj a b ⟨na,ha⟩ ⟨nb,hb⟩ Z) hu.res hd
   refine⟨G,k1,λz hz=>?_⟩;simp only [BV,OY,R9]at hz;rw [k2 z hz.2,bE _ _ hz.1]
structure Bd (k:Nat)(p:P):Prop where
 eb:Eb k p
 le:k+p.pm<=64
def Bd.bd {k:Nat}{p:P}(h:Bd k p):k+p.bd<=64:=by have :=T.vL p;have :=h.le;omega
def Bd.peel {k:Nat}{p:P}(h:Bd k p):∃m,k<=m/\Bd m p.peel/\m+p.peel.rd+p.peel.ow<=k+p.rd+p.ow:=by
 refine T.iQ (λq=>∃m,k<=m/\Bd m q/\m+q.rd+q.ow<=k+p.rd+p.ow) ?_ ?_ ?_ ?_ p ⟨k,OB k,h,OB _⟩
 ·rintro a q ⟨m,hm,hb,G⟩
  have :=hb.le;have :=T.gh q;simp only [T.pm,T.rd,T.ow]at*;exact⟨m,hm,⟨hb.eb.2.2,by omega⟩,G⟩
 iterate 2
  rintro q r ⟨m,hm,hb,G⟩
  have :=hb.le;have :=T.gh q;have :=T.gh r;simp only [T.pm,T.rd,T.ow]at*;exact⟨⟨m,hm,⟨hb.eb.1,by omega⟩,by omega⟩,⟨m,hm,⟨hb.eb.2,by omega⟩,by omega⟩⟩
 rintro x q _ ⟨m,hm,hb,G⟩
 have :=hb.le;simp only [T.pm,T.rd,T.ow]at*;exact⟨m+1,by omega,⟨hb.eb.2,by omega⟩,by omega⟩
def JU {p:P}(h:p.wf=true):p.peel.wf=true:=
 T.iQ (λq=>q.wf=true) (λ _ _ h=>by simp only [T.wf,OA]at h;exact h.2) (λ _ _ h=>by simpa only [T.wf,OA]using h)
  (λ _ _ h=>by simpa only [T.wf,OA]using h) (λ _ _ _ h=>by simp only [T.wf,OA]at h;exact h.2) p h
def Fx (p:P):p.peel.aJ<=p.aJ:=
 T.iQ (λq=>q.aJ<=p.aJ) (λ _ _ h=>by simp only [T.aJ]at h;omega) (λ _ _ h=>by simp only [T.aJ]at h;omega) (λ _ _ h=>by simp only [T.aJ]at h;omega) (λ _ _ _ h=>by simp only [T.aJ]at h;omega) p (OB _)
attribute [go_sem] Tryz.f244
def sY (G:aD)(w:World)(R:aD->Sb)(h:vc aB (a6 [(1,[(0,.s)])] [] [(1,false,.lt 0 (.one .h 1 (.lt 2 (.lt 3 (.lt 4 (.lt 5 (.lt 6 (.lt 7 (.lt 8 (.lt 9 .done))))))))))]) (ai Tryz.f244) (aj 0 [.s G]) w (fin aB [.tmp 2 .s] R)):
  Sc 244 #[(.string (ak G))] w (aw [.s] R):=
 bn Tryz.func244 (by kernel_rfl) h
attribute [go_sem] Tryz.f245
def ur (G:aD)(w:World)(R:Bool->Sb)(h:vc aB (a6 [(10,[(18,.i)])] [] []) (ai Tryz.f245) (aj 0 [.s G]) w (fin aB [.tmp 2 .b] R)):
  Sc 245 #[(.string (ak G))] w (aw [.b] R):=
 bn Tryz.func245 (by kernel_rfl) h
attribute [go_sem] Tryz.f204
def vR (G:aD)(w:World)(R:aD->Sb)(h:vc aB (a6 [(6,[(3,.s),(17,.i)]),(14,[(3,.s),(39,.i)])] [(13,[(3,.s)])] []) (ai Tryz.f204) (aj 0 [.s G]) w (fin aB [.tmp 2 .s] R)):
  Sc 204 #[(.string (ak G))] w (aw [.s] R):=
 bn Tryz.func204 (by kernel_rfl) h
attribute [go_sem] Tryz.f257
def uG (G:aD)(w:World)(R:aD->Sb)(h:vc aB (a6 [(1,[(0,.s)])] [] [(9,false,.lt 0 (.lt 1 (.lt 2 (.lt 3 (.lt 4 (.lt 5 (.lt 7 (.lt 8 (.one .h 6 (.one .h 9 (.lt 10 (.lt 11 (.lt 12 .done)))))))))))))]) (ai Tryz.f257) (aj 0 [.s G]) w (fin aB [.tmp 2 .s] R)):
  Sc 257 #[(.string (ak G))] w (aw [.s] R):=
 bn Tryz.func257 (by kernel_rfl) h
attribute [go_sem] Tryz.f241
def kf (G:Value)(H:aD)(w:World)(R:Sb)(h:vc aB (a6 [(10,[(5,.c)])] [(15,[])] [(14,false,.lt 0 (.lt 1 (.lt 2 (.lt 4 (.br .h 3 (.one .h 5 (.one .h 6 (.lt 7 (.lt 8 (.lt 9 (.one .h 10 .done)))))) (.one .h 5 (.br .h 3 (.one .h 6 (.lt 7 (.lt 8 (.lt 9 (.one .h 10 .done))))) (.one .h 6 (.one .h 3 (.lt 7 (.lt 8 (.lt 9 (.one .h 10 .done))))))))))))),(15,false,.lt 0 (.lt 1 (.lt 2 (.lt 3 (.lt 4 (.lt 5 (.one .h 6 (.one .h 7 .done))))))))]) (ai Tryz.f241) (aj 0 [.v G,.s H]) w (fin aB [] R)):
  Sc 241 #[G,(.string (ak H))] w (aw [] R):=
 bn Tryz.func241 (by kernel_rfl) h
attribute [go_sem] Tryz.f242
def jw (s1:aD)(w:World)(R:Value->Sb)(h:vc aB (a6 [(5,[(3,.v),(13,.i)]),(8,[(3,.v),(26,.i)])] [] [(7,false,.lt 0 (.lt 1 (.lt 2 (.lt 3 (.lt 4 (.lt 5 (.lt 6 (.lt 7 (.lt 10 (.one .h 8 (.lt 9 .done)))))))))))]) (ai Tryz.f242) (aj 0 [.s s1]) w (fin aB [.tmp 2 .v] R)):
  Sc 242 #[(.string (ak s1))] w (aw [.v] R):=
 bn Tryz.func242 (by kernel_rfl) h
attribute [go_sem] Tryz.f179
def uk (G:Value)(s2:aD)(w:World)(R:aD->Sb)(h:vc aB (a6 [(3,[(5,.s),(6,.i)])] [] []) (ai Tryz.f179) (aj 0 [.v G,.s s2]) w (fin aB [.tmp 4 .s] R)):
  Sc 179 #[G,(.string (ak s2))] w (aw [.s] R):=
 bn Tryz.func179 (by kernel_rfl) h
attribute [go_sem] Tryz.f102
def rM (G:Value)(w:World)(R:Value->Sb)(h:vc aB (a6 [(3,[(3,.v),(10,.i)]),(6,[(6,.i)])] [(8,[(6,.i)])] []) (ai Tryz.f102) (aj 0 [.v G]) w (fin aB [.tmp 2 .v] R)):
  Sc 102 #[G] w (aw [.v] R):=
 bn Tryz.func102 (by kernel_rfl) h
attribute [go_sem] Tryz.f261
def n9 (G:aD)(w:World)(R:Value->Sb)(h:vc aB (a6 [] [] [(7,false,.lt 0 (.lt 1 (.lt 2 (.lt 4 (.lt 5 (.lt 6 (.one .h 3 (.one .h 7 (.one .h 8 (.lt 9 .done))))))))))]) (ai Tryz.f261) (aj 0 [.s G]) w (fin aB [.tmp 2 .v] R)):
  Sc 261 #[(.string (ak G))] w (aw [.v] R):=
 bn Tryz.func261 (by kernel_rfl) h
def Strs.get {w w':World}{v:Value}{l:List Tx}(h:Strs w v l)(hw:Ex w w'){i:Int}{x:Tx}(G:0<=i)(H:l[i.toNat]?=some x){Q:aD->Prop}(J:Q x):
  ∃(b o len cap:Nat),v=Value.slice (some ⟨b,o,none⟩) len cap/\0<=i/\i< (len:Int)/\∃s:aD,World.cell? w' ⟨b,o+Int.toNat i* 1,none⟩=some (Value.string (ak s))/\Q s:=by
 obtain⟨hi,e⟩:=Px.1 H;obtain⟨b,o,cap,Z,e2,e3⟩:=(h.ex hw).at hi;exact⟨b,o,l.length,cap,Z,G,by omega,x,by rw [O8,e3,e],J⟩
def Strs.G3 {w:World}{v:Value}{l:List Tx}(h:Strs w v l){i:Int}{x:Tx}(G:0<=i)(H:l[i.toNat]?=some x){Q:aD->Prop}(J:Q x):
  ∃(b o len cap:Nat),v=Value.slice (some ⟨b,o,none⟩) len cap/\0<=i/\i< (len:Int)/\∃s:aD,(∀w',Ex w w'->World.cell? w' ⟨b,o+Int.toNat i* 1,none⟩=some (Value.string (ak s)))/\Q s:=by
 obtain⟨hi,e⟩:=Px.1 H;obtain⟨b,o,cap,Z,e2,e3⟩:=h.at hi;exact⟨b,o,l.length,cap,Z,G,by omega,x,λw' hw=>by rw [hw.cell e2,O8,e3,e],J⟩
def u7 {t:P}(ok:Ok t):Ok t.strip:=by
 have:∀t:P,t.wf=true->t.strip.wf=true/\t.strip.aJ<=t.aJ:=by
  intro t
  induction t with
  | mat a b p G=>
   intro h;unfold T.strip;split
   ·simp only [T.wf,OA]at h;have :=G h.2;exact⟨this.1,by simp only [T.aJ];omega⟩
   ·exact⟨h,OB _⟩
  | _=>exact λh=>⟨h,OB _⟩
 have h:=this t ok.wf;exact⟨h.1,by have :=ok.len;rw [T.aQ]at*;omega⟩
def rj {t:P}(ok:Ok t){w:World}{R:aD->Sb}(h:∀w',Ex w w'->R t.strip.text w'):Sc 244 #[.string (ak t.text)] w (aw [.s] R):=by
 refine sY _ w R ?_;dsimp only [go_sem];refine⟨λp w'=>Ex w w'/\∃q:P,p=q.text/\Ok q/\q.strip=t.strip,λp _=>p.length,⟨Ex.refl w,t,rfl,ok,rfl⟩,λp w1 hI=>?_⟩;obtain⟨hx,q,rfl,G,hq⟩:=hI;refine⟨λ _=>True,λJ Z=>⟨trivial,aT G ⟨trivial,?_⟩⟩⟩;have H:Ex w J:=hx.trans (Z▸Ex.drew w1);have no:q.strip=q->R q.text J:=λe=>by
  have :=h J H;rw [<-hq,e]at this;exact this
 cases q with
 | mat a b p=>
  simp only [T.kind];refine df (by decide) ⟨by simp only [T.text,Ov];omega,by simp only [T.text,Ov];omega,λhc=>?_,λhc=>?_⟩
  ·have e:a=b:=OW hc;subst e;have h2:T.strip (.mat a a p)=p.strip:=by conv=>lhs;unfold T.strip;rw [O' rfl]
   refine⟨by simp only [T.text,Ov];omega,⟨H,p,rfl,G.parts p (by simp [T.parts]),h2.symm.trans hq⟩,?_⟩;show p.text.length< (T.mat a a p).text.length;simp only [T.text,Ov];omega
  ·have e:a≠b:=OX hc;exact no (by conv=>lhs;unfold T.strip;rw [OP e])
 | _=>simp only [T.kind];exact aW (by decide) (no rfl)
def uM {t:P}(G:t.kind≠33)(H:t.kind≠63)(J:t.kind≠126):t.dead=t.parts.all T.dead:=by
 cases t<;>first | (exact absurd rfl G) | (exact absurd rfl H) | (exact absurd rfl J) | simp [T.dead,T.parts]
def gv:∀(n:Nat) {t:P},t.size<=n->Ok t->∀{w:World} {R:Bool->Sb},(∀w',Ex w w'->R t.dead w')->Sc 245 #[.string (ak t.text)] w (aw [.b] R):=by
 intro n
 induction n with
 | zero=>intro t h;have :=aX t;omega
 | succ n ih=>
  intro t hn ok w R h;refine ur _ w R ?_;dsimp only [go_sem];refine rj ok λw1 ε=>?_
  have ζ:=u7 ok;have hq:=T.oW t;rw [<-T.vf]at h;generalize t.strip=q at*;refine aT ζ ?_;have loop:q.kind≠33->q.kind≠63->q.kind≠126->Sc 141 #[(Value.string (ak q.text))] w1 (aw [.v] fun(μ:Value) (χ:World)=>∃(a40:Option Addr) (H η:Nat),μ=Value.slice a40 H η/\∃(θ:Int->Sb) (ν:Int->World->Nat),θ (0) χ/\∀(G:Int) (Z:World),θ G Z->((decide (G< (H:Int)))=true->∃(b47 ξ α ι:Nat),μ=Value.slice (some ⟨b47,ξ,none⟩) α ι/\0<=(G:Int)/\(G:Int)< α/\∃ο:aD,World.cell? Z ⟨b47,(ξ+Int.toNat G* 1),none⟩=some (Value.string (ak ο))/\Sc 245 #[(Value.string (ak ο))] Z (aw [.b] fun(ς:Bool) (κ:World)=>((!ς)=true->R (false) κ)/\((!ς)=false->bG (G+1)/\θ ((G+1)) κ/\ν ((G+1)) κ< ν G Z)))/\((decide (G< (H:Int)))=false->R (true) Z)):=by
   intro h1 h2 h3;refine de ζ λv w2 υ hs=>?_
   obtain⟨a,cap,hv⟩:=hs.slice;rw [OM]at hv;have ψ:=dE q;refine⟨a,q.parts.length,cap,hv,λx w'=>Ex w2 w'/\∃k:Nat,x=k/\k<=q.parts.length/\∀p∈q.parts.take k,p.dead=true,λx _=>((q.parts.length:Int) - x).toNat,⟨Ex.refl _,0,rfl,by omega,by simp⟩,λx w3 hI=>?_⟩;obtain⟨δ,k,rfl,hk,β⟩:=hI;refine⟨λhc=>?_,λhc=>?_⟩
   ·have J:k< q.parts.length:=by simpa using hc
    have γ:q.parts[k]∈q.parts:=Oz J;refine hs.get δ (i:=k) (by omega) (x:=(q.parts[k]).text) (by simp [J]) ?_;refine ih (by have :=eA γ;omega) (ζ.parts _ γ) λw4 φ=>⟨λhd=>?_,λhd=>?_⟩
    ·have hd:(q.parts[k]).dead=false:=by simpa using hd
     have e:q.dead=false:=by
      rw [uM h1 h2 h3,List.all_eq_false];exact⟨_,γ,by simp [hd]⟩
     rw [<-e];exact h w4 (((ε.trans υ).trans δ).trans φ)
    ·have hd:(q.parts[k]).dead=true:=by simpa using hd
     refine⟨by omega,⟨δ.trans φ,k+1,by omega,J,λp hp=>?_⟩,by dsimp only;omega⟩;rw [List.take_succ_eq_append_getElem J]at hp;rcases OH.1 hp with hp | hp
     ·exact β p hp
     ·rw [OL.1 hp];exact hd
   ·have J:k=q.parts.length:=by simp at hc;omega
    subst J;rw [O4]at β;have e:q.dead=true:=by
     rw [uM h1 h2 h3,PL];exact β
    rw [<-e];exact h w3 ((ε.trans υ).trans δ)
  have h:=h w1 ε;cases q with
  | nil=>simp only [T.kind];exact df (by decide) h
  | snd a b p=>simp only [T.kind];exact aW (by decide) (df (by decide) (df (by decide) h))
  | rcv a b p=>simp only [T.kind];exact aW (by decide) (aW (by decide) (df (by decide) (df (by decide) h)))
  | tau p=>simp only [T.kind];exact aW (by decide) (aW (by decide) (aW (by decide) (df (by decide) h)))
  | sum p q=>simp only [T.kind];exact aW (by decide) (aW (by decide) (aW (by decide) (aW (by decide) (loop (by simp [T.kind]) (by simp [T.kind]) (by simp [T.kind])))))
  | par p q=>simp only [T.kind];exact aW (by decide) (aW (by decide) (aW (by decide) (aW (by decide) (loop (by simp [T.kind]) (by simp [T.kind]) (by simp [T.kind])))))
  | res x p=>simp only [T.kind];exact aW (by decide) (aW (by decide) (aW (by decide) (aW (by decide) (loop (by simp [T.kind]) (by simp [T.kind]) (by simp [T.kind])))))
  | mat a b p=>simp only [T.kind];exact aW (by decide) (aW (by decide) (aW (by decide) (aW (by decide) (loop (by simp [T.kind]) (by simp [T.kind]) (by simp [T.kind])))))
  | rep p=>simp only [T.kind];exact aW (by decide) (aW (by decide) (aW (by decide) (aW (by decide) (loop (by simp [T.kind]) (by simp [T.kind]) (by simp [T.kind])))))
def GP {t:P}(hd:t.dead=false)(hm:∀a b p,t= .mat a b p->a≠b)(x:UInt8):t.Us x↔x∈t.names\/(∃p∈t.parts,p.Us x)/\¬(t.sB=true/\x=t.bindC):=by
 cases t<;>simp [T.Us,T.names,T.parts,T.sB,T.bindC,RT,and_comm]
 case mat a b p=>
  have G:=hm a b p rfl;have hd:p.dead=false:=hd;simp [G,hd]
def pj:∀(n:Nat) {t:P},t.size<=n->Ok t->∀{w:World} {R:aD->Sb},(∀s w',Ex w w'->lR s->(∀x,x∈s↔t.Us x)->R s w')->Sc 204 #[.string (ak t.text)] w (aw [.s] R):=by
 intro n
 induction n with
 | zero=>intro t h;have :=aX t;omega
 | succ n ih=>
  intro t0 hn ok w R h;refine vR _ w R ?_;dsimp only [go_sem];dsimp only [go_sem,Nat.reduceAdd];refine rj ok λw1 ι=>?_
  have H:=u7 ok;have hsz:=T.oW t0;have κ:=T.ri t0;have h:∀s w',Ex w w'->lR s->(∀x,x∈s↔t0.strip.Us x)->R s w':=λs w' a b c=>h s w' a b λx=>by rw [c,T.BK]
  generalize t0.strip=t at*;refine gv _ (OB _) H λw2 μ=>⟨λhd=>?_,λhd=>?_⟩
  ·exact h [] w2 (ι.trans μ) lR.nil λx=>⟨λhx=>absurd hx Rk,λhx=>absurd hx (T.bF hd)⟩
  refine de H λv w3 ς hs=>?_
  have J:=(ι.trans μ).trans ς;obtain⟨a,cap,hv⟩:=hs.slice;rw [OM]at hv;have hpl:=dE t;refine⟨a,t.parts.length,cap,hv,λout x w'=>Ex w3 w'/\lR out/\∃k:Nat,x=k/\k<=t.parts.length/\∀x,x∈out↔∃p∈t.parts.take k,p.Us x,λ _ x _=>((t.parts.length:Int) - x).toNat,
   ⟨Ex.refl _,lR.nil,0,rfl,by omega,by simp⟩,λout x w4 hI=>?_⟩
  obtain⟨Z,α,k,rfl,hk,hm⟩:=hI;refine⟨λhc=>?_,λhc=>?_⟩
  ·have G:k< t.parts.length:=by simpa using hc
   have β:t.parts[k]∈t.parts:=Oz G;refine hs.get Z (i:=k) (by omega) (x:=(t.parts[k]).text) (by simp [G]) ?_;refine ih (by have :=eA β;omega) (H.parts _ β) λs w5 δ υ ε=>?_
   refine jK α (by have :=υ.bound;omega) λs' w6 ζ φ χ=>⟨by omega,⟨(Z.trans δ).trans ζ,φ,k+1,by omega,G,λx=>?_⟩,by dsimp only;omega⟩
   rw [χ,hm,ε,OC G];simp only [OH,OL];constructor
   ·rintro(⟨p,hp,hf⟩ | hf)
    ·exact⟨p,.inl hp,hf⟩
    ·exact⟨_,.inr rfl,hf⟩
   ·rintro⟨p,hp | rfl,hf⟩
    ·exact .inl ⟨p,hp,hf⟩
    ·exact .inr hf
  ·have G:k=t.parts.length:=by simp at hc;omega
   subst G;rw [O4]at hm;refine⟨λout w'=>Ex w w'/\lR out/\∀x,x∈out↔(∃p∈t.parts,p.Us x)/\¬(t.sB=true/\x=t.bindC),qZ H ⟨λhb=>?_,λhb=>?_⟩,λν w5 hJ=>?_⟩
   ·refine uf (by have :=α.bound;omega) ⟨J.trans Z,α.filter _,λx=>?_⟩;simp [hm,hb]
   ·exact⟨J.trans Z,α,λx=>by simp [hm,hb]⟩
   obtain⟨δ,ξ,ε⟩:=hJ;refine FY H λw6 ζ=>λb cp w7 hb ο ψ=>?_
   have ω:=rZ.G5 ο;have hx7:Ex w w7:=(δ.trans ζ).trans (uC ψ);have hnl:t.names.length<=2:=by cases t<;>simp [T.names]
   refine⟨some ⟨b,0,none⟩,t.names.length,cp,rfl,λout x w'=>Ex w7 w'/\lR out/\∃k:Nat,x=k/\k<=t.names.length/\∀x,x∈out↔x∈t.names.take k\/x∈ν,λ _ x _=>((t.names.length:Int) - x).toNat,
    ⟨Ex.refl _,ξ,0,rfl,by omega,by simp⟩,λout x w8 hI=>?_⟩
   obtain⟨η,γ,k,rfl,hk,θ⟩:=hI;refine⟨λhc=>?_,λhc=>?_⟩
   ·have G:k< t.names.length:=by simpa using hc
    refine⟨b,0,t.names.length,cp,rfl,by omega,by omega,bt t.names k,(ω.ex η).at G,?_⟩;refine hU γ λs w9 hx9 hs9 hm9=>⟨by omega,⟨η.trans hx9,hs9,k+1,by omega,G,λx=>?_⟩,by dsimp only;omega⟩
    have e:t.names.take (k+1)=t.names.take k++[bt t.names k]:=by
     have :=gZ (s:=t.names) (i:=k) (by omega) (by omega);have e2:((k:Int)+1).toNat=k+1:=by omega
     rw [e2]at this;exact this
    rw [hm9,θ,e];simp only [OH,OL];constructor
    ·rintro(h | h | h)
     ·exact .inl (.inr h)
     ·exact .inl (.inl h)
     ·exact .inr h
    ·rintro((h | h) | h)
     ·exact .inr (.inl h)
     ·exact .inl h
     ·exact .inr (.inr h)
   ·have G:k=t.names.length:=by simp at hc;omega
    subst G;rw [O4]at θ;refine h out w8 (hx7.trans η) γ λx=>?_
    rw [θ,ε,GP hd (λa b p e=>κ a b p e)]
def CF (t:P):t.strip.peel=t.peel:=by
 induction t with
 | mat a b p G=>
  unfold T.strip;split
  ·rename_i e;rw [G];conv=>rhs;unfold T.peel;rw [O' e]
  ·rfl
 | _=>rfl
def B3 {t:P}(ok:Ok t){w:World}{R:aD->Sb}(h:∀w',Ex w w'->Ok t.peel->R t.peel.text w'):Sc 257 #[.string (ak t.text)] w (aw [.s] R):=by
 refine uG _ w R ?_;dsimp only [go_sem];dsimp only [go_sem,Nat.reduceAdd];refine⟨λp w'=>Ex w w'/\∃q:P,p=q.text/\Ok q/\q.peel=t.peel,λp _=>p.length,⟨Ex.refl w,t,rfl,ok,rfl⟩,λp w1 hI=>?_⟩;obtain⟨hx,q0,rfl,ζ,Z⟩:=hI;refine rj ζ λw2 κ=>?_
 have α:=u7 ζ;have hlen:q0.strip.text.length<=q0.text.length:=by
  have:∀t:P,t.strip.aJ<=t.aJ:=by
   intro t
   induction t with
   | mat a b p ih=>
    unfold T.strip;split
    ·simp only [T.aJ];omega
    ·exact OB _
   | _=>exact OB _
  rw [T.aQ,T.aQ];exact this q0
 have θ:=T.ri q0;rw [<-CF]at Z;generalize q0.strip=q at*;refine de α λv w3 μ hs=>aT α ?_
 have δ:Ex w w3:=(hx.trans κ).trans μ;have stay:q.peel=q->∀w',Ex w3 w'->R q.text w':=λe w' ν=>by
  have :=h w' (δ.trans ν) (Z▸e.symm▸α);rw [<-Z,e]at this;exact this
 cases q with
 | nil=>
  simp only [T.kind]
  repeat' first | refine aW (by decide) ?_ | refine df (by decide) ?_ | refine cH (by decide) ?_ | refine ee (by decide) ?_
  exact⟨λ _=>True,λw4 H=>⟨trivial,aW (by decide) (stay rfl w4 (H▸Ex.drew w3))⟩⟩
 | snd a b p=>
  simp only [T.kind]
  repeat' first | refine aW (by decide) ?_ | refine df (by decide) ?_ | refine cH (by decide) ?_ | refine ee (by decide) ?_
  exact⟨λ _=>True,λw4 H=>⟨trivial,aW (by decide) (stay rfl w4 (H▸Ex.drew w3))⟩⟩
 | rcv a b p=>
  simp only [T.kind]
  repeat' first | refine aW (by decide) ?_ | refine df (by decide) ?_ | refine cH (by decide) ?_ | refine ee (by decide) ?_
  exact⟨λ _=>True,λw4 H=>⟨trivial,aW (by decide) (stay rfl w4 (H▸Ex.drew w3))⟩⟩
 | tau p=>
  simp only [T.kind]
  repeat' first | refine aW (by decide) ?_ | refine df (by decide) ?_ | refine cH (by decide) ?_ | refine ee (by decide) ?_
  exact⟨λ _=>True,λw4 H=>⟨trivial,aW (by decide) (stay rfl w4 (H▸Ex.drew w3))⟩⟩
 | rep p=>
  simp only [T.kind]
  repeat' first | refine aW (by decide) ?_ | refine df (by decide) ?_ | refine cH (by decide) ?_ | refine ee (by decide) ?_
  exact⟨λ _=>True,λw4 H=>⟨trivial,aW (by decide) (stay rfl w4 (H▸Ex.drew w3))⟩⟩
 | mat a b p=>
  have ξ:=θ a b p rfl;simp only [T.kind]
  repeat' first | refine aW (by decide) ?_ | refine df (by decide) ?_ | refine cH (by decide) ?_ | refine ee (by decide) ?_
  exact⟨λ _=>True,λw4 H=>⟨trivial,aW (by decide) (stay (by unfold T.peel;rw [OP ξ]) w4 (H▸Ex.drew w3))⟩⟩
 | res x p=>
  have β:=α.parts p (by simp [T.parts]);simp only [T.kind]
  repeat' first | refine aW (by decide) ?_ | refine df (by decide) ?_ | refine cH (by decide) ?_ | refine ee (by decide) ?_
  refine⟨λw'=>Ex w3 w',λw4 H=>⟨H▸Ex.drew w3,df (by decide) ?_⟩⟩;have G:Ex w3 w4:=H▸Ex.drew w3;refine hs.G3 (i:=0) (x:=p.text) (by omega) rfl ⟨by simp only [T.text,Ov];omega,?_⟩;refine pj _ (OB _) β λs w5 J ο ι=>⟨G.trans J,dZ (by have :=ο.bound;omega) ⟨G.trans J,λhq=>?_,λhq=>?_⟩⟩
  ·have hq:¬p.Us x:=by
    rw [<-ι];simpa [T.text,bt]using hq
   refine hs.get (G.trans J) (i:=0) (x:=p.text) (by omega) rfl ⟨⟨δ.trans (G.trans J),p,rfl,β,?_⟩,?_⟩
   ·rw [<-Z];conv=>rhs;unfold T.peel;rw [OP hq]
   ·have:p.text.length< (T.res x p).text.length:=by simp only [T.text,Ov];omega
    exact O1 this hlen
  ·have hq:p.Us x:=by
    rw [<-ι];simpa [T.text,bt]using hq
   exact stay (by unfold T.peel;rw [O' hq]) w5 (G.trans J)
 | sum p r=>
  have β:=α.parts p (by simp [T.parts]);have ε:=α.parts r (by simp [T.parts]);have lp:p.text.length< (T.sum p r).text.length:=by simp only [T.text,Ov,Oy];omega
  have lr:r.text.length< (T.sum p r).text.length:=by simp only [T.text,Ov,Oy];omega
  simp only [T.kind]
  repeat' first | refine aW (by decide) ?_ | refine df (by decide) ?_ | refine cH (by decide) ?_ | refine ee (by decide) ?_
  refine hs.get (Ex.refl w3) (i:=0) (x:=p.text) (by omega) rfl (gv _ (OB _) β λw4 G=>⟨λhd=>?_,λhd=>?_⟩)
  ·refine hs.get G (i:=1) (x:=r.text) (by omega) rfl ⟨⟨δ.trans G,r,rfl,ε,?_⟩,O1 lr hlen⟩;rw [<-Z];conv=>rhs;unfold T.peel;rw [O' hd]
  repeat' first | refine aW (by decide) ?_ | refine df (by decide) ?_ | refine cH (by decide) ?_ | refine ee (by decide) ?_
  refine hs.get G (i:=1) (x:=r.text) (by omega) rfl (gv _ (OB _) ε λw5 J=>⟨λγ=>?_,λγ=>?_⟩)
  ·refine hs.get (G.trans J) (i:=0) (x:=p.text) (by omega) rfl ⟨⟨δ.trans (G.trans J),p,rfl,β,?_⟩,O1 lp hlen⟩;rw [<-Z];conv=>rhs;unfold T.peel;rw [OP (by simp [hd]),O' γ]
  ·exact⟨λ _=>True,λw6 η=>⟨trivial,aW (by decide) (stay (by unfold T.peel;rw [OP (by simp [hd]),OP (by simp [γ])]) w6 ((G.trans J).trans (η▸Ex.drew w5)))⟩⟩
 | par p r=>
  have β:=α.parts p (by simp [T.parts]);have ε:=α.parts r (by simp [T.parts]);have lp:p.text.length< (T.par p r).text.length:=by simp only [T.text,Ov,Oy];omega
  have lr:r.text.length< (T.par p r).text.length:=by simp only [T.text,Ov,Oy];omega
  simp only [T.kind]
  repeat' first | refine aW (by decide) ?_ | refine df (by decide) ?_ | refine cH (by decide) ?_ | refine ee (by decide) ?_
  refine hs.get (Ex.refl w3) (i:=0) (x:=p.text) (by omega) rfl (gv _ (OB _) β λw4 G=>⟨λhd=>?_,λhd=>?_⟩)
  ·refine hs.get G (i:=1) (x:=r.text) (by omega) rfl ⟨⟨δ.trans G,r,rfl,ε,?_⟩,O1 lr hlen⟩;rw [<-Z];conv=>rhs;unfold T.peel;rw [O' hd]
  repeat' first | refine aW (by decide) ?_ | refine df (by decide) ?_ | refine cH (by decide) ?_ | refine ee (by decide) ?_
  refine hs.get G (i:=1) (x:=r.text) (by omega) rfl (gv _ (OB _) ε λw5 J=>⟨λγ=>?_,λγ=>?_⟩)
  ·refine hs.get (G.trans J) (i:=0) (x:=p.text) (by omega) rfl ⟨⟨δ.trans (G.trans J),p,rfl,β,?_⟩,O1 lp hlen⟩;rw [<-Z];conv=>rhs;unfold T.peel;rw [OP (by simp [hd]),O' γ]
  ·exact⟨λ _=>True,λw6 η=>⟨trivial,aW (by decide) (stay (by unfold T.peel;rw [OP (by simp [hd]),OP (by simp [γ])]) w6 ((G.trans J).trans (η▸Ex.drew w5)))⟩⟩
def sv (x:Tx):Value:= .string (ak x)
def Own (B:Nat)(w:World)(v:Value)(l:List Tx):Prop:=w.ownsRow B 9 1 v l.length (l.map sv)
def Own.nil (B:Nat)(w:World):Own B w (.slice none 0 0) []:=RA _ _ _ _
def Own.strs {B:Nat}{w:World}{v:Value}{l:List Tx}(h:Own B w v l):Strs w v l:=by
 rcases h.2 with⟨rfl,J⟩ | ⟨g,cap,cur,rfl,hb,G,Z,h2,h3,h4⟩
 ·exact .inl ⟨rfl,Pa J⟩
 ·refine .inr ⟨g,0,cap,rfl,(Ph.1 G).1,λi x H=>?_⟩;unfold World.cell?;simp only [G,O6];have e:=PA (λl=>l[i]?) h4;obtain⟨hi,_⟩:=Px.1 H;simp only [O8,Q3,hi,Qu,Qm,H,P8]at e;rw [<-PO];exact e
def Own.ex {B:Nat}{w w':World}{v:Value}{l:List Tx}(h:Own B w v l)(k:Ex w w'):Own B w' v l:=by
 refine⟨h.1,?_⟩;rcases h.2 with H | ⟨g,cap,cur,rfl,hb,G,rest⟩
 ·exact .inl H
 ·exact .inr ⟨g,cap,cur,rfl,hb,by rw [k.block g (Ph.1 G).1];exact G,rest⟩
def Own.mono {B G:Nat}{w:World}{v:Value}{l:List Tx}(h:Own B w v l)(hb:G<=B):Own G w v l:=Q4 h hb
def Own.push {B:Nat}{w:World}{v:Value}{l:List Tx}(h:Own B w v l)(hB:B<=w.heap.size){x:Value}{m:List Tx}(J:Strs w x m)(hl:l.length+m.length<=1099511627776){K:Value->Sb}
  (Z:∀G w',Below B w w'->Own B w' G (l++m)->w.grownBy w' v.ownBlock->(∀b,G.ownBlock=some b->v.ownBlock=some b\/w.heap.size<=b)->K G w'):
  ∃(base n k:Nat) (xs news:List Value),World.ownsRow w base 9 1 v n xs/\base<=Array.size (World.heap w)/\fp w x k 1 news/\(n+k<=maxLen/\(n+k)* 16<=140737488355328)/\
   ∀(G:Value) (w':World),World.ownsRow w' base 9 1 G (n+k) (xs++news)->World.grownBy w w' (Value.ownBlock v)->(∀b:Nat,Value.ownBlock G=some b->Value.ownBlock v=some b\/Array.size (World.heap w)<=b)->K G w':=by
 refine⟨B,l.length,m.length,l.map sv,m.map sv,h,hB,?_,⟨by unfold maxLen;omega,by omega⟩,λG w' ho H hw=>Z G w' ?_ ?_ H hw⟩
 ·refine⟨by simp,by simp [sv,oneV],?_⟩;rcases J with⟨rfl,rfl⟩ | ⟨b,off,cap,rfl,hb,hc⟩
  ·exact .inl ⟨rfl,rfl⟩
  ·refine .inr ⟨b,off,cap,rfl,λj u hu=>?_⟩;rw [Qm]at hu;cases e:m[j]? with
   | none=>rw [e]at hu;cases hu
   | some y=>rw [e]at hu;cases hu;exact hc j y e
 ·exact Below.grown (R8 B w) H hB λk hk=>(QX h k hk).1
 ·unfold Own;rw [Oy,Pm];exact ho
def Strs.grown {w w':World}{v:Value}{l:List Tx}{row:Option Nat}(h:Strs w v l)(H:w.grownBy w' row)(G:∀b,v.ownBlock=some b->row≠some b):Strs w' v l:=by
 rcases h with h | ⟨b,off,cap,J,Z,h3⟩
 ·exact .inl h
 ·refine .inr ⟨b,off,cap,J,O1 Z H.size,λi x hx=>?_⟩;rw [Ow (w:=w) (H.block b Z (λe=>G b (by rw [J];rfl) e.symm))];exact h3 i x hx
def Own.block {B:Nat}{w:World}{v:Value}{l:List Tx}(h:Own B w v l):∀b,v.ownBlock=some b->B<=b/\b< w.heap.size:=QX h
def Ex.below {w0 w w':World}(h:Ex w0 w)(k:Below w0.heap.size w w'):Ex w0 w':=Below.trans h k
def Strs.one {w w':World}{b:Nat}{x:Tx}(hb:b=w.heap.size)(h:w'=w.alloc (.cells #[.string (ak x)] 9)):Strs w' (.slice (some ⟨b,0,none⟩) 1 1) [x]:=by
 subst hb h;refine .inr ⟨_,0,1,rfl,by rw [size_alloc];omega,λi z G=>?_⟩;rw [O6];refine aa ?_
 match i,G with
 | 0,G=>simp at G|-;exact G▸rfl
 | i+1,G=>simp at G
def Own.one {w w':World}{B b:Nat}{x:Tx}(hB:B<=w.heap.size)(hb:b=w.heap.size)(h:w'=w.alloc (.cells #[.string (ak x)] 9)):Own B w' (.slice (some ⟨b,0,none⟩) 1 1) [x]:=by
 subst hb h;refine⟨rfl,.inr ⟨_,1,#[.string (ak x)],rfl,hB,?_,by simp,by unfold maxLen;omega,rfl,rfl⟩⟩;unfold World.alloc;simp
def Own.none {w w':World}{B b:Nat}(hB:B<=w.heap.size)(hb:b=w.heap.size)(h:w'=w.alloc (.cells #[] 9)):Own B w' (.slice (some ⟨b,0,none⟩) 0 0) []:=by
 subst hb h;refine⟨rfl,.inr ⟨_,0,#[],rfl,hB,?_,by simp,by unfold maxLen;omega,rfl,rfl⟩⟩;unfold World.alloc;simp
def Strs.take {w:World}{a:Option Addr}{n cap:Nat}{l:List Tx}(h:Strs w (.slice a n cap) l){k:Int}(h0:0<=k)(J:k<=l.length):
  Strs w (.slice (if cap=Int.toNat 0 then a else Option.map (·.add (Int.toNat 0* 1)) a) (Int.toNat k - Int.toNat 0) (cap - Int.toNat 0)) (l.take k.toNat):=by
 have H:Int.toNat 0=0:=rfl;rcases h with⟨h,rfl⟩ | ⟨b,off,c,Z,h2,h3⟩
 ·cases h;have:k=0:=by simp at J;omega
  subst this;exact .inl ⟨rfl,rfl⟩
 ·cases Z;refine .inr ⟨b,off,cap,?_,h2,λi x G=>h3 i x ?_⟩
  ·have e:(if cap=Int.toNat 0 then some (⟨b,off,none⟩:Addr)else Option.map (λq:Addr=>q.add (Int.toNat 0* 1)) (some (⟨b,off,none⟩:Addr)))=some ⟨b,off,none⟩:=by
    split
    ·rfl
    ·simp [Addr.add,H]
   rw [e,H,Pd]
   congr 1
   omega
  ·rw [Q3]at G;split at G
   ·exact G
   ·cases G
def Strs.drop {w:World}{a:Option Addr}{n cap:Nat}{l:List Tx}(h:Strs w (.slice a n cap) l){k:Int}(h0:0<=k)(J:k<=l.length)(hc:n<=cap):
  Strs w (.slice (if cap=Int.toNat k then a else Option.map (·.add (Int.toNat k* 1)) a) (Int.toNat (n:Int) - Int.toNat k) (cap - Int.toNat k)) (l.drop k.toNat):=by
 rcases h with⟨h,rfl⟩ | ⟨b,off,c,Z,H,h3⟩
 ·cases h;have:k=0:=by simp at J;omega
  subst this;exact .inl ⟨rfl,rfl⟩
 ·cases Z;by_cases e:cap=k.toNat
  ·have hl:l.drop k.toNat=[]:=Qo (by omega);rw [O' e,hl];refine .inr ⟨b,off,cap - k.toNat,?_,H,λi x G=>by simp at G⟩;rw [OG]
   congr 1
   simp only [ON];omega
  ·rw [OP e];refine .inr ⟨b,off+k.toNat,cap - k.toNat,?_,H,λi x G=>?_⟩
   ·rw [OG,P7];simp [Addr.add]
   ·rw [RY]at G;rw [QV];exact h3 _ x G
def Iq (a b:Tx):(Op.bytesLess a b||decide (a=b))=jR a b:=by
 rw [R1,jR,PG];simp only [P0,OK];constructor
 ·rintro(h | rfl)
  ·exact List.le_of_lt h
  ·exact List.le_refl _
 ·intro h;by_cases e:a=b
  ·exact .inr e
  ·left;rcases List.le_iff_lt_or_eq.1 h with h | h
   ·exact h
   ·exact absurd h e
def fR {c:UInt8}{s:Tx}{l:List Tx}(h:l≠[]):joinS c (s::l)=40::(s++(c::(joinS c l++[41]))):=by
 cases l with
 | nil=>exact absurd rfl h
 | cons=>rfl
def dk (l:List Tx):Nat:=(l.map List.length).sum+3* l.length
def eI (s:Tx)(l:List Tx):dk (s::l)=s.length+dk l+3:=by simp [dk];omega
def AX (l m:List Tx):dk (l++m)=dk l+dk m:=by simp [dk];omega
def mS {l m:List Tx}(h:l.Perm m):dk l=dk m:=by
 induction h with
 | nil=>rfl
 | cons x _ G=>rw [eI,eI,G]
 | swap x y l=>simp only [eI];omega
 | trans _ _ H J=>exact H.trans J
def yj (c:UInt8):∀l:List Tx,(joinS c l).length<=dk l
 | []=>by simp [joinS]
 | [s]=>by simp [joinS,dk]
 | s::t::l=>by
  have :=yj c (t::l);rw [fR (by simp),eI];simp only [Ov,Oy,ON];omega
def Fs (l:List Tx)(k:Nat):dk (l.drop k)<=dk l:=by
 conv=>rhs;rw [<-PV k l,AX]
 omega
def qp {w:World}{v:Value}{l:List Tx}{c:UInt8}(hs:Strs w v l)(G:l≠[])(hl:dk l<=2199023255552){R:aD->Sb}(h:R (joinS c l) w):
  Sc 179 #[v,.string (ak [c])] w (aw [.s] R):=by
 refine uk v [c] w R ?_;dsimp only [go_sem];dsimp only [go_sem,Nat.reduceAdd];have β:0< l.length:=Rf.2 G;have γ:3* l.length<=dk l:=by unfold dk;omega
 obtain⟨a,cap,hv⟩:=hs.slice;refine⟨a,l.length,cap,hv,by omega,?_⟩;have H:l[((l.length:Int) - 1).toNat]?=some (l.getLast G):=by
  have e:((l.length:Int) - 1).toNat=l.length - 1:=by omega
  rw [e,List.getLast_eq_getElem,Ox]
 refine hs.get (Ex.refl w) (i:=(l.length:Int) - 1) (by omega) H ?_;refine⟨a,l.length,cap,hv,by omega,λout i w'=>w=w'/\ -1<=i/\i<=(l.length:Int) - 2/\out=joinS c (l.drop (i+1).toNat),λ _ i _=>(i+1).toNat,⟨rfl,by omega,by omega,?_⟩,λout i w1 hI=>?_⟩
 ·have e:((l.length:Int) - 2+1).toNat=l.length - 1:=by omega
  have e2:l.drop (l.length - 1)=[l.getLast G]:=by
   rw [Ps (by omega:l.length - 1< l.length),List.getLast_eq_getElem,Qo (by omega)]
  rw [e,e2];rfl
 ·obtain⟨rfl,h0,h1,rfl⟩:=hI;refine⟨λJ=>?_,λJ=>?_⟩
  ·have J:0<=i:=OW J;have hi:i.toNat< l.length:=by omega
   have Z:l.drop (i+1).toNat≠[]:=by
    intro e;have :=PA List.length e;rw [P7,ON]at this;omega
   have hd:l.drop i.toNat=l[i.toNat]::l.drop (i+1).toNat:=by
    have e:(i+1).toNat=i.toNat+1:=by omega
    rw [e];exact Ps hi
   have hj:joinS c (l.drop i.toNat)=40::(l[i.toNat]++(c::(joinS c (l.drop (i+1).toNat)++[41]))):=by rw [hd,fR Z]
   have α:=yj c (l.drop i.toNat);have δ:=Fs l i.toNat;rw [hj]at α;simp only [Ov,Oy,ON]at α;refine hs.get (Ex.refl w) (i:=i) J (x:=l[i.toNat]) (Ox hi) ⟨by simp only [Ov,ON];omega,by simp only [Oy,Ov,ON];omega,by simp only [Oy,Ov,ON];omega,by simp only [Oy,Ov,ON];omega,by omega,⟨rfl,by omega,by omega,?_⟩,by dsimp only;omega⟩;have e:(i - 1+1).toNat=i.toNat:=by omega
   rw [e,hj];simp
  ·have J:¬0<=i:=OX J;have e:(i+1).toNat=0:=by omega
   rw [e,Qk];exact h
def oX {w:World}{v:Value}{l:List Tx}(hs:Strs w v l)(hl:l.length<=1099511627776){R:Value->Sb}(h:∀v' w',Ex w w'->Own w.heap.size w' v' (aK l)->R v' w'):
  Sc 102 #[v] w (aw [.v] R):=by
 refine rM v w R ?_;dsimp only [go_sem];dsimp only [go_sem,Nat.reduceAdd];obtain⟨a,cap,hv⟩:=hs.slice;refine⟨a,l.length,cap,hv,λout x w'=>Ex w w'/\∃k:Nat,x=k/\k<=l.length/\∃m:List Tx,Own w.heap.size w' out m/\m.Pairwise (λa b=>jR a b=true)/\m.Perm (l.take k),λ _ x _=>((l.length:Int) - x).toNat,
  ⟨Ex.refl w,0,rfl,by omega,[],Own.nil _ _,List.Pairwise.nil,by simp⟩,λout x w1 hI=>?_⟩
 obtain⟨γ,k,rfl,hk,m,J,δ,ε⟩:=hI;refine⟨λhc=>?_,λhc=>?_⟩
 ·have α:k< l.length:=by simpa using hc
  refine hs.get γ (i:=k) (by omega) (x:=l[k]) (by simp [α]) ?_;have ν:=J.strs;obtain⟨ao,co,ho⟩:=ν.slice;have hml:m.length=k:=by rw [ε.length_eq,Pd];omega
  refine⟨λj w'=>w1=w'/\0<=j/\j<=m.length/\(∀y∈m.take j.toNat,jR y l[k]=true)/\∀y∈m.drop j.toNat,jR l[k] y=true,?_,?_⟩
  ·refine⟨λj w'=>w1=w'/\0<=j/\j<=m.length/\∀y∈m.take j.toNat,jR y l[k]=true,λj _=>((m.length:Int) - j).toNat,⟨rfl,by omega,by omega,by simp⟩,λj w2 hI=>?_⟩;obtain⟨rfl,H,β,Z⟩:=hI;refine⟨ao,m.length,co,ho,λη=>?_,λη=>?_⟩
   ·have hj:j< m.length:=OW η;have θ:j.toNat< m.length:=by omega
    refine ν.get (Ex.refl w1) (i:=j) H (x:=m[j.toNat]) (Ox θ) ⟨λhle=>?_,λhle=>?_⟩
    ·rw [Iq]at hle;refine⟨by omega,⟨rfl,by omega,by omega,λy G=>?_⟩,by dsimp only;omega⟩;have e:(j+1).toNat=j.toNat+1:=by omega
     rw [e,OC θ]at G;rcases OH.1 G with G | G
     ·exact Z y G
     ·rw [OL.1 G];exact hle
    ·rw [Iq]at hle;refine⟨rfl,H,β,Z,λy G=>?_⟩;have ζ:jR l[k] m[j.toNat]=true:=by
      have :=qN l[k] m[j.toNat];rw [hle,QT]at this;exact this
     have hd:=Ps θ;have hp:(m.drop j.toNat).Pairwise (λa b=>jR a b=true):=QC (List.drop_sublist _ _) δ;rw [hd]at hp G;rcases OY.1 G with rfl | G
     ·exact ζ
     ·exact ie _ _ _ ζ ((Ro.1 hp).1 y G)
   ·have hj:¬j< m.length:=OX η;refine⟨rfl,H,β,Z,λy G=>?_⟩;rw [Qo (by omega)]at G;cases G
  ·intro j w2 hJ;obtain⟨rfl,H,β,Z,ξ⟩:=hJ;intro b w3 hb ο;have ι:Ex w1 w3:=ο▸Ex.alloc w1 _;have ς:=(J.ex ι).strs;rw [ho]at ς;have υ:m.length<=co:=by
    rcases J.2 with⟨e,h0⟩ | ⟨g,cap,cur,e,_,_,hc,_⟩
    ·rw [ho]at e;injection e with _ e2 _;omega
    ·rw [ho]at e;cases e;exact hc
   refine⟨ao,m.length,co,ho,by omega,H,by omega,?_⟩;refine Own.push (Own.none (B:=w1.heap.size) (OB _) hb ο) ι.size (ς.take H β) (by simp;omega) λv4 w4 ω ho4 _ _=>?_
   have φ:Ex w1 w4:=ι.below ω;intro b5 w5 hb5 χ;have κ:Ex w4 w5:=χ▸Ex.alloc w4 _;refine Own.push (ho4.ex κ) (φ.trans κ).size (Strs.one hb5 χ) (by simp;omega) λv6 w6 hb6 ho6 _ _=>?_
   have μ:Ex w1 w6:=(φ.trans κ).below hb6;have ψ:=(J.ex μ).strs;rw [ho]at ψ;refine⟨ao,m.length,co,ho,H,by omega,by omega,?_⟩;refine Own.push ho6 μ.size (ψ.drop H β υ) (by simp;omega) λv7 w7 hb7 ho7 _ _=>?_
   have hx7:Ex w1 w7:=μ.below hb7;refine⟨by omega,⟨γ.trans hx7,k+1,by omega,α,_,ho7.mono γ.size,?_,?_⟩,by dsimp only;omega⟩
   ·simp only [Pv];refine List.pairwise_append.2 ⟨List.pairwise_append.2 ⟨QC (List.take_sublist _ _) δ,List.pairwise_singleton _ _,λx hx y G=>?_⟩,QC (List.drop_sublist _ _) δ,λx hx y G=>?_⟩
    ·rw [OL.1 G];exact Z x hx
    ·rcases OH.1 hx with hx | hx
     ·exact ie _ _ _ (Z x hx) (ξ y G)
     ·rw [OL.1 hx];exact ξ y G
   ·simp only [Pv];rw [OC α,Pe];refine List.Perm.trans ?_ (ε.append_right [l[k]]);refine(List.Perm.append_left _ QB).trans ?_;rw [<-Pe,PV]
 ·have α:k=l.length:=by simp at hc;omega
  subst α;rw [O4]at ε;rw [<-pn δ ε]at J;exact h out w1 γ J
section
open Classical
def aO {A B:Type}(R:A->B->Prop)(l:List A)(m:List B):Prop:=l.length=m.length/\∀(i:Nat) (a:A) (b:B),l[i]?=some a->m[i]?=some b->R a b
def aO.nil {A B:Type}{R:A->B->Prop}:aO R [] []:=⟨rfl,λi a b h=>by simp at h⟩
def aO.one {A B:Type}{R:A->B->Prop}{a:A}{b:B}(h:R a b):aO R [a] [b]:=⟨rfl,λi x y G H=>by
 match i,G,H with
 | 0,G,H=>simp at G H;subst G H;exact h
 | i+1,G,H=>simp at G⟩
def aO.append {A B:Type}{R:A->B->Prop}{l l':List A}{m m':List B}(h:aO R l m)(k:aO R l' m'):aO R (l++l') (m++m'):=by
 refine⟨by simp [h.1,k.1],λi a b ha hb=>?_⟩;rw [List.getElem?_append]at ha hb;rw [<-h.1]at hb;split at ha
 ·rename_i hi;rw [O' hi]at hb;exact h.2 i a b ha hb
 ·rename_i hi;rw [OP hi]at hb;exact k.2 _ a b ha hb
def aO.mono {A B:Type}{R G:A->B->Prop}{l:List A}{m:List B}(h:aO R l m)(hr:∀a b,a∈l->b∈m->R a b->G a b):aO G l m:=
 ⟨h.1,λi a b ha hb=>hr a b (QG ha) (QG hb) (h.2 i a b ha hb)⟩
structure Den (k:Nat)(p:P)(σ:Nat->Nat)(u:U):Prop where
 wf:p.wf=true
 len:p.text.length<=1099511627776
 bd:Bd k p
 ae:AE UInt8.toNat p σ u
 inj:fF σ u
 uq:Uq u
def fy (p:P):fF UInt8.toNat p:=λ _ _ _ _ h=>OU.1 h
def Uq.Ep {u:U}(h:Uq u){y:Nat}(G:u.Us y):y∉BV u:=λhb=>h.nf y hb (T.bj G)
def Den.dead {k:Nat}{p:P}{σ:Nat->Nat}{u:U}(d:Den k p σ u):p.dead=u.dead:=d.ae.dead
def Den.peel {k:Nat}{p:P}{σ:Nat->Nat}{u:U}(d:Den k p σ u)(hd:p.dead=false):∃m G,k<=m/\Den m p.peel G u.peel/\(∀y,y∉BV u->G y=σ y)/\m+p.peel.rd+p.peel.ow<=k+p.rd+p.ow:=by
 obtain⟨m,hm,hb,J⟩:=d.bd.peel;obtain⟨G,h1,Z⟩:=d.ae.peel (fy p) d.inj d.uq hd;refine⟨m,G,hm,⟨JU d.wf,?_,hb,h1,λa b ha hb H=>?_,J7 u d.uq⟩,Z,J⟩
 ·have :=Fx p;have h3:=d.len;rw [T.aQ]at*;omega
 ·rw [T.EI]at ha hb;rw [Z a (d.uq.Ep ha),Z b (d.uq.Ep hb)]at H;exact d.inj a b ha hb H
section
variable {k:Nat} {p q:P} {σ:Nat->Nat} {u v:U}
def Den.sum (d:Den k (.sum p q) σ (.sum u v)):Den k p σ u/\Den k q σ v:=by
 have hw:=d.wf;have H:=d.len;have hb:=d.bd.le;simp only [T.wf,OA]at hw;simp only [T.text,Ov,Oy]at H;have :=T.gh p;have :=T.gh q;simp only [T.pm,T.rd,T.ow]at hb;exact⟨⟨hw.1,by omega,⟨d.bd.eb.1,by omega⟩,d.ae.1,d.inj.sub λx G=> .inl G,d.uq.eJ⟩,⟨hw.2,by omega,⟨d.bd.eb.2,by omega⟩,d.ae.2,d.inj.sub λx G=> .inr G,d.uq.dX⟩⟩
def Den.par (d:Den k (.par p q) σ (.par u v)):Den k p σ u/\Den k q σ v:=by
 have hw:=d.wf;have H:=d.len;have hb:=d.bd.le;simp only [T.wf,OA]at hw;simp only [T.text,Ov,Oy]at H;have :=T.gh p;have :=T.gh q;simp only [T.pm,T.rd,T.ow]at hb;exact⟨⟨hw.1,by omega,⟨d.bd.eb.1,by omega⟩,d.ae.1,d.inj.sub λx G=> .inl G,d.uq.gP⟩,⟨hw.2,by omega,⟨d.bd.eb.2,by omega⟩,d.ae.2,d.inj.sub λx G=> .inr G,d.uq.ga⟩⟩
def Den.tau (d:Den k (.tau p) σ (.tau u)):Den k p σ u:=by
 have G:=d.len;simp only [T.text,Ov]at G;exact⟨d.wf,by omega,⟨d.bd.eb,Pq (RO (T.gh p) k) d.bd.le⟩,d.ae,d.inj,d.uq.tau⟩
def Den.rep (d:Den k (.rep p) σ (.rep u)):Den k p σ u:=by
 have G:=d.len;simp only [T.text,Ov]at G;exact⟨d.wf,by omega,⟨d.bd.eb,Pq (RO (T.gh p) k) d.bd.le⟩,d.ae,d.inj,d.uq.rep⟩
def Den.snd {a b:UInt8}{c e:Nat}(d:Den k (.snd a b p) σ (.snd c e u)):Den k p σ u:=by
 have hw:=d.wf;have G:=d.len;simp only [T.wf,OA]at hw;simp only [T.text,Ov]at G;exact⟨hw.2,by omega,⟨d.bd.eb.2.2,Pq (RO (T.gh p) k) d.bd.le⟩,d.ae.2.2,d.inj.sub λx H=> .inr (.inr H),d.uq.snd⟩
def Den.mat {a b:UInt8}{c e:Nat}(d:Den k (.mat a b p) σ (.mat c e u))(h:p.dead=false):Den k p σ u:=by
 have hw:=d.wf;have J:=d.len;simp only [T.wf,OA]at hw;simp only [T.text,Ov]at J;have hd:u.dead=false:=by have :=d.ae.2.2.dead;rw [<-this];exact h
 refine⟨hw.2,by omega,⟨d.bd.eb.2.2,Pq (RO (T.gh p) k) d.bd.le⟩,d.ae.2.2,d.inj.sub λx G=>?_,d.uq.mat⟩;by_cases H:c=e
 ·exact .inl ⟨H,G⟩
 ·exact .inr ⟨H,hd,.inr (.inr G)⟩
def Den.res {x y:UInt8}{n:Nat}{q:P}(d:Den k (.res x p) σ (.res n u))(hr:dq (k+1) p x y q)(J:¬(T.res x p).Fr y):Den (k+1) q (aI σ n y.toNat) u:=by
 have hb:=d.bd.le;have Z:=d.len;have :=T.gh p;simp only [T.pm]at hb;simp only [T.text,Ov]at Z;have hv:AE (aI UInt8.toNat x y.toNat) p (aI σ n y.toNat) u:=d.ae y.toNat;refine⟨hr.wf,?_,⟨hr.eb,?_⟩,(hr.ok UInt8.toNat).symm.trans hv,?_,d.uq.res⟩
 ·rw [T.aQ,T.gn hr.shp,<-T.aQ];omega
 ·rw [T.um hr.shp];omega
 ·refine .aI (λa b ha hb G H h3=>d.inj a b ⟨ha,G⟩ ⟨hb,H⟩ h3) λz hz hu e=>J ?_
  obtain⟨x',G,H⟩:=d.ae.symm.free z ⟨hz,T.bj hu⟩;have:x'=y:=OU.1 (H.trans e);exact this▸G
def Den.rcv {a x y:UInt8}{c n:Nat}{q:P}(d:Den k (.rcv a x p) σ (.rcv c n u))(hr:dq (k+1) p x y q)(G:∀z,u.Us z->z≠n->σ z≠y.toNat):Den (k+1) q (aI σ n y.toNat) u:=by
 have hb:=d.bd.le;have H:=d.len;have :=T.gh p;simp only [T.pm]at hb;simp only [T.text,Ov]at H;have J:AE (aI UInt8.toNat x y.toNat) p (aI σ n y.toNat) u:=d.ae.2 y.toNat;refine⟨hr.wf,?_,⟨hr.eb,?_⟩,(hr.ok UInt8.toNat).symm.trans J,?_,d.uq.rcv⟩
 ·rw [T.aQ,T.gn hr.shp,<-T.aQ];omega
 ·rw [T.um hr.shp];omega
 ·exact .aI (λa b ha hb Z h2 h3=>d.inj a b (.inr ⟨ha,Z⟩) (.inr ⟨hb,h2⟩) h3) λz hz hu e=>G z hu hz e
end
def eF:∀u:U,u.dead=true->ax u=[]
 | .nil,_=>rfl
 | .snd ..,h=>by cases h
 | .rcv ..,h=>by cases h
 | .tau ..,h=>by cases h
 | .sum p q,h=>by
  simp only [T.dead,OA]at h;simp [ax,eF p h.1,eF q h.2]
 | .par p q,h=>by
  simp only [T.dead,OA]at h;simp [ax,h.1,eF q h.2]
 | .res x p,h=>by
  have hd:p.dead=true:=h;simp [ax,m7 hd,Lv.has,eF p hd]
 | .mat a b p,h=>by
  have hd:p.dead=true:=h;simp only [ax,hd,Qu,eF p hd];split<;>rfl
 | .rep p,h=>by
  have hd:p.dead=true:=h;simp [ax,hd]
def Gl:∀u:U,Uq u->ax u.peel=ax u:=by
 intro u
 induction u with
 | nil=>intro _;rfl
 | snd=>intro _;rfl
 | rcv=>intro _;rfl
 | tau=>intro _;rfl
 | rep=>intro _;rfl
 | mat a b p G=>
  intro h;unfold T.peel;split
  ·rename_i e;rw [G h.mat];simp [ax,e]
  ·rfl
 | sum p q G H=>
  intro h;unfold T.peel;split
  ·rename_i e;rw [H h.dX];simp [ax,eF p e]
  ·split
   ·rename_i e J;rw [G h.eJ];simp [ax,eF q J]
   ·rfl
 | par p q G H=>
  intro h;unfold T.peel;split
  ·rename_i e;rw [H h.ga];simp [ax,e]
  ·split
   ·rename_i e J;rw [G h.gP];simp [ax,e,J]
   ·rfl
 | res x p G=>
  intro h;unfold T.peel;split
  ·rfl
  ·rename_i e;rw [G h.res];have:¬(td p).2.has x=true:=λZ=>e ((gL p x h.gI).1 Z)
   simp [ax,this]
def dD:∀u:U,(ax u).length<=u.size
 | .nil=>by simp [ax,T.size]
 | .snd .. =>by simp [ax,T.size]
 | .rcv .. =>by simp [ax,T.size]
 | .tau .. =>by simp [ax,T.size]
 | .sum p q=>by have :=dD p;have :=dD q;simp only [ax,T.size,Oy];omega
 | .par p q=>by
  have :=dD p;have :=dD q;simp only [ax,T.size];split
  ·omega
  ·split
   ·omega
   ·simp
 | .res x p=>by
  have :=dD p;simp only [ax,T.size];split
  ·simp
  ·omega
 | .mat a b p=>by
  have :=dD p;simp only [ax,T.size];split
  ·omega
  ·split<;>simp
 | .rep p=>by
  simp only [ax,T.size];split<;>simp
def AE.size {p:P}{u:U}{ρ:UInt8->Nat}{σ:Nat->Nat}(h:AE ρ p σ u):p.size=u.size:=by
 induction p generalizing u ρ σ<;>cases u<;>simp only [AE]at h<;>simp only [T.size]
 case snd.snd G _ _ _=>rw [G h.2.2]
 case mat.mat G _ _ _=>rw [G h.2.2]
 case rcv.rcv G _ _ _=>rw [G (h.2 0)]
 case res.res G _ _=>rw [G (h 0)]
 case tau.tau G _=>rw [G h]
 case rep.rep G _=>rw [G h]
 case sum.sum G H _ _=>rw [G h.1,H h.2]
 case par.par G H _ _=>rw [G h.1,H h.2]
def fu:∀(π:List Nat) (ls:List UInt8) (ρ ρ':Rh) (x:Nat),ρ x=ρ' x->asg π ls ρ x=asg π ls ρ' x
 | [],_,_,_,_,h=>by simpa [asg]using h
 | _::_,[],_,_,_,h=>by simpa [asg]using h
 | y::π,c::ls,ρ,ρ',x,h=>by
  rw [asg,asg];refine fu π ls _ _ x ?_;unfold aI;split
  ·rfl
  ·exact h
end
def gl (i:Nat):UInt8:=if i< 26 then UInt8.ofNat (65+i)else UInt8.ofNat (166+i)
def Lf (c:UInt8):Prop:=(65<=c.toNat/\c.toNat<=90)\/192<=c.toNat
def iF (n:Nat):Tx:=(List.range n).map gl
def jT {i:Nat}(h:i< 90):(gl i).toNat=if i< 26 then 65+i else 166+i:=by
 unfold gl;split
 ·rw [PT];omega
 ·rw [PT];omega
def zw {i j:Nat}(hi:i< 90)(G:j< 90)(h:gl i=gl j):i=j:=by
 have :=PA UInt8.toNat h;rw [jT hi,jT G]at this;split at this<;>split at this<;>omega
def zq {i:Nat}(h:i< 90):Lf (gl i):=by
 unfold Lf;rw [jT h];split<;>omega
def Lw {i k:Nat}(h:i< 90):okn k (gl i):=by
 unfold okn;rw [jT h];split<;>omega
def Nq {i:Nat}(h:i< 90):nm (gl i)=true:=by
 have e:=jT h;have H:(65:UInt8).toNat=65:=rfl;have J:(90:UInt8).toNat=90:=rfl;have G:(128:UInt8).toNat=128:=rfl;simp only [nm,P0,OA,OK];split at e
 ·left;right;exact⟨OZ.2 (by omega),OZ.2 (by omega)⟩
 ·right;exact OZ.2 (by omega)
def KL {i:Nat}(h:i+1< 90):(gl i+1=91->gl (i+1)=192)/\(gl i+1≠91->gl (i+1)=gl i+1):=by
 have e:=jT (show i< 90 by omega);have e':=jT h;have J:(gl i+1).toNat=(gl i).toNat+1:=by
  rw [RV];show((gl i).toNat+1) % 256=_;refine Nat.mod_eq_of_lt ?_;rw [e];split<;>omega
 have Z:(91:UInt8).toNat=91:=rfl;have G:(192:UInt8).toNat=192:=rfl;constructor
 ·intro hh;have :=PA UInt8.toNat hh;rw [J,e,Z]at this;apply OU.1;rw [e',G];split at this<;>split<;>omega
 ·intro hh;have H:(gl i+1).toNat≠91:=λhc=>hh (OU.1 hc)
  rw [J,e]at H;apply OU.1;rw [J,e',e];split at H<;>split<;>(try split)<;>omega
def iJ {n:Nat}{c:UInt8}:c∈iF n↔∃j,j< n/\c=gl j:=by
 simp only [iF,Pf,PH];exact⟨fun⟨j,G,H⟩=>⟨j,G,H.symm⟩,fun⟨j,G,H⟩=>⟨j,G,H.symm⟩⟩
def BS (n:Nat):iF (n+1)=iF n++[gl n]:=by simp [iF,Qw]
def iK (n:Nat):(iF n).length=n:=by simp [iF]
def asgN:List Nat->Nat->(Nat->Nat)->Nat->Nat
 | [],_,σ=>σ
 | x::l,n,σ=>asgN l (n+1) (aI σ x (gl n).toNat)
def lS:∀(l m:List Nat) (n:Nat) (σ:Nat->Nat),asgN (l++m) n σ=asgN m (n+l.length) (asgN l n σ)
 | [],m,n,σ=>rfl
 | x::l,m,n,σ=>by
  rw [PC,asgN,asgN,lS l m,Ov]
  congr 1
  omega
def jn:∀(l:List Nat) (n:Nat) (σ:Nat->Nat) (y:Nat),y∉l->asgN l n σ y=σ y
 | [],_,_,_,_=>rfl
 | x::l,n,σ,y,h=>by
  simp only [OY,R9]at h;rw [asgN,jn l _ _ y h.2,bE _ _ h.1]
def uv:∀(l:List Nat) (n:Nat) (σ τ:Nat->Nat) (y:Nat),σ y=τ y->asgN l n σ y=asgN l n τ y
 | [],_,_,_,_,h=>h
 | x::l,n,σ,τ,y,h=>by
  rw [asgN,asgN];refine uv l _ _ _ y ?_;unfold aI;split
  ·rfl
  ·exact h
def GF (n:Nat)(p:P):Prop:=∀z,p.Fr z->Lf z->∃j,j< n/\z=gl j
def dW {x:UInt8}(h:ngr x):¬Lf x:=by unfold ngr Lf at*;omega
def GF.peel {n k:Nat}{p:P}(h:GF n p)(e:Eb k p):GF n p.peel:=by
 refine(T.iQ (λq=>GF n q/\∃k,Eb k q) ?_ ?_ ?_ ?_ p ⟨h,k,e⟩).1
 ·rintro a q ⟨h,k,e⟩
  exact⟨λz G=>h z (.inr (.inr G)),k,e.2.2⟩
 ·rintro q r ⟨h,k,e⟩
  exact⟨⟨λz G=>h z (.inl G),k,e.1⟩,λz G=>h z (.inr G),k,e.2⟩
 ·rintro q r ⟨h,k,e⟩
  exact⟨⟨λz G=>h z (.inl G),k,e.1⟩,λz G=>h z (.inr G),k,e.2⟩
 ·rintro x q _ ⟨h,k,e⟩
  refine⟨λz G H=>?_,k+1,e.2⟩;by_cases J:z=x
  ·exact absurd H (dW (J▸e.1.1))
  ·exact h z ⟨J,G⟩ H
def iZ:∀(u:U),∀x∈(an u).1,x∈BV u:=by
 intro u
 induction u with
 | nil=>intro x h;simp [an]at h
 | snd=>intro x h;simp [an]at h
 | rcv=>intro x h;simp [an]at h
 | tau=>intro x h;simp [an]at h
 | sum p q G H=>
  intro x h;simp only [an]at h;split at h
  ·exact O0 _ (H x h)
  ·split at h
   ·exact O9 _ (G x h)
   ·simp at h
 | par p q G H=>
  intro x h;simp only [an,OH]at h;exact h.elim (λh=>O9 _ (G x h)) (λh=>O0 _ (H x h))
 | res y p G=>
  intro x h;simp only [an]at h;split at h
  ·rcases OY.1 h with rfl | h
   ·exact Pb ..
   ·exact OJ _ (G x h)
  ·exact OJ _ (G x h)
 | mat a b p G=>
  intro x h;simp only [an]at h;split at h
  ·exact G x h
  ·split at h<;>simp at h
 | rep p G=>
  intro x h;simp only [an]at h;split at h<;>simp at h
def lD:∀(u:U),Uq u->∀t∈(an u).2,∀y,t.Us y->u.Us y\/y∈(an u).1:=by
 intro u
 induction u with
 | nil=>intro _ t h;simp [an]at h
 | snd=>intro _ t h;simp [an]at h;subst h;exact λy G=> .inl G
 | rcv=>intro _ t h;simp [an]at h;subst h;exact λy G=> .inl G
 | tau=>intro _ t h;simp [an]at h;subst h;exact λy G=> .inl G
 | sum p q H J=>
  intro hu t h y G;simp only [an]at h|-;split at h
  ·rename_i e;simp only [e,Qu];exact(J hu.dX t h y G).imp .inr id
  ·rename_i e;split at h
   ·rename_i e';simp only [e,e',Qu];exact(H hu.eJ t h y G).imp .inl id
   ·simp at h;subst h;exact .inl G
 | par p q H J=>
  intro hu t h y G;simp only [an,OH]at h|-;rcases h with h | h
  ·exact(H hu.gP t h y G).imp .inl .inl
  ·exact(J hu.ga t h y G).imp .inr .inr
 | res x p H=>
  intro hu t h y G;have h:t∈(an p).2:=h;rcases H hu.res t h y G with Z | Z
  ·by_cases e:y=x
   ·subst e;right;simp only [an];rw [O' ((gL p y hu.gI).2 Z)];exact Pb ..
   ·exact .inl ⟨e,Z⟩
  ·right;simp only [an];split
   ·exact OJ _ Z
   ·exact Z
 | mat a b p H=>
  intro hu t h y G;simp only [an]at h|-;split at h
  ·rename_i e;simp only [e,Qu];exact(H hu.mat t h y G).imp (λh=> .inl ⟨rfl,h⟩) id
  ·split at h
   ·simp at h
   ·simp at h;subst h;exact .inl G
 | rep p H=>
  intro hu t h y G;simp only [an]at h|-;split at h
  ·simp at h
  ·simp at h;subst h;exact .inl G
def Den.ok {k:Nat}{p:P}{σ:Nat->Nat}{u:U}(d:Den k p σ u):Ok p:=⟨d.wf,d.len⟩
def My (k K:Nat)(σ:Nat->Nat)(u:U)(p:P)(q:U):Prop:=∃m G,k<=m/\Den m p G q/\(∀y,y∉BV u->G y=σ y)/\m+p.rd+p.ow<=K
def Iy {u:U}(H:u.dK)(hd:u.dead=false)(Z:∀p q,u≠ .sum p q)(hu:Uq u):ax u=[u]:=by
 cases u with
 | nil=>cases hd
 | snd=>rfl
 | rcv=>rfl
 | tau=>rfl
 | sum p q=>exact absurd rfl (Z p q)
 | par p q=>
  have J:p.dead=false:=H.1;have G:q.dead=false:=H.2;simp [ax,J,G]
 | res x p=>
  have:(td p).2.has x=true:=(gL p x hu.gI).2 H;simp [ax,this]
 | mat a b p=>
  have J:a≠b:=H;have G:p.dead=false:=hd;simp [ax,J,G]
 | rep p=>
  have G:p.dead=false:=hd;simp [ax,G]
def KM {p:P}{u:U}{ρ:UInt8->Nat}{σ:Nat->Nat}(h:AE ρ p σ u):(∀a b,p≠ .sum a b)↔∀a b,u≠ .sum a b:=by
 cases p<;>cases u<;>simp [AE]at h|-
def zi:∀(n:Nat) {k:Nat} {p:P} {σ:Nat->Nat} {u:U},p.size<=n->Den k p σ u->∀{w:World} {R:Value->Sb},
  (∀v w' (ps:List P),Ex w w'->Own w.heap.size w' v (ps.map T.text)->aO (My k (k+p.rd+p.ow) σ u) ps (ax u)->(∀x∈ps,∀j,GF j p->GF j x)->R v w')->Sc 261 #[.string (ak p.text)] w (aw [.v] R):=by
 intro n
 induction n with
 | zero=>intro k p σ u h;have :=aX p;omega
 | succ n ih=>
  intro k p σ u hn d w R h;refine n9 _ w R ?_;dsimp only [go_sem];dsimp only [go_sem,Nat.reduceAdd];refine B3 d.ok λw1 Z H=>?_
  have υ:=T.xV p;have η:=T.mE p;by_cases hd:p.dead=true
  ·
   have hq:p.peel.dead=true:=by rw [η];exact hd
   have hs:ax u=[]:=eF u (by rw [<-d.dead];exact hd);have hp:=T.lv p;refine aT H ⟨λhc=>?_,λhc=>?_⟩
   ·exact gv _ (OB _) H λw2 G=>⟨λ _=>h _ w2 [] (Z.trans G) (Own.nil _ _) (by rw [hs];exact aO.nil) (λx h=>(by cases h)),λhh=>absurd hh (by rw [hq];simp)⟩
   ·exfalso;generalize p.peel=q at*;cases q<;>simp [T.kind]at hc
    simp [T.dead,hp.1]at hq
  have hd:p.dead=false:=by simpa using hd
  obtain⟨m,φ,hm,d',ε,θ⟩:=d.peel hd;have χ:=T.lv u;rw [<-Gl u d.uq]at h;have ψ:u.peel.dead=false:=by rw [T.mE,<-d.dead];exact hd
  have ω:p.peel.dead=false:=by rw [η];exact hd
  have ι:∀y,y∉BV u->y∉BV u.peel:=λy hy hb=>hy (D8 u y hb)
  have κ:∀j,GF j p->GF j p.peel:=λj hj=>hj.peel d.bd.eb
  generalize p.peel=q at*;generalize u.peel=v at*;refine aT H ⟨λhc=>?_,λhc=>?_⟩
  ·have hns:∀a b,q≠ .sum a b:=λa b e=>by subst e;simp [T.kind]at hc
   refine gv _ (OB _) H λw2 G=>⟨λhh=>absurd hh (by rw [ω];simp),λ _=>λb w3 hb J=>?_⟩
   refine h _ w3 [q] ((Z.trans G).trans (J▸Ex.alloc w2 _)) (Own.one (Z.trans G).size hb J) ?_ λx hx j hj=>?_
   ·rw [Iy χ ψ ((KM d'.ae).1 hns) d'.uq];exact aO.one ⟨m,φ,hm,d',ε,θ⟩
   ·have:x=q:=by simpa using hx
    subst this;exact κ j hj
  ·cases q<;>simp [T.kind]at hc
   rename_i a b;cases v<;>(try exact d'.ae.elim)
   rename_i u1 u2;obtain⟨d1,d2⟩:=d'.sum;simp only [T.size]at υ;simp only [T.rd,T.ow]at θ;refine de H λvp w2 G α=>?_
   have α:Strs w2 vp [a.text,b.text]:=α;refine⟨λw'=>Ex w2 w',λw3 J=>⟨J▸Ex.drew w2,?_⟩⟩;have β:Ex w2 w3:=J▸Ex.drew w2;refine α.G3 (i:=0) (x:=a.text) (by omega) rfl ?_;refine α.G3 (i:=1) (x:=b.text) (by omega) rfl ?_;refine ih (by omega) d1 λv4 w4 ps1 γ ho4 μ hg4=>⟨β.trans γ,ih (by omega) d2 λv5 w5 ps2 δ ho5 ν hg5=>⟨(β.trans γ).trans δ,?_⟩⟩
   have z1:=dD u1;have z2:=dD u2;have e1:=d1.ae.size;have e2:=d2.ae.size;have t1:=bz a;have t2:=bz b;have hl:=d'.len;simp only [T.text,Ov,Oy]at hl;have l1:=μ.1;have l2:=ν.1;have hE:Ex w w3:=(Z.trans G).trans β;refine Own.push (ho4.ex δ) (γ.trans δ).size ho5.strs (by simp only [OM];omega) λv6 w6 hb6 ho6 _ _=>?_
   have ξ:Ex w3 w6:=(γ.trans δ).below hb6;refine⟨β.trans ξ,h _ w6 (ps1++ps2) (hE.trans ξ) ?_ ?_ λx hx j hj=>?_⟩
   ·rw [Pm];exact ho6.mono hE.size
   ·have ο:∀y,y∉BV u->y∉BV u1:=λy hy hb=>ι y hy (O9 _ hb)
    have ς:∀y,y∉BV u->y∉BV u2:=λy hy hb=>ι y hy (O0 _ hb)
    refine aO.append (μ.mono λx y _ _ ⟨m',ζ,h1,h2,h3,h4⟩=>⟨m',ζ,by omega,h2,λz hz=>?_,by omega⟩) (ν.mono λx y _ _ ⟨m',ζ,h1,h2,h3,h4⟩=>⟨m',ζ,by omega,h2,λz hz=>?_,by omega⟩)
    ·rw [h3 z (ο z hz),ε z hz]
    ·rw [h3 z (ς z hz),ε z hz]
   ·have hj:=κ j hj;exact(OH.1 hx).elim (λhx=>hg4 x hx j λz hz=>hj z (.inl hz)) (λhx=>hg5 x hx j λz hz=>hj z (.inr hz))
def FO {s o:Tx}:s≠[]->(o.Perm s↔∃i r,i< s.length/\r.Perm (s.take i++s.drop (i+1))/\o=bt s i::r):=by
 intro H;constructor
 ·intro h;cases o with
  | nil=>exact absurd h.symm.eq_nil H
  | cons c r=>
   obtain⟨i,hi,e⟩:=PK.1 (h.subset (Pb ..));refine⟨i,r,hi,?_,by simp [bt,hi,e]⟩;have G:s.Perm (s[i]::(s.take i++s.drop (i+1))):=by
    conv=>lhs;rw [<-PV i s,Ps hi]
    exact Ri
   rw [e]at G;exact(R0 c).1 (h.trans G)
 ·rintro⟨i,r,hi,hr,rfl⟩
  have G:s.Perm (s[i]::(s.take i++s.drop (i+1))):=by
   conv=>lhs;rw [<-PV i s,Ps hi]
   exact Ri
  have e:bt s i=s[i]:=by simp [bt,hi]
  rw [e];exact(List.Perm.cons _ hr).trans G.symm
def CB:∀(n:Nat) {s:Tx},s.length<=n->n<=5->∀{w:World} {R:Value->Sb},
  (∀v w' (L:List Tx),Ex w w'->Own w.heap.size w' v L->L.length<=6^s.length->(∀o,o∈L↔o.Perm s)->R v w')->Sc 242 #[.string (ak s)] w (aw [.v] R):=by
 intro n
 induction n with
 | zero=>
  intro s hs hn w R h;have:s=[]:=Pa (by omega);subst this;refine jw _ w R ?_;dsimp only [go_sem];refine⟨λ _=>λb w1 hb J=>h _ w1 [[]] (J▸Ex.alloc w _) (Own.one (OB _) hb J) (by simp) λo=>by simp,λhc=>absurd hc (by simp)⟩
 | succ n ih=>
  intro s hs hn w R h;refine jw _ w R ?_;dsimp only [go_sem];dsimp only [go_sem,Nat.reduceAdd];refine⟨λhc=>?_,λhc=>?_⟩
  ·have hc:s=[]:=OW hc;subst hc;exact λb w1 hb J=>h _ w1 [[]] (J▸Ex.alloc w _) (Own.one (OB _) hb J) (by simp) λo=>by simp
  ·have ν:s≠[]:=OX hc;have hpos:0< s.length:=Rf.2 ν;intro b cap w1 hb hrow hgr;have hx1:Ex w w1:=uC hgr;have h6:6^(s.length - 1)<=1296:=Pq (Nat.pow_le_pow_right (by omega) (by omega:s.length - 1<=4)) (by decide);have h6':6^s.length=6* 6^(s.length - 1):=by
    conv=>lhs;rw [show s.length=(s.length - 1)+1 by omega,Nat.pow_succ]
    omega
   generalize hP:6^(s.length - 1)=P6 at*;refine⟨some ⟨b,0,none⟩,s.length,cap,rfl,λout x w'=>Ex w w'/\∃i:Nat,x=i/\i<=s.length/\∃L:List Tx,Own w.heap.size w' out L/\L.length<=i* P6/\∀o,o∈L↔∃j r,j< i/\r.Perm (s.take j++s.drop (j+1))/\o=bt s j::r,
    λ _ x _=>((s.length:Int) - x).toNat,⟨hx1,0,rfl,by omega,[],Own.nil _ _,by simp,λo=>by simp⟩,λout x w2 hI=>?_⟩
   obtain⟨ξ,i,rfl,hi,L,δ,hL2,ο⟩:=hI;refine⟨λε=>?_,λε=>?_⟩
   ·have ζ:i< s.length:=by simpa using ε
    have ei:((i:Int)+1).toNat=i+1:=by omega
    refine⟨λw'=>True,λw3 hw3=>⟨trivial,by omega,by omega,by omega,by simp only [Pd,P7];omega,?_⟩⟩;have ς:Ex w2 w3:=hw3▸Ex.drew w2;rw [ei,OG];have hlen:(s.take i++s.drop (i+1)).length=s.length - 1:=by simp only [Oy,Pd,P7];omega
    refine ih (by omega) (by omega) λvr w4 M hx4 η hM2 θ=>⟨trivial,?_⟩
    rw [hlen,hP]at hM2;have υ:=η.strs;obtain⟨ar,cr,hvr⟩:=υ.slice;have α:=ς.trans hx4;have hE4:Ex w w4:=ξ.trans α;refine⟨ar,M.length,cr,hvr,λout y w'=>(Ex w w'/\w4.heap.size<=w'.heap.size/\Strs w' vr M/\∀b,out.ownBlock=some b->vr.ownBlock≠some b)/\∃j:Nat,y=j/\j<=M.length/\Own w.heap.size w' out (L++(M.take j).map (bt s i::·)),λ _ y _=>((M.length:Int) - y).toNat,
     ⟨⟨hE4,OB _,υ,λb hb G=>?_⟩,0,rfl,by omega,by simpa using δ.ex α⟩,λout2 y w5 hI=>?_⟩
    ·have h1:=(δ.block b hb).2;have h2:=(η.block b G).1;have h3:=ς.size;omega
    obtain⟨⟨φ,hsz5,β,γ⟩,j,rfl,hj,ι⟩:=hI;have hmul:i* P6+P6<=6480:=by
     have:i* P6<=4* 1296:=Rl (by omega) h6;omega
    refine⟨λκ=>?_,λκ=>?_⟩
    ·have H:j< M.length:=by simpa using κ
     refine β.get (Ex.refl w5) (i:=j) (by omega) (x:=M[j]) (by simp [H]) ⟨by omega,by omega,?_,λb6 w6 hb6 μ=>?_⟩
     ·have :=(θ M[j]).1 (Oz H);have h7:=this.length_eq;simp only [P7,Pd,ei,OG];omega
     ·have χ:=xz (s:=s) (i:=(i:Int)) (by omega) (by omega);rw [ei,OG]at χ;rw [χ]at μ;have Z:Ex w5 w6:=μ▸Ex.alloc w5 _;have ψ:Ex w w6:=φ.trans Z;refine Own.push (ι.ex Z) ψ.size (Strs.one hb6 μ) (by simp only [Oy,OM,Pd,Ov,ON];omega) λv7 w7 ω ho7 hg7 hw7=>?_
      have hE7:Ex w w7:=ψ.below ω;have hs7:Strs w7 vr M:=(β.ex Z).grown hg7 λb hb G=>γ b G hb
      refine⟨by omega,⟨⟨hE7,?_,hs7,λb hb G=>?_⟩,j+1,by omega,H,?_⟩,by dsimp only;omega⟩
      ·have :=Z.size;have :=ω.size;omega
      ·rcases hw7 b hb with h | h
       ·exact γ b h G
       ·have h2:=(η.block b G).2;have :=Z.size;omega
      ·have e:L++(M.take (j+1)).map (bt s i::·)=(L++(M.take j).map (bt s i::·))++[[bt s i]++M[j]]:=by
        rw [OC H,Pm,Pe];rfl
       rw [e];exact ho7
    ·have H:j=M.length:=by simp at κ;omega
     subst H;rw [O4]at ι;refine⟨by omega,⟨φ,i+1,by omega,ζ,_,ι,?_,λo=>?_⟩,by dsimp only;omega⟩
     ·rw [Oy,OM,Nat.add_mul];omega
     ·rw [OH,ο,Pf];constructor
      ·rintro(⟨j,r,h1,h2,h3⟩ | ⟨r,hr,rfl⟩)
       ·exact⟨j,r,by omega,h2,h3⟩
       ·exact⟨i,r,by omega,(θ r).1 hr,rfl⟩
      ·rintro⟨j,r,h1,h2,rfl⟩
       by_cases e:j=i
       ·subst e;exact .inr ⟨r,(θ r).2 h2,rfl⟩
       ·exact .inl ⟨j,r,by omega,h2,rfl⟩
   ·have ζ:i=s.length:=by simp at ε;omega
    subst ζ;refine h out w2 L ξ δ ?_ λo=>?_
    ·have:s.length* P6<=6* P6:=RC _ (by omega);omega
    ·rw [ο,FO ν]
structure Kp (w w':World)(S:Nat->Prop):Prop where
 os:w'.os=w.os
 tape:w'.tape=w.tape
 output:w'.output=w.output
 size:w.heap.size<=w'.heap.size
 block:∀g,g< w.heap.size->¬S g->w'.heap[g]?=w.heap[g]?
def Kp.ab {w w':World}(h:Ex w w')(S:Nat->Prop):Kp w w' S:=⟨h.os,h.tape,h.output,h.size,λg G _=>h.block g G⟩
def Kp.trans {a b c:World}{S T:Nat->Prop}(h:Kp a b S)(k:Kp b c T)(J:∀g,g< a.heap.size->T g->S g):Kp a c S:=
 ⟨k.os.trans h.os,k.tape.trans h.tape,k.output.trans h.output,Pq h.size k.size,λg G H=>
  (k.block g (O1 G h.size) λZ=>H (J g G Z)).trans (h.block g G H)⟩
def Kp.below {w w':World}{S:Nat->Prop}{B:Nat}(h:Kp w w' S)(hB:B<=w.heap.size)(G:∀g,g< B->¬S g):Below B w w':=
 ⟨h.os,h.tape,h.output,h.size,λg H=>h.block g (by omega) (G g H)⟩
def Strs.kp {w w':World}{v:Value}{l:List Tx}{S:Nat->Prop}(h:Strs w v l)(k:Kp w w' S)(J:∀b off n cap,v= .slice (some ⟨b,off,none⟩) n cap->¬S b):Strs w' v l:=by
 rcases h with h | ⟨b,off,cap,G,H,Z⟩
 ·exact .inl h
 ·refine .inr ⟨b,off,cap,G,O1 H k.size,λi x hx=>?_⟩;rw [Ow (w:=w) (k.block b H (J b off _ cap G))];exact Z i x hx
structure GL (B:Nat)(w:World)(b:Nat)(f:Tx)(v:Value)(L:List Tx):Prop where
 lt:b< w.heap.size
 base:B<=b
 c0:w.cell? ⟨b,0,none⟩=some (sv f)
 c1:w.cell? ⟨b,1,none⟩=some v
 own:Own B w v L
 ne:v.ownBlock≠some b
 f0:w.frozen? ⟨b,0,none⟩=false
 f1:w.frozen? ⟨b,1,none⟩=false
def gS (b:Nat)(v:Value)(g:Nat):Prop:=g=b\/v.ownBlock=some g
def GL.ex {B:Nat}{w w':World}{b:Nat}{f:Tx}{v:Value}{L:List Tx}(h:GL B w b f v L)(k:Ex w w'):GL B w' b f v L:=
 ⟨O1 h.lt k.size,h.base,by rw [k.cell h.lt];exact h.c0,by rw [k.cell h.lt];exact h.c1,h.own.ex k,h.ne,by rw [Qr k h.lt];exact h.f0,by rw [Qr k h.lt];exact h.f1⟩
def JI (k:Nat)(σ:Nat->Nat)(u:U)(j:Nat)(p:P)(t:U):Prop:=
 ∃m τ,k<=m/\Den m p τ t/\(∀y,t.Us y->τ y=asgN (an u).1 j σ y)/\GF (j+(an u).1.length) p
def yi:∀(l:List Nat) (n:Nat) (σ τ:Nat->Nat) (y:Nat),(y∈l\/σ y=τ y)->asgN l n σ y=asgN l n τ y
 | [],_,_,_,_,h=>by simpa [asgN]using h
 | x::l,n,σ,τ,y,h=>by
  rw [asgN,asgN];refine yi l _ _ _ y ?_;by_cases e:y=x
  ·right;subst e;simp [aI]
  ·rcases h with h | h
   ·exact .inl ((OY.1 h).resolve_left e)
   ·right;simp [aI,e,h]
def Hh {u:U}(J:u.dK)(hd:u.dead=false)(H:∀p q,u≠ .par p q)(G:∀x p,u≠ .res x p):an u=([],[u]):=by
 cases u with
 | nil=>cases hd
 | snd=>rfl
 | rcv=>rfl
 | tau=>rfl
 | par p q=>exact absurd rfl (H p q)
 | res x p=>exact absurd rfl (G x p)
 | sum p q=>
  have H:p.dead=false:=J.1;have G:q.dead=false:=J.2;simp [an,H,G]
 | mat a b p=>
  have H:a≠b:=J;have G:p.dead=false:=hd;simp [an,H,G]
 | rep p=>
  have G:p.dead=false:=hd;simp [an,G]
def GL.Ic {B:Nat}{w:World}{b:Nat}{f:Tx}{v:Value}{L:List Tx}(h:GL B w b f v L)(g:Tx):GL B (w.setCell ⟨b,0,none⟩ (sv g)) b g v L:=by
 have J:∀n,n≠b->(w.setCell ⟨b,0,none⟩ (sv g)).heap[n]?=w.heap[n]?:=λn G=>Q5 _ _ _ _ G
 refine⟨by rw [Pj];exact h.lt,h.base,OQ _ _ _ h.c0,?_,⟨h.own.1,?_⟩,h.ne,by rw [OS];exact h.f0,by rw [OS];exact h.f1⟩
 ·rw [OD _ _ _ _ (by simp)];exact h.c1
 ·rcases h.own.2 with G | ⟨H,cap,cur,e,hb,Z,rest⟩
  ·exact .inl G
  ·refine .inr ⟨H,cap,cur,e,hb,?_,rest⟩;rw [J H λhh=>h.ne (by rw [e,<-hh];rfl)];exact Z
def GL.Cx {B:Nat}{w w':World}{b:Nat}{f:Tx}{v G:Value}{L L':List Tx}(h:GL B w b f v L)(hg:w.grownBy w' v.ownBlock)(ho:Own B w' G L')(H:G.ownBlock≠some b):
  GL B (w'.setCell ⟨b,1,none⟩ G) b f G L'/\((∃u,w'.cell? ⟨b,1,none⟩=some u)/\w'.frozen? ⟨b,1,none⟩=false):=by
 have hb:w'.heap[b]?=w.heap[b]?:=hg.block b h.lt λe=>h.ne e.symm
 have e0:w'.cell? ⟨b,0,none⟩=some (sv f):=by rw [Ow (w:=w) hb];exact h.c0
 have e1:w'.cell? ⟨b,1,none⟩=some v:=by rw [Ow (w:=w) hb];exact h.c1
 have z0:w'.frozen? ⟨b,0,none⟩=false:=by rw [O7 (w:=w) hb];exact h.f0
 have z1:w'.frozen? ⟨b,1,none⟩=false:=by rw [O7 (w:=w) hb];exact h.f1
 have hk:∀n,n≠b->(w'.setCell ⟨b,1,none⟩ G).heap[n]?=w'.heap[n]?:=λn J=>Q5 _ _ _ _ J
 refine⟨⟨by rw [Pj];exact O1 h.lt hg.size,h.base,?_,OQ _ _ _ e1,⟨ho.1,?_⟩,H,by rw [OS];exact z0,by rw [OS];exact z1⟩,⟨⟨_,e1⟩,z1⟩⟩
 ·rw [OD _ _ _ _ (by simp)];exact e0
 ·rcases ho.2 with J | ⟨g',cap,cur,e,hb,Z,rest⟩
  ·exact .inl J
  ·refine .inr ⟨g',cap,cur,e,hb,?_,rest⟩;rw [hk g' λhh=>H (by rw [e,<-hh];rfl)];exact Z
def Kp.set {w w':World}{S:Nat->Prop}(h:Kp w w' S){b i:Nat}(hb:S b)(v:Value):Kp w (w'.setCell ⟨b,i,none⟩ v) S:=
 ⟨h.os,h.tape,h.output,by rw [Pj];exact h.size,λg H G=>(Q5 _ _ _ _ (show g≠b from λe=>G (by rw [e];exact hb))).trans (h.block g H G)⟩
def Kp.grown {w w1 w':World}{S:Nat->Prop}(h:Kp w w1 S){row:Option Nat}(H:w1.grownBy w' row)(hr:∀g,row=some g->g< w.heap.size->S g):Kp w w' S:=
 ⟨H.os.trans h.os,H.tape.trans h.tape,H.output.trans h.output,Pq h.size H.size,λg G J=>
  (H.block g (O1 G h.size) (λe=>J (hr g e.symm G))).trans (h.block g G J)⟩
def gj:∀u:U,(an u).2.length<=u.size
 | .nil=>by simp [an]
 | .snd .. =>by simp [an,T.size]
 | .rcv .. =>by simp [an,T.size]
 | .tau .. =>by simp [an,T.size]
 | .sum p q=>by
  have :=gj p;have :=gj q;simp only [an,T.size];split
  ·omega
  ·split
   ·omega
   ·simp
 | .par p q=>by have :=gj p;have :=gj q;simp only [an,T.size,Oy];omega
 | .res x p=>by have :=gj p;simp only [an,T.size];omega
 | .mat a b p=>by
  have :=gj p;simp only [an,T.size];split
  ·omega
  ·split<;>simp
 | .rep p=>by
  simp only [an,T.size];split<;>simp
def jd:∀u:U,(an u).1.length<=u.ow
 | .nil=>by simp [an]
 | .snd .. =>by simp [an]
 | .rcv .. =>by simp [an]
 | .tau .. =>by simp [an]
 | .sum p q=>by
  have :=jd p;have :=jd q;simp only [an,T.ow];split
  ·omega
  ·split
   ·omega
   ·simp
 | .par p q=>by have :=jd p;have :=jd q;simp only [an,T.ow,Oy];omega
 | .res x p=>by
  have :=jd p;simp only [an,T.ow];split
  ·simp only [Ov];omega
  ·omega
 | .mat a b p=>by
  have :=jd p;simp only [an,T.ow];split
  ·omega
  ·split<;>simp
 | .rep p=>by
  simp only [an,T.ow];split<;>simp
def qs {p:P}{u:U}{ρ:UInt8->Nat}{σ:Nat->Nat}(h:AE ρ p σ u):u.ow=p.ow:=by
 induction p generalizing u ρ σ<;>cases u<;>simp only [AE]at h<;>simp only [T.ow]
 case snd.snd G _ _ _=>exact G h.2.2
 case mat.mat G _ _ _=>exact G h.2.2
 case rcv.rcv G _ _ _=>exact G (h.2 0)
 case res.res G _ _=>rw [G (h 0)]
 case tau.tau G _=>exact G h
 case rep.rep G _=>exact G h
 case sum.sum G H _ _=>rw [G h.1,H h.2]
 case par.par G H _ _=>rw [G h.1,H h.2]
def G8:∀(n:Nat) {k:Nat} {p:P} {σ:Nat->Nat} {u:U} {j:Nat},p.size<=n->Den k p σ u->GF j p->j+p.ow<=64->
  ∀{B b:Nat} {v:Value} {L:List Tx} {w:World} {R:Sb},GL B w b (iF j) v L->L.length+p.size<=1099511627776->
  (∀w' v' (ps:List P),Kp w w' (gS b v)->(∀g,v'.ownBlock=some g->v.ownBlock=some g\/w.heap.size<=g)->GL B w' b (iF (j+(an u).1.length)) v' (L++ps.map T.text)->aO (JI k σ u j) ps (an u).2->R w')->
  Sc 241 #[.pointer (some ⟨b,0,none⟩),.string (ak p.text)] w (aw [] R):=by
 intro n
 induction n with
 | zero=>intro k p σ u j h;have :=aX p;omega
 | succ n ih=>
  intro k p σ u j hn d hgf how B b v L w R γ hL h;refine kf _ _ w R ?_;dsimp only [go_sem];dsimp only [go_sem,Nat.reduceAdd];refine B3 d.ok λw1 hx1 ς=>?_
  have hsz:=T.xV p;have hdd:=T.mE p;refine gv _ (OB _) ς λw2 hx2=>⟨λhd=>?_,λhd=>?_⟩
  ·have hx:Ex w w2:=hx1.trans hx2;have Z:=dB u d.uq (by rw [<-d.dead,<-hdd];exact hd);rw [Z]at h;exact h w2 v [] (Kp.ab hx _) (λg Z=> .inl Z) (by simpa using γ.ex hx) aO.nil
  have hpd:p.dead=false:=by rw [<-hdd];exact hd
  obtain⟨m,υ,hm,d',hσ,hlo⟩:=d.peel hpd;clear hlo;have ε:GF j p.peel:=hgf.peel d.bd.eb;have how':j+p.peel.ow<=64:=by have :=T.JK p;omega
  have hpu:=T.lv u;have hud:u.peel.dead=false:=by rw [T.mE,<-d.dead];exact hpd
  have hbv:∀y,y∉BV u->y∉BV u.peel:=λy hy hb=>hy (D8 u y hb)
  have φ:=d'.uq;have h:∀w' v' (ps:List P),Kp w w' (gS b v)->(∀g,v'.ownBlock=some g->v.ownBlock=some g\/w.heap.size<=g)->GL B w' b (iF (j+(an u.peel).1.length)) v' (L++ps.map T.text)->aO (JI m υ u.peel j) ps (an u.peel).2->R w':=by
   intro w' v' ps G h2 h3 h4;have hus:=lD u.peel φ;rw [qk u d.uq]at h3;have hmem:∀t∈(an u.peel).2,∀y,t.Us y->asgN (an u.peel).1 j υ y=asgN (an u.peel).1 j σ y:=by
    intro t ht y hy;refine yi _ _ _ _ _ ?_;rcases hus t ht y hy with hh | hh
    ·right;rw [T.EI]at hh;exact hσ y (d.uq.Ep hh)
    ·exact .inl hh
   have h4':aO (JI k σ u j) ps (an u.peel).2:=h4.mono λa t _ ht ⟨m',τ,q1,q2,q3,q4⟩=>⟨m',τ,by omega,q2,λy hy=>by rw [q3 y hy,hmem t ht y hy,qk u d.uq],by rw [qk u d.uq]at q4;exact q4⟩
   rw [qk u d.uq]at h4';exact h w' v' ps G h2 h3 h4'
  generalize p.peel=q at*;generalize u.peel=t at*;have β:Ex w w2:=hx1.trans hx2;have ζ:=γ.ex β;have thread:(∀a b,q≠ .par a b)->(∀x a,q≠ .res x a)->True:=λ _ _=>trivial
  refine aT ς ⟨λhc=>?_,λhc=>⟨λhc2=>?_,λhc2=>?_⟩⟩
  ·
   cases q<;>simp [T.kind]at hc
   rename_i a c;cases t<;>(try exact d'.ae.elim)
   rename_i u1 u2;obtain⟨d1,d2⟩:=d'.par;simp only [T.size]at hsz;simp only [T.ow]at how';have z1:=d1.ae.size;have z2:=d2.ae.size;refine qK ς λvp w3 α ψ hfr=>?_
   have ψ:Strs w3 vp [a.text,c.text]:=ψ;have J:=ζ.ex α;have ξ:Ex w w3:=β.trans α;refine ψ.get (Ex.refl w3) (i:=0) (x:=a.text) (by omega) rfl ?_;refine ih (by omega) d1 (λz hz=>ε z (.inl hz)) (by omega) J (by omega) λw4 v4 ps1 hk4 hv4 hGL4 ha4=>?_
   have hs4:Strs w4 vp [a.text,c.text]:=ψ.kp hk4 λbp off n' cap e hS=>by
    have hb:=hfr bp (by rw [e];rfl);rcases hS with rfl | hS
    ·have :=ζ.lt;omega
    ·have :=(γ.own.block bp hS).2;have :=β.size;omega
   refine hs4.get (Ex.refl w4) (i:=1) (x:=c.text) (by omega) rfl ?_;have l1:=ha4.1;have g1:(an u1).2.length<=u1.size:=gj u1;have o1:(an u1).1.length<=a.ow:=by rw [<-qs d1.ae];exact jd u1
   refine ih (by omega) d2 (λz hz Z=>?_) (by omega) hGL4 (by simp only [Oy,OM];omega) λw5 v5 ps2 hk5 hv5 η ha5=>?_
   ·obtain⟨i,hi,e⟩:=ε z (.inr hz) Z;exact⟨i,by omega,e⟩
   ·have hv45:∀g,v5.ownBlock=some g->v.ownBlock=some g\/w.heap.size<=g:=by
     intro g Z;rcases hv5 g Z with G | G
     ·rcases hv4 g G with h2 | h2
      ·exact .inl h2
      ·right;have :=ξ.size;omega
     ·right;have :=ξ.size;have :=hk4.size;omega
    refine h w5 v5 (ps1++ps2) ?_ hv45 ?_ ?_
    ·refine Kp.trans (Kp.trans (Kp.ab ξ (gS b v)) hk4 λg _ Z=>Z) hk5 λg Z hS=>?_
     rcases hS with G | G
     ·exact .inl G
     ·rcases hv4 g G with h2 | h2
      ·exact .inr h2
      ·have :=ξ.size;omega
    ·have e1:(an (T.par u1 u2)).1.length=(an u1).1.length+(an u2).1.length:=by simp [an]
     rw [e1,<-QV,Pm,<-Pe];exact η
    ·have hnd:=Pg.1 φ.nd;have hus1:=lD u1 d1.uq;have hus2:=lD u2 d2.uq;refine aO.append (ha4.mono λx y _ hy ⟨m',τ,q1,q2,q3,q4⟩=>⟨m',τ,q1,q2,λz hz=>?_,λz hz Z=>?_⟩) (ha5.mono λx y _ hy ⟨m',τ,q1,q2,q3,q4⟩=>⟨m',τ,q1,q2,λz hz=>?_,λz hz Z=>?_⟩)
     ·have hno:z∉(an u2).1:=λhin=>by
       have hb2:=iZ u2 z hin;rcases hus1 y hy z hz with G | G
       ·exact φ.nf z (O0 _ hb2) (.inl (T.bj G))
       ·exact hnd.2.2 z (iZ u1 z G) z hb2 rfl
      show τ z=asgN ((an u1).1++(an u2).1) j υ z;rw [lS,jn _ _ _ _ hno];exact q3 z hz
     ·obtain⟨i,hi,e⟩:=q4 z hz Z;have e1:(an (T.par u1 u2)).1.length=(an u1).1.length+(an u2).1.length:=by simp [an]
      exact⟨i,by omega,e⟩
     ·have hno:z∉(an u1).1:=λhin=>by
       have hb1:=iZ u1 z hin;rcases hus2 y hy z hz with G | G
       ·exact φ.nf z (O9 _ hb1) (.inr (T.bj G))
       ·exact hnd.2.2 z hb1 z (iZ u2 z G) rfl
      show τ z=asgN ((an u1).1++(an u2).1) j υ z;rw [lS,q3 z hz];exact uv _ _ _ _ _ (jn _ _ _ _ hno).symm
     ·obtain⟨i,hi,e⟩:=q4 z hz Z;have e1:(an (T.par u1 u2)).1.length=(an u1).1.length+(an u2).1.length:=by simp [an]
      exact⟨i,by omega,e⟩
  ·cases q<;>simp [T.kind]at hc2
   rename_i x a;cases t<;>(try exact d'.ae.elim)
   rename_i y u1;have hne:T.res x a≠ .nil:=λe=>by cases e
   have hj:j< 90:=by omega
   have oka:=ς.parts a (by simp [T.parts]);refine⟨λc w'=>Ex w2 w'/\∃i:Nat,i<=j/\c=gl i,λc _=>256 - c.toNat,⟨Ex.refl _,0,by omega,rfl⟩,λc w3 hI=>?_⟩;obtain⟨α,i,hi,rfl⟩:=hI;have J:=ζ.ex α;have next:∀w',Ex w2 w'->i< j->((decide (gl i+1=91))=true->(Ex w2 w'/\∃i':Nat,i'<=j/\(192:UInt8)=gl i')/\256 - (192:UInt8).toNat< 256 - (gl i).toNat)/\((decide (gl i+1=91))=false->(Ex w2 w'/\∃i':Nat,i'<=j/\gl i+1=gl i')/\256 - (gl i+1).toNat< 256 - (gl i).toNat):=by
    intro w' hx' ω;obtain⟨n1,n2⟩:=KL (i:=i) (by omega);have e1:=jT (show i< 90 by omega);have e2:=jT (show i+1< 90 by omega);refine⟨λhc=>?_,λhc=>?_⟩
    ·have hc:=OW hc;refine⟨⟨hx',i+1,by omega,(n1 hc).symm⟩,?_⟩;rw [<-n1 hc,e2,e1];split<;>split<;>omega
    ·have hc:=OX hc;refine⟨⟨hx',i+1,by omega,(n2 hc).symm⟩,?_⟩;rw [<-n2 hc,e2,e1];split<;>split<;>omega
   refine⟨b,0,rfl,iF j,J.c0,dZ (by rw [iK];omega) ⟨λhq=>?_,λhq=>?_⟩⟩
   ·have hq:¬gl i∈iF j:=OX hq;have ω:i=j:=by
     rcases Qi i j with G | G
     ·exact absurd (iJ.2 ⟨i,G,rfl⟩) hq
     ·omega
    subst ω;refine iu _ (OB _) ς λs w4 hx4 hs4 hm4=>dZ (by have :=hs4.bound;omega) ⟨λι=>?_,λι=>?_⟩
    ·have ι:gl i∈s:=OW ι;obtain⟨i',G,h2⟩:=ε _ ((hm4 _).1 ι) (zq hj);exact absurd (zw hj (by omega) h2) (by omega)
    ·have ι:¬(T.res x a).Fr (gl i):=by rw [<-hm4];exact OX ι
     have hx24:Ex w2 w4:=α.trans hx4;have ο:Ex w w4:=β.trans hx24;have fin:∀w5 w6,Ex w4 w5->w6=w5.setCell ⟨b,0,none⟩ (.string (ak (iF i++[gl i])))->Kp w w6 (gS b v)/\GL B w6 b (iF (i+1)) v L:=by
      rintro w5 w6 δ rfl
      refine⟨Kp.set (Kp.ab (ο.trans δ) _) (.inl rfl) _,?_⟩;rw [BS];exact(γ.ex (ο.trans δ)).Ic _
     refine⟨λw'=>Kp w w' (gS b v)/\GL B w' b (iF (i+1)) v L,⟨λ _=>True,λw5 κ=>⟨trivial,b,0,rfl,?_,λb6 w6 hb6 μ=>⟨trivial,?_,?_⟩⟩⟩,λw6 hJ=>?_⟩
     ·have δ:Ex w4 w5:=κ▸Ex.drew w4;have η:=(γ.ex (ο.trans δ))
      refine⟨iF i,η.c0,trivial,λb6 w6 hb6 μ=>⟨trivial,b6,0,1,1,[gl i],rfl,rfl,lx _ hb6 μ,trivial,by rw [iK];simp;omega,?_⟩⟩;have θ:Ex w4 w6:=δ.trans (μ▸Ex.alloc w5 _);have H:=γ.ex (ο.trans θ);exact⟨b,0,rfl,⟨⟨_,H.c0⟩,H.f0⟩,λw7 ν=>⟨trivial,fin w6 w7 θ ν⟩⟩
     ·have δ:Ex w4 w5:=κ▸Ex.drew w4;have θ:Ex w4 w6:=δ.trans (μ▸Ex.alloc w5 _);have H:=γ.ex (ο.trans θ);refine⟨iF i,H.c0,trivial,b6,0,1,1,[gl i],rfl,rfl,lx _ hb6 μ,trivial,by rw [iK];simp;omega,?_⟩;exact⟨b,0,rfl,⟨⟨_,H.c0⟩,H.f0⟩,λw7 ν=>⟨trivial,fin w6 w7 θ ν⟩⟩
     ·have δ:Ex w4 w5:=κ▸Ex.drew w4;have θ:Ex w4 w6:=δ.trans (μ▸Ex.alloc w5 _);have H:=γ.ex (ο.trans θ);refine⟨b6,0,1,1,[gl i],rfl,rfl,lx _ hb6 μ,trivial,iF i,H.c0,trivial,by rw [iK];simp;omega,?_⟩;exact⟨b,0,rfl,⟨⟨_,H.c0⟩,H.f0⟩,λw7 ν=>⟨trivial,fin w6 w7 θ ν⟩⟩
     ·obtain⟨hk6,H⟩:=hJ;refine⟨λ _=>True,λw7 ν=>⟨trivial,by simp only [T.text,Ov];omega,by simp only [T.text,Ov];omega,?_⟩⟩;have hx7:Ex w6 w7:=ν▸Ex.drew w6;have hle:=d'.bd.le;simp only [T.pm]at hle;simp only [T.ow]at how';simp only [T.size]at hsz;have hbda:=T.vL a;refine dz _ (OB _) oka d'.bd.eb.2 (by omega) (Nq hj) (Lw hj) λq' w8 hx8 hq'=>⟨trivial,?_⟩
      have dr:=d'.res hq' ι;have hsz':=T.pO hq'.shp;have how2:=T.GB hq'.shp;have χ:=hx7.trans hx8;refine ih (by omega) dr (λz hz Z=>?_) (by omega) (H.ex χ) (by omega) λw9 v9 ps hk9 hv9 hGL9 ha9=>⟨trivial,?_⟩
      ·rcases hq'.ok.free z hz with G | G | G
       ·exact⟨i,by omega,G⟩
       ·obtain⟨i',h2,h3⟩:=ε z ⟨G.1,G.2⟩ Z;exact⟨i',by omega,h3⟩
       ·exact absurd Z (dW (G.1▸d'.bd.eb.1.1))
      ·have hus:(td u1).2.has y=true:=(gL u1 y φ.gI).2 hpu;have e1:(an (T.res y u1)).1=y::(an u1).1:=by simp [an,hus]
       have sz6:=hk6.size;refine h w9 v9 ps ?_ ?_ ?_ ?_
       ·exact Kp.trans hk6 (Kp.trans (Kp.ab χ (gS b v)) hk9 λg _ hS=>hS) λg _ hS=>hS
       ·intro g Z;rcases hv9 g Z with G | G
        ·exact .inl G
        ·right;have :=χ.size;omega
       ·rw [e1,Ov];have e2:i+((an u1).1.length+1)=i+1+(an u1).1.length:=by omega
        rw [e2];exact hGL9
       ·refine ha9.mono λp' t' _ _ ⟨m',τ,q1,q2,q3,q4⟩=>⟨m',τ,by omega,q2,λz hz=>?_,λz hz Z=>?_⟩
        ·rw [e1,asgN];exact q3 z hz
        ·obtain⟨i',h2,h3⟩:=q4 z hz Z;exact⟨i',by rw [e1,Ov];omega,h3⟩
   ·have hq:gl i∈iF j:=OW hq;obtain⟨i',G,h2⟩:=iJ.1 hq;have ω:i< j:=by rw [zw (by omega) (by omega) h2];exact G
    exact next w3 α ω
  ·
   have hnp:∀a c,t≠ .par a c:=λa c e=>by
    subst e;cases q<;>first | exact d'.ae.elim | simp [T.kind]at hc
   have hnr:∀x a,t≠ .res x a:=λx a e=>by
    subst e;cases q<;>first | exact d'.ae.elim | simp [T.kind]at hc2
   have Z:=Hh hpu hud hnp hnr;have hlen:L.length+1<=1099511627776:=by have :=aX p;omega
   refine⟨b,0,rfl,v,ζ.c1,λb3 w3 hb3 hw3=>?_⟩;have α:Ex w2 w3:=hw3▸Ex.alloc w2 _;have J:=ζ.ex α;refine Own.push J.own (Pq J.base (R2 J.lt)) (Strs.one hb3 hw3) (by simpa using hlen) λv4 w4 hb4 ho4 hg4 hw4=>?_
   have hne:v4.ownBlock≠some b:=λe=>by
    rcases hw4 b e with G | G
    ·exact γ.ne G
    ·have :=J.lt;omega
   obtain⟨η,hcell⟩:=J.Cx hg4 ho4 hne;refine⟨b,0,rfl,?_,hcell,λw5 κ=>?_⟩
   ·rcases ho4.2 with⟨rfl,_⟩ | ⟨_,_,_,rfl,_⟩<;>rfl
   ·have κ:w5=w4.setCell ⟨b,1,none⟩ v4:=κ;subst κ;refine h _ v4 [q] ?_ ?_ ?_ ?_
    ·refine Kp.set (Kp.grown (Kp.ab (β.trans α) _) hg4 λg hg' _=> .inr hg') (.inl rfl) _
    ·intro g hg';rcases hw4 g hg' with G | G
     ·exact .inl G
     ·right;have :=(β.trans α).size;omega
    ·rw [Z];exact η
    ·rw [Z];refine aO.one ⟨m,υ,OB _,d',λy _=>by rw [Z];rfl,by rw [Z];exact ε⟩
def j8 (l:List U):Nat:=(l.map T.aJ).sum+3* l.length
def se (l m:List U):j8 (l++m)=j8 l+j8 m:=by simp [j8];omega
def jE:j8 []=0:=rfl
def cI (u:U):j8 [u]=u.aJ+3:=by simp [j8]
def A6 (u:U):1<=u.aJ:=by cases u<;>simp only [T.aJ]<;>omega
def gg:∀u:U,j8 (an u).2+3* (an u).1.length<=u.aJ+3
 | .nil=>by simp [an,jE]
 | .snd .. =>by simp [an,cI]
 | .rcv .. =>by simp [an,cI]
 | .tau .. =>by simp [an,cI]
 | .sum p q=>by
  have :=gg p;have :=gg q;simp only [an,T.aJ];split
  ·omega
  ·split
   ·omega
   ·simp [cI,T.aJ]
 | .par p q=>by
  have :=gg p;have :=gg q;simp only [an,T.aJ,se,Oy];omega
 | .res x p=>by
  have :=gg p;simp only [an,T.aJ];split
  ·simp only [Ov];omega
  ·omega
 | .mat a b p=>by
  have :=gg p;simp only [an,T.aJ];split
  ·omega
  ·split
   ·simp [jE]
   ·simp [cI,T.aJ]
 | .rep p=>by
  simp only [an,T.aJ];split
  ·simp [jE]
  ·simp [cI,T.aJ]
def eC:∀u:U,j8 (ax u)<=u.aJ+3
 | .nil=>by simp [ax,jE]
 | .snd .. =>by simp [ax,cI]
 | .rcv .. =>by simp [ax,cI]
 | .tau .. =>by simp [ax,cI]
 | .sum p q=>by
  have :=eC p;have :=eC q;simp only [ax,T.aJ,se];omega
 | .par p q=>by
  have :=eC p;have :=eC q;simp only [ax,T.aJ];split
  ·omega
  ·split
   ·omega
   ·simp [cI,T.aJ]
 | .res x p=>by
  have :=eC p;simp only [ax,T.aJ];split
  ·simp [cI,T.aJ]
  ·omega
 | .mat a b p=>by
  have :=eC p;simp only [ax,T.aJ];split
  ·omega
  ·split
   ·simp [jE]
   ·simp [cI,T.aJ]
 | .rep p=>by
  simp only [ax,T.aJ];split
  ·simp [jE]
  ·simp [cI,T.aJ]
def pk {p:P}{u:U}{ρ:UInt8->Nat}{σ:Nat->Nat}(h:AE ρ p σ u):u.aJ=p.aJ:=by
 induction p generalizing u ρ σ<;>cases u<;>simp only [AE]at h<;>simp only [T.aJ]
 case snd.snd G _ _ _=>rw [G h.2.2]
 case mat.mat G _ _ _=>rw [G h.2.2]
 case rcv.rcv G _ _ _=>rw [G (h.2 0)]
 case res.res G _ _=>rw [G (h 0)]
 case tau.tau G _=>rw [G h]
 case rep.rep G _=>rw [G h]
 case sum.sum G H _ _=>rw [G h.1,H h.2]
 case par.par G H _ _=>rw [G h.1,H h.2]
def MN {c:UInt8}(h:c∈Gm):lt c=true:=by
 obtain⟨i,hi,rfl⟩:=Pf.1 h;rw [PH]at hi;have e:(UInt8.ofNat (97+i)).toNat=97+i:=by rw [PT];omega
 simp only [lt,OA,OK];exact⟨OZ.2 (by rw [e];show 97<=_;omega),OZ.2 (by rw [e];show _<=122;omega)⟩
def Ce {tk:Tk}{c:UInt8}(h:wV tk=some c):tk c=false/\lt c=true/\jc tk=c:=by
 have G:=Q7 h;have H:=List.find?_some h;exact⟨by simpa using H,MN G,by unfold jc;rw [h];rfl⟩
def Hu {tk:Tk}(h:(wV tk).isNone=false):tk (jc tk)=false/\lt (jc tk)=true:=by
 cases e:wV tk with
 | none=>rw [e]at h;cases h
 | some c=>obtain⟨G,H,J⟩:=Ce e;rw [J];exact⟨G,H⟩
def Aw:∀(l:List UInt8) (tk:Tk) (c:UInt8),addK l tk c=(tk c||decide (c∈l))
 | [],tk,c=>by simp [addK]
 | d::l,tk,c=>by
  rw [addK,Aw l];by_cases h:c=d
  ·subst h;simp [cY]
  ·have hb:(c==d)=false:=by simpa using h
   simp [cY,hb,h]
def xP:∀(n:Nat) (tk:Tk),gX n tk=false->(lets n tk).Nodup/\∀c∈lets n tk,tk c=false/\lt c=true
 | 0,tk,_=>⟨P3,λc h=>by cases h⟩
 | n+1,tk,h=>by
  simp only [gX,P4]at h;obtain⟨Z,h2⟩:=Hu h.1;obtain⟨k1,H⟩:=xP n _ h.2;rw [lets];refine⟨PB.2 ⟨λhm=>?_,k1⟩,λc G=>?_⟩
  ·have :=(H _ hm).1;simp [cY]at this
  ·rcases OY.1 G with rfl | G
   ·exact⟨Z,h2⟩
   ·obtain⟨J,m2⟩:=H c G;simp only [cY,P4]at J;exact⟨J.1,m2⟩
def HW:∀(u:U) (y:Nat),u.Us y->∃t∈(an u).2,t.Us y:=by
 intro u
 induction u with
 | nil=>intro y h;exact h.elim
 | snd a b p G=>intro y h;exact⟨_,by simp [an],h⟩
 | rcv a b p G=>intro y h;exact⟨_,by simp [an],h⟩
 | tau p G=>intro y h;exact⟨_,by simp [an],h⟩
 | sum p q G H=>
  intro y h;simp only [an];split
  ·rename_i e;exact H y (h.resolve_left (T.bF e))
  ·split
   ·rename_i e;exact G y (h.resolve_right (T.bF e))
   ·exact⟨_,by simp,h⟩
 | par p q G H=>
  intro y h;simp only [an,OH];rcases h with h | h
  ·obtain⟨t,J,Z⟩:=G y h;exact⟨t,.inl J,Z⟩
  ·obtain⟨t,J,Z⟩:=H y h;exact⟨t,.inr J,Z⟩
 | res x p G=>intro y h;exact G y h.2
 | mat a b p G=>
  intro y h;simp only [an];rcases h with⟨e,h⟩ | ⟨e,hd,h⟩
  ·rw [O' e];exact G y h
  ·rw [OP e,OP (by simp [hd])];exact⟨.mat a b p,by simp,.inr ⟨e,hd,h⟩⟩
 | rep p G=>
  intro y h;simp only [an];split
  ·rename_i e;exact absurd h (T.bF (p:=p) e)
  ·exact⟨_,by simp,h⟩
def AT:∀(u:U),Uq u->∀x∈(an u).1,∃t∈(an u).2,t.Us x:=by
 intro u
 induction u with
 | nil=>intro _ x h;simp [an]at h
 | snd=>intro _ x h;simp [an]at h
 | rcv=>intro _ x h;simp [an]at h
 | tau=>intro _ x h;simp [an]at h
 | sum p q G H=>
  intro hu x h;simp only [an]at h|-;split at h
  ·rename_i e;rw [O' e];exact H hu.dX x h
  ·rename_i e;rw [OP e];split at h
   ·rename_i e';rw [O' e'];exact G hu.eJ x h
   ·simp at h
 | par p q G H=>
  intro hu x h;simp only [an,OH]at h|-;rcases h with h | h
  ·obtain⟨t,J,Z⟩:=G hu.gP x h;exact⟨t,.inl J,Z⟩
  ·obtain⟨t,J,Z⟩:=H hu.ga x h;exact⟨t,.inr J,Z⟩
 | res y p G=>
  intro hu x h;have e2:(an (.res y p)).2=(an p).2:=rfl;rw [e2];simp only [an]at h;split at h
  ·rename_i hh;rcases OY.1 h with rfl | h
   ·exact HW p x ((gL p x hu.gI).1 hh)
   ·exact G hu.res x h
  ·exact G hu.res x h
 | mat a b p G=>
  intro hu x h;simp only [an]at h|-;split at h
  ·rename_i e;rw [O' e];exact G hu.mat x h
  ·rename_i e;split at h<;>simp at h
 | rep p G=>
  intro hu x h;simp only [an]at h;split at h<;>simp at h
def ij:∀(u:U),Uq u->(an u).1.Nodup:=by
 intro u
 induction u with
 | nil=>intro _;simp [an]
 | snd=>intro _;simp [an]
 | rcv=>intro _;simp [an]
 | tau=>intro _;simp [an]
 | sum p q G H=>
  intro hu;simp only [an];split
  ·exact H hu.dX
  ·split
   ·exact G hu.eJ
   ·simp
 | par p q G H=>
  intro hu;simp only [an];refine Pg.2 ⟨G hu.gP,H hu.ga,λa ha b hb e=>?_⟩;exact(Pg.1 hu.nd).2.2 a (iZ p a ha) b (iZ q b hb) e
 | res y p G=>
  intro hu;simp only [an];split
  ·exact PB.2 ⟨λh=>hu.gI (iZ p y h),G hu.res⟩
  ·exact G hu.res
 | mat a b p G=>
  intro hu;simp only [an];split
  ·exact G hu.mat
  ·split<;>simp
 | rep p G=>
  intro hu;simp only [an];split<;>simp
def j0:∀(l:List Nat) (n:Nat) (σ:Nat->Nat) (i:Nat) (h:i< l.length),l.Nodup->asgN l n σ l[i]=(gl (n+i)).toNat
 | [],_,_,_,h,_=>by simp at h
 | x::l,n,σ,0,_,G=>by
  have :=PB.1 G;simp only [List.getElem_cons_zero,asgN];rw [jn _ _ _ _ this.1];simp [aI]
 | x::l,n,σ,i+1,h,G=>by
  have :=PB.1 G;simp only [List.getElem_cons_succ,asgN];rw [j0 l _ _ i (by simpa using h) this.2]
  congr 2
  omega
attribute [go_sem] Tryz.f203
def me (G:Value)(H:aD)(t3:aD)(w:World)(R:aD->Sb)(h:vc aB (a6 [(5,[(8,.s),(32,.i)]),(11,[(11,.s),(12,.i)]),(23,[(13,.s),(14,.s),(84,.i)]),(33,[(16,.s),(107,.i)]),(40,[(16,.s),(21,.i)])] [(12,[(11,.s)]),(32,[(17,.v)]),(38,[(16,.s)])] []) (ai Tryz.f203) (aj 0 [.v G,.s H,.s t3]) w (fin aB [.tmp 6 .s] R)):
  Sc 203 #[G,(.string (ak H)),(.string (ak t3))] w (aw [.s] R):=
 bn Tryz.func203 (by kernel_rfl) h
attribute [go_sem] Tryz.f243
def lX (G:Value)(t2:Value)(H:aD)(l4:aD)(t5:aD)(w:World)(R:aD->Sb)(h:vc aB (a6 [(3,[(11,.v),(17,.i)]),(6,[(13,.s),(14,.i)])] [] [(8,false,.lt 0 (.lt 1 (.lt 2 (.lt 3 (.lt 4 (.lt 5 (.lt 6 (.one .h 7 (.lt 8 .done)))))))))]) (ai Tryz.f243) (aj 0 [.v G,.v t2,.s H,.s l4,.s t5]) w (fin aB [.tmp 10 .s] R)):
  Sc 243 #[G,t2,(.string (ak H)),(.string (ak l4)),(.string (ak t5))] w (aw [.s] R):=
 bn Tryz.func243 (by kernel_rfl) h
attribute [go_sem] Tryz.f258
def kV (G:Value)(H:aD)(t3:aD)(w:World)(R:aD->Sb)(h:vc aB (a6 [(17,[(10,.v),(87,.i)])] [] [(4,false,.lt 0 (.lt 1 (.lt 4 (.lt 5 (.lt 6 (.lt 9 (.one .h 2 (.lt 3 (.one .h 7 (.lt 8 (.one .h 10 (.lt 11 (.lt 12 .done))))))))))))),(7,false,.lt 0 (.lt 1 (.lt 2 (.lt 7 (.lt 8 (.lt 9 (.lt 10 (.lt 11 (.lt 12 (.lt 14 (.lt 15 (.br .h 3 (.br .h 4 (.lt 5 (.lt 6 (.one .h 13 (.one .h 16 (.one .h 17 (.lt 18 (.lt 19 .done))))))) (.one .h 13 (.br .h 4 (.lt 5 (.lt 6 (.one .h 16 (.one .h 17 (.lt 18 (.lt 19 .done)))))) (.one .h 16 (.br .h 4 (.lt 5 (.lt 6 (.one .h 17 (.lt 18 (.lt 19 .done))))) (.one .h 17 (.one .h 4 (.lt 5 (.lt 6 (.lt 18 (.lt 19 .done))))))))))) (.one .h 13 (.br .h 3 (.br .h 4 (.lt 5 (.lt 6 (.one .h 16 (.one .h 17 (.lt 18 (.lt 19 .done)))))) (.one .h 16 (.br .h 4 (.lt 5 (.lt 6 (.one .h 17 (.lt 18 (.lt 19 .done))))) (.one .h 17 (.one .h 4 (.lt 5 (.lt 6 (.lt 18 (.lt 19 .done))))))))) (.one .h 16 (.br .h 3 (.br .h 4 (.lt 5 (.lt 6 (.one .h 17 (.lt 18 (.lt 19 .done))))) (.one .h 17 (.one .h 4 (.lt 5 (.lt 6 (.lt 18 (.lt 19 .done))))))) (.one .h 17 (.one .h 3 (.one .h 4 (.lt 5 (.lt 6 (.lt 18 (.lt 19 .done))))))))))))))))))))))),(9,false,.lt 0 (.lt 1 (.lt 2 (.lt 3 (.lt 4 (.lt 5 .done))))))]) (ai Tryz.f258) (aj 0 [.v G,.s H,.s t3]) w (fin aB [.tmp 6 .s] R)):
  Sc 258 #[G,(.string (ak H)),(.string (ak t3))] w (aw [.s] R):=
 bn Tryz.func258 (by kernel_rfl) h
attribute [go_sem] Tryz.f162
def yV (G:aD)(w:World)(R:aD->Bool->Sb)(h:vc aB (a6 [(4,[(5,.i),(19,.i)])] [] [(13,false,.lt 0 (.lt 1 (.lt 2 (.lt 3 (.lt 4 (.lt 5 (.lt 6 (.lt 7 .done))))))))]) (ai Tryz.f162) (aj 0 [.s G]) w (fin aB [.tmp 2 .s,.tmp 3 .b] R)):
  Sc 162 #[(.string (ak G))] w (aw [.s,.b] R):=
 bn Tryz.func162 (by kernel_rfl) h
attribute [go_sem] Tryz.f90
def z8 (G:aD)(w:World)(R:aD->Bool->Sb)(h:vc aB (a6 [] [] []) (ai Tryz.f90) (aj 0 [.s G]) w (fin aB [.tmp 2 .s,.tmp 3 .b] R)):
  Sc 90 #[(.string (ak G))] w (aw [.s,.b] R):=
 bn Tryz.func90 (by kernel_rfl) h
structure MK (w:World)(bm:Nat)(br on:Bool):Prop where
 lt:bm< w.heap.size
 c0:w.cell? ⟨bm,0,none⟩=some (.bool br)
 c1:w.cell? ⟨bm,1,none⟩=some (.bool on)
 f0:w.frozen? ⟨bm,0,none⟩=false
def MK.ex {w w':World}{bm:Nat}{br on:Bool}(h:MK w bm br on)(k:Ex w w'):MK w' bm br on:=
 ⟨O1 h.lt k.size,by rw [k.cell h.lt];exact h.c0,by rw [k.cell h.lt];exact h.c1,by rw [Qr k h.lt];exact h.f0⟩
def cR (T:Tx):Tk:=λc=>decide (c∈T)
structure zB (k:Nat)(T:Tx)(σ:Nat->Nat)(u:U):Prop where
 srt:lR T
 okn:∀c∈T,okn k c/\ngr c
 cov:∀y,u.Us y->∃c∈T,c.toNat=σ y
def Compat (ρ:Rh)(σ:Nat->Nat)(u:U):Prop:=∀y,u.Us y->(ρ y).toNat=σ y
structure WR (on:Bool)(u:U)(σ:Nat->Nat)(T r:Tx):Prop where
 ne:r≠[]
 len:r.length<=u.aJ
 cnt:bc u<=5->r.count 35=cT u
 bad:bc u<=5->on=false->dF u (cR T)=true->∃c∈r,128<=c
 eq:bc u<=5->on=false->dF u (cR T)=false->∀ρ,Compat ρ σ u->r=LS u ρ (cR T)
structure TR (on:Bool)(t:U)(σ:Nat->Nat)(T r:Tx):Prop where
 ne:r≠[]
 len:r.length<=t.aJ
 cnt:ay (tl [t])<=5->r.count 35=thAll (tl [t])
 bad:ay (tl [t])<=5->on=false->thBad (tl [t]) (cR T)=true->∃c∈r,128<=c
 eq:ay (tl [t])<=5->on=false->thBad (tl [t]) (cR T)=false->∀ρ,Compat ρ σ t->r=thU t ρ (cR T)
def DP:∀(u:U),∀t∈(an u).2,t.ow+(an u).1.length<=u.ow/\t.rd<=u.rd:=by
 intro u
 induction u with
 | nil=>intro t h;simp [an]at h
 | snd=>intro t h;simp [an]at h;subst h;simp [an]
 | rcv=>intro t h;simp [an]at h;subst h;simp [an]
 | tau=>intro t h;simp [an]at h;subst h;simp [an]
 | sum p q G H=>
  intro t h;simp only [an]at h|-;split at h
  ·rename_i e;rw [O' e];have :=H t h;simp only [T.ow,T.rd];omega
  ·rename_i e;rw [OP e];split at h
   ·rename_i J;rw [O' J];have :=G t h;simp only [T.ow,T.rd];omega
   ·rename_i J;rw [OP J];simp at h;subst h;simp
 | par p q G H=>
  intro t h;simp only [an,OH]at h;simp only [an,T.ow,T.rd,Oy];have Z:=jd p;have hq:=jd q;rcases h with h | h
  ·have :=G t h;omega
  ·have :=H t h;omega
 | res x p G=>
  intro t h;have :=G t h;simp only [an,T.ow,T.rd];split
  ·simp only [Ov];omega
  ·omega
 | mat a b p G=>
  intro t h;simp only [an]at h|-;split at h
  ·rename_i e;rw [O' e];exact G t h
  ·rename_i e;rw [OP e];split at h
   ·simp at h
   ·rename_i J;rw [OP J];simp at h;subst h;simp
 | rep p G=>
  intro t h;simp only [an]at h|-;split at h
  ·simp at h
  ·rename_i J;rw [OP J];simp at h;subst h;simp
def Et {p:P}{u:U}{ρ:UInt8->Nat}{σ:Nat->Nat}(h:AE ρ p σ u):u.rd=p.rd:=by
 induction p generalizing u ρ σ<;>cases u<;>simp only [AE]at h<;>simp only [T.rd]
 case snd.snd G _ _ _=>exact G h.2.2
 case mat.mat G _ _ _=>exact G h.2.2
 case rcv.rcv G _ _ _=>rw [G (h.2 0)]
 case res.res G _ _=>exact G (h 0)
 case tau.tau G _=>exact G h
 case rep.rep G _=>exact G h
 case sum.sum G H _ _=>rw [G h.1,H h.2]
 case par.par G H _ _=>rw [G h.1,H h.2]
def Lb (k:Nat)(u:U):Prop:=u.ow<=64/\((an u).1.length<=5->∀t∈(an u).2,k+(an u).1.length+t.rd+t.ow<=64)
def Lb.of {k:Nat}{u:U}(h:k+u.rd+u.ow<=64):Lb k u:=⟨by omega,λ _ t G=>by have :=DP u t G;omega⟩
def Den.lb {k m:Nat}{p:P}{σ:Nat->Nat}{u:U}(d:Den m p σ u)(h:k+(p.rd+p.ow)<=64):Lb k u:=Lb.of (by rw [Et d.ae,qs d.ae];omega)
def Gt (n:Nat):Prop:=∀{k:Nat} {p:P} {σ:Nat->Nat} {u:U} {T:Tx} {w:World} {bm:Nat} {br on:Bool} {R:aD->Sb},
 p.size<=n->Den k p σ u->Lb k u->GF 0 p->zB k T σ u->MK w bm br on->
 (∀r w',Kp w w' (λg=>g=bm)->MK w' bm (br||decide (5< bc u)) on->WR on u σ T r->R r w')->
 Sc 203 #[.pointer (some ⟨bm,0,none⟩),.string (ak p.text),.string (ak T)] w (aw [.s] R)
def zR (n:Nat):Prop:=∀{k:Nat} {p:P} {σ:Nat->Nat} {t:U} {T:Tx} {w:World} {bm:Nat} {br on:Bool} {R:aD->Sb},
 p.size<=n->Den k p σ t->Ju t=true->t.dK->t.dead=false->GF 0 p->zB k T σ t->MK w bm br on->
 (∀r w',Kp w w' (λg=>g=bm)->MK w' bm (br||decide (5< ay (tl [t]))) on->TR on t σ T r->R r w')->
 Sc 258 #[.pointer (some ⟨bm,0,none⟩),.string (ak p.text),.string (ak T)] w (aw [.s] R)
def jk (a b:Nat)(p:U)(tk:Tk):thBad (tl [.snd a b p]) tk=dF p tk:=by simp [tl,thBad,dF]
def jv (p:U)(tk:Tk):thBad (tl [.tau p]) tk=dF p tk:=by simp [tl,thBad,dF]
def fG (a b:Nat)(p:U)(tk:Tk):thBad (tl [.mat a b p]) tk=dF p tk:=by simp [tl,thBad,dF]
def jI (p:U)(tk:Tk):thBad (tl [.rep p]) tk=dF p tk:=by simp [tl,thBad,dF]
def jH (a x:Nat)(p:U)(tk:Tk):thBad (tl [.rcv a x p]) tk=((wV tk).isNone||dF p (cY tk (jc tk))):=by simp [tl,thBad,dF]
def ra (a b:Nat)(p:U):thAll (tl [.snd a b p])=cT p:=by simp [tl,thAll,cT]
def rS (p:U):thAll (tl [.tau p])=cT p:=by simp [tl,thAll,cT]
def jB (a b:Nat)(p:U):thAll (tl [.mat a b p])=cT p:=by simp [tl,thAll,cT]
def rI (p:U):thAll (tl [.rep p])=cT p:=by simp [tl,thAll,cT]
def rr (a b:Nat)(p:U):thAll (tl [.rcv a b p])=cT p:=by simp [tl,thAll,cT]
def fA (a b:Nat)(p:U):ay (tl [.snd a b p])=bc p:=by simp [tl,ay,bc]
def fv (p:U):ay (tl [.tau p])=bc p:=by simp [tl,ay,bc]
def dw (a b:Nat)(p:U):ay (tl [.mat a b p])=bc p:=by simp [tl,ay,bc]
def fH (p:U):ay (tl [.rep p])=bc p:=by simp [tl,ay,bc]
def fP (a b:Nat)(p:U):ay (tl [.rcv a b p])=bc p:=by simp [tl,ay,bc]
def Ad (l:List U)(tk:Tk):thBad (tp l) tk=l.any λu=>dF u tk:=by
 induction l with
 | nil=>rfl
 | cons u l G=>rw [tp,thBad,G];rfl
def Ig (l:List U):thAll (tp l)=(l.map cT).sum:=by
 induction l with
 | nil=>rfl
 | cons u l G=>rw [tp,thAll,G];rfl
def yR (l:List U)(n:Nat):ay (tp l)<=n↔∀u∈l,bc u<=n:=by
 induction l with
 | nil=>simp [tp,ay]
 | cons u l G=>
  rw [tp,ay];rw [OO,<-G];unfold bc;exact⟨λh=>⟨by omega,by omega⟩,λh=>by have :=h.1;have :=h.2;omega⟩
def uI (l:List U)(tk:Tk):thBad (tl l) tk=l.any λt=>thBad (tl [t]) tk:=by
 induction l with
 | nil=>rfl
 | cons u l G=>
  have:tl (u::l)=(tl [u]).app (tl l):=eU [u] l;rw [this,dc,G];rfl
def CC (l:List U):thAll (tl l)=(l.map λt=>thAll (tl [t])).sum:=by
 induction l with
 | nil=>rfl
 | cons u l G=>
  have:tl (u::l)=(tl [u]).app (tl l):=eU [u] l;rw [this,cd,G];rfl
def tY (l:List U)(n:Nat):ay (tl l)<=n↔∀t∈l,ay (tl [t])<=n:=by
 induction l with
 | nil=>simp [tl,ay]
 | cons u l G=>
  have:tl (u::l)=(tl [u]).app (tl l):=eU [u] l;rw [this,cn];rw [OO,<-G];exact⟨λh=>⟨by omega,by omega⟩,λh=>by have :=h.1;have :=h.2;omega⟩
section
open Classical
namespace T
section
variable {A B:Type} [DecidableEq A] [DecidableEq B]
def th:T A->Bool
 | snd .. =>true | rcv .. =>true | tau .. =>true | mat .. =>true | rep .. =>true | sum .. =>true
 | nil=>false | par .. =>false | res .. =>false
def isS:T A->Bool
 | sum .. =>true
 | _=>false
def isP:T A->Bool
 | par .. =>true
 | _=>false
def Nr:T A->Prop
 | nil=>True
 | snd _ _ p=>p.Nr
 | rcv _ _ p=>p.Nr
 | tau p=>p.Nr
 | sum p q=>(p.dead=false/\q.dead=false/\p.isS=false)/\p.Nr/\q.Nr
 | par p q=>(p.th=true/\(q.th=true\/q.isP=true))/\p.Nr/\q.Nr
 | res x p=>p.Us x/\p.Nr
 | mat a b p=>(a≠b/\p.dead=false)/\p.Nr
 | rep p=>p.dead=false/\p.Nr
def Nr.iO {A:Type}{x:A}:∀{p:T A},p.Nr->p.Fr x->p.Us x
 | nil,_,h=>h.elim
 | snd a b p,n,h=>h.imp id λh=>h.imp id (Nr.iO (p:=p) n)
 | rcv a y p,n,h=>h.imp id λh=>h.imp id (Nr.iO (p:=p) n)
 | tau p,n,h=>Nr.iO (p:=p) n h
 | sum p q,n,h=>Or.imp (Nr.iO n.2.1) (Nr.iO n.2.2) h
 | par p q,n,h=>Or.imp (Nr.iO n.2.1) (Nr.iO n.2.2) h
 | res y p,n,h=>And.imp id (Nr.iO (p:=p) n.2) h
 | mat a b p,n,h=> .inr ⟨n.1.1,n.1.2,h.imp id λh=>h.imp id (Nr.iO (p:=p) n.2)⟩
 | rep p,n,h=>Nr.iO (p:=p) n.2 h
def Jy {A:Type}{p:T A}{x:A}(h:p.Us x):p.dead=false:=by
 cases hd:p.dead with
 | false=>rfl
 | true=>exact absurd h (bF hd)
def Nr.tB {A:Type}:∀{p:T A},p.Nr->p.th=true->p.dead=false
 | snd ..,_,_=>rfl
 | rcv ..,_,_=>rfl
 | tau ..,_,_=>rfl
 | sum p q,n,_=>by simp [dead,n.1.1]
 | mat a b p,n,_=>n.1.2
 | rep p,n,_=>n.1
def Nr.live {A:Type}{p:T A}(n:p.Nr)(h:p≠nil):p.dead=false:=by
 cases p with
 | nil=>exact absurd rfl h
 | res x p=>exact Jy (p:=p) n.1
 | par p q=>simp [dead,n.2.1.tB n.1.1]
 | _=>exact n.tB rfl
def Nr.dK {A:Type}{p:T A}(n:p.Nr):p.dK:=by
 cases p with
 | mat a b p=>exact n.1.1
 | sum p q=>exact⟨n.1.1,n.1.2.1⟩
 | par p q=>
  refine⟨n.2.1.tB n.1.1,?_⟩;refine n.2.2.live ?_
  rintro rfl
  rcases n.1.2 with h | h<;>cases h
 | res x p=>exact n.1
 | _=>trivial
def frL:T A->List A
 | res x p=>x::p.frL
 | _=>[]
def ths:T A->List (T A)
 | nil=>[]
 | res _ p=>p.ths
 | par p q=>p::q.ths
 | t=>[t]
def mW:T A->List (T A)
 | sum p q=>p::q.mW
 | t=>[t]
def resL:List A->T A->T A
 | [],p=>p
 | x::l,p=>res x (resL l p)
def parL:List (T A)->T A
 | []=>nil
 | [t]=>t
 | t::u::l=>par t (parL (u::l))
def dL:List (T A)->T A
 | []=>nil
 | [t]=>t
 | t::u::l=>sum t (dL (u::l))
def cy {A:Type}{x:A}{p:T A}:∀{l:List A},(resL l p).Fr x↔x∉l/\p.Fr x
 | []=>by simp [resL]
 | y::l=>by simp only [resL,Fr,cy (l:=l),OY,R9];exact QN.symm
def jY {A:Type}{x:A}{p:T A}:∀{l:List A},(resL l p).Us x↔x∉l/\p.Us x
 | []=>by simp [resL]
 | y::l=>by simp only [resL,Us,jY (l:=l),OY,R9];exact QN.symm
def Co {A:Type}{p:T A}:∀{l:List A},(resL l p).frL=l++p.frL
 | []=>rfl
 | y::l=>by simp only [resL,frL,Co (l:=l),PC]
def BE {A:Type}{p:T A}:∀{l:List A},(resL l p).ths=p.ths
 | []=>rfl
 | y::l=>by simp only [resL,ths,BE (l:=l)]
def eK {A:Type}{x:A}:∀{l:List (T A)},(parL l).Fr x↔∃t∈l,t.Fr x
 | []=>by simp [parL,Fr]
 | [t]=>by simp [parL]
 | t::u::l=>by simp only [parL,Fr,eK (l:=u::l),OY,exists_eq_or_imp]
def tH {A:Type}{x:A}:∀{l:List (T A)},(parL l).Us x↔∃t∈l,t.Us x
 | []=>by simp [parL,Us]
 | [t]=>by simp [parL]
 | t::u::l=>by simp only [parL,Us,tH (l:=u::l),OY,exists_eq_or_imp]
def EZ {A:Type}{x:A}:∀{l:List (T A)},(dL l).Us x↔∃t∈l,t.Us x
 | []=>by simp [dL,Us]
 | [t]=>by simp [dL]
 | t::u::l=>by simp only [dL,Us,EZ (l:=u::l),OY,exists_eq_or_imp]
def ET {A:Type}:∀{l:List (T A)},(∀t∈l,t.th=true/\t.Nr)->(parL l).Nr/\(l≠[]->(parL l).th=true\/(parL l).isP=true)
 | [],_=>⟨trivial,λh=>absurd rfl h⟩
 | [t],h=>⟨(h t (by simp)).2,λ _=> .inl (h t (by simp)).1⟩
 | t::u::l,h=>by
  obtain⟨G,H⟩:=ET (l:=u::l) λt J=>h t (OJ _ J)
  exact⟨⟨⟨(h t (by simp)).1,H (by simp)⟩,(h t (by simp)).2,G⟩,λ _=> .inr rfl⟩
def j5 {A:Type}{t:T A}(h:t.th=true):t.ths=[t]:=by cases t<;>first | rfl | cases h
def gD {A:Type}{t:T A}(h:t.th=true):t.frL=[]:=by cases t<;>first | rfl | cases h
def Bw {A:Type}:∀{l:List (T A)},(∀t∈l,t.th=true)->(parL l).ths=l
 | [],_=>rfl
 | [t],h=>j5 (h t (by simp))
 | t::u::l,h=>by simp only [parL,ths,Bw (l:=u::l) λt G=>h t (OJ _ G)]
def IT {A:Type}:∀{l:List (T A)},(∀t∈l,t.th=true)->(parL l).frL=[]
 | [],_=>rfl
 | [t],h=>gD (h t (by simp))
 | t::u::l,h=>rfl
def DV {A:Type}{p:T A}(n:p.Nr):∀{l:List A},l.Nodup->(∀x∈l,p.Us x)->(resL l p).Nr
 | [],_,_=>n
 | x::l,G,h=>by
  have :=PB.1 G;exact⟨jY.2 ⟨this.1,h x (by simp)⟩,DV n this.2 λy H=>h y (OJ _ H)⟩
def EE {A:Type}:∀{l:List (T A)},l≠[]->(∀t∈l,t.dead=false/\t.isS=false/\t.Nr)->(dL l).Nr/\(dL l).dead=false
 | [],h,_=>absurd rfl h
 | [t],_,h=>⟨(h t (by simp)).2.2,(h t (by simp)).1⟩
 | t::u::l,_,h=>by
  obtain⟨H,J⟩:=EE (l:=u::l) (by simp) λt G=>h t (OJ _ G)
  have G:=h t (by simp);exact⟨⟨⟨G.1,J,G.2.1⟩,G.2.2,H⟩,by simp [dL,dead,G.1]⟩
def gR {A:Type}{t:T A}(h:t.isS=false):t.mW=[t]:=by cases t<;>first | rfl | cases h
def AI {A:Type}:∀{l:List (T A)},l≠[]->(∀t∈l,t.isS=false)->(dL l).mW=l
 | [],h,_=>absurd rfl h
 | [t],_,h=>gR (h t (by simp))
 | t::u::l,_,h=>by simp only [dL,mW,AI (l:=u::l) (by simp) λt G=>h t (OJ _ G)]
def BN {A:Type}:∀{p:T A},p.Nr->(p.th=true\/p.isP=true)->parL p.ths=p
 | par p q,n,_=>by
  have H:=BN n.2.2 n.1.2;have G:q.ths≠[]:=by
   rcases n.1.2 with h | h
   ·rw [j5 h];simp
   ·cases q<;>first | (cases h;done) | simp [ths]
  simp only [ths];cases e:q.ths with
  | nil=>exact absurd e G
  | cons u l=>rw [parL,<-e,H]
 | snd ..,_,_=>rfl
 | rcv ..,_,_=>rfl
 | tau ..,_,_=>rfl
 | sum ..,_,_=>rfl
 | mat ..,_,_=>rfl
 | rep ..,_,_=>rfl
 | nil,_,h=>by rcases h with h | h<;>cases h
 | res ..,_,h=>by rcases h with h | h<;>cases h
def Nr.shape {A:Type}:∀{p:T A},p.Nr->p=resL p.frL (parL p.ths)
 | res x p,n=>by
  have :=Nr.shape n.2;simp only [frL,ths,resL];rw [<-this]
 | nil,_=>rfl
 | par p q,n=>by
  have :=BN (p:=par p q) n (.inr rfl);rw [this];rfl
 | snd ..,_=>rfl
 | rcv ..,_=>rfl
 | tau ..,_=>rfl
 | sum ..,_=>rfl
 | mat ..,_=>rfl
 | rep ..,_=>rfl
def Nr.ths {A:Type}:∀{p:T A},p.Nr->∀t∈p.ths,t.th=true/\t.Nr
 | nil,_,t,h=>by cases h
 | res x p,n,t,h=>Nr.ths (p:=p) n.2 t h
 | par p q,n,t,h=>by
  rcases OY.1 h with rfl | h
  ·exact⟨n.1.1,n.2.1⟩
  ·exact Nr.ths n.2.2 t h
 | snd ..,n,t,h=>by simp [T.ths]at h;subst h;exact⟨rfl,n⟩
 | rcv ..,n,t,h=>by simp [T.ths]at h;subst h;exact⟨rfl,n⟩
 | tau ..,n,t,h=>by simp [T.ths]at h;subst h;exact⟨rfl,n⟩
 | sum ..,n,t,h=>by simp [T.ths]at h;subst h;exact⟨rfl,n⟩
 | mat ..,n,t,h=>by simp [T.ths]at h;subst h;exact⟨rfl,n⟩
 | rep ..,n,t,h=>by simp [T.ths]at h;subst h;exact⟨rfl,n⟩
def Nr.GZ {A:Type}:∀{p:T A},p.Nr->p.frL.Nodup/\∀x∈p.frL,(parL p.ths).Us x
 | res y p,n=>by
  obtain⟨H,J⟩:=Nr.GZ n.2;have hu:=n.1;rw [Nr.shape n.2]at hu;have hu:=jY.1 hu;refine⟨PB.2 ⟨hu.1,H⟩,λx G=>?_⟩;rcases OY.1 G with rfl | G
  ·exact hu.2
  ·exact J x G
 | nil,_=>⟨P3,λx h=>by cases h⟩
 | par ..,_=>⟨P3,λx h=>by cases h⟩
 | snd ..,_=>⟨P3,λx h=>by cases h⟩
 | rcv ..,_=>⟨P3,λx h=>by cases h⟩
 | tau ..,_=>⟨P3,λx h=>by cases h⟩
 | sum ..,_=>⟨P3,λx h=>by cases h⟩
 | mat ..,_=>⟨P3,λx h=>by cases h⟩
 | rep ..,_=>⟨P3,λx h=>by cases h⟩
end
def mY (p:P):∀l:List UInt8,(resL l p).text=wrap l p.text
 | []=>rfl
 | x::l=>by simp only [resL,text,wrap,mY p l]
def mO:∀{l:List P},l≠[]->(parL l).text=joinS 38 (l.map T.text)
 | [],h=>absurd rfl h
 | [t],_=>rfl
 | t::u::l,_=>by
  have :=mO (l:=u::l) (by simp);simp only [parL,text,O3,joinS]at this|-;rw [this]
def xC:∀{l:List P},l≠[]->(dL l).text=joinS 43 (l.map T.text)
 | [],h=>absurd rfl h
 | [t],_=>rfl
 | t::u::l,_=>by
  have :=xC (l:=u::l) (by simp);simp only [dL,text,O3,joinS]at this|-;rw [this]
end T
section
variable {A B:Type} [DecidableEq A] [DecidableEq B]
def AE.th {p:T A}{q:T B}{ρ:A->Nat}{σ:B->Nat}(h:AE ρ p σ q):p.th=q.th/\p.isS=q.isS/\p.isP=q.isP:=by
 cases p<;>cases q<;>first | exact h.elim | exact⟨rfl,rfl,rfl⟩
def fL {ρ:A->Nat}{p:T A}{x:A}{v:Nat}(h:fF ρ (.res x p))(H:∀y,p.Fr y->ρ y≠v):fF (aI ρ x v) p:=
 .aI (λy z G J h5 Z=>h y z ⟨G,h5⟩ ⟨J,Z⟩) λy _ G=>H y (T.bj G)
def Jf {p:T A}{u:T B}{ρ:A->Nat}{σ:B->Nat}{x:A}{y:B}(h:∀v,AE (aI ρ x v) p (aI σ y v) u)(hi:fF ρ (.res x p))(hj:fF σ (.res y u)):p.Us x↔u.Us y:=by
 obtain⟨v,h1,h2⟩:=cc p u ρ σ;have G:=fL hi h1;have H:=fL hj h2;constructor
 ·intro hx;obtain⟨z,J,e⟩:=(h v).used G H x hx;rw [cE]at e;unfold aI at e;split at e
  ·rename_i Z;exact Z▸J
  ·exact absurd e (h2 z (T.bj J))
 ·intro hy;obtain⟨z,J,e⟩:=(h v).symm.used H G y hy;rw [cE]at e;unfold aI at e;split at e
  ·rename_i Z;exact Z▸J
  ·exact absurd e (h1 z (T.bj J))
def fF.II {A:Type}{ρ:A->Nat}{p:T A}{a x:A}(h:fF ρ (.rcv a x p)):fF ρ (.res x p):=λy z G H=>h y z (.inr G) (.inr H)
def AE.nr:∀{p:T A} {q:T B} {ρ:A->Nat} {σ:B->Nat},AE ρ p σ q->fF ρ p->fF σ q->p.Nr->q.Nr:=by
 intro p
 induction p<;>intro q ρ σ h hi J n<;>cases q<;>simp only [AE]at h
 case nil.nil=>trivial
 case snd.snd H _ _ _=>have k:=H h.2.2 (hi.sub λx G=>Or.inr (Or.inr G)) (J.sub λx G=> .inr (.inr G)) n;exact k
 case rcv.rcv p H _ _ q=>
  obtain⟨v,h1,h2⟩:=cc p q ρ σ;have k:=H (h.2 v) (fL hi.II h1) (fL J.II h2) n;exact k
 case tau.tau H _=>have k:=H h hi J n;exact k
 case rep.rep H _=>exact⟨h.dead▸n.1,H h hi J n.2⟩
 case res.res p H _ q=>
  obtain⟨v,h1,h2⟩:=cc p q ρ σ;exact⟨(Jf h hi J).1 n.1,H (h v) (fL hi h1) (fL J h2) n.2⟩
 case mat.mat p H c d q=>
  have hd:q.dead=false:=h.2.2.dead▸n.1.2;have α:c≠d:=by
   rintro rfl
   exact n.1.1 (hi _ _ (.inr ⟨n.1.1,n.1.2,.inl rfl⟩) (.inr ⟨n.1.1,n.1.2,.inr (.inl rfl)⟩) (h.1.trans h.2.1.symm))
  exact⟨⟨α,hd⟩,H h.2.2 (hi.sub λx G=> .inr ⟨n.1.1,n.1.2,.inr (.inr G)⟩) (J.sub λx G=> .inr ⟨α,hd,.inr (.inr G)⟩) n.2⟩
 case sum.sum H Z _ _=>
  exact⟨⟨h.1.dead▸n.1.1,h.2.dead▸n.1.2.1,h.1.th.2.1▸n.1.2.2⟩,H h.1 (hi.sub λx G=> .inl G) (J.sub λx G=> .inl G) n.2.1,Z h.2 (hi.sub λx G=> .inr G) (J.sub λx G=> .inr G) n.2.2⟩
 case par.par H Z _ _=>
  exact⟨⟨h.1.th.1▸n.1.1,n.1.2.imp (λk=>h.2.th.1▸k) (λk=>h.2.th.2.2▸k)⟩,H h.1 (hi.sub λx G=> .inl G) (J.sub λx G=> .inl G) n.2.1,Z h.2 (hi.sub λx G=> .inr G) (J.sub λx G=> .inr G) n.2.2⟩
end
def fE {u:U}(n:u.Nr)(h:u.th=true):an u=([],[u]):=by
 cases u<;>first | (cases h;done) | rfl | skip
 case sum p q=>simp [an,n.1.1,n.1.2.1]
 case mat a b p=>simp [an,n.1.1,n.1.2]
 case rep p=>simp [an,n.1]
def Dd:∀{u:U},Uq u->u.Nr->an u=(u.frL,u.ths)
 | .nil,_,_=>rfl
 | .res x p,hu,n=>by
  have :=Dd hu.res n.2;have h:(td p).2.has x=true:=(gL p x hu.gI).2 n.1;simp [an,h,this,T.frL,T.ths]
 | .par p q,hu,n=>by
  have G:=Dd hu.ga n.2.2;have H:q.frL=[]:=by
   rcases n.1.2 with h | h
   ·exact T.gD h
   ·cases q<;>first | (cases h;done) | rfl
  simp [an,G,fE n.2.1 n.1.1,T.frL,T.ths,H]
 | .snd ..,_,n=>fE n rfl
 | .rcv ..,_,n=>fE n rfl
 | .tau ..,_,n=>fE n rfl
 | .sum ..,_,n=>fE n rfl
 | .mat ..,_,n=>fE n rfl
 | .rep ..,_,n=>fE n rfl
def fB {u:U}(H:u.dK)(hd:u.dead=false)(Z:∀p q,u≠ .sum p q)(hu:Uq u):ax u=[u]:=by
 cases u with
 | nil=>cases hd
 | snd=>rfl
 | rcv=>rfl
 | tau=>rfl
 | sum p q=>exact absurd rfl (Z p q)
 | par p q=>
  have J:p.dead=false:=H.1;have G:q.dead=false:=H.2;simp [ax,J,G]
 | res x p=>
  have:(td p).2.has x=true:=(gL p x hu.gI).2 H;simp [ax,this]
 | mat a b p=>
  have J:a≠b:=H;have G:p.dead=false:=hd;simp [ax,J,G]
 | rep p=>
  have G:p.dead=false:=hd;simp [ax,G]
def eO:∀{u:U},Uq u->u.Nr->u.dead=false->ax u=u.mW
 | .nil,_,_,h=>by cases h
 | .sum p q,hu,n,_=>by
  have G:=eO hu.eJ n.2.1 n.1.1;have H:=eO hu.dX n.2.2 n.1.2.1;simp only [ax,T.mW,G,H,T.gR n.1.2.2];rfl
 | .res x p,hu,n,h=>fB n.dK h (λ _ _ e=>by cases e) hu
 | .par ..,hu,n,h=>fB n.dK h (λ _ _ e=>by cases e) hu
 | .snd ..,hu,n,h=>fB n.dK h (λ _ _ e=>by cases e) hu
 | .rcv ..,hu,n,h=>fB n.dK h (λ _ _ e=>by cases e) hu
 | .tau ..,hu,n,h=>fB n.dK h (λ _ _ e=>by cases e) hu
 | .mat ..,hu,n,h=>fB n.dK h (λ _ _ e=>by cases e) hu
 | .rep ..,hu,n,h=>fB n.dK h (λ _ _ e=>by cases e) hu
namespace Lv
def map (f:Nat->Nat):Lv->Lv
 | nil=>nil
 | thr k a b o r n=>thr k (if k= .t\/k= .p then a else f a) (if k= .t\/k= .p then b else f b) (o.map f) (r.map f) (n.map f)
 | sum ps n=>sum (ps.map f) (n.map f)
 | part o q n=>part (o.map f) (q.map f) (n.map f)
def Al (D:Nat->Prop):Lv->Prop
 | nil=>True
 | thr k a b o r n=>(k= .t\/k= .p\/(D a/\D b))/\(∀x∈o,D x)/\r.Al D/\n.Al D
 | sum ps n=>ps.Al D/\n.Al D
 | part o q n=>(∀x∈o,D x)/\q.Al D/\n.Al D
def e9 (f:Nat->Nat):∀l m:Lv,(l.app m).map f=(l.map f).app (m.map f)
 | nil,m=>rfl
 | thr k a b o r n,m=>by simp only [app,map,e9 f n m]
 | sum ps n,m=>by simp only [app,map,e9 f n m]
 | part o q n,m=>by simp only [app,map,e9 f n m]
def oF {D:Nat->Prop}:∀{l m:Lv},(l.app m).Al D↔l.Al D/\m.Al D
 | nil,m=>by simp [app,Al]
 | thr k a b o r n,m=>by simp only [app,Al,oF (l:=n),QN]
 | sum ps n,m=>by simp only [app,Al,oF (l:=n),QN]
 | part o q n,m=>by simp only [app,Al,oF (l:=n),QN]
def mU (f:Nat->Nat)(l:Lv):(l.map f).isNil=l.isNil:=by cases l<;>rfl
def mT {D E:Nat->Prop}(h:∀x,D x->E x):∀{l:Lv},l.Al D->l.Al E
 | nil,_=>trivial
 | thr k a b o r n,⟨G,H,J,h4⟩=>⟨G.imp id λG=>G.imp id λG=>⟨h _ G.1,h _ G.2⟩,λx Z=>h x (H x Z),mT h J,mT h h4⟩
 | sum ps n,⟨G,H⟩=>⟨mT h G,mT h H⟩
 | part o q n,⟨G,H,J⟩=>⟨λx Z=>h x (G x Z),mT h H,mT h J⟩
section
variable {D:Nat->Prop} {f:Nat->Nat}
def mK (G:∀x y,D x->D y->f x=f y->x=y){x y:Nat}(H:D x)(J:D y):(f x==f y)=(x==y):=by
 rw [PG,QY,QY];exact⟨G x y H J,λh=>by rw [h]⟩
def kG (G:∀x y,D x->D y->f x=f y->x=y){x:Nat}(H:D x):∀{l:Lv},l.Al D->(l.map f).has (f x)=l.has x
 | nil,_=>rfl
 | thr k a b o r n,⟨J,Z,h3,h4⟩=>by
  simp only [map,has,kG G H h3,kG G H h4];cases k with
  | t=>rfl
  | p=>rfl
  | s=>simp at J;simp [mK G J.1 H,mK G J.2 H]
  | m=>simp at J;simp [mK G J.1 H,mK G J.2 H]
  | r=>simp at J;simp [mK G J.1 H,mK G J.2 H]
 | sum ps n,⟨J,Z⟩=>by simp only [map,has,kG G H J,kG G H Z]
 | part o q n,⟨J,Z,h3⟩=>by simp only [map,has,kG G H Z,kG G H h3]
abbrev cu (f:Nat->Nat)(r:List Nat×Lv):List Nat×Lv:=(r.1.map f,r.2.map f)
abbrev ME (D:Nat->Prop)(r:List Nat×Lv):Prop:=(∀x∈r.1,D x)/\r.2.Al D
def uJ (J:∀x y,D x->D y->f x=f y->x=y){own:List Nat}{r:List Nat×Lv}(H:∀x∈own,D x)(hr:ME D r):kept (own.map f) (cu f r)=cu f (kept own r)/\ME D (kept own r):=by
 constructor
 ·unfold kept cu;refine Prod.ext ?_ rfl;simp only [<-Pm,List.filter_map]
  congr 1
  refine Rz λx G=>?_
  exact kG J ((OH.1 G).elim (H x) (hr.1 x)) hr.2
 ·refine⟨λx G=>?_,hr.2⟩;simp only [kept,QE,OH]at G;exact G.1.elim (H x) (hr.1 x)
def Kl (ps:Lv)(n:List Nat×Lv):spl (ps.map f) (cu f n)=cu f (spl ps n):=by
 unfold spl;cases ps with
 | nil=>rfl
 | thr=>rfl
 | sum=>rfl
 | part o q m=>
  cases m<;>simp [map,cu,e9]
def LN {ps:Lv}{n:List Nat×Lv}(h:ps.Al D)(G:ME D n):ME D (spl ps n):=by
 unfold spl;split
 ·exact G
 ·exact⟨λx H=>(OH.1 H).elim (h.1 x) (G.1 x),oF.2 ⟨h.2.1,G.2⟩⟩
 ·exact⟨G.1,h,G.2⟩
def KA (o:List Nat)(q n:Lv):prt (o.map f) (q.map f) (n.map f)=(prt o q n).map f:=by
 unfold prt;cases q with
 | nil=>rfl
 | thr=>rfl
 | part=>rfl
 | sum ps m=>
  cases m<;>simp only [map]
  by_cases h:o.isEmpty=true
  ·have G:(o.map f).isEmpty=true:=by simpa using h
   rw [O' h,O' G,e9]
  ·have G:¬(o.map f).isEmpty=true:=by simpa using h
   rw [OP h,OP G];simp [map]
def Lr {o:List Nat}{q n:Lv}(J:∀x∈o,D x)(H:q.Al D)(G:n.Al D):(prt o q n).Al D:=by
 unfold prt;split
 ·exact G
 ·split
  ·exact oF.2 ⟨H.1,G⟩
  ·exact⟨J,H,G⟩
 ·exact⟨J,H,G⟩
def kC (G:∀x y,D x->D y->f x=f y->x=y):∀{l:Lv},l.Al D->tid (l.map f)=cu f (tid l)/\ME D (tid l)
 | nil,_=>⟨rfl,⟨λx h=>(by cases h),trivial⟩⟩
 | sum ps n,⟨H,J⟩=>by
  obtain⟨Z,a2⟩:=kC G H;obtain⟨b1,b2⟩:=kC G J;simp only [map,tid];rw [Z,b1];exact⟨Kl _ _,LN a2.2 b2⟩
 | part o q n,⟨H,J,h3⟩=>by
  obtain⟨Z,a2⟩:=kC G J;obtain⟨b1,b2⟩:=kC G h3;obtain⟨c1,c2⟩:=uJ G H a2;simp only [map,tid];rw [Z,b1,c1];exact⟨Prod.ext rfl (KA _ _ _),⟨λx h=>(by cases h),Lr c2.1 c2.2 b2.2⟩⟩
 | thr k a b o r n,⟨H,J,h3,h4⟩=>by
  obtain⟨Z,a2⟩:=kC G h3;obtain⟨b1,b2⟩:=kC G h4;obtain⟨c1,c2⟩:=uJ G J a2;simp only [map,tid];rw [Z,b1,c1];have e1:(k= .m/\(if k= .t\/k= .p then a else f a)=(if k= .t\/k= .p then b else f b))↔(k= .m/\a=b):=by
   refine and_congr_right λhk=>?_
   subst hk;simp at H|-;exact⟨G a b H.1 H.2,λh=>by rw [h]⟩
  have e2:((cu f (kept o (tid r))).2.isNil)=(kept o (tid r)).2.isNil:=mU _ _;by_cases g1:k= .m/\a=b
  ·rw [O' (e1.2 g1),O' g1];exact⟨by simp [cu,e9],⟨λx hx=>(OH.1 hx).elim (c2.1 x) (b2.1 x),oF.2 ⟨c2.2,b2.2⟩⟩⟩
  ·rw [OP λh=>g1 (e1.1 h),OP g1,e2];split
   ·exact⟨rfl,b2⟩
   ·exact⟨rfl,⟨b2.1,⟨H,c2.1,c2.2,b2.2⟩⟩⟩
end
end Lv
def xy {α β:Type}(f:α->β):∀l:List α,perms (l.map f)=(perms l).map (List.map f)
 | []=>rfl
 | x::l=>by
  have hi:∀(x:α) (l:List α),ins (f x) (l.map f)=(ins x l).map (List.map f):=by
   intro x l
   induction l with
   | nil=>rfl
   | cons y l G=>simp only [O3,ins,G,PZ];rfl
  simp only [O3,perms,xy f l,RL,List.map_flatMap]
  congr 1
  funext m
  exact hi x m
def Ee {f:Nat->Nat}{ρ ρ':Rh}{x:Nat}:∀(π:List Nat) (ls:List UInt8) (ρ ρ':Rh),(∀y∈π,f x=f y->x=y)->ρ (f x)=ρ' x->asg (π.map f) ls ρ (f x)=asg π ls ρ' x
 | [],_,_,_,_,h=>by simpa [asg]using h
 | _::_,[],_,_,_,h=>by simpa [asg]using h
 | y::π,c::ls,ρ,ρ',hi,h=>by
  rw [O3,asg,asg];refine Ee (ρ:=ρ) (ρ':=ρ') π ls _ _ (λz G=>hi z (OJ _ G)) ?_;unfold aI;by_cases e:x=y
  ·subst e;simp
  ·rw [OP e,OP λH=>e (hi y (Pb ..) H),h]
def oQ {D:Nat->Prop}{f:Nat->Nat}(hf:∀x y,D x->D y->f x=f y->x=y){own:List Nat}{F G:Rh->Tk->List Tx}{H:Nat->Prop}(ho:∀x∈own,D x)(hH:∀x,H x->D x)
  (Z:∀ρ ρ' tk,(∀x,H x->ρ (f x)=ρ' x)->F ρ tk=G ρ' tk) {ρ ρ':Rh} {tk:Tk} (h:∀x,H x->ρ (f x)=ρ' x):aV (own.map f) F ρ tk=aV own G ρ' tk:=by
 unfold aV;rw [Z ρ ρ' tk h,xy,OM];split
 ·rfl
 ·show wrap _ (bJ _)=wrap _ (bJ _);rw [PZ]
  congr 2
  refine PX λπ J=>?_
  show joinS 38 (aK (F _ _))=_;rw [Z _ (asg π (lets own.length tk) ρ') _ λx hx=>Ee (ρ:=ρ) (ρ':=ρ') π _ _ _ (λy hy e=>hf x y (hH x hx) (ho y (((da own π).1 J).subset hy)) e) (h x hx)]
def je {D:Nat->Prop}{x:Nat}:∀{l:Lv},l.Al D->l.has x=true->D x
 | .nil,_,h=>by cases h
 | .thr k a b o r n,⟨G,H,J,h4⟩,h=>by
  simp only [Lv.has,P0]at h;rcases h with(h | h) | h
  ·cases k<;>simp at h G
   ·rcases h with rfl | rfl
    ·exact G.1
    ·exact G.2
   ·rcases h with rfl | rfl
    ·exact G.1
    ·exact G.2
   ·rcases h with rfl | rfl
    ·exact G.1
    ·exact G.2
  ·exact je J h
  ·exact je h4 h
 | .sum ps n,⟨G,H⟩,h=>by
  simp only [Lv.has,P0]at h;exact h.elim (je G) (je H)
 | .part o q n,⟨G,H,J⟩,h=>by
  simp only [Lv.has,P0]at h;exact h.elim (je H) (je J)
def ky {D:Nat->Prop}{f:Nat->Nat}(J:∀x y,D x->D y->f x=f y->x=y):∀{l:Lv},l.Al D->∀(ρ ρ':Rh) (tk:Tk),(∀x,l.has x=true->ρ (f x)=ρ' x)->thS (l.map f) ρ tk=thS l ρ' tk
 | .nil,_,_,_,_,_=>rfl
 | .thr k a b o r n,⟨Z,h2,h3,h4⟩,ρ,ρ',tk,h=>by
  have hn:thS (n.map f) ρ tk=thS n ρ' tk:=ky J h4 ρ ρ' tk λx G=>h x (by simp [Lv.has,G])
  have H:∀x,r.has x=true->ρ (f x)=ρ' x:=λx G=>h x (by simp [Lv.has,G])
  have hl:∀ρ ρ' tk,(∀x,r.has x=true->ρ (f x)=ρ' x)->aV (o.map f) (thS (r.map f)) ρ tk=aV o (thS r) ρ' tk:=λρ ρ' tk h=>
   oQ J h2 (λx G=>je h3 G) (λρ ρ' tk=>ky J h3 ρ ρ' tk) h
  cases k with
  | s=>
   have ha:=h a (by simp [Lv.has]);have hb:=h b (by simp [Lv.has]);simp [Lv.map,thS,hn,hl ρ ρ' tk H,ha,hb]
  | m=>
   have ha:=h a (by simp [Lv.has]);have hb:=h b (by simp [Lv.has]);simp [Lv.map,thS,hn,hl ρ ρ' tk H,ha,hb]
  | t=>simp [Lv.map,thS,kText,hn,hl ρ ρ' tk H]
  | p=>simp [Lv.map,thS,kText,hn,hl ρ ρ' tk H]
  | r=>
   have ha:=h a (by simp [Lv.has]);simp at Z;have hu:∀x,r.has x=true->aI ρ (f b) (jc tk) (f x)=aI ρ' b (jc tk) x:=λx G=>by
    unfold aI;by_cases e:x=b
    ·subst e;simp
    ·rw [OP e,OP λh'=>e (J x b (je h3 G) Z.2 h')];exact H x G
   simp [Lv.map,thS,hn,hl _ _ _ hu,ha]
 | .sum ps n,⟨Z,h2⟩,ρ,ρ',tk,h=>by
  simp only [Lv.map,thS,ky J Z ρ ρ' tk λx G=>h x (by simp [Lv.has,G]),ky J h2 ρ ρ' tk λx G=>h x (by simp [Lv.has,G])]
 | .part o q n,⟨Z,h2,h3⟩,ρ,ρ',tk,h=>by
  simp only [Lv.map,thS,ky J h3 ρ ρ' tk λx G=>h x (by simp [Lv.has,G])];rw [oQ J Z (λx G=>je h2 G) (λρ ρ' tk=>ky J h2 ρ ρ' tk) λx G=>h x (by simp [Lv.has,G])]
def fQ (f:Nat->Nat):∀(l:Lv) (tk:Tk),thBad (l.map f) tk=thBad l tk
 | .nil,_=>rfl
 | .thr k a b o r n,tk=>by
  have hr:thBad (r.map f)=thBad r:=funext λtk=>fQ f r tk
  simp only [Lv.map,thBad,fQ f n,Lv.mU,OM,hr]
 | .sum ps n,tk=>by simp only [Lv.map,thBad,fQ f n,fQ f ps]
 | .part o q n,tk=>by
  have hr:thBad (q.map f)=thBad q:=funext λtk=>fQ f q tk
  simp only [Lv.map,thBad,fQ f n,Lv.mU,OM,hr]
def fM (f:Nat->Nat):∀l:Lv,thAll (l.map f)=thAll l
 | .nil=>rfl
 | .thr k a b o r n=>by simp only [Lv.map,thAll,fM f n,fM f r,OM]
 | .sum ps n=>by simp only [Lv.map,thAll,fM f n,fM f ps]
 | .part o q n=>by simp only [Lv.map,thAll,fM f n,fM f q,OM]
def en (f:Nat->Nat):∀l:Lv,ay (l.map f)=ay l
 | .nil=>rfl
 | .thr k a b o r n=>by simp only [Lv.map,ay,en f n,en f r,OM]
 | .sum ps n=>by simp only [Lv.map,ay,en f n,en f ps]
 | .part o q n=>by simp only [Lv.map,ay,en f n,en f q,OM]
def T.Al {A:Type}(D:A->Prop):T A->Prop
 | .nil=>True
 | .snd a b p=>D a/\D b/\p.Al D
 | .rcv a b p=>D a/\D b/\p.Al D
 | .mat a b p=>D a/\D b/\p.Al D
 | .tau p=>p.Al D
 | .rep p=>p.Al D
 | .sum p q=>p.Al D/\q.Al D
 | .par p q=>p.Al D/\q.Al D
 | .res x p=>D x/\p.Al D
def cA (f:Nat->Nat):∀u:U,flat (u.map f)=Lv.cu f (flat u)
 | .nil=>rfl
 | .snd a b p=>by simp [T.map,flat,cA f p,Lv.cu,Lv.map]
 | .rcv a b p=>by simp [T.map,flat,cA f p,Lv.cu,Lv.map]
 | .mat a b p=>by simp [T.map,flat,cA f p,Lv.cu,Lv.map]
 | .tau p=>by simp [T.map,flat,cA f p,Lv.cu,Lv.map]
 | .rep p=>by simp [T.map,flat,cA f p,Lv.cu,Lv.map]
 | .sum p q=>by simp [T.map,flat,cA f p,cA f q,Lv.cu,Lv.map]
 | .par p q=>by simp [T.map,flat,cA f p,cA f q,Lv.cu,Lv.e9]
 | .res x p=>by simp [T.map,flat,cA f p,Lv.cu]
def bM {D:Nat->Prop}:∀{u:U},u.Al D->Lv.ME D (flat u)
 | .nil,_=>⟨λx h=>(by cases h),trivial⟩
 | .snd a b p,⟨G,H,h⟩=>⟨λx h=>(by simp [flat]at h),⟨.inr (.inr ⟨G,H⟩),(bM h).1,(bM h).2,trivial⟩⟩
 | .rcv a b p,⟨G,H,h⟩=>⟨λx h=>(by simp [flat]at h),⟨.inr (.inr ⟨G,H⟩),(bM h).1,(bM h).2,trivial⟩⟩
 | .mat a b p,⟨G,H,h⟩=>⟨λx h=>(by simp [flat]at h),⟨.inr (.inr ⟨G,H⟩),(bM h).1,(bM h).2,trivial⟩⟩
 | .tau p,h=>⟨λx h=>(by simp [flat]at h),⟨.inl rfl,(bM (u:=p) h).1,(bM (u:=p) h).2,trivial⟩⟩
 | .rep p,h=>⟨λx h=>(by simp [flat]at h),⟨.inr (.inl rfl),(bM (u:=p) h).1,(bM (u:=p) h).2,trivial⟩⟩
 | .sum p q,⟨G,H⟩=>⟨λx h=>(by simp [flat]at h),⟨(bM G).1,(bM G).2,(bM H).1,(bM H).2,trivial⟩,trivial⟩
 | .par p q,⟨G,H⟩=>⟨λx h=>by
   simp only [flat,OH]at h;exact h.elim ((bM G).1 x) ((bM H).1 x),Lv.oF.2 ⟨(bM G).2,(bM H).2⟩⟩
 | .res x p,⟨G,h⟩=>⟨λy J=>by
   simp only [flat,OY]at J;rcases J with rfl | J
   ·exact G
   ·exact(bM h).1 y J,(bM h).2⟩
def ID {D:Nat->Prop}{f:Nat->Nat}(G:∀x y,D x->D y->f x=f y->x=y){u:U}(h:u.Al D):td (u.map f)=Lv.cu f (td u)/\Lv.ME D (td u):=by
 unfold td Lv.tidy;have H:=bM h;obtain⟨J,Z⟩:=Lv.kC G H.2;rw [cA];show Lv.kept ((flat u).1.map f) (Lv.tid ((flat u).2.map f))=_/\_;rw [J];exact Lv.uJ G H.1 Z
def LO {D:Nat->Prop}{f:Nat->Nat}(G:∀x y,D x->D y->f x=f y->x=y){u:U}(h:u.Al D)(ρ:Rh)(tk:Tk):LS (u.map f) ρ tk=LS u (λx=>ρ (f x)) tk:=by
 obtain⟨J,H⟩:=ID G h;unfold LS;rw [J];exact oQ G H.1 (λx Z=>je H.2 Z) (λρ ρ' tk=>ky G H.2 ρ ρ' tk) λx _=>rfl
def He {D:Nat->Prop}{f:Nat->Nat}(G:∀x y,D x->D y->f x=f y->x=y){u:U}(h:u.Al D):dF (u.map f)=dF u/\cT (u.map f)=cT u/\bc (u.map f)=bc u:=by
 obtain⟨H,J⟩:=ID G h;unfold dF cT bc;rw [H];have hr:thBad ((td u).2.map f)=thBad (td u).2:=funext λtk=>fQ f _ tk
 simp [Lv.cu,Lv.mU,fM,en,hr]
def zL (Q:U->Prop)(Z:∀p q,Q (.sum p q)->Q p/\Q q)(hp:∀p q,Q (.par p q)->Q p/\Q q)(hr:∀x p,Q (.res x p)->Q p)(hm:∀a b p,Q (.mat a b p)->Q p):∀u:U,Q u->∀t∈(an u).2,Q t:=by
 intro u
 induction u with
 | nil=>intro _ t h;simp [an]at h
 | snd=>intro q t h;simp [an]at h;exact h▸q
 | rcv=>intro q t h;simp [an]at h;exact h▸q
 | tau=>intro q t h;simp [an]at h;exact h▸q
 | sum p q H J=>
  intro G t h;simp only [an]at h;split at h
  ·exact J (Z _ _ G).2 t h
  ·split at h
   ·exact H (Z _ _ G).1 t h
   ·simp at h;exact h▸G
 | par p q H J=>
  intro G t h;simp only [an,OH]at h;exact h.elim (H (hp _ _ G).1 t) (J (hp _ _ G).2 t)
 | res x p H=>intro G t h;exact H (hr _ _ G) t h
 | mat a b p H=>
  intro G t h;simp only [an]at h;split at h
  ·exact H (hm _ _ _ G) t h
  ·split at h
   ·simp at h
   ·simp at h;exact h▸G
 | rep p H=>
  intro G t h;simp only [an]at h;split at h
  ·simp at h
  ·simp at h;exact h▸G
def tZ (Q:U->Prop)(Z:∀p q,Q (.sum p q)->Q p/\Q q)(hp:∀p q,Q (.par p q)->Q p/\Q q)(hr:∀x p,Q (.res x p)->Q p)(hm:∀a b p,Q (.mat a b p)->Q p):∀u:U,Q u->∀t∈ax u,Q t:=by
 intro u
 induction u with
 | nil=>intro _ t h;simp [ax]at h
 | snd=>intro q t h;simp [ax]at h;exact h▸q
 | rcv=>intro q t h;simp [ax]at h;exact h▸q
 | tau=>intro q t h;simp [ax]at h;exact h▸q
 | par p q H J=>
  intro G t h;simp only [ax]at h;split at h
  ·exact J (hp _ _ G).2 t h
  ·split at h
   ·exact H (hp _ _ G).1 t h
   ·simp at h;exact h▸G
 | sum p q H J=>
  intro G t h;simp only [ax,OH]at h;exact h.elim (H (Z _ _ G).1 t) (J (Z _ _ G).2 t)
 | res x p H=>
  intro G t h;simp only [ax]at h;split at h
  ·simp at h;exact h▸G
  ·exact H (hr _ _ G) t h
 | mat a b p H=>
  intro G t h;simp only [ax]at h;split at h
  ·exact H (hm _ _ _ G) t h
  ·split at h
   ·simp at h
   ·simp at h;exact h▸G
 | rep p H=>
  intro G t h;simp only [ax]at h;split at h
  ·simp at h
  ·simp at h;exact h▸G
def IQ {u:U}(h:Uq u):∀t∈(an u).2,Uq t:=
 zL Uq (λ _ _ h=>⟨h.eJ,h.dX⟩) (λ _ _ h=>⟨h.gP,h.ga⟩) (λ _ _ h=>h.res) (λ _ _ _ h=>h.mat) u h
def za {u:U}(h:Uq u):∀t∈ax u,Uq t:=
 tZ Uq (λ _ _ h=>⟨h.eJ,h.dX⟩) (λ _ _ h=>⟨h.gP,h.ga⟩) (λ _ _ h=>h.res) (λ _ _ _ h=>h.mat) u h
def CN (u:U):∀t∈(an u).2,t.size<=u.size:=
 zL (λt=>t.size<=u.size) (λ _ _ h=>by simp only [T.size]at h;omega) (λ _ _ h=>by simp only [T.size]at h;omega) (λ _ _ h=>by simp only [T.size]at h;omega) (λ _ _ _ h=>by simp only [T.size]at h;omega) u (OB _)
def mR (u:U):∀t∈ax u,t.size<=u.size:=
 tZ (λt=>t.size<=u.size) (λ _ _ h=>by simp only [T.size]at h;omega) (λ _ _ h=>by simp only [T.size]at h;omega) (λ _ _ h=>by simp only [T.size]at h;omega) (λ _ _ _ h=>by simp only [T.size]at h;omega) u (OB _)
def Em (u:U):∀t∈(an u).2,∀x∈BV t,x∈BV u:=
 zL (λt=>∀x∈BV t,x∈BV u) (λ _ _ h=>⟨λx G=>h x (O9 _ G),λx G=>h x (O0 _ G)⟩)
  (λ _ _ h=>⟨λx G=>h x (O9 _ G),λx G=>h x (O0 _ G)⟩) (λ _ _ h=>λx G=>h x (OJ _ G)) (λ _ _ _ h=>h) u (λx h=>h)
def BL (u:U):∀t∈ax u,∀x∈BV t,x∈BV u:=
 tZ (λt=>∀x∈BV t,x∈BV u) (λ _ _ h=>⟨λx G=>h x (O9 _ G),λx G=>h x (O0 _ G)⟩)
  (λ _ _ h=>⟨λx G=>h x (O9 _ G),λx G=>h x (O0 _ G)⟩) (λ _ _ h=>λx G=>h x (OJ _ G)) (λ _ _ _ h=>h) u (λx h=>h)
def mu:∀(u:U),Uq u->∀y,u.Us y↔∃t∈ax u,t.Us y:=by
 intro u
 induction u with
 | nil=>intro _ y;simp [ax,T.Us]
 | snd=>intro _ y;simp [ax]
 | rcv=>intro _ y;simp [ax]
 | tau=>intro _ y;simp [ax]
 | sum p q G H=>
  intro h y;have:(T.sum p q).Us y↔p.Us y\/q.Us y:=Rx;rw [this,G h.eJ y,H h.dX y];simp only [ax,OH];constructor
  ·rintro(⟨t,J,Z⟩ | ⟨t,J,Z⟩)
   ·exact⟨t,.inl J,Z⟩
   ·exact⟨t,.inr J,Z⟩
  ·rintro⟨t,J | J,Z⟩
   ·exact .inl ⟨t,J,Z⟩
   ·exact .inr ⟨t,J,Z⟩
 | par p q G H=>
  intro h y;have e:(T.par p q).Us y↔p.Us y\/q.Us y:=Rx;simp only [ax];split
  ·rename_i hd;rw [e,<-H h.ga y];exact⟨λk=>k.resolve_left (T.bF hd),.inr⟩
  ·split
   ·rename_i hd;rw [e,<-G h.gP y];exact⟨λk=>k.resolve_right (T.bF hd),.inl⟩
   ·simp
 | res x p G=>
  intro h y;simp only [ax];split
  ·simp
  ·rename_i hx;rw [<-G h.res y];have hn:¬p.Us x:=λk=>hx ((gL p x h.gI).2 k)
   exact⟨λk=>k.2,λk=>⟨λe=>hn (e▸k),k⟩⟩
 | mat a b p G=>
  intro h y;simp only [ax];split
  ·rename_i e;rw [<-G h.mat y];simp [T.Us,e]
  ·rename_i e;split
   ·rename_i hd;simp [T.Us,e,hd]
   ·simp
 | rep p G=>
  intro h y;simp only [ax];split
  ·rename_i hd;simp [T.Us];exact T.bF hd
  ·simp
def Lv.fh (x:Nat):Lv->Prop
 | nil=>False
 | thr k a b o r n=>((k= .s\/k= .m)/\(x=a\/x=b))\/(k= .r/\x=a)\/(x∉o/\¬(k= .r/\x=b)/\r.fh x)\/n.fh x
 | sum ps n=>ps.fh x\/n.fh x
 | part o q n=>(x∉o/\q.fh x)\/n.fh x
def yG:∀(π:List Nat) (ls:List UInt8) (ρ ρ':Rh) (x:Nat),x∈π->π.length=ls.length->asg π ls ρ x=asg π ls ρ' x
 | [],_,_,_,_,h,_=>by cases h
 | _::_,[],_,_,_,_,h=>by cases h
 | y::π,c::ls,ρ,ρ',x,h,H=>by
  rw [asg,asg];by_cases G:x∈π
  ·exact yG π ls _ _ x G (by simpa using H)
  ·have e:x=y:=(OY.1 h).resolve_right G;subst e;exact fu π ls _ _ x (by simp [aI])
def eG {own:List Nat}{f:Rh->Tk->List Tx}{H:Nat->Prop}(he:∀ρ ρ' tk,(f ρ tk).isEmpty=(f ρ' tk).isEmpty)(Z:∀ρ ρ' tk,(∀x,H x->ρ x=ρ' x)->f ρ tk=f ρ' tk)
  {ρ ρ':Rh} {tk:Tk} (h:∀x,x∉own->H x->ρ x=ρ' x):aV own f ρ tk=aV own f ρ' tk:=by
 unfold aV;rw [he ρ ρ' tk];split
 ·rfl
 ·show wrap _ (bJ _)=wrap _ (bJ _)
  congr 2
  refine PX λπ G=>?_
  have J:=(da own π).1 G;rw [Z _ (asg π (lets own.length tk) ρ') _ λx hx=>?_];by_cases hm:x∈own
  ·exact yG π _ _ _ x (J.symm.subset hm) (by rw [gd,J.length_eq])
  ·exact fu π _ _ _ x (h x hm hx)
def iM (l:Lv)(ρ ρ':Rh)(tk:Tk):(thS l ρ tk).isEmpty=(thS l ρ' tk).isEmpty:=by
 rw [PG,RH,RH,<-List.length_eq_zero_iff,<-List.length_eq_zero_iff,bD,bD]
def uF:∀(l:Lv) (ρ ρ':Rh) (tk:Tk),(∀x,l.fh x->ρ x=ρ' x)->thS l ρ tk=thS l ρ' tk:=by
 intro l
 induction l with
 | nil=>intro _ _ _ _;rfl
 | thr k a b o r n J Z=>
  intro ρ ρ' tk h;have hn:thS n ρ tk=thS n ρ' tk:=Z ρ ρ' tk λx H=>h x (.inr (.inr (.inr H)))
  cases k with
  | r=>
   have ha:=h a (.inr (.inl ⟨rfl,rfl⟩));simp only [thS,ha,hn];rw [eG (ρ:=aI ρ b (jc tk)) (ρ':=aI ρ' b (jc tk)) (iM r) J λx H G=>?_];unfold aI;split
   ·rfl
   ·rename_i e;exact h x (.inr (.inr (.inl ⟨H,λhh=>e hh.2,G⟩)))
  | s=>
   have ha:=h a (.inl ⟨.inl rfl,.inl rfl⟩);have hb:=h b (.inl ⟨.inl rfl,.inr rfl⟩);simp only [thS,ha,hb,hn];rw [eG (ρ:=ρ) (ρ':=ρ') (iM r) J λx H G=>h x (.inr (.inr (.inl ⟨H,(λhh=>by cases hh.1),G⟩)))]
  | m=>
   have ha:=h a (.inl ⟨.inr rfl,.inl rfl⟩);have hb:=h b (.inl ⟨.inr rfl,.inr rfl⟩);simp only [thS,ha,hb,hn];rw [eG (ρ:=ρ) (ρ':=ρ') (iM r) J λx H G=>h x (.inr (.inr (.inl ⟨H,(λhh=>by cases hh.1),G⟩)))]
  | t=>
   simp only [thS,kText,hn];rw [eG (ρ:=ρ) (ρ':=ρ') (iM r) J λx H G=>h x (.inr (.inr (.inl ⟨H,(λhh=>by cases hh.1),G⟩)))]
  | p=>
   simp only [thS,kText,hn];rw [eG (ρ:=ρ) (ρ':=ρ') (iM r) J λx H G=>h x (.inr (.inr (.inl ⟨H,(λhh=>by cases hh.1),G⟩)))]
 | sum ps n α Z=>
  intro ρ ρ' tk h;simp only [thS,α ρ ρ' tk λx H=>h x (.inl H),Z ρ ρ' tk λx H=>h x (.inr H)]
 | part o q n β Z=>
  intro ρ ρ' tk h;simp only [thS,Z ρ ρ' tk λx H=>h x (.inr H)];rw [eG (ρ:=ρ) (ρ':=ρ') (iM q) β λx H G=>h x (.inl ⟨H,G⟩)]
def rK (x:Nat):∀l m:Lv,(l.app m).fh x↔l.fh x\/m.fh x
 | .nil,m=>by simp [Lv.app,Lv.fh]
 | .thr k a b o r n,m=>by simp only [Lv.app,Lv.fh,rK x n m,RT]
 | .sum ps n,m=>by simp only [Lv.app,Lv.fh,rK x n m,RT]
 | .part o q n,m=>by simp only [Lv.app,Lv.fh,rK x n m,RT]
def K8 (x:Nat):∀l:List U,(tl l).fh x↔∃t∈l,(tl [t]).fh x
 | []=>by simp [tl,Lv.fh]
 | u::l=>by
  have:tl (u::l)=(tl [u]).app (tl l):=eU [u] l;rw [this,rK,K8 x l];simp
def KS (x:Nat):∀l:List U,(tp l).fh x↔∃t∈l,x∉(td t).1/\(td t).2.fh x
 | []=>by simp [tp,Lv.fh]
 | u::l=>by simp [tp,Lv.fh,KS x l]
def vM:∀(u:U),∀t∈(an u).2,t.dK/\t.dead=false:=by
 intro u
 induction u with
 | nil=>intro t h;simp [an]at h
 | snd=>intro t h;simp [an]at h;subst h;exact⟨trivial,rfl⟩
 | rcv=>intro t h;simp [an]at h;subst h;exact⟨trivial,rfl⟩
 | tau=>intro t h;simp [an]at h;subst h;exact⟨trivial,rfl⟩
 | sum p q G J=>
  intro t h;simp only [an]at h;split at h
  ·exact J t h
  ·rename_i Z;split at h
   ·exact G t h
   ·rename_i H;simp at h;subst h;simp at Z H;exact⟨⟨Z,H⟩,by simp [T.dead,Z]⟩
 | par p q G J=>
  intro t h;simp only [an,OH]at h;exact h.elim (G t) (J t)
 | res x p G=>intro t h;exact G t h
 | mat a b p G=>
  intro t h;simp only [an]at h;split at h
  ·exact G t h
  ·rename_i Z;split at h
   ·simp at h
   ·rename_i H;simp at h;subst h;simp at H;exact⟨Z,H⟩
 | rep p G=>
  intro t h;simp only [an]at h;split at h
  ·simp at h
  ·rename_i H;simp at h;subst h;simp at H;exact⟨trivial,H⟩
def Ke (u:U)(a b:Nat)(p:U)(h:T.mat a b p∈(an u).2):a≠b/\p.dead=false:=vM u _ h
def By:∀(n:Nat) (u:U),u.size<=n->Uq u->∀x,(td u).2.fh x->x∉(td u).1->u.Us x:=by
 intro n
 induction n with
 | zero=>intro u h;cases u<;>simp [T.size]at h
 | succ n Z=>
  intro u hn hu x H hx;obtain⟨h1,h2,_⟩:=gK u hu;rw [h1,K8]at H;obtain⟨t,ht,H⟩:=H;have hx:x∉(an u).1:=λh=>hx (h2.symm.subset h)
  have hle:=CN u t ht;have G:=IQ hu t ht;have α:=yu u t ht;have key:t.Us x:=by
   cases t with
   | nil=>cases α
   | par=>cases α
   | res=>cases α
   | snd a b p=>
    simp only [T.size]at hle;simp only [tl,Lv.fh,reduceCtorEq,false_and,true_or,Qe,RU,Sa,RB]at H;rcases H with(h | h) | ⟨h,h'⟩
    ·exact .inl h
    ·exact .inr (.inl h)
    ·exact .inr (.inr (Z p (by omega) G.snd x h' h))
   | rcv a b p=>
    simp only [T.size]at hle;simp only [tl,Lv.fh,reduceCtorEq,false_and,or_self,Qe,RU,Sa]at H;rcases H with h | ⟨h,γ,h'⟩
    ·exact .inl h
    ·exact .inr ⟨γ,Z p (by omega) G.rcv x h' h⟩
   | tau p=>
    simp only [T.size]at hle;simp only [tl,Lv.fh,reduceCtorEq,false_and,or_self,Qe,RU,Sa,RB]at H;exact Z p (by omega) G.tau x H.2 H.1
   | rep p=>
    simp only [T.size]at hle;simp only [tl,Lv.fh,reduceCtorEq,false_and,or_self,Qe,RU,Sa,RB]at H;exact Z p (by omega) G.rep x H.2 H.1
   | mat a b p=>
    simp only [T.size]at hle;obtain⟨β,hd⟩:a≠b/\p.dead=false:=Ke u a b p ht;simp only [tl,Lv.fh,reduceCtorEq,false_and,or_true,Qe,RU,Sa,RB]at H;rcases H with(h | h) | ⟨h,h'⟩
    ·exact .inr ⟨β,hd,.inl h⟩
    ·exact .inr ⟨β,hd,.inr (.inl h)⟩
    ·exact .inr ⟨β,hd,.inr (.inr (Z p (by omega) G.mat x h' h))⟩
   | sum p q=>
    simp only [T.size]at hle;simp only [tl,Lv.fh,RU]at H;rw [KS]at H;obtain⟨v,J,k1,k2⟩:=H;rcases OH.1 J with J | J
    ·have :=mR p v J;exact .inl ((mu p G.eJ x).2 ⟨v,J,Z v (by omega) (za G.eJ v J) x k2 k1⟩)
    ·have :=mR q v J;exact .inr ((mu q G.dX x).2 ⟨v,J,Z v (by omega) (za G.dX v J) x k2 k1⟩)
  exact(lD u hu t ht x key).resolve_right hx
def MU {u:U}(hu:Uq u){ρ ρ':Rh}(tk:Tk)(h:∀y,u.Us y->ρ y=ρ' y):LS u ρ tk=LS u ρ' tk:=
 eG (iM _) (uF _) λx G H=>h x (By _ u (OB _) hu x H G)
def BC:∀(l m:List Nat),l.Nodup->l.length=m.length->∃f:Nat->Nat,m=l.map f
 | [],[],_,_=>⟨id,rfl⟩
 | [],_::_,_,h=>by cases h
 | _::_,[],_,h=>by cases h
 | x::l,y::m,G,h=>by
  have G:=PB.1 G;obtain⟨f,H⟩:=BC l m G.2 (by simpa using h);refine⟨aI f x y,?_⟩;rw [O3,H]
  congr 1
  ·simp [aI]
  ·exact PX λz J=>by
    unfold aI;rw [OP λe:z=x=>G.1 (e▸J)]
def AE.Cu:∀{u Z:U} {σ J:Nat->Nat},AE σ u J Z->(BV u).length=(BV Z).length:=by
 intro u
 induction u<;>intro Z σ J h<;>cases Z<;>simp only [AE]at h<;>simp only [BV,Ov,Oy]
 case snd.snd G _ _ _=>exact G h.2.2
 case mat.mat G _ _ _=>exact G h.2.2
 case rcv.rcv G _ _ _=>rw [G (h.2 0)]
 case res.res G _ _=>rw [G (h 0)]
 case tau.tau G _=>exact G h
 case rep.rep G _=>exact G h
 case sum.sum G H _ _=>rw [G h.1,H h.2]
 case par.par G H _ _=>rw [G h.1,H h.2]
def AE.MH {f:Nat->Nat}:∀{u u':U} {σ γ:Nat->Nat},AE σ u γ u'->Uq u'->(∀y,u.Fr y->u'.Fr (f y)/\γ (f y)=σ y)->(∀y z,u'.Fr y->u'.Fr z->γ y=γ z->y=z)->BV u'=(BV u).map f->u'=u.map f:=by
 intro u
 induction u<;>intro u' σ γ h hu Z hi hb<;>cases u'<;>simp only [AE]at h<;>simp only [T.map]
 case snd.snd a b p ih c d q=>
  have e1:c=f a:=hi _ _ (.inl rfl) (Z a (.inl rfl)).1 (by rw [(Z a (.inl rfl)).2,h.1]);have e2:d=f b:=hi _ _ (.inr (.inl rfl)) (Z b (.inr (.inl rfl))).1 (by rw [(Z b (.inr (.inl rfl))).2,h.2.1]);rw [<-e1,<-e2];rw [ih h.2.2 hu.snd (λy G=>?_) (λy z G hz=>hi y z (.inr (.inr G)) (.inr (.inr hz))) hb];obtain⟨H,J,h2⟩:=h.2.2.free y G;have :=Z y (.inr (.inr G));have e:H=f y:=hi _ _ (.inr (.inr J)) this.1 (by rw [h2,this.2]);exact⟨e▸J,this.2⟩
 case mat.mat a b p ih c d q=>
  have e1:c=f a:=hi _ _ (.inl rfl) (Z a (.inl rfl)).1 (by rw [(Z a (.inl rfl)).2,h.1]);have e2:d=f b:=hi _ _ (.inr (.inl rfl)) (Z b (.inr (.inl rfl))).1 (by rw [(Z b (.inr (.inl rfl))).2,h.2.1]);rw [<-e1,<-e2];rw [ih h.2.2 hu.mat (λy G=>?_) (λy z G hz=>hi y z (.inr (.inr G)) (.inr (.inr hz))) hb];obtain⟨H,J,h2⟩:=h.2.2.free y G;have :=Z y (.inr (.inr G));have e:H=f y:=hi _ _ (.inr (.inr J)) this.1 (by rw [h2,this.2]);exact⟨e▸J,this.2⟩
 case rcv.rcv a x p ih c z q=>
  simp only [BV,O3,Po]at hb;have e1:c=f a:=hi _ _ (.inl rfl) (Z a (.inl rfl)).1 (by rw [(Z a (.inl rfl)).2,h.1]);rw [<-e1,<-hb.1];obtain⟨v,J,h2⟩:=cc p q σ γ;have hz:¬(T.rcv c z q).Fr z:=hu.nf z (by simp [BV]);rw [ih (h.2 v) hu.rcv (λy G=>?_) (λy H G ε e=>?_) hb.2]
  ·obtain⟨H,k1,k2⟩:=(h.2 v).free y G;by_cases e:y=x
   ·subst e;rw [cE]at k2;have:H=z:=P1 λδ=>by
     rw [bE _ _ δ]at k2;exact h2 H k1 k2
    subst this;rw [<-hb.1,cE,cE];exact⟨k1,rfl⟩
   ·have α:=Z y (.inr ⟨e,G⟩);have δ:f y≠z:=λe'=>hz (e'▸α.1)
    rw [bE _ _ e]at k2|-;rw [bE _ _ δ];have β:H≠z:=λe'=>by
     rw [e',cE]at k2;exact J y G k2.symm
    rw [bE _ _ β]at k2;have e2:H=f y:=hi _ _ (.inr ⟨β,k1⟩) α.1 (by rw [k2,α.2]);exact⟨e2▸k1,α.2⟩
  ·by_cases g1:y=z<;>by_cases g2:H=z
   ·rw [g1,g2]
   ·rw [g1,cE,bE _ _ g2]at e;exact absurd e.symm (h2 H ε)
   ·rw [g2,cE,bE _ _ g1]at e;exact absurd e (h2 y G)
   ·rw [bE _ _ g1,bE _ _ g2]at e;exact hi y H (.inr ⟨g1,G⟩) (.inr ⟨g2,ε⟩) e
 case res.res x p ih z q=>
  simp only [BV,O3,Po]at hb;rw [<-hb.1];obtain⟨v,J,h2⟩:=cc p q σ γ;have hz:¬(T.res z q).Fr z:=hu.nf z (by simp [BV]);rw [ih (h v) hu.res (λy G=>?_) (λy H G ε e=>?_) hb.2]
  ·obtain⟨H,k1,k2⟩:=(h v).free y G;by_cases e:y=x
   ·subst e;rw [cE]at k2;have:H=z:=P1 λδ=>by
     rw [bE _ _ δ]at k2;exact h2 H k1 k2
    subst this;rw [<-hb.1,cE,cE];exact⟨k1,rfl⟩
   ·have α:=Z y ⟨e,G⟩;have δ:f y≠z:=λe'=>hz (e'▸α.1)
    rw [bE _ _ e]at k2|-;rw [bE _ _ δ];have β:H≠z:=λe'=>by
     rw [e',cE]at k2;exact J y G k2.symm
    rw [bE _ _ β]at k2;have e2:H=f y:=hi _ _ ⟨β,k1⟩ α.1 (by rw [k2,α.2]);exact⟨e2▸k1,α.2⟩
  ·by_cases g1:y=z<;>by_cases g2:H=z
   ·rw [g1,g2]
   ·rw [g1,cE,bE _ _ g2]at e;exact absurd e.symm (h2 H ε)
   ·rw [g2,cE,bE _ _ g1]at e;exact absurd e (h2 y G)
   ·rw [bE _ _ g1,bE _ _ g2]at e;exact hi y H ⟨g1,G⟩ ⟨g2,ε⟩ e
 case tau.tau p ih q=>rw [ih h hu.tau Z hi hb]
 case rep.rep p ih q=>rw [ih h hu.rep Z hi hb]
 case sum.sum p p' ih ζ q q'=>
  simp only [BV,Pm]at hb;obtain⟨b1,b2⟩:=List.append_inj hb (by rw [OM,h.1.Cu]);rw [ih h.1 hu.eJ (λy G=>?_) (λy z G hz=>hi y z (.inl G) (.inl hz)) b1,ζ h.2 hu.dX (λy G=>?_) (λy z G hz=>hi y z (.inr G) (.inr hz)) b2]
  ·obtain⟨H,J,h2⟩:=h.2.free y G;have :=Z y (.inr G);have e:H=f y:=hi _ _ (.inr J) this.1 (by rw [h2,this.2]);exact⟨e▸J,this.2⟩
  ·obtain⟨H,J,h2⟩:=h.1.free y G;have :=Z y (.inl G);have e:H=f y:=hi _ _ (.inl J) this.1 (by rw [h2,this.2]);exact⟨e▸J,this.2⟩
 case par.par p p' ih ζ q q'=>
  simp only [BV,Pm]at hb;obtain⟨b1,b2⟩:=List.append_inj hb (by rw [OM,h.1.Cu]);rw [ih h.1 hu.gP (λy G=>?_) (λy z G hz=>hi y z (.inl G) (.inl hz)) b1,ζ h.2 hu.ga (λy G=>?_) (λy z G hz=>hi y z (.inr G) (.inr hz)) b2]
  ·obtain⟨H,J,h2⟩:=h.2.free y G;have :=Z y (.inr G);have e:H=f y:=hi _ _ (.inr J) this.1 (by rw [h2,this.2]);exact⟨e▸J,this.2⟩
  ·obtain⟨H,J,h2⟩:=h.1.free y G;have :=Z y (.inl G);have e:H=f y:=hi _ _ (.inl J) this.1 (by rw [h2,this.2]);exact⟨e▸J,this.2⟩
def T.ln {D:Nat->Prop}:∀{u:U},(∀x,u.Fr x->D x)->(∀x∈BV u,D x)->u.Al D
 | .nil,_,_=>trivial
 | .snd a b p,h,k=>⟨h a (.inl rfl),h b (.inr (.inl rfl)),T.ln (λx G=>h x (.inr (.inr G))) k⟩
 | .mat a b p,h,k=>⟨h a (.inl rfl),h b (.inr (.inl rfl)),T.ln (λx G=>h x (.inr (.inr G))) k⟩
 | .rcv a y p,h,k=>⟨h a (.inl rfl),k y (by simp [BV]),T.ln (λx G=>by
   by_cases e:x=y
   ·subst e;exact k x (by simp [BV])
   ·exact h x (.inr ⟨e,G⟩)) λx G=>k x (by simp [BV,G])⟩
 | .res y p,h,k=>⟨k y (by simp [BV]),T.ln (λx G=>by
   by_cases e:x=y
   ·subst e;exact k x (by simp [BV])
   ·exact h x ⟨e,G⟩) λx G=>k x (by simp [BV,G])⟩
 | .tau p,h,k=>T.ln (u:=p) h k
 | .rep p,h,k=>T.ln (u:=p) h k
 | .sum p q,h,k=>⟨T.ln (λx G=>h x (.inl G)) λx G=>k x (O9 _ G),T.ln (λx G=>h x (.inr G)) λx G=>k x (O0 _ G)⟩
 | .par p q,h,k=>⟨T.ln (λx G=>h x (.inl G)) λx G=>k x (O9 _ G),T.ln (λx G=>h x (.inr G)) λx G=>k x (O0 _ G)⟩
def nT {f:Nat->Nat}:∀{l:List Nat},(l.map f).Nodup->∀x∈l,∀y∈l,f x=f y->x=y
 | [],_,_,h,_,_,_=>by cases h
 | z::l,J,x,Z,y,hy,e=>by
  rw [O3,PB]at J;rcases OY.1 Z with G | G<;>rcases OY.1 hy with H | H
  ·rw [G,H]
  ·exact absurd (Pf.2 ⟨y,H,by rw [<-e,G]⟩) J.1
  ·exact absurd (Pf.2 ⟨x,G,by rw [e,H]⟩) J.1
  ·exact nT J.2 x G y H e
def AE.ML {u Z:U}{σ J:Nat->Nat}(h:AE σ u J Z)(hu:Uq u)(α:Uq Z)(hi:∀y z,u.Fr y->u.Fr z->σ y=σ z->y=z)(γ:∀y z,Z.Fr y->Z.Fr z->J y=J z->y=z):
  ∃(f:Nat->Nat) (D:Nat->Prop),Z=u.map f/\u.Al D/\(∀x y,D x->D y->f x=f y->x=y)/\∀y,u.Fr y->Z.Fr (f y)/\J (f y)=σ y:=by
 obtain⟨g,hg⟩:=BC (BV u) (BV Z) hu.nd h.Cu;have β:∀y,∃y',u.Fr y->Z.Fr y'/\J y'=σ y:=λy=>by
  by_cases H:u.Fr y
  ·obtain⟨y',h1,h2⟩:=h.free y H;exact⟨y',λ _=>⟨h1,h2⟩⟩
  ·exact⟨0,λk=>absurd k H⟩
 let f:Nat->Nat:=λy=>if u.Fr y then Classical.choose (β y)else g y
 have f1:∀y,u.Fr y->Z.Fr (f y)/\J (f y)=σ y:=λy H=>by
  have:f y=Classical.choose (β y):=O' H;rw [this];exact Classical.choose_spec (β y) H
 have f2:BV Z=(BV u).map f:=by
  rw [hg];exact PX λx G=>(OP (hu.nf x G)).symm
 refine⟨f,λx=>u.Fr x\/x∈BV u,h.MH α f1 γ f2,T.ln (λx G=> .inl G) (λx G=> .inr G),?_,f1⟩;intro x y G H e;have hb:∀x∈BV u,f x∈BV Z:=λx G=>by rw [f2];exact Qb G
 rcases G with G | G<;>rcases H with H | H
 ·exact hi x y G H (by rw [<-(f1 x G).2,<-(f1 y H).2,e])
 ·exact absurd (e▸(f1 x G).1) (α.nf _ (hb y H))
 ·exact absurd (e▸(f1 y H).1) (λk=>α.nf _ (hb x G) (by rw [e];exact(f1 y H).1))
 ·exact nT (f2▸α.nd) x G y H e
def Lh {u G:U}{σ H:Nat->Nat}(h:AE σ u H G)(hu:Uq u)(J:Uq G)(hi:∀y z,u.Fr y->u.Fr z->σ y=σ z->y=z)(Z:∀y z,G.Fr y->G.Fr z->H y=H z->y=z)
  {ρ ρ':Rh} (α:∀y y',u.Us y->G.Fr y'->σ y=H y'->ρ y=ρ' y') (tk:Tk):LS u ρ tk=LS G ρ' tk/\dF u=dF G/\cT u=cT G/\bc u=bc G:=by
 obtain⟨f,D,rfl,h1,h2,h3⟩:=h.ML hu J hi Z;obtain⟨k1,k2,k3⟩:=He h2 h1;refine⟨?_,k1.symm,k2.symm,k3.symm⟩;rw [LO h2 h1];exact MU hu tk λy hy=>α y (f y) hy (h3 y (T.bj hy)).1 (h3 y (T.bj hy)).2.symm
namespace T
section
variable {A B:Type}
def tg:T A->Nat
 | nil=>0 | snd .. =>1 | rcv .. =>2 | tau .. =>3 | sum .. =>4 | par .. =>5 | res .. =>6 | mat .. =>7 | rep .. =>8
def gp:T A->Bool
 | nil=>true | snd .. =>true | rcv .. =>true | tau .. =>true | sum .. =>true
 | par .. =>false | res .. =>false | mat .. =>false | rep .. =>false
def isR:T A->Bool
 | rcv .. =>true
 | _=>false
def smp:T A->Bool
 | nil=>true | snd _ _ p=>p.smp | rcv _ _ p=>p.smp | tau p=>p.smp | sum p q=>(p.gp&&q.gp)&&(p.smp&&q.smp) | par p q=>p.smp&&q.smp
 | res _ p=>p.smp | mat _ _ p=>p.smp | rep p=>p.isR&&p.smp
def A8 {t:T A}:t.gp=decide (t.tg< 5):=by cases t<;>rfl
def IP {t:T A}:t.isS=decide (t.tg=4):=by cases t<;>rfl
def y3 {t:T A}:t.isR=decide (t.tg=2):=by cases t<;>rfl
def Ht [DecidableEq A][DecidableEq B]{p:T A}{q:T B}{ρ:A->Nat}{σ:B->Nat}(h:AE ρ p σ q):p.tg=q.tg:=by
 cases p<;>cases q<;>first | exact h.elim | rfl
def vV [DecidableEq A][DecidableEq B]{p:T A}{q:T B}{ρ:A->Nat}{σ:B->Nat}(h:AE ρ p σ q):p.smp=q.smp:=by
 induction p generalizing q ρ σ<;>cases q<;>simp only [AE]at h<;>simp only [smp]
 case snd.snd G _ _ _=>exact G h.2.2
 case mat.mat G _ _ _=>exact G h.2.2
 case rcv.rcv G _ _ _=>exact G (h.2 0)
 case res.res G _ _=>exact G (h 0)
 case tau.tau G _=>exact G h
 case rep.rep G _=>rw [G h,y3,y3,Ht h]
 case sum.sum G H _ _=>rw [G h.1,H h.2,A8,A8,A8,A8,Ht h.1,Ht h.2]
 case par.par G H _ _=>rw [G h.1,H h.2]
end
end T
structure NW (t w:U):Prop where
 th:w.th=true
 nr:w.Nr
 uq:Uq w
 bv:∀x∈BV w,x∈BV t
 us:∀x,w.Us x↔t.Us x
 tx:∀ρ tk,thU w ρ tk=thU t ρ tk
 bad:∀tk,thBad (tl [w]) tk=thBad (tl [t]) tk
 all:thAll (tl [w])=thAll (tl [t])
 most:ay (tl [w])=ay (tl [t])
 smp:t.smp=true->w.smp=true
 tg:w.tg=t.tg
structure N5 (u v:U):Prop where
 nr:v.Nr
 uq:Uq v
 bv:∀x∈BV v,x∈BV u
 us:∀x,v.Us x↔u.Us x
 ls:∀ρ tk,LS v ρ tk=LS u ρ tk
 bad:∀tk,dF v tk=dF u tk
 all:cT v=cT u
 most:bc v=bc u
 dead:v.dead=u.dead
 smp:u.smp=true->v.smp=true
 tg:∀t,an u=([],[t])->v.tg=t.tg
 isS:(∀p q,an u≠([],[T.sum p q]))->v.isS=false
def sg {t w:U}(G:(BV w).Nodup)(nr:w.Nr)(hb:∀x∈BV w,x∈BV t)(hu:∀x,w.Us x->t.Us x)(H:Uq t):Uq w:=
 ⟨G,λx J Z=>H.nf x (hb x J) (T.bj (hu x (nr.iO Z)))⟩
def AE.KX {p:P}{q:U}{ρ:Rh}{y:Nat}{c:UInt8}(G:∀z,q.Fr z->z≠y->ρ z≠c)(h:AE UInt8.toNat p (λz=>(aI ρ y c z).toNat) q)(v:Nat):AE (aI UInt8.toNat c v) p (aI (λz=>(ρ z).toNat) y v) q:=by
 refine(h.map λn=>if n=c.toNat then v else n).congr (λx _=>?_) λz H=>?_
 ·unfold aI;by_cases e:x=c
  ·subst e;simp
  ·rw [OP e,OP λh=>e (OU.1 h)]
 ·unfold aI;by_cases e:z=y
  ·subst e;simp
  ·simp only [OP e];rw [OP λh=>G z H e (OU.1 h)]
def bB:∀(π:List Nat) (ls:List UInt8) (ρ:Rh) (x:Nat),x∉π->asg π ls ρ x=ρ x
 | [],_,_,_,_=>by simp [asg]
 | _::_,[],_,_,_=>by simp [asg]
 | y::π,c::ls,ρ,x,h=>by
  simp only [OY,R9]at h;rw [asg,bB π ls _ x h.2];unfold aI;rw [OP h.1]
def dC:∀(π:List Nat) (ls:List UInt8) (ρ:Rh) (x:Nat),x∈π->π.length=ls.length->asg π ls ρ x∈ls
 | [],_,_,_,h,_=>by cases h
 | _::_,[],_,_,_,h=>by cases h
 | y::π,c::ls,ρ,x,h,H=>by
  rw [asg];by_cases G:x∈π
  ·exact OJ _ (dC π ls _ x G (by simpa using H))
  ·have e:x=y:=(OY.1 h).resolve_right G;subst e;rw [bB π ls _ x G];simp [aI]
def tE:∀(π:List Nat) (ls:List UInt8) (ρ:Rh) (x z:Nat),x∈π->z∈π->π.length=ls.length->ls.Nodup->asg π ls ρ x=asg π ls ρ z->x=z
 | [],_,_,_,_,h,_,_,_,_=>by cases h
 | _::_,[],_,_,_,_,_,h,_,_=>by cases h
 | y::π,c::ls,ρ,x,z,hx,hz,Z,G,e=>by
  have G:=PB.1 G;have α:π.length=ls.length:=by simpa using Z
  rw [asg]at e;by_cases H:x∈π<;>by_cases J:z∈π
  ·exact tE π ls _ x z H J α G.2 e
  ·have e2:z=y:=(OY.1 hz).resolve_right J;subst e2;rw [bB π ls _ z J]at e;have :=dC π ls (aI ρ z c) x H (by simpa using Z);rw [e]at this;exact absurd (by simpa [aI]using this) G.1
  ·have e2:x=y:=(OY.1 hx).resolve_right H;subst e2;rw [bB π ls _ x H]at e;have :=dC π ls (aI ρ x c) z J (by simpa using Z);rw [<-e]at this;exact absurd (by simpa [aI]using this) G.1
  ·rw [(OY.1 hx).resolve_right H,(OY.1 hz).resolve_right J]
def AE.D6 {p:P}{q:U}:∀(π:List Nat) (ls:List UInt8) (ρ:Rh),π.length=ls.length->ls.Nodup->(∀z,q.Fr z->z∉π->ρ z∉ls)->AE UInt8.toNat p (λz=>(asg π ls ρ z).toNat) q->
  AE UInt8.toNat (T.resL ls p) (λz=>(ρ z).toNat) (T.resL π q)
 | [],[],_,_,_,_,h=>h
 | [],_::_,_,h,_,_,_=>by cases h
 | _::_,[],_,h,_,_,_=>by cases h
 | y::π,c::ls,ρ,hl,H,Z,h=>by
  have H:=PB.1 H;have ih:=AE.D6 π ls (aI ρ y c) (by simpa using hl) H.2 (λz G hm=>by
   unfold aI;split
   ·exact H.1
   ·rename_i e;exact λJ=>Z z G (by simp [e,hm]) (OJ _ J)) h
  intro v;refine AE.KX (λz G e=>?_) ih v;have G:=T.cy.1 G;exact λJ=>Z z G.2 (by simp [e,G.1]) (by rw [J];exact Pb ..)
def CM (a b:UInt8)(r:Tx):kText .m a b r=kText .m b a r:=by
 unfold kText;by_cases G:b< a
 ·have H:¬a< b:=λh=>by
   rw [Pu]at h G;omega
  simp [G,H]
 ·by_cases H:a< b
  ·simp [G,H]
  ·have:a=b:=by
    apply OU.1;rw [Pu]at G H;omega
   subst this;rfl
def B8 {α:Type}{f:α->Bool}{l m:List α}(h:l.Perm m):l.any f=m.any f:=by
 rw [PG,QH,QH];exact⟨fun⟨x,G,H⟩=>⟨x,h.subset G,H⟩,fun⟨x,G,H⟩=>⟨x,h.symm.subset G,H⟩⟩
def jF {l m:List Nat}(h:l.Perm m):l.sum=m.sum:=by
 induction h with
 | nil=>rfl
 | cons x _ G=>simp [G]
 | swap x y l=>simp;omega
 | trans _ _ H J=>exact H.trans J
def triples {α β γ:Type}{R:α->β->γ->Prop}:∀{l:List α},(∀a∈l,∃b c,R a b c)->∃zs:List (α×β×γ),zs.map (·.1)=l/\∀z∈zs,R z.1 z.2.1 z.2.2
 | [],_=>⟨[],rfl,λz h=>by cases h⟩
 | a::l,h=>by
  obtain⟨b,c,hr⟩:=h a (Pb ..);obtain⟨zs,H,J⟩:=triples (l:=l) λa ha=>h a (OJ _ ha)
  refine⟨(a,b,c)::zs,by simp [H],λz G=>?_⟩;rcases OY.1 G with rfl | G
  ·exact hr
  ·exact J z G
def xD {α:Type}(zs:List α)(g:α->Tx):∃G:List α,G.Perm zs/\G.map g=aK (zs.map g):=by
 refine⟨zs.mergeSort λa b=>jR (g a) (g b),List.mergeSort_perm _ _,?_⟩
 symm
 refine pn ?_ ((List.mergeSort_perm _ _).map g);have :=List.pairwise_mergeSort (le:=λa b:α=>jR (g a) (g b)) (λa b c=>ie _ _ _) (λa b=>qN _ _) zs;exact List.pairwise_map.2 this
def cQ (p:U):∀l:List Nat,BV (T.resL l p)=l++BV p
 | []=>rfl
 | x::l=>by simp only [T.resL,BV,cQ p l,PC]
def cP:∀l:List U,BV (T.parL l)=l.flatMap BV
 | []=>rfl
 | [t]=>by simp [T.parL]
 | t::u::l=>by simp only [T.parL,BV,cP (u::l),PE]
def y8:∀l:List U,BV (T.dL l)=l.flatMap BV
 | []=>rfl
 | [t]=>by simp [T.dL]
 | t::u::l=>by simp only [T.dL,BV,y8 (u::l),PE]
def qI {α:Type}{f g:α->List Nat}:∀{l:List α},(l.flatMap f).Nodup->(∀z∈l,(g z).Nodup/\∀x∈g z,x∈f z)->(l.flatMap g).Nodup
 | [],_,_=>P3
 | z::l,G,h=>by
  rw [PE]at G|-;have G:=Pg.1 G;refine Pg.2 ⟨(h z (Pb ..)).1,qI G.2.1 λy H=>h y (OJ _ H),λa ha b hb=>?_⟩;obtain⟨y,H,J⟩:=Pk.1 hb;exact G.2.2 a ((h z (Pb ..)).2 a ha) b (Pk.2 ⟨y,H,(h y (OJ _ H)).2 b J⟩)
def GR:∀u:U,Uq u->((ax u).flatMap BV).Nodup:=by
 intro u;have sub:∀u:U,∀x∈(ax u).flatMap BV,x∈BV u:=λu x J=>by
  obtain⟨t,Z,h2⟩:=Pk.1 J;exact BL u t Z x h2
 induction u with
 | nil=>intro _;simp [ax]
 | snd a b p G=>intro h;simpa [ax]using h.nd
 | rcv a b p G=>intro h;simpa [ax]using h.nd
 | tau p G=>intro h;simpa [ax]using h.nd
 | sum p q G H=>
  intro h;simp only [ax,Pt];exact Pg.2 ⟨G h.eJ,H h.dX,λa ha b hb=>(Pg.1 h.nd).2.2 a (sub p a ha) b (sub q b hb)⟩
 | par p q G H=>
  intro h;simp only [ax];split
  ·exact H h.ga
  ·split
   ·exact G h.gP
   ·simpa using h.nd
 | res x p G=>
  intro h;simp only [ax];split
  ·simpa using h.nd
  ·exact G h.res
 | mat a b p G=>
  intro h;simp only [ax];split
  ·exact G h.mat
  ·split
   ·simp
   ·simpa using h.nd
 | rep p G=>
  intro h;simp only [ax];split
  ·simp
  ·simpa using h.nd
def I':∀u:U,Uq u->((an u).1++(an u).2.flatMap BV).Nodup:=by
 intro u;have sub:∀u:U,∀x∈(an u).1++(an u).2.flatMap BV,x∈BV u:=λu x H=>by
  rcases OH.1 H with H | H
  ·exact iZ u x H
  ·obtain⟨t,Z,h2⟩:=Pk.1 H;exact Em u t Z x h2
 induction u with
 | nil=>intro _;simp [an]
 | snd a b p G=>intro h;simpa [an]using h.nd
 | rcv a b p G=>intro h;simpa [an]using h.nd
 | tau p G=>intro h;simpa [an]using h.nd
 | sum p q G J=>
  intro h;simp only [an];split
  ·exact J h.dX
  ·split
   ·exact G h.eJ
   ·simpa using h.nd
 | par p q G J=>
  intro h;have hp:(((an p).1++(an q).1)++((an p).2++(an q).2).flatMap BV).Perm (((an p).1++(an p).2.flatMap BV)++((an q).1++(an q).2.flatMap BV)):=by
   rw [Pt];exact vA _ _ _ _
  simp only [an];rw [hp.nodup_iff];exact Pg.2 ⟨G h.gP,J h.ga,λa ha b hb=>(Pg.1 h.nd).2.2 a (sub p a ha) b (sub q b hb)⟩
 | res x p G=>
  intro h;simp only [an];split
  ·exact PB.2 ⟨λH=>h.gI (sub p x H),G h.res⟩
  ·exact G h.res
 | mat a b p G=>
  intro h;simp only [an];split
  ·exact G h.mat
  ·split
   ·simp
   ·simpa using h.nd
 | rep p G=>
  intro h;simp only [an];split
  ·simp
  ·simpa using h.nd
def zx {u:U}(h:u.dead=false)(hu:Uq u):(an u).2≠[]:=λe=>by
 have G:=(gK u hu).1;rw [e]at G;have :=(lT u).1 h;rw [G]at this;exact this rfl
def JW {u:U}(hu:Uq u)(h:(an u).2=[]):u.dead=true:=by
 cases hd:u.dead with
 | true=>rfl
 | false=>exact absurd h (zx hd hu)
def pN {u:U}(h:u.dead=false)(hu:Uq u):ax u≠[]:=λe=>by
 have G:=(gK u hu).2.2;rw [e]at G;have :=(bK u).2.1;rw [G]at this;rw [this.1 rfl]at h;cases h
def F0:∀u:U,Uq u->∀t∈ax u,∀p q,an t≠([],[T.sum p q]):=by
 intro u
 induction u with
 | nil=>intro _ t h;simp [ax]at h
 | snd=>intro _ t h;simp [ax]at h;subst h;intro p q e;simp [an]at e
 | rcv=>intro _ t h;simp [ax]at h;subst h;intro p q e;simp [an]at e
 | tau=>intro _ t h;simp [ax]at h;subst h;intro p q e;simp [an]at e
 | sum p q G H=>
  intro hu t h;simp only [ax,OH]at h;exact h.elim (G hu.eJ t) (H hu.dX t)
 | par p q G H=>
  intro hu t h;simp only [ax]at h;split at h
  ·exact H hu.ga t h
  ·rename_i J;split at h
   ·exact G hu.gP t h
   ·rename_i Z;simp at h;subst h;intro p' q' e;have e2:=PA Prod.snd e;simp only [an]at e2;have l1:(an p).2.length≠0:=λe=>zx (by simpa using J) hu.gP (Pa e)
    have l2:(an q).2.length≠0:=λe=>zx (by simpa using Z) hu.ga (Pa e)
    have :=PA List.length e2;simp only [Oy,Ov,ON]at this;omega
 | res x p G=>
  intro hu t h;simp only [ax]at h;split at h
  ·rename_i J;simp at h;subst h;intro p' q' e;have e2:=PA Prod.fst e;simp [an,J]at e2
  ·exact G hu.res t h
 | mat a b p G=>
  intro hu t h;simp only [ax]at h;split at h
  ·exact G hu.mat t h
  ·rename_i J;split at h
   ·simp at h
   ·rename_i Z;simp at h;subst h;intro p' q' e;simp [an,J,Z]at e
 | rep p G=>
  intro hu t h;simp only [ax]at h;split at h
  ·simp at h
  ·rename_i Z;simp at h;subst h;intro p' q' e;simp [an,Z]at e
def FZ:∀(u:U),∀t∈ax u,t.dead=false:=by
 intro u
 induction u with
 | nil=>intro t h;simp [ax]at h
 | snd=>intro t h;simp [ax]at h;subst h;rfl
 | rcv=>intro t h;simp [ax]at h;subst h;rfl
 | tau=>intro t h;simp [ax]at h;subst h;rfl
 | sum p q G H=>intro t h;simp only [ax,OH]at h;exact h.elim (G t) (H t)
 | par p q G H=>
  intro t h;simp only [ax]at h;split at h
  ·exact H t h
  ·rename_i J;split at h
   ·exact G t h
   ·simp at h;subst h;simp at J;simp [T.dead,J]
 | res x p G=>
  intro t h;simp only [ax]at h;split at h
  ·rename_i J;simp at h;subst h;cases hd:p.dead with
   | false=>exact hd
   | true=>rw [m7 hd]at J;cases J
  ·exact G t h
 | mat a b p G=>
  intro t h;simp only [ax]at h;split at h
  ·exact G t h
  ·split at h
   ·simp at h
   ·rename_i Z;simp at h;subst h;simp at Z;exact Z
 | rep p G=>
  intro t h;simp only [ax]at h;split at h
  ·simp at h
  ·rename_i Z;simp at h;subst h;simp at Z;exact Z
def zZ:∀u:U,u.gp=true->u.smp=true->∀t∈ax u,(t.tg=1\/t.tg=2\/t.tg=3)/\an t=([],[t])
 | .nil,_,_,t,h=>by simp [ax]at h
 | .snd ..,_,_,t,h=>by simp [ax]at h;subst h;exact⟨.inl rfl,rfl⟩
 | .rcv ..,_,_,t,h=>by simp [ax]at h;subst h;exact⟨.inr (.inl rfl),rfl⟩
 | .tau ..,_,_,t,h=>by simp [ax]at h;subst h;exact⟨.inr (.inr rfl),rfl⟩
 | .sum p q,_,G,t,h=>by
  simp only [T.smp,OA]at G;simp only [ax,OH]at h;exact h.elim (zZ p G.1.1 G.2.1 t) (zZ q G.1.2 G.2.2 t)
 | .par ..,h,_,_,_=>by cases h
 | .res ..,h,_,_,_=>by cases h
 | .mat ..,h,_,_,_=>by cases h
 | .rep ..,h,_,_,_=>by cases h
def jG {l:List U}(h:∀t∈l,t.smp=true):(T.parL l).smp=true:=by
 induction l with
 | nil=>rfl
 | cons t l G=>
  cases l with
  | nil=>exact h t (by simp)
  | cons u l=>
   simp only [T.parL,T.smp,OA];exact⟨h t (by simp),G λt H=>h t (OJ _ H)⟩
def jA {p:U}(l:List Nat):(T.resL l p).smp=p.smp:=by
 induction l with
 | nil=>rfl
 | cons x l G=>exact G
def HL {l:List U}(H:l≠[])(h:∀t∈l,t.smp=true/\t.gp=true):(T.dL l).smp=true/\(T.dL l).gp=true:=by
 induction l with
 | nil=>exact absurd rfl H
 | cons t l J=>
  cases l with
  | nil=>exact h t (by simp)
  | cons u l=>
   obtain⟨Z,h2⟩:=J (by simp) λt G=>h t (OJ _ G)
   have G:=h t (by simp);simp only [T.dL,T.smp,OA];exact⟨⟨⟨G.2,h2⟩,G.1,Z⟩,rfl⟩
def HS (u:U)(h:u.smp=true):∀t∈ax u,t.smp=true:=
 tZ (λt=>t.smp=true) (λp q h=>by simp only [T.smp,OA]at h;exact h.2) (λp q h=>by simpa only [T.smp,OA]using h) (λ _ _ h=>h) (λ _ _ _ h=>h) u h
def Kf (u:U)(h:u.smp=true):∀t∈(an u).2,t.smp=true:=
 zL (λt=>t.smp=true) (λp q h=>by simp only [T.smp,OA]at h;exact h.2) (λp q h=>by simpa only [T.smp,OA]using h) (λ _ _ h=>h) (λ _ _ _ h=>h) u h
def AE.dL {ρ:UInt8->Nat}{σ:Nat->Nat}:∀{l:List (U×P×U)},(∀z∈l,AE ρ z.2.1 σ z.2.2)->AE ρ (T.dL (l.map (·.2.1))) σ (T.dL (l.map (·.2.2)))
 | [],_=>trivial
 | [z],h=>h z (by simp)
 | z::y::l,h=>⟨h z (by simp),AE.dL (l:=y::l) λt G=>h t (OJ _ G)⟩
def AE.parL {ρ:UInt8->Nat}{σ:Nat->Nat}:∀{l:List (U×P×U)},(∀z∈l,AE ρ z.2.1 σ z.2.2)->AE ρ (T.parL (l.map (·.2.1))) σ (T.parL (l.map (·.2.2)))
 | [],_=>trivial
 | [z],h=>h z (by simp)
 | z::y::l,h=>⟨h z (by simp),AE.parL (l:=y::l) λt G=>h t (OJ _ G)⟩
def Ek {D:UInt8->Prop}:∀{l:List P},(∀t∈l,t.Al D)->(T.dL l).Al D
 | [],_=>trivial
 | [z],h=>h z (by simp)
 | z::y::l,h=>⟨h z (by simp),Ek (l:=y::l) λt G=>h t (OJ _ G)⟩
def Ea {D:UInt8->Prop}:∀{l:List P},(∀t∈l,t.Al D)->(T.parL l).Al D
 | [],_=>trivial
 | [z],h=>h z (by simp)
 | z::y::l,h=>⟨h z (by simp),Ea (l:=y::l) λt G=>h t (OJ _ G)⟩
def Ei {D:UInt8->Prop}{p:P}(G:p.Al D):∀{l:List UInt8},(∀c∈l,D c)->(T.resL l p).Al D
 | [],_=>G
 | c::l,h=>⟨h c (by simp),Ei G (l:=l) λt H=>h t (OJ _ H)⟩
def fU {w:U}(h:w.isS=true)(ρ:Rh)(tk:Tk):thU w ρ tk=joinS 43 (aK ((ax w).map λu=>LS u ρ tk))/\tl [w]= .sum (tp (ax w)) .nil:=by
 cases w<;>first | (cases h;done) | exact⟨rfl,rfl⟩
def DZ {a b:Nat}(h:∀n,a<=n↔b<=n):a=b:=by
 have G:=(h a).1 (OB _);have H:=(h b).2 (OB _);omega
end
def zB.sub {k m:Nat}{Θ:Tx}{σ:Nat->Nat}{u v:U}(h:zB k Θ σ u)(H:k<=m)(J:∀y,v.Us y->u.Us y):zB m Θ σ v:=
 ⟨h.srt,λc G=>⟨(h.okn c G).1.mono H,(h.okn c G).2⟩,λy Z=>h.cov y (J y Z)⟩
def Compat.sub {ρ:Rh}{σ:Nat->Nat}{u v:U}(h:Compat ρ σ u)(G:∀y,v.Us y->u.Us y):Compat ρ σ v:=λy H=>h y (G y H)
def j4 {c:UInt8}(h:nm c=true):¬c=35:=(wh h).2.2.2.1
def bk {c:UInt8}(h:¬c=35)(l:Tx):(c::l).count 35=l.count 35:=by
 rw [List.count_cons];simp [h]
def TR.snd {on:Bool}{a b:Nat}{p:U}{σ:Nat->Nat}{Θ r:Tx}{x y:UInt8}(Z:nm x=true)(G:nm y=true)(ex:x.toNat=σ a)(ey:y.toNat=σ b)(h:WR on p σ Θ r):TR on (.snd a b p) σ Θ (x::33::y::46::r):=by
 refine⟨by simp,?_,λhm=>?_,λhm H hb=>?_,λhm H hb ρ J=>?_⟩
 ·have :=h.len;simp only [Ov,T.aJ];omega
 ·rw [fA]at hm;rw [bk (j4 Z),bk (by decide),bk (j4 G),bk (by decide),h.cnt hm,ra]
 ·rw [fA]at hm;rw [jk]at hb;obtain⟨c,h1,h2⟩:=h.bad hm H hb;exact⟨c,by simp [h1],h2⟩
 ·rw [fA]at hm;rw [jk]at hb;have e1:ρ a=x:=OU.1 ((J a (.inl rfl)).trans ex.symm);have e2:ρ b=y:=OU.1 ((J b (.inr (.inl rfl))).trans ey.symm);simp only [thU,kText,e1,e2];rw [h.eq hm H hb ρ (J.sub λy G=> .inr (.inr G))]
def TR.tau {on:Bool}{p:U}{σ:Nat->Nat}{Θ r:Tx}(h:WR on p σ Θ r):TR on (.tau p) σ Θ (126::46::r):=by
 refine⟨by simp,?_,λhm=>?_,λhm G hb=>?_,λhm G hb ρ H=>?_⟩
 ·have :=h.len;simp only [Ov,T.aJ];omega
 ·rw [fv]at hm;rw [bk (by decide),bk (by decide),h.cnt hm,rS]
 ·rw [fv]at hm;rw [jv]at hb;obtain⟨c,J,Z⟩:=h.bad hm G hb;exact⟨c,by simp [J],Z⟩
 ·rw [fv]at hm;rw [jv]at hb;simp only [thU,kText];rw [h.eq hm G hb ρ H]
def TR.rep {on:Bool}{p:U}{σ:Nat->Nat}{Θ r:Tx}(h:WR on p σ Θ r):TR on (.rep p) σ Θ (42::r):=by
 refine⟨by simp,?_,λhm=>?_,λhm G hb=>?_,λhm G hb ρ H=>?_⟩
 ·have :=h.len;simp only [Ov,T.aJ];omega
 ·rw [fH]at hm;rw [bk (by decide),h.cnt hm,rI]
 ·rw [fH]at hm;rw [jI]at hb;obtain⟨c,J,Z⟩:=h.bad hm G hb;exact⟨c,by simp [J],Z⟩
 ·rw [fH]at hm;rw [jI]at hb;simp only [thU,kText];rw [h.eq hm G hb ρ H]
def TR.mat {on:Bool}{a b:Nat}{p:U}{σ:Nat->Nat}{Θ r:Tx}{x y:UInt8}(G:a≠b)(hd:p.dead=false)(hx:nm x=true)(hy:nm y=true)(ex:x.toNat=σ a)(ey:y.toNat=σ b)(h:WR on p σ Θ r):
  TR on (.mat a b p) σ Θ (91::(if y< x then y else x)::61::(if y< x then x else y)::93::r):=by
 have H:¬(if y< x then y else x)=35:=by split<;>exact j4 (by assumption)
 have J:¬(if y< x then x else y)=35:=by split<;>exact j4 (by assumption)
 refine⟨by simp,?_,λhm=>?_,λhm Z hb=>?_,λhm Z hb ρ hc=>?_⟩
 ·have :=h.len;simp only [Ov,T.aJ];omega
 ·rw [dw]at hm;rw [bk (by decide),bk H,bk (by decide),bk J,bk (by decide),h.cnt hm,jB]
 ·rw [dw]at hm;rw [fG]at hb;obtain⟨c,h1,h2⟩:=h.bad hm Z hb;exact⟨c,by simp [h1],h2⟩
 ·rw [dw]at hm;rw [fG]at hb;have e1:ρ a=x:=OU.1 ((hc a (.inr ⟨G,hd,.inl rfl⟩)).trans ex.symm);have e2:ρ b=y:=OU.1 ((hc b (.inr ⟨G,hd,.inr (.inl rfl)⟩)).trans ey.symm);simp only [thU,kText,e1,e2];rw [h.eq hm Z hb ρ (hc.sub λy hy=> .inr ⟨G,hd,.inr (.inr hy)⟩)]
structure B5 (k:Nat)(Θ:Tx)(c:UInt8):Prop where
 nin:c∉Θ
 okn:okn (k+1) c
 ngr:ngr c
 nm:nm c=true
 bad:(wV (cR Θ)).isNone=true->128<=c
 good:(wV (cR Θ)).isNone=false->c=jc (cR Θ)
def GK {c:UInt8}(h:lt c=true):nm c=true/\ngr c/\∀k,okn k c:=by
 refine⟨?_,?_,λk=>nX h⟩
 ·simp only [lt,nm]at*;rw [h];rfl
 ·simp only [lt,OA,OK]at h;have J:=OZ.1 h.1;have Z:=OZ.1 h.2;have H:(97:UInt8).toNat=97:=rfl;have G:(122:UInt8).toNat=122:=rfl;right;omega
def B5.of {k:Nat}{Θ:Tx}{c:UInt8}(hk:k+1<=64)(ht:∀c∈Θ,Proofs.YthekamjhgabkjaaGreat.okn k c/\Proofs.YthekamjhgabkjaaGreat.ngr c)(h:vP Θ c):B5 k Θ c:=by
 rcases h with h | ⟨h,h1,h2,h3,h4⟩
 ·obtain⟨k1,k2,k3⟩:=Ce h;obtain⟨f1,f2,f3⟩:=GK k2;have Z:wV (cR Θ)=some c:=h;exact⟨by simpa [cR]using k1,f3 _,f2,f1,λH=>(by rw [Z]at H;cases H),λ _=>(by simp [jc,Z])⟩
 ·have Z:wV (cR Θ)=none:=h;have b1:=OZ.1 h1;have b2:=OZ.1 h2;have α:(128:UInt8).toNat=128:=rfl;have β:(191:UInt8).toNat=191:=rfl;have hle:c.toNat<=128+k:=by
   refine P1 λhc=>?_
   have e:(UInt8.ofNat (128+k)).toNat=128+k:=by rw [PT];omega
   have G:=h3 (UInt8.ofNat (128+k)) (OZ.2 (by omega)) (Pu.2 (by omega));rcases(ht _ G).1 with h | h<;>omega
  have J:c∉Θ:=by
   rcases h4 with h4 | h4
   ·exact h4
   ·intro G;have:c.toNat=191:=by rw [h4];rfl
    rcases(ht _ G).1 with h | h<;>omega
  refine⟨J,.inl (by omega),.inr (by omega),?_,λ _=>h1,λH=>by rw [Z]at H;cases H⟩;simp only [Proofs.YthekamjhgabkjaaGreat.nm,P0,OK];exact .inr h1
def uR {Θ G:Tx}{c:UInt8}(h:∀x,x∈G↔x=c\/x∈Θ):cR G=cY (cR Θ) c:=by
 funext d
 unfold cR cY;rw [PG];simp only [OK,P0,QY,h];exact or_comm
def TR.rcv {on:Bool}{k a n:Nat}{p:U}{σ:Nat->Nat}{Θ G r:Tx}{x c:UInt8}(hx:nm x=true)(ex:x.toNat=σ a)(Z:B5 k Θ c)(hT:∀x,x∈G↔x=c\/x∈Θ)(h:WR on p (aI σ n c.toNat) G r):
  TR on (.rcv a n p) σ Θ (x::63::c::46::r):=by
 refine⟨by simp,?_,λhm=>?_,λhm ho hb=>?_,λhm ho hb ρ H=>?_⟩
 ·have :=h.len;simp only [Ov,T.aJ];omega
 ·rw [fP]at hm;rw [bk (j4 hx),bk (by decide),bk (j4 Z.nm),bk (by decide),h.cnt hm,rr]
 ·rw [fP]at hm;rw [jH,P0]at hb;cases hn:(wV (cR Θ)).isNone with
  | true=>exact⟨c,by simp,Z.bad hn⟩
  | false=>
   rw [hn]at hb;have hb:=hb.resolve_left (by simp);rw [<-Z.good hn,<-uR hT]at hb;obtain⟨c,h1,h2⟩:=h.bad hm ho hb;exact⟨c,by simp [h1],h2⟩
 ·rw [fP]at hm;rw [jH,P4]at hb;have e1:ρ a=x:=OU.1 ((H a (.inl rfl)).trans ex.symm);have e2:=Z.good hb.1;have J:=hb.2;rw [<-e2,<-uR hT]at J;simp only [thU,kText,e1,<-e2];rw [<-uR hT,<-h.eq hm ho J (aI ρ n c) λy hy=>?_];unfold aI;by_cases e:y=n
  ·simp [e]
  ·simp only [OP e];exact H y (.inr ⟨e,hy⟩)
def oY (c:UInt8):∀l:List Tx,l≠[]->(joinS c l).length+3=dk l
 | [],h=>absurd rfl h
 | [s],_=>by simp [joinS,dk]
 | s::t::l,_=>by
  have :=oY c (t::l) (by simp);rw [fR (by simp),eI];simp only [Ov,Oy,ON];omega
def mi {c:UInt8}(G:¬c=35):∀l:List Tx,(joinS c l).count 35=(l.map (List.count 35)).sum
 | []=>rfl
 | [s]=>by simp [joinS]
 | s::t::l=>by
  have :=mi G (t::l);rw [fR (by simp),bk (by decide),Pp,bk G,Pp,this];simp
def rq {c d:UInt8}{s:Tx}:∀{l:List Tx},s∈l->d∈s->d∈joinS c l
 | [],h,_=>by cases h
 | [t],h,hd=>by
  have:s=t:=by simpa using h
  subst this;exact hd
 | t::u::l,h,hd=>by
  rw [fR (by simp)];rcases OY.1 h with rfl | h
  ·simp [hd]
  ·have :=rq (c:=c) h hd;simp [this]
def AU {c:UInt8}{l:List Tx}(h:∀s∈l,s≠[])(G:l≠[]):joinS c l≠[]:=by
 match l,G with
 | [s],_=>exact h s (by simp)
 | s::t::l,_=>rw [fR (by simp)];simp
def WR.env {on:Bool}{u:U}{σ τ:Nat->Nat}{Θ r:Tx}(h:WR on u σ Θ r)(he:∀y,u.Us y->σ y=τ y):WR on u τ Θ r:=
 ⟨h.ne,h.len,h.cnt,h.bad,λa b c ρ H=>h.eq a b c ρ λy G=>(H y G).trans (he y G).symm⟩
def aO.dk {on:Bool}{σ:Nat->Nat}{Θ:Tx}:∀{rs:List Tx} {us:List U},aO (λr u=>WR on u σ Θ r) rs us->Proofs.YthekamjhgabkjaaGreat.dk rs<=j8 us
 | [],[],_=>by simp [Proofs.YthekamjhgabkjaaGreat.dk,j8]
 | [],_::_,h=>by have :=h.1;simp at this
 | _::_,[],h=>by have :=h.1;simp at this
 | r::rs,u::us,h=>by
  have H:=(h.2 0 r u rfl rfl).len;have G:=aO.dk (rs:=rs) (us:=us) (on:=on) (σ:=σ) (Θ:=Θ) ⟨by have :=h.1;simpa using this,λi a b ha hb=>h.2 (i+1) a b (by simpa using ha) (by simpa using hb)⟩;rw [eI];simp only [j8,O3,Py,Ov]at G|-;omega
def aO.map_eq {A B C:Type}{f:A->C}{g:B->C}:∀{l:List A} {m:List B},aO (λa b=>f a=g b) l m->l.map f=m.map g
 | [],[],_=>rfl
 | [],_::_,h=>by have :=h.1;simp at this
 | _::_,[],h=>by have :=h.1;simp at this
 | a::l,b::m,h=>by
  have G:=h.2 0 a b rfl rfl;have H:=aO.map_eq (l:=l) (m:=m) (f:=f) (g:=g) ⟨by have :=h.1;simpa using this,λi a b ha hb=>h.2 (i+1) a b (by simpa using ha) (by simpa using hb)⟩;rw [O3,O3,H,G]
def aO.get {A B:Type}{R:A->B->Prop}{l:List A}{m:List B}(h:aO R l m){b:B}(hb:b∈m):∃a∈l,R a b:=by
 obtain⟨i,hi,e⟩:=PK.1 hb;have G:i< l.length:=by rw [h.1];exact hi
 exact⟨l[i],Oz _,h.2 i l[i] b (Ox G) (by rw [Ox hi,e])⟩
def aO.get' {A B:Type}{R:A->B->Prop}{l:List A}{m:List B}(h:aO R l m){a:A}(ha:a∈l):∃b∈m,R a b:=by
 obtain⟨i,hi,e⟩:=PK.1 ha;have G:i< m.length:=by rw [<-h.1];exact hi
 exact⟨m[i],Oz _,h.2 i a m[i] (by rw [Ox hi,e]) (Ox G)⟩
def TR.sum {on:Bool}{p q:U}{σ:Nat->Nat}{Θ:Tx}{rs:List Tx}(hu:Uq (.sum p q))(β:ax (T.sum p q)≠[])(h:aO (λr u=>WR on u σ Θ r) rs (ax (T.sum p q))):TR on (.sum p q) σ Θ (joinS 43 (aK rs)):=by
 have J:tl [T.sum p q]= .sum (tp (ax (T.sum p q))) .nil:=rfl;have γ:rs≠[]:=λe=>β (Pa (by rw [<-h.1,e];rfl))
 have Z:=aG rs;have α:aK rs≠[]:=λe=>γ (by rw [e]at Z;exact Z.symm.eq_nil)
 have G:ay (tl [T.sum p q])<=5->∀u∈ax (T.sum p q),bc u<=5:=λhm=>by
  rw [J,ay]at hm;exact(yR _ _).1 (by omega)
 refine⟨AU (λs hs=>?_) α,?_,λhm=>?_,λhm ho hb=>?_,λhm ho hb ρ hc=>?_⟩
 ·obtain⟨u,_,hw⟩:=h.get' (Z.subset hs);exact hw.ne
 ·have h1:=oY 43 _ α;have h2:=mS Z;have h3:=h.dk;have h4:=eC (T.sum p q);omega
 ·rw [mi (by decide),jF (Z.map _),J,thAll,Ig];show _=_+0;rw [QR]
  congr 1
  refine aO.map_eq (h.mono λr u _ hu hw=>hw.cnt (G hm u hu))
 ·rw [J,thBad,Ad]at hb;simp only [thBad,QT,QH]at hb;obtain⟨u,H,δ⟩:=hb;obtain⟨r,hr,hw⟩:=h.get H;obtain⟨c,h1,h2⟩:=hw.bad (G hm u H) ho δ;exact⟨c,rq (Z.symm.subset hr) h1,h2⟩
 ·rw [J,thBad,Ad]at hb;simp only [thBad,QT]at hb;have hb:∀u∈ax (T.sum p q),dF u (cR Θ)=false:=by simpa [List.any_eq_false]using hb
  have e:rs=(ax (T.sum p q)).map λu=>LS u ρ (cR Θ):=by
   have :=aO.map_eq (f:=λr:Tx=>r) (g:=λu=>LS u ρ (cR Θ)) (h.mono λr u _ H hw=>hw.eq (G hm u H) ho (hb u H) ρ (hc.sub λy hy=>(mu _ hu y).2 ⟨u,H,hy⟩));simpa using this
  rw [e];rfl
def WR.le {on:Bool}{u:U}{k:Nat}{p:P}{σ τ:Nat->Nat}{Θ r:Tx}(h:WR on u τ Θ r)(d:Den k p σ u):r.length<=p.text.length:=by
 have G:=h.len;have H:=pk d.ae;rw [T.aQ];omega
structure wR (w0 w:World)(bm:Nat)(br on:Bool)(c:UInt8)(o:Option Nat):Prop where
 kp:Kp w0 w (λg=>g=bm)
 mm:MK w bm br on
 bx:∀b,o=some b->b≠bm/\b< w.heap.size/\w.cell? ⟨b,0,none⟩=some (.int .u8 c.toNat)
def wR.step {w0 w w':World}{bm:Nat}{br G on:Bool}{c:UInt8}{o:Option Nat}(h:wR w0 w bm br on c o)(H:Kp w w' (λg=>g=bm))(hm:MK w' bm G on):wR w0 w' bm G on c o:=
 ⟨Kp.trans h.kp H λ _ _ h=>h,hm,λb hb=>by
  obtain⟨J,Z,h3⟩:=h.bx b hb;refine⟨J,O1 Z H.size,?_⟩;rw [Ow (w:=w) (H.block b Z J)];exact h3⟩
def wR.ex {w0 w w':World}{bm:Nat}{br on:Bool}{c:UInt8}{o:Option Nat}(h:wR w0 w bm br on c o)(G:Ex w w'):wR w0 w' bm br on c o:=
 h.step (Kp.ab G _) (h.mm.ex G)
def wR.box {w0 w w':World}{bm b:Nat}{br on:Bool}{c:UInt8}(h:wR w0 w bm br on c none)(hb:b=w.heap.size)(hw:w'=w.alloc (.cells #[.int .u8 c.toNat] 5)):wR w0 w' bm br on c (some b):=by
 have G:Ex w w':=hw▸Ex.alloc w _;have :=h.mm.lt;refine⟨(h.ex G).kp,(h.ex G).mm,λH e=>?_⟩;cases e;subst hb hw;exact⟨by omega,by rw [size_alloc];omega,aa rfl⟩
def wR.conv {w0 w:World}{bm b:Nat}{br on:Bool}{c:UInt8}(h:wR w0 w bm br on c (some b)):∀(j:Nat) (x:UInt8),[c][j]?=some x->w.cell? ⟨b,0+j,none⟩=some (.int .u8 x.toNat):=by
 intro j x G
 match j,G with
 | 0,G=>simp at G;subst G;exact(h.bx b rfl).2.2
def Own.kp {B:Nat}{w w':World}{v:Value}{l:List Tx}{S:Nat->Prop}(h:Own B w v l)(k:Kp w w' S)(H:∀g,v.ownBlock=some g->¬S g):Own B w' v l:=by
 refine⟨h.1,?_⟩;rcases h.2 with J | ⟨g,cap,cur,rfl,hb,G,rest⟩
 ·exact .inl J
 ·exact .inr ⟨g,cap,cur,rfl,hb,by rw [k.block g (Ph.1 G).1 (H g rfl)];exact G,rest⟩
def MK.same {w w':World}{bm:Nat}{br on:Bool}(h:MK w bm br on)(G:w.heap.size<=w'.heap.size)(hb:w'.heap[bm]?=w.heap[bm]?):MK w' bm br on:=
 ⟨O1 h.lt G,by rw [Ow (w:=w) hb];exact h.c0,by rw [Ow (w:=w) hb];exact h.c1,by rw [O7 (w:=w) hb];exact h.f0⟩
def MK.below {w w':World}{bm B:Nat}{br on:Bool}(h:MK w bm br on)(k:Below B w w')(hb:bm< B):MK w' bm br on:=h.same k.size (k.block bm hb)
def Own.below {B C:Nat}{w w':World}{v:Value}{l:List Tx}(h:Own B w v l)(k:Below C w w')(G:∀g,v.ownBlock=some g->g< C):Own B w' v l:=by
 refine⟨h.1,?_⟩;rcases h.2 with H | ⟨g,cap,cur,rfl,hb,J,rest⟩
 ·exact .inl H
 ·exact .inr ⟨g,cap,cur,rfl,hb,by rw [k.block g (G g rfl)];exact J,rest⟩
def Kp.Ny {w w':World}{B:Nat}(h:Below B w w')(hB:w.heap.size<=B)(S:Nat->Prop):Kp w w' S:=⟨h.os,h.tape,h.output,h.size,λg G _=>h.block g (by omega)⟩
def Kp.Hw {w w1 w':World}{B:Nat}{S:Nat->Prop}(h:Kp w w1 S)(k:Below B w1 w')(hB:w.heap.size<=B):Kp w w' S:=
 ⟨k.os.trans h.os,k.tape.trans h.tape,k.output.trans h.output,Pq h.size k.size,λg G H=>(k.block g (by omega)).trans (h.block g G H)⟩
def aO.snoc {A B:Type}{R:A->B->Prop}{l:List A}{m:List B}{a:A}{b:B}(h:aO R l m)(k:R a b):aO R (l++[a]) (m++[b]):=h.append (aO.one k)
def GA {n:Nat}(ζ:Gt n):zR (n+1):=by
 intro k p σ t Θ w bm br on R hn d hth hpl hlv η G γ h;refine kV _ _ _ w R ?_;dsimp only [go_sem];dsimp only [go_sem,Nat.reduceAdd];refine aT d.ok ?_;have hw:=d.wf;have hl:=d.len;have ε:=d.ae;cases p<;>cases t<;>(try exact ε.elim)<;>(try (cases hth;done))
 case snd.snd a b p a' b' u=>
  simp only [T.kind]
  repeat' first | refine aW (by decide) ?_ | refine df (by decide) ?_ | refine cH (by decide) ?_ | refine ee (by decide) ?_
  simp only [T.wf,OA]at hw;simp only [T.size]at hn;simp only [T.text,Ov]at hl;have ξ:(T.snd a b p).text.length=p.text.length+4:=by simp [T.text]
  refine⟨λ _=>True,λw1 δ=>⟨trivial,cZ d.ok ⟨trivial,⟨by simp only [T.hd];omega,by simp only [T.hd];omega⟩,cZ d.ok ⟨trivial,⟨by simp only [T.hd];omega,by simp only [T.hd];omega⟩,?_⟩⟩⟩⟩;have e1:List.drop (Int.toNat ((T.snd a b p).hd:Int)) (T.snd a b p).text=p.text:=rfl;have e2:List.take (Int.toNat ((T.snd a b p).hd:Int)) (T.snd a b p).text=[a,33,b,46]:=rfl;rw [e1,e2];have hx:Ex w w1:=δ▸Ex.drew w;refine ζ (by omega) d.snd (d.snd.lb d.bd.le) (λz hz=>η z (.inr (.inr hz))) (G.sub (OB _) λy hy=> .inr (.inr hy)) (γ.ex hx) λr Z α β hr=>?_
  have ο:=hr.le d.snd;refine⟨trivial,by simp only [Ov,ON];omega,h _ Z (Kp.trans (Kp.ab hx _) α λ _ _ h=>h) (by rw [fA];exact β) (TR.snd hw.1.1 hw.1.2 ε.1 ε.2.1 hr)⟩
 case tau.tau p u=>
  simp only [T.kind]
  repeat' first | refine aW (by decide) ?_ | refine df (by decide) ?_ | refine cH (by decide) ?_ | refine ee (by decide) ?_
  simp only [T.size]at hn;simp only [T.text,Ov]at hl;have ξ:(T.tau p).text.length=p.text.length+2:=by simp [T.text]
  refine⟨λ _=>True,λw1 δ=>⟨trivial,cZ d.ok ⟨trivial,⟨by simp only [T.hd];omega,by simp only [T.hd];omega⟩,cZ d.ok ⟨trivial,⟨by simp only [T.hd];omega,by simp only [T.hd];omega⟩,?_⟩⟩⟩⟩;have e1:List.drop (Int.toNat ((T.tau p).hd:Int)) (T.tau p).text=p.text:=rfl;have e2:List.take (Int.toNat ((T.tau p).hd:Int)) (T.tau p).text=[126,46]:=rfl;rw [e1,e2];have hx:Ex w w1:=δ▸Ex.drew w;refine ζ (by omega) d.tau (d.tau.lb d.bd.le) (λz hz=>η z hz) (G.sub (OB _) λy hy=>hy) (γ.ex hx) λr Z α β hr=>?_
  have ο:=hr.le d.tau;refine⟨trivial,by simp only [Ov,ON];omega,h _ Z (Kp.trans (Kp.ab hx _) α λ _ _ h=>h) (by rw [fv];exact β) (TR.tau hr)⟩
 case rep.rep p u=>
  simp only [T.kind]
  repeat' first | refine aW (by decide) ?_ | refine df (by decide) ?_ | refine cH (by decide) ?_ | refine ee (by decide) ?_
  simp only [T.size]at hn;simp only [T.text,Ov]at hl;have ξ:(T.rep p).text.length=p.text.length+1:=by simp [T.text]
  refine⟨⟨by omega,by omega⟩,?_⟩;have e1:List.drop (Int.toNat 1) (T.rep p).text=p.text:=rfl;rw [e1];refine ζ (by omega) d.rep (d.rep.lb d.bd.le) (λz hz=>η z hz) (G.sub (OB _) λy hy=>hy) γ λr Z α β hr=>?_
  have ο:=hr.le d.rep;refine⟨by simp only [Ov,ON];omega,h _ Z α (by rw [fH];exact β) (TR.rep hr)⟩
 case mat.mat a b p a' b' u=>
  simp only [T.kind]
  repeat' first | refine aW (by decide) ?_ | refine df (by decide) ?_ | refine cH (by decide) ?_ | refine ee (by decide) ?_
  simp only [T.wf,OA]at hw;simp only [T.size]at hn;simp only [T.text,Ov]at hl;have ξ:(T.mat a b p).text.length=p.text.length+5:=by simp [T.text]
  have hab:a'≠b':=hpl;have hud:u.dead=false:=hlv;have hpd:p.dead=false:=by rw [ε.2.2.dead];exact hud
  have e1:List.drop (Int.toNat 5) (T.mat a b p).text=p.text:=rfl;have e2:List.drop (Int.toNat 3) (List.take (Int.toNat 4) (T.mat a b p).text)=[b]:=rfl;have e3:List.drop (Int.toNat 1) (List.take (Int.toNat 2) (T.mat a b p).text)=[a]:=rfl;have eb:Op.bytesLess [b] [a]=decide (b< a):=by
   rw [R1,PG,OK,OK,List.cons_lt_cons_iff];simp
  rw [e1,e2,e3,eb];refine⟨λ _=>True,λw1 δ=>⟨trivial,⟨by omega,by omega,by omega⟩,⟨by omega,by omega,by omega⟩,?_⟩⟩;have hx:Ex w w1:=δ▸Ex.drew w;have sub:∀y,u.Us y->(T.mat a' b' u).Us y:=λy hy=> .inr ⟨hab,hud,.inr (.inr hy)⟩
  have dm:=d.mat hpd;have key:∀{K:aD->Sb},(∀r Z,r.length<=1099511627776->Kp w Z (λg=>g=bm)->MK Z bm (br||decide (5< ay (tl [T.mat a' b' u]))) on->TR on (.mat a' b' u) σ Θ (91::(if b< a then b else a)::61::(if b< a then a else b)::93::r)->K r Z)->
    Sc 203 #[.pointer (some ⟨bm,0,none⟩),.string (ak p.text),.string (ak Θ)] w1 (aw [.s] K):=λhk=>by
   refine ζ (by omega) dm (dm.lb d.bd.le) (λz hz=>η z (.inr (.inr hz))) (G.sub (OB _) sub) (γ.ex hx) λr Z α β hr=>?_
   have ο:=hr.le dm;exact hk r Z (by omega) (Kp.trans (Kp.ab hx _) α λ _ _ h=>h) (by rw [dw];exact β) (TR.mat hab hud hw.1.1 hw.1.2 ε.1 ε.2.1 hr)
  refine⟨λH=>?_,λH=>?_⟩
  ·have H:=OW H;refine⟨by simp,by simp,by simp,by simp,⟨by omega,by omega⟩,key λr Z J h2 h3 h4=>⟨by simp only [Oy,Ov,ON];omega,?_⟩⟩;simp only [O' H]at h4;exact h _ Z h2 h3 h4
  ·have H:=OX H;refine⟨by simp,by simp,by simp,by simp,⟨by omega,by omega⟩,key λr Z J h2 h3 h4=>⟨by simp only [Oy,Ov,ON];omega,?_⟩⟩;simp only [OP H]at h4;exact h _ Z h2 h3 h4
 case sum.sum p q u v=>
  simp only [T.kind]
  repeat' first | refine aW (by decide) ?_ | refine df (by decide) ?_ | refine cH (by decide) ?_ | refine ee (by decide) ?_
  have hpu:u.dead=false/\v.dead=false:=hpl;have ς:ax (T.sum u v)≠[]:=pN (by simp [T.dead,hpu.1]) d.uq;refine zi _ (OB _) d λvs Z ps υ ι hps hgs=>?_
  have hsz:(ax (T.sum u v)).length<=(T.sum p q).size:=by rw [d.ae.size];exact dD _
  have hszt:=bz (T.sum p q);have hl':(T.sum p q).text.length<=1099511627776:=hl;have ω:(ps.map T.text).length=(ax (T.sum u v)).length:=by rw [OM,hps.1]
  have hbm:bm< Z.heap.size:=O1 γ.lt υ.size;have hvb:∀g,vs.ownBlock=some g->g< Z.heap.size:=λg hg=>(ι.block g hg).2
  have hvn:∀g,vs.ownBlock=some g->¬g=bm:=λg hg e=>by
   have :=(ι.block g hg).1;have :=γ.lt;omega
  obtain⟨av,cap,hv⟩:=ι.strs.slice;have hlen:=ι.1;refine⟨av,_,cap,hv,λlist x w'=>∃(i:Nat) (rs:List Tx),x=i/\i<=(ax (T.sum u v)).length/\Kp w w' (λg=>g=bm)/\MK w' bm (br||((ax (T.sum u v)).take i).any λu=>decide (5< bc u)) on/\
   Z.heap.size<=w'.heap.size/\Own Z.heap.size w' list rs/\Own w.heap.size w' vs (ps.map T.text)/\aO (λr u=>WR on u σ Θ r) rs ((ax (T.sum u v)).take i),λ _ x _=>((ax (T.sum u v)).length - x).toNat,?_,λlist x w3 hI=>?_⟩
  ·exact⟨0,[],rfl,by omega,Kp.ab υ _,by simpa using γ.ex υ,OB _,Own.nil _ _,ι,aO.nil⟩
  obtain⟨i,rs,rfl,hi,hk3,hm3,hs3,ho3,hv3,θ⟩:=hI;refine⟨λH=>?_,λH=>?_⟩
  ·have H:=OW H;rw [ω]at H;have φ:i< (ax (T.sum u v)).length:=by omega
   have hip:i< ps.length:=by rw [hps.1];exact φ
   refine hv3.strs.get (Ex.refl w3) (i:=i) (x:=(ps[i]).text) (by omega) (by simp [hip]) ?_;obtain⟨m,τ,hkm,dp,hτ,hlo⟩:=hps.2 i _ _ (Ox hip) (Ox φ);have hmem:(ax (T.sum u v))[i]∈ax (T.sum u v):=Oz _;have hus:∀y,((ax (T.sum u v))[i]).Us y->(T.sum u v).Us y:=λy hy=>(mu _ d.uq y).2 ⟨_,hmem,hy⟩
   have hτu:∀y,((ax (T.sum u v))[i]).Us y->τ y=σ y:=λy hy=>hτ y (d.uq.Ep (hus y hy))
   have hszi:ps[i].size<=n:=by
    rw [dp.ae.size];have J:((ax (T.sum u v))[i]).size<=u.size+v.size:=by
     have hmem':(ax (T.sum u v))[i]∈ax u++ax v:=hmem;rcases OH.1 hmem' with h | h
     ·have :=mR u _ h;omega
     ·have :=mR v _ h;omega
    have h2:(T.sum p q).size=(T.sum u v).size:=d.ae.size;simp only [T.size]at hn h2;omega
   have hgfp:GF 0 ps[i]:=hgs _ (Oz _) 0 η;refine ζ hszi dp (dp.lb (by have :=d.bd.le;simp only [T.pm]at this;simp only [T.rd,T.ow]at hlo;omega)) hgfp ⟨G.srt,λc H=>⟨(G.okn c H).1.mono hkm,(G.okn c H).2⟩,λy hy=>by rw [hτu y hy];exact G.cov y (hus y hy)⟩ hm3 λr w4 χ hm4 hr=>?_
   intro b5 w5 hb5 hw5;have κ:Ex w4 w5:=hw5▸Ex.alloc w4 _;have ho4:Own Z.heap.size w5 list rs:=(ho3.kp χ λg hg e=>by have :=(ho3.block g hg).1;omega).ex κ;have hsz4:=χ.size;have hsz5:=κ.size;have hrsl:rs.length=i:=by rw [θ.1,Pd];omega
   refine Own.push ho4 (by omega) (Strs.one hb5 hw5) (by simp only [Ov,ON];omega) λv6 w6 ψ ho6 _ _=>?_
   refine⟨by omega,⟨i+1,rs++[r],by omega,by omega,?_,?_,?_,ho6,?_,?_⟩,by dsimp only;omega⟩
   ·exact Kp.Hw (Kp.trans (Kp.trans hk3 χ λ _ _ h=>h) (Kp.ab κ _) λ _ _ h=>h) ψ υ.size
   ·have hm5:=(hm4.ex κ).below ψ hbm;rw [OC φ,List.any_append,<-Qg];simpa using hm5
   ·have :=ψ.size;omega
   ·exact((hv3.kp χ hvn).ex κ).below ψ hvb
   ·rw [OC φ];exact θ.snoc (hr.env hτu)
  ·have H:=OX H;rw [ω]at H;have e:i=(ax (T.sum u v)).length:=by omega
   subst e;rw [O4]at hm3 θ;have hll:=θ.dk;have ht2:=eC (T.sum u v);have htl:=pk d.ae;have hle:dk rs<=1099511627776+3:=by rw [T.aQ]at hl';omega
   have hrsl:rs.length=(ax (T.sum u v)).length:=θ.1;have hrs:rs≠[]:=λe=>ς (Pa (by rw [<-hrsl,e];rfl))
   refine oX ho3.strs (by omega) λv4 w4 hx4 ho4=>?_
   have hsn:aK rs≠[]:=λe=>hrs (by have :=aG rs;rw [e]at this;exact this.symm.eq_nil)
   refine qp ho4.strs hsn (by rw [mS (aG rs)];omega) ?_;refine h _ w4 (Kp.trans hk3 (Kp.ab hx4 _) λ _ _ h=>h) ?_ (TR.sum d.uq ς θ);have e2:(ax (T.sum u v)).any (λu=>decide (5< bc u))=decide (5< ay (tl [T.sum u v])):=by
    rw [PG,QH,OK];have etl:tl [T.sum u v]= .sum (tp (ax (T.sum u v))) .nil:=rfl;have hmx:ay (.sum (tp (ax (T.sum u v))) .nil)=ay (tp (ax (T.sum u v))):=by simp [ay]
    rw [etl,hmx,<-Nat.not_le,yR];constructor
    ·rintro⟨x,J,h2⟩ h3
     have :=h3 x J;have :=OW h2;omega
    ·intro J;refine P1 λh2=>J λx hx=>?_
     rcases Qi 5 (bc x)with h3 | h3
     ·exact absurd ⟨x,hx,P2 h3⟩ h2
     ·exact h3
   rw [<-e2];exact hm3.ex hx4
 case rcv.rcv a x p a' x' u=>
  simp only [T.kind]
  repeat' first | refine aW (by decide) ?_ | refine df (by decide) ?_ | refine cH (by decide) ?_ | refine ee (by decide) ?_
  simp only [T.wf,OA]at hw;simp only [T.size]at hn;simp only [T.text,Ov]at hl;have ξ:(T.rcv a x p).text.length=p.text.length+4:=by simp [T.text]
  have hΘ:=G.srt.bound;refine jh (by omega) λc hc0=>?_
  have hbd:=d.bd.le;simp only [T.pm]at hbd;have H:B5 k Θ c:=B5.of (by omega) G.okn hc0;have okp:=d.ok.parts p (by simp [T.parts]);have hbdp:=T.we p;have e1:List.drop (Int.toNat 4) (T.rcv a x p).text=p.text:=rfl;have e2:bt (T.rcv a x p).text (Int.toNat 2)=x:=rfl;have e3:List.take (Int.toNat 2) (T.rcv a x p).text=[a,63]:=rfl;rw [e1,e2,e3];refine⟨λ _=>True,λw1 δ=>⟨trivial,⟨by omega,by omega⟩,⟨by omega,by omega⟩,⟨by omega,by omega⟩,?_⟩⟩;have hst:wR w w1 bm br on c none:=⟨Kp.ab (δ▸Ex.drew w) _,γ.ex (δ▸Ex.drew w),λb hb=>by cases hb⟩
  have renL:∀{o:Option Nat} {wx:World} {K:aD->Sb},wR w wx bm br on c o->(∀q wy,wR w wy bm br on c o->dq (k+1) p x c q->K q.text wy)->Sc 112 #[.string (ak p.text),.int .u8 x.toNat,.int .u8 c.toNat] wx (aw [.s] K):=λhs hK=>
   dz _ (OB _) okp d.bd.eb.2.2 (by omega) H.nm H.okn λq wy hx hq=>hK q wy (hs.ex hx) hq
  have addL:∀{o:Option Nat} {wx:World} {K:aD->Sb},wR w wx bm br on c o->(∀s wy,wR w wy bm br on c o->(lR s/\∀x,x∈s↔x=c\/x∈Θ)->K s wy)->Sc 145 #[.string (ak Θ),.int .u8 c.toNat] wx (aw [.s] K):=λhs hK=>
   hU G.srt λs' wy hx J h2=>hK s' wy (hs.ex hx) ⟨J,h2⟩
  have whoL:∀{o:Option Nat} {wx:World} {K:aD->Sb} {q:P} {s:Tx},wR w wx bm br on c o->dq (k+1) p x c q->(lR s/\∀x,x∈s↔x=c\/x∈Θ)->
    (∀r wy,wR w wy bm (br||decide (5< ay (tl [T.rcv a' x' u]))) on c o->(TR on (.rcv a' x' u) σ Θ (a::63::c::46::r)/\r.length<=1099511627776)->K r wy)->Sc 203 #[.pointer (some ⟨bm,0,none⟩),.string (ak q.text),.string (ak s)] wx (aw [.s] K):=λ{o wx K q s} hs hq μ hK=>by
   have dr:=d.rcv hq λz hz ς e=>by
    obtain⟨c',J,h2⟩:=G.cov z (.inr ⟨ς,hz⟩);have:c'=c:=OU.1 (h2.trans e);exact H.nin (this▸J)
   have hsz:=T.pO hq.shp;refine ζ (by omega) dr (dr.lb (by rw [T.MD hq.shp,T.GB hq.shp];omega)) (λz hz hg=>?_) ⟨μ.1,λc' hc'=>?_,λy hy=>?_⟩ hs.mm λr wy α β hr=>?_
   ·rcases hq.ok.free z hz with J | J | J
    ·exact absurd hg (dW (J▸H.ngr))
    ·exact η z (.inr ⟨J.1,J.2⟩) hg
    ·exact absurd hg (dW (J.1▸d.bd.eb.2.1.1))
   ·rcases(μ.2 c').1 hc' with J | J
    ·rw [J];exact⟨H.okn,H.ngr⟩
    ·exact⟨(G.okn c' J).1.mono (by omega),(G.okn c' J).2⟩
   ·by_cases e:y=x'
    ·subst e;exact⟨c,(μ.2 c).2 (.inl rfl),by rw [cE]⟩
    ·obtain⟨c',J,h2⟩:=G.cov y (.inr ⟨e,hy⟩);exact⟨c',(μ.2 c').2 (.inr J),by rw [bE _ _ e];exact h2⟩
   ·have ο:=hr.le dr;have hlq:q.text.length=p.text.length:=by rw [T.aQ,T.gn hq.shp,<-T.aQ]
    refine hK r wy (hs.step α (by rw [fP];exact β)) ⟨TR.rcv hw.1.1 ε.1 H μ.2 hr,by omega⟩
  have fin:∀{o:Option Nat} {wx:World} {r:Tx},wR w wx bm (br||decide (5< ay (tl [T.rcv a' x' u]))) on c o->(TR on (.rcv a' x' u) σ Θ (a::63::c::46::r)/\r.length<=1099511627776)->R (((([a,63]++[c])++[46])++r)) wx:=λhs hr=>h _ _ hs.kp hs.mm hr.1
  have bnd:∀{r:Tx},(TR on (.rcv a' x' u) σ Θ (a::63::c::46::r)/\r.length<=1099511627776)->List.length (([a,63]++[c])++[46])+List.length r<=4611686018427387904:=λhr=>by
   have :=hr.2;simp only [Oy,Ov,ON];omega
  repeat' first
   | (refine renL (by assumption) ?_;intro q wy ν hq;refine⟨trivial,?_⟩)
   | (refine addL (by assumption) ?_;intro s wy ν hs;refine⟨trivial,?_⟩)
   | (refine whoL (by assumption) (by assumption) (by assumption) ?_;intro r wy ν hr;refine⟨trivial,?_⟩)
   | exact fin (by assumption) (by assumption)
   | exact bnd (by assumption)
   | (refine⟨_,0,1,1,[c],rfl,rfl,wR.conv (by assumption),trivial,by simp,by simp,?_⟩)
   | (refine⟨?_,?_⟩)
   | (intro b Z hb hw2;have ν:=wR.box (by assumption) hb hw2;refine⟨trivial,?_⟩)
def kH {α β:Type}{g:α->β}:∀{l:List α} {m:List β},m.Perm (l.map g)->∃π:List α,π.Perm l/\m=π.map g
 | [],m,h=>⟨[],PI _,by simpa using h⟩
 | a::l,m,h=>by
  have hm:g a∈m:=h.symm.subset (by simp);obtain⟨s,t,rfl⟩:=List.append_of_mem hm;have G:(s++t).Perm (l.map g):=(R0 (g a)).1 (Ri.symm.trans (by simpa using h));obtain⟨π,H,h4⟩:=kH G;obtain⟨x,y,rfl,h5,J⟩:=List.append_eq_map_iff.1 h4;refine⟨x++a::y,Ri.trans (List.Perm.cons a H),?_⟩;simp [h5,J]
def rnv:List UInt8->List UInt8->Nat->Nat
 | o::os,l::ls,n=>rnv os ls (if n=o.toNat then l.toNat else n)
 | _,_,n=>n
def AN:∀(os ls:List UInt8) (o l:UInt8) (n:Nat),os.length=ls.length->rnv (os++[o]) (ls++[l]) n=if rnv os ls n=o.toNat then l.toNat else rnv os ls n
 | [],[],o,l,n,_=>rfl
 | [],_::_,_,_,_,h=>by cases h
 | _::_,[],_,_,_,h=>by cases h
 | a::os,b::ls,o,l,n,h=>by
  simp only [PC,rnv];exact AN os ls o l _ (by simpa using h)
def zo:∀(os ls:List UInt8) (n:Nat),(∀o∈os,n≠o.toNat)->rnv os ls n=n
 | [],_,_,_=>by simp [rnv]
 | _::_,[],_,_=>by simp [rnv]
 | a::os,b::ls,n,h=>by
  rw [rnv,OP (h a (by simp))];exact zo os ls n λo G=>h o (OJ _ G)
def DN:∀(π:List Nat) (os ls:List UInt8) (g:Nat->Nat) (ρ:Rh) (y:Nat),os.map UInt8.toNat=π.map g->π.length=ls.length->(∀l∈ls,l∉os)->y∈π->(∀z∈π,g z=g y->z=y)->os.Nodup->
  rnv os ls (g y)=(asg π ls ρ y).toNat
 | [],_,_,_,_,_,_,_,_,h,_,_=>by cases h
 | z::π,[],_,_,_,_,h,_,_,_,_,_=>by simp at h
 | _::_,_::_,[],_,_,_,_,h,_,_,_,_=>by cases h
 | z::π,o::os,l::ls,g,ρ,y,h,hl,hd,hy,hi,G=>by
  simp only [O3,Po]at h;have G:=PB.1 G;have H:∀J∈os,l.toNat≠J.toNat:=λJ ho e=>hd l (by simp) (by rw [OU.1 e];exact OJ _ ho)
  rw [rnv,asg];by_cases e:y=z
  ·subst e;rw [O' h.1.symm,zo os ls _ H];by_cases hyp:y∈π
   ·exfalso;have:g y∈π.map g:=Qb hyp;rw [<-h.2,<-h.1]at this;obtain⟨J,h1,h2⟩:=Pf.1 this;exact G.1 (OU.1 h2▸h1)
   ·rw [bB π ls _ y hyp];simp [aI]
  ·have hyp:y∈π:=(OY.1 hy).resolve_left e;have Z:¬g y=o.toNat:=λh'=>e ((hi z (by simp) (h.1.symm.trans h'.symm)).symm)
   rw [OP Z];exact DN π os ls g _ y h.2 (by simpa using hl) (λl' α β=>hd l' (OJ _ α) (OJ _ β)) hyp (λx hx=>hi x (OJ _ hx)) G.2
structure H5 (k m:Nat)(Θ ls A:Tx):Prop where
 len:ls.length=m
 nd:ls.Nodup
 ok:∀c∈ls,c∉Θ/\okn (k+m) c/\ngr c/\nm c=true
 srt:lR A
 mem:∀c,c∈A↔c∈Θ\/c∈ls
def TR.env {on:Bool}{u:U}{σ τ:Nat->Nat}{Θ r:Tx}(h:TR on u σ Θ r)(he:∀y,u.Us y->σ y=τ y):TR on u τ Θ r:=
 ⟨h.ne,h.len,h.cnt,h.bad,λa b c ρ H=>h.eq a b c ρ λy G=>(H y G).trans (he y G).symm⟩
def TR.le {on:Bool}{u:U}{k:Nat}{p:P}{σ τ:Nat->Nat}{Θ r:Tx}(h:TR on u τ Θ r)(d:Den k p σ u):r.length<=p.text.length:=by
 have G:=h.len;have H:=pk d.ae;rw [T.aQ];omega
structure NF (M:Nat)(p:P)(t:U)(τ:Nat->Nat)(Θ o ls:Tx)(i:Nat)(q:P):Prop where
 den:Den M q (λy=>rnv (o.take i) (ls.take i) (τ y)) t
 shp:q.shp=p.shp
 gf:∀z,q.Fr z->Lf z->z∈o.drop i
 cov:∀y,t.Us y->∃c:UInt8,c.toNat=rnv (o.take i) (ls.take i) (τ y)/\(c∈Θ\/c∈ls.take i\/c∈o.drop i)
def tR {l:Tx}{i:Nat}(h:i< l.length):l.drop i=bt l i::l.drop (i+1):=bI h
def iR {l:Tx}{i:Nat}(h:i< l.length):l.take (i+1)=l.take i++[bt l i]:=by
 rw [OC h];simp [bt,h]
def NF.step {M k m:Nat}{p q q':P}{t:U}{τ:Nat->Nat}{Θ o ls A:Tx}{i:Nat}(h:NF M p t τ Θ o ls i q)(κ:∀c∈Θ,ngr c)(δ:H5 k m Θ ls A)(ho:o.length=m)(ε:∀c∈o,Lf c)(hi:i< m)
  (hr:dq M q (bt o i) (bt ls i) q'):NF M p t τ Θ o ls (i+1) q':=by
 have γ:i< o.length:=by omega
 have β:i< ls.length:=by rw [δ.len];exact hi
 have hlen:(o.take i).length=(ls.take i).length:=by rw [Pd,Pd];omega
 have e:∀y,rnv (o.take (i+1)) (ls.take (i+1)) (τ y)=if rnv (o.take i) (ls.take i) (τ y)=(bt o i).toNat then(bt ls i).toNat else rnv (o.take i) (ls.take i) (τ y):=λy=>by
  rw [iR γ,iR β,AN _ _ _ _ _ hlen]
 have H:=δ.ok _ (rB β);have θ:bt ls i∉ls.take i:=λhm=>by
  have ζ:=δ.nd;rw [<-PV i ls,tR β]at ζ;exact(Pg.1 ζ).2.2 _ hm _ (by simp) rfl
 have ι:bt ls i∉o.drop i:=λhm=>dW H.2.2.1 (ε _ (List.mem_of_mem_drop hm))
 have J:∀y,t.Us y->rnv (o.take i) (ls.take i) (τ y)≠(bt ls i).toNat:=λy hy he=>by
  obtain⟨c,Z,G⟩:=h.cov y hy;have hc:c=bt ls i:=OU.1 (Z.trans he);rcases G with G | G | G
  ·exact H.1 (hc▸G)
  ·exact θ (hc▸G)
  ·exact ι (hc▸G)
 refine⟨⟨hr.wf,?_,⟨hr.eb,?_⟩,?_,?_,h.den.uq⟩,hr.shp.trans h.shp,λz hz hg=>?_,λy hy=>?_⟩
 ·have :=h.den.len;rw [T.aQ,T.gn hr.shp,<-T.aQ];exact this
 ·rw [T.um hr.shp];exact h.den.bd.le
 ·have hh:=h.den.ae.renamed hr.ok (λx _ e=>OU.1 e);have e':(λy=>rnv (o.take (i+1)) (ls.take (i+1)) (τ y))=λy=>if rnv (o.take i) (ls.take i) (τ y)=(bt o i).toNat then(bt ls i).toNat else rnv (o.take i) (ls.take i) (τ y):=funext e
  rw [e'];exact hh
 ·intro y z hy hz α;simp only [e]at α;have η:=h.den.inj y z hy hz;split at α<;>split at α
  ·rename_i Z G;exact η (Z.trans G.symm)
  ·exact absurd α.symm (J z hz)
  ·exact absurd α (J y hy)
  ·exact η α
 ·rcases hr.ok.free z hz with Z | Z | Z
  ·exact absurd hg (dW (Z▸H.2.2.1))
  ·have :=h.gf z Z.2 hg;rw [tR γ]at this;exact(OY.1 this).resolve_left Z.1
  ·have hh:=ε _ (rB γ);rw [Z.2.2]at hh;exact absurd hh (dW H.2.2.1)
 ·obtain⟨c,Z,G⟩:=h.cov y hy;rw [e];by_cases hc:rnv (o.take i) (ls.take i) (τ y)=(bt o i).toNat
  ·rw [O' hc];exact⟨bt ls i,rfl,.inr (.inl (by rw [iR β];simp))⟩
  ·rw [OP hc];refine⟨c,Z,?_⟩;rcases G with G | G | G
   ·exact .inl G
   ·exact .inr (.inl (by rw [iR β];simp [G]))
   ·rw [tR γ]at G;rcases OY.1 G with h3 | h3
    ·exact absurd (Z.symm.trans (by rw [h3])) hc
    ·exact .inr (.inr h3)
def aO.Hl {on:Bool}{σ:Nat->Nat}{Θ:Tx}:∀{rs:List Tx} {us:List U},aO (λr u=>TR on u σ Θ r) rs us->Proofs.YthekamjhgabkjaaGreat.dk rs<=j8 us
 | [],[],_=>by simp [Proofs.YthekamjhgabkjaaGreat.dk,j8]
 | [],_::_,h=>by have :=h.1;simp at this
 | _::_,[],h=>by have :=h.1;simp at this
 | r::rs,u::us,h=>by
  have H:=(h.2 0 r u rfl rfl).len;have G:=aO.Hl (rs:=rs) (us:=us) (on:=on) (σ:=σ) (Θ:=Θ) ⟨by have :=h.1;simpa using this,λi a b ha hb=>h.2 (i+1) a b (by simpa using ha) (by simpa using hb)⟩;rw [eI];simp only [j8,O3,Py,Ov]at G|-;omega
def Ak (on:Bool)(σ:Nat->Nat)(u:U)(o ls A r:Tx):Prop:=
 ∃rs:List Tx,r=joinS 38 (aK rs)/\aO (λr t=>TR on t (λy=>rnv o ls (asgN (an u).1 0 σ y)) A r) rs (an u).2
def J9 {n:Nat}(iht:zR n){k:Nat}{σ:Nat->Nat}{u:U}{Θ A o ls:Tx}{ps:List P}{on br:Bool}{bm B:Nat}{vt:Value}{w:World}{R:aD->Sb}
  (hu:Uq u) (hne:(an u).2≠[]) (hb:∀p∈ps,k+(an u).1.length+p.rd+p.ow<=64) (hsz:∀p∈ps,p.size<=n) (δ:zB k Θ σ u) (υ:aO (JI k σ u 0) ps (an u).2) (G:H5 k (an u).1.length Θ ls A) (ho:o.Perm (iF (an u).1.length))
  (hm64:(an u).1.length<=64) (ε:Own B w vt (ps.map T.text)) (hB:bm< B) (φ:MK w bm br on) (htl:j8 (an u).2<=1099511627776+3)
  (h:∀r w',Kp w w' (λg=>g=bm)->MK w' bm (br||(an u).2.any λt=>decide (5< ay (tl [t]))) on->Ak on σ u o ls A r->R r w'):
  Sc 243 #[.pointer (some ⟨bm,0,none⟩),vt,.string (ak o),.string (ak ls),.string (ak A)] w (aw [.s] R):=by
 refine lX _ vt o ls A w R ?_;dsimp only [go_sem];dsimp only [go_sem,Nat.reduceAdd];have χ:o.length=(an u).1.length:=by rw [ho.length_eq,iK]
 have hog:∀c∈o,Lf c:=λc hc=>by
  obtain⟨j,h1,rfl⟩:=iJ.1 (ho.subset hc);exact zq (by omega)
 have hlen:=υ.1;have hbm:=φ.lt;have hlu:3* (an u).2.length<=j8 (an u).2:=by unfold j8;omega
 obtain⟨av,cap,hv⟩:=ε.strs.slice;rw [OM]at hv;refine⟨av,_,cap,hv,λlist x w'=>∃(i:Nat) (rs:List Tx),x=i/\i<=(an u).2.length/\Kp w w' (λg=>g=bm)/\MK w' bm (br||((an u).2.take i).any λt=>decide (5< ay (tl [t]))) on/\
   Own w.heap.size w' list rs/\Own B w' vt (ps.map T.text)/\aO (λr t=>TR on t (λy=>rnv o ls (asgN (an u).1 0 σ y)) A r) rs ((an u).2.take i),λ _ x _=>((an u).2.length - x).toNat,?_,λlist x w3 hI=>?_⟩
 ·exact⟨0,[],rfl,by omega,Kp.ab (Ex.refl w) _,by simpa using φ,Own.nil _ _,ε,aO.nil⟩
 obtain⟨i,rs,rfl,hi,κ,μ,ν,ψ,α⟩:=hI;have hs3:=κ.size;refine⟨λhc=>?_,λhc=>?_⟩
 ·have hc:=OW hc;have ω:i< ps.length:=by omega
  have ξ:i< (an u).2.length:=by omega
  refine ψ.strs.get (Ex.refl w3) (i:=i) (x:=(ps[i]).text) (by omega) (by simp [ω]) ?_;obtain⟨m0,τ,hkm,dp,hτ,hgf⟩:=υ.2 i _ _ (Ox ω) (Ox ξ);have Z:(an u).2[i]∈(an u).2:=Oz _;have ο:ps[i]∈ps:=Oz _;have hbp:=hb _ ο;have hszp:=hsz _ ο;generalize hM:max m0 (k+(an u).1.length)=M;have hM1:m0<=M:=by omega
  have hM2:k+(an u).1.length<=M:=by omega
  have hle:=dp.bd.le;have ο:=T.gh ps[i];have dM:Den M ps[i] τ (an u).2[i]:=⟨dp.wf,dp.len,⟨dp.bd.eb.mono hM1,by omega⟩,dp.ae,dp.inj,dp.uq⟩
  have hus:=lD u hu _ Z;refine⟨λs j w'=>Ex w3 w'/\∃(j':Nat) (q:P),j=j'/\j'<=o.length/\s=q.text/\NF M ps[i] (an u).2[i] τ Θ o ls j' q,λ _ j _=>(o.length - j).toNat,⟨Ex.refl w3,0,ps[i],rfl,by omega,rfl,?_⟩,λs j w4 hJ=>?_⟩
  ·refine⟨by simpa [rnv]using dM,rfl,λz hz hg=>?_,λy hy=>?_⟩
   ·obtain⟨j,h1,h2⟩:=hgf z hz hg;rw [Qk];exact ho.symm.subset (iJ.2 ⟨j,by omega,h2⟩)
   ·simp only [List.take_zero,rnv,Qk];rw [hτ y hy];by_cases β:y∈(an u).1
    ·obtain⟨j,hj,e⟩:=PK.1 β;refine⟨gl j,?_,.inr (.inr (ho.symm.subset (iJ.2 ⟨j,hj,rfl⟩)))⟩;rw [<-e,j0 _ _ _ _ hj (ij u hu),O6]
    ·rw [jn _ _ _ _ β];obtain⟨c,h1,h2⟩:=δ.cov y ((hus y hy).resolve_right β);exact⟨c,h2,.inl h1⟩
  obtain⟨H,j',q,rfl,hj,rfl,hq⟩:=hJ;refine⟨λγ=>?_,λγ=>?_⟩
  ·have γ:=OW γ;have hj':j'< o.length:=by omega
   refine⟨λ _=>True,λw5 hw5=>⟨trivial,⟨by omega,by omega⟩,⟨by omega,by rw [G.len];omega⟩,?_⟩⟩;have hx5:Ex w4 w5:=hw5▸Ex.drew w4;have hlq:=G.ok _ (rB (s:=ls) (i:=j') (by rw [G.len];omega));have hbd:=T.vL q;have hqle:=hq.den.bd.le;rw [OG];refine dz _ (OB _) hq.den.ok hq.den.bd.eb (by omega) hlq.2.2.2 (hlq.2.1.mono hM2) λq' w6 J hq'=>⟨trivial,by omega,⟨(H.trans hx5).trans J,j'+1,q',by omega,by omega,rfl,?_⟩,by dsimp only;omega⟩
   exact hq.step (λc hc=>(δ.okn c hc).2) G χ hog (by omega) hq'
  ·have γ:=OX γ;have ej:j'=o.length:=by omega
   subst ej;have η:=hq.den;have e1:o.take o.length=o:=O4;have e2:ls.take o.length=ls:=by rw [χ,<-G.len];exact O4
   have θ:=hq.cov;simp only [e1,e2]at η θ;have hm4:=μ.ex H;have hszq:=T.pO hq.shp;refine iht (by omega) η (yu u _ Z) (vM u _ Z).1 (vM u _ Z).2 (λz hz hg=>?_) ⟨G.srt,λc hc=>?_,λy hy=>?_⟩ hm4 λr w5 ζ hm5 hr=>?_
   ·have :=hq.gf z hz hg;rw [Qd]at this;cases this
   ·rcases(G.mem c).1 hc with h1 | h1
    ·exact⟨(δ.okn c h1).1.mono (by omega),(δ.okn c h1).2⟩
    ·have :=G.ok c h1;exact⟨this.2.1.mono hM2,this.2.2.1⟩
   ·obtain⟨c,h1,h2⟩:=θ y hy;refine⟨c,(G.mem c).2 ?_,h1⟩;rcases h2 with h2 | h2 | h2
    ·exact .inl h2
    ·exact .inr h2
    ·rw [Qd]at h2;cases h2
   ·intro b6 w6 hb6 hw6;have J:Ex w5 w6:=hw6▸Ex.alloc w5 _;have hbl:∀g,list.ownBlock=some g->¬g=bm:=λg hg e=>by have :=(ν.block g hg).1;omega
    have ho5:Own w.heap.size w6 list rs:=((ν.ex H).kp ζ hbl).ex J;have z4:=H.size;have z5:=ζ.size;have z6:=J.size;have ι:rs.length=i:=by rw [α.1,Pd];omega
    refine Own.push ho5 (by omega) (Strs.one hb6 hw6) (by simp only [Ov,ON];omega) λv7 w7 ς ho7 hg7 _=>?_
    refine⟨by omega,⟨i+1,rs++[r],by omega,by omega,?_,?_,ho7,?_,?_⟩,by dsimp only;omega⟩
    ·exact Kp.Hw (Kp.trans (Kp.trans (Kp.trans κ (Kp.ab H _) λ _ _ h=>h) ζ λ _ _ h=>h) (Kp.ab J _) λ _ _ h=>h) ς (OB _)
    ·have hm6:=(hm5.ex J).below ς hbm;rw [OC ξ,List.any_append,<-Qg];simpa using hm6
    ·have hvn:∀g,vt.ownBlock=some g->¬g=bm:=λg hg e=>by have :=(ε.block g hg).1;omega
     exact(((ψ.ex H).kp ζ hvn).ex J).below ς λg hg=>(ε.block g hg).2
    ·rw [OC ξ];refine α.snoc (hr.env λy hy=>?_);show rnv o ls (τ y)=_;rw [hτ y hy]
 ·have hc:=OX hc;have e:i=(an u).2.length:=by omega
  subst e;rw [O4]at μ α;have ι:rs.length=(an u).2.length:=α.1;have hrs:rs≠[]:=λe=>hne (Pa (by rw [<-ι,e];rfl))
  refine oX ν.strs (by omega) λv4 w4 H ho4=>?_
  have hsn:aK rs≠[]:=λe=>hrs (by have :=aG rs;rw [e]at this;exact this.symm.eq_nil)
  have hll:dk rs<=j8 (an u).2:=α.Hl;refine qp ho4.strs hsn (by rw [mS (aG rs)];omega) ?_;exact h _ w4 (Kp.trans κ (Kp.ab H _) λ _ _ h=>h) (μ.ex H) ⟨rs,rfl,α⟩
section
open Classical
structure Jh (u:U)(ρ:Rh)(tk:Tk):Prop where
 ok:∀y,u.Us y->tk (ρ y)=true/\lt (ρ y)=true
 inj:∀y z,u.Us y->u.Us z->ρ y=ρ z->y=z
def Jh.sub {u v:U}{ρ:Rh}{tk:Tk}(h:Jh u ρ tk)(G:∀y,v.Us y->u.Us y):Jh v ρ tk:=
 ⟨λy H=>h.ok y (G y H),λy z H J=>h.inj y z (G y H) (G z J)⟩
def JV (u:U)(ρ:Rh)(tk:Tk)(t:P)(v:U):Prop:=
 t.text=LS u ρ tk/\AE UInt8.toNat t (λy=>(ρ y).toNat) v/\t.Al (λc=>lt c=true)/\N5 u v
def HO (u:U)(ρ:Rh)(tk:Tk)(t:P)(v:U):Prop:=
 t.text=thU u ρ tk/\AE UInt8.toNat t (λy=>(ρ y).toNat) v/\t.Al (λc=>lt c=true)/\NW u v
def NX {n:Nat}(ih:∀(u:U) (ρ:Rh) (tk:Tk),u.size<=n->Uq u->Jh u ρ tk->dF u tk=false->∃t v,JV u ρ tk t v){t:U}{ρ:Rh}{tk:Tk}(hn:t.size<=n+1)(hu:Uq t)(ξ:Ju t=true)
  (υ:t.dK) (hl:t.dead=false) (hm:Jh t ρ tk) (hb:thBad (tl [t]) tk=false):∃q w,HO t ρ tk q w:=by
 cases t with
 | nil=>cases ξ
 | par=>cases ξ
 | res=>cases ξ
 | snd a b p=>
  simp only [T.size]at hn;rw [jk]at hb;obtain⟨q,v,G,h2,H,h4⟩:=ih p ρ tk (by omega) hu.snd (hm.sub λy hy=> .inr (.inr hy)) hb;have ε:∀x,(T.snd a b v).Us x↔(T.snd a b p).Us x:=λx=>or_congr_right (or_congr_right (h4.us x))
  refine⟨.snd (ρ a) (ρ b) q,.snd a b v,?_,⟨rfl,rfl,h2⟩,⟨(hm.ok a (.inl rfl)).2,(hm.ok b (.inr (.inl rfl))).2,H⟩,?_⟩
  ·simp only [T.text,thU,kText,G]
  ·exact⟨rfl,h4.nr,sg (t:=T.snd a b p) h4.uq.nd h4.nr h4.bv (λx=>(ε x).1) hu,h4.bv,ε,λρ tk=>by simp only [thU,h4.ls],λtk=>by rw [jk,jk,h4.bad],by rw [ra,ra,h4.all],by rw [fA,fA,h4.most],h4.smp,rfl⟩
 | tau p=>
  simp only [T.size]at hn;rw [jv]at hb;obtain⟨q,v,G,h2,H,h4⟩:=ih p ρ tk (by omega) hu.tau (hm.sub λy hy=>hy) hb;refine⟨.tau q,.tau v,?_,h2,H,?_⟩
  ·simp only [T.text,thU,kText,G]
  ·exact⟨rfl,h4.nr,sg (t:=T.tau p) h4.uq.nd h4.nr h4.bv (λx=>(h4.us x).1) hu,h4.bv,h4.us,λρ tk=>by simp only [thU,h4.ls],λtk=>by rw [jv,jv,h4.bad],by rw [rS,rS,h4.all],by rw [fv,fv,h4.most],h4.smp,rfl⟩
 | rep p=>
  simp only [T.size]at hn;rw [jI]at hb;obtain⟨q,v,G,h2,H,h4⟩:=ih p ρ tk (by omega) hu.rep (hm.sub λy hy=>hy) hb;have hd:v.dead=false:=by rw [h4.dead];exact hl
  have nr:(T.rep v).Nr:=⟨hd,h4.nr⟩
  refine⟨.rep q,.rep v,?_,h2,H,?_⟩
  ·simp only [T.text,thU,kText,G]
  ·refine⟨rfl,nr,sg (t:=T.rep p) h4.uq.nd nr h4.bv (λx=>(h4.us x).1) hu,h4.bv,h4.us,λρ tk=>by simp only [thU,h4.ls],λtk=>by rw [jI,jI,h4.bad],by rw [rI,rI,h4.all],by rw [fH,fH,h4.most],λhs=>?_,rfl⟩;simp only [T.smp,OA]at hs|-;refine⟨?_,h4.smp hs.2⟩;have:an p=([],[p]):=by
    have hr:=hs.1;cases p<;>first | rfl | cases hr
   rw [T.y3,h4.tg p this,<-T.y3];exact hs.1
 | mat a b p=>
  simp only [T.size]at hn;have ζ:a≠b:=υ;have hd:p.dead=false:=hl;rw [fG]at hb;obtain⟨q,v,G,h2,H,h4⟩:=ih p ρ tk (by omega) hu.mat (hm.sub λy hy=> .inr ⟨ζ,hd,.inr (.inr hy)⟩) hb;have ι:v.dead=false:=by rw [h4.dead];exact hd
  have ha:=(hm.ok a (.inr ⟨ζ,hd,.inl rfl⟩)).2;have φ:=(hm.ok b (.inr ⟨ζ,hd,.inr (.inl rfl)⟩)).2;have us:∀x,(T.mat a b v).Us x↔(T.mat a b p).Us x:=λx=>by simp only [T.Us,ζ,hd,ι,h4.us]
  have χ:∀x,(T.mat b a v).Us x↔(T.mat a b p).Us x:=λx=>by
   simp only [T.Us,ζ,ζ.symm,hd,ι,h4.us,false_and,Sa,ne_eq,RB,Qe];rw [<-RT,<-RT,or_comm (a:=x=b)]
  by_cases ψ:ρ b< ρ a
  ·have nr:(T.mat b a v).Nr:=⟨⟨ζ.symm,ι⟩,h4.nr⟩
   refine⟨.mat (ρ b) (ρ a) q,.mat b a v,?_,⟨rfl,rfl,h2⟩,⟨φ,ha,H⟩,?_⟩
   ·simp only [T.text,thU,kText,G,O' ψ]
   ·exact⟨rfl,nr,sg (t:=T.mat a b p) h4.uq.nd nr h4.bv (λx=>(χ x).1) hu,h4.bv,χ,λρ tk=>by simp only [thU,h4.ls];exact CM _ _ _,λtk=>by rw [fG,fG,h4.bad],by rw [jB,jB,h4.all],by rw [dw,dw,h4.most],h4.smp,rfl⟩
  ·have nr:(T.mat a b v).Nr:=⟨⟨ζ,ι⟩,h4.nr⟩
   refine⟨.mat (ρ a) (ρ b) q,.mat a b v,?_,⟨rfl,rfl,h2⟩,⟨ha,φ,H⟩,?_⟩
   ·simp only [T.text,thU,kText,G,OP ψ]
   ·exact⟨rfl,nr,sg (t:=T.mat a b p) h4.uq.nd nr h4.bv (λx=>(us x).1) hu,h4.bv,us,λρ tk=>by simp only [thU,h4.ls],λtk=>by rw [fG,fG,h4.bad],by rw [jB,jB,h4.all],by rw [dw,dw,h4.most],h4.smp,rfl⟩
 | rcv a x p=>
  simp only [T.size]at hn;rw [jH,P4]at hb;obtain⟨f1,f2⟩:=Hu hb.1;have hm':Jh p (aI ρ x (jc tk)) (cY tk (jc tk)):=by
   refine⟨λy hy=>?_,λy z hy J e=>?_⟩
   ·by_cases e:y=x
    ·subst e;simp [aI,cY,f2]
    ·obtain⟨k1,k2⟩:=hm.ok y (.inr ⟨e,hy⟩);simp [aI,e,cY,k1,k2]
   ·by_cases g1:y=x<;>by_cases g2:z=x
    ·rw [g1,g2]
    ·simp only [aI,O' g1,OP g2]at e;have :=(hm.ok z (.inr ⟨g2,J⟩)).1;rw [<-e,f1]at this;cases this
    ·simp only [aI,OP g1,O' g2]at e;have :=(hm.ok y (.inr ⟨g1,hy⟩)).1;rw [e,f1]at this;cases this
    ·simp only [aI,OP g1,OP g2]at e;exact hm.inj y z (.inr ⟨g1,hy⟩) (.inr ⟨g2,J⟩) e
  obtain⟨q,v,G,h2,H,h4⟩:=ih p _ _ (by omega) hu.rcv hm' hb.2;have ε:∀y,(T.rcv a x v).Us y↔(T.rcv a x p).Us y:=λy=>or_congr_right (and_congr_right λ _=>h4.us y)
  have nr:(T.rcv a x v).Nr:=h4.nr;have ο:(BV (T.rcv a x v)).Nodup:=PB.2 ⟨λhx=>hu.du (h4.bv x hx),h4.uq.nd⟩;have θ:∀y∈BV (T.rcv a x v),y∈BV (T.rcv a x p):=λy hy=>by
   rcases OY.1 hy with rfl | hy
   ·exact Pb ..
   ·exact OJ _ (h4.bv y hy)
  refine⟨.rcv (ρ a) (jc tk) q,.rcv a x v,?_,⟨rfl,λn=>AE.KX (λz J e=>?_) h2 n⟩,⟨(hm.ok a (.inl rfl)).2,f2,H⟩,?_⟩
  ·simp only [T.text,thU,kText,G]
  ·intro hc;have :=(hm.ok z (.inr ⟨e,(h4.us z).1 (h4.nr.iO J)⟩)).1;rw [hc,f1]at this;cases this
  ·exact⟨rfl,nr,sg ο nr θ (λx=>(ε x).1) hu,θ,ε,λρ tk=>by simp only [thU,h4.ls],λtk=>by rw [jH,jH,h4.bad],by rw [rr,rr,h4.all],by rw [fP,fP,h4.most],h4.smp,rfl⟩
 | sum p q=>
  simp only [T.size]at hn;obtain⟨hd1,hd2⟩:p.dead=false/\q.dead=false:=υ;have eS:ax (T.sum p q)=ax p++ax q:=rfl;have ω:∀u∈ax (T.sum p q),u.size<=n:=λu δ=>by
   rw [eS]at δ;rcases OH.1 δ with h | h
   ·have :=mR p u h;omega
   ·have :=mR q u h;omega
  have hbad:∀u∈ax (T.sum p q),dF u tk=false:=by
   rw [(fU (w:=T.sum p q) rfl ρ tk).2]at hb;simp only [thBad,QT,Ad]at hb;simpa [List.any_eq_false]using hb
  obtain⟨zs,z1,z2⟩:=triples (R:=λu=>JV u ρ tk) (l:=ax (T.sum p q)) λu δ=>
   ih u ρ tk (ω u δ) (za hu u δ) (hm.sub λy hy=>(mu _ hu y).2 ⟨u,δ,hy⟩) (hbad u δ)
  obtain⟨Z,y1,y2⟩:=xD zs λz=>z.2.1.text
  have γ:(Z.map (·.1)).Perm (ax (T.sum p q)):=z1▸y1.map _;have J:∀z∈Z,JV z.1 ρ tk z.2.1 z.2.2:=λz J=>z2 z (y1.subset J)
  have α:∀z∈Z,z.1∈ax (T.sum p q):=λz J=>γ.subset (Qb J)
  have hlen:2<=Z.length:=by
   have l1:(ax p).length≠0:=λe=>pN hd1 hu.eJ (Pa e)
   have l2:(ax q).length≠0:=λe=>pN hd2 hu.dX (Pa e)
   have :=γ.length_eq;rw [OM,eS,Oy]at this;omega
  have κ:Z≠[]:=λe=>by rw [e]at hlen;simp at hlen
  have η:(T.dL (Z.map (·.2.2))).isS=true/\(T.dL (Z.map (·.2.2))).th=true/\(T.dL (Z.map (·.2.2))).tg=4:=by
   match Z,hlen with
   | a::b::l,_=>exact⟨rfl,rfl,rfl⟩
   | [a],h=>simp at h
   | [],h=>simp at h
  have hvs:∀v∈Z.map (·.2.2),v.dead=false/\v.isS=false/\v.Nr:=λv hv=>by
   obtain⟨z,G,rfl⟩:=Pf.1 hv;have ha:=(J z G).2.2.2;refine⟨?_,ha.isS (F0 _ hu z.1 (α z G)),ha.nr⟩;rw [ha.dead];cases hd:z.1.dead with
   | false=>rfl
   | true=>
    have hcp:∀u:U,∀t∈ax u,t.dead=false:=FZ;exact absurd (hcp _ _ (α z G)) (by rw [hd];simp)
  have μ:=(T.EE (l:=Z.map (·.2.2)) (by simpa using κ) hvs)
  have θ:∀x∈BV (T.dL (Z.map (·.2.2))),x∈BV (T.sum p q):=λx hx=>by
   rw [y8]at hx;obtain⟨v,G,h2⟩:=Pk.1 hx;obtain⟨z,H,rfl⟩:=Pf.1 G;exact BL _ z.1 (α z H) x ((J z H).2.2.2.bv x h2)
  have ε:∀x,(T.dL (Z.map (·.2.2))).Us x↔(T.sum p q).Us x:=λx=>by
   rw [T.EZ,mu _ hu];constructor
   ·rintro⟨v,G,h2⟩
    obtain⟨z,H,rfl⟩:=Pf.1 G;exact⟨z.1,α z H,((J z H).2.2.2.us x).1 h2⟩
   ·rintro⟨u,G,h2⟩
    obtain⟨z,H,rfl⟩:=Pf.1 (γ.symm.subset G);exact⟨_,Qb H,((J z H).2.2.2.us x).2 h2⟩
  have ο:(BV (T.dL (Z.map (·.2.2)))).Nodup:=by
   rw [y8,RL];refine qI (f:=λz=>BV z.1) ?_ λz h=>⟨(J z h).2.2.2.uq.nd,(J z h).2.2.2.bv⟩
   have hp:=(γ.flatMap_right BV)
   rw [RL]at hp;exact hp.nodup_iff.2 (GR _ hu)
  have huq:=sg ο μ.1 θ (λx=>(ε x).1) hu;have ν:ax (T.dL (Z.map (·.2.2)))=Z.map (·.2.2):=by
   rw [eO huq μ.1 μ.2,T.AI (by simpa using κ) λt ht=>(hvs t ht).2.1]
  have ς:∀{β:Type} (g:U->β),(∀z∈Z,g z.2.2=g z.1)->((Z.map (·.2.2)).map g).Perm ((ax (T.sum p q)).map g):=λg hg=>by
   have e:(Z.map (·.2.2)).map g=(Z.map (·.1)).map g:=by
    rw [PZ,PZ];exact PX hg
   rw [e];exact γ.map g
  refine⟨T.dL (Z.map (·.2.1)),T.dL (Z.map (·.2.2)),?_,AE.dL λz h=>(J z h).2.1,Ek λt ht=>?_,?_⟩
  ·rw [T.xC (by simpa using κ),PZ,(fU (w:=T.sum p q) rfl ρ tk).1];have e:Z.map (T.text∘λz=>z.2.1)=aK (zs.map λz=>z.2.1.text):=y2;rw [e]
   congr 2
   rw [<-z1,PZ];exact PX λz h=>(z2 z h).1
  ·obtain⟨z,G,rfl⟩:=Pf.1 ht;exact(J z G).2.2.1
  ·refine⟨η.2.1,μ.1,huq,θ,ε,λρ tk=>?_,λtk=>?_,?_,?_,λhs=>?_,η.2.2⟩
   ·rw [(fU η.1 ρ tk).1,(fU (w:=T.sum p q) rfl ρ tk).1,ν]
    congr 1
    exact lB (ς _ λz h=>(J z h).2.2.2.ls ρ tk)
   ·rw [(fU η.1 ρ tk).2,(fU (w:=T.sum p q) rfl ρ tk).2,ν];simp only [thBad,QT,Ad];have G:=B8 (f:=λb:Bool=>b) (ς (λu=>dF u tk) λz h=>(J z h).2.2.2.bad tk);simpa [List.any_map,Function.comp_def]using G
   ·rw [(fU η.1 ρ tk).2,(fU (w:=T.sum p q) rfl ρ tk).2,ν];simp only [thAll,QR,Ig];exact jF (ς cT λz h=>(J z h).2.2.2.all)
   ·rw [(fU η.1 ρ tk).2,(fU (w:=T.sum p q) rfl ρ tk).2,ν];refine DZ λk=>?_
    simp only [ay,Nat.max_zero,yR];constructor
    ·intro h u δ;obtain⟨z,H,rfl⟩:=Pf.1 (γ.symm.subset δ);rw [<-(J z H).2.2.2.most];exact h _ (Qb H)
    ·intro h v hv;obtain⟨z,H,rfl⟩:=Pf.1 hv;rw [(J z H).2.2.2.most];exact h _ (α z H)
   ·have hg:=zZ (T.sum p q) rfl hs;refine(HL (by simpa using κ) λt ht=>?_).1;obtain⟨z,G,rfl⟩:=Pf.1 ht;have ha:=(J z G).2.2.2;have hgz:=hg z.1 (α z G);refine⟨ha.smp (HS _ hs z.1 (α z G)),?_⟩;rw [T.A8,ha.tg z.1 hgz.2,OK];rcases hgz.1 with h | h | h<;>omega
def pa {u:U}(hu:Uq u)(hd:u.dead=true):(∀ρ tk,LS u ρ tk=[48])/\(∀tk,dF u tk=false)/\cT u=0/\bc u=0:=by
 have G:=m7 hd;have H:(td u).1=[]:=by
  have :=(gK u hu).2.1;rw [dB u hu hd]at this;exact this.eq_nil
 refine⟨λρ tk=>?_,λtk=>?_,?_,?_⟩
 ·simp [LS,aV,G,thS]
 ·simp [dF,gw,G,Lv.isNil]
 ·simp [cT,G,H,thAll]
 ·simp [bc,G,H,ay]
def arr:∀(n:Nat) (u:U) (ρ:Rh) (tk:Tk),u.size<=n->Uq u->Jh u ρ tk->dF u tk=false->∃t v,JV u ρ tk t v:=by
 intro n
 induction n with
 | zero=>intro u ρ tk h;cases u<;>simp [T.size]at h
 | succ n ih=>
  intro u ρ tk hn hu hm hb;cases hd:u.dead with
  | true=>
   obtain⟨d1,d2,d3,d4⟩:=pa hu hd;have ψ:Uq .nil:=⟨P3,λx h=>by cases h⟩
   obtain⟨e1,e2,e3,e4⟩:=pa ψ rfl;refine⟨.nil,.nil,by rw [d1];rfl,trivial,trivial,trivial,ψ,λx h=>(by cases h),λx=>⟨λh=>h.elim,λh=>absurd h (T.bF hd)⟩,λρ tk=>by rw [d1,e1],λtk=>by rw [d2,e2],by rw [d3,e3],by rw [d4,e4],hd.symm,λ _=>rfl,λt ht=>?_,λ _=>rfl⟩;rw [dB u hu hd]at ht;cases ht
  | false=>
   have ω:=zx hd hu;obtain⟨g1,g2,_⟩:=gK u hu;have hlen:(td u).1.length=(an u).1.length:=g2.length_eq;have hnil:(td u).2.isNil=false:=by rw [dS,hd]
   simp only [dF,gw,hnil,Bool.not_false,Qa,P4,hlen]at hb;obtain⟨hb1,ε⟩:=hb;rw [g1,uI]at ε;have ε:∀t∈(an u).2,thBad (tl [t]) (addK (lets (an u).1.length tk) tk)=false:=by simpa [List.any_eq_false]using ε
   obtain⟨l1,l2⟩:=xP _ tk hb1;have hls:=gd (an u).1.length tk;generalize hl:lets (an u).1.length tk=ls at*;have hLS:LS u ρ tk=wrap ls (bJ ((perms (an u).1).map λπ=>joinS 38 (aK ((an u).2.map λt=>thU t (asg π ls ρ) (addK ls tk))))):=by
    rw [zh hu];unfold aV;rw [OP (by simpa using ω)];show wrap (lets _ tk) (bJ (List.map (λπ=>joinS 38 (aK ((an u).2.map λt=>thU t (asg π (lets _ tk) ρ) (addK (lets _ tk) tk)))) _))=_;rw [hl]
   obtain⟨hmem,_⟩:=cK (l:=(perms (an u).1).map λπ=>joinS 38 (aK ((an u).2.map λt=>thU t (asg π ls ρ) (addK ls tk)))) (by simpa using pY _);obtain⟨π,G,ν⟩:=Pf.1 hmem;have G:=(da _ π).1 G;have γ:π.length=ls.length:=by rw [G.length_eq,hls]
   have ξ:=I' u hu;have θ:π.Nodup:=G.nodup_iff.2 (Pg.1 ξ).1;have hmt:∀t∈(an u).2,Jh t (asg π ls ρ) (addK ls tk):=by
    intro t ht;have ο:∀y,t.Us y->y∈π\/(y∉π/\u.Us y):=λy hy=>by
     by_cases hp:y∈π
     ·exact .inl hp
     ·exact .inr ⟨hp,(lD u hu t ht y hy).resolve_right λh=>hp (G.symm.subset h)⟩
    refine⟨λy hy=>?_,λy z hy J e=>?_⟩
    ·rw [Aw];rcases ο y hy with h | ⟨h,h'⟩
     ·have :=dC π ls ρ y h γ;exact⟨by simp [this],(l2 _ this).2⟩
     ·rw [bB π ls ρ y h];exact⟨by simp [(hm.ok y h').1],(hm.ok y h').2⟩
    ·rcases ο y hy with h | ⟨h,h'⟩<;>rcases ο z J with k | ⟨k,k'⟩
     ·exact tE π ls ρ y z h k γ l1 e
     ·rw [bB π ls ρ z k]at e;have :=(l2 _ (dC π ls ρ y h γ)).1;rw [e,(hm.ok z k').1]at this;cases this
     ·rw [bB π ls ρ y h]at e;have :=(l2 _ (dC π ls ρ z k γ)).1;rw [<-e,(hm.ok y h').1]at this;cases this
     ·rw [bB π ls ρ y h,bB π ls ρ z k]at e;exact hm.inj y z h' k' e
   obtain⟨zs,z1,z2⟩:=triples (R:=λu=>HO u (asg π ls ρ) (addK ls tk)) (l:=(an u).2) λt ht=>
    NX ih (by have :=CN u t ht;omega) (IQ hu t ht) (yu u t ht) (vM u t ht).1 (vM u t ht).2 (hmt t ht) (ε t ht)
   obtain⟨Z,y1,y2⟩:=xD zs λz=>z.2.1.text
   have H:(Z.map (·.1)).Perm (an u).2:=z1▸y1.map _;have J:∀z∈Z,HO z.1 (asg π ls ρ) (addK ls tk) z.2.1 z.2.2:=λz J=>z2 z (y1.subset J)
   have α:∀z∈Z,z.1∈(an u).2:=λz J=>H.subset (Qb J)
   have δ:Z≠[]:=λe=>ω (by have :=H;rw [e]at this;exact this.symm.eq_nil)
   have ζ:∀w∈Z.map (·.2.2),w.th=true/\w.Nr:=λw hw=>by
    obtain⟨z,h1,rfl⟩:=Pf.1 hw;exact⟨(J z h1).2.2.2.th,(J z h1).2.2.2.nr⟩
   have ι:∀x,(T.parL (Z.map (·.2.2))).Us x↔∃t∈(an u).2,t.Us x:=λx=>by
    rw [T.tH];constructor
    ·rintro⟨v,h1,h2⟩
     obtain⟨z,h3,rfl⟩:=Pf.1 h1;exact⟨z.1,α z h3,((J z h3).2.2.2.us x).1 h2⟩
    ·rintro⟨u',h1,h2⟩
     obtain⟨z,h3,rfl⟩:=Pf.1 (H.symm.subset h1);exact⟨_,Qb h3,((J z h3).2.2.2.us x).2 h2⟩
   have κ:=T.ET ζ;have ς:(T.resL π (T.parL (Z.map (·.2.2)))).Nr:=T.DV κ.1 θ λx hx=>(ι x).2 (AT u hu x (G.subset hx))
   have υ:∀x,(T.resL π (T.parL (Z.map (·.2.2)))).Us x↔u.Us x:=λx=>by
    rw [T.jY,ι];constructor
    ·rintro⟨h1,t,h2,h3⟩
     exact(lD u hu t h2 x h3).resolve_right λh=>h1 (G.symm.subset h)
    ·intro h;exact⟨λhx=>hu.nf x (iZ u x (G.subset hx)) (T.bj h),HW u x h⟩
   have hbv:∀x∈BV (T.resL π (T.parL (Z.map (·.2.2)))),x∈BV u:=λx hx=>by
    rw [cQ,cP]at hx;rcases OH.1 hx with hx | hx
    ·exact iZ u x (G.subset hx)
    ·obtain⟨v,h1,h2⟩:=Pk.1 hx;obtain⟨z,h3,rfl⟩:=Pf.1 h1;exact Em _ z.1 (α z h3) x ((J z h3).2.2.2.bv x h2)
   have hndv:(BV (T.resL π (T.parL (Z.map (·.2.2))))).Nodup:=by
    rw [cQ,cP,RL];have hp:=(H.flatMap_right BV)
    rw [RL]at hp;have hnd':(Z.flatMap λz=>BV z.1).Nodup:=hp.nodup_iff.2 (Pg.1 ξ).2.1;refine Pg.2 ⟨θ,qI (f:=λz=>BV z.1) hnd' λz h=>⟨(J z h).2.2.2.uq.nd,(J z h).2.2.2.bv⟩,λa ha b hb=>?_⟩;obtain⟨z,h1,h2⟩:=Pk.1 hb;exact(Pg.1 ξ).2.2 a (G.subset ha) b (Pk.2 ⟨z.1,α z h1,(J z h1).2.2.2.bv b h2⟩)
   have η:=sg hndv ς hbv (λx=>(υ x).1) hu;have μ:an (T.resL π (T.parL (Z.map (·.2.2))))=(π,Z.map (·.2.2)):=by
    rw [Dd η ς,T.Co,T.BE,T.Bw λt ht=>(ζ t ht).1,T.IT λt ht=>(ζ t ht).1,O5]
   have φ:∀{β:Type} (g:U->β),(∀z∈Z,g z.2.2=g z.1)->((Z.map (·.2.2)).map g).Perm ((an u).2.map g):=λg hg=>by
    have e:(Z.map (·.2.2)).map g=(Z.map (·.1)).map g:=by
     rw [PZ,PZ];exact PX hg
    rw [e];exact H.map g
   obtain⟨k1,k2,_⟩:=gK _ η;rw [μ]at k1 k2;have hdv:(T.resL π (T.parL (Z.map (·.2.2)))).dead=false:=by
    rw [lT,k1]
    match Z,δ,ζ with
    | z::l,_,h=>
     have :=(h z.2.2 (by simp)).1;intro hh;revert hh this;simp only [O3];cases z.2.2<;>simp [tl,Lv.len,T.th]
   have χ:(td (T.resL π (T.parL (Z.map (·.2.2))))).1.length=(td u).1.length:=by rw [k2.length_eq,G.length_eq,hlen]
   refine⟨T.resL ls (T.parL (Z.map (·.2.1))),T.resL π (T.parL (Z.map (·.2.2))),?_,?_,?_,ς,η,hbv,υ,λρ tk=>?_,λtk=>?_,?_,?_,by rw [hdv,hd],λhs=>?_,λt ht=>?_,λhns=>?_⟩
   ·rw [T.mY,hLS,<-ν,T.mO (by simpa using δ),PZ];have e:Z.map (T.text∘λz=>z.2.1)=aK (zs.map λz=>z.2.1.text):=y2;rw [e,<-z1,PZ]
    congr 3
    exact PX λz h=>(z2 z h).1
   ·refine AE.D6 π ls ρ γ l1 (λz hz' hzp hc=>?_) (AE.parL λz h=>(J z h).2.1);have hzu:u.Us z:=(υ z).1 (T.jY.2 ⟨hzp,κ.1.iO hz'⟩);have :=(l2 _ hc).1;rw [(hm.ok z hzu).1]at this;cases this
   ·refine Ei (Ea λt ht=>?_) λc hc=>(l2 c hc).2
    obtain⟨z,h1,rfl⟩:=Pf.1 ht;exact(J z h1).2.2.1
   ·rw [zh η,zh hu,μ];exact lQ G (λρ tk=>φ (λt=>thU t ρ tk) λz h=>(J z h).2.2.2.tx ρ tk) ρ tk
   ·unfold dF gw;rw [χ,dS,dS,hdv,hd,k1,g1]
    congr 2
    rw [uI,uI];have h1:=B8 (f:=λb:Bool=>b) (φ (λt=>thBad (tl [t]) (addK (lets (td u).1.length tk) tk)) λz h=>(J z h).2.2.2.bad _);simpa [List.any_map,Function.comp_def]using h1
   ·unfold cT;rw [χ,k1,g1,CC,CC (an u).2]
    congr 1
    exact jF (φ (λt=>thAll (tl [t])) λz h=>(J z h).2.2.2.all)
   ·unfold bc;rw [χ,k1,g1]
    congr 1
    refine DZ λk=>?_
    rw [tY,tY];constructor
    ·intro h t ht;obtain⟨z,h3,rfl⟩:=Pf.1 (H.symm.subset ht);rw [<-(J z h3).2.2.2.most];exact h _ (Qb h3)
    ·intro h v hv;obtain⟨z,h3,rfl⟩:=Pf.1 hv;rw [(J z h3).2.2.2.most];exact h _ (α z h3)
   ·rw [jA];refine jG λt ht=>?_
    obtain⟨z,h1,rfl⟩:=Pf.1 ht;exact(J z h1).2.2.2.smp (Kf u hs z.1 (α z h1))
   ·rw [ht]at G H;have e1:π=[]:=G.eq_nil;have e2:=H.length_eq;rw [OM]at e2
    match Z,e2,H,J with
    | [z],_,hs,J=>
     have:z.1=t:=by simpa using hs
     subst this;rw [e1];exact(J z (by simp)).2.2.2.tg
   ·cases hp:π with
    | cons x l=>rfl
    | nil=>
     rw [hp]at G;have e0:(an u).1=[]:=G.symm.eq_nil
     match Z,δ,H,J with
     | [z],_,hs,J=>
      have e1:(an u).2=[z.1]:=by
       have :=List.perm_singleton.1 hs.symm;simpa using this
      show z.2.2.isS=false;have htg:=(J z (by simp)).2.2.2.tg;rw [T.IP,htg,<-T.IP];cases hz1:z.1<;>first | rfl | skip
      rename_i p q;exact absurd (Prod.ext e0 (by rw [e1,hz1])) (hns p q)
     | z::y::l,_,_,_=>rfl
end
def xG:∀(n:Nat) (tk:Tk),lets (n+1) tk=lets n tk++[jc (addK (lets n tk) tk)]
 | 0,tk=>rfl
 | n+1,tk=>by
  rw [lets,xG n,lets];rfl
def rH:∀(n:Nat) (tk:Tk),gX (n+1) tk=(gX n tk||(wV (addK (lets n tk) tk)).isNone)
 | 0,tk=>by simp [gX,lets,addK]
 | n+1,tk=>by
  rw [gX,rH n,gX];rw [lets,addK,Qg]
def dT:∀(l:List UInt8) (s:Tx),(wrap l s).length=3* l.length+s.length
 | [],s=>by simp [wrap]
 | c::l,s=>by simp only [wrap,Ov,dT l s];omega
def vQ:∀{l:List UInt8} (s:Tx),(∀c∈l,¬c=35)->(wrap l s).count 35=l.length+s.count 35
 | [],s,_=>by simp [wrap]
 | c::l,s,h=>by
  have G:=vQ (l:=l) s λc H=>h c (OJ _ H)
  simp only [wrap,Ov];rw [List.count_cons,bk (h c (by simp)),bk (by decide),G];simp;omega
def qa:∀{l:List UInt8} {s:Tx} {c:UInt8},(c∈l\/c∈s)->c∈wrap l s
 | [],s,c,h=>by simpa [wrap]using h
 | d::l,s,c,h=>by
  simp only [wrap,OY];rcases h with h | h
  ·rcases OY.1 h with h | h
   ·exact .inr (.inl h)
   ·exact .inr (.inr (.inr (qa (.inl h))))
  ·exact .inr (.inr (.inr (qa (.inr h))))
def ig {k m:Nat}{Θ ls A:Tx}(h:H5 k m Θ ls A):cR A=addK ls (cR Θ):=by
 funext c
 rw [Aw,cR,cR,PG];simp only [OK,P0];exact h.mem c
structure Lc (k i:Nat)(Θ ls A:Tx):Prop where
 ok:H5 k i Θ ls A
 good:gX i (cR Θ)=false->ls=lets i (cR Θ)
 bad:gX i (cR Θ)=true->∃c∈ls,128<=c
def Lc.zero {k:Nat}{Θ:Tx}(h:lR Θ):Lc k 0 Θ [] Θ:=
 ⟨⟨rfl,P3,λc G=>(by cases G),h,λc=>by simp⟩,λ _=>rfl,λh=>by simp [gX]at h⟩
def Lc.snoc {k i:Nat}{Θ ls A A':Tx}{c:UInt8}(h:Lc k i Θ ls A)(H:B5 (k+i) A c)(hs:lR A')(hA:∀x,x∈A'↔x=c\/x∈A):Lc k (i+1) Θ (ls++[c]) A':=by
 have Z:c∉ls:=λhm=>H.nin ((h.ok.mem c).2 (.inr hm))
 have α:c∉Θ:=λhm=>H.nin ((h.ok.mem c).2 (.inl hm))
 refine⟨⟨by simp [h.ok.len],?_,λd hd=>?_,hs,λd=>?_⟩,λhb=>?_,λhb=>?_⟩
 ·refine Pg.2 ⟨h.ok.nd,by simp,λa ha b hb e=>?_⟩;have:b=c:=by simpa using hb
  subst this;subst e;exact Z ha
 ·rcases OH.1 hd with hd | hd
  ·have :=h.ok.ok d hd;exact⟨this.1,this.2.1.mono (by omega),this.2.2⟩
  ·have:d=c:=by simpa using hd
   subst this;exact⟨α,by rw [<-QV];exact H.okn,H.ngr,H.nm⟩
 ·rw [hA,h.ok.mem,OH,OL];constructor
  ·rintro(h | h | h)
   ·exact .inr (.inr h)
   ·exact .inl h
   ·exact .inr (.inl h)
  ·rintro(h | h | h)
   ·exact .inr (.inl h)
   ·exact .inr (.inr h)
   ·exact .inl h
 ·rw [rH,P4]at hb;have e:=h.good hb.1;rw [xG,<-e]
  congr 2
  have G:=hb.2;rw [<-e,<-ig h.ok]at G;rw [<-ig h.ok];exact H.good G
 ·rw [rH,P0]at hb;cases J:gX i (cR Θ)with
  | true=>
   obtain⟨d,h1,h2⟩:=h.bad J;exact⟨d,by simp [h1],h2⟩
  | false=>
   rw [J]at hb;have G:=hb.resolve_left (by simp);rw [<-h.good J,<-ig h.ok]at G;exact⟨c,by simp,H.bad G⟩
def xU:∀n,n<=90->(iF n).Nodup
 | 0,_=>P3
 | n+1,h=>by
  rw [BS];refine Pg.2 ⟨xU n (by omega),by simp,λa ha b hb e=>?_⟩;have hb:b=gl n:=by simpa using hb
  obtain⟨j,H,G⟩:=iJ.1 ha;have :=zw (by omega) (by omega) (G.symm.trans (e.trans hb));omega
structure EB (on:Bool)(σ:Nat->Nat)(u:U)(Lo:List Tx)(ls A best:Tx):Prop where
 mem:∃o∈Lo,Ak on σ u o ls A best
 le:∀o∈Lo,∃r,Ak on σ u o ls A r/\jR best r=true
def Ak.ne {on:Bool}{σ:Nat->Nat}{u:U}{o ls A r:Tx}(h:Ak on σ u o ls A r)(G:(an u).2≠[]):r≠[]:=by
 obtain⟨rs,rfl,ha⟩:=h;have H:=aG rs;refine AU (λs J=>?_) λe=>G (Pa ?_)
 ·obtain⟨t,_,Z⟩:=ha.get' (H.subset J);exact Z.ne
 ·rw [e]at H;rw [<-ha.1,H.symm.eq_nil];rfl
def Ak.text {k:Nat}{σ:Nat->Nat}{u:U}{Θ o ls A r:Tx}{π:List Nat}(h:Ak false σ u o ls A r)(hu:Uq u)(α:zB k Θ σ u)(β:H5 k (an u).1.length Θ ls A)(H:π.Perm (an u).1)
  (ho:o.map UInt8.toNat=π.map (asgN (an u).1 0 σ)) (J:o.Perm (iF (an u).1.length)) (hm:(an u).1.length<=64) (Z:∀t∈(an u).2,ay (tl [t])<=5) (γ:∀t∈(an u).2,thBad (tl [t]) (cR A)=false) {ρ:Rh} (hc:Compat ρ σ u):
  r=joinS 38 (aK ((an u).2.map λt=>thU t (asg π ls ρ) (cR A))):=by
 obtain⟨rs,rfl,ha⟩:=h
 congr 2
 have ε:∀y∈(an u).1,∀z∈(an u).1,asgN (an u).1 0 σ z=asgN (an u).1 0 σ y->z=y:=by
  intro y hy z hz e;obtain⟨i,hi,rfl⟩:=PK.1 hy;obtain⟨j,hj,rfl⟩:=PK.1 hz;rw [j0 _ _ _ _ hi (ij u hu),j0 _ _ _ _ hj (ij u hu),O6,O6]at e;have :=zw (by omega) (by omega) (OU.1 e);subst this;rfl
 have ζ:o.Nodup:=J.nodup_iff.2 (xU _ (by omega));have :=aO.map_eq (f:=λr:Tx=>r) (g:=λt=>thU t (asg π ls ρ) (cR A)) (ha.mono λr t _ ht hw=>hw.eq (Z t ht) rfl (γ t ht) (asg π ls ρ) λy hy=>?_)
 ·simpa using this
 ·show(asg π ls ρ y).toNat=rnv o ls (asgN (an u).1 0 σ y);by_cases G:y∈(an u).1
  ·refine(DN π o ls _ ρ y ho (by rw [H.length_eq,β.len]) (λl hl η=>?_) (H.symm.subset G) (λz hz e=>ε y G z (H.subset hz) e) ζ).symm;obtain⟨j,h1,rfl⟩:=iJ.1 (J.subset η);exact dW (β.ok _ hl).2.2.1 (zq (by omega))
  ·have δ:=(lD u hu t ht y hy).resolve_right G;rw [bB π ls ρ y λh=>G (H.subset h),jn _ _ _ _ G,zo,hc y δ];intro o' θ e;obtain⟨c,h1,h2⟩:=α.cov y δ;obtain⟨j,h3,rfl⟩:=iJ.1 (J.subset θ);have:c=gl j:=OU.1 (h2.trans e);exact dW (α.okn c h1).2 (this▸zq (by omega))
def tP {u:U}(hu:Uq u):bc u<=5->(an u).1.length<=5/\∀t∈(an u).2,ay (tl [t])<=5:=by
 intro h;obtain⟨G,H,_⟩:=gK u hu;unfold bc at h;rw [G,H.length_eq]at h;exact⟨by omega,(tY _ _).1 (by omega)⟩
def BD {u:U}(hu:Uq u):decide (5< bc u)=(decide (5< (an u).1.length)||(an u).2.any λt=>decide (5< ay (tl [t]))):=by
 rw [PG,P0,OK,OK,QH];constructor
 ·intro h;rcases Qi 5 (an u).1.length with G | G
  ·exact .inl G
  ·right;refine P1 λhn=>?_
   have H:∀t∈(an u).2,ay (tl [t])<=5:=λt ht=>by
    rcases Qi 5 (ay (tl [t]))with J | J
    ·exact absurd ⟨t,ht,P2 J⟩ hn
    ·exact J
   obtain⟨k1,Z,_⟩:=gK u hu;unfold bc at h;rw [k1,Z.length_eq]at h;have :=(tY (an u).2 5).2 H;omega
 ·intro h;refine P1 λhn=>?_
  obtain⟨k1,Z⟩:=tP hu (by omega);rcases h with h | ⟨t,G,H⟩
  ·omega
  ·have :=Z t G;have :=OW H;omega
def WR.KJ {on:Bool}{k:Nat}{σ:Nat->Nat}{u:U}{Θ ls A best:Tx}{Lo:List Tx}(hu:Uq u)(Z:(an u).2≠[])(ε:zB k Θ σ u)(hl:Lc k (an u).1.length Θ ls A)(hm:(an u).1.length<=64)
  (ζ:∀o∈Lo,o.Perm (iF (an u).1.length)) (η:on=false->∀o,o.Perm (iF (an u).1.length)->o∈Lo) (h:EB on σ u Lo ls A best):WR on u σ Θ (wrap ls best):=by
 obtain⟨o0,θ,hN⟩:=h.mem;have ι:=hN.ne Z;obtain⟨rs,G,ha⟩:=hN;have H:=hl.ok;have hp:=aG rs;have μ:rs≠[]:=λe=>Z (Pa (by rw [<-ha.1,e];rfl))
 have ν:aK rs≠[]:=λe=>μ (by rw [e]at hp;exact hp.symm.eq_nil)
 have ξ:∀c∈ls,¬c=35:=λc hc=>j4 (H.ok c hc).2.2.2
 obtain⟨g1,g2,_⟩:=gK u hu;have α:(td u).2.isNil=false:=by
  rw [dS];cases hd:u.dead with
  | false=>rfl
  | true=>rw [dB u hu hd]at Z;exact absurd rfl Z
 refine⟨λe=>?_,?_,λhM=>?_,λhM γ hb=>?_,λhM γ hb ρ hc=>?_⟩
 ·have :=dT ls best;rw [e]at this;have h2:best.length≠0:=λe=>ι (Pa e)
  simp at this;omega
 ·have J:=oY 38 _ ν;have h2:=mS hp;have h3:=ha.Hl;have h4:=gg u;rw [dT,H.len,G];omega
 ·obtain⟨m1,m2⟩:=tP hu hM;rw [vQ _ ξ,H.len,G,mi (by decide),jF (hp.map _)];unfold cT;rw [g1,g2.length_eq,CC]
  congr 2
  exact aO.map_eq (ha.mono λr t _ ht hw=>hw.cnt (m2 t ht))
 ·obtain⟨m1,m2⟩:=tP hu hM;unfold dF gw at hb;rw [α,g2.length_eq]at hb;simp only [Bool.not_false,Qa,P0]at hb;cases δ:gX (an u).1.length (cR Θ)with
  | true=>
   obtain⟨c,J,h2⟩:=hl.bad δ;exact⟨c,qa (.inl J),h2⟩
  | false=>
   rw [δ]at hb;have hb:=hb.resolve_left (by simp);rw [<-hl.good δ,<-ig H,g1,uI,QH]at hb;obtain⟨t,J,h2⟩:=hb;obtain⟨r,h3,h4⟩:=ha.get J;obtain⟨c,h5,h6⟩:=h4.bad (m2 t J) γ h2;refine⟨c,qa (.inr ?_),h6⟩;rw [G];exact rq (hp.symm.subset h3) h5
 ·obtain⟨m1,m2⟩:=tP hu hM;subst γ;unfold dF gw at hb;rw [α,g2.length_eq]at hb;simp only [Bool.not_false,Qa,P4]at hb;have e:=hl.good hb.1;have β:=hb.2;rw [<-e,<-ig H,g1,uI,List.any_eq_false]at β;have β:∀t∈(an u).2,thBad (tl [t]) (cR A)=false:=λt ht=>by simpa using β t ht
  rw [zh hu];unfold aV;rw [OP (by simpa using Z)];show _=wrap (lets _ (cR Θ)) (bJ (List.map (λπ=>joinS 38 (aK ((an u).2.map λt=>thU t (asg π (lets _ (cR Θ)) ρ) (addK (lets _ (cR Θ)) (cR Θ))))) _));rw [<-e,<-ig H]
  congr 1
  symm
  have κ:∀o:Tx,o.Perm (iF (an u).1.length)->∃π:List Nat,π.Perm (an u).1/\o.map UInt8.toNat=π.map (asgN (an u).1 0 σ):=λo ho=>by
   refine kH ((ho.map UInt8.toNat).trans ?_);have:(iF (an u).1.length).map UInt8.toNat=(an u).1.map (asgN (an u).1 0 σ):=by
    refine QW (by simp [iK]) λi J h2=>?_
    simp only [QF];have hi:i< (an u).1.length:=by simpa using h2
    rw [j0 _ _ _ _ hi (ij u hu),O6];simp [iF]
   rw [this]
  refine ik ?_ λs hs=>?_
  ·obtain⟨π,J,h2⟩:=κ o0 (ζ _ θ);refine Pf.2 ⟨π,(da _ _).2 J,?_⟩;exact(Ak.text ⟨rs,G,ha⟩ hu ε H J h2 (ζ _ θ) hm m2 β hc).symm
  ·obtain⟨π,J,rfl⟩:=Pf.1 hs;have J:=(da _ _).1 J;have h3:(π.map (asgN (an u).1 0 σ)).Perm ((iF (an u).1.length).map UInt8.toNat):=by
    have:(iF (an u).1.length).map UInt8.toNat=(an u).1.map (asgN (an u).1 0 σ):=by
     refine QW (by simp [iK]) λi J h2=>?_
     simp only [QF];have hi:i< (an u).1.length:=by simpa using h2
     rw [j0 _ _ _ _ hi (ij u hu),O6];simp [iF]
    rw [this];exact J.map _
   obtain⟨o,h4,h5⟩:=kH h3;obtain⟨r,h6,h7⟩:=h.le o (η rfl o h4);rw [<-h6.text hu ε H J h5.symm h4 hm m2 β hc];exact h7
def WR.JM {on:Bool}{u:U}{σ:Nat->Nat}{Θ:Tx}(hu:Uq u)(hd:u.dead=true):WR on u σ Θ [48]:=by
 obtain⟨G,H,J,h4⟩:=pa hu hd;exact⟨by simp,A6 u,λ _=>by rw [J];rfl,λ _ _ hb=>(by rw [H]at hb;cases hb),λ _ _ _ ρ _=>by rw [G]⟩
def WR.FF {on:Bool}{u:U}{σ:Nat->Nat}{Θ:Tx}(h:5< bc u):WR on u σ Θ [48]:=
 ⟨by simp,A6 u,λhm=>by omega,λhm=>by omega,λhm=>by omega⟩
def Ex.aP {w w':World}(h:w.grownBy w' none):Ex w w':=⟨h.os,h.tape,h.output,h.size,λg G=>h.block g G (by simp)⟩
def ub {l:Tx}{i:Nat}(h:i< l.length):List.drop (Int.toNat (i:Int)) (List.take (Int.toNat ((i:Int)+1)) l)=[bt l i]:=by
 have e:Int.toNat ((i:Int)+1)=i+1:=by omega
 rw [e,OG,iR h];exact List.drop_left' (by rw [Pd];omega)
def Eh {l:Tx}{i:Nat}(h:i< l.length):List.drop i (List.take (Int.toNat ((i:Int)+1)) l)=[bt l i]:=by
 have :=ub h
 rwa [OG]at this
def mz {l:Tx}{i:Nat}(h:i< l.length)(s:Tx):wrap (l.drop i) s=35::bt l i::46::wrap (l.drop (i+1)) s:=by
 rw [tR h];rfl
end Go.Proofs.YthekamjhgabkjaaGreat
