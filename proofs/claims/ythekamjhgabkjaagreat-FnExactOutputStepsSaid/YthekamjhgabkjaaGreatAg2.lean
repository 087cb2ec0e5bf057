/- Part 2 of a proof of what the last text states; no condition. -/
import Derived.Test.YthekamjhgabkjaaGreatAg1
set_option maxRecDepth 100000
set_option maxHeartbeats 4000000
set_option linter.defProp false
set_option linter.unusedVariables false
set_option linter.unusedSimpArgs false
namespace Go.Proofs.YthekamjhgabkjaaGreat
open Go Go.RowKit
def pN {t:P}(ok:Ok t){w:World}{R:Value->QU}(h:∀v w',Ex w w'->Strs w' v (t.parts.map T.text)->(∀g,v.ownBlock=some g->w.heap.size<=g)->R v w'):
  QV 141 #[.string (ay t.text)] w (ax [.v] R):=by
 refine ri _ w R ?_;dsimp only [go_sem];dsimp only [go_sem,Nat.reduceAdd];refine aM ok ?_;have hl:=ok.len;have hw:=ok.wf;have two:∀(w1:World) (x y:Tx) (H:World),Ex w w1->H=w1.alloc (.cells #[.string (ay x),.string (ay y)] 9)->Strs H (.slice (some ⟨w1.heap.size,0,none⟩) 2 2) [x,y]:=by
  rintro w1 x y H hx rfl
  refine .inr ⟨_,0,2,rfl,by rw [size_alloc];omega,λi z hz=>?_⟩;rw [N2];refine aa ?_
  match i,hz with
  | 0,hz=>simp at hz|-;exact hz▸rfl
  | 1,hz=>simp at hz|-;exact hz▸rfl
  | i+2,hz=>simp at hz
 have one:∀(x:Tx) (H:World),H=w.alloc (.cells #[.string (ay x)] 9)->Strs H (.slice (some ⟨w.heap.size,0,none⟩) 1 1) [x]:=by
  rintro x H rfl
  refine .inr ⟨_,0,1,rfl,by rw [size_alloc];omega,λi z hz=>?_⟩;rw [N2];refine aa ?_
  match i,hz with
  | 0,hz=>simp at hz|-;exact hz▸rfl
  | i+1,hz=>simp at hz
 cases t with
 | nil=>simpa [T.kind]using h _ _ (Ex.refl w) (.inl ⟨rfl,rfl⟩) (λg J=>by cases J)
 | sum p q=>
  simp only [T.wf,Nz]at hw;simp only [T.kind]
  repeat' first | refine aR (by decide) ?_ | refine cL (by decide) ?_ | refine ck (by decide) ?_ | refine dB (by decide) ?_
  have e:=ox p hw.1 (T.sum p q).text 1 (43::(q.text++[41])) rfl ((T.sum p q).text.length+1) (by omega);refine oX _ (by omega) _ 1 (by omega) (by omega:((T.sum p q).text.length:Int) - 1< ((T.sum p q).text.length+1:Nat)) (by omega) ?_;have e':endI (T.sum p q).text ((T.sum p q).text.length+1) 1=((1+p.text.length:Nat):Int):=e;have e3:(T.sum p q).text.length=p.text.length+q.text.length+3:=by simp only [T.text,Nv,NB,NR];omega
  rw [e'];refine⟨λ _=>True,λw1 β=>⟨trivial,by omega,by omega,by omega,by omega,λb H hb G=>⟨trivial,?_⟩⟩⟩;subst hb;have x1:List.drop 1 (List.take (1+p.text.length) (T.sum p q).text)=p.text:=by
   show List.drop 1 (List.take (1+p.text.length) (40::(p.text++(43::(q.text++[41])))))=_;rw [Nat.add_comm,Qb,List.drop_one,List.tail_cons,List.take_left]
  have x2:List.drop (((1+p.text.length:Nat):Int)+1).toNat (List.take (((T.sum p q).text.length:Int) - 1).toNat (T.sum p q).text)=q.text:=by
   have a1:(((1+p.text.length:Nat):Int)+1).toNat=(40::(p.text++[43])).length:=by simp;omega
   have a2:(((T.sum p q).text.length:Int) - 1).toNat=((40::(p.text++[43]))++q.text).length:=by simp;omega
   have a3:(T.sum p q).text=((40::(p.text++[43]))++q.text)++[41]:=by simp [T.text]
   rw [a1,a2,a3,List.take_left,Qx]
  rw [NF]at G;have Z:H=w1.alloc (.cells #[.string (ay p.text),.string (ay q.text)] 9):=by
   rw [G];congr 4
   ·exact Ot (λz=>Value.string (ay z)) x1
   ·exact Ot (λz=>[Value.string (ay z)]) x2
  have hx:Ex w w1:=β▸Ex.drew w;exact h _ _ (hx.trans (Z▸Ex.alloc w1 _)) (two w1 _ _ H hx Z) (λg J=>by cases J;exact hx.size)
 | par p q=>
  simp only [T.wf,Nz]at hw;simp only [T.kind]
  repeat' first | refine aR (by decide) ?_ | refine cL (by decide) ?_ | refine ck (by decide) ?_ | refine dB (by decide) ?_
  have e:=ox p hw.1 (T.par p q).text 1 (38::(q.text++[41])) rfl ((T.par p q).text.length+1) (by omega);refine oX _ (by omega) _ 1 (by omega) (by omega:((T.par p q).text.length:Int) - 1< ((T.par p q).text.length+1:Nat)) (by omega) ?_;have e':endI (T.par p q).text ((T.par p q).text.length+1) 1=((1+p.text.length:Nat):Int):=e;have e3:(T.par p q).text.length=p.text.length+q.text.length+3:=by simp only [T.text,Nv,NB,NR];omega
  rw [e'];refine⟨λ _=>True,λw1 β=>⟨trivial,by omega,by omega,by omega,by omega,λb H hb G=>⟨trivial,?_⟩⟩⟩;subst hb;have x1:List.drop 1 (List.take (1+p.text.length) (T.par p q).text)=p.text:=by
   show List.drop 1 (List.take (1+p.text.length) (40::(p.text++(38::(q.text++[41])))))=_;rw [Nat.add_comm,Qb,List.drop_one,List.tail_cons,List.take_left]
  have x2:List.drop (((1+p.text.length:Nat):Int)+1).toNat (List.take (((T.par p q).text.length:Int) - 1).toNat (T.par p q).text)=q.text:=by
   have a1:(((1+p.text.length:Nat):Int)+1).toNat=(40::(p.text++[38])).length:=by simp;omega
   have a2:(((T.par p q).text.length:Int) - 1).toNat=((40::(p.text++[38]))++q.text).length:=by simp;omega
   have a3:(T.par p q).text=((40::(p.text++[38]))++q.text)++[41]:=by simp [T.text]
   rw [a1,a2,a3,List.take_left,Qx]
  rw [NF]at G;have Z:H=w1.alloc (.cells #[.string (ay p.text),.string (ay q.text)] 9):=by
   rw [G];congr 4
   ·exact Ot (λz=>Value.string (ay z)) x1
   ·exact Ot (λz=>[Value.string (ay z)]) x2
  have hx:Ex w w1:=β▸Ex.drew w;exact h _ _ (hx.trans (Z▸Ex.alloc w1 _)) (two w1 _ _ H hx Z) (λg J=>by cases J;exact hx.size)
 | snd a b p=>
  simp only [T.kind]
  repeat' first | refine aR (by decide) ?_ | refine cL (by decide) ?_ | refine ck (by decide) ?_ | refine dB (by decide) ?_
  refine cF ok ?_;refine⟨by simp only [T.hd,T.text,Nv];omega,λb1 H hb G=>?_⟩;subst hb;exact h _ _ (G▸Ex.alloc w _) (one p.text H G) (λg J=>by cases J;exact ND _)
 | rcv a b p=>
  simp only [T.kind]
  repeat' first | refine aR (by decide) ?_ | refine cL (by decide) ?_ | refine ck (by decide) ?_ | refine dB (by decide) ?_
  refine cF ok ?_;refine⟨by simp only [T.hd,T.text,Nv];omega,λb1 H hb G=>?_⟩;subst hb;exact h _ _ (G▸Ex.alloc w _) (one p.text H G) (λg J=>by cases J;exact ND _)
 | tau p=>
  simp only [T.kind]
  repeat' first | refine aR (by decide) ?_ | refine cL (by decide) ?_ | refine ck (by decide) ?_ | refine dB (by decide) ?_
  refine cF ok ?_;refine⟨by simp only [T.hd,T.text,Nv];omega,λb1 H hb G=>?_⟩;subst hb;exact h _ _ (G▸Ex.alloc w _) (one p.text H G) (λg J=>by cases J;exact ND _)
 | rep p=>
  simp only [T.kind]
  repeat' first | refine aR (by decide) ?_ | refine cL (by decide) ?_ | refine ck (by decide) ?_ | refine dB (by decide) ?_
  refine cF ok ?_;refine⟨by simp only [T.hd,T.text,Nv];omega,λb1 H hb G=>?_⟩;subst hb;exact h _ _ (G▸Ex.alloc w _) (one p.text H G) (λg J=>by cases J;exact ND _)
 | res x p=>
  simp only [T.kind]
  repeat' first | refine aR (by decide) ?_ | refine cL (by decide) ?_ | refine ck (by decide) ?_ | refine dB (by decide) ?_
  refine cF ok ?_;refine⟨by simp only [T.hd,T.text,Nv];omega,λb1 H hb G=>?_⟩;subst hb;exact h _ _ (G▸Ex.alloc w _) (one p.text H G) (λg J=>by cases J;exact ND _)
 | mat a b p=>
  simp only [T.kind]
  repeat' first | refine aR (by decide) ?_ | refine cL (by decide) ?_ | refine ck (by decide) ?_ | refine dB (by decide) ?_
  refine cF ok ?_;refine⟨by simp only [T.hd,T.text,Nv];omega,λb1 H hb G=>?_⟩;subst hb;exact h _ _ (G▸Ex.alloc w _) (one p.text H G) (λg J=>by cases J;exact ND _)
def cG {t:P}(ok:Ok t){w:World}{R:Value->QU}(h:∀v w',Ex w w'->Strs w' v (t.parts.map T.text)->R v w'):
  QV 141 #[.string (ay t.text)] w (ax [.v] R):=pN ok λv w' h1 G _=>h v w' h1 G
def kz (s:Tx):Prop:=s.Pairwise (· < ·)
def kz.bound:∀{s:Tx},kz s->s.length<=256
 | [],_=>by simp
 | a::l,h=>by
  have key:∀(l:Tx) (a:UInt8),kz (a::l)->l.length+a.toNat<=255:=by
   intro l
   induction l with
   | nil=>intro a _;have :=a.toNat_lt;simp;omega
   | cons b l G=>
    intro a h;have h1:=Pk.1 h;have H:=G b h1.2;have J:=Ol.1 (h1.1 b (Oa ..));simp only [Nv];omega
  have :=key l a h;simp only [Nv];omega
def qn {s:Tx}{i:Nat}(h:i< s.length):bt s i∈s:=by
 simp only [bt,List.getD_eq_getElem?_getD,Ny h,Option.getD_some];exact NO h
def Cj {s:Tx}{c:UInt8}(h:c∈s):∃i,i< s.length/\bt s i=c:=by
 obtain⟨i,hi,e⟩:=OG.1 h;exact⟨i,hi,by simp [bt,hi,e]⟩
def fg {s:Tx}{c:UInt8}(hs:s.length<=1099511627776){w:World}{R:Bool->QU}(h:R (decide (c∈s)) w):QV 92 #[.string (ay s),.int .u8 c.toNat] w (ax [.b] R):=by
 refine xf s c w R ?_;dsimp only [go_sem];dsimp only [go_sem,Nat.reduceAdd];refine⟨λi w'=>w=w'/\0<=i/\i<=s.length/\∀j:Nat,j< i->bt s j≠c,λi _=>((s.length:Int) - i).toNat,⟨rfl,by omega,by omega,λj J=>by omega⟩,λi w1 hI=>?_⟩;obtain⟨rfl,h0,h1,Z⟩:=hI;refine⟨λG=>⟨by simp at G;omega,λhe=>?_,λhe=>?_⟩,λG=>?_⟩
 ·simp only [NL]at G he;rw [Ph (he▸qn (by omega))]at h;exact h
 ·simp only [NL,NQ]at G he;refine⟨by omega,⟨rfl,by omega,by omega,λj J=>?_⟩,by dsimp only;omega⟩;rcases Pb j i.toNat with H | H
  ·exact Z j (by omega)
  ·have:j=i.toNat:=by omega
   rw [this];exact he
 ·simp only [NQ]at G;have hn:¬c∈s:=λhm=>by
   obtain⟨j,J,e⟩:=Cj hm;exact Z j (by omega) e
  rw [O6 hn]at h;exact h
def wI {s:Tx}{i:Int}(H:0<=i)(h:i< s.length):List.drop i.toNat (List.take (i+1).toNat s)=[bt s i.toNat]:=by
 obtain⟨n,rfl⟩:∃n:Nat,i=n:=⟨i.toNat,by omega⟩
 have e:((n:Int)+1).toNat=n+1:=by omega
 have G:n< s.length:=by omega
 rw [e,NF,List.drop_take,Nat.add_sub_cancel_left,bD G];rfl
def gm {s:Tx}{i:Int}(H:0<=i)(h:i< s.length):s.take (i+1).toNat=s.take i.toNat++[bt s i.toNat]:=by
 obtain⟨n,rfl⟩:∃n:Nat,i=n:=⟨i.toNat,by omega⟩
 have e:((n:Int)+1).toNat=n+1:=by omega
 have G:n< s.length:=by omega
 rw [e,NF,List.take_add_one]
 congr 1
 simp [bt,Ny G]
def sS {s:Tx}{c:UInt8}(Z:s.length<=1099511627776){w:World}{R:aH->QU}(h:R (s.filter λd=>decide (d≠c)) w):QV 140 #[.string (ay s),.int .u8 c.toNat] w (ax [.s] R):=by
 refine sV s c w R ?_;dsimp only [go_sem];dsimp only [go_sem,Nat.reduceAdd];refine⟨λout i w'=>w=w'/\0<=i/\i<=s.length/\out=(s.take i.toNat).filter λd=>decide (d≠c),λ _ i _=>((s.length:Int) - i).toNat,⟨rfl,by omega,by omega,rfl⟩,λout i w1 J=>?_⟩;obtain⟨rfl,H,h1,rfl⟩:=J;refine⟨λG=>?_,λG=>?_⟩
 ·simp only [NL]at G;have hl:((s.take i.toNat).filter λd=>decide (d≠c)).length<=s.length:=OC (PH ..) (by rw [Og];omega);refine⟨by omega,λhe=>?_,λhe=>?_⟩
  ·simp only [PC,NQ]at he;rw [wI H G];refine⟨by omega,by omega,by simp only [Nv,NR];omega,by omega,⟨rfl,by omega,by omega,?_⟩,by dsimp only;omega⟩;rw [gm H G,List.filter_append,List.filter_cons,if_pos (by simpa using he),List.filter_nil]
  ·simp only [Bool.not_eq_false',NL]at he;refine⟨by omega,⟨rfl,by omega,by omega,?_⟩,by dsimp only;omega⟩;rw [gm H G,List.filter_append,List.filter_cons,if_neg (by simpa using he),List.filter_nil,List.append_nil]
 ·simp only [NQ]at G;have:i.toNat=s.length:=by omega
  rw [this,Od];exact h
def kh {w1:World}(c:UInt8){H:World}{b:Nat}(hb:b=w1.heap.size)(h:H=w1.alloc (.cells #[.int .u8 c.toNat] 5)):
  ∀(j:Nat) (x:UInt8),[c][j]?=some x->H.cell? ⟨b,0+j,none⟩=some (.int .u8 x.toNat):=by
 intro j x G;subst hb h
 match j,G with
 | 0,G=>simp at G;subst G;exact aa rfl
 | j+1,G=>simp at G
def gn {s:Tx}{c:UInt8}(hs:kz s){w:World}{R:aH->QU}(h:∀s' w',Ex w w'->kz s'->(∀x,x∈s'↔x=c\/x∈s)->R s' w'):
  QV 145 #[.string (ay s),.int .u8 c.toNat] w (ax [.s] R):=by
 refine vk s c w R ?_;dsimp only [go_sem];dsimp only [go_sem,Nat.reduceAdd];have hl:=hs.bound;refine⟨λi w'=>w=w'/\0<=i/\i<=s.length/\∀j:Nat,j< i->bt s j< c,λi _=>((s.length:Int) - i).toNat,⟨rfl,by omega,by omega,λj hj=>by omega⟩,λi w1 hI=>?_⟩;obtain⟨rfl,h0,h1,h2⟩:=hI;have put:(i=s.length\/c< bt s i.toNat)->∀w1,w1=w.drew->(0<=i/\i<=s.length)/\(0<=i/\i<=s.length)/\∀(b9:Nat) (J:World),b9=w1.heap.size->J=w1.alloc (.cells #[.int .u8 c.toNat] 5)->
   True/\∃(ε ζ n13 β:Nat) (H:aH),(Value.slice (some ⟨b9,0,none⟩) 1 1)=Value.slice (some ⟨ε,ζ,none⟩) n13 β/\H.length=n13/\(∀(j:Nat) (x:UInt8),H[j]?=some x->J.cell? ⟨ε,ζ+j,none⟩=some (.int .u8 x.toNat))/\True/\
    ((s.take i.toNat).length+H.length<=4611686018427387904)/\((s.take i.toNat++H).length+(s.drop i.toNat).length<=4611686018427387904)/\R ((s.take i.toNat++H)++s.drop i.toNat) J:=by
  rintro hp w1 rfl
  refine⟨by omega,by omega,λb9 J hb hw=>⟨trivial,b9,0,1,1,[c],rfl,rfl,kh c hb hw,trivial,?_,?_,?_⟩⟩
  ·simp only [Og,Nv,NR];omega
  ·simp only [NB,Og,O3,Nv,NR];omega
  ·have η:∀x∈s.take i.toNat,x< c:=by
    intro x G;obtain⟨j,hj,e⟩:=Cj G;rw [Og]at hj;have:bt (s.take i.toNat) j=bt s j:=by simp only [bt,List.getD_eq_getElem?_getD];rw [Ox (by omega)]
    rw [<-e,this];exact h2 j (by omega)
   have θ:∀x∈s.drop i.toNat,c< x:=by
    rcases hp with hp | hp
    ·intro x G;rw [hp,NF,Po]at G;cases G
    ·intro x G;have hi:i.toNat< s.length:=by
      rcases Pb i.toNat s.length with h | h
      ·exact h
      ·rw [Pj h]at G;cases G
     have hd:=bD hi;have ι:kz (s.drop i.toNat):=Ps (List.drop_sublist _ _) hs;rw [hd]at G ι;rcases NV.1 G with rfl | G
     ·exact hp
     ·exact UInt8.lt_trans hp ((Pk.1 ι).1 x G)
   refine h _ _ (hw▸(Ex.drew w).trans (Ex.alloc _ _)) ?_ ?_
   ·rw [Oi];refine PL.2 ⟨Ps (List.take_sublist _ _) hs,?_,?_⟩
    ·exact Pk.2 ⟨θ,Ps (List.drop_sublist _ _) hs⟩
    ·intro x G y hy;rcases NV.1 hy with rfl | hy
     ·exact η x G
     ·exact UInt8.lt_trans (η x G) (θ y hy)
   ·intro x;have:x∈s↔x∈s.take i.toNat\/x∈s.drop i.toNat:=by rw [<-NI,OL]
    rw [this];simp only [NI,NV,Qf,QG];constructor
    ·rintro((h | h) | h)
     ·exact .inr (.inl h)
     ·exact .inl h
     ·exact .inr (.inr h)
    ·rintro(h | h | h)
     ·exact .inl (.inr h)
     ·exact .inl (.inl h)
     ·exact .inr h
 have same:i< s.length->bt s i.toNat=c->R s w:=λhi he=>h s w (Ex.refl w) hs λx=>⟨.inr,λG=>G.elim (λe=>by rw [e,<-he];exact qn (by omega)) id⟩
 have fin:i< s.length->¬bt s i.toNat< c->¬bt s i.toNat=c->c< bt s i.toNat:=λ _ h1 h2=>by
  rcases UInt8.lt_or_lt_of_ne (Qu h2)with h | h
  ·exact h
  ·exact absurd h h1
 refine⟨λhc=>?_,λhc=>?_⟩
 ·have Z:i< s.length:=by simpa using hc
  refine⟨by omega,λhb=>?_,λhb=>?_⟩
  ·simp only [NL]at hb;refine⟨by omega,⟨rfl,by omega,by omega,λj hj=>?_⟩,by dsimp only;omega⟩;rcases Pb j i.toNat with κ | κ
   ·exact h2 j (by omega)
   ·have:j=i.toNat:=by omega
    rw [this];exact hb
  ·simp only [NQ]at hb;refine⟨λ _=>⟨by omega,λhe=>same Z (by simpa using he),λhe=>?_⟩,λγ=>absurd hc (by rw [γ];simp)⟩;exact⟨λ _=>True,λw1 δ=>⟨trivial,put (.inr (fin Z hb (by simpa using he))) w1 δ⟩⟩
 ·have Z:i=s.length:=by simp at hc;omega
  refine⟨λγ=>absurd γ (by rw [hc];simp),λ _=>?_⟩;exact⟨λ _=>True,λw1 δ=>⟨trivial,put (.inl Z) w1 δ⟩⟩
def iT {s t:Tx}(hs:kz s)(ht:t.length<=1099511627776){w:World}{R:aH->QU}(h:∀G w',Ex w w'->kz G->(∀x,x∈G↔x∈s\/x∈t)->R G w'):
  QV 142 #[.string (ay s),.string (ay t)] w (ax [.s] R):=by
 refine sN s t w R ?_;dsimp only [go_sem];dsimp only [go_sem,Nat.reduceAdd];refine⟨λout i w'=>Ex w w'/\0<=i/\i<=t.length/\kz out/\∀x,x∈out↔x∈s\/x∈t.take i.toNat,λ _ i _=>((t.length:Int) - i).toNat,⟨Ex.refl w,by omega,by omega,hs,by simp⟩,λout i w1 hI=>?_⟩;obtain⟨hx,h0,h1,h2,J⟩:=hI;refine⟨λH=>?_,λH=>?_⟩
 ·simp only [NL]at H;refine⟨by omega,gn h2 λG w' Z β hm=>⟨by omega,⟨hx.trans Z,by omega,by omega,β,λx=>?_⟩,by dsimp only;omega⟩⟩;rw [hm,J,gm h0 H,List.mem_append,List.mem_singleton];constructor
  ·rintro(h | h | h)
   ·exact .inr (.inr h)
   ·exact .inl h
   ·exact .inr (.inl h)
  ·rintro(h | h | h)
   ·exact .inr (.inl h)
   ·exact .inr (.inr h)
   ·exact .inl h
 ·simp only [NQ]at H;have:i.toNat=t.length:=by omega
  rw [this,Od]at J;exact h out w1 hx h2 J
def pK (s:Tx)(c:UInt8):Prop:=
 uy (λd=>decide (d∈s))=some c\/
 (uy (λd=>decide (d∈s))=none/\128<=c/\c<=191/\(∀d:UInt8,128<=d->d< c->d∈s)/\(c∉s\/c=191))
def BX (i:Nat)(h:i< EC.length):EC[i]=UInt8.ofNat (97+i):=by
 simp [EC]
def rY {f:UInt8->Bool}{c:UInt8}(h1:97<=c)(G:c<=122)(H:f c=true)(J:∀d:UInt8,97<=d->d< c->f d=false):EC.find? f=some c:=by
 have Z:97<=c.toNat:=NX.1 h1;have β:c.toNat<=122:=NX.1 G;have hl:EC.length=26:=by simp [EC]
 rw [List.find?_eq_some_iff_getElem];refine⟨H,c.toNat - 97,by omega,?_,λj hj=>?_⟩
 ·rw [BX];apply N6.1;rw [ON];omega
 ·rw [BX];have e:(UInt8.ofNat (97+j)).toNat=97+j:=by rw [ON];omega
  rw [J _ (NX.2 (by rw [e];show 97<=_;omega)) (Ol.2 (by omega))];rfl
def wF {f:UInt8->Bool}(G:∀d:UInt8,97<=d->d<=122->f d=false):EC.find? f=none:=by
 rw [List.find?_eq_none];intro d hd;have H:EC.length=26:=by simp [EC]
 obtain⟨j,J,rfl⟩:=OG.1 hd;rw [BX];have e:(UInt8.ofNat (97+j)).toNat=97+j:=by rw [ON];omega
 rw [G _ (NX.2 (by rw [e];show 97<=_;omega)) (NX.2 (by rw [e];show _<=122;omega))];simp
def gz {s:Tx}(hs:s.length<=1099511627776){w:World}{R:UInt8->QU}(h:∀c,pK s c->R c w):QV 78 #[.string (ay s)] w (ax [.c] R):=by
 refine ru s w R ?_;dsimp only [go_sem];dsimp only [go_sem,UInt8.reduceOfNat];refine⟨λc w'=>w=w'/\97<=c/\c<=123/\∀d:UInt8,97<=d->d< c->d∈s,λc _=>200 - c.toNat,⟨rfl,by decide,by decide,λd h1 h2=>absurd (UInt8.lt_of_le_of_lt h1 h2) (UInt8.lt_irrefl _)⟩,λc w1 hI=>?_⟩;obtain⟨rfl,h0,h1,h2⟩:=hI;have ι:=NX.1 h0;have κ:=NX.1 h1;refine⟨λJ=>fg hs ?_,λJ=>?_⟩
 ·simp only [NL]at J;have δ:=NX.1 J;refine⟨λhm=>?_,λhm=>?_⟩
  ·simp only [PC,NQ]at hm;refine h c (.inl (rY h0 J (by simpa using hm) λd G H=>by simpa using h2 d G H))
  ·simp only [Bool.not_eq_false',NL]at hm;have e:(c+1).toNat=c.toNat+1:=by rw [QH];show(c.toNat+1) % 256=_;exact Nat.mod_eq_of_lt (by have:(122:UInt8).toNat=122:=rfl;omega)
   have ε:(122:UInt8).toNat=122:=rfl;have η:(123:UInt8).toNat=123:=rfl;have μ:(97:UInt8).toNat=97:=rfl;refine⟨⟨rfl,NX.2 (by omega),NX.2 (by omega),λd G H=>?_⟩,by dsimp only;omega⟩;have γ:=Ol.1 H;by_cases Z:d=c
   ·rw [Z];exact hm
   ·refine h2 d G (Ol.2 ?_);have:d.toNat≠c.toNat:=λe=>Z (N6.1 e)
    omega
 ·simp only [NQ]at J;have δ:¬c.toNat<=122:=λhh=>J (NX.2 hh)
  have β:uy (λd=>decide (d∈s))=none:=by
   refine wF λd G H=>?_
   have γ:=NX.1 H;have ε:(122:UInt8).toNat=122:=rfl;simpa using h2 d G (Ol.2 (by omega))
  refine⟨λc w'=>w=w'/\128<=c/\c<=191/\∀d:UInt8,128<=d->d< c->d∈s,λc _=>200 - c.toNat,⟨rfl,by decide,by decide,λd h1 h2=>absurd (UInt8.lt_of_le_of_lt h1 h2) (UInt8.lt_irrefl _)⟩,λc w1 hI=>?_⟩;obtain⟨rfl,k0,k1,k2⟩:=hI;have ν:=NX.1 k0;have ξ:=NX.1 k1;refine⟨λJ=>fg hs ?_,λJ=>?_⟩
  ·simp only [NL]at J;have δ:=Ol.1 J;have ζ:(191:UInt8).toNat=191:=rfl;have θ:(128:UInt8).toNat=128:=rfl;refine⟨λhm=>?_,λhm=>?_⟩
   ·simp only [NL]at hm;have e:(c+1).toNat=c.toNat+1:=by rw [QH];show(c.toNat+1) % 256=_;exact Nat.mod_eq_of_lt (by omega)
    refine⟨⟨rfl,NX.2 (by omega),NX.2 (by omega),λd G H=>?_⟩,by dsimp only;omega⟩;have γ:=Ol.1 H;by_cases Z:d=c
    ·rw [Z];exact hm
    ·refine k2 d G (Ol.2 ?_);have:d.toNat≠c.toNat:=λe=>Z (N6.1 e)
     omega
   ·simp only [NQ]at hm;exact h c (.inr ⟨β,k0,k1,k2,.inl hm⟩)
  ·simp only [NQ]at J;have δ:¬c.toNat< 191:=λhh=>J (Ol.2 hh)
   have ζ:(191:UInt8).toNat=191:=rfl;exact h c (.inr ⟨β,k0,k1,k2,.inr (N6.1 (by omega))⟩)
def aT (t:P):t.size=1+(t.parts.map T.size).sum:=by
 cases t<;>simp [T.size,T.parts]<;>omega
def zn (l:List P)(k:Nat):((l.take k).map T.size).sum<=(l.map T.size).sum:=by
 conv=>rhs;rw [<-OL k l]
 rw [Oj,PN];omega
def cW (t:P):t.parts.length<=2:=by cases t<;>simp [T.parts]
def dJ {t p:P}(h:p∈t.parts):p.size< t.size:=by
 cases t<;>simp only [T.parts,NV,Qf,QG,List.mem_nil_iff]at h<;>simp only [T.size]
 all_goals first | exact h.elim | (rcases h with rfl | rfl<;>omega) | (subst h;omega)
def G8:∀(n:Nat) {t:P},t.size<=n->Ok t->∀{w:World} {R:Int->QU},(∀w',Ex w w'->R (t.size:Int) w')->QV 131 #[.string (ay t.text)] w (ax [.i] R):=by
 intro n
 induction n with
 | zero=>intro t h;have :=aT t;omega
 | succ n ih=>
  intro t hn ok w R h;refine um _ w R ?_;dsimp only [go_sem];dsimp only [go_sem,Nat.reduceAdd];refine cG ok λv w1 hx hs=>?_
  obtain⟨a,cap,hv⟩:=hs.slice;rw [NH]at hv;have γ:=bg t;have hle:=ok.len;refine⟨a,t.parts.length,cap,hv,λm x w'=>Ex w w'/\Strs w' v (t.parts.map T.text)/\∃k:Nat,x=k/\k<=t.parts.length/\m=1+(((t.parts.take k).map T.size).sum:Int),λ _ x _=>((t.parts.length:Int) - x).toNat,
   ⟨hx,hs,0,rfl,by omega,by simp⟩,λm x w2 hI=>?_⟩
  obtain⟨H,J,k,rfl,hk,rfl⟩:=hI;refine⟨λhc=>?_,λhc=>?_⟩
  ·have G:k< t.parts.length:=by simpa using hc
   obtain⟨b,o,cp,e1,e2,e3⟩:=J.at (i:=k) (by rw [NH];exact G);rw [NH]at e1;refine⟨b,o,t.parts.length,cp,e1,by omega,by omega,(t.parts[k]).text,?_,?_⟩
   ·rw [NF,N7,e3,OK]
   ·have hm:t.parts[k]∈t.parts:=NO G;refine ih (by have :=dJ hm;omega) (ok.parts _ hm) λw3 Z=>?_
    have β:((t.parts.take (k+1)).map T.size).sum=((t.parts.take k).map T.size).sum+(t.parts[k]).size:=by
     rw [NG G,Oj,PN];simp
    have h1:=zn t.parts (k+1);have h2:=aT t;have h3:=cW t;refine⟨by omega,by omega,⟨H.trans Z,J.ex Z,k+1,by omega,G,by rw [β];omega⟩,by dsimp only;omega⟩
  ·have G:k=t.parts.length:=by simp at hc;omega
   subst G;have e:=aT t;rw [Od];have:(1:Int)+((t.parts.map T.size).sum:Int)=(t.size:Int):=by omega
   rw [this];exact h _ H
def dz (c:UInt8):Bool:= !((65<=c&&c<=90)||128<=c)
def DY {p:Tx}(hp:p.length<=1099511627776){w:World}{R:Bool->QU}(h:R (p.all dz) w):QV 158 #[.string (ay p)] w (ax [.b] R):=by
 refine qO p w R ?_;dsimp only [go_sem];dsimp only [go_sem,Nat.reduceAdd];refine⟨λi w'=>w=w'/\0<=i/\i<=p.length/\∀j:Nat,j< i->dz (bt p j)=true,λi _=>((p.length:Int) - i).toNat,⟨rfl,by omega,by omega,λj J=>by omega⟩,λi w1 hI=>?_⟩;obtain⟨rfl,h0,h1,Z⟩:=hI;have bad:i< p.length->dz (bt p i.toNat)=false->R false w:=λhi hb=>by
  have:p.all dz=false:=by
   rw [List.all_eq_false];exact⟨bt p i.toNat,qn (by omega),by simp [hb]⟩
  rw [this]at h;exact h
 have next:i< p.length->dz (bt p i.toNat)=true->cR (i+1)/\(w=w/\0<=i+1/\i+1<=p.length/\∀j:Nat,j< i+1->dz (bt p j)=true)/\((p.length:Int) - (i+1)).toNat< ((p.length:Int) - i).toNat:=λhi hb=>by
  refine⟨by omega,⟨rfl,by omega,by omega,λj J=>?_⟩,by omega⟩;rcases Pb j i.toNat with H | H
  ·exact Z j (by omega)
  ·have:j=i.toNat:=by omega
   rw [this];exact hb
 refine⟨λG=>?_,λG=>?_⟩
 ·simp only [NL]at G;refine⟨by omega,λa1=>⟨by omega,λa2=>⟨by omega,λa3=>bad G ?_,λa3=>next G ?_⟩,λa2=>bad G ?_⟩,λa1=>⟨by omega,λa3=>bad G ?_,λa3=>next G ?_⟩⟩<;>
   simp_all [dz]
 ·simp only [NQ]at G;have:p.all dz=true:=by
   rw [Pf];intro x hx;obtain⟨j,J,rfl⟩:=Cj hx;exact Z j (by omega)
  rw [this]at h;exact h
def T.lw:P->Bool
 | .nil=>true | .snd a b p=>lt a&&lt b&&p.lw | .rcv a b p=>lt a&&lt b&&p.lw | .tau p=>p.lw | .sum p q=>p.lw&&q.lw
 | .par p q=>p.lw&&q.lw | .res x p=>lt x&&p.lw | .mat a b p=>lt a&&lt b&&p.lw | .rep p=>p.lw
def gJ {c:UInt8}(h:lt c=true):nm c=true/\dz c=true:=by
 simp only [lt,Nz,NL]at h;have h1:=NX.1 h.1;have Z:=NX.1 h.2;refine⟨by simp [nm,h.1,h.2],?_⟩;have J:(97:UInt8).toNat=97:=rfl;have H:(122:UInt8).toNat=122:=rfl;simp only [dz,PC,O0,Bool.and_eq_false_iff,NQ];refine⟨.inr λG=>?_,λG=>?_⟩
 ·have :=NX.1 G;have e:(90:UInt8).toNat=90:=rfl;omega
 ·have :=NX.1 G;have e:(128:UInt8).toNat=128:=rfl;omega
def r9 {c:UInt8}(h:nm c=true)(k:dz c=true):lt c=true:=by
 simp only [nm,lt,dz,O',Nz,NL,PC,O0,Bool.and_eq_false_iff,NQ]at*;rcases h with(h | h) | h
 ·exact h
 ·exact absurd h (by rcases k.1 with k | k<;>simp [k])
 ·exact absurd h k.2
def iM:∀{t:P},t.lw=true->t.wf=true/\t.text.all dz=true
 | .nil,_=>⟨rfl,rfl⟩
 | .snd a b p,h=>by
  simp only [T.lw,Nz]at h;have :=iM h.2;simp [T.wf,T.text,(gJ h.1.1).1,(gJ h.1.1).2,(gJ h.1.2).1,(gJ h.1.2).2,this.1,this.2];decide
 | .rcv a b p,h=>by
  simp only [T.lw,Nz]at h;have :=iM h.2;simp [T.wf,T.text,(gJ h.1.1).1,(gJ h.1.1).2,(gJ h.1.2).1,(gJ h.1.2).2,this.1,this.2];decide
 | .mat a b p,h=>by
  simp only [T.lw,Nz]at h;have :=iM h.2;simp [T.wf,T.text,(gJ h.1.1).1,(gJ h.1.1).2,(gJ h.1.2).1,(gJ h.1.2).2,this.1,this.2];decide
 | .res x p,h=>by
  simp only [T.lw,Nz]at h;have :=iM h.2;simp [T.wf,T.text,(gJ h.1).1,(gJ h.1).2,this.1,this.2];decide
 | .tau p,h=>by have :=iM (t:=p) h;simp [T.wf,T.text,this.1,this.2];decide
 | .rep p,h=>by have :=iM (t:=p) h;simp [T.wf,T.text,this.1,this.2];decide
 | .sum p q,h=>by
  simp only [T.lw,Nz]at h;have h1:=iM h.1;have G:=iM h.2;simp [T.wf,T.text,h1.1,h1.2,G.1,G.2];decide
 | .par p q,h=>by
  simp only [T.lw,Nz]at h;have h1:=iM h.1;have G:=iM h.2;simp [T.wf,T.text,h1.1,h1.2,G.1,G.2];decide
def kv:∀{t:P},t.wf=true->t.text.all dz=true->t.lw=true
 | .nil,_,_=>rfl
 | .snd a b p,h,k=>by
  simp only [T.wf,T.text,Nz,OM]at h k;simp [T.lw,r9 h.1.1 k.1,r9 h.1.2 k.2.2.1,kv h.2 k.2.2.2.2]
 | .rcv a b p,h,k=>by
  simp only [T.wf,T.text,Nz,OM]at h k;simp [T.lw,r9 h.1.1 k.1,r9 h.1.2 k.2.2.1,kv h.2 k.2.2.2.2]
 | .mat a b p,h,k=>by
  simp only [T.wf,T.text,Nz,OM]at h k;simp [T.lw,r9 h.1.1 k.2.1,r9 h.1.2 k.2.2.2.1,kv h.2 k.2.2.2.2.2]
 | .res x p,h,k=>by
  simp only [T.wf,T.text,Nz,OM]at h k;simp [T.lw,r9 h.1 k.2.1,kv h.2 k.2.2.2]
 | .tau p,h,k=>by simp only [T.text,Nz,OM]at k;exact kv (t:=p) h k.2.2
 | .rep p,h,k=>by simp only [T.text,Nz,OM]at k;exact kv (t:=p) h k.2
 | .sum p q,h,k=>by
  simp only [T.wf,T.text,Nz,OM,P4]at h k;simp [T.lw,kv h.1 k.2.1,kv h.2 k.2.2.2.1]
 | .par p q,h,k=>by
  simp only [T.wf,T.text,Nz,OM,P4]at h k;simp [T.lw,kv h.1 k.2.1,kv h.2 k.2.2.2.1]
structure Good (t:P):Prop where
 lw:t.lw=true
 len:t.text.length<=300
 size:t.size<=60
def Good.ok {t:P}(h:Good t):Ok t:=⟨(iM h.lw).1,by have :=h.len;omega⟩
def wh {p:Tx}{w:World}{R:Bool->QU}(h:∀b w',Ex w w'->(b=true↔∃t:P,Good t/\t.text=p)->R b w'):QV 88 #[.string (ay p)] w (ax [.b] R):=by
 refine sK p w R ?_;dsimp only [go_sem];by_cases hp:p.length<=1099511627776
 rotate_left
 ·exact aR (by omega) (h _ _ (Ex.refl w) ⟨λH=>by simp at H,fun⟨t,G,e⟩=>by have :=G.len;rw [e]at this;omega⟩)
 refine⟨λJ=>DY hp ⟨λZ=>?_,λZ=>?_⟩,λJ=>?_⟩
 ·simp only [NL]at J;refine oX p (by omega) (p.length+1) 0 (by omega) (by omega) (by omega) ⟨λhe=>?_,λhe=>?_⟩
  ·simp only [NL]at he;obtain⟨t,hw,G⟩:=By (l:=p) (p.length+1) 0 (by show 0<=endI p _ 0;omega);have e0:endI p (p.length+1) ((0:Nat):Int)=p.length:=he;rw [e0,NF,Po,N9,Pu]at G;subst G;have β:=kv hw Z;refine G8 t.size (ND _) ⟨hw,hp⟩ λw' hx=>h _ _ hx ?_
   simp only [NL];constructor
   ·intro γ;exact⟨t,⟨β,by omega,by omega⟩,rfl⟩
   ·rintro⟨u,hu,e⟩
    have h1:=vN (l:=t.text) u (u.size+t.size) 0 [] hu.ok.wf (by omega) (by simp [e]);have:u=t:=by
     exact(kO hu.ok.wf hw (r:=[]) (r':=[]) (by simpa using e)).1
    rw [<-this];exact_mod_cast hu.size
  ·simp only [NQ]at he;refine h _ _ (Ex.refl w) ⟨λH=>by simp at H,?_⟩
   rintro⟨t,G,rfl⟩
   exact absurd (by simpa using ox t G.ok.wf t.text 0 [] (by simp) (t.text.length+1) (by omega)) he
 ·refine h _ _ (Ex.refl w) ⟨λH=>by simp at H,?_⟩
  rintro⟨t,G,rfl⟩
  rw [(iM G.lw).2]at Z;cases Z
 ·simp only [NQ]at J;refine h _ _ (Ex.refl w) ⟨λH=>by simp at H,?_⟩
  rintro⟨t,G,rfl⟩
  have :=G.len;exact absurd (by omega) J
def HO {p:Tx}(G:p.length<=1099511627776){w:World}{R:Bool->QU}(h:∀b w',Ex w w'->(b=true↔∃t:P,Good t/\t.text=p)->R b w'):QV 88 #[.string (ay p)] w (ax [.b] R):=wh h
namespace T
def map {A B:Type}(f:A->B):T A->T B
 | nil=>nil | snd a b p=>snd (f a) (f b) (p.map f) | rcv a x p=>rcv (f a) (f x) (p.map f) | tau p=>tau (p.map f)
 | sum p q=>sum (p.map f) (q.map f) | par p q=>par (p.map f) (q.map f) | res x p=>res (f x) (p.map f) | mat a b p=>mat (f a) (f b) (p.map f) | rep p=>rep (p.map f)
def shp {A:Type}(p:T A):T Unit:=p.map λ _=>()
def aK {A:Type}:T A->Nat
 | nil=>1 | snd _ _ p=>p.aK+4 | rcv _ _ p=>p.aK+4 | tau p=>p.aK+2 | sum p q=>p.aK+q.aK+3 | par p q=>p.aK+q.aK+3
 | res _ p=>p.aK+3 | mat _ _ p=>p.aK+5 | rep p=>p.aK+1
def bd {A:Type}:T A->Nat
 | nil=>0 | snd _ _ p=>p.bd | rcv _ _ p=>p.bd+1 | tau p=>p.bd | sum p q=>max p.bd q.bd | par p q=>max p.bd q.bd
 | res _ p=>p.bd+1 | mat _ _ p=>p.bd | rep p=>p.bd
def rd {A:Type}:T A->Nat
 | nil=>0 | snd _ _ p=>p.rd | rcv _ _ p=>p.rd+1 | tau p=>p.rd | sum p q=>max p.rd q.rd | par p q=>max p.rd q.rd
 | res _ p=>p.rd | mat _ _ p=>p.rd | rep p=>p.rd
def ow {A:Type}:T A->Nat
 | nil=>0 | snd _ _ p=>p.ow | rcv _ _ p=>p.ow | tau p=>p.ow | sum p q=>p.ow+q.ow | par p q=>p.ow+q.ow
 | res _ p=>p.ow+1 | mat _ _ p=>p.ow | rep p=>p.ow
def pm {A:Type}:T A->Nat
 | par p q=>max p.pm q.pm | res _ p=>p.pm+1
 | nil=>0 | snd _ _ p=>p.rd+p.ow | rcv _ _ p=>p.rd+1+p.ow | tau p=>p.rd+p.ow | sum p q=>max p.rd q.rd+(p.ow+q.ow) | mat _ _ p=>p.rd+p.ow | rep p=>p.rd+p.ow
section
variable {A B:Type}
def size_map (f:A->B)(p:T A):(p.map f).size=p.size:=by induction p<;>simp_all [map,size]
def FH (f:A->B)(p:T A):(p.map f).aK=p.aK:=by induction p<;>simp_all [map,aK]
def KE (f:A->B)(p:T A):(p.map f).bd=p.bd:=by induction p<;>simp_all [map,bd]
def Cq (f:A->B)(p:T A):(p.map f).rd=p.rd:=by induction p<;>simp_all [map,rd]
def yf (f:A->B)(p:T A):(p.map f).ow=p.ow:=by induction p<;>simp_all [map,ow]
def KM (f:A->B)(p:T A):(p.map f).pm=p.pm:=by induction p<;>simp_all [map,pm,Cq,yf]
def fK (p:T A):p.pm<=p.rd+p.ow:=by induction p<;>simp only [pm,rd,ow]<;>omega
def oA {p:T A}{q:T B}(h:p.shp=q.shp):p.size=q.size:=by
 have :=Ot size h;simpa [shp,size_map]using this
def gI {p:T A}{q:T B}(h:p.shp=q.shp):p.aK=q.aK:=by
 have :=Ot aK h;simpa [shp,FH]using this
def KH {p:T A}{q:T B}(h:p.shp=q.shp):p.bd=q.bd:=by
 have :=Ot bd h;simpa [shp,KE]using this
def LA {p:T A}{q:T B}(h:p.shp=q.shp):p.rd=q.rd:=by
 have :=Ot rd h;simpa [shp,Cq]using this
def Fs {p:T A}{q:T B}(h:p.shp=q.shp):p.ow=q.ow:=by
 have :=Ot ow h;simpa [shp,yf]using this
def sC {p:T A}{q:T B}(h:p.shp=q.shp):p.pm=q.pm:=by
 have :=Ot pm h;simpa [shp,KM]using this
def wq (p:T A):p.bd<=p.rd+p.ow:=by induction p<;>simp only [bd,rd,ow]<;>omega
def tD:∀p:T A,p.bd<=p.pm
 | nil=>ND _
 | par p q=>by have :=tD p;have :=tD q;simp only [bd,pm];omega
 | res _ p=>by have :=tD p;simp only [bd,pm];omega
 | snd _ _ p | tau p | mat _ _ p | rep p=>wq p
 | rcv _ _ p=>by have :=wq p;simp only [bd,pm];omega
 | sum p q=>by have :=wq p;have :=wq q;simp only [bd,pm];omega
def jz (p:T A):p.rd+p.ow+1<=p.size:=by induction p<;>simp only [size,rd,ow]<;>omega
end
def aP (p:P):p.text.length=p.aK:=by
 induction p<;>simp_all [text,aK]<;>omega
end T
def okn (k:Nat)(x:UInt8):Prop:=x.toNat< 128+k\/192<=x.toNat
def okn.mono {k m:Nat}{x:UInt8}(h:okn k x)(hk:k<=m):okn m x:=by unfold okn at*;omega
def ngr (x:UInt8):Prop:=x.toNat< 65\/(90< x.toNat/\x.toNat< 192)
def Eb:Nat->P->Prop
 | _,.nil=>True
 | k,.snd a b p=>okn k a/\okn k b/\Eb k p
 | k,.rcv a x p=>okn k a/\(ngr x/\∀z,p.Fr z->z≠x->okn k z)/\Eb (k+1) p
 | k,.tau p=>Eb k p
 | k,.sum p q=>Eb k p/\Eb k q
 | k,.par p q=>Eb k p/\Eb k q
 | k,.res x p=>(ngr x/\∀z,p.Fr z->z≠x->okn k z)/\Eb (k+1) p
 | k,.mat a b p=>okn k a/\okn k b/\Eb k p
 | k,.rep p=>Eb k p
def Eb.free:∀{p:P} {k:Nat},Eb k p->∀z,p.Fr z->okn k z
 | .nil,_,_,_,h=>h.elim
 | .snd a b p,k,e,z,h=>by
  rcases h with rfl | rfl | h
  ·exact e.1
  ·exact e.2.1
  ·exact Eb.free e.2.2 z h
 | .mat a b p,k,e,z,h=>by
  rcases h with rfl | rfl | h
  ·exact e.1
  ·exact e.2.1
  ·exact Eb.free e.2.2 z h
 | .rcv a x p,k,e,z,h=>by
  rcases h with rfl | h
  ·exact e.1
  ·exact e.2.1.2 z h.2 h.1
 | .res x p,k,e,z,h=>e.1.2 z h.2 h.1
 | .tau p,k,e,z,h=>Eb.free (p:=p) e z h
 | .rep p,k,e,z,h=>Eb.free (p:=p) e z h
 | .sum p q,k,e,z,h=>h.elim (Eb.free e.1 z) (Eb.free e.2 z)
 | .par p q,k,e,z,h=>h.elim (Eb.free e.1 z) (Eb.free e.2 z)
def Eb.mono:∀{p:P} {k m:Nat},Eb k p->k<=m->Eb m p
 | .nil,_,_,_,_=>trivial
 | .snd a b p,k,m,e,h=>⟨e.1.mono h,e.2.1.mono h,Eb.mono e.2.2 h⟩
 | .mat a b p,k,m,e,h=>⟨e.1.mono h,e.2.1.mono h,Eb.mono e.2.2 h⟩
 | .rcv a x p,k,m,e,h=>⟨e.1.mono h,⟨e.2.1.1,λz h1 G=>(e.2.1.2 z h1 G).mono h⟩,Eb.mono e.2.2 (by omega)⟩
 | .res x p,k,m,e,h=>⟨⟨e.1.1,λz h1 G=>(e.1.2 z h1 G).mono h⟩,Eb.mono e.2 (by omega)⟩
 | .tau p,k,m,e,h=>Eb.mono (p:=p) e h
 | .rep p,k,m,e,h=>Eb.mono (p:=p) e h
 | .sum p q,k,m,e,h=>⟨Eb.mono e.1 h,Eb.mono e.2 h⟩
 | .par p q,k,m,e,h=>⟨Eb.mono e.1 h,Eb.mono e.2 h⟩
def mV {k:Nat}{c:UInt8}(h:lt c=true):okn k c:=by
 simp only [lt,Nz,NL]at h;have H:=NX.1 h.2;have G:(122:UInt8).toNat=122:=rfl;left;omega
def aC.free {p q:P}{old nm:UInt8}(h:aC p old nm q)(z:UInt8)(H:q.Fr z):z=nm\/(z≠old/\p.Fr z)\/(z=old/\p.Fr z/\old=nm):=by
 obtain⟨y,J,e⟩:=(h UInt8.toNat).symm.free z H;unfold aG at e;split at e
 ·left;exact(N6.1 e).symm
 ·rename_i G;have:y=z:=N6.1 e;subst this;exact .inr (.inl ⟨G,J⟩)
structure eo (k:Nat)(p:P)(old nm:UInt8)(q:P):Prop where
 ok:aC p old nm q
 shp:q.shp=p.shp
 wf:q.wf=true
 eb:Eb k q
def kY {c old nm:UInt8}{w:World}{R:UInt8->QU}(h:R (sw c old nm) w):QV 181 #[.int .u8 c.toNat,.int .u8 old.toNat,.int .u8 nm.toNat] w (ax [.c] R):=by
 refine tA c old nm w R ?_;dsimp only [go_sem];unfold sw at h;refine⟨λG=>?_,λG=>?_⟩
 ·rw [N' (NZ G)]at h;exact h
 ·rw [NS (NU G)]at h;exact h
def T.bindC:P->UInt8
 | .rcv _ x _=>x | .res x _=>x | _=>0
def T.qu:P->Bool
 | .rcv .. =>true | .res .. =>true | _=>false
def qt {t:P}(ok:Ok t){w:World}{R:UInt8->Bool->QU}(h:R t.bindC t.qu w):QV 143 #[.string (ay t.text)] w (ax [.c,.b] R):=by
 refine qX _ w R ?_;dsimp only [go_sem];refine aM ok ?_;cases t<;>simp only [T.kind]<;>repeat' first | refine aR (by decide) ?_ | refine cL (by decide) ?_
 all_goals first
  | exact h
  | (refine⟨by simp only [T.text,Nv];omega,?_⟩;exact h)
def T.names:P->Tx
 | .snd a b _=>[a,b] | .rcv a _ _=>[a] | .mat a b _=>[a,b] | _=>[]
def D8 {t:P}(ok:Ok t){w:World}{R:aH->QU}(h:∀w',Ex w w'->R t.names w'):QV 246 #[.string (ay t.text)] w (ax [.s] R):=by
 refine rh _ w R ?_;dsimp only [go_sem];refine aM ok ?_;cases t<;>simp only [T.kind]<;>repeat' first | refine aR (by decide) ?_ | refine cL (by decide) ?_
 case nil=>exact h w (Ex.refl w)
 case tau=>exact h w (Ex.refl w)
 case sum=>exact h w (Ex.refl w)
 case par=>exact h w (Ex.refl w)
 case res=>exact h w (Ex.refl w)
 case rep=>exact h w (Ex.refl w)
 case rcv=>exact⟨by simp only [T.text,Nv];omega,h w (Ex.refl w)⟩
 case snd=>exact⟨λ _=>True,λw1 G=>⟨trivial,by simp only [T.text,Nv];omega,by simp only [T.text,Nv];omega,by simp [T.text],h w1 (G▸Ex.drew w)⟩⟩
 case mat=>exact⟨λ _=>True,λw1 G=>⟨trivial,by simp only [T.text,Nv];omega,by simp only [T.text,Nv];omega,by simp [T.text],h w1 (G▸Ex.drew w)⟩⟩
def Ho (t:P)(x:UInt8):t.Fr x↔x∈t.names\/(∃p∈t.parts,p.Fr x)/\¬(t.qu=true/\x=t.bindC):=by
 cases t<;>simp [T.Fr,T.names,T.parts,T.qu,T.bindC,QF,and_comm]
def kz.nil:kz []:=List.Pairwise.nil
def kz.filter {s:Tx}(h:kz s)(f:UInt8->Bool):kz (s.filter f):=Ps (List.filter_sublist) h
def gY:∀(n:Nat) {t:P},t.size<=n->Ok t->∀{w:World} {R:aH->QU},(∀s w',Ex w w'->kz s->(∀x,x∈s↔t.Fr x)->R s w')->QV 79 #[.string (ay t.text)] w (ax [.s] R):=by
 intro n
 induction n with
 | zero=>intro t h;have :=aT t;omega
 | succ n ih=>
  intro t hn ok w R h;refine rX _ w R ?_;dsimp only [go_sem];dsimp only [go_sem,Nat.reduceAdd];refine cG ok λv w1 hx hs=>?_
  obtain⟨a,cap,hv⟩:=hs.slice;rw [NH]at hv;refine⟨a,t.parts.length,cap,hv,λout x w'=>Ex w w'/\Strs w' v (t.parts.map T.text)/\kz out/\∃k:Nat,x=k/\k<=t.parts.length/\∀x,x∈out↔∃p∈t.parts.take k,p.Fr x,λ _ x _=>((t.parts.length:Int) - x).toNat,
   ⟨hx,hs,kz.nil,0,rfl,by omega,by simp⟩,λout x w2 hI=>?_⟩
  obtain⟨ζ,ς,γ,k,rfl,hk,hm⟩:=hI;refine⟨λhc=>?_,λhc=>?_⟩
  ·have H:k< t.parts.length:=by simpa using hc
   obtain⟨b,o,cp,e1,e2,e3⟩:=ς.at (i:=k) (by rw [NH];exact H);rw [NH]at e1;refine⟨b,o,t.parts.length,cp,e1,by omega,by omega,(t.parts[k]).text,?_,?_⟩
   ·rw [NF,N7,e3,OK]
   ·have ε:t.parts[k]∈t.parts:=NO H;refine ih (by have :=dJ ε;omega) (ok.parts _ ε) λs w3 δ φ η=>?_
    refine iT γ (by have :=φ.bound;omega) λs' w4 J Z β=>?_
    have h3:=cW t;refine⟨by omega,⟨(ζ.trans δ).trans J,(ς.ex δ).ex J,Z,k+1,by omega,H,λx=>?_⟩,by dsimp only;omega⟩;rw [β,hm,η,List.take_succ_eq_append_getElem H];simp only [NI,NT];constructor
    ·rintro(⟨p,hp,hf⟩ | hf)
     ·exact⟨p,.inl hp,hf⟩
     ·exact⟨_,.inr rfl,hf⟩
    ·rintro⟨p,hp | rfl,hf⟩
     ·exact .inl ⟨p,hp,hf⟩
     ·exact .inr hf
  ·have H:k=t.parts.length:=by simp at hc;omega
   subst H;rw [Od]at hm;refine⟨λout w'=>Ex w w'/\kz out/\∀x,x∈out↔(∃p∈t.parts,p.Fr x)/\¬(t.qu=true/\x=t.bindC),qt ok ⟨λhb=>?_,λhb=>?_⟩,λυ w3 hJ=>?_⟩
   ·refine sS (by have :=γ.bound;omega) ⟨ζ,γ.filter _,λx=>?_⟩;simp [hm,hb]
   ·exact⟨ζ,γ,λx=>by simp [hm,hb]⟩
   obtain⟨δ,G,η⟩:=hJ;refine aM ok ?_;have done:∀s w',Ex w3 w'->kz s->(∀x,x∈s↔x∈t.names\/x∈υ)->R s w':=λs w' J Z β=>h s w' (δ.trans J) Z λx=>by rw [β,η,Ho]
   cases t<;>simp only [T.kind]<;>repeat' first | refine aR (by decide) ?_ | refine cL (by decide) ?_
   case nil=>exact done _ _ (Ex.refl _) G λx=>by simp [T.names]
   case tau=>exact done _ _ (Ex.refl _) G λx=>by simp [T.names]
   case sum=>exact done _ _ (Ex.refl _) G λx=>by simp [T.names]
   case par=>exact done _ _ (Ex.refl _) G λx=>by simp [T.names]
   case res=>exact done _ _ (Ex.refl _) G λx=>by simp [T.names]
   case rep=>exact done _ _ (Ex.refl _) G λx=>by simp [T.names]
   case rcv a x p=>
    refine⟨by simp only [T.text,Nv];omega,gn G λs w4 J Z β=>done s w4 J Z λx=>?_⟩;rw [β];simp [T.names,T.text,bt]
   case snd a b p=>
    refine⟨λ _=>True,λw4 θ=>⟨trivial,by simp only [T.text,Nv];omega,by simp only [T.text,Nv];omega,gn G λs w5 ι κ μ=>⟨trivial,gn κ λs' w6 ν ξ ο=>⟨trivial,done s' w6 (((θ▸Ex.drew w3).trans ι).trans ν) ξ λx=>?_⟩⟩⟩⟩;rw [ο,μ];simp [T.names,T.text,bt,QF,or_left_comm]
   case mat a b p=>
    refine⟨λ _=>True,λw4 θ=>⟨trivial,by simp only [T.text,Nv];omega,by simp only [T.text,Nv];omega,gn G λs w5 ι κ μ=>⟨trivial,gn κ λs' w6 ν ξ ο=>⟨trivial,done s' w6 (((θ▸Ex.drew w3).trans ι).trans ν) ξ λx=>?_⟩⟩⟩⟩;rw [ο,μ];simp [T.names,T.text,bt,QF,or_left_comm]
structure qw (w:World)(b:Nat)(l:Tx):Prop where
 lt:b< w.heap.size
 cell:∀j,j< l.length->w.cell? ⟨b,j,none⟩=some (.int .u8 (bt l j).toNat)
 fz:∀j,j< l.length->w.frozen? ⟨b,j,none⟩=false
def qw.E9 {w:World}{el b:Nat}{l:Tx}(h:wM w el b l):qw w b l:=by
 obtain⟨cur,lo,hi,h1,H,J,h4⟩:=h;have hb:b< w.heap.size:=by
  rcases Pb b w.heap.size with h | h
  ·exact h
  ·rw [Array.getElem?_eq_none h]at h1;cases h1
 refine⟨hb,λj G=>?_,λj G=>?_⟩
 ·unfold World.cell?;rw [h1];have e:=Ot (λl=>l[j]?) H;simp only [dt,PJ,G,PG,O7,Ny G,OQ]at e;simp only [Option.isSome_none,Bool.false_eq_true,QS];rw [<-Oy,e];simp [bt,G]
 ·unfold World.frozen?;rw [h1];simp;omega
def qw.ex {w w':World}{b:Nat}{l:Tx}(h:qw w b l)(k:Ex w w'):qw w' b l:=
 ⟨N0 h.lt k.size,λj G=>by rw [k.cell h.lt];exact h.cell j G,λj G=>by rw [Pw k h.lt];exact h.fz j G⟩
def Ka {l:Tx}{i j:Nat}{c:UInt8}(hi:i< l.length):bt (l.set i c) j=if i=j then c else bt l j:=by
 simp only [bt,List.getD_eq_getElem?_getD,List.getElem?_set];by_cases h:i=j
 ·subst h;simp [hi]
 ·simp [h]
def qw.set {w:World}{b:Nat}{l:Tx}(h:qw w b l){i:Nat}(hi:i< l.length)(c:UInt8):qw (w.setCell ⟨b,i,none⟩ (.int .u8 c.toNat)) b (l.set i c):=by
 refine⟨by rw [Of];exact h.lt,λj G=>?_,λj G=>?_⟩
 ·rw [OT]at G;rw [Ka hi];by_cases e:i=j
  ·subst e;rw [N' rfl,NW _ _ _ (h.cell i hi)]
  ·rw [NS e,NC _ _ _ _ (by simp [e])];exact h.cell j G
 ·rw [NY];exact h.fz j (by simpa using G)
def qw.read {w:World}{b:Nat}{l:Tx}(h:qw w b l):∀(j:Nat) (x:UInt8),l[j]?=some x->w.cell? ⟨b,0+j,none⟩=some (.int .u8 x.toNat):=by
 intro j x H;obtain⟨G,e⟩:=On.1 H;rw [N2,h.cell j G];simp [bt,G,e]
def qw.at {w:World}{b:Nat}{l:Tx}(h:qw w b l){i:Nat}(hi:i< l.length):w.cell? ⟨b,0+i* 1,none⟩=some (.int .u8 (bt l i).toNat):=by
 rw [N2,N7];exact h.cell i hi
def Ex.own {w w':World}(h:Ex w w'){b i:Nat}(hb:w.heap.size<=b)(v:Value):Ex w (w'.setCell ⟨b,i,none⟩ v):=Below.setCell h hb v
def Hv {t:P}(ok:Ok t){v:Value}{l:List Tx}{w:World}(hs:Strs w v l){R:aH->QU}
  (ξ:(t.kind=43\/t.kind=38)->∃x y,l=[x,y]/\x.length+y.length<=1099511627776/\∀w',Ex w w'->R (40::(x++t.kind::(y++[41]))) w')
  (ο:t.kind=48->R [48] w)
  (ς:t.kind≠48->t.kind≠43->t.kind≠38->∃x,l=[x]/\x.length<=1099511627776/\∀w',Ex w w'->R (t.text.take t.hd++x) w'):
  QV 182 #[.string (ay t.text),v] w (ax [.s] R):=by
 refine tB _ v w R ?_;dsimp only [go_sem];refine aM ok ?_;have two:∀(k:UInt8),(t.kind=k)->(k=43\/k=38)->∃S5:QU,∀w6:World,w6=World.drew w->S5 w6/\∃(b7 o8 ε η:Nat),v=Value.slice (some ⟨b7,o8,none⟩) ε η/\0<=(0:Int)/\(0:Int)< ε/\∃H:aH,(∀w',S5 w'->World.cell? w' ⟨b7,(o8+Int.toNat 0* 1),none⟩=some (Value.string (ay H)))/\(List.length [(40:UInt8)]+List.length H<=4611686018427387904)/\(List.length ([(40:UInt8)]++H)+List.length [k]<=4611686018427387904)/\∃(υ φ J θ:Nat),v=Value.slice (some ⟨υ,φ,none⟩) J θ/\0<=(1:Int)/\(1:Int)< J/\∃δ:aH,(∀w',S5 w'->World.cell? w' ⟨υ,(φ+Int.toNat 1* 1),none⟩=some (Value.string (ay δ)))/\(List.length (([(40:UInt8)]++H)++[k])+List.length δ<=4611686018427387904)/\(List.length ((([(40:UInt8)]++H)++[k])++δ)+List.length [(41:UInt8)]<=4611686018427387904)/\R ((((([(40:UInt8)]++H)++[k])++δ)++[(41:UInt8)])) w6:=by
  intro k hk hk';obtain⟨x,y,rfl,hl,hR⟩:=ξ (hk▸hk');refine⟨λw'=>Strs w' v [x,y],λw6 Z=>?_⟩;have h6:Strs w6 v [x,y]:=Z▸hs.ex (Ex.drew w);obtain⟨b,o,cap,e1,e2,_⟩:=h6.at (i:=0) (by simp);refine⟨h6,b,o,2,cap,e1,by omega,by omega,x,λw' β=>?_,by simp;omega,by simp;omega,b,o,2,cap,e1,by omega,by omega,y,λw' β=>?_,by simp;omega,by simp;omega,?_⟩
  ·obtain⟨b',o',ζ,G,_,e3⟩:=β.at (i:=0) (by simp);rw [e1]at G;cases G;exact e3
  ·obtain⟨b',o',ζ,G,_,e3⟩:=β.at (i:=1) (by simp);rw [e1]at G;cases G;exact e3
  ·have :=hR w6 (Z▸Ex.drew w);rw [hk]at this;simpa using this
 have one:t.kind≠48->t.kind≠43->t.kind≠38->∃ι:QU,∀κ:World,κ=World.drew w->ι κ/\∃(χ ψ γ μ:Nat),v=Value.slice (some ⟨χ,ψ,none⟩) γ μ/\0<=(0:Int)/\(0:Int)< γ/\∃ν:aH,(∀w',ι w'->World.cell? w' ⟨χ,(ψ+Int.toNat 0* 1),none⟩=some (Value.string (ay ν)))/\QV 180 #[(Value.string (ay t.text))] κ (ax [.i] fun(n36:Int) (ω:World)=>ι ω/\(0<=(n36:Int)/\(n36:Int)<=List.length t.text)/\(List.length (List.take (Int.toNat n36) t.text)+List.length ν<=4611686018427387904)/\R (((List.take (Int.toNat n36) t.text)++ν)) ω):=by
  intro h1 h2 h3;obtain⟨x,rfl,hl,hR⟩:=ς h1 h2 h3;refine⟨λw'=>Strs w' v [x],λw6 Z=>?_⟩;have h6:Strs w6 v [x]:=Z▸hs.ex (Ex.drew w);obtain⟨b,o,cap,e1,e2,_⟩:=h6.at (i:=0) (by simp);have hlen:=ok.len;have hd:t.hd<=t.text.length:=by
   cases t<;>simp only [T.kind,ne_eq,Qp]at h1<;>simp only [T.hd,T.text,Nv]<;>omega
  refine⟨h6,b,o,1,cap,e1,by omega,by omega,x,λw' β=>?_,cF ok ⟨h6,by omega,?_,?_⟩⟩
  ·obtain⟨b',o',ζ,G,_,e3⟩:=β.at (i:=0) (by simp);rw [e1]at G;cases G;exact e3
  ·rw [Og];omega
  ·rw [NF];exact hR w6 (Z▸Ex.drew w)
 refine⟨λh=>?_,λh=>⟨λh2=>two 43 (NZ h2) (.inl rfl),λh2=>⟨λh3=>two 38 (NZ h3) (.inr rfl),λh3=>one (NU h) (NU h2) (NU h3)⟩⟩⟩;have hk:=NZ h;have :=ο hk;cases t<;>first | exact this | (exact absurd hk (by simp [T.kind]))
def pK.ok {s:Tx}{c:UInt8}(h:pK s c){k:Nat}(hk:k<=63)(Z:∀d∈s,okn k d):c∉s/\okn (k+1) c/\nm c=true/\ngr c:=by
 rcases h with h | ⟨_,h1,h2,h3,h4⟩
 ·have hm:=P2 h;have hp:=List.find?_some h;have G:lt c=true:=by
   obtain⟨i,hi,rfl⟩:=Oe.1 hm;rw [Pg]at hi;have e:(UInt8.ofNat (97+i)).toNat=97+i:=by rw [ON];omega
   simp only [lt,Nz,NL];exact⟨NX.2 (by rw [e];show 97<=_;omega),NX.2 (by rw [e];show _<=122;omega)⟩
  refine⟨by simpa using hp,mV G,(gJ G).1,?_⟩;simp only [lt,Nz,NL]at G;have h1:=NX.1 G.1;have h2:=NX.1 G.2;have ε:(97:UInt8).toNat=97:=rfl;have β:(122:UInt8).toNat=122:=rfl;unfold ngr;omega
 ·have ζ:=NX.1 h1;have η:=NX.1 h2;have γ:(128:UInt8).toNat=128:=rfl;have δ:(191:UInt8).toNat=191:=rfl;have hle:c.toNat<=128+k:=by
   rcases Pb (128+k) c.toNat with H | J
   ·exfalso;have e:(UInt8.ofNat (128+k)).toNat=128+k:=by rw [ON];omega
    have hm:=h3 (UInt8.ofNat (128+k)) (NX.2 (by rw [e];omega)) (Ol.2 (by rw [e];exact H));have :=Z _ hm;unfold okn at this;rw [e]at this;omega
   ·exact J
  refine⟨?_,.inl (by omega),?_,by unfold ngr;omega⟩
  ·rcases h4 with h4 | h4
   ·exact h4
   ·intro hm;have :=Z _ hm;unfold okn at this;subst h4;omega
  ·simp [nm,h1]
def T.rebind (t:P)(old nw y:UInt8)(q:P):P:=match t with
 | .rcv a _ _=> .rcv (sw a old nw) y q
 | _=> .res y q
def zN {c old nw:UInt8}(G:nm c=true)(H:nm nw=true):nm (sw c old nw)=true:=by
 unfold sw;split<;>assumption
def tW {k:Nat}{c old nw:UInt8}(G:okn k c)(H:okn k nw):okn k (sw c old nw):=by
 unfold sw;split<;>assumption
structure KL (k:Nat)(t:P)(old nw:UInt8)(p:P):Prop where
 drop:t.text.drop t.hd=p.text
 ok:Ok p
 size:p.size< t.size
 eb:Eb (k+1) p
 bd:p.bd+1=t.bd
 okz:∀z,p.Fr z->z≠t.bindC->okn k z
 nmc:nm t.bindC=true
 ngc:ngr t.bindC
 under:∀q,t.bindC≠old->(t.bindC≠nw\/¬p.Fr old)->aC p old nw q->aC t old nw (t.rebind old nw t.bindC q)
 cap:∀y p1 p2,t.bindC=nw->nw≠old->¬p.Fr y->y≠old->y≠nw->aC p nw y p1->aC p1 old nw p2->aC t old nw (t.rebind old nw y p2)
 over:t.bindC=old->t.Fr old->aC t old nw (t.rebind old nw old p)
 fin:∀y q,aC t old nw (t.rebind old nw y q)->q.shp=p.shp->q.wf=true->nm y=true->ngr y->Eb (k+1) q->eo k t old nw (t.rebind old nw y q)
def ET {k:Nat}{t:P}{old nw:UInt8}(ok:Ok t)(eb:Eb k t)(hn:nm nw=true)(kn:okn k nw)(hb:t.qu=true):∃p,KL k t old nw p:=by
 have hw:=ok.wf;have hl:=ok.len;have fr:∀q,aC t old nw q->∀z,q.Fr z->okn k z:=λq h z Z=>by
  rcases h.free z Z with rfl | h | h
  ·exact kn
  ·exact eb.free z h.2
  ·exact eb.free z h.2.1
 cases t with
 | rcv a x p=>
  simp only [T.wf,Nz]at hw;simp only [T.text,Nv]at hl;refine⟨p,rfl,⟨hw.2,by omega⟩,by simp only [T.size];omega,eb.2.2,rfl,eb.2.1.2,hw.1.2,eb.2.1.1,λq h1 G H=>aC.D1 a h1 G H,λy p1 p2 h1 G H h4 h5 h6 h7=>?_,λh1 G=>?_,λy q h1 G H h4 hg h5=>⟨h1,?_,?_,?_⟩⟩
  ·have h1:x=nw:=h1;subst h1;exact aC.Jq a G H h4 h5 h6 h7
  ·have h1:x=old:=h1;subst h1;exact aC.HD a
  ·show T.rcv () () q.shp=T.rcv () () p.shp;rw [G]
  ·simp [T.rebind,T.wf,zN hw.1.1 hn,H,h4]
  ·exact⟨tW eb.1 kn,⟨hg,λz Z J=>fr _ h1 z (.inr ⟨J,Z⟩)⟩,h5⟩
 | res x p=>
  simp only [T.wf,Nz]at hw;simp only [T.text,Nv]at hl;refine⟨p,rfl,⟨hw.2,by omega⟩,by simp only [T.size];omega,eb.2,rfl,eb.1.2,hw.1,eb.1.1,λq h1 G H=>aC.ED h1 G H,λy p1 p2 h1 G H h4 h5 h6 h7=>?_,λh1 G=>?_,λy q h1 G H h4 hg h5=>⟨h1,?_,?_,?_⟩⟩
  ·have h1:x=nw:=h1;subst h1;exact aC.IU G H h4 h5 h6 h7
  ·have h1:x=old:=h1;exact absurd h1.symm G.1
  ·show T.res () q.shp=T.res () p.shp;rw [G]
  ·simp [T.rebind,T.wf,H,h4]
  ·exact⟨⟨hg,λz Z J=>fr _ h1 z ⟨J,Z⟩⟩,h5⟩
 | _=>cases hb
def sH {w w':World}(h:w.grownBy w' none):Ex w w':=Below.grown (QK _ _) h (ND _) (λk hk=>by cases hk)
def Kb {t:P}(h:t.kind≠48):t.hd<=t.text.length:=by
 cases t<;>simp only [T.kind,ne_eq,Qp]at h<;>simp only [T.hd,T.text,Nv]<;>omega
def pU {w1:World}(c d:UInt8){H:World}{b:Nat}(hb:b=w1.heap.size)(h:H=w1.alloc (.cells #[.int .u8 c.toNat,.int .u8 d.toNat] 5)):
  b< H.heap.size/\∀(j:Nat) (x:UInt8),[c,d][j]?=some x->H.cell? ⟨b,0+j,none⟩=some (.int .u8 x.toNat):=by
 subst hb h;refine⟨by rw [size_alloc];omega,λj x G=>?_⟩;rw [N2]
 match j,G with
 | 0,G=>simp at G;subst G;exact aa rfl
 | 1,G=>simp at G;subst G;exact aa rfl
 | j+2,G=>simp at G
def eo.refl {k:Nat}{t:P}{old nw:UInt8}(h:aC t old nw t)(ok:Ok t)(eb:Eb k t):eo k t old nw t:=⟨h,rfl,ok.wf,eb⟩
def eo.Kh {k:Nat}{t:P}{old nw:UInt8}{q:P}(h:eo k t old nw q)(ok:Ok t):Ok q:=⟨h.wf,by rw [T.aP,T.gI h.shp,<-T.aP];exact ok.len⟩
def gW:∀(n:Nat) {t:P} {k:Nat} {old nw:UInt8},t.size<=n->Ok t->Eb k t->k+t.bd<=64->nm nw=true->okn k nw->
  ∀{w:World} {R:aH->QU},(∀q w',Ex w w'->eo k t old nw q->R q.text w')->QV 112 #[.string (ay t.text),.int .u8 old.toNat,.int .u8 nw.toNat] w (ax [.s] R):=by
 intro n
 induction n with
 | zero=>intro t k old nw h;have :=aT t;omega
 | succ n ih=>
  intro t k old nw hn ok eb hbd ξ η w R h;refine qa _ old nw w R ?_;dsimp only [go_sem];refine⟨λhne=>?_,λhe=>by
   have he:=NZ he;subst he;exact h t w (Ex.refl w) (.refl (aC.same old) ok eb)⟩
  have hne:old≠nw:=NU hne;refine gY _ (ND _) ok λs w1 hx1 hs1 hm1=>fg (by have :=hs1.bound;omega) ⟨λhq=>?_,λhq=>?_⟩
  ·have hq:¬t.Fr old:=by
    rw [<-hm1];simpa using hq
   exact h t w1 hx1 (.refl (aC.skip hq) ok eb)
  have hfr:t.Fr old:=by rw [<-hm1];simpa using hq
  have hk0:t.kind≠48:=by cases t<;>first | exact hfr.elim | simp [T.kind]
  have hhd:=Kb hk0;have hlen:=ok.len;refine cF ok ⟨by omega,λb cap w2 hb hrow hgr=>?_⟩;rw [NF]at hrow|-;have φ:Ex w w2:=hx1.trans (sH hgr);have γ:=qw.E9 hrow;have hbw:w.heap.size<=b:=by rw [hb];exact hx1.size
  have β:(t.text.take t.hd).length=t.hd:=by rw [Og];omega
  refine qt ok ⟨λhq2=>?_,λhq2=>?_⟩
  ·
   obtain⟨p,B⟩:=ET (nw:=nw) (old:=old) ok eb ξ η hq2;have hszp:=B.size;have hbdp:=B.bd;refine⟨some ⟨b,0,none⟩,(t.text.take t.hd).length,cap,rfl,by omega,?_⟩;rw [β,NF,B.drop];refine⟨λpart x w'=>Ex w w'/\qw w' b (t.text.take t.hd)/\∃p1:P,part=p1.text/\p1.shp=p.shp/\Ok p1/\Eb (k+1) p1/\(nm x=true/\ngr x)/\
    ((x=t.bindC/\p1=p/\(x≠nw\/¬p.Fr old))\/(t.bindC=nw/\¬p.Fr x/\x≠old/\x≠nw/\aC p nw x p1)),⟨λhc=>?_,λhc=>?_⟩,λpart x w3 hJ=>?_⟩
   ·have hc:=NZ hc;refine gY _ (ND _) B.ok λs3 w3 θ hs3 hm3=>fg (by have :=hs3.bound;omega) ⟨λhq3=>?_,λhq3=>?_⟩
    ·have hfo:p.Fr old:=by rw [<-hm3];simpa using hq3
     have fin:∀(w':World),Ex w3 w'->∀s4,kz s4->(∀x,x∈s4↔p.Fr x\/x∈[old,nw])->∀y,pK s4 y->(Ex w w'/\qw w' b (t.text.take t.hd))/\(¬p.Fr y/\y≠old/\y≠nw/\okn (k+1) y/\nm y=true/\ngr y):=by
      intro w' hx' s4 hs4 hm4 y hy;have hall:∀d∈s4,okn k d:=by
       intro d hd;rcases(hm4 d).1 hd with hd | hd
       ·by_cases hz:d=t.bindC
        ·rw [hz,hc];exact η
        ·exact B.okz d hd hz
       ·simp only [NV,Qf,QG]at hd;rcases hd with rfl | rfl
        ·exact eb.free _ hfr
        ·exact η
      obtain⟨h1,h2,h3⟩:=hy.ok (by omega) hall;rw [hm4]at h1;simp only [NV,Qf,QG,QP]at h1;exact⟨⟨(φ.trans θ).trans hx',(γ.ex θ).ex hx'⟩,h1.1,h1.2.1,h1.2.2,h2,h3⟩
     refine⟨λy w'=>(Ex w w'/\qw w' b (t.text.take t.hd))/\(¬p.Fr y/\y≠old/\y≠nw/\okn (k+1) y/\nm y=true/\ngr y),⟨λw'=>True,λw4 χ=>⟨trivial,?_,λb2 w5 hb2 H=>⟨trivial,?_,?_⟩⟩⟩,λy w4 hJ=>?_⟩
     ·have Z:Ex w3 w4:=χ▸Ex.drew w3;refine gY _ (ND _) B.ok λs5 w5 J hs5 hm5=>⟨trivial,λb2 w6 hb2 δ=>⟨trivial,b2,0,2,2,[old,nw],rfl,rfl,(pU old nw hb2 δ).2,trivial,?_⟩⟩
      refine iT hs5 (by simp) λs7 w7 υ ο hm7=>⟨trivial,gz (by have :=ο.bound;omega) λy hy=>⟨trivial,?_⟩⟩
      exact fin w7 (((Z.trans J).trans (δ▸Ex.alloc w5 _)).trans υ) s7 ο (λx=>by rw [hm7,hm5]) y hy
     ·have Z:Ex w3 w4:=χ▸Ex.drew w3;have J:Ex w4 w5:=H▸Ex.alloc w4 _;obtain⟨G,hc5⟩:=pU old nw hb2 H;refine gY _ (ND _) B.ok λs6 w6 ι hs6 hm6=>⟨trivial,b2,0,2,2,[old,nw],rfl,rfl,λj x hj=>by rw [ι.cell G];exact hc5 j x hj,trivial,?_⟩
      refine iT hs6 (by simp) λs7 w7 υ ο hm7=>⟨trivial,gz (by have :=ο.bound;omega) λy hy=>⟨trivial,?_⟩⟩
      exact fin w7 (((Z.trans J).trans ι).trans υ) s7 ο (λx=>by rw [hm7,hm6]) y hy
     ·have Z:Ex w3 w4:=χ▸Ex.drew w3;have J:Ex w4 w5:=H▸Ex.alloc w4 _;obtain⟨G,hc5⟩:=pU old nw hb2 H;refine⟨b2,0,2,2,[old,nw],rfl,rfl,hc5,trivial,?_⟩;refine gY _ (ND _) B.ok λs6 w6 ι hs6 hm6=>⟨trivial,?_⟩
      refine iT hs6 (by simp) λs7 w7 υ ο hm7=>⟨trivial,gz (by have :=ο.bound;omega) λy hy=>⟨trivial,?_⟩⟩
      exact fin w7 (((Z.trans J).trans ι).trans υ) s7 ο (λx=>by rw [hm7,hm6]) y hy
     ·obtain⟨⟨J,G⟩,hy1,hy2,hy3,hy4,hy5,hy6⟩:=hJ;refine ih (by omega) B.ok B.eb (by omega) hy5 hy4 λq w6 ι hq=>⟨J.trans ι,G.ex ι,q,rfl,hq.shp,hq.Kh B.ok,hq.eb,⟨hy5,hy6⟩,.inr ⟨hc,hy1,hy2,hy3,?_⟩⟩
      rw [<-hc];exact hq.ok
    ·have hfo:¬p.Fr old:=by rw [<-hm3];simpa using hq3
     exact⟨φ.trans θ,γ.ex θ,p,rfl,rfl,B.ok,B.eb,⟨B.nmc,B.ngc⟩,.inl ⟨rfl,rfl,.inr hfo⟩⟩
   ·have hc:=NU hc;exact⟨φ,γ,p,rfl,rfl,B.ok,B.eb,⟨B.nmc,B.ngc⟩,.inl ⟨rfl,rfl,.inl hc⟩⟩
   ·obtain⟨θ,hb3,p1,rfl,hsh1,ok1,eb1,hnx,hmid⟩:=hJ;refine⟨λpart w'=>Ex w w'/\qw w' b (t.text.take t.hd)/\∃p2:P,part=p2.text/\p2.shp=p.shp/\Ok p2/\Eb (k+1) p2/\aC t old nw (t.rebind old nw x p2),⟨λhc=>?_,λhc=>?_⟩,λpart w4 hJ=>?_⟩
    ·have hc:x≠old:=by simpa using hc
     refine ih (by have :=T.oA hsh1;omega) ok1 eb1 (by have :=T.KH hsh1;omega) ξ (η.mono (by omega)) λq w5 J hq=>⟨θ.trans J,hb3.ex J,q,rfl,hq.shp.trans hsh1,hq.Kh ok1,hq.eb,?_⟩
     rcases hmid with⟨rfl,rfl,hu⟩ | ⟨h1,h2,h3,h4,h5⟩
     ·exact B.under q hc hu hq.ok
     ·exact B.cap x p1 q h1 (Qu hne) h2 h3 h4 h5 hq.ok
    ·have hc:x=old:=by simpa using hc
     refine⟨θ,hb3,p1,rfl,hsh1,ok1,eb1,?_⟩;rcases hmid with⟨h1,rfl,hu⟩ | ⟨h1,h2,h3,h4,h5⟩
     ·rw [hc];exact B.over (h1.symm.trans hc) hfr
     ·exact absurd hc h3
    ·obtain⟨Z,hb4,p2,rfl,hsh2,ok2,eb2,hren⟩:=hJ;have hfin:=B.fin x p2 hren hsh2 ok2.wf hnx.1 hnx.2 eb2;have hok2:=ok2.len;refine⟨λw'=>Ex w w'/\∃l:Tx,qw w' b l/\l.length=t.hd/\l++p2.text=(t.rebind old nw x p2).text,aM ok ?_,λw5 hJ=>?_⟩
     ·cases t with
      | rcv a y p'=>
       simp only [T.kind];refine cL (by decide) ?_;have hl3:(3:Nat)<=4:=by omega
       refine⟨b,0,_,cap,rfl,by omega,by simp only [T.hd];omega,a,hb4.at (i:=0) (by rw [β];simp only [T.hd];omega),kY ?_⟩;have l0:0< ((T.rcv a y p').text.take (T.rcv a y p').hd).length:=by rw [β];simp only [T.hd];omega
       have l2:2< ((T.rcv a y p').text.take (T.rcv a y p').hd).length:=by rw [β];simp only [T.hd];omega
       refine⟨b,0,_,cap,rfl,by omega,by omega,⟨⟨_,hb4.at (i:=0) l0⟩,?_⟩,λw5 H=>?_⟩
       ·exact hb4.fz 0 l0
       have G:=hb4.set (i:=0) l0 (sw a old nw);have H:w5=w4.setCell ⟨b,0,none⟩ (.int .u8 (sw a old nw).toNat):=H;rw [<-H]at G;have l2':2< (((T.rcv a y p').text.take (T.rcv a y p').hd).set 0 (sw a old nw)).length:=by rw [OT];exact l2
       refine⟨b,0,_,cap,rfl,by omega,by omega,⟨⟨_,G.at (i:=2) l2'⟩,?_⟩,λw6 δ=>?_⟩
       ·exact G.fz 2 l2'
       have ψ:=G.set (i:=2) l2' x;have δ:w6=w5.setCell ⟨b,2,none⟩ (.int .u8 x.toNat):=δ;rw [<-δ]at ψ;exact⟨δ▸(Ex.own (H▸Z.own hbw _) hbw _),_,ψ,by rw [OT,OT,β],rfl⟩
      | res y p'=>
       simp only [T.kind];refine aR (by decide) ?_;have l1:1< ((T.res y p').text.take (T.res y p').hd).length:=by rw [β];simp only [T.hd];omega
       refine⟨b,0,_,cap,rfl,by omega,by omega,⟨⟨_,hb4.at (i:=1) l1⟩,?_⟩,λw5 H=>?_⟩
       ·exact hb4.fz 1 l1
       have G:=hb4.set (i:=1) l1 x;have H:w5=w4.setCell ⟨b,1,none⟩ (.int .u8 x.toNat):=H;rw [<-H]at G;exact⟨H▸(Z.own hbw _),_,G,by rw [OT,β],rfl⟩
      | _=>cases hq2
     ·obtain⟨J,l,G,hl5,e5⟩:=hJ;refine⟨b,0,_,cap,l,rfl,hl5,G.read,by omega,?_⟩;rw [e5];exact h _ _ J hfin
  ·
   have hw:=ok.wf;have fin:∀(p:P) (l:Tx) (mk:P->P),t.text.drop t.hd=p.text->Ok p->p.size<=n->Eb k p->k+p.bd<=64->l.length=t.hd->(∀q,eo k p old nw q->eo k t old nw (mk q)/\(mk q).text=l++q.text)->
     ∀w3,Ex w w3->qw w3 b l->∃ω:QU,∀ς:World,ς=World.drew w3->ω ς/\∃(a212:Option Addr) (ε cap214:Nat),(Value.slice (some ⟨b,0,none⟩) (List.length (List.take t.hd t.text)) cap)=Value.slice a212 ε cap214/\(0<=((ε:Int):Int)/\((ε:Int):Int)<=List.length t.text)/\(∃(b215 o216 n217 cap218:Nat) (l219:aH),(Value.slice (some ⟨b,0,none⟩) (List.length (List.take t.hd t.text)) cap)=Value.slice (some ⟨b215,o216,none⟩) n217 cap218/\List.length l219=n217/\(∀(j:Nat) (x:UInt8),l219[j]?=some x->World.cell? ς ⟨b215,o216+j,none⟩=some (Value.int IntKind.u8 (UInt8.toNat x)))/\ω ς/\QV 112 #[(Value.string (ay (List.drop (Int.toNat (ε:Int)) t.text))),(Value.int IntKind.u8 (UInt8.toNat old)),(Value.int IntKind.u8 (UInt8.toNat nw))] ς (ax [.s] fun(s220:aH) (w221:World)=>ω w221/\(List.length l219+List.length s220<=4611686018427387904)/\R ((l219++s220)) w221))/\(QV 112 #[(Value.string (ay (List.drop (Int.toNat (ε:Int)) t.text))),(Value.int IntKind.u8 (UInt8.toNat old)),(Value.int IntKind.u8 (UInt8.toNat nw))] ς (ax [.s] fun(s222:aH) (w223:World)=>ω w223/\∃(b224 o225 n226 cap227:Nat) (l228:aH),(Value.slice (some ⟨b,0,none⟩) (List.length (List.take t.hd t.text)) cap)=Value.slice (some ⟨b224,o225,none⟩) n226 cap227/\List.length l228=n226/\(∀(j:Nat) (x:UInt8),l228[j]?=some x->World.cell? w223 ⟨b224,o225+j,none⟩=some (Value.int IntKind.u8 (UInt8.toNat x)))/\ω w223/\(List.length l228+List.length s222<=4611686018427387904)/\R ((l228++s222)) w223)):=by
    intro p l mk hdr okp hsz ebp hbp hll hmk w3 θ hb3;refine⟨λ _=>True,λw4 χ=>⟨trivial,_,_,_,rfl,by rw [β];omega,?_,?_⟩⟩
    ·have Z:Ex w3 w4:=χ▸Ex.drew w3;rw [β,NF,hdr];refine⟨b,0,_,cap,l,rfl,hll,(hb3.ex Z).read,trivial,ih hsz okp ebp hbp ξ η λq w5 J hq=>⟨trivial,?_,?_⟩⟩
     ·have :=(hq.Kh okp).len;omega
     ·obtain⟨h1,h2⟩:=hmk q hq;rw [<-h2];exact h _ _ ((θ.trans Z).trans J) h1
    ·have Z:Ex w3 w4:=χ▸Ex.drew w3;rw [β,NF,hdr];refine ih hsz okp ebp hbp ξ η λq w5 J hq=>⟨trivial,b,0,_,cap,l,rfl,hll,((hb3.ex Z).ex J).read,trivial,?_,?_⟩
     ·have :=(hq.Kh okp).len;omega
     ·obtain⟨h1,h2⟩:=hmk q hq;rw [<-h2];exact h _ _ ((θ.trans Z).trans J) h1
   have two:∀(p q:P) (mk:P->P->P),t.parts=[p,q]->(t.kind=43\/t.kind=38)->(∀p' q',eo k p old nw p'->eo k q old nw q'->eo k t old nw (mk p' q')/\(mk p' q').text=40::(p'.text++t.kind::(q'.text++[41]))/\Ok (mk p' q'))->Eb k p->Eb k q->k+p.bd<=64->k+q.bd<=64->
     QV 141 #[(Value.string (ay t.text))] w2 (ax [.v] fun(v165:Value) (w166:World)=>∃μ:QU,∀w168:World,w168=World.drew w166->μ w168/\∃(b169 o170 len171 cap172:Nat),v165=Value.slice (some ⟨b169,o170,none⟩) len171 cap172/\0<=(0:Int)/\(0:Int)< len171/\∃s173:aH,(∀w',μ w'->World.cell? w' ⟨b169,(o170+Int.toNat 0* 1),none⟩=some (Value.string (ay s173)))/\∃(b174 o175 len176 cap177:Nat),v165=Value.slice (some ⟨b174,o175,none⟩) len176 cap177/\0<=(1:Int)/\(1:Int)< len176/\∃s178:aH,(∀w',μ w'->World.cell? w' ⟨b174,(o175+Int.toNat 1* 1),none⟩=some (Value.string (ay s178)))/\QV 112 #[(Value.string (ay s173)),(Value.int IntKind.u8 (UInt8.toNat old)),(Value.int IntKind.u8 (UInt8.toNat nw))] w168 (ax [.s] fun(s179:aH) (w180:World)=>μ w180/\QV 112 #[(Value.string (ay s178)),(Value.int IntKind.u8 (UInt8.toNat old)),(Value.int IntKind.u8 (UInt8.toNat nw))] w180 (ax [.s] fun(s181:aH) (w182:World)=>μ w182
 /\∀(b183:Nat) (w184:World),b183=Array.size (World.heap w182)->w184=World.alloc w182 (Obj.cells #[(Value.string (ay s179)),(Value.string (ay s181))] 9)->μ w184/\QV 182 #[(Value.string (ay t.text)),(Value.slice (some ⟨b183,0,none⟩) 2 2)] w184 (ax [.s] fun(s185:aH) (w186:World)=>μ w186/\R (s185) w186)))):=by
    intro p q mk ζ hkind hmk ebp ebq hbp hbq;refine cG ok λv w3 θ hs3=>?_
    rw [ζ]at hs3;have hs3:Strs w3 v [p.text,q.text]:=hs3;have okp:=ok.parts p (by rw [ζ];simp);have okq:=ok.parts q (by rw [ζ];simp);have szp:p.size< t.size:=dJ (by rw [ζ];simp);have szq:q.size< t.size:=dJ (by rw [ζ];simp);obtain⟨b3,o3,cap3,e1,e2,_⟩:=hs3.at (i:=0) (by simp);have rd:∀w' (i:Nat) (x:Tx),Ex w3 w'->[p.text,q.text][i]?=some x->w'.cell? ⟨b3,o3+i* 1,none⟩=some (.string (ay x)):=by
     intro w' i x hx hi;obtain⟨hi',e⟩:=On.1 hi;obtain⟨b',o',cap',e1',_,e3⟩:=(hs3.ex hx).at hi';rw [e1]at e1';cases e1';rw [N7,e3,e]
    refine⟨λw'=>Ex w3 w',λw4 χ=>?_⟩;have Z:Ex w3 w4:=χ▸Ex.drew w3;refine⟨Z,b3,o3,2,cap3,e1,by omega,by omega,p.text,λw' hx=>rd w' 0 _ hx rfl,b3,o3,2,cap3,e1,by omega,by omega,q.text,λw' hx=>rd w' 1 _ hx rfl,?_⟩;refine ih (by omega) okp ebp hbp ξ η λp' w5 J κ=>⟨Z.trans J,ih (by omega) okq ebq hbq ξ η λq' w6 ι ν=>⟨(Z.trans J).trans ι,λb7 w7 hb7 hw7=>?_⟩⟩
    have υ:Ex w6 w7:=hw7▸Ex.alloc w6 _;obtain⟨m1,m2,m3⟩:=hmk p' q' κ ν;refine⟨((Z.trans J).trans ι).trans υ,?_⟩;have ο:Strs w7 (.slice (some ⟨b7,0,none⟩) 2 2) [p'.text,q'.text]:=by
     refine .inr ⟨b7,0,2,rfl,by rw [hw7,size_alloc];omega,λi z hz=>?_⟩;rw [N2,hb7,hw7];refine aa ?_
     match i,hz with
     | 0,hz=>simp at hz|-;exact hz▸rfl
     | 1,hz=>simp at hz|-;exact hz▸rfl
     | i+2,hz=>simp at hz
    have hbase:Ex w w7:=(((φ.trans θ).trans (Z.trans J)).trans ι).trans υ;refine Hv ok ο (λ _=>⟨_,_,rfl,?_,λw8 hx8=>⟨?_,?_⟩⟩) (λh0=>absurd h0 hk0) λ _ h2 h3=>absurd hkind (by simp [h2,h3])
    ·have :=(κ.Kh okp).len;have e:=Ot List.length m2;have hml:=m3.len;simp only [Nv,NB,NR]at e;omega
    ·exact(((Z.trans J).trans ι).trans υ).trans hx8
    ·rw [<-m2];exact h _ _ (hbase.trans hx8) m1
   cases t with
   | nil=>exact hfr.elim
   | rcv a x p=>cases hq2
   | res x p=>cases hq2
   | tau p=>
    simp only [T.wf]at hw;simp only [T.text,Nv]at hlen;refine⟨λw'=>Ex w w'/\qw w' b [126,46],aM ok ?_,λw3 hJ=>fin p [126,46] .tau rfl ⟨hw,by omega⟩ (by simp only [T.size]at hn;omega) eb hbd rfl (λq hq=>⟨⟨aC.tau hq.ok,?_,hq.wf,hq.eb⟩,rfl⟩) w3 hJ.1 hJ.2⟩
    ·simp only [T.kind]
     repeat' first | refine aR (by decide) ?_ | refine cL (by decide) ?_
     exact⟨φ,γ⟩
    ·show T.tau q.shp=T.tau p.shp;rw [hq.shp]
   | rep p=>
    simp only [T.wf]at hw;simp only [T.text,Nv]at hlen;refine⟨λw'=>Ex w w'/\qw w' b [42],aM ok ?_,λw3 hJ=>fin p [42] .rep rfl ⟨hw,by omega⟩ (by simp only [T.size]at hn;omega) eb hbd rfl (λq hq=>⟨⟨aC.rep hq.ok,?_,hq.wf,hq.eb⟩,rfl⟩) w3 hJ.1 hJ.2⟩
    ·simp only [T.kind]
     repeat' first | refine aR (by decide) ?_ | refine cL (by decide) ?_
     exact⟨φ,γ⟩
    ·show T.rep q.shp=T.rep p.shp;rw [hq.shp]
   | snd a c p=>
    simp only [T.wf,Nz]at hw;simp only [T.text,Nv]at hlen;refine⟨λw'=>Ex w w'/\qw w' b [sw a old nw,33,sw c old nw,46],aM ok ?_,λw3 hJ=>fin p [sw a old nw,33,sw c old nw,46] (.snd (sw a old nw) (sw c old nw)) rfl ⟨hw.2,by omega⟩ (by simp only [T.size]at hn;omega) eb.2.2 hbd rfl (λq hq=>⟨⟨aC.snd a c hq.ok,?_,?_,⟨tW eb.1 η,tW eb.2.1 η,hq.eb⟩⟩,rfl⟩) w3 hJ.1 hJ.2⟩
    ·simp only [T.kind];refine cL (by decide) ?_;have γ:qw w2 b [a,33,c,46]:=γ;refine⟨b,0,_,cap,rfl,by omega,by rw [β];simp only [T.hd];omega,a,γ.at (i:=0) (by simp),kY ?_⟩;refine⟨b,0,_,cap,rfl,by omega,by rw [β];simp only [T.hd];omega,⟨⟨_,γ.at (i:=0) (by simp)⟩,γ.fz 0 (by simp)⟩,λw5 H=>?_⟩;have G:=γ.set (i:=0) (by simp) (sw a old nw);have H:w5=w2.setCell ⟨b,0,none⟩ (.int .u8 (sw a old nw).toNat):=H;rw [<-H]at G;refine⟨b,0,_,cap,rfl,by omega,by rw [β];simp only [T.hd];omega,c,G.at (i:=2) (by simp),kY ?_⟩;refine⟨b,0,_,cap,rfl,by omega,by rw [β];simp only [T.hd];omega,⟨⟨_,G.at (i:=2) (by simp)⟩,G.fz 2 (by simp)⟩,λw6 δ=>?_⟩;have ψ:=G.set (i:=2) (by simp) (sw c old nw);have δ:w6=w5.setCell ⟨b,2,none⟩ (.int .u8 (sw c old nw).toNat):=δ;rw [<-δ]at ψ;exact⟨δ▸(Ex.own (H▸φ.own hbw _) hbw _),ψ⟩
    ·show T.snd () () q.shp=T.snd () () p.shp;rw [hq.shp]
    ·simp [T.wf,zN hw.1.1 ξ,zN hw.1.2 ξ,hq.wf]
   | mat a c p=>
    simp only [T.wf,Nz]at hw;simp only [T.text,Nv]at hlen;refine⟨λw'=>Ex w w'/\qw w' b [91,sw a old nw,61,sw c old nw,93],aM ok ?_,λw3 hJ=>fin p [91,sw a old nw,61,sw c old nw,93] (.mat (sw a old nw) (sw c old nw)) rfl ⟨hw.2,by omega⟩ (by simp only [T.size]at hn;omega) eb.2.2 hbd rfl (λq hq=>⟨⟨aC.mat a c hq.ok,?_,?_,⟨tW eb.1 η,tW eb.2.1 η,hq.eb⟩⟩,rfl⟩) w3 hJ.1 hJ.2⟩
    ·simp only [T.kind];refine aR (by decide) (cL (by decide) ?_);have γ:qw w2 b [91,a,61,c,93]:=γ;refine⟨b,0,_,cap,rfl,by omega,by rw [β];simp only [T.hd];omega,a,γ.at (i:=1) (by simp),kY ?_⟩;refine⟨b,0,_,cap,rfl,by omega,by rw [β];simp only [T.hd];omega,⟨⟨_,γ.at (i:=1) (by simp)⟩,γ.fz 1 (by simp)⟩,λw5 H=>?_⟩;have G:=γ.set (i:=1) (by simp) (sw a old nw);have H:w5=w2.setCell ⟨b,1,none⟩ (.int .u8 (sw a old nw).toNat):=H;rw [<-H]at G;refine⟨b,0,_,cap,rfl,by omega,by rw [β];simp only [T.hd];omega,c,G.at (i:=3) (by simp),kY ?_⟩;refine⟨b,0,_,cap,rfl,by omega,by rw [β];simp only [T.hd];omega,⟨⟨_,G.at (i:=3) (by simp)⟩,G.fz 3 (by simp)⟩,λw6 δ=>?_⟩;have ψ:=G.set (i:=3) (by simp) (sw c old nw);have δ:w6=w5.setCell ⟨b,3,none⟩ (.int .u8 (sw c old nw).toNat):=δ;rw [<-δ]at ψ;exact⟨δ▸(Ex.own (H▸φ.own hbw _) hbw _),ψ⟩
    ·show T.mat () () q.shp=T.mat () () p.shp;rw [hq.shp]
    ·simp [T.wf,zN hw.1.1 ξ,zN hw.1.2 ξ,hq.wf]
   | sum p q=>
    simp only [T.bd]at hbd;have hwf:=hw;simp only [T.wf,Nz]at hw;refine⟨λ _=>False,aM ok ?_,λw3 hJ=>hJ.elim⟩;simp only [T.kind];refine aR (by decide) (aR (by decide) (cL (by decide) (cL (by decide) ?_)));refine two p q .sum rfl (.inl rfl) (λp' q' κ ν=>?_) eb.1 eb.2 (by omega) (by omega);have hs:(T.sum p' q').shp=(T.sum p q).shp:=by show T.sum p'.shp q'.shp=T.sum p.shp q.shp;rw [κ.shp,ν.shp]
    have hr:eo k (.sum p q) old nw (.sum p' q'):=⟨aC.sum κ.ok ν.ok,hs,by simp [T.wf,κ.wf,ν.wf],⟨κ.eb,ν.eb⟩⟩
    exact⟨hr,rfl,hr.Kh ok⟩
   | par p q=>
    simp only [T.bd]at hbd;have hwf:=hw;simp only [T.wf,Nz]at hw;refine⟨λ _=>False,aM ok ?_,λw3 hJ=>hJ.elim⟩;simp only [T.kind];refine aR (by decide) (aR (by decide) (aR (by decide) (cL (by decide) ?_)));refine two p q .par rfl (.inr rfl) (λp' q' κ ν=>?_) eb.1 eb.2 (by omega) (by omega);have hs:(T.par p' q').shp=(T.par p q).shp:=by show T.par p'.shp q'.shp=T.par p.shp q.shp;rw [κ.shp,ν.shp]
    have hr:eo k (.par p q) old nw (.par p' q'):=⟨aC.par κ.ok ν.ok,hs,by simp [T.wf,κ.wf,ν.wf],⟨κ.eb,ν.eb⟩⟩
    exact⟨hr,rfl,hr.Kh ok⟩
section
variable {A B:Type} [DecidableEq A] [DecidableEq B]
open Classical
namespace T
def strip:T A->T A
 | mat a b p=>if a=b then p.strip else mat a b p
 | p=>p
noncomputable def peel:T A->T A
 | mat a b p=>if a=b then p.peel else mat a b p
 | sum p q=>if p.dead then q.peel else if q.dead then p.peel else sum p q
 | par p q=>if p.dead then q.peel else if q.dead then p.peel else par p q
 | res x p=>if p.Us x then res x p else p.peel
 | p=>p
def sf:∀p:T A,p.strip.dead=p.dead
 | mat a b p=>by
  unfold strip;split
  ·rw [sf p];rfl
  ·rfl
 | nil=>rfl | snd .. =>rfl | rcv .. =>rfl | tau .. =>rfl | sum .. =>rfl | par .. =>rfl | res .. =>rfl | rep .. =>rfl
def Ai (x:A):∀p:T A,p.strip.Us x↔p.Us x
 | mat a b p=>by
  unfold strip;split
  ·rename_i h;rw [Ai x p];simp [Us,h]
  ·rfl
 | nil=>Qt | snd .. =>Qt | rcv .. =>Qt | tau .. =>Qt | sum .. =>Qt | par .. =>Qt | res .. =>Qt | rep .. =>Qt
def mO:∀p:T A,p.strip.size<=p.size
 | mat a b p=>by
  unfold strip;split
  ·have :=mO p;simp only [size];omega
  ·exact ND _
 | nil=>ND _ | snd .. =>ND _ | rcv .. =>ND _ | tau .. =>ND _ | sum .. =>ND _ | par .. =>ND _ | res .. =>ND _ | rep .. =>ND _
def qb:∀(p:T A) (a b:A) (q:T A),p.strip=mat a b q->a≠b
 | mat a b p,c,d,q,h=>by
  unfold strip at h;split at h
  ·exact qb p c d q h
  ·cases h;assumption
 | nil,_,_,_,h=>by cases h
 | snd ..,_,_,_,h=>by cases h
 | rcv ..,_,_,_,h=>by cases h
 | tau ..,_,_,_,h=>by cases h
 | sum ..,_,_,_,h=>by cases h
 | par ..,_,_,_,h=>by cases h
 | res ..,_,_,_,h=>by cases h
 | rep ..,_,_,_,h=>by cases h
def ic (Q:T A->Prop)(hm:∀a p,Q (mat a a p)->Q p)(J:∀p q,Q (sum p q)->Q p/\Q q)(Z:∀p q,Q (par p q)->Q p/\Q q)(hr:∀x p,¬p.Us x->Q (res x p)->Q p):∀p:T A,Q p->Q p.peel:=by
 intro p
 induction p with
 | mat a b p G=>
  intro h;unfold peel;split
  ·rename_i e;subst e;exact G (hm a p h)
  ·exact h
 | sum p q G H=>
  intro h;unfold peel;split
  ·exact H (J p q h).2
  ·split
   ·exact G (J p q h).1
   ·exact h
 | par p q G H=>
  intro h;unfold peel;split
  ·exact H (Z p q h).2
  ·split
   ·exact G (Z p q h).1
   ·exact h
 | res x p G=>
  intro h;unfold peel;split
  ·exact h
  ·rename_i e;exact G (hr x p e h)
 | nil=>exact id
 | snd=>exact id
 | rcv=>exact id
 | tau=>exact id
 | rep=>exact id
def lH:∀p:T A,p.peel.dead=p.dead:=by
 intro p
 induction p with
 | mat a b p H=>unfold peel;split<;>simp_all [dead]
 | sum p q H G=>
  unfold peel;split
  ·rename_i h;rw [G];simp [dead,h]
  ·split
   ·rename_i h J;rw [H];simp [dead,J]
   ·rfl
 | par p q H G=>
  unfold peel;split
  ·rename_i h;rw [G];simp [dead,h]
  ·split
   ·rename_i h J;rw [H];simp [dead,J]
   ·rfl
 | res x p H=>
  unfold peel;split
  ·rfl
  ·rw [H];rfl
 | nil=>rfl
 | snd=>rfl
 | rcv=>rfl
 | tau=>rfl
 | rep=>rfl
def dc:T A->Prop
 | mat a b _=>a≠b
 | sum p q=>p.dead=false/\q.dead=false
 | par p q=>p.dead=false/\q.dead=false
 | res x p=>p.Us x
 | _=>True
def kj:∀p:T A,p.peel.dc:=by
 intro p
 induction p with
 | mat a b p H=>unfold peel;split<;>assumption
 | sum p q H G=>
  unfold peel;split
  ·exact G
  ·split
   ·exact H
   ·rename_i h J;exact⟨by simpa using h,by simpa using J⟩
 | par p q H G=>
  unfold peel;split
  ·exact G
  ·split
   ·exact H
   ·rename_i h J;exact⟨by simpa using h,by simpa using J⟩
 | res x p H=>unfold peel;split<;>assumption
 | nil=>trivial
 | snd=>trivial
 | rcv=>trivial
 | tau=>trivial
 | rep=>trivial
def wv (p:T A):p.peel.size<=p.size:=
 ic (λq=>q.size<=p.size) (λa q h=>by simp only [size]at h;omega) (λq r h=>by simp only [size]at h;omega) (λq r h=>by simp only [size]at h;omega) (λx q _ h=>by simp only [size]at h;omega) p (ND _)
def Iq (p:T A):p.peel.ow<=p.ow:=
 ic (λq=>q.ow<=p.ow) (λa q h=>h) (λq r h=>by simp only [ow]at h;omega) (λq r h=>by simp only [ow]at h;omega) (λx q _ h=>by simp only [ow]at h;omega) p (ND _)
def DK (x:A):∀p:T A,p.peel.Us x↔p.Us x:=by
 intro p
 induction p with
 | mat a b p H=>
  unfold peel;split
  ·rename_i h;rw [H];simp [Us,h]
  ·rfl
 | sum p q H J=>
  unfold peel;split
  ·rename_i h;rw [J];exact⟨.inr,λG=>G.elim (λG=>absurd G (bE h)) id⟩
  ·split
   ·rename_i h G;rw [H];exact⟨.inl,λk=>k.elim id (λk=>absurd k (bE G))⟩
   ·rfl
 | par p q H J=>
  unfold peel;split
  ·rename_i h;rw [J];exact⟨.inr,λG=>G.elim (λG=>absurd G (bE h)) id⟩
  ·split
   ·rename_i h G;rw [H];exact⟨.inl,λk=>k.elim id (λk=>absurd k (bE G))⟩
   ·rfl
 | res y p H=>
  unfold peel;split
  ·rfl
  ·rename_i h;rw [H];refine⟨λk=>⟨λe=>h (e▸k),k⟩,λk=>k.2⟩
 | nil=>rfl
 | snd=>rfl
 | rcv=>rfl
 | tau=>rfl
 | rep=>rfl
end T
end
open Classical
def eQ.sub {A:Type}[DecidableEq A]{ρ:A->Nat}{p q:T A}(h:eQ ρ p)(G:∀x,q.Us x->p.Us x):eQ ρ q:=λx y H J=>h x y (G x H) (G y J)
def Ii (u:U)(h:Uq u):Uq u.peel:=
 T.ic Uq (λ _ _ h=>h.mat) (λ _ _ h=>⟨h.dO,h.dG⟩) (λ _ _ h=>⟨h.fX,h.fD⟩) (λ _ _ _ h=>h.res) u h
def Dx (u:U):∀x∈BV u.peel,x∈BV u:=
 T.ic (λq=>∀x∈BV q,x∈BV u) (λ _ _ h=>h) (λ _ _ h=>⟨λx G=>h x (Ob _ G),λx G=>h x (N1 _ G)⟩)
  (λ _ _ h=>⟨λx G=>h x (Ob _ G),λx G=>h x (N1 _ G)⟩) (λ _ _ _ h=>λx G=>h x (NJ _ G)) u (λx h=>h)
def cO:∀u:U,Uq u->u.dead=true->aj u=([],[])
 | .nil,_,_=>rfl
 | .snd ..,_,h=>by cases h
 | .rcv ..,_,h=>by cases h
 | .tau ..,_,h=>by cases h
 | .sum p q,hu,h=>by
  simp only [T.dead,Nz]at h;simp only [aj,h.1,PG];exact cO q hu.dG h.2
 | .par p q,hu,h=>by
  simp only [T.dead,Nz]at h;simp [aj,cO p hu.fX h.1,cO q hu.fD h.2]
 | .res x p,hu,h=>by
  have hd:p.dead=true:=h;simp [aj,cO p hu.res hd,lT hd,Lv.has]
 | .mat a b p,hu,h=>by
  have hd:p.dead=true:=h;simp only [aj,hd,PG,cO p hu.mat hd];split<;>rfl
 | .rep p,hu,h=>by
  have hd:p.dead=true:=h;simp [aj,hd]
def pa:∀u:U,Uq u->aj u.peel=aj u:=by
 intro u
 induction u with
 | nil=>intro _;rfl
 | snd=>intro _;rfl
 | rcv=>intro _;rfl
 | tau=>intro _;rfl
 | rep=>intro _;rfl
 | mat a b p G=>
  intro h;unfold T.peel;split
  ·rename_i e;rw [G h.mat];simp [aj,e]
  ·rfl
 | sum p q G H=>
  intro h;unfold T.peel;split
  ·rename_i e;rw [H h.dG];simp [aj,e]
  ·split
   ·rename_i e J;rw [G h.dO];simp [aj,e,J]
   ·rfl
 | par p q G H=>
  intro h;unfold T.peel;split
  ·rename_i e;rw [H h.fD];simp [aj,cO p h.fX e]
  ·split
   ·rename_i e J;rw [G h.fX];simp [aj,cO q h.fD J]
   ·rfl
 | res x p G=>
  intro h;unfold T.peel;split
  ·rfl
  ·rename_i e;rw [G h.res];have:¬(td p).2.has x=true:=λZ=>e ((fP p x h.fY).1 Z)
   simp [aj,this]
def KY {p:T UInt8}{u:U}{ρ:UInt8->Nat}{σ:Nat->Nat}{x:UInt8}{y:Nat}(h:∀v,AE (aG ρ x v) p (aG σ y v) u)(hi:eQ ρ (.res x p))(hj:eQ σ (.res y u)):p.Us x↔u.Us y:=by
 obtain⟨v,h1,h2⟩:=bQ p u ρ σ;have G:eQ (aG ρ x v) p:= .aG (λa b ha hb h5 Z=>hi a b ⟨ha,h5⟩ ⟨hb,Z⟩) λa _ ha=>h1 a (T.bf ha)
 have H:eQ (aG σ y v) u:= .aG (λa b ha hb h5 Z=>hj a b ⟨ha,h5⟩ ⟨hb,Z⟩) λa _ ha=>h2 a (T.bf ha)
 constructor
 ·intro hx;obtain⟨z,J,e⟩:=(h v).used G H x hx;rw [cB]at e;unfold aG at e;split at e
  ·rename_i hh;exact hh▸J
  ·exact absurd e (h2 z (T.bf J))
 ·intro hy;obtain⟨z,J,e⟩:=(h v).symm.used H G y hy;rw [cB]at e;unfold aG at e;split at e
  ·rename_i hh;exact hh▸J
  ·exact absurd e (h1 z (T.bf J))
def AE.HZ {p:T UInt8}{u:U}{ρ:UInt8->Nat}{σ:Nat->Nat}{a b:UInt8}{c d:Nat}(h:AE ρ (.mat a b p) σ (.mat c d u))(hi:eQ ρ (.mat a b p))(J:eQ σ (.mat c d u))(hd:p.dead=false):a=b↔c=d:=by
 have H:u.dead=false:=h.2.2.dead▸hd;constructor
 ·rintro rfl
  refine OX λG=>G (J c d (.inr ⟨G,H,.inl rfl⟩) (.inr ⟨G,H,.inr (.inl rfl)⟩) (h.1.symm.trans h.2.1))
 ·rintro rfl
  refine OX λG=>G (hi a b (.inr ⟨G,hd,.inl rfl⟩) (.inr ⟨G,hd,.inr (.inl rfl)⟩) (h.1.trans h.2.1.symm))
def AE.peel:∀{p:T UInt8} {u:U} {ρ:UInt8->Nat} {σ:Nat->Nat},AE ρ p σ u->eQ ρ p->eQ σ u->Uq u->p.dead=false->
  ∃G,AE ρ p.peel G u.peel/\∀y,y∉BV u->G y=σ y:=by
 intro p
 induction p<;>intro u ρ σ h hi hj hu hd<;>cases u<;>simp only [AE]at h
 case nil.nil=>exact⟨σ,trivial,λ _ _=>rfl⟩
 case snd.snd=>exact⟨σ,h,λ _ _=>rfl⟩
 case rcv.rcv=>exact⟨σ,h,λ _ _=>rfl⟩
 case tau.tau=>exact⟨σ,h,λ _ _=>rfl⟩
 case rep.rep=>exact⟨σ,h,λ _ _=>rfl⟩
 case mat.mat a b p ih c d u=>
  have Z:=AE.HZ (p:=p) (u:=u) h hi hj hd;unfold T.peel;by_cases e:a=b
  ·rw [N' e,N' (Z.1 e)];exact ih h.2.2 (hi.sub λx H=> .inl ⟨e,H⟩) (hj.sub λx H=> .inl ⟨Z.1 e,H⟩) hu.mat hd
  ·rw [NS e,NS λh'=>e (Z.2 h')];exact⟨σ,h,λ _ _=>rfl⟩
 case sum.sum p q ih β u v=>
  have h1:=h.1.dead;have h2:=h.2.dead;unfold T.peel;rw [<-h1,<-h2];by_cases e:p.dead=true
  ·rw [N' e,N' e];obtain⟨G,k1,k2⟩:=β h.2 (hi.sub λx H=> .inr H) (hj.sub λx H=> .inr H) hu.dG (by simpa [T.dead,e]using hd);exact⟨G,k1,λy hy=>k2 y λJ=>hy (N1 _ J)⟩
  ·rw [NS e,NS e];by_cases e':q.dead=true
   ·rw [N' e',N' e'];obtain⟨G,k1,k2⟩:=ih h.1 (hi.sub λx H=> .inl H) (hj.sub λx H=> .inl H) hu.dO (by simpa using e);exact⟨G,k1,λy hy=>k2 y λJ=>hy (Ob _ J)⟩
   ·rw [NS e',NS e'];exact⟨σ,h,λ _ _=>rfl⟩
 case par.par p q ih β u v=>
  have h1:=h.1.dead;have h2:=h.2.dead;unfold T.peel;rw [<-h1,<-h2];by_cases e:p.dead=true
  ·rw [N' e,N' e];obtain⟨G,k1,k2⟩:=β h.2 (hi.sub λx H=> .inr H) (hj.sub λx H=> .inr H) hu.fD (by simpa [T.dead,e]using hd);exact⟨G,k1,λy hy=>k2 y λJ=>hy (N1 _ J)⟩
  ·rw [NS e,NS e];by_cases e':q.dead=true
   ·rw [N' e',N' e'];obtain⟨G,k1,k2⟩:=ih h.1 (hi.sub λx H=> .inl H) (hj.sub λx H=> .inl H) hu.fX (by simpa using e);exact⟨G,k1,λy hy=>k2 y λJ=>hy (Ob _ J)⟩
   ·rw [NS e',NS e'];exact⟨σ,h,λ _ _=>rfl⟩
 case res.res x p ih y u=>
  have γ:=KY (p:=p) (u:=u) h hi hj;unfold T.peel;by_cases e:p.Us x
  ·rw [N' e,N' (γ.1 e)];exact⟨σ,h,λ _ _=>rfl⟩
  ·have e':¬u.Us y:=λh'=>e (γ.2 h')
   rw [NS e,NS e'];have hv:=h (ρ x);have hv:AE ρ p (aG σ y (ρ x)) u:=hv.congr (λz _=>by unfold aG;split<;>simp_all) λ _ _=>rfl
   obtain⟨G,k1,k2⟩:=ih hv (λa b ha hb=>hi a b ⟨λhh=>e (hh▸ha),ha⟩ ⟨λhh=>e (hh▸hb),hb⟩)
    (λa b ha hb Z=>by
     have na:a≠y:=λhh=>e' (hh▸ha)
     have nb:b≠y:=λhh=>e' (hh▸hb)
     rw [bB _ _ na,bB _ _ nb]at Z;exact hj a b ⟨na,ha⟩ ⟨nb,hb⟩ Z) hu.res hd
   refine⟨G,k1,λz hz=>?_⟩;simp only [BV,NV,QP]at hz;rw [k2 z hz.2,bB _ _ hz.1]
structure Bd (k:Nat)(p:P):Prop where
 eb:Eb k p
 le:k+p.pm<=64
def Bd.bd {k:Nat}{p:P}(h:Bd k p):k+p.bd<=64:=by have :=T.tD p;have :=h.le;omega
def Bd.peel {k:Nat}{p:P}(h:Bd k p):∃m,k<=m/\Bd m p.peel/\m+p.peel.rd+p.peel.ow<=k+p.rd+p.ow:=by
 refine T.ic (λq=>∃m,k<=m/\Bd m q/\m+q.rd+q.ow<=k+p.rd+p.ow) ?_ ?_ ?_ ?_ p ⟨k,ND k,h,ND _⟩
 ·rintro a q ⟨m,hm,hb,G⟩
  have :=hb.le;have :=T.fK q;simp only [T.pm,T.rd,T.ow]at*;exact⟨m,hm,⟨hb.eb.2.2,by omega⟩,G⟩
 iterate 2
  rintro q r ⟨m,hm,hb,G⟩
  have :=hb.le;have :=T.fK q;have :=T.fK r;simp only [T.pm,T.rd,T.ow]at*;exact⟨⟨m,hm,⟨hb.eb.1,by omega⟩,by omega⟩,⟨m,hm,⟨hb.eb.2,by omega⟩,by omega⟩⟩
 rintro x q _ ⟨m,hm,hb,G⟩
 have :=hb.le;simp only [T.pm,T.rd,T.ow]at*;exact⟨m+1,by omega,⟨hb.eb.2,by omega⟩,by omega⟩
def H3 {p:P}(h:p.wf=true):p.peel.wf=true:=
 T.ic (λq=>q.wf=true) (λ _ _ h=>by simp only [T.wf,Nz]at h;exact h.2) (λ _ _ h=>by simpa only [T.wf,Nz]using h)
  (λ _ _ h=>by simpa only [T.wf,Nz]using h) (λ _ _ _ h=>by simp only [T.wf,Nz]at h;exact h.2) p h
def Ei (p:P):p.peel.aK<=p.aK:=
 T.ic (λq=>q.aK<=p.aK) (λ _ _ h=>by simp only [T.aK]at h;omega) (λ _ _ h=>by simp only [T.aK]at h;omega) (λ _ _ h=>by simp only [T.aK]at h;omega) (λ _ _ _ h=>by simp only [T.aK]at h;omega) p (ND _)
attribute [go_sem] Tryz.f244
def qM (G:aH)(w:World)(R:aH->QU)(h:vc az (aZ [(1,[(0,.s)])] [] [(1,false,.lt 0 (.one .h 1 (.lt 2 (.lt 3 (.lt 4 (.lt 5 (.lt 6 (.lt 7 (.lt 8 (.lt 9 .done))))))))))]) (af Tryz.f244) (ai 0 [.s G]) w (fin az [.tmp 2 .s] R)):
  QV 244 #[(.string (ay G))] w (ax [.s] R):=
 bj Tryz.func244 (by kernel_rfl) h
attribute [go_sem] Tryz.f245
def r7 (G:aH)(w:World)(R:Bool->QU)(h:vc az (aZ [(10,[(18,.i)])] [] []) (af Tryz.f245) (ai 0 [.s G]) w (fin az [.tmp 2 .b] R)):
  QV 245 #[(.string (ay G))] w (ax [.b] R):=
 bj Tryz.func245 (by kernel_rfl) h
attribute [go_sem] Tryz.f204
def tY (G:aH)(w:World)(R:aH->QU)(h:vc az (aZ [(6,[(3,.s),(17,.i)]),(14,[(3,.s),(39,.i)])] [(13,[(3,.s)])] []) (af Tryz.f204) (ai 0 [.s G]) w (fin az [.tmp 2 .s] R)):
  QV 204 #[(.string (ay G))] w (ax [.s] R):=
 bj Tryz.func204 (by kernel_rfl) h
attribute [go_sem] Tryz.f257
def ua (G:aH)(w:World)(R:aH->QU)(h:vc az (aZ [(1,[(0,.s)])] [] [(9,false,.lt 0 (.lt 1 (.lt 2 (.lt 3 (.lt 4 (.lt 5 (.lt 7 (.lt 8 (.one .h 6 (.one .h 9 (.lt 10 (.lt 11 (.lt 12 .done)))))))))))))]) (af Tryz.f257) (ai 0 [.s G]) w (fin az [.tmp 2 .s] R)):
  QV 257 #[(.string (ay G))] w (ax [.s] R):=
 bj Tryz.func257 (by kernel_rfl) h
attribute [go_sem] Tryz.f241
def jN (G:Value)(H:aH)(w:World)(R:QU)(h:vc az (aZ [(10,[(5,.c)])] [(15,[])] [(14,false,.lt 0 (.lt 1 (.lt 2 (.lt 4 (.br .h 3 (.one .h 5 (.one .h 6 (.lt 7 (.lt 8 (.lt 9 (.one .h 10 .done)))))) (.one .h 5 (.br .h 3 (.one .h 6 (.lt 7 (.lt 8 (.lt 9 (.one .h 10 .done))))) (.one .h 6 (.one .h 3 (.lt 7 (.lt 8 (.lt 9 (.one .h 10 .done))))))))))))),(15,false,.lt 0 (.lt 1 (.lt 2 (.lt 3 (.lt 4 (.lt 5 (.one .h 6 (.one .h 7 .done))))))))]) (af Tryz.f241) (ai 0 [.v G,.s H]) w (fin az [] R)):
  QV 241 #[G,(.string (ay H))] w (ax [] R):=
 bj Tryz.func241 (by kernel_rfl) h
attribute [go_sem] Tryz.f242
def iU (s1:aH)(w:World)(R:Value->QU)(h:vc az (aZ [(5,[(3,.v),(13,.i)]),(8,[(3,.v),(26,.i)])] [] [(7,false,.lt 0 (.lt 1 (.lt 2 (.lt 3 (.lt 4 (.lt 5 (.lt 6 (.lt 7 (.lt 10 (.one .h 8 (.lt 9 .done)))))))))))]) (af Tryz.f242) (ai 0 [.s s1]) w (fin az [.tmp 2 .v] R)):
  QV 242 #[(.string (ay s1))] w (ax [.v] R):=
 bj Tryz.func242 (by kernel_rfl) h
attribute [go_sem] Tryz.f179
def sA (G:Value)(s2:aH)(w:World)(R:aH->QU)(h:vc az (aZ [(3,[(5,.s),(6,.i)])] [] []) (af Tryz.f179) (ai 0 [.v G,.s s2]) w (fin az [.tmp 4 .s] R)):
  QV 179 #[G,(.string (ay s2))] w (ax [.s] R):=
 bj Tryz.func179 (by kernel_rfl) h
attribute [go_sem] Tryz.f102
def qj (G:Value)(w:World)(R:Value->QU)(h:vc az (aZ [(3,[(3,.v),(10,.i)]),(6,[(6,.i)])] [(8,[(6,.i)])] []) (af Tryz.f102) (ai 0 [.v G]) w (fin az [.tmp 2 .v] R)):
  QV 102 #[G] w (ax [.v] R):=
 bj Tryz.func102 (by kernel_rfl) h
attribute [go_sem] Tryz.f261
def mR (G:aH)(w:World)(R:Value->QU)(h:vc az (aZ [] [] [(7,false,.lt 0 (.lt 1 (.lt 2 (.lt 4 (.lt 5 (.lt 6 (.one .h 3 (.one .h 7 (.one .h 8 (.lt 9 .done))))))))))]) (af Tryz.f261) (ai 0 [.s G]) w (fin az [.tmp 2 .v] R)):
  QV 261 #[(.string (ay G))] w (ax [.v] R):=
 bj Tryz.func261 (by kernel_rfl) h
def Strs.get {w w':World}{v:Value}{l:List Tx}(h:Strs w v l)(hw:Ex w w'){i:Int}{x:Tx}(G:0<=i)(H:l[i.toNat]?=some x){Q:aH->Prop}(J:Q x):
  ∃(b o len cap:Nat),v=Value.slice (some ⟨b,o,none⟩) len cap/\0<=i/\i< (len:Int)/\∃s:aH,World.cell? w' ⟨b,o+Int.toNat i* 1,none⟩=some (Value.string (ay s))/\Q s:=by
 obtain⟨hi,e⟩:=On.1 H;obtain⟨b,o,cap,Z,e2,e3⟩:=(h.ex hw).at hi;exact⟨b,o,l.length,cap,Z,G,by omega,x,by rw [N7,e3,e],J⟩
def Strs.FO {w:World}{v:Value}{l:List Tx}(h:Strs w v l){i:Int}{x:Tx}(G:0<=i)(H:l[i.toNat]?=some x){Q:aH->Prop}(J:Q x):
  ∃(b o len cap:Nat),v=Value.slice (some ⟨b,o,none⟩) len cap/\0<=i/\i< (len:Int)/\∃s:aH,(∀w',Ex w w'->World.cell? w' ⟨b,o+Int.toNat i* 1,none⟩=some (Value.string (ay s)))/\Q s:=by
 obtain⟨hi,e⟩:=On.1 H;obtain⟨b,o,cap,Z,e2,e3⟩:=h.at hi;exact⟨b,o,l.length,cap,Z,G,by omega,x,λw' hw=>by rw [hw.cell e2,N7,e3,e],J⟩
def ta {t:P}(ok:Ok t):Ok t.strip:=by
 have:∀t:P,t.wf=true->t.strip.wf=true/\t.strip.aK<=t.aK:=by
  intro t
  induction t with
  | mat a b p G=>
   intro h;unfold T.strip;split
   ·simp only [T.wf,Nz]at h;have :=G h.2;exact⟨this.1,by simp only [T.aK];omega⟩
   ·exact⟨h,ND _⟩
  | _=>exact λh=>⟨h,ND _⟩
 have h:=this t ok.wf;exact⟨h.1,by have :=ok.len;rw [T.aP]at*;omega⟩
def pw {t:P}(ok:Ok t){w:World}{R:aH->QU}(h:∀w',Ex w w'->R t.strip.text w'):QV 244 #[.string (ay t.text)] w (ax [.s] R):=by
 refine qM _ w R ?_;dsimp only [go_sem];refine⟨λp w'=>Ex w w'/\∃q:P,p=q.text/\Ok q/\q.strip=t.strip,λp _=>p.length,⟨Ex.refl w,t,rfl,ok,rfl⟩,λp w1 hI=>?_⟩;obtain⟨hx,q,rfl,G,hq⟩:=hI;refine⟨λ _=>True,λJ Z=>⟨trivial,aM G ⟨trivial,?_⟩⟩⟩;have H:Ex w J:=hx.trans (Z▸Ex.drew w1);have no:q.strip=q->R q.text J:=λe=>by
  have :=h J H;rw [<-hq,e]at this;exact this
 cases q with
 | mat a b p=>
  simp only [T.kind];refine cL (by decide) ⟨by simp only [T.text,Nv];omega,by simp only [T.text,Nv];omega,λhc=>?_,λhc=>?_⟩
  ·have e:a=b:=NZ hc;subst e;have h2:T.strip (.mat a a p)=p.strip:=by conv=>lhs;unfold T.strip;rw [N' rfl]
   refine⟨by simp only [T.text,Nv];omega,⟨H,p,rfl,G.parts p (by simp [T.parts]),h2.symm.trans hq⟩,?_⟩;show p.text.length< (T.mat a a p).text.length;simp only [T.text,Nv];omega
  ·have e:a≠b:=NU hc;exact no (by conv=>lhs;unfold T.strip;rw [NS e])
 | _=>simp only [T.kind];exact aR (by decide) (no rfl)
def sX {t:P}(h1:t.kind≠33)(G:t.kind≠63)(H:t.kind≠126):t.dead=t.parts.all T.dead:=by
 cases t<;>first | (exact absurd rfl h1) | (exact absurd rfl G) | (exact absurd rfl H) | simp [T.dead,T.parts]
def fH:∀(n:Nat) {t:P},t.size<=n->Ok t->∀{w:World} {R:Bool->QU},(∀w',Ex w w'->R t.dead w')->QV 245 #[.string (ay t.text)] w (ax [.b] R):=by
 intro n
 induction n with
 | zero=>intro t h;have :=aT t;omega
 | succ n ih=>
  intro t hn ok w R h;refine r7 _ w R ?_;dsimp only [go_sem];refine pw ok λw1 ζ=>?_
  have η:=ta ok;have hq:=T.mO t;rw [<-T.sf]at h;generalize t.strip=q at*;refine aM η ?_;have loop:q.kind≠33->q.kind≠63->q.kind≠126->QV 141 #[(Value.string (ay q.text))] w1 (ax [.v] fun(ν:Value) (ψ:World)=>∃(a40:Option Addr) (H θ:Nat),ν=Value.slice a40 H θ/\∃(ι:Int->QU) (ξ:Int->World->Nat),ι (0) ψ/\∀(G:Int) (Z:World),ι G Z->((decide (G< (H:Int)))=true->∃(b47 ο β κ:Nat),ν=Value.slice (some ⟨b47,ο,none⟩) β κ/\0<=(G:Int)/\(G:Int)< β/\∃ς:aH,World.cell? Z ⟨b47,(ο+Int.toNat G* 1),none⟩=some (Value.string (ay ς))/\QV 245 #[(Value.string (ay ς))] Z (ax [.b] fun(υ:Bool) (μ:World)=>((!υ)=true->R (false) μ)/\((!υ)=false->cR (G+1)/\ι ((G+1)) μ/\ξ ((G+1)) μ< ξ G Z)))/\((decide (G< (H:Int)))=false->R (true) Z)):=by
   intro h1 h2 h3;refine cG η λv w2 φ hs=>?_
   obtain⟨a,cap,hv⟩:=hs.slice;rw [NH]at hv;have ω:=cW q;refine⟨a,q.parts.length,cap,hv,λx w'=>Ex w2 w'/\∃k:Nat,x=k/\k<=q.parts.length/\∀p∈q.parts.take k,p.dead=true,λx _=>((q.parts.length:Int) - x).toNat,⟨Ex.refl _,0,rfl,by omega,by simp⟩,λx w3 hI=>?_⟩;obtain⟨ε,k,rfl,hk,γ⟩:=hI;refine⟨λhc=>?_,λhc=>?_⟩
   ·have J:k< q.parts.length:=by simpa using hc
    have δ:q.parts[k]∈q.parts:=NO J;refine hs.get ε (i:=k) (by omega) (x:=(q.parts[k]).text) (by simp [J]) ?_;refine ih (by have :=dJ δ;omega) (η.parts _ δ) λw4 χ=>⟨λhd=>?_,λhd=>?_⟩
    ·have hd:(q.parts[k]).dead=false:=by simpa using hd
     have e:q.dead=false:=by
      rw [sX h1 h2 h3,List.all_eq_false];exact⟨_,δ,by simp [hd]⟩
     rw [<-e];exact h w4 (((ζ.trans φ).trans ε).trans χ)
    ·have hd:(q.parts[k]).dead=true:=by simpa using hd
     refine⟨by omega,⟨ε.trans χ,k+1,by omega,J,λp hp=>?_⟩,by dsimp only;omega⟩;rw [List.take_succ_eq_append_getElem J]at hp;rcases NI.1 hp with hp | hp
     ·exact γ p hp
     ·rw [NT.1 hp];exact hd
   ·have J:k=q.parts.length:=by simp at hc;omega
    subst J;rw [Od]at γ;have e:q.dead=true:=by
     rw [sX h1 h2 h3,Pf];exact γ
    rw [<-e];exact h w3 ((ζ.trans φ).trans ε)
  have h:=h w1 ζ;cases q with
  | nil=>simp only [T.kind];exact cL (by decide) h
  | snd a b p=>simp only [T.kind];exact aR (by decide) (cL (by decide) (cL (by decide) h))
  | rcv a b p=>simp only [T.kind];exact aR (by decide) (aR (by decide) (cL (by decide) (cL (by decide) h)))
  | tau p=>simp only [T.kind];exact aR (by decide) (aR (by decide) (aR (by decide) (cL (by decide) h)))
  | sum p q=>simp only [T.kind];exact aR (by decide) (aR (by decide) (aR (by decide) (aR (by decide) (loop (by simp [T.kind]) (by simp [T.kind]) (by simp [T.kind])))))
  | par p q=>simp only [T.kind];exact aR (by decide) (aR (by decide) (aR (by decide) (aR (by decide) (loop (by simp [T.kind]) (by simp [T.kind]) (by simp [T.kind])))))
  | res x p=>simp only [T.kind];exact aR (by decide) (aR (by decide) (aR (by decide) (aR (by decide) (loop (by simp [T.kind]) (by simp [T.kind]) (by simp [T.kind])))))
  | mat a b p=>simp only [T.kind];exact aR (by decide) (aR (by decide) (aR (by decide) (aR (by decide) (loop (by simp [T.kind]) (by simp [T.kind]) (by simp [T.kind])))))
  | rep p=>simp only [T.kind];exact aR (by decide) (aR (by decide) (aR (by decide) (aR (by decide) (loop (by simp [T.kind]) (by simp [T.kind]) (by simp [T.kind])))))
def FT {t:P}(hd:t.dead=false)(hm:∀a b p,t= .mat a b p->a≠b)(x:UInt8):t.Us x↔x∈t.names\/(∃p∈t.parts,p.Us x)/\¬(t.qu=true/\x=t.bindC):=by
 cases t<;>simp [T.Us,T.names,T.parts,T.qu,T.bindC,QF,and_comm]
 case mat a b p=>
  have G:=hm a b p rfl;have hd:p.dead=false:=hd;simp [G,hd]
def nZ:∀(n:Nat) {t:P},t.size<=n->Ok t->∀{w:World} {R:aH->QU},(∀s w',Ex w w'->kz s->(∀x,x∈s↔t.Us x)->R s w')->QV 204 #[.string (ay t.text)] w (ax [.s] R):=by
 intro n
 induction n with
 | zero=>intro t h;have :=aT t;omega
 | succ n ih=>
  intro t0 hn ok w R h;refine tY _ w R ?_;dsimp only [go_sem];dsimp only [go_sem,Nat.reduceAdd];refine pw ok λw1 κ=>?_
  have H:=ta ok;have hsz:=T.mO t0;have μ:=T.qb t0;have h:∀s w',Ex w w'->kz s->(∀x,x∈s↔t0.strip.Us x)->R s w':=λs w' a b c=>h s w' a b λx=>by rw [c,T.Ai]
  generalize t0.strip=t at*;refine fH _ (ND _) H λw2 ν=>⟨λhd=>?_,λhd=>?_⟩
  ·exact h [] w2 (κ.trans ν) kz.nil λx=>⟨λhx=>absurd hx Qf,λhx=>absurd hx (T.bE hd)⟩
  refine cG H λv w3 υ hs=>?_
  have J:=(κ.trans ν).trans υ;obtain⟨a,cap,hv⟩:=hs.slice;rw [NH]at hv;have hpl:=cW t;refine⟨a,t.parts.length,cap,hv,λout x w'=>Ex w3 w'/\kz out/\∃k:Nat,x=k/\k<=t.parts.length/\∀x,x∈out↔∃p∈t.parts.take k,p.Us x,λ _ x _=>((t.parts.length:Int) - x).toNat,
   ⟨Ex.refl _,kz.nil,0,rfl,by omega,by simp⟩,λout x w4 hI=>?_⟩
  obtain⟨Z,β,k,rfl,hk,hm⟩:=hI;refine⟨λhc=>?_,λhc=>?_⟩
  ·have G:k< t.parts.length:=by simpa using hc
   have γ:t.parts[k]∈t.parts:=NO G;refine hs.get Z (i:=k) (by omega) (x:=(t.parts[k]).text) (by simp [G]) ?_;refine ih (by have :=dJ γ;omega) (H.parts _ γ) λs w5 ε φ ζ=>?_
   refine iT β (by have :=φ.bound;omega) λs' w6 η χ ψ=>⟨by omega,⟨(Z.trans ε).trans η,χ,k+1,by omega,G,λx=>?_⟩,by dsimp only;omega⟩
   rw [ψ,hm,ζ,NG G];simp only [NI,NT];constructor
   ·rintro(⟨p,hp,hf⟩ | hf)
    ·exact⟨p,.inl hp,hf⟩
    ·exact⟨_,.inr rfl,hf⟩
   ·rintro⟨p,hp | rfl,hf⟩
    ·exact .inl ⟨p,hp,hf⟩
    ·exact .inr hf
  ·have G:k=t.parts.length:=by simp at hc;omega
   subst G;rw [Od]at hm;refine⟨λout w'=>Ex w w'/\kz out/\∀x,x∈out↔(∃p∈t.parts,p.Us x)/\¬(t.qu=true/\x=t.bindC),qt H ⟨λhb=>?_,λhb=>?_⟩,λξ w5 hJ=>?_⟩
   ·refine sS (by have :=β.bound;omega) ⟨J.trans Z,β.filter _,λx=>?_⟩;simp [hm,hb]
   ·exact⟨J.trans Z,β,λx=>by simp [hm,hb]⟩
   obtain⟨ε,ο,ζ⟩:=hJ;refine D8 H λw6 η=>λb cp w7 hb ς ω=>?_
   have hbt:=qw.E9 ς;have hx7:Ex w w7:=(ε.trans η).trans (sH ω);have hnl:t.names.length<=2:=by cases t<;>simp [T.names]
   refine⟨some ⟨b,0,none⟩,t.names.length,cp,rfl,λout x w'=>Ex w7 w'/\kz out/\∃k:Nat,x=k/\k<=t.names.length/\∀x,x∈out↔x∈t.names.take k\/x∈ξ,λ _ x _=>((t.names.length:Int) - x).toNat,
    ⟨Ex.refl _,ο,0,rfl,by omega,by simp⟩,λout x w8 hI=>?_⟩
   obtain⟨θ,δ,k,rfl,hk,ι⟩:=hI;refine⟨λhc=>?_,λhc=>?_⟩
   ·have G:k< t.names.length:=by simpa using hc
    refine⟨b,0,t.names.length,cp,rfl,by omega,by omega,bt t.names k,(hbt.ex θ).at G,?_⟩;refine gn δ λs w9 hx9 hs9 hm9=>⟨by omega,⟨θ.trans hx9,hs9,k+1,by omega,G,λx=>?_⟩,by dsimp only;omega⟩
    have e:t.names.take (k+1)=t.names.take k++[bt t.names k]:=by
     have :=gm (s:=t.names) (i:=k) (by omega) (by omega);have e2:((k:Int)+1).toNat=k+1:=by omega
     rw [e2]at this;exact this
    rw [hm9,ι,e];simp only [NI,NT];constructor
    ·rintro(h | h | h)
     ·exact .inl (.inr h)
     ·exact .inl (.inl h)
     ·exact .inr h
    ·rintro((h | h) | h)
     ·exact .inr (.inl h)
     ·exact .inl h
     ·exact .inr (.inr h)
   ·have G:k=t.names.length:=by simp at hc;omega
    subst G;rw [Od]at ι;refine h out w8 (hx7.trans θ) δ λx=>?_
    rw [ι,ζ,FT hd (λa b p e=>μ a b p e)]
def Bi (t:P):t.strip.peel=t.peel:=by
 induction t with
 | mat a b p G=>
  unfold T.strip;split
  ·rename_i e;rw [G];conv=>rhs;unfold T.peel;rw [N' e]
  ·rfl
 | _=>rfl
def A7 {t:P}(ok:Ok t){w:World}{R:aH->QU}(h:∀w',Ex w w'->Ok t.peel->R t.peel.text w'):QV 257 #[.string (ay t.text)] w (ax [.s] R):=by
 refine ua _ w R ?_;dsimp only [go_sem];dsimp only [go_sem,Nat.reduceAdd];refine⟨λp w'=>Ex w w'/\∃q:P,p=q.text/\Ok q/\q.peel=t.peel,λp _=>p.length,⟨Ex.refl w,t,rfl,ok,rfl⟩,λp w1 hI=>?_⟩;obtain⟨hx,q0,rfl,η,Z⟩:=hI;refine pw η λw2 μ=>?_
 have β:=ta η;have hlen:q0.strip.text.length<=q0.text.length:=by
  have:∀t:P,t.strip.aK<=t.aK:=by
   intro t
   induction t with
   | mat a b p ih=>
    unfold T.strip;split
    ·simp only [T.aK];omega
    ·exact ND _
   | _=>exact ND _
  rw [T.aP,T.aP];exact this q0
 have ι:=T.qb q0;rw [<-Bi]at Z;generalize q0.strip=q at*;refine cG β λv w3 ν hs=>aM β ?_
 have ε:Ex w w3:=(hx.trans μ).trans ν;have stay:q.peel=q->∀w',Ex w3 w'->R q.text w':=λe w' ξ=>by
  have :=h w' (ε.trans ξ) (Z▸e.symm▸β);rw [<-Z,e]at this;exact this
 cases q with
 | nil=>
  simp only [T.kind]
  repeat' first | refine aR (by decide) ?_ | refine cL (by decide) ?_ | refine ck (by decide) ?_ | refine dB (by decide) ?_
  exact⟨λ _=>True,λw4 H=>⟨trivial,aR (by decide) (stay rfl w4 (H▸Ex.drew w3))⟩⟩
 | snd a b p=>
  simp only [T.kind]
  repeat' first | refine aR (by decide) ?_ | refine cL (by decide) ?_ | refine ck (by decide) ?_ | refine dB (by decide) ?_
  exact⟨λ _=>True,λw4 H=>⟨trivial,aR (by decide) (stay rfl w4 (H▸Ex.drew w3))⟩⟩
 | rcv a b p=>
  simp only [T.kind]
  repeat' first | refine aR (by decide) ?_ | refine cL (by decide) ?_ | refine ck (by decide) ?_ | refine dB (by decide) ?_
  exact⟨λ _=>True,λw4 H=>⟨trivial,aR (by decide) (stay rfl w4 (H▸Ex.drew w3))⟩⟩
 | tau p=>
  simp only [T.kind]
  repeat' first | refine aR (by decide) ?_ | refine cL (by decide) ?_ | refine ck (by decide) ?_ | refine dB (by decide) ?_
  exact⟨λ _=>True,λw4 H=>⟨trivial,aR (by decide) (stay rfl w4 (H▸Ex.drew w3))⟩⟩
 | rep p=>
  simp only [T.kind]
  repeat' first | refine aR (by decide) ?_ | refine cL (by decide) ?_ | refine ck (by decide) ?_ | refine dB (by decide) ?_
  exact⟨λ _=>True,λw4 H=>⟨trivial,aR (by decide) (stay rfl w4 (H▸Ex.drew w3))⟩⟩
 | mat a b p=>
  have ο:=ι a b p rfl;simp only [T.kind]
  repeat' first | refine aR (by decide) ?_ | refine cL (by decide) ?_ | refine ck (by decide) ?_ | refine dB (by decide) ?_
  exact⟨λ _=>True,λw4 H=>⟨trivial,aR (by decide) (stay (by unfold T.peel;rw [NS ο]) w4 (H▸Ex.drew w3))⟩⟩
 | res x p=>
  have γ:=β.parts p (by simp [T.parts]);simp only [T.kind]
  repeat' first | refine aR (by decide) ?_ | refine cL (by decide) ?_ | refine ck (by decide) ?_ | refine dB (by decide) ?_
  refine⟨λw'=>Ex w3 w',λw4 H=>⟨H▸Ex.drew w3,cL (by decide) ?_⟩⟩;have G:Ex w3 w4:=H▸Ex.drew w3;refine hs.FO (i:=0) (x:=p.text) (by omega) rfl ⟨by simp only [T.text,Nv];omega,?_⟩;refine nZ _ (ND _) γ λs w5 J ς κ=>⟨G.trans J,fg (by have :=ς.bound;omega) ⟨G.trans J,λhq=>?_,λhq=>?_⟩⟩
  ·have hq:¬p.Us x:=by
    rw [<-κ];simpa [T.text,bt]using hq
   refine hs.get (G.trans J) (i:=0) (x:=p.text) (by omega) rfl ⟨⟨ε.trans (G.trans J),p,rfl,γ,?_⟩,?_⟩
   ·rw [<-Z];conv=>rhs;unfold T.peel;rw [NS hq]
   ·have:p.text.length< (T.res x p).text.length:=by simp only [T.text,Nv];omega
    exact N0 this hlen
  ·have hq:p.Us x:=by
    rw [<-κ];simpa [T.text,bt]using hq
   exact stay (by unfold T.peel;rw [N' hq]) w5 (G.trans J)
 | sum p r=>
  have γ:=β.parts p (by simp [T.parts]);have ζ:=β.parts r (by simp [T.parts]);have lp:p.text.length< (T.sum p r).text.length:=by simp only [T.text,Nv,NB];omega
  have lr:r.text.length< (T.sum p r).text.length:=by simp only [T.text,Nv,NB];omega
  simp only [T.kind]
  repeat' first | refine aR (by decide) ?_ | refine cL (by decide) ?_ | refine ck (by decide) ?_ | refine dB (by decide) ?_
  refine hs.get (Ex.refl w3) (i:=0) (x:=p.text) (by omega) rfl (fH _ (ND _) γ λw4 G=>⟨λhd=>?_,λhd=>?_⟩)
  ·refine hs.get G (i:=1) (x:=r.text) (by omega) rfl ⟨⟨ε.trans G,r,rfl,ζ,?_⟩,N0 lr hlen⟩;rw [<-Z];conv=>rhs;unfold T.peel;rw [N' hd]
  repeat' first | refine aR (by decide) ?_ | refine cL (by decide) ?_ | refine ck (by decide) ?_ | refine dB (by decide) ?_
  refine hs.get G (i:=1) (x:=r.text) (by omega) rfl (fH _ (ND _) ζ λw5 J=>⟨λδ=>?_,λδ=>?_⟩)
  ·refine hs.get (G.trans J) (i:=0) (x:=p.text) (by omega) rfl ⟨⟨ε.trans (G.trans J),p,rfl,γ,?_⟩,N0 lp hlen⟩;rw [<-Z];conv=>rhs;unfold T.peel;rw [NS (by simp [hd]),N' δ]
  ·exact⟨λ _=>True,λw6 θ=>⟨trivial,aR (by decide) (stay (by unfold T.peel;rw [NS (by simp [hd]),NS (by simp [δ])]) w6 ((G.trans J).trans (θ▸Ex.drew w5)))⟩⟩
 | par p r=>
  have γ:=β.parts p (by simp [T.parts]);have ζ:=β.parts r (by simp [T.parts]);have lp:p.text.length< (T.par p r).text.length:=by simp only [T.text,Nv,NB];omega
  have lr:r.text.length< (T.par p r).text.length:=by simp only [T.text,Nv,NB];omega
  simp only [T.kind]
  repeat' first | refine aR (by decide) ?_ | refine cL (by decide) ?_ | refine ck (by decide) ?_ | refine dB (by decide) ?_
  refine hs.get (Ex.refl w3) (i:=0) (x:=p.text) (by omega) rfl (fH _ (ND _) γ λw4 G=>⟨λhd=>?_,λhd=>?_⟩)
  ·refine hs.get G (i:=1) (x:=r.text) (by omega) rfl ⟨⟨ε.trans G,r,rfl,ζ,?_⟩,N0 lr hlen⟩;rw [<-Z];conv=>rhs;unfold T.peel;rw [N' hd]
  repeat' first | refine aR (by decide) ?_ | refine cL (by decide) ?_ | refine ck (by decide) ?_ | refine dB (by decide) ?_
  refine hs.get G (i:=1) (x:=r.text) (by omega) rfl (fH _ (ND _) ζ λw5 J=>⟨λδ=>?_,λδ=>?_⟩)
  ·refine hs.get (G.trans J) (i:=0) (x:=p.text) (by omega) rfl ⟨⟨ε.trans (G.trans J),p,rfl,γ,?_⟩,N0 lp hlen⟩;rw [<-Z];conv=>rhs;unfold T.peel;rw [NS (by simp [hd]),N' δ]
  ·exact⟨λ _=>True,λw6 θ=>⟨trivial,aR (by decide) (stay (by unfold T.peel;rw [NS (by simp [hd]),NS (by simp [δ])]) w6 ((G.trans J).trans (θ▸Ex.drew w5)))⟩⟩
def sv (x:Tx):Value:= .string (ay x)
def Own (B:Nat)(w:World)(v:Value)(l:List Tx):Prop:=w.ownsRow B 9 1 v l.length (l.map sv)
def Own.nil (B:Nat)(w:World):Own B w (.slice none 0 0) []:=Qv _ _ _ _
def Own.strs {B:Nat}{w:World}{v:Value}{l:List Tx}(h:Own B w v l):Strs w v l:=by
 rcases h.2 with⟨rfl,J⟩ | ⟨g,cap,cur,rfl,hb,G,h1,Z,h3,h4⟩
 ·exact .inl ⟨rfl,N3 J⟩
 ·refine .inr ⟨g,0,cap,rfl,(N8.1 G).1,λi x H=>?_⟩;unfold World.cell?;simp only [G,N2];have e:=Ot (λl=>l[i]?) h4;obtain⟨hi,_⟩:=On.1 H;simp only [N7,PJ,hi,PG,O7,H,OQ]at e;rw [<-Oy];exact e
def Own.ex {B:Nat}{w w':World}{v:Value}{l:List Tx}(h:Own B w v l)(k:Ex w w'):Own B w' v l:=by
 refine⟨h.1,?_⟩;rcases h.2 with H | ⟨g,cap,cur,rfl,hb,G,rest⟩
 ·exact .inl H
 ·exact .inr ⟨g,cap,cur,rfl,hb,by rw [k.block g (N8.1 G).1];exact G,rest⟩
def Own.mono {B G:Nat}{w:World}{v:Value}{l:List Tx}(h:Own B w v l)(hb:G<=B):Own G w v l:=Qh h hb
def Own.push {B:Nat}{w:World}{v:Value}{l:List Tx}(h:Own B w v l)(hB:B<=w.heap.size){x:Value}{m:List Tx}(H:Strs w x m)(hl:l.length+m.length<=1099511627776){K:Value->QU}
  (J:∀v' w',Below B w w'->Own B w' v' (l++m)->w.grownBy w' v.ownBlock->(∀b,v'.ownBlock=some b->v.ownBlock=some b\/w.heap.size<=b)->K v' w'):
  ∃(base n k:Nat) (xs news:List Value),World.ownsRow w base 9 1 v n xs/\base<=Array.size (World.heap w)/\dw w x k 1 news/\(n+k<=maxLen/\(n+k)* 16<=140737488355328)/\
   ∀(v':Value) (w':World),World.ownsRow w' base 9 1 v' (n+k) (xs++news)->World.grownBy w w' (Value.ownBlock v)->(∀b:Nat,Value.ownBlock v'=some b->Value.ownBlock v=some b\/Array.size (World.heap w)<=b)->K v' w':=by
 refine⟨B,l.length,m.length,l.map sv,m.map sv,h,hB,?_,⟨by unfold maxLen;omega,by omega⟩,λv' w' Z G hw=>J v' w' ?_ ?_ G hw⟩
 ·refine⟨by simp,by simp [sv,oneV],?_⟩;rcases H with⟨rfl,rfl⟩ | ⟨b,off,cap,rfl,hb,hc⟩
  ·exact .inl ⟨rfl,rfl⟩
  ·refine .inr ⟨b,off,cap,rfl,λj u hu=>?_⟩;rw [O7]at hu;cases e:m[j]? with
   | none=>rw [e]at hu;cases hu
   | some y=>rw [e]at hu;cases hu;exact hc j y e
 ·exact Below.grown (QK B w) G hB λk hk=>(PX h k hk).1
 ·unfold Own;rw [NB,Oj];exact Z
def Strs.grown {w w':World}{v:Value}{l:List Tx}{row:Option Nat}(h:Strs w v l)(H:w.grownBy w' row)(G:∀b,v.ownBlock=some b->row≠some b):Strs w' v l:=by
 rcases h with h | ⟨b,off,cap,h1,J,Z⟩
 ·exact .inl h
 ·refine .inr ⟨b,off,cap,h1,N0 J H.size,λi x hx=>?_⟩;rw [Nw (w:=w) (H.block b J (λe=>G b (by rw [h1];rfl) e.symm))];exact Z i x hx
def Own.block {B:Nat}{w:World}{v:Value}{l:List Tx}(h:Own B w v l):∀b,v.ownBlock=some b->B<=b/\b< w.heap.size:=PX h
def Ex.below {w0 w w':World}(h:Ex w0 w)(k:Below w0.heap.size w w'):Ex w0 w':=Below.trans h k
def Strs.one {w w':World}{b:Nat}{x:Tx}(hb:b=w.heap.size)(h:w'=w.alloc (.cells #[.string (ay x)] 9)):Strs w' (.slice (some ⟨b,0,none⟩) 1 1) [x]:=by
 subst hb h;refine .inr ⟨_,0,1,rfl,by rw [size_alloc];omega,λi z G=>?_⟩;rw [N2];refine aa ?_
 match i,G with
 | 0,G=>simp at G|-;exact G▸rfl
 | i+1,G=>simp at G
def Own.one {w w':World}{B b:Nat}{x:Tx}(hB:B<=w.heap.size)(hb:b=w.heap.size)(h:w'=w.alloc (.cells #[.string (ay x)] 9)):Own B w' (.slice (some ⟨b,0,none⟩) 1 1) [x]:=by
 subst hb h;refine⟨rfl,.inr ⟨_,1,#[.string (ay x)],rfl,hB,?_,by simp,by unfold maxLen;omega,rfl,rfl⟩⟩;unfold World.alloc;simp
def Own.none {w w':World}{B b:Nat}(hB:B<=w.heap.size)(hb:b=w.heap.size)(h:w'=w.alloc (.cells #[] 9)):Own B w' (.slice (some ⟨b,0,none⟩) 0 0) []:=by
 subst hb h;refine⟨rfl,.inr ⟨_,0,#[],rfl,hB,?_,by simp,by unfold maxLen;omega,rfl,rfl⟩⟩;unfold World.alloc;simp
def Strs.take {w:World}{a:Option Addr}{n cap:Nat}{l:List Tx}(h:Strs w (.slice a n cap) l){k:Int}(h0:0<=k)(hk:k<=l.length):
  Strs w (.slice (if cap=Int.toNat 0 then a else Option.map (·.add (Int.toNat 0* 1)) a) (Int.toNat k - Int.toNat 0) (cap - Int.toNat 0)) (l.take k.toNat):=by
 have H:Int.toNat 0=0:=rfl;rcases h with⟨h,rfl⟩ | ⟨b,off,c,h1,J,Z⟩
 ·cases h;have:k=0:=by simp at hk;omega
  subst this;exact .inl ⟨rfl,rfl⟩
 ·cases h1;refine .inr ⟨b,off,cap,?_,J,λi x G=>Z i x ?_⟩
  ·have e:(if cap=Int.toNat 0 then some (⟨b,off,none⟩:Addr)else Option.map (λq:Addr=>q.add (Int.toNat 0* 1)) (some (⟨b,off,none⟩:Addr)))=some ⟨b,off,none⟩:=by
    split
    ·rfl
    ·simp [Addr.add,H]
   rw [e,H,Og]
   congr 1
   omega
  ·rw [PJ]at G;split at G
   ·exact G
   ·cases G
def Strs.drop {w:World}{a:Option Addr}{n cap:Nat}{l:List Tx}(h:Strs w (.slice a n cap) l){k:Int}(h0:0<=k)(hk:k<=l.length)(hc:n<=cap):
  Strs w (.slice (if cap=Int.toNat k then a else Option.map (·.add (Int.toNat k* 1)) a) (Int.toNat (n:Int) - Int.toNat k) (cap - Int.toNat k)) (l.drop k.toNat):=by
 rcases h with⟨h,rfl⟩ | ⟨b,off,c,h1,H,J⟩
 ·cases h;have:k=0:=by simp at hk;omega
  subst this;exact .inl ⟨rfl,rfl⟩
 ·cases h1;by_cases e:cap=k.toNat
  ·have Z:l.drop k.toNat=[]:=Pj (by omega);rw [N' e,Z];refine .inr ⟨b,off,cap - k.toNat,?_,H,λi x G=>by simp at G⟩;rw [NF]
   congr 1
   simp only [NR];omega
  ·rw [NS e];refine .inr ⟨b,off+k.toNat,cap - k.toNat,?_,H,λi x G=>?_⟩
   ·rw [NF,O3];simp [Addr.add]
   ·rw [Qi]at G;rw [PB];exact J _ x G
def Hy (a b:Tx):(Op.bytesLess a b||decide (a=b))=jg a b:=by
 rw [PD,jg,OD];simp only [O',NL];constructor
 ·rintro(h | rfl)
  ·exact List.le_of_lt h
  ·exact List.le_refl _
 ·intro h;by_cases e:a=b
  ·exact .inr e
  ·left;rcases List.le_iff_lt_or_eq.1 h with h | h
   ·exact h
   ·exact absurd h e
def eZ {c:UInt8}{s:Tx}{l:List Tx}(h:l≠[]):joinS c (s::l)=40::(s++(c::(joinS c l++[41]))):=by
 cases l with
 | nil=>exact absurd rfl h
 | cons=>rfl
def dh (l:List Tx):Nat:=(l.map List.length).sum+3* l.length
def dK (s:Tx)(l:List Tx):dh (s::l)=s.length+dh l+3:=by simp [dh];omega
def zY (l m:List Tx):dh (l++m)=dh l+dh m:=by simp [dh];omega
def lE {l m:List Tx}(h:l.Perm m):dh l=dh m:=by
 induction h with
 | nil=>rfl
 | cons x _ G=>rw [dK,dK,G]
 | swap x y l=>simp only [dK];omega
 | trans _ _ h1 H=>exact h1.trans H
def vR (c:UInt8):∀l:List Tx,(joinS c l).length<=dh l
 | []=>by simp [joinS]
 | [s]=>by simp [joinS,dh]
 | s::t::l=>by
  have :=vR c (t::l);rw [eZ (by simp),dK];simp only [Nv,NB,NR];omega
def EG (l:List Tx)(k:Nat):dh (l.drop k)<=dh l:=by
 conv=>rhs;rw [<-OL k l,zY]
 omega
def rW {w:World}{v:Value}{l:List Tx}{c:UInt8}(hs:Strs w v l)(G:l≠[])(hl:dh l<=2199023255552){R:aH->QU}(h:R (joinS c l) w):
  QV 179 #[v,.string (ay [c])] w (ax [.s] R):=by
 refine sA v [c] w R ?_;dsimp only [go_sem];dsimp only [go_sem,Nat.reduceAdd];have γ:0< l.length:=PO.2 G;have δ:3* l.length<=dh l:=by unfold dh;omega
 obtain⟨a,cap,hv⟩:=hs.slice;refine⟨a,l.length,cap,hv,by omega,?_⟩;have H:l[((l.length:Int) - 1).toNat]?=some (l.getLast G):=by
  have e:((l.length:Int) - 1).toNat=l.length - 1:=by omega
  rw [e,List.getLast_eq_getElem,Ny]
 refine hs.get (Ex.refl w) (i:=(l.length:Int) - 1) (by omega) H ?_;refine⟨a,l.length,cap,hv,by omega,λout i w'=>w=w'/\ -1<=i/\i<=(l.length:Int) - 2/\out=joinS c (l.drop (i+1).toNat),λ _ i _=>(i+1).toNat,⟨rfl,by omega,by omega,?_⟩,λout i w1 hI=>?_⟩
 ·have e:((l.length:Int) - 2+1).toNat=l.length - 1:=by omega
  have e2:l.drop (l.length - 1)=[l.getLast G]:=by
   rw [Oq (by omega:l.length - 1< l.length),List.getLast_eq_getElem,Pj (by omega)]
  rw [e,e2];rfl
 ·obtain⟨rfl,h0,h1,rfl⟩:=hI;refine⟨λJ=>?_,λJ=>?_⟩
  ·have J:0<=i:=NZ J;have hi:i.toNat< l.length:=by omega
   have Z:l.drop (i+1).toNat≠[]:=by
    intro e;have :=Ot List.length e;rw [O3,NR]at this;omega
   have hd:l.drop i.toNat=l[i.toNat]::l.drop (i+1).toNat:=by
    have e:(i+1).toNat=i.toNat+1:=by omega
    rw [e];exact Oq hi
   have hj:joinS c (l.drop i.toNat)=40::(l[i.toNat]++(c::(joinS c (l.drop (i+1).toNat)++[41]))):=by rw [hd,eZ Z]
   have β:=vR c (l.drop i.toNat);have ε:=EG l i.toNat;rw [hj]at β;simp only [Nv,NB,NR]at β;refine hs.get (Ex.refl w) (i:=i) J (x:=l[i.toNat]) (Ny hi) ⟨by simp only [Nv,NR];omega,by simp only [NB,Nv,NR];omega,by simp only [NB,Nv,NR];omega,by simp only [NB,Nv,NR];omega,by omega,⟨rfl,by omega,by omega,?_⟩,by dsimp only;omega⟩;have e:(i - 1+1).toNat=i.toNat:=by omega
   rw [e,hj];simp
  ·have J:¬0<=i:=NU J;have e:(i+1).toNat=0:=by omega
   rw [e,Pu];exact h
def sd {w:World}{v:Value}{l:List Tx}(hs:Strs w v l)(hl:l.length<=1099511627776){R:Value->QU}(h:∀v' w',Ex w w'->Own w.heap.size w' v' (bk l)->R v' w'):
  QV 102 #[v] w (ax [.v] R):=by
 refine qj v w R ?_;dsimp only [go_sem];dsimp only [go_sem,Nat.reduceAdd];obtain⟨a,cap,hv⟩:=hs.slice;refine⟨a,l.length,cap,hv,λout x w'=>Ex w w'/\∃k:Nat,x=k/\k<=l.length/\∃m:List Tx,Own w.heap.size w' out m/\m.Pairwise (λa b=>jg a b=true)/\m.Perm (l.take k),λ _ x _=>((l.length:Int) - x).toNat,
  ⟨Ex.refl w,0,rfl,by omega,[],Own.nil _ _,List.Pairwise.nil,by simp⟩,λout x w1 hI=>?_⟩
 obtain⟨δ,k,rfl,hk,m,J,ε,ζ⟩:=hI;refine⟨λhc=>?_,λhc=>?_⟩
 ·have β:k< l.length:=by simpa using hc
  refine hs.get δ (i:=k) (by omega) (x:=l[k]) (by simp [β]) ?_;have ξ:=J.strs;obtain⟨ao,co,ho⟩:=ξ.slice;have hml:m.length=k:=by rw [ζ.length_eq,Og];omega
  refine⟨λj w'=>w1=w'/\0<=j/\j<=m.length/\(∀y∈m.take j.toNat,jg y l[k]=true)/\∀y∈m.drop j.toNat,jg l[k] y=true,?_,?_⟩
  ·refine⟨λj w'=>w1=w'/\0<=j/\j<=m.length/\∀y∈m.take j.toNat,jg y l[k]=true,λj _=>((m.length:Int) - j).toNat,⟨rfl,by omega,by omega,by simp⟩,λj w2 hI=>?_⟩;obtain⟨rfl,H,γ,Z⟩:=hI;refine⟨ao,m.length,co,ho,λθ=>?_,λθ=>?_⟩
   ·have hj:j< m.length:=NZ θ;have ι:j.toNat< m.length:=by omega
    refine ξ.get (Ex.refl w1) (i:=j) H (x:=m[j.toNat]) (Ny ι) ⟨λhle=>?_,λhle=>?_⟩
    ·rw [Hy]at hle;refine⟨by omega,⟨rfl,by omega,by omega,λy G=>?_⟩,by dsimp only;omega⟩;have e:(j+1).toNat=j.toNat+1:=by omega
     rw [e,NG ι]at G;rcases NI.1 G with G | G
     ·exact Z y G
     ·rw [NT.1 G];exact hle
    ·rw [Hy]at hle;refine⟨rfl,H,γ,Z,λy G=>?_⟩;have η:jg l[k] m[j.toNat]=true:=by
      have :=pM l[k] m[j.toNat];rw [hle,PV]at this;exact this
     have hd:=Oq ι;have hp:(m.drop j.toNat).Pairwise (λa b=>jg a b=true):=Ps (List.drop_sublist _ _) ε;rw [hd]at hp G;rcases NV.1 G with rfl | G
     ·exact η
     ·exact gF _ _ _ η ((Pk.1 hp).1 y G)
   ·have hj:¬j< m.length:=NU θ;refine⟨rfl,H,γ,Z,λy G=>?_⟩;rw [Pj (by omega)]at G;cases G
  ·intro j w2 hJ;obtain⟨rfl,H,γ,Z,ο⟩:=hJ;intro b w3 hb ς;have κ:Ex w1 w3:=ς▸Ex.alloc w1 _;have υ:=(J.ex κ).strs;rw [ho]at υ;have φ:m.length<=co:=by
    rcases J.2 with⟨e,h0⟩ | ⟨g,cap,cur,e,_,_,hc,_⟩
    ·rw [ho]at e;injection e with _ e2 _;omega
    ·rw [ho]at e;cases e;exact hc
   refine⟨ao,m.length,co,ho,by omega,H,by omega,?_⟩;refine Own.push (Own.none (B:=w1.heap.size) (ND _) hb ς) κ.size (υ.take H γ) (by simp;omega) λv4 w4 hb4 ho4 _ _=>?_
   have χ:Ex w1 w4:=κ.below hb4;intro b5 w5 hb5 ψ;have μ:Ex w4 w5:=ψ▸Ex.alloc w4 _;refine Own.push (ho4.ex μ) (χ.trans μ).size (Strs.one hb5 ψ) (by simp;omega) λv6 w6 hb6 ho6 _ _=>?_
   have ν:Ex w1 w6:=(χ.trans μ).below hb6;have ω:=(J.ex ν).strs;rw [ho]at ω;refine⟨ao,m.length,co,ho,H,by omega,by omega,?_⟩;refine Own.push ho6 ν.size (ω.drop H γ φ) (by simp;omega) λv7 w7 hb7 ho7 _ _=>?_
   have hx7:Ex w1 w7:=ν.below hb7;refine⟨by omega,⟨δ.trans hx7,k+1,by omega,β,_,ho7.mono δ.size,?_,?_⟩,by dsimp only;omega⟩
   ·simp only [Om];refine PL.2 ⟨PL.2 ⟨Ps (List.take_sublist _ _) ε,List.pairwise_singleton _ _,λx hx y G=>?_⟩,Ps (List.drop_sublist _ _) ε,λx hx y G=>?_⟩
    ·rw [NT.1 G];exact Z x hx
    ·rcases NI.1 hx with hx | hx
     ·exact gF _ _ _ (Z x hx) (ο y G)
     ·rw [NT.1 hx];exact ο y G
   ·simp only [Om];rw [NG β,Oi];refine List.Perm.trans ?_ (ζ.append_right [l[k]]);refine(List.Perm.append_left _ Qo).trans ?_;rw [<-Oi,OL]
 ·have β:k=l.length:=by simp at hc;omega
  subst β;rw [Od]at ζ;rw [<-ud ε ζ]at J;exact h out w1 δ J
section
open Classical
def aO {A B:Type}(R:A->B->Prop)(l:List A)(m:List B):Prop:=l.length=m.length/\∀(i:Nat) (a:A) (b:B),l[i]?=some a->m[i]?=some b->R a b
def aO.nil {A B:Type}{R:A->B->Prop}:aO R [] []:=⟨rfl,λi a b h=>by simp at h⟩
def aO.one {A B:Type}{R:A->B->Prop}{a:A}{b:B}(h:R a b):aO R [a] [b]:=⟨rfl,λi x y G H=>by
 match i,G,H with
 | 0,G,H=>simp at G H;subst G H;exact h
 | i+1,G,H=>simp at G⟩
def aO.append {A B:Type}{R:A->B->Prop}{l G:List A}{m m':List B}(h:aO R l m)(k:aO R G m'):aO R (l++G) (m++m'):=by
 refine⟨by simp [h.1,k.1],λi a b ha hb=>?_⟩;rw [List.getElem?_append]at ha hb;rw [<-h.1]at hb;split at ha
 ·rename_i hi;rw [N' hi]at hb;exact h.2 i a b ha hb
 ·rename_i hi;rw [NS hi]at hb;exact k.2 _ a b ha hb
def aO.mono {A B:Type}{R G:A->B->Prop}{l:List A}{m:List B}(h:aO R l m)(hr:∀a b,a∈l->b∈m->R a b->G a b):aO G l m:=
 ⟨h.1,λi a b ha hb=>hr a b (Py ha) (Py hb) (h.2 i a b ha hb)⟩
structure Den (k:Nat)(p:P)(σ:Nat->Nat)(u:U):Prop where
 wf:p.wf=true
 len:p.text.length<=1099511627776
 bd:Bd k p
 ae:AE UInt8.toNat p σ u
 inj:eQ σ u
 uq:Uq u
def eM (p:P):eQ UInt8.toNat p:=λ _ _ _ _ h=>N6.1 h
def Uq.CB {u:U}(h:Uq u){y:Nat}(G:u.Us y):y∉BV u:=λhb=>h.nf y hb (T.bf G)
def Den.dead {k:Nat}{p:P}{σ:Nat->Nat}{u:U}(d:Den k p σ u):p.dead=u.dead:=d.ae.dead
def Den.peel {k:Nat}{p:P}{σ:Nat->Nat}{u:U}(d:Den k p σ u)(hd:p.dead=false):∃m G,k<=m/\Den m p.peel G u.peel/\(∀y,y∉BV u->G y=σ y)/\m+p.peel.rd+p.peel.ow<=k+p.rd+p.ow:=by
 obtain⟨m,hm,hb,J⟩:=d.bd.peel;obtain⟨G,h1,Z⟩:=d.ae.peel (eM p) d.inj d.uq hd;refine⟨m,G,hm,⟨H3 d.wf,?_,hb,h1,λa b ha hb H=>?_,Ii u d.uq⟩,Z,J⟩
 ·have :=Ei p;have h3:=d.len;rw [T.aP]at*;omega
 ·rw [T.DK]at ha hb;rw [Z a (d.uq.CB ha),Z b (d.uq.CB hb)]at H;exact d.inj a b ha hb H
section
variable {k:Nat} {p q:P} {σ:Nat->Nat} {u v:U}
def Den.sum (d:Den k (.sum p q) σ (.sum u v)):Den k p σ u/\Den k q σ v:=by
 have hw:=d.wf;have H:=d.len;have hb:=d.bd.le;simp only [T.wf,Nz]at hw;simp only [T.text,Nv,NB]at H;have :=T.fK p;have :=T.fK q;simp only [T.pm,T.rd,T.ow]at hb;exact⟨⟨hw.1,by omega,⟨d.bd.eb.1,by omega⟩,d.ae.1,d.inj.sub λx G=> .inl G,d.uq.dO⟩,⟨hw.2,by omega,⟨d.bd.eb.2,by omega⟩,d.ae.2,d.inj.sub λx G=> .inr G,d.uq.dG⟩⟩
def Den.par (d:Den k (.par p q) σ (.par u v)):Den k p σ u/\Den k q σ v:=by
 have hw:=d.wf;have H:=d.len;have hb:=d.bd.le;simp only [T.wf,Nz]at hw;simp only [T.text,Nv,NB]at H;have :=T.fK p;have :=T.fK q;simp only [T.pm,T.rd,T.ow]at hb;exact⟨⟨hw.1,by omega,⟨d.bd.eb.1,by omega⟩,d.ae.1,d.inj.sub λx G=> .inl G,d.uq.fX⟩,⟨hw.2,by omega,⟨d.bd.eb.2,by omega⟩,d.ae.2,d.inj.sub λx G=> .inr G,d.uq.fD⟩⟩
def Den.tau (d:Den k (.tau p) σ (.tau u)):Den k p σ u:=by
 have G:=d.len;simp only [T.text,Nv]at G;exact⟨d.wf,by omega,⟨d.bd.eb,OC (QE (T.fK p) k) d.bd.le⟩,d.ae,d.inj,d.uq.tau⟩
def Den.rep (d:Den k (.rep p) σ (.rep u)):Den k p σ u:=by
 have G:=d.len;simp only [T.text,Nv]at G;exact⟨d.wf,by omega,⟨d.bd.eb,OC (QE (T.fK p) k) d.bd.le⟩,d.ae,d.inj,d.uq.rep⟩
def Den.snd {a b:UInt8}{c e:Nat}(d:Den k (.snd a b p) σ (.snd c e u)):Den k p σ u:=by
 have hw:=d.wf;have G:=d.len;simp only [T.wf,Nz]at hw;simp only [T.text,Nv]at G;exact⟨hw.2,by omega,⟨d.bd.eb.2.2,OC (QE (T.fK p) k) d.bd.le⟩,d.ae.2.2,d.inj.sub λx H=> .inr (.inr H),d.uq.snd⟩
def Den.mat {a b:UInt8}{c e:Nat}(d:Den k (.mat a b p) σ (.mat c e u))(h:p.dead=false):Den k p σ u:=by
 have hw:=d.wf;have J:=d.len;simp only [T.wf,Nz]at hw;simp only [T.text,Nv]at J;have hd:u.dead=false:=by have :=d.ae.2.2.dead;rw [<-this];exact h
 refine⟨hw.2,by omega,⟨d.bd.eb.2.2,OC (QE (T.fK p) k) d.bd.le⟩,d.ae.2.2,d.inj.sub λx G=>?_,d.uq.mat⟩;by_cases H:c=e
 ·exact .inl ⟨H,G⟩
 ·exact .inr ⟨H,hd,.inr (.inr G)⟩
def Den.res {x y:UInt8}{n:Nat}{q:P}(d:Den k (.res x p) σ (.res n u))(hr:eo (k+1) p x y q)(H:¬(T.res x p).Fr y):Den (k+1) q (aG σ n y.toNat) u:=by
 have hb:=d.bd.le;have J:=d.len;have :=T.fK p;simp only [T.pm]at hb;simp only [T.text,Nv]at J;have Z:AE (aG UInt8.toNat x y.toNat) p (aG σ n y.toNat) u:=d.ae y.toNat;refine⟨hr.wf,?_,⟨hr.eb,?_⟩,(hr.ok UInt8.toNat).symm.trans Z,?_,d.uq.res⟩
 ·rw [T.aP,T.gI hr.shp,<-T.aP];omega
 ·rw [T.sC hr.shp];omega
 ·refine .aG (λa b ha hb h1 G h3=>d.inj a b ⟨ha,h1⟩ ⟨hb,G⟩ h3) λz hz hu e=>H ?_
  obtain⟨x',h1,G⟩:=d.ae.symm.free z ⟨hz,T.bf hu⟩;have:x'=y:=N6.1 (G.trans e);exact this▸h1
def Den.rcv {a x y:UInt8}{c n:Nat}{q:P}(d:Den k (.rcv a x p) σ (.rcv c n u))(hr:eo (k+1) p x y q)(G:∀z,u.Us z->z≠n->σ z≠y.toNat):Den (k+1) q (aG σ n y.toNat) u:=by
 have hb:=d.bd.le;have H:=d.len;have :=T.fK p;simp only [T.pm]at hb;simp only [T.text,Nv]at H;have J:AE (aG UInt8.toNat x y.toNat) p (aG σ n y.toNat) u:=d.ae.2 y.toNat;refine⟨hr.wf,?_,⟨hr.eb,?_⟩,(hr.ok UInt8.toNat).symm.trans J,?_,d.uq.rcv⟩
 ·rw [T.aP,T.gI hr.shp,<-T.aP];omega
 ·rw [T.sC hr.shp];omega
 ·exact .aG (λa b ha hb h1 Z h3=>d.inj a b (.inr ⟨ha,h1⟩) (.inr ⟨hb,Z⟩) h3) λz hz hu e=>G z hu hz e
end
def dH:∀u:U,u.dead=true->ak u=[]
 | .nil,_=>rfl
 | .snd ..,h=>by cases h
 | .rcv ..,h=>by cases h
 | .tau ..,h=>by cases h
 | .sum p q,h=>by
  simp only [T.dead,Nz]at h;simp [ak,dH p h.1,dH q h.2]
 | .par p q,h=>by
  simp only [T.dead,Nz]at h;simp [ak,h.1,dH q h.2]
 | .res x p,h=>by
  have hd:p.dead=true:=h;simp [ak,lT hd,Lv.has,dH p hd]
 | .mat a b p,h=>by
  have hd:p.dead=true:=h;simp only [ak,hd,PG,dH p hd];split<;>rfl
 | .rep p,h=>by
  have hd:p.dead=true:=h;simp [ak,hd]
def Ef:∀u:U,Uq u->ak u.peel=ak u:=by
 intro u
 induction u with
 | nil=>intro _;rfl
 | snd=>intro _;rfl
 | rcv=>intro _;rfl
 | tau=>intro _;rfl
 | rep=>intro _;rfl
 | mat a b p G=>
  intro h;unfold T.peel;split
  ·rename_i e;rw [G h.mat];simp [ak,e]
  ·rfl
 | sum p q G H=>
  intro h;unfold T.peel;split
  ·rename_i e;rw [H h.dG];simp [ak,dH p e]
  ·split
   ·rename_i e J;rw [G h.dO];simp [ak,dH q J]
   ·rfl
 | par p q G H=>
  intro h;unfold T.peel;split
  ·rename_i e;rw [H h.fD];simp [ak,e]
  ·split
   ·rename_i e J;rw [G h.fX];simp [ak,e,J]
   ·rfl
 | res x p G=>
  intro h;unfold T.peel;split
  ·rfl
  ·rename_i e;rw [G h.res];have:¬(td p).2.has x=true:=λZ=>e ((fP p x h.fY).1 Z)
   simp [ak,this]
def cQ:∀u:U,(ak u).length<=u.size
 | .nil=>by simp [ak,T.size]
 | .snd .. =>by simp [ak,T.size]
 | .rcv .. =>by simp [ak,T.size]
 | .tau .. =>by simp [ak,T.size]
 | .sum p q=>by have :=cQ p;have :=cQ q;simp only [ak,T.size,NB];omega
 | .par p q=>by
  have :=cQ p;have :=cQ q;simp only [ak,T.size];split
  ·omega
  ·split
   ·omega
   ·simp
 | .res x p=>by
  have :=cQ p;simp only [ak,T.size];split
  ·simp
  ·omega
 | .mat a b p=>by
  have :=cQ p;simp only [ak,T.size];split
  ·omega
  ·split<;>simp
 | .rep p=>by
  simp only [ak,T.size];split<;>simp
def AE.size {p:P}{u:U}{ρ:UInt8->Nat}{σ:Nat->Nat}(h:AE ρ p σ u):p.size=u.size:=by
 induction p generalizing u ρ σ<;>cases u<;>simp only [AE]at h<;>simp only [T.size]
 case snd.snd G _ _ _=>rw [G h.2.2]
 case mat.mat G _ _ _=>rw [G h.2.2]
 case rcv.rcv G _ _ _=>rw [G (h.2 0)]
 case res.res G _ _=>rw [G (h 0)]
 case tau.tau G _=>rw [G h]
 case rep.rep G _=>rw [G h]
 case sum.sum G H _ _=>rw [G h.1,H h.2]
 case par.par G H _ _=>rw [G h.1,H h.2]
def iK:∀(π:List Nat) (ls:List UInt8) (ρ ρ':Rh) (x:Nat),ρ x=ρ' x->asg π ls ρ x=asg π ls ρ' x
 | [],_,_,_,_,h=>by simpa [asg]using h
 | _::_,[],_,_,_,h=>by simpa [asg]using h
 | y::π,c::ls,ρ,ρ',x,h=>by
  rw [asg,asg];refine iK π ls _ _ x ?_;unfold aG;split
  ·rfl
  ·exact h
end
def gl (i:Nat):UInt8:=if i< 26 then UInt8.ofNat (65+i)else UInt8.ofNat (166+i)
def JK (c:UInt8):Prop:=(65<=c.toNat/\c.toNat<=90)\/192<=c.toNat
def ib (n:Nat):Tx:=(List.range n).map gl
def jE {i:Nat}(h:i< 90):(gl i).toNat=if i< 26 then 65+i else 166+i:=by
 unfold gl;split
 ·rw [ON];omega
 ·rw [ON];omega
def xO {i j:Nat}(hi:i< 90)(G:j< 90)(h:gl i=gl j):i=j:=by
 have :=Ot UInt8.toNat h;rw [jE hi,jE G]at this;split at this<;>split at this<;>omega
def yx {i:Nat}(h:i< 90):JK (gl i):=by
 unfold JK;rw [jE h];split<;>omega
def La {i k:Nat}(h:i< 90):okn k (gl i):=by
 unfold okn;rw [jE h];split<;>omega
def L9 {i:Nat}(h:i< 90):nm (gl i)=true:=by
 have e:=jE h;have H:(65:UInt8).toNat=65:=rfl;have J:(90:UInt8).toNat=90:=rfl;have G:(128:UInt8).toNat=128:=rfl;simp only [nm,O',Nz,NL];split at e
 ·left;right;exact⟨NX.2 (by omega),NX.2 (by omega)⟩
 ·right;exact NX.2 (by omega)
def H8 {i:Nat}(h:i+1< 90):(gl i+1=91->gl (i+1)=192)/\(gl i+1≠91->gl (i+1)=gl i+1):=by
 have e:=jE (show i< 90 by omega);have e':=jE h;have J:(gl i+1).toNat=(gl i).toNat+1:=by
  rw [QH];show((gl i).toNat+1) % 256=_;refine Nat.mod_eq_of_lt ?_;rw [e];split<;>omega
 have Z:(91:UInt8).toNat=91:=rfl;have G:(192:UInt8).toNat=192:=rfl;constructor
 ·intro hh;have :=Ot UInt8.toNat hh;rw [J,e,Z]at this;apply N6.1;rw [e',G];split at this<;>split<;>omega
 ·intro hh;have H:(gl i+1).toNat≠91:=λhc=>hh (N6.1 hc)
  rw [J,e]at H;apply N6.1;rw [J,e',e];split at H<;>split<;>(try split)<;>omega
def ig {n:Nat}{c:UInt8}:c∈ib n↔∃j,j< n/\c=gl j:=by
 simp only [ib,Oe,Pg];exact⟨fun⟨j,h1,G⟩=>⟨j,h1,G.symm⟩,fun⟨j,h1,G⟩=>⟨j,h1,G.symm⟩⟩
def zm (n:Nat):ib (n+1)=ib n++[gl n]:=by simp [ib,QJ]
def ie (n:Nat):(ib n).length=n:=by simp [ib]
def asgN:List Nat->Nat->(Nat->Nat)->Nat->Nat
 | [],_,σ=>σ
 | x::l,n,σ=>asgN l (n+1) (aG σ x (gl n).toNat)
def lj:∀(l m:List Nat) (n:Nat) (σ:Nat->Nat),asgN (l++m) n σ=asgN m (n+l.length) (asgN l n σ)
 | [],m,n,σ=>rfl
 | x::l,m,n,σ=>by
  rw [Oz,asgN,asgN,lj l m,Nv]
  congr 1
  omega
def je:∀(l:List Nat) (n:Nat) (σ:Nat->Nat) (y:Nat),y∉l->asgN l n σ y=σ y
 | [],_,_,_,_=>rfl
 | x::l,n,σ,y,h=>by
  simp only [NV,QP]at h;rw [asgN,je l _ _ y h.2,bB _ _ h.1]
def tR:∀(l:List Nat) (n:Nat) (σ τ:Nat->Nat) (y:Nat),σ y=τ y->asgN l n σ y=asgN l n τ y
 | [],_,_,_,_,h=>h
 | x::l,n,σ,τ,y,h=>by
  rw [asgN,asgN];refine tR l _ _ _ y ?_;unfold aG;split
  ·rfl
  ·exact h
def GF (n:Nat)(p:P):Prop:=∀z,p.Fr z->JK z->∃j,j< n/\z=gl j
def dx {x:UInt8}(h:ngr x):¬JK x:=by unfold ngr JK at*;omega
def GF.peel {n k:Nat}{p:P}(h:GF n p)(e:Eb k p):GF n p.peel:=by
 refine(T.ic (λq=>GF n q/\∃k,Eb k q) ?_ ?_ ?_ ?_ p ⟨h,k,e⟩).1
 ·rintro a q ⟨h,k,e⟩
  exact⟨λz G=>h z (.inr (.inr G)),k,e.2.2⟩
 ·rintro q r ⟨h,k,e⟩
  exact⟨⟨λz G=>h z (.inl G),k,e.1⟩,λz G=>h z (.inr G),k,e.2⟩
 ·rintro q r ⟨h,k,e⟩
  exact⟨⟨λz G=>h z (.inl G),k,e.1⟩,λz G=>h z (.inr G),k,e.2⟩
 ·rintro x q _ ⟨h,k,e⟩
  refine⟨λz G H=>?_,k+1,e.2⟩;by_cases J:z=x
  ·exact absurd H (dx (J▸e.1.1))
  ·exact h z ⟨J,G⟩ H
def iB:∀(u:U),∀x∈(aj u).1,x∈BV u:=by
 intro u
 induction u with
 | nil=>intro x h;simp [aj]at h
 | snd=>intro x h;simp [aj]at h
 | rcv=>intro x h;simp [aj]at h
 | tau=>intro x h;simp [aj]at h
 | sum p q G H=>
  intro x h;simp only [aj]at h;split at h
  ·exact N1 _ (H x h)
  ·split at h
   ·exact Ob _ (G x h)
   ·simp at h
 | par p q G H=>
  intro x h;simp only [aj,NI]at h;exact h.elim (λh=>Ob _ (G x h)) (λh=>N1 _ (H x h))
 | res y p G=>
  intro x h;simp only [aj]at h;split at h
  ·rcases NV.1 h with rfl | h
   ·exact Oa ..
   ·exact NJ _ (G x h)
  ·exact NJ _ (G x h)
 | mat a b p G=>
  intro x h;simp only [aj]at h;split at h
  ·exact G x h
  ·split at h<;>simp at h
 | rep p G=>
  intro x h;simp only [aj]at h;split at h<;>simp at h
def ll:∀(u:U),Uq u->∀t∈(aj u).2,∀y,t.Us y->u.Us y\/y∈(aj u).1:=by
 intro u
 induction u with
 | nil=>intro _ t h;simp [aj]at h
 | snd=>intro _ t h;simp [aj]at h;subst h;exact λy G=> .inl G
 | rcv=>intro _ t h;simp [aj]at h;subst h;exact λy G=> .inl G
 | tau=>intro _ t h;simp [aj]at h;subst h;exact λy G=> .inl G
 | sum p q H J=>
  intro hu t h y G;simp only [aj]at h|-;split at h
  ·rename_i e;simp only [e,PG];exact(J hu.dG t h y G).imp .inr id
  ·rename_i e;split at h
   ·rename_i Z;simp only [e,Z,PG];exact(H hu.dO t h y G).imp .inl id
   ·simp at h;subst h;exact .inl G
 | par p q H J=>
  intro hu t h y G;simp only [aj,NI]at h|-;rcases h with h | h
  ·exact(H hu.fX t h y G).imp .inl .inl
  ·exact(J hu.fD t h y G).imp .inr .inr
 | res x p H=>
  intro hu t h y G;have h:t∈(aj p).2:=h;rcases H hu.res t h y G with h1 | h1
  ·by_cases e:y=x
   ·subst e;right;simp only [aj];rw [N' ((fP p y hu.fY).2 h1)];exact Oa ..
   ·exact .inl ⟨e,h1⟩
  ·right;simp only [aj];split
   ·exact NJ _ h1
   ·exact h1
 | mat a b p H=>
  intro hu t h y G;simp only [aj]at h|-;split at h
  ·rename_i e;simp only [e,PG];exact(H hu.mat t h y G).imp (λh=> .inl ⟨rfl,h⟩) id
  ·split at h
   ·simp at h
   ·simp at h;subst h;exact .inl G
 | rep p H=>
  intro hu t h y G;simp only [aj]at h|-;split at h
  ·simp at h
  ·simp at h;subst h;exact .inl G
def Den.ok {k:Nat}{p:P}{σ:Nat->Nat}{u:U}(d:Den k p σ u):Ok p:=⟨d.wf,d.len⟩
def Kk (k K:Nat)(σ:Nat->Nat)(u:U)(p:P)(q:U):Prop:=∃m G,k<=m/\Den m p G q/\(∀y,y∉BV u->G y=σ y)/\m+p.rd+p.ow<=K
def Hk {u:U}(H:u.dc)(hd:u.dead=false)(J:∀p q,u≠ .sum p q)(hu:Uq u):ak u=[u]:=by
 cases u with
 | nil=>cases hd
 | snd=>rfl
 | rcv=>rfl
 | tau=>rfl
 | sum p q=>exact absurd rfl (J p q)
 | par p q=>
  have h1:p.dead=false:=H.1;have G:q.dead=false:=H.2;simp [ak,h1,G]
 | res x p=>
  have:(td p).2.has x=true:=(fP p x hu.fY).2 H;simp [ak,this]
 | mat a b p=>
  have h1:a≠b:=H;have G:p.dead=false:=hd;simp [ak,h1,G]
 | rep p=>
  have G:p.dead=false:=hd;simp [ak,G]
def HW {p:P}{u:U}{ρ:UInt8->Nat}{σ:Nat->Nat}(h:AE ρ p σ u):(∀a b,p≠ .sum a b)↔∀a b,u≠ .sum a b:=by
 cases p<;>cases u<;>simp [AE]at h|-
def wP:∀(n:Nat) {k:Nat} {p:P} {σ:Nat->Nat} {u:U},p.size<=n->Den k p σ u->∀{w:World} {R:Value->QU},
  (∀v w' (ps:List P),Ex w w'->Own w.heap.size w' v (ps.map T.text)->aO (Kk k (k+p.rd+p.ow) σ u) ps (ak u)->(∀x∈ps,∀j,GF j p->GF j x)->R v w')->QV 261 #[.string (ay p.text)] w (ax [.v] R):=by
 intro n
 induction n with
 | zero=>intro k p σ u h;have :=aT p;omega
 | succ n ih=>
  intro k p σ u hn d w R h;refine mR _ w R ?_;dsimp only [go_sem];dsimp only [go_sem,Nat.reduceAdd];refine A7 d.ok λw1 Z H=>?_
  have φ:=T.wv p;have θ:=T.lH p;by_cases hd:p.dead=true
  ·
   have hq:p.peel.dead=true:=by rw [θ];exact hd
   have hs:ak u=[]:=dH u (by rw [<-d.dead];exact hd);have hp:=T.kj p;refine aM H ⟨λhc=>?_,λhc=>?_⟩
   ·exact fH _ (ND _) H λw2 G=>⟨λ _=>h _ w2 [] (Z.trans G) (Own.nil _ _) (by rw [hs];exact aO.nil) (λx h=>(by cases h)),λhh=>absurd hh (by rw [hq];simp)⟩
   ·exfalso;generalize p.peel=q at*;cases q<;>simp [T.kind]at hc
    simp [T.dead,hp.1]at hq
  have hd:p.dead=false:=by simpa using hd
  obtain⟨m,χ,hm,d',ζ,ι⟩:=d.peel hd;have ψ:=T.kj u;rw [<-Ef u d.uq]at h;have ω:u.peel.dead=false:=by rw [T.lH,<-d.dead];exact hd
  have hqd:p.peel.dead=false:=by rw [θ];exact hd
  have κ:∀y,y∉BV u->y∉BV u.peel:=λy hy hb=>hy (Dx u y hb)
  have μ:∀j,GF j p->GF j p.peel:=λj hj=>hj.peel d.bd.eb
  generalize p.peel=q at*;generalize u.peel=v at*;refine aM H ⟨λhc=>?_,λhc=>?_⟩
  ·have hns:∀a b,q≠ .sum a b:=λa b e=>by subst e;simp [T.kind]at hc
   refine fH _ (ND _) H λw2 G=>⟨λhh=>absurd hh (by rw [hqd];simp),λ _=>λb w3 hb J=>?_⟩
   refine h _ w3 [q] ((Z.trans G).trans (J▸Ex.alloc w2 _)) (Own.one (Z.trans G).size hb J) ?_ λx hx j hj=>?_
   ·rw [Hk ψ ω ((HW d'.ae).1 hns) d'.uq];exact aO.one ⟨m,χ,hm,d',ζ,ι⟩
   ·have:x=q:=by simpa using hx
    subst this;exact μ j hj
  ·cases q<;>simp [T.kind]at hc
   rename_i a b;cases v<;>(try exact d'.ae.elim)
   rename_i u1 u2;obtain⟨d1,d2⟩:=d'.sum;simp only [T.size]at φ;simp only [T.rd,T.ow]at ι;refine cG H λvp w2 G β=>?_
   have β:Strs w2 vp [a.text,b.text]:=β;refine⟨λw'=>Ex w2 w',λw3 J=>⟨J▸Ex.drew w2,?_⟩⟩;have γ:Ex w2 w3:=J▸Ex.drew w2;refine β.FO (i:=0) (x:=a.text) (by omega) rfl ?_;refine β.FO (i:=1) (x:=b.text) (by omega) rfl ?_;refine ih (by omega) d1 λv4 w4 ps1 δ ho4 ν hg4=>⟨γ.trans δ,ih (by omega) d2 λv5 w5 ps2 ε ho5 ξ hg5=>⟨(γ.trans δ).trans ε,?_⟩⟩
   have z1:=cQ u1;have z2:=cQ u2;have e1:=d1.ae.size;have e2:=d2.ae.size;have t1:=bg a;have t2:=bg b;have hl:=d'.len;simp only [T.text,Nv,NB]at hl;have l1:=ν.1;have l2:=ξ.1;have hE:Ex w w3:=(Z.trans G).trans γ;refine Own.push (ho4.ex ε) (δ.trans ε).size ho5.strs (by simp only [NH];omega) λv6 w6 hb6 ho6 _ _=>?_
   have ο:Ex w3 w6:=(δ.trans ε).below hb6;refine⟨γ.trans ο,h _ w6 (ps1++ps2) (hE.trans ο) ?_ ?_ λx hx j hj=>?_⟩
   ·rw [Oj];exact ho6.mono hE.size
   ·have ς:∀y,y∉BV u->y∉BV u1:=λy hy hb=>κ y hy (Ob _ hb)
    have υ:∀y,y∉BV u->y∉BV u2:=λy hy hb=>κ y hy (N1 _ hb)
    refine aO.append (ν.mono λx y _ _ ⟨m',η,h1,h2,h3,h4⟩=>⟨m',η,by omega,h2,λz hz=>?_,by omega⟩) (ξ.mono λx y _ _ ⟨m',η,h1,h2,h3,h4⟩=>⟨m',η,by omega,h2,λz hz=>?_,by omega⟩)
    ·rw [h3 z (ς z hz),ζ z hz]
    ·rw [h3 z (υ z hz),ζ z hz]
   ·have hj:=μ j hj;exact(NI.1 hx).elim (λhx=>hg4 x hx j λz hz=>hj z (.inl hz)) (λhx=>hg5 x hx j λz hz=>hj z (.inr hz))
def Ek {s o:Tx}:s≠[]->(o.Perm s↔∃i r,i< s.length/\r.Perm (s.take i++s.drop (i+1))/\o=bt s i::r):=by
 intro H;constructor
 ·intro h;cases o with
  | nil=>exact absurd h.symm.eq_nil H
  | cons c r=>
   obtain⟨i,hi,e⟩:=OG.1 (h.subset (Oa ..));refine⟨i,r,hi,?_,by simp [bt,hi,e]⟩;have G:s.Perm (s[i]::(s.take i++s.drop (i+1))):=by
    conv=>lhs;rw [<-OL i s,Oq hi]
    exact Qd
   rw [e]at G;exact(List.perm_cons c).1 (h.trans G)
 ·rintro⟨i,r,hi,hr,rfl⟩
  have G:s.Perm (s[i]::(s.take i++s.drop (i+1))):=by
   conv=>lhs;rw [<-OL i s,Oq hi]
   exact Qd
  have e:bt s i=s[i]:=by simp [bt,hi]
  rw [e];exact(List.Perm.cons _ hr).trans G.symm
def Cm:∀(n:Nat) {s:Tx},s.length<=n->n<=5->∀{w:World} {R:Value->QU},
  (∀v w' (L:List Tx),Ex w w'->Own w.heap.size w' v L->L.length<=6^s.length->(∀o,o∈L↔o.Perm s)->R v w')->QV 242 #[.string (ay s)] w (ax [.v] R):=by
 intro n
 induction n with
 | zero=>
  intro s hs hn w R h;have:s=[]:=N3 (by omega);subst this;refine iU _ w R ?_;dsimp only [go_sem];refine⟨λ _=>λb w1 hb J=>h _ w1 [[]] (J▸Ex.alloc w _) (Own.one (ND _) hb J) (by simp) λo=>by simp,λhc=>absurd hc (by simp)⟩
 | succ n ih=>
  intro s hs hn w R h;refine iU _ w R ?_;dsimp only [go_sem];dsimp only [go_sem,Nat.reduceAdd];refine⟨λhc=>?_,λhc=>?_⟩
  ·have hc:s=[]:=NZ hc;subst hc;exact λb w1 hb J=>h _ w1 [[]] (J▸Ex.alloc w _) (Own.one (ND _) hb J) (by simp) λo=>by simp
  ·have ξ:s≠[]:=NU hc;have hpos:0< s.length:=PO.2 ξ;intro b cap w1 hb hrow hgr;have hx1:Ex w w1:=sH hgr;have h6:6^(s.length - 1)<=1296:=OC (Nat.pow_le_pow_right (by omega) (by omega:s.length - 1<=4)) (by decide);have h6':6^s.length=6* 6^(s.length - 1):=by
    conv=>lhs;rw [show s.length=(s.length - 1)+1 by omega,Nat.pow_succ]
    omega
   generalize hP:6^(s.length - 1)=P6 at*;refine⟨some ⟨b,0,none⟩,s.length,cap,rfl,λout x w'=>Ex w w'/\∃i:Nat,x=i/\i<=s.length/\∃L:List Tx,Own w.heap.size w' out L/\L.length<=i* P6/\∀o,o∈L↔∃j r,j< i/\r.Perm (s.take j++s.drop (j+1))/\o=bt s j::r,
    λ _ x _=>((s.length:Int) - x).toNat,⟨hx1,0,rfl,by omega,[],Own.nil _ _,by simp,λo=>by simp⟩,λout x w2 hI=>?_⟩
   obtain⟨ο,i,rfl,hi,L,ε,hL2,ς⟩:=hI;refine⟨λζ=>?_,λζ=>?_⟩
   ·have η:i< s.length:=by simpa using ζ
    have ei:((i:Int)+1).toNat=i+1:=by omega
    refine⟨λw'=>True,λw3 hw3=>⟨trivial,by omega,by omega,by omega,by simp only [Og,O3];omega,?_⟩⟩;have υ:Ex w2 w3:=hw3▸Ex.drew w2;rw [ei,NF];have hlen:(s.take i++s.drop (i+1)).length=s.length - 1:=by simp only [NB,Og,O3];omega
    refine ih (by omega) (by omega) λvr w4 M hx4 θ hM2 ι=>⟨trivial,?_⟩
    rw [hlen,hP]at hM2;have φ:=θ.strs;obtain⟨ar,cr,hvr⟩:=φ.slice;have β:=υ.trans hx4;have hE4:Ex w w4:=ο.trans β;refine⟨ar,M.length,cr,hvr,λout y w'=>(Ex w w'/\w4.heap.size<=w'.heap.size/\Strs w' vr M/\∀b,out.ownBlock=some b->vr.ownBlock≠some b)/\∃j:Nat,y=j/\j<=M.length/\Own w.heap.size w' out (L++(M.take j).map (bt s i::·)),λ _ y _=>((M.length:Int) - y).toNat,
     ⟨⟨hE4,ND _,φ,λb hb G=>?_⟩,0,rfl,by omega,by simpa using ε.ex β⟩,λout2 y w5 hI=>?_⟩
    ·have h1:=(ε.block b hb).2;have h2:=(θ.block b G).1;have h3:=υ.size;omega
    obtain⟨⟨χ,hsz5,γ,δ⟩,j,rfl,hj,κ⟩:=hI;have hmul:i* P6+P6<=6480:=by
     have:i* P6<=4* 1296:=QL (by omega) h6;omega
    refine⟨λμ=>?_,λμ=>?_⟩
    ·have H:j< M.length:=by simpa using μ
     refine γ.get (Ex.refl w5) (i:=j) (by omega) (x:=M[j]) (by simp [H]) ⟨by omega,by omega,?_,λb6 w6 hb6 ν=>?_⟩
     ·have :=(ι M[j]).1 (NO H);have h7:=this.length_eq;simp only [O3,Og,ei,NF];omega
     ·have ψ:=wI (s:=s) (i:=(i:Int)) (by omega) (by omega);rw [ei,NF]at ψ;rw [ψ]at ν;have Z:Ex w5 w6:=ν▸Ex.alloc w5 _;have ω:Ex w w6:=χ.trans Z;refine Own.push (κ.ex Z) ω.size (Strs.one hb6 ν) (by simp only [NB,NH,Og,Nv,NR];omega) λv7 w7 hb7 ho7 hg7 hw7=>?_
      have hE7:Ex w w7:=ω.below hb7;have hs7:Strs w7 vr M:=(γ.ex Z).grown hg7 λb hb G=>δ b G hb
      refine⟨by omega,⟨⟨hE7,?_,hs7,λb hb G=>?_⟩,j+1,by omega,H,?_⟩,by dsimp only;omega⟩
      ·have :=Z.size;have :=hb7.size;omega
      ·rcases hw7 b hb with h | h
       ·exact δ b h G
       ·have h2:=(θ.block b G).2;have :=Z.size;omega
      ·have e:L++(M.take (j+1)).map (bt s i::·)=(L++(M.take j).map (bt s i::·))++[[bt s i]++M[j]]:=by
        rw [NG H,Oj,Oi];rfl
       rw [e];exact ho7
    ·have H:j=M.length:=by simp at μ;omega
     subst H;rw [Od]at κ;refine⟨by omega,⟨χ,i+1,by omega,η,_,κ,?_,λo=>?_⟩,by dsimp only;omega⟩
     ·rw [NB,NH,Nat.add_mul];omega
     ·rw [NI,ς,Oe];constructor
      ·rintro(⟨j,r,h1,h2,h3⟩ | ⟨r,hr,rfl⟩)
       ·exact⟨j,r,by omega,h2,h3⟩
       ·exact⟨i,r,by omega,(ι r).1 hr,rfl⟩
      ·rintro⟨j,r,h1,h2,rfl⟩
       by_cases e:j=i
       ·subst e;exact .inr ⟨r,(ι r).2 h2,rfl⟩
       ·exact .inl ⟨j,r,by omega,h2,rfl⟩
   ·have η:i=s.length:=by simp at ζ;omega
    subst η;refine h out w2 L ο ε ?_ λo=>?_
    ·have:s.length* P6<=6* P6:=Nat.mul_le_mul_right _ (by omega);omega
    ·rw [ς,Ek ξ]
structure Kp (w w':World)(S:Nat->Prop):Prop where
 os:w'.os=w.os
 tape:w'.tape=w.tape
 output:w'.output=w.output
 size:w.heap.size<=w'.heap.size
 block:∀g,g< w.heap.size->¬S g->w'.heap[g]?=w.heap[g]?
def Kp.ah {w w':World}(h:Ex w w')(S:Nat->Prop):Kp w w' S:=⟨h.os,h.tape,h.output,h.size,λg G _=>h.block g G⟩
def Kp.trans {a b c:World}{S T:Nat->Prop}(h:Kp a b S)(k:Kp b c T)(J:∀g,g< a.heap.size->T g->S g):Kp a c S:=
 ⟨k.os.trans h.os,k.tape.trans h.tape,k.output.trans h.output,OC h.size k.size,λg G H=>
  (k.block g (N0 G h.size) λZ=>H (J g G Z)).trans (h.block g G H)⟩
def Kp.below {w w':World}{S:Nat->Prop}{B:Nat}(h:Kp w w' S)(hB:B<=w.heap.size)(G:∀g,g< B->¬S g):Below B w w':=
 ⟨h.os,h.tape,h.output,h.size,λg H=>h.block g (by omega) (G g H)⟩
def Strs.kp {w w':World}{v:Value}{l:List Tx}{S:Nat->Prop}(h:Strs w v l)(k:Kp w w' S)(H:∀b off n cap,v= .slice (some ⟨b,off,none⟩) n cap->¬S b):Strs w' v l:=by
 rcases h with h | ⟨b,off,cap,h1,G,J⟩
 ·exact .inl h
 ·refine .inr ⟨b,off,cap,h1,N0 G k.size,λi x Z=>?_⟩;rw [Nw (w:=w) (k.block b G (H b off _ cap h1))];exact J i x Z
structure GL (B:Nat)(w:World)(b:Nat)(f:Tx)(v:Value)(L:List Tx):Prop where
 lt:b< w.heap.size
 base:B<=b
 c0:w.cell? ⟨b,0,none⟩=some (sv f)
 c1:w.cell? ⟨b,1,none⟩=some v
 own:Own B w v L
 ne:v.ownBlock≠some b
 f0:w.frozen? ⟨b,0,none⟩=false
 f1:w.frozen? ⟨b,1,none⟩=false
def gS (b:Nat)(v:Value)(g:Nat):Prop:=g=b\/v.ownBlock=some g
def GL.ex {B:Nat}{w w':World}{b:Nat}{f:Tx}{v:Value}{L:List Tx}(h:GL B w b f v L)(k:Ex w w'):GL B w' b f v L:=
 ⟨N0 h.lt k.size,h.base,by rw [k.cell h.lt];exact h.c0,by rw [k.cell h.lt];exact h.c1,h.own.ex k,h.ne,by rw [Pw k h.lt];exact h.f0,by rw [Pw k h.lt];exact h.f1⟩
def IC (k:Nat)(σ:Nat->Nat)(u:U)(j:Nat)(p:P)(t:U):Prop:=
 ∃m τ,k<=m/\Den m p τ t/\(∀y,t.Us y->τ y=asgN (aj u).1 j σ y)/\GF (j+(aj u).1.length) p
def wB:∀(l:List Nat) (n:Nat) (σ τ:Nat->Nat) (y:Nat),(y∈l\/σ y=τ y)->asgN l n σ y=asgN l n τ y
 | [],_,_,_,_,h=>by simpa [asgN]using h
 | x::l,n,σ,τ,y,h=>by
  rw [asgN,asgN];refine wB l _ _ _ y ?_;by_cases e:y=x
  ·right;subst e;simp [aG]
  ·rcases h with h | h
   ·exact .inl ((NV.1 h).resolve_left e)
   ·right;simp [aG,e,h]
def F7 {u:U}(H:u.dc)(hd:u.dead=false)(h1:∀p q,u≠ .par p q)(G:∀x p,u≠ .res x p):aj u=([],[u]):=by
 cases u with
 | nil=>cases hd
 | snd=>rfl
 | rcv=>rfl
 | tau=>rfl
 | par p q=>exact absurd rfl (h1 p q)
 | res x p=>exact absurd rfl (G x p)
 | sum p q=>
  have h1:p.dead=false:=H.1;have G:q.dead=false:=H.2;simp [aj,h1,G]
 | mat a b p=>
  have h1:a≠b:=H;have G:p.dead=false:=hd;simp [aj,h1,G]
 | rep p=>
  have G:p.dead=false:=hd;simp [aj,G]
def GL.Hp {B:Nat}{w:World}{b:Nat}{f:Tx}{v:Value}{L:List Tx}(h:GL B w b f v L)(g:Tx):GL B (w.setCell ⟨b,0,none⟩ (sv g)) b g v L:=by
 have hk:∀n,n≠b->(w.setCell ⟨b,0,none⟩ (sv g)).heap[n]?=w.heap[n]?:=λn G=>P1 _ _ _ _ G
 refine⟨by rw [Of];exact h.lt,h.base,NW _ _ _ h.c0,?_,⟨h.own.1,?_⟩,h.ne,by rw [NY];exact h.f0,by rw [NY];exact h.f1⟩
 ·rw [NC _ _ _ _ (by simp)];exact h.c1
 ·rcases h.own.2 with G | ⟨H,cap,cur,e,hb,J,rest⟩
  ·exact .inl G
  ·refine .inr ⟨H,cap,cur,e,hb,?_,rest⟩;rw [hk H λZ=>h.ne (by rw [e,<-Z];rfl)];exact J
def GL.Bo {B:Nat}{w w':World}{b:Nat}{f:Tx}{v v':Value}{L Z:List Tx}(h:GL B w b f v L)(hg:w.grownBy w' v.ownBlock)(ho:Own B w' v' Z)(G:v'.ownBlock≠some b):
  GL B (w'.setCell ⟨b,1,none⟩ v') b f v' Z/\((∃u,w'.cell? ⟨b,1,none⟩=some u)/\w'.frozen? ⟨b,1,none⟩=false):=by
 have hb:w'.heap[b]?=w.heap[b]?:=hg.block b h.lt λe=>h.ne e.symm
 have e0:w'.cell? ⟨b,0,none⟩=some (sv f):=by rw [Nw (w:=w) hb];exact h.c0
 have e1:w'.cell? ⟨b,1,none⟩=some v:=by rw [Nw (w:=w) hb];exact h.c1
 have z0:w'.frozen? ⟨b,0,none⟩=false:=by rw [N5 (w:=w) hb];exact h.f0
 have z1:w'.frozen? ⟨b,1,none⟩=false:=by rw [N5 (w:=w) hb];exact h.f1
 have hk:∀n,n≠b->(w'.setCell ⟨b,1,none⟩ v').heap[n]?=w'.heap[n]?:=λn H=>P1 _ _ _ _ H
 refine⟨⟨by rw [Of];exact N0 h.lt hg.size,h.base,?_,NW _ _ _ e1,⟨ho.1,?_⟩,G,by rw [NY];exact z0,by rw [NY];exact z1⟩,⟨⟨_,e1⟩,z1⟩⟩
 ·rw [NC _ _ _ _ (by simp)];exact e0
 ·rcases ho.2 with H | ⟨g',cap,cur,e,hb,J,rest⟩
  ·exact .inl H
  ·refine .inr ⟨g',cap,cur,e,hb,?_,rest⟩;rw [hk g' λhh=>G (by rw [e,<-hh];rfl)];exact J
def Kp.set {w w':World}{S:Nat->Prop}(h:Kp w w' S){b i:Nat}(hb:S b)(v:Value):Kp w (w'.setCell ⟨b,i,none⟩ v) S:=
 ⟨h.os,h.tape,h.output,by rw [Of];exact h.size,λg H G=>(P1 _ _ _ _ (show g≠b from λe=>G (by rw [e];exact hb))).trans (h.block g H G)⟩
def Kp.grown {w w1 w':World}{S:Nat->Prop}(h:Kp w w1 S){row:Option Nat}(H:w1.grownBy w' row)(hr:∀g,row=some g->g< w.heap.size->S g):Kp w w' S:=
 ⟨H.os.trans h.os,H.tape.trans h.tape,H.output.trans h.output,OC h.size H.size,λg G J=>
  (H.block g (N0 G h.size) (λe=>J (hr g e.symm G))).trans (h.block g G J)⟩
def fI:∀u:U,(aj u).2.length<=u.size
 | .nil=>by simp [aj]
 | .snd .. =>by simp [aj,T.size]
 | .rcv .. =>by simp [aj,T.size]
 | .tau .. =>by simp [aj,T.size]
 | .sum p q=>by
  have :=fI p;have :=fI q;simp only [aj,T.size];split
  ·omega
  ·split
   ·omega
   ·simp
 | .par p q=>by have :=fI p;have :=fI q;simp only [aj,T.size,NB];omega
 | .res x p=>by have :=fI p;simp only [aj,T.size];omega
 | .mat a b p=>by
  have :=fI p;simp only [aj,T.size];split
  ·omega
  ·split<;>simp
 | .rep p=>by
  simp only [aj,T.size];split<;>simp
def iC:∀u:U,(aj u).1.length<=u.ow
 | .nil=>by simp [aj]
 | .snd .. =>by simp [aj]
 | .rcv .. =>by simp [aj]
 | .tau .. =>by simp [aj]
 | .sum p q=>by
  have :=iC p;have :=iC q;simp only [aj,T.ow];split
  ·omega
  ·split
   ·omega
   ·simp
 | .par p q=>by have :=iC p;have :=iC q;simp only [aj,T.ow,NB];omega
 | .res x p=>by
  have :=iC p;simp only [aj,T.ow];split
  ·simp only [Nv];omega
  ·omega
 | .mat a b p=>by
  have :=iC p;simp only [aj,T.ow];split
  ·omega
  ·split<;>simp
 | .rep p=>by
  simp only [aj,T.ow];split<;>simp
def nM {p:P}{u:U}{ρ:UInt8->Nat}{σ:Nat->Nat}(h:AE ρ p σ u):u.ow=p.ow:=by
 induction p generalizing u ρ σ<;>cases u<;>simp only [AE]at h<;>simp only [T.ow]
 case snd.snd G _ _ _=>exact G h.2.2
 case mat.mat G _ _ _=>exact G h.2.2
 case rcv.rcv G _ _ _=>exact G (h.2 0)
 case res.res G _ _=>rw [G (h 0)]
 case tau.tau G _=>exact G h
 case rep.rep G _=>exact G h
 case sum.sum G H _ _=>rw [G h.1,H h.2]
 case par.par G H _ _=>rw [G h.1,H h.2]
def Hf:∀(n:Nat) {k:Nat} {p:P} {σ:Nat->Nat} {u:U} {j:Nat},p.size<=n->Den k p σ u->GF j p->j+p.ow<=64->
  ∀{B b:Nat} {v:Value} {L:List Tx} {w:World} {R:QU},GL B w b (ib j) v L->L.length+p.size<=1099511627776->
  (∀w' v' (ps:List P),Kp w w' (gS b v)->(∀g,v'.ownBlock=some g->v.ownBlock=some g\/w.heap.size<=g)->GL B w' b (ib (j+(aj u).1.length)) v' (L++ps.map T.text)->aO (IC k σ u j) ps (aj u).2->R w')->
  QV 241 #[.pointer (some ⟨b,0,none⟩),.string (ay p.text)] w (ax [] R):=by
 intro n
 induction n with
 | zero=>intro k p σ u j h;have :=aT p;omega
 | succ n ih=>
  intro k p σ u j hn d hgf how B b v L w R δ hL h;refine jN _ _ w R ?_;dsimp only [go_sem];dsimp only [go_sem,Nat.reduceAdd];refine A7 d.ok λw1 hx1 υ=>?_
  have hsz:=T.wv p;have hdd:=T.lH p;refine fH _ (ND _) υ λw2 hx2=>⟨λhd=>?_,λhd=>?_⟩
  ·have hx:Ex w w2:=hx1.trans hx2;have J:=cO u d.uq (by rw [<-d.dead,<-hdd];exact hd);rw [J]at h;exact h w2 v [] (Kp.ah hx _) (λg J=> .inl J) (by simpa using δ.ex hx) aO.nil
  have hpd:p.dead=false:=by rw [<-hdd];exact hd
  obtain⟨m,φ,hm,d',hσ,hlo⟩:=d.peel hpd;clear hlo;have ζ:GF j p.peel:=hgf.peel d.bd.eb;have how':j+p.peel.ow<=64:=by have :=T.Iq p;omega
  have hpu:=T.kj u;have hud:u.peel.dead=false:=by rw [T.lH,<-d.dead];exact hpd
  have hbv:∀y,y∉BV u->y∉BV u.peel:=λy hy hb=>hy (Dx u y hb)
  have χ:=d'.uq;have h:∀w' v' (ps:List P),Kp w w' (gS b v)->(∀g,v'.ownBlock=some g->v.ownBlock=some g\/w.heap.size<=g)->GL B w' b (ib (j+(aj u.peel).1.length)) v' (L++ps.map T.text)->aO (IC m φ u.peel j) ps (aj u.peel).2->R w':=by
   intro w' v' ps h1 h2 h3 h4;have hus:=ll u.peel χ;rw [pa u d.uq]at h3;have hmem:∀t∈(aj u.peel).2,∀y,t.Us y->asgN (aj u.peel).1 j φ y=asgN (aj u.peel).1 j σ y:=by
    intro t ht y hy;refine wB _ _ _ _ _ ?_;rcases hus t ht y hy with hh | hh
    ·right;rw [T.DK]at hh;exact hσ y (d.uq.CB hh)
    ·exact .inl hh
   have h4':aO (IC k σ u j) ps (aj u.peel).2:=h4.mono λa t _ ht ⟨m',τ,q1,q2,q3,q4⟩=>⟨m',τ,by omega,q2,λy hy=>by rw [q3 y hy,hmem t ht y hy,pa u d.uq],by rw [pa u d.uq]at q4;exact q4⟩
   rw [pa u d.uq]at h4';exact h w' v' ps h1 h2 h3 h4'
  generalize p.peel=q at*;generalize u.peel=t at*;have γ:Ex w w2:=hx1.trans hx2;have η:=δ.ex γ;have thread:(∀a b,q≠ .par a b)->(∀x a,q≠ .res x a)->True:=λ _ _=>trivial
  refine aM υ ⟨λhc=>?_,λhc=>⟨λhc2=>?_,λhc2=>?_⟩⟩
  ·
   cases q<;>simp [T.kind]at hc
   rename_i a c;cases t<;>(try exact d'.ae.elim)
   rename_i Z u2;obtain⟨d1,d2⟩:=d'.par;simp only [T.size]at hsz;simp only [T.ow]at how';have z1:=d1.ae.size;have z2:=d2.ae.size;refine pN υ λvp w3 β ω hfr=>?_
   have ω:Strs w3 vp [a.text,c.text]:=ω;have H:=η.ex β;have ο:Ex w w3:=γ.trans β;refine ω.get (Ex.refl w3) (i:=0) (x:=a.text) (by omega) rfl ?_;refine ih (by omega) d1 (λz hz=>ζ z (.inl hz)) (by omega) H (by omega) λw4 v4 ps1 hk4 hv4 hGL4 ha4=>?_
   have hs4:Strs w4 vp [a.text,c.text]:=ω.kp hk4 λbp off n' cap e hS=>by
    have hb:=hfr bp (by rw [e];rfl);rcases hS with rfl | hS
    ·have :=η.lt;omega
    ·have :=(δ.own.block bp hS).2;have :=γ.size;omega
   refine hs4.get (Ex.refl w4) (i:=1) (x:=c.text) (by omega) rfl ?_;have l1:=ha4.1;have g1:(aj Z).2.length<=Z.size:=fI Z;have o1:(aj Z).1.length<=a.ow:=by rw [<-nM d1.ae];exact iC Z
   refine ih (by omega) d2 (λz hz J=>?_) (by omega) hGL4 (by simp only [NB,NH];omega) λw5 v5 ps2 hk5 hv5 θ ha5=>?_
   ·obtain⟨i,hi,e⟩:=ζ z (.inr hz) J;exact⟨i,by omega,e⟩
   ·have hv45:∀g,v5.ownBlock=some g->v.ownBlock=some g\/w.heap.size<=g:=by
     intro g J;rcases hv5 g J with h1 | h1
     ·rcases hv4 g h1 with h2 | h2
      ·exact .inl h2
      ·right;have :=ο.size;omega
     ·right;have :=ο.size;have :=hk4.size;omega
    refine h w5 v5 (ps1++ps2) ?_ hv45 ?_ ?_
    ·refine Kp.trans (Kp.trans (Kp.ah ο (gS b v)) hk4 λg _ J=>J) hk5 λg J hS=>?_
     rcases hS with h1 | h1
     ·exact .inl h1
     ·rcases hv4 g h1 with h2 | h2
      ·exact .inr h2
      ·have :=ο.size;omega
    ·have e1:(aj (T.par Z u2)).1.length=(aj Z).1.length+(aj u2).1.length:=by simp [aj]
     rw [e1,<-PB,Oj,<-Oi];exact θ
    ·have hnd:=Oc.1 χ.nd;have hus1:=ll Z d1.uq;have hus2:=ll u2 d2.uq;refine aO.append (ha4.mono λx y _ hy ⟨m',τ,q1,q2,q3,q4⟩=>⟨m',τ,q1,q2,λz hz=>?_,λz hz J=>?_⟩) (ha5.mono λx y _ hy ⟨m',τ,q1,q2,q3,q4⟩=>⟨m',τ,q1,q2,λz hz=>?_,λz hz J=>?_⟩)
     ·have hno:z∉(aj u2).1:=λhin=>by
       have hb2:=iB u2 z hin;rcases hus1 y hy z hz with h1 | h1
       ·exact χ.nf z (N1 _ hb2) (.inl (T.bf h1))
       ·exact hnd.2.2 z (iB Z z h1) z hb2 rfl
      show τ z=asgN ((aj Z).1++(aj u2).1) j φ z;rw [lj,je _ _ _ _ hno];exact q3 z hz
     ·obtain⟨i,hi,e⟩:=q4 z hz J;have e1:(aj (T.par Z u2)).1.length=(aj Z).1.length+(aj u2).1.length:=by simp [aj]
      exact⟨i,by omega,e⟩
     ·have hno:z∉(aj Z).1:=λhin=>by
       have hb1:=iB Z z hin;rcases hus2 y hy z hz with h1 | h1
       ·exact χ.nf z (Ob _ hb1) (.inr (T.bf h1))
       ·exact hnd.2.2 z hb1 z (iB u2 z h1) rfl
      show τ z=asgN ((aj Z).1++(aj u2).1) j φ z;rw [lj,q3 z hz];exact tR _ _ _ _ _ (je _ _ _ _ hno).symm
     ·obtain⟨i,hi,e⟩:=q4 z hz J;have e1:(aj (T.par Z u2)).1.length=(aj Z).1.length+(aj u2).1.length:=by simp [aj]
      exact⟨i,by omega,e⟩
  ·cases q<;>simp [T.kind]at hc2
   rename_i x a;cases t<;>(try exact d'.ae.elim)
   rename_i y Z;have hne:T.res x a≠ .nil:=λe=>by cases e
   have hj:j< 90:=by omega
   have oka:=υ.parts a (by simp [T.parts]);refine⟨λc w'=>Ex w2 w'/\∃i:Nat,i<=j/\c=gl i,λc _=>256 - c.toNat,⟨Ex.refl _,0,by omega,rfl⟩,λc w3 hI=>?_⟩;obtain⟨β,i,hi,rfl⟩:=hI;have H:=η.ex β;have next:∀w',Ex w2 w'->i< j->((decide (gl i+1=91))=true->(Ex w2 w'/\∃i':Nat,i'<=j/\(192:UInt8)=gl i')/\256 - (192:UInt8).toNat< 256 - (gl i).toNat)/\((decide (gl i+1=91))=false->(Ex w2 w'/\∃i':Nat,i'<=j/\gl i+1=gl i')/\256 - (gl i+1).toNat< 256 - (gl i).toNat):=by
    intro w' hx' hij;obtain⟨n1,n2⟩:=H8 (i:=i) (by omega);have e1:=jE (show i< 90 by omega);have e2:=jE (show i+1< 90 by omega);refine⟨λhc=>?_,λhc=>?_⟩
    ·have hc:=NZ hc;refine⟨⟨hx',i+1,by omega,(n1 hc).symm⟩,?_⟩;rw [<-n1 hc,e2,e1];split<;>split<;>omega
    ·have hc:=NU hc;refine⟨⟨hx',i+1,by omega,(n2 hc).symm⟩,?_⟩;rw [<-n2 hc,e2,e1];split<;>split<;>omega
   refine⟨b,0,rfl,ib j,H.c0,fg (by rw [ie];omega) ⟨λhq=>?_,λhq=>?_⟩⟩
   ·have hq:¬gl i∈ib j:=NU hq;have hij:i=j:=by
     rcases Pb i j with h1 | h1
     ·exact absurd (ig.2 ⟨i,h1,rfl⟩) hq
     ·omega
    subst hij;refine gY _ (ND _) υ λs w4 hx4 hs4 hm4=>fg (by have :=hs4.bound;omega) ⟨λκ=>?_,λκ=>?_⟩
    ·have κ:gl i∈s:=NZ κ;obtain⟨i',h1,h2⟩:=ζ _ ((hm4 _).1 κ) (yx hj);exact absurd (xO hj (by omega) h2) (by omega)
    ·have κ:¬(T.res x a).Fr (gl i):=by rw [<-hm4];exact NU κ
     have hx24:Ex w2 w4:=β.trans hx4;have ς:Ex w w4:=γ.trans hx24;have fin:∀w5 w6,Ex w4 w5->w6=w5.setCell ⟨b,0,none⟩ (.string (ay (ib i++[gl i])))->Kp w w6 (gS b v)/\GL B w6 b (ib (i+1)) v L:=by
      rintro w5 w6 ε rfl
      refine⟨Kp.set (Kp.ah (ς.trans ε) _) (.inl rfl) _,?_⟩;rw [zm];exact(δ.ex (ς.trans ε)).Hp _
     refine⟨λw'=>Kp w w' (gS b v)/\GL B w' b (ib (i+1)) v L,⟨λ _=>True,λw5 μ=>⟨trivial,b,0,rfl,?_,λb6 w6 hb6 ν=>⟨trivial,?_,?_⟩⟩⟩,λw6 hJ=>?_⟩
     ·have ε:Ex w4 w5:=μ▸Ex.drew w4;have θ:=(δ.ex (ς.trans ε))
      refine⟨ib i,θ.c0,trivial,λb6 w6 hb6 ν=>⟨trivial,b6,0,1,1,[gl i],rfl,rfl,kh _ hb6 ν,trivial,by rw [ie];simp;omega,?_⟩⟩;have ι:Ex w4 w6:=ε.trans (ν▸Ex.alloc w5 _);have G:=δ.ex (ς.trans ι);exact⟨b,0,rfl,⟨⟨_,G.c0⟩,G.f0⟩,λw7 ξ=>⟨trivial,fin w6 w7 ι ξ⟩⟩
     ·have ε:Ex w4 w5:=μ▸Ex.drew w4;have ι:Ex w4 w6:=ε.trans (ν▸Ex.alloc w5 _);have G:=δ.ex (ς.trans ι);refine⟨ib i,G.c0,trivial,b6,0,1,1,[gl i],rfl,rfl,kh _ hb6 ν,trivial,by rw [ie];simp;omega,?_⟩;exact⟨b,0,rfl,⟨⟨_,G.c0⟩,G.f0⟩,λw7 ξ=>⟨trivial,fin w6 w7 ι ξ⟩⟩
     ·have ε:Ex w4 w5:=μ▸Ex.drew w4;have ι:Ex w4 w6:=ε.trans (ν▸Ex.alloc w5 _);have G:=δ.ex (ς.trans ι);refine⟨b6,0,1,1,[gl i],rfl,rfl,kh _ hb6 ν,trivial,ib i,G.c0,trivial,by rw [ie];simp;omega,?_⟩;exact⟨b,0,rfl,⟨⟨_,G.c0⟩,G.f0⟩,λw7 ξ=>⟨trivial,fin w6 w7 ι ξ⟩⟩
     ·obtain⟨hk6,G⟩:=hJ;refine⟨λ _=>True,λw7 ξ=>⟨trivial,by simp only [T.text,Nv];omega,by simp only [T.text,Nv];omega,?_⟩⟩;have hx7:Ex w6 w7:=ξ▸Ex.drew w6;have hle:=d'.bd.le;simp only [T.pm]at hle;simp only [T.ow]at how';simp only [T.size]at hsz;have hbda:=T.tD a;refine gW _ (ND _) oka d'.bd.eb.2 (by omega) (L9 hj) (La hj) λq' w8 hx8 hq'=>⟨trivial,?_⟩
      have dr:=d'.res hq' κ;have hsz':=T.oA hq'.shp;have how2:=T.Fs hq'.shp;have ψ:=hx7.trans hx8;refine ih (by omega) dr (λz hz J=>?_) (by omega) (G.ex ψ) (by omega) λw9 v9 ps hk9 hv9 hGL9 ha9=>⟨trivial,?_⟩
      ·rcases hq'.ok.free z hz with h1 | h1 | h1
       ·exact⟨i,by omega,h1⟩
       ·obtain⟨i',h2,h3⟩:=ζ z ⟨h1.1,h1.2⟩ J;exact⟨i',by omega,h3⟩
       ·exact absurd J (dx (h1.1▸d'.bd.eb.1.1))
      ·have hus:(td Z).2.has y=true:=(fP Z y χ.fY).2 hpu;have e1:(aj (T.res y Z)).1=y::(aj Z).1:=by simp [aj,hus]
       have sz6:=hk6.size;refine h w9 v9 ps ?_ ?_ ?_ ?_
       ·exact Kp.trans hk6 (Kp.trans (Kp.ah ψ (gS b v)) hk9 λg _ hS=>hS) λg _ hS=>hS
       ·intro g J;rcases hv9 g J with h1 | h1
        ·exact .inl h1
        ·right;have :=ψ.size;omega
       ·rw [e1,Nv];have e2:i+((aj Z).1.length+1)=i+1+(aj Z).1.length:=by omega
        rw [e2];exact hGL9
       ·refine ha9.mono λp' t' _ _ ⟨m',τ,q1,q2,q3,q4⟩=>⟨m',τ,by omega,q2,λz hz=>?_,λz hz J=>?_⟩
        ·rw [e1,asgN];exact q3 z hz
        ·obtain⟨i',h2,h3⟩:=q4 z hz J;exact⟨i',by rw [e1,Nv];omega,h3⟩
   ·have hq:gl i∈ib j:=NZ hq;obtain⟨i',h1,h2⟩:=ig.1 hq;have hij:i< j:=by rw [xO (by omega) (by omega) h2];exact h1
    exact next w3 β hij
  ·
   have hnp:∀a c,t≠ .par a c:=λa c e=>by
    subst e;cases q<;>first | exact d'.ae.elim | simp [T.kind]at hc
   have hnr:∀x a,t≠ .res x a:=λx a e=>by
    subst e;cases q<;>first | exact d'.ae.elim | simp [T.kind]at hc2
   have J:=F7 hpu hud hnp hnr;have hlen:L.length+1<=1099511627776:=by have :=aT p;omega
   refine⟨b,0,rfl,v,η.c1,λb3 w3 hb3 hw3=>?_⟩;have β:Ex w2 w3:=hw3▸Ex.alloc w2 _;have H:=η.ex β;refine Own.push H.own (OC H.base (Nat.le_of_lt H.lt)) (Strs.one hb3 hw3) (by simpa using hlen) λv4 w4 hb4 ho4 hg4 hw4=>?_
   have hne:v4.ownBlock≠some b:=λe=>by
    rcases hw4 b e with h1 | h1
    ·exact δ.ne h1
    ·have :=H.lt;omega
   obtain⟨θ,hcell⟩:=H.Bo hg4 ho4 hne;refine⟨b,0,rfl,?_,hcell,λw5 μ=>?_⟩
   ·rcases ho4.2 with⟨rfl,_⟩ | ⟨_,_,_,rfl,_⟩<;>rfl
   ·have μ:w5=w4.setCell ⟨b,1,none⟩ v4:=μ;subst μ;refine h _ v4 [q] ?_ ?_ ?_ ?_
    ·refine Kp.set (Kp.grown (Kp.ah (γ.trans β) _) hg4 λg hg' _=> .inr hg') (.inl rfl) _
    ·intro g hg';rcases hw4 g hg' with h1 | h1
     ·exact .inl h1
     ·right;have :=(γ.trans β).size;omega
    ·rw [J];exact θ
    ·rw [J];refine aO.one ⟨m,φ,ND _,d',λy _=>by rw [J];rfl,by rw [J];exact ζ⟩
def jO (l:List U):Nat:=(l.map T.aK).sum+3* l.length
def qH (l m:List U):jO (l++m)=jO l+jO m:=by simp [jO];omega
def iN:jO []=0:=rfl
def cn (u:U):jO [u]=u.aK+3:=by simp [jO]
def zO (u:U):1<=u.aK:=by cases u<;>simp only [T.aK]<;>omega
def fJ:∀u:U,jO (aj u).2+3* (aj u).1.length<=u.aK+3
 | .nil=>by simp [aj,iN]
 | .snd .. =>by simp [aj,cn]
 | .rcv .. =>by simp [aj,cn]
 | .tau .. =>by simp [aj,cn]
 | .sum p q=>by
  have :=fJ p;have :=fJ q;simp only [aj,T.aK];split
  ·omega
  ·split
   ·omega
   ·simp [cn,T.aK]
 | .par p q=>by
  have :=fJ p;have :=fJ q;simp only [aj,T.aK,qH,NB];omega
 | .res x p=>by
  have :=fJ p;simp only [aj,T.aK];split
  ·simp only [Nv];omega
  ·omega
 | .mat a b p=>by
  have :=fJ p;simp only [aj,T.aK];split
  ·omega
  ·split
   ·simp [iN]
   ·simp [cn,T.aK]
 | .rep p=>by
  simp only [aj,T.aK];split
  ·simp [iN]
  ·simp [cn,T.aK]
def dI:∀u:U,jO (ak u)<=u.aK+3
 | .nil=>by simp [ak,iN]
 | .snd .. =>by simp [ak,cn]
 | .rcv .. =>by simp [ak,cn]
 | .tau .. =>by simp [ak,cn]
 | .sum p q=>by
  have :=dI p;have :=dI q;simp only [ak,T.aK,qH];omega
 | .par p q=>by
  have :=dI p;have :=dI q;simp only [ak,T.aK];split
  ·omega
  ·split
   ·omega
   ·simp [cn,T.aK]
 | .res x p=>by
  have :=dI p;simp only [ak,T.aK];split
  ·simp [cn,T.aK]
  ·omega
 | .mat a b p=>by
  have :=dI p;simp only [ak,T.aK];split
  ·omega
  ·split
   ·simp [iN]
   ·simp [cn,T.aK]
 | .rep p=>by
  simp only [ak,T.aK];split
  ·simp [iN]
  ·simp [cn,T.aK]
def nL {p:P}{u:U}{ρ:UInt8->Nat}{σ:Nat->Nat}(h:AE ρ p σ u):u.aK=p.aK:=by
 induction p generalizing u ρ σ<;>cases u<;>simp only [AE]at h<;>simp only [T.aK]
 case snd.snd G _ _ _=>rw [G h.2.2]
 case mat.mat G _ _ _=>rw [G h.2.2]
 case rcv.rcv G _ _ _=>rw [G (h.2 0)]
 case res.res G _ _=>rw [G (h 0)]
 case tau.tau G _=>rw [G h]
 case rep.rep G _=>rw [G h]
 case sum.sum G H _ _=>rw [G h.1,H h.2]
 case par.par G H _ _=>rw [G h.1,H h.2]
def Kv {c:UInt8}(h:c∈EC):lt c=true:=by
 obtain⟨i,hi,rfl⟩:=Oe.1 h;rw [Pg]at hi;have e:(UInt8.ofNat (97+i)).toNat=97+i:=by rw [ON];omega
 simp only [lt,Nz,NL];exact⟨NX.2 (by rw [e];show 97<=_;omega),NX.2 (by rw [e];show _<=122;omega)⟩
def pf {tk:Tk}{c:UInt8}(h:uy tk=some c):tk c=false/\lt c=true/\iG tk=c:=by
 have h1:=P2 h;have G:=List.find?_some h;exact⟨by simpa using G,Kv h1,by unfold iG;rw [h];rfl⟩
def He {tk:Tk}(h:(uy tk).isNone=false):tk (iG tk)=false/\lt (iG tk)=true:=by
 cases e:uy tk with
 | none=>rw [e]at h;cases h
 | some c=>obtain⟨h1,G,H⟩:=pf e;rw [H];exact⟨h1,G⟩
def y3:∀(l:List UInt8) (tk:Tk) (c:UInt8),addK l tk c=(tk c||decide (c∈l))
 | [],tk,c=>by simp [addK]
 | d::l,tk,c=>by
  rw [addK,y3 l];by_cases h:c=d
  ·subst h;simp [cD]
  ·have hb:(c==d)=false:=by simpa using h
   simp [cD,hb,h]
def vW:∀(n:Nat) (tk:Tk),gi n tk=false->(lets n tk).Nodup/\∀c∈lets n tk,tk c=false/\lt c=true
 | 0,tk,_=>⟨O8,λc h=>by cases h⟩
 | n+1,tk,h=>by
  simp only [gi,O0]at h;obtain⟨h1,J⟩:=He h.1;obtain⟨Z,H⟩:=vW n _ h.2;rw [lets];refine⟨OB.2 ⟨λhm=>?_,Z⟩,λc G=>?_⟩
  ·have :=(H _ hm).1;simp [cD]at this
  ·rcases NV.1 G with rfl | G
   ·exact⟨h1,J⟩
   ·obtain⟨m1,m2⟩:=H c G;simp only [cD,O0]at m1;exact⟨m1.1,m2⟩
def Gm:∀(u:U) (y:Nat),u.Us y->∃t∈(aj u).2,t.Us y:=by
 intro u
 induction u with
 | nil=>intro y h;exact h.elim
 | snd a b p G=>intro y h;exact⟨_,by simp [aj],h⟩
 | rcv a b p G=>intro y h;exact⟨_,by simp [aj],h⟩
 | tau p G=>intro y h;exact⟨_,by simp [aj],h⟩
 | sum p q G H=>
  intro y h;simp only [aj];split
  ·rename_i e;exact H y (h.resolve_left (T.bE e))
  ·split
   ·rename_i e;exact G y (h.resolve_right (T.bE e))
   ·exact⟨_,by simp,h⟩
 | par p q G H=>
  intro y h;simp only [aj,NI];rcases h with h | h
  ·obtain⟨t,h1,J⟩:=G y h;exact⟨t,.inl h1,J⟩
  ·obtain⟨t,h1,J⟩:=H y h;exact⟨t,.inr h1,J⟩
 | res x p G=>intro y h;exact G y h.2
 | mat a b p G=>
  intro y h;simp only [aj];rcases h with⟨e,h⟩ | ⟨e,hd,h⟩
  ·rw [N' e];exact G y h
  ·rw [NS e,NS (by simp [hd])];exact⟨.mat a b p,by simp,.inr ⟨e,hd,h⟩⟩
 | rep p G=>
  intro y h;simp only [aj];split
  ·rename_i e;exact absurd h (T.bE (p:=p) e)
  ·exact⟨_,by simp,h⟩
def AN:∀(u:U),Uq u->∀x∈(aj u).1,∃t∈(aj u).2,t.Us x:=by
 intro u
 induction u with
 | nil=>intro _ x h;simp [aj]at h
 | snd=>intro _ x h;simp [aj]at h
 | rcv=>intro _ x h;simp [aj]at h
 | tau=>intro _ x h;simp [aj]at h
 | sum p q G H=>
  intro hu x h;simp only [aj]at h|-;split at h
  ·rename_i e;rw [N' e];exact H hu.dG x h
  ·rename_i e;rw [NS e];split at h
   ·rename_i Z;rw [N' Z];exact G hu.dO x h
   ·simp at h
 | par p q G H=>
  intro hu x h;simp only [aj,NI]at h|-;rcases h with h | h
  ·obtain⟨t,h1,J⟩:=G hu.fX x h;exact⟨t,.inl h1,J⟩
  ·obtain⟨t,h1,J⟩:=H hu.fD x h;exact⟨t,.inr h1,J⟩
 | res y p G=>
  intro hu x h;have e2:(aj (.res y p)).2=(aj p).2:=rfl;rw [e2];simp only [aj]at h;split at h
  ·rename_i hh;rcases NV.1 h with rfl | h
   ·exact Gm p x ((fP p x hu.fY).1 hh)
   ·exact G hu.res x h
  ·exact G hu.res x h
 | mat a b p G=>
  intro hu x h;simp only [aj]at h|-;split at h
  ·rename_i e;rw [N' e];exact G hu.mat x h
  ·rename_i e;split at h<;>simp at h
 | rep p G=>
  intro hu x h;simp only [aj]at h;split at h<;>simp at h
def gC:∀(u:U),Uq u->(aj u).1.Nodup:=by
 intro u
 induction u with
 | nil=>intro _;simp [aj]
 | snd=>intro _;simp [aj]
 | rcv=>intro _;simp [aj]
 | tau=>intro _;simp [aj]
 | sum p q G H=>
  intro hu;simp only [aj];split
  ·exact H hu.dG
  ·split
   ·exact G hu.dO
   ·simp
 | par p q G H=>
  intro hu;simp only [aj];refine Oc.2 ⟨G hu.fX,H hu.fD,λa ha b hb e=>?_⟩;exact(Oc.1 hu.nd).2.2 a (iB p a ha) b (iB q b hb) e
 | res y p G=>
  intro hu;simp only [aj];split
  ·exact OB.2 ⟨λh=>hu.fY (iB p y h),G hu.res⟩
  ·exact G hu.res
 | mat a b p G=>
  intro hu;simp only [aj];split
  ·exact G hu.mat
  ·split<;>simp
 | rep p G=>
  intro hu;simp only [aj];split<;>simp
def jK:∀(l:List Nat) (n:Nat) (σ:Nat->Nat) (i:Nat) (h:i< l.length),l.Nodup->asgN l n σ l[i]=(gl (n+i)).toNat
 | [],_,_,_,h,_=>by simp at h
 | x::l,n,σ,0,_,G=>by
  have :=OB.1 G;simp only [List.getElem_cons_zero,asgN];rw [je _ _ _ _ this.1];simp [aG]
 | x::l,n,σ,i+1,h,G=>by
  have :=OB.1 G;simp only [List.getElem_cons_succ,asgN];rw [jK l _ _ i (by simpa using h) this.2]
  congr 2
  omega
attribute [go_sem] Tryz.f203
def kN (m1:Value)(G:aH)(t3:aH)(w:World)(R:aH->QU)(h:vc az (aZ [(5,[(8,.s),(32,.i)]),(11,[(11,.s),(12,.i)]),(23,[(13,.s),(14,.s),(84,.i)]),(33,[(16,.s),(107,.i)]),(40,[(16,.s),(21,.i)])] [(12,[(11,.s)]),(32,[(17,.v)]),(38,[(16,.s)])] []) (af Tryz.f203) (ai 0 [.v m1,.s G,.s t3]) w (fin az [.tmp 6 .s] R)):
  QV 203 #[m1,(.string (ay G)),(.string (ay t3))] w (ax [.s] R):=
 bj Tryz.func203 (by kernel_rfl) h
attribute [go_sem] Tryz.f243
def kJ (m1:Value)(t2:Value)(G:aH)(l4:aH)(t5:aH)(w:World)(R:aH->QU)(h:vc az (aZ [(3,[(11,.v),(17,.i)]),(6,[(13,.s),(14,.i)])] [] [(8,false,.lt 0 (.lt 1 (.lt 2 (.lt 3 (.lt 4 (.lt 5 (.lt 6 (.one .h 7 (.lt 8 .done)))))))))]) (af Tryz.f243) (ai 0 [.v m1,.v t2,.s G,.s l4,.s t5]) w (fin az [.tmp 10 .s] R)):
  QV 243 #[m1,t2,(.string (ay G)),(.string (ay l4)),(.string (ay t5))] w (ax [.s] R):=
 bj Tryz.func243 (by kernel_rfl) h
attribute [go_sem] Tryz.f258
def jV (m1:Value)(G:aH)(t3:aH)(w:World)(R:aH->QU)(h:vc az (aZ [(17,[(10,.v),(87,.i)])] [] [(4,false,.lt 0 (.lt 1 (.lt 4 (.lt 5 (.lt 6 (.lt 9 (.one .h 2 (.lt 3 (.one .h 7 (.lt 8 (.one .h 10 (.lt 11 (.lt 12 .done))))))))))))),(7,false,.lt 0 (.lt 1 (.lt 2 (.lt 7 (.lt 8 (.lt 9 (.lt 10 (.lt 11 (.lt 12 (.lt 14 (.lt 15 (.br .h 3 (.br .h 4 (.lt 5 (.lt 6 (.one .h 13 (.one .h 16 (.one .h 17 (.lt 18 (.lt 19 .done))))))) (.one .h 13 (.br .h 4 (.lt 5 (.lt 6 (.one .h 16 (.one .h 17 (.lt 18 (.lt 19 .done)))))) (.one .h 16 (.br .h 4 (.lt 5 (.lt 6 (.one .h 17 (.lt 18 (.lt 19 .done))))) (.one .h 17 (.one .h 4 (.lt 5 (.lt 6 (.lt 18 (.lt 19 .done))))))))))) (.one .h 13 (.br .h 3 (.br .h 4 (.lt 5 (.lt 6 (.one .h 16 (.one .h 17 (.lt 18 (.lt 19 .done)))))) (.one .h 16 (.br .h 4 (.lt 5 (.lt 6 (.one .h 17 (.lt 18 (.lt 19 .done))))) (.one .h 17 (.one .h 4 (.lt 5 (.lt 6 (.lt 18 (.lt 19 .done))))))))) (.one .h 16 (.br .h 3 (.br .h 4 (.lt 5 (.lt 6 (.one .h 17 (.lt 18 (.lt 19 .done))))) (.one .h 17 (.one .h 4 (.lt 5 (.lt 6 (.lt 18 (.lt 19 .done))))))) (.one .h 17 (.one .h 3 (.one .h 4 (.lt 5 (.lt 6 (.lt 18 (.lt 19 .done))))))))))))))))))))))),(9,false,.lt 0 (.lt 1 (.lt 2 (.lt 3 (.lt 4 (.lt 5 .done))))))]) (af Tryz.f258) (ai 0 [.v m1,.s G,.s t3]) w (fin az [.tmp 6 .s] R)):
  QV 258 #[m1,(.string (ay G)),(.string (ay t3))] w (ax [.s] R):=
 bj Tryz.func258 (by kernel_rfl) h
attribute [go_sem] Tryz.f162
def xY (G:aH)(w:World)(R:aH->Bool->QU)(h:vc az (aZ [(4,[(5,.i),(19,.i)])] [] [(13,false,.lt 0 (.lt 1 (.lt 2 (.lt 3 (.lt 4 (.lt 5 (.lt 6 (.lt 7 .done))))))))]) (af Tryz.f162) (ai 0 [.s G]) w (fin az [.tmp 2 .s,.tmp 3 .b] R)):
  QV 162 #[(.string (ay G))] w (ax [.s,.b] R):=
 bj Tryz.func162 (by kernel_rfl) h
attribute [go_sem] Tryz.f90
def yk (G:aH)(w:World)(R:aH->Bool->QU)(h:vc az (aZ [] [] []) (af Tryz.f90) (ai 0 [.s G]) w (fin az [.tmp 2 .s,.tmp 3 .b] R)):
  QV 90 #[(.string (ay G))] w (ax [.s,.b] R):=
 bj Tryz.func90 (by kernel_rfl) h
structure MK (w:World)(bm:Nat)(br on:Bool):Prop where
 lt:bm< w.heap.size
 c0:w.cell? ⟨bm,0,none⟩=some (.bool br)
 c1:w.cell? ⟨bm,1,none⟩=some (.bool on)
 f0:w.frozen? ⟨bm,0,none⟩=false
def MK.ex {w w':World}{bm:Nat}{br on:Bool}(h:MK w bm br on)(k:Ex w w'):MK w' bm br on:=
 ⟨N0 h.lt k.size,by rw [k.cell h.lt];exact h.c0,by rw [k.cell h.lt];exact h.c1,by rw [Pw k h.lt];exact h.f0⟩
def cC (T:Tx):Tk:=λc=>decide (c∈T)
structure y4 (k:Nat)(T:Tx)(σ:Nat->Nat)(u:U):Prop where
 srt:kz T
 okn:∀c∈T,okn k c/\ngr c
 cov:∀y,u.Us y->∃c∈T,c.toNat=σ y
def Compat (ρ:Rh)(σ:Nat->Nat)(u:U):Prop:=∀y,u.Us y->(ρ y).toNat=σ y
structure WR (on:Bool)(u:U)(σ:Nat->Nat)(T r:Tx):Prop where
 ne:r≠[]
 len:r.length<=u.aK
 cnt:aX u<=5->r.count 35=cz u
 bad:aX u<=5->on=false->cT u (cC T)=true->∃c∈r,128<=c
 eq:aX u<=5->on=false->cT u (cC T)=false->∀ρ,Compat ρ σ u->r=LS u ρ (cC T)
structure TR (on:Bool)(t:U)(σ:Nat->Nat)(T r:Tx):Prop where
 ne:r≠[]
 len:r.length<=t.aK
 cnt:an (tl [t])<=5->r.count 35=thAll (tl [t])
 bad:an (tl [t])<=5->on=false->thBad (tl [t]) (cC T)=true->∃c∈r,128<=c
 eq:an (tl [t])<=5->on=false->thBad (tl [t]) (cC T)=false->∀ρ,Compat ρ σ t->r=thU t ρ (cC T)
def C0:∀(u:U),∀t∈(aj u).2,t.ow+(aj u).1.length<=u.ow/\t.rd<=u.rd:=by
 intro u
 induction u with
 | nil=>intro t h;simp [aj]at h
 | snd=>intro t h;simp [aj]at h;subst h;simp [aj]
 | rcv=>intro t h;simp [aj]at h;subst h;simp [aj]
 | tau=>intro t h;simp [aj]at h;subst h;simp [aj]
 | sum p q G H=>
  intro t h;simp only [aj]at h|-;split at h
  ·rename_i e;rw [N' e];have :=H t h;simp only [T.ow,T.rd];omega
  ·rename_i e;rw [NS e];split at h
   ·rename_i J;rw [N' J];have :=G t h;simp only [T.ow,T.rd];omega
   ·rename_i J;rw [NS J];simp at h;subst h;simp
 | par p q G H=>
  intro t h;simp only [aj,NI]at h;simp only [aj,T.ow,T.rd,NB];have Z:=iC p;have hq:=iC q;rcases h with h | h
  ·have :=G t h;omega
  ·have :=H t h;omega
 | res x p G=>
  intro t h;have :=G t h;simp only [aj,T.ow,T.rd];split
  ·simp only [Nv];omega
  ·omega
 | mat a b p G=>
  intro t h;simp only [aj]at h|-;split at h
  ·rename_i e;rw [N' e];exact G t h
  ·rename_i e;rw [NS e];split at h
   ·simp at h
   ·rename_i J;rw [NS J];simp at h;subst h;simp
 | rep p G=>
  intro t h;simp only [aj]at h|-;split at h
  ·simp at h
  ·rename_i J;rw [NS J];simp at h;subst h;simp
def Cy {p:P}{u:U}{ρ:UInt8->Nat}{σ:Nat->Nat}(h:AE ρ p σ u):u.rd=p.rd:=by
 induction p generalizing u ρ σ<;>cases u<;>simp only [AE]at h<;>simp only [T.rd]
 case snd.snd G _ _ _=>exact G h.2.2
 case mat.mat G _ _ _=>exact G h.2.2
 case rcv.rcv G _ _ _=>rw [G (h.2 0)]
 case res.res G _ _=>exact G (h 0)
 case tau.tau G _=>exact G h
 case rep.rep G _=>exact G h
 case sum.sum G H _ _=>rw [G h.1,H h.2]
 case par.par G H _ _=>rw [G h.1,H h.2]
def Lb (k:Nat)(u:U):Prop:=u.ow<=64/\((aj u).1.length<=5->∀t∈(aj u).2,k+(aj u).1.length+t.rd+t.ow<=64)
def Lb.of {k:Nat}{u:U}(h:k+u.rd+u.ow<=64):Lb k u:=⟨by omega,λ _ t G=>by have :=C0 u t G;omega⟩
def Den.lb {k m:Nat}{p:P}{σ:Nat->Nat}{u:U}(d:Den m p σ u)(h:k+(p.rd+p.ow)<=64):Lb k u:=Lb.of (by rw [Cy d.ae,nM d.ae];omega)
def GR (n:Nat):Prop:=∀{k:Nat} {p:P} {σ:Nat->Nat} {u:U} {T:Tx} {w:World} {bm:Nat} {br on:Bool} {R:aH->QU},
 p.size<=n->Den k p σ u->Lb k u->GF 0 p->y4 k T σ u->MK w bm br on->
 (∀r w',Kp w w' (λg=>g=bm)->MK w' bm (br||decide (5< aX u)) on->WR on u σ T r->R r w')->
 QV 203 #[.pointer (some ⟨bm,0,none⟩),.string (ay p.text),.string (ay T)] w (ax [.s] R)
def yz (n:Nat):Prop:=∀{k:Nat} {p:P} {σ:Nat->Nat} {t:U} {T:Tx} {w:World} {bm:Nat} {br on:Bool} {R:aH->QU},
 p.size<=n->Den k p σ t->IY t=true->t.dc->t.dead=false->GF 0 p->y4 k T σ t->MK w bm br on->
 (∀r w',Kp w w' (λg=>g=bm)->MK w' bm (br||decide (5< an (tl [t]))) on->TR on t σ T r->R r w')->
 QV 258 #[.pointer (some ⟨bm,0,none⟩),.string (ay p.text),.string (ay T)] w (ax [.s] R)
def iP (a b:Nat)(p:U)(tk:Tk):thBad (tl [.snd a b p]) tk=cT p tk:=by simp [tl,thBad,cT]
def iR (p:U)(tk:Tk):thBad (tl [.tau p]) tk=cT p tk:=by simp [tl,thBad,cT]
def fe (a b:Nat)(p:U)(tk:Tk):thBad (tl [.mat a b p]) tk=cT p tk:=by simp [tl,thBad,cT]
def jf (p:U)(tk:Tk):thBad (tl [.rep p]) tk=cT p tk:=by simp [tl,thBad,cT]
def iS (a x:Nat)(p:U)(tk:Tk):thBad (tl [.rcv a x p]) tk=((uy tk).isNone||cT p (cD tk (iG tk))):=by simp [tl,thBad,cT]
def pG (a b:Nat)(p:U):thAll (tl [.snd a b p])=cz p:=by simp [tl,thAll,cz]
def pV (p:U):thAll (tl [.tau p])=cz p:=by simp [tl,thAll,cz]
def ja (a b:Nat)(p:U):thAll (tl [.mat a b p])=cz p:=by simp [tl,thAll,cz]
def pB (p:U):thAll (tl [.rep p])=cz p:=by simp [tl,thAll,cz]
def pE (a b:Nat)(p:U):thAll (tl [.rcv a b p])=cz p:=by simp [tl,thAll,cz]
def eO (a b:Nat)(p:U):an (tl [.snd a b p])=aX p:=by simp [tl,an,aX]
def eN (p:U):an (tl [.tau p])=aX p:=by simp [tl,an,aX]
def cN (a b:Nat)(p:U):an (tl [.mat a b p])=aX p:=by simp [tl,an,aX]
def eU (p:U):an (tl [.rep p])=aX p:=by simp [tl,an,aX]
def eK (a b:Nat)(p:U):an (tl [.rcv a b p])=aX p:=by simp [tl,an,aX]
def yM (l:List U)(tk:Tk):thBad (tp l) tk=l.any λu=>cT u tk:=by
 induction l with
 | nil=>rfl
 | cons u l G=>rw [tp,thBad,G];rfl
def G7 (l:List U):thAll (tp l)=(l.map cz).sum:=by
 induction l with
 | nil=>rfl
 | cons u l G=>rw [tp,thAll,G];rfl
def xS (l:List U)(n:Nat):an (tp l)<=n↔∀u∈l,aX u<=n:=by
 induction l with
 | nil=>simp [tp,an]
 | cons u l G=>
  rw [tp,an];rw [NK,<-G];unfold aX;exact⟨λh=>⟨by omega,by omega⟩,λh=>by have :=h.1;have :=h.2;omega⟩
def sR (l:List U)(tk:Tk):thBad (tl l) tk=l.any λt=>thBad (tl [t]) tk:=by
 induction l with
 | nil=>rfl
 | cons u l G=>
  have:tl (u::l)=(tl [u]).app (tl l):=dX [u] l;rw [this,cI,G];rfl
def BY (l:List U):thAll (tl l)=(l.map λt=>thAll (tl [t])).sum:=by
 induction l with
 | nil=>rfl
 | cons u l G=>
  have:tl (u::l)=(tl [u]).app (tl l):=dX [u] l;rw [this,bR,G];rfl
def rR (l:List U)(n:Nat):an (tl l)<=n↔∀t∈l,an (tl [t])<=n:=by
 induction l with
 | nil=>simp [tl,an]
 | cons u l G=>
  have:tl (u::l)=(tl [u]).app (tl l):=dX [u] l;rw [this,bV];rw [NK,<-G];exact⟨λh=>⟨by omega,by omega⟩,λh=>by have :=h.1;have :=h.2;omega⟩
section
open Classical
namespace T
section
variable {A B:Type} [DecidableEq A] [DecidableEq B]
def th:T A->Bool
 | snd .. =>true | rcv .. =>true | tau .. =>true | mat .. =>true | rep .. =>true | sum .. =>true
 | nil=>false | par .. =>false | res .. =>false
def isS:T A->Bool
 | sum .. =>true
 | _=>false
def isP:T A->Bool
 | par .. =>true
 | _=>false
def Nr:T A->Prop
 | nil=>True
 | snd _ _ p=>p.Nr
 | rcv _ _ p=>p.Nr
 | tau p=>p.Nr
 | sum p q=>(p.dead=false/\q.dead=false/\p.isS=false)/\p.Nr/\q.Nr
 | par p q=>(p.th=true/\(q.th=true\/q.isP=true))/\p.Nr/\q.Nr
 | res x p=>p.Us x/\p.Nr
 | mat a b p=>(a≠b/\p.dead=false)/\p.Nr
 | rep p=>p.dead=false/\p.Nr
def Nr.iy {A:Type}{x:A}:∀{p:T A},p.Nr->p.Fr x->p.Us x
 | nil,_,h=>h.elim
 | snd a b p,n,h=>h.imp id λh=>h.imp id (Nr.iy (p:=p) n)
 | rcv a y p,n,h=>h.imp id λh=>h.imp id (Nr.iy (p:=p) n)
 | tau p,n,h=>Nr.iy (p:=p) n h
 | sum p q,n,h=>Or.imp (Nr.iy n.2.1) (Nr.iy n.2.2) h
 | par p q,n,h=>Or.imp (Nr.iy n.2.1) (Nr.iy n.2.2) h
 | res y p,n,h=>And.imp id (Nr.iy (p:=p) n.2) h
 | mat a b p,n,h=> .inr ⟨n.1.1,n.1.2,h.imp id λh=>h.imp id (Nr.iy (p:=p) n.2)⟩
 | rep p,n,h=>Nr.iy (p:=p) n.2 h
def JB {A:Type}{p:T A}{x:A}(h:p.Us x):p.dead=false:=by
 cases hd:p.dead with
 | false=>rfl
 | true=>exact absurd h (bE hd)
def Nr.rL {A:Type}:∀{p:T A},p.Nr->p.th=true->p.dead=false
 | snd ..,_,_=>rfl
 | rcv ..,_,_=>rfl
 | tau ..,_,_=>rfl
 | sum p q,n,_=>by simp [dead,n.1.1]
 | mat a b p,n,_=>n.1.2
 | rep p,n,_=>n.1
def Nr.live {A:Type}{p:T A}(n:p.Nr)(h:p≠nil):p.dead=false:=by
 cases p with
 | nil=>exact absurd rfl h
 | res x p=>exact JB (p:=p) n.1
 | par p q=>simp [dead,n.2.1.rL n.1.1]
 | _=>exact n.rL rfl
def Nr.dc {A:Type}{p:T A}(n:p.Nr):p.dc:=by
 cases p with
 | mat a b p=>exact n.1.1
 | sum p q=>exact⟨n.1.1,n.1.2.1⟩
 | par p q=>
  refine⟨n.2.1.rL n.1.1,?_⟩;refine n.2.2.live ?_
  rintro rfl
  rcases n.1.2 with h | h<;>cases h
 | res x p=>exact n.1
 | _=>trivial
def frL:T A->List A
 | res x p=>x::p.frL
 | _=>[]
def ths:T A->List (T A)
 | nil=>[]
 | res _ p=>p.ths
 | par p q=>p::q.ths
 | t=>[t]
def l5:T A->List (T A)
 | sum p q=>p::q.l5
 | t=>[t]
def resL:List A->T A->T A
 | [],p=>p
 | x::l,p=>res x (resL l p)
def parL:List (T A)->T A
 | []=>nil
 | [t]=>t
 | t::u::l=>par t (parL (u::l))
def db:List (T A)->T A
 | []=>nil
 | [t]=>t
 | t::u::l=>sum t (db (u::l))
def c8 {A:Type}{x:A}{p:T A}:∀{l:List A},(resL l p).Fr x↔x∉l/\p.Fr x
 | []=>by simp [resL]
 | y::l=>by simp only [resL,Fr,c8 (l:=l),NV,QP];exact PM.symm
def og {A:Type}{x:A}{p:T A}:∀{l:List A},(resL l p).Us x↔x∉l/\p.Us x
 | []=>by simp [resL]
 | y::l=>by simp only [resL,Us,og (l:=l),NV,QP];exact PM.symm
def A1 {A:Type}{p:T A}:∀{l:List A},(resL l p).frL=l++p.frL
 | []=>rfl
 | y::l=>by simp only [resL,frL,A1 (l:=l),Oz]
def AX {A:Type}{p:T A}:∀{l:List A},(resL l p).ths=p.ths
 | []=>rfl
 | y::l=>by simp only [resL,ths,AX (l:=l)]
def iw {A:Type}{x:A}:∀{l:List (T A)},(parL l).Fr x↔∃t∈l,t.Fr x
 | []=>by simp [parL,Fr]
 | [t]=>by simp [parL]
 | t::u::l=>by simp only [parL,Fr,iw (l:=u::l),NV,exists_eq_or_imp]
def CK {A:Type}{x:A}:∀{l:List (T A)},(parL l).Us x↔∃t∈l,t.Us x
 | []=>by simp [parL,Us]
 | [t]=>by simp [parL]
 | t::u::l=>by simp only [parL,Us,CK (l:=u::l),NV,exists_eq_or_imp]
def DG {A:Type}{x:A}:∀{l:List (T A)},(db l).Us x↔∃t∈l,t.Us x
 | []=>by simp [db,Us]
 | [t]=>by simp [db]
 | t::u::l=>by simp only [db,Us,DG (l:=u::l),NV,exists_eq_or_imp]
def Dt {A:Type}:∀{l:List (T A)},(∀t∈l,t.th=true/\t.Nr)->(parL l).Nr/\(l≠[]->(parL l).th=true\/(parL l).isP=true)
 | [],_=>⟨trivial,λh=>absurd rfl h⟩
 | [t],h=>⟨(h t (by simp)).2,λ _=> .inl (h t (by simp)).1⟩
 | t::u::l,h=>by
  obtain⟨h1,G⟩:=Dt (l:=u::l) λt H=>h t (NJ _ H)
  exact⟨⟨⟨(h t (by simp)).1,G (by simp)⟩,(h t (by simp)).2,h1⟩,λ _=> .inr rfl⟩
def jH {A:Type}{t:T A}(h:t.th=true):t.ths=[t]:=by cases t<;>first | rfl | cases h
def fQ {A:Type}{t:T A}(h:t.th=true):t.frL=[]:=by cases t<;>first | rfl | cases h
def zf {A:Type}:∀{l:List (T A)},(∀t∈l,t.th=true)->(parL l).ths=l
 | [],_=>rfl
 | [t],h=>jH (h t (by simp))
 | t::u::l,h=>by simp only [parL,ths,zf (l:=u::l) λt G=>h t (NJ _ G)]
def Gb {A:Type}:∀{l:List (T A)},(∀t∈l,t.th=true)->(parL l).frL=[]
 | [],_=>rfl
 | [t],h=>fQ (h t (by simp))
 | t::u::l,h=>rfl
def CH {A:Type}{p:T A}(n:p.Nr):∀{l:List A},l.Nodup->(∀x∈l,p.Us x)->(resL l p).Nr
 | [],_,_=>n
 | x::l,G,h=>by
  have :=OB.1 G;exact⟨og.2 ⟨this.1,h x (by simp)⟩,CH n this.2 λy H=>h y (NJ _ H)⟩
def CL {A:Type}:∀{l:List (T A)},l≠[]->(∀t∈l,t.dead=false/\t.isS=false/\t.Nr)->(db l).Nr/\(db l).dead=false
 | [],h,_=>absurd rfl h
 | [t],_,h=>⟨(h t (by simp)).2.2,(h t (by simp)).1⟩
 | t::u::l,_,h=>by
  obtain⟨h1,H⟩:=CL (l:=u::l) (by simp) λt G=>h t (NJ _ G)
  have G:=h t (by simp);exact⟨⟨⟨G.1,H,G.2.1⟩,G.2.2,h1⟩,by simp [db,dead,G.1]⟩
def gb {A:Type}{t:T A}(h:t.isS=false):t.l5=[t]:=by cases t<;>first | rfl | cases h
def Ab {A:Type}:∀{l:List (T A)},l≠[]->(∀t∈l,t.isS=false)->(db l).l5=l
 | [],h,_=>absurd rfl h
 | [t],_,h=>gb (h t (by simp))
 | t::u::l,_,h=>by simp only [db,l5,Ab (l:=u::l) (by simp) λt G=>h t (NJ _ G)]
def Ax {A:Type}:∀{p:T A},p.Nr->(p.th=true\/p.isP=true)->parL p.ths=p
 | par p q,n,_=>by
  have H:=Ax n.2.2 n.1.2;have G:q.ths≠[]:=by
   rcases n.1.2 with h | h
   ·rw [jH h];simp
   ·cases q<;>first | (cases h;done) | simp [ths]
  simp only [ths];cases e:q.ths with
  | nil=>exact absurd e G
  | cons u l=>rw [parL,<-e,H]
 | snd ..,_,_=>rfl
 | rcv ..,_,_=>rfl
 | tau ..,_,_=>rfl
 | sum ..,_,_=>rfl
 | mat ..,_,_=>rfl
 | rep ..,_,_=>rfl
 | nil,_,h=>by rcases h with h | h<;>cases h
 | res ..,_,h=>by rcases h with h | h<;>cases h
def Nr.shape {A:Type}:∀{p:T A},p.Nr->p=resL p.frL (parL p.ths)
 | res x p,n=>by
  have :=Nr.shape n.2;simp only [frL,ths,resL];rw [<-this]
 | nil,_=>rfl
 | par p q,n=>by
  have :=Ax (p:=par p q) n (.inr rfl);rw [this];rfl
 | snd ..,_=>rfl
 | rcv ..,_=>rfl
 | tau ..,_=>rfl
 | sum ..,_=>rfl
 | mat ..,_=>rfl
 | rep ..,_=>rfl
def Nr.ths {A:Type}:∀{p:T A},p.Nr->∀t∈p.ths,t.th=true/\t.Nr
 | nil,_,t,h=>by cases h
 | res x p,n,t,h=>Nr.ths (p:=p) n.2 t h
 | par p q,n,t,h=>by
  rcases NV.1 h with rfl | h
  ·exact⟨n.1.1,n.2.1⟩
  ·exact Nr.ths n.2.2 t h
 | snd ..,n,t,h=>by simp [T.ths]at h;subst h;exact⟨rfl,n⟩
 | rcv ..,n,t,h=>by simp [T.ths]at h;subst h;exact⟨rfl,n⟩
 | tau ..,n,t,h=>by simp [T.ths]at h;subst h;exact⟨rfl,n⟩
 | sum ..,n,t,h=>by simp [T.ths]at h;subst h;exact⟨rfl,n⟩
 | mat ..,n,t,h=>by simp [T.ths]at h;subst h;exact⟨rfl,n⟩
 | rep ..,n,t,h=>by simp [T.ths]at h;subst h;exact⟨rfl,n⟩
def Nr.Ha {A:Type}:∀{p:T A},p.Nr->p.frL.Nodup/\∀x∈p.frL,(parL p.ths).Us x
 | res y p,n=>by
  obtain⟨h1,H⟩:=Nr.Ha n.2;have hu:=n.1;rw [Nr.shape n.2]at hu;have hu:=og.1 hu;refine⟨OB.2 ⟨hu.1,h1⟩,λx G=>?_⟩;rcases NV.1 G with rfl | G
  ·exact hu.2
  ·exact H x G
 | nil,_=>⟨O8,λx h=>by cases h⟩
 | par ..,_=>⟨O8,λx h=>by cases h⟩
 | snd ..,_=>⟨O8,λx h=>by cases h⟩
 | rcv ..,_=>⟨O8,λx h=>by cases h⟩
 | tau ..,_=>⟨O8,λx h=>by cases h⟩
 | sum ..,_=>⟨O8,λx h=>by cases h⟩
 | mat ..,_=>⟨O8,λx h=>by cases h⟩
 | rep ..,_=>⟨O8,λx h=>by cases h⟩
end
def pY (p:P):∀l:List UInt8,(resL l p).text=wrap l p.text
 | []=>rfl
 | x::l=>by simp only [resL,text,wrap,pY p l]
def pC:∀{l:List P},l≠[]->(parL l).text=joinS 38 (l.map T.text)
 | [],h=>absurd rfl h
 | [t],_=>rfl
 | t::u::l,_=>by
  have :=pC (l:=u::l) (by simp);simp only [parL,text,N4,joinS]at this|-;rw [this]
def we:∀{l:List P},l≠[]->(db l).text=joinS 43 (l.map T.text)
 | [],h=>absurd rfl h
 | [t],_=>rfl
 | t::u::l,_=>by
  have :=we (l:=u::l) (by simp);simp only [db,text,N4,joinS]at this|-;rw [this]
end T
section
variable {A B:Type} [DecidableEq A] [DecidableEq B]
def AE.th {p:T A}{q:T B}{ρ:A->Nat}{σ:B->Nat}(h:AE ρ p σ q):p.th=q.th/\p.isS=q.isS/\p.isP=q.isP:=by
 cases p<;>cases q<;>first | exact h.elim | exact⟨rfl,rfl,rfl⟩
def eH {ρ:A->Nat}{p:T A}{x:A}{v:Nat}(h:eQ ρ (.res x p))(H:∀y,p.Fr y->ρ y≠v):eQ (aG ρ x v) p:=
 .aG (λy z G J h5 Z=>h y z ⟨G,h5⟩ ⟨J,Z⟩) λy _ G=>H y (T.bf G)
def Jc {p:T A}{u:T B}{ρ:A->Nat}{σ:B->Nat}{x:A}{y:B}(h:∀v,AE (aG ρ x v) p (aG σ y v) u)(hi:eQ ρ (.res x p))(hj:eQ σ (.res y u)):p.Us x↔u.Us y:=by
 obtain⟨v,h1,h2⟩:=bQ p u ρ σ;have G:=eH hi h1;have H:=eH hj h2;constructor
 ·intro hx;obtain⟨z,J,e⟩:=(h v).used G H x hx;rw [cB]at e;unfold aG at e;split at e
  ·rename_i Z;exact Z▸J
  ·exact absurd e (h2 z (T.bf J))
 ·intro hy;obtain⟨z,J,e⟩:=(h v).symm.used H G y hy;rw [cB]at e;unfold aG at e;split at e
  ·rename_i Z;exact Z▸J
  ·exact absurd e (h1 z (T.bf J))
def eQ.HI {A:Type}{ρ:A->Nat}{p:T A}{a x:A}(h:eQ ρ (.rcv a x p)):eQ ρ (.res x p):=λy z G H=>h y z (.inr G) (.inr H)
def AE.nr:∀{p:T A} {q:T B} {ρ:A->Nat} {σ:B->Nat},AE ρ p σ q->eQ ρ p->eQ σ q->p.Nr->q.Nr:=by
 intro p
 induction p<;>intro q ρ σ h hi J n<;>cases q<;>simp only [AE]at h
 case nil.nil=>trivial
 case snd.snd H _ _ _=>have k:=H h.2.2 (hi.sub λx G=>Or.inr (Or.inr G)) (J.sub λx G=> .inr (.inr G)) n;exact k
 case rcv.rcv p H _ _ q=>
  obtain⟨v,h1,h2⟩:=bQ p q ρ σ;have k:=H (h.2 v) (eH hi.HI h1) (eH J.HI h2) n;exact k
 case tau.tau H _=>have k:=H h hi J n;exact k
 case rep.rep H _=>exact⟨h.dead▸n.1,H h hi J n.2⟩
 case res.res p H _ q=>
  obtain⟨v,h1,h2⟩:=bQ p q ρ σ;exact⟨(Jc h hi J).1 n.1,H (h v) (eH hi h1) (eH J h2) n.2⟩
 case mat.mat p H c d q=>
  have hd:q.dead=false:=h.2.2.dead▸n.1.2;have β:c≠d:=by
   rintro rfl
   exact n.1.1 (hi _ _ (.inr ⟨n.1.1,n.1.2,.inl rfl⟩) (.inr ⟨n.1.1,n.1.2,.inr (.inl rfl)⟩) (h.1.trans h.2.1.symm))
  exact⟨⟨β,hd⟩,H h.2.2 (hi.sub λx G=> .inr ⟨n.1.1,n.1.2,.inr (.inr G)⟩) (J.sub λx G=> .inr ⟨β,hd,.inr (.inr G)⟩) n.2⟩
 case sum.sum H Z _ _=>
  exact⟨⟨h.1.dead▸n.1.1,h.2.dead▸n.1.2.1,h.1.th.2.1▸n.1.2.2⟩,H h.1 (hi.sub λx G=> .inl G) (J.sub λx G=> .inl G) n.2.1,Z h.2 (hi.sub λx G=> .inr G) (J.sub λx G=> .inr G) n.2.2⟩
 case par.par H Z _ _=>
  exact⟨⟨h.1.th.1▸n.1.1,n.1.2.imp (λk=>h.2.th.1▸k) (λk=>h.2.th.2.2▸k)⟩,H h.1 (hi.sub λx G=> .inl G) (J.sub λx G=> .inl G) n.2.1,Z h.2 (hi.sub λx G=> .inr G) (J.sub λx G=> .inr G) n.2.2⟩
end
def eP {u:U}(n:u.Nr)(h:u.th=true):aj u=([],[u]):=by
 cases u<;>first | (cases h;done) | rfl | skip
 case sum p q=>simp [aj,n.1.1,n.1.2.1]
 case mat a b p=>simp [aj,n.1.1,n.1.2]
 case rep p=>simp [aj,n.1]
def BZ:∀{u:U},Uq u->u.Nr->aj u=(u.frL,u.ths)
 | .nil,_,_=>rfl
 | .res x p,hu,n=>by
  have :=BZ hu.res n.2;have h:(td p).2.has x=true:=(fP p x hu.fY).2 n.1;simp [aj,h,this,T.frL,T.ths]
 | .par p q,hu,n=>by
  have G:=BZ hu.fD n.2.2;have H:q.frL=[]:=by
   rcases n.1.2 with h | h
   ·exact T.fQ h
   ·cases q<;>first | (cases h;done) | rfl
  simp [aj,G,eP n.2.1 n.1.1,T.frL,T.ths,H]
 | .snd ..,_,n=>eP n rfl
 | .rcv ..,_,n=>eP n rfl
 | .tau ..,_,n=>eP n rfl
 | .sum ..,_,n=>eP n rfl
 | .mat ..,_,n=>eP n rfl
 | .rep ..,_,n=>eP n rfl
def eI {u:U}(H:u.dc)(hd:u.dead=false)(J:∀p q,u≠ .sum p q)(hu:Uq u):ak u=[u]:=by
 cases u with
 | nil=>cases hd
 | snd=>rfl
 | rcv=>rfl
 | tau=>rfl
 | sum p q=>exact absurd rfl (J p q)
 | par p q=>
  have h1:p.dead=false:=H.1;have G:q.dead=false:=H.2;simp [ak,h1,G]
 | res x p=>
  have:(td p).2.has x=true:=(fP p x hu.fY).2 H;simp [ak,this]
 | mat a b p=>
  have h1:a≠b:=H;have G:p.dead=false:=hd;simp [ak,h1,G]
 | rep p=>
  have G:p.dead=false:=hd;simp [ak,G]
def dR:∀{u:U},Uq u->u.Nr->u.dead=false->ak u=u.l5
 | .nil,_,_,h=>by cases h
 | .sum p q,hu,n,_=>by
  have h1:=dR hu.dO n.2.1 n.1.1;have G:=dR hu.dG n.2.2 n.1.2.1;simp only [ak,T.l5,h1,G,T.gb n.1.2.2];rfl
 | .res x p,hu,n,h=>eI n.dc h (λ _ _ e=>by cases e) hu
 | .par ..,hu,n,h=>eI n.dc h (λ _ _ e=>by cases e) hu
 | .snd ..,hu,n,h=>eI n.dc h (λ _ _ e=>by cases e) hu
 | .rcv ..,hu,n,h=>eI n.dc h (λ _ _ e=>by cases e) hu
 | .tau ..,hu,n,h=>eI n.dc h (λ _ _ e=>by cases e) hu
 | .mat ..,hu,n,h=>eI n.dc h (λ _ _ e=>by cases e) hu
 | .rep ..,hu,n,h=>eI n.dc h (λ _ _ e=>by cases e) hu
namespace Lv
def map (f:Nat->Nat):Lv->Lv
 | nil=>nil
 | thr k a b o r n=>thr k (if k= .t\/k= .p then a else f a) (if k= .t\/k= .p then b else f b) (o.map f) (r.map f) (n.map f)
 | sum ps n=>sum (ps.map f) (n.map f)
 | part o q n=>part (o.map f) (q.map f) (n.map f)
def Al (D:Nat->Prop):Lv->Prop
 | nil=>True
 | thr k a b o r n=>(k= .t\/k= .p\/(D a/\D b))/\(∀x∈o,D x)/\r.Al D/\n.Al D
 | sum ps n=>ps.Al D/\n.Al D
 | part o q n=>(∀x∈o,D x)/\q.Al D/\n.Al D
def eu (f:Nat->Nat):∀l m:Lv,(l.app m).map f=(l.map f).app (m.map f)
 | nil,m=>rfl
 | thr k a b o r n,m=>by simp only [app,map,eu f n m]
 | sum ps n,m=>by simp only [app,map,eu f n m]
 | part o q n,m=>by simp only [app,map,eu f n m]
def nD {D:Nat->Prop}:∀{l m:Lv},(l.app m).Al D↔l.Al D/\m.Al D
 | nil,m=>by simp [app,Al]
 | thr k a b o r n,m=>by simp only [app,Al,nD (l:=n),PM]
 | sum ps n,m=>by simp only [app,Al,nD (l:=n),PM]
 | part o q n,m=>by simp only [app,Al,nD (l:=n),PM]
def lz (f:Nat->Nat)(l:Lv):(l.map f).isNil=l.isNil:=by cases l<;>rfl
def lQ {D E:Nat->Prop}(h:∀x,D x->E x):∀{l:Lv},l.Al D->l.Al E
 | nil,_=>trivial
 | thr k a b o r n,⟨h1,G,H,h4⟩=>⟨h1.imp id λh1=>h1.imp id λh1=>⟨h _ h1.1,h _ h1.2⟩,λx J=>h x (G x J),lQ h H,lQ h h4⟩
 | sum ps n,⟨h1,G⟩=>⟨lQ h h1,lQ h G⟩
 | part o q n,⟨h1,G,H⟩=>⟨λx J=>h x (h1 x J),lQ h G,lQ h H⟩
section
variable {D:Nat->Prop} {f:Nat->Nat}
def lI (G:∀x y,D x->D y->f x=f y->x=y){x y:Nat}(H:D x)(J:D y):(f x==f y)=(x==y):=by
 rw [OD,P9,P9];exact⟨G x y H J,λh=>by rw [h]⟩
def jw (G:∀x y,D x->D y->f x=f y->x=y){x:Nat}(H:D x):∀{l:Lv},l.Al D->(l.map f).has (f x)=l.has x
 | nil,_=>rfl
 | thr k a b o r n,⟨h1,J,Z,h4⟩=>by
  simp only [map,has,jw G H Z,jw G H h4];cases k with
  | t=>rfl
  | p=>rfl
  | s=>simp at h1;simp [lI G h1.1 H,lI G h1.2 H]
  | m=>simp at h1;simp [lI G h1.1 H,lI G h1.2 H]
  | r=>simp at h1;simp [lI G h1.1 H,lI G h1.2 H]
 | sum ps n,⟨h1,J⟩=>by simp only [map,has,jw G H h1,jw G H J]
 | part o q n,⟨h1,J,Z⟩=>by simp only [map,has,jw G H J,jw G H Z]
abbrev dC (f:Nat->Nat)(r:List Nat×Lv):List Nat×Lv:=(r.1.map f,r.2.map f)
abbrev KT (D:Nat->Prop)(r:List Nat×Lv):Prop:=(∀x∈r.1,D x)/\r.2.Al D
def ui (J:∀x y,D x->D y->f x=f y->x=y){own:List Nat}{r:List Nat×Lv}(H:∀x∈own,D x)(hr:KT D r):kept (own.map f) (dC f r)=dC f (kept own r)/\KT D (kept own r):=by
 constructor
 ·unfold kept dC;refine Prod.ext ?_ rfl;simp only [<-Oj,List.filter_map]
  congr 1
  refine List.filter_congr λx G=>?_
  exact jw J ((NI.1 G).elim (H x) (hr.1 x)) hr.2
 ·refine⟨λx G=>?_,hr.2⟩;simp only [kept,List.mem_filter,NI]at G;exact G.1.elim (H x) (hr.1 x)
def I' (ps:Lv)(n:List Nat×Lv):spl (ps.map f) (dC f n)=dC f (spl ps n):=by
 unfold spl;cases ps with
 | nil=>rfl
 | thr=>rfl
 | sum=>rfl
 | part o q m=>
  cases m<;>simp [map,dC,eu]
def Kz {ps:Lv}{n:List Nat×Lv}(h:ps.Al D)(G:KT D n):KT D (spl ps n):=by
 unfold spl;split
 ·exact G
 ·exact⟨λx H=>(NI.1 H).elim (h.1 x) (G.1 x),nD.2 ⟨h.2.1,G.2⟩⟩
 ·exact⟨G.1,h,G.2⟩
def IQ (o:List Nat)(q n:Lv):prt (o.map f) (q.map f) (n.map f)=(prt o q n).map f:=by
 unfold prt;cases q with
 | nil=>rfl
 | thr=>rfl
 | part=>rfl
 | sum ps m=>
  cases m<;>simp only [map]
  by_cases h:o.isEmpty=true
  ·have G:(o.map f).isEmpty=true:=by simpa using h
   rw [N' h,N' G,eu]
  ·have G:¬(o.map f).isEmpty=true:=by simpa using h
   rw [NS h,NS G];simp [map]
def Kl {o:List Nat}{q n:Lv}(J:∀x∈o,D x)(H:q.Al D)(G:n.Al D):(prt o q n).Al D:=by
 unfold prt;split
 ·exact G
 ·split
  ·exact nD.2 ⟨H.1,G⟩
  ·exact⟨J,H,G⟩
 ·exact⟨J,H,G⟩
def ju (G:∀x y,D x->D y->f x=f y->x=y):∀{l:Lv},l.Al D->tid (l.map f)=dC f (tid l)/\KT D (tid l)
 | nil,_=>⟨rfl,⟨λx h=>(by cases h),trivial⟩⟩
 | sum ps n,⟨h1,H⟩=>by
  obtain⟨J,a2⟩:=ju G h1;obtain⟨b1,b2⟩:=ju G H;simp only [map,tid];rw [J,b1];exact⟨I' _ _,Kz a2.2 b2⟩
 | part o q n,⟨h1,H,Z⟩=>by
  obtain⟨J,a2⟩:=ju G H;obtain⟨b1,b2⟩:=ju G Z;obtain⟨c1,c2⟩:=ui G h1 a2;simp only [map,tid];rw [J,b1,c1];exact⟨Prod.ext rfl (IQ _ _ _),⟨λx h=>(by cases h),Kl c2.1 c2.2 b2.2⟩⟩
 | thr k a b o r n,⟨h1,H,Z,h4⟩=>by
  obtain⟨J,a2⟩:=ju G Z;obtain⟨b1,b2⟩:=ju G h4;obtain⟨c1,c2⟩:=ui G H a2;simp only [map,tid];rw [J,b1,c1];have e1:(k= .m/\(if k= .t\/k= .p then a else f a)=(if k= .t\/k= .p then b else f b))↔(k= .m/\a=b):=by
   refine and_congr_right λhk=>?_
   subst hk;simp at h1|-;exact⟨G a b h1.1 h1.2,λh=>by rw [h]⟩
  have e2:((dC f (kept o (tid r))).2.isNil)=(kept o (tid r)).2.isNil:=lz _ _;by_cases g1:k= .m/\a=b
  ·rw [N' (e1.2 g1),N' g1];exact⟨by simp [dC,eu],⟨λx hx=>(NI.1 hx).elim (c2.1 x) (b2.1 x),nD.2 ⟨c2.2,b2.2⟩⟩⟩
  ·rw [NS λh=>g1 (e1.1 h),NS g1,e2];split
   ·exact⟨rfl,b2⟩
   ·exact⟨rfl,⟨b2.1,⟨h1,c2.1,c2.2,b2.2⟩⟩⟩
end
end Lv
def wH {α β:Type}(f:α->β):∀l:List α,perms (l.map f)=(perms l).map (List.map f)
 | []=>rfl
 | x::l=>by
  have hi:∀(x:α) (l:List α),ins (f x) (l.map f)=(ins x l).map (List.map f):=by
   intro x l
   induction l with
   | nil=>rfl
   | cons y l G=>simp only [N4,ins,G,OJ];rfl
  simp only [N4,perms,wH f l,QC,List.map_flatMap]
  congr 1
  funext m
  exact hi x m
def CM {f:Nat->Nat}{ρ ρ':Rh}{x:Nat}:∀(π:List Nat) (ls:List UInt8) (ρ ρ':Rh),(∀y∈π,f x=f y->x=y)->ρ (f x)=ρ' x->asg (π.map f) ls ρ (f x)=asg π ls ρ' x
 | [],_,_,_,_,h=>by simpa [asg]using h
 | _::_,[],_,_,_,h=>by simpa [asg]using h
 | y::π,c::ls,ρ,ρ',hi,h=>by
  rw [N4,asg,asg];refine CM (ρ:=ρ) (ρ':=ρ') π ls _ _ (λz G=>hi z (NJ _ G)) ?_;unfold aG;by_cases e:x=y
  ·subst e;simp
  ·rw [NS e,NS λH=>e (hi y (Oa ..) H),h]
def nz {D:Nat->Prop}{f:Nat->Nat}(hf:∀x y,D x->D y->f x=f y->x=y){own:List Nat}{F G:Rh->Tk->List Tx}{H:Nat->Prop}(ho:∀x∈own,D x)(hH:∀x,H x->D x)
  (Z:∀ρ ρ' tk,(∀x,H x->ρ (f x)=ρ' x)->F ρ tk=G ρ' tk) {ρ ρ':Rh} {tk:Tk} (h:∀x,H x->ρ (f x)=ρ' x):aQ (own.map f) F ρ tk=aQ own G ρ' tk:=by
 unfold aQ;rw [Z ρ ρ' tk h,wH,NH];split
 ·rfl
 ·show wrap _ (bF _)=wrap _ (bF _);rw [OJ]
  congr 2
  refine OU λπ J=>?_
  show joinS 38 (bk (F _ _))=_;rw [Z _ (asg π (lets own.length tk) ρ') _ λx hx=>CM (ρ:=ρ) (ρ':=ρ') π _ _ _ (λy hy e=>hf x y (hH x hx) (ho y (((cH own π).1 J).subset hy)) e) (h x hx)]
def iD {D:Nat->Prop}{x:Nat}:∀{l:Lv},l.Al D->l.has x=true->D x
 | .nil,_,h=>by cases h
 | .thr k a b o r n,⟨h1,G,H,h4⟩,h=>by
  simp only [Lv.has,O']at h;rcases h with(h | h) | h
  ·cases k<;>simp at h h1
   ·rcases h with rfl | rfl
    ·exact h1.1
    ·exact h1.2
   ·rcases h with rfl | rfl
    ·exact h1.1
    ·exact h1.2
   ·rcases h with rfl | rfl
    ·exact h1.1
    ·exact h1.2
  ·exact iD H h
  ·exact iD h4 h
 | .sum ps n,⟨h1,G⟩,h=>by
  simp only [Lv.has,O']at h;exact h.elim (iD h1) (iD G)
 | .part o q n,⟨h1,G,H⟩,h=>by
  simp only [Lv.has,O']at h;exact h.elim (iD G) (iD H)
def jF {D:Nat->Prop}{f:Nat->Nat}(J:∀x y,D x->D y->f x=f y->x=y):∀{l:Lv},l.Al D->∀(ρ ρ':Rh) (tk:Tk),(∀x,l.has x=true->ρ (f x)=ρ' x)->thS (l.map f) ρ tk=thS l ρ' tk
 | .nil,_,_,_,_,_=>rfl
 | .thr k a b o r n,⟨h1,Z,h3,h4⟩,ρ,ρ',tk,h=>by
  have hn:thS (n.map f) ρ tk=thS n ρ' tk:=jF J h4 ρ ρ' tk λx G=>h x (by simp [Lv.has,G])
  have H:∀x,r.has x=true->ρ (f x)=ρ' x:=λx G=>h x (by simp [Lv.has,G])
  have hl:∀ρ ρ' tk,(∀x,r.has x=true->ρ (f x)=ρ' x)->aQ (o.map f) (thS (r.map f)) ρ tk=aQ o (thS r) ρ' tk:=λρ ρ' tk h=>
   nz J Z (λx G=>iD h3 G) (λρ ρ' tk=>jF J h3 ρ ρ' tk) h
  cases k with
  | s=>
   have ha:=h a (by simp [Lv.has]);have hb:=h b (by simp [Lv.has]);simp [Lv.map,thS,hn,hl ρ ρ' tk H,ha,hb]
  | m=>
   have ha:=h a (by simp [Lv.has]);have hb:=h b (by simp [Lv.has]);simp [Lv.map,thS,hn,hl ρ ρ' tk H,ha,hb]
  | t=>simp [Lv.map,thS,kText,hn,hl ρ ρ' tk H]
  | p=>simp [Lv.map,thS,kText,hn,hl ρ ρ' tk H]
  | r=>
   have ha:=h a (by simp [Lv.has]);simp at h1;have hu:∀x,r.has x=true->aG ρ (f b) (iG tk) (f x)=aG ρ' b (iG tk) x:=λx G=>by
    unfold aG;by_cases e:x=b
    ·subst e;simp
    ·rw [NS e,NS λh'=>e (J x b (iD h3 G) h1.2 h')];exact H x G
   simp [Lv.map,thS,hn,hl _ _ _ hu,ha]
 | .sum ps n,⟨h1,Z⟩,ρ,ρ',tk,h=>by
  simp only [Lv.map,thS,jF J h1 ρ ρ' tk λx G=>h x (by simp [Lv.has,G]),jF J Z ρ ρ' tk λx G=>h x (by simp [Lv.has,G])]
 | .part o q n,⟨h1,Z,h3⟩,ρ,ρ',tk,h=>by
  simp only [Lv.map,thS,jF J h3 ρ ρ' tk λx G=>h x (by simp [Lv.has,G])];rw [nz J h1 (λx G=>iD Z G) (λρ ρ' tk=>jF J Z ρ ρ' tk) λx G=>h x (by simp [Lv.has,G])]
def fc (f:Nat->Nat):∀(l:Lv) (tk:Tk),thBad (l.map f) tk=thBad l tk
 | .nil,_=>rfl
 | .thr k a b o r n,tk=>by
  have hr:thBad (r.map f)=thBad r:=funext λtk=>fc f r tk
  simp only [Lv.map,thBad,fc f n,Lv.lz,NH,hr]
 | .sum ps n,tk=>by simp only [Lv.map,thBad,fc f n,fc f ps]
 | .part o q n,tk=>by
  have hr:thBad (q.map f)=thBad q:=funext λtk=>fc f q tk
  simp only [Lv.map,thBad,fc f n,Lv.lz,NH,hr]
def eY (f:Nat->Nat):∀l:Lv,thAll (l.map f)=thAll l
 | .nil=>rfl
 | .thr k a b o r n=>by simp only [Lv.map,thAll,eY f n,eY f r,NH]
 | .sum ps n=>by simp only [Lv.map,thAll,eY f n,eY f ps]
 | .part o q n=>by simp only [Lv.map,thAll,eY f n,eY f q,NH]
def dF (f:Nat->Nat):∀l:Lv,an (l.map f)=an l
 | .nil=>rfl
 | .thr k a b o r n=>by simp only [Lv.map,an,dF f n,dF f r,NH]
 | .sum ps n=>by simp only [Lv.map,an,dF f n,dF f ps]
 | .part o q n=>by simp only [Lv.map,an,dF f n,dF f q,NH]
def T.Al {A:Type}(D:A->Prop):T A->Prop
 | .nil=>True
 | .snd a b p=>D a/\D b/\p.Al D
 | .rcv a b p=>D a/\D b/\p.Al D
 | .mat a b p=>D a/\D b/\p.Al D
 | .tau p=>p.Al D
 | .rep p=>p.Al D
 | .sum p q=>p.Al D/\q.Al D
 | .par p q=>p.Al D/\q.Al D
 | .res x p=>D x/\p.Al D
def ch (f:Nat->Nat):∀u:U,flat (u.map f)=Lv.dC f (flat u)
 | .nil=>rfl
 | .snd a b p=>by simp [T.map,flat,ch f p,Lv.dC,Lv.map]
 | .rcv a b p=>by simp [T.map,flat,ch f p,Lv.dC,Lv.map]
 | .mat a b p=>by simp [T.map,flat,ch f p,Lv.dC,Lv.map]
 | .tau p=>by simp [T.map,flat,ch f p,Lv.dC,Lv.map]
 | .rep p=>by simp [T.map,flat,ch f p,Lv.dC,Lv.map]
 | .sum p q=>by simp [T.map,flat,ch f p,ch f q,Lv.dC,Lv.map]
 | .par p q=>by simp [T.map,flat,ch f p,ch f q,Lv.dC,Lv.eu]
 | .res x p=>by simp [T.map,flat,ch f p,Lv.dC]
def bH {D:Nat->Prop}:∀{u:U},u.Al D->Lv.KT D (flat u)
 | .nil,_=>⟨λx h=>(by cases h),trivial⟩
 | .snd a b p,⟨h1,G,h⟩=>⟨λx h=>(by simp [flat]at h),⟨.inr (.inr ⟨h1,G⟩),(bH h).1,(bH h).2,trivial⟩⟩
 | .rcv a b p,⟨h1,G,h⟩=>⟨λx h=>(by simp [flat]at h),⟨.inr (.inr ⟨h1,G⟩),(bH h).1,(bH h).2,trivial⟩⟩
 | .mat a b p,⟨h1,G,h⟩=>⟨λx h=>(by simp [flat]at h),⟨.inr (.inr ⟨h1,G⟩),(bH h).1,(bH h).2,trivial⟩⟩
 | .tau p,h=>⟨λx h=>(by simp [flat]at h),⟨.inl rfl,(bH (u:=p) h).1,(bH (u:=p) h).2,trivial⟩⟩
 | .rep p,h=>⟨λx h=>(by simp [flat]at h),⟨.inr (.inl rfl),(bH (u:=p) h).1,(bH (u:=p) h).2,trivial⟩⟩
 | .sum p q,⟨h1,G⟩=>⟨λx h=>(by simp [flat]at h),⟨(bH h1).1,(bH h1).2,(bH G).1,(bH G).2,trivial⟩,trivial⟩
 | .par p q,⟨h1,G⟩=>⟨λx h=>by
   simp only [flat,NI]at h;exact h.elim ((bH h1).1 x) ((bH G).1 x),Lv.nD.2 ⟨(bH h1).2,(bH G).2⟩⟩
 | .res x p,⟨h1,h⟩=>⟨λy H=>by
   simp only [flat,NV]at H;rcases H with rfl | H
   ·exact h1
   ·exact(bH h).1 y H,(bH h).2⟩
def Gh {D:Nat->Prop}{f:Nat->Nat}(G:∀x y,D x->D y->f x=f y->x=y){u:U}(h:u.Al D):td (u.map f)=Lv.dC f (td u)/\Lv.KT D (td u):=by
 unfold td Lv.tidy;have h1:=bH h;obtain⟨H,J⟩:=Lv.ju G h1.2;rw [ch];show Lv.kept ((flat u).1.map f) (Lv.tid ((flat u).2.map f))=_/\_;rw [H];exact Lv.ui G h1.1 J
def Ky {D:Nat->Prop}{f:Nat->Nat}(G:∀x y,D x->D y->f x=f y->x=y){u:U}(h:u.Al D)(ρ:Rh)(tk:Tk):LS (u.map f) ρ tk=LS u (λx=>ρ (f x)) tk:=by
 obtain⟨h1,H⟩:=Gh G h;unfold LS;rw [h1];exact nz G H.1 (λx J=>iD H.2 J) (λρ ρ' tk=>jF G H.2 ρ ρ' tk) λx _=>rfl
def HL {D:Nat->Prop}{f:Nat->Nat}(G:∀x y,D x->D y->f x=f y->x=y){u:U}(h:u.Al D):cT (u.map f)=cT u/\cz (u.map f)=cz u/\aX (u.map f)=aX u:=by
 obtain⟨h1,H⟩:=Gh G h;unfold cT cz aX;rw [h1];have hr:thBad ((td u).2.map f)=thBad (td u).2:=funext λtk=>fc f _ tk
 simp [Lv.dC,Lv.lz,eY,dF,hr]
def xu (Q:U->Prop)(Z:∀p q,Q (.sum p q)->Q p/\Q q)(hp:∀p q,Q (.par p q)->Q p/\Q q)(hr:∀x p,Q (.res x p)->Q p)(hm:∀a b p,Q (.mat a b p)->Q p):∀u:U,Q u->∀t∈(aj u).2,Q t:=by
 intro u
 induction u with
 | nil=>intro _ t h;simp [aj]at h
 | snd=>intro q t h;simp [aj]at h;exact h▸q
 | rcv=>intro q t h;simp [aj]at h;exact h▸q
 | tau=>intro q t h;simp [aj]at h;exact h▸q
 | sum p q H J=>
  intro G t h;simp only [aj]at h;split at h
  ·exact J (Z _ _ G).2 t h
  ·split at h
   ·exact H (Z _ _ G).1 t h
   ·simp at h;exact h▸G
 | par p q H J=>
  intro G t h;simp only [aj,NI]at h;exact h.elim (H (hp _ _ G).1 t) (J (hp _ _ G).2 t)
 | res x p H=>intro G t h;exact H (hr _ _ G) t h
 | mat a b p H=>
  intro G t h;simp only [aj]at h;split at h
  ·exact H (hm _ _ _ G) t h
  ·split at h
   ·simp at h
   ·simp at h;exact h▸G
 | rep p H=>
  intro G t h;simp only [aj]at h;split at h
  ·simp at h
  ·simp at h;exact h▸G
def rE (Q:U->Prop)(Z:∀p q,Q (.sum p q)->Q p/\Q q)(hp:∀p q,Q (.par p q)->Q p/\Q q)(hr:∀x p,Q (.res x p)->Q p)(hm:∀a b p,Q (.mat a b p)->Q p):∀u:U,Q u->∀t∈ak u,Q t:=by
 intro u
 induction u with
 | nil=>intro _ t h;simp [ak]at h
 | snd=>intro q t h;simp [ak]at h;exact h▸q
 | rcv=>intro q t h;simp [ak]at h;exact h▸q
 | tau=>intro q t h;simp [ak]at h;exact h▸q
 | par p q H J=>
  intro G t h;simp only [ak]at h;split at h
  ·exact J (hp _ _ G).2 t h
  ·split at h
   ·exact H (hp _ _ G).1 t h
   ·simp at h;exact h▸G
 | sum p q H J=>
  intro G t h;simp only [ak,NI]at h;exact h.elim (H (Z _ _ G).1 t) (J (Z _ _ G).2 t)
 | res x p H=>
  intro G t h;simp only [ak]at h;split at h
  ·simp at h;exact h▸G
  ·exact H (hr _ _ G) t h
 | mat a b p H=>
  intro G t h;simp only [ak]at h;split at h
  ·exact H (hm _ _ _ G) t h
  ·split at h
   ·simp at h
   ·simp at h;exact h▸G
 | rep p H=>
  intro G t h;simp only [ak]at h;split at h
  ·simp at h
  ·simp at h;exact h▸G
def FK {u:U}(h:Uq u):∀t∈(aj u).2,Uq t:=
 xu Uq (λ _ _ h=>⟨h.dO,h.dG⟩) (λ _ _ h=>⟨h.fX,h.fD⟩) (λ _ _ h=>h.res) (λ _ _ _ h=>h.mat) u h
def xJ {u:U}(h:Uq u):∀t∈ak u,Uq t:=
 rE Uq (λ _ _ h=>⟨h.dO,h.dG⟩) (λ _ _ h=>⟨h.fX,h.fD⟩) (λ _ _ h=>h.res) (λ _ _ _ h=>h.mat) u h
def Bh (u:U):∀t∈(aj u).2,t.size<=u.size:=
 xu (λt=>t.size<=u.size) (λ _ _ h=>by simp only [T.size]at h;omega) (λ _ _ h=>by simp only [T.size]at h;omega) (λ _ _ h=>by simp only [T.size]at h;omega) (λ _ _ _ h=>by simp only [T.size]at h;omega) u (ND _)
def lP (u:U):∀t∈ak u,t.size<=u.size:=
 rE (λt=>t.size<=u.size) (λ _ _ h=>by simp only [T.size]at h;omega) (λ _ _ h=>by simp only [T.size]at h;omega) (λ _ _ h=>by simp only [T.size]at h;omega) (λ _ _ _ h=>by simp only [T.size]at h;omega) u (ND _)
def C9 (u:U):∀t∈(aj u).2,∀x∈BV t,x∈BV u:=
 xu (λt=>∀x∈BV t,x∈BV u) (λ _ _ h=>⟨λx G=>h x (Ob _ G),λx G=>h x (N1 _ G)⟩)
  (λ _ _ h=>⟨λx G=>h x (Ob _ G),λx G=>h x (N1 _ G)⟩) (λ _ _ h=>λx G=>h x (NJ _ G)) (λ _ _ _ h=>h) u (λx h=>h)
def zI (u:U):∀t∈ak u,∀x∈BV t,x∈BV u:=
 rE (λt=>∀x∈BV t,x∈BV u) (λ _ _ h=>⟨λx G=>h x (Ob _ G),λx G=>h x (N1 _ G)⟩)
  (λ _ _ h=>⟨λx G=>h x (Ob _ G),λx G=>h x (N1 _ G)⟩) (λ _ _ h=>λx G=>h x (NJ _ G)) (λ _ _ _ h=>h) u (λx h=>h)
def lK:∀(u:U),Uq u->∀y,u.Us y↔∃t∈ak u,t.Us y:=by
 intro u
 induction u with
 | nil=>intro _ y;simp [ak,T.Us]
 | snd=>intro _ y;simp [ak]
 | rcv=>intro _ y;simp [ak]
 | tau=>intro _ y;simp [ak]
 | sum p q G H=>
  intro h y;have:(T.sum p q).Us y↔p.Us y\/q.Us y:=Qt;rw [this,G h.dO y,H h.dG y];simp only [ak,NI];constructor
  ·rintro(⟨t,h1,J⟩ | ⟨t,h1,J⟩)
   ·exact⟨t,.inl h1,J⟩
   ·exact⟨t,.inr h1,J⟩
  ·rintro⟨t,h1 | h1,J⟩
   ·exact .inl ⟨t,h1,J⟩
   ·exact .inr ⟨t,h1,J⟩
 | par p q G H=>
  intro h y;have e:(T.par p q).Us y↔p.Us y\/q.Us y:=Qt;simp only [ak];split
  ·rename_i hd;rw [e,<-H h.fD y];exact⟨λk=>k.resolve_left (T.bE hd),.inr⟩
  ·split
   ·rename_i hd;rw [e,<-G h.fX y];exact⟨λk=>k.resolve_right (T.bE hd),.inl⟩
   ·simp
 | res x p G=>
  intro h y;simp only [ak];split
  ·simp
  ·rename_i Z;rw [<-G h.res y];have hn:¬p.Us x:=λk=>Z ((fP p x h.fY).2 k)
   exact⟨λk=>k.2,λk=>⟨λe=>hn (e▸k),k⟩⟩
 | mat a b p G=>
  intro h y;simp only [ak];split
  ·rename_i e;rw [<-G h.mat y];simp [T.Us,e]
  ·rename_i e;split
   ·rename_i hd;simp [T.Us,e,hd]
   ·simp
 | rep p G=>
  intro h y;simp only [ak];split
  ·rename_i hd;simp [T.Us];exact T.bE hd
  ·simp
def Lv.fh (x:Nat):Lv->Prop
 | nil=>False
 | thr k a b o r n=>((k= .s\/k= .m)/\(x=a\/x=b))\/(k= .r/\x=a)\/(x∉o/\¬(k= .r/\x=b)/\r.fh x)\/n.fh x
 | sum ps n=>ps.fh x\/n.fh x
 | part o q n=>(x∉o/\q.fh x)\/n.fh x
def xD:∀(π:List Nat) (ls:List UInt8) (ρ ρ':Rh) (x:Nat),x∈π->π.length=ls.length->asg π ls ρ x=asg π ls ρ' x
 | [],_,_,_,_,h,_=>by cases h
 | _::_,[],_,_,_,_,h=>by cases h
 | y::π,c::ls,ρ,ρ',x,h,H=>by
  rw [asg,asg];by_cases G:x∈π
  ·exact xD π ls _ _ x G (by simpa using H)
  ·have e:x=y:=(NV.1 h).resolve_right G;subst e;exact iK π ls _ _ x (by simp [aG])
def dN {own:List Nat}{f:Rh->Tk->List Tx}{H:Nat->Prop}(he:∀ρ ρ' tk,(f ρ tk).isEmpty=(f ρ' tk).isEmpty)(Z:∀ρ ρ' tk,(∀x,H x->ρ x=ρ' x)->f ρ tk=f ρ' tk)
  {ρ ρ':Rh} {tk:Tk} (h:∀x,x∉own->H x->ρ x=ρ' x):aQ own f ρ tk=aQ own f ρ' tk:=by
 unfold aQ;rw [he ρ ρ' tk];split
 ·rfl
 ·show wrap _ (bF _)=wrap _ (bF _)
  congr 2
  refine OU λπ G=>?_
  have J:=(cH own π).1 G;rw [Z _ (asg π (lets own.length tk) ρ') _ λx hx=>?_];by_cases hm:x∈own
  ·exact xD π _ _ _ x (J.symm.subset hm) (by rw [ft,J.length_eq])
  ·exact iK π _ _ _ x (h x hm hx)
def im (l:Lv)(ρ ρ':Rh)(tk:Tk):(thS l ρ tk).isEmpty=(thS l ρ' tk).isEmpty:=by
 rw [OD,QB,QB,<-List.length_eq_zero_iff,<-List.length_eq_zero_iff,bw,bw]
def tK:∀(l:Lv) (ρ ρ':Rh) (tk:Tk),(∀x,l.fh x->ρ x=ρ' x)->thS l ρ tk=thS l ρ' tk:=by
 intro l
 induction l with
 | nil=>intro _ _ _ _;rfl
 | thr k a b o r n J Z=>
  intro ρ ρ' tk h;have hn:thS n ρ tk=thS n ρ' tk:=Z ρ ρ' tk λx H=>h x (.inr (.inr (.inr H)))
  cases k with
  | r=>
   have ha:=h a (.inr (.inl ⟨rfl,rfl⟩));simp only [thS,ha,hn];rw [dN (ρ:=aG ρ b (iG tk)) (ρ':=aG ρ' b (iG tk)) (im r) J λx H G=>?_];unfold aG;split
   ·rfl
   ·rename_i e;exact h x (.inr (.inr (.inl ⟨H,λhh=>e hh.2,G⟩)))
  | s=>
   have ha:=h a (.inl ⟨.inl rfl,.inl rfl⟩);have hb:=h b (.inl ⟨.inl rfl,.inr rfl⟩);simp only [thS,ha,hb,hn];rw [dN (ρ:=ρ) (ρ':=ρ') (im r) J λx H G=>h x (.inr (.inr (.inl ⟨H,(λhh=>by cases hh.1),G⟩)))]
  | m=>
   have ha:=h a (.inl ⟨.inr rfl,.inl rfl⟩);have hb:=h b (.inl ⟨.inr rfl,.inr rfl⟩);simp only [thS,ha,hb,hn];rw [dN (ρ:=ρ) (ρ':=ρ') (im r) J λx H G=>h x (.inr (.inr (.inl ⟨H,(λhh=>by cases hh.1),G⟩)))]
  | t=>
   simp only [thS,kText,hn];rw [dN (ρ:=ρ) (ρ':=ρ') (im r) J λx H G=>h x (.inr (.inr (.inl ⟨H,(λhh=>by cases hh.1),G⟩)))]
  | p=>
   simp only [thS,kText,hn];rw [dN (ρ:=ρ) (ρ':=ρ') (im r) J λx H G=>h x (.inr (.inr (.inl ⟨H,(λhh=>by cases hh.1),G⟩)))]
 | sum ps n β Z=>
  intro ρ ρ' tk h;simp only [thS,β ρ ρ' tk λx H=>h x (.inl H),Z ρ ρ' tk λx H=>h x (.inr H)]
 | part o q n γ Z=>
  intro ρ ρ' tk h;simp only [thS,Z ρ ρ' tk λx H=>h x (.inr H)];rw [dN (ρ:=ρ) (ρ':=ρ') (im q) γ λx H G=>h x (.inl ⟨H,G⟩)]
def pI (x:Nat):∀l m:Lv,(l.app m).fh x↔l.fh x\/m.fh x
 | .nil,m=>by simp [Lv.app,Lv.fh]
 | .thr k a b o r n,m=>by simp only [Lv.app,Lv.fh,pI x n m,QF]
 | .sum ps n,m=>by simp only [Lv.app,Lv.fh,pI x n m,QF]
 | .part o q n,m=>by simp only [Lv.app,Lv.fh,pI x n m,QF]
def JJ (x:Nat):∀l:List U,(tl l).fh x↔∃t∈l,(tl [t]).fh x
 | []=>by simp [tl,Lv.fh]
 | u::l=>by
  have:tl (u::l)=(tl [u]).app (tl l):=dX [u] l;rw [this,pI,JJ x l];simp
def JZ (x:Nat):∀l:List U,(tp l).fh x↔∃t∈l,x∉(td t).1/\(td t).2.fh x
 | []=>by simp [tp,Lv.fh]
 | u::l=>by simp [tp,Lv.fh,JZ x l]
def sQ:∀(u:U),∀t∈(aj u).2,t.dc/\t.dead=false:=by
 intro u
 induction u with
 | nil=>intro t h;simp [aj]at h
 | snd=>intro t h;simp [aj]at h;subst h;exact⟨trivial,rfl⟩
 | rcv=>intro t h;simp [aj]at h;subst h;exact⟨trivial,rfl⟩
 | tau=>intro t h;simp [aj]at h;subst h;exact⟨trivial,rfl⟩
 | sum p q G J=>
  intro t h;simp only [aj]at h;split at h
  ·exact J t h
  ·rename_i h1;split at h
   ·exact G t h
   ·rename_i H;simp at h;subst h;simp at h1 H;exact⟨⟨h1,H⟩,by simp [T.dead,h1]⟩
 | par p q G J=>
  intro t h;simp only [aj,NI]at h;exact h.elim (G t) (J t)
 | res x p G=>intro t h;exact G t h
 | mat a b p G=>
  intro t h;simp only [aj]at h;split at h
  ·exact G t h
  ·rename_i h1;split at h
   ·simp at h
   ·rename_i H;simp at h;subst h;simp at H;exact⟨h1,H⟩
 | rep p G=>
  intro t h;simp only [aj]at h;split at h
  ·simp at h
  ·rename_i H;simp at h;subst h;simp at H;exact⟨trivial,H⟩
def I5 (u:U)(a b:Nat)(p:U)(h:T.mat a b p∈(aj u).2):a≠b/\p.dead=false:=sQ u _ h
def Ac:∀(n:Nat) (u:U),u.size<=n->Uq u->∀x,(td u).2.fh x->x∉(td u).1->u.Us x:=by
 intro n
 induction n with
 | zero=>intro u h;cases u<;>simp [T.size]at h
 | succ n Z=>
  intro u hn hu x H hx;obtain⟨h1,h2,_⟩:=fW u hu;rw [h1,JJ]at H;obtain⟨t,ht,H⟩:=H;have hx:x∉(aj u).1:=λh=>hx (h2.symm.subset h)
  have hle:=Bh u t ht;have G:=FK hu t ht;have β:=xQ u t ht;have key:t.Us x:=by
   cases t with
   | nil=>cases β
   | par=>cases β
   | res=>cases β
   | snd a b p=>
    simp only [T.size]at hle;simp only [tl,Lv.fh,reduceCtorEq,false_and,true_or,P0,QG,QT,Qw]at H;rcases H with(h | h) | ⟨h,h'⟩
    ·exact .inl h
    ·exact .inr (.inl h)
    ·exact .inr (.inr (Z p (by omega) G.snd x h' h))
   | rcv a b p=>
    simp only [T.size]at hle;simp only [tl,Lv.fh,reduceCtorEq,false_and,or_self,P0,QG,QT]at H;rcases H with h | ⟨h,δ,h'⟩
    ·exact .inl h
    ·exact .inr ⟨δ,Z p (by omega) G.rcv x h' h⟩
   | tau p=>
    simp only [T.size]at hle;simp only [tl,Lv.fh,reduceCtorEq,false_and,or_self,P0,QG,QT,Qw]at H;exact Z p (by omega) G.tau x H.2 H.1
   | rep p=>
    simp only [T.size]at hle;simp only [tl,Lv.fh,reduceCtorEq,false_and,or_self,P0,QG,QT,Qw]at H;exact Z p (by omega) G.rep x H.2 H.1
   | mat a b p=>
    simp only [T.size]at hle;obtain⟨γ,hd⟩:a≠b/\p.dead=false:=I5 u a b p ht;simp only [tl,Lv.fh,reduceCtorEq,false_and,or_true,P0,QG,QT,Qw]at H;rcases H with(h | h) | ⟨h,h'⟩
    ·exact .inr ⟨γ,hd,.inl h⟩
    ·exact .inr ⟨γ,hd,.inr (.inl h)⟩
    ·exact .inr ⟨γ,hd,.inr (.inr (Z p (by omega) G.mat x h' h))⟩
   | sum p q=>
    simp only [T.size]at hle;simp only [tl,Lv.fh,QG]at H;rw [JZ]at H;obtain⟨v,J,k1,k2⟩:=H;rcases NI.1 J with J | J
    ·have :=lP p v J;exact .inl ((lK p G.dO x).2 ⟨v,J,Z v (by omega) (xJ G.dO v J) x k2 k1⟩)
    ·have :=lP q v J;exact .inr ((lK q G.dG x).2 ⟨v,J,Z v (by omega) (xJ G.dG v J) x k2 k1⟩)
  exact(ll u hu t ht x key).resolve_right hx
def LP {u:U}(hu:Uq u){ρ ρ':Rh}(tk:Tk)(h:∀y,u.Us y->ρ y=ρ' y):LS u ρ tk=LS u ρ' tk:=
 dN (im _) (tK _) λx G H=>h x (Ac _ u (ND _) hu x H G)
def Ad:∀(l m:List Nat),l.Nodup->l.length=m.length->∃f:Nat->Nat,m=l.map f
 | [],[],_,_=>⟨id,rfl⟩
 | [],_::_,_,h=>by cases h
 | _::_,[],_,h=>by cases h
 | x::l,y::m,G,h=>by
  have G:=OB.1 G;obtain⟨f,H⟩:=Ad l m G.2 (by simpa using h);refine⟨aG f x y,?_⟩;rw [N4,H]
  congr 1
  ·simp [aG]
  ·exact OU λz J=>by
    unfold aG;rw [NS λe:z=x=>G.1 (e▸J)]
def AE.BP:∀{u Z:U} {σ J:Nat->Nat},AE σ u J Z->(BV u).length=(BV Z).length:=by
 intro u
 induction u<;>intro Z σ J h<;>cases Z<;>simp only [AE]at h<;>simp only [BV,Nv,NB]
 case snd.snd G _ _ _=>exact G h.2.2
 case mat.mat G _ _ _=>exact G h.2.2
 case rcv.rcv G _ _ _=>rw [G (h.2 0)]
 case res.res G _ _=>rw [G (h 0)]
 case tau.tau G _=>exact G h
 case rep.rep G _=>exact G h
 case sum.sum G H _ _=>rw [G h.1,H h.2]
 case par.par G H _ _=>rw [G h.1,H h.2]
def AE.J7 {f:Nat->Nat}:∀{u u':U} {σ δ:Nat->Nat},AE σ u δ u'->Uq u'->(∀y,u.Fr y->u'.Fr (f y)/\δ (f y)=σ y)->(∀y z,u'.Fr y->u'.Fr z->δ y=δ z->y=z)->BV u'=(BV u).map f->u'=u.map f:=by
 intro u
 induction u<;>intro u' σ δ h hu J hi hb<;>cases u'<;>simp only [AE]at h<;>simp only [T.map]
 case snd.snd a b p ih c d q=>
  have e1:c=f a:=hi _ _ (.inl rfl) (J a (.inl rfl)).1 (by rw [(J a (.inl rfl)).2,h.1]);have e2:d=f b:=hi _ _ (.inr (.inl rfl)) (J b (.inr (.inl rfl))).1 (by rw [(J b (.inr (.inl rfl))).2,h.2.1]);rw [<-e1,<-e2];rw [ih h.2.2 hu.snd (λy G=>?_) (λy z G hz=>hi y z (.inr (.inr G)) (.inr (.inr hz))) hb];obtain⟨H,h1,Z⟩:=h.2.2.free y G;have :=J y (.inr (.inr G));have e:H=f y:=hi _ _ (.inr (.inr h1)) this.1 (by rw [Z,this.2]);exact⟨e▸h1,this.2⟩
 case mat.mat a b p ih c d q=>
  have e1:c=f a:=hi _ _ (.inl rfl) (J a (.inl rfl)).1 (by rw [(J a (.inl rfl)).2,h.1]);have e2:d=f b:=hi _ _ (.inr (.inl rfl)) (J b (.inr (.inl rfl))).1 (by rw [(J b (.inr (.inl rfl))).2,h.2.1]);rw [<-e1,<-e2];rw [ih h.2.2 hu.mat (λy G=>?_) (λy z G hz=>hi y z (.inr (.inr G)) (.inr (.inr hz))) hb];obtain⟨H,h1,Z⟩:=h.2.2.free y G;have :=J y (.inr (.inr G));have e:H=f y:=hi _ _ (.inr (.inr h1)) this.1 (by rw [Z,this.2]);exact⟨e▸h1,this.2⟩
 case rcv.rcv a x p ih c z q=>
  simp only [BV,N4,O5]at hb;have e1:c=f a:=hi _ _ (.inl rfl) (J a (.inl rfl)).1 (by rw [(J a (.inl rfl)).2,h.1]);rw [<-e1,<-hb.1];obtain⟨v,h1,Z⟩:=bQ p q σ δ;have hz:¬(T.rcv c z q).Fr z:=hu.nf z (by simp [BV]);rw [ih (h.2 v) hu.rcv (λy G=>?_) (λy H G ζ e=>?_) hb.2]
  ·obtain⟨H,k1,k2⟩:=(h.2 v).free y G;by_cases e:y=x
   ·subst e;rw [cB]at k2;have:H=z:=OX λε=>by
     rw [bB _ _ ε]at k2;exact Z H k1 k2
    subst this;rw [<-hb.1,cB,cB];exact⟨k1,rfl⟩
   ·have β:=J y (.inr ⟨e,G⟩);have ε:f y≠z:=λe'=>hz (e'▸β.1)
    rw [bB _ _ e]at k2|-;rw [bB _ _ ε];have γ:H≠z:=λe'=>by
     rw [e',cB]at k2;exact h1 y G k2.symm
    rw [bB _ _ γ]at k2;have e2:H=f y:=hi _ _ (.inr ⟨γ,k1⟩) β.1 (by rw [k2,β.2]);exact⟨e2▸k1,β.2⟩
  ·by_cases g1:y=z<;>by_cases g2:H=z
   ·rw [g1,g2]
   ·rw [g1,cB,bB _ _ g2]at e;exact absurd e.symm (Z H ζ)
   ·rw [g2,cB,bB _ _ g1]at e;exact absurd e (Z y G)
   ·rw [bB _ _ g1,bB _ _ g2]at e;exact hi y H (.inr ⟨g1,G⟩) (.inr ⟨g2,ζ⟩) e
 case res.res x p ih z q=>
  simp only [BV,N4,O5]at hb;rw [<-hb.1];obtain⟨v,h1,Z⟩:=bQ p q σ δ;have hz:¬(T.res z q).Fr z:=hu.nf z (by simp [BV]);rw [ih (h v) hu.res (λy G=>?_) (λy H G ζ e=>?_) hb.2]
  ·obtain⟨H,k1,k2⟩:=(h v).free y G;by_cases e:y=x
   ·subst e;rw [cB]at k2;have:H=z:=OX λε=>by
     rw [bB _ _ ε]at k2;exact Z H k1 k2
    subst this;rw [<-hb.1,cB,cB];exact⟨k1,rfl⟩
   ·have β:=J y ⟨e,G⟩;have ε:f y≠z:=λe'=>hz (e'▸β.1)
    rw [bB _ _ e]at k2|-;rw [bB _ _ ε];have γ:H≠z:=λe'=>by
     rw [e',cB]at k2;exact h1 y G k2.symm
    rw [bB _ _ γ]at k2;have e2:H=f y:=hi _ _ ⟨γ,k1⟩ β.1 (by rw [k2,β.2]);exact⟨e2▸k1,β.2⟩
  ·by_cases g1:y=z<;>by_cases g2:H=z
   ·rw [g1,g2]
   ·rw [g1,cB,bB _ _ g2]at e;exact absurd e.symm (Z H ζ)
   ·rw [g2,cB,bB _ _ g1]at e;exact absurd e (Z y G)
   ·rw [bB _ _ g1,bB _ _ g2]at e;exact hi y H ⟨g1,G⟩ ⟨g2,ζ⟩ e
 case tau.tau p ih q=>rw [ih h hu.tau J hi hb]
 case rep.rep p ih q=>rw [ih h hu.rep J hi hb]
 case sum.sum p p' ih η q q'=>
  simp only [BV,Oj]at hb;obtain⟨b1,b2⟩:=List.append_inj hb (by rw [NH,h.1.BP]);rw [ih h.1 hu.dO (λy G=>?_) (λy z G hz=>hi y z (.inl G) (.inl hz)) b1,η h.2 hu.dG (λy G=>?_) (λy z G hz=>hi y z (.inr G) (.inr hz)) b2]
  ·obtain⟨H,h1,Z⟩:=h.2.free y G;have :=J y (.inr G);have e:H=f y:=hi _ _ (.inr h1) this.1 (by rw [Z,this.2]);exact⟨e▸h1,this.2⟩
  ·obtain⟨H,h1,Z⟩:=h.1.free y G;have :=J y (.inl G);have e:H=f y:=hi _ _ (.inl h1) this.1 (by rw [Z,this.2]);exact⟨e▸h1,this.2⟩
 case par.par p p' ih η q q'=>
  simp only [BV,Oj]at hb;obtain⟨b1,b2⟩:=List.append_inj hb (by rw [NH,h.1.BP]);rw [ih h.1 hu.fX (λy G=>?_) (λy z G hz=>hi y z (.inl G) (.inl hz)) b1,η h.2 hu.fD (λy G=>?_) (λy z G hz=>hi y z (.inr G) (.inr hz)) b2]
  ·obtain⟨H,h1,Z⟩:=h.2.free y G;have :=J y (.inr G);have e:H=f y:=hi _ _ (.inr h1) this.1 (by rw [Z,this.2]);exact⟨e▸h1,this.2⟩
  ·obtain⟨H,h1,Z⟩:=h.1.free y G;have :=J y (.inl G);have e:H=f y:=hi _ _ (.inl h1) this.1 (by rw [Z,this.2]);exact⟨e▸h1,this.2⟩
def T.kG {D:Nat->Prop}:∀{u:U},(∀x,u.Fr x->D x)->(∀x∈BV u,D x)->u.Al D
 | .nil,_,_=>trivial
 | .snd a b p,h,k=>⟨h a (.inl rfl),h b (.inr (.inl rfl)),T.kG (λx G=>h x (.inr (.inr G))) k⟩
 | .mat a b p,h,k=>⟨h a (.inl rfl),h b (.inr (.inl rfl)),T.kG (λx G=>h x (.inr (.inr G))) k⟩
 | .rcv a y p,h,k=>⟨h a (.inl rfl),k y (by simp [BV]),T.kG (λx G=>by
   by_cases e:x=y
   ·subst e;exact k x (by simp [BV])
   ·exact h x (.inr ⟨e,G⟩)) λx G=>k x (by simp [BV,G])⟩
 | .res y p,h,k=>⟨k y (by simp [BV]),T.kG (λx G=>by
   by_cases e:x=y
   ·subst e;exact k x (by simp [BV])
   ·exact h x ⟨e,G⟩) λx G=>k x (by simp [BV,G])⟩
 | .tau p,h,k=>T.kG (u:=p) h k
 | .rep p,h,k=>T.kG (u:=p) h k
 | .sum p q,h,k=>⟨T.kG (λx G=>h x (.inl G)) λx G=>k x (Ob _ G),T.kG (λx G=>h x (.inr G)) λx G=>k x (N1 _ G)⟩
 | .par p q,h,k=>⟨T.kG (λx G=>h x (.inl G)) λx G=>k x (Ob _ G),T.kG (λx G=>h x (.inr G)) λx G=>k x (N1 _ G)⟩
def mJ {f:Nat->Nat}:∀{l:List Nat},(l.map f).Nodup->∀x∈l,∀y∈l,f x=f y->x=y
 | [],_,_,h,_,_,_=>by cases h
 | z::l,H,x,J,y,Z,e=>by
  rw [N4,OB]at H;rcases NV.1 J with h1 | h1<;>rcases NV.1 Z with G | G
  ·rw [h1,G]
  ·exact absurd (Oe.2 ⟨y,G,by rw [<-e,h1]⟩) H.1
  ·exact absurd (Oe.2 ⟨x,h1,by rw [e,G]⟩) H.1
  ·exact mJ H.2 x h1 y G e
def AE.Kc {u Z:U}{σ J:Nat->Nat}(h:AE σ u J Z)(hu:Uq u)(β:Uq Z)(hi:∀y z,u.Fr y->u.Fr z->σ y=σ z->y=z)(δ:∀y z,Z.Fr y->Z.Fr z->J y=J z->y=z):
  ∃(f:Nat->Nat) (D:Nat->Prop),Z=u.map f/\u.Al D/\(∀x y,D x->D y->f x=f y->x=y)/\∀y,u.Fr y->Z.Fr (f y)/\J (f y)=σ y:=by
 obtain⟨g,hg⟩:=Ad (BV u) (BV Z) hu.nd h.BP;have γ:∀y,∃y',u.Fr y->Z.Fr y'/\J y'=σ y:=λy=>by
  by_cases H:u.Fr y
  ·obtain⟨y',h1,h2⟩:=h.free y H;exact⟨y',λ _=>⟨h1,h2⟩⟩
  ·exact⟨0,λk=>absurd k H⟩
 let f:Nat->Nat:=λy=>if u.Fr y then Classical.choose (γ y)else g y
 have f1:∀y,u.Fr y->Z.Fr (f y)/\J (f y)=σ y:=λy H=>by
  have:f y=Classical.choose (γ y):=N' H;rw [this];exact Classical.choose_spec (γ y) H
 have f2:BV Z=(BV u).map f:=by
  rw [hg];exact OU λx G=>(NS (hu.nf x G)).symm
 refine⟨f,λx=>u.Fr x\/x∈BV u,h.J7 β f1 δ f2,T.kG (λx G=> .inl G) (λx G=> .inr G),?_,f1⟩;intro x y G H e;have hb:∀x∈BV u,f x∈BV Z:=λx G=>by rw [f2];exact Pd G
 rcases G with G | G<;>rcases H with H | H
 ·exact hi x y G H (by rw [<-(f1 x G).2,<-(f1 y H).2,e])
 ·exact absurd (e▸(f1 x G).1) (β.nf _ (hb y H))
 ·exact absurd (e▸(f1 y H).1) (λk=>β.nf _ (hb x G) (by rw [e];exact(f1 y H).1))
 ·exact mJ (f2▸β.nd) x G y H e
def JX {u G:U}{σ H:Nat->Nat}(h:AE σ u H G)(hu:Uq u)(J:Uq G)(hi:∀y z,u.Fr y->u.Fr z->σ y=σ z->y=z)(Z:∀y z,G.Fr y->G.Fr z->H y=H z->y=z)
  {ρ ρ':Rh} (β:∀y y',u.Us y->G.Fr y'->σ y=H y'->ρ y=ρ' y') (tk:Tk):LS u ρ tk=LS G ρ' tk/\cT u=cT G/\cz u=cz G/\aX u=aX G:=by
 obtain⟨f,D,rfl,h1,h2,h3⟩:=h.Kc hu J hi Z;obtain⟨k1,k2,k3⟩:=HL h2 h1;refine⟨?_,k1.symm,k2.symm,k3.symm⟩;rw [Ky h2 h1];exact LP hu tk λy hy=>β y (f y) hy (h3 y (T.bf hy)).1 (h3 y (T.bf hy)).2.symm
namespace T
section
variable {A B:Type}
def tg:T A->Nat
 | nil=>0 | snd .. =>1 | rcv .. =>2 | tau .. =>3 | sum .. =>4 | par .. =>5 | res .. =>6 | mat .. =>7 | rep .. =>8
def gp:T A->Bool
 | nil=>true | snd .. =>true | rcv .. =>true | tau .. =>true | sum .. =>true
 | par .. =>false | res .. =>false | mat .. =>false | rep .. =>false
def isR:T A->Bool
 | rcv .. =>true
 | _=>false
def smp:T A->Bool
 | nil=>true | snd _ _ p=>p.smp | rcv _ _ p=>p.smp | tau p=>p.smp | sum p q=>(p.gp&&q.gp)&&(p.smp&&q.smp) | par p q=>p.smp&&q.smp
 | res _ p=>p.smp | mat _ _ p=>p.smp | rep p=>p.isR&&p.smp
def z8 {t:T A}:t.gp=decide (t.tg< 5):=by cases t<;>rfl
def Fc {t:T A}:t.isS=decide (t.tg=4):=by cases t<;>rfl
def xG {t:T A}:t.isR=decide (t.tg=2):=by cases t<;>rfl
def Fa [DecidableEq A][DecidableEq B]{p:T A}{q:T B}{ρ:A->Nat}{σ:B->Nat}(h:AE ρ p σ q):p.tg=q.tg:=by
 cases p<;>cases q<;>first | exact h.elim | rfl
def xk [DecidableEq A][DecidableEq B]{p:T A}{q:T B}{ρ:A->Nat}{σ:B->Nat}(h:AE ρ p σ q):p.smp=q.smp:=by
 induction p generalizing q ρ σ<;>cases q<;>simp only [AE]at h<;>simp only [smp]
 case snd.snd G _ _ _=>exact G h.2.2
 case mat.mat G _ _ _=>exact G h.2.2
 case rcv.rcv G _ _ _=>exact G (h.2 0)
 case res.res G _ _=>exact G (h 0)
 case tau.tau G _=>exact G h
 case rep.rep G _=>rw [G h,xG,xG,Fa h]
 case sum.sum G H _ _=>rw [G h.1,H h.2,z8,z8,z8,z8,Fa h.1,Fa h.2]
 case par.par G H _ _=>rw [G h.1,H h.2]
end
end T
structure MM (t w:U):Prop where
 th:w.th=true
 nr:w.Nr
 uq:Uq w
 bv:∀x∈BV w,x∈BV t
 us:∀x,w.Us x↔t.Us x
 tx:∀ρ tk,thU w ρ tk=thU t ρ tk
 bad:∀tk,thBad (tl [w]) tk=thBad (tl [t]) tk
 all:thAll (tl [w])=thAll (tl [t])
 most:an (tl [w])=an (tl [t])
 smp:t.smp=true->w.smp=true
 tg:w.tg=t.tg
structure M9 (u v:U):Prop where
 nr:v.Nr
 uq:Uq v
 bv:∀x∈BV v,x∈BV u
 us:∀x,v.Us x↔u.Us x
 ls:∀ρ tk,LS v ρ tk=LS u ρ tk
 bad:∀tk,cT v tk=cT u tk
 all:cz v=cz u
 most:aX v=aX u
 dead:v.dead=u.dead
 smp:u.smp=true->v.smp=true
 tg:∀t,aj u=([],[t])->v.tg=t.tg
 isS:(∀p q,aj u≠([],[T.sum p q]))->v.isS=false
def qv {t w:U}(G:(BV w).Nodup)(nr:w.Nr)(hb:∀x∈BV w,x∈BV t)(hu:∀x,w.Us x->t.Us x)(H:Uq t):Uq w:=
 ⟨G,λx J Z=>H.nf x (hb x J) (T.bf (hu x (nr.iy Z)))⟩
def AE.J1 {p:P}{q:U}{ρ:Rh}{y:Nat}{c:UInt8}(G:∀z,q.Fr z->z≠y->ρ z≠c)(h:AE UInt8.toNat p (λz=>(aG ρ y c z).toNat) q)(v:Nat):AE (aG UInt8.toNat c v) p (aG (λz=>(ρ z).toNat) y v) q:=by
 refine(h.map λn=>if n=c.toNat then v else n).congr (λx _=>?_) λz H=>?_
 ·unfold aG;by_cases e:x=c
  ·subst e;simp
  ·rw [NS e,NS λh=>e (N6.1 h)]
 ·unfold aG;by_cases e:z=y
  ·subst e;simp
  ·simp only [NS e];rw [NS λh=>G z H e (N6.1 h)]
def bz:∀(π:List Nat) (ls:List UInt8) (ρ:Rh) (x:Nat),x∉π->asg π ls ρ x=ρ x
 | [],_,_,_,_=>by simp [asg]
 | _::_,[],_,_,_=>by simp [asg]
 | y::π,c::ls,ρ,x,h=>by
  simp only [NV,QP]at h;rw [asg,bz π ls _ x h.2];unfold aG;rw [NS h.1]
def cZ:∀(π:List Nat) (ls:List UInt8) (ρ:Rh) (x:Nat),x∈π->π.length=ls.length->asg π ls ρ x∈ls
 | [],_,_,_,h,_=>by cases h
 | _::_,[],_,_,_,h=>by cases h
 | y::π,c::ls,ρ,x,h,H=>by
  rw [asg];by_cases G:x∈π
  ·exact NJ _ (cZ π ls _ x G (by simpa using H))
  ·have e:x=y:=(NV.1 h).resolve_right G;subst e;rw [bz π ls _ x G];simp [aG]
def rP:∀(π:List Nat) (ls:List UInt8) (ρ:Rh) (x z:Nat),x∈π->z∈π->π.length=ls.length->ls.Nodup->asg π ls ρ x=asg π ls ρ z->x=z
 | [],_,_,_,_,h,_,_,_,_=>by cases h
 | _::_,[],_,_,_,_,_,h,_,_=>by cases h
 | y::π,c::ls,ρ,x,z,hx,hz,J,G,e=>by
  have G:=OB.1 G;have Z:π.length=ls.length:=by simpa using J
  rw [asg]at e;by_cases h1:x∈π<;>by_cases H:z∈π
  ·exact rP π ls _ x z h1 H Z G.2 e
  ·have e2:z=y:=(NV.1 hz).resolve_right H;subst e2;rw [bz π ls _ z H]at e;have :=cZ π ls (aG ρ z c) x h1 (by simpa using J);rw [e]at this;exact absurd (by simpa [aG]using this) G.1
  ·have e2:x=y:=(NV.1 hx).resolve_right h1;subst e2;rw [bz π ls _ x h1]at e;have :=cZ π ls (aG ρ x c) z H (by simpa using J);rw [<-e]at this;exact absurd (by simpa [aG]using this) G.1
  ·rw [(NV.1 hx).resolve_right h1,(NV.1 hz).resolve_right H]
def AE.DM {p:P}{q:U}:∀(π:List Nat) (ls:List UInt8) (ρ:Rh),π.length=ls.length->ls.Nodup->(∀z,q.Fr z->z∉π->ρ z∉ls)->AE UInt8.toNat p (λz=>(asg π ls ρ z).toNat) q->
  AE UInt8.toNat (T.resL ls p) (λz=>(ρ z).toNat) (T.resL π q)
 | [],[],_,_,_,_,h=>h
 | [],_::_,_,h,_,_,_=>by cases h
 | _::_,[],_,h,_,_,_=>by cases h
 | y::π,c::ls,ρ,hl,H,Z,h=>by
  have H:=OB.1 H;have ih:=AE.DM π ls (aG ρ y c) (by simpa using hl) H.2 (λz G hm=>by
   unfold aG;split
   ·exact H.1
   ·rename_i e;exact λJ=>Z z G (by simp [e,hm]) (NJ _ J)) h
  intro v;refine AE.J1 (λz G e=>?_) ih v;have G:=T.c8.1 G;exact λJ=>Z z G.2 (by simp [e,G.1]) (by rw [J];exact Oa ..)
def Br (a b:UInt8)(r:Tx):kText .m a b r=kText .m b a r:=by
 unfold kText;by_cases h1:b< a
 ·have G:¬a< b:=λh=>by
   rw [Ol]at h h1;omega
  simp [h1,G]
 ·by_cases G:a< b
  ·simp [h1,G]
  ·have:a=b:=by
    apply N6.1;rw [Ol]at h1 G;omega
   subst this;rfl
def A3 {α:Type}{f:α->Bool}{l m:List α}(h:l.Perm m):l.any f=m.any f:=by
 rw [OD,PA,PA];exact⟨fun⟨x,h1,G⟩=>⟨x,h.subset h1,G⟩,fun⟨x,h1,G⟩=>⟨x,h.symm.subset h1,G⟩⟩
def iJ {l m:List Nat}(h:l.Perm m):l.sum=m.sum:=by
 induction h with
 | nil=>rfl
 | cons x _ G=>simp [G]
 | swap x y l=>simp;omega
 | trans _ _ h1 H=>exact h1.trans H
def triples {α β γ:Type}{R:α->β->γ->Prop}:∀{l:List α},(∀a∈l,∃b c,R a b c)->∃zs:List (α×β×γ),zs.map (·.1)=l/\∀z∈zs,R z.1 z.2.1 z.2.2
 | [],_=>⟨[],rfl,λz h=>by cases h⟩
 | a::l,h=>by
  obtain⟨b,c,hr⟩:=h a (Oa ..);obtain⟨zs,h1,H⟩:=triples (l:=l) λa ha=>h a (NJ _ ha)
  refine⟨(a,b,c)::zs,by simp [h1],λz G=>?_⟩;rcases NV.1 G with rfl | G
  ·exact hr
  ·exact H z G
def vK {α:Type}(zs:List α)(g:α->Tx):∃G:List α,G.Perm zs/\G.map g=bk (zs.map g):=by
 refine⟨zs.mergeSort λa b=>jg (g a) (g b),List.mergeSort_perm _ _,?_⟩
 symm
 refine ud ?_ ((List.mergeSort_perm _ _).map g);have :=List.pairwise_mergeSort (le:=λa b:α=>jg (g a) (g b)) (λa b c=>gF _ _ _) (λa b=>pM _ _) zs;exact List.pairwise_map.2 this
def dP (p:U):∀l:List Nat,BV (T.resL l p)=l++BV p
 | []=>rfl
 | x::l=>by simp only [T.resL,BV,dP p l,Oz]
def dT:∀l:List U,BV (T.parL l)=l.flatMap BV
 | []=>rfl
 | [t]=>by simp [T.parL]
 | t::u::l=>by simp only [T.parL,BV,dT (u::l),Ou]
def yL:∀l:List U,BV (T.db l)=l.flatMap BV
 | []=>rfl
 | [t]=>by simp [T.db]
 | t::u::l=>by simp only [T.db,BV,yL (u::l),Ou]
def qo {α:Type}{f g:α->List Nat}:∀{l:List α},(l.flatMap f).Nodup->(∀z∈l,(g z).Nodup/\∀x∈g z,x∈f z)->(l.flatMap g).Nodup
 | [],_,_=>O8
 | z::l,G,h=>by
  rw [Ou]at G|-;have G:=Oc.1 G;refine Oc.2 ⟨(h z (Oa ..)).1,qo G.2.1 λy H=>h y (NJ _ H),λa ha b hb=>?_⟩;obtain⟨y,H,J⟩:=OF.1 hb;exact G.2.2 a ((h z (Oa ..)).2 a ha) b (OF.2 ⟨y,H,(h y (NJ _ H)).2 b J⟩)
def Gc:∀u:U,Uq u->((ak u).flatMap BV).Nodup:=by
 intro u;have sub:∀u:U,∀x∈(ak u).flatMap BV,x∈BV u:=λu x J=>by
  obtain⟨t,h1,Z⟩:=OF.1 J;exact zI u t h1 x Z
 induction u with
 | nil=>intro _;simp [ak]
 | snd a b p G=>intro h;simpa [ak]using h.nd
 | rcv a b p G=>intro h;simpa [ak]using h.nd
 | tau p G=>intro h;simpa [ak]using h.nd
 | sum p q G H=>
  intro h;simp only [ak,OZ];exact Oc.2 ⟨G h.dO,H h.dG,λa ha b hb=>(Oc.1 h.nd).2.2 a (sub p a ha) b (sub q b hb)⟩
 | par p q G H=>
  intro h;simp only [ak];split
  ·exact H h.fD
  ·split
   ·exact G h.fX
   ·simpa using h.nd
 | res x p G=>
  intro h;simp only [ak];split
  ·simpa using h.nd
  ·exact G h.res
 | mat a b p G=>
  intro h;simp only [ak];split
  ·exact G h.mat
  ·split
   ·simp
   ·simpa using h.nd
 | rep p G=>
  intro h;simp only [ak];split
  ·simp
  ·simpa using h.nd
def IA:∀u:U,Uq u->((aj u).1++(aj u).2.flatMap BV).Nodup:=by
 intro u;have sub:∀u:U,∀x∈(aj u).1++(aj u).2.flatMap BV,x∈BV u:=λu x H=>by
  rcases NI.1 H with H | H
  ·exact iB u x H
  ·obtain⟨t,h1,Z⟩:=OF.1 H;exact C9 u t h1 x Z
 induction u with
 | nil=>intro _;simp [aj]
 | snd a b p G=>intro h;simpa [aj]using h.nd
 | rcv a b p G=>intro h;simpa [aj]using h.nd
 | tau p G=>intro h;simpa [aj]using h.nd
 | sum p q G J=>
  intro h;simp only [aj];split
  ·exact J h.dG
  ·split
   ·exact G h.dO
   ·simpa using h.nd
 | par p q G J=>
  intro h;have hp:(((aj p).1++(aj q).1)++((aj p).2++(aj q).2).flatMap BV).Perm (((aj p).1++(aj p).2.flatMap BV)++((aj q).1++(aj q).2.flatMap BV)):=by
   rw [OZ];exact sG _ _ _ _
  simp only [aj];rw [hp.nodup_iff];exact Oc.2 ⟨G h.fX,J h.fD,λa ha b hb=>(Oc.1 h.nd).2.2 a (sub p a ha) b (sub q b hb)⟩
 | res x p G=>
  intro h;simp only [aj];split
  ·exact OB.2 ⟨λH=>h.fY (sub p x H),G h.res⟩
  ·exact G h.res
 | mat a b p G=>
  intro h;simp only [aj];split
  ·exact G h.mat
  ·split
   ·simp
   ·simpa using h.nd
 | rep p G=>
  intro h;simp only [aj];split
  ·simp
  ·simpa using h.nd
def yw {u:U}(h:u.dead=false)(hu:Uq u):(aj u).2≠[]:=λe=>by
 have h1:=(fW u hu).1;rw [e]at h1;have :=(kU u).1 h;rw [h1]at this;exact this rfl
def H0 {u:U}(hu:Uq u)(h:(aj u).2=[]):u.dead=true:=by
 cases hd:u.dead with
 | true=>rfl
 | false=>exact absurd h (yw hd hu)
def pj {u:U}(h:u.dead=false)(hu:Uq u):ak u≠[]:=λe=>by
 have h1:=(fW u hu).2.2;rw [e]at h1;have :=(bG u).2.1;rw [h1]at this;rw [this.1 rfl]at h;cases h
def Ew:∀u:U,Uq u->∀t∈ak u,∀p q,aj t≠([],[T.sum p q]):=by
 intro u
 induction u with
 | nil=>intro _ t h;simp [ak]at h
 | snd=>intro _ t h;simp [ak]at h;subst h;intro p q e;simp [aj]at e
 | rcv=>intro _ t h;simp [ak]at h;subst h;intro p q e;simp [aj]at e
 | tau=>intro _ t h;simp [ak]at h;subst h;intro p q e;simp [aj]at e
 | sum p q G H=>
  intro hu t h;simp only [ak,NI]at h;exact h.elim (G hu.dO t) (H hu.dG t)
 | par p q G H=>
  intro hu t h;simp only [ak]at h;split at h
  ·exact H hu.fD t h
  ·rename_i h1;split at h
   ·exact G hu.fX t h
   ·rename_i J;simp at h;subst h;intro p' q' e;have Z:=Ot Prod.snd e;simp only [aj]at Z;have l1:(aj p).2.length≠0:=λe=>yw (by simpa using h1) hu.fX (N3 e)
    have l2:(aj q).2.length≠0:=λe=>yw (by simpa using J) hu.fD (N3 e)
    have :=Ot List.length Z;simp only [NB,Nv,NR]at this;omega
 | res x p G=>
  intro hu t h;simp only [ak]at h;split at h
  ·rename_i h1;simp at h;subst h;intro p' q' e;have Z:=Ot Prod.fst e;simp [aj,h1]at Z
  ·exact G hu.res t h
 | mat a b p G=>
  intro hu t h;simp only [ak]at h;split at h
  ·exact G hu.mat t h
  ·rename_i h1;split at h
   ·simp at h
   ·rename_i J;simp at h;subst h;intro p' q' e;simp [aj,h1,J]at e
 | rep p G=>
  intro hu t h;simp only [ak]at h;split at h
  ·simp at h
  ·rename_i J;simp at h;subst h;intro p' q' e;simp [aj,J]at e
def DX:∀(u:U),∀t∈ak u,t.dead=false:=by
 intro u
 induction u with
 | nil=>intro t h;simp [ak]at h
 | snd=>intro t h;simp [ak]at h;subst h;rfl
 | rcv=>intro t h;simp [ak]at h;subst h;rfl
 | tau=>intro t h;simp [ak]at h;subst h;rfl
 | sum p q G H=>intro t h;simp only [ak,NI]at h;exact h.elim (G t) (H t)
 | par p q G H=>
  intro t h;simp only [ak]at h;split at h
  ·exact H t h
  ·rename_i h1;split at h
   ·exact G t h
   ·simp at h;subst h;simp at h1;simp [T.dead,h1]
 | res x p G=>
  intro t h;simp only [ak]at h;split at h
  ·rename_i h1;simp at h;subst h;cases hd:p.dead with
   | false=>exact hd
   | true=>rw [lT hd]at h1;cases h1
  ·exact G t h
 | mat a b p G=>
  intro t h;simp only [ak]at h;split at h
  ·exact G t h
  ·split at h
   ·simp at h
   ·rename_i J;simp at h;subst h;simp at J;exact J
 | rep p G=>
  intro t h;simp only [ak]at h;split at h
  ·simp at h
  ·rename_i J;simp at h;subst h;simp at J;exact J
def xm:∀u:U,u.gp=true->u.smp=true->∀t∈ak u,(t.tg=1\/t.tg=2\/t.tg=3)/\aj t=([],[t])
 | .nil,_,_,t,h=>by simp [ak]at h
 | .snd ..,_,_,t,h=>by simp [ak]at h;subst h;exact⟨.inl rfl,rfl⟩
 | .rcv ..,_,_,t,h=>by simp [ak]at h;subst h;exact⟨.inr (.inl rfl),rfl⟩
 | .tau ..,_,_,t,h=>by simp [ak]at h;subst h;exact⟨.inr (.inr rfl),rfl⟩
 | .sum p q,_,G,t,h=>by
  simp only [T.smp,Nz]at G;simp only [ak,NI]at h;exact h.elim (xm p G.1.1 G.2.1 t) (xm q G.1.2 G.2.2 t)
 | .par ..,h,_,_,_=>by cases h
 | .res ..,h,_,_,_=>by cases h
 | .mat ..,h,_,_,_=>by cases h
 | .rep ..,h,_,_,_=>by cases h
def AS {l:List U}(h:∀t∈l,t.smp=true):(T.parL l).smp=true:=by
 induction l with
 | nil=>rfl
 | cons t l G=>
  cases l with
  | nil=>exact h t (by simp)
  | cons u l=>
   simp only [T.parL,T.smp,Nz];exact⟨h t (by simp),G λt H=>h t (NJ _ H)⟩
def AV {p:U}(l:List Nat):(T.resL l p).smp=p.smp:=by
 induction l with
 | nil=>rfl
 | cons x l G=>exact G
def Fk {l:List U}(H:l≠[])(h:∀t∈l,t.smp=true/\t.gp=true):(T.db l).smp=true/\(T.db l).gp=true:=by
 induction l with
 | nil=>exact absurd rfl H
 | cons t l J=>
  cases l with
  | nil=>exact h t (by simp)
  | cons u l=>
   obtain⟨h1,Z⟩:=J (by simp) λt G=>h t (NJ _ G)
   have G:=h t (by simp);simp only [T.db,T.smp,Nz];exact⟨⟨⟨G.2,Z⟩,G.1,h1⟩,rfl⟩
def Hu (u:U)(h:u.smp=true):∀t∈ak u,t.smp=true:=
 rE (λt=>t.smp=true) (λp q h=>by simp only [T.smp,Nz]at h;exact h.2) (λp q h=>by simpa only [T.smp,Nz]using h) (λ _ _ h=>h) (λ _ _ _ h=>h) u h
def IW (u:U)(h:u.smp=true):∀t∈(aj u).2,t.smp=true:=
 xu (λt=>t.smp=true) (λp q h=>by simp only [T.smp,Nz]at h;exact h.2) (λp q h=>by simpa only [T.smp,Nz]using h) (λ _ _ h=>h) (λ _ _ _ h=>h) u h
def AE.db {ρ:UInt8->Nat}{σ:Nat->Nat}:∀{l:List (U×P×U)},(∀z∈l,AE ρ z.2.1 σ z.2.2)->AE ρ (T.db (l.map (·.2.1))) σ (T.db (l.map (·.2.2)))
 | [],_=>trivial
 | [z],h=>h z (by simp)
 | z::y::l,h=>⟨h z (by simp),AE.db (l:=y::l) λt G=>h t (NJ _ G)⟩
def AE.parL {ρ:UInt8->Nat}{σ:Nat->Nat}:∀{l:List (U×P×U)},(∀z∈l,AE ρ z.2.1 σ z.2.2)->AE ρ (T.parL (l.map (·.2.1))) σ (T.parL (l.map (·.2.2)))
 | [],_=>trivial
 | [z],h=>h z (by simp)
 | z::y::l,h=>⟨h z (by simp),AE.parL (l:=y::l) λt G=>h t (NJ _ G)⟩
def CC {D:UInt8->Prop}:∀{l:List P},(∀t∈l,t.Al D)->(T.db l).Al D
 | [],_=>trivial
 | [z],h=>h z (by simp)
 | z::y::l,h=>⟨h z (by simp),CC (l:=y::l) λt G=>h t (NJ _ G)⟩
def DN {D:UInt8->Prop}:∀{l:List P},(∀t∈l,t.Al D)->(T.parL l).Al D
 | [],_=>trivial
 | [z],h=>h z (by simp)
 | z::y::l,h=>⟨h z (by simp),DN (l:=y::l) λt G=>h t (NJ _ G)⟩
def CF {D:UInt8->Prop}{p:P}(G:p.Al D):∀{l:List UInt8},(∀c∈l,D c)->(T.resL l p).Al D
 | [],_=>G
 | c::l,h=>⟨h c (by simp),CF G (l:=l) λt H=>h t (NJ _ H)⟩
def fp {w:U}(h:w.isS=true)(ρ:Rh)(tk:Tk):thU w ρ tk=joinS 43 (bk ((ak w).map λu=>LS u ρ tk))/\tl [w]= .sum (tp (ak w)) .nil:=by
 cases w<;>first | (cases h;done) | exact⟨rfl,rfl⟩
def Dn {a b:Nat}(h:∀n,a<=n↔b<=n):a=b:=by
 have h1:=(h a).1 (ND _);have G:=(h b).2 (ND _);omega
end
def y4.sub {k m:Nat}{Θ:Tx}{σ:Nat->Nat}{u v:U}(h:y4 k Θ σ u)(hk:k<=m)(H:∀y,v.Us y->u.Us y):y4 m Θ σ v:=
 ⟨h.srt,λc G=>⟨(h.okn c G).1.mono hk,(h.okn c G).2⟩,λy J=>h.cov y (H y J)⟩
def Compat.sub {ρ:Rh}{σ:Nat->Nat}{u v:U}(h:Compat ρ σ u)(G:∀y,v.Us y->u.Us y):Compat ρ σ v:=λy H=>h y (G y H)
def jD {c:UInt8}(h:nm c=true):¬c=35:=(tj h).2.2.2.1
def a7 {c:UInt8}(h:¬c=35)(l:Tx):(c::l).count 35=l.count 35:=by
 rw [List.count_cons];simp [h]
def TR.snd {on:Bool}{a b:Nat}{p:U}{σ:Nat->Nat}{Θ r:Tx}{x y:UInt8}(Z:nm x=true)(G:nm y=true)(ex:x.toNat=σ a)(ey:y.toNat=σ b)(h:WR on p σ Θ r):TR on (.snd a b p) σ Θ (x::33::y::46::r):=by
 refine⟨by simp,?_,λhm=>?_,λhm H hb=>?_,λhm H hb ρ J=>?_⟩
 ·have :=h.len;simp only [Nv,T.aK];omega
 ·rw [eO]at hm;rw [a7 (jD Z),a7 (by decide),a7 (jD G),a7 (by decide),h.cnt hm,pG]
 ·rw [eO]at hm;rw [iP]at hb;obtain⟨c,h1,h2⟩:=h.bad hm H hb;exact⟨c,by simp [h1],h2⟩
 ·rw [eO]at hm;rw [iP]at hb;have e1:ρ a=x:=N6.1 ((J a (.inl rfl)).trans ex.symm);have e2:ρ b=y:=N6.1 ((J b (.inr (.inl rfl))).trans ey.symm);simp only [thU,kText,e1,e2];rw [h.eq hm H hb ρ (J.sub λy G=> .inr (.inr G))]
def TR.tau {on:Bool}{p:U}{σ:Nat->Nat}{Θ r:Tx}(h:WR on p σ Θ r):TR on (.tau p) σ Θ (126::46::r):=by
 refine⟨by simp,?_,λhm=>?_,λhm G hb=>?_,λhm G hb ρ H=>?_⟩
 ·have :=h.len;simp only [Nv,T.aK];omega
 ·rw [eN]at hm;rw [a7 (by decide),a7 (by decide),h.cnt hm,pV]
 ·rw [eN]at hm;rw [iR]at hb;obtain⟨c,h1,J⟩:=h.bad hm G hb;exact⟨c,by simp [h1],J⟩
 ·rw [eN]at hm;rw [iR]at hb;simp only [thU,kText];rw [h.eq hm G hb ρ H]
def TR.rep {on:Bool}{p:U}{σ:Nat->Nat}{Θ r:Tx}(h:WR on p σ Θ r):TR on (.rep p) σ Θ (42::r):=by
 refine⟨by simp,?_,λhm=>?_,λhm G hb=>?_,λhm G hb ρ H=>?_⟩
 ·have :=h.len;simp only [Nv,T.aK];omega
 ·rw [eU]at hm;rw [a7 (by decide),h.cnt hm,pB]
 ·rw [eU]at hm;rw [jf]at hb;obtain⟨c,h1,J⟩:=h.bad hm G hb;exact⟨c,by simp [h1],J⟩
 ·rw [eU]at hm;rw [jf]at hb;simp only [thU,kText];rw [h.eq hm G hb ρ H]
def TR.mat {on:Bool}{a b:Nat}{p:U}{σ:Nat->Nat}{Θ r:Tx}{x y:UInt8}(G:a≠b)(hd:p.dead=false)(hx:nm x=true)(hy:nm y=true)(ex:x.toNat=σ a)(ey:y.toNat=σ b)(h:WR on p σ Θ r):
  TR on (.mat a b p) σ Θ (91::(if y< x then y else x)::61::(if y< x then x else y)::93::r):=by
 have H:¬(if y< x then y else x)=35:=by split<;>exact jD (by assumption)
 have J:¬(if y< x then x else y)=35:=by split<;>exact jD (by assumption)
 refine⟨by simp,?_,λhm=>?_,λhm Z hb=>?_,λhm Z hb ρ hc=>?_⟩
 ·have :=h.len;simp only [Nv,T.aK];omega
 ·rw [cN]at hm;rw [a7 (by decide),a7 H,a7 (by decide),a7 J,a7 (by decide),h.cnt hm,ja]
 ·rw [cN]at hm;rw [fe]at hb;obtain⟨c,h1,h2⟩:=h.bad hm Z hb;exact⟨c,by simp [h1],h2⟩
 ·rw [cN]at hm;rw [fe]at hb;have e1:ρ a=x:=N6.1 ((hc a (.inr ⟨G,hd,.inl rfl⟩)).trans ex.symm);have e2:ρ b=y:=N6.1 ((hc b (.inr ⟨G,hd,.inr (.inl rfl)⟩)).trans ey.symm);simp only [thU,kText,e1,e2];rw [h.eq hm Z hb ρ (hc.sub λy hy=> .inr ⟨G,hd,.inr (.inr hy)⟩)]
structure AM (k:Nat)(Θ:Tx)(c:UInt8):Prop where
 nin:c∉Θ
 okn:okn (k+1) c
 ngr:ngr c
 nm:nm c=true
 bad:(uy (cC Θ)).isNone=true->128<=c
 good:(uy (cC Θ)).isNone=false->c=iG (cC Θ)
def GO {c:UInt8}(h:lt c=true):nm c=true/\ngr c/\∀k,okn k c:=by
 refine⟨?_,?_,λk=>mV h⟩
 ·simp only [lt,nm]at*;rw [h];rfl
 ·simp only [lt,Nz,NL]at h;have h1:=NX.1 h.1;have J:=NX.1 h.2;have H:(97:UInt8).toNat=97:=rfl;have G:(122:UInt8).toNat=122:=rfl;right;omega
def AM.of {k:Nat}{Θ:Tx}{c:UInt8}(hk:k+1<=64)(ht:∀c∈Θ,Proofs.YthekamjhgabkjaaGreat.okn k c/\Proofs.YthekamjhgabkjaaGreat.ngr c)(h:pK Θ c):AM k Θ c:=by
 rcases h with h | ⟨h,h1,h2,h3,h4⟩
 ·obtain⟨k1,k2,k3⟩:=pf h;obtain⟨f1,f2,f3⟩:=GO k2;have Z:uy (cC Θ)=some c:=h;exact⟨by simpa [cC]using k1,f3 _,f2,f1,λH=>(by rw [Z]at H;cases H),λ _=>(by simp [iG,Z])⟩
 ·have Z:uy (cC Θ)=none:=h;have b1:=NX.1 h1;have b2:=NX.1 h2;have β:(128:UInt8).toNat=128:=rfl;have γ:(191:UInt8).toNat=191:=rfl;have hle:c.toNat<=128+k:=by
   refine OX λhc=>?_
   have e:(UInt8.ofNat (128+k)).toNat=128+k:=by rw [ON];omega
   have G:=h3 (UInt8.ofNat (128+k)) (NX.2 (by omega)) (Ol.2 (by omega));rcases(ht _ G).1 with h | h<;>omega
  have J:c∉Θ:=by
   rcases h4 with h4 | h4
   ·exact h4
   ·intro G;have:c.toNat=191:=by rw [h4];rfl
    rcases(ht _ G).1 with h | h<;>omega
  refine⟨J,.inl (by omega),.inr (by omega),?_,λ _=>h1,λH=>by rw [Z]at H;cases H⟩;simp only [Proofs.YthekamjhgabkjaaGreat.nm,O',NL];exact .inr h1
def uc {Θ G:Tx}{c:UInt8}(h:∀x,x∈G↔x=c\/x∈Θ):cC G=cD (cC Θ) c:=by
 funext d
 unfold cC cD;rw [OD];simp only [NL,O',P9,h];exact or_comm
def TR.rcv {on:Bool}{k a n:Nat}{p:U}{σ:Nat->Nat}{Θ G r:Tx}{x c:UInt8}(hx:nm x=true)(ex:x.toNat=σ a)(Z:AM k Θ c)(hT:∀x,x∈G↔x=c\/x∈Θ)(h:WR on p (aG σ n c.toNat) G r):
  TR on (.rcv a n p) σ Θ (x::63::c::46::r):=by
 refine⟨by simp,?_,λhm=>?_,λhm ho hb=>?_,λhm ho hb ρ H=>?_⟩
 ·have :=h.len;simp only [Nv,T.aK];omega
 ·rw [eK]at hm;rw [a7 (jD hx),a7 (by decide),a7 (jD Z.nm),a7 (by decide),h.cnt hm,pE]
 ·rw [eK]at hm;rw [iS,O']at hb;cases hn:(uy (cC Θ)).isNone with
  | true=>exact⟨c,by simp,Z.bad hn⟩
  | false=>
   rw [hn]at hb;have hb:=hb.resolve_left (by simp);rw [<-Z.good hn,<-uc hT]at hb;obtain⟨c,h1,h2⟩:=h.bad hm ho hb;exact⟨c,by simp [h1],h2⟩
 ·rw [eK]at hm;rw [iS,O0]at hb;have e1:ρ a=x:=N6.1 ((H a (.inl rfl)).trans ex.symm);have e2:=Z.good hb.1;have J:=hb.2;rw [<-e2,<-uc hT]at J;simp only [thU,kText,e1,<-e2];rw [<-uc hT,<-h.eq hm ho J (aG ρ n c) λy hy=>?_];unfold aG;by_cases e:y=n
  ·simp [e]
  ·simp only [NS e];exact H y (.inr ⟨e,hy⟩)
def nt (c:UInt8):∀l:List Tx,l≠[]->(joinS c l).length+3=dh l
 | [],h=>absurd rfl h
 | [s],_=>by simp [joinS,dh]
 | s::t::l,_=>by
  have :=nt c (t::l) (by simp);rw [eZ (by simp),dK];simp only [Nv,NB,NR];omega
def kE {c:UInt8}(G:¬c=35):∀l:List Tx,(joinS c l).count 35=(l.map (List.count 35)).sum
 | []=>rfl
 | [s]=>by simp [joinS]
 | s::t::l=>by
  have :=kE G (t::l);rw [eZ (by simp),a7 (by decide),Oo,a7 G,Oo,this];simp
def p9 {c d:UInt8}{s:Tx}:∀{l:List Tx},s∈l->d∈s->d∈joinS c l
 | [],h,_=>by cases h
 | [t],h,hd=>by
  have:s=t:=by simpa using h
  subst this;exact hd
 | t::u::l,h,hd=>by
  rw [eZ (by simp)];rcases NV.1 h with rfl | h
  ·simp [hd]
  ·have :=p9 (c:=c) h hd;simp [this]
def Aj {c:UInt8}{l:List Tx}(h:∀s∈l,s≠[])(G:l≠[]):joinS c l≠[]:=by
 match l,G with
 | [s],_=>exact h s (by simp)
 | s::t::l,_=>rw [eZ (by simp)];simp
def WR.env {on:Bool}{u:U}{σ τ:Nat->Nat}{Θ r:Tx}(h:WR on u σ Θ r)(he:∀y,u.Us y->σ y=τ y):WR on u τ Θ r:=
 ⟨h.ne,h.len,h.cnt,h.bad,λa b c ρ H=>h.eq a b c ρ λy G=>(H y G).trans (he y G).symm⟩
def aO.dh {on:Bool}{σ:Nat->Nat}{Θ:Tx}:∀{rs:List Tx} {us:List U},aO (λr u=>WR on u σ Θ r) rs us->Proofs.YthekamjhgabkjaaGreat.dh rs<=jO us
 | [],[],_=>by simp [Proofs.YthekamjhgabkjaaGreat.dh,jO]
 | [],_::_,h=>by have :=h.1;simp at this
 | _::_,[],h=>by have :=h.1;simp at this
 | r::rs,u::us,h=>by
  have H:=(h.2 0 r u rfl rfl).len;have G:=aO.dh (rs:=rs) (us:=us) (on:=on) (σ:=σ) (Θ:=Θ) ⟨by have :=h.1;simpa using this,λi a b ha hb=>h.2 (i+1) a b (by simpa using ha) (by simpa using hb)⟩;rw [dK];simp only [jO,N4,OE,Nv]at G|-;omega
def aO.map_eq {A B C:Type}{f:A->C}{g:B->C}:∀{l:List A} {m:List B},aO (λa b=>f a=g b) l m->l.map f=m.map g
 | [],[],_=>rfl
 | [],_::_,h=>by have :=h.1;simp at this
 | _::_,[],h=>by have :=h.1;simp at this
 | a::l,b::m,h=>by
  have G:=h.2 0 a b rfl rfl;have H:=aO.map_eq (l:=l) (m:=m) (f:=f) (g:=g) ⟨by have :=h.1;simpa using this,λi a b ha hb=>h.2 (i+1) a b (by simpa using ha) (by simpa using hb)⟩;rw [N4,N4,H,G]
def aO.get {A B:Type}{R:A->B->Prop}{l:List A}{m:List B}(h:aO R l m){b:B}(hb:b∈m):∃a∈l,R a b:=by
 obtain⟨i,hi,e⟩:=OG.1 hb;have G:i< l.length:=by rw [h.1];exact hi
 exact⟨l[i],NO _,h.2 i l[i] b (Ny G) (by rw [Ny hi,e])⟩
def aO.get' {A B:Type}{R:A->B->Prop}{l:List A}{m:List B}(h:aO R l m){a:A}(ha:a∈l):∃b∈m,R a b:=by
 obtain⟨i,hi,e⟩:=OG.1 ha;have G:i< m.length:=by rw [<-h.1];exact hi
 exact⟨m[i],NO _,h.2 i a m[i] (by rw [Ny hi,e]) (Ny G)⟩
def TR.sum {on:Bool}{p q:U}{σ:Nat->Nat}{Θ:Tx}{rs:List Tx}(hu:Uq (.sum p q))(γ:ak (T.sum p q)≠[])(h:aO (λr u=>WR on u σ Θ r) rs (ak (T.sum p q))):TR on (.sum p q) σ Θ (joinS 43 (bk rs)):=by
 have J:tl [T.sum p q]= .sum (tp (ak (T.sum p q))) .nil:=rfl;have δ:rs≠[]:=λe=>γ (N3 (by rw [<-h.1,e];rfl))
 have Z:=aS rs;have β:bk rs≠[]:=λe=>δ (by rw [e]at Z;exact Z.symm.eq_nil)
 have G:an (tl [T.sum p q])<=5->∀u∈ak (T.sum p q),aX u<=5:=λhm=>by
  rw [J,an]at hm;exact(xS _ _).1 (by omega)
 refine⟨Aj (λs hs=>?_) β,?_,λhm=>?_,λhm ho hb=>?_,λhm ho hb ρ hc=>?_⟩
 ·obtain⟨u,_,hw⟩:=h.get' (Z.subset hs);exact hw.ne
 ·have h1:=nt 43 _ β;have h2:=lE Z;have h3:=h.dh;have h4:=dI (T.sum p q);omega
 ·rw [kE (by decide),iJ (Z.map _),J,thAll,G7];show _=_+0;rw [PS]
  congr 1
  refine aO.map_eq (h.mono λr u _ hu hw=>hw.cnt (G hm u hu))
 ·rw [J,thBad,yM]at hb;simp only [thBad,PV,PA]at hb;obtain⟨u,H,ε⟩:=hb;obtain⟨r,hr,hw⟩:=h.get H;obtain⟨c,h1,h2⟩:=hw.bad (G hm u H) ho ε;exact⟨c,p9 (Z.symm.subset hr) h1,h2⟩
 ·rw [J,thBad,yM]at hb;simp only [thBad,PV]at hb;have hb:∀u∈ak (T.sum p q),cT u (cC Θ)=false:=by simpa [List.any_eq_false]using hb
  have e:rs=(ak (T.sum p q)).map λu=>LS u ρ (cC Θ):=by
   have :=aO.map_eq (f:=λr:Tx=>r) (g:=λu=>LS u ρ (cC Θ)) (h.mono λr u _ H hw=>hw.eq (G hm u H) ho (hb u H) ρ (hc.sub λy hy=>(lK _ hu y).2 ⟨u,H,hy⟩));simpa using this
  rw [e];rfl
def WR.le {on:Bool}{u:U}{k:Nat}{p:P}{σ τ:Nat->Nat}{Θ r:Tx}(h:WR on u τ Θ r)(d:Den k p σ u):r.length<=p.text.length:=by
 have h1:=h.len;have G:=nL d.ae;rw [T.aP];omega
structure uN (w0 w:World)(bm:Nat)(br on:Bool)(c:UInt8)(o:Option Nat):Prop where
 kp:Kp w0 w (λg=>g=bm)
 mm:MK w bm br on
 bx:∀b,o=some b->b≠bm/\b< w.heap.size/\w.cell? ⟨b,0,none⟩=some (.int .u8 c.toNat)
def uN.step {w0 w w':World}{bm:Nat}{br G on:Bool}{c:UInt8}{o:Option Nat}(h:uN w0 w bm br on c o)(hk:Kp w w' (λg=>g=bm))(hm:MK w' bm G on):uN w0 w' bm G on c o:=
 ⟨Kp.trans h.kp hk λ _ _ h=>h,hm,λb hb=>by
  obtain⟨h1,H,J⟩:=h.bx b hb;refine⟨h1,N0 H hk.size,?_⟩;rw [Nw (w:=w) (hk.block b H h1)];exact J⟩
def uN.ex {w0 w w':World}{bm:Nat}{br on:Bool}{c:UInt8}{o:Option Nat}(h:uN w0 w bm br on c o)(G:Ex w w'):uN w0 w' bm br on c o:=
 h.step (Kp.ah G _) (h.mm.ex G)
def uN.box {w0 w w':World}{bm b:Nat}{br on:Bool}{c:UInt8}(h:uN w0 w bm br on c none)(hb:b=w.heap.size)(hw:w'=w.alloc (.cells #[.int .u8 c.toNat] 5)):uN w0 w' bm br on c (some b):=by
 have G:Ex w w':=hw▸Ex.alloc w _;have :=h.mm.lt;refine⟨(h.ex G).kp,(h.ex G).mm,λH e=>?_⟩;cases e;subst hb hw;exact⟨by omega,by rw [size_alloc];omega,aa rfl⟩
def uN.conv {w0 w:World}{bm b:Nat}{br on:Bool}{c:UInt8}(h:uN w0 w bm br on c (some b)):∀(j:Nat) (x:UInt8),[c][j]?=some x->w.cell? ⟨b,0+j,none⟩=some (.int .u8 x.toNat):=by
 intro j x G
 match j,G with
 | 0,G=>simp at G;subst G;exact(h.bx b rfl).2.2
def Own.kp {B:Nat}{w w':World}{v:Value}{l:List Tx}{S:Nat->Prop}(h:Own B w v l)(k:Kp w w' S)(H:∀g,v.ownBlock=some g->¬S g):Own B w' v l:=by
 refine⟨h.1,?_⟩;rcases h.2 with J | ⟨g,cap,cur,rfl,hb,G,rest⟩
 ·exact .inl J
 ·exact .inr ⟨g,cap,cur,rfl,hb,by rw [k.block g (N8.1 G).1 (H g rfl)];exact G,rest⟩
def MK.same {w w':World}{bm:Nat}{br on:Bool}(h:MK w bm br on)(G:w.heap.size<=w'.heap.size)(hb:w'.heap[bm]?=w.heap[bm]?):MK w' bm br on:=
 ⟨N0 h.lt G,by rw [Nw (w:=w) hb];exact h.c0,by rw [Nw (w:=w) hb];exact h.c1,by rw [N5 (w:=w) hb];exact h.f0⟩
def MK.below {w w':World}{bm B:Nat}{br on:Bool}(h:MK w bm br on)(k:Below B w w')(hb:bm< B):MK w' bm br on:=h.same k.size (k.block bm hb)
def Own.below {B C:Nat}{w w':World}{v:Value}{l:List Tx}(h:Own B w v l)(k:Below C w w')(G:∀g,v.ownBlock=some g->g< C):Own B w' v l:=by
 refine⟨h.1,?_⟩;rcases h.2 with H | ⟨g,cap,cur,rfl,hb,J,rest⟩
 ·exact .inl H
 ·exact .inr ⟨g,cap,cur,rfl,hb,by rw [k.block g (G g rfl)];exact J,rest⟩
def Kp.Mf {w w':World}{B:Nat}(h:Below B w w')(hB:w.heap.size<=B)(S:Nat->Prop):Kp w w' S:=⟨h.os,h.tape,h.output,h.size,λg G _=>h.block g (by omega)⟩
def Kp.Gy {w w1 w':World}{B:Nat}{S:Nat->Prop}(h:Kp w w1 S)(k:Below B w1 w')(hB:w.heap.size<=B):Kp w w' S:=
 ⟨k.os.trans h.os,k.tape.trans h.tape,k.output.trans h.output,OC h.size k.size,λg G H=>(k.block g (by omega)).trans (h.block g G H)⟩
def aO.snoc {A B:Type}{R:A->B->Prop}{l:List A}{m:List B}{a:A}{b:B}(h:aO R l m)(k:R a b):aO R (l++[a]) (m++[b]):=h.append (aO.one k)
def FY {n:Nat}(ζ:GR n):yz (n+1):=by
 intro k p σ t Θ w bm br on R hn d hth hpl hlv η G γ h;refine jV _ _ _ w R ?_;dsimp only [go_sem];dsimp only [go_sem,Nat.reduceAdd];refine aM d.ok ?_;have hw:=d.wf;have hl:=d.len;have ε:=d.ae;cases p<;>cases t<;>(try exact ε.elim)<;>(try (cases hth;done))
 case snd.snd a b p a' b' u=>
  simp only [T.kind]
  repeat' first | refine aR (by decide) ?_ | refine cL (by decide) ?_ | refine ck (by decide) ?_ | refine dB (by decide) ?_
  simp only [T.wf,Nz]at hw;simp only [T.size]at hn;simp only [T.text,Nv]at hl;have ξ:(T.snd a b p).text.length=p.text.length+4:=by simp [T.text]
  refine⟨λ _=>True,λw1 δ=>⟨trivial,cF d.ok ⟨trivial,⟨by simp only [T.hd];omega,by simp only [T.hd];omega⟩,cF d.ok ⟨trivial,⟨by simp only [T.hd];omega,by simp only [T.hd];omega⟩,?_⟩⟩⟩⟩;have e1:List.drop (Int.toNat ((T.snd a b p).hd:Int)) (T.snd a b p).text=p.text:=rfl;have e2:List.take (Int.toNat ((T.snd a b p).hd:Int)) (T.snd a b p).text=[a,33,b,46]:=rfl;rw [e1,e2];have hx:Ex w w1:=δ▸Ex.drew w;refine ζ (by omega) d.snd (d.snd.lb d.bd.le) (λz hz=>η z (.inr (.inr hz))) (G.sub (ND _) λy hy=> .inr (.inr hy)) (γ.ex hx) λr J Z β hr=>?_
  have ο:=hr.le d.snd;refine⟨trivial,by simp only [Nv,NR];omega,h _ J (Kp.trans (Kp.ah hx _) Z λ _ _ h=>h) (by rw [eO];exact β) (TR.snd hw.1.1 hw.1.2 ε.1 ε.2.1 hr)⟩
 case tau.tau p u=>
  simp only [T.kind]
  repeat' first | refine aR (by decide) ?_ | refine cL (by decide) ?_ | refine ck (by decide) ?_ | refine dB (by decide) ?_
  simp only [T.size]at hn;simp only [T.text,Nv]at hl;have ξ:(T.tau p).text.length=p.text.length+2:=by simp [T.text]
  refine⟨λ _=>True,λw1 δ=>⟨trivial,cF d.ok ⟨trivial,⟨by simp only [T.hd];omega,by simp only [T.hd];omega⟩,cF d.ok ⟨trivial,⟨by simp only [T.hd];omega,by simp only [T.hd];omega⟩,?_⟩⟩⟩⟩;have e1:List.drop (Int.toNat ((T.tau p).hd:Int)) (T.tau p).text=p.text:=rfl;have e2:List.take (Int.toNat ((T.tau p).hd:Int)) (T.tau p).text=[126,46]:=rfl;rw [e1,e2];have hx:Ex w w1:=δ▸Ex.drew w;refine ζ (by omega) d.tau (d.tau.lb d.bd.le) (λz hz=>η z hz) (G.sub (ND _) λy hy=>hy) (γ.ex hx) λr J Z β hr=>?_
  have ο:=hr.le d.tau;refine⟨trivial,by simp only [Nv,NR];omega,h _ J (Kp.trans (Kp.ah hx _) Z λ _ _ h=>h) (by rw [eN];exact β) (TR.tau hr)⟩
 case rep.rep p u=>
  simp only [T.kind]
  repeat' first | refine aR (by decide) ?_ | refine cL (by decide) ?_ | refine ck (by decide) ?_ | refine dB (by decide) ?_
  simp only [T.size]at hn;simp only [T.text,Nv]at hl;have ξ:(T.rep p).text.length=p.text.length+1:=by simp [T.text]
  refine⟨⟨by omega,by omega⟩,?_⟩;have e1:List.drop (Int.toNat 1) (T.rep p).text=p.text:=rfl;rw [e1];refine ζ (by omega) d.rep (d.rep.lb d.bd.le) (λz hz=>η z hz) (G.sub (ND _) λy hy=>hy) γ λr J Z β hr=>?_
  have ο:=hr.le d.rep;refine⟨by simp only [Nv,NR];omega,h _ J Z (by rw [eU];exact β) (TR.rep hr)⟩
 case mat.mat a b p a' b' u=>
  simp only [T.kind]
  repeat' first | refine aR (by decide) ?_ | refine cL (by decide) ?_ | refine ck (by decide) ?_ | refine dB (by decide) ?_
  simp only [T.wf,Nz]at hw;simp only [T.size]at hn;simp only [T.text,Nv]at hl;have ξ:(T.mat a b p).text.length=p.text.length+5:=by simp [T.text]
  have hab:a'≠b':=hpl;have hud:u.dead=false:=hlv;have hpd:p.dead=false:=by rw [ε.2.2.dead];exact hud
  have e1:List.drop (Int.toNat 5) (T.mat a b p).text=p.text:=rfl;have e2:List.drop (Int.toNat 3) (List.take (Int.toNat 4) (T.mat a b p).text)=[b]:=rfl;have e3:List.drop (Int.toNat 1) (List.take (Int.toNat 2) (T.mat a b p).text)=[a]:=rfl;have eb:Op.bytesLess [b] [a]=decide (b< a):=by
   rw [PD,OD,NL,NL,List.cons_lt_cons_iff];simp
  rw [e1,e2,e3,eb];refine⟨λ _=>True,λw1 δ=>⟨trivial,⟨by omega,by omega,by omega⟩,⟨by omega,by omega,by omega⟩,?_⟩⟩;have hx:Ex w w1:=δ▸Ex.drew w;have sub:∀y,u.Us y->(T.mat a' b' u).Us y:=λy hy=> .inr ⟨hab,hud,.inr (.inr hy)⟩
  have dm:=d.mat hpd;have key:∀{K:aH->QU},(∀r J,r.length<=1099511627776->Kp w J (λg=>g=bm)->MK J bm (br||decide (5< an (tl [T.mat a' b' u]))) on->TR on (.mat a' b' u) σ Θ (91::(if b< a then b else a)::61::(if b< a then a else b)::93::r)->K r J)->
    QV 203 #[.pointer (some ⟨bm,0,none⟩),.string (ay p.text),.string (ay Θ)] w1 (ax [.s] K):=λhk=>by
   refine ζ (by omega) dm (dm.lb d.bd.le) (λz hz=>η z (.inr (.inr hz))) (G.sub (ND _) sub) (γ.ex hx) λr J Z β hr=>?_
   have ο:=hr.le dm;exact hk r J (by omega) (Kp.trans (Kp.ah hx _) Z λ _ _ h=>h) (by rw [cN];exact β) (TR.mat hab hud hw.1.1 hw.1.2 ε.1 ε.2.1 hr)
  refine⟨λH=>?_,λH=>?_⟩
  ·have H:=NZ H;refine⟨by simp,by simp,by simp,by simp,⟨by omega,by omega⟩,key λr J h1 h2 h3 h4=>⟨by simp only [NB,Nv,NR];omega,?_⟩⟩;simp only [N' H]at h4;exact h _ J h2 h3 h4
  ·have H:=NU H;refine⟨by simp,by simp,by simp,by simp,⟨by omega,by omega⟩,key λr J h1 h2 h3 h4=>⟨by simp only [NB,Nv,NR];omega,?_⟩⟩;simp only [NS H]at h4;exact h _ J h2 h3 h4
 case sum.sum p q u v=>
  simp only [T.kind]
  repeat' first | refine aR (by decide) ?_ | refine cL (by decide) ?_ | refine ck (by decide) ?_ | refine dB (by decide) ?_
  have hpu:u.dead=false/\v.dead=false:=hpl;have ς:ak (T.sum u v)≠[]:=pj (by simp [T.dead,hpu.1]) d.uq;refine wP _ (ND _) d λvs J ps υ ι hps hgs=>?_
  have hsz:(ak (T.sum u v)).length<=(T.sum p q).size:=by rw [d.ae.size];exact cQ _
  have hszt:=bg (T.sum p q);have hl':(T.sum p q).text.length<=1099511627776:=hl;have ω:(ps.map T.text).length=(ak (T.sum u v)).length:=by rw [NH,hps.1]
  have hbm:bm< J.heap.size:=N0 γ.lt υ.size;have hvb:∀g,vs.ownBlock=some g->g< J.heap.size:=λg hg=>(ι.block g hg).2
  have hvn:∀g,vs.ownBlock=some g->¬g=bm:=λg hg e=>by
   have :=(ι.block g hg).1;have :=γ.lt;omega
  obtain⟨av,cap,hv⟩:=ι.strs.slice;have hlen:=ι.1;refine⟨av,_,cap,hv,λlist x w'=>∃(i:Nat) (rs:List Tx),x=i/\i<=(ak (T.sum u v)).length/\Kp w w' (λg=>g=bm)/\MK w' bm (br||((ak (T.sum u v)).take i).any λu=>decide (5< aX u)) on/\
   J.heap.size<=w'.heap.size/\Own J.heap.size w' list rs/\Own w.heap.size w' vs (ps.map T.text)/\aO (λr u=>WR on u σ Θ r) rs ((ak (T.sum u v)).take i),λ _ x _=>((ak (T.sum u v)).length - x).toNat,?_,λlist x w3 hI=>?_⟩
  ·exact⟨0,[],rfl,by omega,Kp.ah υ _,by simpa using γ.ex υ,ND _,Own.nil _ _,ι,aO.nil⟩
  obtain⟨i,rs,rfl,hi,hk3,hm3,hs3,ho3,hv3,θ⟩:=hI;refine⟨λH=>?_,λH=>?_⟩
  ·have H:=NZ H;rw [ω]at H;have φ:i< (ak (T.sum u v)).length:=by omega
   have hip:i< ps.length:=by rw [hps.1];exact φ
   refine hv3.strs.get (Ex.refl w3) (i:=i) (x:=(ps[i]).text) (by omega) (by simp [hip]) ?_;obtain⟨m,τ,hkm,dp,hτ,hlo⟩:=hps.2 i _ _ (Ny hip) (Ny φ);have hmem:(ak (T.sum u v))[i]∈ak (T.sum u v):=NO _;have hus:∀y,((ak (T.sum u v))[i]).Us y->(T.sum u v).Us y:=λy hy=>(lK _ d.uq y).2 ⟨_,hmem,hy⟩
   have hτu:∀y,((ak (T.sum u v))[i]).Us y->τ y=σ y:=λy hy=>hτ y (d.uq.CB (hus y hy))
   have hszi:ps[i].size<=n:=by
    rw [dp.ae.size];have h1:((ak (T.sum u v))[i]).size<=u.size+v.size:=by
     have hmem':(ak (T.sum u v))[i]∈ak u++ak v:=hmem;rcases NI.1 hmem' with h | h
     ·have :=lP u _ h;omega
     ·have :=lP v _ h;omega
    have h2:(T.sum p q).size=(T.sum u v).size:=d.ae.size;simp only [T.size]at hn h2;omega
   have hgfp:GF 0 ps[i]:=hgs _ (NO _) 0 η;refine ζ hszi dp (dp.lb (by have :=d.bd.le;simp only [T.pm]at this;simp only [T.rd,T.ow]at hlo;omega)) hgfp ⟨G.srt,λc H=>⟨(G.okn c H).1.mono hkm,(G.okn c H).2⟩,λy hy=>by rw [hτu y hy];exact G.cov y (hus y hy)⟩ hm3 λr w4 χ hm4 hr=>?_
   intro b5 w5 hb5 hw5;have κ:Ex w4 w5:=hw5▸Ex.alloc w4 _;have ho4:Own J.heap.size w5 list rs:=(ho3.kp χ λg hg e=>by have :=(ho3.block g hg).1;omega).ex κ;have hsz4:=χ.size;have hsz5:=κ.size;have hrsl:rs.length=i:=by rw [θ.1,Og];omega
   refine Own.push ho4 (by omega) (Strs.one hb5 hw5) (by simp only [Nv,NR];omega) λv6 w6 ψ ho6 _ _=>?_
   refine⟨by omega,⟨i+1,rs++[r],by omega,by omega,?_,?_,?_,ho6,?_,?_⟩,by dsimp only;omega⟩
   ·exact Kp.Gy (Kp.trans (Kp.trans hk3 χ λ _ _ h=>h) (Kp.ah κ _) λ _ _ h=>h) ψ υ.size
   ·have hm5:=(hm4.ex κ).below ψ hbm;rw [NG φ,List.any_append,<-Pa];simpa using hm5
   ·have :=ψ.size;omega
   ·exact((hv3.kp χ hvn).ex κ).below ψ hvb
   ·rw [NG φ];exact θ.snoc (hr.env hτu)
  ·have H:=NU H;rw [ω]at H;have e:i=(ak (T.sum u v)).length:=by omega
   subst e;rw [Od]at hm3 θ;have hll:=θ.dh;have ht2:=dI (T.sum u v);have htl:=nL d.ae;have hle:dh rs<=1099511627776+3:=by rw [T.aP]at hl';omega
   have hrsl:rs.length=(ak (T.sum u v)).length:=θ.1;have hrs:rs≠[]:=λe=>ς (N3 (by rw [<-hrsl,e];rfl))
   refine sd ho3.strs (by omega) λv4 w4 hx4 ho4=>?_
   have hsn:bk rs≠[]:=λe=>hrs (by have :=aS rs;rw [e]at this;exact this.symm.eq_nil)
   refine rW ho4.strs hsn (by rw [lE (aS rs)];omega) ?_;refine h _ w4 (Kp.trans hk3 (Kp.ah hx4 _) λ _ _ h=>h) ?_ (TR.sum d.uq ς θ);have e2:(ak (T.sum u v)).any (λu=>decide (5< aX u))=decide (5< an (tl [T.sum u v])):=by
    rw [OD,PA,NL];have etl:tl [T.sum u v]= .sum (tp (ak (T.sum u v))) .nil:=rfl;have hmx:an (.sum (tp (ak (T.sum u v))) .nil)=an (tp (ak (T.sum u v))):=by simp [an]
    rw [etl,hmx,<-Nat.not_le,xS];constructor
    ·rintro⟨x,h1,h2⟩ h3
     have :=h3 x h1;have :=NZ h2;omega
    ·intro h1;refine OX λh2=>h1 λx hx=>?_
     rcases Pb 5 (aX x)with h3 | h3
     ·exact absurd ⟨x,hx,Ph h3⟩ h2
     ·exact h3
   rw [<-e2];exact hm3.ex hx4
 case rcv.rcv a x p a' x' u=>
  simp only [T.kind]
  repeat' first | refine aR (by decide) ?_ | refine cL (by decide) ?_ | refine ck (by decide) ?_ | refine dB (by decide) ?_
  simp only [T.wf,Nz]at hw;simp only [T.size]at hn;simp only [T.text,Nv]at hl;have ξ:(T.rcv a x p).text.length=p.text.length+4:=by simp [T.text]
  have hΘ:=G.srt.bound;refine gz (by omega) λc hc0=>?_
  have hbd:=d.bd.le;simp only [T.pm]at hbd;have H:AM k Θ c:=AM.of (by omega) G.okn hc0;have okp:=d.ok.parts p (by simp [T.parts]);have hbdp:=T.wq p;have e1:List.drop (Int.toNat 4) (T.rcv a x p).text=p.text:=rfl;have e2:bt (T.rcv a x p).text (Int.toNat 2)=x:=rfl;have e3:List.take (Int.toNat 2) (T.rcv a x p).text=[a,63]:=rfl;rw [e1,e2,e3];refine⟨λ _=>True,λw1 δ=>⟨trivial,⟨by omega,by omega⟩,⟨by omega,by omega⟩,⟨by omega,by omega⟩,?_⟩⟩;have hst:uN w w1 bm br on c none:=⟨Kp.ah (δ▸Ex.drew w) _,γ.ex (δ▸Ex.drew w),λb hb=>by cases hb⟩
  have renL:∀{o:Option Nat} {wx:World} {K:aH->QU},uN w wx bm br on c o->(∀q wy,uN w wy bm br on c o->eo (k+1) p x c q->K q.text wy)->QV 112 #[.string (ay p.text),.int .u8 x.toNat,.int .u8 c.toNat] wx (ax [.s] K):=λhs hK=>
   gW _ (ND _) okp d.bd.eb.2.2 (by omega) H.nm H.okn λq wy hx hq=>hK q wy (hs.ex hx) hq
  have addL:∀{o:Option Nat} {wx:World} {K:aH->QU},uN w wx bm br on c o->(∀s wy,uN w wy bm br on c o->(kz s/\∀x,x∈s↔x=c\/x∈Θ)->K s wy)->QV 145 #[.string (ay Θ),.int .u8 c.toNat] wx (ax [.s] K):=λhs hK=>
   gn G.srt λs' wy hx h1 h2=>hK s' wy (hs.ex hx) ⟨h1,h2⟩
  have whoL:∀{o:Option Nat} {wx:World} {K:aH->QU} {q:P} {s:Tx},uN w wx bm br on c o->eo (k+1) p x c q->(kz s/\∀x,x∈s↔x=c\/x∈Θ)->
    (∀r wy,uN w wy bm (br||decide (5< an (tl [T.rcv a' x' u]))) on c o->(TR on (.rcv a' x' u) σ Θ (a::63::c::46::r)/\r.length<=1099511627776)->K r wy)->QV 203 #[.pointer (some ⟨bm,0,none⟩),.string (ay q.text),.string (ay s)] wx (ax [.s] K):=λ{o wx K q s} hs hq μ hK=>by
   have dr:=d.rcv hq λz hz ς e=>by
    obtain⟨c',h1,h2⟩:=G.cov z (.inr ⟨ς,hz⟩);have:c'=c:=N6.1 (h2.trans e);exact H.nin (this▸h1)
   have hsz:=T.oA hq.shp;refine ζ (by omega) dr (dr.lb (by rw [T.LA hq.shp,T.Fs hq.shp];omega)) (λz hz hg=>?_) ⟨μ.1,λc' hc'=>?_,λy hy=>?_⟩ hs.mm λr wy Z β hr=>?_
   ·rcases hq.ok.free z hz with h1 | h1 | h1
    ·exact absurd hg (dx (h1▸H.ngr))
    ·exact η z (.inr ⟨h1.1,h1.2⟩) hg
    ·exact absurd hg (dx (h1.1▸d.bd.eb.2.1.1))
   ·rcases(μ.2 c').1 hc' with h1 | h1
    ·rw [h1];exact⟨H.okn,H.ngr⟩
    ·exact⟨(G.okn c' h1).1.mono (by omega),(G.okn c' h1).2⟩
   ·by_cases e:y=x'
    ·subst e;exact⟨c,(μ.2 c).2 (.inl rfl),by rw [cB]⟩
    ·obtain⟨c',h1,h2⟩:=G.cov y (.inr ⟨e,hy⟩);exact⟨c',(μ.2 c').2 (.inr h1),by rw [bB _ _ e];exact h2⟩
   ·have ο:=hr.le dr;have hlq:q.text.length=p.text.length:=by rw [T.aP,T.gI hq.shp,<-T.aP]
    refine hK r wy (hs.step Z (by rw [eK];exact β)) ⟨TR.rcv hw.1.1 ε.1 H μ.2 hr,by omega⟩
  have fin:∀{o:Option Nat} {wx:World} {r:Tx},uN w wx bm (br||decide (5< an (tl [T.rcv a' x' u]))) on c o->(TR on (.rcv a' x' u) σ Θ (a::63::c::46::r)/\r.length<=1099511627776)->R (((([a,63]++[c])++[46])++r)) wx:=λhs hr=>h _ _ hs.kp hs.mm hr.1
  have bnd:∀{r:Tx},(TR on (.rcv a' x' u) σ Θ (a::63::c::46::r)/\r.length<=1099511627776)->List.length (([a,63]++[c])++[46])+List.length r<=4611686018427387904:=λhr=>by
   have :=hr.2;simp only [NB,Nv,NR];omega
  repeat' first
   | (refine renL (by assumption) ?_;intro q wy ν hq;refine⟨trivial,?_⟩)
   | (refine addL (by assumption) ?_;intro s wy ν hs;refine⟨trivial,?_⟩)
   | (refine whoL (by assumption) (by assumption) (by assumption) ?_;intro r wy ν hr;refine⟨trivial,?_⟩)
   | exact fin (by assumption) (by assumption)
   | exact bnd (by assumption)
   | (refine⟨_,0,1,1,[c],rfl,rfl,uN.conv (by assumption),trivial,by simp,by simp,?_⟩)
   | (refine⟨?_,?_⟩)
   | (intro b J hb hw2;have ν:=uN.box (by assumption) hb hw2;refine⟨trivial,?_⟩)
def jC {α β:Type}{g:α->β}:∀{l:List α} {m:List β},m.Perm (l.map g)->∃π:List α,π.Perm l/\m=π.map g
 | [],m,h=>⟨[],OY _,by simpa using h⟩
 | a::l,m,h=>by
  have hm:g a∈m:=h.symm.subset (by simp);obtain⟨s,t,rfl⟩:=List.append_of_mem hm;have G:(s++t).Perm (l.map g):=(List.perm_cons (g a)).1 (Qd.symm.trans (by simpa using h));obtain⟨π,H,h4⟩:=jC G;obtain⟨x,y,rfl,h5,J⟩:=List.append_eq_map_iff.1 h4;refine⟨x++a::y,Qd.trans (List.Perm.cons a H),?_⟩;simp [h5,J]
def rnv:List UInt8->List UInt8->Nat->Nat
 | o::os,l::ls,n=>rnv os ls (if n=o.toNat then l.toNat else n)
 | _,_,n=>n
def zz:∀(os ls:List UInt8) (o l:UInt8) (n:Nat),os.length=ls.length->rnv (os++[o]) (ls++[l]) n=if rnv os ls n=o.toNat then l.toNat else rnv os ls n
 | [],[],o,l,n,_=>rfl
 | [],_::_,_,_,_,h=>by cases h
 | _::_,[],_,_,_,h=>by cases h
 | a::os,b::ls,o,l,n,h=>by
  simp only [Oz,rnv];exact zz os ls o l _ (by simpa using h)
def ya:∀(os ls:List UInt8) (n:Nat),(∀o∈os,n≠o.toNat)->rnv os ls n=n
 | [],_,_,_=>by simp [rnv]
 | _::_,[],_,_=>by simp [rnv]
 | a::os,b::ls,n,h=>by
  rw [rnv,NS (h a (by simp))];exact ya os ls n λo G=>h o (NJ _ G)
def CQ:∀(π:List Nat) (os ls:List UInt8) (g:Nat->Nat) (ρ:Rh) (y:Nat),os.map UInt8.toNat=π.map g->π.length=ls.length->(∀l∈ls,l∉os)->y∈π->(∀z∈π,g z=g y->z=y)->os.Nodup->
  rnv os ls (g y)=(asg π ls ρ y).toNat
 | [],_,_,_,_,_,_,_,_,h,_,_=>by cases h
 | z::π,[],_,_,_,_,h,_,_,_,_,_=>by simp at h
 | _::_,_::_,[],_,_,_,_,h,_,_,_,_=>by cases h
 | z::π,o::os,l::ls,g,ρ,y,h,hl,hd,hy,hi,G=>by
  simp only [N4,O5]at h;have G:=OB.1 G;have H:∀J∈os,l.toNat≠J.toNat:=λJ ho e=>hd l (by simp) (by rw [N6.1 e];exact NJ _ ho)
  rw [rnv,asg];by_cases e:y=z
  ·subst e;rw [N' h.1.symm,ya os ls _ H];by_cases hyp:y∈π
   ·exfalso;have:g y∈π.map g:=Pd hyp;rw [<-h.2,<-h.1]at this;obtain⟨J,h1,h2⟩:=Oe.1 this;exact G.1 (N6.1 h2▸h1)
   ·rw [bz π ls _ y hyp];simp [aG]
  ·have hyp:y∈π:=(NV.1 hy).resolve_left e;have Z:¬g y=o.toNat:=λh'=>e ((hi z (by simp) (h.1.symm.trans h'.symm)).symm)
   rw [NS Z];exact CQ π os ls g _ y h.2 (by simpa using hl) (λl' β γ=>hd l' (NJ _ β) (NJ _ γ)) hyp (λx hx=>hi x (NJ _ hx)) G.2
structure GU (k m:Nat)(Θ ls A:Tx):Prop where
 len:ls.length=m
 nd:ls.Nodup
 ok:∀c∈ls,c∉Θ/\okn (k+m) c/\ngr c/\nm c=true
 srt:kz A
 mem:∀c,c∈A↔c∈Θ\/c∈ls
def TR.env {on:Bool}{u:U}{σ τ:Nat->Nat}{Θ r:Tx}(h:TR on u σ Θ r)(he:∀y,u.Us y->σ y=τ y):TR on u τ Θ r:=
 ⟨h.ne,h.len,h.cnt,h.bad,λa b c ρ H=>h.eq a b c ρ λy G=>(H y G).trans (he y G).symm⟩
def TR.le {on:Bool}{u:U}{k:Nat}{p:P}{σ τ:Nat->Nat}{Θ r:Tx}(h:TR on u τ Θ r)(d:Den k p σ u):r.length<=p.text.length:=by
 have h1:=h.len;have G:=nL d.ae;rw [T.aP];omega
structure Mt (M:Nat)(p:P)(t:U)(τ:Nat->Nat)(Θ o ls:Tx)(i:Nat)(q:P):Prop where
 den:Den M q (λy=>rnv (o.take i) (ls.take i) (τ y)) t
 shp:q.shp=p.shp
 gf:∀z,q.Fr z->JK z->z∈o.drop i
 cov:∀y,t.Us y->∃c:UInt8,c.toNat=rnv (o.take i) (ls.take i) (τ y)/\(c∈Θ\/c∈ls.take i\/c∈o.drop i)
def rT {l:Tx}{i:Nat}(h:i< l.length):l.drop i=bt l i::l.drop (i+1):=bD h
def ij {l:Tx}{i:Nat}(h:i< l.length):l.take (i+1)=l.take i++[bt l i]:=by
 rw [NG h];simp [bt,h]
def Mt.step {M k m:Nat}{p q q':P}{t:U}{τ:Nat->Nat}{Θ o ls A:Tx}{i:Nat}(h:Mt M p t τ Θ o ls i q)(κ:∀c∈Θ,ngr c)(δ:GU k m Θ ls A)(ho:o.length=m)(ε:∀c∈o,JK c)(hi:i< m)
  (hr:eo M q (bt o i) (bt ls i) q'):Mt M p t τ Θ o ls (i+1) q':=by
 have γ:i< o.length:=by omega
 have β:i< ls.length:=by rw [δ.len];exact hi
 have hlen:(o.take i).length=(ls.take i).length:=by rw [Og,Og];omega
 have e:∀y,rnv (o.take (i+1)) (ls.take (i+1)) (τ y)=if rnv (o.take i) (ls.take i) (τ y)=(bt o i).toNat then(bt ls i).toNat else rnv (o.take i) (ls.take i) (τ y):=λy=>by
  rw [ij γ,ij β,zz _ _ _ _ _ hlen]
 have H:=δ.ok _ (qn β);have θ:bt ls i∉ls.take i:=λhm=>by
  have ζ:=δ.nd;rw [<-OL i ls,rT β]at ζ;exact(Oc.1 ζ).2.2 _ hm _ (by simp) rfl
 have ι:bt ls i∉o.drop i:=λhm=>dx H.2.2.1 (ε _ (List.mem_of_mem_drop hm))
 have J:∀y,t.Us y->rnv (o.take i) (ls.take i) (τ y)≠(bt ls i).toNat:=λy hy he=>by
  obtain⟨c,h1,G⟩:=h.cov y hy;have hc:c=bt ls i:=N6.1 (h1.trans he);rcases G with G | G | G
  ·exact H.1 (hc▸G)
  ·exact θ (hc▸G)
  ·exact ι (hc▸G)
 refine⟨⟨hr.wf,?_,⟨hr.eb,?_⟩,?_,?_,h.den.uq⟩,hr.shp.trans h.shp,λz hz hg=>?_,λy hy=>?_⟩
 ·have :=h.den.len;rw [T.aP,T.gI hr.shp,<-T.aP];exact this
 ·rw [T.sC hr.shp];exact h.den.bd.le
 ·have hh:=h.den.ae.renamed hr.ok (λx _ e=>N6.1 e);have e':(λy=>rnv (o.take (i+1)) (ls.take (i+1)) (τ y))=λy=>if rnv (o.take i) (ls.take i) (τ y)=(bt o i).toNat then(bt ls i).toNat else rnv (o.take i) (ls.take i) (τ y):=funext e
  rw [e'];exact hh
 ·intro y z hy hz Z;simp only [e]at Z;have η:=h.den.inj y z hy hz;split at Z<;>split at Z
  ·rename_i h1 G;exact η (h1.trans G.symm)
  ·exact absurd Z.symm (J z hz)
  ·exact absurd Z (J y hy)
  ·exact η Z
 ·rcases hr.ok.free z hz with h1 | h1 | h1
  ·exact absurd hg (dx (h1▸H.2.2.1))
  ·have :=h.gf z h1.2 hg;rw [rT γ]at this;exact(NV.1 this).resolve_left h1.1
  ·have hh:=ε _ (qn γ);rw [h1.2.2]at hh;exact absurd hh (dx H.2.2.1)
 ·obtain⟨c,h1,G⟩:=h.cov y hy;rw [e];by_cases hc:rnv (o.take i) (ls.take i) (τ y)=(bt o i).toNat
  ·rw [N' hc];exact⟨bt ls i,rfl,.inr (.inl (by rw [ij β];simp))⟩
  ·rw [NS hc];refine⟨c,h1,?_⟩;rcases G with G | G | G
   ·exact .inl G
   ·exact .inr (.inl (by rw [ij β];simp [G]))
   ·rw [rT γ]at G;rcases NV.1 G with h3 | h3
    ·exact absurd (h1.symm.trans (by rw [h3])) hc
    ·exact .inr (.inr h3)
def aO.Hm {on:Bool}{σ:Nat->Nat}{Θ:Tx}:∀{rs:List Tx} {us:List U},aO (λr u=>TR on u σ Θ r) rs us->Proofs.YthekamjhgabkjaaGreat.dh rs<=jO us
 | [],[],_=>by simp [Proofs.YthekamjhgabkjaaGreat.dh,jO]
 | [],_::_,h=>by have :=h.1;simp at this
 | _::_,[],h=>by have :=h.1;simp at this
 | r::rs,u::us,h=>by
  have H:=(h.2 0 r u rfl rfl).len;have G:=aO.Hm (rs:=rs) (us:=us) (on:=on) (σ:=σ) (Θ:=Θ) ⟨by have :=h.1;simpa using this,λi a b ha hb=>h.2 (i+1) a b (by simpa using ha) (by simpa using hb)⟩;rw [dK];simp only [jO,N4,OE,Nv]at G|-;omega
def xh (on:Bool)(σ:Nat->Nat)(u:U)(o ls A r:Tx):Prop:=
 ∃rs:List Tx,r=joinS 38 (bk rs)/\aO (λr t=>TR on t (λy=>rnv o ls (asgN (aj u).1 0 σ y)) A r) rs (aj u).2
def Iu {n:Nat}(iht:yz n){k:Nat}{σ:Nat->Nat}{u:U}{Θ A o ls:Tx}{ps:List P}{on br:Bool}{bm B:Nat}{vt:Value}{w:World}{R:aH->QU}
  (hu:Uq u) (hne:(aj u).2≠[]) (hb:∀p∈ps,k+(aj u).1.length+p.rd+p.ow<=64) (hsz:∀p∈ps,p.size<=n) (ε:y4 k Θ σ u) (φ:aO (IC k σ u 0) ps (aj u).2) (G:GU k (aj u).1.length Θ ls A) (ho:o.Perm (ib (aj u).1.length))
  (hm64:(aj u).1.length<=64) (ζ:Own B w vt (ps.map T.text)) (hB:bm< B) (χ:MK w bm br on) (htl:jO (aj u).2<=1099511627776+3)
  (h:∀r w',Kp w w' (λg=>g=bm)->MK w' bm (br||(aj u).2.any λt=>decide (5< an (tl [t]))) on->xh on σ u o ls A r->R r w'):
  QV 243 #[.pointer (some ⟨bm,0,none⟩),vt,.string (ay o),.string (ay ls),.string (ay A)] w (ax [.s] R):=by
 refine kJ _ vt o ls A w R ?_;dsimp only [go_sem];dsimp only [go_sem,Nat.reduceAdd];have ψ:o.length=(aj u).1.length:=by rw [ho.length_eq,ie]
 have hog:∀c∈o,JK c:=λc hc=>by
  obtain⟨j,h1,rfl⟩:=ig.1 (ho.subset hc);exact yx (by omega)
 have hlen:=φ.1;have hbm:=χ.lt;have hlu:3* (aj u).2.length<=jO (aj u).2:=by unfold jO;omega
 obtain⟨av,cap,hv⟩:=ζ.strs.slice;rw [NH]at hv;refine⟨av,_,cap,hv,λlist x w'=>∃(i:Nat) (rs:List Tx),x=i/\i<=(aj u).2.length/\Kp w w' (λg=>g=bm)/\MK w' bm (br||((aj u).2.take i).any λt=>decide (5< an (tl [t]))) on/\
   Own w.heap.size w' list rs/\Own B w' vt (ps.map T.text)/\aO (λr t=>TR on t (λy=>rnv o ls (asgN (aj u).1 0 σ y)) A r) rs ((aj u).2.take i),λ _ x _=>((aj u).2.length - x).toNat,?_,λlist x w3 hI=>?_⟩
 ·exact⟨0,[],rfl,by omega,Kp.ah (Ex.refl w) _,by simpa using χ,Own.nil _ _,ζ,aO.nil⟩
 obtain⟨i,rs,rfl,hi,μ,ν,ξ,ω,β⟩:=hI;have hs3:=μ.size;refine⟨λhc=>?_,λhc=>?_⟩
 ·have hc:=NZ hc;have hip:i< ps.length:=by omega
  have ο:i< (aj u).2.length:=by omega
  refine ω.strs.get (Ex.refl w3) (i:=i) (x:=(ps[i]).text) (by omega) (by simp [hip]) ?_;obtain⟨m0,τ,hkm,dp,hτ,hgf⟩:=φ.2 i _ _ (Ny hip) (Ny ο);have Z:(aj u).2[i]∈(aj u).2:=NO _;have ς:ps[i]∈ps:=NO _;have hbp:=hb _ ς;have hszp:=hsz _ ς;generalize hM:max m0 (k+(aj u).1.length)=M;have hM1:m0<=M:=by omega
  have hM2:k+(aj u).1.length<=M:=by omega
  have hle:=dp.bd.le;have ς:=T.fK ps[i];have dM:Den M ps[i] τ (aj u).2[i]:=⟨dp.wf,dp.len,⟨dp.bd.eb.mono hM1,by omega⟩,dp.ae,dp.inj,dp.uq⟩
  have hus:=ll u hu _ Z;refine⟨λs j w'=>Ex w3 w'/\∃(j':Nat) (q:P),j=j'/\j'<=o.length/\s=q.text/\Mt M ps[i] (aj u).2[i] τ Θ o ls j' q,λ _ j _=>(o.length - j).toNat,⟨Ex.refl w3,0,ps[i],rfl,by omega,rfl,?_⟩,λs j w4 hJ=>?_⟩
  ·refine⟨by simpa [rnv]using dM,rfl,λz hz hg=>?_,λy hy=>?_⟩
   ·obtain⟨j,h1,h2⟩:=hgf z hz hg;rw [Pu];exact ho.symm.subset (ig.2 ⟨j,by omega,h2⟩)
   ·simp only [List.take_zero,rnv,Pu];rw [hτ y hy];by_cases γ:y∈(aj u).1
    ·obtain⟨j,hj,e⟩:=OG.1 γ;refine⟨gl j,?_,.inr (.inr (ho.symm.subset (ig.2 ⟨j,hj,rfl⟩)))⟩;rw [<-e,jK _ _ _ _ hj (gC u hu),N2]
    ·rw [je _ _ _ _ γ];obtain⟨c,h1,h2⟩:=ε.cov y ((hus y hy).resolve_right γ);exact⟨c,h2,.inl h1⟩
  obtain⟨H,j',q,rfl,hj,rfl,hq⟩:=hJ;refine⟨λδ=>?_,λδ=>?_⟩
  ·have δ:=NZ δ;have hj':j'< o.length:=by omega
   refine⟨λ _=>True,λw5 hw5=>⟨trivial,⟨by omega,by omega⟩,⟨by omega,by rw [G.len];omega⟩,?_⟩⟩;have hx5:Ex w4 w5:=hw5▸Ex.drew w4;have hlq:=G.ok _ (qn (s:=ls) (i:=j') (by rw [G.len];omega));have hbd:=T.tD q;have hqle:=hq.den.bd.le;rw [NF];refine gW _ (ND _) hq.den.ok hq.den.bd.eb (by omega) hlq.2.2.2 (hlq.2.1.mono hM2) λq' w6 J hq'=>⟨trivial,by omega,⟨(H.trans hx5).trans J,j'+1,q',by omega,by omega,rfl,?_⟩,by dsimp only;omega⟩
   exact hq.step (λc hc=>(ε.okn c hc).2) G ψ hog (by omega) hq'
  ·have δ:=NU δ;have ej:j'=o.length:=by omega
   subst ej;have θ:=hq.den;have e1:o.take o.length=o:=Od;have e2:ls.take o.length=ls:=by rw [ψ,<-G.len];exact Od
   have ι:=hq.cov;simp only [e1,e2]at θ ι;have hm4:=ν.ex H;have hszq:=T.oA hq.shp;refine iht (by omega) θ (xQ u _ Z) (sQ u _ Z).1 (sQ u _ Z).2 (λz hz hg=>?_) ⟨G.srt,λc hc=>?_,λy hy=>?_⟩ hm4 λr w5 η hm5 hr=>?_
   ·have :=hq.gf z hz hg;rw [Po]at this;cases this
   ·rcases(G.mem c).1 hc with h1 | h1
    ·exact⟨(ε.okn c h1).1.mono (by omega),(ε.okn c h1).2⟩
    ·have :=G.ok c h1;exact⟨this.2.1.mono hM2,this.2.2.1⟩
   ·obtain⟨c,h1,h2⟩:=ι y hy;refine⟨c,(G.mem c).2 ?_,h1⟩;rcases h2 with h2 | h2 | h2
    ·exact .inl h2
    ·exact .inr h2
    ·rw [Po]at h2;cases h2
   ·intro b6 w6 hb6 hw6;have J:Ex w5 w6:=hw6▸Ex.alloc w5 _;have hbl:∀g,list.ownBlock=some g->¬g=bm:=λg hg e=>by have :=(ξ.block g hg).1;omega
    have ho5:Own w.heap.size w6 list rs:=((ξ.ex H).kp η hbl).ex J;have z4:=H.size;have z5:=η.size;have z6:=J.size;have κ:rs.length=i:=by rw [β.1,Og];omega
    refine Own.push ho5 (by omega) (Strs.one hb6 hw6) (by simp only [Nv,NR];omega) λv7 w7 υ ho7 hg7 _=>?_
    refine⟨by omega,⟨i+1,rs++[r],by omega,by omega,?_,?_,ho7,?_,?_⟩,by dsimp only;omega⟩
    ·exact Kp.Gy (Kp.trans (Kp.trans (Kp.trans μ (Kp.ah H _) λ _ _ h=>h) η λ _ _ h=>h) (Kp.ah J _) λ _ _ h=>h) υ (ND _)
    ·have hm6:=(hm5.ex J).below υ hbm;rw [NG ο,List.any_append,<-Pa];simpa using hm6
    ·have hvn:∀g,vt.ownBlock=some g->¬g=bm:=λg hg e=>by have :=(ζ.block g hg).1;omega
     exact(((ω.ex H).kp η hvn).ex J).below υ λg hg=>(ζ.block g hg).2
    ·rw [NG ο];refine β.snoc (hr.env λy hy=>?_);show rnv o ls (τ y)=_;rw [hτ y hy]
 ·have hc:=NU hc;have e:i=(aj u).2.length:=by omega
  subst e;rw [Od]at ν β;have κ:rs.length=(aj u).2.length:=β.1;have hrs:rs≠[]:=λe=>hne (N3 (by rw [<-κ,e];rfl))
  refine sd ξ.strs (by omega) λv4 w4 H ho4=>?_
  have hsn:bk rs≠[]:=λe=>hrs (by have :=aS rs;rw [e]at this;exact this.symm.eq_nil)
  have hll:dh rs<=jO (aj u).2:=β.Hm;refine rW ho4.strs hsn (by rw [lE (aS rs)];omega) ?_;exact h _ w4 (Kp.trans μ (Kp.ah H _) λ _ _ h=>h) (ν.ex H) ⟨rs,rfl,β⟩
section
open Classical
structure IT (u:U)(ρ:Rh)(tk:Tk):Prop where
 ok:∀y,u.Us y->tk (ρ y)=true/\lt (ρ y)=true
 inj:∀y z,u.Us y->u.Us z->ρ y=ρ z->y=z
def IT.sub {u v:U}{ρ:Rh}{tk:Tk}(h:IT u ρ tk)(G:∀y,v.Us y->u.Us y):IT v ρ tk:=
 ⟨λy H=>h.ok y (G y H),λy z H J=>h.inj y z (G y H) (G z J)⟩
def Ib (u:U)(ρ:Rh)(tk:Tk)(t:P)(v:U):Prop:=
 t.text=LS u ρ tk/\AE UInt8.toNat t (λy=>(ρ y).toNat) v/\t.Al (λc=>lt c=true)/\M9 u v
def G4 (u:U)(ρ:Rh)(tk:Tk)(t:P)(v:U):Prop:=
 t.text=thU u ρ tk/\AE UInt8.toNat t (λy=>(ρ y).toNat) v/\t.Al (λc=>lt c=true)/\MM u v
def MQ {n:Nat}(ih:∀(u:U) (ρ:Rh) (tk:Tk),u.size<=n->Uq u->IT u ρ tk->cT u tk=false->∃t v,Ib u ρ tk t v){t:U}{ρ:Rh}{tk:Tk}(hn:t.size<=n+1)(hu:Uq t)(ξ:IY t=true)
  (υ:t.dc) (hl:t.dead=false) (hm:IT t ρ tk) (hb:thBad (tl [t]) tk=false):∃q w,G4 t ρ tk q w:=by
 cases t with
 | nil=>cases ξ
 | par=>cases ξ
 | res=>cases ξ
 | snd a b p=>
  simp only [T.size]at hn;rw [iP]at hb;obtain⟨q,v,h1,h2,G,h4⟩:=ih p ρ tk (by omega) hu.snd (hm.sub λy hy=> .inr (.inr hy)) hb;have ε:∀x,(T.snd a b v).Us x↔(T.snd a b p).Us x:=λx=>or_congr_right (or_congr_right (h4.us x))
  refine⟨.snd (ρ a) (ρ b) q,.snd a b v,?_,⟨rfl,rfl,h2⟩,⟨(hm.ok a (.inl rfl)).2,(hm.ok b (.inr (.inl rfl))).2,G⟩,?_⟩
  ·simp only [T.text,thU,kText,h1]
  ·exact⟨rfl,h4.nr,qv (t:=T.snd a b p) h4.uq.nd h4.nr h4.bv (λx=>(ε x).1) hu,h4.bv,ε,λρ tk=>by simp only [thU,h4.ls],λtk=>by rw [iP,iP,h4.bad],by rw [pG,pG,h4.all],by rw [eO,eO,h4.most],h4.smp,rfl⟩
 | tau p=>
  simp only [T.size]at hn;rw [iR]at hb;obtain⟨q,v,h1,h2,G,h4⟩:=ih p ρ tk (by omega) hu.tau (hm.sub λy hy=>hy) hb;refine⟨.tau q,.tau v,?_,h2,G,?_⟩
  ·simp only [T.text,thU,kText,h1]
  ·exact⟨rfl,h4.nr,qv (t:=T.tau p) h4.uq.nd h4.nr h4.bv (λx=>(h4.us x).1) hu,h4.bv,h4.us,λρ tk=>by simp only [thU,h4.ls],λtk=>by rw [iR,iR,h4.bad],by rw [pV,pV,h4.all],by rw [eN,eN,h4.most],h4.smp,rfl⟩
 | rep p=>
  simp only [T.size]at hn;rw [jf]at hb;obtain⟨q,v,h1,h2,G,h4⟩:=ih p ρ tk (by omega) hu.rep (hm.sub λy hy=>hy) hb;have hd:v.dead=false:=by rw [h4.dead];exact hl
  have nr:(T.rep v).Nr:=⟨hd,h4.nr⟩
  refine⟨.rep q,.rep v,?_,h2,G,?_⟩
  ·simp only [T.text,thU,kText,h1]
  ·refine⟨rfl,nr,qv (t:=T.rep p) h4.uq.nd nr h4.bv (λx=>(h4.us x).1) hu,h4.bv,h4.us,λρ tk=>by simp only [thU,h4.ls],λtk=>by rw [jf,jf,h4.bad],by rw [pB,pB,h4.all],by rw [eU,eU,h4.most],λhs=>?_,rfl⟩;simp only [T.smp,Nz]at hs|-;refine⟨?_,h4.smp hs.2⟩;have:aj p=([],[p]):=by
    have hr:=hs.1;cases p<;>first | rfl | cases hr
   rw [T.xG,h4.tg p this,<-T.xG];exact hs.1
 | mat a b p=>
  simp only [T.size]at hn;have ζ:a≠b:=υ;have hd:p.dead=false:=hl;rw [fe]at hb;obtain⟨q,v,h1,h2,G,h4⟩:=ih p ρ tk (by omega) hu.mat (hm.sub λy hy=> .inr ⟨ζ,hd,.inr (.inr hy)⟩) hb;have ι:v.dead=false:=by rw [h4.dead];exact hd
  have ha:=(hm.ok a (.inr ⟨ζ,hd,.inl rfl⟩)).2;have φ:=(hm.ok b (.inr ⟨ζ,hd,.inr (.inl rfl)⟩)).2;have us:∀x,(T.mat a b v).Us x↔(T.mat a b p).Us x:=λx=>by simp only [T.Us,ζ,hd,ι,h4.us]
  have χ:∀x,(T.mat b a v).Us x↔(T.mat a b p).Us x:=λx=>by
   simp only [T.Us,ζ,ζ.symm,hd,ι,h4.us,false_and,QT,ne_eq,Qw,P0];rw [<-QF,<-QF,or_comm (a:=x=b)]
  by_cases ψ:ρ b< ρ a
  ·have nr:(T.mat b a v).Nr:=⟨⟨ζ.symm,ι⟩,h4.nr⟩
   refine⟨.mat (ρ b) (ρ a) q,.mat b a v,?_,⟨rfl,rfl,h2⟩,⟨φ,ha,G⟩,?_⟩
   ·simp only [T.text,thU,kText,h1,N' ψ]
   ·exact⟨rfl,nr,qv (t:=T.mat a b p) h4.uq.nd nr h4.bv (λx=>(χ x).1) hu,h4.bv,χ,λρ tk=>by simp only [thU,h4.ls];exact Br _ _ _,λtk=>by rw [fe,fe,h4.bad],by rw [ja,ja,h4.all],by rw [cN,cN,h4.most],h4.smp,rfl⟩
  ·have nr:(T.mat a b v).Nr:=⟨⟨ζ,ι⟩,h4.nr⟩
   refine⟨.mat (ρ a) (ρ b) q,.mat a b v,?_,⟨rfl,rfl,h2⟩,⟨ha,φ,G⟩,?_⟩
   ·simp only [T.text,thU,kText,h1,NS ψ]
   ·exact⟨rfl,nr,qv (t:=T.mat a b p) h4.uq.nd nr h4.bv (λx=>(us x).1) hu,h4.bv,us,λρ tk=>by simp only [thU,h4.ls],λtk=>by rw [fe,fe,h4.bad],by rw [ja,ja,h4.all],by rw [cN,cN,h4.most],h4.smp,rfl⟩
 | rcv a x p=>
  simp only [T.size]at hn;rw [iS,O0]at hb;obtain⟨f1,f2⟩:=He hb.1;have hm':IT p (aG ρ x (iG tk)) (cD tk (iG tk)):=by
   refine⟨λy hy=>?_,λy z hy H e=>?_⟩
   ·by_cases e:y=x
    ·subst e;simp [aG,cD,f2]
    ·obtain⟨k1,k2⟩:=hm.ok y (.inr ⟨e,hy⟩);simp [aG,e,cD,k1,k2]
   ·by_cases g1:y=x<;>by_cases g2:z=x
    ·rw [g1,g2]
    ·simp only [aG,N' g1,NS g2]at e;have :=(hm.ok z (.inr ⟨g2,H⟩)).1;rw [<-e,f1]at this;cases this
    ·simp only [aG,NS g1,N' g2]at e;have :=(hm.ok y (.inr ⟨g1,hy⟩)).1;rw [e,f1]at this;cases this
    ·simp only [aG,NS g1,NS g2]at e;exact hm.inj y z (.inr ⟨g1,hy⟩) (.inr ⟨g2,H⟩) e
  obtain⟨q,v,h1,h2,G,h4⟩:=ih p _ _ (by omega) hu.rcv hm' hb.2;have ε:∀y,(T.rcv a x v).Us y↔(T.rcv a x p).Us y:=λy=>or_congr_right (and_congr_right λ _=>h4.us y)
  have nr:(T.rcv a x v).Nr:=h4.nr;have ο:(BV (T.rcv a x v)).Nodup:=OB.2 ⟨λhx=>hu.BL (h4.bv x hx),h4.uq.nd⟩;have θ:∀y∈BV (T.rcv a x v),y∈BV (T.rcv a x p):=λy hy=>by
   rcases NV.1 hy with rfl | hy
   ·exact Oa ..
   ·exact NJ _ (h4.bv y hy)
  refine⟨.rcv (ρ a) (iG tk) q,.rcv a x v,?_,⟨rfl,λn=>AE.J1 (λz H e=>?_) h2 n⟩,⟨(hm.ok a (.inl rfl)).2,f2,G⟩,?_⟩
  ·simp only [T.text,thU,kText,h1]
  ·intro hc;have :=(hm.ok z (.inr ⟨e,(h4.us z).1 (h4.nr.iy H)⟩)).1;rw [hc,f1]at this;cases this
  ·exact⟨rfl,nr,qv ο nr θ (λx=>(ε x).1) hu,θ,ε,λρ tk=>by simp only [thU,h4.ls],λtk=>by rw [iS,iS,h4.bad],by rw [pE,pE,h4.all],by rw [eK,eK,h4.most],h4.smp,rfl⟩
 | sum p q=>
  simp only [T.size]at hn;obtain⟨hd1,hd2⟩:p.dead=false/\q.dead=false:=υ;have eS:ak (T.sum p q)=ak p++ak q:=rfl;have ω:∀u∈ak (T.sum p q),u.size<=n:=λu δ=>by
   rw [eS]at δ;rcases NI.1 δ with h | h
   ·have :=lP p u h;omega
   ·have :=lP q u h;omega
  have hbad:∀u∈ak (T.sum p q),cT u tk=false:=by
   rw [(fp (w:=T.sum p q) rfl ρ tk).2]at hb;simp only [thBad,PV,yM]at hb;simpa [List.any_eq_false]using hb
  obtain⟨zs,z1,z2⟩:=triples (R:=λu=>Ib u ρ tk) (l:=ak (T.sum p q)) λu δ=>
   ih u ρ tk (ω u δ) (xJ hu u δ) (hm.sub λy hy=>(lK _ hu y).2 ⟨u,δ,hy⟩) (hbad u δ)
  obtain⟨J,y1,y2⟩:=vK zs λz=>z.2.1.text
  have γ:(J.map (·.1)).Perm (ak (T.sum p q)):=z1▸y1.map _;have H:∀z∈J,Ib z.1 ρ tk z.2.1 z.2.2:=λz H=>z2 z (y1.subset H)
  have Z:∀z∈J,z.1∈ak (T.sum p q):=λz H=>γ.subset (Pd H)
  have hlen:2<=J.length:=by
   have l1:(ak p).length≠0:=λe=>pj hd1 hu.dO (N3 e)
   have l2:(ak q).length≠0:=λe=>pj hd2 hu.dG (N3 e)
   have :=γ.length_eq;rw [NH,eS,NB]at this;omega
  have κ:J≠[]:=λe=>by rw [e]at hlen;simp at hlen
  have η:(T.db (J.map (·.2.2))).isS=true/\(T.db (J.map (·.2.2))).th=true/\(T.db (J.map (·.2.2))).tg=4:=by
   match J,hlen with
   | a::b::l,_=>exact⟨rfl,rfl,rfl⟩
   | [a],h=>simp at h
   | [],h=>simp at h
  have hvs:∀v∈J.map (·.2.2),v.dead=false/\v.isS=false/\v.Nr:=λv hv=>by
   obtain⟨z,h1,rfl⟩:=Oe.1 hv;have ha:=(H z h1).2.2.2;refine⟨?_,ha.isS (Ew _ hu z.1 (Z z h1)),ha.nr⟩;rw [ha.dead];cases hd:z.1.dead with
   | false=>rfl
   | true=>
    have hcp:∀u:U,∀t∈ak u,t.dead=false:=DX;exact absurd (hcp _ _ (Z z h1)) (by rw [hd];simp)
  have μ:=(T.CL (l:=J.map (·.2.2)) (by simpa using κ) hvs)
  have θ:∀x∈BV (T.db (J.map (·.2.2))),x∈BV (T.sum p q):=λx hx=>by
   rw [yL]at hx;obtain⟨v,h1,h2⟩:=OF.1 hx;obtain⟨z,G,rfl⟩:=Oe.1 h1;exact zI _ z.1 (Z z G) x ((H z G).2.2.2.bv x h2)
  have ε:∀x,(T.db (J.map (·.2.2))).Us x↔(T.sum p q).Us x:=λx=>by
   rw [T.DG,lK _ hu];constructor
   ·rintro⟨v,h1,h2⟩
    obtain⟨z,G,rfl⟩:=Oe.1 h1;exact⟨z.1,Z z G,((H z G).2.2.2.us x).1 h2⟩
   ·rintro⟨u,h1,h2⟩
    obtain⟨z,G,rfl⟩:=Oe.1 (γ.symm.subset h1);exact⟨_,Pd G,((H z G).2.2.2.us x).2 h2⟩
  have ο:(BV (T.db (J.map (·.2.2)))).Nodup:=by
   rw [yL,QC];refine qo (f:=λz=>BV z.1) ?_ λz h=>⟨(H z h).2.2.2.uq.nd,(H z h).2.2.2.bv⟩
   have hp:=(γ.flatMap_right BV)
   rw [QC]at hp;exact hp.nodup_iff.2 (Gc _ hu)
  have huq:=qv ο μ.1 θ (λx=>(ε x).1) hu;have ν:ak (T.db (J.map (·.2.2)))=J.map (·.2.2):=by
   rw [dR huq μ.1 μ.2,T.Ab (by simpa using κ) λt ht=>(hvs t ht).2.1]
  have ς:∀{β:Type} (g:U->β),(∀z∈J,g z.2.2=g z.1)->((J.map (·.2.2)).map g).Perm ((ak (T.sum p q)).map g):=λg hg=>by
   have e:(J.map (·.2.2)).map g=(J.map (·.1)).map g:=by
    rw [OJ,OJ];exact OU hg
   rw [e];exact γ.map g
  refine⟨T.db (J.map (·.2.1)),T.db (J.map (·.2.2)),?_,AE.db λz h=>(H z h).2.1,CC λt ht=>?_,?_⟩
  ·rw [T.we (by simpa using κ),OJ,(fp (w:=T.sum p q) rfl ρ tk).1];have e:J.map (T.text∘λz=>z.2.1)=bk (zs.map λz=>z.2.1.text):=y2;rw [e]
   congr 2
   rw [<-z1,OJ];exact OU λz h=>(z2 z h).1
  ·obtain⟨z,h1,rfl⟩:=Oe.1 ht;exact(H z h1).2.2.1
  ·refine⟨η.2.1,μ.1,huq,θ,ε,λρ tk=>?_,λtk=>?_,?_,?_,λhs=>?_,η.2.2⟩
   ·rw [(fp η.1 ρ tk).1,(fp (w:=T.sum p q) rfl ρ tk).1,ν]
    congr 1
    exact kF (ς _ λz h=>(H z h).2.2.2.ls ρ tk)
   ·rw [(fp η.1 ρ tk).2,(fp (w:=T.sum p q) rfl ρ tk).2,ν];simp only [thBad,PV,yM];have h1:=A3 (f:=λb:Bool=>b) (ς (λu=>cT u tk) λz h=>(H z h).2.2.2.bad tk);simpa [List.any_map,Function.comp_def]using h1
   ·rw [(fp η.1 ρ tk).2,(fp (w:=T.sum p q) rfl ρ tk).2,ν];simp only [thAll,PS,G7];exact iJ (ς cz λz h=>(H z h).2.2.2.all)
   ·rw [(fp η.1 ρ tk).2,(fp (w:=T.sum p q) rfl ρ tk).2,ν];refine Dn λk=>?_
    simp only [an,Nat.max_zero,xS];constructor
    ·intro h u δ;obtain⟨z,G,rfl⟩:=Oe.1 (γ.symm.subset δ);rw [<-(H z G).2.2.2.most];exact h _ (Pd G)
    ·intro h v hv;obtain⟨z,G,rfl⟩:=Oe.1 hv;rw [(H z G).2.2.2.most];exact h _ (Z z G)
   ·have hg:=xm (T.sum p q) rfl hs;refine(Fk (by simpa using κ) λt ht=>?_).1;obtain⟨z,h1,rfl⟩:=Oe.1 ht;have ha:=(H z h1).2.2.2;have hgz:=hg z.1 (Z z h1);refine⟨ha.smp (Hu _ hs z.1 (Z z h1)),?_⟩;rw [T.z8,ha.tg z.1 hgz.2,NL];rcases hgz.1 with h | h | h<;>omega
def pk {u:U}(hu:Uq u)(hd:u.dead=true):(∀ρ tk,LS u ρ tk=[48])/\(∀tk,cT u tk=false)/\cz u=0/\aX u=0:=by
 have h1:=lT hd;have G:(td u).1=[]:=by
  have :=(fW u hu).2.1;rw [cO u hu hd]at this;exact this.eq_nil
 refine⟨λρ tk=>?_,λtk=>?_,?_,?_⟩
 ·simp [LS,aQ,h1,thS]
 ·simp [cT,gP,h1,Lv.isNil]
 ·simp [cz,h1,G,thAll]
 ·simp [aX,h1,G,an]
def arr:∀(n:Nat) (u:U) (ρ:Rh) (tk:Tk),u.size<=n->Uq u->IT u ρ tk->cT u tk=false->∃t v,Ib u ρ tk t v:=by
 intro n
 induction n with
 | zero=>intro u ρ tk h;cases u<;>simp [T.size]at h
 | succ n ih=>
  intro u ρ tk hn hu hm hb;cases hd:u.dead with
  | true=>
   obtain⟨d1,d2,d3,d4⟩:=pk hu hd;have ω:Uq .nil:=⟨O8,λx h=>by cases h⟩
   obtain⟨e1,e2,e3,e4⟩:=pk ω rfl;refine⟨.nil,.nil,by rw [d1];rfl,trivial,trivial,trivial,ω,λx h=>(by cases h),λx=>⟨λh=>h.elim,λh=>absurd h (T.bE hd)⟩,λρ tk=>by rw [d1,e1],λtk=>by rw [d2,e2],by rw [d3,e3],by rw [d4,e4],hd.symm,λ _=>rfl,λt ht=>?_,λ _=>rfl⟩;rw [cO u hu hd]at ht;cases ht
  | false=>
   have hne:=yw hd hu;obtain⟨g1,g2,_⟩:=fW u hu;have hlen:(td u).1.length=(aj u).1.length:=g2.length_eq;have hnil:(td u).2.isNil=false:=by rw [di,hd]
   simp only [cT,gP,hnil,Bool.not_false,Pt,O0,hlen]at hb;obtain⟨hb1,ζ⟩:=hb;rw [g1,sR]at ζ;have ζ:∀t∈(aj u).2,thBad (tl [t]) (addK (lets (aj u).1.length tk) tk)=false:=by simpa [List.any_eq_false]using ζ
   obtain⟨l1,l2⟩:=vW _ tk hb1;have hls:=ft (aj u).1.length tk;generalize hl:lets (aj u).1.length tk=ls at*;have hLS:LS u ρ tk=wrap ls (bF ((perms (aj u).1).map λπ=>joinS 38 (bk ((aj u).2.map λt=>thU t (asg π ls ρ) (addK ls tk))))):=by
    rw [yH hu];unfold aQ;rw [NS (by simpa using hne)];show wrap (lets _ tk) (bF (List.map (λπ=>joinS 38 (bk ((aj u).2.map λt=>thU t (asg π (lets _ tk) ρ) (addK (lets _ tk) tk)))) _))=_;rw [hl]
   obtain⟨hmem,_⟩:=ct (l:=(perms (aj u).1).map λπ=>joinS 38 (bk ((aj u).2.map λt=>thU t (asg π ls ρ) (addK ls tk)))) (by simpa using oH _);obtain⟨π,G,ξ⟩:=Oe.1 hmem;have G:=(cH _ π).1 G;have δ:π.length=ls.length:=by rw [G.length_eq,hls]
   have ο:=IA u hu;have ι:π.Nodup:=G.nodup_iff.2 (Oc.1 ο).1;have hmt:∀t∈(aj u).2,IT t (asg π ls ρ) (addK ls tk):=by
    intro t ht;have ς:∀y,t.Us y->y∈π\/(y∉π/\u.Us y):=λy hy=>by
     by_cases hp:y∈π
     ·exact .inl hp
     ·exact .inr ⟨hp,(ll u hu t ht y hy).resolve_right λh=>hp (G.symm.subset h)⟩
    refine⟨λy hy=>?_,λy z hy J e=>?_⟩
    ·rw [y3];rcases ς y hy with h | ⟨h,h'⟩
     ·have :=cZ π ls ρ y h δ;exact⟨by simp [this],(l2 _ this).2⟩
     ·rw [bz π ls ρ y h];exact⟨by simp [(hm.ok y h').1],(hm.ok y h').2⟩
    ·rcases ς y hy with h | ⟨h,h'⟩<;>rcases ς z J with k | ⟨k,k'⟩
     ·exact rP π ls ρ y z h k δ l1 e
     ·rw [bz π ls ρ z k]at e;have :=(l2 _ (cZ π ls ρ y h δ)).1;rw [e,(hm.ok z k').1]at this;cases this
     ·rw [bz π ls ρ y h]at e;have :=(l2 _ (cZ π ls ρ z k δ)).1;rw [<-e,(hm.ok y h').1]at this;cases this
     ·rw [bz π ls ρ y h,bz π ls ρ z k]at e;exact hm.inj y z h' k' e
   obtain⟨zs,z1,z2⟩:=triples (R:=λu=>G4 u (asg π ls ρ) (addK ls tk)) (l:=(aj u).2) λt ht=>
    MQ ih (by have :=Bh u t ht;omega) (FK hu t ht) (xQ u t ht) (sQ u t ht).1 (sQ u t ht).2 (hmt t ht) (ζ t ht)
   obtain⟨Z,y1,y2⟩:=vK zs λz=>z.2.1.text
   have H:(Z.map (·.1)).Perm (aj u).2:=z1▸y1.map _;have J:∀z∈Z,G4 z.1 (asg π ls ρ) (addK ls tk) z.2.1 z.2.2:=λz J=>z2 z (y1.subset J)
   have γ:∀z∈Z,z.1∈(aj u).2:=λz J=>H.subset (Pd J)
   have ε:Z≠[]:=λe=>hne (by have :=H;rw [e]at this;exact this.symm.eq_nil)
   have η:∀w∈Z.map (·.2.2),w.th=true/\w.Nr:=λw hw=>by
    obtain⟨z,h1,rfl⟩:=Oe.1 hw;exact⟨(J z h1).2.2.2.th,(J z h1).2.2.2.nr⟩
   have κ:∀x,(T.parL (Z.map (·.2.2))).Us x↔∃t∈(aj u).2,t.Us x:=λx=>by
    rw [T.CK];constructor
    ·rintro⟨v,h1,h2⟩
     obtain⟨z,h3,rfl⟩:=Oe.1 h1;exact⟨z.1,γ z h3,((J z h3).2.2.2.us x).1 h2⟩
    ·rintro⟨u',h1,h2⟩
     obtain⟨z,h3,rfl⟩:=Oe.1 (H.symm.subset h1);exact⟨_,Pd h3,((J z h3).2.2.2.us x).2 h2⟩
   have μ:=T.Dt η;have υ:(T.resL π (T.parL (Z.map (·.2.2)))).Nr:=T.CH μ.1 ι λx hx=>(κ x).2 (AN u hu x (G.subset hx))
   have φ:∀x,(T.resL π (T.parL (Z.map (·.2.2)))).Us x↔u.Us x:=λx=>by
    rw [T.og,κ];constructor
    ·rintro⟨h1,t,h2,h3⟩
     exact(ll u hu t h2 x h3).resolve_right λh=>h1 (G.symm.subset h)
    ·intro h;exact⟨λhx=>hu.nf x (iB u x (G.subset hx)) (T.bf h),Gm u x h⟩
   have hbv:∀x∈BV (T.resL π (T.parL (Z.map (·.2.2)))),x∈BV u:=λx hx=>by
    rw [dP,dT]at hx;rcases NI.1 hx with hx | hx
    ·exact iB u x (G.subset hx)
    ·obtain⟨v,h1,h2⟩:=OF.1 hx;obtain⟨z,h3,rfl⟩:=Oe.1 h1;exact C9 _ z.1 (γ z h3) x ((J z h3).2.2.2.bv x h2)
   have hndv:(BV (T.resL π (T.parL (Z.map (·.2.2))))).Nodup:=by
    rw [dP,dT,QC];have hp:=(H.flatMap_right BV)
    rw [QC]at hp;have hnd':(Z.flatMap λz=>BV z.1).Nodup:=hp.nodup_iff.2 (Oc.1 ο).2.1;refine Oc.2 ⟨ι,qo (f:=λz=>BV z.1) hnd' λz h=>⟨(J z h).2.2.2.uq.nd,(J z h).2.2.2.bv⟩,λa ha b hb=>?_⟩;obtain⟨z,h1,h2⟩:=OF.1 hb;exact(Oc.1 ο).2.2 a (G.subset ha) b (OF.2 ⟨z.1,γ z h1,(J z h1).2.2.2.bv b h2⟩)
   have θ:=qv hndv υ hbv (λx=>(φ x).1) hu;have ν:aj (T.resL π (T.parL (Z.map (·.2.2))))=(π,Z.map (·.2.2)):=by
    rw [BZ θ υ,T.A1,T.AX,T.zf λt ht=>(η t ht).1,T.Gb λt ht=>(η t ht).1,N9]
   have χ:∀{β:Type} (g:U->β),(∀z∈Z,g z.2.2=g z.1)->((Z.map (·.2.2)).map g).Perm ((aj u).2.map g):=λg hg=>by
    have e:(Z.map (·.2.2)).map g=(Z.map (·.1)).map g:=by
     rw [OJ,OJ];exact OU hg
    rw [e];exact H.map g
   obtain⟨k1,k2,_⟩:=fW _ θ;rw [ν]at k1 k2;have hdv:(T.resL π (T.parL (Z.map (·.2.2)))).dead=false:=by
    rw [kU,k1]
    match Z,ε,η with
    | z::l,_,h=>
     have :=(h z.2.2 (by simp)).1;intro hh;revert hh this;simp only [N4];cases z.2.2<;>simp [tl,Lv.len,T.th]
   have ψ:(td (T.resL π (T.parL (Z.map (·.2.2))))).1.length=(td u).1.length:=by rw [k2.length_eq,G.length_eq,hlen]
   refine⟨T.resL ls (T.parL (Z.map (·.2.1))),T.resL π (T.parL (Z.map (·.2.2))),?_,?_,?_,υ,θ,hbv,φ,λρ tk=>?_,λtk=>?_,?_,?_,by rw [hdv,hd],λhs=>?_,λt ht=>?_,λhns=>?_⟩
   ·rw [T.pY,hLS,<-ξ,T.pC (by simpa using ε),OJ];have e:Z.map (T.text∘λz=>z.2.1)=bk (zs.map λz=>z.2.1.text):=y2;rw [e,<-z1,OJ]
    congr 3
    exact OU λz h=>(z2 z h).1
   ·refine AE.DM π ls ρ δ l1 (λz hz' hzp hc=>?_) (AE.parL λz h=>(J z h).2.1);have hzu:u.Us z:=(φ z).1 (T.og.2 ⟨hzp,μ.1.iy hz'⟩);have :=(l2 _ hc).1;rw [(hm.ok z hzu).1]at this;cases this
   ·refine CF (DN λt ht=>?_) λc hc=>(l2 c hc).2
    obtain⟨z,h1,rfl⟩:=Oe.1 ht;exact(J z h1).2.2.1
   ·rw [yH θ,yH hu,ν];exact qG G (λρ tk=>χ (λt=>thU t ρ tk) λz h=>(J z h).2.2.2.tx ρ tk) ρ tk
   ·unfold cT gP;rw [ψ,di,di,hdv,hd,k1,g1]
    congr 2
    rw [sR,sR];have h1:=A3 (f:=λb:Bool=>b) (χ (λt=>thBad (tl [t]) (addK (lets (td u).1.length tk) tk)) λz h=>(J z h).2.2.2.bad _);simpa [List.any_map,Function.comp_def]using h1
   ·unfold cz;rw [ψ,k1,g1,BY,BY (aj u).2]
    congr 1
    exact iJ (χ (λt=>thAll (tl [t])) λz h=>(J z h).2.2.2.all)
   ·unfold aX;rw [ψ,k1,g1]
    congr 1
    refine Dn λk=>?_
    rw [rR,rR];constructor
    ·intro h t ht;obtain⟨z,h3,rfl⟩:=Oe.1 (H.symm.subset ht);rw [<-(J z h3).2.2.2.most];exact h _ (Pd h3)
    ·intro h v hv;obtain⟨z,h3,rfl⟩:=Oe.1 hv;rw [(J z h3).2.2.2.most];exact h _ (γ z h3)
   ·rw [AV];refine AS λt ht=>?_
    obtain⟨z,h1,rfl⟩:=Oe.1 ht;exact(J z h1).2.2.2.smp (IW u hs z.1 (γ z h1))
   ·rw [ht]at G H;have e1:π=[]:=G.eq_nil;have e2:=H.length_eq;rw [NH]at e2
    match Z,e2,H,J with
    | [z],_,hs,J=>
     have:z.1=t:=by simpa using hs
     subst this;rw [e1];exact(J z (by simp)).2.2.2.tg
   ·cases hp:π with
    | cons x l=>rfl
    | nil=>
     rw [hp]at G;have e0:(aj u).1=[]:=G.symm.eq_nil
     match Z,ε,H,J with
     | [z],_,hs,J=>
      have e1:(aj u).2=[z.1]:=by
       have :=List.perm_singleton.1 hs.symm;simpa using this
      show z.2.2.isS=false;have htg:=(J z (by simp)).2.2.2.tg;rw [T.Fc,htg,<-T.Fc];cases hz1:z.1<;>first | rfl | skip
      rename_i p q;exact absurd (Prod.ext e0 (by rw [e1,hz1])) (hns p q)
     | z::y::l,_,_,_=>rfl
end
def vF:∀(n:Nat) (tk:Tk),lets (n+1) tk=lets n tk++[iG (addK (lets n tk) tk)]
 | 0,tk=>rfl
 | n+1,tk=>by
  rw [lets,vF n,lets];rfl
def qs:∀(n:Nat) (tk:Tk),gi (n+1) tk=(gi n tk||(uy (addK (lets n tk) tk)).isNone)
 | 0,tk=>by simp [gi,lets,addK]
 | n+1,tk=>by
  rw [gi,qs n,gi];rw [lets,addK,Pa]
def gL:∀(l:List UInt8) (s:Tx),(wrap l s).length=3* l.length+s.length
 | [],s=>by simp [wrap]
 | c::l,s=>by simp only [wrap,Nv,gL l s];omega
def tV:∀{l:List UInt8} (s:Tx),(∀c∈l,¬c=35)->(wrap l s).count 35=l.length+s.count 35
 | [],s,_=>by simp [wrap]
 | c::l,s,h=>by
  have G:=tV (l:=l) s λc H=>h c (NJ _ H)
  simp only [wrap,Nv];rw [List.count_cons,a7 (h c (by simp)),a7 (by decide),G];simp;omega
def nQ:∀{l:List UInt8} {s:Tx} {c:UInt8},(c∈l\/c∈s)->c∈wrap l s
 | [],s,c,h=>by simpa [wrap]using h
 | d::l,s,c,h=>by
  simp only [wrap,NV];rcases h with h | h
  ·rcases NV.1 h with h | h
   ·exact .inr (.inl h)
   ·exact .inr (.inr (.inr (nQ (.inl h))))
  ·exact .inr (.inr (.inr (nQ (.inr h))))
def gB {k m:Nat}{Θ ls A:Tx}(h:GU k m Θ ls A):cC A=addK ls (cC Θ):=by
 funext c
 rw [y3,cC,cC,OD];simp only [NL,O'];exact h.mem c
structure JD (k i:Nat)(Θ ls A:Tx):Prop where
 ok:GU k i Θ ls A
 good:gi i (cC Θ)=false->ls=lets i (cC Θ)
 bad:gi i (cC Θ)=true->∃c∈ls,128<=c
def JD.zero {k:Nat}{Θ:Tx}(h:kz Θ):JD k 0 Θ [] Θ:=
 ⟨⟨rfl,O8,λc G=>(by cases G),h,λc=>by simp⟩,λ _=>rfl,λh=>by simp [gi]at h⟩
def JD.snoc {k i:Nat}{Θ ls A A':Tx}{c:UInt8}(h:JD k i Θ ls A)(H:AM (k+i) A c)(hs:kz A')(hA:∀x,x∈A'↔x=c\/x∈A):JD k (i+1) Θ (ls++[c]) A':=by
 have Z:c∉ls:=λhm=>H.nin ((h.ok.mem c).2 (.inr hm))
 have β:c∉Θ:=λhm=>H.nin ((h.ok.mem c).2 (.inl hm))
 refine⟨⟨by simp [h.ok.len],?_,λd hd=>?_,hs,λd=>?_⟩,λhb=>?_,λhb=>?_⟩
 ·refine Oc.2 ⟨h.ok.nd,by simp,λa ha b hb e=>?_⟩;have:b=c:=by simpa using hb
  subst this;subst e;exact Z ha
 ·rcases NI.1 hd with hd | hd
  ·have :=h.ok.ok d hd;exact⟨this.1,this.2.1.mono (by omega),this.2.2⟩
  ·have:d=c:=by simpa using hd
   subst this;exact⟨β,by rw [<-PB];exact H.okn,H.ngr,H.nm⟩
 ·rw [hA,h.ok.mem,NI,NT];constructor
  ·rintro(h | h | h)
   ·exact .inr (.inr h)
   ·exact .inl h
   ·exact .inr (.inl h)
  ·rintro(h | h | h)
   ·exact .inr (.inl h)
   ·exact .inr (.inr h)
   ·exact .inl h
 ·rw [qs,O0]at hb;have e:=h.good hb.1;rw [vF,<-e]
  congr 2
  have G:=hb.2;rw [<-e,<-gB h.ok]at G;rw [<-gB h.ok];exact H.good G
 ·rw [qs,O']at hb;cases J:gi i (cC Θ)with
  | true=>
   obtain⟨d,h1,h2⟩:=h.bad J;exact⟨d,by simp [h1],h2⟩
  | false=>
   rw [J]at hb;have G:=hb.resolve_left (by simp);rw [<-h.good J,<-gB h.ok]at G;exact⟨c,by simp,H.bad G⟩
def vD:∀n,n<=90->(ib n).Nodup
 | 0,_=>O8
 | n+1,h=>by
  rw [zm];refine Oc.2 ⟨vD n (by omega),by simp,λa ha b hb e=>?_⟩;have hb:b=gl n:=by simpa using hb
  obtain⟨j,H,G⟩:=ig.1 ha;have :=xO (by omega) (by omega) (G.symm.trans (e.trans hb));omega
structure CN (on:Bool)(σ:Nat->Nat)(u:U)(Lo:List Tx)(ls A best:Tx):Prop where
 mem:∃o∈Lo,xh on σ u o ls A best
 le:∀o∈Lo,∃r,xh on σ u o ls A r/\jg best r=true
def xh.ne {on:Bool}{σ:Nat->Nat}{u:U}{o ls A r:Tx}(h:xh on σ u o ls A r)(G:(aj u).2≠[]):r≠[]:=by
 obtain⟨rs,rfl,ha⟩:=h;have H:=aS rs;refine Aj (λs J=>?_) λe=>G (N3 ?_)
 ·obtain⟨t,_,Z⟩:=ha.get' (H.subset J);exact Z.ne
 ·rw [e]at H;rw [<-ha.1,H.symm.eq_nil];rfl
def xh.text {k:Nat}{σ:Nat->Nat}{u:U}{Θ o ls A r:Tx}{π:List Nat}(h:xh false σ u o ls A r)(hu:Uq u)(β:y4 k Θ σ u)(γ:GU k (aj u).1.length Θ ls A)(H:π.Perm (aj u).1)
  (ho:o.map UInt8.toNat=π.map (asgN (aj u).1 0 σ)) (J:o.Perm (ib (aj u).1.length)) (hm:(aj u).1.length<=64) (Z:∀t∈(aj u).2,an (tl [t])<=5) (δ:∀t∈(aj u).2,thBad (tl [t]) (cC A)=false) {ρ:Rh} (hc:Compat ρ σ u):
  r=joinS 38 (bk ((aj u).2.map λt=>thU t (asg π ls ρ) (cC A))):=by
 obtain⟨rs,rfl,ha⟩:=h
 congr 2
 have ζ:∀y∈(aj u).1,∀z∈(aj u).1,asgN (aj u).1 0 σ z=asgN (aj u).1 0 σ y->z=y:=by
  intro y hy z hz e;obtain⟨i,hi,rfl⟩:=OG.1 hy;obtain⟨j,hj,rfl⟩:=OG.1 hz;rw [jK _ _ _ _ hi (gC u hu),jK _ _ _ _ hj (gC u hu),N2,N2]at e;have :=xO (by omega) (by omega) (N6.1 e);subst this;rfl
 have η:o.Nodup:=J.nodup_iff.2 (vD _ (by omega));have :=aO.map_eq (f:=λr:Tx=>r) (g:=λt=>thU t (asg π ls ρ) (cC A)) (ha.mono λr t _ ht hw=>hw.eq (Z t ht) rfl (δ t ht) (asg π ls ρ) λy hy=>?_)
 ·simpa using this
 ·show(asg π ls ρ y).toNat=rnv o ls (asgN (aj u).1 0 σ y);by_cases G:y∈(aj u).1
  ·refine(CQ π o ls _ ρ y ho (by rw [H.length_eq,γ.len]) (λl hl θ=>?_) (H.symm.subset G) (λz hz e=>ζ y G z (H.subset hz) e) η).symm;obtain⟨j,h1,rfl⟩:=ig.1 (J.subset θ);exact dx (γ.ok _ hl).2.2.1 (yx (by omega))
  ·have ε:=(ll u hu t ht y hy).resolve_right G;rw [bz π ls ρ y λh=>G (H.subset h),je _ _ _ _ G,ya,hc y ε];intro o' ι e;obtain⟨c,h1,h2⟩:=β.cov y ε;obtain⟨j,h3,rfl⟩:=ig.1 (J.subset ι);have:c=gl j:=N6.1 (h2.trans e);exact dx (β.okn c h1).2 (this▸yx (by omega))
def rF {u:U}(hu:Uq u):aX u<=5->(aj u).1.length<=5/\∀t∈(aj u).2,an (tl [t])<=5:=by
 intro h;obtain⟨h1,G,_⟩:=fW u hu;unfold aX at h;rw [h1,G.length_eq]at h;exact⟨by omega,(rR _ _).1 (by omega)⟩
def zF {u:U}(hu:Uq u):decide (5< aX u)=(decide (5< (aj u).1.length)||(aj u).2.any λt=>decide (5< an (tl [t]))):=by
 rw [OD,O',NL,NL,PA];constructor
 ·intro h;rcases Pb 5 (aj u).1.length with h1 | h1
  ·exact .inl h1
  ·right;refine OX λZ=>?_
   have G:∀t∈(aj u).2,an (tl [t])<=5:=λt ht=>by
    rcases Pb 5 (an (tl [t]))with H | H
    ·exact absurd ⟨t,ht,Ph H⟩ Z
    ·exact H
   obtain⟨k1,J,_⟩:=fW u hu;unfold aX at h;rw [k1,J.length_eq]at h;have :=(rR (aj u).2 5).2 G;omega
 ·intro h;refine OX λZ=>?_
  obtain⟨k1,J⟩:=rF hu (by omega);rcases h with h | ⟨t,h1,G⟩
  ·omega
  ·have :=J t h1;have :=NZ G;omega
end Go.Proofs.YthekamjhgabkjaaGreat
