/- Part 6 of a proof of what the last text states; no condition. -/
import Derived.Test.YthekamjhgabkjaaGreatAe5
set_option maxRecDepth 100000
set_option maxHeartbeats 4000000
set_option linter.defProp false
set_option linter.unusedVariables false
set_option linter.unusedSimpArgs false
namespace Go.Proofs.YthekamjhgabkjaaGreat
open Go Go.RowKit
section
open T Classical
def LB {f:Nat}{ca:List Value}{w:World}{v:Value}{l:List Tx}(h:Strs w v l)(Z:l.length<=1099511627776)(hf:hasR gN f=true)(G:Tx->Prop)
  (hp:∀s∈l,∀(w':World) (Q:Bool->Sb),Ex w w'->(∀J,Ex w' J->Q (decide (G s)) J)->Sc f (List.toArray ([.string (ak s)]++ca)) w' (aw [.b] Q))
  {R:Bool->Sb} (hR:∀w',Ex w w'->R (decide (∃s∈l,G s)) w'):
  Sc 53 #[v,.func (Fn.func f) #[] ca.toArray] w (aw [.b] R):=by
 refine fY v _ w R ?_;dsimp only [go_sem];refine Mn h Z hf G hp λw' x=>⟨λj hj H _=>?_,λhn=>?_⟩
 ·show R (decide (0<=(j:Int))) _;rw [P2 (show(0:Int)<=(j:Int) by omega)];have :=hR w' x;rw [P2 ⟨_,Oz hj,H⟩]at this;exact this
 ·show R (decide ((0:Int)<= -1)) _;rw [P9 (show ¬(0:Int)<= -1 by omega)];have :=hR w' x;rw [P9 (fun⟨s,h1,h2⟩=>hn s h1 h2)]at this;exact this
def tM {s:Tx}{w:World}{R:Bool->Sb}(h:R (match s with | [c]=>lt c | _=>false) w):Sc 63 #[.string (ak s)] w (aw [.b] R):=by
 refine wG s w R ?_;dsimp only [go_sem];dsimp only [go_sem,UInt8.reduceOfNat,UInt32.reduceOfNat,Nat.reduceAdd]
 match s,h with
 | [],h=>exact⟨λe=>by simp at e,λ _=>h⟩
 | [c],h=>
  refine⟨λ _=>⟨by simp,λe=>⟨by simp,?_⟩,λe=>?_⟩,λe=>by simp at e⟩
  ·have e:decide (97<=c)=true:=e;have G:lt c=decide (c<=122):=by unfold lt;rw [e,Qa]
   simp only [G]at h;exact h
  ·have e:decide (97<=c)=false:=e;have G:lt c=false:=by unfold lt;rw [e,RE]
   simp only [G]at h;exact h
 | c::d::l,h=>
  have:¬((c::d::l).length:Int)=1:=by simp only [Ov];omega
  exact⟨λe=>absurd (OW e) this,λ _=>h⟩
def Fo {s:Tx}{w:World}{R:Bool->Sb}(h:R (isLab s) w):Sc 42 #[.string (ak s)] w (aw [.b] R):=by
 refine sM s w R ?_;dsimp only [go_sem];dsimp only [go_sem,UInt8.reduceOfNat,UInt32.reduceOfNat,Nat.reduceAdd]
 match s,h with
 | [],h=>exact⟨λe=>by simp at e,λ _=>⟨λe=>by simp at e,λ _=>⟨λe=>by simp at e,λ _=>h⟩⟩⟩
 | [c],h=>
  refine⟨λe=>?_,λe=>⟨λe=>by simp at e,λ _=>⟨λe=>by simp at e,λ _=>?_⟩⟩⟩
  ·have e:c=126:=by simpa using e
   subst e;exact h
  ·have e:¬c=126:=by simpa using e
   have:isLab [c]=false:=by unfold isLab;simp [e]
   rw [<-this];exact h
 | [a,b],h=>exact⟨λe=>by simp at e,λ _=>⟨λe=>by simp at e,λ _=>⟨λe=>by simp at e,λ _=>h⟩⟩⟩
 | [a,k,b],h=>
  have key:∀{q:Bool},(decide (k=33)||decide (k=63))=true->q=(lt a&&lt b)->R q w:=λG J=>by
   have:isLab [a,k,b]=((decide (k=33)||decide (k=63))&&lt a&&lt b):=rfl;rw [G,Qa]at this;rw [J,<-this];exact h
  have go:(decide (k=33)||decide (k=63))=true->Sc 63 #[.string (ak (List.take (Int.toNat 1) [a,k,b]))] w (aw [.b] λt w'=>(t=true->((0:Int)<=2/\(2:Int)<=(([a,k,b].length:Nat):Int))/\Sc 63 #[.string (ak (List.drop (Int.toNat 2) [a,k,b]))] w' (aw [.b] λt w'=>R t w'))/\(t=false->R false w')):=λZ=>
   tM (s:=[a]) ⟨λG=>⟨by simp,tM (s:=[b]) (key Z (by have G:lt a=true:=G;rw [G];rfl))⟩,λG=>key Z (by have G:lt a=false:=G;rw [G];rfl)⟩
  refine⟨λe=>by simp at e,λ _=>⟨λe=>by simp at e,λ _=>⟨λ _=>⟨by simp,λe=>⟨by simp,λH=>⟨by simp,go ?_⟩,λH=>?_⟩,λe=>⟨by simp,go ?_⟩⟩,λe=>by simp at e⟩⟩⟩
  ·have H:decide (k=63)=true:=H;rw [H,Bool.or_true]
  ·have e:decide (k=33)=false:=e;have H:decide (k=63)=false:=H;have this:isLab [a,k,b]=((decide (k=33)||decide (k=63))&&lt a&&lt b):=rfl;rw [e,H]at this;rw [this]at h;exact h
  ·have e:decide (k=33)=true:=e;rw [e,R3]
 | [a,k,c,b],h=>
  refine⟨λe=>by simp at e,λ _=>⟨λ _=>⟨by simp,λe=>⟨by simp,?_⟩,λe=>?_⟩,λe=>by simp at e⟩⟩
  ·have e:[k,c]=[33,35]:=by simpa using e
   have e1:k=33:=(Pw e).1;have H:c=35:=(Pw (Pw e).2).1;subst e1 H;have this:isLab [a,33,35,b]=(lt a&&lt b):=rfl;rw [this]at h;refine tM (s:=[a]) ⟨λG=>⟨by simp,tM (s:=[b]) ?_⟩,λG=>?_⟩
   ·have G:lt a=true:=G;rw [G,Qa]at h;exact h
   ·have G:lt a=false:=G;rw [G]at h;exact h
  ·have e:¬[k,c]=[33,35]:=by simpa using e
   have:isLab [a,k,c,b]=false:=by
    show(decide (k=33)&&decide (c=35)&&lt a&&lt b)=false;by_cases G:k=33
    ·have J:¬c=35:=λJ=>e (by rw [G,J])
     simp [J]
    ·simp [G]
   rw [<-this];exact h
 | a::b::c::d::f::l,h=>
  have h4:¬((a::b::c::d::f::l).length:Int)=4:=by simp only [Ov];omega
  have h3:¬((a::b::c::d::f::l).length:Int)=3:=by simp only [Ov];omega
  exact⟨λe=>by simp at e,λ _=>⟨λe=>absurd (OW e) h4,λ _=>⟨λe=>absurd (OW e) h3,λ _=>h⟩⟩⟩
section
variable {t:P} {u:U}
def Bu (su:SU t u){i:Nat}(hi:i< u.ths.length){a b:Nat}{p:U}(G:Off.snd a b p∈offs u.ths[i]):∀y∈wo u.ths i i++[p],y.smp=true:=λy H=>by
 have hm:=Oz hi;obtain⟨J,_⟩:=aC (su.smp _ hm) _ G;rcases OH.1 H with h | h
 ·exact su.smp y (ct h)
 ·cases OL.1 h;exact J.smp (su.smp _ hm)
def LH (ok:fS t)(su:SU t u){o:UInt8}{e:Ev}(he:e∈nv (bf u o) u){s:Tx}(G:e.2=some s):St s:=by
 obtain⟨i,hi,he⟩:=Pk.1 he;rw [PH]at hi;unfold kQ at he;rw [aR hi]at he;obtain⟨x,H,he⟩:=Pk.1 he;cases x with
 | snd a b p=>
  have he:e∈(if a∈u.frL then []else if b∈u.frL then [([ρ0 a,33,35,o],if lt o=true then cL (Fb u i p b (e0 o))else none)]else [([ρ0 a,33,ρ0 b],cL (Ax u i p))]:List Ev):=he;split at he
  ·cases he
  ·split at he
   ·rename_i hd;cases OL.1 he;have G:(if lt o=true then cL (Fb u i p b (e0 o))else none)=some s:=G;split at G
    ·rename_i ho;have hn:e0 o< 26:=by have :=a7 ho;unfold e0;omega
     obtain⟨v1,v2,v3,v4,v5,v6⟩:=qb su hi H hd;have Z:=uw u;refine rL (BH su hi H hd (fI (NN u) (e0 o) v2) hn (λz hz=>(v3 z hz).2) v5 Z).1 ?_ G;rw [Eu];unfold lj;rw [jA];exact jG (Bu su hi H)
    ·cases G
   ·cases OL.1 he;have γ:=su.two.len;have J:i< t.ths.length:=by omega
    obtain⟨o',α,β⟩:=(ia (su.two.get J hi)).sO H;cases o'<;>try cases β
    rename_i a b p2 h1 h2;refine rL (Aq ok su J hi α H ⟨h1,h2⟩).1.nu ?_ G;rw [jA];exact jG (Bu su hi H)
 | _=>cases he
def Ns (su:SU t u){n:UInt8}{e:Ev}(he:e∈nv (jP u n) u){s:Tx}(G:e.2=some s):St s:=by
 obtain⟨i,hi,he⟩:=Pk.1 he;rw [PH]at hi;unfold kQ at he;rw [aR hi]at he;obtain⟨x,J,he⟩:=Pk.1 he;cases x with
 | rcv a x q r=>
  have he:e∈(if a∈u.frL then []else [([ρ0 a,63,n],if lt n=true then cL (Az u i q x r (e0 n))else none)]:List Ev):=he;split at he
  ·cases he
  ·cases OL.1 he;have G:(if lt n=true then cL (Az u i q x r (e0 n))else none)=some s:=G;split at G
   ·rename_i H;have H:e0 n< 26:=by have :=a7 H;unfold e0;omega
    have Z:=uw u;obtain⟨uq,nb,fr,bv⟩:=su.du hi J;have h:=Ew su hi J (fI (NN u) (e0 n) nb) H (by omega) su.bound;unfold Az at G;rw [aR hi]at G;exact rL h.1 h.2 G
   ·cases G
 | _=>cases he
end
def kF (u:U):List (Off Nat):=u.ths.flatMap offs
def NY (t:U):1<=t.size:=by cases t<;>simp only [T.size]<;>omega
def iY:∀t:U,3* (offs t).length<=t.size+1
 | .nil=>by simp [offs]
 | .tau p=>by have :=NY p;simp only [offs,PM,T.size];omega
 | .snd _ _ p=>by have :=NY p;simp only [offs,PM,T.size];omega
 | .rcv _ _ p=>by have :=NY p;simp only [offs,PM,T.size];omega
 | .sum p q=>by have :=iY p;have :=iY q;simp only [offs,Oy,T.size];omega
 | .rep p=>by have :=iY p;simp only [offs,OM,T.size];omega
 | .par p q=>by simp [offs]
 | .res _ p=>by simp [offs]
 | .mat _ _ p=>by simp [offs]
def yI:∀u:U,3* (kF u).length<=u.size+1
 | .nil=>by simp [kF,T.ths]
 | .par p q=>by
  have H:=iY p;have G:=yI q;unfold kF at*;simp only [T.ths,PE,Oy,T.size];omega
 | .res _ p=>by
  have G:=yI p;unfold kF at*;simp only [T.ths,T.size];omega
 | .tau p=>by have :=iY (.tau p);simpa [kF,T.ths]using this
 | .snd a b p=>by have :=iY (.snd a b p);simpa [kF,T.ths]using this
 | .rcv a b p=>by have :=iY (.rcv a b p);simpa [kF,T.ths]using this
 | .sum p q=>by have :=iY (.sum p q);simpa [kF,T.ths]using this
 | .rep p=>by have :=iY (.rep p);simpa [kF,T.ths]using this
 | .mat a b p=>by have :=iY (.mat a b p);simpa [kF,T.ths]using this
def Bf {X:Type}(l:List U)(f:U->List X):(List.range l.length).flatMap (λi=>f (l.getD i .nil))=l.flatMap f:=by
 rw [List.flatMap_def,List.flatMap_def]
 congr 1
 apply QW
 ·simp
 ·intro i H G;have hi:i< l.length:=by simpa using G
  simp only [QF,List.getElem_range,aR hi]
def uD {X:Type}{f g:X->Nat}:∀{l:List X},(∀x∈l,f x<=g x)->(l.map f).sum<=(l.map g).sum
 | [],_=>OB _
 | x::l,h=>by
  have :=h x (Pb ..);have :=uD (f:=f) (g:=g) (l:=l) λy G=>h y (OJ _ G)
  simp only [O3,Py];omega
def HQ {X:Type}{f:X->List Nat}:∀l:List X,(l.flatMap f).sum=(l.map λx=>(f x).sum).sum
 | []=>rfl
 | x::l=>by rw [PE,Ra,O3,Py,HQ l]
def DK {E:Nat->Off Nat->List Ev}{u:U}(G:∀i x,(E i x).length<=1)(H:u.size<=60):(nv E u).length<=100:=by
 have J:=yI u;have Z:(nv E u).length<=(kF u).length:=by
  have e:(kF u).length=((List.range u.ths.length).flatMap λi=>offs (u.ths.getD i .nil)).length:=by rw [Bf];rfl
  rw [e];unfold nv;rw [Rg,Rg];exact uD λi _=>fO (G i) _
 omega
def De:Off Nat->Bool
 | .rcv .. =>true
 | _=>false
def wOf (r:Nat):Off Nat->Nat
 | .tau _=>1
 | .snd .. =>r
 | .rcv .. =>0
def cnt (f:Off Nat->Nat)(l:List (Off Nat)):Nat:=(l.map f).sum
def EM (r:Nat):∀l:List (Off Nat),∃T S R:Nat,T+S+R=l.length/\R=l.countP De/\(l.map (wOf r)).sum=T+S* r
 | []=>⟨0,0,0,rfl,rfl,by simp⟩
 | x::l=>by
  obtain⟨T,S,R,J,G,H⟩:=EM r l;cases x with
  | tau p=>exact⟨T+1,S,R,by simp only [Ov];omega,by rw [List.countP_cons,<-G];rfl,by simp only [O3,Py,H,wOf];omega⟩
  | snd a b p=>exact⟨T,S+1,R,by simp only [Ov];omega,by rw [List.countP_cons,<-G];rfl,by simp only [O3,Py,H,wOf,Nat.succ_mul];omega⟩
  | rcv a x p s=>exact⟨T,S,R+1,by simp only [Ov];omega,by rw [List.countP_cons,<-G];rfl,by simp only [O3,Py,H,wOf];omega⟩
def Oi:∀S:Fin 21,∀R:Fin 21,S.val+R.val<=20->S.val* R.val+(20 - S.val - R.val)<=100:=by decide
def Ho {u:U}(Z:u.size<=60):(eQ u).length<=100:=by
 have h3:=yI u;have G:∀i k c d p (l:List (Off Nat)),(l.flatMap (E3 u i k c d p)).length<=l.countP De:=λi k c d p l=>by
  induction l with
  | nil=>simp
  | cons x l ih=>
   rw [PE,Oy,List.countP_cons];cases x with
   | rcv e x q s=>
    have:(E3 u i k c d p (.rcv e x q s)).length<=1:=by unfold E3;simp only;split<;>simp
    have e:(if De (.rcv e x q s)=true then 1 else 0)=1:=rfl;omega
   | _=>simp only [E3,ON];omega
 have hR:(List.range u.ths.length).flatMap (λi=>offs (u.ths.getD i .nil))=kF u:=Bf _ _;have H:∀i c d p,((List.range u.ths.length).flatMap (E2 u i c d p)).length<=(kF u).countP De:=λi c d p=>by
  rw [<-hR,List.countP_flatMap,Rg];refine uD λk _=>?_
  unfold E2;split
  ·simp
  ·exact G ..
 have J:∀i x,(E1 u i x).length<=wOf ((kF u).countP De) x:=λi x=>by
  cases x with
  | tau p=>exact OB _
  | snd c d p=>exact H i c d p
  | rcv=>exact OB _
 have hS:(eQ u).length<=((kF u).map (wOf ((kF u).countP De))).sum:=by
  rw [<-hR,List.map_flatMap,HQ];unfold eQ;rw [Rg];refine uD λi _=>?_
  unfold E0;rw [Rg,hR];exact uD λx _=>J i x
 obtain⟨T,S,R,h1,h2,h4⟩:=EM ((kF u).countP De) (kF u);rw [h4,<-h2]at hS;have :=Oi ⟨S,by omega⟩ ⟨R,by omega⟩ (by show S+R<=20;omega);have:S* R+(20 - S - R)<=100:=this;omega
def Fm {t:P}(ok:fS t){G:Tx}(hl:isLab G=true){l:List Tx}(h:cX (num t e0 0).1 G=some l):l.length<=100/\∀s∈l,St s:=by
 have H:(num t e0 0).1.size<=60:=by have :=(fg ok.su.ae).2.2;have :=ok.size;omega
 have su:=ok.su;generalize (num t e0 0).1=u at h H su;unfold cX at h;split at h
 ·unfold oN at h;split at h
  ·rename_i hf;cases h;have h1:=vJ (aK (outs (eQ u)));have Z:=(aG (outs (eQ u))).length_eq;have ol:(outs (eQ u)).length=(eQ u).length:=OM ..;have h3:=Ho H;refine⟨by omega,λx J=>?_⟩;rw [CO,(aG _).mem_iff]at J;obtain⟨v,hv,rfl⟩:=Pf.1 J;obtain⟨h1,Z⟩:=Hj default ok su v hv;have h3:=PL.1 hf v hv;cases e:cL v with
   | none=>rw [e]at h3;cases h3
   | some y=>exact rL h1 Z e
  ·cases h
 ·split at h
  ·cases h
  ·have key:(labL u G).length<=100/\∀e∈labL u G,∀s,e.2=some s->St s:=by
    have o:∀c,(nv (bf u c) u).length<=100/\∀e∈nv (bf u c) u,∀s,e.2=some s->St s:=λc=>⟨DK (gu u _) H,λe he s hs=>LH ok su he hs⟩
    have i:∀c,(nv (jP u c) u).length<=100/\∀e∈nv (jP u c) u,∀s,e.2=some s->St s:=λc=>⟨DK (mJ u _) H,λe he s hs=>Ns su he hs⟩
    unfold labL;split
    ·split
     ·exact i _
     ·exact o _
    ·exact o _
    ·exact⟨by simp,λe he=>by cases he⟩
   unfold gQ at h;split at h
   ·rename_i hf;cases h;have h1:=vJ (aK (((labL u G).filter (wt G)).map λe=>e.2.getD []));have Z:=(aG (((labL u G).filter (wt G)).map λe=>e.2.getD [])).length_eq;rw [OM]at Z;have h3:=P' (wt G) (labL u G);refine⟨by omega,λx J=>?_⟩;rw [CO,(aG _).mem_iff]at J;obtain⟨e,he,rfl⟩:=Pf.1 J;have h4:=PL.1 hf e he;obtain⟨y,hy⟩:=Re.1 h4;rw [hy];exact key.2 e (QE.1 he).1 y hy
   ·cases h
def E' {s G:Tx}(J:isLab G=true){l:List Tx}(h:nQ s G=some l):l.length<=100/\∀s∈l,St s:=by
 by_cases H:St s
 ·obtain⟨t,ok,rfl⟩:=H;rw [vd ok]at h;exact Fm ok J h
 ·unfold nQ at h;rw [dif_neg H]at h;cases h
noncomputable def qw (now:List Tx)(G:Tx):Option (List Tx):=if now.all (λs=>(nQ s G).isSome)then some (now.flatMap λs=>(nQ s G).getD [])else none
noncomputable def runL:List Tx->List Tx->Option (List Tx)
 | [],now=>some now
 | l::ls,now=>(qw now l).bind λm=>runL ls (dd (aK m))
noncomputable def dh (p:Tx)(ls:List Tx):Option (List Tx):=if ls.length<=6/\ls.all isLab then(e8 p).bind λs=>runL ls [s]else none
def xX {now:List Tx}{G s:Tx}(H:s∈now)(h:nQ s G=none):qw now G=none:=by
 refine OP λhb=>?_
 have :=PL.1 hb s H;rw [h]at this;cases this
def xQ {now:List Tx}{G s:Tx}{m l:List Tx}(H:qw now G=some m)(J:nQ s G=some l):qw (now++[s]) G=some (m++l):=by
 unfold qw at*;split at H
 ·rename_i hb;cases H;rw [O' (by rw [QP,hb];simp [J])];simp [J]
 ·cases H
def jJ {now:List Tx}{G:Tx}(hl:isLab G=true){m:List Tx}(h:qw now G=some m):m.length<=now.length* 100/\∀s∈m,St s:=by
 unfold qw at h;split at h
 ·rename_i hb;cases h;have key:∀s∈now,((nQ s G).getD []).length<=100/\∀x∈(nQ s G).getD [],St x:=λs H=>by
   obtain⟨y,Z⟩:=Re.1 (PL.1 hb s H);rw [Z];exact E' hl Z
  refine⟨gA λs H=>(key s H).1,λx J=>?_⟩;obtain⟨s,H,J⟩:=Pk.1 J;exact(key s H).2 x J
 ·cases h
def Ca (m:List Tx):(dd (aK m)).length<=m.length:=by
 have :=vJ (aK m)
 rwa [(aG m).length_eq]at this
def JJ {m:List Tx}(h:∀s∈m,St s):∀s∈dd (aK m),St s:=λs G=>h s (by rwa [CO,(aG _).mem_iff]at G)
def EY:∀(ls now:List Tx) {m:List Tx},(∀l∈ls,isLab l=true)->runL ls now=some m->m.length<=now.length* 100^ls.length
 | [],now,m,_,h=>by cases h;simp
 | l::ls,now,m,G,h=>by
  unfold runL at h;cases e:qw now l with
  | none=>rw [e]at h;cases h
  | some x=>
   rw [e]at h;have H:=EY ls _ (λy J=>G y (OJ _ J)) h;have Z:=(jJ (G l (Pb ..)) e).1;have h3:=Ca x;refine Pq H ?_;rw [Ov,Nat.pow_succ,Nat.mul_comm (100^ls.length) 100,<-Nat.mul_assoc];exact RC _ (Pq h3 Z)
def D9 {n:Nat}(h:n<=6):100^n<=1000000000000:=by
 have:100^n<=100^6:=Nat.pow_le_pow_right (by omega) h;omega
def FQ (p:Tx)(ls:List Tx):((dh p ls).getD []).length<=1000000000000:=by
 cases h:dh p ls with
 | none=>simp
 | some m=>
  show m.length<=_;unfold dh at h;split at h
  ·rename_i G;cases e:e8 p with
   | none=>rw [e]at h;cases h
   | some s=>
    rw [e]at h;have :=EY ls [s] (PL.1 G.2) h;have :=D9 G.1;simp only [PM,Nat.one_mul]at*;omega
  ·cases h
def DG {w w':World}{b:Nat}{s:Tx}(hb:b=w.heap.size)(hw:w'=w.alloc (.cells #[.string (ak s)] 9)):Own w.heap.size w' (.slice (some ⟨b,0,none⟩) 1 1) [s]:=by
 subst hb hw;refine⟨by simp,.inr ⟨_,1,#[.string (ak s)],by simp,OB _,?_,by simp,by unfold maxLen;omega,by simp,by simp [sv]⟩⟩;unfold World.alloc;simp
def EA {j:Nat}(h:j< 6){n m:Nat}(G:n<=m* 100)(H:m<=100^j):n<=100^(j+1):=by
 rw [Nat.pow_succ];exact Pq G (RC _ H)
def Dq (s:Tx)(ls:List Tx)(j:Nat)(now:List Tx):Prop:=(∀x∈now,St x)/\now.length<=100^j/\runL (ls.drop j) now=runL ls [s]/\∀l∈ls.take j,isLab l=true
def Dq.start {s:Tx}{ls:List Tx}(h:St s):Dq s ls 0 [s]:=⟨λx G=>by cases OL.1 G;exact h,by simp,rfl,by simp⟩
def Dq.next {s:Tx}{ls:List Tx}{j:Nat}{now m:List Tx}(h:Dq s ls j now)(H:j< ls.length)(h6:j< 6)(J:isLab ls[j]=true)(Z:qw now ls[j]=some m):Dq s ls (j+1) (dd (aK m)):=by
 obtain⟨h1,h2,h3,h4⟩:=h;obtain⟨g1,g2⟩:=jJ J Z;refine⟨JJ g2,EA h6 (Pq (Ca m) g1) h2,?_,λl G=>?_⟩
 ·rw [<-h3,Ps H]
  conv=>rhs;unfold runL
  rw [Z];rfl
 ·rw [OC H]at G;rcases OH.1 G with e | e
  ·exact h4 l e
  ·cases OL.1 e;exact J
def Dq.none {s:Tx}{ls:List Tx}{j:Nat}{now:List Tx}(h:Dq s ls j now)(G:j< ls.length)(H:qw now ls[j]=none):runL ls [s]=none:=by
 rw [<-h.2.2.1,Ps G];unfold runL;rw [H];rfl
def Dq.done {s:Tx}{ls now:List Tx}(h:Dq s ls ls.length now):runL ls [s]=some now:=by
 rw [<-h.2.2.1,Qd];rfl
def Dq.len {s:Tx}{ls:List Tx}{j:Nat}{now:List Tx}(h:Dq s ls j now)(G:j< 6):now.length* 100<=1000000000000:=by
 have H:=EA G (OB _) h.2.1;exact Pq H (D9 (by omega))
def xY {p l:Tx}{ls:List Tx}(h:l∈ls)(G:isLab l=false):dh p ls=none:=by
 refine OP fun⟨_,H⟩=>?_
 rw [PL.1 H l h]at G;cases G
def AO {p s:Tx}{ls:List Tx}(G:ls.length<=6)(H:∀l∈ls,isLab l=true)(J:e8 p=some s):dh p ls=runL ls [s]:=by
 unfold dh;rw [O' ⟨G,PL.2 H⟩,J];rfl
def xI {p s:Tx}{ls:List Tx}(G:e8 p=some s)(h:runL ls [s]=none):dh p ls=none:=by
 unfold dh;split
 ·rw [G];exact h
 ·rfl
def Hv {p:Tx}{v:Value}{ls:List Tx}{w:World}(hs:Strs w v ls){R:Value->Bool->Sb}(J:dh p ls=none->∀w',Ex w w'->R (.slice none 0 0) false w')(η:∀l,dh p ls=some l->∀v w',Ex w w'->Own w.heap.size w' v l->R v true w'):
  Sc 21 #[.string (ak p),v] w (aw [.v,.b] R):=by
 refine nA p v w R ?_;dsimp only [go_sem];dsimp only [go_sem,UInt8.reduceOfNat,UInt32.reduceOfNat,Nat.reduceAdd];obtain⟨a,c,hv⟩:=hs.slice;refine Fy λw1 x1=>⟨λs e=>⟨λ _=>⟨a,_,c,hv,λh6=>J ?_ _ x1,λh6 b w2 hb β=>?_⟩,λh=>(by cases h)⟩,λe=>⟨λh=>(by cases h),λ _=>J ?_ _ x1⟩⟩
 ·have h6:6< ls.length:=by simp only [OK]at h6;omega
  exact OP fun⟨h,_⟩=>by omega
 ·have h6:ls.length<=6:=by simp only [OF]at h6;omega
  have x2:Ex w1 w2:=β▸Ex.alloc w1 _;have o2:=DG hb β;have ν:=Ex.trans x1 x2;have s1:=x1.size;have s2:=x2.size;refine⟨a,_,c,hv,λt i w'=>∃(j:Nat) (now:List Tx),i=j/\j<=ls.length/\Ex w1 w'/\Own w1.heap.size w' t now/\Dq s ls j now,λ _ i _=>(ls.length - i).toNat,⟨0,[s],rfl,Pn _,x2,o2,Dq.start (xE e)⟩,λt i w3 hI=>?_⟩;obtain⟨j,now,rfl,hj,x3,o3,af⟩:=hI;have Z:=Ex.trans x1 x3;have s3:=x3.size;refine⟨λθ=>?_,λι=>?_⟩
  ·have G:=oL θ;have γ:j< 6:=by omega
   refine hs.get Z (Q6 j) (gE G) (Q:=λn=>_) ?_;refine Fo ⟨λhb=>?_,λhb=>?_⟩
   ·have hb:isLab ls[j]=false:=by simpa using hb
    exact J (xY (Oz G) hb) _ Z
   have hb:isLab ls[j]=true:=by simpa using hb
   obtain⟨a3,c3,κ⟩:=o3.strs.slice;refine⟨a3,_,c3,κ,λt5 i5 w'=>∃(k:Nat) (acc:List Tx),i5=k/\k<=now.length/\Ex w3 w'/\Own w3.heap.size w' t5 acc/\qw (now.take k) ls[j]=some acc,λ _ i5 _=>(now.length - i5).toNat,⟨0,[],rfl,Pn _,Ex.refl _,Own.nil _ _,rfl⟩,λt5 i5 w4 hI=>?_⟩;obtain⟨k,acc,rfl,hk,x4,o4,hg⟩:=hI;have s4:=x4.size;have hlen:=(jJ hb hg).1;rw [Pd]at hlen;have ξ:=af.len γ;refine⟨λδ=>?_,λε=>?_⟩
   ·have H:=oL δ;refine o3.strs.get x4 (Q6 k) (gE H) (Q:=λn=>_) ?_;obtain⟨t,ok,et⟩:=af.1 _ (Oz H);have ew:=vd ok ls[j];rw [et]at ew;rw [<-et];refine Hp ok hb (λh w5 x5=>⟨λ _=>J ?_ _ (Ex.trans Z (Ex.trans x4 x5)),λh=>(by cases h)⟩) λl h v5 w5 x5 o5=>⟨λh=>(by cases h),λ _=>?_⟩
    ·exact xI e (af.none G (xX (Oz H) (ew.trans h)))
    ·have s5:=x5.size;have ζ:qw (now.take (k+1)) ls[j]=some (acc++l):=by
      rw [OC H];exact xQ hg (ew.trans h)
     have α:=(jJ hb ζ).1;rw [Pd,Oy]at α;refine Own.push (o4.ex x5) (by omega) o5.strs (by omega) λv6 w6 b6 o6 μ ο=>⟨by omega,⟨k+1,acc++l,by omega,by omega,Ex.below (Ex.trans x4 x5) (Kp.below (Kp.aP (S:=λg=>t5.ownBlock=some g) μ λ _ h=>h) (by omega) λg hg e=>by have :=(o4.block g e).1;omega),o6,ζ⟩,tN H⟩
   ·have H:=oE ε hk;subst H;rw [O4]at hg;refine uj o4.strs (by omega) λv5 w5 x5 o5=>⟨by omega,⟨j+1,_,by omega,by omega,Ex.trans x3 (Ex.trans x4 x5),o5.mono (by omega),af.next G γ hb hg⟩,tN G⟩
  ·have G:=oE ι hj;subst G;have hl:∀l∈ls,isLab l=true:=λl h=>af.2.2.2 l (by rwa [O4])
   exact η now ((AO h6 hl e).trans af.done) _ _ Z (o3.mono s1)
 ·unfold dh;rw [e];split<;>rfl
def Cw.app {B:Nat}{w:World}{r:Nat}{acc l:List Tx}{M:Nat->Prop}(h:Cw B w r acc false M){x:Value}(hx:Strs w x l)(hl:acc.length+l.length<=1099511627776){J:Sb}
  (hJ:∀w' M',Kp w w' M->Cw B w' r (acc++l) false M'->(∀g,M' g->M g\/w.heap.size<=g)->J w'):
  ∃t7,w.cell? ⟨r,0,none⟩=some t7/\∃(base n m:Nat) (xs news:List Value),w.ownsRow base 9 1 t7 n xs/\base<=w.heap.size/\fp w x m 1 news/\(n+m<=maxLen/\(n+m)* 16<=140737488355328)/\
   ∀(v:Value) (w4:World),w4.ownsRow base 9 1 v (n+m) (xs++news)->w.grownBy w4 t7.ownBlock->(∀b:Nat,v.ownBlock=some b->t7.ownBlock=some b\/w.heap.size<=b)->
    oneV v=true/\((∃u,w4.cell? ⟨r,0,none⟩=some u)/\w4.frozen? ⟨r,0,none⟩=false)/\∀w',w'=w4.setCell ⟨r,0,none⟩ v->J w':=by
 obtain⟨v,h1,h2,h3⟩:=h.sl;have hB:=(h.mr r h.mb).1;have ι:=h.lt;refine⟨v,h1,Own.push h2 (by omega) hx hl λγ H _ α η β=>?_⟩;have δ:Kp w H λg=>v.ownBlock=some g:=Kp.aP η λ _ h=>h
 have ε:=δ.block r (by omega) λe=>(h3 r e).2 rfl
 have κ:=δ.size;have c0:H.cell? ⟨r,0,none⟩=some v:=by rw [Ow (w:=w) ε];exact h1
 have c1:H.cell? ⟨r,1,none⟩=some (.bool false):=by rw [Ow (w:=w) ε];exact h.c1
 have f15:∀j,H.frozen? ⟨r,j,none⟩=false:=λj=>by rw [O7 (w:=w) ε];exact h.f j
 refine⟨α.qh,⟨⟨_,c0⟩,f15 0⟩,λζ G=>?_⟩;have kk:Kr r H ζ:=G▸Kr.set H 0 _;have μ:=kk.size;have θ:∀g,γ.ownBlock=some g->g≠r:=λg Z=>(β g Z).elim (λe=>(h3 g e).2) λe=>by omega
 have kM:Kp w ζ M:=Kp.trans (Kp.mono (λg e=>(h3 g e).1) δ) kk λg _ e=>by rw [e];exact h.mb
 refine hJ ζ (λg=>M g\/γ.ownBlock=some g) kM ⟨by omega,.inl h.mb,λg Z=>?_,λj=>?_,?_,γ,?_,α.kp kk θ,λg Z=>⟨.inr Z,θ g Z⟩⟩ λg Z=>Z.elim .inl λe=>(β g e).elim (λe=> .inl (h3 g e).1) λh=> .inr (by omega)
 ·rcases Z with Z | Z
  ·have :=h.mr g Z;omega
  ·have :=α.block g Z;omega
 ·rw [G,OS];exact f15 j
 ·rw [G,OD _ _ _ _ (by simp)];exact c1
 ·rw [G];exact OQ _ _ _ c0
def NV (l:Tx):Prop:=isLab l=false
def HT {p:Tx}{v:Value}{ls:List Tx}{w:World}(hs:Strs w v ls)(hn:ls.length<=1048576)(hlen:∀l∈ls,l.length<=1048576){R:Value->Bool->Sb}(α:dh p ls=none->∀w',Ex w w'->R (.slice none 0 0) false w')(ν:∀l,dh p ls=some l->∀v w',Ex w w'->Own w.heap.size w' v l->R v true w'):
  Sc 23 #[.string (ak p),v] w (aw [.v,.b] R):=by
 refine np p v w R ?_;dsimp only [go_sem];dsimp only [go_sem,UInt8.reduceOfNat,UInt32.reduceOfNat,Nat.reduceAdd];obtain⟨a,c,hv⟩:=hs.slice;refine Fu (λe w1 x1=>⟨λh=>(by cases h),λ _=>α ?_ _ x1⟩) λt0 ω e b w1 x1 hb st=>⟨λ _=>⟨a,_,c,hv,λh6=>?_,λh6=>α ?_ _ x1⟩,λh=>(by cases h)⟩
 ·unfold dh;rw [e];split<;>rfl
 ·have h6:ls.length<=6:=by simp only [OF]at h6;omega
  have s1:=x1.size;refine LB (ca:=[]) (hs.ex x1) (by omega) (by decide+kernel) NV (λl hl w' Q x hQ=>?_) λw2 x2=>⟨λζ=>α ?_ _ (Ex.trans x1 x2),λγ=>?_⟩
  ·refine kR l w' Q ?_;dsimp only [go_sem];dsimp only [go_sem,UInt8.reduceOfNat,UInt32.reduceOfNat,Nat.reduceAdd];refine Gg (by have :=hlen l hl;omega) ?_;have :=hQ w' (Ex.refl _);have e:decide (NV l)= !isLab l:=by
    cases h:isLab l with
    | true=>exact P9 λh'=>by rw [NV,h]at h';cases h'
    | false=>exact P2 h
   rwa [e]at this
  ·obtain⟨l,hl,hb⟩:=OW ζ;exact xY hl hb
  have hl:∀l∈ls,isLab l=true:=λl hl=>by
   have :=OX γ;cases h:isLab l with
   | true=>rfl
   | false=>exact absurd ⟨l,hl,h⟩ this
  have s2:=x2.size;have ξ:=st.mc.lt;refine⟨b,0,rfl,t0.text,by rw [x2.cell (a:=⟨b,0+1,none⟩) ξ];exact st.tx,λb3 w3 ο η=>?_⟩;have x3:Ex w2 w3:=η▸Ex.alloc w2 _;have o3:=DG ο η;have ς:=Ex.trans x1 x2;refine⟨a,_,c,hv,λt i w'=>∃(j:Nat) (now:List Tx),i=j/\j<=ls.length/\Ex w2 w'/\Own w2.heap.size w' t now/\Dq t0.text ls j now,λ _ i _=>(ls.length - i).toNat,⟨0,[t0.text],rfl,Pn _,x3,o3,Dq.start (xE e)⟩,λt i w4 hI=>?_⟩;obtain⟨j,now,rfl,hj,x4,o4,af⟩:=hI;have δ:=Ex.trans ς x4;have s4:=x4.size;refine⟨λυ=>?_,λφ=>?_⟩
  ·have G:=oL υ;have θ:j< 6:=by omega
   refine hs.get δ (Q6 j) (gE G) (Q:=λn=>_) ?_;have β:=hl _ (Oz G);intro r w5 hr Z;have x5:Ex w4 w5:=Z▸Ex.alloc w4 _;have s5:w5.heap.size=w4.heap.size+1:=by rw [Z,size_alloc]
   have r5:Cw w4.heap.size w5 r [] false (λg=>g=r):=⟨by omega,rfl,λg e=>by omega,λj=>by rw [Z,hr];exact aU _ _ _ _,by rw [Z,hr];exact aa rfl,.slice none 0 0,by rw [Z,hr];exact aa rfl,Own.nil _ _,λg J=>by cases J⟩
   obtain⟨a4,c4,χ⟩:=o4.strs.slice;refine⟨a4,_,c4,χ,λi5 w'=>∃(k:Nat) (acc:List Tx) (M:Nat->Prop),i5=k/\k<=now.length/\Ex w4 w'/\Cw w4.heap.size w' r acc false M/\qw (now.take k) ls[j]=some acc,λi5 _=>(now.length - i5).toNat,⟨0,[],_,rfl,Pn _,x5,r5,rfl⟩,λi5 w6 hI=>?_⟩;obtain⟨k,acc,M,rfl,hk,x6,r6,J⟩:=hI;have s6:=x6.size;have hlen:=(jJ β J).1;rw [Pd]at hlen;have hml:=af.len θ;refine⟨λι=>?_,λκ=>?_⟩
   ·have H:=oL ι;refine o4.strs.get x6 (Q6 k) (gE H) (Q:=λn=>_) ?_;obtain⟨t,ok,et⟩:=af.1 _ (Oz H);have ew:=vd ok ls[j];rw [et]at ew;rw [<-et];have hsz:=ok.size;have htl:=ok.len;refine Ik ok.al (by omega) (by omega) λb7 w7 x7 hb7 ψ=>?_
    have s7:=x7.size;have kx:∀{w':World},Kr b7 w7 w'->Ex w6 w':=λk=>Ex.below x7 (Kp.below k x7.size λg J e=>by omega)
    refine LA ok ψ (λg J=>⟨J.2.1,J.2.2⟩) β (λh w8 k8=>⟨λ _=>α ?_ _ (Ex.trans δ (Ex.trans x6 (kx k8))),λh=>(by cases h)⟩) λl h v8 w8 k8 o8=>⟨λh=>(by cases h),λ _=>?_⟩
    ·exact xI e (af.none G (xX (Oz H) (ew.trans h)))
    ·have x8:=kx k8;have s8:=x8.size;have μ:qw (now.take (k+1)) ls[j]=some (acc++l):=by
      rw [OC H];exact xQ J (ew.trans h)
     have ε:=(jJ β μ).1;rw [Pd,Oy]at ε;exact Cw.app (r6.kp (Kp.ab x8 λ _=>False) λ _ _ h=>h) o8.strs (by omega) λw9 M9 k9 r9 hM9=>⟨by omega,⟨k+1,acc++l,M9,by omega,by omega,Ex.below (Ex.trans x6 x8) (Kp.below k9 (by omega) λg J e=>by have :=(r6.mr g e).1;omega),r9,μ⟩,tN H⟩
   ·have H:=oE κ hk;subst H;rw [O4]at J;refine CR r6 (by omega) (λh=>by cases h) λ _ v7 w7 k7 o7 _=>⟨by omega,⟨j+1,_,by omega,by omega,Ex.trans x4 (Ex.below x6 (Kp.below k7 (by omega) λg J e=>by have :=(r6.mr g e).1;omega)),o7.mono (by omega),af.next G θ β J⟩,tN G⟩
  ·have G:=oE φ hj;subst G;exact ν now ((AO h6 hl e).trans af.done) _ _ δ (o4.mono (by omega))
 ·have h6:6< ls.length:=by simp only [OK]at h6;omega
  exact OP fun⟨h,_⟩=>by omega
end
end Go.Proofs.YthekamjhgabkjaaGreat
