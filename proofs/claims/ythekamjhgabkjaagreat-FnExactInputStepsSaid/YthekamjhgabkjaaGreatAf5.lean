/- Part 5 of a proof of what the last text states; no condition. -/
import Derived.Test.YthekamjhgabkjaaGreatAf4
set_option maxRecDepth 100000
set_option maxHeartbeats 4000000
set_option linter.defProp false
set_option linter.unusedVariables false
set_option linter.unusedSimpArgs false
namespace Go.Proofs.YthekamjhgabkjaaGreat
open Go Go.RowKit
attribute [go_sem] Tryz.f28
def ny (G:Value)(b2:Value)(w:World)(R:Bool->Qx)(h:vc az (aZ [(4,[(5,.i)])] [] [(6,true,.lt 0 (.lt 1 (.lt 2 (.lt 3 (.lt 4 (.lt 5 (.lt 6 (.lt 7 (.one .n 8 (.lt 9 .done))))))))))]) (ab Tryz.f28) (ai 0 [.v G,.v b2]) w (fin az [.tmp 4 .b] R)):
  Qy 28 #[G,b2] w (ax [.b] R):=
 a7 Tryz.func28 (by kernel_rfl) h
attribute [go_sem] Tryz.f29
def kh (G:Value)(H:Int)(w:World)(R:Int->Qx)(h:vc az (aZ [(2,[(1,.i),(5,.i)])] [] []) (ab Tryz.f29) (ai 0 [.v G,.i H]) w (fin az [.tmp 4 .i] R)):
  Qy 29 #[G,(.int .i64 H)] w (ax [.i] R):=
 a7 Tryz.func29 (by kernel_rfl) h
attribute [go_sem] Tryz.f30
def j6 (G:Value)(H:Int)(w:World)(R:Int->Qx)(h:vc az (aZ [(2,[(1,.i),(5,.i)])] [] []) (ab Tryz.f30) (ai 0 [.v G,.i H]) w (fin az [.tmp 4 .i] R)):
  Qy 30 #[G,(.int .i64 H)] w (ax [.i] R):=
 a7 Tryz.func30 (by kernel_rfl) h
attribute [go_sem] Tryz.f9
attribute [go_sem] Tryz.f7
def gI (G:aJ)(a2:aJ)(w:World)(R:Bool->Qx)(h:vc az (aZ [] [] []) (ab Tryz.f7) (ai 0 [.s G,.s a2]) w (fin az [.tmp 4 .b] R)):
  Qy 7 #[(.string (ay G)),(.string (ay a2))] w (ax [.b] R):=
 a7 Tryz.func7 (by kernel_rfl) h
section
open T Classical
abbrev tE:Nat:=96
def JB:az.und tE=some (.struct #[⟨("label"),9,0,false, "", "loop.example/g01175/spec",0⟩,⟨("result"),9,1,false, "", "loop.example/g01175/spec",16⟩]):=rfl
def Mb (a b c d:aJ):JA az tE (.agg #[.string (ay a),.string (ay b)]) (.agg #[.string (ay c),.string (ay d)]) (decide (a=c)&&decide (b=d)):=by
 intro xo yo w;have hu:az.und 9=some .string:=rfl;have G:single (az.und 9)=true:=by rw [hu]
 have H:∀(x y:Value),(part 9 #[x,y] 0).run az.P w= .ok x w:=λx y=>eU G rfl
 have J:∀(x y:Value),(part 9 #[x,y] 1).run az.P w= .ok y w:=λx y=>eU G rfl
 have Z:Op.maxDepth=(Op.maxDepth - 2)+1+1:=rfl;constructor
 ·have g:∀(n:Nat) (x y:Value),(Op.eqGuardIn (n+1) 9 x y).run az.P w= .ok false w:=λn x y=>by
   simp [Op.eqGuardIn,Nl,aX hu,M9,Nn]
  have g2:(Op.eqGuardIn Op.maxDepth tE (.agg #[.string (ay a),.string (ay b)]) (.agg #[.string (ay c),.string (ay d)])).run az.P w= .ok false w:=by
   rw [Z,Op.eqGuardIn];simp [Nl,aX JB,M9,H,J,g,Nn]
  unfold eqGuard;cases hb:az.P.eqGuardType az.P.depth tE<;>simp [Nl,run_program,M9,hb,g2]
 ·have es:∀(a b:aJ) (n:Nat),(Op.equalIn (n+1) 9 (.string (ay a)) (.string (ay b))).run az.P w= .ok (decide (a=b)) w:=λa b n=>by
   have:(ay a==ay b)=decide (a=b):=by
    rw [N',P1,Nj];exact⟨λh=>by simpa [ay]using h,λh=>by rw [h]⟩
   simp only [Op.equalIn,Nl,aX hu,M9,Nn,this]
  have h:(Op.equal tE (.agg #[.string (ay a),.string (ay b)]) (.agg #[.string (ay c),.string (ay d)])).run az.P w= .ok (decide (a=c)&&decide (b=d)) w:=by
   show(Op.equalIn Op.maxDepth tE _ _).run az.P w=_;rw [Z,Op.equalIn];have hp:az.P.stoodInHeld tE=false:=by kernel_rfl
   cases h1:decide (a=c)<;>cases h2:decide (b=d)<;>simp [Nl,aX JB,run_program,M9,H,J,es,Nn,hp,h1,h2]
  simp only [binOp,Nl,h,M9,Nn]
def y5:∀(l:List Pq) (k:Nat),(l.take k).flatMap qn=(l.flatMap qn).take (k* 2)
 | [],k=>by simp
 | p::l,0=>by simp
 | p::l,k+1=>by
  rw [PL,Ob,Ob,y5 l k,show(k+1)* 2=k* 2+2 by omega];rfl
def zu:∀(l:List Pq) (k:Nat),(l.drop k).flatMap qn=(l.flatMap qn).drop (k* 2)
 | [],k=>by simp
 | p::l,0=>by simp
 | p::l,k+1=>by
  rw [List.drop_succ_cons,Ob,zu l k,show(k+1)* 2=k* 2+2 by omega];rfl
section
variable {B:Nat} {w w':World} {v:Value} {l:List Pq}
def bY.I1 (h:bY B w v l):(v= .slice none 0 0/\l=[])\/∃g cap,v= .slice (some ⟨g,0,none⟩) l.length cap/\l.length<=cap/\B<=g/\g< w.heap.size/\∀j u,(l.flatMap qn)[j]?=some u->w.cell? ⟨g,j,none⟩=some u:=by
 have H:=h.1;rcases h.2 with⟨J,Z⟩ | ⟨g,cap,cur,rfl,hb,G,h1,h2,h3,h4⟩
 ·exact .inl ⟨J,NF Z⟩
 ·refine .inr ⟨g,cap,rfl,h1,hb,(NL.1 G).1,λj u hu=>?_⟩;have hj:j< (l.flatMap qn).length:=(NZ.1 hu).1;unfold World.cell?;simp only [G];rw [<-h4,Og (by rw [<-H];exact hj),Oe]at hu;exact hu
def bY.parts (h:bY B w v l){k:Nat}(hk:k<=l.length):∃a cap,v= .slice a l.length cap/\l.length<=cap/\
  (∀{w':World},Ex w w'->db w' (.slice (if cap=Int.toNat 0 then a else Option.map (λx:Addr=>x.add (Int.toNat 0* 2)) a) ((k:Int).toNat - Int.toNat 0) (cap - Int.toNat 0)) k 2 ((l.take k).flatMap qn))/\
  ∀{w':World},Ex w w'->db w' (.slice (if cap=(k:Int).toNat then a else Option.map (λx:Addr=>x.add ((k:Int).toNat* 2)) a) ((l.length:Int).toNat - (k:Int).toNat) (cap - (k:Int).toNat)) (l.length - k) 2 ((l.drop k).flatMap qn):=by
 have z:Int.toNat 0=0:=rfl;rcases h.I1 with⟨rfl,rfl⟩ | ⟨g,cap,rfl,h1,hb,G,H⟩
 ·have:k=0:=by simpa using hk
  subst this;exact⟨none,0,rfl,Nc _,λ _=>⟨rfl,rfl,.inl ⟨rfl,rfl⟩⟩,λ _=>⟨rfl,rfl,.inl ⟨rfl,rfl⟩⟩⟩
 ·refine⟨some ⟨g,0,none⟩,cap,rfl,h1,λx=>⟨by rw [rk,NW];omega,xZ _,.inr ⟨g,0,cap,?_,λj u hu=>?_⟩⟩,λx=>⟨by rw [rk,OB],xZ _,.inr ⟨g,if cap=k then 0 else k* 2,cap - k,?_,λj u hu=>?_⟩⟩⟩
  ·rw [z,Nf,Qr,Qr]
   congr 1
   split
   ·rfl
   ·rw [OP,add_plain]
  ·rw [y5,Pg]at hu;split at hu
   ·rw [NJ,x.cell (a:=⟨g,j,none⟩) G];exact H j u hu
   ·cases hu
  ·rw [Nf,Nf]
   congr 1
   split
   ·rfl
   ·rw [OP,add_plain,NJ]
  ·rw [zu,Ql]at hu;have J:=(NZ.1 hu).1;rw [rk]at J;rw [x.cell (a:=⟨g,_,none⟩) G];by_cases e:cap=k
   ·omega
   ·rw [Nt e];exact H _ u hu
def bY.app (h:bY B w v l)(hB:B<=w.heap.size){x:Value}{m:List Pq}{n:Nat}(G:n=m.length)(H:db w x n 2 (m.flatMap qn))(hl:l.length+m.length<=1099511627776){K:Value->Qx}
  (J:∀v' w',bY B w' v' (l++m)->w.grownBy w' v.ownBlock->(∀b,v'.ownBlock=some b->v.ownBlock=some b\/w.heap.size<=b)->K v' w'):
  ∃(base n k:Nat) (xs news:List Value),World.ownsRow w base tE 2 v n xs/\base<=Array.size (World.heap w)/\db w x k 2 news/\(n+k<=maxLen/\(n+k)* 32<=140737488355328)/\
   ∀(v':Value) (w':World),World.ownsRow w' base tE 2 v' (n+k) (xs++news)->World.grownBy w w' (Value.ownBlock v)->(∀b:Nat,Value.ownBlock v'=some b->Value.ownBlock v=some b\/Array.size (World.heap w)<=b)->K v' w':=by
 subst G;refine⟨B,l.length,m.length,l.flatMap qn,m.flatMap qn,h,hB,H,⟨by unfold maxLen;omega,?_⟩,λv' w' Z hg hw=>J v' w' ?_ hg hw⟩
 ·omega
 ·unfold bY;rw [Nb,OH];exact Z
end
def Kl {G a2 b1 b2:Tx}:oI (G,a2) (b1,b2)↔Op.bytesLess G b1=true\/(G=b1/\Op.bytesLess a2 b2=true):=by
 unfold oI;rw [Pd,Pd,Nj,Nj]
def BR {B0:Nat}{w:World}{v:Value}{l:List Pq}(h:bY B0 w v l)(hl:l.length<=1000000000){R:Value->Qx}(hR:∀v' w',Ex w w'->bY w.heap.size w' v' (gJ l)->R v' w'):
  Qy 120 #[v] w (ax [.v] R):=by
 refine pN v w R ?_;dsimp only [go_sem];dsimp only [go_sem,Nat.reduceAdd];obtain⟨a,cap,hv⟩:=h.slice;refine⟨a,_,cap,hv,λt i w'=>∃k:Nat,i=k/\k<=l.length/\Ex w w'/\bY w.heap.size w' t (gJ (l.take k)),λ _ i _=>(l.length - i).toNat,⟨0,rfl,N5 _,Ex.refl _,bY.nil _ _⟩,λt i w1 hI=>?_⟩;obtain⟨k,rfl,hk,x1,o1⟩:=hI;refine⟨λhlt=>?_,λhge=>?_⟩;rotate_left
 ·have e:=oE hge hk;subst e;rw [NR]at o1;exact hR t w1 x1 o1
 have ψ:=oL hlt;have s1:=x1.size;obtain⟨g,ν,hv',hg,c1,c2⟩:=(h.ex x1).get ψ;have Z:gJ (l.take (k+1))=insP (gJ (l.take k)) l[k]:=by rw [Ng ψ,vW]
 have hlen:=tP (l.take k);rw [NW]at hlen;have hst:=AH (l.take k);rcases hp:l[k]with⟨G,H⟩;rw [hp]at c1 c2 Z;generalize gJ (l.take k)=out at o1 Z hlen hst;refine⟨g,0,_,ν,hv',by omega,by omega,G,H,⟨by rw [Nf,NJ];exact c1,by rw [Nf,NJ];exact c2,trivial⟩,λb w2 hb hw2=>?_⟩;obtain⟨bx1,bx2⟩:=Bu (cs:=[.string (ay G),.string (ay H)]) rfl rfl hb hw2;refine⟨⟨rfl,rfl,bx1⟩,λw3 hw3=>?_⟩;obtain⟨x3,hb3,c3⟩:=bx2 w3 hw3;have x03:=Ex.trans x1 x3;have s3:=x3.size;have o3:=o1.ex x3;have q1:∀{w':World},Ex w3 w'->w'.cell? ⟨b,0,none⟩=some (.string (ay G)):=λx=>by rw [x.cell (a:=⟨b,0,none⟩) hb3,c3 0 (by omega)];rfl
 have q2:∀{w':World},Ex w3 w'->w'.cell? ⟨b,1,none⟩=some (.string (ay H)):=λx=>by rw [x.cell (a:=⟨b,1,none⟩) hb3,c3 1 (by omega)];rfl
 have η:∀{w':World},Ex w3 w'->∀{j:Nat} (hj:j< out.length),∃g cap,t= .slice (some ⟨g,0,none⟩) out.length cap/\w'.cell? ⟨g,0+(j:Int).toNat* 2,none⟩=some (.string (ay out[j].1))/\w'.cell? ⟨g,0+(j:Int).toNat* 2+1,none⟩=some (.string (ay out[j].2)):=λx j hj=>by
  obtain⟨g,cap,h1,h2,h3,h4⟩:=(o3.ex x).get hj;exact⟨g,cap,h1,by rw [Nf,NJ];exact h3,by rw [Nf,NJ];exact h4⟩
 obtain⟨at_,capt,hvt⟩:=o3.slice;refine⟨λk' w'=>∃j:Nat,k'=j/\j<=out.length/\Ex w3 w'/\(∀i (h:i< out.length),i< j->oI out[i] (G,H))/\∀h:j< out.length,¬oI out[j] (G,H),⟨λk' w'=>∃j:Nat,k'=j/\j<=out.length/\Ex w3 w'/\∀i (h:i< out.length),i< j->oI out[i] (G,H),λk' _=>(out.length - k').toNat,⟨0,rfl,N5 _,Ex.refl _,λi _ h=>by omega⟩,λk' w4 hI=>?_⟩,λk' w4 hJ=>?_⟩
 ·obtain⟨j,rfl,hj,x4,β⟩:=hI;refine⟨λw'=>Ex w3 w'/\j< out.length/\∀i (h:i< out.length),i< j+1->oI out[i] (G,H),⟨λw'=>Ex w4 w',λJ ζ=>⟨ζ▸Ex.drew w4,at_,_,capt,hvt,λξ=>?_,λο=>?_⟩⟩,λJ hJ1=>⟨by omega,⟨j+1,by omega,by omega,hJ1.1,hJ1.2.2⟩,tN hJ1.2.1⟩⟩;rotate_left
  ·have e:=oE ο hj;exact⟨j,rfl,hj,Ex.trans x4 (ζ▸Ex.drew w4),β,λh=>by omega⟩
  have γ:=oL ξ;have x5:=Ex.trans x4 (ζ▸Ex.drew w4:Ex w4 J);have get:∃g cap,t= .slice (some ⟨g,0,none⟩) out.length cap/\∀{w':World},Ex w4 w'->w'.cell? ⟨g,0+(j:Int).toNat* 2,none⟩=some (.string (ay out[j].1))/\w'.cell? ⟨g,0+(j:Int).toNat* 2+1,none⟩=some (.string (ay out[j].2)):=by
   obtain⟨g,cap,h1,_⟩:=η (Ex.refl _) γ;refine⟨g,cap,h1,λ{w'} x=>?_⟩;obtain⟨g',ν,e1,e2,e3⟩:=η (Ex.trans x4 x) γ;have e:=h1.symm.trans e1;simp only [PH,Ow,Qu]at e;rw [e.1.1];exact⟨e2,e3⟩
  obtain⟨gt,δ,θ,ι⟩:=get;have yes:oI out[j] (G,H)->Ex w3 J/\j< out.length/\∀i (h:i< out.length),i< j+1->oI out[i] (G,H):=λh=>⟨x5,γ,λi hi hij=>by
   by_cases e:i=j
   ·subst e;exact h
   ·exact β i hi (by omega)⟩
  have no:¬oI out[j] (G,H)->∃j':Nat,(j:Int)=j'/\j'<=out.length/\Ex w3 J/\(∀i (h:i< out.length),i< j'->oI out[i] (G,H))/\∀h:j'< out.length,¬oI out[j'] (G,H):=λh=>⟨j,rfl,hj,x5,β,λ _=>h⟩
  have ω:=@Kl out[j].1 out[j].2 G H;refine⟨gt,0,_,δ,θ,by omega,by omega,out[j].1,λw' x=>(ι x).1,G,λw' x=>q1 (Ex.trans x4 x),λhl1=>⟨gt,0,_,δ,θ,by omega,by omega,out[j].1,λw' x=>(ι x).1,G,λw' x=>q1 (Ex.trans x4 x),λhe=>⟨gt,0,_,δ,θ,by omega,by omega,out[j].2,λw' x=>(ι x).2,H,λw' x=>q2 (Ex.trans x4 x),λhl2=>yes (ω.2 (.inr ⟨by simpa using he,hl2⟩)),λhl2=>no λhh=>?_⟩,λhe=>no λhh=>?_⟩,λhl1=>yes (ω.2 (.inl hl1))⟩
  ·rcases ω.1 hh with e | ⟨_,e⟩
   ·rw [hl1]at e;cases e
   ·rw [hl2]at e;cases e
  ·rcases ω.1 hh with e | ⟨e,_⟩
   ·rw [hl1]at e;cases e
   ·rw [e]at he;simp at he
 obtain⟨j,rfl,hj,x4,β,hnl4⟩:=hJ;have ins:=GB out (G,H) j hj (λi hi hij=>β i hi hij) hnl4;have x04:=Ex.trans x03 x4;refine⟨λw'=>Ex w4 w'/\out[j]?≠some (G,H),⟨λw'=>Ex w4 w',λJ ζ=>⟨ζ▸Ex.drew w4,at_,_,capt,hvt,λξ=>?_,λο=>?_⟩⟩,λJ hJ2=>?_⟩
 ·have γ:=oL ξ;have ς:Ex w4 J:=ζ▸Ex.drew w4;obtain⟨gt,δ,θ,_⟩:=η x4 γ;have ι:∀{w':World},Ex w4 w'->w'.cell? ⟨gt,0+(j:Int).toNat* 2,none⟩=some (.string (ay out[j].1))/\w'.cell? ⟨gt,0+(j:Int).toNat* 2+1,none⟩=some (.string (ay out[j].2)):=λx=>by
   obtain⟨g',ν,e1,e2,e3⟩:=η (Ex.trans x4 x) γ;have e:=θ.symm.trans e1;simp only [PH,Ow,Qu]at e;rw [e.1.1];exact⟨e2,e3⟩
  refine⟨gt,0,_,δ,θ,by omega,by omega,out[j].1,out[j].2,λw' x=>⟨(ι x).1,(ι x).2,trivial⟩,G,H,λw' x=>⟨q1 (Ex.trans x4 x),q2 (Ex.trans x4 x),trivial⟩,_,Mb out[j].1 out[j].2 G H,λhq=>⟨by omega,⟨k+1,by omega,by omega,Ex.trans x04 ς,?_⟩,tN ψ⟩,λhq=>⟨ς,λe=>?_⟩⟩
  ·rw [M8,Nj,Nj]at hq;rw [Z,ins,NO (by rw [M6 γ,<-hq.1,<-hq.2])];exact o3.ex (Ex.trans x4 ς)
  ·rw [M6 γ]at e;rw [NY e]at hq;simp at hq
 ·have e:=oE ο hj;exact⟨ζ▸Ex.drew w4,by rw [O1 (by omega)];simp⟩
 obtain⟨ς,hne⟩:=hJ2;rw [Nt hne]at ins;have κ:=Ex.trans x4 ς;have x05:=Ex.trans x03 κ;have s5:=x05.size;obtain⟨ap,capp,hvp,hcp,υ,src2⟩:=(o3.ex κ).parts hj;have tl:(out.take j).length=j:=by rw [NW];omega
 have dl:(out.drop j).length=out.length - j:=OB ..;have o5:=o3.ex κ;have x15:=Ex.trans x3 κ;refine⟨λnx w'=>Ex J w'/\bY J.heap.size w' nx (out.take j++[(G,H)]),⟨λw'=>Ex J w',λw6 hw6=>?_⟩,λnx w6 hJ3=>?_⟩;rotate_left
 ·obtain⟨x6,o6⟩:=hJ3;refine⟨ap,_,capp,hvp,by omega,by omega,by omega,o6.app x6.size dl.symm (src2 x6) (by rw [Nb,tl,dl,Ox];omega) λv7 w7 o7 g7 n7=>⟨by omega,⟨k+1,by omega,by omega,?_,?_⟩,tN ψ⟩⟩
  ·exact Ex.trans x05 (Ex.below x6 (Kp.below (Kp.aG (S:=λg=>nx.ownBlock=some g) g7 λ _ h=>h) x6.size λg hg e=>by have :=(o6.block g e).1;omega))
  ·rw [Z,ins,show out.take j++(G,H)::out.drop j=out.take j++[(G,H)]++out.drop j by simp];exact o7.mono s5
 have x6:Ex J w6:=hw6▸Ex.drew J;have mt:∀{wa wb:World} {b':Nat},Ex J wa->b'=wa.heap.size->wb=wa.alloc (.cells #[] tE)->Ex J wb/\bY J.heap.size wb (.slice (some ⟨b',0,none⟩) 0 0) []:=λ{wa wb b'} x hb' μ=>by
  refine⟨Ex.trans x (μ▸Ex.alloc _ _),?_⟩;subst hb' μ;refine⟨by simp,.inr ⟨wa.heap.size,0,#[],by simp,x.size,?_,by simp,by unfold maxLen;omega,by simp,by simp⟩⟩;unfold World.alloc;simp
 have el:∀{wa wb:World} {b':Nat},Ex J wa->b'=wa.heap.size->wb=wa.alloc (.cells #[.string (ay G),.string (ay H)] tE)->Ex J wb/\Ex wa wb/\b'< wb.heap.size/\∀{wc:World},wc.heap[b']?=wb.heap[b']?->db wc (.slice (some ⟨b',0,none⟩) 1 1) 1 2 ([(G,H)].flatMap qn):=λ{wa wb b'} x hb' μ=>by
  have xa:Ex wa wb:=μ▸Ex.alloc _ _;refine⟨Ex.trans x xa,xa,by rw [μ,size_alloc];omega,λ{wc} e=>⟨rfl,rfl,.inr ⟨b',0,1,rfl,λj u hu=>?_⟩⟩⟩;rw [NJ,M5 (w:=wb) e,μ,hb'];exact aa (by simpa [qn]using hu)
 have gx:∀{va v':Value} {wa wb:World} {L:List Pq},bY J.heap.size wa va L->Ex J wa->wa.grownBy wb va.ownBlock->Ex J wb:=λ{va v' wa wb L} o x g=>Ex.below x (Kp.below (Kp.aG (S:=λg=>va.ownBlock=some g) g λ _ h=>h) x.size λg hg e=>by have :=(o.block g e).1;omega)
 refine⟨x6,ap,_,capp,hvp,by omega,by omega,by omega,G,H,λw' x=>⟨q1 (Ex.trans κ x),q2 (Ex.trans κ x),trivial⟩,λb7 w7 hb7 hw7=>?_,λb7 w7 hb7 hw7=>?_⟩
 ·obtain⟨x7,o7⟩:=mt x6 hb7 hw7;refine⟨x7,?_,λb8 w8 hb8 hw8=>?_⟩
  ·refine o7.app x7.size tl.symm (υ x7) (by rw [tl];simp;omega) λv8 w8 o8 g8 n8=>?_
   have x8:=gx (v':=v8) o7 x7 g8;refine⟨x8,λb9 w9 hb9 hw9=>?_⟩;obtain⟨x9,xx9,_,e9⟩:=el x8 hb9 hw9;refine⟨x9,(o8.ex xx9).app x9.size rfl (e9 rfl) (by rw [N2,tl];simp;omega) λv10 w10 φ g10 n10=>?_⟩;have ε:=gx (v':=v10) (o8.ex xx9) x9 g10;exact⟨ε,ε,by simpa using φ⟩
  ·obtain⟨x8,χ,l8,e8⟩:=el x7 hb8 hw8;refine⟨x8,(o7.ex χ).app x8.size tl.symm (υ x8) (by rw [tl];simp;omega) λv9 w9 o9 g9 n9=>?_⟩;have x9:=gx (v':=v9) (o7.ex χ) x8 g9;have e89:w9.heap[b8]?=w8.heap[b8]?:=(Kp.aG (S:=λg=>(Value.slice (some ⟨b7,0,none⟩) 0 0).ownBlock=some g) g9 λ _ h=>h).block b8 l8 λe=>by
    have e:b7=b8:=NY e;have:w7.heap.size=w6.heap.size+1:=by rw [hw7,size_alloc]
    omega
   refine⟨x9,o9.app x9.size rfl (e8 e89) (by rw [N2,tl];simp;omega) λv10 w10 φ g10 n10=>?_⟩;have ε:=gx (v':=v10) o9 x9 g10;exact⟨ε,ε,by simpa using φ⟩
 ·obtain⟨x7,xx7,l7,e7⟩:=el x6 hb7 hw7;refine⟨x7,λb8 w8 hb8 hw8=>?_⟩;obtain⟨x8,o8⟩:=mt x7 hb8 hw8;have χ:Ex w7 w8:=hw8▸Ex.alloc _ _;refine⟨x8,o8.app x8.size tl.symm (υ x8) (by rw [tl];simp;omega) λv9 w9 o9 g9 n9=>?_⟩;have x9:=gx (v':=v9) o8 x8 g9;have e79:w9.heap[b7]?=w7.heap[b7]?:=((Kp.aG (S:=λg=>(Value.slice (some ⟨b8,0,none⟩) 0 0).ownBlock=some g) g9 λ _ h=>h).block b7 (by have :=χ.size;omega) λe=>by
   have e:b8=b7:=NY e;omega).trans (χ.block b7 l7)
  refine⟨x9,o9.app x9.size rfl (e7 e79) (by rw [N2,tl];simp;omega) λv10 w10 φ g10 n10=>?_⟩;have ε:=gx (v':=v10) o9 x9 g10;exact⟨ε,ε,by simpa using φ⟩
end
attribute [go_sem] Tryz.f45
attribute [go_sem] Tryz.f123
def sL (G:Int)(w:World)(R:aJ->Qx)(h:vc az (aZ [] [] []) (ab Tryz.f123) (ai 0 [.i G]) w (fin az [.tmp 2 .s] R)):
  Qy 123 #[(.int .i64 G)] w (ax [.s] R):=
 a7 Tryz.func123 (by kernel_rfl) h
attribute [go_sem] Tryz.f81
attribute [go_sem] Tryz.f146
attribute [go_sem] Tryz.f122
def nU (s1:Value)(G:aJ)(H:aJ)(J:Bool)(w:World)(R:Qx)(h:vc az (aZ [] [] []) (ab Tryz.f122) (ai 0 [.v s1,.s G,.s H,.b J]) w (fin az [] R)):
  Qy 122 #[s1,(.string (ay G)),(.string (ay H)),(.bool J)] w (ax [] R):=
 a7 Tryz.func122 (by kernel_rfl) h
attribute [go_sem] Tryz.f149
attribute [go_sem] Tryz.f191
def jg (n1:Int)(c2:Value)(c3:Value)(c4:Value)(w:World)(R:aJ->Bool->Qx)(h:vc az (aZ [] [] [(1,true,.lt 0 (.lt 1 (.lt 2 (.lt 3 (.lt 4 (.lt 5 (.lt 6 (.lt 7 (.lt 8 (.lt 9 (.lt 10 (.lt 11 (.one .g 12 (.one .g 13 (.one .g 14 (.lt 15 (.lt 16 (.lt 17 (.lt 18 .done)))))))))))))))))))]) (ab Tryz.f191) (ai 0 [.i n1,.v c2,.v c3,.v c4]) w (fin az [.tmp 5 .s,.tmp 6 .b] R)):
  Qy 191 #[(.int .i64 n1),c2,c3,c4] w (ax [.s,.b] R):=
 a7 Tryz.func191 (by kernel_rfl) h
def jU (s1:Value)(w:World)(R:Value->Qx)(h:oneV s1=true/\jF w (.cells #[s1] 45) λb2 w3=>jF w3 (.cells #[] 149) λb4 w5=>fW w5 b2 0 λv6=>cJ v6 λb7 o8=>fW w5 b7 (o8+2) λv9=>cJ v9 λb10 ψ=>fW w5 b10 (ψ+1) λv12=>uC v12 λω=>Bg ((.slice (some ⟨b4,0,none⟩) 0 0)) 0 w5 λI16 m17 κ β η=>dP (decide (β< (ω:Int))) (vQ v12 β λb21 o22=>fW η b21 (o22+β.toNat* 1) λv25=>GI 113 #[v25] η λv26 w27=>uC v26 λl29=>Bg κ 0 w27 λθ m32 H G J=>dP (decide (G< (l29:Int))) (vQ v26 G λε ζ=>∃ν:UInt8,∃n41:Int,∃n42:Int,∃ξ:Value,∃ο:Bool,(World.cell? J ⟨ε,(ζ+G.toNat* 5),none⟩=some (.int .u8 ν.toNat)/\World.cell? J ⟨ε,((ζ+G.toNat* 5)+1),none⟩=some (.int .i64 n41)/\World.cell? J ⟨ε,(((ζ+G.toNat* 5)+1)+1),none⟩=some (.int .i64 n42)/\World.cell? J ⟨ε,((((ζ+G.toNat* 5)+1)+1)+1),none⟩=some ξ/\World.cell? J ⟨ε,(((((ζ+G.toNat* 5)+1)+1)+1)+1),none⟩=some (.bool ο)/\True)/\jF J (.cells #[(.int .u8 0),(.int .i64 0),(.int .i64 0),(.pointer none),(.bool false)] 134) λZ w46=>Ms w46 Z 0 5 [(.int .u8 ν.toNat),(.int .i64 n41),(.int .i64 n42),ξ,(.bool ο)] λγ=>CH γ Z 0 λc48=>Iv (!decide (c48=63)) (fW γ b2 0 λv49=>La γ Z 1 λn50=>Hv 147 #[v49,(.int .i64 n50)] γ λq51 μ=>dP q51 (cW (G+1)/\θ H (G+1) μ/\m32 H (G+1) μ< m32 H G J) (jF μ (.cells #[(.int .i64 β)] 3) λς w54=>jF w54 (.cells #[(.slice none 0 0)] 126) λδ w56=>oneV (.slice (some ⟨ς,0,none⟩) 1 1)=true/\pb w56 δ 0 (.slice (some ⟨ς,0,none⟩) 1 1) λι=>MH ι Z 4 λq59=>dP q59 (oneV (.slice none 0 0)=true/\pb ι δ 0 (.slice none 0 0) λυ=>La υ Z 1 λn62=>oneV (Value.func (Fn.func 191) #[] #[(.pointer (some ⟨b2,0,none⟩)),(.pointer (some ⟨δ,0,none⟩)),(.pointer (some ⟨Z,0,none⟩))])=true/\jF υ (.cells #[(.int .i64 n62),(Value.func (Fn.func 191) #[] #[(.pointer (some ⟨b2,0,none⟩)),(.pointer (some ⟨δ,0,none⟩)),(.pointer (some ⟨Z,0,none⟩))])] 149) λb63 w64=>um 149 2 16 w64 H (.slice (some ⟨b63,0,none⟩) 1 1) λv70 φ=>cW (G+1)/\θ v70 (G+1) φ/\m32 v70 (G+1) φ< m32 H G J) (La ι Z 1 λn72=>oneV (Value.func (Fn.func 191) #[] #[(.pointer (some ⟨b2,0,none⟩)),(.pointer (some ⟨δ,0,none⟩)),(.pointer (some ⟨Z,0,none⟩))])=true/\jF ι (.cells #[(.int .i64 n72),(Value.func (Fn.func 191) #[] #[(.pointer (some ⟨b2,0,none⟩)),(.pointer (some ⟨δ,0,none⟩)),(.pointer (some ⟨Z,0,none⟩))])] 149) λb73 w74=>um 149 2 16 w74 H (.slice (some ⟨b73,0,none⟩) 1 1) λv80 χ=>cW (G+1)/\θ v80 (G+1) χ/\m32 v80 (G+1) χ< m32 H G J))) (cW (G+1)/\θ H (G+1) γ/\m32 H (G+1) γ< m32 H G J)) (cW (β+1)/\I16 H (β+1) J/\m17 H (β+1) J< m17 κ β η)) (R κ η)):
  Qy 121 #[s1] w (ax [.v] R):=
 Lf (aZ [(3,[(3,.v),(18,.i)]),(6,[(3,.v),(26,.i)])] [] []) [.tmp 2 .v] [.v s1] Tryz.func121 (by kernel_rfl) h
attribute [go_sem] Tryz.f67
def jM (s1:Value)(G:Value)(H:UInt8)(w:World)(R:Qx)(h:vc az (aZ [(1,[(13,.i)])] [] []) (ab Tryz.f67) (ai 0 [.v s1,.v G,.c H]) w (fin az [] R)):
  Qy 67 #[s1,G,(.int .u8 H.toNat)] w (ax [] R):=
 a7 Tryz.func67 (by kernel_rfl) h
attribute [go_sem] Tryz.f199
attribute [go_sem] Tryz.f46
attribute [go_sem] Tryz.f14
attribute [go_sem] Tryz.f54
attribute [go_sem] Tryz.f23
attribute [go_sem] Tryz.f3
attribute [go_sem] Tryz.f5
section
open T Classical
def Eo {s:Tx}{w:World}{R:Value->Bool->Qx}(J:fB s=none->∀w',Ex w w'->R (.pointer none) false w')
  (δ:∀t:P,qu t->fB s=some t.text->∀b w',Ex w w'->w.heap.size<=b->LC w' (λg=>w.heap.size<=g/\g≠b/\g< w'.heap.size) b (num t e0 0).2 t.text (td (num t e0 0).1)->R (ptr b) true w'):
  Qy 44 #[.string (ay s)] w (ax [.v,.b] R):=by
 refine qE s w R ?_;dsimp only [go_sem];refine GC λv q w4 x4 h1 h2=>⟨λZ=>?_,λZ=>?_⟩
 ·have Z:q=true:=by simpa using Z
  obtain⟨G,t,ht,e,β⟩:=h1 Z;have η:t.size<=60:=((mN ht).1 (e▸G)).2;refine FD β.bound (λg G=>G.2) λw6 x6=>⟨λhs=>?_,λhs=>?_⟩
  ·refine J (gL ?_) w6 (Ex.trans x4 x6)
   rintro⟨t',h4,h5,_,h6⟩
   have :=fp h4.wf ht.wf (h5.trans e);subst this;rw [h6]at hs;cases hs
  ·have hs:t.smp=true:=by simpa using hs
   have γ:=aI.kp (Kp.ah x6 λ _=>False) (λ _ _ h=>h) β.bound;have he:=wg ht (e▸G) hs;rw [<-e]at he;refine yF γ (λg G=>by have :=G.2;have :=x6.size;omega) ht (by omega) λw9 x9=>?_
   have H:=Ex.trans x4 (Ex.trans x6 x9);cases hn:je (num t e0 0).1 with
   | none=>exact⟨(λs h=>by cases h),λ _=>⟨λ _=>J (he.trans hn) w9 H,(λh=>by cases h)⟩⟩
   | some n=>
    refine⟨λs' h=>?_,(λh=>by cases h)⟩;cases h;refine⟨(λh=>by cases h),λ _=>?_⟩;obtain⟨t',ok,rfl⟩:=E6 (kP ht) ((yf (kv ht)).symm.trans hs) hn;have ζ:=ok.size;have ε:=ok.len;refine Ko ok.al (by omega) (by omega) λb w' x hb st=>δ t' ok (he.trans hn) b w' (Ex.trans H x) (by have :=H.size;omega) ?_
    obtain⟨v,h1,h2⟩:=st.l;exact⟨st.mc,st.tx,v,h1,h2.sub λg _ G=>⟨by have :=H.size;have :=G.1;omega,G.2⟩⟩
 ·have Z:q=false:=by simpa using Z
  exact J (gL fun⟨t,_,_,G,_⟩=>h2 Z G) w4 x4
def Hq {x:Nat}(G:x< 26){w:World}{R:aJ->Qx}(h:R [ρ0 x] w):Qy 123 #[iv x] w (ax [.s] R):=by
 refine sL (x:Int) w R ?_;dsimp only [go_sem];refine⟨by omega,⟨by omega,by omega⟩,⟨by omega,by omega⟩,?_⟩;have e:(97+(x:Int)).toNat=97+x:=by omega
 rw [e];exact h
def yL.or {x y:UInt32}{f g:Tk}(h:yL x f)(k:yL y g):yL (x ||| y) λc=>f c||g c:=λc G=>by
 rw [zi,decide_eq_decide.2 (CO _ _),Bool.decide_and,h c G,k c G];simp
def yL.cg {x:UInt32}{f g:Tk}(h:yL x f)(e:∀c,lt c=true->f c=g c):yL x g:=λc G=>by rw [h c G,e c G]
def Lt.parts {t:P}(h:Lt t):∀p∈t.parts,Lt p:=by
 cases t<;>simp_all [T.parts,T.Al]
abbrev tL:Nat:=22
def nL (w:World)(g:Nat)(p:Tx×Tx):Prop:=g< w.heap.size/\w.cell? ⟨g,0,none⟩=some (.string (ay p.1))/\w.cell? ⟨g,1,none⟩=some (.string (ay p.2))/\Own 0 w (.slice (some ⟨g,0,none⟩) 2 2) [p.1,p.2]
def Dc {w w':World}{b:Nat}{s t:Tx}(hb:b=w.heap.size)(hw:w'=w.alloc (.cells #[.string (ay s),.string (ay t)] 9)):Own 0 w' (.slice (some ⟨b,0,none⟩) 2 2) [s,t]:=by
 subst hb hw;refine⟨by simp,.inr ⟨w.heap.size,2,#[.string (ay s),.string (ay t)],by simp,N5 _,?_,by simp,by unfold maxLen;omega,by simp,by simp [sv]⟩⟩;unfold World.alloc;simp
def nL.kp {w w':World}{g:Nat}{p:Tx×Tx}{S:Nat->Prop}(h:nL w g p)(k:Kp w w' S)(G:¬S g):nL w' g p:=by
 obtain⟨h1,H,J,h4⟩:=h;have e:=k.block g h1 G;exact⟨Nz h1 k.size,by rw [M5 (w:=w) e];exact H,by rw [M5 (w:=w) e];exact J,h4.kp k λg' Z=>by cases Z;exact G⟩
structure C6 (qb:Bool)(B:Nat)(w:World)(s:Nat)(L:List (Tx×Tx))(W:List Tx)(M:Nat->Prop):Prop where
 lt:s< w.heap.size
 mb:M s
 mr:∀g,M g->B<=g/\g< w.heap.size
 f:∀j,w.frozen? ⟨s,j,none⟩=false
 c2:w.cell? ⟨s,2,none⟩=some (.bool qb)
 ex:∃vl vw rs,w.cell? ⟨s,0,none⟩=some vl/\w.cell? ⟨s,1,none⟩=some vw/\rs.length=L.length/\aE tL B w vl rs/\Own B w vw W/\(∀g,vl.ownBlock=some g->M g/\g≠s/\vw.ownBlock≠some g)/\(∀g,vw.ownBlock=some g->M g/\g≠s)/\
  (∀i (h:i< L.length),∃g,rs[i]?=some (.slice (some ⟨g,0,none⟩) 2 2)/\M g/\g≠s/\vl.ownBlock≠some g/\vw.ownBlock≠some g/\nL w g L[i])/\rs.Nodup
section
variable {qb:Bool} {B:Nat} {w w':World} {s:Nat} {L:List (Tx×Tx)} {W:List Tx} {M:Nat->Prop}
def C6.kp {S:Nat->Prop}(h:C6 qb B w s L W M)(k:Kp w w' S)(H:∀g,M g->¬S g):C6 qb B w' s L W M:=by
 have e:=k.block s h.lt (H s h.mb);obtain⟨vl,vw,rs,h1,h2,h3,h4,h5,J,Z,h8,h9⟩:=h.ex;refine⟨Nz h.lt k.size,h.mb,λg G=>⟨(h.mr g G).1,Nz (h.mr g G).2 k.size⟩,λj=>by rw [NH (w:=w) e];exact h.f j,by rw [M5 (w:=w) e];exact h.c2,vl,vw,rs,by rw [M5 (w:=w) e];exact h1,by rw [M5 (w:=w) e];exact h2,h3,h4.kp k λg G=>H g (J g G).1,h5.kp k λg G=>H g (Z g G).1,J,Z,λi hi=>?_,h9⟩;obtain⟨g,k1,k2,k3,k4,k5,k6⟩:=h8 i hi;exact⟨g,k1,k2,k3,k4,k5,k6.kp k (H g k2)⟩
def C6.As (h:C6 qb B w s L W M)(q:Bool)(hw:w'=w.setCell ⟨s,2,none⟩ (.bool q)):C6 q B w' s L W M:=by
 have k:Kr s w w':=hw▸Kr.set w 2 _;obtain⟨vl,vw,rs,h1,h2,h3,h4,h5,H,J,h8,h9⟩:=h.ex;refine⟨Nz h.lt k.size,h.mb,λg G=>⟨(h.mr g G).1,Nz (h.mr g G).2 k.size⟩,λj=>by rw [hw,Nv];exact h.f j,by rw [hw];exact Ns _ _ _ h.c2,vl,vw,rs,by rw [hw,Na _ _ _ _ (by simp)];exact h1,by rw [hw,Na _ _ _ _ (by simp)];exact h2,h3,h4.kp k λg G=>(H g G).2.1,h5.kp k λg G=>(J g G).2,H,J,λi hi=>?_,h9⟩;obtain⟨g,k1,k2,Z,k4,k5,k6⟩:=h8 i hi;exact⟨g,k1,k2,Z,k4,k5,k6.kp k Z⟩
def C6.Kc (h:C6 qb B w s L W M)(x:Ex w w'):C6 qb B w' s L W M:=h.kp (Kp.ah x λ _=>False) λ _ _ h=>h
def KA (h:C6 qb B w s L W M)(hl:L.length<=1000000000)(hw:W.length<=1000000000){Z text:Tx}{ok:Bool}{R:Qx}
  (hR:∀w' M',Kp w w' M->C6 qb B w' s (L++[(Z,text)]) (W++if ok then []else [Z]) M'->(∀g,M' g->M g\/w.heap.size<=g)->R w'):Qy 122 #[ptr s,.string (ay Z),.string (ay text),.bool ok] w (ax [] R):=by
 refine nU (ptr s) Z text ok w R ?_;dsimp only [go_sem];dsimp only [go_sem,Nat.reduceAdd];obtain⟨vl,vw,rs,h1,h2,h3,h4,h5,h6,h7,h8,h9⟩:=h.ex;have χ:=h.lt;have hB:=(h.mr s h.mb).1;refine⟨s,0,rfl,vl,h1,λb1 w1 ι β=>⟨rfl,λb2 w2 ψ κ=>?_⟩⟩;have x1:Ex w w1:=β▸Ex.alloc w _;have x2:Ex w1 w2:=κ▸Ex.alloc w1 _;have s1:w1.heap.size=w.heap.size+1:=by rw [β,size_alloc]
 have s2:w2.heap.size=w1.heap.size+1:=by rw [κ,size_alloc]
 have ν:=Ex.trans x1 x2;have r1:nL w1 b1 (Z,text):=⟨by omega,by rw [β,ι];exact aa rfl,by rw [β,ι];exact aa rfl,Dc ι β⟩
 have r2:=r1.kp (Kp.ah x2 λ _=>False) id;refine⟨B,rs.length,1,rs,[.slice (some ⟨b1,0,none⟩) 2 2],h4.kp (Kp.ah ν λ _=>False) (λ _ _ h=>h),by omega,⟨rfl,rfl,.inr ⟨b2,0,1,rfl,λj u hu=>?_⟩⟩,⟨by unfold maxLen;omega,by omega⟩,λv3 w3 o3 g3 n3=>?_⟩
 ·match j,hu with
  | 0,hu=>
   cases hu;rw [κ,ψ];exact aa rfl
 have o3:aE tL B w3 v3 (rs++[.slice (some ⟨b1,0,none⟩) 2 2]):=by unfold aE;rw [Nb];exact o3
 have k3:Kp w2 w3 λg=>vl.ownBlock=some g:=Kp.aG g3 λ _ h=>h
 have s3:=k3.size;have vb:=h4.block;have K3:Kp w w3 λg=>vl.ownBlock=some g:=Kp.trans (Kp.ah ν _) k3 λ _ _ h=>h
 have e3:=K3.block s χ λe=>(h6 s e).2.1 rfl
 have c3:∀j,w3.cell? ⟨s,j,none⟩=w.cell? ⟨s,j,none⟩:=λj=>M5 (w:=w) e3
 have f3:∀j,w3.frozen? ⟨s,j,none⟩=false:=λj=>by rw [NH (w:=w) e3];exact h.f j
 refine⟨s,0,rfl,o3.uw,⟨⟨_,(c3 0).trans h1⟩,f3 0⟩,λJ γ=>?_⟩;have k4:Kr s w3 J:=γ▸Kr.set w3 0 v3;have s4:=k4.size;have K4:Kp w J λg=>vl.ownBlock=some g\/g=s:=Kp.trans (Kp.mono (λ _ h=> .inl h) K3) k4 λ _ _ h=> .inr h
 have η:∀g,v3.ownBlock=some g->vl.ownBlock=some g\/w2.heap.size<=g/\g< w3.heap.size:=λg G=>(n3 g G).imp id λe=>⟨e,(o3.block g G).2⟩
 have δ:C6 qb B J s (L++[(Z,text)]) W λg=>M g\/(w.heap.size<=g/\g< J.heap.size):=by
  refine⟨by omega,.inl h.mb,λg G=>?_,λj=>by rw [γ,Nv];exact f3 j,?_,v3,vw,_,by rw [γ];exact Ns _ _ _ ((c3 0).trans h1),?_,by simp [h3],o3.kp k4 λg G e=>?_,h5.kp K4 λg G e=>?_,λg G=>?_,λg G=>⟨.inl (h7 g G).1,(h7 g G).2⟩,λi hi=>?_,?_⟩
  ·rcases G with G | G
   ·have :=h.mr g G;omega
   ·omega
  ·rw [γ,Na _ _ _ _ (by simp),c3];exact h.c2
  ·rw [γ,Na _ _ _ _ (by simp),c3];exact h2
  ·rcases η g G with H | H
   ·exact(h6 g H).2.1 e
   ·omega
  ·exact e.elim (λe=>(h6 g e).2.2 G) (h7 g G).2
  ·rcases η g G with H | H
   ·exact⟨.inl (h6 g H).1,(h6 g H).2⟩
   ·exact⟨.inr (by omega),by omega,λe=>by have :=(h5.block g e).2;omega⟩
  ·rw [Nb,Ox]at hi;by_cases ξ:i< L.length
   ·obtain⟨g,k1,k2,ο,ς,k5,k6⟩:=h8 i ξ;have υ:=k6.1;refine⟨g,by rw [List.getElem?_append_left (by omega)];exact k1,.inl k2,ο,λe=>?_,k5,?_⟩
    ·rcases η g e with H | H
     ·exact ς H
     ·omega
    ·rw [List.getElem_append_left ξ];exact k6.kp K4 λe=>e.elim ς ο
   ·have e:i=L.length:=by omega
    subst e;refine⟨b1,by rw [<-h3,List.getElem?_append_right (Nc _)];simp,.inr (by omega),by omega,λe=>?_,λe=>by have :=(h5.block _ e).2;omega,?_⟩
    ·rcases η b1 e with H | H
     ·have :=(vb b1 H).2;omega
     ·omega
    ·rw [List.getElem_append_right (Nc _)];simp only [Nat.sub_self,List.getElem_cons_zero];have ω:=r2.kp k3 λe=>by have :=(vb b1 e).2;omega
     exact ω.kp k4 λe=>by omega
  ·refine NU.2 ⟨h9,by simp,λa ha b hb e=>?_⟩;obtain⟨i,hi,rfl⟩:=List.getElem_of_mem ha;obtain⟨g,k1,_,_,_,_,k6⟩:=h8 i (by omega);have υ:=k6.1;rw [M6 hi]at k1;have e1:=(NY k1).symm.trans (e.trans (ND.1 hb));simp only [PH,Ow,Qu]at e1;omega
 have φ:Kp w J M:=Kp.mono (λg e=>e.elim (λe=>(h6 g e).1) λe=>e▸h.mb) K4;cases ok with
 | true=>
  refine⟨λh=>(by cases h),λ _=>hR J (λg=>M g\/(w.heap.size<=g/\g< J.heap.size)) φ (by simpa using δ) λg G=>G.imp id And.left⟩
 | false=>
  refine⟨λ _=>?_,λh=>(by cases h)⟩;obtain⟨vl2,ε,rs2,q1,q2,q3,q4,q5,q6,q7,q8,q9⟩:=δ.ex;refine⟨s,0,rfl,ε,q2,λb5 w5 hb5 μ=>?_⟩;have x5:Ex J w5:=μ▸Ex.alloc J _;have s5:w5.heap.size=J.heap.size+1:=by rw [μ,size_alloc]
  refine Own.push (q5.ex x5) (by omega) (Strs.one hb5 μ) (by simp only [Ox];omega) λv6 w6 _ o6 g6 n6=>?_
  have k6:Kp w5 w6 λg=>ε.ownBlock=some g:=Kp.aG g6 λ _ h=>h
  have s6:=k6.size;have K6:Kp J w6 λg=>ε.ownBlock=some g:=Kp.trans (Kp.ah x5 _) k6 λ _ _ h=>h
  have e6:=K6.block s δ.lt λe=>(q7 s e).2 rfl
  have c6:∀j,w6.cell? ⟨s,j,none⟩=J.cell? ⟨s,j,none⟩:=λj=>M5 (w:=J) e6
  have f6:∀j,w6.frozen? ⟨s,j,none⟩=false:=λj=>by rw [NH (w:=J) e6];exact δ.f j
  refine⟨s,0,rfl,o6.uw,⟨⟨_,(c6 1).trans q2⟩,f6 1⟩,λw7 ζ=>?_⟩;have k7:Kr s w6 w7:=ζ▸Kr.set w6 1 v6;have s7:=k7.size;have K7:Kp J w7 λg=>ε.ownBlock=some g\/g=s:=Kp.trans (Kp.mono (λ _ h=> .inl h) K6) k7 λ _ _ h=> .inr h
  have θ:∀g,v6.ownBlock=some g->ε.ownBlock=some g\/w5.heap.size<=g/\g< w6.heap.size:=λg G=>(n6 g G).imp id λe=>⟨e,(o6.block g G).2⟩
  refine hR w7 (λg=>M g\/(w.heap.size<=g/\g< w7.heap.size)) (Kp.trans φ K7 λg G e=>?_) ⟨by omega,.inl h.mb,λg G=>?_,λj=>by rw [ζ,Nv];exact f6 j,?_,vl2,v6,rs2,?_,by rw [ζ];exact Ns _ _ _ ((c6 1).trans q2),q3,q4.kp K7 λg G e=>?_,?_,λg G=>?_,λg G=>?_,λi hi=>?_,q9⟩ λg G=>G.imp id And.left
  ·exact e.elim (λe=>((q7 g e).1).elim id λe=>by omega) λe=>e▸h.mb
  ·rcases G with G | G
   ·have :=h.mr g G;omega
   ·omega
  ·rw [ζ,Na _ _ _ _ (by simp),c6];exact δ.c2
  ·rw [ζ,Na _ _ _ _ (by simp),c6];exact q1
  ·exact e.elim (λe=>(q6 g G).2.2 e) λe=>(q6 g G).2.1 e
  ·refine o6.kp k7 λg G e=>?_
   rcases θ g G with H | H
   ·exact(q7 g H).2 e
   ·omega
  ·refine⟨(q6 g G).1.imp id λe=>by omega,(q6 g G).2.1,λe=>?_⟩;rcases θ g e with H | H
   ·exact(q6 g G).2.2 H
   ·have :=(q4.block g G).2;omega
  ·rcases θ g G with H | H
   ·exact⟨(q7 g H).1.imp id λe=>by omega,(q7 g H).2⟩
   ·exact⟨.inr (by omega),by omega⟩
  ·obtain⟨g,p1,p2,p3,p4,p5,p6⟩:=q8 i hi;have υ:=p6.1;refine⟨g,p1,p2.imp id λe=>by omega,p3,p4,λe=>?_,p6.kp K7 λe=>e.elim p5 p3⟩;rcases θ g e with H | H
   ·exact p5 H
   ·omega
end
end
section
open T
section
attribute [local go_sem] Oper.semAt_some
end
end
section
open T Classical
def eL (E:List Ev):List (Tx×Tx):=E.map λe=>(e.1,e.2.getD [])
def eW (E:List Ev):List Tx:=(E.filter λe=>e.2.isNone).map λe=>e.1
structure tZ (qb:Bool)(b s n0 c:Nat)(w0 w':World)(E:List Ev)(M:Nat->Prop):Prop where
 km:Km b w0 w'
 rs:C6 qb w0.heap.size w' s (eL E) (eW E) M
 mc:∃n,Mk w' b n/\n0<=n/\n<=n0+c
 hb:b< w0.heap.size
section
variable {qb:Bool} {b s n0 c:Nat} {w0 w w':World} {E:List Ev} {M:Nat->Prop}
def tZ.nb (h:tZ qb b s n0 c w0 w E M):¬M b:=λG=>by have :=(h.rs.mr b G).1;have :=h.hb;omega
def tZ.mono {G:Nat}(h:tZ qb b s n0 c w0 w E M)(J:c<=G):tZ qb b s n0 G w0 w E M:=by
 obtain⟨n,h1,H,Z⟩:=h.mc;exact⟨h.km,h.rs,⟨n,h1,H,by omega⟩,h.hb⟩
def tZ.ex (h:tZ qb b s n0 c w0 w E M)(x:Ex w w'):tZ qb b s n0 c w0 w' E M:=by
 obtain⟨n,h1,G⟩:=h.mc;exact⟨h.km.out (Kp.ah x λ _=>False) (λ _ _ h=>h) h.hb,h.rs.Kc x,⟨n,h1.ex x,G⟩,h.hb⟩
def tZ.As (h:tZ qb b s n0 c w0 w E M)(q:Bool)(hw:w'=w.setCell ⟨s,2,none⟩ (.bool q)):tZ q b s n0 c w0 w' E M:=by
 have k:Kr s w w':=hw▸Kr.set w 2 _;have G:s≠b:=λe=>h.nb (e▸h.rs.mb)
 obtain⟨n,m1,m2,m3⟩:=h.mc;exact⟨h.km.out k (λg H e=>by have :=(h.rs.mr s h.rs.mb).1;omega) h.hb,h.rs.As q hw,⟨n,m1.kp k λe=>G e.symm,m2,m3⟩,h.hb⟩
def Kg (E F:List Ev):eL (E++F)=eL E++eL F:=N0 ..
def JZ (E F:List Ev):eW (E++F)=eW E++eW F:=by unfold eW;rw [OF,N0]
def tZ.add (h:tZ qb b s n0 c w0 w E M)(hl:E.length<=1000000)(e:Ev){R:Qx}(hR:∀H G,tZ qb b s n0 c w0 H (E++[e]) G->Kp w H M->(∀g,G g->M g\/w.heap.size<=g)->R H):
  Qy 122 #[ptr s,.string (ay e.1),.string (ay (e.2.getD [])),.bool e.2.isSome] w (ax [] R):=by
 have h1:(eL E).length=E.length:=by unfold eL;simp
 have h2:(eW E).length<=E.length:=by unfold eW;rw [Nq];exact Pe _ _
 refine KA h.rs (by omega) (by omega) λw' G k r J=>?_
 obtain⟨n,m1,m2,m3⟩:=h.mc;refine hR w' G ⟨h.km.out k (λg hg Z=>by have :=(h.rs.mr g Z).1;omega) h.hb,?_,⟨n,m1.kp k h.nb,m2,m3⟩,h.hb⟩ k J;have e1:eL (E++[e])=eL E++[(e.1,e.2.getD [])]:=by rw [Kg];rfl
 have e2:eW (E++[e])=eW E++if e.2.isSome then []else [e.1]:=by
  rw [JZ]
  congr 1
  unfold eW;cases h:e.2<;>simp [h]
 rw [e1,e2];exact r
end
section
variable {qb:Bool} {t:P} {u:U} {b s n0 c:Nat} {w w1:World} {E:List Ev} {M D:Nat->Prop}
end
end
section
open T
def Jb {D:Nat->Prop}{w:World}{b G x:Nat}{vo:Value}{O:List Nat}(H:w.cell? ⟨b,2,none⟩=some (ptr G))(J:w.cell? ⟨G,0,none⟩=some vo)(Z:dG D w vo (O.map iv))(hl:O.length<=1099511627776){R:Bool->Qx}(hR:R (decide (x∈O)) w):
  Qy 147 #[ptr b,iv x] w (ax [.b] R):=by
 refine mu (ptr b) x w R ?_;dsimp only [go_sem];exact⟨b,0,rfl,ptr G,H,G,0,rfl,vo,J,CS Z hl hR⟩
section
variable {t:P} {u:U}
def Dl {X:Type}{P:Nat->Bool}:∀(l:List X) (k:Nat),(∀n,k<=n->P n=false)->jJ P l k=l
 | [],k,_=>gX ..
 | y::l,k,h=>by
  rw [bT,h k (Nc _),Dl l (k+1) λn G=>h n (by omega)];rfl
end
variable {qb:Bool}
section
variable {t:P} {u:U}
end
section
variable {t:P} {u:U} {b s n0 c:Nat} {w w1:World} {E:List Ev} {M D:Nat->Prop}
end
variable {qb:Bool}
variable {qb:Bool}
section
variable {t:P} {u:U} {b s n0 c:Nat} {w w1:World} {E:List Ev} {M D:Nat->Prop}
def JX (hu:u=(num t e0 0).1)(hn0:n0=(num t e0 0).2)(su:SU t u)(ok:qu t)(hsz:u.size<=60)(h:tZ qb b s n0 c w w1 E M){bl:Nat}(hcl:w1.cell? ⟨b,2,none⟩=some (ptr bl))(hl:aH D w1 (td u) (ptr bl))(hD:∀g,D g->g≠b/\g< w.heap.size){i e x:Nat}{q:U}{sq:Bool}(hi:i< u.ths.length)(hr:Off.rcv e x q sq∈offs u.ths[i])
  {b2 b3 b4:Nat} {vq gone:Value} (c2:w1.cell? ⟨b2,0,none⟩=some (ptr b)) (l2:b2< w1.heap.size) (n2:b2≠b) (c3:w1.cell? ⟨b3,0,none⟩=some gone) (l3:b3< w1.heap.size) (n3:b3≠b) (c4:∀j,j< 5->w1.cell? ⟨b4,j,none⟩=(fI 63 e x vq sq)[j]?) (l4:b4< w1.heap.size) (n4:b4≠b) (hvq:aH D w1 (td q) vq)
  (θ:dG (λg=>g< w1.heap.size/\g≠b) w1 gone ((if sq then []else [i]).map iv)) {nm:Nat} (ι:nm< 26) (hc:n0+c<=4294900000) {R:aJ->Bool->Qx}
  (hR:∀tx qq Z,tZ qb b s n0 (c+1000) w Z E M->Kp w1 Z (λg=>g=b)->tx=(je (BK u i q x sq nm)).getD []->qq=(je (BK u i q x sq nm)).isSome->R tx qq Z):
  Qy 191 #[iv nm,.pointer (some ⟨b2,0,none⟩),.pointer (some ⟨b3,0,none⟩),.pointer (some ⟨b4,0,none⟩)] w1 (ax [.s,.b] R):=by
 refine jg (nm:Int) _ _ _ w1 R ?_;dsimp only [go_sem];have hb:=h.hb;have s0:=h.km.size;obtain⟨bl',vo,vt,ts,e1,k2,k3,k4,k5,k6,k7,k8,k9⟩:=GZ su hl;cases e1;obtain⟨rU,_⟩:=gB (su.smp _ (NC hi)) _ hr;have cU:=C8 _ hr;have κ:=su.BP hi rU cU;have μ:Uq q:=κ.rcv;have υ:q.Nr:=rU.nr (su.nrs _ (NC hi));have hqs:q.size<=60:=by have h1:=rU.size;have h2:=kz u _ (NC hi);simp only [Off.tm,T.size]at h1;omega
 have htq:=sW q;have ζ:=Fl _ (Nc _) μ υ;have hbvl:=gn q;have hql:(td q).1.length+(td q).2.bvs.length=(BV q).length:=by rw [<-ζ,Nb]
 have φ:∀z∈BV q,26<=z:=λz hz=>su.ge z (NG _ (Oo.2 ⟨_,NC hi,cU.subset (Nh _ hz)⟩))
 have χ:b< w1.heap.size:=by omega
 have st:∀{w':World},Kp w1 w' (λg=>g=b)->∀{g:Nat},g< w1.heap.size->g≠b->∀j,w'.cell? ⟨g,j,none⟩=w1.cell? ⟨g,j,none⟩:=λk g h1 h2 j=>M5 (w:=w1) (k.block g h1 h2)
 refine⟨λw'=>Kp w1 w' (λg=>g=b)/\w'.cell? ⟨b,2,none⟩=some (ptr bl),λw6 hw6=>?_⟩;have x6:Ex w1 w6:=hw6▸Ex.drew w1;have S6:Kp w1 w6 (λg=>g=b)/\w6.cell? ⟨b,2,none⟩=some (ptr bl):=⟨Kp.ah x6 _,by rw [x6.cell (a:=⟨b,2,none⟩) χ];exact hcl⟩
 refine⟨S6,b2,0,rfl,ptr b,λw' k=>by rw [st k.1 l2 n2];exact c2,b3,0,rfl,gone,λw' k=>by rw [st k.1 l3 n3];exact c3,b2,0,rfl,ptr b,λw' k=>by rw [st k.1 l2 n2];exact c2,b,0,rfl,ptr bl,λw' k=>k.2,bl,0,rfl,vo,λw' k=>by rw [st k.1 k3 (hD _ k2).1];exact k4,b2,0,rfl,ptr b,λw' k=>by rw [st k.1 l2 n2];exact c2,b4,0,rfl,63,e,x,vq,sq,λw' k=>?_,?_⟩
 ·have hc:∀j,j< 5->w'.cell? ⟨b4,j,none⟩=(fI 63 e x vq sq)[j]?:=λj hj=>by rw [st k.1 l4 n4];exact c4 j hj
  exact⟨hc 0 (by omega),hc 1 (by omega),hc 2 (by omega),hc 3 (by omega),hc 4 (by omega),trivial⟩
 have h6:=h.ex x6;obtain⟨n,mn,hn1,hn2⟩:=h6.mc;refine KZ mn (aH.ex hvq x6) (λg J=>(hD g J).1) (Ct q) (Ca μ φ) (by omega) (by omega) λv32 ν F' n' γ ψ H ω=>?_
 have ξ:Kp w1 ν (λg=>g=b):=Kp.trans (Kp.ah x6 _) γ.kp λ _ _ h=>h
 have c33:ν.cell? ⟨b,2,none⟩=some (ptr bl):=by rw [γ.ce 2 (by omega)];exact S6.2
 refine⟨⟨ξ,c33⟩,ω.one,λb34 G hb34 η=>?_⟩;have ε:Ex ν G:=η▸Ex.alloc _ _;have s33:=ξ.size;have β:Kp w1 G (λg=>g=b):=Kp.trans ξ (Kp.ah ε λ _=>False) λ _ _ h=>h.elim
 have ο:G.cell? ⟨b,2,none⟩=some (ptr bl):=by rw [ε.cell (a:=⟨b,2,none⟩) (show b< _ by omega)];exact c33
 refine⟨⟨β,ο⟩,?_⟩;have rl:=H.len;have rle:=H.le;rw [Nb]at rl;have hF:DS (n+100) q x nm F':=by
  rw [ζ]at H;refine⟨?_,λz h1 h2=>?_,λz hz=>(H.rng z hz).1,λz hz y hy e=>H.inj z hz y hy e⟩
  ·rw [H.out x κ.jb];simp [aF]
  ·rw [H.out z h2];simp [aF,h1]
 have hNn:∀z,(z∈u.frL\/z∈u.ths.flatMap BV\/∃q∈u.ths,q.Fr z)->z<=n+100:=λz hz=>by
  subst hu;have :=qu.bound ok su z hz;omega
 have h26:=Gi u;obtain⟨ς,_⟩:=Hj su hi hr hF ι (by omega) hNn;have J:=pZ (NN u) nm κ.jb;obtain⟨nu2,_⟩:=Hj su hi hr J ι (by omega) su.bound;have δ:je (resL u.frL (parL (jH u.ths i (q.map F') sq u.ths[i])))=je (BK u i q x sq nm):=by
  unfold BK;rw [cz hi];exact BU ς nu2 (Dn su hi hr hF J (by omega) (by omega) hNn su.bound (.inl rfl) ι σ0 σ0 (λ _ _=>rfl) rfl)
 have hlS:aH (λg=>g< G.heap.size) G (td u) (ptr bl):=aH.sub (aH.kp hl β λg J=>(hD g J).1) λg J _=>J
 have hvoS:dG (λg=>g< G.heap.size) G vo (u.frL.map iv):=(k6.kp β λg J=>(hD g J).1).sub λg J _=>J
 have hv32:aH (λg=>g< G.heap.size) G (Lv.eD F' (td q)) v32:=aH.sub (aH.ex ω ε) λg J _=>J
 have hgS:dG (λg=>g< G.heap.size) G gone ((if sq then []else [i]).map iv):=(θ.kp β λg J=>J.2).sub λg J _=>J
 have hlen:(joinL ([(Lv.eD F' (td q),q.map F')].map (·.1):List (List Nat×Lv))).1.length+(joinL ([(Lv.eD F' (td q),q.map F')].map (·.1):List (List Nat×Lv))).2.tot<=1000000:=by
  simp only [NI,PG,joinL,Nb,Nq,Np,Lv.bM,jn,Lv.tot];omega
 have fin:∀tx qq Z,Ex G Z->tx=(je (BK u i q x sq nm)).getD []->qq=(je (BK u i q x sq nm)).isSome->(Kp w1 Z (λg=>g=b)/\Z.cell? ⟨b,2,none⟩=some (ptr bl))/\R tx qq Z:=λtx qq Z x3 e1 e2=>by
  have k3':Kp w1 Z (λg=>g=b):=Kp.trans β (Kp.ah x3 λ _=>False) λ _ _ h=>h.elim
  have s35:=β.size;have xx:=Ex.trans ε x3;refine⟨⟨k3',by rw [x3.cell (a:=⟨b,2,none⟩) (show b< _ by omega)];exact ο⟩,hR tx qq Z ?_ k3' e1 e2⟩;have km:=Km.trans h6.km γ;exact⟨km.out (Kp.ah xx λ _=>False) (λ _ _ h=>h) hb,(h6.rs.kp γ.kp λg hM e=>h.nb (e▸hM)).Kc xx,⟨n',ψ.ex xx,by omega,by omega⟩,hb⟩
 have aft:∀{P:Nat->Bool} {gl:List Nat},dG (λg=>g< G.heap.size) G gone (gl.map iv)->gl.length<=2->(∀j,P j=decide (j∈gl))->Nu (resL u.frL (parL (jJ P u.ths 0++[q.map F'])))->je (resL u.frL (parL (jJ P u.ths 0++[q.map F'])))=je (BK u i q x sq nm)->
   Qy 114 #[ptr b,gone,vo,(Value.slice (some ⟨b34,0,none⟩) 1 1)] G (ax [.s,.b] fun(tx:aJ) (qq:Bool) (Z:World)=>(Kp w1 Z (λg=>g=b)/\Z.cell? ⟨b,2,none⟩=some (ptr bl))/\R tx qq Z):=by
  intro P gl J hgl hP hv hn;refine FF su (by omega) (vv:=BK u i q x sq nm) (zs:=[(Lv.eD F' (td q),q.map F')]) (gl:=gl) (P:=P) (mvs:=[v32]) ο (by have :=β.size;omega) hlS J (by omega) hvoS (MY hb34 η) (aO.cons hv32 aO.Mo) (by simp) (λz hz=>by cases ND.1 hz;exact Pc.map F' μ υ) hlen hP hv hn λZ x3=>⟨λtx ht=>fin tx true Z x3 (by rw [ht];rfl) (by rw [ht];rfl),λhn=>fin [] false Z x3 (by rw [hn];rfl) (by rw [hn];rfl)⟩
 cases sq
 ·have e1:jJ (λn=>n==i||n==i) u.ths 0++[q.map F']=jH u.ths i (q.map F') false u.ths[i]:=by
   unfold jH;rw [H4];simp
  exact aft (P:=λn=>n==i||n==i) (gl:=[i]) hgS (by simp) (λj=>by simp [xy]) (by rw [e1];exact ς) (by rw [e1];exact δ)
 ·have e1:jJ (λ _=>false) u.ths 0++[q.map F']=u.ths++[q.map F']:=by rw [Dl u.ths 0 λ _ _=>rfl]
  have hp:(u.ths++[q.map F']).Perm (jH u.ths i (q.map F') true u.ths[i]):=by
   have h1:=AT u.ths i hi;unfold jH;rw [NO rfl];refine(h1.append_right [q.map F']).trans ?_;rw [N6];exact(List.perm_append_singleton _ _).symm
  exact aft (P:=λ _=>false) (gl:=[]) hgS (by simp) (λj=>by simp) (by rw [e1];exact IN hp.symm ς) (by rw [e1];exact(E' hp).trans δ)
end
abbrev tQ:Nat:=149
def Gk (p:Nat×Value):List Value:=[iv p.1,p.2]
def eK (B:Nat)(w:World)(v:Value)(l:List (Nat×Value)):Prop:=w.ownsRow B tQ 2 v l.length (l.flatMap Gk)
section
variable {B:Nat} {w w':World} {v:Value} {l:List (Nat×Value)}
def Dp:∀{l:List (Nat×Value)} {i:Nat} {p:Nat×Value},l[i]?=some p->(l.flatMap Gk)[i* 2]?=some (iv p.1)/\(l.flatMap Gk)[i* 2+1]?=some p.2
 | q::l,0,p,h=>by cases h;exact⟨rfl,rfl⟩
 | q::l,i+1,p,h=>by
  have :=Dp (l:=l) (i:=i) (p:=p) (by simpa using h);have e:(i+1)* 2=i* 2+2:=by omega
  rw [e];exact this
def eK.block (h:eK B w v l):∀b,v.ownBlock=some b->B<=b/\b< w.heap.size:=Pt h
def eK.kp {S:Nat->Prop}(h:eK B w v l)(k:Kp w w' S)(H:∀g,v.ownBlock=some g->¬S g):eK B w' v l:=by
 refine⟨h.1,?_⟩;rcases h.2 with J | ⟨g,cap,cur,rfl,hb,G,rest⟩
 ·exact .inl J
 ·exact .inr ⟨g,cap,cur,rfl,hb,by rw [k.block g (NL.1 G).1 (H g rfl)];exact G,rest⟩
def eK.ex (h:eK B w v l)(x:Ex w w'):eK B w' v l:=h.kp (Kp.ah x λ _=>False) λ _ _ h=>h
def eK.zero {b:Nat}(hB:B<=w.heap.size)(hb:b=w.heap.size)(h:w'=w.alloc (.cells #[] tQ)):eK B w' (.slice (some ⟨b,0,none⟩) 0 0) []:=by
 subst hb h;refine⟨rfl,.inr ⟨_,0,#[],rfl,hB,?_,by simp,by unfold maxLen;omega,rfl,rfl⟩⟩;unfold World.alloc;simp
def eK.slice (h:eK B w v l):∃a cap,v= .slice a l.length cap:=by
 rcases h.2 with⟨rfl,G⟩ | ⟨g,cap,cur,rfl,_⟩
 ·exact⟨none,0,by rw [G]⟩
 ·exact⟨_,cap,rfl⟩
def eK.get (h:eK B w v l){i:Nat}(hi:i< l.length):∃g cap,v= .slice (some ⟨g,0,none⟩) l.length cap/\g< w.heap.size/\w.cell? ⟨g,i* 2,none⟩=some (iv l[i].1)/\w.cell? ⟨g,i* 2+1,none⟩=some l[i].2:=by
 have J:=h.1;rcases h.2 with⟨hv,hn⟩ | ⟨g,cap,cur,rfl,hb,H,h1,h2,h3,h4⟩
 ·omega
 ·obtain⟨Z,k2⟩:=Dp (M6 hi);have key:∀{j:Nat} {x:Value},(l.flatMap Gk)[j]?=some x->w.cell? ⟨g,j,none⟩=some x:=λ{j x} G=>by
   have hj:j< (l.flatMap Gk).length:=(NZ.1 G).1;unfold World.cell?;simp only [H];rw [<-h4,Og (by rw [<-J];exact hj),Oe]at G;exact G
  exact⟨g,cap,rfl,(NL.1 H).1,key Z,key k2⟩
def eK.push {p:Nat×Value}{b:Nat}(h:eK B w v l)(h1:oneV p.2=true)(hB:B<=w.heap.size)(hb:b=w.heap.size)(hw:w'=w.alloc (.cells #[iv p.1,p.2] tQ))(hl:l.length<=1000000000){K:Value->Qx}
  (H:∀v' G,eK B G v' (l++[p])->w'.grownBy G v.ownBlock->(∀b,v'.ownBlock=some b->v.ownBlock=some b\/w'.heap.size<=b)->K v' G):um tQ 2 16 w' v (.slice (some ⟨b,0,none⟩) 1 1) K:=by
 have x:Ex w w':=hw▸Ex.alloc w _;refine⟨B,l.length,1,l.flatMap Gk,Gk p,h.ex x,N8 hB x.size,⟨rfl,by simp [Gk,h1,oneV],.inr ⟨b,0,1,rfl,λj u hu=>?_⟩⟩,⟨by unfold maxLen;omega,by omega⟩,λv' G J Z hn=>H v' G ?_ Z hn⟩
 ·subst hb hw;rw [NJ];exact aa (by simpa [Gk]using hu)
 ·unfold eK;rw [Nb,OH,show [p].flatMap Gk=Gk p by simp];exact J
end
def tc (D G:Nat->Prop)(b2:Nat)(w:World)(p:Nat×Value)(r:Nat×Off Nat):Prop:=∃e x q H b3 b4 vq gone,r.2= .rcv e x q H/\p=(e,.func (.func 191) #[] #[.pointer (some ⟨b2,0,none⟩),.pointer (some ⟨b3,0,none⟩),.pointer (some ⟨b4,0,none⟩)])/\G b3/\b3< w.heap.size/\G b4/\b4< w.heap.size/\
 w.cell? ⟨b3,0,none⟩=some gone/\(∀j,j< 5->w.cell? ⟨b4,j,none⟩=(fI 63 e x vq H)[j]?)/\aH D w (td q) vq/\dG (λg=>G g) w gone ((if H then []else [r.1]).map iv)
def tc.kp {D G G' S:Nat->Prop}{b2:Nat}{w w':World}{p:Nat×Value}{r:Nat×Off Nat}(h:tc D G b2 w p r)(k:Kp w w' S)(hD:∀g,D g->¬S g)(H:∀g,G g->¬S g)(J:∀g,G g->G' g):tc D G' b2 w' p r:=by
 obtain⟨e,x,q,sq,b3,b4,vq,gone,h1,h2,Z,h4,h5,h6,h7,h8,h9,h10⟩:=h;have s:=k.size;refine⟨e,x,q,sq,b3,b4,vq,gone,h1,h2,J _ Z,by omega,J _ h5,by omega,by rw [M5 (w:=w) (k.block b3 h4 (H _ Z))];exact h7,λj hj=>by rw [M5 (w:=w) (k.block b4 h6 (H _ h5))];exact h8 j hj,aH.kp h9 k hD,(h10.kp k H).sub λg _ h=>J g h⟩
def oQ (u:U)(i:Nat):Off Nat->List (Nat×Off Nat)
 | .rcv a x q s=>if a∈u.frL then []else [(i,.rcv a x q s)]
 | _=>[]
def nG (u:U)(i:Nat):List (Nat×Off Nat):=(offs (u.ths.getD i .nil)).flatMap (oQ u i)
def iw (u:U):List (Nat×Off Nat):=(List.range u.ths.length).flatMap (nG u)
def sg (u:U)(i:Nat)(x:Off Nat):(oQ u i x).length<=1:=by
 cases x with
 | rcv a x q s=>exact C1 (N5 _) (Nc _)
 | _=>exact N5 _
def FK {t:P}{u:U}(su:SU t u)(hsz:u.size<=60){b bl:Nat}{w:World}{D:Nat->Prop}(hcl0:w.cell? ⟨b,2,none⟩=some (ptr bl))(hbw:b< w.heap.size)(hl0:aH D w (td u) (ptr bl))(hDw:∀g,D g->g< w.heap.size){R:Value->Qx}
  (hR:∀v w' b2 l (G:Nat->Prop),Ex w w'->w.heap.size<=b2->b2< w'.heap.size->w'.cell? ⟨b2,0,none⟩=some (ptr b)->eK w.heap.size w' v l->(∀g,G g->w.heap.size<=g/\g< w'.heap.size)->gd (tc D G b2 w') l (iw u)->R v w'):Qy 121 #[ptr b] w (ax [.v] R):=by
 obtain⟨bl',vo,vt,ts,e1,k2,k3,k4,k5,k6,k7,k8,k9⟩:=GZ su hl0;cases e1;obtain⟨at_,capt,hvt⟩:=k7.slice;have hthl:=xB u;have hfl:u.frL.length<=240:=by
  have h1:=sW u;rw [gU su.nu.uq su.nr]at h1;simp only at h1;omega
 have hol:∀i (h:i< u.ths.length),(offs u.ths[i]).length<=60:=λi h=>by
  have h1:=kQ u.ths[i];have h2:=kz u _ (NC h);omega
 have hlE:∀i,i<=u.ths.length->((List.range i).flatMap (nG u)).length<=3600:=λi hi=>by
  have h1:=qj (f:=nG u) (c:=60) (l:=List.range i) λx hx=>by
   have hx:=OQ.1 hx;have h2:=kO (sg u x) (offs (u.ths.getD x .nil));rw [cz (by omega)]at h2;have :=hol x (by omega);unfold nG;rw [cz (by omega)];omega
  rw [PD]at h1;have :=P8 (show i<=60 by omega) (Nc 60);omega
 refine jU (ptr b) w R ⟨rfl,λb2 w3 hb2 hw3 b4 w5 hb4 hw5=>?_⟩;have x3:Ex w w3:=hw3▸Ex.alloc w _;have x5':Ex w3 w5:=hw5▸Ex.alloc w3 _;have x5:=Ex.trans x3 x5';have s3:w3.heap.size=w.heap.size+1:=by rw [hw3,size_alloc]
 have s5:w5.heap.size=w3.heap.size+1:=by rw [hw5,size_alloc]
 have lb2:b2< w5.heap.size:=by omega
 have n24:b2≠b4:=by omega
 have kw:∀{w':World} {o:Value},Gr w5 (.slice (some ⟨b4,0,none⟩) 0 0) w' o->Kp w5 w' (λg=>g=b4):=λg=>Kp.mono (λx e=>(NY e).symm) g.1
 have xw:∀{w':World} {o:Value},Gr w5 (.slice (some ⟨b4,0,none⟩) 0 0) w' o->Ex w w':=λg=>Ex.below x5 (Kp.below (kw g) x5.size λx hx e=>by omega)
 have cS:∀{w':World} {o:Value},Gr w5 (.slice (some ⟨b4,0,none⟩) 0 0) w' o->w'.cell? ⟨b2,0,none⟩=some (ptr b):=λ{w' o} g=>by
  rw [M5 (w:=w5) ((kw g).block b2 lb2 n24),x5'.cell (a:=⟨b2,0,none⟩) (show b2< _ by omega),hw3,hb2];exact aa rfl
 have cb2:∀{w':World},Ex w w'->w'.cell? ⟨b,2,none⟩=some (ptr bl):=λx=>by rw [x.cell (a:=⟨b,2,none⟩) hbw];exact hcl0
 have cbl:∀{w':World},Ex w w'->∀{j:Nat} {y:Value},w.cell? ⟨bl,j,none⟩=some y->w'.cell? ⟨bl,j,none⟩=some y:=λx j y hy=>by rw [x.cell (a:=⟨bl,j,none⟩) k3];exact hy
 have g0:=Gr.refl w5 (.slice (some ⟨b4,0,none⟩) 0 0);have oz:eK w.heap.size w5 (.slice (some ⟨b4,0,none⟩) 0 0) []:=by
  have h:=eK.zero (B:=w3.heap.size) (Nc _) hb4 hw5;exact Pw h x3.size
 refine⟨ptr b,cS g0,b,0,rfl,ptr bl,cb2 x5,bl,0,rfl,vt,cbl x5 k5,at_,_,capt,hvt,λo x w'=>∃(i:Nat) (l:List (Nat×Value)) (G:Nat->Prop),x=i/\i<=u.ths.length/\Gr w5 (.slice (some ⟨b4,0,none⟩) 0 0) w' o/\eK w.heap.size w' o l/\(∀g,G g->w5.heap.size<=g/\g< w'.heap.size/\o.ownBlock≠some g)/\gd (tc D G b2 w') l ((List.range i).flatMap (nG u)),λ _ x _=>(ts.length - x).toNat,⟨0,[],λ _=>False,rfl,N5 _,g0,oz,λ _ h=>h.elim,.nil⟩,λo18 x w20 hI=>?_⟩;obtain⟨i,l,G,rfl,hi,g20,o20,hG20,t20⟩:=hI;have ο:=xw g20;have s20':=g20.size;refine⟨λhlt=>?_,λhge=>?_⟩;rotate_left
 ·have hil:i=u.ths.length:=by simp only [No]at hge;omega
  rw [hil]at t20;exact hR _ _ b2 l G ο (by omega) (by omega) (cS g20) o20 (λg hg=>by have :=hG20 g hg;omega) t20
 have hi':i< ts.length:=by simp only [Nj]at hlt;omega
 have hiu:i< u.ths.length:=by omega
 have hmiu:=NC hiu;have hthi:=su.th _ hmiu;obtain⟨bt,ot,β,hvt',hct⟩:∃bt ot β,vt= .slice (some ⟨bt,ot,none⟩) ts.length β/\w20.cell? ⟨bt,ot+i,none⟩=some ts[i]:=by
  rcases k7 with⟨_,h0⟩ | ⟨bt,ot,β,e,hbD,hb',J⟩
  ·rw [h0]at hi';simp at hi'
  ·exact⟨bt,ot,β,e,by rw [ο.cell (a:=⟨bt,ot+i,none⟩) hb'];exact J i _ (M6 hi')⟩
 have ek:(List.range (i+1)).flatMap (nG u)=(List.range i).flatMap (nG u)++nG u i:=by rw [Qj,OH];simp
 have eE0:nG u i=(offs u.ths[i]).flatMap (oQ u i):=by unfold nG;rw [cz hiu]
 have hacc1:=hlE i (by omega);have s20:=ο.size;refine⟨bt,ot,_,β,hvt',by omega,by omega,ts[i],by rw [Nf,NQ];exact hct,?_⟩;refine G7 hthi.1 hthi.2.1 hthi.2.2 (su.smp _ hmiu) (by have :=kz u _ hmiu;omega) (λg hg=>by have :=hDw g hg;omega) (af.ex (k9 i hiu hi') ο) λv26 w27 xs x27 o26 m26=>?_
 obtain⟨a29,cap29,hv26⟩:∃a cap,v26= .slice a (offs u.ths[i]).length cap:=by
  rcases o26.cell with⟨h1,h2,_⟩ | ⟨g,cap,h1,_⟩
  ·exact⟨none,0,by rw [h1,h2]⟩
  ·exact⟨_,cap,h1⟩
 have hm1:=@tN ts.length i (by omega);have hol1:=hol i hiu;have s27:=x27.size;have o20b:=o20.block;generalize hA:(List.range i).flatMap (nG u)=A at*;refine⟨a29,_,cap29,hv26,λo x w'=>∃(j:Nat) (l:List (Nat×Value)) (G:Nat->Prop),x=j/\j<=(offs u.ths[i]).length/\Gr w27 o18 w' o/\eK w.heap.size w' o l/\(∀g,G g->w5.heap.size<=g/\g< w'.heap.size/\o.ownBlock≠some g)/\gd (tc D G b2 w') l (A++((offs u.ths[i]).take j).flatMap (oQ u i)),λ _ x _=>((offs u.ths[i]).length - x).toNat,⟨0,l,G,rfl,N5 _,Gr.refl _ _,o20.ex x27,λg hg=>by have :=hG20 g hg;exact⟨this.1,by omega,this.2.2⟩,by simpa using t20.mono λp r h=>h.kp (Kp.ah x27 λ _=>False) (λ _ _ h=>h) (λ _ _ h=>h) λ _ h=>h⟩,λζ x ψ hI=>?_⟩;obtain⟨j,l2,G2,rfl,hj,g35,o35,ς,t35⟩:=hI;have g35':=(g20.ex x27).trans g35;have x035:=xw g35';have s35:=g35.size;refine⟨λhlt2=>?_,λhge2=>?_⟩;rotate_left
 ·have hjl:j=(offs u.ths[i]).length:=by simp only [No]at hge2;omega
  rw [hjl,NR,<-eE0,<-ek]at t35;exact⟨by omega,⟨i+1,l2,G2,by omega,by omega,g35',o35,ς,t35⟩,hm1⟩
 have hjU:j< (offs u.ths[i]).length:=by simp only [Nj]at hlt2;omega
 have hm2:=@tN (offs u.ths[i]).length j hjU;have hmU:=NC hjU;have n26:∀g,v26.ownBlock=some g->¬o18.ownBlock=some g:=λg hg e=>by
  have h1:=(o26.block g hg).1;have h2:=(o20b g e).2;omega
 have m35:OffsM D ψ (offs u.ths[i]) xs:=m26.kp g35.1 λg hg e=>by have :=hDw g hg;have :=(o20b g e).1;omega
 obtain⟨g,capg,cs,hvg,Z,J⟩:=Jc (o26.kp g35.1 n26) m35 hjU;obtain⟨kk,a1,a2,vr,sq,rfl,hone⟩:=Z.any;have etk:((offs u.ths[i]).take (j+1)).flatMap (oQ u i)=((offs u.ths[i]).take j).flatMap (oQ u i)++oQ u i (offs u.ths[i])[j]:=by rw [Ng hjU,OH];simp
 have hacc2:(A++((offs u.ths[i]).take j).flatMap (oQ u i)).length<=4000:=by
  have h1:=kO (sg u i) ((offs u.ths[i]).take j);rw [NW]at h1;rw [Nb];omega
 rw [hv26]at hvg;refine⟨g,0,_,capg,hv26.trans hvg,by omega,by omega,kk,a1,a2,vr,sq,⟨J 0 _ rfl _ (by omega) (by omega),J 1 _ rfl _ (by omega) (by omega),J 2 _ rfl _ (by omega) (by omega),J 3 _ rfl _ (by omega) (by omega),J 4 _ rfl _ (by omega) (by omega),trivial⟩,λε w46 hb45 hw46=>?_⟩;obtain⟨box1,Bu⟩:=Ke (cs:=fI kk a1 a2 vr sq) rfl hb45 hw46;refine⟨⟨rfl,Ge hone,box1⟩,λη hw47=>?_⟩;obtain⟨θ,l47,ι⟩:=Bu η hw47;have s47:=θ.size;have ll2:=t35.len;generalize hA2:A++((offs u.ths[i]).take j).flatMap (oQ u i)=A2 at*;have κ:∀{o:Value} {w':World} {l':List (Nat×Value)} {G':Nat->Prop},Gr ψ ζ w' o->eK w.heap.size w' o l'->(∀g,G' g->w5.heap.size<=g/\g< w'.heap.size/\o.ownBlock≠some g)->gd (tc D G' b2 w') l' (A2++oQ u i (offs u.ths[i])[j])->cW ((j:Int)+1)/\(∃(j':Nat) (l:List (Nat×Value)) (G:Nat->Prop),(j:Int)+1=j'/\j'<=(offs u.ths[i]).length/\Gr w27 o18 w' o/\eK w.heap.size w' o l/\(∀g,G g->w5.heap.size<=g/\g< w'.heap.size/\o.ownBlock≠some g)/\gd (tc D G b2 w') l (A++((offs u.ths[i]).take j').flatMap (oQ u i)))/\(((offs u.ths[i]).length:Int) - ((j:Int)+1)).toNat< (((offs u.ths[i]).length:Int) - j).toNat:=λ{o w' l' G'} h1 h2 h3 h4=>by
  refine⟨by omega,⟨j+1,l',G',by omega,by omega,g35.trans h1,h2,h3,?_⟩,hm2⟩;rw [etk,<-NX,hA2];exact h4
 have μ:oQ u i (offs u.ths[i])[j]=[]->_:=λh=>κ (o:=ζ) (w':=η) (l':=l2) (G':=G2) ((Gr.refl ψ ζ).ex θ) (o35.ex θ) (λg hg=>by have :=ς g hg;exact⟨this.1,by omega,this.2.2⟩) (by rw [h,NM];exact t35.mono λp r h=>h.kp (Kp.ah θ λ _=>False) (λ _ _ h=>h) (λ _ _ h=>h) λ _ h=>h)
 have hcs47:jP D η (offs u.ths[i])[j] (fI kk a1 a2 vr sq):=Z.ex θ;generalize (offs u.ths[i])[j]=oU at*;cases oU
 ·obtain⟨_,_,_,_,Z,_⟩:=Z;unfold fI at Z;simp only [OC,PU,Qv,PE]at Z;have e1:kk=126:=NK.1 (by omega);subst e1;exact⟨126,ι 0 (by omega),(λh=>by cases h),λ _=>μ rfl⟩
 ·obtain⟨_,_,Z,_⟩:=Z;unfold fI at Z;simp only [OC,PU,Qv,PE]at Z;have e1:kk=33:=NK.1 (by omega);subst e1;exact⟨33,ι 0 (by omega),(λh=>by cases h),λ _=>μ rfl⟩
 rename_i e x q sq';obtain⟨vr',Z,hvq⟩:=hcs47;unfold fI at Z;simp only [OC,PU,Value.bool.injEq,Qv,PE]at Z;have e1:kk=63:=NK.1 (by omega);have e2:a1=e:=by omega
 have e3:a2=x:=by omega
 have e4:vr=vr':=Z.2.2.2.1;have e5:sq=sq':=Z.2.2.2.2;subst e1 e2 e3 e4 e5;have g47:=g35'.ex θ;have x047:=xw g47;have eE:oQ u i (.rcv a1 a2 q sq)=if a1∈u.frL then []else [(i,.rcv a1 a2 q sq)]:=rfl
 refine⟨63,ι 0 (by omega),λ _=>⟨ptr b,cS g47,(a1:Int),ι 1 (by omega),Jb (cb2 x047) (cbl x047 k4) (k6.ex x047) (by omega) ⟨λhin=>?_,λhout=>?_⟩⟩,(λh=>by cases h)⟩
 ·have hin:a1∈u.frL:=by simpa using hin
  exact μ (by rw [eE,NO hin])
 have hout:a1∉u.frL:=by simpa using hout
 rw [eE,Nt hout]at κ;intro γ w54 hb53 hw54 H ν hb55 υ;have x54:Ex η w54:=hw54▸Ex.alloc _ _;have x56:Ex w54 ν:=υ▸Ex.alloc _ _;have s54:w54.heap.size=η.heap.size+1:=by rw [hw54,size_alloc]
 have s56:ν.heap.size=w54.heap.size+1:=by rw [υ,size_alloc]
 have x4756:=Ex.trans x54 x56;have c55:ν.cell? ⟨H,0,none⟩=some (.slice none 0 0):=by rw [υ,hb55];exact aa rfl
 have f55:ν.frozen? ⟨H,0,none⟩=false:=by rw [υ,hb55];exact aW _ _ _ _
 refine⟨rfl,⟨⟨_,c55⟩,f55⟩,λξ φ=>?_⟩;have x58:Ex η ξ:=by
  have k:=Kp.set (i:=0) (Kp.ah x4756 λg=>g=H) rfl (Value.slice (some ⟨γ,0,none⟩) 1 1);rw [<-φ]at k;exact⟨k.os,k.tape,k.output,k.size,λg hg=>k.block g hg (by omega)⟩
 have k58:Kr H ν ξ:=φ▸Kr.set ν 0 _;have s58:=k58.size;have c558:ξ.cell? ⟨H,0,none⟩=some (.slice (some ⟨γ,0,none⟩) 1 1):=by rw [φ];exact Ns _ _ _ c55
 have f58:ξ.frozen? ⟨H,0,none⟩=false:=by rw [φ,Nv];exact f55
 have row:dG (λg=>g=γ) ξ (.slice (some ⟨γ,0,none⟩) 1 1) [iv i]:=by
  refine .inr ⟨γ,0,1,rfl,rfl,by omega,λj y hy=>?_⟩;cases j with
  | zero=>
   simp only [OY,Ow]at hy;subst hy;rw [M5 (w:=ν) (k58.block γ (by omega) (by omega)),x56.cell (a:=⟨γ,0+0,none⟩) (show γ< _ by omega),hw54,hb53];exact aa rfl
  | succ j=>simp at hy
 have χ:=o35.block;have fin:∀(δ:World) (gone:Value),Ex η δ->H< δ.heap.size->δ.cell? ⟨H,0,none⟩=some gone->dG (λg=>g=γ) δ gone ((if sq then []else [i]).map iv)->La δ ε 1 λn62=>oneV (Value.func (Fn.func 191) #[] #[Value.pointer (some ⟨b2,0,none⟩),Value.pointer (some ⟨H,0,none⟩),Value.pointer (some ⟨ε,0,none⟩)])=true/\
   jF δ (Obj.cells #[Value.int IntKind.i64 n62,Value.func (Fn.func 191) #[] #[Value.pointer (some ⟨b2,0,none⟩),Value.pointer (some ⟨H,0,none⟩),Value.pointer (some ⟨ε,0,none⟩)]] tQ) λb63 ω=>um tQ 2 16 ω ζ (Value.slice (some ⟨b63,0,none⟩) 1 1) λv70 w71=>cW ((j:Int)+1)/\(∃(j':Nat) (l:List (Nat×Value)) (G:Nat->Prop),(j:Int)+1=j'/\j'<=(offs u.ths[i]).length/\Gr w27 o18 w71 v70/\eK w.heap.size w71 v70 l/\(∀g,G g->w5.heap.size<=g/\g< w71.heap.size/\v70.ownBlock≠some g)/\gd (tc D G b2 w71) l (A++((offs u.ths[i]).take j').flatMap (oQ u i)))/\(((offs u.ths[i]).length:Int) - ((j:Int)+1)).toNat< (((offs u.ths[i]).length:Int) - j).toNat:=by
  intro δ gone x61 l61 c61 h61;have x3561:=Ex.trans θ x61;refine⟨(a1:Int),by rw [x61.cell (a:=⟨ε,1,none⟩) l47];exact ι 1 (by omega),rfl,λb63 ω hb63 hw64=>?_⟩;have x64:Ex δ ω:=hw64▸Ex.alloc _ _;have s64:ω.heap.size=δ.heap.size+1:=by rw [hw64,size_alloc]
  have s61:=x61.size;refine eK.push (p:=(a1,Value.func (Fn.func 191) #[] #[Value.pointer (some ⟨b2,0,none⟩),Value.pointer (some ⟨H,0,none⟩),Value.pointer (some ⟨ε,0,none⟩)])) (o35.ex x3561) rfl (by omega) hb63 hw64 (by omega) λv70 w71 o71 hg71 hn71=>?_
  have k71:Kp ω w71 (λg=>ζ.ownBlock=some g):=Kp.aG hg71 λ _ h=>h
  have s71:=k71.size;have x3564:=Ex.trans x3561 x64;have hn:∀g,ψ.heap.size<=g->g< ω.heap.size->v70.ownBlock≠some g:=λg h1 h2 e=>(hn71 g e).elim (λe=>by have :=(χ g e).2;omega) λe=>by omega
  have ho:∀g,ψ.heap.size<=g->ζ.ownBlock≠some g:=λg h1 e=>by have :=(χ g e).2;omega
  refine κ (G':=λg=>G2 g\/g=ε\/g=γ\/g=H) (((Gr.refl ψ ζ).ex x3564).grown hg71 hn71) o71 (λg hg=>?_) ((t35.mono λp r h=>?_).app (.cons ?_ .nil))
  ·rcases hg with hg | rfl | rfl | rfl
   ·have :=ς g hg;exact⟨this.1,by omega,λe=>(hn71 g e).elim this.2.2 λe=>by omega⟩
   ·exact⟨by omega,by omega,hn _ (by omega) (by omega)⟩
   ·exact⟨by omega,by omega,hn _ (by omega) (by omega)⟩
   ·exact⟨by omega,by omega,hn _ (by omega) (by omega)⟩
  ·exact(h.kp (G':=G2) (Kp.ah x3564 λ _=>False) (λ _ _ h=>h) (λ _ _ h=>h) λ _ h=>h).kp k71 (λg hg e=>by have :=hDw g hg;have :=(χ g e).1;omega) (λg hg e=>(ς g hg).2.2 e) λ _ h=> .inl h
  ·refine tc.kp (G:=λg=>g=ε\/g=γ\/g=H) ⟨a1,a2,q,sq,H,ε,vr,gone,rfl,rfl,.inr (.inr rfl),by omega,.inl rfl,by omega,by rw [x64.cell (a:=⟨H,0,none⟩) l61];exact c61,λj hj=>by rw [(Ex.trans x61 x64).cell (a:=⟨ε,j,none⟩) l47];exact ι j hj,aH.ex hvq (Ex.trans x61 x64),(h61.ex x64).sub λg _ h=> .inr (.inl h)⟩ k71 (λg hg e=>by have :=hDw g hg;have :=(χ g e).1;omega) (λg hg=>ho g (by rcases hg with rfl | rfl | rfl<;>omega)) λ _ h=> .inr h
 refine⟨sq,by rw [x58.cell (a:=⟨ε,4,none⟩) l47];exact ι 4 (by omega),λhs=>⟨rfl,⟨⟨_,c558⟩,f58⟩,λδ hw61=>?_⟩,λhs=>?_⟩
 ·have k:=Kp.set (i:=0) (Kp.ah x58 λg=>g=H) rfl (Value.slice none 0 0);rw [<-hw61]at k;have s61:=k.size;refine fin δ (.slice none 0 0) ⟨k.os,k.tape,k.output,k.size,λg hg=>k.block g hg (by omega)⟩ (by have :=(Kr.set ξ 0 (Value.slice none 0 0) (r:=H)).size;rw [<-hw61]at this;omega) (by rw [hw61];exact Ns _ _ _ c558) (by rw [hs];exact .inl ⟨rfl,rfl⟩)
 ·exact fin ξ _ x58 (by omega) c558 (by rw [hs];exact row)
variable {qb:Bool}
def J6 (u:U)(nm:UInt8):EE (jD u nm) u=(iw u).flatMap λr=>jD u nm r.1 r.2:=by
 unfold EE iw;rw [List.flatMap_assoc]
 congr 1
 funext i
 unfold ED nG;rw [List.flatMap_assoc]
 congr 1
 funext o
 cases o with
 | rcv a x q s=>
  show(if a∈u.frL then []else _)=List.flatMap _ (if a∈u.frL then []else [(i,Off.rcv a x q s)]);by_cases h:a∈u.frL
  ·rw [NO h,NO h];rfl
  ·rw [Nt h,Nt h,Ob,List.flatMap_nil,NM];exact(Nt h).symm
 | _=>rfl
def Hz {u:U}{r:Nat×Off Nat}(h:r∈iw u):∃(hi:r.1< u.ths.length) (a x:Nat) (q:U) (s:Bool),r.2= .rcv a x q s/\r.2∈offs u.ths[r.1]/\a∉u.frL:=by
 obtain⟨i,hi,h⟩:=Oo.1 h;rw [OQ]at hi;unfold nG at h;rw [cz hi]at h;obtain⟨o,H,h⟩:=Oo.1 h;cases o with
 | rcv a x q s=>
  have h:r∈(if a∈u.frL then []else [(i,Off.rcv a x q s)]):=h;by_cases G:a∈u.frL
  ·rw [NO G]at h;cases h
  ·rw [Nt G]at h;cases ND.1 h;exact⟨hi,a,x,q,s,rfl,H,G⟩
 | _=>cases h
def FU {u:U}(J:u.size<=60):(iw u).length<=3600:=by
 have H:=xB u;have h1:=qj (f:=nG u) (c:=60) (l:=List.range u.ths.length) λx G=>by
  have G:=OQ.1 G;have Z:=kO (sg u x) (offs (u.ths.getD x .nil));rw [cz G]at Z;have h3:=kQ u.ths[x];have h4:=kz u _ (NC G);unfold nG;rw [cz G];omega
 rw [PD]at h1;have :=P8 (show u.ths.length<=60 by omega) (Nc 60);unfold iw;omega
def DZ {t:P}{u:U}(hu:u=(num t e0 0).1){n0:Nat}(χ:n0=(num t e0 0).2)(ok:qu t)(su:SU t u)(Z:u.size<=60){b s c:Nat}{w w1:World}{M D:Nat->Prop}{E0:List Ev}(hE0:E0.length<=100000)(h:tZ qb b s n0 c w w1 E0 M){bl:Nat}(ζ:w.cell? ⟨b,2,none⟩=some (ptr bl))(ψ:aH D w (td u) (ptr bl))(hD:∀g,D g->g≠b/\g< w.heap.size)
  {nm:UInt8} (β:lt nm=true) (hc:n0+c<=4000000000) {R:Qx} (hR:∀w3 J c',tZ qb b s n0 c' w w3 (E0++EE (jD u nm) u) J->c'<=c+3600000->Rel b w1 M w3 J->R w3):
  Qy 67 #[ptr b,ptr s,.int .u8 nm.toNat] w1 (ax [] R):=by
 refine jM (ptr b) (ptr s) nm w1 R ?_;dsimp only [go_sem];dsimp only [go_sem,UInt8.reduceOfNat];have hb:=h.hb;have s01:=h.km.size;have η:∀{w':World},Km b w w'->w'.cell? ⟨b,2,none⟩=some (ptr bl):=λk=>(k.ce 2 (by omega)).trans ζ
 have θ:∀{w':World},Km b w w'->aH D w' (td u) (ptr bl):=λk=>aH.kp ψ k.kp λg H=>(hD g H).1
 have hln:=FU Z;have ι:=bg β;have κ:e0 nm< 26:=by unfold e0;omega
 have ω:(nm - 97:UInt8).toNat=e0 nm:=gC β;refine FK su Z (η h.km) (by omega) (θ h.km) (λg H=>by have :=(hD g H).2;omega) λv w6 b2 l G x6 μ ub2 ν o6 hG t6=>?_
 obtain⟨a,cap,hv⟩:=o6.slice;have h6:=h.ex x6;have ll:=t6.len;have s6:=x6.size;refine⟨a,_,cap,hv,λi w'=>∃(k:Nat) (J:Nat->Prop),i=k/\k<=l.length/\tZ qb b s n0 (c+1000* k) w w' (E0++((iw u).take k).flatMap λr=>jD u nm r.1 r.2) J/\Rel b w6 M w' J,λi _=>(l.length - i).toNat,⟨0,M,rfl,N5 _,by simpa using h6,Rel.refl _ _ _⟩,λi w7 hI=>?_⟩;obtain⟨k,M7,rfl,hk,h7,r7⟩:=hI;refine⟨λι=>?_,λhge=>?_⟩;rotate_left
 ·have hkl:k=(iw u).length:=by simp only [No]at hge;omega
  rw [hkl,NR,<-J6]at h7;exact hR w7 M7 _ h7 (by omega) (((Rel.refl b w1 M).ex x6).trans r7)
 have γ:k< l.length:=by simp only [Nj]at ι;omega
 have δ:k< (iw u).length:=by omega
 have nS:∀g,w1.heap.size<=g->¬(g=b\/M g):=λg H e=>e.elim (λe=>by omega) λhM=>by have :=(h.rs.mr g hM).2;omega
 have nD:∀g,D g->¬(g=b\/M g):=λg H e=>e.elim (hD g H).1 λhM=>by have :=(hD g H).2;have :=(h.rs.mr g hM).1;omega
 have s7:=r7.1.size;have o7:=o6.kp r7.1 λg H=>nS g (o6.block g H).1
 have i7:tc D G b2 w7 l[k] (iw u)[k]:=(t6.get γ δ).kp r7.1 nD (λg H=>nS g (hG g H).1) λ _ h=>h
 obtain⟨e,x,q,sq,b3,b4,vq,gone,q1,q2,q3,q4,q5,q6,q7,q8,q9,q10⟩:=i7;obtain⟨ε,e',x',q',sq',f1,f2,f3⟩:=Hz (NC δ);rw [q1]at f1;cases f1;obtain⟨g,ξ,hv2,hgl,ο,ς⟩:=o7.get γ;rw [q2]at ο ς;refine⟨g,0,_,ξ,hv2,by omega,by omega,(e:Int),_,⟨by rw [NJ];exact ο,by rw [NJ];exact ς,trivial⟩,λb8 w8 hb8 hw8=>?_⟩;obtain⟨bx1,bx2⟩:=Bu (cs:=[iv e,.func (.func 191) #[] #[.pointer (some ⟨b2,0,none⟩),.pointer (some ⟨b3,0,none⟩),.pointer (some ⟨b4,0,none⟩)]]) rfl rfl hb8 hw8;refine⟨⟨rfl,rfl,bx1⟩,λw9 hw9=>?_⟩;obtain⟨x9,l9,c9⟩:=bx2 w9 hw9;have h9:=h7.ex x9;have s9:=x9.size;have nb:∀g,w1.heap.size<=g->g≠b:=λg H e=>by omega
 have c2w:w7.cell? ⟨b2,0,none⟩=some (ptr b):=by rw [M5 (w:=w6) (r7.1.block b2 ub2 (nS b2 μ))];exact ν
 refine⟨_,c9 1 (by omega),_,[.pointer (some ⟨b2,0,none⟩),.pointer (some ⟨b3,0,none⟩),.pointer (some ⟨b4,0,none⟩)],rfl,by kernel_rfl,?_⟩;have ek:((iw u).take (k+1)).flatMap (λr=>jD u nm r.1 r.2)=((iw u).take k).flatMap (λr=>jD u nm r.1 r.2)++jD u nm (iw u)[k].1 (iw u)[k].2:=by rw [Ng δ,OH];simp
 rw [q1]at ek f2;have eE:jD u nm (iw u)[k].1 (.rcv e x q sq)=[([ρ0 e,63,nm],je (BK u (iw u)[k].1 q x sq (e0 nm)))]:=by
  show(if e∈u.frL then []else [([ρ0 e,63,nm],if lt nm=true then _ else none)])=_;rw [Nt f3,NO β]
 rw [eE]at ek;have υ:e< 26:=by
  obtain⟨sU,_⟩:=gB (su.smp _ (NC ε)) _ f2;exact((su.own ⟨_,NC ε,sU.fr e (.inl rfl)⟩).2 f3).2
 have hEl:(((iw u).take k).flatMap λr=>jD u nm r.1 r.2).length<=3600:=by
  have h1:=kO (f:=λr:Nat×Off Nat=>jD u nm r.1 r.2) (λr=>lV u nm r.1 r.2) ((iw u).take k);rw [NW]at h1;omega
 have goal:=JX hu χ su ok Z h9 (η h9.km) (θ h9.km) hD ε f2 (b2:=b2) (b3:=b3) (b4:=b4) (vq:=vq) (gone:=gone) (by rw [x9.cell (a:=⟨b2,0,none⟩) (show b2< _ by omega)];exact c2w) (by omega) (nb _ μ) (by rw [x9.cell (a:=⟨b3,0,none⟩) q4];exact q7) (by omega) (nb _ (hG _ q3).1) (λj hj=>by rw [x9.cell (a:=⟨b4,j,none⟩) q6];exact q8 j hj) (by omega) (nb _ (hG _ q5).1) (aH.ex q9 x9) ((q10.ex x9).sub λg H hGg=>⟨H,nb _ (hG _ hGg).1⟩) (nm:=e0 nm) κ (by omega) (R:=λtx qq w3=>∃φ:Int,w3.cell? ⟨b8,0,none⟩=some (.int .i64 φ)/\Qy 123 #[.int .i64 φ] w3 (ax [.s] fun(t5:aJ) (w4:World)=>List.length t5+[(63:UInt8)].length<=4611686018427387904/\((0:Int)<=nm.toNat/\(nm.toNat:Int)< 128)/\List.length (t5++[63])+[UInt8.ofNat ((nm.toNat:Int)).toNat].length<=4611686018427387904/\Qy 122 #[ptr s,.string (ay (t5++[63]++[UInt8.ofNat ((nm.toNat:Int)).toNat])),.string (ay tx),.bool qq] w4 (ax [] λw5=>cW ((k:Int)+1)/\(∃(k':Nat) (J:Nat->Prop),(k:Int)+1=k'/\k'<=l.length/\tZ qb b s n0 (c+1000* k') w w5 (E0++((iw u).take k').flatMap λr=>jD u nm r.1 r.2) J/\Rel b w6 M w5 J)/\((l.length:Int) - ((k:Int)+1)).toNat< ((l.length:Int) - k).toNat))) λtx qq w3 h3 k3 e1 e2=>?_
 ·rw [ω];exact goal
 ·refine⟨(e:Int),by rw [M5 (w:=w9) (k3.block b8 (by omega) (nb _ (by omega)))];exact c9 0 (by omega),Hq υ ⟨by simp,⟨by omega,by omega⟩,by simp,?_⟩⟩;have elb:[ρ0 e]++[63]++[UInt8.ofNat ((nm.toNat:Int)).toNat]=[ρ0 e,63,nm]:=by
   rw [Nf,UInt8.ofNat_toNat];rfl
  rw [elb,e1,e2];refine h3.add (by rw [Nb];omega) ([ρ0 e,63,nm],je (BK u (iw u)[k].1 q x sq (e0 nm))) λw5 J r5 k5 hM'=>⟨by omega,⟨k+1,J,by omega,by omega,?_,?_⟩,tN γ⟩
  ·rw [ek,<-NX];exact r5.mono (by omega)
  ·have k9:Kp w7 w5 (λg=>g=b\/M7 g):=Kp.trans (Kp.trans (Kp.ah x9 _) (Kp.mono (λ _ h=> .inl h) k3) λ _ _ h=>h) k5 λ _ _ h=> .inr h
   have s3:=k3.size;exact r7.trans ⟨k9,λg H=>(hM' g H).imp id λh=>by omega⟩
end
attribute [go_sem] Tryz.f124
def me (s1:Value)(w:World)(R:Bool->Qx)(h:vc az (aZ [] [] []) (ab Tryz.f124) (ai 0 [.v s1]) w (fin az [.tmp 2 .b] R)):
  Qy 124 #[s1] w (ax [.b] R):=
 a7 Tryz.func124 (by kernel_rfl) h
attribute [go_sem] Tryz.f239
def mj (G:aJ)(w:World)(R:Bool->Qx)(h:vc az (aZ [] [] []) (ab Tryz.f239) (ai 0 [.s G]) w (fin az [.tmp 2 .b] R)):
  Qy 239 #[(.string (ay G))] w (ax [.b] R):=
 a7 Tryz.func239 (by kernel_rfl) h
attribute [go_sem] Tryz.f193
def jQ (G:aJ)(H:aJ)(w:World)(R:Int->Qx)(h:vc az (aZ [] [] []) (ab Tryz.f193) (ai 0 [.s G,.s H]) w (fin az [.tmp 4 .i] R)):
  Qy 193 #[(.string (ay G)),(.string (ay H))] w (ax [.i] R):=
 a7 Tryz.func193 (by kernel_rfl) h
attribute [go_sem] Tryz.f127
def ie (s1:Value)(s2:Value)(w:World)(R:Int->Qx)(h:vc az (aZ [(2,[(11,.i)])] [] []) (ab Tryz.f127) (ai 0 [.v s1,.v s2]) w (fin az [.tmp 4 .i] R)):
  Qy 127 #[s1,s2] w (ax [.i] R):=
 a7 Tryz.func127 (by kernel_rfl) h
attribute [go_sem] Tryz.f126
def kU (G:Value)(b2:Value)(w:World)(R:Int->Qx)(h:vc az (aZ [] [] []) (ab Tryz.f126) (ai 0 [.v G,.v b2]) w (fin az [.tmp 4 .i] R)):
  Qy 126 #[G,b2] w (ax [.i] R):=
 a7 Tryz.func126 (by kernel_rfl) h
attribute [go_sem] Tryz.f130
def jc (s1:Value)(s2:Value)(w:World)(R:Bool->Qx)(h:vc az (aZ [(4,[(13,.i)])] [] [(6,true,.lt 0 (.lt 1 (.lt 2 (.lt 3 (.lt 4 (.lt 5 (.lt 6 (.lt 7 (.lt 8 .done)))))))))]) (ab Tryz.f130) (ai 0 [.v s1,.v s2]) w (fin az [.tmp 4 .b] R)):
  Qy 130 #[s1,s2] w (ax [.b] R):=
 a7 Tryz.func130 (by kernel_rfl) h
attribute [go_sem] Tryz.f129
def j4 (G:Value)(b2:Value)(w:World)(R:Bool->Qx)(h:vc az (aZ [] [] []) (ab Tryz.f129) (ai 0 [.v G,.v b2]) w (fin az [.tmp 4 .b] R)):
  Qy 129 #[G,b2] w (ax [.b] R):=
 a7 Tryz.func129 (by kernel_rfl) h
attribute [go_sem] Tryz.f128
def fw (s1:Value)(G:Value)(w:World)(R:Value->Qx)(h:vc az (aZ [(4,[(5,.i)]),(9,[(5,.i),(7,.i)])] [] [(6,true,.lt 0 (.lt 1 (.lt 2 (.lt 3 (.lt 4 (.lt 5 (.lt 6 (.lt 7 (.lt 8 (.lt 9 (.one .n 10 .done))))))))))),(11,true,.lt 0 (.lt 1 (.lt 2 (.lt 3 (.lt 4 (.lt 5 (.lt 6 (.lt 7 (.lt 8 (.lt 9 (.one .n 10 (.lt 11 .done))))))))))))]) (ab Tryz.f128) (ai 0 [.v s1,.v G]) w (fin az [.tmp 4 .v] R)):
  Qy 128 #[s1,G] w (ax [.v] R):=
 a7 Tryz.func128 (by kernel_rfl) h
attribute [go_sem] Tryz.f68
def nA (s1:Value)(w:World)(R:Value->Bool->Qx)(h:vc az (aZ [] [] []) (ab Tryz.f68) (ai 0 [.v s1]) w (fin az [.tmp 2 .v,.tmp 3 .b] R)):
  Qy 68 #[s1] w (ax [.v,.b] R):=
 a7 Tryz.func68 (by kernel_rfl) h
attribute [go_sem] Tryz.f34
attribute [go_sem] Tryz.f66
def rS (s1:aJ)(w:World)(R:Bool->Qx)(h:vc az (aZ [] [] []) (ab Tryz.f66) (ai 0 [.s s1]) w (fin az [.tmp 2 .b] R)):
  Qy 66 #[(.string (ay s1))] w (ax [.b] R):=
 a7 Tryz.func66 (by kernel_rfl) h
attribute [go_sem] Tryz.f27
def mT (G:aJ)(H:aJ)(w:World)(R:Value->Bool->Qx)(h:vc az (aZ [] [] []) (ab Tryz.f27) (ai 0 [.s G,.s H]) w (fin az [.tmp 4 .v,.tmp 5 .b] R)):
  Qy 27 #[(.string (ay G)),(.string (ay H))] w (ax [.v,.b] R):=
 a7 Tryz.func27 (by kernel_rfl) h
section
open T Classical
abbrev VP:=Value×Pq
def Aa (acc:List VP)(s:VP):List VP:=if acc.getLast?.map Prod.snd=some s.2 then acc else acc++[s]
def yN (l:List VP):List VP:=l.foldl Aa []
def nV (l:List VP)(s:VP):yN (l++[s])=Aa (yN l) s:=by unfold yN;rw [List.foldl_append];rfl
def rf:∀n (l:List VP),l.length=n->(yN l).getLast?.map Prod.snd=l.getLast?.map Prod.snd/\(yN l).map Prod.snd=dq (l.map Prod.snd)/\(yN l).Sublist l
 | 0,l,h=>by
  obtain rfl:l=[]:=NF h;exact⟨rfl,rfl,Oc _⟩
 | n+1,l,h=>by
  rcases List.eq_nil_or_concat l with rfl | ⟨m,s,rfl⟩
  ·simp at h
  ·rw [List.concat_eq_append]at h|-;obtain⟨h1,H,G⟩:=rf n m (by simpa using h);rw [nV,N0,List.map_singleton,Cz,<-H];unfold Aa LV;rw [List.getLast?_map];split
   ·rename_i e;exact⟨by rw [e];simp,rfl,G.trans (O5 _ _)⟩
   ·exact⟨by simp,by simp,G.append (Oc _)⟩
def FJ (l:List VP):(yN l).getLast?.map Prod.snd=l.getLast?.map Prod.snd:=(rf _ l rfl).1
def HE (l:List VP):(yN l).map Prod.snd=dq (l.map Prod.snd):=(rf _ l rfl).2.1
def HI (l:List VP):(yN l).Sublist l:=(rf _ l rfl).2.2
def vd {l:List VP}(h:l.length< 2):yN l=l:=by
 match l,h with
 | [],_=>rfl
 | [a],_=>rfl
def iL {e B g cap n j:Nat}{w:World}{C:List VP}(h:aE e B w (.slice (some ⟨g,0,none⟩) n cap) (C.map Prod.fst))(J:j< C.length):w.cell? ⟨g,j,none⟩=some C[j].1/\w.frozen? ⟨g,j,none⟩=false/\B<=g/\C.length<=cap/\n=C.length:=by
 rcases h.2 with⟨Z,_⟩ | ⟨g',G,cur,hv,hb,H,h1,h2,h3,h4⟩
 ·cases Z
 ·cases hv;rw [Nq]at h1 h4|-;refine⟨?_,?_,hb,h1,rfl⟩
  ·have :=N9 (fun(l:List Value)=>l[j]?) h4;simp only [OX,M6 J,OP]at this;rw [Og (by omega),Oe]at this;unfold World.cell?;simp only [H];exact this
  ·unfold World.frozen?;simp [H]
def rJ {e B g cap N:Nat}{z:Value}:∀(k n:Nat) (C:List VP) (w:World),aE e B w (.slice (some ⟨g,0,none⟩) N cap) (C.map Prod.fst)->n+k<=C.length->∃G:List VP,aE e B (w.setCells g n (List.replicate k z)) (.slice (some ⟨g,0,none⟩) N cap) (G.map Prod.fst)/\G.length=C.length/\G.take n=C.take n
 | 0,_,C,_,h,_=>⟨C,h,rfl,rfl⟩
 | k+1,n,C,w,h,hk=>by
  have H:=aE.set (x:=z) (j:=n) h rfl (by rw [Nq];omega);have e:((C.map Prod.fst).set n z)=(C.set n (z,([],[]))).map Prod.fst:=by rw [Qc]
  rw [e]at H;obtain⟨G,h1,J,Z⟩:=rJ k (n+1) (C.set n (z,([],[]))) _ H (by rw [OE];omega);refine⟨G,h1,by rw [J,OE],?_⟩;have :=N9 (List.take n) Z
  rwa [List.take_take,List.take_take,Pm (by omega),PK (Nc _)]at this
def Hn {e B:Nat}{w:World}{g cap N n:Nat}{C:List VP}(h:aE e B w (.slice (some ⟨g,0,none⟩) N cap) (C.map Prod.fst))(J:n<=C.length):aE e B w (.slice (some ⟨g,0,none⟩) n cap) ((C.take n).map Prod.fst):=by
 have G:((C.take n).map Prod.fst).length=n:=by rw [Nq,NW];omega
 rcases h.2 with⟨Z,_⟩ | ⟨g',H,cur,hv,hb,hg,h1,h2,h3,h4⟩
 ·cases Z
 ·cases hv;rw [Nq]at h1 h4;refine⟨by simp,.inr ⟨g,cap,cur,by rw [G],hb,hg,by rw [G];omega,h2,h3,?_⟩⟩;rw [G,List.map_take,<-h4,NQ,NQ,List.take_take,Pm J]
def aE.cs {e B:Nat}{w:World}{v:Value}{l:List Value}(h:aE e B w v l):∃a cap,v= .slice a l.length cap:=by
 rcases h.2 with⟨rfl,G⟩ | ⟨g,cap,cur,rfl,_⟩
 ·exact⟨none,0,by rw [G]⟩
 ·exact⟨_,cap,rfl⟩
def AW {B:Nat}{w:World}{v:Value}{l:List VP}(h:aE tL B w v (l.map Prod.fst))(ς:∀x∈l,oneV x.1=true)(hl:l.length<=1099511627776){f:Nat}{ca:List Value}(hf:hasR gD f=true)
  (hq:∀x∈l,∀y∈l,∀(w':World) (Q:Bool->Qx),Kp w w' (λg=>v.ownBlock=some g)->(∀w2,Ex w' w2->Q (decide (x.2=y.2)) w2)->Qy f (List.toArray ([x.1,y.1]++ca)) w' (ax [.b] Q)) {R:Value->Qx}
  (hR:∀v' w',Kp w w' (λg=>v.ownBlock=some g)->aE tL B w' v' ((yN l).map Prod.fst)->(∀g,v'.ownBlock=some g->v.ownBlock=some g)->R v' w'):Qy 128 #[v,.func (.func f) #[] (List.toArray ca)] w (ax [.v] R):=by
 refine fw v _ w R ?_;dsimp only [go_sem];dsimp only [go_sem,UInt8.reduceOfNat,UInt32.reduceOfNat,Nat.reduceAdd];obtain⟨ao,cap,hv⟩:=h.cs;rw [Nq]at hv;have kx:∀{w1:World},Ex w w1->Kp w w1 (λg=>v.ownBlock=some g):=λx=>Kp.ah x _
 refine⟨ao,_,cap,hv,λhs=>?_,λhs=>?_⟩
 ·have h2:l.length< 2:=by simp only [Nj]at hs;omega
  refine hR v w (kx (Ex.refl w)) ?_ λ _ h=>h
  rw [vd h2];exact h
 have h2:2<=l.length:=by simp only [No]at hs;omega
 obtain⟨g,rfl⟩:∃g,v= .slice (some ⟨g,0,none⟩) l.length cap:=by
  rcases h.2 with⟨_,h0⟩ | ⟨g,cap',cur,hv',_⟩
  ·rw [Nq]at h0;omega
  ·have e:=hv'.symm.trans hv;simp only [PH]at e;exact⟨g,by rw [hv,<-e.1]⟩
 have hcap:=(iL h (j:=0) (by omega)).2.2.2.1;refine⟨λk w'=>∃n:Nat,k=n/\1<=n/\n<=l.length/\yN (l.take n)=l.take n/\Ex w w',λk _=>(l.length - k).toNat,⟨1,rfl,Nc _,by omega,by rw [vd];rw [NW];omega,Ex.refl w⟩,λk w8 hI=>?_⟩;obtain⟨G,rfl,hk1,υ,η,x8⟩:=hI;refine⟨_,_,cap,rfl,λhlt=>?_,λhge=>?_⟩;rotate_left
 ·have:G=l.length:=by simp only [No]at hge;omega
  rw [this,NR]at η;refine hR _ w8 (kx x8) ?_ λ _ h=>h
  rw [η];exact h.kp (Kp.ah x8 λ _=>False) λ _ _ h=>h
 have θ:=oL hlt;refine⟨λw'=>Ex w8 w',λφ χ=>?_⟩;have ψ:Ex w8 φ:=χ▸Ex.drew w8;have γ:=Ex.trans x8 ψ;have ν:∀{w':World},Ex w w'->aE tL B w' (.slice (some ⟨g,0,none⟩) l.length cap) (l.map Prod.fst):=λx=>h.kp (Kp.ah x λ _=>False) λ _ _ h=>h
 refine⟨ψ,g,0,_,cap,rfl,by omega,by omega,l[G].1,λw' x=>?_,by omega,g,0,_,cap,rfl,by omega,by omega,(l[G - 1]'(by omega)).1,λw' x=>?_,f,ca,rfl,hf,?_⟩
 ·rw [Nf,NQ,NJ];exact(iL (ν (Ex.trans x8 x)) θ).1
 ·rw [show((G:Int) - 1).toNat=G - 1 by omega,NQ,NJ];exact(iL (ν (Ex.trans x8 x)) (by omega)).1
 refine hq _ (NC θ) _ (NC _) φ _ (kx γ) λw14 ω=>⟨λheq=>?_,λδ=>?_⟩
 rotate_left
 ·simp only [No]at δ;refine⟨by omega,⟨G+1,by omega,by omega,by omega,?_,Ex.trans γ ω⟩,tN (by omega)⟩;rw [Ng θ,nV,η];unfold Aa;have:(l.take G).getLast?.map Prod.snd≠some l[G].2:=λe=>by
   rw [List.getLast?_eq_getElem?,NW,Pm υ,Og (by omega),M6 (by omega)]at e;exact δ (NY e).symm
  rw [Nt this]
 simp only [Nj]at heq;have κ:=Ex.trans γ ω;have hsl:(if cap=(G:Int).toNat then(some ⟨g,0,none⟩:Option Addr)else Option.map (λx:Addr=>x.add ((G:Int).toNat* 1)) (some ⟨g,0,none⟩))=some ⟨g,G,none⟩:=by
  rw [Nt (by omega),OP,add_plain,Nf,NQ,NJ]
 refine⟨_,_,cap,rfl,by omega,by omega,by omega,λk kk w'=>∃(n i:Nat) (C:List VP),k=n/\kk=i/\1<=i/\G+i<=l.length/\n< G+i/\C.length=l.length/\aE tL B w' (.slice (some ⟨g,0,none⟩) l.length cap) (C.map Prod.fst)/\C.take n=yN (l.take (G+i))/\C.drop (G+i - 1)=l.drop (G+i - 1)/\Kp w w' (λb=>(Value.slice (some ⟨g,0,none⟩) l.length cap).ownBlock=some b),
  λ _ kk _=>(l.length - kk).toNat,⟨G,1,l,rfl,rfl,Nc _,by omega,by omega,rfl,ν κ,?_,rfl,kx κ⟩,λk kk J hI=>?_⟩
 ·rw [Ng θ,nV,η];unfold Aa;rw [NO];rw [List.getLast?_eq_getElem?,NW,Pm υ,Og (by omega),M6 (by omega),heq];rfl
 obtain⟨n,i,C,rfl,rfl,hi1,hi2,hn,hC,ε,ht,hd,k31⟩:=hI;have hnC:n<=C.length:=by omega
 rw [hsl];refine⟨_,_,_,rfl,λhlt2=>?_,λhge2=>?_⟩
 ·have β:G+i< l.length:=by simp only [Nj]at hlt2;omega
  have e1:C[G+i]'(by omega)=l[G+i]:=by
   have :=N9 (fun(x:List VP)=>x[1]?) hd;simp only [Ql]at this;rw [show G+i - 1+1=G+i by omega,M6 (by omega),M6 β]at this;exact NY this
  have e2:C[G+i - 1]'(by omega)=l[G+i - 1]'(by omega):=by
   have :=N9 (fun(x:List VP)=>x[0]?) hd;simp only [Ql]at this;rw [PC,M6 (by omega),M6 (by omega)]at this;exact NY this
  refine⟨λw'=>Ex J w',λw36 hw36=>?_⟩;have ι:Ex J w36:=hw36▸Ex.drew J;have ξ:∀{w':World},Ex J w'->aE tL B w' (.slice (some ⟨g,0,none⟩) l.length cap) (C.map Prod.fst):=λx=>ε.kp (Kp.ah x λ _=>False) λ _ _ h=>h
  have ο:∀{w':World},Ex J w'->Kp w w' (λb=>(Value.slice (some ⟨g,0,none⟩) l.length cap).ownBlock=some b):=λx=>Kp.trans k31 (Kp.ah x λ _=>False) λ _ _ h=>h.elim
  have rd:∀{w':World},Ex J w'->∀j (hj:j< C.length),w'.cell? ⟨g,j,none⟩=some C[j].1:=λx j hj=>(iL (ξ x) hj).1
  have ζ:(yN (l.take (G+i))).getLast?.map Prod.snd=some (l[G+i - 1]'(by omega)).2:=by
   rw [FJ,List.getLast?_eq_getElem?,NW,Pm hi2,Og (by omega),M6 (by omega)];rfl
  have dsn:yN (l.take (G+(i+1)))=Aa (yN (l.take (G+i))) l[G+i]:=by
   rw [<-O',Ng β,nV]
  refine⟨ι,g,G,_,_,rfl,by omega,by omega,(C[G+i]'(by omega)).1,λw' x=>?_,by omega,g,G,_,_,rfl,by omega,by omega,(C[G+i - 1]'(by omega)).1,λw' x=>?_,f,ca,rfl,hf,?_⟩
  ·rw [Nf,NQ];exact rd x _ _
  ·rw [show G+((i:Int) - 1).toNat* 1=G+i - 1 by omega];exact rd x _ _
  rw [e1,e2];refine hq _ (NC β) _ (NC _) w36 _ (ο ι) λw37 x37=>⟨λδ=>?_,λμ=>?_⟩
  ·have H:=Ex.trans ι x37;have o37:=ξ H;have hne':l[G+i].2≠(l[G+i - 1]'(by omega)).2:=λe=>by rw [e]at δ;simp at δ
   have hoi:=ς _ (NC β);refine⟨g,G,_,_,rfl,by omega,by omega,l[G+i].1,by rw [Nf,NQ,<-e1];exact rd H _ _,g,0,_,cap,rfl,by omega,by omega,hoi,?_,λw57 Z=>⟨by omega,by omega,⟨n+1,i+1,C.set n (C[G+i]'(by omega)),by omega,by omega,by omega,by omega,by omega,by simpa using hC,?_,?_,?_,?_⟩,tN (by omega)⟩⟩
   ·rw [Nf,NQ,NJ];have :=iL o37 (j:=n) (by omega);exact⟨⟨_,this.1⟩,this.2.1⟩
   ·rw [Nf,NQ,NJ]at Z;rw [Qc,e1];exact o37.set Z (by rw [Nq];omega)
   ·rw [Ng (by simpa using(by omega:n< C.length)),PK (Nc _),ht,dsn];unfold Aa;rw [ζ,Nt (λe=>hne' (NY e).symm),List.getElem_set_self,e1]
   ·have:C.drop (G+i)=l.drop (G+i):=by
     have :=N9 (fun(x:List VP)=>x.drop 1) hd;simp only [P5]at this
     rwa [show G+i - 1+1=G+i by omega]at this
    rw [show G+(i+1) - 1=G+i by omega,List.drop_set_of_lt hn,this]
   ·rw [Nf,NQ,NJ]at Z;exact Kp.trans (ο H) (Z▸Kr.set w37 n _) λb _ e=>by rw [e];rfl
  ·have heq':l[G+i].2=(l[G+i - 1]'(by omega)).2:=by
    cases hd:decide (l[G+i].2=(l[G+i - 1]'(by omega)).2)with
    | true=>exact NB hd
    | false=>rw [hd]at μ;cases μ
   have H:=Ex.trans ι x37;refine⟨by omega,⟨n,i+1,C,rfl,by omega,by omega,by omega,by omega,hC,ξ H,?_,?_,ο H⟩,tN (by omega)⟩
   ·rw [ht,dsn];unfold Aa;rw [ζ,NO (by rw [heq'])]
   ·have :=N9 (fun(x:List VP)=>x.drop 1) hd;simp only [P5]at this;rw [show G+i - 1+1=G+i by omega]at this;rw [show G+(i+1) - 1=G+i by omega];exact this
 ·have β:G+i=l.length:=by simp only [No]at hge2;omega
  rw [β,NR]at ht;have hs2:(if cap=(n:Int).toNat then(some ⟨g,0,none⟩:Option Addr)else Option.map (λx:Addr=>x.add ((n:Int).toNat* 1)) (some ⟨g,0,none⟩))=some ⟨g,n,none⟩:=by
   rw [Nt (by omega),OP,add_plain,Nf,NQ,NJ]
  have hs3:(if cap=(0:Int).toNat then(some ⟨g,0,none⟩:Option Addr)else Option.map (λx:Addr=>x.add ((0:Int).toNat* 1)) (some ⟨g,0,none⟩))=some ⟨g,0,none⟩:=by
   rw [Nt (by have:(0:Int).toNat=0:=rfl;omega),OP,add_plain];rfl
  refine⟨_,_,cap,rfl,by omega,by omega,by omega,_,_,_,rfl,.inr ⟨g,n,hs2,λj hj=>?_,λw66 hw66=>⟨_,_,cap,rfl,by omega,by omega,by omega,?_⟩⟩⟩
  ·have :=iL ε (j:=n+j) (by omega);exact⟨⟨_,this.1⟩,this.2.1⟩
  rw [hs3];obtain⟨C2,o66,hC2,ht2⟩:=rJ (z:= .slice none 0 0) (Int.toNat (l.length:Int) - Int.toNat (n:Int)) n C J ε (by omega);obtain⟨k66,_⟩:=bk (b:=g) (List.replicate (Int.toNat (l.length:Int) - Int.toNat (n:Int)) (.slice none 0 0)) J n;rw [<-hw66]at k66 o66;have :=Hn o66 (n:=n) (by omega);rw [ht2,ht]at this;exact hR _ w66 (Kp.trans k31 k66 λb _ e=>by rw [e];rfl) this λb hb=>by cases hb;rfl
noncomputable def jX (a b:Tx):Int:=if a< b then -1 else if a=b then 0 else 1
noncomputable def sK (a b:Pq):Int:=if jX a.1 b.1=0 then jX a.2 b.2 else jX a.1 b.1
def dE {a b:Tx}:jX a b=0↔a=b:=by
 unfold jX;by_cases h:a< b
 ·rw [NO h];exact⟨λe=>by omega,λe=>by subst e;exact absurd h (Qs _)⟩
 ·rw [Nt h];by_cases e:a=b
  ·simp [e]
  ·simp [e]
def zJ {a b:Tx}:jX a b< 0↔a< b:=by
 unfold jX;by_cases h:a< b
 ·simp [h]
 ·by_cases e:a=b
  ·subst e;simp [Qs]
  ·simp [h,e]
def fc {a b:Pq}:sK a b< 0↔oI a b:=by
 unfold sK oI;by_cases h:a.1=b.1
 ·rw [NO (dE.2 h),zJ];exact⟨λk=> .inr ⟨h,k⟩,λk=>k.elim (λk=>absurd k (h▸Qs _)) And.right⟩
 ·rw [Nt λe=>h (dE.1 e),zJ];exact⟨.inl,λk=>k.elim id λk=>absurd k.1 h⟩
def Hl {a b:Tx}{w:World}{R:Int->Qx}(hR:R (jX a b) w):Qy 193 #[.string (ay a),.string (ay b)] w (ax [.i] R):=by
 refine jQ a b w R ?_;dsimp only [go_sem];dsimp only [go_sem,Nat.reduceAdd];have nan:∀{x:Tx} {K:Bool->Qx},K false w->Qy 239 #[.string (ay x)] w (ax [.b] K):=λ{x K} H=>by
  refine mj x w K ?_;dsimp only [go_sem];dsimp only [go_sem,Nat.reduceAdd];simpa using H
 refine nan (nan ⟨λh=>(by cases h),λ _=>⟨λh=>(by cases h),λ _=>⟨λh=>?_,λh=>⟨λG=>?_,λG=>?_⟩⟩⟩⟩)
 ·rw [Pd,Nj]at h;have:jX a b= -1:=NO h
  rwa [this]at hR
 ·rw [Pd,No]at h;have:a≠b:=λe=>by rw [e]at G;simp at G
  have:jX a b=1:=by unfold jX;rw [Nt h,Nt this]
  rwa [this]at hR
 ·rw [Pd,No]at h;rw [Pd,OD h]at G;have:a=b:=by simpa using G
  have:jX a b=0:=dE.2 this
  rwa [this]at hR
def KQ {g1 g2:Nat}{p q:Pq}{w:World}(h1:nL w g1 p)(H:nL w g2 q){R:Int->Qx}(hR:R (sK p q) w):Qy 127 #[.slice (some ⟨g1,0,none⟩) 2 2,.slice (some ⟨g2,0,none⟩) 2 2] w (ax [.i] R):=by
 refine ie _ _ w R ?_;dsimp only [go_sem];dsimp only [go_sem,Nat.reduceAdd];refine⟨_,2,2,rfl,λi w'=>w'=w/\(i=0\/(i=1/\p.1=q.1)\/(i=2/\p.1=q.1/\p.2=q.2)),λi _=>(2 - i).toNat,⟨rfl,.inl rfl⟩,λi w' J=>?_⟩;obtain⟨rfl,rfl | ⟨rfl,G⟩ | ⟨rfl,G,Z⟩⟩:=J
 ·refine⟨λ _=>⟨g1,0,2,2,rfl,by omega,by omega,p.1,h1.2.1,_,2,2,rfl,λh=>by simp at h,λ _=>⟨g2,0,2,2,rfl,by omega,by omega,q.1,H.2.1,Hl ⟨λh=>?_,λh=>⟨by omega,⟨rfl,.inr (.inl ⟨by omega,?_⟩)⟩,by simp⟩⟩⟩⟩,λh=>by simp at h⟩
  ·have h:jX p.1 q.1≠0:=by simpa using h
   have:sK p q=jX p.1 q.1:=Nt h
   rwa [this]at hR
  ·have h:jX p.1 q.1=0:=by simpa using h
   exact dE.1 h
 ·refine⟨λ _=>⟨g1,0,2,2,rfl,by omega,by omega,p.2,h1.2.2.1,_,2,2,rfl,λh=>by simp at h,λ _=>⟨g2,0,2,2,rfl,by omega,by omega,q.2,H.2.2.1,Hl ⟨λh=>?_,λh=>⟨by omega,⟨rfl,.inr (.inr ⟨by omega,G,?_⟩)⟩,by simp⟩⟩⟩⟩,λh=>by simp at h⟩
  ·have:sK p q=jX p.2 q.2:=NO (dE.2 G)
   rwa [this]at hR
  ·have h:jX p.2 q.2=0:=by simpa using h
   exact dE.1 h
 ·refine⟨λh=>by simp at h,λ _=>⟨_,2,2,rfl,_,2,2,rfl,λh=>by simp at h,λ _=>?_⟩⟩;have:sK p q=0:=by unfold sK;rw [NO (dE.2 G)];exact dE.2 Z
  rwa [this]at hR
def Ln {g1 g2:Nat}{p q:Pq}{w:World}(h1:nL w g1 p)(h2:nL w g2 q){R:Bool->Qx}(hR:∀w',Ex w w'->R (decide (p=q)) w'):Qy 130 #[.slice (some ⟨g1,0,none⟩) 2 2,.slice (some ⟨g2,0,none⟩) 2 2] w (ax [.b] R):=by
 refine jc _ _ w R ?_;dsimp only [go_sem];dsimp only [go_sem,Nat.reduceAdd];have no:∀{w':World},Ex w w'->p≠q->R false w':=λx h=>by
  have :=hR _ x
  rwa [OD h]at this
 refine⟨_,2,2,rfl,_,2,2,rfl,λh=>by simp at h,λ _=>⟨_,2,2,rfl,λi w'=>Ex w w'/\(i=0\/(i=1/\p.1=q.1)\/(i=2/\p.1=q.1/\p.2=q.2)),λi _=>(2 - i).toNat,⟨Ex.refl w,.inl rfl⟩,λi w' hI=>?_⟩⟩;have rx:∀{w':World},Ex w w'->nL w' g1 p/\nL w' g2 q:=λx=>⟨h1.kp (Kp.ah x λ _=>False) id,h2.kp (Kp.ah x λ _=>False) id⟩
 obtain⟨x,rfl | ⟨rfl,Z⟩ | ⟨rfl,Z,e2⟩⟩:=hI
 ·refine⟨λ _=>⟨λJ=>Ex w' J,λJ G=>⟨G▸Ex.drew w',g1,0,2,2,rfl,by omega,by omega,p.1,λw3 H=>(rx (Ex.trans x H)).1.2.1,g2,0,2,2,rfl,by omega,by omega,q.1,λw3 H=>(rx (Ex.trans x H)).2.2.1,λh=>no (Ex.trans x (G▸Ex.drew w')) λe=>?_,λh=>⟨by omega,⟨Ex.trans x (G▸Ex.drew w'),.inr (.inl ⟨by omega,by simpa using h⟩)⟩,by simp⟩⟩⟩,λh=>by simp at h⟩;rw [e]at h;simp at h
 ·refine⟨λ _=>⟨λJ=>Ex w' J,λJ G=>⟨G▸Ex.drew w',g1,0,2,2,rfl,by omega,by omega,p.2,λw3 H=>(rx (Ex.trans x H)).1.2.2.1,g2,0,2,2,rfl,by omega,by omega,q.2,λw3 H=>(rx (Ex.trans x H)).2.2.2.1,λh=>no (Ex.trans x (G▸Ex.drew w')) λe=>?_,λh=>⟨by omega,⟨Ex.trans x (G▸Ex.drew w'),.inr (.inr ⟨by omega,Z,by simpa using h⟩)⟩,by simp⟩⟩⟩,λh=>by simp at h⟩;rw [e]at h;simp at h
 ·refine⟨λh=>by simp at h,λ _=>?_⟩;have :=hR _ x
  rwa [OS (show p=q from Prod.ext Z e2)]at this
end
attribute [go_sem] Tryz.f15
def oB (G:Value)(b2:Value)(w:World)(R:Bool->Qx)(h:vc az (aZ [(4,[(5,.i)])] [] [(6,true,.lt 0 (.lt 1 (.lt 2 (.lt 3 (.lt 4 (.lt 5 (.lt 6 (.lt 7 (.lt 8 .done)))))))))]) (ab Tryz.f15) (ai 0 [.v G,.v b2]) w (fin az [.tmp 4 .b] R)):
  Qy 15 #[G,b2] w (ax [.b] R):=
 a7 Tryz.func15 (by kernel_rfl) h
attribute [go_sem] Tryz.f47
def pf (G:Int)(w:World)(R:aJ->Qx)(h:vc az (aZ [(4,[(0,.i),(3,.s)])] [] []) (ab Tryz.f47) (ai 0 [.i G]) w (fin az [.tmp 2 .s] R)):
  Qy 47 #[(.int .i64 G)] w (ax [.s] R):=
 a7 Tryz.func47 (by kernel_rfl) h
attribute [go_sem] Tryz.f16
def mw (G:Value)(H:Int)(w:World)(R:Int->Qx)(h:vc az (aZ [(2,[(1,.i),(5,.i)])] [] []) (ab Tryz.f16) (ai 0 [.v G,.i H]) w (fin az [.tmp 4 .i] R)):
  Qy 16 #[G,(.int .i64 H)] w (ax [.i] R):=
 a7 Tryz.func16 (by kernel_rfl) h
attribute [go_sem] Tryz.f17
def lX (G:Value)(H:Int)(w:World)(R:Int->Qx)(h:vc az (aZ [(2,[(1,.i),(5,.i)])] [] [(4,true,.lt 0 (.lt 1 (.lt 2 (.lt 3 (.lt 4 (.one .g 5 (.lt 6 .done)))))))]) (ab Tryz.f17) (ai 0 [.v G,.i H]) w (fin az [.tmp 4 .i] R)):
  Qy 17 #[G,(.int .i64 H)] w (ax [.i] R):=
 a7 Tryz.func17 (by kernel_rfl) h
section
open T Classical
def Lu {w:World}{v v':Value}{l l':List Tx}(h:Strs w v l)(h':Strs w v' l')(hl:l.length<=1000000000000){R:Bool->Qx}(hR:∀w',Ex w w'->R (decide (l=l')) w'):
  Qy 15 #[v,v'] w (ax [.b] R):=by
 refine oB v v' w R ?_;dsimp only [go_sem];dsimp only [go_sem,Nat.reduceAdd];obtain⟨a,c,hv⟩:=h.slice;obtain⟨a',c',β⟩:=h'.slice;refine⟨a,_,c,hv,a',_,c',β,λH=>?_,λhe=>?_⟩
 ·have H:l.length≠l'.length:=by
   have:¬((l.length:Int)=l'.length):=by simpa using H
   omega
  have :=hR w (Ex.refl w)
  rwa [OD λe=>H (by rw [e])]at this
 have he:l.length=l'.length:=by
  have:(l.length:Int)=l'.length:=by simpa using he
  omega
 refine⟨λi w'=>∃j:Nat,i=j/\j<=l.length/\Ex w w'/\l.take j=l'.take j,λi _=>(l.length - i).toNat,⟨0,rfl,N5 _,Ex.refl w,rfl⟩,λi w' hI=>?_⟩;obtain⟨j,rfl,hj,x,ht⟩:=hI;refine⟨a,_,c,hv,λγ=>?_,λδ=>?_⟩
 ·have Z:=oL γ;have G:j< l'.length:=by omega
  obtain⟨b1,o1,c1,e1,e2,e3⟩:=(h.ex x).at Z;obtain⟨b2,o2,c2,f1,f2,f3⟩:=(h'.ex x).at G;refine⟨λw2=>Ex w' w2,λw2 J=>⟨J▸Ex.drew w',b1,o1,_,c1,e1,by omega,by omega,l[j],λw3 x3=>?_,b2,o2,_,c2,f1,by omega,by omega,l'[j],λw3 x3=>?_,λhn=>?_,λhy=>?_⟩⟩
  ·rw [x3.cell (a:=⟨b1,_,none⟩) e2,NQ,Nf];exact e3
  ·rw [x3.cell (a:=⟨b2,_,none⟩) f2,NQ,Nf];exact f3
  ·have hn:l[j]≠l'[j]:=by simpa using hn
   have :=hR w2 (Ex.trans x (J▸Ex.drew w'))
   rwa [OD λe=>hn (by subst e;rfl)]at this
  ·have hy:l[j]=l'[j]:=by simpa using hy
   refine⟨by omega,⟨j+1,by omega,by omega,Ex.trans x (J▸Ex.drew w'),by rw [Ng Z,Ng G,ht,hy]⟩,tN (by omega)⟩
 ·have e:=oE δ (by omega);subst e;rw [NR,he,NR]at ht;have :=hR w' x
  rwa [OS ht]at this
def dg (k:Nat)(o:Tx):Tx:=if h:k=0 then o else dg (k / 10) (UInt8.ofNat (Int.toNat ((48+((k:Int) % 10)) % 256))::o)
termination_by k
decreasing_by omega
def mt (k:Nat):Tx:=if k=0 then [109,48]else 109::dg k []
def te {k:Nat}(hk:k<=1099511627776){w:World}{R:aJ->Qx}(hR:∀w',Ex w w'->R (mt k) w'):
  Qy 47 #[.int .i64 k] w (ax [.s] R):=by
 refine pf k w R ?_;dsimp only [go_sem];dsimp only [go_sem,Nat.reduceAdd];refine⟨λh=>?_,λh=>?_⟩
 ·have h:k=0:=by simp only [Nj]at h;omega
  have :=hR w (Ex.refl w);unfold mt at this
  rwa [NO h]at this
 have h:k≠0:=by simp only [No]at h;omega
 refine⟨λx o w'=>∃n:Nat,x=n/\Ex w w'/\dg n o=dg k []/\o.length+n<=k,λx _ _=>x.toNat,⟨k,rfl,Ex.refl w,rfl,by simp⟩,λx o w' Z=>?_⟩;obtain⟨n,rfl,x,hd,hl⟩:=Z;refine⟨λG=>?_,λG=>?_⟩
 ·have G:n≠0:=by simp only [Nj]at G;omega
  refine⟨⟨by omega,by omega⟩,by omega,λb w8 hb H=>?_⟩;refine⟨b,0,1,1,[UInt8.ofNat (Int.toNat ((48+((n:Int) % 10)) % 256))],rfl,rfl,λj x J=>?_,by simp only [Ox];omega,⟨by omega,by omega,by omega⟩,⟨n / 10,by omega,Ex.trans x (H▸Ex.alloc w' _),?_,by simp only [Nb,Ox];omega⟩,by show((n:Int) / 10).toNat< (n:Int).toNat;omega⟩
  ·cases j with
   | zero=>
    have J:UInt8.ofNat (Int.toNat ((48+((n:Int) % 10)) % 256))=x:=by simpa using J
    rw [H,hb,<-J];exact aa rfl
   | succ j=>simp at J
  ·rw [<-hd]
   conv=>rhs;rw [dg]
   rw [dif_neg G];rfl
 ·have G:n=0:=by simp only [No]at G;omega
  subst G;rw [dg,dif_pos rfl]at hd;refine⟨by simp only [Ox];omega,?_⟩;have :=hR w' x;unfold mt at this;rw [Nt h,<-hd]at this;exact this
def H2 {B:Nat}{w w':World}{g cap n j:Nat}{l:List Tx}{x:Tx}(h:Own B w (.slice (some ⟨g,0,none⟩) n cap) l)(hw:w'=w.setCell ⟨g,j,none⟩ (.string (ay x)))(H:j< l.length):Own B w' (.slice (some ⟨g,0,none⟩) n cap) (l.set j x):=by
 have h1:aE 9 B w (.slice (some ⟨g,0,none⟩) n cap) (l.map sv):=by unfold aE;rw [Nq];exact h
 have G:=h1.set hw (by rw [Nq];exact H);unfold aE at G;rw [OE,Nq]at G;unfold Own;rw [OE,Qc];exact G
abbrev LI:Nat:=22
def tz (w:World)(v:Value)(LL:List (List Tx)):Prop:=∃vs:List Value,vs.length=LL.length/\dG (λg=>g< w.heap.size) w v vs/\∀i (h:i< vs.length) (G:i< LL.length),Strs w vs[i] LL[i]
def jL (B:Nat)(w:World)(v:Value)(LL:List (List Tx)):Prop:=∃vs:List Value,vs.length=LL.length/\aE LI B w v vs/\(∀i j (hi:i< vs.length) (G:j< vs.length),i≠j->∀g,vs[i].ownBlock=some g->vs[j].ownBlock≠some g)/\
 (∀i (hi:i< vs.length) g,vs[i].ownBlock=some g->v.ownBlock≠some g)/\∀i (h:i< vs.length) (H:i< LL.length),Own B w vs[i] LL[i]
section
variable {B:Nat} {w w':World} {v:Value} {LL:List (List Tx)}
def tz.ex (h:tz w v LL)(x:Ex w w'):tz w' v LL:=by
 obtain⟨vs,h1,H,J⟩:=h;exact⟨vs,h1,Mx H x,λi hi G=>(J i hi G).ex x⟩
def jL.str (h:jL B w v LL):tz w v LL:=by
 obtain⟨vs,h1,H,_,_,J⟩:=h;exact⟨vs,h1,H.AS λg Z=>(H.block g Z).2,λi hi G=>(J i hi G).strs⟩
def jL.ex (h:jL B w v LL)(x:Ex w w'):jL B w' v LL:=by
 obtain⟨vs,h1,H,J,h4,h5⟩:=h;exact⟨vs,h1,H.kp (Kp.ah x λ _=>False) (λ _ _ h=>h),J,h4,λi hi G=>(h5 i hi G).ex x⟩
def jL.nil (B:Nat)(w:World):jL B w (.slice none 0 0) []:=⟨[],rfl,aE.nil _ _ _,λi j hi=>(by cases hi),λi hi=>(by cases hi),λi hi=>(by cases hi)⟩
def jL.mono {H:Nat}(h:jL B w v LL)(hb:H<=B):jL H w v LL:=by
 obtain⟨vs,h1,J,Z,h4,h5⟩:=h;exact⟨vs,h1,J.mono hb,Z,h4,λi hi G=>(h5 i hi G).mono hb⟩
def FT {v':Value}{G:List (List Tx)}(h:tz w v LL)(h':tz w v' G)(hl:LL.length<=1000000000)(ζ:∀l∈LL,l.length<=1000000000){R:Bool->Qx}(hR:∀w',Ex w w'->R (decide (LL=G)) w'):
  Qy 28 #[v,v'] w (ax [.b] R):=by
 refine ny v v' w R ?_;dsimp only [go_sem];dsimp only [go_sem,Nat.reduceAdd];obtain⟨vs,a1,a2,a3⟩:=h;obtain⟨H,b1,b2,b3⟩:=h';obtain⟨a,c,hv⟩:=a2.slice;obtain⟨a',c',η⟩:=b2.slice;refine⟨a,_,c,hv,a',_,c',η,λγ=>?_,λhe=>?_⟩
 ·have γ:vs.length≠H.length:=by
   have:¬((vs.length:Int)=H.length):=by simpa using γ
   omega
  have :=hR w (Ex.refl w)
  rwa [OD λe=>γ (by rw [a1,b1,e])]at this
 have he:vs.length=H.length:=by
  have:(vs.length:Int)=H.length:=by simpa using he
  omega
 refine⟨λi w'=>∃j:Nat,i=j/\j<=vs.length/\Ex w w'/\LL.take j=G.take j,λi _=>(vs.length - i).toNat,⟨0,rfl,N5 _,Ex.refl w,rfl⟩,λi w1 hI=>?_⟩;obtain⟨j,rfl,hj,x,ht⟩:=hI;refine⟨a,_,c,hv,λθ=>?_,λι=>?_⟩
 ·have ε:=oL θ;have δ:j< LL.length:=by omega
  have β:j< G.length:=by omega
  refine⟨λw2=>Ex w1 w2,λw2 κ=>?_⟩;have x2:Ex w1 w2:=κ▸Ex.drew w1;refine⟨x2,?_⟩;have get:∀{u:Value} {us:List Value},dG (λg=>g< w.heap.size) w u us->∀(J:j< us.length),∃b o len cap,u= .slice (some ⟨b,o,none⟩) len cap/\(0:Int)<=j/\(j:Int)< (len:Nat)/\∀{w3:World},Ex w1 w3->w3.cell? ⟨b,o+(j:Int).toNat* 1,none⟩=some us[j]:=λ{u us} hu J=>by
   rcases hu with⟨_,e⟩ | ⟨b,o,cap,e1,_,e2,e3⟩
   ·rw [e]at J;simp at J
   ·refine⟨b,o,_,cap,e1,by omega,by omega,λx3=>?_⟩;rw [(Ex.trans x x3).cell (a:=⟨b,_,none⟩) e2,Nf,NQ];exact e3 j _ (M6 J)
  obtain⟨g1,o1,n1,c1,e1,e2,e3,e4⟩:=get a2 ε;obtain⟨g2,o2,n2,c2,f1,f2,f3,f4⟩:=get b2 (by omega:j< H.length);refine⟨g1,o1,n1,c1,e1,e2,e3,_,λw3 x3=>e4 x3,g2,o2,n2,c2,f1,f2,f3,_,λw3 x3=>f4 x3,?_⟩;have Z:=Ex.trans x x2;refine Lu ((a3 j ε δ).ex Z) ((b3 j (by omega) β).ex Z) (by have :=ζ _ (NC δ);omega) λw4 x4=>⟨λhn=>?_,λhy=>?_⟩
  ·have hn:LL[j]≠G[j]:=by simpa using hn
   have :=hR w4 (Ex.trans Z x4)
   rwa [OD λe=>hn (by subst e;rfl)]at this
  ·have hy:LL[j]=G[j]:=by simpa using hy
   exact⟨by omega,⟨j+1,by omega,by omega,Ex.trans Z x4,by rw [Ng δ,Ng β,ht,hy]⟩,tN (by omega)⟩
 ·have e:=oE ι (by omega);subst e;rw [a1,NR,show LL.length=G.length by omega,NR]at ht;have :=hR w1 x
  rwa [OS ht]at this
end
def yQ (k n:Nat):List Tx:=(List.range n).map λi=>mt (k+i)
def lF (k n:Nat):(yQ k n).length=n:=by simp [yQ]
def GY (k n:Nat):yQ k (n+1)=yQ k n++[mt (k+n)]:=by simp [yQ,Qj]
def Ig {k:Nat}{l:List Tx}{i:Nat}(h:i< l.length):(yQ k i++l.drop i).set i (mt (k+i))=yQ k (i+1)++l.drop (i+1):=by
 rw [List.set_append_right _ _ (by rw [lF];exact Nc _),lF,Nat.sub_self,N4 h,List.set_cons_zero,GY,NX];rfl
def IC {B G:Nat}{w:World}{v:Value}{l:List Tx}(h:Own B w v l)(hl:G+l.length<=1000000000000){R:Int->Qx}(hR:∀w',Kp w w' (λg=>v.ownBlock=some g)->Own B w' v (yQ G l.length)->R (G+l.length:Nat) w'):
  Qy 16 #[v,.int .i64 G] w (ax [.i] R):=by
 refine mw v G w R ?_;dsimp only [go_sem];dsimp only [go_sem,Nat.reduceAdd];obtain⟨a,c,hv⟩:=h.strs.slice;refine⟨λk i w'=>∃j:Nat,i=j/\k=(G+j:Nat)/\j<=l.length/\Kp w w' (λg=>v.ownBlock=some g)/\Own B w' v (yQ G j++l.drop j),λ _ i _=>(l.length - i).toNat,⟨0,rfl,rfl,N5 _,Kp.ah (Ex.refl w) _,by simpa [yQ]using h⟩,λk i w' hI=>?_⟩;obtain⟨j,rfl,rfl,hj,kp,ho⟩:=hI;refine⟨a,_,c,hv,λβ=>?_,λγ=>?_⟩
 ·have δ:=oL β;refine te (k:=G+j) (by omega) λw2 x2=>?_
  have H:=ho.ex x2;have hlen:(yQ G j++l.drop j).length=l.length:=by rw [Nb,lF,OB];omega
  rcases H.2 with⟨_,hn⟩ | ⟨g,cap,cur,J,hb,hg,_⟩
  ·omega
  have ε:v.ownBlock=some g:=sC J;obtain⟨b1,o1,c1,e1,e2,e3⟩:=H.strs.at (i:=j) (by omega);have e:=J.symm.trans e1;simp only [PH,Ow,Qu]at e;obtain⟨⟨rfl,rfl,_⟩,_,_⟩:=e;have ej:0+(j:Int).toNat* 1=j:=by omega
  refine⟨g,0,_,_,J,by omega,by omega,?_⟩;dsimp only;rw [ej];rw [NJ]at e3;refine⟨⟨⟨_,e3⟩,?_⟩,λw3 Z=>⟨by omega,by omega,⟨j+1,by omega,by omega,by omega,?_,?_⟩,by omega⟩⟩
  ·unfold World.frozen?;simp only [hg];simp
  ·rw [Z];exact(kp.trans (Kp.ah x2 λg=>v.ownBlock=some g) λ _ _ h=>h).set ε _
  ·rw [J]at H|-;have :=H2 H Z (by omega)
   rwa [Ig δ]at this
 ·have e:=oE γ (by omega);subst e;rw [O8,NM]at ho;exact hR w' kp ho
def Io {w:World}{v:Value}{G n:Nat}(h:Strs w v (yQ G n))(hl:G+n<=1000000000000){R:Int->Qx}(hR:∀w',Ex w w'->R (G+n:Nat) w'):
  Qy 17 #[v,.int .i64 G] w (ax [.i] R):=by
 refine lX v G w R ?_;dsimp only [go_sem];dsimp only [go_sem,Nat.reduceAdd];obtain⟨a,c,hv⟩:=h.slice;rw [lF]at hv;refine⟨λk i w'=>∃j:Nat,i=j/\k=(G+j:Nat)/\j<=n/\Ex w w',λ _ i _=>(n - i).toNat,⟨0,rfl,rfl,N5 _,Ex.refl w⟩,λk i w' hI=>?_⟩;obtain⟨j,rfl,rfl,hj,x⟩:=hI;refine⟨a,_,c,hv,λZ=>?_,λβ=>?_⟩
 ·have γ:=oL Z;have δ:j< (yQ G n).length:=by rw [lF];exact γ
  obtain⟨b1,o1,c1,e1,e2,e3⟩:=(h.ex x).at δ;have em:(yQ G n)[j]=mt (G+j):=by simp [yQ]
  rw [em]at e3;refine⟨λw2=>Ex w' w2,λw2 H=>⟨H▸Ex.drew w',b1,o1,_,c1,e1,by omega,by rw [lF];omega,mt (G+j),λw3 J=>?_,?_⟩⟩
  ·rw [J.cell (a:=⟨b1,_,none⟩) e2,NQ,Nf];exact e3
  have x2:Ex w' w2:=H▸Ex.drew w';refine te (k:=G+j) (by omega) λw3 J=>⟨Ex.trans x2 J,λhn=>by simp at hn,λ _=>⟨by omega,by omega,⟨j+1,by omega,by omega,by omega,Ex.trans x (Ex.trans x2 J)⟩,tN (by omega)⟩⟩
 ·have e:=oE β (by omega);subst e;exact hR w' x
def jw (LL:List (List Tx)):Nat:=(LL.map List.length).sum
def mk2 (k:Nat):List (List Tx)->List (List Tx)
 | []=>[]
 | l::LL=>yQ k l.length::mk2 (k+l.length) LL
def nP:∀(k:Nat) (LL:List (List Tx)),(mk2 k LL).length=LL.length
 | _,[]=>rfl
 | k,l::LL=>by simp [mk2,nP]
def vC {LL:List (List Tx)}{i:Nat}(h:i< LL.length):jw (LL.take (i+1))=jw (LL.take i)+LL[i].length:=by
 unfold jw;rw [Ng h,N0,PA];rfl
def Ci (LL:List (List Tx))(i:Nat):jw (LL.take i)<=jw LL:=by
 conv=>rhs;rw [<-Oi i LL]
 unfold jw;rw [N0,PA];omega
def xc:∀(k:Nat) (LL:List (List Tx)) (i:Nat) (h:i< LL.length) (G:i< (mk2 k LL).length),(mk2 k LL)[i]=yQ (k+jw (LL.take i)) LL[i].length
 | k,l::LL,0,_,_=>by simp [mk2,jw]
 | k,l::LL,i+1,h,G=>by
  have :=xc (k+l.length) LL i (by simpa using h) (by rw [nP];simpa using h);simp only [mk2,List.getElem_cons_succ,this]
  congr 1
  simp only [PL,jw,NI,Ol];omega
def G5 {B:Nat}{w:World}{v:Value}{LL:List (List Tx)}(h:jL B w v LL)(hB:B<=w.heap.size)(hl:LL.length<=1000000000)(hs:jw LL<=100000000000){R:Int->Qx}
  (hR:∀w',Below B w w'->jL B w' v (mk2 1 LL)->R (1+jw LL:Nat) w'):Qy 29 #[v,.int .i64 1] w (ax [.i] R):=by
 refine kh v 1 w R ?_;dsimp only [go_sem];dsimp only [go_sem,Nat.reduceAdd];obtain⟨vs,h1,h2,h3,h4,h5⟩:=h;obtain⟨a,c,hv⟩:=(h2.AS (D:=λ _=>True) λ _ _=>trivial).slice;have β:=nP 1 LL;refine⟨λk i w'=>∃j:Nat,i=j/\k=(1+jw (LL.take j):Nat)/\j<=vs.length/\Below B w w'/\aE LI B w' v vs/\(∀i (h:i< vs.length) (h':i< LL.length),i< j->Own B w' vs[i] (yQ (1+jw (LL.take i)) LL[i].length))/\∀i (h:i< vs.length) (h':i< LL.length),j<=i->Own B w' vs[i] LL[i],
  λ _ i _=>(vs.length - i).toNat,⟨0,rfl,rfl,N5 _,Qk _ _,h2,λi _ _ h=>by omega,λi h h' _=>h5 i h h'⟩,λk i w1 hI=>?_⟩
 obtain⟨j,rfl,rfl,hj,bl,k2,k3,k4⟩:=hI;refine⟨a,_,c,hv,λγ=>?_,λδ=>?_⟩
 ·have G:=oL γ;have Z:j< LL.length:=by omega
  have ε:=vC Z;have η:=Ci LL (j+1);refine(k2.AS (D:=λ _=>True) λ _ _=>trivial).get (Int.natCast_nonneg j) (gE G) (Q:=λn=>_) ?_;have oj:=k4 j G Z (Nc _);refine IC oj (by omega) λw2 kp o2=>⟨by omega,⟨j+1,by omega,by rw [ε,O'],by omega,?_,k2.kp kp λg J e=>h4 j G g e J,λi hi H ζ=>?_,λi hi H ζ=>?_⟩,tN G⟩
  ·exact bl.trans (kp.below (by have :=bl.size;omega) λg J e=>by have :=(oj.block g e).1;omega)
  ·by_cases e:i=j
   ·subst e;exact o2
   ·exact(k3 i hi H (by omega)).kp kp λg J e'=>h3 i j hi G e g J e'
  ·exact(k4 i hi H (by omega)).kp kp λg J e'=>h3 i j hi G (by omega) g J e'
 ·have e:=oE δ hj;subst e;have et:LL.take vs.length=LL:=by rw [h1,NR]
  rw [et];refine hR w1 bl ⟨vs,by rw [β,h1],k2,h3,h4,λi hi H=>?_⟩;rw [xc 1 LL i (by omega)];exact k3 i hi (by omega) hi
def zS {w:World}{v:Value}{LL:List (List Tx)}(h:tz w v (mk2 1 LL))(hl:LL.length<=1000000000)(hs:jw LL<=100000000000){R:Int->Qx}(hR:∀w',Ex w w'->R (1+jw LL:Nat) w'):
  Qy 30 #[v,.int .i64 1] w (ax [.i] R):=by
 refine j6 v 1 w R ?_;dsimp only [go_sem];dsimp only [go_sem,Nat.reduceAdd];obtain⟨vs,h1,h2,h3⟩:=h;rw [nP]at h1;obtain⟨a,c,hv⟩:=h2.slice;refine⟨λk i w'=>∃j:Nat,i=j/\k=(1+jw (LL.take j):Nat)/\j<=vs.length/\Ex w w',λ _ i _=>(vs.length - i).toNat,⟨0,rfl,rfl,N5 _,Ex.refl _⟩,λk i w1 hI=>?_⟩;obtain⟨j,rfl,rfl,hj,x⟩:=hI;refine⟨a,_,c,hv,λJ=>?_,λZ=>?_⟩
 ·have G:=oL J;have H:j< LL.length:=by omega
  have β:=vC H;have γ:=Ci LL (j+1);refine(Mx h2 x).get (Int.natCast_nonneg j) (gE G) (Q:=λn=>_) ?_;have st:=(h3 j G (by rw [nP];exact H)).ex x;rw [xc 1 LL j H]at st;refine Io st (by omega) λw2 x2=>⟨λhn=>?_,λ _=>⟨by omega,⟨j+1,by omega,by rw [β,O'],by omega,Ex.trans x x2⟩,tN G⟩⟩
  simp only [Nj]at hn;omega
 ·have e:=oE Z hj;subst e;have et:LL.take vs.length=LL:=by rw [h1,NR]
  rw [et];exact hR w1 x
def LF (nS nI:Nat)(a:Array Value)(w:World)(R:Bool->Qx):Prop:=
 KI nS a w λv3 q4 w5=>KI nI a w5 λv6 q7 w8=>Hv 28 #[v6,v3] w8 λq9 G=>Iv (!q9) (dP (!(q7==q4)) (R false G) (Hu 29 #[v6,(.int .i64 1)] G λn11 β=>Hu 30 #[v6,(.int .i64 1)] β λn13 H=>dP (decide (n13< 0)) (R false H) (dP (!decide (n13=n11)) (R false H) (KI nI a H λγ δ ε=>Hv 28 #[γ,v3] ε λζ J=>Iv (!ζ) (dP (!(δ==q4)) (R false J) (Hu 30 #[v6,(.int .i64 1)] J λn20 Z=>dP (decide (n20< 0)) (R false Z) (dP (!decide (n20=n11)) (R false Z) (R true Z)))) (R false J))))) (R false G)
def IW {nS nI:Nat}{a:Array Value}{LL:List (List Tx)}{b:Bool}(hl:LL.length<=1000000000)(β:∀l∈LL,l.length<=1000000000)(hs:jw LL<=100000000000)(hS:∀{w:World} {R:Value->Bool->Qx},(∀v w',Ex w w'->tz w' v LL->R v b w')->Qy nS a w (ax [.v,.b] R))
  (hI:∀{w:World} {R:Value->Bool->Qx},(∀v w',Ex w w'->jL w.heap.size w' v LL->R v b w')->Qy nI a w (ax [.v,.b] R)) {w:World} {R:Bool->Qx} (hR:∀w',Ex w w'->R true w'):LF nS nI a w R:=by
 refine hS λv3 w5 x5 s3=>hI λv6 w8 x8 o6=>FT o6.str (s3.ex x8) hl β λκ H=>⟨λ _=>?_,λh=>by simp at h⟩
 have s8:=x8.size;have μ:=H.size;refine⟨λh=>by simp at h,λ _=>G5 (o6.ex H) (by omega) hl hs λε ζ γ=>zS γ.str hl hs λν J=>⟨λh=>?_,λ _=>⟨λh=>by simp at h,λ _=>hI λξ ο Z η=>?_⟩⟩⟩
 ·simp only [Nj]at h;omega
 have G:Ex w5 ε:=Ex.below (Ex.trans x8 H) ζ;have θ:=s3.ex (Ex.trans G (Ex.trans J Z));refine FT η.str θ hl β λς δ=>⟨λ _=>⟨λh=>by simp at h,λ _=>zS (γ.str.ex (Ex.trans J (Ex.trans Z δ))) hl hs λυ ι=>⟨λh=>?_,λ _=>⟨λh=>by simp at h,λ _=>?_⟩⟩⟩,λh=>by simp at h⟩
 ·simp only [Nj]at h;omega
 ·exact hR _ (Ex.trans x5 (Ex.trans G (Ex.trans J (Ex.trans Z (Ex.trans δ ι)))))
end
section
open T Classical Go.Shelf Go.Lib Go.Sort
def MX:Shelf.Ren where
 f:=λx=>if x=6 then 125 else if x=15 then 170 else if x=14 then 192 else if x=28 then 217 else if x=29 then 218 else if x=20 then 231 else if x=21 then 232 else if x=22 then 233 else if x=23 then 234 else if x=24 then 235 else if x=25 then 236 else if x=26 then 237 else if x=27 then 238 else if x=46 then 253 else if x=47 then 248 else if x=48 then 249 else if x=49 then 254 else if x=50 then 255 else if x=57 then 260 else x
 t:=λx=>if x=22 then 31 else if x=24 then 22 else if x=25 then 152 else if x=3 then 3 else if x=39 then 188 else if x=0 then 0 else if x=53 then 91 else if x=55 then 228 else if x=4 then 4 else if x=46 then 221 else if x=45 then 220 else if x=50 then 210 else if x=5 then 5 else if x=9 then 9 else if x=66 then 246 else if x=70 then 250 else if x=76 then 255 else if x=77 then 200 else x
 g:=λx=>x
def Fy:SlLaysF.n6 Tryz.prog MX where
 mixed:=Eq.refl true
 f6:=⟨Tryz.f125.name,by kernel_rfl,Oh Tryz.func125 (by kernel_rfl)⟩
 f14:=⟨Tryz.f192.name,by kernel_rfl,Oh Tryz.func192 (by kernel_rfl)⟩
 f15:=Oh Tryz.func170 (by kernel_rfl)
 f20:=⟨Tryz.f231.name,by kernel_rfl,Oh Tryz.func231 (by kernel_rfl)⟩
 f21:=⟨Tryz.f232.name,by kernel_rfl,Oh Tryz.func232 (by kernel_rfl)⟩
 f22:=⟨Tryz.f233.name,by kernel_rfl,Oh Tryz.func233 (by kernel_rfl)⟩
 f23:=⟨Tryz.f234.name,by kernel_rfl,Oh Tryz.func234 (by kernel_rfl)⟩
 f24:=⟨Tryz.f235.name,by kernel_rfl,Oh Tryz.func235 (by kernel_rfl)⟩
 f25:=⟨Tryz.f236.name,by kernel_rfl,Oh Tryz.func236 (by kernel_rfl)⟩
 f26:=⟨Tryz.f237.name,by kernel_rfl,Oh Tryz.func237 (by kernel_rfl)⟩
 f27:=⟨Tryz.f238.name,by kernel_rfl,Oh Tryz.func238 (by kernel_rfl)⟩
 f28:=Oh Tryz.func217 (by kernel_rfl)
 f29:=Oh Tryz.func218 (by kernel_rfl)
 f46:=⟨Tryz.f253.name,by kernel_rfl,Oh Tryz.func253 (by kernel_rfl)⟩
 f47:=Oh Tryz.func248 (by kernel_rfl)
 f48:=Oh Tryz.func249 (by kernel_rfl)
 f49:=⟨Tryz.f254.name,by kernel_rfl,Oh Tryz.func254 (by kernel_rfl)⟩
 f50:=⟨Tryz.f255.name,by kernel_rfl,Oh Tryz.func255 (by kernel_rfl)⟩
 f57:=⟨Tryz.f260.name,by kernel_rfl,Oh Tryz.func260 (by kernel_rfl)⟩
 t0:=Tryz.underlying0
 a0:=Tryz.isAgg0
 z0:=Tryz.sizeOf0
 v0:=Tryz.zeroValue0
 t3:=Tryz.underlying3
 a3:=Tryz.isAgg3
 z3:=Tryz.sizeOf3
 v3:=Tryz.zeroValue3
 t4:=Tryz.underlying4
 a4:=Tryz.isAgg4
 z4:=Tryz.sizeOf4
 v4:=Tryz.zeroValue4
 t5:=Tryz.underlying5
 a5:=Tryz.isAgg5
 z5:=Tryz.sizeOf5
 v5:=Tryz.zeroValue5
 t9:=Tryz.underlying9
 a9:=Tryz.isAgg9
 z9:=Tryz.sizeOf9
 v9:=Tryz.zeroValue9
 t22:=Tryz.underlying31
 a22:=Tryz.isAgg31
 z22:=Tryz.sizeOf31
 v22:=Tryz.zeroValue31
 a24:=Tryz.isAgg22
 z24:=Tryz.sizeOf22
 t25:=Tryz.underlying152
 a25:=Tryz.isAgg152
 z25:=Tryz.sizeOf152
 v25:=Tryz.zeroValue152
 t39:=Tryz.underlying188
 a39:=Tryz.isAgg188
 z39:=Tryz.sizeOf188
 v39:=Tryz.zeroValue188
 t45:=Tryz.underlying220
 a45:=Tryz.isAgg220
 z45:=Tryz.sizeOf220
 v45:=Tryz.zeroValue220
 t46:=Tryz.underlying221
 a46:=Tryz.isAgg221
 z46:=Tryz.sizeOf221
 v46:=Tryz.zeroValue221
 t50:=Tryz.underlying210
 a50:=Tryz.isAgg210
 z50:=Tryz.sizeOf210
 v50:=Tryz.zeroValue210
 t53:=Tryz.underlying91
 a53:=Tryz.isAgg91
 z53:=Tryz.sizeOf91
 v53:=Tryz.zeroValue91
 t55:=Tryz.underlying228
 a55:=Tryz.isAgg228
 z55:=Tryz.sizeOf228
 v55:=Tryz.zeroValue228
 t66:=Tryz.underlying246
 a66:=Tryz.isAgg246
 z66:=Tryz.sizeOf246
 v66:=Tryz.zeroValue246
 t70:=Tryz.underlying250
 a70:=Tryz.isAgg250
 z70:=Tryz.sizeOf250
 v70:=Tryz.zeroValue250
 t76:=Tryz.underlying255
 a76:=Tryz.isAgg255
 z76:=Tryz.sizeOf255
 v76:=Tryz.zeroValue255
 t77:=Tryz.underlying200
 a77:=Tryz.isAgg200
 z77:=Tryz.sizeOf200
 v77:=Tryz.zeroValue200
def Cn (p:Option Addr)(cap:Nat)(G:Value)(w:World):Qy 125 #[.slice p 0 cap,G] w λe w'=>e= .returned (.tuple #[])/\w'=w:=AnyF.slices_SortFunc_none {Fy with } p cap G w
def iU (g:Nat):Value:= .slice (some ⟨g,0,none⟩) 2 2
def EF (p:Pq):List Tx:=[p.1,p.2]
def Df:∀l:List Pq,jw (l.map EF)=2* l.length
 | []=>rfl
 | p::l=>by
  have :=Df l;unfold jw at*;simp only [NI,Ol,EF,M0,Np]at*;omega
section
variable {α:Type} [Inhabited α] {enc:α->Value} {w:World} {g n:Nat} {os:Array Obj}
def vU (d:Array α):w.grownBy (sortWorld enc w g 0 n d os) (some g):=by
 refine⟨rfl,rfl,rfl,by simp [sortWorld,putRow,mapBlock,Sort.ahead],λk hk G=>?_⟩;unfold sortWorld;rw [heap_grow_old _ _ (by simpa [putRow,mapBlock,Sort.ahead]using hk)];have:g≠k:=λe=>G (by rw [e])
 simp [putRow,mapBlock,Sort.ahead,OM,this]
def B8 {B e cap:Nat}{cur:Array Value}{ts:List α}(hb:B<=g)(H:w.heap[g]?=some (.cells cur e (0,0)))(h1:ts.length<=cap)(Z:cap<=maxLen)(h3:cur.size=cap* 1):
  aE e B (sortWorld enc w g 0 n ts.toArray os) (.slice (some ⟨g,0,none⟩) ts.length cap) (ts.map enc):=by
 have G:g< w.heap.size:=(NL.1 H).1;have e1:(sortWorld enc w g 0 n ts.toArray os).heap[g]?=some (.cells (putCells enc 0 ts.toArray cur) e (0,0)):=by
  unfold sortWorld;rw [heap_grow_old _ _ (by simpa [putRow,mapBlock,Sort.ahead]using G)];simp [putRow,mapBlock,Sort.ahead,OM,H,onCells]
 have e2:(putCells enc 0 ts.toArray cur).toList.take ts.length=ts.map enc:=by
  apply List.ext_getElem?;intro j;by_cases J:j< ts.length
  ·rw [Og J,Oe];simp [putCells,J,show j< cur.size by omega]
  ·rw [List.getElem?_take_eq_none (by omega),O1 (by simp;omega)]
 unfold aE;rw [Nq];exact⟨by simp,.inr ⟨g,cap,_,rfl,hb,e1,h1,Z,by simp [putCells,h3],by rw [NQ];exact e2⟩⟩
end
def AI {X:Type}{p:X->Prop}:∀l:List X,(∀x∈l,p x)->∃G:List {x // p x},G.map Subtype.val=l
 | [],_=>⟨[],rfl⟩
 | x::l,h=>by
  obtain⟨G,e⟩:=AI l λy H=>h y (Nh _ H)
  exact⟨⟨x,h x (NP ..)⟩::G,by rw [NI,e]⟩
def Mc {α:Type}(f:α->Pq):SWO (Go.Proofs.ltOf λx y=>sK (f x) (f y)) where
 irrefl x:=OD λh=>ra _ (fc.1 h)
 trans x y z h k:=OS (fc.2 (lQ (fc.1 (NB h)) (fc.1 (NB k))))
 ntrans x y z h k:=OD λG=>by
  have h:=λe=>Ny h (fc.2 e)
  have k:=λe=>Ny k (fc.2 e)
  have G:=fc.1 G;rcases xH (f x) (f y)with e | e | e
  ·exact h e
  ·rw [e]at G;exact k G
  ·exact k (lQ e G)
def H6 {B:Nat}{w:World}{v:Value}{gs:List Nat}{L:List Pq}(h:aE tL B w v (gs.map iU))(hlen:gs.length=L.length)(hr:∀x∈gs.zip L,nL w x.1 x.2/\v.ownBlock≠some x.1)(hl:L.length<=1000000000){R:Qx}
  (hR:∀w' (P:List (Nat×Pq)),Kp w w' (λg=>v.ownBlock=some g)->P.Perm (gs.zip L)->(P.map Prod.snd).Pairwise (λa b=>¬oI b a)->aE tL B w' v (P.map λx=>iU x.1)->R w'):
  Qy 125 #[v,.func (.func 126) #[] #[]] w (ax [] R):=by
 rcases h.2 with⟨rfl,hn⟩ | ⟨g,cap,cur,rfl,hb,hg,h1,h2,h3,h4⟩
 ·refine(Cn none 0 _ w).mono ?_
  rintro e w' ⟨rfl,rfl⟩
  have:gs=[]:=by rw [Nq]at hn;exact NF hn
  subst this;exact⟨rfl,hR _ [] (Kp.ah (Ex.refl _) _) (Of _) List.Pairwise.nil h⟩
 rw [Nq]at h1 h4|-;by_cases h0:gs=[]
 ·subst h0;refine(Cn _ _ _ w).mono ?_
  rintro e w' ⟨rfl,rfl⟩
  exact⟨rfl,hR _ [] (Kp.ah (Ex.refl _) _) (Of _) List.Pairwise.nil h⟩
 have η:(gs.zip L).length=gs.length:=by rw [List.length_zip];omega
 have β:∀x∈gs.zip L,nL w x.1 x.2/\x.1≠g:=λx hx=>⟨(hr x hx).1,λe=>(hr x hx).2 (by rw [e];rfl)⟩
 obtain⟨G,J⟩:=AI (p:=λx:Nat×Pq=>nL w x.1 x.2/\x.1≠g) (gs.zip L) β;have H:G.length=gs.length:=by rw [<-η,<-J,Nq]
 have κ:0< G.length:=by rw [H];exact Pn.2 h0
 haveI:Inhabited {x:Nat×Pq // nL w x.1 x.2/\x.1≠g}:=⟨G[0]⟩
 have γ:gs.map iU=G.map λx=>iU x.val.1:=by
  have:gs=(gs.zip L).map Prod.fst:=by rw [List.map_fst_zip (by omega)]
  conv=>lhs;rw [this,<-J]
  rw [Oq,Oq];rfl
 have hH:Holds (λx:{x:Nat×Pq // nL w x.1 x.2/\x.1≠g}=>iU x.val.1) w g 0 G.toArray:=λj hj=>by
  have δ:j< G.length:=by simpa using hj
  refine⟨?_,by simp [World.frozen?,hg]⟩;have e:=N9 (λl=>l[j]?) h4;simp only [NQ]at e;rw [Og (by omega),γ,OX,M6 δ,OP,Oe]at e;unfold World.cell?;simp only [hg,NJ];rw [show(G.toArray)[j]! =G[j] by simp [δ]];exact e
 have ε:CmpLays1 Tryz.prog 126 #[] (λx:{x:Nat×Pq // nL w x.1 x.2/\x.1≠g}=>iU x.val.1) (λx y=>sK x.val.2 y.val.2) g 0 G.toArray.size w:=λm os dk _ x y=>by
  have kW:Kp w (sortWorld (λx:{x:Nat×Pq // nL w x.1 x.2/\x.1≠g}=>iU x.val.1) w g 0 m dk os) λb=>b=g:=Kp.aG (vU dk) λb e=>(NY e).symm
  generalize sortWorld (λx:{x:Nat×Pq // nL w x.1 x.2/\x.1≠g}=>iU x.val.1) w g 0 m dk os=W at kW|-;have key:Qy 126 #[iU x.val.1,iU y.val.1] W (ax [.i] λn w'=>n=sK x.val.2 y.val.2/\w'=W):=by
   refine kU _ _ W _ ?_;dsimp only [go_sem];dsimp only [go_sem,Nat.reduceAdd];exact KQ (x.property.1.kp kW x.property.2) (y.property.1.kp kW y.property.2) ⟨rfl,rfl⟩
  refine Calls.mono key ?_
  rintro e w' ⟨n,he,rfl,rfl⟩
  exact⟨he,0,#[],by simp [grow,World.drewN]⟩
 have key:=Any.slices_SortFunc Fy (λx:{x:Nat×Pq // nL w x.1 x.2/\x.1≠g}=>iU x.val.1) (λ _=>rfl) (λx y=>sK x.val.2 y.val.2) (Mc λx:{x:Nat×Pq // nL w x.1 x.2/\x.1≠g}=>x.val.2) 126 #[] g 0 cap G.toArray w (enters_of Tryz.func126 (by kernel_rfl) rfl) ε hH (NL.1 hg).1 (by simp;omega);rw [show G.toArray.size=gs.length by simpa using H]at key;refine Calls.mono key ?_
 rintro e w' ⟨rfl,d',n,os,⟨hs,_,hp⟩,ζ,rfl⟩
 obtain⟨D⟩:=d';have hD:D.length=gs.length:=by simpa [H]using hs
 have Z:D.Perm G:=by
  have e1:(Array.extract ⟨D⟩ 0 gs.length).toList=D:=by simp [<-hD]
  have e2:(G.toArray.extract 0 gs.length).toList=G:=by simp [<-H]
  rwa [e1,e2]at hp
 refine⟨rfl,hR _ (D.map Subtype.val) (Kp.aG (vU _) λb e=>e) (J▸Z.map _) ?_ ?_⟩
 ·rw [Oq,List.pairwise_map,List.pairwise_iff_getElem];intro i j hi hj θ ι;have :=ζ i j (N5 _) θ (by omega);rw [show(⟨D⟩:Array _)[i]! =D[i] by simp [hi],show(⟨D⟩:Array _)[j]! =D[j] by simp [hj]]at this;exact Ny this (fc.2 ι)
 ·rw [Oq];have :=B8 (enc:=λx:{x:Nat×Pq // nL w x.1 x.2/\x.1≠g}=>iU x.val.1) (n:=n) (os:=os) (ts:=D) hb hg (by omega) h2 h3;rw [show D.length=(gs.map iU).length by rw [Nq,hD]]at this;exact this
end
section
open T Classical
def Own.up {B g:Nat}{w:World}{l:List Tx}(h:Own 0 w (iU g) l)(hB:B<=g):Own B w (iU g) l:=by
 refine⟨h.1,?_⟩;rcases h.2 with⟨e,_⟩ | ⟨G,cap,cur,e,_,rest⟩
 ·cases e
 ·refine .inr ⟨G,cap,cur,e,?_,rest⟩;have:g=G:=by unfold iU at e;simp only [PH,Ow,Qu]at e;exact e.1.1
  omega
def Ib {B s:Nat}{w:World}{L:List Pq}{W:List Tx}{M:Nat->Prop}(h:C6 false B w s L W M)(hl:L.length<=1000000){R:Value->Bool->Qx}(ζ:W≠[]->R (.slice none 0 0) false w)
  (η:W=[]->∀v' w',Kp w w' M->jL B w' v' ((gJ L).map EF)->R v' true w'):Qy 68 #[ptr s] w (ax [.v,.b] R):=by
 refine nA (ptr s) w R ?_;dsimp only [go_sem];dsimp only [go_sem,Nat.reduceAdd];refine me (ptr s) w _ ?_;dsimp only [go_sem];dsimp only [go_sem,Nat.reduceAdd];obtain⟨vl,vw,rs,h1,h2,h3,h4,h5,h6,h7,h8,h9⟩:=h.ex;obtain⟨aw,cw,θ⟩:=h5.strs.slice;have ι:=h.lt;refine⟨s,0,rfl,false,h.c2,λ _=>⟨s,0,rfl,vw,h2,aw,_,cw,θ,λhb=>ζ λe=>?_,λhb=>⟨s,0,rfl,vl,h1,?_⟩⟩,λh=>(by cases h)⟩
 ·rw [e]at hb;simp at hb
 have hW:W=[]:=by
  have:¬0< W.length:=by simpa using hb
  exact NF (by omega)
 obtain⟨gs,κ,μ,ν⟩:∃gs:List Nat,gs.length=L.length/\rs=gs.map iU/\∀i (h:i< gs.length) (h':i< L.length),M gs[i]/\gs[i]≠s/\vl.ownBlock≠some gs[i]/\nL w gs[i] L[i]:=by
  have:∀i,∃g,i< L.length->rs[i]?=some (iU g)/\M g/\g≠s/\vl.ownBlock≠some g/\∀h:i< L.length,nL w g L[i]:=λi=>by
   by_cases hi:i< L.length
   ·obtain⟨g,k1,k2,k3,k4,_,k6⟩:=h8 i hi;exact⟨g,λ _=>⟨k1,k2,k3,k4,λ _=>k6⟩⟩
   ·exact⟨0,λh=>absurd h hi⟩
  obtain⟨f,hf⟩:=Classical.skolem.1 this;refine⟨(List.range L.length).map f,by simp,List.ext_getElem? λi=>?_,λi hi G=>?_⟩
  ·by_cases hi:i< L.length
   ·rw [(hf i hi).1];simp [hi]
   ·rw [O1 (by omega),O1 (by simp;omega)]
  ·have hh:=hf i G;simp only [Ov,List.getElem_range];exact⟨hh.2.1,hh.2.2.1,hh.2.2.2.1,hh.2.2.2.2 G⟩
 subst μ;have hz:∀x∈gs.zip L,M x.1/\x.1≠s/\vl.ownBlock≠some x.1/\nL w x.1 x.2:=λx H=>by
  obtain⟨i,hi,rfl⟩:=List.getElem_of_mem H;rw [List.length_zip]at hi;rw [List.getElem_zip];exact ν i (by omega) (by omega)
 have ξ:(gs.zip L).map Prod.snd=L:=List.map_snd_zip (by omega);have ο:(gs.zip L).map Prod.fst=gs:=List.map_fst_zip (by omega);refine H6 h4 κ (λx H=>⟨(hz x H).2.2.2,(hz x H).2.2.1⟩) (by omega) λw1 P k1 hp ς o1=>?_
 have γ:∀x∈P,M x.1/\x.1≠s/\vl.ownBlock≠some x.1/\nL w x.1 x.2:=λx H=>hz x (hp.mem_iff.1 H)
 have es:=k1.block s ι λe=>(h6 s e).2.1 rfl
 refine⟨s,0,rfl,vl,by rw [M5 (w:=w) es];exact h1,?_⟩;have ε:(P.map λx=>((iU x.1,x.2):VP)).map Prod.fst=P.map λx=>iU x.1:=by rw [Oq];rfl
 have υ:(P.map λx=>((iU x.1,x.2):VP)).map Prod.snd=P.map Prod.snd:=by rw [Oq];rfl
 have hPl:P.length=L.length:=by rw [hp.length_eq,List.length_zip];omega
 refine AW (ca:=[]) (l:=P.map λx=>((iU x.1,x.2):VP)) (by rw [ε];exact o1) (λx H=>?_) (by rw [Nq];omega) (by kernel_rfl) (λx H y hy w' Q kp hQ=>?_) λv2 w2 k2 o2 φ=>?_
 ·obtain⟨z,_,rfl⟩:=NT.1 H;rfl
 ·obtain⟨zx,χ,rfl⟩:=NT.1 H;obtain⟨zy,ψ,rfl⟩:=NT.1 hy;have a:=γ zx χ;have b:=γ zy ψ;refine j4 _ _ w' Q ?_;dsimp only [go_sem];dsimp only [go_sem,Nat.reduceAdd];exact Ln ((a.2.2.2.kp k1 a.2.2.1).kp kp a.2.2.1) ((b.2.2.2.kp k1 b.2.2.1).kp kp b.2.2.1) hQ
 have kk:Kp w w2 λg=>vl.ownBlock=some g:=Kp.trans k1 k2 λ _ _ h=>h
 have Z:=HI (P.map λx=>((iU x.1,x.2):VP));have β:=HE (P.map λx=>((iU x.1,x.2):VP));rw [υ,Lx ς λx=>(hp.map Prod.snd).mem_iff.trans (by rw [ξ])]at β;have δ:((yN (P.map λx=>((iU x.1,x.2):VP))).map Prod.fst).Nodup:=by
  have J:=(Z.map Prod.fst)
  rw [ε]at J;refine List.Nodup.sublist J ?_;have e2:P.map (λx=>iU x.1)=(P.map Prod.fst).map iU:=by rw [Oq];rfl
  rw [e2];have e3:((P.map Prod.fst).map iU).Perm (gs.map iU):=by
   have :=(hp.map Prod.fst).map iU
   rwa [ο]at this
  exact e3.nodup_iff.2 h9
 generalize yN (P.map λx=>((iU x.1,x.2):VP))=D at o2 Z β δ;have hD:∀x∈D,∃g,x.1=iU g/\M g/\g≠s/\vl.ownBlock≠some g/\nL w2 g x.2:=λx H=>by
  obtain⟨z,ω,rfl⟩:=NT.1 (Z.subset H);have a:=γ z ω;exact⟨z.1,rfl,a.1,a.2.1,a.2.2.1,a.2.2.2.kp kk a.2.2.1⟩
 refine η hW v2 w2 (Kp.mono (λg hg=>(h6 g hg).1) kk) ⟨D.map Prod.fst,by rw [<-β];simp,o2,λi j hi hj hij g J e2=>?_,λi hi g J e2=>?_,λi hi G=>?_⟩
 ·have G:i< D.length:=by simpa using hi
  have hj':j< D.length:=by simpa using hj
  rw [Ov]at J e2;obtain⟨g1,a1,_⟩:=hD _ (NC G);obtain⟨g2,a2,_⟩:=hD _ (NC hj');rw [a1]at J;rw [a2]at e2;have:g1=g2:=NY (J.trans e2.symm);have e:(D.map Prod.fst)[i]=(D.map Prod.fst)[j]:=by rw [Ov,Ov,a1,a2,this]
  rcases Nat.lt_or_gt_of_ne hij with h | h
  ·exact List.pairwise_iff_getElem.1 δ i j hi hj h e
  ·exact List.pairwise_iff_getElem.1 δ j i hj hi h e.symm
 ·have G:i< D.length:=by simpa using hi
  rw [Ov]at J;obtain⟨g1,a1,_,_,a3,_⟩:=hD _ (NC G);rw [a1]at J;have:g1=g:=NY J;exact a3 (this▸φ g e2)
 ·have hiD:i< D.length:=by simpa using hi
  obtain⟨g1,a1,am,_,_,a4⟩:=hD _ (NC hiD);have J:((gJ L).map EF)[i]=EF D[i].2:=by
   simp only [<-β,Ov]
  rw [J,Ov,a1];exact Own.up a4.2.2.2 (h.mr g1 am).1
section
variable {t:P} {u:U}
end
def qG (u:U):List (Off Nat):=u.ths.flatMap offs
def Mg (t:U):1<=t.size:=by cases t<;>simp only [T.size]<;>omega
def ij:∀t:U,3* (offs t).length<=t.size+1
 | .nil=>by simp [offs]
 | .tau p=>by have :=Mg p;simp only [offs,Ox,T.size];omega
 | .snd _ _ p=>by have :=Mg p;simp only [offs,Ox,T.size];omega
 | .rcv _ _ p=>by have :=Mg p;simp only [offs,Ox,T.size];omega
 | .sum p q=>by have :=ij p;have :=ij q;simp only [offs,Nb,T.size];omega
 | .rep p=>by have :=ij p;simp only [offs,Nq,T.size];omega
 | .par p q=>by simp [offs]
 | .res _ p=>by simp [offs]
 | .mat _ _ p=>by simp [offs]
def A1:∀u:U,3* (qG u).length<=u.size+1
 | .nil=>by simp [qG,T.ths]
 | .par p q=>by
  have h1:=ij p;have G:=A1 q;unfold qG at*;simp only [T.ths,Ob,Nb,T.size];omega
 | .res _ p=>by
  have G:=A1 p;unfold qG at*;simp only [T.ths,T.size];omega
 | .tau p=>by have :=ij (.tau p);simpa [qG,T.ths]using this
 | .snd a b p=>by have :=ij (.snd a b p);simpa [qG,T.ths]using this
 | .rcv a b p=>by have :=ij (.rcv a b p);simpa [qG,T.ths]using this
 | .sum p q=>by have :=ij (.sum p q);simpa [qG,T.ths]using this
 | .rep p=>by have :=ij (.rep p);simpa [qG,T.ths]using this
 | .mat a b p=>by have :=ij (.mat a b p);simpa [qG,T.ths]using this
def GM {X:Type}(l:List U)(f:U->List X):(List.range l.length).flatMap (λi=>f (l.getD i .nil))=l.flatMap f:=by
 rw [List.flatMap_def,List.flatMap_def]
 congr 1
 apply Ps
 ·simp
 ·intro i h1 G;have hi:i< l.length:=by simpa using G
  simp only [Ov,List.getElem_range,cz hi]
def Gt {X:Type}{f g:X->Nat}:∀{l:List X},(∀x∈l,f x<=g x)->(l.map f).sum<=(l.map g).sum
 | [],_=>Nc _
 | x::l,h=>by
  have :=h x (NP ..);have :=Gt (f:=f) (g:=g) (l:=l) λy G=>h y (Nh _ G)
  simp only [NI,Ol];omega
def wA {E:Nat->Off Nat->List Ev}{u:U}(G:∀i x,(E i x).length<=1)(H:u.size<=60):(EE E u).length<=100:=by
 have J:=A1 u;have h1:(EE E u).length<=(qG u).length:=by
  have e:(qG u).length=((List.range u.ths.length).flatMap λi=>offs (u.ths.getD i .nil)).length:=by rw [GM];rfl
  rw [e];unfold EE;rw [List.length_flatMap,List.length_flatMap];exact Gt λi _=>kO (G i) _
 omega
def cnt (f:Off Nat->Nat)(l:List (Off Nat)):Nat:=(l.map f).sum
noncomputable def rV (L:List Ev):Option (List Pq):=if L.all (λe=>e.2.isSome)then some (gJ (eL L))else none
def G0 {L:List Ev}:eW L=[]↔L.all (λe=>e.2.isSome)=true:=by
 unfold eW;rw [PM,List.filter_eq_nil_iff,OV];exact⟨λh e he=>by have :=h e he;cases G:e.2<;>simp_all,λh e he=>by have :=h e he;cases G:e.2<;>simp_all⟩
def DB {L:List Ev}(h:eW L=[]):rV L=some (gJ (eL L)):=NO (G0.1 h)
def Dz {L:List Ev}(h:eW L≠[]):rV L=none:=Nt λe=>h (G0.2 e)
def JG (e:Ev):wt [] e=true:=by simp [wt]
def EZ {L:List Ev}{acc:List Pq}(h:L.filter (wt [])=acc.map sm):rV L=some (gJ acc):=by
 rw [Po.2 λe _=>JG e]at h;subst h;have e:eL (acc.map sm)=acc:=by
  unfold eL;rw [Oq];exact List.map_id' acc
 unfold rV;rw [e,NO (OV.2 λe he=>by obtain⟨x,_,rfl⟩:=NT.1 he;rfl)]
def EJ {L:List Ev}(h:∃e∈L,wt [] e=true/\e.2=none):rV L=none:=by
 obtain⟨e,h1,_,G⟩:=h;refine Nt λha=>?_
 have :=OV.1 ha e h1;rw [G]at this;cases this
def Ha {L:List Ev}{m:List Pq}(h:rV L=some m):m.length<=L.length:=by
 unfold rV at h;split at h
 ·cases h;have :=tP (eL L);simpa [eL]using this
 ·cases h
def H5:Tx->Bool
 | [c]=>lt c
 | _=>false
noncomputable def DI (s:Tx)(c:UInt8):Option (List Pq):=if h:St s then rV (EE (jD (num h.choose e0 0).1 c) (num h.choose e0 0).1)else none
def ye {t:P}(ok:qu t)(c:UInt8):DI t.text c=rV (EE (jD (num t e0 0).1 c) (num t e0 0).1):=by
 have h:St t.text:=⟨t,ok,rfl⟩
 unfold DI;rw [dif_pos h,(h.choose_spec.1).uniq ok h.choose_spec.2]
noncomputable def lW (p n:Tx):Option (List Pq):=if H5 n=true then(fB p).bind λs=>DI s (n.headD 0)else none
def Hc (p n:Tx):((lW p n).getD []).length<=100:=by
 cases h:lW p n with
 | none=>simp
 | some m=>
  show m.length<=_;unfold lW at h;split at h
  ·cases e:fB p with
   | none=>rw [e]at h;cases h
   | some s=>
    rw [e]at h;obtain⟨t,ok,rfl⟩:=vL e;have h:DI t.text (n.headD 0)=some m:=h;rw [ye ok]at h;have G:(num t e0 0).1.size<=60:=by have :=(jZ ok.su.ae).2.2;have :=ok.size;omega
    have h1:=Ha h;have H:=wA (lV (num t e0 0).1 (n.headD 0)) G;omega
  ·cases h
def D4 {B0:Nat}{w:World}{v:Value}{l:List Pq}(h:bY B0 w v l)(hl:l.length<=1000000000){R:Value->Qx}(hR:∀v' w',Ex w w'->tz w' v' (l.map EF)->R v' w'):
  Qy 119 #[v] w (ax [.v] R):=by
 refine qT v w R ?_;dsimp only [go_sem];dsimp only [go_sem,Nat.reduceAdd];obtain⟨a,cap,hv⟩:=h.slice;refine⟨a,_,cap,hv,λt i w'=>∃(k:Nat) (gs:List Nat),i=k/\k<=l.length/\gs.length=k/\Ex w w'/\aE LI w.heap.size w' t (gs.map iU)/\∀j (h:j< gs.length) (h':j< l.length),nL w' gs[j] l[j]/\t.ownBlock≠some gs[j],λ _ i _=>(l.length - i).toNat,⟨0,[],rfl,N5 _,rfl,Ex.refl _,aE.nil _ _ _,λj hj=>(by cases hj)⟩,λt i w1 hI=>?_⟩;obtain⟨k,gs,rfl,hk,Z,x1,o1,hr⟩:=hI;have s1:=x1.size;refine⟨λε=>?_,λζ=>?_⟩
 ·have β:=oL ε;obtain⟨g,γ,η,hg,c1,c2⟩:=(h.ex x1).get β;refine⟨g,0,_,γ,η,by omega,by omega,l[k].1,l[k].2,⟨by rw [Nf,NJ];exact c1,by rw [Nf,NJ];exact c2,trivial⟩,λb w2 hb θ=>?_⟩;obtain⟨ι,κ⟩:=Bu (cs:=[.string (ay l[k].1),.string (ay l[k].2)]) rfl rfl hb θ;refine⟨⟨rfl,rfl,ι⟩,λw3 μ=>?_⟩;obtain⟨x3,ς,c3⟩:=κ w3 μ;refine⟨l[k].1,by rw [c3 0 (by omega)];rfl,l[k].2,by rw [c3 1 (by omega)];rfl,λb4 w4 H G=>⟨rfl,λb5 w5 ν δ=>?_⟩⟩;have x4:Ex w3 w4:=G▸Ex.alloc _ _;have x5:Ex w4 w5:=δ▸Ex.alloc _ _;have s3:=x3.size;have s4:w4.heap.size=w3.heap.size+1:=by rw [G,size_alloc]
  have s5:=x5.size;have r4:nL w4 b4 (l[k].1,l[k].2):=⟨by omega,by rw [G,H];exact aa rfl,by rw [G,H];exact aa rfl,Dc H G⟩
  have J:=Ex.trans x3 (Ex.trans x4 x5);have o5:aE LI w.heap.size w5 t (gs.map iU):=o1.kp (Kp.ah J λ _=>False) λ _ _ h=>h
  refine⟨w.heap.size,(gs.map iU).length,1,gs.map iU,[iU b4],o5,by omega,⟨rfl,rfl,.inr ⟨b5,0,1,rfl,λj u hu=>?_⟩⟩,⟨by rw [Nq];unfold maxLen;omega,by rw [Nq];omega⟩,λv6 w6 o6 g6 n6=>?_⟩
  ·match j,hu with
   | 0,hu=>cases hu;rw [δ,ν];exact aa rfl
  have o6:aE LI w.heap.size w6 v6 ((gs++[b4]).map iU):=by
   unfold aE;rw [N0,Nb];exact o6
  have k6:Kp w5 w6 λg=>t.ownBlock=some g:=Kp.aG g6 λ _ h=>h
  have tb:=o1.block;have ne:∀g,g< w5.heap.size->t.ownBlock≠some g->v6.ownBlock≠some g:=λg hg hn e=>(n6 g e).elim hn λe=>by omega
  refine⟨by omega,⟨k+1,gs++[b4],by omega,by omega,by simp [Z],Ex.below (Ex.trans x1 J) (Kp.below k6 (by omega) λg hg e=>by have :=(tb g e).1;omega),o6,λj hj ξ=>?_⟩,tN β⟩;by_cases e:j< gs.length
  ·rw [List.getElem_append_left e];obtain⟨q1,q2⟩:=hr j e ξ;have q3:=q1.kp (Kp.ah J λ _=>False) id;exact⟨q3.kp k6 q2,ne _ q3.1 q2⟩
  ·have e:j=k:=by rw [Nb,Ox]at hj;omega
   subst e;have eg:(gs++[b4])[j]'hj=b4:=by rw [List.getElem_append_right (by omega)];simp
   rw [eg];have hn:t.ownBlock≠some b4:=λe=>by have :=(tb _ e).2;omega
   have q3:=r4.kp (Kp.ah x5 λ _=>False) id;exact⟨q3.kp k6 hn,ne _ q3.1 hn⟩
 ·have e:=oE ζ hk;subst e;refine hR t w1 x1 ⟨gs.map iU,by simp [Z],o1.AS λg hg=>(o1.block g hg).2,λi hi υ=>?_⟩;have ο:i< gs.length:=by simpa using hi
  rw [Ov,Ov];exact(hr i ο (by omega)).1.2.2.2.strs
def FG {G:Nat}{w:World}{v:Value}{l:List Pq}(h:bY G w v l)(H:l.length<=1000000000){R:Value->Bool->Qx}(hR:∀v' w',Ex w w'->tz w' v' ((gJ l).map EF)->R v' true w'):
  Qy 65 #[v,.bool true] w (ax [.v,.b] R):=by
 refine ka v true w R ?_;dsimp only [go_sem];dsimp only [go_sem,Nat.reduceAdd];refine⟨λh=>(by cases h),λ _=>BR h H λv2 w2 J Z=>D4 Z (by have :=tP l;omega) λv3 w3 x3 o3=>hR v3 w3 (Ex.trans J x3) o3⟩
def Ga {w:World}{v:Value}{R:Value->Bool->Qx}(hR:R (.slice none 0 0) false w):Qy 65 #[v,.bool false] w (ax [.v,.b] R):=by
 refine ka v false w R ?_;dsimp only [go_sem];dsimp only [go_sem,Nat.reduceAdd];exact⟨λ _=>hR,λh=>(by cases h)⟩
def HK {L:List Ev}{acc:List Pq}(h:L.filter (wt [])=acc.map sm):acc.length<=L.length:=by
 have :=N9 List.length h;rw [Nq]at this;have :=Pe (wt []) L;omega
def Fa {p n:Tx}{w:World}{R:Value->Bool->Qx}(G:lW p n=none->∀w',Ex w w'->R (.slice none 0 0) false w')(J:∀L,lW p n=some L->∀v w',Ex w w'->tz w' v (L.map EF)->R v true w'):
  Qy 26 #[.string (ay p),.string (ay n)] w (ax [.v,.b] R):=by
 refine ns p n w R ?_;dsimp only [go_sem];dsimp only [go_sem,UInt8.reduceOfNat,Nat.reduceAdd];refine Er λw1 H=>⟨λs e=>⟨λ _=>HW ⟨λhb=>G ?_ _ H,λhb=>?_⟩,λh=>(by cases h)⟩,λe=>⟨λh=>(by cases h),λ _=>G ?_ _ H⟩⟩
 ·refine Nt λh=>?_
  match n,hb,h with
  | [c],hb,h=>
   have h:lt c=true:=h;have hb:lt c=false:=by simpa using hb
   rw [h]at hb;cases hb
 ·match n,hb with
  | [c],hb=>
   have hc:lt c=true:=by simpa using hb
   have Z:lW p [c]=DI s c:=by unfold lW;rw [NO (show H5 [c]=true from hc),e];rfl
   obtain⟨t,ok,rfl⟩:=vL e;rw [ye ok]at Z;have β:(num t e0 0).1.size<=60:=by have :=(jZ ok.su.ae).2.2;have :=ok.size;omega
   refine⟨by simp,BN (n:=c) (ov:=0) ok (.inl hc) (want:=[]) rfl (λh w2 x2=>Ga (G (Z.trans (EJ h)) _ (Ex.trans H x2))) λacc ha v2 w2 x2 o2=>?_⟩;have h1:=HK ha;have h2:=wA (lV (num t e0 0).1 c) β;exact FG o2 (by omega) λv3 w3 x3 o3=>J _ (Z.trans (EZ ha)) _ _ (Ex.trans H (Ex.trans x2 x3)) o3
  | [],hb=>simp at hb
  | _::_::_,hb=>simp at hb
 ·unfold lW;rw [e];split<;>rfl
def Kb {b s n0 c:Nat}{w0 w:World}{E:List Ev}{M:Nat->Prop}(h:tZ false b s n0 c w0 w E M)(hl:E.length<=1000000){R:Value->Bool->Qx}(G:rV E=none->R (.slice none 0 0) false w)
  (H:∀L,rV E=some L->∀v w',Kp w w' M->jL w0.heap.size w' v (L.map EF)->R v true w'):Qy 68 #[ptr s] w (ax [.v,.b] R):=by
 have Z:(eL E).length=E.length:=by unfold eL;simp
 exact Ib h.rs (by omega) (λJ=>G (Dz J)) λJ v w' k o=>H _ (DB J) v w' k o
def Ip {w w1:World}{b J n0:Nat}(hb:b< w.heap.size)(hm:Mk w b n0)(H:J=w.heap.size)(G:w1=w.alloc (.cells #[.slice none 0 0,.slice none 0 0,.bool false] 79)):tZ false b J n0 0 w w1 [] (λg=>g=J):=by
 have x1:Ex w w1:=G▸Ex.alloc _ _;have s1:w1.heap.size=w.heap.size+1:=by rw [G,size_alloc]
 exact⟨Km.ex x1 hb,⟨by omega,rfl,λg e=>by omega,λj=>by rw [G,H];exact aW _ _ _ _,by rw [G,H];exact aa rfl,.slice none 0 0,.slice none 0 0,[],by rw [G,H];exact aa rfl,by rw [G,H];exact aa rfl,rfl,aE.nil _ _ _,Own.nil _ _,λg Z=>(by cases Z),λg Z=>(by cases Z),λi hi=>(by cases hi),OG⟩,⟨_,hm.ex x1,Nc _,by simp⟩,hb⟩
def FL {p n:Tx}{w:World}{R:Value->Bool->Qx}(G:lW p n=none->∀w',Ex w w'->R (.slice none 0 0) false w')(ε:∀L,lW p n=some L->∀v w',Ex w w'->jL w.heap.size w' v (L.map EF)->R v true w'):
  Qy 27 #[.string (ay p),.string (ay n)] w (ax [.v,.b] R):=by
 refine mT p n w R ?_;dsimp only [go_sem];dsimp only [go_sem,Nat.reduceAdd];refine Eo (λe w1 H=>⟨λh=>(by cases h),λ _=>G ?_ _ H⟩) λt ok e b w1 H hb st=>⟨λ _=>?_,λh=>(by cases h)⟩
 ·unfold lW;rw [e];split<;>rfl
 have ζ:∀{K:Bool->Qx},K (H5 n) w1->Qy 66 #[.string (ay n)] w1 (ax [.b] K):=λ{K} J=>by
  refine rS n w1 K ?_;dsimp only [go_sem];dsimp only [go_sem,Nat.reduceAdd]
  match n,J with
  | [],J=>exact⟨λh=>by simp at h,λ _=>J⟩
  | [c],J=>exact⟨λ _=>⟨by simp,mX (c:=c) J⟩,λh=>by simp at h⟩
  | a::c::l,J=>exact⟨λh=>by simp only [M0,Nj]at h;omega,λ _=>J⟩
 refine ζ ⟨λZ=>G (Nt λh=>by rw [h]at Z;cases Z) _ H,λZ bs w2 η θ=>?_⟩;have Z:H5 n=true:=by simpa using Z
 obtain⟨c,rfl,hc⟩:∃c,n=[c]/\lt c=true:=by
  match n,Z with
  | [c],h=>exact⟨c,rfl,h⟩
 have ei:lW p [c]=DI t.text c:=by unfold lW;rw [NO Z,e];rfl
 rw [ye ok]at ei;have su:=ok.su;have μ:=(jZ su.ae).2.2;have κ:=ok.size;have ν:=(bI t e0 0).2;have β:(num t e0 0).1.size<=60:=by omega
 have ι:=st.mc.lt;have hS:=Ip ι st.mc η θ;obtain⟨vl,γ,δ⟩:=st.l;obtain⟨bl,vo,vt,ts,rfl,_⟩:=GZ su δ;refine⟨by simp,DZ (nm:=c) rfl rfl ok su β (by simp) hS γ δ (λg hg=>⟨hg.2.1,hg.2.2⟩) hc (by omega) λw3 M' c' h3 _ _=>?_⟩;rw [N2]at h3;have ξ:=wA (lV (num t e0 0).1 c) β;have x3:Ex w w3:=Ex.below H (Kp.below h3.km.kp H.size λg hg e=>by omega);refine Kb h3 (by omega) (λh=>G (ei.trans h) _ x3) λL h v4 w4 k4 o4=>ε L (ei.trans h) v4 w4 (Ex.below x3 (Kp.below k4 x3.size λg hg e=>by have :=(h3.rs.mr g e).1;have :=H.size;omega)) (o4.mono H.size)
end
end Go.Proofs.YthekamjhgabkjaaGreat
