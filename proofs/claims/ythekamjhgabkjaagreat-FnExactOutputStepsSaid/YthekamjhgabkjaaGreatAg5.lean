/- Part 5 of a proof of what the last text states; no condition. -/
import Derived.Test.YthekamjhgabkjaaGreatAg4
set_option maxRecDepth 100000
set_option maxHeartbeats 4000000
set_option linter.defProp false
set_option linter.unusedVariables false
set_option linter.unusedSimpArgs false
namespace Go.Proofs.YthekamjhgabkjaaGreat
open Go Go.RowKit
section
open T Classical
def BI:∀n (l:List Pq),l.length=n->l.Pairwise (λa b=>¬oJ b a)->uF (dq l)/\(∀x,x∈dq l↔x∈l)/\(dq l).getLast?=l.getLast?
 | 0,l,h,_=>by
  obtain rfl:l=[]:=N3 h;exact⟨List.Pairwise.nil,λx=>Qt,rfl⟩
 | n+1,l,h,hp=>by
  rcases List.eq_nil_or_concat l with rfl | ⟨m,s,rfl⟩
  ·simp at h
  ·rw [List.concat_eq_append]at h hp|-;obtain⟨p1,_,p3⟩:=PL.1 hp;obtain⟨h1,H,h3⟩:=BI n m (by simpa using h) p1;rw [Dr];unfold Mn;split
   ·rename_i e;have hs:s∈m:=List.mem_of_getLast? (h3▸e);refine⟨h1,λx=>?_,by rw [e];simp⟩;rw [H,NI,NT];exact⟨.inl,λJ=>J.elim id λJ=>J▸hs⟩
   ·rename_i e;refine⟨PL.2 ⟨h1,List.pairwise_singleton _ _,λa ha b hb=>?_⟩,λx=>by rw [NI,NI,H],by simp⟩;rw [NT]at hb;subst hb;have Z:=(H a).1 ha;have hn:=p3 a Z b (NT.2 rfl);refine((yd a b).resolve_right λhh=>hh.elim (λe'=>?_) hn);subst e';cases G:(dq m).getLast? with
    | none=>rw [List.getLast?_eq_none_iff]at G;rw [G]at ha;cases ha
    | some z=>
     have hz:z∈m:=List.mem_of_getLast? (h3▸G);rw [G]at e;have β:=p3 z hz a (NT.2 rfl);obtain⟨c,hc⟩:=List.getLast?_eq_some_iff.1 G;rw [hc]at ha h1;rcases NI.1 ha with hm | hm
     ·exact β ((PL.1 h1).2.2 a hm z (NT.2 rfl))
     ·exact e (by rw [NT.1 hm])
def Mg {l m:List Pq}(h:l.Pairwise λa b=>¬oJ b a)(k:∀x,x∈l↔x∈m):dq l=ia m:=
 (Jm (BI _ l rfl h).1 λx=>((BI _ l rfl h).2.1 x).trans (k x)).symm
end
attribute [go_sem] Tryz.f120
def pF (G:Value)(w:World)(R:Value->QU)(h:vc az (aZ [(3,[(3,.v),(10,.i)]),(6,[(6,.i)])] [(7,[]),(8,[(6,.i)]),(9,[]),(10,[(7,.v)])] [(6,false,.lt 0 (.lt 1 (.lt 2 (.lt 3 (.lt 4 (.lt 5 (.lt 6 (.lt 7 (.lt 8 (.lt 9 (.lt 10 (.lt 11 (.lt 12 (.lt 13 (.lt 14 (.lt 15 (.lt 16 (.lt 17 (.lt 18 (.lt 19 (.lt 20 (.lt 21 (.lt 22 (.lt 23 (.lt 24 (.lt 25 (.lt 26 (.lt 27 (.lt 28 (.lt 29 (.lt 30 (.lt 31 (.lt 32 (.lt 33 .done)))))))))))))))))))))))))))))))))),(8,false,.lt 0 (.lt 1 (.lt 2 (.lt 3 (.lt 4 (.lt 5 (.lt 6 (.lt 7 (.lt 8 (.lt 9 (.lt 10 (.lt 11 .done)))))))))))),(9,false,.lt 1 (.lt 2 (.lt 3 (.lt 5 (.br .h 0 (.br .h 4 (.one .h 6 (.one .h 7 (.lt 8 .done))) (.one .h 6 (.one .h 4 (.one .h 7 (.lt 8 .done))))) (.one .h 6 (.one .h 0 (.one .h 4 (.one .h 7 (.lt 8 .done))))))))))]) (af Tryz.f120) (ai 0 [.v G]) w (fin az [.tmp 2 .v] R)):
  QV 120 #[G] w (ax [.v] R):=
 bj Tryz.func120 (by kernel_rfl) h
attribute [go_sem] Tryz.f119
def qP (G:Value)(w:World)(R:Value->QU)(h:vc az (aZ [(3,[(3,.v),(8,.i)])] [] []) (af Tryz.f119) (ai 0 [.v G]) w (fin az [.tmp 2 .v] R)):
  QV 119 #[G] w (ax [.v] R):=
 bj Tryz.func119 (by kernel_rfl) h
attribute [go_sem] Tryz.f65
def kC (G:Value)(H:Bool)(w:World)(R:Value->Bool->QU)(h:vc az (aZ [] [] []) (af Tryz.f65) (ai 0 [.v G,.b H]) w (fin az [.tmp 4 .v,.tmp 5 .b] R)):
  QV 65 #[G,(.bool H)] w (ax [.v,.b] R):=
 bj Tryz.func65 (by kernel_rfl) h
attribute [go_sem] Tryz.f33
def mz (G:aH)(w:World)(R:Value->Bool->QU)(h:vc az (aZ [] [] []) (af Tryz.f33) (ai 0 [.s G]) w (fin az [.tmp 2 .v,.tmp 3 .b] R)):
  QV 33 #[(.string (ay G))] w (ax [.v,.b] R):=
 bj Tryz.func33 (by kernel_rfl) h
attribute [go_sem] Tryz.f26
attribute [go_sem] Tryz.f28
def nv (G:Value)(b2:Value)(w:World)(R:Bool->QU)(h:vc az (aZ [(4,[(5,.i)])] [] [(6,true,.lt 0 (.lt 1 (.lt 2 (.lt 3 (.lt 4 (.lt 5 (.lt 6 (.lt 7 (.one .n 8 (.lt 9 .done))))))))))]) (af Tryz.f28) (ai 0 [.v G,.v b2]) w (fin az [.tmp 4 .b] R)):
  QV 28 #[G,b2] w (ax [.b] R):=
 bj Tryz.func28 (by kernel_rfl) h
attribute [go_sem] Tryz.f29
def kD (G:Value)(H:Int)(w:World)(R:Int->QU)(h:vc az (aZ [(2,[(1,.i),(5,.i)])] [] []) (af Tryz.f29) (ai 0 [.v G,.i H]) w (fin az [.tmp 4 .i] R)):
  QV 29 #[G,(.int .i64 H)] w (ax [.i] R):=
 bj Tryz.func29 (by kernel_rfl) h
attribute [go_sem] Tryz.f30
def kR (G:Value)(H:Int)(w:World)(R:Int->QU)(h:vc az (aZ [(2,[(1,.i),(5,.i)])] [] []) (af Tryz.f30) (ai 0 [.v G,.i H]) w (fin az [.tmp 4 .i] R)):
  QV 30 #[G,(.int .i64 H)] w (ax [.i] R):=
 bj Tryz.func30 (by kernel_rfl) h
attribute [go_sem] Tryz.f9
def gH (G:aH)(w:World)(R:Bool->QU)(h:vc az (aZ [] [] []) (af Tryz.f9) (ai 0 [.s G]) w (fin az [.tmp 2 .b] R)):
  QV 9 #[(.string (ay G))] w (ax [.b] R):=
 bj Tryz.func9 (by kernel_rfl) h
attribute [go_sem] Tryz.f7
section
open T Classical
abbrev tE:Nat:=96
def JQ:az.und tE=some (.struct #[⟨("label"),9,0,false, "", "loop.example/g01175/spec",0⟩,⟨("result"),9,1,false, "", "loop.example/g01175/spec",16⟩]):=rfl
def ME (a b c d:aH):JP az tE (.agg #[.string (ay a),.string (ay b)]) (.agg #[.string (ay c),.string (ay d)]) (decide (a=c)&&decide (b=d)):=by
 intro xo yo w;have hu:az.und 9=some .string:=rfl;have G:single (az.und 9)=true:=by rw [hu]
 have H:∀(x y:Value),(part 9 #[x,y] 0).run az.P w= .ok x w:=λx y=>fu G rfl
 have J:∀(x y:Value),(part 9 #[x,y] 1).run az.P w= .ok y w:=λx y=>fu G rfl
 have Z:Op.maxDepth=(Op.maxDepth - 2)+1+1:=rfl;constructor
 ·have g:∀(n:Nat) (x y:Value),(Op.eqGuardIn (n+1) 9 x y).run az.P w= .ok false w:=λn x y=>by
   simp [Op.eqGuardIn,NM,aY hu,NA,NP]
  have g2:(Op.eqGuardIn Op.maxDepth tE (.agg #[.string (ay a),.string (ay b)]) (.agg #[.string (ay c),.string (ay d)])).run az.P w= .ok false w:=by
   rw [Z,Op.eqGuardIn];simp [NM,aY JQ,NA,H,J,g,NP]
  unfold eqGuard;cases hb:az.P.eqGuardType az.P.depth tE<;>simp [NM,run_program,NA,hb,g2]
 ·have es:∀(a b:aH) (n:Nat),(Op.equalIn (n+1) 9 (.string (ay a)) (.string (ay b))).run az.P w= .ok (decide (a=b)) w:=λa b n=>by
   have:(ay a==ay b)=decide (a=b):=by
    rw [OD,Qs,NL];exact⟨λh=>by simpa [ay]using h,λh=>by rw [h]⟩
   simp only [Op.equalIn,NM,aY hu,NA,NP,this]
  have h:(Op.equal tE (.agg #[.string (ay a),.string (ay b)]) (.agg #[.string (ay c),.string (ay d)])).run az.P w= .ok (decide (a=c)&&decide (b=d)) w:=by
   show(Op.equalIn Op.maxDepth tE _ _).run az.P w=_;rw [Z,Op.equalIn];have hp:az.P.stoodInHeld tE=false:=by kernel_rfl
   cases h1:decide (a=c)<;>cases h2:decide (b=d)<;>simp [NM,aY JQ,run_program,NA,H,J,es,NP,hp,h1,h2]
  simp only [binOp,NM,h,NA,NP]
def zg:∀(l:List Pq) (k:Nat),(l.take k).flatMap qK=(l.flatMap qK).take (k* 2)
 | [],k=>by simp
 | p::l,0=>by simp
 | p::l,k+1=>by
  rw [Qb,Ou,Ou,zg l k,show(k+1)* 2=k* 2+2 by omega];rfl
def zB:∀(l:List Pq) (k:Nat),(l.drop k).flatMap qK=(l.flatMap qK).drop (k* 2)
 | [],k=>by simp
 | p::l,0=>by simp
 | p::l,k+1=>by
  rw [List.drop_succ_cons,Ou,zB l k,show(k+1)* 2=k* 2+2 by omega];rfl
section
variable {B:Nat} {w w':World} {v:Value} {l:List Pq}
def cd.Iy (h:cd B w v l):(v= .slice none 0 0/\l=[])\/∃g cap,v= .slice (some ⟨g,0,none⟩) l.length cap/\l.length<=cap/\B<=g/\g< w.heap.size/\∀j u,(l.flatMap qK)[j]?=some u->w.cell? ⟨g,j,none⟩=some u:=by
 have H:=h.1;rcases h.2 with⟨J,Z⟩ | ⟨g,cap,cur,rfl,hb,G,h1,h2,h3,h4⟩
 ·exact .inl ⟨J,N3 Z⟩
 ·refine .inr ⟨g,cap,rfl,h1,hb,(N8.1 G).1,λj u hu=>?_⟩;have hj:j< (l.flatMap qK).length:=(On.1 hu).1;unfold World.cell?;simp only [G];rw [<-h4,Ox (by rw [<-H];exact hj),Oy]at hu;exact hu
def cd.parts (h:cd B w v l){k:Nat}(hk:k<=l.length):∃a cap,v= .slice a l.length cap/\l.length<=cap/\
  (∀{w':World},Ex w w'->dw w' (.slice (if cap=Int.toNat 0 then a else Option.map (λx:Addr=>x.add (Int.toNat 0* 2)) a) ((k:Int).toNat - Int.toNat 0) (cap - Int.toNat 0)) k 2 ((l.take k).flatMap qK))/\
  ∀{w':World},Ex w w'->dw w' (.slice (if cap=(k:Int).toNat then a else Option.map (λx:Addr=>x.add ((k:Int).toNat* 2)) a) ((l.length:Int).toNat - (k:Int).toNat) (cap - (k:Int).toNat)) (l.length - k) 2 ((l.drop k).flatMap qK):=by
 have z:Int.toNat 0=0:=rfl;rcases h.Iy with⟨rfl,rfl⟩ | ⟨g,cap,rfl,h1,hb,G,H⟩
 ·have:k=0:=by simpa using hk
  subst this;exact⟨none,0,rfl,ND _,λ _=>⟨rfl,rfl,.inl ⟨rfl,rfl⟩⟩,λ _=>⟨rfl,rfl,.inl ⟨rfl,rfl⟩⟩⟩
 ·refine⟨some ⟨g,0,none⟩,cap,rfl,h1,λx=>⟨by rw [rA,Og];omega,yP _,.inr ⟨g,0,cap,?_,λj u hu=>?_⟩⟩,λx=>⟨by rw [rA,O3],yP _,.inr ⟨g,if cap=k then 0 else k* 2,cap - k,?_,λj u hu=>?_⟩⟩⟩
  ·rw [z,NF,QD,QD]
   congr 1
   split
   ·rfl
   ·rw [OQ,add_plain]
  ·rw [zg,PJ]at hu;split at hu
   ·rw [N2,x.cell (a:=⟨g,j,none⟩) G];exact H j u hu
   ·cases hu
  ·rw [NF,NF]
   congr 1
   split
   ·rfl
   ·rw [OQ,add_plain,N2]
  ·rw [zB,Qi]at hu;have J:=(On.1 hu).1;rw [rA]at J;rw [x.cell (a:=⟨g,_,none⟩) G];by_cases e:cap=k
   ·omega
   ·rw [NS e];exact H _ u hu
def cd.app (h:cd B w v l)(hB:B<=w.heap.size){x:Value}{m:List Pq}{n:Nat}(G:n=m.length)(H:dw w x n 2 (m.flatMap qK))(hl:l.length+m.length<=1099511627776){K:Value->QU}
  (J:∀v' w',cd B w' v' (l++m)->w.grownBy w' v.ownBlock->(∀b,v'.ownBlock=some b->v.ownBlock=some b\/w.heap.size<=b)->K v' w'):
  ∃(base n k:Nat) (xs news:List Value),World.ownsRow w base tE 2 v n xs/\base<=Array.size (World.heap w)/\dw w x k 2 news/\(n+k<=maxLen/\(n+k)* 32<=140737488355328)/\
   ∀(v':Value) (w':World),World.ownsRow w' base tE 2 v' (n+k) (xs++news)->World.grownBy w w' (Value.ownBlock v)->(∀b:Nat,Value.ownBlock v'=some b->Value.ownBlock v=some b\/Array.size (World.heap w)<=b)->K v' w':=by
 subst G;refine⟨B,l.length,m.length,l.flatMap qK,m.flatMap qK,h,hB,H,⟨by unfold maxLen;omega,?_⟩,λv' w' Z hg hw=>J v' w' ?_ hg hw⟩
 ·omega
 ·unfold cd;rw [NB,OZ];exact Z
end
def KI {G a2 b1 b2:Tx}:oJ (G,a2) (b1,b2)↔Op.bytesLess G b1=true\/(G=b1/\Op.bytesLess a2 b2=true):=by
 unfold oJ;rw [PD,PD,NL,NL]
def Cc {B0:Nat}{w:World}{v:Value}{l:List Pq}(h:cd B0 w v l)(hl:l.length<=1000000000){R:Value->QU}(hR:∀v' w',Ex w w'->cd w.heap.size w' v' (ia l)->R v' w'):
  QV 120 #[v] w (ax [.v] R):=by
 refine pF v w R ?_;dsimp only [go_sem];dsimp only [go_sem,Nat.reduceAdd];obtain⟨a,cap,hv⟩:=h.slice;refine⟨a,_,cap,hv,λt i w'=>∃k:Nat,i=k/\k<=l.length/\Ex w w'/\cd w.heap.size w' t (ia (l.take k)),λ _ i _=>(l.length - i).toNat,⟨0,rfl,OA _,Ex.refl _,cd.nil _ _⟩,λt i w1 hI=>?_⟩;obtain⟨k,rfl,hk,x1,o1⟩:=hI;refine⟨λhlt=>?_,λhge=>?_⟩;rotate_left
 ·have e:=oE hge hk;subst e;rw [Od]at o1;exact hR t w1 x1 o1
 have ψ:=oL hlt;have s1:=x1.size;obtain⟨g,ν,hv',hg,c1,c2⟩:=(h.ex x1).get ψ;have Z:ia (l.take (k+1))=insP (ia (l.take k)) l[k]:=by rw [NG ψ,vG]
 have hlen:=tG (l.take k);rw [Og]at hlen;have hst:=zw (l.take k);rcases hp:l[k]with⟨G,H⟩;rw [hp]at c1 c2 Z;generalize ia (l.take k)=out at o1 Z hlen hst;refine⟨g,0,_,ν,hv',by omega,by omega,G,H,⟨by rw [NF,N2];exact c1,by rw [NF,N2];exact c2,trivial⟩,λb w2 hb hw2=>?_⟩;obtain⟨bx1,bx2⟩:=Er (cs:=[.string (ay G),.string (ay H)]) rfl rfl hb hw2;refine⟨⟨rfl,rfl,bx1⟩,λw3 hw3=>?_⟩;obtain⟨x3,hb3,c3⟩:=bx2 w3 hw3;have x03:=Ex.trans x1 x3;have s3:=x3.size;have o3:=o1.ex x3;have q1:∀{w':World},Ex w3 w'->w'.cell? ⟨b,0,none⟩=some (.string (ay G)):=λx=>by rw [x.cell (a:=⟨b,0,none⟩) hb3,c3 0 (by omega)];rfl
 have q2:∀{w':World},Ex w3 w'->w'.cell? ⟨b,1,none⟩=some (.string (ay H)):=λx=>by rw [x.cell (a:=⟨b,1,none⟩) hb3,c3 1 (by omega)];rfl
 have η:∀{w':World},Ex w3 w'->∀{j:Nat} (hj:j< out.length),∃g cap,t= .slice (some ⟨g,0,none⟩) out.length cap/\w'.cell? ⟨g,0+(j:Int).toNat* 2,none⟩=some (.string (ay out[j].1))/\w'.cell? ⟨g,0+(j:Int).toNat* 2+1,none⟩=some (.string (ay out[j].2)):=λx j hj=>by
  obtain⟨g,cap,h1,h2,h3,h4⟩:=(o3.ex x).get hj;exact⟨g,cap,h1,by rw [NF,N2];exact h3,by rw [NF,N2];exact h4⟩
 obtain⟨at_,capt,hvt⟩:=o3.slice;refine⟨λk' w'=>∃j:Nat,k'=j/\j<=out.length/\Ex w3 w'/\(∀i (h:i< out.length),i< j->oJ out[i] (G,H))/\∀h:j< out.length,¬oJ out[j] (G,H),⟨λk' w'=>∃j:Nat,k'=j/\j<=out.length/\Ex w3 w'/\∀i (h:i< out.length),i< j->oJ out[i] (G,H),λk' _=>(out.length - k').toNat,⟨0,rfl,OA _,Ex.refl _,λi _ h=>by omega⟩,λk' w4 hI=>?_⟩,λk' w4 hJ=>?_⟩
 ·obtain⟨j,rfl,hj,x4,β⟩:=hI;refine⟨λw'=>Ex w3 w'/\j< out.length/\∀i (h:i< out.length),i< j+1->oJ out[i] (G,H),⟨λw'=>Ex w4 w',λJ ζ=>⟨ζ▸Ex.drew w4,at_,_,capt,hvt,λξ=>?_,λο=>?_⟩⟩,λJ hJ1=>⟨by omega,⟨j+1,by omega,by omega,hJ1.1,hJ1.2.2⟩,tN hJ1.2.1⟩⟩;rotate_left
  ·have e:=oE ο hj;exact⟨j,rfl,hj,Ex.trans x4 (ζ▸Ex.drew w4),β,λh=>by omega⟩
  have γ:=oL ξ;have x5:=Ex.trans x4 (ζ▸Ex.drew w4:Ex w4 J);have get:∃g cap,t= .slice (some ⟨g,0,none⟩) out.length cap/\∀{w':World},Ex w4 w'->w'.cell? ⟨g,0+(j:Int).toNat* 2,none⟩=some (.string (ay out[j].1))/\w'.cell? ⟨g,0+(j:Int).toNat* 2+1,none⟩=some (.string (ay out[j].2)):=by
   obtain⟨g,cap,h1,_⟩:=η (Ex.refl _) γ;refine⟨g,cap,h1,λ{w'} x=>?_⟩;obtain⟨g',ν,e1,e2,e3⟩:=η (Ex.trans x4 x) γ;have e:=h1.symm.trans e1;simp only [P7,O4,QQ]at e;rw [e.1.1];exact⟨e2,e3⟩
  obtain⟨gt,δ,θ,ι⟩:=get;have yes:oJ out[j] (G,H)->Ex w3 J/\j< out.length/\∀i (h:i< out.length),i< j+1->oJ out[i] (G,H):=λh=>⟨x5,γ,λi hi hij=>by
   by_cases e:i=j
   ·subst e;exact h
   ·exact β i hi (by omega)⟩
  have no:¬oJ out[j] (G,H)->∃j':Nat,(j:Int)=j'/\j'<=out.length/\Ex w3 J/\(∀i (h:i< out.length),i< j'->oJ out[i] (G,H))/\∀h:j'< out.length,¬oJ out[j'] (G,H):=λh=>⟨j,rfl,hj,x5,β,λ _=>h⟩
  have ω:=@KI out[j].1 out[j].2 G H;refine⟨gt,0,_,δ,θ,by omega,by omega,out[j].1,λw' x=>(ι x).1,G,λw' x=>q1 (Ex.trans x4 x),λhl1=>⟨gt,0,_,δ,θ,by omega,by omega,out[j].1,λw' x=>(ι x).1,G,λw' x=>q1 (Ex.trans x4 x),λhe=>⟨gt,0,_,δ,θ,by omega,by omega,out[j].2,λw' x=>(ι x).2,H,λw' x=>q2 (Ex.trans x4 x),λhl2=>yes (ω.2 (.inr ⟨by simpa using he,hl2⟩)),λhl2=>no λhh=>?_⟩,λhe=>no λhh=>?_⟩,λhl1=>yes (ω.2 (.inl hl1))⟩
  ·rcases ω.1 hh with e | ⟨_,e⟩
   ·rw [hl1]at e;cases e
   ·rw [hl2]at e;cases e
  ·rcases ω.1 hh with e | ⟨e,_⟩
   ·rw [hl1]at e;cases e
   ·rw [e]at he;simp at he
 obtain⟨j,rfl,hj,x4,β,hnl4⟩:=hJ;have ins:=Gg out (G,H) j hj (λi hi hij=>β i hi hij) hnl4;have x04:=Ex.trans x03 x4;refine⟨λw'=>Ex w4 w'/\out[j]?≠some (G,H),⟨λw'=>Ex w4 w',λJ ζ=>⟨ζ▸Ex.drew w4,at_,_,capt,hvt,λξ=>?_,λο=>?_⟩⟩,λJ hJ2=>?_⟩
 ·have γ:=oL ξ;have ς:Ex w4 J:=ζ▸Ex.drew w4;obtain⟨gt,δ,θ,_⟩:=η x4 γ;have ι:∀{w':World},Ex w4 w'->w'.cell? ⟨gt,0+(j:Int).toNat* 2,none⟩=some (.string (ay out[j].1))/\w'.cell? ⟨gt,0+(j:Int).toNat* 2+1,none⟩=some (.string (ay out[j].2)):=λx=>by
   obtain⟨g',ν,e1,e2,e3⟩:=η (Ex.trans x4 x) γ;have e:=θ.symm.trans e1;simp only [P7,O4,QQ]at e;rw [e.1.1];exact⟨e2,e3⟩
  refine⟨gt,0,_,δ,θ,by omega,by omega,out[j].1,out[j].2,λw' x=>⟨(ι x).1,(ι x).2,trivial⟩,G,H,λw' x=>⟨q1 (Ex.trans x4 x),q2 (Ex.trans x4 x),trivial⟩,_,ME out[j].1 out[j].2 G H,λhq=>⟨by omega,⟨k+1,by omega,by omega,Ex.trans x04 ς,?_⟩,tN ψ⟩,λhq=>⟨ς,λe=>?_⟩⟩
  ·rw [Nz,NL,NL]at hq;rw [Z,ins,N' (by rw [Ny γ,<-hq.1,<-hq.2])];exact o3.ex (Ex.trans x4 ς)
  ·rw [Ny γ]at e;rw [Oh e]at hq;simp at hq
 ·have e:=oE ο hj;exact⟨ζ▸Ex.drew w4,by rw [Pm (by omega)];simp⟩
 obtain⟨ς,hne⟩:=hJ2;rw [NS hne]at ins;have κ:=Ex.trans x4 ς;have x05:=Ex.trans x03 κ;have s5:=x05.size;obtain⟨ap,capp,hvp,hcp,υ,src2⟩:=(o3.ex κ).parts hj;have tl:(out.take j).length=j:=by rw [Og];omega
 have dl:(out.drop j).length=out.length - j:=O3 ..;have o5:=o3.ex κ;have x15:=Ex.trans x3 κ;refine⟨λnx w'=>Ex J w'/\cd J.heap.size w' nx (out.take j++[(G,H)]),⟨λw'=>Ex J w',λw6 hw6=>?_⟩,λnx w6 hJ3=>?_⟩;rotate_left
 ·obtain⟨x6,o6⟩:=hJ3;refine⟨ap,_,capp,hvp,by omega,by omega,by omega,o6.app x6.size dl.symm (src2 x6) (by rw [NB,tl,dl,OS];omega) λv7 w7 o7 g7 n7=>⟨by omega,⟨k+1,by omega,by omega,?_,?_⟩,tN ψ⟩⟩
  ·exact Ex.trans x05 (Ex.below x6 (Kp.below (Kp.aF (S:=λg=>nx.ownBlock=some g) g7 λ _ h=>h) x6.size λg hg e=>by have :=(o6.block g e).1;omega))
  ·rw [Z,ins,show out.take j++(G,H)::out.drop j=out.take j++[(G,H)]++out.drop j by simp];exact o7.mono s5
 have x6:Ex J w6:=hw6▸Ex.drew J;have mt:∀{wa wb:World} {b':Nat},Ex J wa->b'=wa.heap.size->wb=wa.alloc (.cells #[] tE)->Ex J wb/\cd J.heap.size wb (.slice (some ⟨b',0,none⟩) 0 0) []:=λ{wa wb b'} x hb' μ=>by
  refine⟨Ex.trans x (μ▸Ex.alloc _ _),?_⟩;subst hb' μ;refine⟨by simp,.inr ⟨wa.heap.size,0,#[],by simp,x.size,?_,by simp,by unfold maxLen;omega,by simp,by simp⟩⟩;unfold World.alloc;simp
 have el:∀{wa wb:World} {b':Nat},Ex J wa->b'=wa.heap.size->wb=wa.alloc (.cells #[.string (ay G),.string (ay H)] tE)->Ex J wb/\Ex wa wb/\b'< wb.heap.size/\∀{wc:World},wc.heap[b']?=wb.heap[b']?->dw wc (.slice (some ⟨b',0,none⟩) 1 1) 1 2 ([(G,H)].flatMap qK):=λ{wa wb b'} x hb' μ=>by
  have xa:Ex wa wb:=μ▸Ex.alloc _ _;refine⟨Ex.trans x xa,xa,by rw [μ,size_alloc];omega,λ{wc} e=>⟨rfl,rfl,.inr ⟨b',0,1,rfl,λj u hu=>?_⟩⟩⟩;rw [N2,Nw (w:=wb) e,μ,hb'];exact aa (by simpa [qK]using hu)
 have gx:∀{va v':Value} {wa wb:World} {L:List Pq},cd J.heap.size wa va L->Ex J wa->wa.grownBy wb va.ownBlock->Ex J wb:=λ{va v' wa wb L} o x g=>Ex.below x (Kp.below (Kp.aF (S:=λg=>va.ownBlock=some g) g λ _ h=>h) x.size λg hg e=>by have :=(o.block g e).1;omega)
 refine⟨x6,ap,_,capp,hvp,by omega,by omega,by omega,G,H,λw' x=>⟨q1 (Ex.trans κ x),q2 (Ex.trans κ x),trivial⟩,λb7 w7 hb7 hw7=>?_,λb7 w7 hb7 hw7=>?_⟩
 ·obtain⟨x7,o7⟩:=mt x6 hb7 hw7;refine⟨x7,?_,λb8 w8 hb8 hw8=>?_⟩
  ·refine o7.app x7.size tl.symm (υ x7) (by rw [tl];simp;omega) λv8 w8 o8 g8 n8=>?_
   have x8:=gx (v':=v8) o7 x7 g8;refine⟨x8,λb9 w9 hb9 hw9=>?_⟩;obtain⟨x9,xx9,_,e9⟩:=el x8 hb9 hw9;refine⟨x9,(o8.ex xx9).app x9.size rfl (e9 rfl) (by rw [Om,tl];simp;omega) λv10 w10 φ g10 n10=>?_⟩;have ε:=gx (v':=v10) (o8.ex xx9) x9 g10;exact⟨ε,ε,by simpa using φ⟩
  ·obtain⟨x8,χ,l8,e8⟩:=el x7 hb8 hw8;refine⟨x8,(o7.ex χ).app x8.size tl.symm (υ x8) (by rw [tl];simp;omega) λv9 w9 o9 g9 n9=>?_⟩;have x9:=gx (v':=v9) (o7.ex χ) x8 g9;have e89:w9.heap[b8]?=w8.heap[b8]?:=(Kp.aF (S:=λg=>(Value.slice (some ⟨b7,0,none⟩) 0 0).ownBlock=some g) g9 λ _ h=>h).block b8 l8 λe=>by
    have e:b7=b8:=Oh e;have:w7.heap.size=w6.heap.size+1:=by rw [hw7,size_alloc]
    omega
   refine⟨x9,o9.app x9.size rfl (e8 e89) (by rw [Om,tl];simp;omega) λv10 w10 φ g10 n10=>?_⟩;have ε:=gx (v':=v10) o9 x9 g10;exact⟨ε,ε,by simpa using φ⟩
 ·obtain⟨x7,xx7,l7,e7⟩:=el x6 hb7 hw7;refine⟨x7,λb8 w8 hb8 hw8=>?_⟩;obtain⟨x8,o8⟩:=mt x7 hb8 hw8;have χ:Ex w7 w8:=hw8▸Ex.alloc _ _;refine⟨x8,o8.app x8.size tl.symm (υ x8) (by rw [tl];simp;omega) λv9 w9 o9 g9 n9=>?_⟩;have x9:=gx (v':=v9) o8 x8 g9;have e79:w9.heap[b7]?=w7.heap[b7]?:=((Kp.aF (S:=λg=>(Value.slice (some ⟨b8,0,none⟩) 0 0).ownBlock=some g) g9 λ _ h=>h).block b7 (by have :=χ.size;omega) λe=>by
   have e:b8=b7:=Oh e;omega).trans (χ.block b7 l7)
  refine⟨x9,o9.app x9.size rfl (e7 e79) (by rw [Om,tl];simp;omega) λv10 w10 φ g10 n10=>?_⟩;have ε:=gx (v':=v10) o9 x9 g10;exact⟨ε,ε,by simpa using φ⟩
end
attribute [go_sem] Tryz.f45
attribute [go_sem] Tryz.f123
def sI (G:Int)(w:World)(R:aH->QU)(h:vc az (aZ [] [] []) (af Tryz.f123) (ai 0 [.i G]) w (fin az [.tmp 2 .s] R)):
  QV 123 #[(.int .i64 G)] w (ax [.s] R):=
 bj Tryz.func123 (by kernel_rfl) h
attribute [go_sem] Tryz.f81
def tJ (n1:aH)(w:World)(R:UInt32->QU)(h:vc az (aZ [] [] []) (af Tryz.f81) (ai 0 [.s n1]) w (fin az [.tmp 2 .w] R)):
  QV 81 #[(.string (ay n1))] w (ax [.w] R):=
 bj Tryz.func81 (by kernel_rfl) h
attribute [go_sem] Tryz.f146
def nN (t1:Value)(w:World)(R:UInt32->QU)(h:vc az (aZ [(3,[(3,.w),(11,.i)])] [(9,[(3,.w)])] [(12,true,.lt 0 (.lt 1 (.lt 2 (.lt 3 (.lt 4 (.lt 6 (.lt 7 (.lt 8 (.lt 9 (.one .g 5 (.one .g 10 (.lt 11 (.lt 12 (.lt 13 .done))))))))))))))]) (af Tryz.f146) (ai 0 [.v t1]) w (fin az [.tmp 2 .w] R)):
  QV 146 #[t1] w (ax [.w] R):=
 bj Tryz.func146 (by kernel_rfl) h
attribute [go_sem] Tryz.f122
def pb (s1:Value)(G:aH)(H:aH)(J:Bool)(w:World)(R:QU)(h:vc az (aZ [] [] []) (af Tryz.f122) (ai 0 [.v s1,.s G,.s H,.b J]) w (fin az [] R)):
  QV 122 #[s1,(.string (ay G)),(.string (ay H)),(.bool J)] w (ax [] R):=
 bj Tryz.func122 (by kernel_rfl) h
attribute [go_sem] Tryz.f149
def jl (s1:Value)(w:World)(R:Value->QU)(h:vc az (aZ [] [] []) (af Tryz.f149) (ai 0 [.v s1]) w (fin az [.tmp 2 .v] R)):
  QV 149 #[s1] w (ax [.v] R):=
 bj Tryz.func149 (by kernel_rfl) h
def jS (s1:Value)(o2:Value)(n3:UInt8)(a4:Bool)(w:World)(R:QU)(h:bS s1 λb5 o6=>eG w b5 (o6+2) λv7=>bS v7 λb8 o9=>eG w b8 (o9+1) λv10=>uw v10 λl12=>CE 0 w λI14 m15 H φ=>dD (decide (H< (l12:Int))) (uv v10 H λb18 o19=>eG φ b18 (o19+H.toNat* 1) λv22=>uu 113 #[v22] φ λv23 w24=>uw v23 λl26=>CE 0 w24 λχ γ G J=>dD (decide (G< (l26:Int))) (uv v23 G λζ η=>∃c36:UInt8,∃n37:Int,∃n38:Int,∃v39:Value,∃q40:Bool,(World.cell? J ⟨ζ,(η+G.toNat* 5),none⟩=some (.int .u8 c36.toNat)/\World.cell? J ⟨ζ,((η+G.toNat* 5)+1),none⟩=some (.int .i64 n37)/\World.cell? J ⟨ζ,(((η+G.toNat* 5)+1)+1),none⟩=some (.int .i64 n38)/\World.cell? J ⟨ζ,((((η+G.toNat* 5)+1)+1)+1),none⟩=some v39/\World.cell? J ⟨ζ,(((((η+G.toNat* 5)+1)+1)+1)+1),none⟩=some (.bool q40)/\True)/\hZ J (.cells #[(.int .u8 0),(.int .i64 0),(.int .i64 0),(.pointer none),(.bool false)] 134) λZ w42=>M0 w42 Z 0 5 [(.int .u8 c36.toNat),(.int .i64 n37),(.int .i64 n38),v39,(.bool q40)] λθ=>C6 θ Z 0 λc44=>JC (!decide (c44=33)) (KW θ Z 1 λn45=>Di 147 #[s1,(.int .i64 n45)] θ λq46 ψ=>dD q46 (cR (G+1)/\χ (G+1) ψ/\γ (G+1) ψ< γ G J) (KW ψ Z 2 λn48=>Di 147 #[s1,(.int .i64 n48)] ψ λq49 ι=>dD (!q49) (∃J51:aH->Bool->QU,(lx ι λβ w53=>bS s1 λb54 o55=>fN β b54 (o55+2) λv56=>bS v56 λb57 o58=>fN β b57 (o58+0) λv59=>fN β Z 3 λv60=>(hZ w53 (.cells #[(.int .i64 H)] 3) λb61 w62=>β w62/\oneV v60=true/\hZ w62 (.cells #[v60] 59) λb63 w64=>β w64/\Bw 114 #[s1,(.slice (some ⟨b61,0,none⟩) 1 1),v59,(.slice (some ⟨b63,0,none⟩) 1 1)] w64 λs65 q66 w67=>β w67/\J51 s65 q66 w67)/\(oneV v60=true/\hZ w53 (.cells #[v60] 59) λb68 w69=>β w69/\hZ w69 (.cells #[(.int .i64 H)] 3) λb70 w71=>β w71/\Bw 114 #[s1,(.slice (some ⟨b70,0,none⟩) 1 1),v59,(.slice (some ⟨b68,0,none⟩) 1 1)] w71 λs72 q73 w74=>β w74/\J51 s72 q73 w74))/\∀(t75:aH) (o76:Bool) (w77:World),J51 t75 o76 w77->lx w77 λκ w79=>ux κ Z 1 λn80=>ux κ Z 2 λn81=>K9 123 #[(.int .i64 n80)] w79 λs82 w83=>κ w83/\(s82.length+List.length [33]<=4611686018427387904)/\K9 123 #[(.int .i64 n81)] w83 λs84 w85=>κ w85/\(List.length (s82++[33])+s84.length<=4611686018427387904)/\fC 122 #[o2,(.string (ay ((s82++[33])++s84))),(.string (ay t75)),(.bool o76)] w85 λw86=>κ w86/\cR (G+1)/\χ (G+1) w86/\γ (G+1) w86< γ G J) (dD (!a4) (bS o2 λb87 o88=>nG ι b87 (o88+2) (.bool true) λw90=>R w90) (bS s1 λb91 o92=>eG ι b91 (o92+2) λv93=>bS v93 λb94 o95=>eG ι b94 (o95+1) λv96=>uu 149 #[v96] ι λv97 w98=>cR (H+1)/\uu 148 #[v97,(.int .i64 H),(.int .i64 (H+1))] w98 λv99 w100=>oneV v99=true/\hZ w100 (.cells #[(.slice none 0 0),v99] 129) λμ ν=>bS s1 λb103 o104=>eG ν b103 (o104+2) λv105=>bS v105 λb106 o107=>eG ν b106 (o107+0) λv108=>uu 151 #[v108] ν λv109 w110=>uu 150 #[v109,(Value.func (Fn.func 152) #[] #[(.pointer (some ⟨Z,0,none⟩))])] w110 λω w112=>oneV ω=true/\nG w112 μ 0 ω λw114=>eG w114 Z 3 λv115=>fC 153 #[(.pointer (some ⟨μ,0,none⟩)),v115] w114 λw116=>lx w116 λδ w118=>bS s1 λb119 o120=>ux δ Z 2 λn121=>hZ w118 (Obj.map #[] 0) λb122 ξ=>δ ξ/\∃(ε:Nat) (m125:Value->Option Value),(Value.map (some b122))= .map (some ε)/\IsMap ξ ε (.int .i64) m125/\∀ο:World,IsMap ο ε (.int .i64) (fU m125 (.int .i64 n121) (.int .i64 (UInt8.toNat (n3 - 97:UInt8):Int)))->df ξ ο ε->uu 154 #[(.pointer (some ⟨b119,(o120+0),none⟩)),(.pointer (some ⟨μ,0,none⟩)),(.map (some b122))] ο λv127 w128=>δ w128/\Bw 117 #[v127] w128 λs129 q130 ς=>δ ς/\KW ς Z 1 λn132=>K9 123 #[(.int .i64 n132)] ς λυ w134=>(υ.length+List.length [33,35]<=4611686018427387904)/\(0<=(UInt8.toNat n3:Int)/\(UInt8.toNat n3:Int)< 128)/\(List.length (υ++[33,35])+List.length [UInt8.ofNat (Int.toNat (UInt8.toNat n3:Int))]<=4611686018427387904)/\fC 122 #[o2,(.string (ay ((υ++[33,35])++[UInt8.ofNat (Int.toNat (UInt8.toNat n3:Int))]))),(.string (ay s129)),(.bool q130)] w134 λw135=>cR (G+1)/\χ (G+1) w135/\γ (G+1) w135< γ G J)))) (cR (G+1)/\χ (G+1) θ/\γ (G+1) θ< γ G J)) (cR (H+1)/\I14 (H+1) J/\m15 (H+1) J< m15 H φ)) (R φ)):
  QV 82 #[s1,o2,(.int .u8 n3.toNat),(.bool a4)] w (ax [] R):=
 LG (aZ [(1,[(25,.i)]),(4,[(33,.i)])] [(9,[(12,.s),(13,.b)])] [(8,true,.lt 0 (.lt 1 (.lt 3 (.lt 4 (.lt 5 (.lt 6 (.lt 7 (.lt 8 (.lt 9 (.lt 10 (.lt 11 (.br .g 2 (.one .g 12 (.one .g 13 (.lt 14 (.lt 15 (.lt 16 (.lt 17 (.lt 18 .done))))))) (.one .g 12 (.one .g 2 (.one .g 13 (.lt 14 (.lt 15 (.lt 16 (.lt 17 (.lt 18 .done)))))))))))))))))))),(9,true,.lt 0 (.lt 1 (.lt 2 (.lt 5 (.lt 6 (.lt 9 (.lt 10 (.one .g 3 (.lt 4 (.one .g 7 (.lt 8 (.one .g 11 .done)))))))))))),(15,true,.lt 0 (.lt 1 (.lt 2 (.lt 3 (.lt 5 (.lt 6 (.lt 7 (.lt 8 (.lt 9 (.one .g 4 (.one .n 10 (.lt 11 (.one .g 12 (.one .g 13 (.lt 14 (.lt 15 (.lt 16 (.lt 17 (.lt 18 .done)))))))))))))))))))]) [] [.v s1,.v o2,.c n3,.b a4] Tryz.func82 (by kernel_rfl) h
attribute [go_sem] Tryz.f191
attribute [go_sem] Tryz.f67
attribute [go_sem] Tryz.f199
attribute [go_sem] Tryz.f46
attribute [go_sem] Tryz.f14
attribute [go_sem] Tryz.f54
attribute [go_sem] Tryz.f23
attribute [go_sem] Tryz.f3
attribute [go_sem] Tryz.f5
section
open T Classical
def DU {s:Tx}{w:World}{R:Value->Bool->QU}(J:fS s=none->∀w',Ex w w'->R (.pointer none) false w')
  (δ:∀t:P,nE t->fS s=some t.text->∀b w',Ex w w'->w.heap.size<=b->LU w' (λg=>w.heap.size<=g/\g≠b/\g< w'.heap.size) b (num t e0 0).2 t.text (td (num t e0 0).1)->R (ptr b) true w'):
  QV 44 #[.string (ay s)] w (ax [.v,.b] R):=by
 refine qN s w R ?_;dsimp only [go_sem];refine GQ λv q w4 x4 h1 h2=>⟨λZ=>?_,λZ=>?_⟩
 ·have Z:q=true:=by simpa using Z
  obtain⟨G,t,ht,e,β⟩:=h1 Z;have η:t.size<=60:=((mT ht).1 (e▸G)).2;refine FR β.bound (λg G=>G.2) λw6 x6=>⟨λhs=>?_,λhs=>?_⟩
  ·refine J (ir ?_) w6 (Ex.trans x4 x6)
   rintro⟨t',h4,h5,_,h6⟩
   have :=dY h4.wf ht.wf (h5.trans e);subst this;rw [h6]at hs;cases hs
  ·have hs:t.smp=true:=by simpa using hs
   have γ:=aI.kp (Kp.ah x6 λ _=>False) (λ _ _ h=>h) β.bound;have he:=vX ht (e▸G) hs;rw [<-e]at he;refine wL γ (λg G=>by have :=G.2;have :=x6.size;omega) ht (by omega) λw9 x9=>?_
   have H:=Ex.trans x4 (Ex.trans x6 x9);cases hn:iz (num t e0 0).1 with
   | none=>exact⟨(λs h=>by cases h),λ _=>⟨λ _=>J (he.trans hn) w9 H,(λh=>by cases h)⟩⟩
   | some n=>
    refine⟨λs' h=>?_,(λh=>by cases h)⟩;cases h;refine⟨(λh=>by cases h),λ _=>?_⟩;obtain⟨t',ok,rfl⟩:=FE (j8 ht) ((xk (ki ht)).symm.trans hs) hn;have ζ:=ok.size;have ε:=ok.len;refine Lw ok.al (by omega) (by omega) λb w' x hb st=>δ t' ok (he.trans hn) b w' (Ex.trans H x) (by have :=H.size;omega) ?_
    obtain⟨v,h1,h2⟩:=st.l;exact⟨st.mc,st.tx,v,h1,h2.sub λg _ G=>⟨by have :=H.size;have :=G.1;omega,G.2⟩⟩
 ·have Z:q=false:=by simpa using Z
  exact J (ir fun⟨t,_,_,G,_⟩=>h2 Z G) w4 x4
def Je:po 0 λ _=>false:=λc _=>by simp
def tz {x:Nat}(G:x< 26){w:World}{R:aH->QU}(h:R [ρ0 x] w):QV 123 #[iv x] w (ax [.s] R):=by
 refine sI (x:Int) w R ?_;dsimp only [go_sem];refine⟨by omega,⟨by omega,by omega⟩,⟨by omega,by omega⟩,?_⟩;have e:(97+(x:Int)).toNat=97+x:=by omega
 rw [e];exact h
def Gq {x a b:UInt32}(h:b &&& a=0):(x &&& ~~~a) &&& b=x &&& b:=by
 apply PQ.1;have h:=Ot UInt32.toBitVec h;simp only [UInt32.toBitVec_and,UInt32.toBitVec_not]at*
 ext i hi
 have :=Ot (λv:BitVec 32=>v.getLsbD i) h;simp at this|-;cases h1:b.toBitVec[i]<;>simp_all
def Eo (x a:UInt32):(x &&& ~~~a) &&& a=0:=by
 apply PQ.1;simp only [UInt32.toBitVec_and,UInt32.toBitVec_not]
 ext i hi
 simp
def po.or {x y:UInt32}{f g:Tk}(h:po x f)(k:po y g):po (x ||| y) λc=>f c||g c:=λc G=>by
 rw [zR,Pp.2 (Dw _ _),Bool.decide_and,h c G,k c G];simp
def po.del {x:UInt32}{f:Tk}(h:po x f){d:UInt8}(hd:lt d=true):po (x &&& ~~~rq d) λc=>f c&& !decide (c=d):=λc G=>by
 by_cases e:c=d
 ·subst e;rw [Eo];simp
 ·have:rq c &&& rq d=0:=by have :=pD G hd;rw [beq_eq_false_iff_ne.2 (Qu e)]at this;simpa using this
  rw [Gq this,h c G];simp [e]
def y7 {d:UInt8}(hd:lt d=true):po (rq d) λc=>decide (c=d):=λc G=>by
 rw [pD hd G,rS]
def po.cg {x:UInt32}{f g:Tk}(h:po x f)(e:∀c,lt c=true->f c=g c):po x g:=λc G=>by rw [h c G,e c G]
def Lt.parts {t:P}(h:Lt t):∀p∈t.parts,Lt p:=by
 cases t<;>simp_all [T.parts,T.Al]
def Jy:∀(n:Nat) {D:Nat->Prop} {t:P} {v:Value} {w:World},t.size<=n->aI D w t v->Lt t->t.size<=1099511627776->∀{R:UInt32->QU},(∀x w',Ex w w'->po x (λc=>decide (t.Fr c))->R x w')->QV 146 #[v] w (ax [.w] R):=by
 intro n
 induction n with
 | zero=>intro D t v w h;have :=aT t;omega
 | succ n ih=>
  intro D t v w hn ht G hl R h;refine nN v w R ?_;dsimp only [go_sem];dsimp only [go_sem,Nat.reduceAdd];have γ:=ht.bound;obtain⟨b,vs,l,rfl,h1,h2,h3,h4,h5,h6,h7,h8⟩:=γ.inv;obtain⟨a,cap,hv⟩:=h7.slice;have e:=nW t;refine⟨b,0,rfl,vs,h6,a,_,cap,hv,λx i w'=>Ex w w'/\∃j:Nat,i=j/\j<=l.length/\po x λc=>decide (∃p∈t.parts.take j,p.Fr c),λ _ i _=>(l.length - i).toNat,⟨Ex.refl _,0,rfl,by omega,Je.cg λc _=>by simp⟩,λx i w1 hI=>?_⟩;obtain⟨Z,j,rfl,hj,J⟩:=hI;have δ:∀{w':World},Ex w w'->aI (λg=>D g/\g< w.heap.size) w' t (ptr b):=λx'=>aI.kp (Kp.ah x' λ _=>False) (λ _ _ h=>h) γ
  have C:∀{w':World},Ex w w'->∀{k:Nat} {v:Value},w.cell? ⟨b,k,none⟩=some v->w'.cell? ⟨b,k,none⟩=some v:=λ{w'} x' {k v} hc=>by rw [x'.cell (a:=⟨b,k,none⟩) h2];exact hc
  refine⟨λhc=>?_,λhc=>?_⟩
  ·have hc:=NZ hc;have β:j< l.length:=by omega
   have H:j< t.parts.length:=by rw [<-h8.1];exact β
   obtain⟨_,ε,l',e1,_,_,_,_,_,g6,g7,g8⟩:=(δ Z).inv;cases e1;have e6:ε=vs:=by rw [C Z h6]at g6;exact(Oh g6).symm
   subst e6;have ζ:l'.length=l.length:=by rw [g8.1,h8.1]
   refine g7.get (i:=j) (x:=l'[j]) (by omega) (by simp [ζ,β]) ?_;have hk:=g8.2 j _ _ (Ny (by omega)) (Ny H);obtain⟨hs,ι⟩:=ql T.size t.parts H;have κ:=cW t;refine ih (by omega) hk (G.parts _ (NO H)) (by omega) λy w2 x2 hy=>⟨by omega,⟨Ex.trans Z x2,j+1,by omega,by omega,(J.or hy).cg λc _=>?_⟩,tN β⟩
   rw [NG H,<-Bool.decide_or];refine Pp.2 ⟨λh=>?_,fun⟨p,hp,hf⟩=>?_⟩
   ·rcases h with⟨p,hp,hf⟩ | h
    ·exact⟨p,Ob _ hp,hf⟩
    ·exact⟨_,N1 _ (NT.2 rfl),h⟩
   ·rcases NI.1 hp with hp | hp
    ·exact .inl ⟨p,hp,hf⟩
    ·cases NT.1 hp;exact .inr hf
  have hc:=NU hc;have:j=t.parts.length:=by rw [<-h8.1];omega
  subst this;rw [Od]at J;refine⟨λx w'=>Ex w w'/\po x λc=>decide ((∃p∈t.parts,p.Fr c)/\¬((t.kind=63\/t.kind=35)/\c=t.cb)),CZ (δ Z) ⟨λhb=>?_,λhb=>⟨Z,J.cg λc _=>?_⟩⟩,λx w2 hJ=>?_⟩
  ·have hb:t.kind=63\/t.kind=35:=by simpa using hb
   have η:lt t.cb=true:=by
    cases t<;>simp [T.kind]at hb<;>simp_all [T.Al,T.cb]
   refine⟨b,0,rfl,t.cb,C Z h5,vM ⟨Z,(J.del η).cg λc _=>?_⟩⟩;simp [hb]
  ·have hb:¬(t.kind=63\/t.kind=35):=by simpa using hb
   exact Pp.2 ⟨λh=>⟨h,λh'=>hb h'.1⟩,λh=>h.1⟩
  obtain⟨x2,J⟩:=hJ;have fin:∀(y:UInt32) (w':World),Ex w w'->(po y λc=>decide (t.Fr c))->R y w':=h;have two:lt t.ca=true->lt t.cb=true->(∀c,t.Fr c↔((∃p∈t.parts,p.Fr c)/\¬((t.kind=63\/t.kind=35)/\c=t.cb))\/c=t.ca\/c=t.cb)->
    ∃S:QU,∀w1:World,w1=World.drew w2->S w1/\∃(b0 o0:Nat),ptr b=Value.pointer (some ⟨b0,o0,none⟩)/\∃v:UInt8,(∀w',S w'->World.cell? w' ⟨b0,o0+1,none⟩=some (.int .u8 (UInt8.toNat v)))/\∃(b1 o1:Nat),ptr b=Value.pointer (some ⟨b1,o1,none⟩)/\∃v2:UInt8,(∀w',S w'->World.cell? w' ⟨b1,o1+2,none⟩=some (.int .u8 (UInt8.toNat v2)))/\
     QV 96 #[.int .u8 v.toNat] w1 (ax [.w] λp w'=>S w'/\QV 96 #[.int .u8 v2.toNat] w' (ax [.w] λq w'=>S w'/\R (x ||| (p ||| q)) w')):=λha hb hf=>by
   refine⟨λw'=>Ex w w',λw1 θ=>?_⟩;have x3:Ex w w1:=Ex.trans x2 (θ▸Ex.drew w2);refine⟨x3,b,0,rfl,t.ca,λw' x'=>C x' h4,b,0,rfl,t.cb,λw' x'=>C x' h5,vM ⟨x3,vM ⟨x3,fin _ _ x3 ((J.or ((y7 ha).or (y7 hb))).cg λc _=>?_)⟩⟩⟩;rw [<-Bool.decide_or,<-Bool.decide_or];exact Pp.2 (hf c).symm
  refine⟨b,0,rfl,t.kind,C x2 h3,?_⟩;cases t with
  | snd p q r=>
   exact⟨λ _=>⟨λ _=>two G.1 G.2.1 λc=>by simp [T.Fr,T.parts,T.kind,T.ca,T.cb];grind,λh=>(by cases h)⟩,λh=>(by cases h)⟩
  | mat p q r=>
   exact⟨λh=>(by cases h),λ _=>⟨λ _=>two G.1 G.2.1 λc=>by simp [T.Fr,T.parts,T.kind,T.ca,T.cb];grind,λh=>(by cases h)⟩⟩
  | rcv p q r=>
   refine⟨λh=>(by cases h),λ _=>⟨λh=>(by cases h),λ _=>⟨λ _=>⟨b,0,rfl,p,C x2 h4,vM (fin _ _ x2 ((J.or (y7 G.1)).cg λc _=>?_))⟩,λh=>(by cases h)⟩⟩⟩;rw [<-Bool.decide_or];exact Pp.2 (by simp [T.Fr,T.parts,T.kind,T.cb];grind)
  | _=>
   refine⟨λh=>(by cases h),λ _=>⟨λh=>(by cases h),λ _=>⟨λh=>(by cases h),λ _=>fin _ _ x2 (J.cg λc _=>Pp.2 ?_)⟩⟩⟩;simp [T.Fr,T.parts,T.kind,T.cb]
   try grind
def Fm {t:P}(G:Lt t)(hs:t.size<=1000000)(hlen:t.text.length<=1099511627776){w:World}{R:UInt32->QU}(h:∀x w',Ex w w'->po x (λc=>decide (t.Fr c))->R x w'):QV 81 #[.string (ay t.text)] w (ax [.w] R):=by
 refine tJ t.text w R ?_;dsimp only [go_sem];refine xH hlen λv q w1 x1 H J=>?_
 have hq:q=true:=by
  cases q
  ·exact absurd rfl (J rfl t G)
  ·rfl
 obtain⟨t',Z,e,β⟩:=H hq;have :=dY G.wf Z.wf e;subst this;exact Jy _ (ND _) β G (by omega) λx w2 x2 hx=>h x w2 (Ex.trans x1 x2) hx
abbrev tL:Nat:=22
def oD (w:World)(g:Nat)(p:Tx×Tx):Prop:=g< w.heap.size/\w.cell? ⟨g,0,none⟩=some (.string (ay p.1))/\w.cell? ⟨g,1,none⟩=some (.string (ay p.2))/\Own 0 w (.slice (some ⟨g,0,none⟩) 2 2) [p.1,p.2]
def Dk {w w':World}{b:Nat}{s t:Tx}(hb:b=w.heap.size)(hw:w'=w.alloc (.cells #[.string (ay s),.string (ay t)] 9)):Own 0 w' (.slice (some ⟨b,0,none⟩) 2 2) [s,t]:=by
 subst hb hw;refine⟨by simp,.inr ⟨w.heap.size,2,#[.string (ay s),.string (ay t)],by simp,OA _,?_,by simp,by unfold maxLen;omega,by simp,by simp [sv]⟩⟩;unfold World.alloc;simp
def oD.kp {w w':World}{g:Nat}{p:Tx×Tx}{S:Nat->Prop}(h:oD w g p)(k:Kp w w' S)(G:¬S g):oD w' g p:=by
 obtain⟨h1,H,J,h4⟩:=h;have e:=k.block g h1 G;exact⟨N0 h1 k.size,by rw [Nw (w:=w) e];exact H,by rw [Nw (w:=w) e];exact J,h4.kp k λg' Z=>by cases Z;exact G⟩
structure Hc (B:Nat)(w:World)(s:Nat)(L:List (Tx×Tx))(W:List Tx)(M:Nat->Prop):Prop where
 lt:s< w.heap.size
 mb:M s
 mr:∀g,M g->B<=g/\g< w.heap.size
 f:∀j,w.frozen? ⟨s,j,none⟩=false
 c2:w.cell? ⟨s,2,none⟩=some (.bool false)
 ex:∃vl vw rs,w.cell? ⟨s,0,none⟩=some vl/\w.cell? ⟨s,1,none⟩=some vw/\rs.length=L.length/\aB tL B w vl rs/\Own B w vw W/\(∀g,vl.ownBlock=some g->M g/\g≠s/\vw.ownBlock≠some g)/\(∀g,vw.ownBlock=some g->M g/\g≠s)/\
  (∀i (h:i< L.length),∃g,rs[i]?=some (.slice (some ⟨g,0,none⟩) 2 2)/\M g/\g≠s/\vl.ownBlock≠some g/\vw.ownBlock≠some g/\oD w g L[i])/\rs.Nodup
section
variable {B:Nat} {w w':World} {s:Nat} {L:List (Tx×Tx)} {W:List Tx} {M:Nat->Prop}
def Hc.kp {S:Nat->Prop}(h:Hc B w s L W M)(k:Kp w w' S)(H:∀g,M g->¬S g):Hc B w' s L W M:=by
 have e:=k.block s h.lt (H s h.mb);obtain⟨vl,vw,rs,h1,h2,h3,h4,h5,J,Z,h8,h9⟩:=h.ex;refine⟨N0 h.lt k.size,h.mb,λg G=>⟨(h.mr g G).1,N0 (h.mr g G).2 k.size⟩,λj=>by rw [N5 (w:=w) e];exact h.f j,by rw [Nw (w:=w) e];exact h.c2,vl,vw,rs,by rw [Nw (w:=w) e];exact h1,by rw [Nw (w:=w) e];exact h2,h3,h4.kp k λg G=>H g (J g G).1,h5.kp k λg G=>H g (Z g G).1,J,Z,λi hi=>?_,h9⟩;obtain⟨g,k1,k2,k3,k4,k5,k6⟩:=h8 i hi;exact⟨g,k1,k2,k3,k4,k5,k6.kp k (H g k2)⟩
def Hc.JM (h:Hc B w s L W M)(x:Ex w w'):Hc B w' s L W M:=h.kp (Kp.ah x λ _=>False) λ _ _ h=>h
def KO (h:Hc B w s L W M)(hl:L.length<=1000000000)(hw:W.length<=1000000000){Z text:Tx}{ok:Bool}{R:QU}
  (hR:∀w' M',Kp w w' M->Hc B w' s (L++[(Z,text)]) (W++if ok then []else [Z]) M'->(∀g,M' g->M g\/w.heap.size<=g)->R w'):QV 122 #[ptr s,.string (ay Z),.string (ay text),.bool ok] w (ax [] R):=by
 refine pb (ptr s) Z text ok w R ?_;dsimp only [go_sem];dsimp only [go_sem,Nat.reduceAdd];obtain⟨vl,vw,rs,h1,h2,h3,h4,h5,h6,h7,h8,h9⟩:=h.ex;have χ:=h.lt;have hB:=(h.mr s h.mb).1;refine⟨s,0,rfl,vl,h1,λb1 w1 ι β=>⟨rfl,λb2 w2 ψ κ=>?_⟩⟩;have x1:Ex w w1:=β▸Ex.alloc w _;have x2:Ex w1 w2:=κ▸Ex.alloc w1 _;have s1:w1.heap.size=w.heap.size+1:=by rw [β,size_alloc]
 have s2:w2.heap.size=w1.heap.size+1:=by rw [κ,size_alloc]
 have ν:=Ex.trans x1 x2;have r1:oD w1 b1 (Z,text):=⟨by omega,by rw [β,ι];exact aa rfl,by rw [β,ι];exact aa rfl,Dk ι β⟩
 have r2:=r1.kp (Kp.ah x2 λ _=>False) id;refine⟨B,rs.length,1,rs,[.slice (some ⟨b1,0,none⟩) 2 2],h4.kp (Kp.ah ν λ _=>False) (λ _ _ h=>h),by omega,⟨rfl,rfl,.inr ⟨b2,0,1,rfl,λj u hu=>?_⟩⟩,⟨by unfold maxLen;omega,by omega⟩,λv3 w3 o3 g3 n3=>?_⟩
 ·match j,hu with
  | 0,hu=>
   cases hu;rw [κ,ψ];exact aa rfl
 have o3:aB tL B w3 v3 (rs++[.slice (some ⟨b1,0,none⟩) 2 2]):=by unfold aB;rw [NB];exact o3
 have k3:Kp w2 w3 λg=>vl.ownBlock=some g:=Kp.aF g3 λ _ h=>h
 have s3:=k3.size;have vb:=h4.block;have K3:Kp w w3 λg=>vl.ownBlock=some g:=Kp.trans (Kp.ah ν _) k3 λ _ _ h=>h
 have e3:=K3.block s χ λe=>(h6 s e).2.1 rfl
 have c3:∀j,w3.cell? ⟨s,j,none⟩=w.cell? ⟨s,j,none⟩:=λj=>Nw (w:=w) e3
 have f3:∀j,w3.frozen? ⟨s,j,none⟩=false:=λj=>by rw [N5 (w:=w) e3];exact h.f j
 refine⟨s,0,rfl,o3.qV,⟨⟨_,(c3 0).trans h1⟩,f3 0⟩,λJ γ=>?_⟩;have k4:Kr s w3 J:=γ▸Kr.set w3 0 v3;have s4:=k4.size;have K4:Kp w J λg=>vl.ownBlock=some g\/g=s:=Kp.trans (Kp.mono (λ _ h=> .inl h) K3) k4 λ _ _ h=> .inr h
 have η:∀g,v3.ownBlock=some g->vl.ownBlock=some g\/w2.heap.size<=g/\g< w3.heap.size:=λg G=>(n3 g G).imp id λe=>⟨e,(o3.block g G).2⟩
 have δ:Hc B J s (L++[(Z,text)]) W λg=>M g\/(w.heap.size<=g/\g< J.heap.size):=by
  refine⟨by omega,.inl h.mb,λg G=>?_,λj=>by rw [γ,NY];exact f3 j,?_,v3,vw,_,by rw [γ];exact NW _ _ _ ((c3 0).trans h1),?_,by simp [h3],o3.kp k4 λg G e=>?_,h5.kp K4 λg G e=>?_,λg G=>?_,λg G=>⟨.inl (h7 g G).1,(h7 g G).2⟩,λi hi=>?_,?_⟩
  ·rcases G with G | G
   ·have :=h.mr g G;omega
   ·omega
  ·rw [γ,NC _ _ _ _ (by simp),c3];exact h.c2
  ·rw [γ,NC _ _ _ _ (by simp),c3];exact h2
  ·rcases η g G with H | H
   ·exact(h6 g H).2.1 e
   ·omega
  ·exact e.elim (λe=>(h6 g e).2.2 G) (h7 g G).2
  ·rcases η g G with H | H
   ·exact⟨.inl (h6 g H).1,(h6 g H).2⟩
   ·exact⟨.inr (by omega),by omega,λe=>by have :=(h5.block g e).2;omega⟩
  ·rw [NB,OS]at hi;by_cases ξ:i< L.length
   ·obtain⟨g,k1,k2,ο,ς,k5,k6⟩:=h8 i ξ;have υ:=k6.1;refine⟨g,by rw [List.getElem?_append_left (by omega)];exact k1,.inl k2,ο,λe=>?_,k5,?_⟩
    ·rcases η g e with H | H
     ·exact ς H
     ·omega
    ·rw [Qa ξ];exact k6.kp K4 λe=>e.elim ς ο
   ·have e:i=L.length:=by omega
    subst e;refine⟨b1,by rw [<-h3,List.getElem?_append_right (ND _)];simp,.inr (by omega),by omega,λe=>?_,λe=>by have :=(h5.block _ e).2;omega,?_⟩
    ·rcases η b1 e with H | H
     ·have :=(vb b1 H).2;omega
     ·omega
    ·rw [List.getElem_append_right (ND _)];simp only [Nat.sub_self,List.getElem_cons_zero];have ω:=r2.kp k3 λe=>by have :=(vb b1 e).2;omega
     exact ω.kp k4 λe=>by omega
  ·refine Oc.2 ⟨h9,by simp,λa ha b hb e=>?_⟩;obtain⟨i,hi,rfl⟩:=List.getElem_of_mem ha;obtain⟨g,k1,_,_,_,_,k6⟩:=h8 i (by omega);have υ:=k6.1;rw [Ny hi]at k1;have e1:=(Oh k1).symm.trans (e.trans (NT.1 hb));simp only [P7,O4,QQ]at e1;omega
 have φ:Kp w J M:=Kp.mono (λg e=>e.elim (λe=>(h6 g e).1) λe=>e▸h.mb) K4;cases ok with
 | true=>
  refine⟨λh=>(by cases h),λ _=>hR J (λg=>M g\/(w.heap.size<=g/\g< J.heap.size)) φ (by simpa using δ) λg G=>G.imp id And.left⟩
 | false=>
  refine⟨λ _=>?_,λh=>(by cases h)⟩;obtain⟨vl2,ε,rs2,q1,q2,q3,q4,q5,q6,q7,q8,q9⟩:=δ.ex;refine⟨s,0,rfl,ε,q2,λb5 w5 hb5 μ=>?_⟩;have x5:Ex J w5:=μ▸Ex.alloc J _;have s5:w5.heap.size=J.heap.size+1:=by rw [μ,size_alloc]
  refine Own.push (q5.ex x5) (by omega) (Strs.one hb5 μ) (by simp only [OS];omega) λv6 w6 _ o6 g6 n6=>?_
  have k6:Kp w5 w6 λg=>ε.ownBlock=some g:=Kp.aF g6 λ _ h=>h
  have s6:=k6.size;have K6:Kp J w6 λg=>ε.ownBlock=some g:=Kp.trans (Kp.ah x5 _) k6 λ _ _ h=>h
  have e6:=K6.block s δ.lt λe=>(q7 s e).2 rfl
  have c6:∀j,w6.cell? ⟨s,j,none⟩=J.cell? ⟨s,j,none⟩:=λj=>Nw (w:=J) e6
  have f6:∀j,w6.frozen? ⟨s,j,none⟩=false:=λj=>by rw [N5 (w:=J) e6];exact δ.f j
  refine⟨s,0,rfl,o6.qV,⟨⟨_,(c6 1).trans q2⟩,f6 1⟩,λw7 ζ=>?_⟩;have k7:Kr s w6 w7:=ζ▸Kr.set w6 1 v6;have s7:=k7.size;have K7:Kp J w7 λg=>ε.ownBlock=some g\/g=s:=Kp.trans (Kp.mono (λ _ h=> .inl h) K6) k7 λ _ _ h=> .inr h
  have θ:∀g,v6.ownBlock=some g->ε.ownBlock=some g\/w5.heap.size<=g/\g< w6.heap.size:=λg G=>(n6 g G).imp id λe=>⟨e,(o6.block g G).2⟩
  refine hR w7 (λg=>M g\/(w.heap.size<=g/\g< w7.heap.size)) (Kp.trans φ K7 λg G e=>?_) ⟨by omega,.inl h.mb,λg G=>?_,λj=>by rw [ζ,NY];exact f6 j,?_,vl2,v6,rs2,?_,by rw [ζ];exact NW _ _ _ ((c6 1).trans q2),q3,q4.kp K7 λg G e=>?_,?_,λg G=>?_,λg G=>?_,λi hi=>?_,q9⟩ λg G=>G.imp id And.left
  ·exact e.elim (λe=>((q7 g e).1).elim id λe=>by omega) λe=>e▸h.mb
  ·rcases G with G | G
   ·have :=h.mr g G;omega
   ·omega
  ·rw [ζ,NC _ _ _ _ (by simp),c6];exact δ.c2
  ·rw [ζ,NC _ _ _ _ (by simp),c6];exact q1
  ·exact e.elim (λe=>(q6 g G).2.2 e) λe=>(q6 g G).2.1 e
  ·refine o6.kp k7 λg G e=>?_
   rcases θ g G with H | H
   ·exact(q7 g H).2 e
   ·omega
  ·refine⟨(q6 g G).1.imp id λe=>by omega,(q6 g G).2.1,λe=>?_⟩;rcases θ g e with H | H
   ·exact(q6 g G).2.2 H
   ·have :=(q4.block g G).2;omega
  ·rcases θ g G with H | H
   ·exact⟨(q7 g H).1.imp id λe=>by omega,(q7 g H).2⟩
   ·exact⟨.inr (by omega),by omega⟩
  ·obtain⟨g,p1,p2,p3,p4,p5,p6⟩:=q8 i hi;have υ:=p6.1;refine⟨g,p1,p2.imp id λe=>by omega,p3,p4,λe=>?_,p6.kp K7 λe=>e.elim p5 p3⟩;rcases θ g e with H | H
   ·exact p5 H
   ·omega
end
end
section
open T
section
attribute [local go_sem] Oper.semAt_some
def FL {w:World}{b x y:Nat}(h:w.cell? ⟨b,2,none⟩=some (iv y)){R:Bool->QU}(hR:R (decide ((x:Int)=y)) w):
  QV 152 #[iv x,.pointer (some ⟨b,0,none⟩)] w (ax [.b] R):=by
 refine(callsIn_wide (n:=1)).1 ?_;refine callsIn_of_wp Tryz.func152 rfl trivial ?_ rfl;simp only [Tryz.ntmps152,List.size_toArray,Nv,NR,Nat.reduceAdd,Nat.reduceSub,Array.replicate_succ,Array.replicate_zero,List.push_toArray,List.append_toArray,Om,Oz]
 gi_wp2
 refine bodyPost_ret (results_tmp rfl _ _ _) rfl ⟨_,rfl,?_⟩;exact hR
end
def Nn:Shelf.Ren where
 f:=λx=>if x=45 then 148 else x
 t:=λx=>if x=22 then 127 else if x=23 then 130 else if x=0 then 0 else if x=3 then 3 else if x=4 then 4 else x
 g:=λx=>x
def KF:SlLaysE.n45 Tryz.prog Nn where
 mixed:=Eq.refl true
 f45:=⟨Tryz.f148.name,by kernel_rfl,OH Tryz.func148 (by kernel_rfl)⟩
 t0:=Tryz.underlying0
 a0:=Tryz.isAgg0
 z0:=Tryz.sizeOf0
 v0:=Tryz.zeroValue0
 t3:=QA
 a3:=Tryz.isAgg3
 z3:=Tryz.sizeOf3
 v3:=Tryz.zeroValue3
 t4:=Tryz.underlying4
 a4:=Tryz.isAgg4
 z4:=Tryz.sizeOf4
 v4:=Tryz.zeroValue4
 t22:=Tryz.underlying127
 a22:=Tryz.isAgg127
 z22:=Tryz.sizeOf127
 v22:=Tryz.zeroValue127
 a23:=Tryz.isAgg130
 z23:=Tryz.sizeOf130
abbrev tT:Nat:=130
def enT:Option Nat->Value
 | some g=>ptr g
 | none=> .pointer none
def Jt:OneCell enT:=λx=>by cases x<;>rfl
def L5 {B:Nat}{w:World}{v:Value}{gs:List Nat}(h:aB tT B w v (gs.map ptr)){i:Nat}(hi:i< gs.length)(hl:gs.length<=1000000){R:Value->QU}
  (hR:∀v' w',Kp w w' (λg=>v.ownBlock=some g)->aB tT B w' v' (gs.eraseIdx i |>.map ptr)->v'.ownBlock=v.ownBlock->R v' w'):QV 148 #[v,.int .i64 i,.int .i64 ((i:Int)+1)] w (ax [.v] R):=by
 rcases h.2 with⟨rfl,hn⟩ | ⟨g,cap,cur,rfl,hb,hg,h1,h2,h3,h4⟩
 ·rw [NH]at hn;omega
 rw [NH]at h1 h4|-;have hm:cap<=9223372036854775807:=by unfold maxLen at h2;omega
 have δ:gs.length<=cur.size:=by omega
 have hC:∀j (G:j< gs.length),cur[j]?=some (ptr gs[j]):=λj G=>by
  have :=Ot (fun(l:List Value)=>l[j]?) h4;simp only [O7,Ny G,OQ]at this
  rwa [Ox (by omega),Oy]at this
 have hH:Go.Sort.Holds enT w g 0 (gs.map some).toArray:=λj G=>by
  have G:j< gs.length:=by simpa using G
  refine⟨?_,?_⟩
  ·unfold World.cell?;simp only [hg,N2,hC j G];rw [getElem!_pos _ j (by simpa using G)];simp [enT]
  ·unfold World.frozen?;simp only [hg];simp
 have sz:(gs.map some).toArray.size=gs.length:=by simp
 have key:=AnyE.slices_Delete KF enT Jt none (by intro w;exact Tryz.zeroValue130 w) _ rfl rfl g 0 cap i (i+1) (gs.map some).toArray w hH (by rw [sz];omega) hm (by omega) (by rw [sz];omega);rw [sz]at key;simp only [Nat.add_sub_cancel_left,List.toList_toArray,List.replicate_one]at key;refine Calls.mono key ?_
 rintro e w' ⟨rfl,q,rfl⟩
 obtain⟨D,hD⟩:∃D,D=(gs.map some).take i++(gs.map some).drop (i+1)++[none]:=⟨_,rfl⟩
 have H:D.length=gs.length:=by rw [hD];simp;omega
 rw [<-hD];have ε:g< w.heap.size:=(N8.1 hg).1;have β:(Go.Sort.putRow enT (Go.Sort.ahead w q) g 0 D.toArray).heap[g]?=some (.cells (Go.Sort.putCells enT 0 D.toArray cur) tT (0,0)):=by
  simp [Go.Sort.putRow,Go.Sort.mapBlock,Go.Sort.ahead,OW,hg,Go.Sort.onCells]
 have kp:Kp w (Go.Sort.putRow enT (Go.Sort.ahead w q) g 0 D.toArray) (λx=>(Value.slice (some ⟨g,0,none⟩) gs.length cap).ownBlock=some x):=by
  refine⟨rfl,rfl,rfl,by simp [Go.Sort.putRow,Go.Sort.mapBlock,Go.Sort.ahead],λk hk γ=>?_⟩;have:g≠k:=λe=>γ (by rw [<-e];rfl)
  simp [Go.Sort.putRow,Go.Sort.mapBlock,Go.Sort.ahead,OW,this]
 refine⟨_,rfl,hR _ _ kp ?_ rfl⟩;have J:(gs.eraseIdx i).length=gs.length - 1:=by rw [P8,N' hi]
 refine⟨by simp [J],.inr ⟨g,cap,_,by simp [J],hb,β,by simp [J];omega,h2,by simp [Go.Sort.putCells,h3],?_⟩⟩;apply List.ext_getElem?;intro j;simp only [NH,J,N7];by_cases G:j< gs.length - 1
 ·rw [Ox G,Oy];simp only [Go.Sort.putCells,Array.getElem?_mapIdx,hC j (by omega),OQ,OA,P0,N2,List.size_toArray,H];rw [N' (by omega),QD,getElem!_pos _ j (by simpa [H]using(by omega:j< gs.length))];have Z:j< (gs.eraseIdx i).length:=by omega
  have eD:D=(gs.eraseIdx i).map some++[none]:=by rw [hD,List.eraseIdx_eq_take_drop_succ,Oj,List.map_take,List.map_drop]
  have e1:D[j]'(by omega)=some (gs.eraseIdx i)[j]:=by
   simp only [eD];rw [Qa (by simpa using Z),OK]
  rw [List.getElem_toArray,e1,O7,Ny Z];rfl
 ·rw [List.getElem?_take_eq_none (by omega),Pm (by simp [J];omega)]
end
section
open T Classical
def GA {D:Nat->Prop}{w:World}{v:Value}{l:List Value}(h:ew D w v l)(h1:l.all oneV=true)(hl:l.length<=1099511627776){R:Value->QU}(hR:∀v' w',Ex w w'->aB tT w.heap.size w' v' l->R v' w'):
  QV 149 #[v] w (ax [.v] R):=by
 refine jl v w R ?_;dsimp only [go_sem];rcases id h with⟨rfl,e⟩ | ⟨b,off,cap,rfl,β,h2,h3⟩
 ·exact⟨_,_,_,rfl,λ _=>hR _ _ (Ex.refl w) (e▸aB.nil _ _ _),λh=>(by cases h)⟩
 ·refine⟨_,_,_,rfl,λh=>(by cases h),λ _ b5 w6 J G=>?_⟩;have H:Ex w w6:=G▸Ex.alloc w _;have ho:aB tT w.heap.size w6 (.slice (some ⟨b5,0,none⟩) 0 0) []:=by
   subst J G;refine⟨rfl,.inr ⟨_,0,#[],rfl,ND _,?_,by simp,by unfold maxLen;omega,rfl,rfl⟩⟩;unfold World.alloc;simp
  refine aB.push ho H.size (h.ex H) h1 (by omega) (by simp;exact hl) λv' w' Z hg hn=>hR v' w' ?_ Z
  refine Ex.below H (Kp.below (S:=λg=>g=b5) (Kp.aF hg λg e=>(Oh e).symm) H.size λg hg e=>by omega)
def eL (E:List Ev):List (Tx×Tx):=E.map λe=>(e.1,e.2.getD [])
def eW (E:List Ev):List Tx:=(E.filter λe=>e.2.isNone).map λe=>e.1
structure rC (b s n0 c:Nat)(w0 w':World)(E:List Ev)(M:Nat->Prop):Prop where
 km:Km b w0 w'
 rs:Hc w0.heap.size w' s (eL E) (eW E) M
 mc:∃n,Mk w' b n/\n0<=n/\n<=n0+c
 hb:b< w0.heap.size
section
variable {b s n0 c:Nat} {w0 w w':World} {E:List Ev} {M:Nat->Prop}
def rC.nb (h:rC b s n0 c w0 w E M):¬M b:=λG=>by have :=(h.rs.mr b G).1;have :=h.hb;omega
def rC.mono {G:Nat}(h:rC b s n0 c w0 w E M)(J:c<=G):rC b s n0 G w0 w E M:=by
 obtain⟨n,h1,H,Z⟩:=h.mc;exact⟨h.km,h.rs,⟨n,h1,H,by omega⟩,h.hb⟩
def rC.ex (h:rC b s n0 c w0 w E M)(x:Ex w w'):rC b s n0 c w0 w' E M:=by
 obtain⟨n,h1,G⟩:=h.mc;exact⟨h.km.out (Kp.ah x λ _=>False) (λ _ _ h=>h) h.hb,h.rs.JM x,⟨n,h1.ex x,G⟩,h.hb⟩
def Ll (E F:List Ev):eL (E++F)=eL E++eL F:=Oj ..
def LC (E F:List Ev):eW (E++F)=eW E++eW F:=by unfold eW;rw [OO,Oj]
def rC.add (h:rC b s n0 c w0 w E M)(hl:E.length<=1000000)(e:Ev){R:QU}(hR:∀G M',rC b s n0 c w0 G (E++[e]) M'->Kp w G M->(∀g,M' g->M g\/w.heap.size<=g)->R G):
  QV 122 #[ptr s,.string (ay e.1),.string (ay (e.2.getD [])),.bool e.2.isSome] w (ax [] R):=by
 have h1:(eL E).length=E.length:=by unfold eL;simp
 have h2:(eW E).length<=E.length:=by unfold eW;rw [NH];exact PH _ _
 refine KO h.rs (by omega) (by omega) λw' M' k r H=>?_
 obtain⟨n,m1,m2,m3⟩:=h.mc;refine hR w' M' ⟨h.km.out k (λg hg J=>by have :=(h.rs.mr g J).1;omega) h.hb,?_,⟨n,m1.kp k h.nb,m2,m3⟩,h.hb⟩ k H;have Z:eL (E++[e])=eL E++[(e.1,e.2.getD [])]:=by rw [Ll];rfl
 have e2:eW (E++[e])=eW E++if e.2.isSome then []else [e.1]:=by
  rw [LC]
  congr 1
  unfold eW;cases h:e.2<;>simp [h]
 rw [Z,e2];exact r
end
section
variable {t:P} {u:U} {b s n0 c:Nat} {w w1:World} {E:List Ev} {M D:Nat->Prop}
def J8 (ok:nE t)(su:SU t u)(hsz:u.size<=60)(h:rC b s n0 c w w1 E M){bl:Nat}(ν:w1.cell? ⟨b,2,none⟩=some (ptr bl))(hl:aJ D w1 (td u) (ptr bl))(hD:∀g,D g->g≠b/\g< w.heap.size){i d e:Nat}{p:U}(hi:i< u.ths.length)(ho:Off.snd d e p∈offs u.ths[i]){Z:Nat}{vr:Value}(c3:w1.cell? ⟨Z,3,none⟩=some vr)(ξ:Z< w1.heap.size)(ζ:aJ D w1 (td p) vr)
  {J:aH->Bool->QU} (hJ:∀w3 s q,Ex w1 w3->s=(iz (EF u i p)).getD []->q=(iz (EF u i p)).isSome->J s q w3):
  lx w1 λG ο=>bS (ptr b) λς o55=>fN G ς (o55+2) λv56=>bS v56 λb57 o58=>fN G b57 (o58+0) λv59=>fN G Z 3 λv60=>(hZ ο (Obj.cells #[Value.int IntKind.i64 (i:Int)] 3) λb61 υ=>G υ/\oneV v60=true/\hZ υ (Obj.cells #[v60] 59) λb63 φ=>G φ/\Bw 114 #[ptr b,Value.slice (some ⟨b61,0,none⟩) 1 1,v59,Value.slice (some ⟨b63,0,none⟩) 1 1] φ λs65 q66 χ=>G χ/\J s65 q66 χ)/\oneV v60=true/\
   hZ ο (Obj.cells #[v60] 59) λb68 ψ=>G ψ/\hZ ψ (Obj.cells #[Value.int IntKind.i64 (i:Int)] 3) λb70 ω=>G ω/\Bw 114 #[ptr b,Value.slice (some ⟨b70,0,none⟩) 1 1,v59,Value.slice (some ⟨b68,0,none⟩) 1 1] ω λs72 q73 w74=>G w74/\J s72 q73 w74:=by
 have hb:=h.hb;have s0:=h.km.size;obtain⟨bl',vo,vt,ts,e1,k2,k3,k4,k5,k6,k7,k8,k9⟩:=CS su hl;cases e1;have hl':=su.two.len;have hi':i< t.ths.length:=by omega
 have hNu:Nu (EF u i p):=by
  obtain⟨o',ho',hae⟩:=(Du (su.two.get hi' hi)).AF ho;cases o'<;>try cases hae
  rename_i a b p2 h1 h2;exact(C4 ok su hi' hi ho' ho ⟨h1,h2⟩).1.nu
 obtain⟨sU,_⟩:=bM (su.smp _ (NO hi)) _ ho;have uqp:Uq p:=(su.xp hi sU (il _ ho)).snd;have nrp:p.Nr:=sU.nr (su.nrs _ (NO hi));have hwo:kQ (λn=>n==i||n==i) u.ths 0=wo u.ths i i:=(BC _ _ _).symm;have htp:=gO p;have hps:p.size<=60:=by have h1:=sU.size;have h2:=kc u _ (NO hi);simp only [Off.tm,T.size]at h1;omega
 have go:∀(wc:World) (vg vm:Value),Ex w1 wc->ew (λg=>g< wc.heap.size) wc vg [iv i]->ew (λg=>g< wc.heap.size) wc vm [vr]->QV 114 #[ptr b,vg,vo,vm] wc (ax [.s,.b] fun(s58:aH) (q59:Bool) (w60:World)=>Ex w1 w60/\J s58 q59 w60):=by
  intro wc vg vm xc hg hm;have sc:=xc.size;refine FU su (by omega) (vv:=EF u i p) (zs:=[(td p,p)]) (gl:=[i]) (P:=λn=>n==i||n==i) (mvs:=[vr]) (by rw [xc.cell (show b< _ by omega)];exact ν) (by omega) (aJ.sub (aJ.ex hl xc) λg hg _=>hg) hg (by simp) (LQ k6 xc) hm (aO.cons (aJ.sub (aJ.ex ζ xc) λg hg _=>hg) aO.MR) (by simp) (λz hz=>by cases NT.1 hz;exact Pc.nr uqp nrp) ?_ (λj=>?_) ?_ ?_ λw3 x3=>⟨λs hs=>?_,λhn=>?_⟩
  ·simp only [N4,PE,lJ];omega
  ·simp [rS]
  ·rw [hwo];exact hNu
  ·rw [hwo];rfl
  ·exact⟨Ex.trans xc x3,hJ _ _ _ (Ex.trans xc x3) (by rw [hs];rfl) (by rw [hs];rfl)⟩
  ·exact⟨Ex.trans xc x3,hJ _ _ _ (Ex.trans xc x3) (by rw [hn];rfl) (by rw [hn];rfl)⟩
 refine⟨λw'=>Ex w1 w',λη hw46=>?_⟩;have H:Ex w1 η:=hw46▸Ex.drew w1;refine⟨H,b,0,rfl,ptr bl,λw' x=>by rw [x.cell (a:=⟨b,0+2,none⟩) (show b< _ by omega)];exact ν,bl,0,rfl,vo,λw' x=>by rw [x.cell (a:=⟨bl,0+0,none⟩) k3];exact k4,vr,λw' x=>by rw [x.cell (a:=⟨Z,3,none⟩) ξ];exact c3,λς w55 hb54 β=>?_,ζ.one,λb62 w63 hb62 γ=>?_⟩
 ·have θ:Ex η w55:=β▸Ex.alloc _ _;refine⟨Ex.trans H θ,ζ.one,λb56 w57 hb56 δ=>?_⟩;have ι:Ex w55 w57:=δ▸Ex.alloc _ _;exact⟨Ex.trans (Ex.trans H θ) ι,go w57 _ _ (Ex.trans (Ex.trans H θ) ι) (LQ (Mo hb54 β) ι) (Mo hb56 δ)⟩
 ·have κ:Ex η w63:=γ▸Ex.alloc _ _;refine⟨Ex.trans H κ,λb64 w65 hb64 ε=>?_⟩;have μ:Ex w63 w65:=ε▸Ex.alloc _ _;exact⟨Ex.trans (Ex.trans H κ) μ,go w65 _ _ (Ex.trans (Ex.trans H κ) μ) (Mo hb64 ε) (LQ (Mo hb62 γ) μ)⟩
end
end
section
open T
def CR {D:Nat->Prop}{w:World}{b G x:Nat}{vo:Value}{O:List Nat}(H:w.cell? ⟨b,2,none⟩=some (ptr G))(J:w.cell? ⟨G,0,none⟩=some vo)(Z:ew D w vo (O.map iv))(hl:O.length<=1099511627776){R:Bool->QU}(hR:R (decide (x∈O)) w):
  QV 147 #[ptr b,iv x] w (ax [.b] R):=by
 refine mg (ptr b) x w R ?_;dsimp only [go_sem];exact⟨b,0,rfl,ptr G,H,G,0,rfl,vo,J,Cx Z hl hR⟩
abbrev tI:Nat:=3
def oZ {B g cap n j:Nat}{w:World}{C:List Nat}(h:aB tI B w (.slice (some ⟨g,0,none⟩) n cap) (C.map iv))(J:j< C.length):w.cell? ⟨g,j,none⟩=some (iv C[j])/\w.frozen? ⟨g,j,none⟩=false/\B<=g/\C.length<=cap/\n=C.length:=by
 rcases h.2 with⟨Z,_⟩ | ⟨g',G,cur,hv,hb,H,h1,h2,h3,h4⟩
 ·cases Z
 ·cases hv;rw [NH]at h1 h4|-;refine⟨?_,?_,hb,h1,rfl⟩
  ·have :=Ot (fun(l:List Value)=>l[j]?) h4;simp only [O7,Ny J,OQ]at this;rw [Ox (by omega),Oy]at this;unfold World.cell?;simp only [H];exact this
  ·unfold World.frozen?;simp [H]
def sJ {B g cap N:Nat}:∀(k n:Nat) (C:List Nat) (w:World),aB tI B w (.slice (some ⟨g,0,none⟩) N cap) (C.map iv)->n+k<=C.length->∃G:List Nat,aB tI B (w.setCells g n (List.replicate k (iv 0))) (.slice (some ⟨g,0,none⟩) N cap) (G.map iv)/\G.length=C.length/\G.take n=C.take n
 | 0,_,C,_,h,_=>⟨C,h,rfl,rfl⟩
 | k+1,n,C,w,h,hk=>by
  have H:=aB.set (x:=iv 0) (j:=n) h rfl (by rw [NH];omega);rw [<-PU]at H;obtain⟨G,h1,J,Z⟩:=sJ k (n+1) (C.set n 0) _ H (by rw [OT];omega);refine⟨G,h1,by rw [J,OT],?_⟩;have :=Ot (List.take n) Z
  rwa [Qy,Qy,Px (by omega),PF (ND _)]at this
def F9 {B:Nat}{w:World}{g cap N n:Nat}{C:List Nat}(h:aB tI B w (.slice (some ⟨g,0,none⟩) N cap) (C.map iv))(J:n<=C.length):aB tI B w (.slice (some ⟨g,0,none⟩) n cap) ((C.take n).map iv):=by
 have G:((C.take n).map iv).length=n:=by rw [NH,Og];omega
 rcases h.2 with⟨Z,_⟩ | ⟨g',H,cur,hv,hb,hg,h1,h2,h3,h4⟩
 ·cases Z
 ·cases hv;rw [NH]at h1 h4;refine⟨by simp,.inr ⟨g,cap,cur,by rw [G],hb,hg,by rw [G];omega,h2,h3,?_⟩⟩;rw [G,List.map_take,<-h4,N7,N7,Qy,Px J]
def Ld {B:Nat}{w:World}{v:Value}{l:List Nat}(h:aB tI B w v (l.map iv))(hl:l.length<=1099511627776){f:Nat}{ca:List Value}(hf:hasR ga f=true){q:Nat->Bool}(hp:IG w (λg=>v.ownBlock=some g) f ca q)
  {R:Value->QU} (hR:∀v' w',Kp w w' (λg=>v.ownBlock=some g)->aB tI B w' v' ((l.filter λs=> !q s).map iv)->(∀g,v'.ownBlock=some g->v.ownBlock=some g)->R v' w'):
  QV 150 #[v,.func (.func f) #[] (List.toArray ca)] w (ax [.v] R):=by
 refine dj v _ w R ?_;dsimp only [go_sem];dsimp only [go_sem,Nat.reduceAdd];have η:ew (λg=>v.ownBlock=some g) w v (l.map iv):=h.Aq λg hg=>hg
 refine GK η hf hp hl λn w1 x1 hn=>⟨λJ=>?_,λJ=>?_⟩
 ·have J:n= -1:=NZ J;rcases hn with⟨_,hn⟩ | ⟨i,e,_⟩
  ·refine hR _ _ (Kp.ah x1 _) ?_ λ _ h=>h
   rw [Pr.2 λx hx=>by simp [hn x hx]];exact h.kp (Kp.ah x1 λ _=>False) λ _ _ h=>h
  ·omega
 have J:¬n= -1:=NU J;obtain⟨i0,rfl,β,hb,θ⟩:=hn.resolve_left λe=>J e.1
 have hq:=θ _ (Ny β);rcases id h.2 with⟨_,h0⟩ | ⟨g,cap,cur,hv,_⟩
 ·rw [NH]at h0;omega
 rw [NH]at hv;obtain rfl:=hv;have kx:∀{w1:World},Ex w w1->Kp w w1 (λb=>(Value.slice (some ⟨g,0,none⟩) l.length cap).ownBlock=some b):=λx=>Kp.ah x _
 refine⟨by omega,λi j w'=>∃(i' Z:Nat) (C:List Nat),i=i'/\j=Z/\i'< Z/\Z<=l.length/\C.length=l.length/\aB tI B w' (.slice (some ⟨g,0,none⟩) l.length cap) (C.map iv)/\C.take i'=(l.take Z).filter (λs=> !q s)/\C.drop Z=l.drop Z/\Kp w w' (λb=>(Value.slice (some ⟨g,0,none⟩) l.length cap).ownBlock=some b),
  λ _ j _=>(l.length - j).toNat,⟨i0,i0+1,l,rfl,by omega,by omega,by omega,rfl,h.kp (Kp.ah x1 λ _=>False) (λ _ _ h=>h),?_,rfl,kx x1⟩,λi j w2 hI=>?_⟩
 ·rw [NG β,OO,Pr.2 λs hs=>by simp [hb s hs]];simp [hq]
 obtain⟨i,j,C,rfl,rfl,υ,hj,hC,ho,ht,hd,k2⟩:=hI;refine⟨_,_,cap,rfl,λι=>?_,λκ=>?_⟩
 ·have G:=oL ι;have e1:C[j]'(by omega)=l[j]:=by
   have :=Ot (fun(x:List Nat)=>x[0]?) hd;simp only [Qi,PS]at this;rw [Ny (by omega),Ny G]at this;exact Oh this
  have γ:C.drop (j+1)=l.drop (j+1):=by
   have :=Ot (fun(x:List Nat)=>x.drop 1) hd;simpa only [Qe]using this
  refine⟨g,0,_,cap,rfl,by omega,by omega,(l[j]:Int),?_,f,ca,rfl,hf,hp l[j] w2 k2 λw3 x3=>⟨λhk=>?_,λhk=>?_⟩⟩
  ·rw [NF,N7,N2,<-e1];exact(oZ ho (by omega)).1
  ·have hk:q l[j]=false:=by simpa using hk
   have o3:=ho.kp (Kp.ah x3 λ _=>False) (λ _ _ h=>h);refine⟨g,0,_,cap,rfl,by omega,by omega,?_,λw4 H=>⟨by omega,by omega,⟨i+1,j+1,C.set i l[j],by omega,by omega,by omega,by omega,by simpa using hC,?_,?_,?_,?_⟩,tN (by omega)⟩⟩
   ·rw [NF,N7,N2];have :=oZ o3 (j:=i) (by omega);exact⟨⟨_,this.1⟩,this.2.1⟩
   ·rw [NF,N7,N2]at H;rw [PU];exact aB.set o3 H (by rw [NH];omega)
   ·rw [NG (by simpa using(by omega:i< C.length)),PF (ND _),ht,List.getElem_set_self,NG G,OO];simp [hk]
   ·rw [List.drop_set_of_lt (by omega),γ]
   ·rw [NF,N7,N2]at H;exact Kp.trans (Kp.trans k2 (Kp.ah x3 λ _=>False) λ _ _ h=>h.elim) (H▸Kr.set w3 i _) λb _ e=>by rw [e];rfl
  ·have hk:q l[j]=true:=by simpa using hk
   refine⟨by omega,⟨i,j+1,C,rfl,by omega,by omega,by omega,hC,ho.kp (Kp.ah x3 λ _=>False) (λ _ _ h=>h),?_,γ,Kp.trans k2 (Kp.ah x3 λ _=>False) λ _ _ h=>h.elim⟩,tN (by omega)⟩;rw [ht,NG G,OO];simp [hk]
 ·have G:=oE κ hj;subst G;rw [Od]at ht;obtain⟨_,_,_,φ,_⟩:=oZ ho (j:=i) (by omega);have ς:i< cap:=by omega
  have μ:(if cap=(i:Int).toNat then(some ⟨g,0,none⟩:Option Addr)else Option.map (λx:Addr=>x.add ((i:Int).toNat* 1)) (some ⟨g,0,none⟩))=some ⟨g,i,none⟩:=by
   rw [NS (by omega),OQ,add_plain,NF,N7,N2]
  have ν:(if cap=(0:Int).toNat then(some ⟨g,0,none⟩:Option Addr)else Option.map (λx:Addr=>x.add ((0:Int).toNat* 1)) (some ⟨g,0,none⟩))=some ⟨g,0,none⟩:=by
   rw [NS (by have:(0:Int).toNat=0:=rfl;omega),OQ,add_plain];rfl
  refine⟨_,_,cap,rfl,by omega,by omega,by omega,_,_,_,rfl,.inr ⟨g,i,μ,λt ht=>?_,λξ δ=>⟨_,_,cap,rfl,by omega,by omega,by omega,?_⟩⟩⟩
  ·have :=oZ ho (j:=i+t) (by omega);exact⟨⟨_,this.1⟩,this.2.1⟩
  rw [ν];obtain⟨C2,ε,χ,ο⟩:=sJ (Int.toNat (l.length:Int) - Int.toNat (i:Int)) i C w2 ho (by omega);obtain⟨ζ,_⟩:=a8 (b:=g) (List.replicate (Int.toNat (l.length:Int) - Int.toNat (i:Int)) (iv 0)) w2 i;rw [show(iv 0:Value)= .int .i64 0 from rfl,<-δ]at ζ ε;have :=F9 ε (n:=i) (by omega);rw [ο,ht]at this;exact hR _ ξ (Kp.trans k2 ζ λb _ e=>by rw [e];rfl) this λ _ h=>h
def BA:∀{K:List U},(∀t∈K,t.th=true/\Uq t/\t.Nr)->(tl K).bvs=K.flatMap BV
 | [],_=>rfl
 | t::K,h=>by
  obtain⟨h1,G,H⟩:=h t (Oa ..);have e:=yW _ (ND _) G H;rw [eF G H,fQ h1,jH h1,Om]at e;rw [show t::K=[t]++K from rfl,dX,Lv.bX,BA (K:=K) λx J=>h x (NJ _ J),e,OZ];simp
section
variable {t:P} {u:U}
def wD (u:U)(i:Nat)(p:U)(d:Nat):List Nat×Lv:=(no u.frL d++(td p).1,(tl (wo u.ths i i)).app (td p).2)
def Fq (su:SU t u)(uC:∀q∈u.ths,q.th=true/\Uq q/\q.Nr){i d:Nat}{p:U}(uq:Uq p)(nr:p.Nr)(f:Nat->Nat):Lv.tidy ((wD u i p d).1.map f) ((wD u i p d).2.map f)=td ((kf u i p d).map f):=by
 have H:∀q∈wo u.ths i i,q.th=true/\Uq q/\q.Nr:=λq G=>uC q (eX G)
 have Z:=oy H;have J:∀z∈(wo u.ths i i++[p]).map (λq=>(Lv.dC f (td q),q.map f)),Pc z.1 z.2:=λz J=>by
  obtain⟨q,G,rfl⟩:=Oe.1 J;rcases NI.1 G with G | G
  ·exact Pc.map f (H q G).2.1 (H q G).2.2
  ·cases NT.1 G;exact Pc.map f uq nr
 have h:=vE ((no u.frL d).map f) (K:=[]) (λ _ h=>by cases h) J;have jm:∀l:List (List Nat×Lv),joinL (l.map (Lv.dC f))=Lv.dC f (joinL l):=λl=>by
  induction l with
  | nil=>rfl
  | cons x l ih=>
   simp only [N4,joinL,ih,Lv.dC,Oj];rw [Lv.eu]
 have e2:((wo u.ths i i++[p]).map (λq=>(Lv.dC f (td q),q.map f))).map (λz=>z.1)=((wo u.ths i i++[p]).map td).map (Lv.dC f):=by
  rw [OJ,OJ];rfl
 have e3:((wo u.ths i i++[p]).map (λq=>(Lv.dC f (td q),q.map f))).map (λz=>z.2)=(wo u.ths i i++[p]).map (T.map f):=by
  rw [OJ];rfl
 rw [e2,e3,jm,Oj,lC,Z,N4,PE,lJ]at h;have e4:(kf u i p d).map f=resL ((no u.frL d).map f) (parL ([]++(wo u.ths i i++[p]).map (T.map f))):=by
  unfold kf;rw [pc,nJ,Om]
 rw [e4,<-h];unfold wD;simp only [Lv.dC,Oj,Om];rfl
def JU {x:Nat}:∀{K:List U},(∀t∈K,t.th=true/\Uq t/\t.Nr)->(tl K).fh x->∃q∈K,q.Fr x
 | [],_,h=>by cases h
 | t::K,h,G=>by
  obtain⟨h1,H,J⟩:=h t (Oa ..);rw [show t::K=[t]++K from rfl,dX,pI]at G;rcases G with G | G
  ·have e:=eF H J;rw [fQ h1,jH h1]at e;exact⟨t,Oa ..,bf (Ac _ t (ND _) H x (by rw [e];exact G) (by rw [e];simp))⟩
  ·obtain⟨q,Z,hf⟩:=JU (λy hy=>h y (NJ _ hy)) G;exact⟨q,NJ _ Z,hf⟩
def tC (su:SU t u){i:Nat}(hi:i< u.ths.length){c d:Nat}{p:U}(ho:Off.snd c d p∈offs u.ths[i])(hd:d∈u.frL):Uq (kf u i p d)/\d∉BV (kf u i p d)/\(∀z∈BV (kf u i p d),26<=z/\z<=NN u)/\(∀z,(kf u i p d).Fr z->z=d\/z< 26)/\d<=NN u/\BV (kf u i p d)=no u.frL d++(wo u.ths i i++[p]).flatMap BV:=by
 obtain⟨c1,c2⟩:=su.Jz hi (p:=p) (il _ ho);have hN:=su.bound;have hm:=NO hi;obtain⟨sU,_⟩:=bM (su.smp _ hm) _ ho;have G:BV (kf u i p d)=no u.frL d++(wo u.ths i i++[p]).flatMap BV:=by unfold kf;rw [dP,dT]
 have H:d∉BV (kf u i p d):=λh=>by
  rw [G]at h;rcases NI.1 h with h | h
  ·exact(eR.1 h).2 rfl
  ·exact(Oc.1 su.nd).2.2 d hd d (c2 d h) rfl
 have hB:∀z∈BV (kf u i p d),26<=z/\z<=NN u:=λz hz=>by
  rw [G]at hz;rcases NI.1 hz with h | h
  ·exact⟨su.ge z (Ob _ (eR.1 h).1),hN z (.inl (eR.1 h).1)⟩
  ·exact⟨su.ge z (N1 _ (c2 z h)),hN z (.inr (.inl (c2 z h)))⟩
 have hF:∀z,(kf u i p d).Fr z->z=d\/z< 26:=λz hz=>by
  obtain⟨h1,h2⟩:=c8.1 hz;obtain⟨q,J,Z⟩:=iw.1 h2;have hu:∃q∈u.ths,q.Fr z:=by
   rcases NI.1 J with J | J
   ·exact⟨q,eX J,Z⟩
   ·cases NT.1 J;exact⟨_,hm,sU.fr z (.inr (.inr Z))⟩
  rcases su.free z hu with h | h
  ·by_cases e:z=d
   ·exact .inl e
   ·exact absurd (eR.2 ⟨h,e⟩) h1
  ·exact .inr h.1
 refine⟨⟨by rw [G];exact((qc _ _).append (Ov _)).nodup c1,λx hx hf=>?_⟩,H,hB,hF,hN d (.inl hd),G⟩;have :=hB x hx;rcases hF x hf with rfl | h
 ·exact H hx
 ·omega
def Cw (su:SU t u)(uC:∀q∈u.ths,q.th=true/\Uq q/\q.Nr){i d:Nat}{p:U}(uq:Uq p)(nr:p.Nr):((wD u i p d).1++(wD u i p d).2.bvs).Perm (no u.frL d++(wo u.ths i i++[p]).flatMap BV):=by
 have G:∀q∈wo u.ths i i,q.th=true/\Uq q/\q.Nr:=λq H=>uC q (eX H)
 have e:=yW _ (ND _) uq nr;unfold wD;rw [Lv.bX,BA G,OZ,Ou,List.flatMap_nil,N9,<-e,Oi];refine List.Perm.append_left _ ?_;rw [<-Oi,<-Oi];exact List.Perm.append_right _ Qo
def Ir (su:SU t u)(uC:∀q∈u.ths,q.th=true/\Uq q/\q.Nr){i:Nat}(hi:i< u.ths.length){c d:Nat}{p:U}(ho:Off.snd c d p∈offs u.ths[i])(hd:d∈u.frL)(uq:Uq p)(nr:p.Nr):ur (wD u i p d).1 (wD u i p d).2:=by
 have hK:∀q∈wo u.ths i i,q.th=true/\Uq q/\q.Nr:=λq G=>uC q (eX G)
 obtain⟨v1,v2,v3,v4,v5,v6⟩:=tC su hi ho hd;have pm:=Cw su uC (i:=i) (d:=d) uq nr;rw [<-v6]at pm;have nd:((wD u i p d).1++(wD u i p d).2.bvs).Nodup:=pm.nodup_iff.2 v1.nd;refine⟨nd,λx hx H=>?_,λx hx=>(v3 x (pm.mem_iff.1 hx)).1⟩;have J:x∉(wD u i p d).1:=λh=>(Oc.1 nd).2.2 x h x hx rfl
 have hV:=pm.mem_iff.1 (N1 _ hx);have β:x∉no u.frL d:=λh=>J (Ob _ h)
 have Z:(∃q∈wo u.ths i i++[p],q.Fr x)->False:=fun⟨q,G,H⟩=>v1.nf x hV (by unfold kf;exact c8.2 ⟨β,iw.2 ⟨q,G,H⟩⟩)
 rcases(pI x _ _).1 H with h | h
 ·obtain⟨q,G,H⟩:=JU hK h;exact Z ⟨q,Ob _ G,H⟩
 ·exact Z ⟨p,N1 _ (NT.2 rfl),bf (Ac _ p (ND _) uq x h λh=>J (N1 _ h))⟩
def Fl (su:SU t u){i:Nat}(hi:i< u.ths.length){c d:Nat}{p:U}(ho:Off.snd c d p∈offs u.ths[i])(hd:d∈u.frL){N n:Nat}{f:Nat->Nat}(H:EZ N (kf u i p d) d n f)(hn:n< 26)(hN:∀z∈BV (kf u i p d),z<=N)(Z:d<=N)(G:26<=N):Nu ((kf u i p d).map f)/\iz ((kf u i p d).map f)=iz (EY u i p d n):=by
 obtain⟨v1,v2,v3,v4,v5,v6⟩:=tC su hi ho hd;have J:=JO u;have nu:∀{N:Nat} {f:Nat->Nat},EZ N (kf u i p d) d n f->d<=N->26<=N->Nu ((kf u i p d).map f):=λ{N f} H hN J=>by
  have β:∀z,(kf u i p d).Fr z->z<=N:=λz hz=>by rcases v4 z hz with rfl | h<;>omega
  refine⟨H.uq v1 β (by omega),λy hy=>?_,λx hx=>?_⟩
  ·rcases H.fr v1 y (bf hy)with rfl | ⟨h1,h2⟩
   ·exact hn
   ·exact(v4 y h2).resolve_left h1
  ·rw [dS]at hx;obtain⟨y,hy,rfl⟩:=Oe.1 hx;have :=H.fb y hy;omega
 have ae:∀{N:Nat} {f:Nat->Nat},EZ N (kf u i p d) d n f->(∀z∈BV (kf u i p d),z<=N)->d<=N->26<=N->AE (aG σ0 d (σ0 n)) (kf u i p d) σ0 ((kf u i p d).map f):=λ{N f} H hB hN J=>by
  have β:∀z,(kf u i p d).Fr z->z<=N:=λz hz=>by rcases v4 z hz with rfl | h<;>omega
  exact H.ae v1 v2 β (by omega) hB σ0
 have hg:=Hg (NN u) n v2;exact⟨nu H Z G,Gn (nu H Z G) (nu hg v5 J) ((ae H hN Z G).symm.trans (ae hg (λz hz=>(v3 z hz).2) v5 J))⟩
def CU {X:Type}{P:Nat->Bool}:∀(l:List X) (k:Nat),(∀n,k<=n->P n=false)->kQ P l k=l
 | [],k,_=>gk ..
 | y::l,k,h=>by
  rw [bO,h k (ND _),CU l (k+1) λn G=>h n (by omega)];rfl
def vO {X:Type}:∀(l:List X) (k i:Nat),kQ (λn=>n==k+i||n==k+i) l k=l.eraseIdx i
 | [],k,i=>by rw [gk];simp
 | y::l,k,0=>by
  rw [bO,CU l (k+1) λn G=>by simp;omega];simp
 | y::l,k,i+1=>by
  have h:=vO l (k+1) i;rw [show k+1+i=k+(i+1) by omega]at h;rw [bO,h];simp
def G0 {X:Type}(l:List X)(i:Nat):wo l i i=l.eraseIdx i:=by
 have :=vO l 0 i;rw [N2]at this;rw [BC,this]
end
section
variable {t:P} {u:U}
def Ij (su:SU t u)(β:u.size<=60){i d:Nat}{p:U}(hp:p.size<=60)(uq:Uq p)(nr:p.Nr):(wD u i p d).2.sh true=true/\(wD u i p d).1.length+(wD u i p d).2.tot<=1000/\((wD u i p d).1++(wD u i p d).2.bvs).length<=1000:=by
 have uC:=su.th;have hK:∀q∈wo u.ths i i,q.th=true/\Uq q/\q.Nr:=λq J=>uC q (eX J)
 have j1:=oy hK;have γ:=gO p;have H:=gO u;have e:=eF su.nu.uq su.nr;rw [e]at H;simp only at H;have h0:(no u.frL d).length<=u.frL.length:=(qc _ _).length_le;have δ:(tl (wo u.ths i i)).tot<=(tl u.ths).tot:=by
  have h1:=GP (λq J=>(uC q J).1) (λn=>n==i||n==i) (l:=u.ths);rw [BC,<-h1,gQ];have h2:=sZ (nO (λn=>n==i||n==i) (tl u.ths).bc 0);have h3:=gQ (tl u.ths).bc;rw [j6]at h3;omega
 have G:(tl (wo u.ths i i)).sh true=true:=by
  have :=tX (l:=(wo u.ths i i).map td) λx hx=>by
   obtain⟨q,_,rfl⟩:=Oe.1 hx;exact zJ q
  rw [j1]at this;exact this
 have ε:((wo u.ths i i).flatMap BV).length<=(u.ths.flatMap BV).length:=by
  rw [BC];have:∀{l m:List U},l.Sublist m->(l.flatMap BV).length<=(m.flatMap BV).length:=λh=>by
   induction h with
   | slnil=>exact ND _
   | cons a _ ih=>rw [Ou,NB];omega
   | cons_cons a _ ih=>rw [Ou,Ou,NB,NB];omega
  exact this (nO _ _ _)
 have ζ:(u.ths.flatMap BV).length<=60:=by
  have G:=su.nr.shape;have Z:BV u=u.frL++u.ths.flatMap BV:=by
   have:BV u=BV (resL u.frL (parL u.ths)):=by rw [<-G]
   rw [this,dP,dT]
  have :=fT u;rw [Z,NB]at this;omega
 have η:(td p).2.bvs.length<=60* 4+60:=by
  have h2:=Ot List.length (yW _ (ND _) uq nr);have :=fT p;rw [NB]at h2;omega
 unfold wD;refine⟨Lv.fO G (zJ p),?_,?_⟩
 ·rw [Lv.bP,NB];omega
 ·rw [Lv.bX,BA hK];simp only [NB];omega
def Ic {D:Nat->Prop}{w:World}{q:U}{x:Value}(Z:q.th=true)(h:ab D w (tl [q]) [x]):∃g,x=ptr g:=by
 cases q<;>first
  | (cases Z;done)
  | (obtain⟨t,G,a',b',vr,H,⟨g,J,_⟩,_⟩:=h;obtain⟨rfl,_⟩:=Ow H;exact⟨g,J⟩)
  | (obtain⟨t,G,a',b',vp,us,H,⟨g,J,_⟩,_⟩:=h;obtain⟨rfl,_⟩:=Ow H;exact⟨g,J⟩)
def JH {D:Nat->Prop}{w:World}:∀{l:List U} {ts:List Value},ts.length=l.length->(∀j (h:j< l.length) (H:j< ts.length),ab D w (tl [l[j]]) [ts[j]])->ab D w (tl l) ts
 | [],[],_,_=>rfl
 | q::l,x::ts,h,k=>by
  rw [show q::l=[q]++l from rfl,dX];exact ab.app (ts:=[x]) (k 0 (by simp) (by simp)) (JH (by simpa using h) λj h1 G=>k (j+1) (by simpa using h1) (by simpa using G))
def Dm:∀{ts:List Value},(∀x∈ts,∃g,x=ptr g)->∃gs:List Nat,ts=gs.map ptr
 | [],_=>⟨[],rfl⟩
 | x::ts,h=>by
  obtain⟨g,rfl⟩:=h x (Oa ..);obtain⟨gs,rfl⟩:=Dm λy G=>h y (NJ _ G)
  exact⟨g::gs,rfl⟩
end
section
variable {t:P} {u:U} {b s n0 c:Nat} {w w1:World} {E:List Ev} {M D:Nat->Prop}
def Ly (hu:u=(num t e0 0).1)(hn0:n0=(num t e0 0).2)(ok:nE t)(su:SU t u)(hsz:u.size<=60)(h:rC b s n0 c w w1 E M){bl:Nat}(hcl:w1.cell? ⟨b,2,none⟩=some (ptr bl))(hl:aJ D w1 (td u) (ptr bl))(hD:∀g,D g->g≠b/\g< w.heap.size){i d e:Nat}{p:U}(hi:i< u.ths.length)(ho:Off.snd e d p∈offs u.ths[i])(hd:d∈u.frL)(he:e< 26)
  {Z:Nat} {vr:Value} {sq:Bool} (c40:∀j,j< 5->w1.cell? ⟨Z,j,none⟩=(fB 33 e d vr sq)[j]?) (hb40:Z< w1.heap.size) (hMb:¬M Z) (hbb:Z≠b) (hvr:aJ D w1 (td p) vr) {n3:UInt8} (hn3:lt n3=true) (hacc:E.length<=1000000) (hc:n0+c<=4294900000) {K:QU}
  (hK:∀w3 M',rC b s n0 (c+1000) w w3 (E++[([ρ0 e,33,35,n3],iz (EY u i p d (e0 n3)))]) M'->Kp w1 w3 (λg=>g=b\/M g)->(∀g,M' g->M g\/w1.heap.size<=g)->K w3):
  bS (ptr b) λb91 o92=>eG w1 b91 (o92+2) λv93=>bS v93 λb94 o95=>eG w1 b94 (o95+1) λv96=>uu 149 #[v96] w1 λv97 w98=>cR ((i:Int)+1)/\uu 148 #[v97,Value.int IntKind.i64 i,Value.int IntKind.i64 ((i:Int)+1)] w98 λv99 ο=>oneV v99=true/\
   hZ ο (Obj.cells #[Value.slice none 0 0,v99] 129) λβ γ=>bS (ptr b) λb103 o104=>eG γ b103 (o104+2) λv105=>bS v105 λb106 o107=>eG γ b106 (o107+0) λv108=>uu 151 #[v108] γ λv109 w110=>uu 150 #[v109,Value.func (Fn.func 152) #[] #[Value.pointer (some ⟨Z,0,none⟩)]] w110 λv111 w112=>oneV v111=true/\
   nG w112 β 0 v111 λψ=>eG ψ Z 3 λv115=>fC 153 #[Value.pointer (some ⟨β,0,none⟩),v115] ψ λG=>lx G λS117 ι=>bS (ptr b) λb119 o120=>ux S117 Z 2 λn121=>hZ ι (Obj.map #[] 0) λκ η=>S117 η/\∃(r124:Nat) (m125:Value->Option Value),Value.map (some κ)=Value.map (some r124)/\IsMap η r124 (TypeDesc.int IntKind.i64) m125/\
   ∀δ:World,IsMap δ r124 (TypeDesc.int IntKind.i64) (fU m125 (Value.int IntKind.i64 n121) (Value.int IntKind.i64 ((n3 - 97:UInt8).toNat:Int)))->df η δ r124->uu 154 #[Value.pointer (some ⟨b119,o120+0,none⟩),Value.pointer (some ⟨β,0,none⟩),Value.map (some κ)] δ λv127 ς=>S117 ς/\Bw 117 #[v127] ς λs129 q130 H=>S117 H/\KW H Z 1 λn132=>K9 123 #[Value.int IntKind.i64 n132] H λμ w134=>
   List.length μ+[(33:UInt8),35].length<=4611686018427387904/\((0:Int)<=n3.toNat/\(n3.toNat:Int)< 128)/\(μ++[33,35]).length+[UInt8.ofNat ((n3.toNat:Int)).toNat].length<=4611686018427387904/\fC 122 #[ptr s,Value.string (ay (μ++[33,35]++[UInt8.ofNat ((n3.toNat:Int)).toNat])),Value.string (ay s129),Value.bool q130] w134 K:=by
 have hb:=h.hb;have s0:=h.km.size;have hDM:∀g,D g->¬M g:=λg J hM=>by have :=(hD g J).2;have :=(h.rs.mr g hM).1;omega
 obtain⟨bl',vo,vt,ts,e1,k2,k3,k4,k5,k6,k7,k8,k9⟩:=CS su hl;cases e1;have uC:=su.th;obtain⟨sU,_⟩:=bM (su.smp _ (NO hi)) _ ho;have uqp:Uq p:=(su.xp hi sU (il _ ho)).snd;have nrp:p.Nr:=sU.nr (su.nrs _ (NO hi));have hps:p.size<=60:=by have h1:=sU.size;have h2:=kc u _ (NO hi);simp only [Off.tm,T.size]at h1;omega
 have hfl:u.frL.length<=240:=by
  have h1:=gO u;rw [eF su.nu.uq su.nr]at h1;simp only at h1;omega
 have htl:=xt u;obtain⟨gs,hgs⟩:∃gs:List Nat,ts=gs.map ptr:=Dm λx hx=>by
  obtain⟨j,hj,rfl⟩:=List.getElem_of_mem hx;exact Ic (uC _ (NO (by omega))).1 (k9 j (by omega) hj)
 have hgl:gs.length=u.ths.length:=by rw [<-k8,hgs,NH]
 have hbl1:b< w1.heap.size:=by omega
 refine⟨b,0,rfl,ptr bl,hcl,bl,0,rfl,vt,k5,?_⟩;refine GA k7 (by rw [hgs];simp [Pf,oneV,ptr]) (by omega) λv97 w98 x98 o97=>⟨by omega,?_⟩
 rw [hgs]at o97;refine L5 o97 (by omega) (by omega) λv99 ο kk100 o99 hv99=>⟨o99.qV,λβ γ χ ε=>?_⟩
 have b97:=o97.block;have x100:Ex w1 ο:=Ex.below x98 (Kp.below kk100 x98.size λg J e=>by have :=(b97 g e).1;omega);have x102':Ex ο γ:=ε▸Ex.alloc ο _;have υ:=Ex.trans x100 x102';have s102:γ.heap.size=ο.heap.size+1:=by rw [ε,size_alloc]
 have s100:=x100.size;refine⟨b,0,rfl,ptr bl,by rw [υ.cell (a:=⟨b,0+2,none⟩) hbl1];exact hcl,bl,0,rfl,vo,by rw [υ.cell (a:=⟨bl,0+0,none⟩) k3];exact k4,?_⟩;refine rN (k6.ex υ) (by omega) λv109 w110 x110 o109=>?_
 have b109:=o109.block;refine Ld (q:=λx=>decide (x=d)) o109 (by omega) (by kernel_rfl) (λx wa ka R hR=>?_) λv111 w112 k112 o111 hv111=>⟨o111.qV,?_⟩
 ·refine FL (y:=d) (x:=x) ?_ ?_
  ·have hx:=Ex.trans υ x110;rw [Nw (w:=w110) (ka.block Z (by have :=hx.size;omega) λe=>by have :=(b109 Z e).1;omega),hx.cell (a:=⟨Z,2,none⟩) hb40];exact c40 2 (by omega)
  ·have :=hR wa (Ex.refl _);rw [show decide ((x:Int)=(d:Int))=decide (x=d)from Pp.2 (by omega)];exact this
 have x112:Ex γ w112:=Ex.below x110 (Kp.below k112 x110.size λg J e=>by have :=(b109 g e).1;omega);have b99:=o99.block;have bd102:jr w1.heap.size γ β [] ((gs.eraseIdx i).map ptr) λg=>g=β\/v99.ownBlock=some g:=by
  refine⟨by omega,by omega,.inl rfl,λg J=>?_,λj=>?_,.slice none 0 0,v99,?_,?_,aB.nil _ _ _,o99.kp (Kp.ah x102' λ _=>False) (λ _ _ h=>h),λg J=>(by cases J),λg J=>⟨.inr J,?_⟩,λg J=>(by cases J)⟩
  ·rcases J with rfl | J
   ·omega
   ·have :=b99 g J;omega
  ·rw [ε,χ];exact aV _ _ _ _
  ·rw [ε,χ];exact aa rfl
  ·rw [ε,χ];exact aa rfl
  ·have :=b99 g J;omega
 have c101:γ.cell? ⟨β,0,none⟩=some (.slice none 0 0):=by rw [ε,χ];exact aa rfl
 refine⟨⟨⟨_,by rw [x112.cell (a:=⟨β,0,none⟩) (show β< _ by omega)];exact c101⟩,by rw [Pw x112 (show β< _ by omega)];exact bd102.fr 0⟩,λψ hw114=>?_⟩;obtain⟨ν,k114⟩:=bd102.LM c101 (Kp.ah x112 _) (o111.mono (by omega)) (λg J=> .inr (b109 g (hv111 g J)).1) hw114;have φ:Ex w1 ψ:=Ex.below υ (Kp.below k114 υ.size λg J hM=>by have :=(bd102.mr g hM).1;omega);have s114:=φ.size;refine⟨vr,by rw [φ.cell (a:=⟨Z,3,none⟩) hb40];exact c40 3 (by omega),?_⟩;have hDw1:∀g,D g->g< w1.heap.size:=λg J=>by have :=(hD g J).2;omega
 obtain⟨ts2,hl2,ht2⟩:=aJ.ths (aJ.ex hvr φ);have hts2:=ht2.len;have hts2':=bK (td p).2;have htp:=gO p;have hno:(no u.frL d).length<=u.frL.length:=(qc _ _).length_le;have hfe:(u.frL.filter λx=> !decide (x=d))=no u.frL d:=by unfold no;congr 1;funext x;simp
 rw [hfe]at ν;refine nU ν φ.size hl2 ht2.all (λg J hM=>by have :=(ν.mr g hM).1;have :=hDw1 g J;omega) ⟨by omega,by rw [NH,P8];split<;>omega⟩ λG M3 k116 bd116 hM3=>?_
 have k0116:Kp ψ G λg=>w1.heap.size<=g:=Kp.mono (λg J=>(ν.mr g J).1) k116
 have x116:Ex w1 G:=Ex.below φ (Kp.below k0116 φ.size λg J hM=>by omega);have s116:=x116.size;have thK:ab D G (tl (wo u.ths i i)) ((gs.eraseIdx i).map ptr):=by
  rw [G0];refine JH (by rw [NH,P8,P8,hgl]) λj hj hj'=>?_
  have hj2:j< (gs.eraseIdx i).length:=by simpa using hj'
  have e1:∀m (hm:m< u.ths.length),ab D G (tl [u.ths[m]]) [ptr (gs[m]'(by omega))]:=λm hm=>by
   have h1:=k9 m hm (by omega);have h2:ts[m]'(by omega)=ptr (gs[m]'(by omega)):=by simp only [hgs,OK]
   rw [h2]at h1;exact ab.ex h1 x116
  rw [OK];simp only [List.getElem_eraseIdx];rw [P8,N' hi]at hj;split
  ·exact e1 j (by omega)
  ·exact e1 (j+1) (by omega)
 have thp:ab D G (td p).2 ts2:=ab.kp k116 (λg J hM=>by have :=(ν.mr g hM).1;have :=hDw1 g J;omega) ht2;have lv116:gg (λg=>g≠b/\g< G.heap.size) G (ptr β) (wD u i p d).1 (ab (λg=>g≠b/\g< G.heap.size) G (wD u i p d).2):=
  bd116.Md (λg J hB=>⟨by omega,J⟩) (ab.app (ab.sub (λg J hd=>⟨(hD g hd).1,J⟩) thK) (ab.sub (λg J hd=>⟨(hD g hd).1,J⟩) thp))
 obtain⟨hsh,htot,hbvs⟩:=Ij su hsz (i:=i) (d:=d) hps uqp nrp;have huq:=Ir su uC hi ho hd uqp nrp;have pmv:=Cw su uC (i:=i) (d:=d) uqp nrp;obtain⟨v1,v2,v3,v4,v5,v6⟩:=tC su hi ho hd;rw [<-v6]at pmv;have ot:=Fq su uC (i:=i) (d:=d) uqp nrp;generalize wD u i p d=L0 at*;have l40:Z< G.heap.size:=by omega
 have c116:∀j,j< 5->G.cell? ⟨Z,j,none⟩=(fB 33 e d vr sq)[j]?:=λj hj=>by rw [x116.cell (a:=⟨Z,j,none⟩) hb40];exact c40 j hj
 refine⟨λw'=>Kp G w' (λg=>g=b\/G.heap.size<=g),λι hw118=>?_⟩;have ω:Ex G ι:=hw118▸Ex.drew G;have s118:ι.heap.size=G.heap.size:=by rw [hw118];rfl
 have nb40:¬(Z=b\/G.heap.size<=Z):=λe=>by rcases e with e | e<;>omega
 refine⟨Kp.ah ω _,b,0,rfl,(d:Int),λw' k=>by rw [Nw (w:=G) (k.block Z l40 nb40)];exact c116 2 (by omega),λκ η hb122 hw123=>?_⟩;have x123:Ex ι η:=hw123▸Ex.alloc ι _;have s123:η.heap.size=ι.heap.size+1:=by rw [hw123,size_alloc]
 have hm123:IsMap η κ (.int .i64) (fk []):=⟨#[],0,by rw [hw123,hb122];unfold World.alloc;simp,⟨by simp,by simp,by simp⟩,by simp,λq=>rfl⟩
 refine⟨Kp.ah (Ex.trans ω x123) _,κ,_,rfl,hm123,λδ hm126 ξ=>?_⟩;have k126:Kp η δ (λg=>g=κ):=⟨ξ.os,ξ.tape,ξ.output,by rw [ξ.size];exact ND _,λg _ J=>ξ.block g J⟩
 have s126:=k126.size;have kp126:Kp G δ (λg=>g=b\/G.heap.size<=g):=Kp.trans (Kp.ah (Ex.trans ω x123) _) k126 λg _ e=> .inr (by omega)
 have x16126:Ex G δ:=Ex.below (Ex.trans ω x123) (Kp.below k126 (Ex.trans ω x123).size λg J e=>by omega);have x126:Ex w1 δ:=Ex.trans x116 x16126;have mf126:jq δ κ (aG id d (n3 - 97:UInt8).toNat):=sB (F:=id) (λz=> .inr ⟨rfl,rfl⟩) hm126;rw [show(n3 - 97:UInt8).toNat=e0 n3 from gN hn3]at mf126;have f2:e0 n3< 26:=by have :=a6 hn3;unfold e0;omega
 obtain⟨n,mn,hn1,hn2⟩:=h.mc;refine G1 _ (ND _) hsh (gg.ex lv116 x16126) (λg J e=>?_) huq (mn.ex x126) mf126 (by omega) (by rw [NB]at hbvs;omega) (by omega) λv127 ς F' n' q128 mk128 mf128 ζ l128=>?_
 ·rcases e with e | e
  ·exact J.1 e
  ·have :=J.2;omega
 have s128:=q128.size;have kp128:Kp G ς (λg=>g=b\/G.heap.size<=g):=Kp.trans kp126 (Kp.mono (λg e=>e) q128.kp) λg J e=>e.elim .inl λe=> .inr (by omega)
 have km128:Km b w1 ς:=⟨Kp.trans (Kp.ah x126 _) q128.kp λg J e=>e.elim id λe=>by omega,λj hj=>by rw [q128.ce j hj,x126.cell (a:=⟨b,j,none⟩) hbl1],λj=>by rw [q128.fz j,Pw x126 hbl1]⟩
 refine⟨kp128,?_⟩;have hrl:=ζ.len;have hrle:=ζ.le;have hF:EZ (n+100) (kf u i p d) d (e0 n3) F':=by
  refine⟨?_,λz h1 h2=>?_,λz hz=>(ζ.rng z (pmv.mem_iff.2 hz)).1,λz hz y hy e=>ζ.inj z (pmv.mem_iff.2 hz) y (pmv.mem_iff.2 hy) e⟩
  ·rw [ζ.out d λh=>v2 (pmv.mem_iff.1 h)];simp [aG]
  ·rw [ζ.out z λh=>h2 (pmv.mem_iff.1 h)];simp [aG,h1]
 have hbo:∀z,(z∈u.frL\/z∈u.ths.flatMap BV\/∃q∈u.ths,q.Fr z)->z<=n+100:=λz hz=>by
  subst hu;have :=nE.bound ok su z hz;omega
 obtain⟨c1,c2⟩:=su.Jz hi (p:=p) (il _ ho);obtain⟨nu,hsame⟩:=Fl su hi ho hd hF f2 (λz hz=>by
  rw [v6]at hz;rcases NI.1 hz with h | h
  ·exact hbo z (.inl (eR.1 h).1)
  ·exact hbo z (.inr (.inl (c2 z h)))) (hbo d (.inl hd)) (by omega)
 have fin:∀(sx:aH) (q:Bool) (H:World),Ex ς H->sx=(iz (EY u i p d (e0 n3))).getD []->q=(iz (EY u i p d (e0 n3))).isSome->Kp G H (λg=>g=b\/G.heap.size<=g)/\KW H Z 1 λn132=>K9 123 #[Value.int IntKind.i64 n132] H λμ w134=>
   List.length μ+[(33:UInt8),35].length<=4611686018427387904/\((0:Int)<=n3.toNat/\(n3.toNat:Int)< 128)/\(μ++[33,35]).length+[UInt8.ofNat ((n3.toNat:Int)).toNat].length<=4611686018427387904/\fC 122 #[ptr s,Value.string (ay (μ++[33,35]++[UInt8.ofNat ((n3.toNat:Int)).toNat])),Value.string (ay sx),Value.bool q] w134 K:=λsx q H θ e1 e2=>by
  have kp131:Kp G H (λg=>g=b\/G.heap.size<=g):=Kp.trans kp128 (Kp.ah θ λ _=>False) λ _ _ h=>h.elim
  have hlt:=a6 hn3;refine⟨kp131,e,by rw [Nw (w:=G) (kp131.block Z l40 nb40)];exact c116 1 (by omega),tz he ⟨by simp,⟨by omega,by omega⟩,by simp,?_⟩⟩;have hS:rC b s n0 (c+1000) w H E M:=by
   have km:=Km.trans h.km km128;exact⟨km.out (Kp.ah θ λ _=>False) (λ _ _ h=>h) hb,(h.rs.kp km128.kp λg hM e=>h.nb (e▸hM)).JM θ,⟨n',mk128.ex θ,by omega,by omega⟩,hb⟩
  have elb:[ρ0 e]++[33,35]++[UInt8.ofNat ((n3.toNat:Int)).toNat]=[ρ0 e,33,35,n3]:=by
   rw [NF,UInt8.ofNat_toNat];rfl
  rw [elb,e1,e2];have k131:Kp w1 H (λg=>g=b\/M g):=Kp.trans (Kp.mono (λ _ e=> .inl e) km128.kp) (Kp.ah θ λ _=>False) λ _ _ h=>h.elim
  refine hS.add hacc ([ρ0 e,33,35,n3],iz (EY u i p d (e0 n3))) λw3 M' r3 k3 hM'=>hK w3 M' r3 (Kp.trans k131 k3 λ _ _ h=> .inr h) λg J=>(hM' g J).imp id λh=>by have :=k131.size;omega
 refine p8 (l:=L0.2.map F') (o:=L0.1.map F') l128 (by rw [gU];exact hsh) (by rw [NH,jI];omega) (by rw [ot];exact BS nu.uq nu.bv) (by rw [ot];exact Gj nu) λH θ=>?_
 rw [ot];have hNF:DO (td ((kf u i p d).map F'))=iz (EY u i p d (e0 n3)):=hsame;rw [hNF];exact⟨λsx hs=>fin sx true H θ (by rw [hs];rfl) (by rw [hs];rfl),λhn=>fin [] false H θ (by rw [hn];rfl) (by rw [hn];rfl)⟩
end
def IP (u:U):Prop:=∃i,i< u.ths.length/\∃a b p,Off.snd a b p∈offs (u.ths.getD i .nil)/\a∉u.frL/\b∈u.frL
def D0 {t:P}{u:U}(hu:u=(num t e0 0).1){n0:Nat}(hn0:n0=(num t e0 0).2)(ok:nE t)(su:SU t u)(hsz:u.size<=60){b s c:Nat}{w w1:World}{M D:Nat->Prop}(h:rC b s n0 c w w1 [] M){bl:Nat}(hcl0:w.cell? ⟨b,2,none⟩=some (ptr bl))(hl0:aJ D w (td u) (ptr bl))(hD:∀g,D g->g≠b/\g< w.heap.size)
  {nm:UInt8} {any:Bool} (ψ:any=true->lt nm=true) (hc:n0+c<=4000000000) {R:QU} (hR:∀w3 M',rC b s n0 (c+1000* (zh (bn u nm) u).length) w w3 (zh (bn u nm) u) M'->Rel b w1 M w3 M'->R w3)
  (hRb:any=false->IP u->∀w3 M',Rel b w1 M w3 M'->w3.cell? ⟨s,2,none⟩=some (.bool true)->R w3):
  QV 82 #[ptr b,ptr s,.int .u8 nm.toNat,.bool any] w1 (ax [] R):=by
 have hb:=h.hb;obtain⟨bl',vo,vt,ts,e1,k2,k3,k4,k5,k6,k7,k8,k9⟩:=CS su hl0;cases e1;obtain⟨at_,capt,hvt⟩:=k7.slice;have ξ:∀{w':World},Km b w w'->w'.cell? ⟨b,2,none⟩=some (ptr bl):=λk=>(k.ce 2 (by omega)).trans hcl0
 have cbl:∀{w':World},Km b w w'->∀{j:Nat} {x:Value},w.cell? ⟨bl,j,none⟩=some x->w'.cell? ⟨bl,j,none⟩=some x:=λk j x hx=>by rw [Nw (w:=w) (k.kp.block bl k3 (hD bl k2).1)];exact hx
 have hlw:∀{w':World},Km b w w'->aJ D w' (td u) (ptr bl):=λk=>aJ.kp hl0 k.kp λg hg=>(hD g hg).1
 have how:∀{w':World},Km b w w'->ew D w' vo (u.frL.map iv):=λk=>k6.kp k.kp λg hg=>(hD g hg).1
 have tcell:∀{w':World},Km b w w'->∀i (hi:i< ts.length),∃bt ot δ,vt= .slice (some ⟨bt,ot,none⟩) ts.length δ/\w'.cell? ⟨bt,ot+i,none⟩=some ts[i]:=λk i hi=>by
  rcases k7 with⟨_,h0⟩ | ⟨bt,ot,δ,e,hbD,hb',J⟩
  ·rw [h0]at hi;simp at hi
  ·exact⟨bt,ot,δ,e,by rw [Nw (w:=w) (k.kp.block bt hb' (hD bt hbD).1)];exact J i _ (Ny hi)⟩
 have tth:∀{w':World},Km b w w'->∀i (h:i< u.ths.length) (h':i< ts.length),ab D w' (tl [u.ths[i]]) [ts[i]]:=λk i h h'=>ab.kp k.kp (λg hg=>(hD g hg).1) (k9 i h h')
 have hthl:=xt u;have hfl:u.frL.length<=240:=by
  have h1:=gO u;rw [eF su.nu.uq su.nr]at h1;simp only at h1;omega
 have hol:∀i (h:i< u.ths.length),(offs u.ths[i]).length<=60:=λi h=>by
  have h1:=oS u.ths[i];have h2:=kc u _ (NO h);omega
 have hlE:∀i,i<=u.ths.length->((List.range i).flatMap (uz (bn u nm) u)).length<=3600:=λi hi=>by
  have h1:=sF (f:=uz (bn u nm) u) (c:=60) (l:=List.range i) λx hx=>by
   have hx:=Pg.1 hx;have h2:=qg (gT u nm x) (offs (u.ths.getD x .nil));rw [dW (by omega)]at h2;have :=hol x (by omega);unfold uz;rw [dW (by omega)];omega
  rw [Qr]at h1;have :=QL (show i<=60 by omega) (ND 60);omega
 refine jS (ptr b) (ptr s) nm any w1 R ?_;refine⟨b,0,rfl,ptr bl,ξ h.km,bl,0,rfl,vt,cbl h.km k5,at_,_,capt,hvt,λx w'=>∃(i:Nat) (M':Nat->Prop),x=i/\i<=u.ths.length/\rC b s n0 (c+1000* ((List.range i).flatMap (uz (bn u nm) u)).length) w w' ((List.range i).flatMap (uz (bn u nm) u)) M'/\Rel b w1 M w' M',λx _=>(ts.length - x).toNat,⟨0,M,rfl,OA _,by simpa using h,Rel.refl _ _ _⟩,λx ω hI=>?_⟩;obtain⟨i,ι,rfl,hi,κ,r17⟩:=hI;refine⟨λhlt=>?_,λhge=>?_⟩;rotate_left
 ·have hil:i=u.ths.length:=by simp only [NQ]at hge;omega
  rw [hil]at κ;exact hR ω ι κ r17
 have hi':i< ts.length:=by simp only [NL]at hlt;omega
 have η:i< u.ths.length:=by omega
 have ζ:=NO η;obtain⟨bt,ot,δ,hvt',hct⟩:=tcell κ.km i hi';have ο:=su.th _ ζ;have hacc1:=hlE i (by omega);have ek:(List.range (i+1)).flatMap (uz (bn u nm) u)=(List.range i).flatMap (uz (bn u nm) u)++uz (bn u nm) u i:=by rw [QJ,OZ];simp
 have eE0:uz (bn u nm) u i=(offs u.ths[i]).flatMap (bn u nm i):=by unfold uz;rw [dW η]
 refine⟨bt,ot,_,δ,hvt',by omega,by omega,ts[i],by rw [NF,N7];exact hct,?_⟩;have s17:=κ.km.size;refine Fh ο.1 ο.2.1 ο.2.2 (su.smp _ ζ) (by have :=kc u _ ζ;omega) (λg hg=>by have :=(hD g hg).2;omega) (tth κ.km i η hi') λv23 w24 xs x24 o23 m23=>?_
 have h24:=κ.ex x24;have r24:Rel b ω ι w24 ι:=(Rel.refl b ω ι).ex x24;obtain⟨a26,cap26,ς⟩:∃a cap,v23= .slice a (offs u.ths[i]).length cap:=by
  rcases o23.cell with⟨h1,h2,_⟩ | ⟨g,cap,h1,_⟩
  ·exact⟨none,0,by rw [h1,h2]⟩
  ·exact⟨_,cap,h1⟩
 have hm1:=@tN ts.length i (by omega);have hol1:=hol i η;generalize hA:(List.range i).flatMap (uz (bn u nm) u)=A at*;refine⟨a26,_,cap26,ς,λx w'=>∃(j:Nat) (M':Nat->Prop),x=j/\j<=(offs u.ths[i]).length/\rC b s n0 (c+1000* (A++((offs u.ths[i]).take j).flatMap (bn u nm i)).length) w w' (A++((offs u.ths[i]).take j).flatMap (bn u nm i)) M'/\Rel b w24 ι w' M',λx _=>((offs u.ths[i]).length - x).toNat,⟨0,ι,rfl,OA _,by simpa using h24,Rel.refl _ _ _⟩,λx w31 hI=>?_⟩;obtain⟨j,ε,rfl,hj,υ,r31⟩:=hI;refine⟨λhlt2=>?_,λhge2=>?_⟩;rotate_left
 ·have hjl:j=(offs u.ths[i]).length:=by simp only [NQ]at hge2;omega
  rw [hjl,Od,<-eE0,<-ek]at υ;exact⟨by omega,⟨i+1,ε,by omega,by omega,υ,(r17.ex x24).trans r31⟩,hm1⟩
 have hjU:j< (offs u.ths[i]).length:=by simp only [NL]at hlt2;omega
 have hm2:=@tN (offs u.ths[i]).length j hjU;have hmU:=NO hjU;have hDM:∀{E:List Ev} {c:Nat} {w':World} {M':Nat->Prop},rC b s n0 c w w' E M'->∀g,D g->¬(g=b\/M' g):=λh' g hg e=>e.elim (hD g hg).1 λhM=>by have :=(hD g hg).2;have :=(h'.rs.mr g hM).1;omega
 have o31:cc ω.heap.size w31 v23 (offs u.ths[i]).length xs:=o23.kp r31.1 λg hg e=>by
  have h1:=(o23.block g hg).1;rcases e with e | e
  ·omega
  ·have :=(κ.rs.mr g e).2;omega
 have m31:OffsM D w31 (offs u.ths[i]) xs:=m23.kp r31.1 (hDM h24);obtain⟨g,capg,cs,hvg,β,J⟩:=H2 o31 m31 hjU;obtain⟨kk,a1,a2,vr,sq,rfl,hone⟩:=β.any;have etk:((offs u.ths[i]).take (j+1)).flatMap (bn u nm i)=((offs u.ths[i]).take j).flatMap (bn u nm i)++bn u nm i (offs u.ths[i])[j]:=by rw [NG hjU,OZ];simp
 have hacc2:(A++((offs u.ths[i]).take j).flatMap (bn u nm i)).length<=4000:=by
  have h1:=qg (gT u nm i) ((offs u.ths[i]).take j);rw [Og]at h1;rw [NB];omega
 rw [ς]at hvg;refine⟨g,0,_,capg,ς.trans hvg,by omega,by omega,kk,a1,a2,vr,sq,⟨J 0 _ rfl _ (by omega) (by omega),J 1 _ rfl _ (by omega) (by omega),J 2 _ rfl _ (by omega) (by omega),J 3 _ rfl _ (by omega) (by omega),J 4 _ rfl _ (by omega) (by omega),trivial⟩,λφ w42 hb41 hw42=>?_⟩;obtain⟨box1,Er⟩:=Ki (cs:=fB kk a1 a2 vr sq) rfl hb41 hw42;refine⟨⟨rfl,GM hone,box1⟩,λγ hw43=>?_⟩;obtain⟨x43,l43,θ⟩:=Er γ hw43;have G:=υ.ex x43;have r43:=r31.ex x43;have s31:=υ.km.size;have nM43:¬ε φ:=λhM=>by have :=(υ.rs.mr φ hM).2;omega
 have χ:φ≠b:=by omega
 generalize hA2:A++((offs u.ths[i]).take j).flatMap (bn u nm i)=A2 at*;have Z:∀{w':World} {M':Nat->Prop},rC b s n0 (c+1000* (A2++bn u nm i (offs u.ths[i])[j]).length) w w' (A2++bn u nm i (offs u.ths[i])[j]) M'->Rel b γ ε w' M'->cR ((j:Int)+1)/\(∃(j':Nat) (M':Nat->Prop),(j:Int)+1=j'/\j'<=(offs u.ths[i]).length/\rC b s n0 (c+1000* (A++((offs u.ths[i]).take j').flatMap (bn u nm i)).length) w w' (A++((offs u.ths[i]).take j').flatMap (bn u nm i)) M'/\Rel b w24 ι w' M')/\(((offs u.ths[i]).length:Int) - ((j:Int)+1)).toNat< (((offs u.ths[i]).length:Int) - j).toNat:=λ{w' M'} h r=>by
  refine⟨by omega,⟨j+1,M',by omega,by omega,?_,r43.trans r⟩,hm2⟩;rw [etk,<-Oi,hA2];exact h
 have hcs43:jW D γ (offs u.ths[i])[j] (fB kk a1 a2 vr sq):=β.ex x43;generalize (offs u.ths[i])[j]=oU at*;cases oU
 ·obtain⟨_,_,_,_,β,_⟩:=β;unfold fB at β;simp only [O5,Qk,QR,P0]at β;have e1:kk=126:=N6.1 (by omega);subst e1;exact⟨126,θ 0 (by omega),(λh=>by cases h),λ _=>Z (M':=ε) (by rw [show bn u nm i (.tau _)=[]from rfl,N9];exact G) (Rel.refl _ _ _)⟩
 rotate_left
 ·obtain⟨_,β,_⟩:=β;unfold fB at β;simp only [O5,Qk,QR,P0]at β;have e1:kk=63:=N6.1 (by omega);subst e1;exact⟨63,θ 0 (by omega),(λh=>by cases h),λ _=>Z (M':=ε) (by rw [show bn u nm i (.rcv _ _ _ _)=[]from rfl,N9];exact G) (Rel.refl _ _ _)⟩
 rename_i x y p;obtain⟨vr',sq',β,hvr⟩:=hcs43;unfold fB at β;simp only [O5,Qk,Value.bool.injEq,QR,P0]at β;have e1:kk=33:=N6.1 (by omega);have e2:a1=x:=by omega
 have e3:a2=y:=by omega
 have e4:vr=vr':=β.2.2.2.1;subst e1 e2 e3 e4;obtain⟨sU,_⟩:=bM (su.smp _ ζ) _ hmU;have oc:=su.own ⟨_,ζ,sU.fr a1 (.inl rfl)⟩;have od:=su.own ⟨_,ζ,sU.fr a2 (.inr (.inl rfl))⟩;have eE:bn u nm i (.snd a1 a2 p)=if a1∈u.frL then []else if a2∈u.frL then [([ρ0 a1,33,35,nm],if lt nm=true then iz (EY u i p a2 (e0 nm))else none)]else [([ρ0 a1,33,ρ0 a2],iz (EF u i p))]:=rfl
 refine⟨33,θ 0 (by omega),λ _=>⟨(a1:Int),θ 1 (by omega),CR (ξ G.km) (cbl G.km k4) (how G.km) (by omega) ⟨λhin=>?_,λH=>⟨(a2:Int),θ 2 (by omega),CR (ξ G.km) (cbl G.km k4) (how G.km) (by omega) ⟨λhn2=>?_,λμ=>⟨λha=>?_,λha=>?_⟩⟩⟩⟩⟩,(λh=>by cases h)⟩
 ·have hin:a1∈u.frL:=by simpa using hin
  exact Z (M':=ε) (by rw [eE,N' hin,N9];exact G) (Rel.refl _ _ _)
 ·have H:a1∉u.frL:=by simpa using H
  have hn2:a2∉u.frL:=by simpa using hn2
  obtain⟨_,h26⟩:=oc.2 H;obtain⟨_,h26'⟩:=od.2 hn2;rw [eE,NS H,NS hn2]at Z;refine⟨λtx q w'=>Ex γ w'/\tx=(iz (EF u i p)).getD []/\q=(iz (EF u i p)).isSome,J8 ok su hsz G (ξ G.km) (hlw G.km) hD η hmU (θ 3 (by omega)) l43 hvr λw3 tx q x3 e1 e2=>⟨x3,e1,e2⟩,λtx q w77 hJ=>?_⟩;obtain⟨x77,rfl,rfl⟩:=hJ;refine⟨λw'=>Kp γ w' (λg=>g=b\/ε g),λw79 hw79=>?_⟩;have ν:Ex γ w79:=Ex.trans x77 (hw79▸Ex.drew w77);have kx:∀{w':World},Ex γ w'->Kp γ w' (λg=>g=b\/ε g):=λx=>Kp.ah x _
  have cst:∀{w':World},Kp γ w' (λg=>g=b\/ε g)->∀j,j< 5->w'.cell? ⟨φ,j,none⟩=(fB 33 a1 a2 vr sq)[j]?:=λk j hj=>by
   rw [Nw (w:=γ) (k.block φ l43 λe=>e.elim χ nM43)];exact θ j hj
  refine⟨kx ν,(a1:Int),λw' k=>cst k 1 (by omega),(a2:Int),λw' k=>cst k 2 (by omega),tz h26 ⟨kx ν,by simp,tz h26' ⟨kx ν,by simp,?_⟩⟩⟩;have h79:=G.ex ν;refine h79.add (by omega) ([ρ0 a1,33,ρ0 a2],iz (EF u i p)) λw3 M' r3 k3 hM'=>?_
  have k43:Kp γ w3 (λg=>g=b\/ε g):=Kp.trans (kx ν) k3 λ _ _ h=> .inr h
  exact⟨k43,Z (r3.mono (by rw [NB];omega)) ⟨k43,λg hg=>(hM' g hg).imp id λh=>by have :=ν.size;omega⟩⟩
 ·have H:a1∉u.frL:=by simpa using H
  have μ:a2∈u.frL:=by simpa using μ
  have r0:=(r17.ex x24).trans r43;refine⟨s,0,rfl,⟨⟨_,G.rs.c2⟩,G.rs.f 2⟩,λw90 hw90=>hRb (by simpa using ha) ⟨i,η,a1,a2,p,by rw [dW η];exact hmU,H,μ⟩ w90 ε (r0.trans ⟨Kp.mono (S:=λg=>g=s) (λg e=> .inr (by rw [e];exact G.rs.mb)) (hw90▸Kr.set γ 2 _),λ _ h=> .inl h⟩) ?_⟩;rw [hw90];exact NW _ _ _ G.rs.c2
 ·have H:a1∉u.frL:=by simpa using H
  have μ:a2∈u.frL:=by simpa using μ
  obtain⟨_,h26⟩:=oc.2 H;have ψ:=ψ (by simpa using ha);rw [eE,NS H,N' μ,N' ψ]at Z;exact Ly hu hn0 ok su hsz G (ξ G.km) (hlw G.km) hD η hmU μ h26 θ l43 nM43 χ hvr ψ (by omega) (by omega) λw3 M' r3 k3 hM'=>Z (r3.mono (by rw [NB];simp only [OS];omega)) ⟨k3,hM'⟩
section
variable {t:P} {u:U} {b s n0 c:Nat} {w w1:World} {E:List Ev} {M D:Nat->Prop}
end
abbrev tQ:Nat:=149
def FP (p:Nat×Value):List Value:=[iv p.1,p.2]
def jT (B:Nat)(w:World)(v:Value)(l:List (Nat×Value)):Prop:=w.ownsRow B tQ 2 v l.length (l.flatMap FP)
section
variable {B:Nat} {w w':World} {v:Value} {l:List (Nat×Value)}
def C8:∀{l:List (Nat×Value)} {i:Nat} {p:Nat×Value},l[i]?=some p->(l.flatMap FP)[i* 2]?=some (iv p.1)/\(l.flatMap FP)[i* 2+1]?=some p.2
 | q::l,0,p,h=>by cases h;exact⟨rfl,rfl⟩
 | q::l,i+1,p,h=>by
  have :=C8 (l:=l) (i:=i) (p:=p) (by simpa using h);have e:(i+1)* 2=i* 2+2:=by omega
  rw [e];exact this
def jT.block (h:jT B w v l):∀b,v.ownBlock=some b->B<=b/\b< w.heap.size:=PX h
def jT.kp {S:Nat->Prop}(h:jT B w v l)(k:Kp w w' S)(H:∀g,v.ownBlock=some g->¬S g):jT B w' v l:=by
 refine⟨h.1,?_⟩;rcases h.2 with J | ⟨g,cap,cur,rfl,hb,G,rest⟩
 ·exact .inl J
 ·exact .inr ⟨g,cap,cur,rfl,hb,by rw [k.block g (N8.1 G).1 (H g rfl)];exact G,rest⟩
def jT.ex (h:jT B w v l)(x:Ex w w'):jT B w' v l:=h.kp (Kp.ah x λ _=>False) λ _ _ h=>h
def jT.zero {b:Nat}(hB:B<=w.heap.size)(hb:b=w.heap.size)(h:w'=w.alloc (.cells #[] tQ)):jT B w' (.slice (some ⟨b,0,none⟩) 0 0) []:=by
 subst hb h;refine⟨rfl,.inr ⟨_,0,#[],rfl,hB,?_,by simp,by unfold maxLen;omega,rfl,rfl⟩⟩;unfold World.alloc;simp
def jT.slice (h:jT B w v l):∃a cap,v= .slice a l.length cap:=by
 rcases h.2 with⟨rfl,G⟩ | ⟨g,cap,cur,rfl,_⟩
 ·exact⟨none,0,by rw [G]⟩
 ·exact⟨_,cap,rfl⟩
def jT.get (h:jT B w v l){i:Nat}(hi:i< l.length):∃g cap,v= .slice (some ⟨g,0,none⟩) l.length cap/\g< w.heap.size/\w.cell? ⟨g,i* 2,none⟩=some (iv l[i].1)/\w.cell? ⟨g,i* 2+1,none⟩=some l[i].2:=by
 have J:=h.1;rcases h.2 with⟨hv,hn⟩ | ⟨g,cap,cur,rfl,hb,H,h1,h2,h3,h4⟩
 ·omega
 ·obtain⟨Z,k2⟩:=C8 (Ny hi);have key:∀{j:Nat} {x:Value},(l.flatMap FP)[j]?=some x->w.cell? ⟨g,j,none⟩=some x:=λ{j x} G=>by
   have hj:j< (l.flatMap FP).length:=(On.1 G).1;unfold World.cell?;simp only [H];rw [<-h4,Ox (by rw [<-J];exact hj),Oy]at G;exact G
  exact⟨g,cap,rfl,(N8.1 H).1,key Z,key k2⟩
def jT.push {p:Nat×Value}{b:Nat}(h:jT B w v l)(h1:oneV p.2=true)(hB:B<=w.heap.size)(hb:b=w.heap.size)(hw:w'=w.alloc (.cells #[iv p.1,p.2] tQ))(hl:l.length<=1000000000){K:Value->QU}
  (H:∀v' G,jT B G v' (l++[p])->w'.grownBy G v.ownBlock->(∀b,v'.ownBlock=some b->v.ownBlock=some b\/w'.heap.size<=b)->K v' G):zc tQ 2 16 w' v (.slice (some ⟨b,0,none⟩) 1 1) K:=by
 have x:Ex w w':=hw▸Ex.alloc w _;refine⟨B,l.length,1,l.flatMap FP,FP p,h.ex x,OC hB x.size,⟨rfl,by simp [FP,h1,oneV],.inr ⟨b,0,1,rfl,λj u hu=>?_⟩⟩,⟨by unfold maxLen;omega,by omega⟩,λv' G J Z hn=>H v' G ?_ Z hn⟩
 ·subst hb hw;rw [N2];exact aa (by simpa [FP]using hu)
 ·unfold jT;rw [NB,OZ,show [p].flatMap FP=FP p by simp];exact J
end
def Lc (D G:Nat->Prop)(b2:Nat)(w:World)(p:Nat×Value)(r:Nat×Off Nat):Prop:=∃e x q H b3 b4 J gone,r.2= .rcv e x q H/\p=(e,.func (.func 191) #[] #[.pointer (some ⟨b2,0,none⟩),.pointer (some ⟨b3,0,none⟩),.pointer (some ⟨b4,0,none⟩)])/\G b3/\b3< w.heap.size/\G b4/\b4< w.heap.size/\
 w.cell? ⟨b3,0,none⟩=some gone/\(∀j,j< 5->w.cell? ⟨b4,j,none⟩=(fB 63 e x J H)[j]?)/\aJ D w (td q) J/\ew (λg=>G g) w gone ((if H then []else [r.1]).map iv)
def Lc.kp {D G Z S:Nat->Prop}{b2:Nat}{w w':World}{p:Nat×Value}{r:Nat×Off Nat}(h:Lc D G b2 w p r)(k:Kp w w' S)(hD:∀g,D g->¬S g)(H:∀g,G g->¬S g)(J:∀g,G g->Z g):Lc D Z b2 w' p r:=by
 obtain⟨e,x,q,sq,b3,b4,vq,gone,h1,h2,h3,h4,h5,h6,h7,h8,h9,h10⟩:=h;have s:=k.size;refine⟨e,x,q,sq,b3,b4,vq,gone,h1,h2,J _ h3,by omega,J _ h5,by omega,by rw [Nw (w:=w) (k.block b3 h4 (H _ h3))];exact h7,λj hj=>by rw [Nw (w:=w) (k.block b4 h6 (H _ h5))];exact h8 j hj,aJ.kp h9 k hD,(h10.kp k H).sub λg _ h=>J g h⟩
end
attribute [go_sem] Tryz.f124
def fZ (s1:Value)(w:World)(R:Bool->QU)(h:vc az (aZ [] [] []) (af Tryz.f124) (ai 0 [.v s1]) w (fin az [.tmp 2 .b] R)):
  QV 124 #[s1] w (ax [.b] R):=
 bj Tryz.func124 (by kernel_rfl) h
attribute [go_sem] Tryz.f239
def mF (G:aH)(w:World)(R:Bool->QU)(h:vc az (aZ [] [] []) (af Tryz.f239) (ai 0 [.s G]) w (fin az [.tmp 2 .b] R)):
  QV 239 #[(.string (ay G))] w (ax [.b] R):=
 bj Tryz.func239 (by kernel_rfl) h
attribute [go_sem] Tryz.f193
def jQ (G:aH)(H:aH)(w:World)(R:Int->QU)(h:vc az (aZ [] [] []) (af Tryz.f193) (ai 0 [.s G,.s H]) w (fin az [.tmp 4 .i] R)):
  QV 193 #[(.string (ay G)),(.string (ay H))] w (ax [.i] R):=
 bj Tryz.func193 (by kernel_rfl) h
attribute [go_sem] Tryz.f127
def iH (s1:Value)(s2:Value)(w:World)(R:Int->QU)(h:vc az (aZ [(2,[(11,.i)])] [] []) (af Tryz.f127) (ai 0 [.v s1,.v s2]) w (fin az [.tmp 4 .i] R)):
  QV 127 #[s1,s2] w (ax [.i] R):=
 bj Tryz.func127 (by kernel_rfl) h
attribute [go_sem] Tryz.f126
def kH (G:Value)(b2:Value)(w:World)(R:Int->QU)(h:vc az (aZ [] [] []) (af Tryz.f126) (ai 0 [.v G,.v b2]) w (fin az [.tmp 4 .i] R)):
  QV 126 #[G,b2] w (ax [.i] R):=
 bj Tryz.func126 (by kernel_rfl) h
attribute [go_sem] Tryz.f130
def jt (s1:Value)(s2:Value)(w:World)(R:Bool->QU)(h:vc az (aZ [(4,[(13,.i)])] [] [(6,true,.lt 0 (.lt 1 (.lt 2 (.lt 3 (.lt 4 (.lt 5 (.lt 6 (.lt 7 (.lt 8 .done)))))))))]) (af Tryz.f130) (ai 0 [.v s1,.v s2]) w (fin az [.tmp 4 .b] R)):
  QV 130 #[s1,s2] w (ax [.b] R):=
 bj Tryz.func130 (by kernel_rfl) h
attribute [go_sem] Tryz.f129
def lf (G:Value)(b2:Value)(w:World)(R:Bool->QU)(h:vc az (aZ [] [] []) (af Tryz.f129) (ai 0 [.v G,.v b2]) w (fin az [.tmp 4 .b] R)):
  QV 129 #[G,b2] w (ax [.b] R):=
 bj Tryz.func129 (by kernel_rfl) h
attribute [go_sem] Tryz.f128
def fF (s1:Value)(G:Value)(w:World)(R:Value->QU)(h:vc az (aZ [(4,[(5,.i)]),(9,[(5,.i),(7,.i)])] [] [(6,true,.lt 0 (.lt 1 (.lt 2 (.lt 3 (.lt 4 (.lt 5 (.lt 6 (.lt 7 (.lt 8 (.lt 9 (.one .n 10 .done))))))))))),(11,true,.lt 0 (.lt 1 (.lt 2 (.lt 3 (.lt 4 (.lt 5 (.lt 6 (.lt 7 (.lt 8 (.lt 9 (.one .n 10 (.lt 11 .done))))))))))))]) (af Tryz.f128) (ai 0 [.v s1,.v G]) w (fin az [.tmp 4 .v] R)):
  QV 128 #[s1,G] w (ax [.v] R):=
 bj Tryz.func128 (by kernel_rfl) h
attribute [go_sem] Tryz.f68
def gX (s1:Value)(w:World)(R:Value->Bool->QU)(h:vc az (aZ [] [] []) (af Tryz.f68) (ai 0 [.v s1]) w (fin az [.tmp 2 .v,.tmp 3 .b] R)):
  QV 68 #[s1] w (ax [.v,.b] R):=
 bj Tryz.func68 (by kernel_rfl) h
attribute [go_sem] Tryz.f34
def mv (G:aH)(w:World)(R:Value->Bool->QU)(h:vc az (aZ [] [] []) (af Tryz.f34) (ai 0 [.s G]) w (fin az [.tmp 2 .v,.tmp 3 .b] R)):
  QV 34 #[(.string (ay G))] w (ax [.v,.b] R):=
 bj Tryz.func34 (by kernel_rfl) h
attribute [go_sem] Tryz.f66
attribute [go_sem] Tryz.f27
section
open T Classical
abbrev VP:=Value×Pq
def Au (acc:List VP)(s:VP):List VP:=if acc.getLast?.map Prod.snd=some s.2 then acc else acc++[s]
def zd (l:List VP):List VP:=l.foldl Au []
def oK (l:List VP)(s:VP):zd (l++[s])=Au (zd l) s:=by unfold zd;rw [List.foldl_append];rfl
def rV:∀n (l:List VP),l.length=n->(zd l).getLast?.map Prod.snd=l.getLast?.map Prod.snd/\(zd l).map Prod.snd=dq (l.map Prod.snd)/\(zd l).Sublist l
 | 0,l,h=>by
  obtain rfl:l=[]:=N3 h;exact⟨rfl,rfl,Ov _⟩
 | n+1,l,h=>by
  rcases List.eq_nil_or_concat l with rfl | ⟨m,s,rfl⟩
  ·simp at h
  ·rw [List.concat_eq_append]at h|-;obtain⟨h1,H,G⟩:=rV n m (by simpa using h);rw [oK,Oj,List.map_singleton,Dr,<-H];unfold Au Mn;rw [List.getLast?_map];split
   ·rename_i e;exact⟨by rw [e];simp,rfl,G.trans (Pv _ _)⟩
   ·exact⟨by simp,by simp,G.append (Ov _)⟩
def Fu (l:List VP):(zd l).getLast?.map Prod.snd=l.getLast?.map Prod.snd:=(rV _ l rfl).1
def H6 (l:List VP):(zd l).map Prod.snd=dq (l.map Prod.snd):=(rV _ l rfl).2.1
def Jb (l:List VP):(zd l).Sublist l:=(rV _ l rfl).2.2
def wi {l:List VP}(h:l.length< 2):zd l=l:=by
 match l,h with
 | [],_=>rfl
 | [a],_=>rfl
def iY {e B g cap n j:Nat}{w:World}{C:List VP}(h:aB e B w (.slice (some ⟨g,0,none⟩) n cap) (C.map Prod.fst))(J:j< C.length):w.cell? ⟨g,j,none⟩=some C[j].1/\w.frozen? ⟨g,j,none⟩=false/\B<=g/\C.length<=cap/\n=C.length:=by
 rcases h.2 with⟨Z,_⟩ | ⟨g',G,cur,hv,hb,H,h1,h2,h3,h4⟩
 ·cases Z
 ·cases hv;rw [NH]at h1 h4|-;refine⟨?_,?_,hb,h1,rfl⟩
  ·have :=Ot (fun(l:List Value)=>l[j]?) h4;simp only [O7,Ny J,OQ]at this;rw [Ox (by omega),Oy]at this;unfold World.cell?;simp only [H];exact this
  ·unfold World.frozen?;simp [H]
def tq {e B g cap N:Nat}{z:Value}:∀(k n:Nat) (C:List VP) (w:World),aB e B w (.slice (some ⟨g,0,none⟩) N cap) (C.map Prod.fst)->n+k<=C.length->∃G:List VP,aB e B (w.setCells g n (List.replicate k z)) (.slice (some ⟨g,0,none⟩) N cap) (G.map Prod.fst)/\G.length=C.length/\G.take n=C.take n
 | 0,_,C,_,h,_=>⟨C,h,rfl,rfl⟩
 | k+1,n,C,w,h,hk=>by
  have H:=aB.set (x:=z) (j:=n) h rfl (by rw [NH];omega);have e:((C.map Prod.fst).set n z)=(C.set n (z,([],[]))).map Prod.fst:=by rw [PU]
  rw [e]at H;obtain⟨G,h1,J,Z⟩:=tq k (n+1) (C.set n (z,([],[]))) _ H (by rw [OT];omega);refine⟨G,h1,by rw [J,OT],?_⟩;have :=Ot (List.take n) Z
  rwa [Qy,Qy,Px (by omega),PF (ND _)]at this
def Gw {e B:Nat}{w:World}{g cap N n:Nat}{C:List VP}(h:aB e B w (.slice (some ⟨g,0,none⟩) N cap) (C.map Prod.fst))(J:n<=C.length):aB e B w (.slice (some ⟨g,0,none⟩) n cap) ((C.take n).map Prod.fst):=by
 have G:((C.take n).map Prod.fst).length=n:=by rw [NH,Og];omega
 rcases h.2 with⟨Z,_⟩ | ⟨g',H,cur,hv,hb,hg,h1,h2,h3,h4⟩
 ·cases Z
 ·cases hv;rw [NH]at h1 h4;refine⟨by simp,.inr ⟨g,cap,cur,by rw [G],hb,hg,by rw [G];omega,h2,h3,?_⟩⟩;rw [G,List.map_take,<-h4,N7,N7,Qy,Px J]
def aB.cs {e B:Nat}{w:World}{v:Value}{l:List Value}(h:aB e B w v l):∃a cap,v= .slice a l.length cap:=by
 rcases h.2 with⟨rfl,G⟩ | ⟨g,cap,cur,rfl,_⟩
 ·exact⟨none,0,by rw [G]⟩
 ·exact⟨_,cap,rfl⟩
def Cp {B:Nat}{w:World}{v:Value}{l:List VP}(h:aB tL B w v (l.map Prod.fst))(ς:∀x∈l,oneV x.1=true)(hl:l.length<=1099511627776){f:Nat}{ca:List Value}(hf:hasR ga f=true)
  (hq:∀x∈l,∀y∈l,∀(w':World) (Q:Bool->QU),Kp w w' (λg=>v.ownBlock=some g)->(∀w2,Ex w' w2->Q (decide (x.2=y.2)) w2)->QV f (List.toArray ([x.1,y.1]++ca)) w' (ax [.b] Q)) {R:Value->QU}
  (hR:∀v' w',Kp w w' (λg=>v.ownBlock=some g)->aB tL B w' v' ((zd l).map Prod.fst)->(∀g,v'.ownBlock=some g->v.ownBlock=some g)->R v' w'):QV 128 #[v,.func (.func f) #[] (List.toArray ca)] w (ax [.v] R):=by
 refine fF v _ w R ?_;dsimp only [go_sem];dsimp only [go_sem,UInt8.reduceOfNat,UInt32.reduceOfNat,Nat.reduceAdd];obtain⟨ao,cap,hv⟩:=h.cs;rw [NH]at hv;have kx:∀{w1:World},Ex w w1->Kp w w1 (λg=>v.ownBlock=some g):=λx=>Kp.ah x _
 refine⟨ao,_,cap,hv,λhs=>?_,λhs=>?_⟩
 ·have h2:l.length< 2:=by simp only [NL]at hs;omega
  refine hR v w (kx (Ex.refl w)) ?_ λ _ h=>h
  rw [wi h2];exact h
 have h2:2<=l.length:=by simp only [NQ]at hs;omega
 obtain⟨g,rfl⟩:∃g,v= .slice (some ⟨g,0,none⟩) l.length cap:=by
  rcases h.2 with⟨_,h0⟩ | ⟨g,cap',cur,hv',_⟩
  ·rw [NH]at h0;omega
  ·have e:=hv'.symm.trans hv;simp only [P7]at e;exact⟨g,by rw [hv,<-e.1]⟩
 have hcap:=(iY h (j:=0) (by omega)).2.2.2.1;refine⟨λk w'=>∃n:Nat,k=n/\1<=n/\n<=l.length/\zd (l.take n)=l.take n/\Ex w w',λk _=>(l.length - k).toNat,⟨1,rfl,ND _,by omega,by rw [wi];rw [Og];omega,Ex.refl w⟩,λk w8 hI=>?_⟩;obtain⟨G,rfl,hk1,υ,η,x8⟩:=hI;refine⟨_,_,cap,rfl,λhlt=>?_,λhge=>?_⟩;rotate_left
 ·have:G=l.length:=by simp only [NQ]at hge;omega
  rw [this,Od]at η;refine hR _ w8 (kx x8) ?_ λ _ h=>h
  rw [η];exact h.kp (Kp.ah x8 λ _=>False) λ _ _ h=>h
 have θ:=oL hlt;refine⟨λw'=>Ex w8 w',λφ χ=>?_⟩;have ψ:Ex w8 φ:=χ▸Ex.drew w8;have γ:=Ex.trans x8 ψ;have ν:∀{w':World},Ex w w'->aB tL B w' (.slice (some ⟨g,0,none⟩) l.length cap) (l.map Prod.fst):=λx=>h.kp (Kp.ah x λ _=>False) λ _ _ h=>h
 refine⟨ψ,g,0,_,cap,rfl,by omega,by omega,l[G].1,λw' x=>?_,by omega,g,0,_,cap,rfl,by omega,by omega,(l[G - 1]'(by omega)).1,λw' x=>?_,f,ca,rfl,hf,?_⟩
 ·rw [NF,N7,N2];exact(iY (ν (Ex.trans x8 x)) θ).1
 ·rw [show((G:Int) - 1).toNat=G - 1 by omega,N7,N2];exact(iY (ν (Ex.trans x8 x)) (by omega)).1
 refine hq _ (NO θ) _ (NO _) φ _ (kx γ) λw14 ω=>⟨λheq=>?_,λδ=>?_⟩
 rotate_left
 ·simp only [NQ]at δ;refine⟨by omega,⟨G+1,by omega,by omega,by omega,?_,Ex.trans γ ω⟩,tN (by omega)⟩;rw [NG θ,oK,η];unfold Au;have:(l.take G).getLast?.map Prod.snd≠some l[G].2:=λe=>by
   rw [List.getLast?_eq_getElem?,Og,Px υ,Ox (by omega),Ny (by omega)]at e;exact δ (Oh e).symm
  rw [NS this]
 simp only [NL]at heq;have κ:=Ex.trans γ ω;have hsl:(if cap=(G:Int).toNat then(some ⟨g,0,none⟩:Option Addr)else Option.map (λx:Addr=>x.add ((G:Int).toNat* 1)) (some ⟨g,0,none⟩))=some ⟨g,G,none⟩:=by
  rw [NS (by omega),OQ,add_plain,NF,N7,N2]
 refine⟨_,_,cap,rfl,by omega,by omega,by omega,λk kk w'=>∃(n i:Nat) (C:List VP),k=n/\kk=i/\1<=i/\G+i<=l.length/\n< G+i/\C.length=l.length/\aB tL B w' (.slice (some ⟨g,0,none⟩) l.length cap) (C.map Prod.fst)/\C.take n=zd (l.take (G+i))/\C.drop (G+i - 1)=l.drop (G+i - 1)/\Kp w w' (λb=>(Value.slice (some ⟨g,0,none⟩) l.length cap).ownBlock=some b),
  λ _ kk _=>(l.length - kk).toNat,⟨G,1,l,rfl,rfl,ND _,by omega,by omega,rfl,ν κ,?_,rfl,kx κ⟩,λk kk J hI=>?_⟩
 ·rw [NG θ,oK,η];unfold Au;rw [N'];rw [List.getLast?_eq_getElem?,Og,Px υ,Ox (by omega),Ny (by omega),heq];rfl
 obtain⟨n,i,C,rfl,rfl,hi1,hi2,hn,hC,ε,ht,hd,k31⟩:=hI;have hnC:n<=C.length:=by omega
 rw [hsl];refine⟨_,_,_,rfl,λhlt2=>?_,λhge2=>?_⟩
 ·have β:G+i< l.length:=by simp only [NL]at hlt2;omega
  have e1:C[G+i]'(by omega)=l[G+i]:=by
   have :=Ot (fun(x:List VP)=>x[1]?) hd;simp only [Qi]at this;rw [show G+i - 1+1=G+i by omega,Ny (by omega),Ny β]at this;exact Oh this
  have e2:C[G+i - 1]'(by omega)=l[G+i - 1]'(by omega):=by
   have :=Ot (fun(x:List VP)=>x[0]?) hd;simp only [Qi]at this;rw [PS,Ny (by omega),Ny (by omega)]at this;exact Oh this
  refine⟨λw'=>Ex J w',λw36 hw36=>?_⟩;have ι:Ex J w36:=hw36▸Ex.drew J;have ξ:∀{w':World},Ex J w'->aB tL B w' (.slice (some ⟨g,0,none⟩) l.length cap) (C.map Prod.fst):=λx=>ε.kp (Kp.ah x λ _=>False) λ _ _ h=>h
  have ο:∀{w':World},Ex J w'->Kp w w' (λb=>(Value.slice (some ⟨g,0,none⟩) l.length cap).ownBlock=some b):=λx=>Kp.trans k31 (Kp.ah x λ _=>False) λ _ _ h=>h.elim
  have rd:∀{w':World},Ex J w'->∀j (hj:j< C.length),w'.cell? ⟨g,j,none⟩=some C[j].1:=λx j hj=>(iY (ξ x) hj).1
  have ζ:(zd (l.take (G+i))).getLast?.map Prod.snd=some (l[G+i - 1]'(by omega)).2:=by
   rw [Fu,List.getLast?_eq_getElem?,Og,Px hi2,Ox (by omega),Ny (by omega)];rfl
  have dsn:zd (l.take (G+(i+1)))=Au (zd (l.take (G+i))) l[G+i]:=by
   rw [<-PB,NG β,oK]
  refine⟨ι,g,G,_,_,rfl,by omega,by omega,(C[G+i]'(by omega)).1,λw' x=>?_,by omega,g,G,_,_,rfl,by omega,by omega,(C[G+i - 1]'(by omega)).1,λw' x=>?_,f,ca,rfl,hf,?_⟩
  ·rw [NF,N7];exact rd x _ _
  ·rw [show G+((i:Int) - 1).toNat* 1=G+i - 1 by omega];exact rd x _ _
  rw [e1,e2];refine hq _ (NO β) _ (NO _) w36 _ (ο ι) λw37 x37=>⟨λδ=>?_,λμ=>?_⟩
  ·have H:=Ex.trans ι x37;have o37:=ξ H;have hne':l[G+i].2≠(l[G+i - 1]'(by omega)).2:=λe=>by rw [e]at δ;simp at δ
   have hoi:=ς _ (NO β);refine⟨g,G,_,_,rfl,by omega,by omega,l[G+i].1,by rw [NF,N7,<-e1];exact rd H _ _,g,0,_,cap,rfl,by omega,by omega,hoi,?_,λw57 Z=>⟨by omega,by omega,⟨n+1,i+1,C.set n (C[G+i]'(by omega)),by omega,by omega,by omega,by omega,by omega,by simpa using hC,?_,?_,?_,?_⟩,tN (by omega)⟩⟩
   ·rw [NF,N7,N2];have :=iY o37 (j:=n) (by omega);exact⟨⟨_,this.1⟩,this.2.1⟩
   ·rw [NF,N7,N2]at Z;rw [PU,e1];exact o37.set Z (by rw [NH];omega)
   ·rw [NG (by simpa using(by omega:n< C.length)),PF (ND _),ht,dsn];unfold Au;rw [ζ,NS (λe=>hne' (Oh e).symm),List.getElem_set_self,e1]
   ·have:C.drop (G+i)=l.drop (G+i):=by
     have :=Ot (fun(x:List VP)=>x.drop 1) hd;simp only [Qe]at this
     rwa [show G+i - 1+1=G+i by omega]at this
    rw [show G+(i+1) - 1=G+i by omega,List.drop_set_of_lt hn,this]
   ·rw [NF,N7,N2]at Z;exact Kp.trans (ο H) (Z▸Kr.set w37 n _) λb _ e=>by rw [e];rfl
  ·have heq':l[G+i].2=(l[G+i - 1]'(by omega)).2:=by
    cases hd:decide (l[G+i].2=(l[G+i - 1]'(by omega)).2)with
    | true=>exact NZ hd
    | false=>rw [hd]at μ;cases μ
   have H:=Ex.trans ι x37;refine⟨by omega,⟨n,i+1,C,rfl,by omega,by omega,by omega,by omega,hC,ξ H,?_,?_,ο H⟩,tN (by omega)⟩
   ·rw [ht,dsn];unfold Au;rw [ζ,N' (by rw [heq'])]
   ·have :=Ot (fun(x:List VP)=>x.drop 1) hd;simp only [Qe]at this;rw [show G+i - 1+1=G+i by omega]at this;rw [show G+(i+1) - 1=G+i by omega];exact this
 ·have β:G+i=l.length:=by simp only [NQ]at hge2;omega
  rw [β,Od]at ht;have hs2:(if cap=(n:Int).toNat then(some ⟨g,0,none⟩:Option Addr)else Option.map (λx:Addr=>x.add ((n:Int).toNat* 1)) (some ⟨g,0,none⟩))=some ⟨g,n,none⟩:=by
   rw [NS (by omega),OQ,add_plain,NF,N7,N2]
  have hs3:(if cap=(0:Int).toNat then(some ⟨g,0,none⟩:Option Addr)else Option.map (λx:Addr=>x.add ((0:Int).toNat* 1)) (some ⟨g,0,none⟩))=some ⟨g,0,none⟩:=by
   rw [NS (by have:(0:Int).toNat=0:=rfl;omega),OQ,add_plain];rfl
  refine⟨_,_,cap,rfl,by omega,by omega,by omega,_,_,_,rfl,.inr ⟨g,n,hs2,λj hj=>?_,λw66 hw66=>⟨_,_,cap,rfl,by omega,by omega,by omega,?_⟩⟩⟩
  ·have :=iY ε (j:=n+j) (by omega);exact⟨⟨_,this.1⟩,this.2.1⟩
  rw [hs3];obtain⟨C2,o66,hC2,ht2⟩:=tq (z:= .slice none 0 0) (Int.toNat (l.length:Int) - Int.toNat (n:Int)) n C J ε (by omega);obtain⟨k66,_⟩:=a8 (b:=g) (List.replicate (Int.toNat (l.length:Int) - Int.toNat (n:Int)) (.slice none 0 0)) J n;rw [<-hw66]at k66 o66;have :=Gw o66 (n:=n) (by omega);rw [ht2,ht]at this;exact hR _ w66 (Kp.trans k31 k66 λb _ e=>by rw [e];rfl) this λb hb=>by cases hb;rfl
noncomputable def kZ (a b:Tx):Int:=if a< b then -1 else if a=b then 0 else 1
noncomputable def uk (a b:Pq):Int:=if kZ a.1 b.1=0 then kZ a.2 b.2 else kZ a.1 b.1
def dL {a b:Tx}:kZ a b=0↔a=b:=by
 unfold kZ;by_cases h:a< b
 ·rw [N' h];exact⟨λe=>by omega,λe=>by subst e;exact absurd h (QO _)⟩
 ·rw [NS h];by_cases e:a=b
  ·simp [e]
  ·simp [e]
def AD {a b:Tx}:kZ a b< 0↔a< b:=by
 unfold kZ;by_cases h:a< b
 ·simp [h]
 ·by_cases e:a=b
  ·subst e;simp [QO]
  ·simp [h,e]
def fG {a b:Pq}:uk a b< 0↔oJ a b:=by
 unfold uk oJ;by_cases h:a.1=b.1
 ·rw [N' (dL.2 h),AD];exact⟨λk=> .inr ⟨h,k⟩,λk=>k.elim (λk=>absurd k (h▸QO _)) And.right⟩
 ·rw [NS λe=>h (dL.1 e),AD];exact⟨.inl,λk=>k.elim id λk=>absurd k.1 h⟩
def Fw {a b:Tx}{w:World}{R:Int->QU}(hR:R (kZ a b) w):QV 193 #[.string (ay a),.string (ay b)] w (ax [.i] R):=by
 refine jQ a b w R ?_;dsimp only [go_sem];dsimp only [go_sem,Nat.reduceAdd];have nan:∀{x:Tx} {K:Bool->QU},K false w->QV 239 #[.string (ay x)] w (ax [.b] K):=λ{x K} H=>by
  refine mF x w K ?_;dsimp only [go_sem];dsimp only [go_sem,Nat.reduceAdd];simpa using H
 refine nan (nan ⟨λh=>(by cases h),λ _=>⟨λh=>(by cases h),λ _=>⟨λh=>?_,λh=>⟨λG=>?_,λG=>?_⟩⟩⟩⟩)
 ·rw [PD,NL]at h;have:kZ a b= -1:=N' h
  rwa [this]at hR
 ·rw [PD,NQ]at h;have:a≠b:=λe=>by rw [e]at G;simp at G
  have:kZ a b=1:=by unfold kZ;rw [NS h,NS this]
  rwa [this]at hR
 ·rw [PD,NQ]at h;rw [PD,O6 h]at G;have:a=b:=by simpa using G
  have:kZ a b=0:=dL.2 this
  rwa [this]at hR
def Lm {g1 g2:Nat}{p q:Pq}{w:World}(h1:oD w g1 p)(H:oD w g2 q){R:Int->QU}(hR:R (uk p q) w):QV 127 #[.slice (some ⟨g1,0,none⟩) 2 2,.slice (some ⟨g2,0,none⟩) 2 2] w (ax [.i] R):=by
 refine iH _ _ w R ?_;dsimp only [go_sem];dsimp only [go_sem,Nat.reduceAdd];refine⟨_,2,2,rfl,λi w'=>w'=w/\(i=0\/(i=1/\p.1=q.1)\/(i=2/\p.1=q.1/\p.2=q.2)),λi _=>(2 - i).toNat,⟨rfl,.inl rfl⟩,λi w' J=>?_⟩;obtain⟨rfl,rfl | ⟨rfl,G⟩ | ⟨rfl,G,Z⟩⟩:=J
 ·refine⟨λ _=>⟨g1,0,2,2,rfl,by omega,by omega,p.1,h1.2.1,_,2,2,rfl,λh=>by simp at h,λ _=>⟨g2,0,2,2,rfl,by omega,by omega,q.1,H.2.1,Fw ⟨λh=>?_,λh=>⟨by omega,⟨rfl,.inr (.inl ⟨by omega,?_⟩)⟩,by simp⟩⟩⟩⟩,λh=>by simp at h⟩
  ·have h:kZ p.1 q.1≠0:=by simpa using h
   have:uk p q=kZ p.1 q.1:=NS h
   rwa [this]at hR
  ·have h:kZ p.1 q.1=0:=by simpa using h
   exact dL.1 h
 ·refine⟨λ _=>⟨g1,0,2,2,rfl,by omega,by omega,p.2,h1.2.2.1,_,2,2,rfl,λh=>by simp at h,λ _=>⟨g2,0,2,2,rfl,by omega,by omega,q.2,H.2.2.1,Fw ⟨λh=>?_,λh=>⟨by omega,⟨rfl,.inr (.inr ⟨by omega,G,?_⟩)⟩,by simp⟩⟩⟩⟩,λh=>by simp at h⟩
  ·have:uk p q=kZ p.2 q.2:=N' (dL.2 G)
   rwa [this]at hR
  ·have h:kZ p.2 q.2=0:=by simpa using h
   exact dL.1 h
 ·refine⟨λh=>by simp at h,λ _=>⟨_,2,2,rfl,_,2,2,rfl,λh=>by simp at h,λ _=>?_⟩⟩;have:uk p q=0:=by unfold uk;rw [N' (dL.2 G)];exact dL.2 Z
  rwa [this]at hR
def LY {g1 g2:Nat}{p q:Pq}{w:World}(h1:oD w g1 p)(h2:oD w g2 q){R:Bool->QU}(hR:∀w',Ex w w'->R (decide (p=q)) w'):QV 130 #[.slice (some ⟨g1,0,none⟩) 2 2,.slice (some ⟨g2,0,none⟩) 2 2] w (ax [.b] R):=by
 refine jt _ _ w R ?_;dsimp only [go_sem];dsimp only [go_sem,Nat.reduceAdd];have no:∀{w':World},Ex w w'->p≠q->R false w':=λx h=>by
  have :=hR _ x
  rwa [O6 h]at this
 refine⟨_,2,2,rfl,_,2,2,rfl,λh=>by simp at h,λ _=>⟨_,2,2,rfl,λi w'=>Ex w w'/\(i=0\/(i=1/\p.1=q.1)\/(i=2/\p.1=q.1/\p.2=q.2)),λi _=>(2 - i).toNat,⟨Ex.refl w,.inl rfl⟩,λi w' hI=>?_⟩⟩;have rx:∀{w':World},Ex w w'->oD w' g1 p/\oD w' g2 q:=λx=>⟨h1.kp (Kp.ah x λ _=>False) id,h2.kp (Kp.ah x λ _=>False) id⟩
 obtain⟨x,rfl | ⟨rfl,Z⟩ | ⟨rfl,Z,e2⟩⟩:=hI
 ·refine⟨λ _=>⟨λJ=>Ex w' J,λJ G=>⟨G▸Ex.drew w',g1,0,2,2,rfl,by omega,by omega,p.1,λw3 H=>(rx (Ex.trans x H)).1.2.1,g2,0,2,2,rfl,by omega,by omega,q.1,λw3 H=>(rx (Ex.trans x H)).2.2.1,λh=>no (Ex.trans x (G▸Ex.drew w')) λe=>?_,λh=>⟨by omega,⟨Ex.trans x (G▸Ex.drew w'),.inr (.inl ⟨by omega,by simpa using h⟩)⟩,by simp⟩⟩⟩,λh=>by simp at h⟩;rw [e]at h;simp at h
 ·refine⟨λ _=>⟨λJ=>Ex w' J,λJ G=>⟨G▸Ex.drew w',g1,0,2,2,rfl,by omega,by omega,p.2,λw3 H=>(rx (Ex.trans x H)).1.2.2.1,g2,0,2,2,rfl,by omega,by omega,q.2,λw3 H=>(rx (Ex.trans x H)).2.2.2.1,λh=>no (Ex.trans x (G▸Ex.drew w')) λe=>?_,λh=>⟨by omega,⟨Ex.trans x (G▸Ex.drew w'),.inr (.inr ⟨by omega,Z,by simpa using h⟩)⟩,by simp⟩⟩⟩,λh=>by simp at h⟩;rw [e]at h;simp at h
 ·refine⟨λh=>by simp at h,λ _=>?_⟩;have :=hR _ x
  rwa [Ph (show p=q from Prod.ext Z e2)]at this
end
attribute [go_sem] Tryz.f15
def oF (G:Value)(b2:Value)(w:World)(R:Bool->QU)(h:vc az (aZ [(4,[(5,.i)])] [] [(6,true,.lt 0 (.lt 1 (.lt 2 (.lt 3 (.lt 4 (.lt 5 (.lt 6 (.lt 7 (.lt 8 .done)))))))))]) (af Tryz.f15) (ai 0 [.v G,.v b2]) w (fin az [.tmp 4 .b] R)):
  QV 15 #[G,b2] w (ax [.b] R):=
 bj Tryz.func15 (by kernel_rfl) h
attribute [go_sem] Tryz.f47
def pA (G:Int)(w:World)(R:aH->QU)(h:vc az (aZ [(4,[(0,.i),(3,.s)])] [] []) (af Tryz.f47) (ai 0 [.i G]) w (fin az [.tmp 2 .s] R)):
  QV 47 #[(.int .i64 G)] w (ax [.s] R):=
 bj Tryz.func47 (by kernel_rfl) h
attribute [go_sem] Tryz.f16
def mH (G:Value)(H:Int)(w:World)(R:Int->QU)(h:vc az (aZ [(2,[(1,.i),(5,.i)])] [] []) (af Tryz.f16) (ai 0 [.v G,.i H]) w (fin az [.tmp 4 .i] R)):
  QV 16 #[G,(.int .i64 H)] w (ax [.i] R):=
 bj Tryz.func16 (by kernel_rfl) h
attribute [go_sem] Tryz.f17
def mD (G:Value)(H:Int)(w:World)(R:Int->QU)(h:vc az (aZ [(2,[(1,.i),(5,.i)])] [] [(4,true,.lt 0 (.lt 1 (.lt 2 (.lt 3 (.lt 4 (.one .g 5 (.lt 6 .done)))))))]) (af Tryz.f17) (ai 0 [.v G,.i H]) w (fin az [.tmp 4 .i] R)):
  QV 17 #[G,(.int .i64 H)] w (ax [.i] R):=
 bj Tryz.func17 (by kernel_rfl) h
section
open T Classical
def Ma {w:World}{v v':Value}{l G:List Tx}(h:Strs w v l)(h':Strs w v' G)(hl:l.length<=1000000000000){R:Bool->QU}(hR:∀w',Ex w w'->R (decide (l=G)) w'):
  QV 15 #[v,v'] w (ax [.b] R):=by
 refine oF v v' w R ?_;dsimp only [go_sem];dsimp only [go_sem,Nat.reduceAdd];obtain⟨a,c,hv⟩:=h.slice;obtain⟨a',c',γ⟩:=h'.slice;refine⟨a,_,c,hv,a',_,c',γ,λJ=>?_,λhe=>?_⟩
 ·have J:l.length≠G.length:=by
   have:¬((l.length:Int)=G.length):=by simpa using J
   omega
  have :=hR w (Ex.refl w)
  rwa [O6 λe=>J (by rw [e])]at this
 have he:l.length=G.length:=by
  have:(l.length:Int)=G.length:=by simpa using he
  omega
 refine⟨λi w'=>∃j:Nat,i=j/\j<=l.length/\Ex w w'/\l.take j=G.take j,λi _=>(l.length - i).toNat,⟨0,rfl,OA _,Ex.refl w,rfl⟩,λi w' hI=>?_⟩;obtain⟨j,rfl,hj,x,ht⟩:=hI;refine⟨a,_,c,hv,λδ=>?_,λε=>?_⟩
 ·have β:=oL δ;have H:j< G.length:=by omega
  obtain⟨b1,o1,c1,e1,e2,e3⟩:=(h.ex x).at β;obtain⟨b2,o2,c2,f1,f2,f3⟩:=(h'.ex x).at H;refine⟨λw2=>Ex w' w2,λw2 Z=>⟨Z▸Ex.drew w',b1,o1,_,c1,e1,by omega,by omega,l[j],λw3 x3=>?_,b2,o2,_,c2,f1,by omega,by omega,G[j],λw3 x3=>?_,λhn=>?_,λhy=>?_⟩⟩
  ·rw [x3.cell (a:=⟨b1,_,none⟩) e2,N7,NF];exact e3
  ·rw [x3.cell (a:=⟨b2,_,none⟩) f2,N7,NF];exact f3
  ·have hn:l[j]≠G[j]:=by simpa using hn
   have :=hR w2 (Ex.trans x (Z▸Ex.drew w'))
   rwa [O6 λe=>hn (by subst e;rfl)]at this
  ·have hy:l[j]=G[j]:=by simpa using hy
   refine⟨by omega,⟨j+1,by omega,by omega,Ex.trans x (Z▸Ex.drew w'),by rw [NG β,NG H,ht,hy]⟩,tN (by omega)⟩
 ·have e:=oE ε (by omega);subst e;rw [Od,he,Od]at ht;have :=hR w' x
  rwa [Ph ht]at this
def dg (k:Nat)(o:Tx):Tx:=if h:k=0 then o else dg (k / 10) (UInt8.ofNat (Int.toNat ((48+((k:Int) % 10)) % 256))::o)
termination_by k
decreasing_by omega
def mt (k:Nat):Tx:=if k=0 then [109,48]else 109::dg k []
def sM {k:Nat}(hk:k<=1099511627776){w:World}{R:aH->QU}(hR:∀w',Ex w w'->R (mt k) w'):
  QV 47 #[.int .i64 k] w (ax [.s] R):=by
 refine pA k w R ?_;dsimp only [go_sem];dsimp only [go_sem,Nat.reduceAdd];refine⟨λh=>?_,λh=>?_⟩
 ·have h:k=0:=by simp only [NL]at h;omega
  have :=hR w (Ex.refl w);unfold mt at this
  rwa [N' h]at this
 have h:k≠0:=by simp only [NQ]at h;omega
 refine⟨λx o w'=>∃n:Nat,x=n/\Ex w w'/\dg n o=dg k []/\o.length+n<=k,λx _ _=>x.toNat,⟨k,rfl,Ex.refl w,rfl,by simp⟩,λx o w' Z=>?_⟩;obtain⟨n,rfl,x,hd,hl⟩:=Z;refine⟨λG=>?_,λG=>?_⟩
 ·have G:n≠0:=by simp only [NL]at G;omega
  refine⟨⟨by omega,by omega⟩,by omega,λb w8 hb H=>?_⟩;refine⟨b,0,1,1,[UInt8.ofNat (Int.toNat ((48+((n:Int) % 10)) % 256))],rfl,rfl,λj x J=>?_,by simp only [OS];omega,⟨by omega,by omega,by omega⟩,⟨n / 10,by omega,Ex.trans x (H▸Ex.alloc w' _),?_,by simp only [NB,OS];omega⟩,by show((n:Int) / 10).toNat< (n:Int).toNat;omega⟩
  ·cases j with
   | zero=>
    have J:UInt8.ofNat (Int.toNat ((48+((n:Int) % 10)) % 256))=x:=by simpa using J
    rw [H,hb,<-J];exact aa rfl
   | succ j=>simp at J
  ·rw [<-hd]
   conv=>rhs;rw [dg]
   rw [dif_neg G];rfl
 ·have G:n=0:=by simp only [NQ]at G;omega
  subst G;rw [dg,dif_pos rfl]at hd;refine⟨by simp only [OS];omega,?_⟩;have :=hR w' x;unfold mt at this;rw [NS h,<-hd]at this;exact this
def Jg {B:Nat}{w w':World}{g cap n j:Nat}{l:List Tx}{x:Tx}(h:Own B w (.slice (some ⟨g,0,none⟩) n cap) l)(hw:w'=w.setCell ⟨g,j,none⟩ (.string (ay x)))(H:j< l.length):Own B w' (.slice (some ⟨g,0,none⟩) n cap) (l.set j x):=by
 have h1:aB 9 B w (.slice (some ⟨g,0,none⟩) n cap) (l.map sv):=by unfold aB;rw [NH];exact h
 have G:=h1.set hw (by rw [NH];exact H);unfold aB at G;rw [OT,NH]at G;unfold Own;rw [OT,PU];exact G
abbrev Mc:Nat:=22
def tH (w:World)(v:Value)(LL:List (List Tx)):Prop:=∃vs:List Value,vs.length=LL.length/\ew (λg=>g< w.heap.size) w v vs/\∀i (h:i< vs.length) (G:i< LL.length),Strs w vs[i] LL[i]
def j0 (B:Nat)(w:World)(v:Value)(LL:List (List Tx)):Prop:=∃vs:List Value,vs.length=LL.length/\aB Mc B w v vs/\(∀i j (hi:i< vs.length) (G:j< vs.length),i≠j->∀g,vs[i].ownBlock=some g->vs[j].ownBlock≠some g)/\
 (∀i (hi:i< vs.length) g,vs[i].ownBlock=some g->v.ownBlock≠some g)/\∀i (h:i< vs.length) (H:i< LL.length),Own B w vs[i] LL[i]
section
variable {B:Nat} {w w':World} {v:Value} {LL:List (List Tx)}
def tH.ex (h:tH w v LL)(x:Ex w w'):tH w' v LL:=by
 obtain⟨vs,h1,H,J⟩:=h;exact⟨vs,h1,LQ H x,λi hi G=>(J i hi G).ex x⟩
def j0.str (h:j0 B w v LL):tH w v LL:=by
 obtain⟨vs,h1,H,_,_,J⟩:=h;exact⟨vs,h1,H.Aq λg Z=>(H.block g Z).2,λi hi G=>(J i hi G).strs⟩
def j0.ex (h:j0 B w v LL)(x:Ex w w'):j0 B w' v LL:=by
 obtain⟨vs,h1,H,J,h4,h5⟩:=h;exact⟨vs,h1,H.kp (Kp.ah x λ _=>False) (λ _ _ h=>h),J,h4,λi hi G=>(h5 i hi G).ex x⟩
def j0.nil (B:Nat)(w:World):j0 B w (.slice none 0 0) []:=⟨[],rfl,aB.nil _ _ _,λi j hi=>(by cases hi),λi hi=>(by cases hi),λi hi=>(by cases hi)⟩
def j0.mono {H:Nat}(h:j0 B w v LL)(hb:H<=B):j0 H w v LL:=by
 obtain⟨vs,h1,J,Z,h4,h5⟩:=h;exact⟨vs,h1,J.mono hb,Z,h4,λi hi G=>(h5 i hi G).mono hb⟩
def GY {v':Value}{G:List (List Tx)}(h:tH w v LL)(h':tH w v' G)(hl:LL.length<=1000000000)(ζ:∀l∈LL,l.length<=1000000000){R:Bool->QU}(hR:∀w',Ex w w'->R (decide (LL=G)) w'):
  QV 28 #[v,v'] w (ax [.b] R):=by
 refine nv v v' w R ?_;dsimp only [go_sem];dsimp only [go_sem,Nat.reduceAdd];obtain⟨vs,a1,a2,a3⟩:=h;obtain⟨H,b1,b2,b3⟩:=h';obtain⟨a,c,hv⟩:=a2.slice;obtain⟨a',c',η⟩:=b2.slice;refine⟨a,_,c,hv,a',_,c',η,λγ=>?_,λhe=>?_⟩
 ·have γ:vs.length≠H.length:=by
   have:¬((vs.length:Int)=H.length):=by simpa using γ
   omega
  have :=hR w (Ex.refl w)
  rwa [O6 λe=>γ (by rw [a1,b1,e])]at this
 have he:vs.length=H.length:=by
  have:(vs.length:Int)=H.length:=by simpa using he
  omega
 refine⟨λi w'=>∃j:Nat,i=j/\j<=vs.length/\Ex w w'/\LL.take j=G.take j,λi _=>(vs.length - i).toNat,⟨0,rfl,OA _,Ex.refl w,rfl⟩,λi w1 hI=>?_⟩;obtain⟨j,rfl,hj,x,ht⟩:=hI;refine⟨a,_,c,hv,λθ=>?_,λι=>?_⟩
 ·have ε:=oL θ;have δ:j< LL.length:=by omega
  have β:j< G.length:=by omega
  refine⟨λw2=>Ex w1 w2,λw2 κ=>?_⟩;have x2:Ex w1 w2:=κ▸Ex.drew w1;refine⟨x2,?_⟩;have get:∀{u:Value} {us:List Value},ew (λg=>g< w.heap.size) w u us->∀(J:j< us.length),∃b o len cap,u= .slice (some ⟨b,o,none⟩) len cap/\(0:Int)<=j/\(j:Int)< (len:Nat)/\∀{w3:World},Ex w1 w3->w3.cell? ⟨b,o+(j:Int).toNat* 1,none⟩=some us[j]:=λ{u us} hu J=>by
   rcases hu with⟨_,e⟩ | ⟨b,o,cap,e1,_,e2,e3⟩
   ·rw [e]at J;simp at J
   ·refine⟨b,o,_,cap,e1,by omega,by omega,λx3=>?_⟩;rw [(Ex.trans x x3).cell (a:=⟨b,_,none⟩) e2,NF,N7];exact e3 j _ (Ny J)
  obtain⟨g1,o1,n1,c1,e1,e2,e3,e4⟩:=get a2 ε;obtain⟨g2,o2,n2,c2,f1,f2,f3,f4⟩:=get b2 (by omega:j< H.length);refine⟨g1,o1,n1,c1,e1,e2,e3,_,λw3 x3=>e4 x3,g2,o2,n2,c2,f1,f2,f3,_,λw3 x3=>f4 x3,?_⟩;have Z:=Ex.trans x x2;refine Ma ((a3 j ε δ).ex Z) ((b3 j (by omega) β).ex Z) (by have :=ζ _ (NO δ);omega) λw4 x4=>⟨λhn=>?_,λhy=>?_⟩
  ·have hn:LL[j]≠G[j]:=by simpa using hn
   have :=hR w4 (Ex.trans Z x4)
   rwa [O6 λe=>hn (by subst e;rfl)]at this
  ·have hy:LL[j]=G[j]:=by simpa using hy
   exact⟨by omega,⟨j+1,by omega,by omega,Ex.trans Z x4,by rw [NG δ,NG β,ht,hy]⟩,tN (by omega)⟩
 ·have e:=oE ι (by omega);subst e;rw [a1,Od,show LL.length=G.length by omega,Od]at ht;have :=hR w1 x
  rwa [Ph ht]at this
end
def zb (k n:Nat):List Tx:=(List.range n).map λi=>mt (k+i)
def lO (k n:Nat):(zb k n).length=n:=by simp [zb]
def E' (k n:Nat):zb k (n+1)=zb k n++[mt (k+n)]:=by simp [zb,QJ]
def I3 {k:Nat}{l:List Tx}{i:Nat}(h:i< l.length):(zb k i++l.drop i).set i (mt (k+i))=zb k (i+1)++l.drop (i+1):=by
 rw [List.set_append_right _ _ (by rw [lO];exact ND _),lO,Nat.sub_self,Oq h,List.set_cons_zero,E',Oi];rfl
def Jn {B G:Nat}{w:World}{v:Value}{l:List Tx}(h:Own B w v l)(hl:G+l.length<=1000000000000){R:Int->QU}(hR:∀w',Kp w w' (λg=>v.ownBlock=some g)->Own B w' v (zb G l.length)->R (G+l.length:Nat) w'):
  QV 16 #[v,.int .i64 G] w (ax [.i] R):=by
 refine mH v G w R ?_;dsimp only [go_sem];dsimp only [go_sem,Nat.reduceAdd];obtain⟨a,c,hv⟩:=h.strs.slice;refine⟨λk i w'=>∃j:Nat,i=j/\k=(G+j:Nat)/\j<=l.length/\Kp w w' (λg=>v.ownBlock=some g)/\Own B w' v (zb G j++l.drop j),λ _ i _=>(l.length - i).toNat,⟨0,rfl,rfl,OA _,Kp.ah (Ex.refl w) _,by simpa [zb]using h⟩,λk i w' hI=>?_⟩;obtain⟨j,rfl,rfl,hj,kp,ho⟩:=hI;refine⟨a,_,c,hv,λβ=>?_,λγ=>?_⟩
 ·have δ:=oL β;refine sM (k:=G+j) (by omega) λw2 x2=>?_
  have H:=ho.ex x2;have hlen:(zb G j++l.drop j).length=l.length:=by rw [NB,lO,O3];omega
  rcases H.2 with⟨_,hn⟩ | ⟨g,cap,cur,J,hb,hg,_⟩
  ·omega
  have ε:v.ownBlock=some g:=ub J;obtain⟨b1,o1,c1,e1,e2,e3⟩:=H.strs.at (i:=j) (by omega);have e:=J.symm.trans e1;simp only [P7,O4,QQ]at e;obtain⟨⟨rfl,rfl,_⟩,_,_⟩:=e;have ej:0+(j:Int).toNat* 1=j:=by omega
  refine⟨g,0,_,_,J,by omega,by omega,?_⟩;dsimp only;rw [ej];rw [N2]at e3;refine⟨⟨⟨_,e3⟩,?_⟩,λw3 Z=>⟨by omega,by omega,⟨j+1,by omega,by omega,by omega,?_,?_⟩,by omega⟩⟩
  ·unfold World.frozen?;simp only [hg];simp
  ·rw [Z];exact(kp.trans (Kp.ah x2 λg=>v.ownBlock=some g) λ _ _ h=>h).set ε _
  ·rw [J]at H|-;have :=Jg H Z (by omega)
   rwa [I3 δ]at this
 ·have e:=oE γ (by omega);subst e;rw [Po,N9]at ho;exact hR w' kp ho
def Ju {w:World}{v:Value}{G n:Nat}(h:Strs w v (zb G n))(hl:G+n<=1000000000000){R:Int->QU}(hR:∀w',Ex w w'->R (G+n:Nat) w'):
  QV 17 #[v,.int .i64 G] w (ax [.i] R):=by
 refine mD v G w R ?_;dsimp only [go_sem];dsimp only [go_sem,Nat.reduceAdd];obtain⟨a,c,hv⟩:=h.slice;rw [lO]at hv;refine⟨λk i w'=>∃j:Nat,i=j/\k=(G+j:Nat)/\j<=n/\Ex w w',λ _ i _=>(n - i).toNat,⟨0,rfl,rfl,OA _,Ex.refl w⟩,λk i w' hI=>?_⟩;obtain⟨j,rfl,rfl,hj,x⟩:=hI;refine⟨a,_,c,hv,λZ=>?_,λβ=>?_⟩
 ·have γ:=oL Z;have δ:j< (zb G n).length:=by rw [lO];exact γ
  obtain⟨b1,o1,c1,e1,e2,e3⟩:=(h.ex x).at δ;have em:(zb G n)[j]=mt (G+j):=by simp [zb]
  rw [em]at e3;refine⟨λw2=>Ex w' w2,λw2 H=>⟨H▸Ex.drew w',b1,o1,_,c1,e1,by omega,by rw [lO];omega,mt (G+j),λw3 J=>?_,?_⟩⟩
  ·rw [J.cell (a:=⟨b1,_,none⟩) e2,N7,NF];exact e3
  have x2:Ex w' w2:=H▸Ex.drew w';refine sM (k:=G+j) (by omega) λw3 J=>⟨Ex.trans x2 J,λhn=>by simp at hn,λ _=>⟨by omega,by omega,⟨j+1,by omega,by omega,by omega,Ex.trans x (Ex.trans x2 J)⟩,tN (by omega)⟩⟩
 ·have e:=oE β (by omega);subst e;exact hR w' x
def jk (LL:List (List Tx)):Nat:=(LL.map List.length).sum
def mk2 (k:Nat):List (List Tx)->List (List Tx)
 | []=>[]
 | l::LL=>zb k l.length::mk2 (k+l.length) LL
def oT:∀(k:Nat) (LL:List (List Tx)),(mk2 k LL).length=LL.length
 | _,[]=>rfl
 | k,l::LL=>by simp [mk2,oT]
def vS {LL:List (List Tx)}{i:Nat}(h:i< LL.length):jk (LL.take (i+1))=jk (LL.take i)+LL[i].length:=by
 unfold jk;rw [NG h,Oj,PN];rfl
def DI (LL:List (List Tx))(i:Nat):jk (LL.take i)<=jk LL:=by
 conv=>rhs;rw [<-OL i LL]
 unfold jk;rw [Oj,PN];omega
def yO:∀(k:Nat) (LL:List (List Tx)) (i:Nat) (h:i< LL.length) (G:i< (mk2 k LL).length),(mk2 k LL)[i]=zb (k+jk (LL.take i)) LL[i].length
 | k,l::LL,0,_,_=>by simp [mk2,jk]
 | k,l::LL,i+1,h,G=>by
  have :=yO (k+l.length) LL i (by simpa using h) (by rw [oT];simpa using h);simp only [mk2,List.getElem_cons_succ,this]
  congr 1
  simp only [Qb,jk,N4,OE];omega
def F8 {B:Nat}{w:World}{v:Value}{LL:List (List Tx)}(h:j0 B w v LL)(hB:B<=w.heap.size)(hl:LL.length<=1000000000)(hs:jk LL<=100000000000){R:Int->QU}
  (hR:∀w',Below B w w'->j0 B w' v (mk2 1 LL)->R (1+jk LL:Nat) w'):QV 29 #[v,.int .i64 1] w (ax [.i] R):=by
 refine kD v 1 w R ?_;dsimp only [go_sem];dsimp only [go_sem,Nat.reduceAdd];obtain⟨vs,h1,h2,h3,h4,h5⟩:=h;obtain⟨a,c,hv⟩:=(h2.Aq (D:=λ _=>True) λ _ _=>trivial).slice;have β:=oT 1 LL;refine⟨λk i w'=>∃j:Nat,i=j/\k=(1+jk (LL.take j):Nat)/\j<=vs.length/\Below B w w'/\aB Mc B w' v vs/\(∀i (h:i< vs.length) (h':i< LL.length),i< j->Own B w' vs[i] (zb (1+jk (LL.take i)) LL[i].length))/\∀i (h:i< vs.length) (h':i< LL.length),j<=i->Own B w' vs[i] LL[i],
  λ _ i _=>(vs.length - i).toNat,⟨0,rfl,rfl,OA _,QK _ _,h2,λi _ _ h=>by omega,λi h h' _=>h5 i h h'⟩,λk i w1 hI=>?_⟩
 obtain⟨j,rfl,rfl,hj,bl,k2,k3,k4⟩:=hI;refine⟨a,_,c,hv,λγ=>?_,λδ=>?_⟩
 ·have G:=oL γ;have Z:j< LL.length:=by omega
  have ε:=vS Z;have η:=DI LL (j+1);refine(k2.Aq (D:=λ _=>True) λ _ _=>trivial).get (Int.natCast_nonneg j) (gE G) (Q:=λn=>_) ?_;have oj:=k4 j G Z (ND _);refine Jn oj (by omega) λw2 kp o2=>⟨by omega,⟨j+1,by omega,by rw [ε,PB],by omega,?_,k2.kp kp λg J e=>h4 j G g e J,λi hi H ζ=>?_,λi hi H ζ=>?_⟩,tN G⟩
  ·exact bl.trans (kp.below (by have :=bl.size;omega) λg J e=>by have :=(oj.block g e).1;omega)
  ·by_cases e:i=j
   ·subst e;exact o2
   ·exact(k3 i hi H (by omega)).kp kp λg J e'=>h3 i j hi G e g J e'
  ·exact(k4 i hi H (by omega)).kp kp λg J e'=>h3 i j hi G (by omega) g J e'
 ·have e:=oE δ hj;subst e;have et:LL.take vs.length=LL:=by rw [h1,Od]
  rw [et];refine hR w1 bl ⟨vs,by rw [β,h1],k2,h3,h4,λi hi H=>?_⟩;rw [yO 1 LL i (by omega)];exact k3 i hi (by omega) hi
def Ap {w:World}{v:Value}{LL:List (List Tx)}(h:tH w v (mk2 1 LL))(hl:LL.length<=1000000000)(hs:jk LL<=100000000000){R:Int->QU}(hR:∀w',Ex w w'->R (1+jk LL:Nat) w'):
  QV 30 #[v,.int .i64 1] w (ax [.i] R):=by
 refine kR v 1 w R ?_;dsimp only [go_sem];dsimp only [go_sem,Nat.reduceAdd];obtain⟨vs,h1,h2,h3⟩:=h;rw [oT]at h1;obtain⟨a,c,hv⟩:=h2.slice;refine⟨λk i w'=>∃j:Nat,i=j/\k=(1+jk (LL.take j):Nat)/\j<=vs.length/\Ex w w',λ _ i _=>(vs.length - i).toNat,⟨0,rfl,rfl,OA _,Ex.refl _⟩,λk i w1 hI=>?_⟩;obtain⟨j,rfl,rfl,hj,x⟩:=hI;refine⟨a,_,c,hv,λJ=>?_,λZ=>?_⟩
 ·have G:=oL J;have H:j< LL.length:=by omega
  have β:=vS H;have γ:=DI LL (j+1);refine(LQ h2 x).get (Int.natCast_nonneg j) (gE G) (Q:=λn=>_) ?_;have st:=(h3 j G (by rw [oT];exact H)).ex x;rw [yO 1 LL j H]at st;refine Ju st (by omega) λw2 x2=>⟨λhn=>?_,λ _=>⟨by omega,⟨j+1,by omega,by rw [β,PB],by omega,Ex.trans x x2⟩,tN G⟩⟩
  simp only [NL]at hn;omega
 ·have e:=oE Z hj;subst e;have et:LL.take vs.length=LL:=by rw [h1,Od]
  rw [et];exact hR w1 x
def L1 (nS nI:Nat)(a:Array Value)(w:World)(R:Bool->QU):Prop:=
 KU nS a w λv3 q4 w5=>KU nI a w5 λv6 q7 w8=>Di 28 #[v6,v3] w8 λq9 G=>JC (!q9) (dD (!(q7==q4)) (R false G) (HP 29 #[v6,(.int .i64 1)] G λn11 β=>HP 30 #[v6,(.int .i64 1)] β λn13 H=>dD (decide (n13< 0)) (R false H) (dD (!decide (n13=n11)) (R false H) (KU nI a H λγ δ ε=>Di 28 #[γ,v3] ε λζ J=>JC (!ζ) (dD (!(δ==q4)) (R false J) (HP 30 #[v6,(.int .i64 1)] J λn20 Z=>dD (decide (n20< 0)) (R false Z) (dD (!decide (n20=n11)) (R false Z) (R true Z)))) (R false J))))) (R false G)
def Jx {nS nI:Nat}{a:Array Value}{LL:List (List Tx)}{b:Bool}(hl:LL.length<=1000000000)(β:∀l∈LL,l.length<=1000000000)(hs:jk LL<=100000000000)(hS:∀{w:World} {R:Value->Bool->QU},(∀v w',Ex w w'->tH w' v LL->R v b w')->QV nS a w (ax [.v,.b] R))
  (hI:∀{w:World} {R:Value->Bool->QU},(∀v w',Ex w w'->j0 w.heap.size w' v LL->R v b w')->QV nI a w (ax [.v,.b] R)) {w:World} {R:Bool->QU} (hR:∀w',Ex w w'->R true w'):L1 nS nI a w R:=by
 refine hS λv3 w5 x5 s3=>hI λv6 w8 x8 o6=>GY o6.str (s3.ex x8) hl β λκ H=>⟨λ _=>?_,λh=>by simp at h⟩
 have s8:=x8.size;have μ:=H.size;refine⟨λh=>by simp at h,λ _=>F8 (o6.ex H) (by omega) hl hs λε ζ γ=>Ap γ.str hl hs λν J=>⟨λh=>?_,λ _=>⟨λh=>by simp at h,λ _=>hI λξ ο Z η=>?_⟩⟩⟩
 ·simp only [NL]at h;omega
 have G:Ex w5 ε:=Ex.below (Ex.trans x8 H) ζ;have θ:=s3.ex (Ex.trans G (Ex.trans J Z));refine GY η.str θ hl β λς δ=>⟨λ _=>⟨λh=>by simp at h,λ _=>Ap (γ.str.ex (Ex.trans J (Ex.trans Z δ))) hl hs λυ ι=>⟨λh=>?_,λ _=>⟨λh=>by simp at h,λ _=>?_⟩⟩⟩,λh=>by simp at h⟩
 ·simp only [NL]at h;omega
 ·exact hR _ (Ex.trans x5 (Ex.trans G (Ex.trans J (Ex.trans Z (Ex.trans δ ι)))))
end
section
open T Classical Go.Shelf Go.Lib Go.Sort
def Ni:Shelf.Ren where
 f:=λx=>if x=6 then 125 else if x=15 then 170 else if x=14 then 192 else if x=28 then 217 else if x=29 then 218 else if x=20 then 231 else if x=21 then 232 else if x=22 then 233 else if x=23 then 234 else if x=24 then 235 else if x=25 then 236 else if x=26 then 237 else if x=27 then 238 else if x=46 then 253 else if x=47 then 248 else if x=48 then 249 else if x=49 then 254 else if x=50 then 255 else if x=57 then 260 else x
 t:=λx=>if x=22 then 31 else if x=24 then 22 else if x=25 then 152 else if x=3 then 3 else if x=39 then 188 else if x=0 then 0 else if x=53 then 91 else if x=55 then 228 else if x=4 then 4 else if x=46 then 221 else if x=45 then 220 else if x=50 then 210 else if x=5 then 5 else if x=9 then 9 else if x=66 then 246 else if x=70 then 250 else if x=76 then 255 else if x=77 then 200 else x
 g:=λx=>x
def F6:SlLaysF.n6 Tryz.prog Ni where
 mixed:=Eq.refl true
 f6:=⟨Tryz.f125.name,by kernel_rfl,OH Tryz.func125 (by kernel_rfl)⟩
 f14:=⟨Tryz.f192.name,by kernel_rfl,OH Tryz.func192 (by kernel_rfl)⟩
 f15:=OH Tryz.func170 (by kernel_rfl)
 f20:=⟨Tryz.f231.name,by kernel_rfl,OH Tryz.func231 (by kernel_rfl)⟩
 f21:=⟨Tryz.f232.name,by kernel_rfl,OH Tryz.func232 (by kernel_rfl)⟩
 f22:=⟨Tryz.f233.name,by kernel_rfl,OH Tryz.func233 (by kernel_rfl)⟩
 f23:=⟨Tryz.f234.name,by kernel_rfl,OH Tryz.func234 (by kernel_rfl)⟩
 f24:=⟨Tryz.f235.name,by kernel_rfl,OH Tryz.func235 (by kernel_rfl)⟩
 f25:=⟨Tryz.f236.name,by kernel_rfl,OH Tryz.func236 (by kernel_rfl)⟩
 f26:=⟨Tryz.f237.name,by kernel_rfl,OH Tryz.func237 (by kernel_rfl)⟩
 f27:=⟨Tryz.f238.name,by kernel_rfl,OH Tryz.func238 (by kernel_rfl)⟩
 f28:=OH Tryz.func217 (by kernel_rfl)
 f29:=OH Tryz.func218 (by kernel_rfl)
 f46:=⟨Tryz.f253.name,by kernel_rfl,OH Tryz.func253 (by kernel_rfl)⟩
 f47:=OH Tryz.func248 (by kernel_rfl)
 f48:=OH Tryz.func249 (by kernel_rfl)
 f49:=⟨Tryz.f254.name,by kernel_rfl,OH Tryz.func254 (by kernel_rfl)⟩
 f50:=⟨Tryz.f255.name,by kernel_rfl,OH Tryz.func255 (by kernel_rfl)⟩
 f57:=⟨Tryz.f260.name,by kernel_rfl,OH Tryz.func260 (by kernel_rfl)⟩
 t0:=Tryz.underlying0
 a0:=Tryz.isAgg0
 z0:=Tryz.sizeOf0
 v0:=Tryz.zeroValue0
 t3:=QA
 a3:=Tryz.isAgg3
 z3:=Tryz.sizeOf3
 v3:=Tryz.zeroValue3
 t4:=Tryz.underlying4
 a4:=Tryz.isAgg4
 z4:=Tryz.sizeOf4
 v4:=Tryz.zeroValue4
 t5:=Tryz.underlying5
 a5:=Tryz.isAgg5
 z5:=Tryz.sizeOf5
 v5:=Tryz.zeroValue5
 t9:=Tryz.underlying9
 a9:=Tryz.isAgg9
 z9:=Tryz.sizeOf9
 v9:=Tryz.zeroValue9
 t22:=Tryz.underlying31
 a22:=Tryz.isAgg31
 z22:=Tryz.sizeOf31
 v22:=Tryz.zeroValue31
 a24:=Tryz.isAgg22
 z24:=Tryz.sizeOf22
 t25:=Tryz.underlying152
 a25:=Tryz.isAgg152
 z25:=Tryz.sizeOf152
 v25:=Tryz.zeroValue152
 t39:=Tryz.underlying188
 a39:=Tryz.isAgg188
 z39:=Tryz.sizeOf188
 v39:=Tryz.zeroValue188
 t45:=Tryz.underlying220
 a45:=Tryz.isAgg220
 z45:=Tryz.sizeOf220
 v45:=Tryz.zeroValue220
 t46:=Tryz.underlying221
 a46:=Tryz.isAgg221
 z46:=Tryz.sizeOf221
 v46:=Tryz.zeroValue221
 t50:=Tryz.underlying210
 a50:=Tryz.isAgg210
 z50:=Tryz.sizeOf210
 v50:=Tryz.zeroValue210
 t53:=Tryz.underlying91
 a53:=Tryz.isAgg91
 z53:=Tryz.sizeOf91
 v53:=Tryz.zeroValue91
 t55:=Tryz.underlying228
 a55:=Tryz.isAgg228
 z55:=Tryz.sizeOf228
 v55:=Tryz.zeroValue228
 t66:=Tryz.underlying246
 a66:=Tryz.isAgg246
 z66:=Tryz.sizeOf246
 v66:=Tryz.zeroValue246
 t70:=Tryz.underlying250
 a70:=Tryz.isAgg250
 z70:=Tryz.sizeOf250
 v70:=Tryz.zeroValue250
 t76:=Tryz.underlying255
 a76:=Tryz.isAgg255
 z76:=Tryz.sizeOf255
 v76:=Tryz.zeroValue255
 t77:=Tryz.underlying200
 a77:=Tryz.isAgg200
 z77:=Tryz.sizeOf200
 v77:=Tryz.zeroValue200
def C7 (p:Option Addr)(cap:Nat)(G:Value)(w:World):QV 125 #[.slice p 0 cap,G] w λe w'=>e= .returned (.tuple #[])/\w'=w:=AnyF.slices_SortFunc_none {F6 with } p cap G w
def jG (g:Nat):Value:= .slice (some ⟨g,0,none⟩) 2 2
def E5 (p:Pq):List Tx:=[p.1,p.2]
def Dh:∀l:List Pq,jk (l.map E5)=2* l.length
 | []=>rfl
 | p::l=>by
  have :=Dh l;unfold jk at*;simp only [N4,OE,E5,Nv,NR]at*;omega
section
variable {α:Type} [Inhabited α] {enc:α->Value} {w:World} {g n:Nat} {os:Array Obj}
def wm (d:Array α):w.grownBy (sortWorld enc w g 0 n d os) (some g):=by
 refine⟨rfl,rfl,rfl,by simp [sortWorld,putRow,mapBlock,Sort.ahead],λk hk G=>?_⟩;unfold sortWorld;rw [heap_grow_old _ _ (by simpa [putRow,mapBlock,Sort.ahead]using hk)];have:g≠k:=λe=>G (by rw [e])
 simp [putRow,mapBlock,Sort.ahead,OW,this]
def BT {B e cap:Nat}{cur:Array Value}{ts:List α}(hb:B<=g)(H:w.heap[g]?=some (.cells cur e (0,0)))(h1:ts.length<=cap)(Z:cap<=maxLen)(h3:cur.size=cap* 1):
  aB e B (sortWorld enc w g 0 n ts.toArray os) (.slice (some ⟨g,0,none⟩) ts.length cap) (ts.map enc):=by
 have G:g< w.heap.size:=(N8.1 H).1;have e1:(sortWorld enc w g 0 n ts.toArray os).heap[g]?=some (.cells (putCells enc 0 ts.toArray cur) e (0,0)):=by
  unfold sortWorld;rw [heap_grow_old _ _ (by simpa [putRow,mapBlock,Sort.ahead]using G)];simp [putRow,mapBlock,Sort.ahead,OW,H,onCells]
 have e2:(putCells enc 0 ts.toArray cur).toList.take ts.length=ts.map enc:=by
  apply List.ext_getElem?;intro j;by_cases J:j< ts.length
  ·rw [Ox J,Oy];simp [putCells,J,show j< cur.size by omega]
  ·rw [List.getElem?_take_eq_none (by omega),Pm (by simp;omega)]
 unfold aB;rw [NH];exact⟨by simp,.inr ⟨g,cap,_,rfl,hb,e1,h1,Z,by simp [putCells,h3],by rw [N7];exact e2⟩⟩
end
def Ar {X:Type}{p:X->Prop}:∀l:List X,(∀x∈l,p x)->∃G:List {x // p x},G.map Subtype.val=l
 | [],_=>⟨[],rfl⟩
 | x::l,h=>by
  obtain⟨G,e⟩:=Ar l λy H=>h y (NJ _ H)
  exact⟨⟨x,h x (Oa ..)⟩::G,by rw [N4,e]⟩
def MD {α:Type}(f:α->Pq):SWO (Go.Proofs.ltOf λx y=>uk (f x) (f y)) where
 irrefl x:=O6 λh=>rH _ (fG.1 h)
 trans x y z h k:=Ph (fG.2 (lM (fG.1 (NZ h)) (fG.1 (NZ k))))
 ntrans x y z h k:=O6 λG=>by
  have h:=λe=>NU h (fG.2 e)
  have k:=λe=>NU k (fG.2 e)
  have G:=fG.1 G;rcases yd (f x) (f y)with e | e | e
  ·exact h e
  ·rw [e]at G;exact k G
  ·exact k (lM e G)
def II {B:Nat}{w:World}{v:Value}{gs:List Nat}{L:List Pq}(h:aB tL B w v (gs.map jG))(hlen:gs.length=L.length)(hr:∀x∈gs.zip L,oD w x.1 x.2/\v.ownBlock≠some x.1)(hl:L.length<=1000000000){R:QU}
  (hR:∀w' (P:List (Nat×Pq)),Kp w w' (λg=>v.ownBlock=some g)->P.Perm (gs.zip L)->(P.map Prod.snd).Pairwise (λa b=>¬oJ b a)->aB tL B w' v (P.map λx=>jG x.1)->R w'):
  QV 125 #[v,.func (.func 126) #[] #[]] w (ax [] R):=by
 rcases h.2 with⟨rfl,hn⟩ | ⟨g,cap,cur,rfl,hb,hg,h1,h2,h3,h4⟩
 ·refine(C7 none 0 _ w).mono ?_
  rintro e w' ⟨rfl,rfl⟩
  have:gs=[]:=by rw [NH]at hn;exact N3 hn
  subst this;exact⟨rfl,hR _ [] (Kp.ah (Ex.refl _) _) (OY _) List.Pairwise.nil h⟩
 rw [NH]at h1 h4|-;by_cases h0:gs=[]
 ·subst h0;refine(C7 _ _ _ w).mono ?_
  rintro e w' ⟨rfl,rfl⟩
  exact⟨rfl,hR _ [] (Kp.ah (Ex.refl _) _) (OY _) List.Pairwise.nil h⟩
 have η:(gs.zip L).length=gs.length:=by rw [List.length_zip];omega
 have β:∀x∈gs.zip L,oD w x.1 x.2/\x.1≠g:=λx hx=>⟨(hr x hx).1,λe=>(hr x hx).2 (by rw [e];rfl)⟩
 obtain⟨G,J⟩:=Ar (p:=λx:Nat×Pq=>oD w x.1 x.2/\x.1≠g) (gs.zip L) β;have H:G.length=gs.length:=by rw [<-η,<-J,NH]
 have κ:0< G.length:=by rw [H];exact PO.2 h0
 haveI:Inhabited {x:Nat×Pq // oD w x.1 x.2/\x.1≠g}:=⟨G[0]⟩
 have γ:gs.map jG=G.map λx=>jG x.val.1:=by
  have:gs=(gs.zip L).map Prod.fst:=by rw [List.map_fst_zip (by omega)]
  conv=>lhs;rw [this,<-J]
  rw [OJ,OJ];rfl
 have hH:Holds (λx:{x:Nat×Pq // oD w x.1 x.2/\x.1≠g}=>jG x.val.1) w g 0 G.toArray:=λj hj=>by
  have δ:j< G.length:=by simpa using hj
  refine⟨?_,by simp [World.frozen?,hg]⟩;have e:=Ot (λl=>l[j]?) h4;simp only [N7]at e;rw [Ox (by omega),γ,O7,Ny δ,OQ,Oy]at e;unfold World.cell?;simp only [hg,N2];rw [show(G.toArray)[j]! =G[j] by simp [δ]];exact e
 have ε:CmpLays1 Tryz.prog 126 #[] (λx:{x:Nat×Pq // oD w x.1 x.2/\x.1≠g}=>jG x.val.1) (λx y=>uk x.val.2 y.val.2) g 0 G.toArray.size w:=λm os dk _ x y=>by
  have kW:Kp w (sortWorld (λx:{x:Nat×Pq // oD w x.1 x.2/\x.1≠g}=>jG x.val.1) w g 0 m dk os) λb=>b=g:=Kp.aF (wm dk) λb e=>(Oh e).symm
  generalize sortWorld (λx:{x:Nat×Pq // oD w x.1 x.2/\x.1≠g}=>jG x.val.1) w g 0 m dk os=W at kW|-;have key:QV 126 #[jG x.val.1,jG y.val.1] W (ax [.i] λn w'=>n=uk x.val.2 y.val.2/\w'=W):=by
   refine kH _ _ W _ ?_;dsimp only [go_sem];dsimp only [go_sem,Nat.reduceAdd];exact Lm (x.property.1.kp kW x.property.2) (y.property.1.kp kW y.property.2) ⟨rfl,rfl⟩
  refine Calls.mono key ?_
  rintro e w' ⟨n,he,rfl,rfl⟩
  exact⟨he,0,#[],by simp [grow,World.drewN]⟩
 have key:=Any.slices_SortFunc F6 (λx:{x:Nat×Pq // oD w x.1 x.2/\x.1≠g}=>jG x.val.1) (λ _=>rfl) (λx y=>uk x.val.2 y.val.2) (MD λx:{x:Nat×Pq // oD w x.1 x.2/\x.1≠g}=>x.val.2) 126 #[] g 0 cap G.toArray w (enters_of Tryz.func126 (by kernel_rfl) rfl) ε hH (N8.1 hg).1 (by simp;omega);rw [show G.toArray.size=gs.length by simpa using H]at key;refine Calls.mono key ?_
 rintro e w' ⟨rfl,d',n,os,⟨hs,_,hp⟩,ζ,rfl⟩
 obtain⟨D⟩:=d';have hD:D.length=gs.length:=by simpa [H]using hs
 have Z:D.Perm G:=by
  have e1:(Array.extract ⟨D⟩ 0 gs.length).toList=D:=by simp [<-hD]
  have e2:(G.toArray.extract 0 gs.length).toList=G:=by simp [<-H]
  rwa [e1,e2]at hp
 refine⟨rfl,hR _ (D.map Subtype.val) (Kp.aF (wm _) λb e=>e) (J▸Z.map _) ?_ ?_⟩
 ·rw [OJ,List.pairwise_map,List.pairwise_iff_getElem];intro i j hi hj θ ι;have :=ζ i j (OA _) θ (by omega);rw [show(⟨D⟩:Array _)[i]! =D[i] by simp [hi],show(⟨D⟩:Array _)[j]! =D[j] by simp [hj]]at this;exact NU this (fG.2 ι)
 ·rw [OJ];have :=BT (enc:=λx:{x:Nat×Pq // oD w x.1 x.2/\x.1≠g}=>jG x.val.1) (n:=n) (os:=os) (ts:=D) hb hg (by omega) h2 h3;rw [show D.length=(gs.map jG).length by rw [NH,hD]]at this;exact this
end
section
open T Classical
def Own.up {B g:Nat}{w:World}{l:List Tx}(h:Own 0 w (jG g) l)(hB:B<=g):Own B w (jG g) l:=by
 refine⟨h.1,?_⟩;rcases h.2 with⟨e,_⟩ | ⟨G,cap,cur,e,_,rest⟩
 ·cases e
 ·refine .inr ⟨G,cap,cur,e,?_,rest⟩;have:g=G:=by unfold jG at e;simp only [P7,O4,QQ]at e;exact e.1.1
  omega
def Ie {B s:Nat}{w:World}{L:List Pq}{W:List Tx}{M:Nat->Prop}(h:Hc B w s L W M)(hl:L.length<=1000000){R:Value->Bool->QU}(ζ:W≠[]->R (.slice none 0 0) false w)
  (η:W=[]->∀v' w',Kp w w' M->j0 B w' v' ((ia L).map E5)->R v' true w'):QV 68 #[ptr s] w (ax [.v,.b] R):=by
 refine gX (ptr s) w R ?_;dsimp only [go_sem];dsimp only [go_sem,Nat.reduceAdd];refine fZ (ptr s) w _ ?_;dsimp only [go_sem];dsimp only [go_sem,Nat.reduceAdd];obtain⟨vl,vw,rs,h1,h2,h3,h4,h5,h6,h7,h8,h9⟩:=h.ex;obtain⟨aw,cw,θ⟩:=h5.strs.slice;have ι:=h.lt;refine⟨s,0,rfl,false,h.c2,λ _=>⟨s,0,rfl,vw,h2,aw,_,cw,θ,λhb=>ζ λe=>?_,λhb=>⟨s,0,rfl,vl,h1,?_⟩⟩,λh=>(by cases h)⟩
 ·rw [e]at hb;simp at hb
 have hW:W=[]:=by
  have:¬0< W.length:=by simpa using hb
  exact N3 (by omega)
 obtain⟨gs,κ,μ,ν⟩:∃gs:List Nat,gs.length=L.length/\rs=gs.map jG/\∀i (h:i< gs.length) (h':i< L.length),M gs[i]/\gs[i]≠s/\vl.ownBlock≠some gs[i]/\oD w gs[i] L[i]:=by
  have:∀i,∃g,i< L.length->rs[i]?=some (jG g)/\M g/\g≠s/\vl.ownBlock≠some g/\∀h:i< L.length,oD w g L[i]:=λi=>by
   by_cases hi:i< L.length
   ·obtain⟨g,k1,k2,k3,k4,_,k6⟩:=h8 i hi;exact⟨g,λ _=>⟨k1,k2,k3,k4,λ _=>k6⟩⟩
   ·exact⟨0,λh=>absurd h hi⟩
  obtain⟨f,hf⟩:=Classical.skolem.1 this;refine⟨(List.range L.length).map f,by simp,List.ext_getElem? λi=>?_,λi hi G=>?_⟩
  ·by_cases hi:i< L.length
   ·rw [(hf i hi).1];simp [hi]
   ·rw [Pm (by omega),Pm (by simp;omega)]
  ·have hh:=hf i G;simp only [OK,List.getElem_range];exact⟨hh.2.1,hh.2.2.1,hh.2.2.2.1,hh.2.2.2.2 G⟩
 subst μ;have hz:∀x∈gs.zip L,M x.1/\x.1≠s/\vl.ownBlock≠some x.1/\oD w x.1 x.2:=λx H=>by
  obtain⟨i,hi,rfl⟩:=List.getElem_of_mem H;rw [List.length_zip]at hi;rw [List.getElem_zip];exact ν i (by omega) (by omega)
 have ξ:(gs.zip L).map Prod.snd=L:=List.map_snd_zip (by omega);have ο:(gs.zip L).map Prod.fst=gs:=List.map_fst_zip (by omega);refine II h4 κ (λx H=>⟨(hz x H).2.2.2,(hz x H).2.2.1⟩) (by omega) λw1 P k1 hp ς o1=>?_
 have γ:∀x∈P,M x.1/\x.1≠s/\vl.ownBlock≠some x.1/\oD w x.1 x.2:=λx H=>hz x (hp.mem_iff.1 H)
 have es:=k1.block s ι λe=>(h6 s e).2.1 rfl
 refine⟨s,0,rfl,vl,by rw [Nw (w:=w) es];exact h1,?_⟩;have ε:(P.map λx=>((jG x.1,x.2):VP)).map Prod.fst=P.map λx=>jG x.1:=by rw [OJ];rfl
 have υ:(P.map λx=>((jG x.1,x.2):VP)).map Prod.snd=P.map Prod.snd:=by rw [OJ];rfl
 have hPl:P.length=L.length:=by rw [hp.length_eq,List.length_zip];omega
 refine Cp (ca:=[]) (l:=P.map λx=>((jG x.1,x.2):VP)) (by rw [ε];exact o1) (λx H=>?_) (by rw [NH];omega) (by kernel_rfl) (λx H y hy w' Q kp hQ=>?_) λv2 w2 k2 o2 φ=>?_
 ·obtain⟨z,_,rfl⟩:=Oe.1 H;rfl
 ·obtain⟨zx,χ,rfl⟩:=Oe.1 H;obtain⟨zy,ψ,rfl⟩:=Oe.1 hy;have a:=γ zx χ;have b:=γ zy ψ;refine lf _ _ w' Q ?_;dsimp only [go_sem];dsimp only [go_sem,Nat.reduceAdd];exact LY ((a.2.2.2.kp k1 a.2.2.1).kp kp a.2.2.1) ((b.2.2.2.kp k1 b.2.2.1).kp kp b.2.2.1) hQ
 have kk:Kp w w2 λg=>vl.ownBlock=some g:=Kp.trans k1 k2 λ _ _ h=>h
 have Z:=Jb (P.map λx=>((jG x.1,x.2):VP));have β:=H6 (P.map λx=>((jG x.1,x.2):VP));rw [υ,Mg ς λx=>(hp.map Prod.snd).mem_iff.trans (by rw [ξ])]at β;have δ:((zd (P.map λx=>((jG x.1,x.2):VP))).map Prod.fst).Nodup:=by
  have J:=(Z.map Prod.fst)
  rw [ε]at J;refine List.Nodup.sublist J ?_;have e2:P.map (λx=>jG x.1)=(P.map Prod.fst).map jG:=by rw [OJ];rfl
  rw [e2];have e3:((P.map Prod.fst).map jG).Perm (gs.map jG):=by
   have :=(hp.map Prod.fst).map jG
   rwa [ο]at this
  exact e3.nodup_iff.2 h9
 generalize zd (P.map λx=>((jG x.1,x.2):VP))=D at o2 Z β δ;have hD:∀x∈D,∃g,x.1=jG g/\M g/\g≠s/\vl.ownBlock≠some g/\oD w2 g x.2:=λx H=>by
  obtain⟨z,ω,rfl⟩:=Oe.1 (Z.subset H);have a:=γ z ω;exact⟨z.1,rfl,a.1,a.2.1,a.2.2.1,a.2.2.2.kp kk a.2.2.1⟩
 refine η hW v2 w2 (Kp.mono (λg hg=>(h6 g hg).1) kk) ⟨D.map Prod.fst,by rw [<-β];simp,o2,λi j hi hj hij g J e2=>?_,λi hi g J e2=>?_,λi hi G=>?_⟩
 ·have G:i< D.length:=by simpa using hi
  have hj':j< D.length:=by simpa using hj
  rw [OK]at J e2;obtain⟨g1,a1,_⟩:=hD _ (NO G);obtain⟨g2,a2,_⟩:=hD _ (NO hj');rw [a1]at J;rw [a2]at e2;have:g1=g2:=Oh (J.trans e2.symm);have e:(D.map Prod.fst)[i]=(D.map Prod.fst)[j]:=by rw [OK,OK,a1,a2,this]
  rcases Nat.lt_or_gt_of_ne hij with h | h
  ·exact List.pairwise_iff_getElem.1 δ i j hi hj h e
  ·exact List.pairwise_iff_getElem.1 δ j i hj hi h e.symm
 ·have G:i< D.length:=by simpa using hi
  rw [OK]at J;obtain⟨g1,a1,_,_,a3,_⟩:=hD _ (NO G);rw [a1]at J;have:g1=g:=Oh J;exact a3 (this▸φ g e2)
 ·have hiD:i< D.length:=by simpa using hi
  obtain⟨g1,a1,am,_,_,a4⟩:=hD _ (NO hiD);have J:((ia L).map E5)[i]=E5 D[i].2:=by
   simp only [<-β,OK]
  rw [J,OK,a1];exact Own.up a4.2.2.2 (h.mr g1 am).1
section
variable {t:P} {u:U}
end
def ra (u:U):List (Off Nat):=u.ths.flatMap offs
def MA (t:U):1<=t.size:=by cases t<;>simp only [T.size]<;>omega
def iF:∀t:U,3* (offs t).length<=t.size+1
 | .nil=>by simp [offs]
 | .tau p=>by have :=MA p;simp only [offs,OS,T.size];omega
 | .snd _ _ p=>by have :=MA p;simp only [offs,OS,T.size];omega
 | .rcv _ _ p=>by have :=MA p;simp only [offs,OS,T.size];omega
 | .sum p q=>by have :=iF p;have :=iF q;simp only [offs,NB,T.size];omega
 | .rep p=>by have :=iF p;simp only [offs,NH,T.size];omega
 | .par p q=>by simp [offs]
 | .res _ p=>by simp [offs]
 | .mat _ _ p=>by simp [offs]
def BO:∀u:U,3* (ra u).length<=u.size+1
 | .nil=>by simp [ra,T.ths]
 | .par p q=>by
  have h1:=iF p;have G:=BO q;unfold ra at*;simp only [T.ths,Ou,NB,T.size];omega
 | .res _ p=>by
  have G:=BO p;unfold ra at*;simp only [T.ths,T.size];omega
 | .tau p=>by have :=iF (.tau p);simpa [ra,T.ths]using this
 | .snd a b p=>by have :=iF (.snd a b p);simpa [ra,T.ths]using this
 | .rcv a b p=>by have :=iF (.rcv a b p);simpa [ra,T.ths]using this
 | .sum p q=>by have :=iF (.sum p q);simpa [ra,T.ths]using this
 | .rep p=>by have :=iF (.rep p);simpa [ra,T.ths]using this
 | .mat a b p=>by have :=iF (.mat a b p);simpa [ra,T.ths]using this
def GW {X:Type}(l:List U)(f:U->List X):(List.range l.length).flatMap (λi=>f (l.getD i .nil))=l.flatMap f:=by
 rw [List.flatMap_def,List.flatMap_def]
 congr 1
 apply PW
 ·simp
 ·intro i h1 G;have hi:i< l.length:=by simpa using G
  simp only [OK,List.getElem_range,dW hi]
def HB {X:Type}{f g:X->Nat}:∀{l:List X},(∀x∈l,f x<=g x)->(l.map f).sum<=(l.map g).sum
 | [],_=>ND _
 | x::l,h=>by
  have :=h x (Oa ..);have :=HB (f:=f) (g:=g) (l:=l) λy G=>h y (NJ _ G)
  simp only [N4,OE];omega
def xX {E:Nat->Off Nat->List Ev}{u:U}(G:∀i x,(E i x).length<=1)(H:u.size<=60):(zh E u).length<=100:=by
 have J:=BO u;have h1:(zh E u).length<=(ra u).length:=by
  have e:(ra u).length=((List.range u.ths.length).flatMap λi=>offs (u.ths.getD i .nil)).length:=by rw [GW];rfl
  rw [e];unfold zh;rw [List.length_flatMap,List.length_flatMap];exact HB λi _=>qg (G i) _
 omega
def cnt (f:Off Nat->Nat)(l:List (Off Nat)):Nat:=(l.map f).sum
noncomputable def ni (L:List Ev):Option (List Pq):=if L.all (λe=>e.2.isSome)then some (ia (eL L))else none
def FA {L:List Ev}:eW L=[]↔L.all (λe=>e.2.isSome)=true:=by
 unfold eW;rw [Qc,List.filter_eq_nil_iff,Pf];exact⟨λh e he=>by have :=h e he;cases G:e.2<;>simp_all,λh e he=>by have :=h e he;cases G:e.2<;>simp_all⟩
def EL {L:List Ev}(h:eW L=[]):ni L=some (ia (eL L)):=N' (FA.1 h)
def Et {L:List Ev}(h:eW L≠[]):ni L=none:=NS λe=>h (FA.2 e)
def Fv (e:Ev):wt [] e=true:=by simp [wt]
def FJ {L:List Ev}{acc:List Pq}(h:L.filter (wt [])=acc.map sm):ni L=some (ia acc):=by
 rw [Pr.2 λe _=>Fv e]at h;subst h;have e:eL (acc.map sm)=acc:=by
  unfold eL;rw [OJ];exact List.map_id' acc
 unfold ni;rw [e,N' (Pf.2 λe he=>by obtain⟨x,_,rfl⟩:=Oe.1 he;rfl)]
def AG {L:List Ev}(h:∃e∈L,wt [] e=true/\e.2=none):ni L=none:=by
 obtain⟨e,h1,_,G⟩:=h;refine NS λha=>?_
 have :=Pf.1 ha e h1;rw [G]at this;cases this
def Gk {L:List Ev}{m:List Pq}(h:ni L=some m):m.length<=L.length:=by
 unfold ni at h;split at h
 ·cases h;have :=tG (eL L);simpa [eL]using this
 ·cases h
def D6 {B0:Nat}{w:World}{v:Value}{l:List Pq}(h:cd B0 w v l)(hl:l.length<=1000000000){R:Value->QU}(hR:∀v' w',Ex w w'->tH w' v' (l.map E5)->R v' w'):
  QV 119 #[v] w (ax [.v] R):=by
 refine qP v w R ?_;dsimp only [go_sem];dsimp only [go_sem,Nat.reduceAdd];obtain⟨a,cap,hv⟩:=h.slice;refine⟨a,_,cap,hv,λt i w'=>∃(k:Nat) (gs:List Nat),i=k/\k<=l.length/\gs.length=k/\Ex w w'/\aB Mc w.heap.size w' t (gs.map jG)/\∀j (h:j< gs.length) (h':j< l.length),oD w' gs[j] l[j]/\t.ownBlock≠some gs[j],λ _ i _=>(l.length - i).toNat,⟨0,[],rfl,OA _,rfl,Ex.refl _,aB.nil _ _ _,λj hj=>(by cases hj)⟩,λt i w1 hI=>?_⟩;obtain⟨k,gs,rfl,hk,Z,x1,o1,hr⟩:=hI;have s1:=x1.size;refine⟨λε=>?_,λζ=>?_⟩
 ·have β:=oL ε;obtain⟨g,γ,η,hg,c1,c2⟩:=(h.ex x1).get β;refine⟨g,0,_,γ,η,by omega,by omega,l[k].1,l[k].2,⟨by rw [NF,N2];exact c1,by rw [NF,N2];exact c2,trivial⟩,λb w2 hb θ=>?_⟩;obtain⟨ι,κ⟩:=Er (cs:=[.string (ay l[k].1),.string (ay l[k].2)]) rfl rfl hb θ;refine⟨⟨rfl,rfl,ι⟩,λw3 μ=>?_⟩;obtain⟨x3,ς,c3⟩:=κ w3 μ;refine⟨l[k].1,by rw [c3 0 (by omega)];rfl,l[k].2,by rw [c3 1 (by omega)];rfl,λb4 w4 H G=>⟨rfl,λb5 w5 ν δ=>?_⟩⟩;have x4:Ex w3 w4:=G▸Ex.alloc _ _;have x5:Ex w4 w5:=δ▸Ex.alloc _ _;have s3:=x3.size;have s4:w4.heap.size=w3.heap.size+1:=by rw [G,size_alloc]
  have s5:=x5.size;have r4:oD w4 b4 (l[k].1,l[k].2):=⟨by omega,by rw [G,H];exact aa rfl,by rw [G,H];exact aa rfl,Dk H G⟩
  have J:=Ex.trans x3 (Ex.trans x4 x5);have o5:aB Mc w.heap.size w5 t (gs.map jG):=o1.kp (Kp.ah J λ _=>False) λ _ _ h=>h
  refine⟨w.heap.size,(gs.map jG).length,1,gs.map jG,[jG b4],o5,by omega,⟨rfl,rfl,.inr ⟨b5,0,1,rfl,λj u hu=>?_⟩⟩,⟨by rw [NH];unfold maxLen;omega,by rw [NH];omega⟩,λv6 w6 o6 g6 n6=>?_⟩
  ·match j,hu with
   | 0,hu=>cases hu;rw [δ,ν];exact aa rfl
  have o6:aB Mc w.heap.size w6 v6 ((gs++[b4]).map jG):=by
   unfold aB;rw [Oj,NB];exact o6
  have k6:Kp w5 w6 λg=>t.ownBlock=some g:=Kp.aF g6 λ _ h=>h
  have tb:=o1.block;have ne:∀g,g< w5.heap.size->t.ownBlock≠some g->v6.ownBlock≠some g:=λg hg hn e=>(n6 g e).elim hn λe=>by omega
  refine⟨by omega,⟨k+1,gs++[b4],by omega,by omega,by simp [Z],Ex.below (Ex.trans x1 J) (Kp.below k6 (by omega) λg hg e=>by have :=(tb g e).1;omega),o6,λj hj ξ=>?_⟩,tN β⟩;by_cases e:j< gs.length
  ·rw [Qa e];obtain⟨q1,q2⟩:=hr j e ξ;have q3:=q1.kp (Kp.ah J λ _=>False) id;exact⟨q3.kp k6 q2,ne _ q3.1 q2⟩
  ·have e:j=k:=by rw [NB,OS]at hj;omega
   subst e;have eg:(gs++[b4])[j]'hj=b4:=by rw [List.getElem_append_right (by omega)];simp
   rw [eg];have hn:t.ownBlock≠some b4:=λe=>by have :=(tb _ e).2;omega
   have q3:=r4.kp (Kp.ah x5 λ _=>False) id;exact⟨q3.kp k6 hn,ne _ q3.1 hn⟩
 ·have e:=oE ζ hk;subst e;refine hR t w1 x1 ⟨gs.map jG,by simp [Z],o1.Aq λg hg=>(o1.block g hg).2,λi hi υ=>?_⟩;have ο:i< gs.length:=by simpa using hi
  rw [OK,OK];exact(hr i ο (by omega)).1.2.2.2.strs
def FG {G:Nat}{w:World}{v:Value}{l:List Pq}(h:cd G w v l)(H:l.length<=1000000000){R:Value->Bool->QU}(hR:∀v' w',Ex w w'->tH w' v' ((ia l).map E5)->R v' true w'):
  QV 65 #[v,.bool true] w (ax [.v,.b] R):=by
 refine kC v true w R ?_;dsimp only [go_sem];dsimp only [go_sem,Nat.reduceAdd];refine⟨λh=>(by cases h),λ _=>Cc h H λv2 w2 J Z=>D6 Z (by have :=tG l;omega) λv3 w3 x3 o3=>hR v3 w3 (Ex.trans J x3) o3⟩
def Gf {w:World}{v:Value}{R:Value->Bool->QU}(hR:R (.slice none 0 0) false w):QV 65 #[v,.bool false] w (ax [.v,.b] R):=by
 refine kC v false w R ?_;dsimp only [go_sem];dsimp only [go_sem,Nat.reduceAdd];exact⟨λ _=>hR,λh=>(by cases h)⟩
def I2 {L:List Ev}{acc:List Pq}(h:L.filter (wt [])=acc.map sm):acc.length<=L.length:=by
 have :=Ot List.length h;rw [NH]at this;have :=PH (wt []) L;omega
def xC {u:U}(h:IP u){o:UInt8}(G:lt o=false):ni (zh (bn u o) u)=none:=by
 obtain⟨i,hi,a,b,p,H,ha,hb⟩:=h;refine AG ⟨([ρ0 a,33,35,o],none),OF.2 ⟨i,Pg.2 hi,OF.2 ⟨_,H,?_⟩⟩,Fv _,rfl⟩;show _∈(if a∈u.frL then []else if b∈u.frL then [([ρ0 a,33,35,o],if lt o=true then iz (EY u i p b (e0 o))else none)]else [([ρ0 a,33,ρ0 b],iz (EF u i p))]:List Ev);rw [NS ha,N' hb,NS (by rw [G];simp)];exact NT.2 rfl
def tw {X Y:Type}{f g:X->List Y}:∀{l:List X},(∀x∈l,f x=g x)->l.flatMap f=l.flatMap g
 | [],_=>rfl
 | x::l,h=>by rw [Ou,Ou,h x (Oa ..),tw λy G=>h y (NJ _ G)]
def Le {u:U}(h:¬IP u)(o G:UInt8):zh (bn u o) u=zh (bn u G) u:=by
 refine tw λi hi=>tw λx H=>?_
 cases x with
 | snd a b p=>
  show(if a∈u.frL then []else if b∈u.frL then [(_,_)]else [(_,_)]:List Ev)=if a∈u.frL then []else if b∈u.frL then [(_,_)]else [(_,_)]
  by_cases ha:a∈u.frL
  ·rw [N' ha,N' ha]
  ·by_cases hb:b∈u.frL
   ·exact absurd ⟨i,Pg.1 hi,a,b,p,H,ha,hb⟩ h
   ·rw [NS ha,NS ha,NS hb,NS hb]
 | _=>rfl
def Fj {u:U}{o G:UInt8}(J:lt o=false)(H:lt G=false):ni (zh (bn u o) u)=ni (zh (bn u G) u):=by
 by_cases h:IP u
 ·rw [xC h J,xC h H]
 ·rw [Le h o G]
noncomputable def Hq (t:P):Option UInt8:=uy λc=>decide (t.Fr c)
noncomputable def LJ (s:Tx):Option (List Pq):=if h:St s then ni (zh (bn (num h.choose e0 0).1 ((Hq h.choose).getD 0)) (num h.choose e0 0).1)else none
def Cb {t:P}(ok:nE t):LJ t.text=ni (zh (bn (num t e0 0).1 ((Hq t).getD 0)) (num t e0 0).1):=by
 have h:St t.text:=⟨t,ok,rfl⟩
 unfold LJ;rw [dif_pos h,(h.choose_spec.1).uniq ok h.choose_spec.2]
noncomputable def zi (p:Tx):Option (List Pq):=(fS p).bind LJ
def I7 (p:Tx):((zi p).getD []).length<=100:=by
 cases h:zi p with
 | none=>simp
 | some m=>
  show m.length<=_;unfold zi at h;cases e:fS p with
  | none=>rw [e]at h;cases h
  | some s=>
   rw [e]at h;obtain⟨t,ok,rfl⟩:=vQ e;have h:LJ t.text=some m:=h;rw [Cb ok]at h;have G:(num t e0 0).1.size<=60:=by have :=(ky ok.su.ae).2.2;have :=ok.size;omega
   have h1:=Gk h;have H:=xX (gT (num t e0 0).1 ((Hq t).getD 0)) G;omega
def DZ {p:Tx}{w:World}{R:Value->Bool->QU}(H:zi p=none->∀w',Ex w w'->R (.slice none 0 0) false w')(Z:∀L,zi p=some L->∀v w',Ex w w'->tH w' v (L.map E5)->R v true w'):
  QV 33 #[.string (ay p)] w (ax [.v,.b] R):=by
 refine mz p w R ?_;dsimp only [go_sem];dsimp only [go_sem,Nat.reduceAdd];refine D7 λw1 x1=>⟨λs e=>⟨λh=>(by cases h),λ _=>?_⟩,λe=>⟨λ _=>H ?_ _ x1,λh=>(by cases h)⟩⟩
 rotate_left
 ·unfold zi;rw [e];rfl
 have ei:zi p=LJ s:=by unfold zi;rw [e];rfl
 obtain⟨t,ok,rfl⟩:=vQ e;rw [Cb ok]at ei;have β:Ok t:=GD ok.al ok.good;have γ:(num t e0 0).1.size<=60:=by have :=(ky ok.su.ae).2.2;have :=ok.size;omega
 refine gY _ (ND _) β λfs w2 x2 hs hm=>gz (by have :=hs.bound;omega) λc G=>?_
 have ef:(λd=>decide (d∈fs))=λd=>decide (t.Fr d):=funext λd=>by rw [Pp];exact hm d
 have key:(lt c=true\/122< c)/\ni (zh (bn (num t e0 0).1 c) (num t e0 0).1)=zi p:=by
  rw [ei];unfold pK at G;rw [ef]at G;rcases G with G | ⟨δ,h1,_⟩
  ·have e1:(Hq t).getD 0=c:=by unfold Hq;rw [G];rfl
   exact⟨.inl (pf G).2.1,by rw [e1]⟩
  ·have e1:(Hq t).getD 0=0:=by unfold Hq;rw [δ];rfl
   have h2:122< c:=by rw [Ol];rw [NX]at h1;have:(128:UInt8).toNat=128:=rfl;have:(122:UInt8).toNat=122:=rfl;omega
   have ε:lt c=false:=by
    cases h:lt c with
    | false=>rfl
    | true=>have :=a6 h;rw [Ol]at h2;have:(122:UInt8).toNat=122:=rfl;omega
   exact⟨.inr h2,by rw [e1];exact Fj ε rfl⟩
 have J:=Ex.trans x1 x2;refine zj ok key.1 (want:=[]) (λh w3 x3=>Gf (H (key.2.symm.trans (AG h)) _ (Ex.trans J x3))) λacc ha v3 w3 x3 o3=>?_
 have h1:=I2 ha;have h2:=xX (gT (num t e0 0).1 c) γ;exact FG o3 (by omega) λv4 w4 x4 o4=>Z _ (key.2.symm.trans (FJ ha)) _ _ (Ex.trans J (Ex.trans x3 x4)) o4
def LD {b s n0 c:Nat}{w0 w:World}{E:List Ev}{M:Nat->Prop}(h:rC b s n0 c w0 w E M)(hl:E.length<=1000000){R:Value->Bool->QU}(G:ni E=none->R (.slice none 0 0) false w)
  (H:∀L,ni E=some L->∀v w',Kp w w' M->j0 w0.heap.size w' v (L.map E5)->R v true w'):QV 68 #[ptr s] w (ax [.v,.b] R):=by
 have Z:(eL E).length=E.length:=by unfold eL;simp
 exact Ie h.rs (by omega) (λJ=>G (Et J)) λJ v w' k o=>H _ (EL J) v w' k o
def Iw {w w1:World}{b J n0:Nat}(hb:b< w.heap.size)(hm:Mk w b n0)(H:J=w.heap.size)(G:w1=w.alloc (.cells #[.slice none 0 0,.slice none 0 0,.bool false] 79)):rC b J n0 0 w w1 [] (λg=>g=J):=by
 have x1:Ex w w1:=G▸Ex.alloc _ _;have s1:w1.heap.size=w.heap.size+1:=by rw [G,size_alloc]
 exact⟨Km.ex x1 hb,⟨by omega,rfl,λg e=>by omega,λj=>by rw [G,H];exact aV _ _ _ _,by rw [G,H];exact aa rfl,.slice none 0 0,.slice none 0 0,[],by rw [G,H];exact aa rfl,by rw [G,H];exact aa rfl,rfl,aB.nil _ _ _,Own.nil _ _,λg Z=>(by cases Z),λg Z=>(by cases Z),λi hi=>(by cases hi),O8⟩,⟨_,hm.ex x1,ND _,by simp⟩,hb⟩
def Lz {s:Nat}{w:World}(h:w.cell? ⟨s,2,none⟩=some (.bool true)){R:Value->Bool->QU}(hR:R (.slice none 0 0) false w):QV 68 #[ptr s] w (ax [.v,.b] R):=by
 refine gX (ptr s) w R ?_;dsimp only [go_sem];dsimp only [go_sem,Nat.reduceAdd];refine fZ (ptr s) w _ ?_;dsimp only [go_sem];dsimp only [go_sem,Nat.reduceAdd];exact⟨s,0,rfl,true,h,λh=>(by cases h),λ _=>⟨λ _=>hR,λh=>(by cases h)⟩⟩
def EW {p:Tx}{w:World}{R:Value->Bool->QU}(H:zi p=none->∀w',Ex w w'->R (.slice none 0 0) false w')(η:∀L,zi p=some L->∀v w',Ex w w'->j0 w.heap.size w' v (L.map E5)->R v true w'):
  QV 34 #[.string (ay p)] w (ax [.v,.b] R):=by
 refine mv p w R ?_;dsimp only [go_sem];dsimp only [go_sem,Nat.reduceAdd];refine DU (λe w1 G=>⟨λ _=>H ?_ _ G,λh=>(by cases h)⟩) λt ok e b w1 G hb st=>⟨λh=>(by cases h),λ _ bs w2 J Z=>?_⟩
 ·unfold zi;rw [e];rfl
 have ei:zi p=LJ t.text:=by unfold zi;rw [e];rfl
 rw [Cb ok]at ei;have su:=ok.su;have υ:=(ky su.ae).2.2;have ς:=ok.size;have hlen:=ok.len;have φ:=(bJ t e0 0).2;have β:(num t e0 0).1.size<=60:=by omega
 have γ:=st.mc.lt;have x2:Ex w1 w2:=Z▸Ex.alloc _ _;have hS:=Iw γ st.mc J Z;obtain⟨vl,δ,ε⟩:=st.l;obtain⟨bl,vo,vt,ts,rfl,_⟩:=CS su ε;have χ:bs=w1.heap.size:=J;refine⟨b,0,rfl,t.text,by rw [x2.cell (a:=⟨b,0+1,none⟩) γ];exact st.tx,Fm ok.al (by omega) (by omega) λy w3 x3 hy=>?_⟩;have θ:=hS.ex x3;have fin:∀{c:UInt8} {any:Bool},(Hq t).getD 0=c->(any=true->lt c=true)->(any=false->lt c=false)->QV 82 #[ptr b,ptr bs,.int .u8 c.toNat,.bool any] w3 (ax [] λw'=>QV 68 #[ptr bs] w' (ax [.v,.b] λt ι w'=>R t ι w')):=λ{c any} hc ha κ=>by
  subst hc;have ψ:=xX (gT (num t e0 0).1 ((Hq t).getD 0)) β;refine D0 rfl rfl ok su β θ δ ε (λg hg=>⟨hg.2.1,hg.2.2⟩) ha (by omega) (λw4 M' h4 _=>?_) λμ ν w4 M' r4 ξ=>Lz ξ (H (ei.trans (xC ν (κ μ))) _ ?_)
  ·have x4:Ex w w4:=Ex.below G (Kp.below h4.km.kp G.size λg hg e=>by omega);exact LD h4 (by omega) (λh=>H (ei.trans h) _ x4) λL h v5 w5 k5 o5=>η L (ei.trans h) v5 w5 (Ex.below x4 (Kp.below k5 x4.size λg hg e=>by have :=(h4.rs.mr g e).1;have :=G.size;omega)) (o5.mono G.size)
  ·have ζ:=Ex.trans x2 x3;refine Ex.below (Ex.trans G ζ) (Kp.below r4.1 (by have :=G.size;have :=ζ.size;omega) λg hg e=>?_);rcases e with e | e
   ·omega
   ·have :=G.size;omega
 exact DL hy (λο=>fin (any:=false) (by unfold Hq;rw [ο];rfl) (λh=>(by cases h)) λ _=>rfl) λc hc=>fin (any:=true) (by unfold Hq;rw [hc];rfl) (λ _=>(pf hc).2.1) λh=>(by cases h)
end
end Go.Proofs.YthekamjhgabkjaaGreat
