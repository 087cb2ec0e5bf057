/- Part 4 of a proof of what the last text states; no condition. -/
import Derived.Test.YtdecokaadekjnaaGreatU3
namespace Go.Proofs.YtdecokaadekjnaaGreat
open Go Go.RowKit
theorem FS.ext {w w' w'':World}{bm ba m a:Nat}(h:FS w w' bm ba m a)(x:Ex w' w''):FS w w'' bm ba m a:=
 ⟨Ex.trans h.ex x,Kx h.lm x.size,Kx h.la x.size,h.hm,h.ha,h.ne,by rw [x.cell (show bm< _ from h.lm)];exact h.cm,by rw [x.cell (show ba< _ from h.la)];exact h.ca,
  by rw [KC (w:=w') (x.block bm h.lm)];exact h.fm,by rw [KC (w:=w') (x.block ba h.la)];exact h.fa⟩
theorem FS.Il {w w' w'':World}{bm ba m a m':Nat}(h:FS w w' bm ba m a)(hw:w''=w'.setCell ⟨bm,0,none⟩ (iv m')):FS w w'' bm ba m' a:=by
 subst hw;exact⟨Ex.own h.ex h.hm _,by rw [KM];exact h.lm,by rw [KM];exact h.la,h.hm,h.ha,h.ne,Kj _ _ _ h.cm,by rw [J7 _ _ _ _ (λe=>by injection e with z;exact h.ne z)];exact h.ca,by rw [Kt];exact h.fm,by rw [Kt];exact h.fa⟩
theorem FS.H3 {w w' w'':World}{bm ba m a a':Nat}(h:FS w w' bm ba m a)(hw:w''=w'.setCell ⟨ba,0,none⟩ (iv a')):FS w w'' bm ba m a':=by
 subst hw;exact⟨Ex.own h.ex h.ha _,by rw [KM];exact h.lm,by rw [KM];exact h.la,h.hm,h.ha,h.ne,by rw [J7 _ _ _ _ (λe=>by injection e with z;exact h.ne z.symm)];exact h.cm,Kj _ _ _ h.ca,by rw [Kt];exact h.fm,by rw [Kt];exact h.fa⟩
theorem GY {n:Nat}(Z:Jf n){D:Nat->Prop}{w w':World}{v:Value}{o:List Nat}{l:Lv}{bm ba m a:Nat}(hs:FS w w' bm ba m a)(hn:l.sz<=n)(V:l.sh true=true)(h:gd D w' v o (af D w' l))(hb:a+o.length+l.tot<=1099511627776){R:World->Prop}
  (hR:∀w'',FS w w'' bm ba (max m (max o.length (aw l))) (a+(o.length+thAll l))->R w''):Calls Tryz.prog 249 #[v,ptr bm,ptr ba] w' (ax [] R):=by
 refine j0 v _ _ w' R ?_;have h1:=dy l;refine Z hn V h (by omega) λw6 x6=>⟨λ _=>True,λw8 W=>⟨trivial,?_⟩⟩
 have f8:FS w w8 bm ba m a:=(hs.ext x6).ext (W▸Ex.drew w6);have em:(if((max o.length (aw l):Nat):Int)> (m:Int)then((max o.length (aw l):Nat):Int)else(m:Int))=((max m (max o.length (aw l)):Nat):Int):=by split<;>omega
 have ea:((a:Int)+((o.length+thAll l:Nat):Int))=((a+(o.length+thAll l):Nat):Int):=by omega
 have J:aj ((a:Int)+((o.length+thAll l:Nat):Int)):=by unfold aj;omega
 have fin:∀w1 w2,FS w w1 bm ba (max m (max o.length (aw l))) a->w2=w1.setCell ⟨ba,0,none⟩ (.int .i64 ((a:Int)+((o.length+thAll l:Nat):Int)))->True/\R w2:=λw1 w2 f1 hw=>by
  rw [ea]at hw;exact⟨trivial,hR w2 (f1.H3 hw)⟩
 have mid:∀w1,w1=w8.setCell ⟨bm,0,none⟩ (.int .i64 (if((max o.length (aw l):Nat):Int)> (m:Int)then((max o.length (aw l):Nat):Int)else(m:Int)))->FS w w1 bm ba (max m (max o.length (aw l))) a:=λw1 hw=>by
  rw [em]at hw;exact f8.Il hw
 refine⟨⟨bm,0,rfl,m,f8.cm,trivial,⟨ba,0,rfl,a,f8.ca,trivial,J,bm,0,rfl,⟨⟨_,f8.cm⟩,f8.fm⟩,λG z=>⟨trivial,ba,0,rfl,⟨⟨_,(mid G z).ca⟩,(mid G z).fa⟩,λI H=>fin G I (mid G z) H⟩⟩,
  ⟨bm,0,rfl,⟨⟨_,f8.cm⟩,f8.fm⟩,λG z=>⟨trivial,ba,0,rfl,a,(mid G z).ca,trivial,J,ba,0,rfl,⟨⟨_,(mid G z).ca⟩,(mid G z).fa⟩,λI H=>fin G I (mid G z) H⟩⟩⟩,
  ⟨ba,0,rfl,a,f8.ca,trivial,J,bm,0,rfl,m,f8.cm,trivial,bm,0,rfl,⟨⟨_,f8.cm⟩,f8.fm⟩,λG z=>⟨trivial,ba,0,rfl,⟨⟨_,(mid G z).ca⟩,(mid G z).fa⟩,λI H=>fin G I (mid G z) H⟩⟩⟩
theorem FS.swap {w w':World}{bm ba m a:Nat}(h:FS w w' bm ba m a):FS w w' ba bm a m:=⟨h.ex,h.la,h.lm,h.ha,h.hm,Ni h.ne,h.ca,h.cm,h.fa,h.fm⟩
theorem aG (w:World)(c:Array Value)(e j:Nat):(w.alloc (.cells c e)).frozen? ⟨w.heap.size,j,none⟩=false:=by unfold World.frozen? World.alloc;simp
theorem FS.new {w w1 w2 I:World}{bm ba:Nat}(x:Ex w w1)(hm:bm=w1.heap.size)(G:w2=w1.alloc (.cells #[iv 0] 3))(ha:ba=w2.heap.size)(H:I=w2.alloc (.cells #[iv 0] 3)):Ex w w2/\FS w I bm ba 0 0:=by
 have :=x.size;subst hm G ha H;have J:Ex w (w1.alloc (.cells #[iv 0] 3)):=Ex.trans x (Ex.alloc _ _);have s2:=size_alloc w1 (.cells #[iv 0] 3);have V:=size_alloc (w1.alloc (.cells #[iv 0] 3)) (.cells #[iv 0] 3);have z:w1.heap.size< (w1.alloc (.cells #[iv 0] 3)).heap.size:=by omega
 refine⟨J,Ex.trans J (Ex.alloc _ _),by omega,by omega,this,by omega,by omega,?_,aa rfl,?_,aG _ _ _ _⟩
 ·rw [(Ex.alloc _ _).cell (a:=⟨w1.heap.size,0,none⟩) z];exact aa rfl
 ·rw [KC (w:=w1.alloc (.cells #[iv 0] 3)) ((Ex.alloc _ _).block _ z)];exact aG _ _ _ _
theorem xQ (n:Nat)(ih:∀m,m< n->Jf m):Jf n:=by
 intro D w v o l R hn hsh h hb hR;refine lk v w R ?_;obtain⟨b,vo,vt,ts,rfl,h2,h3,h4,h5,h6,h7,h8⟩:=h;obtain⟨ao,κ,ξ⟩:=h6.slice;rw [Kz]at ξ;obtain⟨at_,capt,hvt⟩:=h7.slice;have hlen:=h8.len;have hel:=Lv.cT l;have hlt:=cn l;have cv:∀{w1:World},Ex w w1->∀{j:Nat} {u:Value},w.cell? ⟨b,j,none⟩=some u->w1.cell? ⟨b,j,none⟩=some u:=by
  intro w1 hx j u hu;rw [hx.cell (show b< _ from h3)];exact hu
 have fin:∀bm ba H,FS w H bm ba (max o.length (aw l)) (o.length+thAll l)->∃ο:World->Prop,∀ε:World,ε=World.drew H->ο ε/\∃n87:Int,(∀w',ο w'->World.cell? w' ⟨bm,0,none⟩=some (Value.int IntKind.i64 n87))/\∃n88:Int,(∀w',ο w'->World.cell? w' ⟨ba,0,none⟩=some (Value.int IntKind.i64 n88))/\R (n87) (n88) ε:=by
  intro bm ba H f;refine⟨λw'=>Ex H w',λε μ=>⟨μ▸Ex.drew H,((max o.length (aw l):Nat):Int),λw' x=>(f.ext x).cm,((o.length+thAll l:Nat):Int),λw' x=>(f.ext x).ca,hR _ (Ex.trans f.ex (μ▸Ex.drew H))⟩⟩
 refine⟨λw'=>Ex w w',λw3 hw3=>⟨hw3▸Ex.drew w,b,0,rfl,vo,λw' hx=>cv hx h4,ao,_,κ,ξ,b,0,rfl,vo,λw' hx=>cv hx h4,ao,_,κ,ξ,λb1 ς β G=>?A,λb1 ς β G=>?B⟩⟩
 all_goals have x3:Ex w w3:=hw3▸Ex.drew w
 case' A=>
  have υ:Ex w ς:=G▸Ex.trans x3 (Ex.alloc _ _);refine⟨υ,λb2 w19 γ I=>?_⟩;have f:=(FS.new x3 β G γ I).2;refine⟨f.ex,⟨⟨_,f.cm⟩,f.fm⟩,λw21 J=>?_⟩;have f21:=f.Il (m':=o.length) J;refine⟨f21.ex,⟨⟨_,f21.ca⟩,f21.fa⟩,λw23 V=>?_⟩;have f23:=f21.H3 (a':=o.length) V;generalize b1=bm at*;generalize b2=ba at*;clear β γ G I J V f f21
 case' B=>
  have υ:Ex w ς:=G▸Ex.trans x3 (Ex.alloc _ _);refine⟨υ,λb2 w19 γ I=>?_⟩;have f:=(FS.new x3 β G γ I).2.swap;refine⟨f.ex,⟨⟨_,f.cm⟩,f.fm⟩,λw21 J=>?_⟩;have f21:=f.Il (m':=o.length) J;refine⟨f21.ex,⟨⟨_,f21.ca⟩,f21.fa⟩,λw23 V=>?_⟩;have f23:=f21.H3 (a':=o.length) V;generalize b1=ba at*;generalize b2=bm at*;clear β γ G I J V f f21
 all_goals
  refine⟨b,0,rfl,vt,cv f23.ex h5,at_,_,capt,hvt,λx w'=>∃i:Nat,x=i/\i<=ts.length/\FS w w' bm ba (max o.length (aw (l.take i))) (o.length+thAll (l.take i)),λx _=>(ts.length - x).toNat,⟨0,rfl,KT _,by simpa [Lv.take,aw,thAll]using f23⟩,λx H hI=>?_⟩;obtain⟨i,rfl,hi,f33⟩:=hI;refine⟨λhlt'=>?_,λhge=>?_⟩;rotate_left
  ·have:i=l.bB.length:=by simp only [J6]at hge;omega
   rw [this,Lv.di]at f33;exact fin bm ba H f33
  have ζ:i< ts.length:=by simp only [J4]at hlt';omega
  have hie:i< l.bB.length:=by omega
  obtain⟨bt,ot,z,hvt',hc⟩:∃bt ot z,vt= .slice (some ⟨bt,ot,none⟩) ts.length z/\H.cell? ⟨bt,ot+i,none⟩=some ts[i]:=by
   rcases h7 with⟨_,h0⟩ | ⟨bt,ot,z,e,_,φ,Z⟩
   ·rw [h0]at ζ;simp at ζ
   ·exact⟨bt,ot,z,e,by rw [f33.ex.cell (show bt< _ from φ)];exact Z i _ (J2 ζ)⟩
  obtain⟨e,he1,he2,χ⟩:=aM.single h8.bB (J2 ζ);have he4:l.bB[i]=e:=by rw [J2 hie]at he1;exact KS he1
  have ψ:=Lv.take_succ l i hie;rw [he4]at ψ;have ω:=Lv.fG l (i+1);rw [ψ,Lv.ch]at ω;have htt0:=dy (l.take i);have hsz:=Lv.eD l e he2;have he5:=χ.ex f33.ex;have step:∀W,FS w W bm ba (max (max o.length (aw (l.take i))) (aw e)) (o.length+thAll (l.take i)+thAll e)->aj ((i:Int)+1)/\(∃j:Nat,(i:Int)+1=j/\j<=ts.length/\FS w W bm ba (max o.length (aw (l.take j))) (o.length+thAll (l.take j)))/\((ts.length:Int) - ((i:Int)+1)).toNat< ((ts.length:Int) - i).toNat:=by
   intro W f58;refine⟨by unfold aj;omega,⟨i+1,by omega,by omega,?_⟩,by omega⟩;rw [ψ,cC,cy];rw [Nat.max_assoc,Mt]at f58;exact f58
  refine⟨bt,ot,_,z,hvt',by omega,by omega,ts[i],by rw [J9,KK];exact hc,?_⟩;rcases Lv.jJ hsh e he2 with⟨k,a,bb,o',r,rfl,hr⟩ | ⟨ps,rfl,hps⟩
  ·obtain⟨t,ts',a',b',vr,e1,ht,_,η,_⟩:=χ;obtain⟨rfl,rfl⟩:=K8 e1;obtain⟨g,hg,_,θ,c0,c1,c2,c3,c4⟩:=ht;have η:=η.ex f33.ex;rw [<-f33.ex.cell (show g< _ from θ)]at c3;have hvr:∃br,vr=ptr br:=by obtain⟨br,_,_,_,e,_⟩:=η;exact⟨br,e⟩
   obtain⟨br,rfl⟩:=hvr;simp only [Lv.sz]at hsz;simp only [Lv.tot]at ω;refine⟨g,0,hg,ptr br,c3,some ⟨br,0,none⟩,rfl,λ _=>⟨g,0,hg,ptr br,c3,249,[ptr bm,ptr ba],rfl,by kernel_rfl,?_⟩,λh=>by cases h⟩;refine GY (ih r.sz (by omega)) f33 (Kb _) hr η (by omega) λw48 f48=>?_
   refine⟨g,0,hg,.slice none 0 0,by rw [f48.ex.cell (show g< _ from θ)];exact c4,none,0,0,rfl,λy W=>y=0/\W=w48,λ _ _=>0,⟨rfl,rfl⟩,λy W hy=>?_⟩;obtain⟨rfl,rfl⟩:=hy;refine⟨λh=>by simp at h,λ _=>step _ ?_⟩;simpa [aw,thAll]using f48
  ·obtain⟨t,ts',a',b',vp,us,e1,ht,hus,ν,_⟩:=χ;obtain⟨rfl,rfl⟩:=K8 e1;obtain⟨g,hg,_,θ,c0,c1,c2,c3,c4⟩:=ht;obtain⟨au,cau,hvu⟩:=hus.slice;rw [<-f33.ex.cell (show g< _ from θ)]at c3 c4;simp only [Lv.sz]at hsz;simp only [Lv.tot]at ω;have hul:=ν.len;have hpl:=Lv.cT ps;have hpt:=cn ps;refine⟨g,0,hg,.pointer none,c3,none,rfl,λh=>(by cases h),λ _=>⟨g,0,hg,vp,c4,au,_,cau,hvu,λy w'=>∃j:Nat,y=j/\j<=us.length/\FS w w' bm ba (max (max o.length (aw (l.take i))) (aw (ps.take j))) (o.length+thAll (l.take i)+thAll (ps.take j)),λy _=>(us.length - y).toNat,⟨0,rfl,KT _,by simpa [Lv.take,aw,thAll]using f33⟩,λy W hJ=>?_⟩⟩;obtain⟨j,rfl,hj,f58⟩:=hJ;refine⟨λhlt2=>?_,λhge2=>?_⟩;rotate_left
   ·have:j=ps.bB.length:=by simp only [J6]at hge2;omega
    rw [this,Lv.di]at f58;exact step _ (by simpa [aw,thAll]using f58)
   have ι:j< us.length:=by simp only [J4]at hlt2;omega
   have hje:j< ps.bB.length:=by omega
   obtain⟨bu,ou,α,hvu',hcu⟩:∃bu ou α,vp= .slice (some ⟨bu,ou,none⟩) us.length α/\W.cell? ⟨bu,ou+j,none⟩=some us[j]:=by
    rcases hus with⟨_,h0⟩ | ⟨bt,ot,z,e,_,φ,Z⟩
    ·rw [h0]at ι;simp at ι
    ·exact⟨bt,ot,z,e,by rw [f58.ex.cell (show bt< _ from φ)];exact Z j _ (J2 ι)⟩
   obtain⟨e,hf1,hf2,hf3⟩:=aM.single ν.bB (J2 ι);have hf4:ps.bB[j]=e:=by rw [J2 hje]at hf1;exact KS hf1
   have δ:=Lv.take_succ ps j hje;rw [hf4]at δ;have htu:=Lv.fG ps (j+1);rw [δ,Lv.ch]at htu;have htu0:=dy (ps.take j);have hsz2:=Lv.eD ps e hf2;obtain⟨o2,q,rfl,hq⟩:=Lv.mD hps e hf2;simp only [Lv.sz]at hsz2;simp only [Lv.tot]at htu;obtain⟨v2,ts2,e2,hlv2,_⟩:=hf3;obtain⟨rfl,rfl⟩:=K8 e2;refine⟨bu,ou,_,α,hvu',by omega,by omega,us[j],by rw [J9,KK];exact hcu,249,[ptr bm,ptr ba],rfl,by kernel_rfl,?_⟩;refine GY (ih q.sz (by omega)) f58 (Kb _) hq (hlv2.ex f58.ex) (by omega) λw66 f66=>⟨by unfold aj;omega,⟨j+1,by omega,by omega,?_⟩,by show((us.length:Int) - ((j:Int)+1)).toNat< ((us.length:Int) - j).toNat;omega⟩
   rw [δ,cC,cy];simp only [aw,thAll,Nat.max_zero,MF];rw [<-Nat.max_assoc,<-Mt];exact f66
theorem DL (n:Nat):Jf n:=by
 induction n using Nat.strongRecOn with
 | _ n z=>exact xQ n z
end Go.Proofs.YtdecokaadekjnaaGreat
namespace Go.Proofs.YtdecokaadekjnaaGreat
namespace Lv
def bvs:Lv->List Nat
 | nil=>[]
 | thr k _ b o r n=>(if k= .r then [b]else [])++(o++(r.bvs++n.bvs))
 | sum z n=>z.bvs++n.bvs
 | part o q n=>o++(q.bvs++n.bvs)
theorem dA:∀l m:Lv,(l.app m).bvs=l.bvs++m.bvs
 | nil,m=>rfl
 | thr k a b o r n,m=>by simp only [app,bvs,dA n m,KN]
 | sum z n,m=>by simp only [app,bvs,dA n m,KN]
 | part o q n,m=>by simp only [app,bvs,dA n m,KN]
theorem mH:∀(l:Lv),∀e∈l.bB,e.bvs.Sublist l.bvs
 | nil,e,h=>by cases h
 | thr k a b o r n,e,h=>by
  rcases Ks.1 h with rfl | h
  ·simp only [bvs,KJ];exact LK (La _) (LK (La _) (Mj _ _))
  ·exact(mH n e h).trans ((LA _ _).trans ((LA _ _).trans (LA _ _)))
 | sum z n,e,h=>by
  rcases Ks.1 h with rfl | h
  ·simp only [bvs,KJ];exact Mj _ _
  ·exact(mH n e h).trans (LA _ _)
 | part o q n,e,h=>by
  rcases Ks.1 h with rfl | h
  ·simp only [bvs,KJ];exact LK (La _) (Mj _ _)
  ·exact(mH n e h).trans ((LA _ _).trans (LA _ _))
theorem pJ {x:Nat}:∀(l:Lv),∀e∈l.bB,e.fh x->l.fh x
 | nil,e,h,_=>by cases h
 | thr k a b o r n,e,h,z=>by
  rcases Ks.1 h with rfl | h
  ·rcases z with z | z | z | z
   ·exact .inl z
   ·exact .inr (.inl z)
   ·exact .inr (.inr (.inl z))
   ·exact z.elim
  ·exact .inr (.inr (.inr (pJ n e h z)))
 | sum G n,e,h,z=>by
  rcases Ks.1 h with rfl | h
  ·exact .inl (z.elim id λh=>h.elim)
  ·exact .inr (pJ n e h z)
 | part o q n,e,h,z=>by
  rcases Ks.1 h with rfl | h
  ·exact .inl (z.elim id λh=>h.elim)
  ·exact .inr (pJ n e h z)
theorem ll:∀(l:Lv) (i:Nat),∀x∈(l.take i).bvs,x∈l.bvs
 | _,0,x,h=>by simp [take,bvs]at h
 | nil,i+1,x,h=>h
 | thr k a b o r n,i+1,x,h=>by
  simp only [take,bvs,Ke]at h|-;exact h.imp id (Or.imp id (Or.imp id (ll n i x)))
 | sum z n,i+1,x,h=>by
  simp only [take,bvs,Ke]at h|-;exact h.imp id (ll n i x)
 | part o q n,i+1,x,h=>by
  simp only [take,bvs,Ke]at h|-;exact h.imp id (Or.imp id (ll n i x))
theorem gT:∀(l:Lv) (i:Nat),(l.take i).len<=l.len
 | _,0=>by simp [take,len]
 | nil,i+1=>by simp [take,len]
 | thr k a b o r n,i+1=>by have :=gT n i;simp only [take,len];omega
 | sum z n,i+1=>by have :=gT n i;simp only [take,len];omega
 | part o q n,i+1=>by have :=gT n i;simp only [take,len];omega
def sm:Lv->Bool
 | nil=>true
 | thr _ _ _ _ r n=>r.sm&&n.sm
 | sum z n=> !z.isNil&&(z.sm&&n.sm)
 | part _ q n=>q.sm&&n.sm
theorem qi:∀{l m:Lv},(l.app m).sm=(l.sm&&m.sm)
 | nil,m=>by simp [app,sm]
 | thr k a b o r n,m=>by simp only [app,sm,qi (l:=n),ND]
 | sum z n,m=>by simp only [app,sm,qi (l:=n),ND]
 | part o q n,m=>by simp only [app,sm,qi (l:=n),ND]
theorem sg:∀{l:Lv},l.sm=true->∀e∈l.bB,e.sm=true
 | nil,_,e,h=>by cases h
 | thr k a b o r n,z,e,h=>by
  simp only [sm,J3]at z;rcases Ks.1 h with rfl | h
  ·simp only [sm,z.1,Lu]
  ·exact sg z.2 e h
 | sum G n,z,e,h=>by
  simp only [sm,J3]at z;rcases Ks.1 h with rfl | h
  ·simp only [sm,z.1,z.2.1,Lu]
  ·exact sg z.2.2 e h
 | part o q n,z,e,h=>by
  simp only [sm,J3]at z;rcases Ks.1 h with rfl | h
  ·simp only [sm,z.1,Lu]
  ·exact sg z.2 e h
theorem HO {z:Lv}{n:List Nat×Lv}(h:z.sm=true)(G:n.2.sm=true):(spl z n).2.sm=true:=by
 unfold spl;split
 ·exact G
 ·simp only [sm,J3]at h;simp only [qi,h.1,G,Lu]
 ·rename_i H h2;have:z.isNil=false:=by cases z<;>first | rfl | exact absurd rfl H
  simp only [sm,this,h,G,Bool.not_false,Lu]
theorem HJ {o:List Nat}{q n:Lv}(h:q.sm=true)(z:n.sm=true):(prt o q n).sm=true:=by
 unfold prt;split
 ·exact z
 ·split
  ·simp only [sm,J3]at h;simp only [qi,h.2.1,z,Lu]
  ·simp only [sm,J3]at h|-;exact⟨h,z⟩
 ·simp only [sm,h,z,Lu]
theorem oe:∀l:Lv,(tid l).2.sm=true
 | nil=>rfl
 | thr k a b o r n=>by
  have z:=oe r;have h2:=oe n;simp only [tid];have G:(kept o (tid r)).2=(tid r).2:=rfl;split
  ·simp only [qi,G,z,h2,Lu]
  ·split
   ·exact h2
   ·simp only [sm,G,z,h2,Lu]
 | sum H n=>by
  simp only [tid];exact HO (oe H) (oe n)
 | part o q n=>by
  simp only [tid,kept];exact HJ (oe q) (oe n)
end Lv
structure ug (o:List Nat)(l:Lv):Prop where
 nd:(o++l.bvs).Nodup
 nf:∀x∈l.bvs,¬l.fh x
 ge:∀x∈o++l.bvs,26<=x
theorem ug.bB {o:List Nat}{l:Lv}(h:ug o l){e:Lv}(he:e∈l.bB):ug [] e:=by
 have z:=Lv.mH l e he;refine⟨by simpa using(KL.1 h.nd).2.1.sublist z,λx G H=>h.nf x (z.subset G) (Lv.pJ l e he H),λx G=>h.ge x (KB _ (z.subset (by simpa using G)))⟩
theorem ug.thr {k:K}{a b:Nat}{o:List Nat}{r:Lv}(h:ug [] (.thr k a b o r .nil)):ug o r/\(k= .r->26<=b/\b≠a/\b∉o/\b∉r.bvs):=by
 have nd:=h.nd;have ge:=h.ge;have nf:=h.nf;simp only [Lv.bvs,KJ,KZ]at nd ge nf;have z:=(KL.1 nd).2.1;refine⟨⟨z,λx G J=>?_,λx G=>ge x (KB _ G)⟩,λH=>?_⟩
 ·refine nf x (KB _ (KB _ G)) (.inr (.inr (.inl ⟨λI=>(KL.1 z).2.2 x I x G rfl,fun⟨H,hb⟩=>?_,J⟩)));rw [KG H]at nd;exact(KL.1 nd).2.2 b (by simp) x (KB _ G) hb.symm
 ·rw [KG H]at nd ge nf;refine⟨ge b (by simp),λe=>nf b (by simp) (.inr (.inl ⟨H,e⟩)),λI=>(KL.1 nd).2.2 b (by simp) b (KH _ I) rfl,λhr=>(KL.1 nd).2.2 b (by simp) b (KB _ hr) rfl⟩
theorem ug.sum {G:Lv}(h:ug [] (.sum G .nil)):ug [] G:=by
 have nd:=h.nd;have ge:=h.ge;have nf:=h.nf;simp only [Lv.bvs,KJ,KZ]at nd ge nf;exact⟨by simpa using nd,λx z H=>nf x z (.inl H),λx z=>ge x (by simpa using z)⟩
theorem ug.part {o:List Nat}{q:Lv}(h:ug [] (.part o q .nil)):ug o q:=by
 have nd:=h.nd;have ge:=h.ge;have nf:=h.nf;simp only [Lv.bvs,KJ,KZ]at nd ge nf;exact⟨nd,λx z G=>nf x (KB _ z) (.inl ⟨λH=>(KL.1 nd).2.2 x H x z rfl,G⟩),ge⟩
def bR (l:List Tx):Nat:=(l.map λs=>s.length+3).sum
theorem ik {l m:List Tx}(h:l.Perm m):bR l=bR m:=jt (h.map _)
theorem zi (l m:List Tx):bR (l++m)=bR l+bR m:=by simp [bR]
theorem gJ (s:UInt8):∀l:List Tx,(joinS s l).length<=bR l
 | []=>by simp [joinS]
 | [a]=>by simp [joinS,bR]
 | a::b::l=>by
  have :=gJ s (b::l);simp only [joinS,J0,J',Kh];simp only [bR,KE,Ld]at this|-;omega
theorem uZ (s:Tx):∀l:List UInt8,(wrap l s).length=3* l.length+s.length
 | []=>by simp [wrap]
 | c::l=>by simp only [wrap,J0,uZ s l];omega
theorem nO {own:List Nat}{f:Rh->Tk->List Tx}{B:Nat}(hB:∀ρ tk,bR (f ρ tk)<=B)(ρ:Rh)(tk:Tk):(aR own f ρ tk).length<=3* own.length+B+1:=by
 unfold aR;split
 ·simp
 ·have z:((perms own).map λπ=>joinS 38 (a7 (f (asg π (lets own.length tk) ρ) (addK (lets own.length tk) tk))))≠[]:=λe=>pe own (ML.1 e)
  obtain⟨G,_⟩:=cM z;obtain⟨π,_,e⟩:=KQ.1 G;show(wrap _ (bP _)).length<=_;rw [uZ,fB,<-e];have :=gJ 38 (a7 (f (asg π (lets own.length tk) ρ) (addK (lets own.length tk) tk)));rw [ik (aO _)]at this;have :=hB (asg π (lets own.length tk) ρ) (addK (lets own.length tk) tk);omega
theorem gn:∀(l:Lv) (ρ:Rh) (tk:Tk),bR (thS l ρ tk)<=16* l.tot
 | .nil,_,_=>by simp [thS,bR]
 | .thr k a b o r n,ρ,tk=>by
  have h2:=gn n ρ tk;have z:∀ρ tk,(aR o (thS r) ρ tk).length<=3* o.length+16* r.tot+1:=λρ tk=>nO (λρ tk=>gn r ρ tk) ρ tk
  simp only [bR]at h2|-;cases k<;>simp only [thS,KE,Ld,kText,J0,Lv.tot]
  ·have :=z ρ tk;omega
  ·have :=z (aF ρ b (iK tk)) (cA tk (iK tk));omega
  ·have :=z ρ tk;omega
  ·have :=z ρ tk;omega
  ·have :=z ρ tk;omega
 | .sum G n,ρ,tk=>by
  have z:=gn G ρ tk;have h2:=gn n ρ tk;have H:=gJ 43 (a7 (thS G ρ tk));rw [ik (aO _)]at H;simp only [bR]at z h2 H|-;simp only [thS,KE,Ld,Lv.tot];omega
 | .part o q n,ρ,tk=>by
  have h2:=gn n ρ tk;have z:(aR o (thS q) ρ tk).length<=3* o.length+16* q.tot+1:=nO (λρ tk=>gn q ρ tk) ρ tk;simp only [bR]at h2|-;simp only [thS,KE,Ld,Lv.tot];omega
theorem qk {s:UInt8}:∀{l:List Tx},l≠[]->(∀t∈l,t≠[])->joinS s l≠[]
 | [],h,_=>absurd rfl h
 | [a],_,h=>h a (by simp)
 | a::b::l,_,_=>by simp [joinS]
theorem qp {l:List Tx}(h:l≠[]):a7 l≠[]:=λe=>h (by have :=aO l;rw [e]at this;exact this.symm.eq_nil)
theorem zq {own:List Nat}{f:Rh->Tk->List Tx}(H:∀ρ tk,∀t∈f ρ tk,t≠[])(he:∀ρ ρ' tk tk',(f ρ tk).isEmpty=(f ρ' tk').isEmpty)(ρ:Rh)(tk:Tk):aR own f ρ tk≠[]:=by
 unfold aR;split
 ·simp
 ·rename_i I;have z:((perms own).map λπ=>joinS 38 (a7 (f (asg π (lets own.length tk) ρ) (addK (lets own.length tk) tk))))≠[]:=λe=>pe own (ML.1 e)
  obtain⟨J,_⟩:=cM z;obtain⟨π,_,e⟩:=KQ.1 J;show wrap _ (bP _)≠[];rw [yl];refine λV=>?_
  have G:=(List.append_eq_nil_iff.1 V).2;rw [<-e]at G;refine qk (qp ?_) (λt W=>H _ _ t ((aO _).subset W)) G;intro Z;have :=he (asg π (lets own.length tk) ρ) ρ (addK (lets own.length tk) tk) tk;rw [Z]at this;exact I this.symm
theorem EI (l:Lv)(ρ ρ':Rh)(tk tk':Tk):(thS l ρ tk).isEmpty=(thS l ρ' tk').isEmpty:=by
 rw [K6,List.isEmpty_iff_length_eq_zero,List.isEmpty_iff_length_eq_zero,bF,bF]
theorem mF:∀(l:Lv),l.sm=true->∀(ρ:Rh) (tk:Tk),∀t∈thS l ρ tk,t≠[]
 | .nil,_,_,_,t,h=>by cases h
 | .thr k a b o r n,z,ρ,tk,t,h=>by
  simp only [Lv.sm,J3]at z;have I:t∈thS n ρ tk\/t≠[]:=by
   cases k<;>simp only [thS,Ks]at h<;>rcases h with rfl | h<;>first | exact .inl h | (right;simp [kText])
  exact I.elim (mF n z.2 ρ tk t) id
 | .sum G n,z,ρ,tk,t,h=>by
  simp only [Lv.sm,J3]at z;rw [thS]at h;rcases Ks.1 h with rfl | h
  ·refine qk (qp λe=>?_) λt J=>mF G z.2.1 ρ tk t ((aO _).subset J)
   have H:=bF G ρ tk;rw [e]at H;have h2:G.isNil=true:=by rw [Lv.du];simp at H;simp [<-H]
   rw [h2]at z;simp at z
  ·exact mF n z.2.2 ρ tk t h
 | .part o q n,z,ρ,tk,t,h=>by
  simp only [Lv.sm,J3]at z;rw [thS]at h;rcases Ks.1 h with rfl | h
  ·exact zq (λρ tk=>mF q z.1 ρ tk) (λρ ρ' tk tk'=>EI q ρ ρ' tk tk') ρ tk
  ·exact mF n z.2 ρ tk t h
theorem Ca (x:Nat)(z:Lv)(n:List Nat×Lv):((Lv.spl z n).1++(Lv.spl z n).2.bvs).count x=z.bvs.count x+(n.1++n.2.bvs).count x:=by
 unfold Lv.spl;split
 ·simp [Lv.bvs]
 ·simp only [Lv.dA,Lv.bvs,KV,NF];omega
 ·simp only [Lv.bvs,KV];omega
theorem Bw (x:Nat)(o:List Nat)(q n:Lv):(Lv.prt o q n).bvs.count x<=o.count x+q.bvs.count x+n.bvs.count x:=by
 unfold Lv.prt;split
 ·omega
 ·split
  ·simp only [Lv.dA,Lv.bvs,KV,NF];omega
  ·simp only [Lv.bvs,KV,NF];omega
 ·simp only [Lv.bvs,KV];omega
theorem oy (x:Nat)(own:List Nat)(r:List Nat×Lv):((Lv.kept own r).1).count x<=own.count x+r.1.count x:=by
 have :=(List.filter_sublist (p:=λx=>r.2.has x) (l:=own++r.1)).count_le x;rw [KV]at this;exact this
theorem eQ (x:Nat):∀l:Lv,((Lv.tid l).1++(Lv.tid l).2.bvs).count x<=l.bvs.count x
 | .nil=>by simp [Lv.tid,Lv.bvs]
 | .thr k a b o r n=>by
  have z:=eQ x r;have h2:=eQ x n;have G:=oy x o (Lv.tid r);have h4:(Lv.kept o (Lv.tid r)).2=(Lv.tid r).2:=rfl;simp only [Lv.tid];simp only [KV]at z h2;split
  ·simp only [h4,Lv.dA,Lv.bvs,KV];omega
  ·split
   ·simp only [Lv.bvs,KV];omega
   ·simp only [h4,Lv.bvs,KV];omega
 | .sum H n=>by
  have z:=eQ x H;have h2:=eQ x n;simp only [Lv.tid,Ca,Lv.bvs];simp only [KV]at z h2|-;omega
 | .part o q n=>by
  have z:=eQ x q;have h2:=eQ x n;have G:=oy x o (Lv.tid q);have h4:(Lv.kept o (Lv.tid q)).2=(Lv.tid q).2:=rfl;have h5:=Bw x (Lv.kept o (Lv.tid q)).1 (Lv.kept o (Lv.tid q)).2 (Lv.tid n).2;simp only [Lv.tid,KZ,Lv.bvs];rw [h4]at h5;simp only [KV]at z h2 h5|-;rw [h4];omega
theorem cf (x:Nat):∀u:U,((flat u).1++(flat u).2.bvs).count x=(BV u).count x
 | .nil=>rfl
 | .snd a b p=>by have :=cf x p;simpa [flat,Lv.bvs,BV]using this
 | .rcv a y p=>by have :=cf x p;simp only [flat,Lv.bvs,BV,LN,KV,List.count_cons,KZ,NF,KJ]at this|-;omega
 | .tau p=>by have :=cf x p;simpa [flat,Lv.bvs,BV]using this
 | .sum p q=>by
  have :=cf x p;have :=cf x q;simp only [flat,Lv.bvs,BV,KV,KZ,KJ,NF]at*;omega
 | .par p q=>by
  have :=cf x p;have :=cf x q;simp only [flat,Lv.dA,BV,KV]at*;omega
 | .res y p=>by have :=cf x p;simp only [flat,BV,KV,List.count_cons]at this|-;omega
 | .mat a b p=>by have :=cf x p;simpa [flat,Lv.bvs,BV]using this
 | .rep p=>by have :=cf x p;simpa [flat,Lv.bvs,BV]using this
theorem CM (x:Nat)(u:U):((td u).1++(td u).2.bvs).count x<=(BV u).count x:=by
 have z:=eQ x (flat u).2;have h2:=oy x (flat u).1 (Lv.tid (flat u).2);have G:=cf x u;have h4:(td u).2=(Lv.tid (flat u).2).2:=rfl;have h5:(td u).1=(Lv.kept (flat u).1 (Lv.tid (flat u).2)).1:=rfl;rw [h4,h5];simp only [KV]at*;omega
theorem zF {u:U}(h:Uq u)(hb:∀x∈BV u,26<=x):ug (td u).1 (td u).2:=by
 have hc:∀x,((td u).1++(td u).2.bvs).count x<=(BV u).count x:=λx=>CM x u
 have hm:∀x∈(td u).1++(td u).2.bvs,x∈BV u:=λx z=>by
  have :=hc x;have G:=List.count_pos_iff.2 z;exact List.count_pos_iff.1 (by omega)
 have nd:((td u).1++(td u).2.bvs).Nodup:=Mm.2 λx=>K5 (hc x) (Mm.1 h.nd x)
 refine⟨nd,λx z H=>?_,λx z=>hb x (hm x z)⟩;have G:x∉(td u).1:=λG=>(KL.1 nd).2.2 x G x z rfl
 exact h.nf x (hm x (KB _ z)) (T.bG (C3 _ u (Kb _) h x H G))
end Go.Proofs.YtdecokaadekjnaaGreat
namespace Go.Proofs.YtdecokaadekjnaaGreat
open Go Go.RowKit
def JR:Shelf.Ren where
 f:=λx=>if x=190 then 115 else if x=125 then 164 else if x=258 then 163 else if x=128 then 205 else if x=129 then 206 else if x=302 then 196 else if x=303 then 197 else if x=304 then 198 else if x=305 then 199 else if x=306 then 200 else if x=307 then 201 else if x=308 then 202 else if x=309 then 203 else if x=310 then 204 else if x=333 then 226 else if x=329 then 227 else if x=330 then 228 else if x=334 then 229 else if x=335 then 230 else if x=336 then 231 else if x=344 then 248 else x
 t:=λx=>if x=31 then 25 else if x=9 then 9 else if x=3 then 3 else if x=46 then 178 else if x=0 then 0 else if x=51 then 73 else if x=53 then 220 else if x=4 then 4 else if x=183 then 213 else if x=182 then 212 else if x=131 then 34 else if x=5 then 5 else if x=218 then 234 else if x=222 then 238 else if x=228 then 258 else if x=229 then 245 else x
 g:=λx=>x
theorem zz:Lays.n190 Tryz.prog JR where
 mixed:=Eq.refl true
 f125:=LQ Tryz.func164 (by kernel_rfl)
 f128:=LQ Tryz.func205 (by kernel_rfl)
 f129:=LQ Tryz.func206 (by kernel_rfl)
 f190:=LQ Tryz.func115 (by kernel_rfl)
 f258:=LQ Tryz.func163 (by kernel_rfl)
 f302:=LQ Tryz.func196 (by kernel_rfl)
 f303:=LQ Tryz.func197 (by kernel_rfl)
 f304:=LQ Tryz.func198 (by kernel_rfl)
 f305:=LQ Tryz.func199 (by kernel_rfl)
 f306:=LQ Tryz.func200 (by kernel_rfl)
 f307:=LQ Tryz.func201 (by kernel_rfl)
 f308:=LQ Tryz.func202 (by kernel_rfl)
 f309:=LQ Tryz.func203 (by kernel_rfl)
 f310:=LQ Tryz.func204 (by kernel_rfl)
 f329:=LQ Tryz.func227 (by kernel_rfl)
 f330:=LQ Tryz.func228 (by kernel_rfl)
 f333:=LQ Tryz.func226 (by kernel_rfl)
 f334:=LQ Tryz.func229 (by kernel_rfl)
 f335:=LQ Tryz.func230 (by kernel_rfl)
 f336:=LQ Tryz.func231 (by kernel_rfl)
 f344:=LQ Tryz.func248 (by kernel_rfl)
 t0:=Tryz.underlying0
 a0:=Tryz.isAgg0
 z0:=Tryz.sizeOf0
 v0:=Tryz.zeroValue0
 t3:=Tryz.underlying3
 a3:=Tryz.isAgg3
 z3:=Tryz.sizeOf3
 v3:=Tryz.zeroValue3
 t4:=Tryz.underlying4
 a4:=Tryz.isAgg4
 z4:=Tryz.sizeOf4
 v4:=Tryz.zeroValue4
 t5:=Tryz.underlying5
 a5:=Tryz.isAgg5
 z5:=Tryz.sizeOf5
 v5:=Tryz.zeroValue5
 t9:=Tryz.underlying9
 a9:=Tryz.isAgg9
 z9:=Tryz.sizeOf9
 v9:=Tryz.zeroValue9
 t31:=Tryz.underlying25
 a31:=Tryz.isAgg25
 z31:=Tryz.sizeOf25
 v31:=Tryz.zeroValue25
 t46:=Tryz.underlying178
 a46:=Tryz.isAgg178
 z46:=Tryz.sizeOf178
 v46:=Tryz.zeroValue178
 t51:=Tryz.underlying73
 a51:=Tryz.isAgg73
 z51:=Tryz.sizeOf73
 v51:=Tryz.zeroValue73
 t53:=Tryz.underlying220
 a53:=Tryz.isAgg220
 z53:=Tryz.sizeOf220
 v53:=Tryz.zeroValue220
 t131:=Tryz.underlying34
 a131:=Tryz.isAgg34
 z131:=Tryz.sizeOf34
 v131:=Tryz.zeroValue34
 t182:=Tryz.underlying212
 a182:=Tryz.isAgg212
 z182:=Tryz.sizeOf212
 v182:=Tryz.zeroValue212
 t183:=Tryz.underlying213
 a183:=Tryz.isAgg213
 z183:=Tryz.sizeOf213
 v183:=Tryz.zeroValue213
 t218:=Tryz.underlying234
 a218:=Tryz.isAgg234
 z218:=Tryz.sizeOf234
 v218:=Tryz.zeroValue234
 t222:=Tryz.underlying238
 a222:=Tryz.isAgg238
 z222:=Tryz.sizeOf238
 v222:=Tryz.zeroValue238
 t228:=Tryz.underlying258
 a228:=Tryz.isAgg258
 z228:=Tryz.sizeOf258
 v228:=Tryz.zeroValue258
 t229:=Tryz.underlying245
 a229:=Tryz.isAgg245
 z229:=Tryz.sizeOf245
 v229:=Tryz.zeroValue245
theorem sort_k {B:Nat}{w:World}{v:Value}{l:List Tx}(h:Own B w v l)(z:l≠[])(hl:l.length<=1099511627776){R:World->Prop}
  (J:∀w',Kp w w' (λg=>v.ownBlock=some g)->Own B w' v (a7 l)->R w'):Calls Tryz.prog 115 #[v] w (ax [] R):=by
 rcases h.2 with⟨rfl,V⟩ | ⟨g,cap,cur,rfl,hb,G,W,h2,Z,h4⟩
 ·exact absurd (KD V) z
 ·refine(Any.slices_Sort_string zz g 0 cap l w (holds_of_block G (by rw [KK]at h4;exact h4)) (KO.1 G).1 (by omega)).mono ?_
  rintro e w' ⟨rfl,n,os,rfl⟩
  refine⟨rfl,J _ (Kp.aQ (grownBy_sorted _) λg' H=>H) ?_⟩;have I:(l.mergeSort λx y=>decide (x<=y)).length=l.length:=by simp
  have :=ownsRow_sorted (n:=n) (os:=os) I hb G W h2 Z;have e2:a7 l=l.mergeSort λx y=>decide (x<=y):=rfl
  unfold Own;rw [e2,I];exact this
theorem zA (s:UInt8)(a b:Tx)(l:List Tx):joinS s (a::b::l)=[40]++a++[s]++joinS s (b::l)++[41]:=by simp [joinS]
theorem DC {B:Nat}{w:World}{v:Value}{l:List Tx}{c:UInt8}(h:Own B w v l)(G:l≠[])(hl:l.length<=1099511627776)(hs:bR l<=1099511627776){R:ay->World->Prop}
  (hR:∀w',Kp w w' (λg=>v.ownBlock=some g)->R (joinS c (a7 l)) w'):Calls Tryz.prog 255 #[v,.string (ab [c])] w (ax [.s] R):=by
 refine vZ v [c] w R ?_;refine sort_k h G hl λw3 k3 o3=>?_
 have hp:=aO l;have H:(a7 l).length=l.length:=hp.length_eq;have α:0< l.length:=MJ.2 G;have st:=o3.strs;generalize hL:a7 l=L at*;rcases st with⟨_,e⟩ | ⟨b,off,cap,rfl,hb,hc⟩
 ·rw [e]at H;simp at H;omega
 have β:bR L=bR l:=ik hp;have I:∀j,(W:j< L.length)->w3.cell? ⟨b,off+j,none⟩=some (.string (ab L[j])):=λj W=>hc j _ (J2 W)
 have z:∀j,bR (L.drop j)<=bR L:=λj=>by
  have:bR L=bR (L.take j)+bR (L.drop j):=by rw [<-zi,Li]
  omega
 refine⟨_,_,cap,rfl,by unfold aj;omega,b,off,_,cap,rfl,by omega,by omega,L[L.length - 1]'(by omega),?_,_,_,cap,rfl,by unfold aj;omega,λout i w'=>w'=w3/\ -1<=i/\i+2<=L.length/\out=joinS c (L.drop (i+1).toNat),λ _ i _=>(i+1).toNat,⟨rfl,by omega,by omega,?_⟩,λout i w' hI=>?_⟩
 ·rw [KK,show((L.length:Int) - 1).toNat=L.length - 1 by omega];exact I _ (by omega)
 ·rw [show((L.length:Int) - 2+1).toNat=L.length - 1 by omega,K0 (by omega),show L.length - 1+1=L.length by omega,Mb];rfl
 ·obtain⟨rfl,h0,h1,rfl⟩:=hI;refine⟨λZ=>?_,λZ=>?_⟩
  ·simp only [J4]at Z;have J:i.toNat< L.length:=by omega
   have V:i.toNat+1< L.length:=by omega
   have e1:(i+1).toNat=i.toNat+1:=by omega
   have e2:L.drop i.toNat=L[i.toNat]::L.drop (i.toNat+1):=K0 J;have e3:L.drop (i.toNat+1)=L[i.toNat+1]::L.drop (i.toNat+1+1):=K0 V;have W:=gJ c (L.drop (i.toNat+1));have hd:=z i.toNat;have γ:bR (L.drop i.toNat)=L[i.toNat].length+3+bR (L.drop (i.toNat+1)):=by rw [e2];simp only [bR,KE,Ld]
   rw [e1];refine⟨b,off,_,cap,rfl,by omega,by omega,L[i.toNat],by rw [KK];exact I _ J,?_,?_,?_,?_,by unfold aj;omega,⟨rfl,by omega,by omega,?_⟩,by show(i - 1+1).toNat< (i+1).toNat;omega⟩
   ·simp;omega
   ·simp;omega
   ·simp;omega
   ·simp;omega
   ·rw [show(i - 1+1).toNat=i.toNat by omega,e2,e3,zA]
  ·simp only [J6]at Z;have:i= -1:=by omega
   subst this;exact hR w' k3
def jc (c:UInt8):UInt32:=nE 1 (c - 97).toNat
def iX (x:UInt32)(tk:Tk):Prop:=∀c,lt c=true->decide (x &&& jc c=0)= !tk c
theorem xI (a b c:UInt32):(a ||| b) &&& c=(a &&& c) ||| (b &&& c):=by
 apply Nt.1;simp only [UInt32.toBitVec_and,UInt32.toBitVec_or]
 ext i z
 simp [Bool.and_or_distrib_right]
theorem AJ (a b:UInt32):a ||| b=0↔a=0/\b=0:=by
 rw [<-Nt,<-Nt,<-Nt];simp only [UInt32.toBitVec_or];exact BitVec.or_eq_zero_iff
theorem CG:∀i,i< 26->∀j,j< 26->decide (nE 1 i &&& nE 1 j=0)=decide (i≠j):=by decide+kernel
theorem B9 {c d:UInt8}(hc:lt c=true)(hd:lt d=true):decide (jc c &&& jc d=0)= !(d==c):=by
 have z:=aW hc;have h2:=aW hd;unfold jc;rw [CG _ (by rw [gH hc];omega) _ (by rw [gH hd];omega),gH hc,gH hd];rw [K6];simp only [J4,L0,beq_eq_false_iff_ne,ne_eq,<-Ky];omega
theorem iX.add {x:UInt32}{tk:Tk}(h:iX x tk){d:UInt8}(hd:lt d=true):iX (x ||| jc d) (cA tk d):=by
 intro c hc;rw [xI,Mi.2 (AJ _ _),Bool.decide_and,h c hc,B9 hd hc];simp [cA]
theorem uE {c:UInt8}{w:World}{R:UInt32->World->Prop}(h:R (jc c) w):Calls Tryz.prog 59 #[.int .u8 c.toNat] w (ax [.w] R):=
 xL c w R h
theorem Hu (tk:Tk):lt (iK tk)=true:=by
 unfold iK uj;cases h:iO.find? λc=> !tk c with
 | none=>decide
 | some c=>
  have :=LZ h;unfold iO at this;simp only [KQ,Lz]at this;obtain⟨i,z,rfl⟩:=this;clear h;revert i;decide+kernel
theorem FZ {x:UInt32}{tk:Tk}(V:iX x tk){w:World}{R:UInt8->Bool->World->Prop}(W:uj tk=none->R 0 false w)(h2:∀c,uj tk=some c->R c true w):
  Calls Tryz.prog 130 #[.int .u32 x.toNat] w (ax [.c,.b] R):=by
 refine ur x w R ?_;refine⟨λc w'=>w'=w/\97<=c.toNat/\c.toNat<=123/\∀d:UInt8,97<=d->d< c->tk d=true,λc _=>123 - c.toNat,⟨rfl,by decide,by decide,λd h Z=>?_⟩,λc w' hI=>?_⟩
 ·rw [Kl]at h;rw [KI]at Z;omega
 ·obtain⟨rfl,J,h4,h5⟩:=hI;refine⟨λhc=>uE ?_,λhc=>?_⟩
  ·simp only [J4,Kl]at hc;have G:c.toNat<=122:=hc;have I:lt c=true:=iy ⟨J,G⟩;have :=V c I;refine⟨λhe=>?_,λhe=>?_⟩
   ·rw [he]at this;refine h2 c (rZ (f:=λc=> !tk c) (by rw [Kl];exact J) (by rw [Kl];exact G) this.symm λd hd z=>by simp [h5 d hd z])
   ·rw [he]at this;have ht:tk c=true:=by simpa using this.symm
    have e1:(c+1).toNat=c.toNat+1:=by rw [MB];show(c.toNat+1) % 256=_;omega
    refine⟨⟨rfl,by omega,by omega,λd hd z=>?_⟩,by show 123 - (c+1).toNat< 123 - c.toNat;omega⟩;rw [KI,e1]at z;by_cases H:d=c
    ·rw [H];exact ht
    ·refine h5 d hd (KI.2 ?_);have:d.toNat≠c.toNat:=λe=>H (Ky.1 e)
     omega
  ·simp only [J6,Kl]at hc;have G:122< c.toNat:=by have:¬c.toNat<=122:=hc;omega
   refine W (uF (f:=λc=> !tk c) λd hd z=>?_);have:tk d=true:=h5 d hd (KI.2 (by rw [Kl]at z;have:d.toNat<=122:=z;omega));simp [this]
def JB (m:Value->Option Value)(ρ:Rh):Prop:=∀x,(ρ x).toNat< 128/\(x< 26->ρ x=UInt8.ofNat (97+x))/\(26<=x->m (iv x)=some (.int .u8 (ρ x).toNat)\/(m (iv x)=none/\ρ x=0))
structure Nm (w:World)(n r:Nat)(ρ:Rh)(tk:Tk)(bad:Bool):Prop where
 lt:n< w.heap.size
 lr:r< w.heap.size
 ne:n≠r
 c0:w.cell? ⟨n,0,none⟩=some (.map (some r))
 mp:∃m,IsMap w r (.int .i64) m/\JB m ρ
 c1:∃x:UInt32,w.cell? ⟨n,1,none⟩=some (.int .u32 x.toNat)/\iX x tk
 c2:w.cell? ⟨n,2,none⟩=some (.bool bad)
 f:∀j,w.frozen? ⟨n,j,none⟩=false
theorem Nm.kp {w w':World}{n r:Nat}{ρ:Rh}{tk:Tk}{bad:Bool}{S:Nat->Prop}(h:Nm w n r ρ tk bad)(k:Kp w w' S)(z:¬S n)(hr:¬S r):Nm w' n r ρ tk bad:=by
 have e:=k.block n h.lt z;have G:=k.block r h.lr hr;obtain⟨m,⟨es,cl,H,h2⟩,I⟩:=h.mp;obtain⟨x,h4,h5⟩:=h.c1;exact⟨Kx h.lt k.size,Kx h.lr k.size,h.ne,by rw [J1 (w:=w) e];exact h.c0,⟨m,⟨es,cl,by rw [G];exact H,h2⟩,I⟩,⟨x,by rw [J1 (w:=w) e];exact h4,h5⟩,by rw [J1 (w:=w) e];exact h.c2,λj=>by rw [KC (w:=w) e];exact h.f j⟩
theorem Nm.ex {w w':World}{n r:Nat}{ρ:Rh}{tk:Tk}{bad:Bool}(h:Nm w n r ρ tk bad)(x:Ex w w'):Nm w' n r ρ tk bad:=h.kp (Kp.ah x λ _=>False) (λh=>h) λh=>h
abbrev Kn (n r:Nat)(w w':World):Prop:=Kp w w' λg=>g=n\/g=r
theorem Kn.trans {n r:Nat}{a b c:World}(h:Kn n r a b)(k:Kn n r b c):Kn n r a c:=Kp.trans h k λ _ _ h=>h
theorem Kn.ex {n r:Nat}{a b:World}(h:Ex a b):Kn n r a b:=Kp.ah h _
theorem Kn.set {n r:Nat}(w:World)(j:Nat)(v:Value):Kn n r w (w.setCell ⟨n,j,none⟩ v):=Kp.mono (λ _ h=> .inl h) (Kr.set w j v)
theorem Nm.set {w w':World}{n r:Nat}{ρ:Rh}{tk tk':Tk}{bad bad':Bool}(h:Nm w n r ρ tk bad){j:Nat}{v:Value}(hw:w'=w.setCell ⟨n,j,none⟩ v)(z:(j=1/\bad'=bad/\∃x:UInt32,v= .int .u32 x.toNat/\iX x tk')\/(j=2/\tk'=tk/\v= .bool bad')):Nm w' n r ρ tk' bad':=by
 subst hw;obtain⟨m,⟨es,cl,G,h2⟩,H⟩:=h.mp;obtain⟨x,h4,h5⟩:=h.c1;have kr:=Kr.set (r:=n) w j v;have I:=kr.block r h.lr h.ne.symm;have ne:∀i,i≠j->(w.setCell ⟨n,j,none⟩ v).cell? ⟨n,i,none⟩=w.cell? ⟨n,i,none⟩:=λi V=>J7 _ _ _ _ (λe=>by injection e with W Z;omega)
 have sz:=kr.size;refine⟨by have :=h.lt;omega,by have :=h.lr;omega,h.ne,by rw [ne 0 (by rcases z with⟨h,_⟩ | ⟨h,_⟩<;>omega)];exact h.c0,⟨m,⟨es,cl,by rw [I];exact G,h2⟩,H⟩,?_,?_,λi=>by rw [Kt];exact h.f i⟩
 ·rcases z with⟨rfl,_,y,rfl,J⟩ | ⟨rfl,rfl,_⟩
  ·exact⟨y,Kj _ _ _ h4,J⟩
  ·exact⟨x,by rw [ne 1 (by omega)];exact h4,h5⟩
 ·rcases z with⟨rfl,rfl,_⟩ | ⟨rfl,rfl,rfl⟩
  ·rw [ne 2 (by omega)];exact h.c2
  ·exact Kj _ _ _ h.c2
theorem Nm.put {w w':World}{n r:Nat}{ρ:Rh}{tk:Tk}{bad:Bool}(h:Nm w n r ρ tk bad){m:Value->Option Value}(hm:JB m ρ){x:Nat}(Z:26<=x){c:UInt8}(hc:c.toNat< 128)(G:IsMap w' r (.int .i64) (bK m (iv x) (.int .u8 c.toNat)))(hb:bc w w' r):
  Nm w' n r (aF ρ x c) tk bad/\Kn n r w w':=by
 have e:=hb.block n h.ne;obtain⟨y,h4,h5⟩:=h.c1;refine⟨⟨by rw [hb.size];exact h.lt,by rw [hb.size];exact h.lr,h.ne,by rw [J1 (w:=w) e];exact h.c0,⟨_,G,λz=>?_⟩,⟨y,by rw [J1 (w:=w) e];exact h4,h5⟩,by rw [J1 (w:=w) e];exact h.c2,λj=>by rw [KC (w:=w) e];exact h.f j⟩,
  hb.os,hb.tape,hb.output,by rw [hb.size];exact Kb _,λg _ I=>hb.block g λe=>I (.inr e)⟩
 obtain⟨J,V,W⟩:=hm z;unfold aF bK;by_cases H:z=x
 ·subst H;refine⟨by simpa using hc,λh=>by omega,λ _=> .inl ?_⟩;simp
 ·have:iv z≠iv x:=λe=>H (by injection e with _ e2;omega)
  simp only [Ko H,Ko this];exact⟨J,V,W⟩
theorem AD {ρ:Rh}{x:Nat}:[UInt8.ofNat (Int.toNat ((ρ x).toNat:Int))]=[ρ x]:=by simp
theorem kj {w:World}{n r:Nat}{ρ:Rh}{tk:Tk}{bad:Bool}(h:Nm w n r ρ tk bad){x:Nat}{R:ay->World->Prop}(z:R [ρ x] w):Calls Tryz.prog 253 #[ptr n,iv x] w (ax [.s] R):=by
 refine nS (ptr n) x w R ?_;obtain⟨m,hm,G⟩:=h.mp;obtain⟨W,J,V⟩:=G x;refine⟨λH=>?_,λH=>?_⟩
 ·simp only [J4]at H;have e:[UInt8.ofNat (Int.toNat (97+(x:Int)))]=[ρ x]:=by rw [J (by omega),show(97+(x:Int)).toNat=97+x by omega]
  refine⟨by unfold aj;omega,by omega,by omega,by rw [e];exact z⟩
 ·simp only [J6]at H;refine⟨n,0,rfl,_,h.c0,r,m,rfl,hm,ρ x,?_⟩;rcases V (by omega)with I | ⟨I,h2⟩
  ·exact⟨true,.inl ⟨rfl,I⟩,by omega,by rw [AD];exact z⟩
  ·exact⟨false,.inr ⟨rfl,I,by rw [h2];rfl⟩,by omega,by rw [AD];exact z⟩
theorem D3 {w:World}{n r:Nat}{ρ:Rh}{tk:Tk}{bad:Bool}(h:Nm w n r ρ tk bad){x:Nat}(hx:26<=x){R:UInt32->World->Prop}
  (hR:∀y w',iX y tk->Kn n r w w'->Nm w' n r (aF ρ x (iK tk)) (cA tk (iK tk)) (bad||(uj tk).isNone)->R y w'):Calls Tryz.prog 252 #[ptr n,iv x] w (ax [.w] R):=by
 refine nU (ptr n) x w R ?_;obtain⟨y,hy,μ⟩:=h.c1;have hl:=Hu tk;have hl':=aW hl;have fin:∀G bad',bad'=(bad||(uj tk).isNone)->Kn n r w G->Nm G n r ρ tk bad'->∃ζ:World->Prop,∀H:World,H=World.drew G->ζ H/\∃(ν ξ:Nat),ptr n=Value.pointer (some ⟨ν,ξ,none⟩)/\∃ο:UInt32,(∀w',ζ w'->World.cell? w' ⟨ν,(ξ+1),none⟩=some (Value.int IntKind.u32 (UInt32.toNat ο)))/\Calls Tryz.prog 59 #[(Value.int IntKind.u8 (UInt8.toNat (iK tk)))] H (ax [.w] fun(ω:UInt32) (V:World)=>ζ V/\∃(W Z:Nat),ptr n=Value.pointer (some ⟨W,Z,none⟩)/\((∃u42:Value,World.cell? V ⟨W,(Z+1),none⟩=some u42)/\World.frozen? V ⟨W,(Z+1),none⟩=false)/\∀I:World,I=World.setCell V ⟨W,(Z+1),none⟩ (Value.int IntKind.u32 (UInt32.toNat (ο ||| ω:UInt32)))->∃(ς υ:Nat),ptr n=Value.pointer (some ⟨ς,υ,none⟩)/\∃v46:Value,World.cell? I ⟨ς,(υ+0),none⟩=some v46/\∃(α:Nat) (β:Value->Option Value),v46=Value.map (some α)/\IsMap I α (TypeDesc.int IntKind.i64) β/\∀J:World,IsMap J α (TypeDesc.int IntKind.i64) (bK β (Value.int IntKind.i64 x) (Value.int IntKind.u8 (UInt8.toNat (iK tk))))->bc I J α->R (y) J):=by
  intro G bad' φ k11 η;obtain⟨z,hz,hzt⟩:=η.c1;refine⟨λw'=>Ex G w',λH γ=>⟨γ▸Ex.drew G,n,0,rfl,z,λw' x'=>by rw [x'.cell (show n< _ from η.lt)];exact hz,uE ?_⟩⟩;have θ:Ex G H:=γ▸Ex.drew G;have ι:=η.ex θ;obtain⟨z',hz',_⟩:=ι.c1;refine⟨θ,n,0,rfl,⟨⟨_,hz'⟩,ι.f 1⟩,λI δ=>?_⟩;have κ:=ι.set (tk':=cA tk (iK tk)) (bad':=bad') δ (.inl ⟨rfl,rfl,_,rfl,hzt.add hl⟩);obtain⟨m,hm,hρ⟩:=κ.mp;refine⟨n,0,rfl,_,κ.c0,r,m,rfl,hm,λJ χ ψ=>?_⟩;obtain⟨n49,k49⟩:=κ.put hρ hx (by omega) χ ψ;have k43:Kn n r H I:=δ▸Kn.set _ _ _;exact hR y J μ (Kn.trans (Kn.trans k11 (Kn.ex θ)) (Kn.trans k43 k49)) (φ▸n49)
 refine⟨n,0,rfl,y,hy,n,0,rfl,y,hy,FZ μ (λhf=>⟨λ _=>?_,λh=>(by cases h)⟩) λc hf=>⟨λh=>(by cases h),λ _=>?_⟩⟩
 ·refine⟨n,0,rfl,⟨⟨_,h.c2⟩,h.f 2⟩,λw15 ε=>?_⟩;have n15:=h.set (tk':=tk) (bad':=true) ε (.inr ⟨rfl,rfl,rfl⟩);have e:iK tk=122:=by unfold iK;rw [hf];rfl
  have :=fin w15 true (by rw [hf];simp) (ε▸Kn.set _ _ _) n15;rw [e]at this;exact this
 ·have e:iK tk=c:=by unfold iK;rw [hf];rfl
  have :=fin w bad (by rw [hf];simp) (Kn.ex (Ex.refl w)) h;rw [e]at this;exact this
def Hi (n:Nat):Prop:=∀{D:Nat->Prop} {w:World} {v:Value} {o:List Nat} {l:Lv} {nn r:Nat} {ρ:Rh} {tk:Tk} {bad:Bool} {R:ay->World->Prop},l.sz<=n->l.sh true=true->l.sm=true->ug o l->gd D w v o (af D w l)->(∀g,D g->¬(g=nn\/g=r))->Nm w nn r ρ tk bad->o.length+l.tot<=4294967296->
 (∀w' ρ',Kn nn r w w'->Nm w' nn r ρ' tk (bad||fQ o.length l.isNil (thBad l) tk)->(∀x,x∉o->x∉l.bvs->ρ' x=ρ x)->R (aR o (thS l) ρ tk) w')->Calls Tryz.prog 237 #[ptr nn,v] w (ax [.s] R)
def Gu (n:Nat):Prop:=∀{D:Nat->Prop} {w:World} {v:Value} {e:Lv} {nn r:Nat} {ρ:Rh} {tk:Tk} {bad:Bool} {R:ay->World->Prop},e.sz<=n->((∃k a b o q,e= .thr k a b o q .nil/\q.sh true=true)\/∃z,e= .sum z .nil/\z.sh false=true)->e.sm=true->ug [] e->af D w e [v]->(∀g,D g->¬(g=nn\/g=r))->Nm w nn r ρ tk bad->e.tot<=4294967296->
 (∀t w' ρ',thS e ρ tk=[t]->Kn nn r w w'->Nm w' nn r ρ' tk (bad||thBad e tk)->(∀x,x∉e.bvs->ρ' x=ρ x)->R t w')->Calls Tryz.prog 254 #[ptr nn,v] w (ax [.s] R)
theorem JP (a b:UInt8):Op.bytesLess [a] [b]=decide (a< b):=by
 unfold Op.bytesLess;by_cases h:a< b
 ·simp [h]
 ·by_cases h2:b< a<;>simp [Op.bytesLess,h]
theorem Kp.new {w w1 w2:World}{nn r:Nat}{row:Option Nat}(k:Kn nn r w w1)(z:w1.grownBy w2 row)(hr:∀g,row=some g->w.heap.size<=g):Kn nn r w w2:=
 Kp.trans k (Kp.aQ (S:=λg=>row=some g) z λ _ h=>h) λg G H=>by have :=hr g H;omega
theorem BS {n:Nat}(hl:Hi n):Gu (n+1):=by
 intro D w v e nn r ρ tk bad R hn hsh ζ huq h hD hN ο hR;refine lQ (ptr nn) v w R ?_;rcases hsh with⟨k,a,b,o,q,rfl,hq⟩ | ⟨J,rfl,hps⟩
 ·obtain⟨t,ts',a',W,vr,e1,ht,hk,hlv,_⟩:=h;obtain⟨rfl,rfl⟩:=K8 e1;obtain⟨g,V,hgD,hg2,c0,c1,c2,c3,c4⟩:=ht;obtain⟨u1,u2⟩:=huq.thr;simp only [Lv.sz]at hn;simp only [Lv.tot]at ο;simp only [Lv.sm,J3]at ζ;have hgn:=hD g hgD;have cell:∀{w':World},Kn nn r w w'->∀j,w'.cell? ⟨g,j,none⟩=w.cell? ⟨g,j,none⟩:=λx j=>J1 (w:=w) (x.block g hg2 hgn)
  have hlen:∀ρ tk,(aR o (thS q) ρ tk).length<=1099511627776:=λρ tk=>by
   have :=nO (λρ tk=>gn q ρ tk) ρ tk (own:=o);omega
  have ι:∀{w1:World} {Z:Rh} {μ:Tk} {ς:Bool} {R:ay->World->Prop},Kn nn r w w1->Nm w1 nn r Z μ ς->(∀w' ρ',Kn nn r w1 w'->Nm w' nn r ρ' μ (ς||fQ o.length q.isNil (thBad q) μ)->(∀x,x∉o->x∉q.bvs->ρ' x=Z x)->R (aR o (thS q) Z μ) w')->Calls Tryz.prog 237 #[ptr nn,vr] w1 (ax [.s] R):=λk1 n1 hR=>
   hl (by omega) hq ζ.1 u1 (hlv.kp k1 hD λl h=>h.kp k1 hD) hD n1 (by omega) hR
  cases k
  case p=>
   refine⟨g,0,V,_,c0,aV (by decide) (dc (by decide) ⟨g,0,V,vr,c3,ι (Kn.ex (Ex.refl w)) hN λw' ρ' k' n' H=>⟨by have :=hlen ρ tk;simp only [J0,Kh];omega,hR _ w' ρ' (by simp only [thS,kText];rfl) k' ?_ λx G=>?_⟩⟩)⟩
   ·simpa [thBad]using n'
   ·simp only [Lv.bvs,KJ,Ke,NI]at G;exact H x G.2.1 G.2.2
  case t=>
   refine⟨g,0,V,_,c0,aV (by decide) (aV (by decide) (dc (by decide) ⟨g,0,V,vr,c3,ι (Kn.ex (Ex.refl w)) hN λw' ρ' k' n' H=>⟨by have :=hlen ρ tk;simp only [J0,Kh];omega,hR _ w' ρ' (by simp only [thS,kText];rfl) k' ?_ λx G=>?_⟩⟩))⟩
   ·simpa [thBad]using n'
   ·simp only [Lv.bvs,KJ,Ke,NI]at G;exact H x G.2.1 G.2.2
  case m=>
   obtain⟨rfl,rfl⟩:a'=a/\W=b:=by rcases hk with h | h | h<;>first | exact h | cases h
   refine⟨g,0,V,_,c0,aV (by decide) (aV (by decide) (aV (by decide) (dc (by decide) ⟨λw'=>Kn nn r w w',λw48 α=>?_⟩)))⟩;have I:Kn nn r w w48:=Kn.ex (α▸Ex.drew w);have β:=hN.ex (α▸Ex.drew w);refine⟨I,g,0,V,a',λw' x=>by rw [cell x];exact c1,g,0,V,W,λw' x=>by rw [cell x];exact c2,kj β ⟨I,kj β ⟨I,?_,?_,?_,?_,g,0,V,vr,by rw [cell I];exact c3,ι I β λw' ρ' k' n' H=>⟨?_,hR _ w' ρ' ?_ (Kn.trans I k') ?_ λx G=>?_⟩⟩⟩⟩
   ·split<;>simp
   ·split<;>simp
   ·split<;>split<;>simp
   ·split<;>split<;>simp
   ·have :=hlen ρ tk;split<;>split<;>(simp only [J',J0,Kh];omega)
   ·simp only [thS,kText,JP,KW,MG];by_cases h1:ρ a'< ρ W
    ·have h2:¬ρ W< ρ a':=λh2=>by rw [KI]at h1 h2;omega
     simp [h1,h2]
    ·by_cases h2:ρ W< ρ a'
     ·have h3:ρ a'≠ρ W:=λe=>by rw [e,KI]at h2;omega
      simp [h1,h2,h3]
     ·have h3:ρ a'=ρ W:=by
       rw [KI]at h1 h2;exact Ky.1 (by omega)
      simp [h1,h2,h3]
   ·simpa [thBad]using n'
   ·simp only [Lv.bvs,KJ,Ke,NI]at G;exact H x G.2.1 G.2.2
  case s=>
   obtain⟨rfl,rfl⟩:a'=a/\W=b:=by rcases hk with h | h | h<;>first | exact h | cases h
   refine⟨g,0,V,_,c0,aV (by decide) (aV (by decide) (aV (by decide) (aV (by decide) (aV (by decide) ⟨λw'=>Kn nn r w w',λw48 α=>?_⟩))))⟩;have I:Kn nn r w w48:=Kn.ex (α▸Ex.drew w);have β:=hN.ex (α▸Ex.drew w);refine⟨I,g,0,V,a',λw' x=>by rw [cell x];exact c1,g,0,V,W,λw' x=>by rw [cell x];exact c2,g,0,V,vr,λw' x=>by rw [cell x];exact c3,kj β ⟨I,by simp,kj β ⟨I,by simp,by simp,ι I β λw' ρ' k' n' H=>⟨Kn.trans I k',?_,hR _ w' ρ' ?_ (Kn.trans I k') ?_ λx G=>?_⟩⟩⟩⟩
   ·have :=hlen ρ tk;simp only [J',J0,Kh];omega
   ·simp only [thS,kText];simp
   ·simpa [thBad]using n'
   ·simp only [Lv.bvs,KJ,Ke,NI]at G;exact H x G.2.1 G.2.2
  case r=>
   obtain⟨rfl,rfl⟩:a'=a/\W=b:=by rcases hk with h | h | h<;>first | exact h | cases h
   obtain⟨u3,u4,u5,u6⟩:=u2 rfl;refine⟨g,0,V,_,c0,aV (by decide) (aV (by decide) (aV (by decide) (aV (by decide) (dc (by decide) ⟨g,0,V,W,c2,D3 hN u3 λy w68 hy k68 n68=>⟨λw'=>Kn nn r w w',λw70 υ=>?_⟩⟩))))⟩;have η:Kn nn r w w70:=Kn.trans k68 (Kn.ex (υ▸Ex.drew w68));have n70:=n68.ex (υ▸Ex.drew w68);refine⟨η,g,0,V,a',λw' x=>by rw [cell x];exact c1,g,0,V,W,λw' x=>by rw [cell x];exact c2,g,0,V,vr,λw' x=>by rw [cell x];exact c3,kj n70 ⟨η,by simp,kj n70 ⟨η,by simp,by simp,ι η n70 λw' ρ' k' n' H=>⟨Kn.trans η k',?_,nn,0,rfl,?_,λw89 φ=>hR _ w89 ρ' ?_ (Kn.trans (Kn.trans η k') (φ▸Kn.set _ _ _)) ?_ λx G=>?_⟩⟩⟩⟩
   ·have :=hlen (aF ρ W (iK tk)) (cA tk (iK tk));simp only [J',J0,Kh];omega
   ·obtain⟨z,hz,_⟩:=n'.c1;exact⟨⟨_,hz⟩,n'.f 1⟩
   ·simp only [thS,kText,KZ,K4,KN];rw [show aF ρ W (iK tk) a'=ρ a' from Ko (Ni u4),show aF ρ W (iK tk) W=iK tk from KG rfl]
   ·have :=n'.set (tk':=tk) (bad':=(bad||thBad (.thr .r a' W o q .nil) tk)) φ (.inl ⟨rfl,?_,y,rfl,hy⟩)
    ·exact this
    ·simp [thBad,LC]
   ·simp only [Lv.bvs,KJ,Ke,NI,LN,Kf]at G;rw [H x G.2.1 G.2.2];exact Ko G.1
 ·obtain⟨t,ts',a',W,vp,us,e1,ht,hus,χ,_⟩:=h;obtain⟨rfl,rfl⟩:=K8 e1;obtain⟨g,V,hgD,hg2,c0,c1,c2,c3,c4⟩:=ht;have uq:=huq.sum;simp only [Lv.sz]at hn;simp only [Lv.tot]at ο;simp only [Lv.sm,J3,L0]at ζ;obtain⟨au,cau,hvu⟩:=hus.slice;have hul:=χ.len;have hpl:=Lv.cT J;have hpt:=cn J;have hln:∀ρ tk,(thS J ρ tk).length=J.len:=λρ tk=>bF J ρ tk
  refine⟨g,0,V,_,c0,dc (by decide) λb6 w7 hb6 hw7=>?_⟩;have x7:Ex w w7:=hw7▸Ex.alloc w _;refine⟨g,0,V,vp,by rw [x7.cell (show g< _ from hg2)];exact c4,au,_,cau,hvu,λtx x w'=>∃(j:Nat) (ρ':Rh),x=j/\j<=us.length/\Kn nn r w w'/\Nm w' nn r ρ' tk (bad||thBad (J.take j) tk)/\(∀x,x∉(J.take j).bvs->ρ' x=ρ x)/\Own w.heap.size w' tx (thS (J.take j) ρ tk),λ _ x _=>(us.length - x).toNat,⟨0,ρ,rfl,KT _,Kn.ex x7,by simpa [Lv.take,thBad]using hN.ex x7,λ _ _=>rfl,Own.none (Kb _) hb6 hw7⟩,λtx x w18 hI=>?_⟩;obtain⟨j,Z,rfl,hj,κ,n18,H,ho⟩:=hI;refine⟨λhlt=>?_,λhge=>?_⟩;rotate_left
  ·have:j=J.bB.length:=by simp only [J6]at hge;omega
   rw [this,Lv.di]at n18 ho H;have hlen:=gn J ρ tk;refine DC ho (λe=>?_) (by rw [hln];omega) (by omega) λw36 k36=>hR _ w36 Z rfl ?_ ?_ λx G=>H x ?_
   ·have :=hln ρ tk;rw [e]at this;rw [Lv.du]at ζ;simp only [Kh]at this;simp [<-this]at ζ
   ·exact Kp.trans κ k36 λg' hg' h'=>by have :=(ho.block g' h').1;omega
   ·have hb:∀g',tx.ownBlock=some g'->w.heap.size<=g':=λg' h'=>(ho.block g' h').1
    have :=hN.lt;have :=hN.lr;have e:(bad||thBad (.sum J .nil) tk)=(bad||thBad J tk):=by simp [thBad]
    rw [e];exact n18.kp k36 (λh'=>by have :=hb _ h';omega) λh'=>by have :=hb _ h';omega
   ·simpa [Lv.bvs]using G
  have ν:j< us.length:=by simp only [J4]at hlt;omega
  have hje:j< J.bB.length:=by omega
  obtain⟨bu,ou,γ,hvu',hcu⟩:∃bu ou γ,vp= .slice (some ⟨bu,ou,none⟩) us.length γ/\w18.cell? ⟨bu,ou+j,none⟩=some us[j]:=by
   rcases hus with⟨_,h0⟩ | ⟨bt,ot,capt',e,hbD,hb',hcell⟩
   ·rw [h0]at ν;simp at ν
   ·exact⟨bt,ot,capt',e,by rw [J1 (w:=w) (κ.block bt hb' (hD bt hbD))];exact hcell j _ (J2 ν)⟩
  obtain⟨e,hf1,θ,hf3⟩:=aM.single χ.bB (J2 ν);have hf4:J.bB[j]=e:=by rw [J2 hje]at hf1;exact KS hf1
  have δ:=Lv.take_succ J j hje;rw [hf4]at δ;have huqe:=uq.bB θ;have ψ:=Lv.sg ζ.2.1 e θ;have hsz2:=Lv.eD J e θ;have htot2:=Lv.gv J e θ;have hfe:thS e Z tk=thS e ρ tk:=r9 e Z ρ tk λx G=>H x λhb=>uq.nf x (Lv.ll J j x hb) (Lv.pJ J e θ G)
  obtain⟨o2,q,rfl,hq⟩:=Lv.mD hps e θ;simp only [Lv.sz]at hsz2;simp only [Lv.tot]at htot2;simp only [Lv.sm,J3]at ψ;obtain⟨v2,ts2,e2,hlv2,_⟩:=hf3;obtain⟨rfl,rfl⟩:=K8 e2;refine⟨bu,ou,_,γ,hvu',by omega,by omega,us[j],by rw [J9,KK];exact hcu,?_⟩;refine hl (by omega) hq ψ.1 huqe.part (hlv2.kp κ hD λl h=>h.kp κ hD) hD n18 (by omega) λw25 ρ2 k25 n25 hρ2 b26 w27 hb26 ω=>?_
  have ξ:Ex w25 w27:=ω▸Ex.alloc w25 _;have k1:Kn nn r w w25:=Kn.trans κ k25;have ε:∀g',tx.ownBlock=some g'->w.heap.size<=g'/\¬(g'=nn\/g'=r):=λg' h'=>by
   have h1:=(ho.block g' h').1;have :=hN.lt;have :=hN.lr;exact⟨h1,by omega⟩
  have ho27:Own w.heap.size w27 tx (thS (J.take j) ρ tk):=(ho.kp k25 λg' h'=>(ε g' h').2).ex ξ;have hl3:(thS (J.take j) ρ tk).length<=us.length:=by
   rw [bF];have :=Lv.gT J j;omega
  refine Own.push ho27 (by have :=k1.size;have :=ξ.size;omega) (Strs.one hb26 ω) (by simp only [J0,Kh];omega) λv33 w34 _ ho34 hg34 _=>⟨by unfold aj;omega,⟨j+1,ρ2,by omega,by omega,?_,?_,?_,?_⟩,by show((us.length:Int) - ((j:Int)+1)).toNat< ((us.length:Int) - j).toNat;omega⟩
  ·exact Kp.new (Kn.trans k1 (Kn.ex ξ)) hg34 λg' h'=>(ε g' h').1
  ·have e1:(bad||thBad (J.take (j+1)) tk)=(bad||thBad (J.take j) tk||fQ o2.length q.isNil (thBad q) tk):=by rw [δ,cY];simp [thBad,LC]
   rw [e1];refine(n25.ex ξ).kp (Kp.aQ (S:=λg=>tx.ownBlock=some g) hg34 λ _ h=>h) (λh'=>(ε _ h').2 (.inl rfl)) λh'=>(ε _ h').2 (.inr rfl)
  ·intro x G;rw [δ,Lv.dA]at G;simp only [Lv.bvs,KJ,Ke,NI]at G;rw [hρ2 x G.2.1 G.2.2,H x G.1]
  ·rw [δ,gk];have e3:thS (.part o2 q .nil) ρ tk=[aR o2 (thS q) Z tk]:=by rw [<-hfe];simp only [thS]
   rw [e3];exact ho34
theorem aP.set {e B:Nat}{w w':World}{g cap n j:Nat}{l:List Value}{x:Value}(h:aP e B w (.slice (some ⟨g,0,none⟩) n cap) l)(hw:w'=w.setCell ⟨g,j,none⟩ x)(W:j< l.length):aP e B w' (.slice (some ⟨g,0,none⟩) n cap) (l.set j x):=by
 subst hw;rcases h.2 with⟨H,_⟩ | ⟨Z,z,cur,I,hb,J,V,h2,G,h4⟩
 ·cases H
 ·cases I;have hl:=h.1;rw [KK]at G h4;have e:(w.setCell ⟨g,j,none⟩ x).heap[g]?=some (.cells (cur.setIfInBounds j x) e (0,0)):=by
   rw [Sort.setCell_eq];simp [Sort.mapBlock,L3,J,Sort.onCells]
  refine⟨by simp,.inr ⟨g,cap,_,by simp,hb,e,by simpa using V,h2,by simpa using G,?_⟩⟩;rw [KK,LV,Array.toList_setIfInBounds,List.take_set,h4]
theorem aP.at {e B:Nat}{w:World}{g cap n j:Nat}{o:List Nat}(h:aP e B w (.slice (some ⟨g,0,none⟩) n cap) (o.map iv))(I:j< o.length):w.cell? ⟨g,0+j,none⟩=some (iv o[j])/\w.frozen? ⟨g,0+j,none⟩=false/\g< w.heap.size/\n=o.length:=by
 have fr:=h.fr (g:=g) rfl (0+j);have hb:=h.block g rfl;rcases h.2 with⟨G,_⟩ | ⟨V,z,cur,H,J,W,Z,h2,h3,h4⟩
 ·cases G
 ·cases H;refine⟨?_,fr,hb.2,by simp⟩;rcases h.BN (D:=λ _=>True) λ _ _=>trivial with⟨G,_⟩ | ⟨b,off,z,H,_,_,hc⟩
  ·cases G
  ·cases H;exact hc j _ (by simp [I])
def swp (π:List Nat)(a i:Nat)(ha:a< π.length)(z:i< π.length):List Nat:=(π.set a π[i]).set i π[a]
theorem mv (π:List Nat)(a i:Nat)(ha:a< π.length)(z:i< π.length)(H:a<=i):
  (swp π a i ha z).Perm π/\(swp π a i ha z).length=π.length/\(swp π a i ha z).take (a+1)=π.take a++[π[i]]:=by
 have G:(swp π a i ha z).Perm π:=by
  have :=List.set_set_perm z ha;unfold swp;by_cases h:a=i
  ·subst h;simp
  ·rw [List.set_comm _ _ h];exact this
 have I:(swp π a i ha z).length=π.length:=G.length_eq;refine⟨G,I,?_⟩;rw [J8 (by omega)]
 congr 1
 ·unfold swp;rw [Nq (by omega),Nq (by omega)]
 ·unfold swp;by_cases h:a=i
  ·subst h;simp
  ·simp [List.getElem_set,Ni h]
theorem Fm (π:List Nat)(a:Nat)(ha:a< π.length)(σ:List Nat):
  (∃i,∃z:i< π.length,a<=i/\∃τ:List Nat,τ.Perm ((swp π a i ha z).drop (a+1))/\σ=(swp π a i ha z).take (a+1)++τ)↔∃τ:List Nat,τ.Perm (π.drop a)/\σ=π.take a++τ:=by
 have key:∀i (z:i< π.length),a<=i->(π[i]::(swp π a i ha z).drop (a+1)).Perm (π.drop a):=λi z G=>by
  obtain⟨H,h2,I⟩:=mv π a i ha z G;have h4:(π.take a++(π[i]::(swp π a i ha z).drop (a+1))).Perm (π.take a++π.drop a):=by
   rw [Li,List.append_cons,<-I,Li];exact H
  exact(List.perm_append_left_iff _).1 h4
 constructor
 ·rintro⟨i,z,G,τ,H,rfl⟩
  obtain⟨h2,I,h4⟩:=mv π a i ha z G;refine⟨π[i]::τ,(H.cons _).trans (key i z G),?_⟩;rw [h4,KN];rfl
 ·rintro⟨τ,H,rfl⟩
  cases τ with
  | nil=>have :=H.length_eq;rw [LH]at this;simp at this;omega
  | cons y τ=>
   have J:=H.subset (KR ..);obtain⟨j,V,e⟩:=KY.1 J;rw [LH]at V;rw [List.getElem_drop]at e;have z:a+j< π.length:=by omega
   obtain⟨h2,I,h4⟩:=mv π a (a+j) ha z (by omega);refine⟨a+j,z,by omega,τ,?_,?_⟩
   ·have :=key (a+j) z (by omega);rw [e]at this;exact(NA y).1 (H.trans this.symm)
   ·rw [h4,e,KN];rfl
theorem HR (π:List Nat)(a i:Nat)(ha:a< π.length)(z:i< π.length)(G:i< (swp π a i ha z).length)(h2:a< (swp π a i ha z).length):(swp π a i ha z)[i]=π[a]/\(swp π a i ha z)[a]=π[i]:=by
 simp only [swp,List.getElem_set];refine⟨KG trivial,?_⟩;by_cases h:i=a
 ·subst h;simp
 ·simp [h]
def JZ (B:Nat)(v:Value)(o:List Nat)(Inv:List (List Nat)->World->Prop)(f:Nat)(ca:List Value):Prop:=
 ∀(acc:List (List Nat)) (π:List Nat) (w:World),Inv acc w->aP 3 B w v (π.map iv)->π.Perm o->∀{R:World->Prop},(∀w',Inv (acc++[π]) w'->aP 3 B w' v (π.map iv)->R w')->Calls Tryz.prog f (List.toArray ca) w (ax [] R)
theorem yR {B:Nat}{v:Value}{o:List Nat}{Inv:List (List Nat)->World->Prop}{f:Nat}{ca:List Value}(hf:dh.contains f=true)(κ:JZ B v o Inv f ca)(hinv:∀acc w w',Inv acc w->Kp w w' (λg=>v.ownBlock=some g)->Inv acc w')(ho:o.length<=1099511627776):
  ∀(d:Nat) (a:Nat) (π:List Nat) (acc:List (List Nat)) (w:World),a+d=π.length->Inv acc w->aP 3 B w v (π.map iv)->π.Perm o->∀{R:World->Prop},
   (∀w' δ,Inv (acc++δ) w'->aP 3 B w' v (π.map iv)->(∀σ,σ∈δ↔∃τ:List Nat,τ.Perm (π.drop a)/\σ=π.take a++τ)->R w')->
   Calls Tryz.prog 250 #[v,iv a,.func (.func f) #[] (List.toArray ca)] w (ax [] R)
 | 0,a,π,acc,w,hd,hI,hw,hp,R,hR=>by
  refine lg v a _ w R ?_;obtain⟨ad,cap,hv⟩:=(hw.BN (D:=λ _=>True) λ _ _=>trivial).slice;rw [Kz]at hv;refine⟨ad,_,cap,hv,dc (by omega) ⟨f,ca,rfl,hf,?_⟩⟩;rw [KZ];refine κ acc π w hI hw hp λw' hI' hw'=>hR w' [π] hI' hw' λσ=>?_
  rw [show a=π.length by omega,Mb,KA];simp only [Kf,List.perm_nil];constructor
  ·rintro rfl;exact⟨[],rfl,by simp⟩
  ·rintro⟨τ,rfl,rfl⟩;simp
 | d+1,a,π,acc,w,hd,hI,hw,hp,R,hR=>by
  refine lg v a _ w R ?_;have ha:a< π.length:=by omega
  have hpl:=hp.length_eq;obtain⟨g,cap,hv⟩:∃g cap,v= .slice (some ⟨g,0,none⟩) π.length cap:=by
   rcases hw.2 with⟨_,h0⟩ | ⟨g,cap,cur,hv,_⟩
   ·rw [Kz]at h0;omega
   ·rw [Kz]at hv;exact⟨g,cap,hv⟩
  subst hv;have kg:∀{w1 w2:World} {j:Nat} {x:Value},w2=w1.setCell ⟨g,j,none⟩ x->Kp w1 w2 (λb=>(Value.slice (some ⟨g,0,none⟩) π.length cap).ownBlock=some b):=λh=>h▸Kp.mono (λb hb=>by rw [hb];rfl) (Kr.set _ _ _)
  refine⟨_,_,cap,rfl,aV (by omega) ⟨λi w'=>∃(j:Nat) (z:List (List Nat)),i=j/\a<=j/\j<=π.length/\Inv (acc++z) w'/\aP 3 B w' (.slice (some ⟨g,0,none⟩) π.length cap) (π.map iv)/\∀σ,σ∈z↔∃i,∃hi:i< π.length,(a<=i/\i< j)/\∃τ:List Nat,τ.Perm ((swp π a i ha hi).drop (a+1))/\σ=(swp π a i ha hi).take (a+1)++τ,
   λi _=>(π.length - i).toNat,⟨a,[],rfl,Kb _,by omega,by rw [KJ];exact hI,hw,λσ=>⟨λh=>(by cases h),fun⟨i,_,h,_⟩=>by omega⟩⟩,λi ζ hJ=>?_⟩⟩
  obtain⟨j,z,rfl,μ,hjl,ν,α,ε⟩:=hJ;refine⟨_,_,cap,rfl,λhlt=>?_,λhge=>?_⟩;rotate_left
  ·have:j=π.length:=by simp only [J6]at hge;omega
   refine hR ζ z ν α λσ=>?_
   rw [ε,<-Fm π a ha];constructor
   ·rintro⟨i,hi,⟨h1,_⟩,h2⟩;exact⟨i,hi,h1,h2⟩
   ·rintro⟨i,hi,h1,h2⟩;exact⟨i,hi,⟨h1,by omega⟩,h2⟩
  have G:j< π.length:=by simp only [J4]at hlt;omega
  obtain⟨cj,fj,hgb,_⟩:=α.at G;obtain⟨ca',fa,_,_⟩:=α.at ha;obtain⟨s1,s2,s3⟩:=mv π a j ha G μ;refine⟨λw'=>aP 3 B w' (.slice (some ⟨g,0,none⟩) π.length cap) (π.map iv),λw18 ξ=>?_⟩;have ο:Ex ζ w18:=ξ▸Ex.drew ζ;have β:=α.kp (Kp.ah ο λ _=>False) λ _ _ h=>h
  have I18:=hinv _ _ _ ν (Kp.ah ο _);refine⟨β,g,0,_,cap,rfl,by omega,by omega,π[j],λw' ho=>by rw [J9,KK];exact(ho.at G).1,g,0,_,cap,rfl,by omega,by omega,π[a],λw' ho=>by rw [J9,KK];exact(ho.at ha).1,g,0,_,cap,rfl,by omega,by omega,⟨⟨_,by rw [J9,KK];exact(β.at ha).1⟩,by rw [J9,KK];exact(β.at ha).2.1⟩,λw34 J=>?_⟩;rw [J9,KK,KF]at J;have η:=β.set J (by simpa using ha);rw [<-List.map_set]at η;have ς:j< (π.set a π[j]).length:=by rw [LV];exact G
  obtain⟨c34,f34,_,_⟩:=η.at ς;refine⟨g,0,_,cap,rfl,by omega,by omega,⟨⟨_,by rw [J9,KK];exact c34⟩,by rw [J9,KK];exact f34⟩,λυ V=>⟨by unfold aj;omega,?_⟩⟩;rw [J9,KK,KF]at V;have φ:=η.set V (by simpa using G);rw [<-List.map_set]at φ;have χ:aP 3 B υ (.slice (some ⟨g,0,none⟩) π.length cap) ((swp π a j ha G).map iv):=φ;have I40:=hinv _ _ _ (hinv _ _ _ I18 (kg J)) (kg V);refine yR hf κ hinv ho d (a+1) (swp π a j ha G) (acc++z) υ (by omega) I40 χ (s1.trans hp) λψ ω I41 o41 hm2=>?_
  have I:j< (swp π a j ha G).length:=by omega
  have H:a< (swp π a j ha G).length:=by omega
  obtain⟨ej,ea⟩:=HR π a j ha G I H;refine⟨λw'=>aP 3 B w' (.slice (some ⟨g,0,none⟩) π.length cap) ((swp π a j ha G).map iv),λw43 hw43=>?_⟩;have x43:Ex ψ w43:=hw43▸Ex.drew ψ;have γ:=o41.kp (Kp.ah x43 λ _=>False) λ _ _ h=>h
  have I43:=hinv _ _ _ I41 (Kp.ah x43 _);refine⟨γ,g,0,_,cap,rfl,by omega,by omega,((swp π a j ha G)[j]:Nat),λw' ho=>by rw [J9,KK];exact(ho.at I).1,g,0,_,cap,rfl,by omega,by omega,((swp π a j ha G)[a]:Nat),λw' ho=>by rw [J9,KK];exact(ho.at H).1,g,0,_,cap,rfl,by omega,by omega,⟨⟨_,by rw [J9,KK];exact(γ.at H).1⟩,by rw [J9,KK];exact(γ.at H).2.1⟩,λw59 W=>?_⟩;rw [J9,KK,KF]at W;have θ:=γ.set W (by rw [Kz];exact H);rw [<-List.map_set]at θ;have hj59:j< ((swp π a j ha G).set a (swp π a j ha G)[j]).length:=by rw [LV];exact I
  obtain⟨c59,f59,_,_⟩:=θ.at hj59;refine⟨g,0,_,cap,rfl,by omega,by omega,⟨⟨_,by rw [J9,KK];exact c59⟩,by rw [J9,KK];exact f59⟩,λw65 Z=>⟨by unfold aj;omega,⟨j+1,z++ω,by omega,by omega,by omega,?_,?_,λσ=>?_⟩,by show((π.length:Int) - ((j:Int)+1)).toNat< ((π.length:Int) - j).toNat;omega⟩⟩
  ·rw [<-KN];exact hinv _ _ _ (hinv _ _ _ I43 (kg W)) (kg Z)
  ·rw [J9,KK,KF]at Z;have ι:=θ.set Z (by rw [Kz,LV];exact I);rw [<-List.map_set]at ι;have e:((swp π a j ha G).set a (swp π a j ha G)[j]).set j (swp π a j ha G)[a]=π:=by
    rw [ej,ea];unfold swp;apply MM
    ·simp
    ·intro k h1 h2;simp only [List.getElem_set];split
     ·rename_i h;subst h;rfl
     ·split
      ·rename_i h;subst h;rfl
      ·rfl
   rw [e]at ι;exact ι
  ·rw [Ke,ε,hm2];constructor
   ·rintro(⟨i,hi,⟨h1,h2⟩,h3⟩ | ⟨τ,h1,h2⟩)
    ·exact⟨i,hi,⟨h1,by omega⟩,h3⟩
    ·exact⟨j,G,⟨μ,by omega⟩,τ,h1,h2⟩
   ·rintro⟨i,hi,⟨h1,h2⟩,h3⟩
    by_cases h:i=j
    ·subst h;right;exact h3
    ·left;exact⟨i,hi,⟨h1,by omega⟩,h3⟩
structure xi (w:World)(b30 b3 b5 b16 b18 nn:Nat)(vo vl:Value)(x:UInt32)(best:Tx):Prop where
 l:∀b,(b=b30\/b=b3\/b=b5\/b=b16\/b=b18)->b< w.heap.size
 c30:w.cell? ⟨b30,0,none⟩=some vo
 c3:w.cell? ⟨b3,0,none⟩=some (ptr nn)
 c5:w.cell? ⟨b5,0,none⟩=some vl
 c16:w.cell? ⟨b16,0,none⟩=some (.string (ab best))
 c18:w.cell? ⟨b18,0,none⟩=some (.int .u32 x.toNat)
 f16:w.frozen? ⟨b16,0,none⟩=false
 ne:b16≠b30/\b16≠b3/\b16≠b5/\b16≠b18
section
variable {w w':World} {b30 b3 b5 b16 b18 nn:Nat} {vo vl:Value} {x:UInt32} {best best':Tx} {S:Nat->Prop}
theorem xi.kp (h:xi w b30 b3 b5 b16 b18 nn vo vl x best)(k:Kp w w' S)(z:∀b,(b=b30\/b=b3\/b=b5\/b=b16\/b=b18)->¬S b):xi w' b30 b3 b5 b16 b18 nn vo vl x best:=by
 have e:∀b,(b=b30\/b=b3\/b=b5\/b=b16\/b=b18)->w'.heap[b]?=w.heap[b]?:=λb hb=>k.block b (h.l b hb) (z b hb)
 exact⟨λb hb=>Kx (h.l b hb) k.size,by rw [J1 (w:=w) (e b30 (by simp))];exact h.c30,by rw [J1 (w:=w) (e b3 (by simp))];exact h.c3,by rw [J1 (w:=w) (e b5 (by simp))];exact h.c5,
  by rw [J1 (w:=w) (e b16 (by simp))];exact h.c16,by rw [J1 (w:=w) (e b18 (by simp))];exact h.c18,by rw [KC (w:=w) (e b16 (by simp))];exact h.f16,h.ne⟩
theorem xi.ex (h:xi w b30 b3 b5 b16 b18 nn vo vl x best)(k:Ex w w'):xi w' b30 b3 b5 b16 b18 nn vo vl x best:=h.kp (Kp.ah k λ _=>False) λ _ _ h=>h
theorem xi.EE (h:xi w b30 b3 b5 b16 b18 nn vo vl x best)(hw:w'=w.setCell ⟨b16,0,none⟩ (.string (ab best'))):xi w' b30 b3 b5 b16 b18 nn vo vl x best':=by
 subst hw;have k:=Kr.set (r:=b16) w 0 (.string (ab best'));have ne:∀b,b16≠b->(w.setCell ⟨b16,0,none⟩ (.string (ab best'))).cell? ⟨b,0,none⟩=w.cell? ⟨b,0,none⟩:=λb hb=>J7 _ _ _ _ (λe=>by injection e with I J;omega)
 obtain⟨n1,z,G,H⟩:=h.ne;exact⟨λb hb=>Kx (h.l b hb) k.size,by rw [ne _ n1];exact h.c30,by rw [ne _ z];exact h.c3,by rw [ne _ G];exact h.c5,Kj _ _ _ h.c16,by rw [ne _ H];exact h.c18,by rw [Kt];exact h.f16,h.ne⟩
end
def nD (l:Lv)(ls:List UInt8)(ρ:Rh)(tk:Tk)(π:List Nat):Tx:=wrap ls []++joinS 38 (a7 (thS l (asg π ls ρ) (addK ls tk)))
theorem BC (c:UInt8)(l:List UInt8):wrap (c::l) []=[35]++[c]++[46]++wrap l []:=rfl
theorem C0 {n:Nat}(ht:Gu n){D:Nat->Prop}{w:World}{b30 b3 b5 b16 b18 nn r:Nat}{vo vl:Value}{x:UInt32}{best:Tx}{o π:List Nat}{l:Lv}{ρ:Rh}{tk:Tk}{bad:Bool}{B:Nat}(hs:xi w b30 b3 b5 b16 b18 nn vo vl x best)
  (hb:∀b,(b=b30\/b=b3\/b=b5\/b=b16\/b=b18)->¬(b=nn\/b=r)) (ho:aP 3 B w vo (π.map iv)) (hob:∀g,vo.ownBlock=some g->¬(g=nn\/g=r)) (hp:π.Perm o) (hN:Nm w nn r ρ tk bad) (hx:iX x tk)
  (hn:l.sz<=n) (hsh:l.sh true=true) (hsm:l.sm=true) (huq:ug o l) (h:gd D w vl o (af D w l)) (hD:∀g,D g->¬(g=nn\/g=r)) (hne:l.isNil=false) (htot:o.length+l.tot<=4294967296) {R:World->Prop}
  (hR:∀w' ρ' best',Kp w w' (λg=>g=nn\/g=r\/g=b16)->xi w' b30 b3 b5 b16 b18 nn vo vl x best'->Nm w' nn r ρ' tk (bad||(gu o.length tk||thBad l (addK (lets o.length tk) tk)))->(∀z,z∉o->z∉l.bvs->ρ' z=ρ z)->
   best'=(if best=[]\/nD l (lets o.length tk) ρ tk π< best then nD l (lets o.length tk) ρ tk π else best)->R w'):
  Calls Tryz.prog 251 #[ptr b30,ptr b3,ptr b5,ptr b16,ptr b18] w (ax [] R):=by
 refine kI _ _ _ _ _ w R ?_;have ο:=hp.length_eq;obtain⟨ao,capo,hvo⟩:=(ho.BN (D:=λ _=>True) λ _ _=>trivial).slice;rw [Kz]at hvo;have hge:=huq.ge;refine⟨b30,0,rfl,vo,hs.c30,ao,_,capo,hvo,λhd y w'=>∃(j:Nat) (H:Rh) (G:Tk) (I:Bool),y=j/\j<=π.length/\Kn nn r w w'/\Nm w' nn r H G I/\hd.length=3* j/\asg (π.drop j) (lets (π.length - j) G) H=asg π (lets o.length tk) ρ/\addK (lets (π.length - j) G) G=addK (lets o.length tk) tk/\
   (I||gu (π.length - j) G)=(bad||gu o.length tk)/\hd++wrap (lets (π.length - j) G) []=wrap (lets o.length tk) []/\∀z,z∉o->H z=ρ z,λ _ y _=>(π.length - y).toNat,⟨0,ρ,tk,bad,rfl,KT _,Kn.ex (Ex.refl w),hN,rfl,by rw [LP,Nat.sub_zero,ο],by rw [Nat.sub_zero,ο],by rw [Nat.sub_zero,ο],by rw [Nat.sub_zero,ο];rfl,λ _ _=>rfl⟩,λhd y ς hI=>?_⟩
 obtain⟨j,H,G,I,rfl,hj,ι,n16,hhd,e1,e2,e3,e4,e5⟩:=hI;have s16:xi ς b30 b3 b5 b16 b18 nn vo vl x best:=hs.kp ι hb;refine⟨λhlt=>?_,λhge2=>?_⟩
 ·have ζ:j< π.length:=by simp only [J4]at hlt;omega
  obtain⟨g,cap,hvo2⟩:∃g cap,vo= .slice (some ⟨g,0,none⟩) π.length cap:=by
   rcases ho.2 with⟨_,h0⟩ | ⟨g,cap,cur,hv,_⟩
   ·rw [Kz]at h0;omega
   ·rw [Kz]at hv;exact⟨g,cap,hv⟩
  have o16:=ho.kp ι λg hg=>hob g hg
  have hx26:26<=π[j]:=hge _ (KH _ (hp.subset (Kg ζ)));have α:ς.cell? ⟨g,0+Int.toNat (j:Int)* 1,none⟩=some (iv π[j]):=by
   rw [hvo2]at o16;rw [J9,KK];exact(o16.at ζ).1
  refine⟨g,0,_,cap,hvo2,by omega,by omega,π[j],α,b3,0,rfl,ptr nn,s16.c3,D3 n16 hx26 λy' w26 _ k26 n26=>⟨b3,0,rfl,ptr nn,(s16.kp k26 hb).c3,kj n26 ⟨by simp,by simp,?_,by unfold aj;omega,⟨j+1,_,_,_,by omega,by omega,Kn.trans ι k26,n26,?_,?_,?_,?_,?_,λz hz=>?_⟩,by show((π.length:Int) - ((j:Int)+1)).toNat< ((π.length:Int) - j).toNat;omega⟩⟩⟩
  all_goals have ed:π.drop j=π[j]::π.drop (j+1):=K0 ζ
  all_goals have el:π.length - j=(π.length - (j+1))+1:=by omega
  all_goals rw [el]at e1 e2 e3 e4
  ·simp;omega
  ·simp;omega
  ·rw [ed]at e1;exact e1
  ·exact e2
  ·rw [<-e3];simp only [gu,LC]
  ·rw [<-e4,lets,BC];simp [aF]
  ·rw [<-e5 z hz];refine Ko λe=>hz ?_
   rw [e];exact hp.subset (Kg ζ)
 ·have ζ:j=π.length:=by simp only [J6]at hge2;omega
  subst ζ;rw [Nat.sub_self]at e1 e2 e3 e4;rw [Mb]at e1;simp only [lets,asg,addK,gu,wrap,Ms,KJ]at e1 e2 e3 e4;intro b32 w33 hb32 hw33;have x33:Ex ς w33:=hw33▸Ex.alloc ς _;have s33:=s16.ex x33;have n33:=n16.ex x33;have k33:Kn nn r w w33:=Kn.trans ι (Kn.ex x33);obtain⟨bl,vo2,vt,ts,rfl,h2,h3,h4,h5,h6,h7,h8⟩:=h;obtain⟨at_,capt,hvt⟩:=h7.slice;have hlen:=h8.len;have hel:=Lv.cT l;have hlt:=cn l;have hbl:=hD bl h2;have sz33:=k33.size;have hlb:∀b,(b=b30\/b=b3\/b=b5\/b=b16\/b=b18)->b< w.heap.size:=hs.l;refine⟨b5,0,rfl,ptr bl,s33.c5,bl,0,rfl,vt,by rw [J1 (w:=w) (k33.block bl h3 hbl)];exact h5,at_,_,capt,hvt,λtx y w'=>∃(j:Nat) (V:Rh),y=j/\j<=ts.length/\Kn nn r w w'/\Nm w' nn r V G (I||thBad (l.take j) G)/\(∀z,z∉(l.take j).bvs->V z=H z)/\Own w.heap.size w' tx (thS (l.take j) H G),
   λ _ y _=>(ts.length - y).toNat,⟨0,H,rfl,KT _,k33,by simpa [Lv.take,thBad]using n33,λ _ _=>rfl,Own.none (by have :=ι.size;omega) hb32 hw33⟩,λtx y w47 hI=>?_⟩
  obtain⟨j,V,rfl,hj,κ,n47,γ,δ⟩:=hI;have hnl:=hN.lt;have hnr:=hN.lr;have J:∀g',tx.ownBlock=some g'->w.heap.size<=g':=λg' h'=>(δ.block g' h').1
  refine⟨λhlt2=>?_,λhge3=>?_⟩
  ·have υ:j< ts.length:=by simp only [J4]at hlt2;omega
   have hje:j< l.bB.length:=by omega
   have s47:xi w47 b30 b3 b5 b16 b18 nn vo (ptr bl) x best:=hs.kp κ hb;obtain⟨bu,ou,β,hvu',hcu⟩:∃bu ou β,vt= .slice (some ⟨bu,ou,none⟩) ts.length β/\w47.cell? ⟨bu,ou+j,none⟩=some ts[j]:=by
    rcases h7 with⟨_,h0⟩ | ⟨bt,ot,capt',e,hbD,hb',α⟩
    ·rw [h0]at υ;simp at υ
    ·exact⟨bt,ot,capt',e,by rw [J1 (w:=w) (κ.block bt hb' (hD bt hbD))];exact α j _ (J2 υ)⟩
   obtain⟨e,hf1,η,hf3⟩:=aM.single h8.bB (J2 υ);have hf4:l.bB[j]=e:=by rw [J2 hje]at hf1;exact KS hf1
   have ε:=Lv.take_succ l j hje;rw [hf4]at ε;have hsz2:=Lv.eD l e η;have htot2:=Lv.gv l e η;have hfe:thS e V G=thS e H G:=r9 e V H G λz hz=>γ z λhb=>huq.nf z (Lv.ll l j z hb) (Lv.pJ l e η hz)
   refine⟨bu,ou,_,β,hvu',by omega,by omega,ts[j],by rw [J9,KK];exact hcu,b3,0,rfl,ptr nn,s47.c3,?_⟩;refine ht (by omega) (Lv.jJ hsh e η) (Lv.sg hsm e η) (huq.bB η) (hf3.kp κ hD) hD n47 (by omega) λt w57 ρ3 hthS k57 n57 hρ3 b58 w59 hb58 hw59=>?_
   have φ:Ex w57 w59:=hw59▸Ex.alloc w57 _;have k1:Kn nn r w w57:=Kn.trans κ k57;have ho59:Own w.heap.size w59 tx (thS (l.take j) H G):=(δ.kp k57 λg' h'=>(by have :=J g' h';omega)).ex φ;have hl3:(thS (l.take j) H G).length<=ts.length:=by
    rw [bF];have :=Lv.gT l j;omega
   refine Own.push ho59 (by have :=k1.size;have :=φ.size;omega) (Strs.one hb58 hw59) (by simp only [J0,Kh];omega) λv65 w66 _ ho66 hg66 _=>⟨by unfold aj;omega,⟨j+1,ρ3,by omega,by omega,?_,?_,?_,?_⟩,by show((ts.length:Int) - ((j:Int)+1)).toNat< ((ts.length:Int) - j).toNat;omega⟩
   ·exact Kp.new (Kn.trans k1 (Kn.ex φ)) hg66 J
   ·have e1:(I||thBad (l.take (j+1)) G)=(I||thBad (l.take j) G||thBad e G):=by rw [ε,cY,LC]
    rw [e1];refine(n57.ex φ).kp (Kp.aQ (S:=λg=>tx.ownBlock=some g) hg66 λ _ h=>h) (λh'=>by have :=J _ h';omega) λh'=>by have :=J _ h';omega
   ·intro z hz;rw [ε,Lv.dA,Ke,NI]at hz;rw [hρ3 z hz.2,γ z hz.1]
   ·rw [ε,gk,<-hfe,hthS];exact ho66
  ·have hjt:j=l.bB.length:=by simp only [J6]at hge3;omega
   rw [hjt,Lv.di]at n47 δ γ;have hsum:=gn l H G;have χ:=bF l H G;have hne':thS l H G≠[]:=λe=>by
    rw [e]at χ;rw [Lv.du]at hne;simp only [Kh]at χ;simp [<-χ]at hne
   have eT:hd++joinS 38 (a7 (thS l H G))=nD l (lets o.length tk) ρ tk π:=by
    unfold nD;rw [<-e4,<-e1,<-e2]
   have hjl2:=gJ 38 (a7 (thS l H G));rw [ik (aO _)]at hjl2;refine DC δ hne' (by rw [χ];omega) (by omega) λθ k68=>⟨by omega,?_⟩
   have μ:Kn nn r w θ:=Kp.trans κ k68 λg' hg' h'=>by have :=J g' h';omega
   have W:xi θ b30 b3 b5 b16 b18 nn vo (ptr bl) x best:=hs.kp μ hb;have n68:Nm θ nn r V G (I||thBad l G):=n47.kp k68 (λh'=>by have :=J _ h';omega) λh'=>by have :=J _ h';omega
   have kq:∀{w1:World},Kn nn r w w1->Kp w w1 (λg=>g=nn\/g=r\/g=b16):=λk=>Kp.mono (λg hg=>hg.elim .inl λh=> .inr (.inl h)) k
   rw [eT];have fin:∀w1 best',Kp w w1 (λg=>g=nn\/g=r\/g=b16)->xi w1 b30 b3 b5 b16 b18 nn vo (ptr bl) x best'->Nm w1 nn r V G (I||thBad l G)->best'=(if best=[]\/nD l (lets o.length tk) ρ tk π< best then nD l (lets o.length tk) ρ tk π else best)->
     ∃(b79 o80:Nat),ptr b3=Value.pointer (some ⟨b79,o80,none⟩)/\∃v81:Value,World.cell? w1 ⟨b79,o80,none⟩=some v81/\∃(b82 o83:Nat),ptr b18=Value.pointer (some ⟨b82,o83,none⟩)/\∃m84:UInt32,World.cell? w1 ⟨b82,o83,none⟩=some (Value.int IntKind.u32 (UInt32.toNat m84))/\∃(ψ ω:Nat),v81=Value.pointer (some ⟨ψ,ω,none⟩)/\((∃u87:Value,World.cell? w1 ⟨ψ,(ω+1),none⟩=some u87)/\World.frozen? w1 ⟨ψ,(ω+1),none⟩=false)/\∀w88:World,w88=World.setCell w1 ⟨ψ,(ω+1),none⟩ (Value.int IntKind.u32 (UInt32.toNat m84))->R w88:=by
    intro w1 best' k1 s1 n1 hbest;obtain⟨z,hz,_⟩:=n1.c1;refine⟨b3,0,rfl,ptr nn,s1.c3,b18,0,rfl,x,s1.c18,nn,0,rfl,⟨⟨_,hz⟩,n1.f 1⟩,λw88 ν=>hR w88 V best' ?_ ?_ ?_ (λz hz hz'=>?_) hbest⟩
    ·exact Kp.trans k1 (ν▸Kr.set _ _ _) λg _ e=> .inl e
    ·exact s1.kp (ν▸Kr.set w1 1 _) λb hb' e=>hb b hb' (.inl e)
    ·refine n1.set (tk':=tk) ν (.inl ⟨rfl,?_,x,rfl,hx⟩);rw [<-LC,<-e3,<-e2]
    ·rw [γ z hz',e5 z hz]
   have st:∀w1,w1=θ.setCell ⟨b16,0,none⟩ (.string (ab (nD l (lets o.length tk) ρ tk π)))->Kp w w1 (λg=>g=nn\/g=r\/g=b16)/\xi w1 b30 b3 b5 b16 b18 nn vo (ptr bl) x (nD l (lets o.length tk) ρ tk π)/\Nm w1 nn r V G (I||thBad l G):=λw1 hw1=>by
    have kb:Kr b16 θ w1:=hw1▸Kr.set _ _ _;have h16:=hb b16 (by simp);exact⟨Kp.trans (kq μ) kb λg _ e=> .inr (.inr e),W.EE hw1,n68.kp kb (λe=>h16 (.inl e.symm)) λe=>h16 (.inr e.symm)⟩
   refine⟨b16,0,rfl,best,W.c16,λξ=>?_,λξ=>?_⟩
   ·simp only [J6]at ξ;refine⟨b16,0,rfl,best,W.c16,λZ=>⟨b16,0,rfl,⟨⟨_,W.c16⟩,W.f16⟩,λw78 hw78=>?_⟩,λZ=>?_⟩
    ·rw [NB,J4]at Z;obtain⟨k1,k2,k3⟩:=st w78 hw78;exact fin w78 _ k1 k2 k3 (by rw [KG (.inr Z)])
    ·rw [NB,J6]at Z;exact fin θ best (kq μ) W n68 (by rw [Ko (λh=>h.elim ξ Z)])
   ·simp only [J4]at ξ;refine⟨b16,0,rfl,⟨⟨_,W.c16⟩,W.f16⟩,λw102 hw102=>?_⟩;obtain⟨k1,k2,k3⟩:=st w102 hw102;exact fin w102 _ k1 k2 k3 (by rw [KG (.inl ξ)])
theorem zV (a:Tx):bP [a]=a:=gC (by simp) λs z=>by simp at z;subst z;simp [jD]
theorem xH {l:List Tx}(h:l≠[])(a:Tx):bP (l++[a])=if a< bP l then a else bP l:=by
 obtain⟨H,h2⟩:=cM h;split
 ·rename_i G;refine gC (by simp) λs z=>?_
  rcases Ke.1 z with z | z
  ·refine gB _ _ _ ?_ (h2 s z);simp only [jD,J4];exact List.le_of_lt G
  ·simp at z;subst z;simp [jD]
 ·rename_i G;refine gC (KH _ H) λs z=>?_
  rcases Ke.1 z with z | z
  ·exact h2 s z
  ·simp at z;subst z;simp only [jD,J4];exact List.not_lt.1 G
theorem Gx {l:Lv}{o π:List Nat}(J:π.Perm o)(H:ug o l){ls:List UInt8}(I:π.length=ls.length){ρ ρ':Rh}(h:∀z,z∉o->z∉l.bvs->ρ' z=ρ z)(tk:Tk):nD l ls ρ' tk π=nD l ls ρ tk π:=by
 unfold nD;rw [r9 l (asg π ls ρ') (asg π ls ρ) (addK ls tk) λz V=>?_];by_cases G:z∈π
 ·exact zQ π ls ρ' ρ z G I
 ·rw [bV _ _ _ _ G,bV _ _ _ _ G];exact h z (λW=>G (J.symm.subset W)) λhb=>H.nf z hb V
structure OI (w w':World)(b30 b3 b5 b16 b18 nn r:Nat)(vo vl:Value)(x:UInt32)(o:List Nat)(l:Lv)(ρ:Rh)(tk:Tk)(bad:Bool)(acc:List (List Nat)):Prop where
 ex:∃(ρ':Rh) (best:Tx),xi w' b30 b3 b5 b16 b18 nn vo vl x best/\Nm w' nn r ρ' tk (bad||(!acc.isEmpty&&(gu o.length tk||thBad l (addK (lets o.length tk) tk))))/\(∀z,z∉o->z∉l.bvs->ρ' z=ρ z)/\
  ((acc=[]/\best=[])\/(acc≠[]/\best=bP (acc.map (nD l (lets o.length tk) ρ tk))))
 kn:Kn nn r w w'
theorem vy {n:Nat}(ht:Gu n):Hi n:=by
 intro D w v o l nn r ρ tk bad R hn hsh hsm huq h hD hN htot hR;refine mY (ptr nn) v w R ?_;have hv1:=h.one;refine⟨rfl,λb3 w4 hb3 hw4=>⟨hv1,λb5 w6 hb5 hw6=>?_⟩⟩;have x4:Ex w w4:=hw4▸Ex.alloc w _;have x6':Ex w4 w6:=hw6▸Ex.alloc w4 _;have x6:Ex w w6:=Ex.trans x4 x6';have s4:w4.heap.size=w.heap.size+1:=by rw [hw4,size_alloc]
 have s6:w6.heap.size=w4.heap.size+1:=by rw [hw6,size_alloc]
 have c3:w6.cell? ⟨b3,0,none⟩=some (ptr nn):=by rw [x6'.cell (show b3< _ by omega),hw4,hb3];exact aa rfl
 have c5:w6.cell? ⟨b5,0,none⟩=some v:=by rw [hw6,hb5];exact aa rfl
 have hnl:=hN.lt;have hnr:=hN.lr;refine⟨v,c5,mo (gd.ex h x6) ⟨λhe=>?_,λhe=>?_⟩⟩
 ·have e:aR o (thS l) ρ tk=[48]:=by
   unfold aR;rw [KG];cases l<;>first | rfl | cases he
  rw [<-e];refine hR w6 ρ (Kn.ex x6) ?_ λ _ _ _=>rfl
  rw [he];simpa [fQ]using hN.ex x6
 ·refine⟨λw'=>Ex w6 w',λw11 hw11=>?_⟩;have ξ:Ex w6 w11:=hw11▸Ex.drew w6;have n11:=hN.ex (Ex.trans x6 ξ);obtain⟨x,hx,hxt⟩:=(hN.ex x6).c1;have s11:=ξ.size;have rest:∀(b16 b18:Nat) (G:World),Ex w6 G->G.cell? ⟨b16,0,none⟩=some (.string (ab []))->G.cell? ⟨b18,0,none⟩=some (.int .u32 x.toNat)->G.frozen? ⟨b16,0,none⟩=false->b16≠b18->w6.heap.size<=b16->w6.heap.size<=b18->b16< G.heap.size->b18< G.heap.size->
    ∃v24:Value,World.cell? G ⟨b5,0,none⟩=some v24/\∃(b25 o26:Nat),v24=Value.pointer (some ⟨b25,o26,none⟩)/\∃v27:Value,World.cell? G ⟨b25,(o26+0),none⟩=some v27/\Calls Tryz.prog 180 #[v27] G (ax [.v] fun(v28:Value) (ι:World)=>∀(b30:Nat) (α:World),b30=Array.size (World.heap ι)->α=World.alloc ι (Obj.cells #[(Value.slice none 0 0)] 36)->oneV v28=true/\((∃u32:Value,World.cell? α ⟨b30,0,none⟩=some u32)/\World.frozen? α ⟨b30,0,none⟩=false)/\
     ∀β:World,β=World.setCell α ⟨b30,0,none⟩ v28->∃v34:Value,World.cell? β ⟨b30,0,none⟩=some v34/\Calls Tryz.prog 250 #[v34,(Value.int IntKind.i64 0),(Value.func (Fn.func 251) #[] #[(Value.pointer (some ⟨b30,0,none⟩)),(Value.pointer (some ⟨b3,0,none⟩)),(Value.pointer (some ⟨b5,0,none⟩)),(Value.pointer (some ⟨b16,0,none⟩)),(Value.pointer (some ⟨b18,0,none⟩))])] β (ax [] fun(φ:World)=>∃s36:ay,World.cell? φ ⟨b16,0,none⟩=some (Value.string (ab s36))/\R (s36) φ)):=by
   intro b16 b18 G ε c16 c18 f16 hne h16 h18 l16 l18;have h':=h;obtain⟨bl,vo,vt,ts,rfl,h2,h3,h4,h5,h6,h7,h8⟩:=h';have μ:Ex w G:=Ex.trans x6 ε;have c5':G.cell? ⟨b5,0,none⟩=some (ptr bl):=by rw [ε.cell (show b5< _ by omega)];exact c5
   have c3':G.cell? ⟨b3,0,none⟩=some (ptr nn):=by rw [ε.cell (show b3< _ by omega)];exact c3
   refine⟨ptr bl,c5',bl,0,rfl,vo,by rw [μ.cell (show bl< _ from h3)];exact h4,?_⟩;refine wG (h6.ex μ) (by omega) λv28 ι x29 o29 b30 α hb30 ν=>?_
   have x31:Ex ι α:=ν▸Ex.alloc ι _;have s31:α.heap.size=ι.heap.size+1:=by rw [ν,size_alloc]
   have s29:=x29.size;have s23:=ε.size;have c30:α.cell? ⟨b30,0,none⟩=some (.slice none 0 0):=by rw [ν,hb30];exact aa rfl
   have f30:α.frozen? ⟨b30,0,none⟩=false:=by rw [ν,hb30];exact aG _ _ _ _
   refine⟨o29.iL,⟨⟨_,c30⟩,f30⟩,λβ hw33=>?_⟩;have k33:Kr b30 α β:=hw33▸Kr.set _ _ _;have ζ:Ex G β:=Ex.below (Ex.trans x29 x31) (Kp.below k33 (Ex.trans x29 x31).size λg hg e=>by omega);have χ:∀g,v28.ownBlock=some g->G.heap.size<=g/\g< ι.heap.size:=o29.block;have o33:aP 3 G.heap.size β v28 (o.map iv):=(o29.kp (Kp.ah x31 λ _=>False) λ _ _ h=>h).kp k33 λg hg e=>by have :=χ g hg;omega
   have c30':β.cell? ⟨b30,0,none⟩=some v28:=by rw [hw33];exact Kj _ _ _ c30
   have ds:xi β b30 b3 b5 b16 b18 nn v28 (ptr bl) x []:=by
    have s33:=ζ.size;have s33':=k33.size;refine⟨λb hb=>?_,c30',?_,?_,?_,?_,?_,by omega,by omega,by omega,hne⟩
    ·rcases hb with rfl | rfl | rfl | rfl | rfl<;>omega
    ·rw [ζ.cell (show b3< _ by omega)];exact c3'
    ·rw [ζ.cell (show b5< _ by omega)];exact c5'
    ·rw [ζ.cell (show b16< _ by omega)];exact c16
    ·rw [ζ.cell (show b18< _ by omega)];exact c18
    ·rw [Lr ζ l16];exact f16
   have ψ:∀b,(b=b30\/b=b3\/b=b5\/b=b16\/b=b18)->w.heap.size<=b/\¬v28.ownBlock=some b:=λb hb=>by
    refine⟨by rcases hb with rfl | rfl | rfl | rfl | rfl<;>omega,λe=>?_⟩;have :=χ b e;rcases hb with rfl | rfl | rfl | rfl | rfl<;>omega
   have hlev:∀{w1:World},Kn nn r w w1->gd D w1 (ptr bl) o (af D w1 l):=λk=>h.kp k hD λl h=>h.kp k hD
   have ο:∀g,v28.ownBlock=some g->¬(g=nn\/g=r):=λg hg=>by have :=χ g hg;omega
   refine⟨v28,c30',?_⟩;refine yR (o:=o) (ca:=[ptr b30,ptr b3,ptr b5,ptr b16,ptr b18]) (Inv:=λacc w'=>OI w w' b30 b3 b5 b16 b18 nn r v28 (ptr bl) x o l ρ tk bad acc) (by kernel_rfl) ?_ ?_ (by omega) o.length 0 o [] β (by omega) ⟨⟨ρ,[],ds,?_,λ _ _ _=>rfl,.inl ⟨rfl,rfl⟩⟩,Kn.ex (Ex.trans μ ζ)⟩ o33 (K9 _) λφ acc I35 o35 hacc=>?_
   ·intro acc π w1 hI how hp R' hR';obtain⟨⟨ω,best,d1,n1,e1,e2⟩,kn⟩:=hI;have hpl:=hp.length_eq;refine C0 ht d1 (λb hb=>by have :=(ψ b hb).1;omega) how ο hp n1 hxt hn hsh hsm huq (hlev kn) hD he htot λw2 ρ2 best2 k2 d2 n2 e3 e4=>hR' w2 ⟨⟨ρ2,best2,d2,?_,λz hz hz'=>by rw [e3 z hz hz',e1 z hz hz'],?_⟩,?_⟩ ?_
    ·have:(bad||(!acc.isEmpty&&(gu o.length tk||thBad l (addK (lets o.length tk) tk)))||(gu o.length tk||thBad l (addK (lets o.length tk) tk)))=(bad||(!(acc++[π]).isEmpty&&(gu o.length tk||thBad l (addK (lets o.length tk) tk)))):=by
      cases acc<;>simp [LC]
     rw [<-this];exact n2
    ·right;refine⟨by simp,?_⟩;have eT:=Gx hp huq (ls:=lets o.length tk) (by rw [fB];exact hpl) e1 tk;rw [eT]at e4;rw [K3];simp only [KE,L6];rcases e2 with⟨rfl,rfl⟩ | ⟨ha,rfl⟩
     ·rw [KG (.inl rfl)]at e4;rw [e4,L6,KZ,zV]
     ·rw [xH (by simpa using ha),e4];have hne2:bP (acc.map (nD l (lets o.length tk) ρ tk))≠[]:=by
       obtain⟨h1,_⟩:=cM (l:=acc.map (nD l (lets o.length tk) ρ tk)) (by simpa using ha);obtain⟨σ,_,e⟩:=KQ.1 h1;rw [<-e];unfold nD;intro e5;refine qk (qp ?_) (λt ht=>mF l hsm _ _ t ((aO _).subset ht)) (List.append_eq_nil_iff.1 e5).2;intro e6;have :=bF l (asg σ (lets o.length tk) ρ) (addK (lets o.length tk) tk);rw [e6]at this;rw [Lv.du]at he;simp only [Kh]at this;simp [<-this]at he
      simp only [hne2,NJ]
    ·exact Kp.trans kn k2 λg hg e=>by have :=(ψ b16 (by simp)).1;omega
    ·exact how.kp k2 λg hg e=>by
      rcases e with e | e | e
      ·exact ο g hg (.inl e)
      ·exact ο g hg (.inr e)
      ·exact(ψ b16 (by simp)).2 (e▸hg)
   ·intro acc w1 w2 hI k;obtain⟨⟨ω,best,d1,n1,e1,e2⟩,kn⟩:=hI;refine⟨⟨ω,best,d1.kp k λb hb=>(ψ b hb).2,n1.kp k (λe=>ο nn e (.inl rfl)) λe=>ο r e (.inr rfl),e1,e2⟩,Kp.trans kn k λg hg e=>by have :=χ g e;omega⟩
   ·have :=hN.ex (Ex.trans μ ζ);simpa using this
   ·obtain⟨⟨ω,best,d1,n1,e1,e2⟩,kn⟩:=I35;rw [KZ]at n1 e2;have hmem:∀σ,σ∈acc↔σ.Perm o:=λσ=>by
     rw [hacc];simp only [LP,List.take_zero,KZ];exact⟨fun⟨τ,h,e⟩=>e▸h,λh=>⟨σ,h,rfl⟩⟩
    have ς:acc≠[]:=λe=>by have :=(hmem o).2 (K9 _);rw [e]at this;cases this
    have eb:best=aR o (thS l) ρ tk:=by
     rcases e2 with⟨h0,_⟩ | ⟨_,rfl⟩
     ·exact absurd h0 ς
     ·unfold aR;have hemp:¬(thS l ρ tk).isEmpty=true:=λe=>by
       rw [List.isEmpty_iff_length_eq_zero,bF]at e;rw [Lv.du]at he;simp [e]at he
      rw [Ko hemp];show _=wrap _ (bP _);rw [yl,<-tN _ (λe=>pe o (ML.1 e)),LM];refine oM λs=>?_
      simp only [KQ,hmem,cZ];rfl
    rw [<-eb]at hR;refine⟨best,d1.c16,hR φ ω kn ?_ e1⟩;have:(bad||(!acc.isEmpty&&(gu o.length tk||thBad l (addK (lets o.length tk) tk))))=(bad||fQ o.length l.isNil (thBad l) tk):=by
     have:acc.isEmpty=false:=by cases acc<;>first | exact absurd rfl ς | rfl
     rw [this,he];rfl
    rw [<-this];exact n1
  refine⟨ξ,ptr nn,λw' x'=>by rw [x'.cell (show b3< _ by omega)];exact c3,nn,0,rfl,x,λw' x'=>by rw [x'.cell (show nn< _ by omega)];exact hx,λb16 γ η V=>?_,λb18 γ θ V=>?_⟩
  ·have κ:Ex w6 γ:=V▸Ex.trans ξ (Ex.alloc _ _);refine⟨κ,λb18 J θ W=>?_⟩;have δ:Ex γ J:=W▸Ex.alloc _ _;have s17:γ.heap.size=w11.heap.size+1:=by rw [V,size_alloc]
   have s19:J.heap.size=γ.heap.size+1:=by rw [W,size_alloc]
   have c16:J.cell? ⟨b16,0,none⟩=some (.string ⟨#[]⟩):=by rw [δ.cell (show b16< _ by omega),V,η];exact aa rfl
   have f16:J.frozen? ⟨b16,0,none⟩=false:=by rw [Lr δ (show b16< _ by omega),V,η];exact aG _ _ _ _
   have c18:J.cell? ⟨b18,0,none⟩=some (.int .u32 0):=by rw [W,θ];exact aa rfl
   have f18:J.frozen? ⟨b18,0,none⟩=false:=by rw [W,θ];exact aG _ _ _ _
   refine⟨Ex.trans κ δ,⟨⟨_,c16⟩,f16⟩,λZ H=>?_⟩;have υ:Ex w6 Z:=H▸Ex.own (Ex.trans κ δ) (by omega) _;have s21:Z.heap.size=J.heap.size:=by rw [H,KM]
   have d16:Z.cell? ⟨b16,0,none⟩=some (.string (ab [])):=by rw [H];exact Kj _ _ _ c16
   have d18:Z.cell? ⟨b18,0,none⟩=some (.int .u32 0):=by rw [H,J7 _ _ _ _ (λe=>by injection e with e1 e2;omega)];exact c18
   refine⟨υ,⟨⟨_,d18⟩,by rw [H,Kt];exact f18⟩,λG I=>?_⟩;have ε:Ex w6 G:=I▸Ex.own υ (by omega) _;have s23:G.heap.size=Z.heap.size:=by rw [I,KM]
   refine rest b16 b18 G ε ?_ ?_ ?_ (by omega) (by omega) (by omega) (by omega) (by omega)
   ·rw [I,J7 _ _ _ _ (λe=>by injection e with e1 e2;omega)];exact d16
   ·rw [I];exact Kj _ _ _ d18
   ·rw [I,Kt,H,Kt];exact f16
  ·have κ:Ex w6 γ:=V▸Ex.trans ξ (Ex.alloc _ _);refine⟨κ,λb16 J η W=>?_⟩;have δ:Ex γ J:=W▸Ex.alloc _ _;have s17:γ.heap.size=w11.heap.size+1:=by rw [V,size_alloc]
   have s19:J.heap.size=γ.heap.size+1:=by rw [W,size_alloc]
   have c18:J.cell? ⟨b18,0,none⟩=some (.int .u32 0):=by rw [δ.cell (show b18< _ by omega),V,θ];exact aa rfl
   have f18:J.frozen? ⟨b18,0,none⟩=false:=by rw [Lr δ (show b18< _ by omega),V,θ];exact aG _ _ _ _
   have c16:J.cell? ⟨b16,0,none⟩=some (.string ⟨#[]⟩):=by rw [W,η];exact aa rfl
   have f16:J.frozen? ⟨b16,0,none⟩=false:=by rw [W,η];exact aG _ _ _ _
   refine⟨Ex.trans κ δ,⟨⟨_,c16⟩,f16⟩,λZ H=>?_⟩;have υ:Ex w6 Z:=H▸Ex.own (Ex.trans κ δ) (by omega) _;have s21:Z.heap.size=J.heap.size:=by rw [H,KM]
   have d16:Z.cell? ⟨b16,0,none⟩=some (.string (ab [])):=by rw [H];exact Kj _ _ _ c16
   have d18:Z.cell? ⟨b18,0,none⟩=some (.int .u32 0):=by rw [H,J7 _ _ _ _ (λe=>by injection e with e1 e2;omega)];exact c18
   refine⟨υ,⟨⟨_,d18⟩,by rw [H,Kt];exact f18⟩,λG I=>?_⟩;have ε:Ex w6 G:=I▸Ex.own υ (by omega) _;have s23:G.heap.size=Z.heap.size:=by rw [I,KM]
   refine rest b16 b18 G ε ?_ ?_ ?_ (by omega) (by omega) (by omega) (by omega) (by omega)
   ·rw [I,J7 _ _ _ _ (λe=>by injection e with e1 e2;omega)];exact d16
   ·rw [I];exact Kj _ _ _ d18
   ·rw [I,Kt,H,Kt];exact f16
theorem G6:∀n,Gu n
 | 0=>by
  intro z G;rcases G with⟨k,a,b,o,q,rfl,I⟩ | ⟨J,rfl,H⟩<;>simp [Lv.sz]at z
 | n+1=>BS (vy (G6 n))
theorem IG (n:Nat):Hi n:=vy (G6 n)
end Go.Proofs.YtdecokaadekjnaaGreat
namespace Go.Proofs.YtdecokaadekjnaaGreat
namespace Lv
def PNf:Lv->Prop
 | nil=>True
 | thr _ _ _ _ _ n=>n.PNf
 | sum z n=>z.PNf/\n.PNf
 | part o q n=>((∀x∈o,q.has x=true)/\q≠nil/\∀z,q=sum z nil->o≠[])/\n.PNf
theorem rM:∀{l m:Lv},(l.app m).PNf↔l.PNf/\m.PNf
 | nil,m=>by simp [app,PNf]
 | thr k a b o r n,m=>by simp only [app,PNf,rM (l:=n)]
 | sum z n,m=>by simp only [app,PNf,rM (l:=n),Mo]
 | part o q n,m=>by simp only [app,PNf,rM (l:=n),Mo]
def u0:Lv->Prop
 | nil=>True
 | thr _ _ _ _ _ n=>n.u0
 | sum z n=>(z.PNf/\z.u0)/\n.u0
 | part _ q n=>q.u0/\n.u0
theorem mg:∀{l m:Lv},(l.app m).u0↔l.u0/\m.u0
 | nil,m=>by simp [app,u0]
 | thr k a b o r n,m=>by simp only [app,u0,mg (l:=n)]
 | sum z n,m=>by simp only [app,u0,mg (l:=n),Mo]
 | part o q n,m=>by simp only [app,u0,mg (l:=n),Mo]
theorem Fg {z:Lv}{n:List Nat×Lv}(h:z.PNf/\z.u0)(G:n.2.u0):(spl z n).2.u0:=by
 unfold spl;split
 ·exact G
 ·exact mg.2 ⟨h.2.1,G⟩
 ·exact⟨h,G⟩
theorem Hw {o:List Nat}{q n:Lv}(H:∀x∈o,q.has x=true)(h:q.u0)(z:n.PNf/\n.u0):(prt o q n).PNf/\(prt o q n).u0:=by
 unfold prt;split
 ·exact z
 ·rename_i I;split
  ·exact⟨rM.2 ⟨h.1.1,z.1⟩,mg.2 ⟨h.1.2,z.2⟩⟩
  ·rename_i G;exact⟨⟨⟨H,by simp,λ _ _ e=>G (by rw [e];rfl)⟩,z.1⟩,h,z.2⟩
 ·rename_i J G h2;exact⟨⟨⟨H,G,λI e=>(h2 I e).elim⟩,z.1⟩,h,z.2⟩
theorem nT:∀(l:Lv),(l.sh true=true->(tid l).2.u0)/\(l.sh false=true->(tid l).2.PNf/\(tid l).2.u0)
 | nil=>⟨λ _=>trivial,λ _=>⟨trivial,trivial⟩⟩
 | thr k a b o r n=>by
  refine⟨λh=>?_,λh=>by simp [sh]at h⟩;simp only [sh,J3]at h;have z:=(nT r).1 h.1;have h2:=(nT n).1 h.2;have h4:(kept o (tid r)).2=(tid r).2:=rfl;simp only [tid];split
  ·exact mg.2 ⟨z,h2⟩
  ·split
   ·exact h2
   ·exact h2
 | sum G n=>by
  refine⟨λh=>?_,λh=>by simp [sh]at h⟩;simp only [sh,J3]at h;simp only [tid];exact Fg ((nT G).2 h.1) ((nT n).1 h.2)
 | part o q n=>by
  refine⟨λh=>by simp [sh]at h,λh=>?_⟩;simp only [sh,J3]at h;simp only [tid];exact Hw (tb o (tid q)) ((nT q).1 h.1) ((nT n).2 h.2)
theorem F8 {Z:Lv}(h:Z.PNf)(G:Z.sh false=true):prt (kept [] (spl Z ([],nil))).1 (kept [] (spl Z ([],nil))).2 nil=Z:=by
 unfold spl;split
 ·rfl
 ·rename_i o q;have e:(kept [] (o++(([],nil):List Nat×Lv).1,q.app (([],nil):List Nat×Lv).2))=(o,q):=by
   simp only [kept,KJ,a6,KZ]
   congr 1
   exact Ns.2 h.1.1
  rw [e];obtain⟨_,h2,z⟩:=h.1;show prt o q nil=_;unfold prt;split
  ·exact absurd rfl h2
  ·rw [Ko];intro e;exact z _ rfl (by simpa using e)
  ·rfl
 ·simp only [kept,KJ,List.filter_nil,prt,List.isEmpty_nil,LN,a6]
theorem FL {o:List Nat}{q:Lv}{Z:Lv}(h:Z≠nil)(n:List Nat×Lv):spl (part o q Z) n=(n.1,sum (part o q Z) n.2):=by
 cases Z with
 | nil=>exact absurd rfl h
 | _=>rfl
end Lv
open T in
theorem fP {u:U}(z:Uq u)(n:u.Nr)(G:u.th=true):Lv.tid (flat u).2=([],tl [u])/\(flat u).1=[]:=by
 cases u with
 | nil=>cases G
 | par p q=>cases G
 | res x p=>cases G
 | snd a b p=>exact⟨by simp only [flat,Lv.tid,tl];simp [td,Lv.tidy],rfl⟩
 | rcv a x p=>exact⟨by simp only [flat,Lv.tid,tl];simp [td,Lv.tidy],rfl⟩
 | tau p=>exact⟨by simp only [flat,Lv.tid,tl];simp [td,Lv.tidy],rfl⟩
 | mat a b p=>refine⟨?_,rfl⟩;rw [pd,Ko n.1.1,dH,n.1.2];rfl
 | rep p=>refine⟨?_,rfl⟩;rw [oH,dH,n.1];rfl
 | sum p q=>
  refine⟨?_,rfl⟩;rw [oI,(fX p z.ec).2.2,(fX q z.dL).2.2,<-tc];have H:=oV n.1.1 z.ec;have h2:=oV n.1.2.1 z.dL;simp only [tl];cases I:an p with
  | nil=>exact absurd I H
  | cons t l=>
   rw [K4,tp,Lv.FL];intro J;have :=z7 (l++an q);rw [J]at this;simp only [Lv.len,J']at this;exact h2 (KD (by omega))
open T in
theorem qB:∀{u:U},Uq u->u.Nr->Lv.tid (flat u).2=([],tl u.ths)/\(flat u).1=u.frL
 | .nil,_,_=>⟨rfl,rfl⟩
 | .res x p,z,n=>by
  obtain⟨G,h2⟩:=qB z.res n.2;exact⟨G,by simp only [flat,frL,h2]⟩
 | .par p q,z,n=>by
  obtain⟨G,h2⟩:=fP z.fT n.2.1 n.1.1;obtain⟨H,h4⟩:=qB z.fM n.2.2;have h5:q.frL=[]:=by
   rcases n.1.2 with h | h
   ·exact iN h
   ·cases q<;>first | rfl | (cases h;done)
  refine⟨?_,by simp only [flat,frL,h2,h4,h5,KJ]⟩;simp only [flat];rw [Lv.cQ _ _ (cu p),G,H];simp only [T.ths,KJ];rw [show p::q.ths=[p]++q.ths from rfl,gI]
 | .snd a b p,z,n=>fP z n rfl
 | .rcv a b p,z,n=>fP z n rfl
 | .tau p,z,n=>fP z n rfl
 | .sum p q,z,n=>fP z n rfl
 | .mat a b p,z,n=>fP z n rfl
 | .rep p,z,n=>fP z n rfl
open T in
theorem HP {u:U}(G:Uq u)(n:u.Nr):∀x∈u.frL,(td u).2.has x=true:=by
 induction u with
 | res y p H=>
  intro x z;rcases Ks.1 z with rfl | z
  ·exact(fS p x G.fZ).2 n.1
  ·exact H G.res n.2 x z
 | _=>intro x z;cases z
open T in
theorem js {u:U}(z:Uq u)(n:u.Nr):td u=(u.frL,tl u.ths):=by
 obtain⟨G,h2⟩:=qB z n;have H:=HP z n;have e:(td u).2=tl u.ths:=by rw [rb,G]
 rw [e]at H;show Lv.kept (flat u).1 (Lv.tid (flat u).2)=_;rw [G,h2];simp only [Lv.kept,KJ]
 congr 1
 exact Ns.2 H
theorem cS:∀u:U,(flat u).2.sh true=true
 | .nil=>rfl
 | .snd a b p=>by simp only [flat,Lv.sh,cS p,Lu]
 | .rcv a b p=>by simp only [flat,Lv.sh,cS p,Lu]
 | .tau p=>by simp only [flat,Lv.sh,cS p,Lu]
 | .mat a b p=>by simp only [flat,Lv.sh,cS p,Lu]
 | .rep p=>by simp only [flat,Lv.sh,cS p,Lu]
 | .res x p=>cS p
 | .par p q=>by simp only [flat];exact Lv.gM (cS p) (cS q)
 | .sum p q=>by simp only [flat,Lv.sh,cS p,cS q,Lu]
theorem Bh (u:U):(td u).2.sh true=true:=Lv.dJ _ _ (cS u)
theorem iF (f:Nat->Nat):∀(l:Lv) (b:Bool),(l.map f).sh b=l.sh b
 | .nil,_=>by simp [Lv.map,Lv.sh]
 | .thr k a b o r n,c=>by cases c<;>simp only [Lv.map,Lv.sh,iF f r,iF f n]
 | .sum z n,c=>by cases c<;>simp only [Lv.map,Lv.sh,iF f z,iF f n]
 | .part o q n,c=>by cases c<;>simp only [Lv.map,Lv.sh,iF f q,iF f n]
theorem oB (o:List Nat)(q n:Lv):(Lv.tid (.part o q n)).2=Lv.prt (Lv.kept o (Lv.tid q)).1 (Lv.kept o (Lv.tid q)).2 (Lv.tid n).2:=rfl
open T in
theorem gF (f:Nat->Nat):∀(n:Nat) {u:U},u.size<=n->Uq u->u.Nr->
  Lv.tid ((td u).2.map f)=Lv.tid ((flat u).2.map f)/\(u.dead=false->(Lv.tid ((tp u.mw).map f)).2=Lv.prt (Lv.kept ((flat u).1.map f) (Lv.tid ((flat u).2.map f))).1 (Lv.kept ((flat u).1.map f) (Lv.tid ((flat u).2.map f))).2 .nil)
 | 0,u,h,_,_=>by cases u<;>simp [T.size]at h
 | k+1,u,h,z,n=>by
  have W:∀p:U,p.size<=k->Uq p->p.Nr->Lv.kept ((td p).1.map f) (Lv.tid ((td p).2.map f))=Lv.kept ((flat p).1.map f) (Lv.tid ((flat p).2.map f)):=λp H z n=>by
   rw [(gF f k H z n).1,js z n,(qB z n).2]
  have key:∀(J:K) (a b:Nat) (p:U),p.size<=k->Uq p->p.Nr->Lv.tid ((Lv.thr J a b (td p).1 (td p).2 .nil).map f)=Lv.tid ((Lv.thr J a b (flat p).1 (flat p).2 .nil).map f):=λJ a b p H z n=>by
   simp only [Lv.map,Lv.tid,W p H z n]
  have one:Lv.tid ((td u).2.map f)=Lv.tid ((flat u).2.map f)->u.isS=false->(Lv.tid ((tp u.mw).map f)).2=Lv.prt (Lv.kept ((flat u).1.map f) (Lv.tid ((flat u).2.map f))).1 (Lv.kept ((flat u).1.map f) (Lv.tid ((flat u).2.map f))).2 .nil:=λe V=>by
   rw [gz V,tp];simp only [Lv.map,tp];rw [oB,e,js z n,(qB z n).2];rfl
  have G:u.th=true->(td u).2=tl [u]:=λht=>by rw [rb,(fP z n ht).1]
  cases u with
  | nil=>exact⟨rfl,λh=>by cases h⟩
  | snd a b p=>
   have e:Lv.tid ((td (.snd a b p)).2.map f)=Lv.tid ((flat (.snd a b p)).2.map f):=by rw [G rfl];exact key .s a b p (by simp only [T.size]at h;omega) z.snd n
   exact⟨e,λ _=>one e rfl⟩
  | rcv a b p=>
   have e:Lv.tid ((td (.rcv a b p)).2.map f)=Lv.tid ((flat (.rcv a b p)).2.map f):=by rw [G rfl];exact key .r a b p (by simp only [T.size]at h;omega) z.rcv n
   exact⟨e,λ _=>one e rfl⟩
  | tau p=>
   have e:Lv.tid ((td (.tau p)).2.map f)=Lv.tid ((flat (.tau p)).2.map f):=by rw [G rfl];exact key .t 0 0 p (by simp only [T.size]at h;omega) z.tau n
   exact⟨e,λ _=>one e rfl⟩
  | mat a b p=>
   have e:Lv.tid ((td (.mat a b p)).2.map f)=Lv.tid ((flat (.mat a b p)).2.map f):=by rw [G rfl];exact key .m a b p (by simp only [T.size]at h;omega) z.mat n.2
   exact⟨e,λ _=>one e rfl⟩
  | rep p=>
   have e:Lv.tid ((td (.rep p)).2.map f)=Lv.tid ((flat (.rep p)).2.map f):=by rw [G rfl];exact key .p 0 0 p (by simp only [T.size]at h;omega) z.rep n.2
   exact⟨e,λ _=>one e rfl⟩
  | res x p=>
   have e:Lv.tid ((td (.res x p)).2.map f)=Lv.tid ((flat (.res x p)).2.map f):=(gF f k (by simp only [T.size]at h;omega) z.res n.2).1;exact⟨e,λ _=>one e rfl⟩
  | par p q=>
   simp only [T.size]at h;have e:Lv.tid ((td (.par p q)).2.map f)=Lv.tid ((flat (.par p q)).2.map f):=by
    have h1:=(gF f k (by omega) z.fT n.2.1).1;have h2:=(gF f k (by omega) z.fM n.2.2).1;have e:(td (.par p q)).2=(td p).2.app (td q).2:=by simp only [rb,flat,Lv.cQ _ _ (cu p)]
    rw [e];simp only [flat,Lv.fq];rw [Lv.cQ _ _ (Lv.mj (by rw [iF];exact Bh p)),Lv.cQ _ _ (Lv.mj (by rw [iF];exact cS p)),h1,h2]
   exact⟨e,λ _=>one e rfl⟩
  | sum p q=>
   simp only [T.size]at h;have V:tl [T.sum p q]= .sum (tp (p::q.mw)) .nil:=by
    simp only [tl];rw [eo z.ec n.2.1 n.1.1,eo z.dL n.2.2 n.1.2.1,gz n.1.2.2];rfl
   have Z:(Lv.tid ((tp (p::q.mw)).map f)).2=(Lv.tid ((Lv.part (flat p).1 (flat p).2 (.part (flat q).1 (flat q).2 .nil)).map f)).2:=by
    rw [tp];simp only [Lv.map];rw [oB,oB,oB,W p (by omega) z.ec n.2.1,(gF f k (by omega) z.dL n.2.2).2 n.1.2.1];rfl
   have e:Lv.tid ((td (.sum p q)).2.map f)=Lv.tid ((flat (.sum p q)).2.map f):=by
    rw [G rfl,V];simp only [flat,Lv.map,Lv.tid];rw [Z];simp only [Lv.map];rfl
   refine⟨e,λ _=>?_⟩;have I:((Lv.part (flat p).1 (flat p).2 (.part (flat q).1 (flat q).2 .nil)).map f).sh false=true:=by rw [iF];simp only [Lv.sh,cS,Lu]
   show(Lv.tid ((tp (p::q.mw)).map f)).2=_;rw [Z];have H:=(Lv.nT ((Lv.part (flat p).1 (flat p).2 (.part (flat q).1 (flat q).2 .nil)).map f)).2 I;have :=Lv.F8 H.1 (Lv.dJ _ _ I);simp only [flat,Lv.map,L6,Lv.tid]at this|-;exact this.symm
structure Pc (x:List Nat×Lv)(t:U):Prop where
 own:x.1=(flat t).1
 sh:x.2.sh true=true
 tid:Lv.tid x.2=Lv.tid (flat t).2
def joinL:List (List Nat×Lv)->List Nat×Lv
 | []=>([],.nil)
 | x::l=>(x.1++(joinL l).1,x.2.app (joinL l).2)
theorem qz:∀l m:List (List Nat×Lv),joinL (l++m)=((joinL l).1++(joinL m).1,(joinL l).2.app (joinL m).2)
 | [],m=>rfl
 | x::l,m=>by simp only [K4,joinL,qz l m,KN,Lv.cD]
theorem pE (x:List Nat×Lv):joinL [x]=x:=by simp only [joinL,KJ,Lv.a6]
theorem mG:∀l:List U,flat (T.parL l)=joinL (l.map flat)
 | []=>rfl
 | [t]=>by simp only [T.parL,KE,L6,pE]
 | t::u::l=>by
  have :=mG (u::l);simp only [T.parL,flat,this,KE,joinL]
theorem p5 (p:U):∀o:List Nat,flat (T.resL o p)=(o++(flat p).1,(flat p).2)
 | []=>rfl
 | x::o=>by simp only [T.resL,flat,p5 p o,K4]
theorem Pc.join:∀{zs:List ((List Nat×Lv)×U)},(∀z∈zs,Pc z.1 z.2)->Pc (joinL (zs.map (·.1))) (T.parL (zs.map (·.2)))
 | [],_=>⟨rfl,rfl,rfl⟩
 | z::zs,h=>by
  have G:=h z (by simp);have h2:=Pc.join (zs:=zs) λy I=>h y (by simp [I])
  have e:flat (T.parL ((z::zs).map (·.2)))=joinL ((z::zs).map (λy=>flat y.2)):=by rw [mG,LM];rfl
  have H:flat (T.parL (zs.map (·.2)))=joinL (zs.map (λy=>flat y.2)):=by rw [mG,LM];rfl
  refine⟨?_,?_,?_⟩
  ·rw [e];simp only [KE,joinL];rw [G.own,h2.own,H]
  ·simp only [KE,joinL];exact Lv.gM G.sh h2.sh
  ·rw [e];simp only [KE,joinL];rw [Lv.cQ _ _ (Lv.mj G.sh),Lv.cQ _ _ (cu z.2),G.tid,h2.tid,H]
theorem yp {own:List Nat}{x:List Nat×Lv}{t:U}(h:Pc x t):Lv.tidy (own++x.1) x.2=td (T.resL own t):=by
 show _=Lv.tidy (flat (T.resL own t)).1 (flat (T.resL own t)).2;rw [p5];simp only [Lv.tidy,h.own,h.tid]
theorem Pc.map (f:Nat->Nat){q:U}(z:Uq q)(n:q.Nr):Pc (Lv.dZ f (td q)) (q.map f):=by
 have h:=(gF f _ (Kb _) z n).1;refine⟨?_,by rw [iF];exact Bh q,?_⟩
 ·rw [cF,js z n];show(T.frL q).map f=((flat q).1).map f;rw [(qB z n).2]
 ·rw [cF];exact h
theorem map_id:∀l:Lv,l.map id=l
 | .nil=>rfl
 | .thr k a b o r n=>by simp only [Lv.map,map_id r,map_id n,List.map_id,id,ite_self]
 | .sum z n=>by simp only [Lv.map,map_id z,map_id n]
 | .part o q n=>by simp only [Lv.map,map_id q,map_id n,List.map_id]
theorem ef:∀u:U,u.map id=u
 | .nil=>rfl
 | .snd a b p=>by simp only [T.map,ef p,id]
 | .rcv a b p=>by simp only [T.map,ef p,id]
 | .tau p=>by simp only [T.map,ef p]
 | .sum p q=>by simp only [T.map,ef p,ef q]
 | .par p q=>by simp only [T.map,ef p,ef q]
 | .res x p=>by simp only [T.map,ef p,id]
 | .mat a b p=>by simp only [T.map,ef p,id]
 | .rep p=>by simp only [T.map,ef p]
theorem Pc.nr {q:U}(z:Uq q)(n:q.Nr):Pc (td q) q:=by
 have h:=Pc.map id z n;rw [ef]at h;have e:Lv.dZ id (td q)=td q:=by simp only [Lv.dZ,map_id,List.map_id]
 rwa [e]at h
structure xk (l m:Lv):Prop where
 s:∀ρ tk,(thS l ρ tk).Perm (thS m ρ tk)
 bad:∀tk,thBad l tk=thBad m tk
 all:thAll l=thAll m
 most:aw l=aw m
 has:∀x,l.has x=m.has x
 nil:l.isNil=m.isNil
theorem xk.refl (l:Lv):xk l l:=⟨λ _ _=>K9 _,λ _=>rfl,rfl,rfl,λ _=>rfl,rfl⟩
theorem xk.trans {a b c:Lv}(h:xk a b)(k:xk b c):xk a c:=⟨λρ tk=>(h.s ρ tk).trans (k.s ρ tk),λtk=>(h.bad tk).trans (k.bad tk),h.all.trans k.all,h.most.trans k.most,λx=>(h.has x).trans (k.has x),h.nil.trans k.nil⟩
theorem mE (l m:Lv):(l.app m).isNil=(l.isNil&&m.isNil):=by cases l<;>simp [Lv.app,Lv.isNil]
theorem xk.app {a b c d:Lv}(h:xk a b)(k:xk c d):xk (a.app c) (b.app d):=
 ⟨λρ tk=>by rw [gk,gk];exact(h.s ρ tk).append (k.s ρ tk),λtk=>by rw [cY,cY,h.bad,k.bad],by rw [cy,cy,h.all,k.all],by rw [cC,cC,h.most,k.most],λx=>by rw [Lv.dg,Lv.dg,h.has,k.has],by rw [mE,mE,h.nil,k.nil]⟩
theorem xk.comm (a b:Lv):xk (a.app b) (b.app a):=
 ⟨λρ tk=>by rw [gk,gk];exact Me,λtk=>by rw [cY,cY,Bool.or_comm],by rw [cy,cy];omega,by rw [cC,cC];omega,λx=>by rw [Lv.dg,Lv.dg,Bool.or_comm],by rw [mE,mE,Bool.and_comm]⟩
theorem Eu {r r':List Nat×Lv}(h:r.1.Perm r'.1)(k:xk r.2 r'.2):zv r=zv r':=by
 have z:lf r.2=lf r'.2:=by funext c;unfold lf;rw [k.has]
 have G:aR r.1 (thS r.2) ρ0 (lf r.2)=aR r'.1 (thS r'.2) ρ0 (lf r'.2):=by rw [z];exact lI h k.s _ _
 have H:fQ r.1.length r.2.isNil (thBad r.2) (lf r.2)=fQ r'.1.length r'.2.isNil (thBad r'.2) (lf r'.2):=by
  rw [z,h.length_eq,k.nil,show thBad r.2=thBad r'.2 from funext k.bad]
 unfold zv;rw [G,H,h.length_eq,k.most,k.all]
theorem xr:∀ts:List U,Lv.tid (joinL (ts.map flat)).2=joinL (ts.map λt=>Lv.tid (flat t).2)
 | []=>rfl
 | t::ts=>by simp only [KE,joinL,Lv.cQ _ _ (cu t),xr ts]
theorem uJ {l m:List (List Nat×Lv)}(h:l.Perm m):(joinL l).1.Perm (joinL m).1/\xk (joinL l).2 (joinL m).2:=by
 induction h with
 | nil=>exact⟨K9 _,xk.refl _⟩
 | cons x _ H=>exact⟨(K9 _).append H.1,(xk.refl _).app H.2⟩
 | swap x y l=>
  simp only [joinL];refine⟨?_,?_⟩
  ·rw [<-KN,<-KN];exact Me.append (K9 _)
  ·rw [<-Lv.cD,<-Lv.cD];exact(xk.comm _ _).app (xk.refl _)
 | trans _ _ z G=>exact⟨z.1.trans G.1,z.2.trans G.2⟩
theorem Du {own:List Nat}{ts z:List U}(h:ts.Perm z):kC (T.resL own (T.parL ts))=kC (T.resL own (T.parL z)):=by
 unfold kC;have e:∀ts:List U,td (T.resL own (T.parL ts))=Lv.kept (own++(joinL (ts.map flat)).1) (joinL (ts.map λt=>Lv.tid (flat t).2)):=λts=>by
  show Lv.tidy (flat _).1 (flat _).2=_;rw [p5,mG];simp only [Lv.tidy,xr]
 rw [e,e];have G:=uJ (h.map flat);have h2:=uJ (h.map λt=>Lv.tid (flat t).2);refine Eu ?_ h2.2;simp only [Lv.kept];rw [show(λx=>(joinL (ts.map λt=>Lv.tid (flat t).2)).2.has x)=λx=>(joinL (z.map λt=>Lv.tid (flat t).2)).2.has x from funext h2.2.has];exact(((K9 _).append G.1).append h2.1).filter _
end Go.Proofs.YtdecokaadekjnaaGreat
namespace Go.Proofs.YtdecokaadekjnaaGreat
open Go Go.RowKit
def ρN:Rh:=λx=>if x< 26 then UInt8.ofNat (97+x)else 0
theorem Jn:JB (cH []) ρN:=λx=>by
 unfold ρN;refine⟨?_,λh=>KG h,λh=> .inr ⟨rfl,Ko (by omega)⟩⟩;split
 ·rename_i h;revert h;revert x;decide+kernel
 ·decide
theorem FC {x:Nat}(h:x< 26):nE 1 x=jc (UInt8.ofNat (97+x))/\lt (UInt8.ofNat (97+x))=true/\e0 (UInt8.ofNat (97+x))=x:=by
 have z:lt (UInt8.ofNat (97+x))=true:=by revert x;decide+kernel
 have G:(UInt8.ofNat (97+x)).toNat=97+x:=by rw [K2];omega
 refine⟨?_,z,by unfold e0;rw [G];omega⟩;unfold jc;rw [gH z,G,show 97+x - 97=x by omega]
def Cv (l:Lv)(i:Nat):Tk:=λc=>lt c&&(decide (c.toNat - 97< i)&&l.has (e0 c))
theorem CY (l:Lv)(c:UInt8):Cv l 0 c=false:=by simp [Cv]
theorem Fz (l:Lv):Cv l 26=lf l:=by
 funext c
 unfold Cv lf;cases h:lt c
 ·rfl
 ·have :=aW h;simp [show c.toNat - 97< 26 by omega]
theorem iX.congr {x:UInt32}{tk tk':Tk}(h:iX x tk)(e:∀c,lt c=true->tk c=tk' c):iX x tk':=λc hc=>by rw [h c hc,e c hc]
theorem IP {w:World}{n r:Nat}{ρ:Rh}{tk tk':Tk}{bad:Bool}(h:Nm w n r ρ tk bad)(e:∀c,lt c=true->tk c=tk' c):Nm w n r ρ tk' bad:=by
 obtain⟨x,z,h2⟩:=h.c1;exact⟨h.lt,h.lr,h.ne,h.c0,h.mp,⟨x,z,h2.congr e⟩,h.c2,h.f⟩
theorem yG {l:Lv}{i:Nat}(I:i< 26)(c:UInt8)(hc:lt c=true):(l.has i=true->cA (Cv l i) (UInt8.ofNat (97+i)) c=Cv l (i+1) c)/\(l.has i=false->Cv l i c=Cv l (i+1) c):=by
 have J:=aW hc;have H:(UInt8.ofNat (97+i)).toNat=97+i:=by rw [K2];omega
 have he:e0 c=c.toNat - 97:=rfl;unfold cA Cv;rw [hc,he];by_cases h:c.toNat - 97=i
 ·have e:c=UInt8.ofNat (97+i):=Ky.1 (by omega);rw [h];constructor
  ·intro z;have hb:(c==UInt8.ofNat (97+i))=true:=by rw [e];exact beq_self_eq_true _
   rw [hb,z];simp
  ·intro z;simp [z]
 ·have e:c≠UInt8.ofNat (97+i):=λe=>h (by rw [e,H];omega)
  have G:decide (c.toNat - 97< i)=decide (c.toNat - 97< i+1):=by
   rw [Mi];omega
  constructor
  ·intro _;rw [show(c==UInt8.ofNat (97+i))=false by simpa using e,G];simp
  ·intro _;rw [G]
theorem uO {D:Nat->Prop}{w:World}{v:Value}{o:List Nat}{l:Lv}(h:gd D w v o (af D w l))(ς:l.sh true=true)(htot:o.length+l.tot<=4294967295)(huq:ug (Lv.tidy o l).1 (Lv.tidy o l).2)(hfr:∀x,x∉(Lv.tidy o l).1->(Lv.tidy o l).2.fh x->x< 26){R:ay->Bool->World->Prop}
  (hR:∀w',Ex w w'->(∀s,zv (Lv.tidy o l)=some s->R s true w')/\(zv (Lv.tidy o l)=none->R [] false w')):Calls Tryz.prog 216 #[v] w (ax [.s,.b] R):=by
 refine kX v w R ?_;refine Da _ (Kb _) ς h (by omega) λv2 w3 x3 h2=>?_
 have htt:=oZ o l;have I:(Lv.tidy o l).2.sh true=true:=Lv.dJ _ _ ς;have υ:(Lv.tidy o l).2.sm=true:=Lv.oe _;generalize hr:Lv.tidy o l=r at*;obtain⟨G,l2⟩:=r;simp only at*;have hst:=Lv.jZ l2;have hN:∀b,zv (G,l2)=b->(b=none->∀w',Ex w w'->R [] false w'):=λb e1 e2 w' x=>(hR w' x).2 (e1.trans e2)
 refine DL _ (o:=G) (l:=l2) (Kb _) I h2 (by show G.length+l2.tot<=_;omega) λZ x6=>?_
 have θ:Ex w Z:=Ex.trans x3 x6;have J:¬(max G.length (aw l2)<=5/\G.length+thAll l2<=8)->zv (G,l2)=none:=λhc=>by unfold zv;rw [Ko (λh=>hc h.1)]
 by_cases h5:5< max G.length (aw l2)
 ·exact dN (by omega) ((hR Z θ).2 (J (by omega)))
 refine cE (by omega) ?_;by_cases h8:8< G.length+thAll l2
 ·exact dc (by omega) ((hR Z θ).2 (J (by omega)))
 refine aV (by omega) λb7 w8 hb7 ι=>⟨rfl,λb9 α β z=>?_⟩
 have x8:Ex Z w8:=ι▸Ex.alloc Z _;have φ:Ex w8 α:=z▸Ex.alloc w8 _;have s8:w8.heap.size=Z.heap.size+1:=by rw [ι,size_alloc]
 have s10:α.heap.size=w8.heap.size+1:=by rw [z,size_alloc]
 have s6:=x6.size;have s3:=x3.size;have e7:α.heap[b7]?=some (.map #[] 0):=by
  rw [φ.block b7 (by omega),ι,hb7];unfold World.alloc;simp
 have n10:Nm α b9 b7 ρN (Cv l2 0) false:=by
  refine⟨by omega,by omega,by omega,by rw [z,β];exact aa rfl,⟨cH [],⟨#[],0,e7,⟨by simp,by simp,by simp⟩,by simp,λq=>rfl⟩,Jn⟩,⟨0,by rw [z,β];exact aa rfl,λc _=>?_⟩,by rw [z,β];exact aa rfl,λj=>by rw [z,β];exact aG _ _ _ _⟩;rw [CY];simp
 have h3:gd (λg=>Be w g/\g< w3.heap.size) w3 v2 G (af (λg=>Be w g/\g< w3.heap.size) w3 l2):=aB.sub (L:=(G,l2)) h2 λg hg hd=>⟨hd,hg⟩
 have hD:∀g,(Be w g/\g< w3.heap.size)->¬(g=b9\/g=b7):=λg hg=>by omega
 have ε:∀{w1:World},Ex w3 w1->gd (λg=>Be w g/\g< w3.heap.size) w1 v2 G (af (λg=>Be w g/\g< w3.heap.size) w1 l2):=λk=>gd.ex h3 k
 refine⟨λx w'=>∃i:Nat,x=i/\i<=26/\Ex Z w'/\Nm w' b9 b7 ρN (Cv l2 i) false,λx _=>(26 - x).toNat,⟨0,rfl,by omega,Ex.trans x8 φ,n10⟩,λx w14 hI=>?_⟩;obtain⟨i,rfl,hi,V,κ⟩:=hI;refine⟨λhlt=>?_,λhge=>?_⟩
 ·have μ:i< 26:=by simp only [J4]at hlt;omega
  obtain⟨eb1,eb2,eb3⟩:=FC μ;refine Hn _ (Kb _) I (ε (Ex.trans x6 V)) (by omega) λγ χ=>?_
  have δ:=κ.ex χ;have ζ:Ex Z γ:=Ex.trans V χ;refine⟨λhh=>⟨λw'=>Ex γ w',λw18 ψ=>?_⟩,λhh=>⟨by unfold aj;omega,⟨i+1,by omega,by omega,ζ,IP δ λc hc=>(yG μ c hc).2 hh⟩,by show((26:Int) - ((i:Int)+1)).toNat< ((26:Int) - i).toNat;omega⟩⟩;have ν:Ex γ w18:=ψ▸Ex.drew γ;obtain⟨y,hy,hyt⟩:=δ.c1;have ξ:=δ.ex ν;obtain⟨y',hy',_⟩:=ξ.c1;refine⟨ν,y,λw' x'=>by rw [x'.cell (show b9< _ from δ.lt)];exact hy,by omega,⟨⟨_,hy'⟩,ξ.f 1⟩,λw21 η=>⟨by unfold aj;omega,⟨i+1,by omega,by omega,?_,?_⟩,by show((26:Int) - ((i:Int)+1)).toNat< ((26:Int) - i).toNat;omega⟩⟩
  ·exact η▸Ex.own (Ex.trans ζ ν) (by omega) _
  ·refine IP (ξ.set (tk':=cA (Cv l2 i) (UInt8.ofNat (97+i))) (bad':=false) η (.inl ⟨rfl,rfl,_,rfl,?_⟩)) λc hc=>(yG μ c hc).1 hh
   rw [J9,eb1];exact hyt.add eb2
 ·have:i=26:=by simp only [J6]at hge;omega
  subst this;rw [Fz]at κ;have hlS:aR G (thS l2) ρN (lf l2)=aR G (thS l2) ρ0 (lf l2):=dU (H:=λx=>l2.fh x) (λρ ρ' tk=>ir l2 ρ ρ' tk) (λρ ρ' tk h=>r9 l2 ρ ρ' tk h) λx hx hf=>by
   have :=hfr x hx hf;unfold ρN ρ0;rw [KG this]
  refine IG _ (Kb _) I υ huq (ε (Ex.trans x6 V)) hD κ (by omega) λο ρ' k23 n23 _=>⟨_,n23.c2,?_⟩
  rw [hlS,MH];have x23:Ex Z ο:=Ex.below V (Kp.below k23 V.size λg hg e=>by omega);have W:Ex w ο:=Ex.trans θ x23;refine⟨λhb=>xU λq ω x26 hq=>⟨λh=>(hR ω (Ex.trans W x26)).2 ?_,λh=>(hR ω (Ex.trans W x26)).1 _ ?_⟩,λhb=>(hR ο W).2 ?_⟩
  ·unfold zv;have:¬dB (aR G (thS l2) ρ0 (lf l2)):=λhg=>by rw [hq.2 hg]at h;cases h
   rw [Ko (λh=>this h.2.2)]
  ·unfold zv;have:dB (aR G (thS l2) ρ0 (lf l2)):=hq.1 (by cases q<;>first | rfl | cases h);rw [KG ⟨⟨by show max G.length (aw l2)<=5;omega,by show G.length+thAll l2<=8;omega⟩,hb,this⟩]
  ·unfold zv;rw [Ko (λh=>by have :=h.2.1;rw [hb]at this;cases this)]
end Go.Proofs.YtdecokaadekjnaaGreat
namespace Go.Proofs.YtdecokaadekjnaaGreat
open Go
set_option maxRecDepth 100000
theorem wC (n1:ay)(w:World)(R:Value->World->Prop)(h:oA 123 #[(.string (ab n1))] w λv2 Z V=>aN V (.cells #[(.int .i64 0),(.string (ab n1)),(.pointer none)] 148) λb5 W=>bO W λS7 w8=>cB 138 #[] w8 λv9 G=>cB 137 #[(.pointer (some ⟨b5,0,none⟩)),v2,v9] G λv11 H=>cB 139 #[v11] H λz I=>oneV z=true/\bg I b5 2 z λJ=>R ((.pointer (some ⟨b5,0,none⟩))) J):
  Calls Tryz.prog 92 #[(.string (ab n1))] w (ax [.v] R):=
 bs (bn [] [] [3]) [.tmp 2 .v] [.s n1] Tryz.func92 (by kernel_rfl) h
theorem qT (z:ay)(w:World)(R:Value->Bool->World->Prop)(h:oA 79 #[(.string (ab z))] w λv2 V H=>iz (!V) (ck 80 #[v2] H λW I=>ai (!W) (R (.pointer none) false I) (hZ 175 #[v2] I λZ q8 J=>ai (!q8) (R (.pointer none) false J) (cB 92 #[(.string (ab Z))] J λv10 G=>R v10 true G))) (R (.pointer none) false H)):
  Calls Tryz.prog 135 #[(.string (ab z))] w (ax [.v,.b] R):=
 bs (bn [] [] []) [.tmp 2 .v,.tmp 3 .b] [.s z] Tryz.func135 (by kernel_rfl) h
theorem eJ (t1:Value)(w:World)(R:Value->World->Prop)(h:az t1 λb2 o3=>gg w b2 (o3+0) λc4=>∃J5:Bool->World->Prop,(ai (decide (c4=126)) (J5 ((decide (c4=126))) w) (ai (decide (c4=33)) (J5 ((decide (c4=33))) w) (J5 ((decide (c4=63))) w)))/\∀(x6:Bool) (w7:World),J5 x6 w7->ai x6 (bO w7 λS8 w9=>az t1 λb10 ω=>Iu S8 b10 (ω+0) λc12=>az t1 λb13 o14=>kA S8 b13 (o14+1) λn15=>az t1 λb16 o17=>kA S8 b16 (o17+2) λn18=>az t1 λb19 o20=>ct S8 b19 (o20+3) λv21=>oneV v21=true/\aN w9 (.cells #[(.int .u8 c12.toNat),(.int .i64 n15),(.int .i64 n18),v21,(.bool false)] 160) λb22 θ=>S8 θ/\R ((.slice (some ⟨b22,0,none⟩) 1 1)) θ) (ai (decide (c4=42)) (aN w7 (.cells #[] 160) λb24 ε=>az t1 λb26 o27=>aS ε b26 (o27+3) λv28=>az v28 λb29 o30=>aS ε b29 (o30+1) λv31=>bM v31 λl33=>jX ((.slice (some ⟨b24,0,none⟩) 0 0)) 0 ε λι α J z G=>ai (decide (z< (l33:Int))) (aJ v31 z λb40 o41=>aS G b40 (o41+z.toNat* 1) λβ=>az β λb45 o46=>gg G b45 (o46+0) λc47=>ai (decide (c47=63)) (bO G λV w49=>az β λb50 o51=>kA V b50 (o51+1) λn52=>az β λb53 o54=>kA V b53 (o54+2) λn55=>az β λb56 o57=>ct V b56 (o57+3) λκ=>oneV κ=true/\aN w49 (.cells #[(.int .u8 (UInt8.toNat 63)),(.int .i64 n52),(.int .i64 n55),κ,(.bool true)] 160) λb59 μ=>V μ/\eu 160 5 40 μ J (.slice (some ⟨b59,0,none⟩) 1 1) λν ζ=>V ζ/\aj (z+1)/\ι ν (z+1) ζ/\α ν (z+1) ζ< α J z G) (aj (z+1)/\ι J (z+1) G/\α J (z+1) G< α J z G)) (R J G)) (ai (decide (c4=43)) (aN w7 (.cells #[] 160) λb68 ξ=>az t1 λb70 o71=>aS ξ b70 (o71+4) λv72=>bM v72 λl74=>jX ((.slice (some ⟨b68,0,none⟩) 0 0)) 0 ξ λI76 ο η H W=>ai (decide (H< (l74:Int))) (aJ v72 H λb81 o82=>aS W b81 (o82+H.toNat* 1) λv85=>az v85 λb86 o87=>aS W b86 (o87+1) λς=>bM ς λl90=>jX η 0 W λI92 υ γ I Z=>ai (decide (I< (l90:Int))) (aJ ς I λb97 o98=>aS Z b97 (o98+I.toNat* 1) λφ=>cB 140 #[φ] Z λχ ψ=>eu 160 5 40 ψ γ χ λv109 δ=>aj (I+1)/\I92 v109 (I+1) δ/\υ v109 (I+1) δ< υ γ I Z) (aj (H+1)/\I76 γ (H+1) Z/\ο γ (H+1) Z< ο η H W)) (R η W)) (R (.slice none 0 0) w7)))):
  Calls Tryz.prog 140 #[t1] w (ax [.v] R):=
 bs (bn [(9,[(3,.v),(48,.i)]),(18,[(6,.v),(83,.i)]),(21,[(6,.v),(92,.i)])] [(5,[(15,.b)])] [5,12]) [.tmp 2 .v] [.v t1] Tryz.func140 (by kernel_rfl) h
theorem mR (s1:Value)(v2:Int)(w:World)(R:Int->World->Prop)(h:bM s1 λl4=>eM 0 w λV J z G=>ai (decide (z< (l4:Int))) (aJ s1 z λb10 H=>pB G b10 (H+z.toNat* 1) λI=>ai (decide (v2=I)) (R z G) (aj (z+1)/\V (z+1) G/\J (z+1) G< J z G)) (R (-1) G)):
  Calls Tryz.prog 223 #[s1,(.int .i64 v2)] w (ax [.i] R):=
 bs (bn [(2,[(8,.i)])] [] []) [.tmp 4 .i] [.v s1,.i v2] Tryz.func223 (by kernel_rfl) h
theorem j9 (s1:Value)(v2:Int)(w:World)(R:Bool->World->Prop)(h:iU 223 #[s1,(.int .i64 v2)] w λz G=>R ((decide (0<=z))) G):
  Calls Tryz.prog 188 #[s1,(.int .i64 v2)] w (ax [.b] R):=
 bs (bn [] [] []) [.tmp 4 .b] [.v s1,.i v2] Tryz.func188 (by kernel_rfl) h
theorem mS (s1:Value)(g2:Value)(o3:Value)(m4:Value)(w:World)(R:ay->Bool->World->Prop)(h:cB 180 #[o3] w λv5 w6=>oneV v5=true/\aN w6 (.cells #[v5,(.slice none 0 0)] 155) λb7 w8=>az s1 λb9 ε=>aS w8 b9 (ε+2) λv11=>az v11 λζ η=>aS w8 ζ (η+1) λW=>bM W λθ=>eM 0 w8 λZ I z H=>ai (decide (z< (θ:Int))) (aJ W z λι κ=>aS H ι (κ+z.toNat* 1) λα=>ck 188 #[g2,(.int .i64 z)] H λμ J=>ai (!μ) (aS J b7 1 λν=>oneV α=true/\aN J (.cells #[α] 156) λb30 ξ=>eu 156 1 8 ξ ν (.slice (some ⟨b30,0,none⟩) 1 1) λv37 ο=>oneV v37=true/\bg ο b7 1 v37 λβ=>aj (z+1)/\Z (z+1) β/\I (z+1) β< I z H) (aj (z+1)/\Z (z+1) J/\I (z+1) J< I z H)) (bM m4 λς=>eM 0 H λυ γ G V=>ai (decide (G< (ς:Int))) (aJ m4 G λφ χ=>aS V φ (χ+G.toNat* 1) λψ=>fC 179 #[(.pointer (some ⟨b7,0,none⟩)),ψ] V λδ=>aj (G+1)/\υ (G+1) δ/\γ (G+1) δ< γ G V) (hZ 216 #[(.pointer (some ⟨b7,0,none⟩))] V λω q55 w56=>R ω q55 w56))):
  Calls Tryz.prog 176 #[s1,g2,o3,m4] w (ax [.s,.b] R):=
 bs (bn [(3,[(27,.i)]),(9,[(49,.i)])] [] []) [.tmp 8 .s,.tmp 9 .b] [.v s1,.v g2,.v o3,.v m4] Tryz.func176 (by kernel_rfl) h
theorem mQ (r1:Value)(s2:ay)(H:Bool)(w:World)(R:World->Prop)(h:az r1 λb4 o5=>aS w b4 (o5+0) λv6=>aN w (.cells #[(.string (ab s2))] 9) λb7 w8=>eu 9 1 16 w8 v6 (.slice (some ⟨b7,0,none⟩) 1 1) λG I=>az r1 λb16 J=>oneV G=true/\bg I b16 (J+0) G λz=>az r1 λV W=>EW z V (W+1) λZ=>iz Z (az r1 λα β=>bg z α (β+1) (.bool (!H)) λγ=>R γ) (az r1 λδ ε=>bg z δ (ε+1) (.bool true) λζ=>R ζ)):
  Calls Tryz.prog 99 #[r1,(.string (ab s2)),(.bool H)] w (ax [] R):=
 bs (bn [] [] []) [] [.v r1,.s s2,.b H] Tryz.func99 (by kernel_rfl) h
theorem j5 (z:Int)(c2:Value)(w:World)(R:Int->World->Prop)(h:az c2 λb3 J=>aS w b3 J λv5=>∃(I:Nat) (G:Value->Option Value),v5= .map (some I)/\IsMap w I (.int .i64) G/\∃H:Int,∃g9:Bool,((g9=true/\G (.int .i64 z)=some (.int .i64 H))\/(g9=false/\G (.int .i64 z)=none/\(Value.int .i64 H)=(.int .i64 0)))/\ai g9 (R H w) (R z w)):
  Calls Tryz.prog 239 #[(.int .i64 z),c2] w (ax [.i] R):=
 bs (bn [] [] []) [.tmp 3 .i] [.i z,.v c2] Tryz.func239 (by kernel_rfl) h
theorem lz (m1:Value)(l2:Value)(t3:Value)(w:World)(R:Value->World->Prop)(h:oneV t3=true/\aN w (.cells #[t3] 226) λb4 w5=>aN w5 (.cells #[(.slice none 0 0),(.slice none 0 0)] 155) λb6 w7=>az l2 λb8 o9=>aS w7 b8 (o9+0) λv10=>bM v10 λl12=>eM 0 w7 λI14 m15 V ε=>ai (decide (V< (l12:Int))) (aJ v10 V λb18 o19=>pB ε b18 (o19+V.toNat* 1) λn22=>bO ε λS23 w24=>ct S23 b4 0 λv25=>iU 178 #[m1] w24 λn26 w27=>S23 w27/\∃(ν:Nat) (m29:Value->Option Value),v25= .map (some ν)/\IsMap w27 ν (.int .i64) m29/\∀w30:World,IsMap w30 ν (.int .i64) (bK m29 (.int .i64 n22) (.int .i64 n26))->bc w27 w30 ν->bO w30 λζ jm=>ct ζ b6 0 λv33=>ct ζ b4 0 λv34=>∃(r35:Nat) (m36:Value->Option Value),v34= .map (some r35)/\IsMap jm r35 (.int .i64) m36/\∃y37:Int,∃g38:Bool,((g38=true/\m36 (.int .i64 n22)=some (.int .i64 y37))\/(g38=false/\m36 (.int .i64 n22)=none/\(Value.int .i64 y37)=(.int .i64 0)))/\ζ jm/\aN jm (.cells #[(.int .i64 y37)] 3) λb39 w40=>ζ w40/\eu 3 1 8 w40 v33 (.slice (some ⟨b39,0,none⟩) 1 1) λv46 w47=>ζ w47/\oneV v46=true/\bg w47 b6 0 v46 λw49=>aj (V+1)/\I14 (V+1) w49/\m15 (V+1) w49< m15 V ε) (az l2 λb50 o51=>aS ε b50 (o51+1) λv52=>bM v52 λl54=>eM 0 ε λI56 m57 W η=>ai (decide (W< (l54:Int))) (aJ v52 W λb60 o61=>aS η b60 (o61+W.toNat* 1) λz=>az z λb65 o66=>gg η b65 (o66+0) λc67=>aN η (.cells #[(.int .u8 c67.toNat),(.int .i64 0),(.int .i64 0),(.pointer none),(.slice none 0 0)] 201) λH Z=>∃δ:World->Prop,(az z λb71 o72=>gg Z b71 (o72+0) λξ=>ai (decide (ξ=63)) (az z λb74 o75=>pB Z b74 (o75+1) λn76=>∃(f77:Nat) (c78:List Value),(Value.func (.func 239) #[] #[(.pointer (some ⟨b4,0,none⟩))])= .func (.func f77) #[] (List.toArray c78)/\List.contains dh f77=true/\iU f77 (List.toArray ([(.int .i64 n76)]++c78)) Z λn79 w80=>bg w80 H 1 (.int .i64 n79) λw82=>bO w82 λS83 w84=>ct S83 b4 0 λv85=>az z λb86 o87=>kA S83 b86 (o87+2) λn88=>iU 178 #[m1] w84 λn89 w90=>S83 w90/\∃(ο:Nat) (m92:Value->Option Value),v85= .map (some ο)/\IsMap w90 ο (.int .i64) m92/\∀w93:World,IsMap w93 ο (.int .i64) (bK m92 (.int .i64 n88) (.int .i64 n89))->bc w90 w93 ο->bO w93 λS94 w95=>ct S94 b4 0 λv96=>az z λb97 o98=>kA S94 b97 (o98+2) λn99=>∃(ς:Nat) (θ:Value->Option Value),v96= .map (some ς)/\IsMap w95 ς (.int .i64) θ/\∃ι:Int,∃υ:Bool,((υ=true/\θ (.int .i64 n99)=some (.int .i64 ι))\/(υ=false/\θ (.int .i64 n99)=none/\(Value.int .i64 ι)=(.int .i64 0)))/\bg w95 H 2 (.int .i64 ι) λw105=>δ w105) (ai (decide (ξ=33)) (ai (decide (ξ=33)) (bO Z λα w107=>az z λb108 o109=>kA α b108 (o109+1) λn110=>az z λb111 o112=>kA α b111 (o112+2) λn113=>∃(f114:Nat) (φ:List Value),(Value.func (.func 239) #[] #[(.pointer (some ⟨b4,0,none⟩))])= .func (.func f114) #[] (List.toArray φ)/\List.contains dh f114=true/\iU f114 (List.toArray ([(.int .i64 n110)]++φ)) w107 λn116 χ=>α χ/\∃(f118:Nat) (ψ:List Value),(Value.func (.func 239) #[] #[(.pointer (some ⟨b4,0,none⟩))])= .func (.func f118) #[] (List.toArray ψ)/\List.contains dh f118=true/\iU f118 (List.toArray ([(.int .i64 n113)]++ψ)) χ λn120 ω=>α ω/\bg ω H 1 (.int .i64 n116) λw123=>bg w123 H 2 (.int .i64 n120) λw125=>δ w125) (δ Z)) (ai (decide (ξ=61)) (bO Z λβ w127=>az z λb128 o129=>kA β b128 (o129+1) λn130=>az z λb131 o132=>kA β b131 (o132+2) λn133=>∃(f134:Nat) (c135:List Value),(Value.func (.func 239) #[] #[(.pointer (some ⟨b4,0,none⟩))])= .func (.func f134) #[] (List.toArray c135)/\List.contains dh f134=true/\iU f134 (List.toArray ([(.int .i64 n130)]++c135)) w127 λn136 w137=>β w137/\∃(f138:Nat) (c139:List Value),(Value.func (.func 239) #[] #[(.pointer (some ⟨b4,0,none⟩))])= .func (.func f138) #[] (List.toArray c139)/\List.contains dh f138=true/\iU f138 (List.toArray ([(.int .i64 n133)]++c139)) w137 λn140 w141=>β w141/\bg w141 H 1 (.int .i64 n136) λw143=>bg w143 H 2 (.int .i64 n140) λw145=>δ w145) (δ Z))))/\∀(γ:World),δ γ->∃κ:World->Prop,(az z λb148 o149=>aS γ b148 (o149+3) λv150=>∃q151:Option Addr,v150= .pointer q151/\ai (!Option.isNone q151) (bO γ λS152 w153=>az z λb154 o155=>ct S152 b154 (o155+3) λv156=>ct S152 b4 0 λv157=>cB 217 #[m1,v156,v157] w153 λv158 w159=>oneV v158=true/\bg w159 H 3 v158 λw161=>κ w161) (κ γ))/\∀(μ:World),κ μ->az z λb163 o164=>aS μ b163 (o164+4) λv165=>bM v165 λl167=>eM 0 μ λI169 m170 G I=>ai (decide (G< (l167:Int))) (aJ v165 G λb173 o174=>aS I b173 (o174+G.toNat* 1) λv177=>bO I λJ w179=>ct J H 4 λv180=>ct J b4 0 λv181=>cB 217 #[m1,v177,v181] w179 λv182 w183=>J w183/\oneV v182=true/\aN w183 (.cells #[v182] 146) λb184 w185=>J w185/\eu 146 1 8 w185 v180 (.slice (some ⟨b184,0,none⟩) 1 1) λv191 w192=>J w192/\oneV v191=true/\bg w192 H 4 v191 λw194=>aj (G+1)/\I169 (G+1) w194/\m170 (G+1) w194< m170 G I) (aS I b6 1 λv195=>aN I (.cells #[(.pointer (some ⟨H,0,none⟩))] 156) λb196 w197=>eu 156 1 8 w197 v195 (.slice (some ⟨b196,0,none⟩) 1 1) λv203 w204=>oneV v203=true/\bg w204 b6 1 v203 λw206=>aj (W+1)/\I56 (W+1) w206/\m57 (W+1) w206< m57 W η)) (R ((.pointer (some ⟨b6,0,none⟩))) η))):
  Calls Tryz.prog 217 #[m1,l2,t3] w (ax [.v] R):=
 bs (bn [(3,[(23,.i)]),(10,[(50,.i)]),(24,[(132,.i)])] [(21,[]),(23,[])] [5,6,16,17,20,22,26]) [.tmp 6 .v] [.v m1,.v l2,.v t3] Tryz.func217 (by kernel_rfl) h
theorem jG (s1:Value)(Z:Value)(n3:Int)(w:World)(R:Value->World->Prop)(h:∃c4:List Value,Z= .agg (List.toArray c4)/\aN w (.cells (List.toArray c4) 160) λb5 w6=>bO w6 λI w8=>az s1 λb9 α=>ct I b5 3 λv11=>kA I b5 2 λβ=>aN w8 (Obj.map #[] 0) λJ H=>I H/\∃(z:Nat) (V:Value->Option Value),(Value.map (some J))= .map (some z)/\IsMap H z (.int .i64) V/\∀G:World,IsMap G z (.int .i64) (bK V (.int .i64 β) (.int .i64 n3))->bc H G z->I G/\cB 217 #[(.pointer (some ⟨b9,(α+0),none⟩)),v11,(.map (some J))] G λγ W=>I W/\R γ W):
  Calls Tryz.prog 177 #[s1,Z,(.int .i64 n3)] w (ax [.v] R):=
 bs (bn [] [] [1]) [.tmp 6 .v] [.v s1,.v Z,.i n3] Tryz.func177 (by kernel_rfl) h
theorem iH (s1:Value)(w:World)(R:Value->World->Prop)(h:bM s1 λl3=>ai (decide ((l3:Int)< 2)) (R s1 w) (eM 1 w λI5 m6 H w8=>bM s1 λφ=>ai (decide (H< (φ:Int))) (bO w8 λμ θ=>aJ s1 H λχ ψ=>iq μ χ (ψ+H.toNat* 1) λω=>aj (H - 1)/\aJ s1 (H - 1) λb19 o20=>iq μ b19 (o20+Int.toNat (H - 1)* 1) λs23=>ai (decide (ω=s23)) (∃(a24:Option Addr) (J I:Nat),s1= .slice a24 J I/\0<=(H:Int)/\(H:Int)<=(J:Int)/\(J:Int)<=(I:Int)/\CQ H 1 θ λν W z G V=>bM (.slice (if I=H.toNat then a24 else Option.map (·.add (H.toNat* 1)) a24) (Int.toNat (J:Int) - H.toNat) (I - H.toNat)) λl33=>ai (decide (G< (l33:Int))) (bO V λξ Z=>aJ (.slice (if I=H.toNat then a24 else Option.map (·.add (H.toNat* 1)) a24) (Int.toNat (J:Int) - H.toNat) (I - H.toNat)) G λb37 o38=>iq ξ b37 (o38+G.toNat* 1) λs41=>aj (G - 1)/\aJ (.slice (if I=H.toNat then a24 else Option.map (·.add (H.toNat* 1)) a24) (Int.toNat (J:Int) - H.toNat) (I - H.toNat)) (G - 1) λb42 o43=>iq ξ b42 (o43+Int.toNat (G - 1)* 1) λs46=>ai (!decide (s41=s46)) (aJ (.slice (if I=H.toNat then a24 else Option.map (·.add (H.toNat* 1)) a24) (Int.toNat (J:Int) - H.toNat) (I - H.toNat)) G λb47 o48=>bZ Z b47 (o48+G.toNat* 1) λs51=>aJ s1 z λb52 o53=>bg Z b52 (o53+z.toNat* 1) (.string (ab s51)) λο=>aj (z+1)/\aj (G+1)/\ν (z+1) (G+1) ο/\W (z+1) (G+1) ο< W z G V) (aj (G+1)/\ν z (G+1) Z/\W z (G+1) Z< W z G V)) (∃(ι:Option Addr) (α β:Nat),s1= .slice ι α β/\0<=(z:Int)/\(z:Int)<=(α:Int)/\(α:Int)<=(β:Int)/\∃(ς:Option Addr) (γ c63:Nat),(Value.slice (if β=z.toNat then ι else Option.map (·.add (z.toNat* 1)) ι) (Int.toNat (α:Int) - z.toNat) (β - z.toNat))= .slice ς γ c63/\((γ=0/\∃(κ:Option Addr) (l68 δ:Nat),s1= .slice κ l68 δ/\0<=(0:Int)/\(0:Int)<=z/\z<=(δ:Int)/\R ((.slice (if δ=Int.toNat 0 then κ else Option.map (·.add (Int.toNat 0* 1)) κ) (z.toNat - Int.toNat 0) (δ - Int.toNat 0))) V)\/∃(ε ζ:Nat),ς=some ⟨ε,ζ,none⟩/\(∀j,j< γ->(∃u,World.cell? V ⟨ε,ζ+j,none⟩=some u)/\World.frozen? V ⟨ε,ζ+j,none⟩=false)/\∀υ:World,υ=World.setCells V ε ζ (List.replicate γ (.string ⟨#[]⟩))->∃(a70:Option Addr) (l71 η:Nat),s1= .slice a70 l71 η/\0<=(0:Int)/\(0:Int)<=z/\z<=(η:Int)/\R ((.slice (if η=Int.toNat 0 then a70 else Option.map (·.add (Int.toNat 0* 1)) a70) (z.toNat - Int.toNat 0) (η - Int.toNat 0))) υ))) (aj (H+1)/\I5 (H+1) θ/\m6 (H+1) θ< m6 H w8)) (R s1 w8))):
  Calls Tryz.prog 149 #[s1] w (ax [.v] R):=
 bs (bn [(4,[(3,.i)]),(9,[(3,.i),(5,.i)])] [] [6,11]) [.tmp 2 .v] [.v s1] Tryz.func149 (by kernel_rfl) h
theorem ly (r1:Value)(w:World)(R:Value->Bool->World->Prop)(h:az r1 λb2 H=>EW w b2 (H+1) λI=>ai I (R (.slice none 0 0) false w) (az r1 λb5 J=>aS w b5 (J+0) λV=>fC 115 #[V] w λw8=>az r1 λb9 z=>aS w8 b9 (z+0) λv11=>cB 149 #[v11] w8 λv12 G=>R v12 true G)):
  Calls Tryz.prog 100 #[r1] w (ax [.v,.b] R):=
 bs (bn [] [] []) [.tmp 2 .v,.tmp 3 .b] [.v r1] Tryz.func100 (by kernel_rfl) h
theorem iG (s1:Value)(w:World)(R:Value->Bool->World->Prop)(h:aN w (.cells #[(.slice none 0 0),(.bool false)] 115) λb2 w3=>az s1 λb4 o5=>aS w3 b4 (o5+2) λv6=>az v6 λb7 o8=>aS w3 b7 (o8+1) λv9=>bM v9 λl11=>eM 0 w3 λI13 m14 W υ=>ai (decide (W< (l11:Int))) (aJ v9 W λb17 o18=>aS υ b17 (o18+W.toNat* 1) λv21=>cB 140 #[v21] υ λv22 w23=>bM v22 λl25=>eM 0 w23 λI27 φ H α=>ai (decide (H< (l25:Int))) (aJ v22 H λθ ι=>∃c35:UInt8,∃n36:Int,∃n37:Int,∃v38:Value,∃q39:Bool,(World.cell? α ⟨θ,(ι+H.toNat* 5),none⟩=some (.int .u8 c35.toNat)/\World.cell? α ⟨θ,((ι+H.toNat* 5)+1),none⟩=some (.int .i64 n36)/\World.cell? α ⟨θ,(((ι+H.toNat* 5)+1)+1),none⟩=some (.int .i64 n37)/\World.cell? α ⟨θ,((((ι+H.toNat* 5)+1)+1)+1),none⟩=some v38/\World.cell? α ⟨θ,(((((ι+H.toNat* 5)+1)+1)+1)+1),none⟩=some (.bool q39)/\True)/\aN α (.cells #[(.int .u8 0),(.int .i64 0),(.int .i64 0),(.pointer none),(.bool false)] 160) λε w41=>xh w41 ε 0 5 [(.int .u8 c35.toNat),(.int .i64 n36),(.int .i64 n37),v38,(.bool q39)] λw42=>∃χ:World->Prop,(gg w42 ε 0 λc44=>ai (decide (c44=126)) (bO w42 λZ w46=>az s1 λb47 o48=>ct Z b47 (o48+2) λv49=>az v49 λb50 o51=>ct Z b50 (o51+0) λv52=>ct Z ε 3 λv53=>(aN w46 (.cells #[(.int .i64 W)] 3) λb54 w55=>Z w55/\oneV v53=true/\aN w55 (.cells #[v53] 146) λb56 w57=>Z w57/\hZ 176 #[s1,(.slice (some ⟨b54,0,none⟩) 1 1),v52,(.slice (some ⟨b56,0,none⟩) 1 1)] w57 λs58 q59 w60=>Z w60/\fC 99 #[(.pointer (some ⟨b2,0,none⟩)),(.string (ab s58)),(.bool q59)] w60 λw61=>Z w61/\χ w61)/\(oneV v53=true/\aN w46 (.cells #[v53] 146) λb62 w63=>Z w63/\aN w63 (.cells #[(.int .i64 W)] 3) λb64 w65=>Z w65/\hZ 176 #[s1,(.slice (some ⟨b64,0,none⟩) 1 1),v52,(.slice (some ⟨b62,0,none⟩) 1 1)] w65 λs66 q67 w68=>Z w68/\fC 99 #[(.pointer (some ⟨b2,0,none⟩)),(.string (ab s66)),(.bool q67)] w68 λw69=>Z w69/\χ w69)) (χ w42))/\∀(ζ:World),χ ζ->gg ζ ε 0 λc71=>ai (!decide (c71=33)) (aj (H+1)/\I27 (H+1) ζ/\φ (H+1) ζ< φ H α) (az s1 λb72 o73=>aS ζ b72 (o73+2) λv74=>az v74 λb75 o76=>aS ζ b75 (o76+1) λv77=>bM v77 λl79=>eM 0 ζ λI81 m82 β κ=>ai (decide (β< (l79:Int))) (aJ v77 β λb85 o86=>aS κ b85 (o86+β.toNat* 1) λv89=>cB 140 #[v89] κ λv90 w91=>bM v90 λl93=>eM 0 w91 λψ γ z V=>ai (decide (z< (l93:Int))) (aJ v90 z λμ δ=>∃ω:UInt8,∃n104:Int,∃n105:Int,∃v106:Value,∃q107:Bool,(World.cell? V ⟨μ,(δ+z.toNat* 5),none⟩=some (.int .u8 ω.toNat)/\World.cell? V ⟨μ,((δ+z.toNat* 5)+1),none⟩=some (.int .i64 n104)/\World.cell? V ⟨μ,(((δ+z.toNat* 5)+1)+1),none⟩=some (.int .i64 n105)/\World.cell? V ⟨μ,((((δ+z.toNat* 5)+1)+1)+1),none⟩=some v106/\World.cell? V ⟨μ,(((((δ+z.toNat* 5)+1)+1)+1)+1),none⟩=some (.bool q107)/\True)/\aN V (.cells #[(.int .u8 0),(.int .i64 0),(.int .i64 0),(.pointer none),(.bool false)] 160) λI w109=>xh w109 I 0 5 [(.int .u8 ω.toNat),(.int .i64 n104),(.int .i64 n105),v106,(.bool q107)] λG=>iz (decide (β=W)) (gg G I 0 λc111=>iz (!decide (c111=63)) (pB G I 1 λn112=>pB G ε 1 λn113=>ai (!decide (n112=n113)) (aj (z+1)/\ψ (z+1) G/\γ (z+1) G< γ z V) (aN G (.cells #[(.int .i64 W),(.int .i64 β)] 3) λb114 ν=>∃ξ:Value->World->Prop,(EW ν I 4 λq117=>ai q117 (∃(ο:Option Addr) (l119 η:Nat),(Value.slice (some ⟨b114,0,none⟩) 2 2)= .slice ο l119 η/\0<=(0:Int)/\(0:Int)<=1/\1<=(η:Int)/\ξ ((.slice (if η=Int.toNat 0 then ο else Option.map (·.add (Int.toNat 0* 1)) ο) (Int.toNat 1 - Int.toNat 0) (η - Int.toNat 0))) ν) (ξ ((.slice (some ⟨b114,0,none⟩) 2 2)) ν))/\∀(g121:Value) (w122:World),ξ g121 w122->bO w122 λJ w124=>az s1 λb125 o126=>ct J b125 (o126+2) λv127=>az v127 λb128 o129=>ct J b128 (o129+0) λv130=>ct J ε 3 λv131=>∃c132:UInt8,∃n133:Int,∃n134:Int,∃v135:Value,∃q136:Bool,(∀w',J w'->World.cell? w' ⟨I,0,none⟩=some (.int .u8 c132.toNat)/\World.cell? w' ⟨I,1,none⟩=some (.int .i64 n133)/\World.cell? w' ⟨I,2,none⟩=some (.int .i64 n134)/\World.cell? w' ⟨I,3,none⟩=some v135/\World.cell? w' ⟨I,4,none⟩=some (.bool q136)/\True)/\kA J ε 2 λn137=>cB 177 #[s1,(.agg #[(.int .u8 c132.toNat),(.int .i64 n133),(.int .i64 n134),v135,(.bool q136)]),(.int .i64 n137)] w124 λv138 w139=>J w139/\oneV v131=true/\oneV v138=true/\aN w139 (.cells #[v131,v138] 146) λb140 w141=>J w141/\hZ 176 #[s1,g121,v130,(.slice (some ⟨b140,0,none⟩) 2 2)] w141 λs142 q143 w144=>J w144/\fC 99 #[(.pointer (some ⟨b2,0,none⟩)),(.string (ab s142)),(.bool q143)] w144 λς=>J ς/\aj (z+1)/\ψ (z+1) ς/\γ (z+1) ς< γ z V)) (aj (z+1)/\ψ (z+1) G/\γ (z+1) G< γ z V)) (aj (z+1)/\ψ (z+1) G/\γ (z+1) G< γ z V)) (aj (β+1)/\I81 (β+1) V/\m82 (β+1) V< m82 β κ)) (aj (H+1)/\I27 (H+1) κ/\φ (H+1) κ< φ H α))) (aj (W+1)/\I13 (W+1) α/\m14 (W+1) α< m14 W υ)) (oA 100 #[(.pointer (some ⟨b2,0,none⟩))] υ λv146 q147 w148=>R v146 q147 w148)):
  Calls Tryz.prog 136 #[s1] w (ax [.v,.b] R):=
 bs (bn [(3,[(24,.i)]),(6,[(32,.i)]),(12,[(68,.i)]),(15,[(76,.i)])] [(10,[]),(21,[(13,.v)])] [9,21]) [.tmp 2 .v,.tmp 3 .b] [.v s1] Tryz.func136 (by kernel_rfl) h
end Go.Proofs.YtdecokaadekjnaaGreat
namespace Go.Proofs.YtdecokaadekjnaaGreat
open Go Go.RowKit
theorem DZ {j:Nat}(z:j< 26):(List.replicate 26 (iv 0))[j]?=some (iv 0):=by rw [List.getElem?_replicate,KG z]
theorem GP {j:Nat}(z:j< 26):(List.replicate 26 (iv 0)).toArray[j]?=some (iv 0):=by rw [MX];exact DZ z
theorem qE {w:World}{R:Value->World->Prop}(hR:∀w' cs,Ex w w'->FE cs e0->R (.agg cs.toArray) w'):Calls Tryz.prog 138 #[] w (ax [.v] R):=by
 refine oQ w R ?_;intro b1 w2 Z H b3 J α I;have x2:Ex w w2:=H▸Ex.alloc w _;have x4:Ex w2 J:=I▸Ex.alloc w2 _;have s2:w2.heap.size=w.heap.size+1:=by rw [H,size_alloc]
 have s4:J.heap.size=w2.heap.size+1:=by rw [I,size_alloc]
 have c3:∀j,j< 26->J.cell? ⟨b3,0+j,none⟩=some (iv 0):=λj z=>by
  rw [I,α];refine aa ?_;rw [KF];exact GP z
 have c1:∀j,j< 26->J.cell? ⟨b1,0+j,none⟩=some (iv 0):=λj z=>by
  rw [x4.cell (show b1< _ by omega),H,Z];refine aa ?_;rw [KF];exact GP z
 have f3:∀j,J.frozen? ⟨b3,j,none⟩=false:=λj=>by rw [I,α];exact aG _ _ _ _
 have f1:∀j,J.frozen? ⟨b1,j,none⟩=false:=λj=>by rw [Lr x4 (show b1< _ by omega),H,Z];exact aG _ _ _ _
 refine⟨⟨rfl,rfl,λj z=>⟨⟨_,c3 j z⟩,f3 _⟩⟩,λw5 η=>?_⟩;obtain⟨k5,W,_,β⟩:=aX (b:=b3) _ J 0;rw [<-η]at k5 W β;have γ:∀j,j< 26->w5.cell? ⟨b3,0+j,none⟩=some (iv 0):=λj z=>by
  rw [β j (λi hi=>⟨_,c3 i hi⟩) z];exact DZ z
 have x5:Ex w w5:=Ex.below (Ex.trans x2 x4) (Kp.below k5 (Ex.trans x2 x4).size λg hg e=>by omega);have s5:=k5.size;have d1:∀j,j< 26->w5.cell? ⟨b1,0+j,none⟩=some (iv 0):=λj z=>by rw [J1 (w:=J) (k5.block b1 (by omega) (by omega))];exact c1 j z
 refine⟨λx w'=>∃i:Nat,x=i/\i<=26/\Ex w w'/\b3< w'.heap.size/\(∀j,j< 26->w'.cell? ⟨b1,0+j,none⟩=some (iv 0))/\(∀j,w'.frozen? ⟨b1,j,none⟩=false)/\(∀j,w'.frozen? ⟨b3,j,none⟩=false)/\∀j,j< 26->w'.cell? ⟨b3,0+j,none⟩=some (iv (if j< i then j else 0)),
  λx _=>(26 - x).toNat,⟨0,rfl,by omega,x5,by omega,d1,λj=>by rw [W];exact f1 j,λj=>by rw [W];exact f3 j,λj z=>by rw [Ko (by omega)];exact γ j z⟩,λx w9 hI=>?_⟩
 obtain⟨i,rfl,hi,x9,l9,e1,g1,g3,e3⟩:=hI;refine⟨λθ=>?_,λι=>?_⟩
 ·have κ:i< 26:=by simp only [J4]at θ;omega
  rw [J9,KK];refine⟨⟨by omega,by omega⟩,⟨⟨_,e3 i κ⟩,g3 _⟩,λξ G=>⟨by unfold aj;omega,⟨i+1,by omega,by omega,?_,?_,λj z=>?_,λj=>?_,λj=>?_,λj z=>?_⟩,by show((26:Int) - ((i:Int)+1)).toNat< ((26:Int) - i).toNat;omega⟩⟩
  ·exact G▸Ex.own x9 (by omega) _
  ·rw [G,KM];exact l9
  ·rw [G,J7 _ _ _ _ (λe=>by injection e with e1 e2;omega)];exact e1 j z
  ·rw [G,Kt];exact g1 j
  ·rw [G,Kt];exact g3 j
  ·by_cases μ:j=i
   ·subst μ;rw [G,KG (by omega)];exact Kj _ _ _ (e3 j z)
   ·rw [G,J7 _ _ _ _ (λe=>by injection e with e1 e2;omega),e3 j z]
    congr 2
    split<;>split<;>omega
 ·have:i=26:=by simp only [J6]at ι;omega
  subst this;have δ:∀j,j< 26->((List.range 26).map iv)[j]?=some (iv j):=λj z=>by simp [z]
  refine⟨(List.range 26).map iv,rfl,λj z=>by rw [e3 j z,δ j z,KG z],⟨rfl,rfl,λj z=>⟨⟨_,e1 j z⟩,g1 _⟩⟩,λν ε=>?_⟩;obtain⟨ζ,_,_,V⟩:=aX (b:=b1) ((List.range 26).map iv) w9 0;rw [<-ε]at ζ V;refine⟨(List.range 26).map iv,rfl,λj z=>V j (λi hi=>⟨_,e1 i (by simpa using hi)⟩) (by simpa using z),hR ν _ ?_ ⟨rfl,λc hc=>?_⟩⟩
  ·exact Ex.below x9 (Kp.below ζ x9.size λg hg e=>by omega)
  ·have :=aW hc;exact δ _ (by omega)
theorem FD {t:P}(h:Lt t):Nu (num t e0 0).1:=by
 obtain⟨_,h2,z,h4⟩:=rO (p:=t) λc hc=>T.Al.free h c hc
 exact⟨h2,λy G=>z y (T.bG G),h4⟩
theorem cG:∀u:U,(flat u).1.length+(flat u).2.tot<=4* u.size
 | .nil=>by simp [flat,Lv.tot]
 | .snd a b p=>by have :=cG p;simp only [flat,Lv.tot,T.size,Kh];omega
 | .rcv a b p=>by have :=cG p;simp only [flat,Lv.tot,T.size,Kh];omega
 | .tau p=>by have :=cG p;simp only [flat,Lv.tot,T.size,Kh];omega
 | .mat a b p=>by have :=cG p;simp only [flat,Lv.tot,T.size,Kh];omega
 | .rep p=>by have :=cG p;simp only [flat,Lv.tot,T.size,Kh];omega
 | .res x p=>by have :=cG p;simp only [flat,T.size,J0];omega
 | .par p q=>by have :=cG p;have :=cG q;simp only [flat,Lv.ch,T.size,J'];omega
 | .sum p q=>by have :=cG p;have :=cG q;simp only [flat,Lv.tot,T.size,Kh];omega
theorem GO {u:U}(h:Nu u):∀x,x∉(td u).1->(td u).2.fh x->x< 26:=λx z h2=>h.fr x (C3 _ u (Kb _) h.uq x h2 z)
theorem wz {D:Nat->Prop}{w:World}{t:P}{v:Value}(h:aI D w t v)(hD:∀g,D g->g< w.heap.size)(hl:Lt t)(hs:t.size<=1000000){R:ay->Bool->World->Prop}
  (hR:∀w',Ex w w'->(∀s,kC (num t e0 0).1=some s->R s true w')/\(kC (num t e0 0).1=none->R [] false w')):Calls Tryz.prog 175 #[v] w (ax [.s,.b] R):=by
 refine ng v w R ?_;intro b2 I H z;have x3:Ex w I:=z▸Ex.alloc w _;have s3:I.heap.size=w.heap.size+1:=by rw [z,size_alloc]
 refine qE λw5 cs x5 J=>?_
 have G:Ex w w5:=Ex.trans x3 x5;have mk:Mk I b2 0:=⟨by omega,by rw [z,H];exact aa rfl,by rw [z,H];exact aG _ _ _ _⟩
 have V:aI D w5 t v:=aI.kp (Kp.ah G λ _=>False) (λ _ _ h=>h) h;refine GV t V (λg hg e=>by have :=hD g hg;omega) (mk.ex x5) J hl (by omega) λv' w7 k7 _ h7=>?_
 have nu:=FD hl;have α:=(bW t e0 0).1;have β:=cG (num t e0 0).1;have e:Lv.tidy (flat (num t e0 0).1).1 (flat (num t e0 0).1).2=td (num t e0 0).1:=rfl;refine uO h7 (cS _) (by omega) (by rw [e];exact zF nu.uq nu.bv) (by rw [e];exact GO nu) λW Z=>?_
 have x7:Ex w w7:=Ex.below G (Kp.below k7.kp G.size λg hg e=>by omega);rw [e];exact hR W (Ex.trans x7 Z)
structure GC (w:World)(D:Nat->Prop)(b:Nat)(n:Nat)(s:Tx)(L:List Nat×Lv):Prop where
 mc:Mk w b n
 tx:w.cell? ⟨b,1,none⟩=some (.string (ab s))
 l:∃v,w.cell? ⟨b,2,none⟩=some v/\aB D w L v
theorem zP {t:P}{w:World}(hl:Lt t)(hs:t.size<=1000000)(hlen:t.text.length<=1099511627776){R:Value->World->Prop}
  (hR:∀b w',Ex w w'->w.heap.size<=b->GC w' (λg=>w.heap.size<=g/\g≠b/\g< w'.heap.size) b (num t e0 0).2 t.text (td (num t e0 0).1)->R (ptr b) w'):Calls Tryz.prog 92 #[.string (ab t.text)] w (ax [.v] R):=by
 refine wC t.text w R ?_;refine Ap hlen λv2 q w4 x4 ο ς=>?_
 have hq:q=true:=by
  cases q
  ·exact absurd rfl (ς rfl t hl)
  ·rfl
 obtain⟨t',υ,et,φ⟩:=ο hq;have:t'=t:=fH (T.Al.wf υ) (T.Al.wf hl) et.symm;subst this;intro b5 Z V I;have x6:Ex w4 Z:=I▸Ex.alloc w4 _;have s6:Z.heap.size=w4.heap.size+1:=by rw [I,size_alloc]
 refine⟨λw'=>Ex Z w',λw8 ζ=>⟨ζ▸Ex.drew Z,?_⟩⟩;have x8:Ex Z w8:=ζ▸Ex.drew Z;have s4:=x4.size;have s8:=x8.size;have χ:Mk Z b5 0:=⟨by omega,by rw [I,V];exact aa rfl,by rw [I,V];exact aG _ _ _ _⟩
 have t6:Z.cell? ⟨b5,1,none⟩=some (.string (ab t'.text)):=by rw [I,V];exact aa rfl
 have l6:Z.cell? ⟨b5,2,none⟩=some (.pointer none):=by rw [I,V];exact aa rfl
 have f6:∀j,Z.frozen? ⟨b5,j,none⟩=false:=λj=>by rw [I,V];exact aG _ _ _ _
 refine qE λψ cs η ω=>?_
 have z:=Ex.trans x8 η;have θ:aI (λg=>Be w g/\g< w4.heap.size) ψ t' v2:=aI.kp (Kp.ah (Ex.trans x6 z) λ _=>False) (λ _ _ h=>h) φ.bound;refine GV t' θ (λg hg e=>by omega) (χ.ex z) ω hl (by omega) λv11 α W β h12=>?_
 have hsz:=(bW t' e0 0).1;have htt:=cG (num t' e0 0).1;refine Da _ (Kb _) (cS _) h12 (by omega) λv13 J G ι=>⟨ι.one,?_⟩
 have x14':Ex α J:=G;have s12:=W.size;have s10:=η.size;have γ:b5< α.heap.size:=β.lt;have f14:∀j,J.frozen? ⟨b5,j,none⟩=false:=λj=>by rw [Lr G γ,W.fz,Lr z (show b5< _ by omega)];exact f6 j
 have t14:J.cell? ⟨b5,1,none⟩=some (.string (ab t'.text)):=by rw [G.cell (show b5< _ from γ),W.ce 1 (by omega),z.cell (show b5< _ by omega)];exact t6
 have κ:J.cell? ⟨b5,2,none⟩=some (.pointer none):=by rw [G.cell (show b5< _ from γ),W.ce 2 (by omega),z.cell (show b5< _ by omega)];exact l6
 have μ:=β.ex G;refine⟨⟨⟨_,κ⟩,f14 2⟩,λδ H=>?_⟩;have ε:Kr b5 J δ:=H▸Kr.set _ _ _;have ν:δ.cell? ⟨b5,0,none⟩=some (iv (num t' e0 0).2):=by rw [H,J7 _ _ _ _ (λe=>by injection e with e1 e2;omega)];exact μ.c
 have ξ:Ex w α:=Ex.below (Ex.trans x4 (Ex.trans x6 z)) (Kp.below W.kp (Ex.trans x4 (Ex.trans x6 z)).size λg hg e=>by omega);have s14:=G.size;have s16:=ε.size;refine hR b5 δ (Ex.below (Ex.trans ξ G) (Kp.below ε (Ex.trans ξ G).size λg hg e=>by omega)) (by omega) ⟨⟨by omega,ν,by rw [H,Kt];exact f14 0⟩,?_,v13,?_,?_⟩
 ·rw [H,J7 _ _ _ _ (λe=>by injection e with e1 e2;omega)];exact t14
 ·rw [H];exact Kj _ _ _ κ
 ·exact aB.sub (aB.kp (aB.sub (E:=λg=>α.heap.size<=g/\g< J.heap.size) ι λg hg hd=>⟨hd,hg⟩) ε λg hg e=>by omega) λg hg hd=>⟨by omega,by omega,by omega⟩
end Go.Proofs.YtdecokaadekjnaaGreat
namespace Go.Proofs.YtdecokaadekjnaaGreat
open T
theorem Ej {u H:U}(h:Nu u)(Z:Nu H)(ae:AE σ0 u σ0 H):kC u=kC H:=by
 have G:∀y z:Nat,σ0 y=σ0 z->y=z:=λy z e=>by unfold σ0 at e;omega
 have I:∀y,u.Us y↔H.Us y:=λy=>by
  constructor
  ·intro J;obtain⟨z,V,e⟩:=ae.used (λy z _ _ e=>G y z e) (λy z _ _ e=>G y z e) y J;rw [<-G z y e];exact V
  ·intro J;obtain⟨z,V,e⟩:=ae.symm.used (λy z _ _ e=>G y z e) (λy z _ _ e=>G y z e) y J;rw [<-G z y e];exact V
 have W:lf (td u).2=lf (td H).2:=by
  funext c
  rw [K6,p6 h,p6 Z,I]
 have key:=λtk=>G9 (ρ:=ρ0) (ρ':=ρ0) ae h.uq Z.uq (λy z _ _ e=>G y z e) (λy z _ _ e=>G y z e) (λy y' _ _ e=>by rw [G y y' e]) tk
 obtain⟨_,k2,k3,k4⟩:=key (lf (td u).2);rw [ij,ij,<-W,(key (lf (td u).2)).1,k2,k3,k4]
structure mA (t:P):Prop where
 al:t.Al λc=>lt c=true
 nr:t.Nr
 smp:t.smp=true
 len:t.text.length<=300
 size:t.size<=60
 most:bj (num t e0 0).1<=5
 all:cO (num t e0 0).1<=8
 nf:kC (num t e0 0).1=some t.text
theorem GA {t:P}(h:t.Al λc=>lt c=true):∀y,(num t e0 0).1.Fr y->y< 26:=(rO (p:=t) λc hc=>T.Al.free h c hc).2.2.1
theorem lG {t:P}(h:t.Al λc=>lt c=true):AE UInt8.toNat t σ0 (num t e0 0).1:=(rO (p:=t) λc hc=>T.Al.free h c hc).1
theorem lT {t:P}(h:t.Al λc=>lt c=true):Nu (num t e0 0).1:=by
 obtain⟨_,h2,z,h4⟩:=rO (p:=t) λc hc=>T.Al.free h c hc
 exact⟨h2,λy G=>z y (T.bG G),h4⟩
theorem Ht.JQ {u:U}{s:Tx}{t:P}{v:U}(h:Nu u)(n:Ht u s t v)(hs:u.smp=true):mA t:=by
 have G:Nu v:=⟨n.arr.uq,λy W=>h.fr y ((n.arr.us y).1 W),λx hx=>h.bv x (n.arr.bv x hx)⟩
 have hv:∀y,v.Fr y->(ρ0 y).toNat=σ0 y:=λy W=>eO (G.fr y (n.arr.nr.il W))
 have ae:AE UInt8.toNat t σ0 v:=n.ae.congr (λ _ _=>rfl) hv;have H:=lT n.al;have I:AE σ0 v σ0 (num t e0 0).1:=ae.symm.trans (lG n.al);have J:∀p:U,e9 σ0 p:=λp y z _ _ e=>by unfold σ0 at e;omega
 have V:lf (td v).2=lf (td u).2:=by
  funext c
  rw [K6,p6 G,p6 h,n.arr.us]
 have Z:∀y z:Nat,σ0 y=σ0 z->y=z:=λy z e=>by unfold σ0 at e;omega
 obtain⟨_,k2,k3,k4⟩:=G9 (ρ:=ρ0) (ρ':=ρ0) I G.uq H.uq (λy z _ _ e=>Z y z e) (λy z _ _ e=>Z y z e) (λy y' _ _ e=>by rw [Z y y' e]) (lf (td v).2);refine⟨n.al,AE.nr ae.symm (J v) (eX t) n.arr.nr,by rw [sW ae];exact n.arr.smp hs,by rw [n.text];exact n.len,n.size,by rw [<-k4,n.arr.most];exact n.most,by rw [<-k3,n.arr.all];exact n.all,?_⟩;have e1:LS v ρ0 (lf (td v).2)=s:=by rw [V,n.arr.ls];exact n.ls.symm
 have hg:dB s:=⟨n.len,t,n.al,n.text,n.size⟩
 rw [<-Ej G H I,ij,e1,KG ⟨⟨by rw [n.arr.most];exact n.most,by rw [n.arr.all];exact n.all⟩,by rw [V,n.arr.bad];exact n.bad,hg⟩,n.text]
section
variable {A B:Type} [DecidableEq A] [DecidableEq B]
inductive Off (A:Type) where
 | tau (p:T A)
 | snd (a b:A) (p:T A)
 | rcv (a x:A) (q:T A) (again:Bool)
def Off.stay:Off A->Off A
 | .rcv a x q _=> .rcv a x q true
 | o=>o
def offs:T A->List (Off A)
 | .tau p=>[.tau p]
 | .snd a b p=>[.snd a b p]
 | .rcv a x p=>[.rcv a x p false]
 | .sum p q=>offs p++offs q
 | .rep p=>(offs p).map Off.stay
 | _=>[]
def wo {X:Type}(l:List X)(i j:Nat):List X:=(l.zipIdx.filter λz=> !(z.2==i)&& !(z.2==j)).map (·.1)
def qM (ρ:A->Nat)(σ:B->Nat):Off A->Off B->Prop
 | .tau p,.tau q=>AE ρ p σ q
 | .snd a b p,.snd c d q=>ρ a=σ c/\ρ b=σ d/\AE ρ p σ q
 | .rcv a x p s,.rcv c y q z=>ρ a=σ c/\(∀v,AE (aF ρ x v) p (aF σ y v) q)/\s=z
 | _,_=>False
inductive kO {X Y:Type} (R:X->Y->Prop):List X->List Y->Prop
 | nil:kO R [] []
 | cons {x y l m}:R x y->kO R l m->kO R (x::l) (y::m)
theorem kO.app {X Y:Type}{R:X->Y->Prop}{l z:List X}{m m':List Y}(h:kO R l m)(k:kO R z m'):kO R (l++z) (m++m'):=by
 induction h with
 | nil=>exact k
 | cons h _ G=>exact .cons h G
theorem kO.map {X Y z G:Type}{R:X->Y->Prop}{S:z->G->Prop}{f:X->z}{g:Y->G}(H:∀x y,R x y->S (f x) (g y)){l:List X}{m:List Y}(h:kO R l m):kO S (l.map f) (m.map g):=by
 induction h with
 | nil=>exact .nil
 | cons h _ I=>exact .cons (H _ _ h) I
theorem kO.len {X Y:Type}{R:X->Y->Prop}{l:List X}{m:List Y}(h:kO R l m):l.length=m.length:=by
 induction h with
 | nil=>rfl
 | cons _ _ z=>simp [z]
theorem kO.get {X Y:Type}{R:X->Y->Prop}{l:List X}{m:List Y}(h:kO R l m):∀{i:Nat} (z:i< l.length) (G:i< m.length),R l[i] m[i]:=by
 induction h with
 | nil=>intro i z;cases z
 | cons h _ H=>
  intro i z G;cases i with
  | zero=>exact h
  | succ i=>simpa using H (by simpa using z) (by simpa using G)
theorem kO.wo {X Y:Type}{R:X->Y->Prop}{l:List X}{m:List Y}(h:kO R l m)(i j:Nat):kO R (wo l i j) (wo m i j):=by
 unfold Go.Proofs.YtdecokaadekjnaaGreat.wo;have:∀k,kO R ((l.zipIdx k).filter (λz=> !(z.2==i)&& !(z.2==j)) |>.map (·.1)) ((m.zipIdx k).filter (λz=> !(z.2==i)&& !(z.2==j)) |>.map (·.1)):=by
  induction h with
  | nil=>intro k;exact .nil
  | cons h _ G=>
   intro k;simp only [List.zipIdx_cons,Nj];split
   ·simp only [KE];exact .cons h (G _)
   ·exact G _
 exact this 0
theorem jQ:∀{p:T A} {q:T B} {ρ:A->Nat} {σ:B->Nat},AE ρ p σ q->kO (qM ρ σ) (offs p) (offs q):=by
 intro p
 induction p with
 | nil=>intro q ρ σ h;cases q<;>first | exact .nil | cases h
 | par p I=>intro q ρ σ h;cases q<;>first | exact .nil | cases h
 | res x p=>intro q ρ σ h;cases q<;>first | exact .nil | cases h
 | mat a b p=>intro q ρ σ h;cases q<;>first | exact .nil | cases h
 | tau p=>intro q ρ σ h;cases q<;>first | exact .cons h .nil | cases h
 | snd a b p=>intro q ρ σ h;cases q<;>first | exact .cons h .nil | cases h
 | rcv a b p=>intro q ρ σ h;cases q<;>first | exact .cons ⟨h.1,h.2,rfl⟩ .nil | cases h
 | sum p I G H=>
  intro q ρ σ h;cases q<;>first | exact(G h.1).app (H h.2) | cases h
 | rep p G=>
  intro q ρ σ h;cases q<;>try cases h
  refine(G h).map λx y z=>?_
  cases x<;>cases y<;>first | exact z | (exact⟨z.1,z.2.1,rfl⟩) | cases z
end
theorem AE.open:∀{t:P} {u:U} {ρ:Rh},AE UInt8.toNat t (λz=>(ρ z).toNat) u->t.Nr->t.frL.length=u.frL.length/\kO (λp q=>AE UInt8.toNat p (λz=>(asg u.frL t.frL ρ z).toNat) q) t.ths u.ths:=by
 intro t
 induction t with
 | nil=>intro u ρ h n;cases u<;>first | exact⟨rfl,.nil⟩ | cases h
 | snd a b p=>intro u ρ h n;cases u<;>first | exact⟨rfl,.cons h .nil⟩ | cases h
 | rcv a b p=>intro u ρ h n;cases u<;>first | exact⟨rfl,.cons h .nil⟩ | cases h
 | tau p=>intro u ρ h n;cases u<;>first | exact⟨rfl,.cons h .nil⟩ | cases h
 | sum p q=>intro u ρ h n;cases u<;>first | exact⟨rfl,.cons h .nil⟩ | cases h
 | mat a b p=>intro u ρ h n;cases u<;>first | exact⟨rfl,.cons h .nil⟩ | cases h
 | rep p=>intro u ρ h n;cases u<;>first | exact⟨rfl,.cons h .nil⟩ | cases h
 | par p q W J=>
  intro u ρ h n;cases u<;>try cases h
  rename_i p' q' G h2;have Z:q.frL=[]:=by
   rcases n.1.2 with h | h
   ·exact iN h
   ·cases q<;>first | rfl | (cases h;done)
  obtain⟨H,I⟩:=J h2 n.2.2;have V:q'.frL=[]:=by rw [Z]at H;exact KD H.symm
  rw [Z,V]at I;exact⟨rfl,.cons G I⟩
 | res x p W=>
  intro u ρ h n;cases u<;>try cases h
  rename_i y q;have G:=h x.toNat;have e1:aF UInt8.toNat x x.toNat=UInt8.toNat:=by funext c;unfold aF;split<;>simp_all
  have e2:aF (λz=>(ρ z).toNat) y x.toNat=λz=>(aF ρ y x z).toNat:=by funext z;unfold aF;split<;>rfl
  rw [e1,e2]at G;obtain⟨H,I⟩:=W G n.2;exact⟨by simp [frL,H],I⟩
theorem AE.sH {D:Nat->Prop}{f:Nat->Nat}:∀{q:U} {σ τ:Nat->Nat},(∀z,q.Fr z->D z/\σ z=τ (f z))->(∀x∈BV q,D x/\∀z,D z->z≠x->f z≠f x)->AE σ q τ (q.map f)
 | .nil,_,_,_,_=>trivial
 | .snd a b p,σ,τ,h,k=>⟨(h a (.inl rfl)).2,(h b (.inr (.inl rfl))).2,AE.sH (λz G=>h z (.inr (.inr G))) k⟩
 | .mat a b p,σ,τ,h,k=>⟨(h a (.inl rfl)).2,(h b (.inr (.inl rfl))).2,AE.sH (λz G=>h z (.inr (.inr G))) k⟩
 | .tau p,σ,τ,h,k=>AE.sH (q:=p) h k
 | .rep p,σ,τ,h,k=>AE.sH (q:=p) h k
 | .sum p q,σ,τ,h,k=>⟨AE.sH (λz G=>h z (.inl G)) λx I=>k x (KH _ I),AE.sH (λz G=>h z (.inr G)) λx I=>k x (KB _ I)⟩
 | .par p q,σ,τ,h,k=>⟨AE.sH (λz G=>h z (.inl G)) λx I=>k x (KH _ I),AE.sH (λz G=>h z (.inr G)) λx I=>k x (KB _ I)⟩
 | .rcv a x p,σ,τ,h,k=>by
  have J:=k x (KR ..);refine⟨(h a (.inl rfl)).2,λv=>AE.sH (D:=D) (λz G=>?_) λy V=>k y (Ki _ V)⟩;by_cases e:z=x
  ·subst e;exact⟨J.1,by simp [aF]⟩
  ·have H:=h z (.inr ⟨e,G⟩);have :=J.2 z H.1 e;refine⟨H.1,?_⟩;simp only [aF,Ko e,Ko this];exact H.2
 | .res x p,σ,τ,h,k=>by
  have J:=k x (KR ..);refine λv=>AE.sH (D:=D) (λz G=>?_) λy V=>k y (Ki _ V)
  by_cases e:z=x
  ·subst e;exact⟨J.1,by simp [aF]⟩
  ·have H:=h z ⟨e,G⟩;have :=J.2 z H.1 e;refine⟨H.1,?_⟩;simp only [aF,Ko e,Ko this];exact H.2
theorem fU (f:Nat->Nat):∀u:U,BV (u.map f)=(BV u).map f
 | .nil=>rfl
 | .snd a b p=>fU f p
 | .mat a b p=>fU f p
 | .tau p=>fU f p
 | .rep p=>fU f p
 | .rcv a x p=>by simp only [T.map,BV,fU f p,KE]
 | .res x p=>by simp only [T.map,BV,fU f p,KE]
 | .sum p q=>by simp only [T.map,BV,fU f p,fU f q,K3]
 | .par p q=>by simp only [T.map,BV,fU f p,fU f q,K3]
def Off.tm {A:Type}:Off A->T A
 | .tau p=> .tau p
 | .snd a b p=> .snd a b p
 | .rcv a x q _=> .rcv a x q
structure Sub {A:Type}(s t:T A):Prop where
 smp:t.smp=true->s.smp=true
 nr:t.Nr->s.Nr
 fr:∀z,s.Fr z->t.Fr z
 rd:s.rd<=t.rd
 ow:s.ow<=t.ow
 size:s.size<=t.size
 al:∀D:A->Prop,t.Al D->s.Al D
theorem Sub.refl {A:Type}(t:T A):Sub t t:=⟨id,id,λ _=>id,Kb _,Kb _,Kb _,λ _=>id⟩
theorem aZ {A:Type}:∀{t:T A},t.smp=true->∀o∈offs t,Sub o.tm t/\(∀a x q,o= .rcv a x q true->t= .rep (.rcv a x q)):=by
 intro t
 induction t with
 | nil=>intro _ o h;cases h
 | par p q=>intro _ o h;cases h
 | res x p=>intro _ o h;cases h
 | mat a b p=>intro _ o h;cases h
 | tau p=>intro _ o h;rw [offs,Kf]at h;subst h;exact⟨Sub.refl _,λ _ _ _ h=>by cases h⟩
 | snd a b p=>intro _ o h;rw [offs,Kf]at h;subst h;exact⟨Sub.refl _,λ _ _ _ h=>by cases h⟩
 | rcv a b p=>intro _ o h;rw [offs,Kf]at h;subst h;exact⟨Sub.refl _,λ _ _ _ h=>by cases h⟩
 | sum p q Z V=>
  intro G o h;simp only [smp,J3]at G;rw [offs,Ke]at h;rcases h with h | h
  ·obtain⟨k,kr⟩:=Z G.2.1 o h;refine⟨⟨λ _=>k.smp G.2.1,λn=>k.nr n.2.1,λz H=> .inl (k.fr z H),K5 k.rd (Nat.le_max_left _ _),by have :=k.ow;simp only [ow];omega,by have :=k.size;simp only [size];omega,λD I=>k.al D I.1⟩,λa x J e=>?_⟩;have W:=kr a x J e;rw [W]at G;simp [gp]at G
  ·obtain⟨k,kr⟩:=V G.2.2 o h;refine⟨⟨λ _=>k.smp G.2.2,λn=>k.nr n.2.2,λz H=> .inr (k.fr z H),K5 k.rd (Nat.le_max_right _ _),by have :=k.ow;simp only [ow];omega,by have :=k.size;simp only [size];omega,λD I=>k.al D I.2⟩,λa x J e=>?_⟩;have W:=kr a x J e;rw [W]at G;simp [gp]at G
 | rep p Z=>
  intro G o h;simp only [smp,J3]at G;cases p<;>try (simp [isR]at G)
  rename_i a x q;simp only [offs,KE,L6,Kf,Off.stay]at h;subst h;refine⟨⟨λh=>?_,λn=>n.2,λz H=>H,Kb _,Kb _,by simp only [Off.tm,size];omega,λD I=>I⟩,λa' x' J e=>?_⟩
  ·simp only [smp,J3]at h;exact h.2
  ·cases e;rfl
theorem gh:∀{t:U},∀o∈offs t,(BV o.tm).Sublist (BV t):=by
 intro t
 induction t with
 | nil=>intro o h;cases h
 | par p q=>intro o h;cases h
 | res x p=>intro o h;cases h
 | mat a b p=>intro o h;cases h
 | tau p=>intro o h;rw [offs,Kf]at h;subst h;exact La _
 | snd a b p=>intro o h;rw [offs,Kf]at h;subst h;exact La _
 | rcv a b p=>intro o h;rw [offs,Kf]at h;subst h;exact La _
 | sum p q z G=>
  intro o h;rw [offs,Ke]at h;rcases h with h | h
  ·exact(z o h).trans (Mj _ _)
  ·exact(G o h).trans (LA _ _)
 | rep p z=>
  intro o h;obtain⟨H,I,rfl⟩:=KQ.1 h;have :=z H I;cases H<;>exact this
section
variable {X:Type}
def kz (P:Nat->Bool)(l:List X)(k:Nat):List X:=((l.zipIdx k).filter λz=> !P z.2).map (·.1)
theorem kv (P:Nat->Bool)(k:Nat):kz P ([]:List X) k=[]:=rfl
theorem cz (P:Nat->Bool)(x:X)(l:List X)(k:Nat):kz P (x::l) k=if P k then kz P l (k+1)else x::kz P l (k+1):=by
 unfold kz;simp only [List.zipIdx_cons,Nj];cases P k<;>simp
theorem mI {P Q:Nat->Bool}:∀{l:List X} {k:Nat},(∀i,k<=i->P i=Q i)->kz P l k=kz Q l k
 | [],_,_=>rfl
 | x::l,k,h=>by rw [cz,cz,h k (Kb _),mI (l:=l) λi z=>h i (by omega)]
theorem AS {P:Nat->Bool}:∀{l:List X} {k:Nat},(∀i,k<=i->P i=false)->kz P l k=l
 | [],_,_=>rfl
 | x::l,k,h=>by rw [cz,h k (Kb _),AS (l:=l) λi z=>h i (by omega)];rfl
theorem wY:∀(l:List X) (k i:Nat) (h:i< l.length),l.Perm (l[i]::kz (λn=>n==k+i) l k)
 | [],_,_,h=>by cases h
 | x::l,k,0,h=>by
  rw [cz,KG (by simp),AS λi z=>by simp;omega];exact K9 _
 | x::l,k,i+1,h=>by
  rw [cz,Ko (by simp)];have :=wY l (k+1) i (by simpa using h);rw [show k+1+i=k+(i+1) by omega]at this;exact(this.cons x).trans (List.Perm.swap _ _ _)
theorem wX:∀(l:List X) (k i j:Nat) (G:i< l.length) (z:j< l.length),i< j->l.Perm (l[i]::l[j]::kz (λn=>n==k+i||n==k+j) l k)
 | [],_,_,_,h,_,_=>by cases h
 | x::l,k,0,j+1,_,z,_=>by
  rw [cz,KG (by simp)];have :=wY l (k+1) j (by simpa using z);rw [mI (P:=λn=>n==k+0||n==k+(j+1)) (Q:=λn=>n==k+1+j) λn I=>by
   rw [K6];simp only [Lm,NG];omega]
  exact this.cons x
 | x::l,k,i+1,j+1,G,z,H=>by
  rw [cz,Ko (by simp)];have :=wX l (k+1) i j (by simpa using G) (by simpa using z) (by omega);rw [show k+1+i=k+(i+1) by omega,show k+1+j=k+(j+1) by omega]at this;exact((this.cons x).trans (List.Perm.swap _ _ _)).trans ((List.Perm.swap _ _ _).cons _)
theorem zY (l:List X)(i j:Nat):wo l i j=kz (λn=>n==i||n==j) l 0:=by
 unfold wo kz
 congr 2
 funext z
 simp
theorem zu (l:List X)(i:Nat)(h:i< l.length):l.Perm (l[i]::wo l i i):=by
 have :=wY l 0 i h;rw [zY,mI (Q:=λn=>n==0+i) λn _=>by simp];exact this
theorem zJ (l:List X)(i j:Nat)(G:i< l.length)(H:j< l.length)(z:i≠j):l.Perm (l[i]::l[j]::wo l i j):=by
 rw [zY];rcases Nat.lt_or_gt_of_ne z with h | h
 ·have :=wX l 0 i j G H h;simpa using this
 ·have :=wX l 0 j i H G h;rw [mI (P:=λn=>n==i||n==j) (Q:=λn=>n==0+j||n==0+i) λn _=>by simp [Bool.or_comm]];exact this.trans (List.Perm.swap _ _ _)
theorem Fx (l:List X)(i j:Nat)(G:i< l.length)(H:j< l.length)(z:i≠j):(wo l i i).Perm (wo l i j++[l[j]]):=by
 have I:=zu l i G;have h2:=zJ l i j G H z;exact((NA _).1 (I.symm.trans h2)).trans (Me (l₁:=[l[j]]) (l₂:=wo l i j))
theorem lR {l:List X}{i j:Nat}{x:X}(h:x∈wo l i j):x∈l:=by
 unfold wo at h;obtain⟨z,G,rfl⟩:=KQ.1 h;have :=(L5.1 G).1;rw [List.mem_zipIdx_iff_getElem?]at this;exact L9 this
end
structure EZ (N:Nat)(q:U)(x b:Nat)(f:Nat->Nat):Prop where
 fx:f x=b
 fo:∀z,z≠x->z∉BV q->f z=z
 fb:∀z∈BV q,N< f z
 fi:∀z∈BV q,∀z'∈BV q,f z=f z'->z=z'
theorem EZ.ae {N:Nat}{q:U}{x b:Nat}{f:Nat->Nat}(h:EZ N q x b f)(J:Uq q)(hx:x∉BV q)(V:∀z,q.Fr z->z<=N)(hb:b<=N)(W:∀z∈BV q,z<=N)(σ:Nat->Nat):AE (aF σ x (σ b)) q σ (q.map f):=by
 refine AE.sH (D:=λz=>q.Fr z\/z∈BV q) (λz G=>⟨.inl G,?_⟩) λy H=>⟨.inr H,λz G I=>?_⟩
 ·by_cases e:z=x
  ·subst e;rw [h.fx,df]
  ·rw [bS _ _ e,h.fo z e λhb=>J.nf z hb G]
 ·have Z:=h.fb y H;rcases G with G | G
  ·by_cases e:z=x
   ·rw [e,h.fx];omega
   ·rw [h.fo z e λhb=>J.nf z hb G];have :=V z G;omega
  ·exact λe=>I (h.fi z G y H e)
theorem EZ.fr {N:Nat}{q:U}{x b:Nat}{f:Nat->Nat}(h:EZ N q x b f)(V:Uq q):∀z,(q.map f).Fr z->z=b\/(z≠x/\q.Fr z):=by
 have key:∀(q:U) (z:Nat),(q.map f).Fr z->∃y,q.Fr y/\f y=z:=by
  intro q
  induction q with
  | nil=>intro z h;exact h.elim
  | snd a b p H=>
   intro z h;rcases h with h | h | h
   ·exact⟨a,.inl rfl,h.symm⟩
   ·exact⟨b,.inr (.inl rfl),h.symm⟩
   ·obtain⟨y,G,h2⟩:=H z h;exact⟨y,.inr (.inr G),h2⟩
  | mat a b p H=>
   intro z h;rcases h with h | h | h
   ·exact⟨a,.inl rfl,h.symm⟩
   ·exact⟨b,.inr (.inl rfl),h.symm⟩
   ·obtain⟨y,G,h2⟩:=H z h;exact⟨y,.inr (.inr G),h2⟩
  | rcv a x p H=>
   intro z h;rcases h with h | ⟨h,J⟩
   ·exact⟨a,.inl rfl,h.symm⟩
   ·obtain⟨y,G,h2⟩:=H z J;exact⟨y,.inr ⟨λe=>h (by rw [<-h2,e]),G⟩,h2⟩
  | res x p H=>
   intro z ⟨h,J⟩;obtain⟨y,G,h2⟩:=H z J;exact⟨y,⟨λe=>h (by rw [<-h2,e]),G⟩,h2⟩
  | tau p H=>exact H
  | rep p H=>exact H
  | sum p q H I=>
   intro z h;rcases h with h | h
   ·obtain⟨y,G,h2⟩:=H z h;exact⟨y,.inl G,h2⟩
   ·obtain⟨y,G,h2⟩:=I z h;exact⟨y,.inr G,h2⟩
  | par p q H I=>
   intro z h;rcases h with h | h
   ·obtain⟨y,G,h2⟩:=H z h;exact⟨y,.inl G,h2⟩
   ·obtain⟨y,G,h2⟩:=I z h;exact⟨y,.inr G,h2⟩
 intro z W;obtain⟨y,G,h2⟩:=key q z W;by_cases e:y=x
 ·left;rw [<-h2,e,h.fx]
 ·right;rw [h.fo y e λhb=>V.nf y hb G]at h2;subst h2;exact⟨e,G⟩
end Go.Proofs.YtdecokaadekjnaaGreat
namespace Go.Proofs.YtdecokaadekjnaaGreat
open Go Go.RowKit
def jK (w:World)(r:Nat)(F:Nat->Nat):Prop:=∃mm,IsMap w r (.int .i64) mm/\∀x:Nat,mm (iv x)=some (iv (F x))\/(mm (iv x)=none/\F x=x)
theorem aU {w w':World}{r:Nat}{d:TypeDesc}{m:Value->Option Value}(h:IsMap w r d m)(e:w'.heap[r]?=w.heap[r]?):IsMap w' r d m:=by
 obtain⟨es,cl,z,h2⟩:=h;exact⟨es,cl,by rw [e];exact z,h2⟩
theorem bX {w:World}{r:Nat}{d:TypeDesc}{m:Value->Option Value}(h:IsMap w r d m):r< w.heap.size:=by
 obtain⟨es,cl,z,h2⟩:=h;exact(KO.1 z).1
theorem jK.lt {w:World}{r:Nat}{F:Nat->Nat}(h:jK w r F):r< w.heap.size:=by
 obtain⟨mm,z,_⟩:=h;exact bX z
theorem jK.kp {w w':World}{r:Nat}{F:Nat->Nat}{S:Nat->Prop}(h:jK w r F)(k:Kp w w' S)(z:¬S r):jK w' r F:=by
 have G:=h.lt;obtain⟨mm,H,h2⟩:=h;exact⟨mm,aU H (k.block r G z),h2⟩
theorem sf {w:World}{r:Nat}{mm:Value->Option Value}{F:Nat->Nat}(h2:∀x:Nat,mm (iv x)=some (iv (F x))\/(mm (iv x)=none/\F x=x)){x y:Nat}(h:IsMap w r (.int .i64) (bK mm (iv x) (iv y))):jK w r (aF F x y):=by
 refine⟨_,h,λz=>?_⟩;unfold bK aF;by_cases e:z=x
 ·subst e;left;simp
 ·have:iv z≠iv x:=λG=>e (by injection G with _ H;omega)
  simp only [Ko e,Ko this];exact h2 z
structure Rn (n n':Nat)(xs:List Nat)(F F':Nat->Nat):Prop where
 le:n<=n'
 len:n'<=n+xs.length
 out:∀x,x∉xs->F' x=F x
 rng:∀x∈xs,n+100< F' x/\F' x<=n'+100
 inj:∀x∈xs,∀y∈xs,F' x=F' y->x=y
theorem Rn.refl (n:Nat)(F:Nat->Nat):Rn n n [] F F:=⟨Kb _,by simp,λ _ _=>rfl,λ _ h=>(by cases h),λ _ h=>(by cases h)⟩
theorem Rn.one (n x:Nat)(F:Nat->Nat):Rn n (n+1) [x] F (aF F x (n+101)):=by
 refine⟨by omega,by simp,λy G=>Ko (by simpa using G),λy G=>?_,λy G z H _=>?_⟩
 ·cases Kf.1 G;simp only [aF,LN];omega
 ·cases Kf.1 G;cases Kf.1 H;rfl
theorem Rn.app {n m p:Nat}{xs V:List Nat}{F G H:Nat->Nat}(h:Rn n m xs F G)(k:Rn m p V G H)(hd:∀x∈xs,x∉V):Rn n p (xs++V) F H:=by
 have J:∀x∈xs,H x=G x:=λx J=>k.out x (hd x J)
 refine⟨K5 h.le k.le,by have :=h.len;have :=k.len;rw [J'];omega,λx z=>?_,λx z=>?_,λx z y W e=>?_⟩
 ·rw [Ke,NI]at z;rw [k.out x z.2,h.out x z.1]
 ·have :=h.le;have :=k.le;rcases Ke.1 z with I | I
  ·rw [J x I];have :=h.rng x I;omega
  ·have :=k.rng x I;omega
 ·rcases Ke.1 z with I | I<;>rcases Ke.1 W with h2 | h2
  ·rw [J x I,J y h2]at e;exact h.inj x I y h2 e
  ·rw [J x I]at e;have :=h.rng x I;have :=k.rng y h2;omega
  ·rw [J y h2]at e;have :=h.rng y h2;have :=k.rng x I;omega
  ·exact k.inj x I y h2 e
structure Kq (m r:Nat)(w w':World):Prop where
 kp:Kp w w' λg=>g=m\/g=r
 ce:∀j,j≠0->w'.cell? ⟨m,j,none⟩=w.cell? ⟨m,j,none⟩
 fz:∀j,w'.frozen? ⟨m,j,none⟩=w.frozen? ⟨m,j,none⟩
section
variable {m r:Nat} {w w0 w' w'':World}
theorem Kq.size (h:Kq m r w w'):w.heap.size<=w'.heap.size:=h.kp.size
theorem Kq.trans (h:Kq m r w w')(k:Kq m r w' w''):Kq m r w w'':=⟨Kp.trans h.kp k.kp λ _ _ h=>h,λj z=>(k.ce j z).trans (h.ce j z),λj=>(k.fz j).trans (h.fz j)⟩
theorem Kq.refl (m r:Nat)(w:World):Kq m r w w:=⟨Kp.ah (Ex.refl w) _,λ _ _=>rfl,λ _=>rfl⟩
theorem Kq.out {S:Nat->Prop}(h:Kq m r w0 w)(k:Kp w w' S)(G:∀g,g< w0.heap.size->S g->g=r/\g≠m)(hm:m< w0.heap.size):Kq m r w0 w':=by
 have e:=k.block m (Kx hm h.kp.size) λz=>(G m hm z).2 rfl
 exact⟨Kp.trans h.kp k λg H z=> .inr (G g H z).1,λj I=>by rw [J1 (w:=w) e];exact h.ce j I,λj=>by rw [KC (w:=w) e];exact h.fz j⟩
theorem Kq.ex (h:Kq m r w0 w)(x:Ex w w')(hm:m< w0.heap.size):Kq m r w0 w':=h.out (Kp.ah x λ _=>False) (λ _ _ h=>h.elim) hm
theorem Kq.km (h:Kq m r w0 w)(k:Km m w w'):Kq m r w0 w':=h.trans ⟨Kp.mono (λ _ e=> .inl e) k.kp,k.ce,k.fz⟩
theorem Kq.blk (h:Kq m r w0 w)(k:bc w w' r)(hm:m< w0.heap.size)(hr:m≠r):Kq m r w0 w':=
 h.out (S:=λg=>g=r) ⟨k.os,k.tape,k.output,by rw [k.size];exact Kb _,λg _ z=>k.block g z⟩ (λg _ e=>⟨e,λh=>hr (h.symm.trans e)⟩) hm
end
structure CI (w w':World)(m r b4 b6 n n1:Nat)(xs:List Nat)(F F1:Nat->Nat)(O:List Nat)(L:Lv)(ts:List Value)(M:Nat->Prop):Prop where
 kq:Kq m r w w'
 mc:Mk w' m n1
 mf:jK w' r F1
 rn:Rn n n1 xs F F1
 c4:w'.cell? ⟨b4,0,none⟩=some (.map (some r))
 l4:b4< w'.heap.size
 h4:w.heap.size<=b4
 m4:¬M b4
 bd:kB w.heap.size w' b6 O ts M
 th:af (λg=>(w.heap.size<=g/\¬M g/\g≠b4)/\g< w'.heap.size) w' L ts
 lm:m< w.heap.size
 lr:r< w.heap.size
 ne:m≠r
theorem zb {w:World}{b4 r x:Nat}{F:Nat->Nat}(c4:w.cell? ⟨b4,0,none⟩=some (.map (some r)))(mf:jK w r F){R:Int->World->Prop}(z:R (F x:Int) w):
  Calls Tryz.prog 239 #[iv x,ptr b4] w (ax [.i] R):=by
 refine j5 x (ptr b4) w R ?_;obtain⟨mm,G,h2⟩:=mf;refine⟨b4,0,rfl,_,c4,r,mm,rfl,G,?_⟩;rcases h2 x with h | ⟨h,e⟩
 ·exact⟨F x,true,.inl ⟨rfl,h⟩,λ _=>z,λh=>(by cases h)⟩
 ·exact⟨0,false,.inr ⟨rfl,h,rfl⟩,λh=>(by cases h),λ _=>by rw [e]at z;exact z⟩
theorem kB.Jv {B:Nat}{w w1 w2:World}{b:Nat}{o Z:List Nat}{ts:List Value}{M:Nat->Prop}(h:kB B w b o ts M){vo v':Value}(J:w.cell? ⟨b,0,none⟩=some vo)(k:Kp w w1 λg=>vo.ownBlock=some g)(ho:aP 3 B w1 v' (Z.map iv))
  (hv:∀g,v'.ownBlock=some g->vo.ownBlock=some g\/w.heap.size<=g) (hw:w2=w1.setCell ⟨b,0,none⟩ v'):kB B w2 b Z ts (λg=>M g\/v'.ownBlock=some g)/\Kp w w2 M:=by
 obtain⟨h1,hle,h3,hr,h4,V,vt,h5,h6,h7,h8,h9,h10,G⟩:=h;have:V=vo:=KS (h5.symm.trans J);subst this;have s1:=k.size;have I:Kr b w1 w2:=hw▸Kr.set w1 0 v';have W:=k.block b h1 λe=>(h9 b e).2 rfl
 have H:∀g,v'.ownBlock=some g->g≠b:=λg z=>(hv g z).elim (λe=>(h9 g e).2) λe=>by omega
 have kM:Kp w w2 M:=Kp.trans (Kp.mono (λg e=>(h9 g e).1) k) I λg _ e=>by rw [e];exact h3
 have s2:=I.size;refine⟨⟨by omega,hle,.inl h3,λg z=>?_,λj=>?_,v',vt,?_,?_,ho.kp I H,?_,λg z=>⟨.inr z,H g z⟩,λg z=>⟨.inl (h10 g z).1,(h10 g z).2⟩,λg z e=>?_⟩,kM⟩
 ·rcases z with z | z
  ·have :=hr g z;omega
  ·have :=ho.block g z;omega
 ·rw [hw,Kt,KC (w:=w) W];exact h4 j
 ·rw [hw];exact Kj _ _ _ (by rw [J1 (w:=w) W];exact h5)
 ·rw [hw,J7 _ _ _ _ (by simp),J1 (w:=w) W];exact h6
 ·exact(h8.kp k λg z e=>G g e z).kp I λg z=>(h10 g z).2
 ·rcases hv g z with h | h
  ·exact G g h e
  ·have :=(h8.block g e).2;omega
theorem kB.IK {B:Nat}{w w1 w2:World}{b:Nat}{o:List Nat}{ts G:List Value}{M:Nat->Prop}(h:kB B w b o ts M){vt v':Value}(V:w.cell? ⟨b,1,none⟩=some vt)(k:Kp w w1 λg=>vt.ownBlock=some g)(ho:aP 156 B w1 v' G)
  (hv:∀g,v'.ownBlock=some g->vt.ownBlock=some g\/w.heap.size<=g) (hw:w2=w1.setCell ⟨b,1,none⟩ v'):kB B w2 b o G (λg=>M g\/v'.ownBlock=some g)/\Kp w w2 M:=by
 obtain⟨h1,hle,h3,hr,h4,vo,W,h5,h6,h7,h8,h9,h10,H⟩:=h;have:W=vt:=KS (h6.symm.trans V);subst this;have s1:=k.size;have J:Kr b w1 w2:=hw▸Kr.set w1 1 v';have Z:=k.block b h1 λe=>(h10 b e).2 rfl
 have I:∀g,v'.ownBlock=some g->g≠b:=λg z=>(hv g z).elim (λe=>(h10 g e).2) λe=>by omega
 have kM:Kp w w2 M:=Kp.trans (Kp.mono (λg e=>(h10 g e).1) k) J λg _ e=>by rw [e];exact h3
 have s2:=J.size;refine⟨⟨by omega,hle,.inl h3,λg z=>?_,λj=>?_,vo,v',?_,?_,?_,ho.kp J I,λg z=>⟨.inl (h9 g z).1,(h9 g z).2⟩,λg z=>⟨.inr z,I g z⟩,λg z e=>?_⟩,kM⟩
 ·rcases z with z | z
  ·have :=hr g z;omega
  ·have :=ho.block g z;omega
 ·rw [hw,Kt,KC (w:=w) Z];exact h4 j
 ·rw [hw,J7 _ _ _ _ (by simp),J1 (w:=w) Z];exact h5
 ·rw [hw];exact Kj _ _ _ (by rw [J1 (w:=w) Z];exact h6)
 ·exact(h7.kp k λg z e=>H g z e).kp J λg z=>(h9 g z).2
 ·rcases hv g e with h | h
  ·exact H g z h
  ·have :=(h7.block g z).2;omega
theorem cL {f g:Nat->Nat}:∀{l:Lv},(∀x,(x∈l.bvs\/l.fh x)->f x=g x)->l.map f=l.map g
 | .nil,_=>rfl
 | .thr k a b o r n,h=>by
  have hr:=cL (f:=f) (g:=g) (l:=r) λx z=>h x (by
   rcases z with z | z
   ·left;simp [Lv.bvs,z]
   ·by_cases G:x∈o
    ·left;simp [Lv.bvs,G]
    ·by_cases hb:k= .r/\x=b
     ·left;simp [Lv.bvs,hb.1,hb.2]
     ·right;exact .inr (.inr (.inl ⟨G,hb,z⟩)))
  have H:=cL (f:=f) (g:=g) (l:=n) λx z=>h x (by
   rcases z with z | z
   ·left;simp [Lv.bvs,z]
   ·right;exact .inr (.inr (.inr z)))
  have G:o.map f=o.map g:=Lk λx z=>h x (.inl (by simp [Lv.bvs,z]))
  simp only [Lv.map,hr,H,G];cases k<;>simp only [reduceCtorEq,or_self,or_true,true_or,ME,LN]
  ·rw [h a (.inr (.inl ⟨.inl rfl,.inl rfl⟩)),h b (.inr (.inl ⟨.inl rfl,.inr rfl⟩))]
  ·rw [h a (.inr (.inr (.inl ⟨rfl,rfl⟩))),h b (.inl (by simp [Lv.bvs]))]
  ·rw [h a (.inr (.inl ⟨.inr rfl,.inl rfl⟩)),h b (.inr (.inl ⟨.inr rfl,.inr rfl⟩))]
 | .sum I n,h=>by
  have hr:=cL (f:=f) (g:=g) (l:=I) λx z=>h x (by
   rcases z with z | z
   ·left;simp [Lv.bvs,z]
   ·right;exact .inl z)
  have H:=cL (f:=f) (g:=g) (l:=n) λx z=>h x (by
   rcases z with z | z
   ·left;simp [Lv.bvs,z]
   ·right;exact .inr z)
  simp only [Lv.map,hr,H]
 | .part o q n,h=>by
  have hr:=cL (f:=f) (g:=g) (l:=q) λx z=>h x (by
   rcases z with z | z
   ·left;simp [Lv.bvs,z]
   ·by_cases G:x∈o
    ·left;simp [Lv.bvs,G]
    ·right;exact .inl ⟨G,z⟩)
  have H:=cL (f:=f) (g:=g) (l:=n) λx z=>h x (by
   rcases z with z | z
   ·left;simp [Lv.bvs,z]
   ·right;exact .inr z)
  have G:o.map f=o.map g:=Lk λx z=>h x (.inl (by simp [Lv.bvs,z]))
  simp only [Lv.map,hr,H,G]
theorem oz {x:Nat}:∀(l:Lv) (i:Nat),(l.take i).fh x->l.fh x
 | _,0,h=>h.elim
 | .nil,i+1,h=>h
 | .thr k a b o r n,i+1,h=>by
  rcases h with h | h | h | h
  ·exact .inl h
  ·exact .inr (.inl h)
  ·exact .inr (.inr (.inl h))
  ·exact .inr (.inr (.inr (oz n i h)))
 | .sum z n,i+1,h=>h.elim .inl λh=> .inr (oz n i h)
 | .part o q n,i+1,h=>h.elim .inl λh=> .inr (oz n i h)
def Hq (k:Nat):Prop:=∀{D:Nat->Prop} {w:World} {v:Value} {o:List Nat} {l:Lv} {m r n:Nat} {F:Nat->Nat} {R:Value->World->Prop},l.sz<=k->l.sh true=true->gd D w v o (af D w l)->(∀g,D g->¬(g=m\/g=r))->ug o l->Mk w m n->jK w r F->m≠r->n+o.length+l.bvs.length<=4294967296->o.length+l.tot<=4294967296->
 (∀v' w' F' n',Kq m r w w'->Mk w' m n'->jK w' r F'->Rn n n' (o++l.bvs) F F'->aB (Be w) w' (o.map F',l.map F') v'->R v' w')->Calls Tryz.prog 217 #[ptr m,v,.map (some r)] w (ax [.v] R)
theorem Bg (f:Nat->Nat):∀l:Lv,(l.map f).len=l.len:=by intro l;induction l<;>simp_all [Lv.map,Lv.len]
theorem Db:∀(l:Lv) (i:Nat),(l.take i).bvs.Sublist l.bvs:=by
 intro l
 induction l with
 | nil=>intro i;cases i<;>simp [Lv.take,Lv.bvs]
 | thr k a b o r n _ z=>
  intro i;cases i with
  | zero=>simp [Lv.take,Lv.bvs]
  | succ i=>exact LK (La _) (LK (La _) (LK (La _) (z i)))
 | sum G n _ z=>
  intro i;cases i with
  | zero=>simp [Lv.take,Lv.bvs]
  | succ i=>exact LK (La _) (z i)
 | part o q n _ z=>
  intro i;cases i with
  | zero=>simp [Lv.take,Lv.bvs]
  | succ i=>exact LK (La _) (LK (La _) (z i))
theorem CR {o:List Nat}{l e:Lv}{i:Nat}(h:ug o l)(I:l.take (i+1)=(l.take i).app e):(∀x∈o++(l.take i).bvs,x∉e.bvs)/\(l.take i).bvs.length+e.bvs.length<=l.bvs.length:=by
 have z:((l.take i).bvs++e.bvs).Sublist l.bvs:=by rw [<-Lv.dA,<-I];exact Db l _
 have G:=KL.1 h.nd;refine⟨λx J H=>?_,by have :=z.length_le;rwa [J']at this⟩;rcases Ke.1 J with h | h
 ·exact G.2.2 x h x (z.subset (KB _ H)) rfl
 ·exact(KL.1 (G.2.1.sublist z)).2.2 x h x H rfl
theorem yy (k:Nat)(ih:∀j,j< k->Hq j):Hq k:=by
 intro D w v o l m r n F R hn hsh h hD huq hmk hmf ο hnn htot hR;refine lz (ptr m) v (.map (some r)) w R ?_;refine⟨rfl,λb4 w5 hb4 hw5 b6 w7 hb6 hw7=>?_⟩;have x5:Ex w w5:=hw5▸Ex.alloc w _;have x57:Ex w5 w7:=hw7▸Ex.alloc w5 _;have x7:=Ex.trans x5 x57;have s5:w5.heap.size=w.heap.size+1:=by rw [hw5,size_alloc]
 have s7:w7.heap.size=w5.heap.size+1:=by rw [hw7,size_alloc]
 have hlm:=hmk.lt;have hlr:=hmf.lt;obtain⟨bl,vo,vt,ts,rfl,h2,h3,h4,h5,h6,h7,h8⟩:=h;obtain⟨ao,capo,hvo⟩:=h6.slice;rw [Kz]at hvo;obtain⟨at_,capt,hvt⟩:=h7.slice;have hlen:=h8.len;have hel:=Lv.cT l;have hlt:=cn l;have nd:=huq.nd;have ndo:=KL.1 nd;have cbl:∀{w1:World},Kq m r w w1->∀{j:Nat} {u:Value},w.cell? ⟨bl,j,none⟩=some u->w1.cell? ⟨bl,j,none⟩=some u:=λx j u hu=>by
  rw [J1 (w:=w) (x.kp.block bl h3 (hD bl h2))];exact hu
 have bd7:kB w.heap.size w7 b6 [] [] λg=>g=b6:=kB.new (by omega) hb6 hw7
 have ci7:CI w w7 m r b4 b6 n n [] F F [] .nil [] λg=>g=b6:=
  ⟨(Kq.refl m r w).ex x7 hlm,hmk.ex x7,hmf.kp (Kp.ah x7 λ _=>False) (λh=>h),Rn.refl n F,by rw [x57.cell (show b4< _ by omega),hw5,hb4];exact aa rfl,by omega,by omega,by omega,bd7,rfl,hlm,hlr,ο⟩
 refine⟨bl,0,rfl,vo,cbl ci7.kq h4,ao,_,capo,hvo,λx w'=>∃(j n1:Nat) (F1:Nat->Nat) (M:Nat->Prop),x=j/\j<=o.length/\CI w w' m r b4 b6 n n1 (o.take j) F F1 ((o.take j).map F1) .nil [] M,λx _=>(o.length - x).toNat,⟨0,n,F,_,rfl,KT _,ci7⟩,λx w17 hI=>?_⟩;obtain⟨j,n1,F1,M,rfl,hj,ci⟩:=hI;refine⟨λhlt0=>?_,λhge=>?_⟩
 ·
  have hjo:j< o.length:=by simp only [J4]at hlt0;omega
  obtain⟨bo,oo,ς,hvo',hco⟩:∃bo oo ς,vo= .slice (some ⟨bo,oo,none⟩) o.length ς/\w17.cell? ⟨bo,oo+j,none⟩=some (iv o[j]):=by
   rcases h6 with⟨_,h0⟩ | ⟨bo,oo,ς,e,hbD,hb',υ⟩
   ·rw [ML]at h0;rw [h0]at hjo;simp at hjo
   ·rw [Kz]at e;exact⟨bo,oo,ς,e,by rw [J1 (w:=w) (ci.kq.kp.block bo hb' (hD bo hbD))];exact υ j _ (by simp [hjo])⟩
  refine⟨bo,oo,_,ς,hvo',by omega,by omega,(o[j]:Nat),by rw [J9,KK];exact hco,λw'=>Kq m r w17 w',λw24 hw24=>?_⟩;have x24:Ex w17 w24:=hw24▸Ex.drew w17;have l17m:=ci.mc.lt;have l17r:=ci.mf.lt;have h4':=ci.h4;have rn1:=ci.rn.len;rw [KP,MD hj]at rn1;have q24:Kq m r w17 w24:=(Kq.refl m r w17).ex x24 l17m;have c4:∀{w1:World},Kq m r w17 w1->w1.cell? ⟨b4,0,none⟩=some (.map (some r)):=λq=>by rw [J1 (w:=w17) (q.kp.block b4 ci.l4 (λe=>by rcases e with e | e<;>omega))];exact ci.c4
  refine⟨q24,_,λw' q=>c4 q,r7 (ci.mc.ex x24) (by omega) λw27 k27 m27=>?_⟩;have q27:Kq m r w17 w27:=q24.km k27;have mf27:jK w27 r F1:=(ci.mf.kp (Kp.ah x24 λ _=>False) (λh=>h)).kp k27.kp (λe=>ο e.symm);obtain⟨mm,hm1,hm2⟩:=mf27;refine⟨q27,r,mm,rfl,hm1,λw30 hm30 hb30=>?_⟩;have q30:Kq m r w17 w30:=q27.blk hb30 l17m ο;have mk30:Mk w30 m (n1+1):=m27.kp (S:=λg=>g=r) ⟨hb30.os,hb30.tape,hb30.output,by rw [hb30.size];exact Kb _,λg _ G=>hb30.block g G⟩ ο;have mf30:jK w30 r (aF F1 o[j] (n1+101)):=sf hm2 hm30;have hMr:∀g,M g->¬(g=m\/g=r):=λg G e=>by have :=(ci.bd.mr g G).1;omega
  have bd30:=ci.bd.kp q30.kp hMr;obtain⟨vo1,vt1,d0,d1,d2,d3,d4,d5,d6⟩:=bd30.sl;refine⟨λw'=>Kp w30 w' λg=>vo1.ownBlock=some g,λjm hw32=>?_⟩;have x32:Ex w30 jm:=hw32▸Ex.drew w30;have s30:=q30.size;have nob6:¬vo1.ownBlock=some b6:=λe=>(d4 b6 e).2 rfl
  have nob4:¬vo1.ownBlock=some b4:=λe=>ci.m4 (d4 b4 e).1
  refine⟨Kp.ah x32 _,vo1,λw' k=>by rw [J1 (w:=w30) (k.block b6 bd30.lt nob6)];exact d0,.map (some r),λw' k=>by rw [J1 (w:=w30) (k.block b4 (by have :=ci.l4;omega) nob4)];exact c4 q30,r,_,rfl,aU hm30 (x32.block r (bX hm30)),((n1+101:Nat):Int),true,.inl ⟨rfl,?_⟩,Kp.ah x32 _,λb39 w40 hb39 hw40=>?_⟩
  ·unfold bK;simp
  have x40:Ex jm w40:=hw40▸Ex.alloc jm _;have Z:=Ex.trans x32 x40;have bd40:=bd30.ex Z;have s40:=Z.size;have hB40:w.heap.size<=w40.heap.size:=by have :=ci.kq.size;omega
  refine⟨Kp.ah Z _,aP.push (d2.kp (Kp.ah Z λ _=>False) λ _ _ h=>h) hB40 (m:=[iv (n1+101)]) (D:=λ _=>True) (.inr ⟨b39,0,1,rfl,trivial,by rw [hw40,size_alloc,hb39];omega,λi y hy=>?_⟩) (by rfl) (by omega) (by simp only [Kz,J0,Kh,KP];omega) λv46 w47 ho47 hg47 hn47=>?_⟩
  ·cases i with
   | zero=>simp only [Lh,Lw]at hy;subst hy;rw [hw40,hb39];exact aa rfl
   | succ i=>simp at hy
  have k47:Kp w40 w47 λg=>vo1.ownBlock=some g:=Kp.aQ hg47 λ _ h=>h
  have e6:=k47.block b6 bd40.lt nob6;have c60:w40.cell? ⟨b6,0,none⟩=some vo1:=by rw [Z.cell (show b6< _ from bd30.lt)];exact d0
  refine⟨Kp.trans (Kp.ah Z _) k47 λ _ _ h=>h,ho47.iL,⟨⟨vo1,by rw [J1 (w:=w40) e6];exact c60⟩,by rw [KC (w:=w40) e6];exact bd40.fr 0⟩,λw49 hw49=>⟨by unfold aj;omega,?_,by show((o.length:Int) - ((j:Int)+1)).toNat< ((o.length:Int) - j).toNat;omega⟩⟩;have hoj:o[j]∉o.take j:=λhm=>by
   have h1:=ndo.1;rw [<-Li j o,K0 hjo]at h1;exact(KL.1 h1).2.2 _ hm _ (KR ..) rfl
  have hmapj:(o.take j).map F1=(o.take j).map (aF F1 o[j] (n1+101)):=Lk λx hx=>by
   have:x≠o[j]:=λe=>hoj (by rw [<-e];exact hx)
   simp only [aF,Ko this]
  have ho47':aP 3 w.heap.size w47 v46 (((o.take (j+1)).map (aF F1 o[j] (n1+101))).map iv):=by
   rw [J8 hjo,K3,K3,<-hmapj];simp only [KE,L6,aF,LN];exact ho47
  obtain⟨bd49,k49⟩:=bd40.Jv c60 k47 ho47' hn47 hw49;have ε:∀g,M g->w.heap.size<=g:=λg G=>(ci.bd.mr g G).1
  have φ:∀g,v46.ownBlock=some g->M g\/w40.heap.size<=g:=λg G=>(hn47 g G).imp (λe=>(d4 g e).1) id
  have q17:Kq m r w w30:=ci.kq.trans q30;refine⟨j+1,n1+1,aF F1 o[j] (n1+101),λg=>M g\/v46.ownBlock=some g,by omega,by omega,?_⟩;refine⟨(q17.ex Z hlm).out k49 (λg G hM=>by have :=ε g hM;omega) hlm,(mk30.ex Z).kp k49 λhM=>by have :=ε _ hM;omega,(mf30.kp (Kp.ah Z λ _=>False) (λh=>h)).kp k49 λhM=>by have :=ε _ hM;omega,?_,?_,?_,h4',?_,bd49,rfl,hlm,hlr,ο⟩
  ·rw [J8 hjo];exact ci.rn.app (Rn.one n1 o[j] F1) λx hx hx'=>hoj (by cases Kf.1 hx';exact hx)
  ·rw [J1 (w:=w40) (k49.block b4 (by have :=ci.l4;omega) ci.m4),Z.cell (show b4< _ by have :=ci.l4;omega)];exact c4 q30
  ·have :=k49.size;have :=ci.l4;omega
  ·intro hM;rcases hM with hM | hM
   ·exact ci.m4 hM
   ·rcases φ b4 hM with h | h
    ·exact ci.m4 h
    ·have :=ci.l4;omega
 ·
  have hjo:j=o.length:=by simp only [J6]at hge;omega
  subst hjo;rw [KA]at ci;refine⟨bl,0,rfl,vt,cbl ci.kq h5,at_,_,capt,hvt,λx w'=>∃(i n2:Nat) (F2:Nat->Nat) (M2:Nat->Prop) (ts2:List Value),x=i/\i<=ts.length/\CI w w' m r b4 b6 n n2 (o++(l.take i).bvs) F F2 (o.map F2) ((l.take i).map F2) ts2 M2,λx _=>(ts.length - x).toNat,⟨0,n1,F1,M,[],rfl,KT _,by simpa [Lv.take,Lv.bvs,Lv.map]using ci⟩,λx J hI=>?_⟩;obtain⟨i,n2,F2,M2,ts2,rfl,hi,V⟩:=hI;refine⟨λhlt1=>?_,λhge1=>?_⟩;rotate_left
  ·have hie:i=l.bB.length:=by simp only [J6]at hge1;omega
   rw [hie,Lv.di]at V;exact hR _ J F2 n2 V.kq V.mc V.mf V.rn (V.bd.Jc (λg _ G=>G) (af.sub (λg _ G=>G.1.1) V.th))
  have hil:i< ts.length:=by simp only [J4]at hlt1;omega
  have hie:i< l.bB.length:=by omega
  have q59:=V.kq;obtain⟨bt,ot,ζ,hvt',hct⟩:∃bt ot ζ,vt= .slice (some ⟨bt,ot,none⟩) ts.length ζ/\J.cell? ⟨bt,ot+i,none⟩=some ts[i]:=by
   rcases h7 with⟨_,h0⟩ | ⟨bt,ot,ζ,e,hbD,hb',υ⟩
   ·rw [h0]at hil;simp at hil
   ·exact⟨bt,ot,ζ,e,by rw [J1 (w:=w) (q59.kp.block bt hb' (hD bt hbD))];exact υ i _ (J2 hil)⟩
  obtain⟨e,he1,he2,he3⟩:=aM.single h8.bB (J2 hil);have he4:l.bB[i]=e:=by rw [J2 hie]at he1;exact KS he1
  have hts:=Lv.take_succ l i hie;rw [he4]at hts;have hsz:=Lv.eD l e he2;have htt:=Lv.gv l e he2;have huqe:=huq.bB he2;have H:=V.mc.lt;have hl59r:=V.mf.lt;have s59:=q59.size;have h4':=V.h4;have rn2:=V.rn.len;have bvs2:(l.take (i+1)).bvs=(l.take i).bvs++e.bvs:=by rw [hts,Lv.dA]
  rw [J']at rn2;obtain⟨hdis,bvt⟩:=CR huq hts;have keepO:∀{n3 F3},Rn n2 n3 e.bvs F2 F3->o.map F3=o.map F2/\(l.take i).map F3=(l.take i).map F2:=λ{n3 F3} rn=>by
   refine⟨Lk λx hx=>rn.out x (hdis x (KH _ hx)),cL λx hx=>rn.out x λhxe=>?_⟩;rcases hx with hx | hx
   ·exact hdis x (KB _ hx) hxe
   ·exact huq.nf x ((Lv.mH l e he2).subset hxe) (oz l i hx)
  have fin:∀(z:Nat) (I:World) (n3:Nat) (F3:Nat->Nat),J.heap.size<=z->z< I.heap.size->Kq m r J I->Mk I m n3->jK I r F3->Rn n2 n3 e.bvs F2 F3->af (λg=>J.heap.size<=g/\g< I.heap.size) I (e.map F3) [ptr z]->
    ∃v195:Value,World.cell? I ⟨b6,1,none⟩=some v195/\∀(b196:Nat) (W:World),b196=Array.size (World.heap I)->W=World.alloc I (Obj.cells #[(Value.pointer (some ⟨z,0,none⟩))] 156)->∃(χ n199 m200:Nat) (xs201 news202:List Value),World.ownsRow W χ 156 1 v195 n199 xs201/\χ<=Array.size (World.heap W)/\dW W (Value.slice (some ⟨b196,0,none⟩) 1 1) m200 1 news202/\(n199+m200<=maxLen/\(n199+m200)* 8<=140737488355328)/\
     ∀(v203:Value) (ψ:World),World.ownsRow ψ χ 156 1 v203 (n199+m200) (xs201++news202)->World.grownBy W ψ (Value.ownBlock v195)->(∀b:Nat,Value.ownBlock v203=some b->Value.ownBlock v195=some b\/Array.size (World.heap W)<=b)->oneV v203=true/\((∃u205:Value,World.cell? ψ ⟨b6,1,none⟩=some u205)/\World.frozen? ψ ⟨b6,1,none⟩=false)/\∀ν:World,ν=World.setCell ψ ⟨b6,1,none⟩ v203->
      aj ((i:Int)+1)/\(∃(i2 n4:Nat) (F4:Nat->Nat) (M4:Nat->Prop) (ts4:List Value),(i:Int)+1=i2/\i2<=ts.length/\CI w ν m r b4 b6 n n4 (o++(l.take i2).bvs) F F4 (o.map F4) ((l.take i2).map F4) ts4 M4)/\((ts.length:Int) - ((i:Int)+1)).toNat< ((ts.length:Int) - i).toNat:=by
   intro z I n3 F3 h68 l68 β mk172 mf172 η γ;have hMr:∀g,M2 g->¬(g=m\/g=r):=λg G e=>by
    have :=(V.bd.mr g G).1;rcases e with e | e<;>omega
   obtain⟨ko,kl⟩:=keepO η;have bd172:=V.bd.kp β.kp hMr;obtain⟨vo1,vt1,d0,d1,d2,d3,d4,d5,d6⟩:=bd172.sl;refine⟨vt1,d1,λb196 W hb196 hw197=>?_⟩;have θ:Ex I W:=hw197▸Ex.alloc I _;have s197:W.heap.size=I.heap.size+1:=by rw [hw197,size_alloc]
   have s172:=β.size;have bd197:=bd172.ex θ;have hlts:ts2.length<=ts.length:=by
    have h1:=V.th.len;have h2:=Bg F2 (l.take i);have :=Lv.gT l i;omega
   refine aP.push (d3.kp (Kp.ah θ λ _=>False) λ _ _ h=>h) (by omega) (m:=[ptr z]) (D:=λ _=>True) (.inr ⟨b196,0,1,rfl,trivial,by omega,λi y hy=>?_⟩) (by rfl) (by omega) (by simp only [J0,Kh];omega) λv203 ψ ho204 hg204 hn204=>?_
   ·cases i with
    | zero=>simp only [Lh,Lw]at hy;subst hy;rw [hw197,hb196];exact aa rfl
    | succ i=>simp at hy
   have k204:Kp W ψ λg=>vt1.ownBlock=some g:=Kp.aQ hg204 λ _ h=>h
   have e6:=k204.block b6 bd197.lt λe=>(d5 b6 e).2 rfl
   have c61:W.cell? ⟨b6,1,none⟩=some vt1:=by rw [θ.cell (show b6< _ from bd172.lt)];exact d1
   refine⟨ho204.iL,⟨⟨vt1,by rw [J1 (w:=W) e6];exact c61⟩,by rw [KC (w:=W) e6];exact bd197.fr 1⟩,λν hw206=>⟨by unfold aj;omega,?_,by omega⟩⟩;obtain⟨bd206,ω⟩:=bd197.IK c61 k204 ho204 hn204 hw206;have ε:∀g,M2 g->w.heap.size<=g/\g< J.heap.size:=V.bd.mr;have φ:∀g,v203.ownBlock=some g->M2 g\/W.heap.size<=g:=λg G=>(hn204 g G).imp (λe=>(d5 g e).1) id
   have q206:Kq m r w ν:=((q59.trans β).ex θ hlm).out ω (λg G hM=>by have :=(ε g hM).1;omega) hlm;have s206:=ω.size;have l4:=V.l4;have hth1:af (λg=>(w.heap.size<=g/\¬(M2 g\/v203.ownBlock=some g)/\g≠b4)/\g< ν.heap.size) ν ((l.take i).map F3) ts2:=by
    rw [kl];refine af.sub (λg _ G=>⟨⟨G.1.1,λhM=>hM.elim G.1.2.1 λe=>(φ g e).elim G.1.2.1 λh=>by omega,G.1.2.2⟩,by omega⟩) (af.kp ω (λg G hM=>G.1.2.1 hM) (af.ex (af.kp β.kp (λg G e=>by
     have :=G.1.1;rcases e with e | e<;>omega) V.th) θ))
   have hth2:af (λg=>(w.heap.size<=g/\¬(M2 g\/v203.ownBlock=some g)/\g≠b4)/\g< ν.heap.size) ν (e.map F3) [ptr z]:=
    af.sub (λg _ G=>⟨⟨by omega,λhM=>hM.elim (λh=>by have :=(ε g h).2;omega) λe=>(φ g e).elim (λh=>by have :=(ε g h).2;omega) λh=>by omega,by omega⟩,by omega⟩) (af.kp ω (λg G hM=>by have :=(ε g hM).2;omega) (af.ex γ θ))
   refine⟨i+1,n3,F3,λg=>M2 g\/v203.ownBlock=some g,ts2++[ptr z],by omega,by omega,⟨q206,(mk172.ex θ).kp ω λhM=>by have :=(ε _ hM).1;omega,(mf172.kp (Kp.ah θ λ _=>False) (λh=>h)).kp ω λhM=>by have :=(ε _ hM).1;omega,?_,?_,by omega,h4',λhM=>?_,by rw [ko];exact bd206,?_,hlm,hlr,ο⟩⟩
   ·rw [bvs2,<-KN];exact V.rn.app η hdis
   ·rw [J1 (w:=W) (ω.block b4 (by omega) V.m4),θ.cell (show b4< _ by omega),J1 (w:=J) (β.kp.block b4 l4 λe=>by rcases e with e | e<;>omega)];exact V.c4
   ·rcases hM with hM | hM
    ·exact V.m4 hM
    ·rcases φ b4 hM with h | h
     ·exact V.m4 h
     ·omega
   ·rw [hts,Lv.fq];exact af.app hth1 hth2
  refine⟨bt,ot,_,ζ,hvt',by omega,by omega,ts[i],by rw [J9,KK];exact hct,?_⟩;have h26:=huqe.ge;have l4:=V.l4;have c4b:∀{w1:World},Kq m r J w1->w1.cell? ⟨b4,0,none⟩=some (.map (some r)):=λq=>by
   rw [J1 (w:=J) (q.kp.block b4 l4 λe=>by rcases e with e | e<;>omega)];exact V.c4
  rcases Lv.jJ hsh e he2 with⟨kk,a,b,o',q,rfl,hq⟩ | ⟨ps,rfl,hps⟩
  ·obtain⟨t,ts',a',b',vr,e1,ht,hkk,hlv,_⟩:=he3;obtain⟨rfl,rfl⟩:=K8 e1;obtain⟨g,G,hgD,hg2,c0,c1,c2,c3,c4'⟩:=ht;have cg:∀{w1:World},Kq m r J w1->∀{j:Nat} {u:Value},w.cell? ⟨g,j,none⟩=some u->w1.cell? ⟨g,j,none⟩=some u:=λx j u hu=>by
    rw [J1 (w:=w) ((q59.trans x).kp.block g hg2 (hD g hgD))];exact hu
   have q0:=Kq.refl m r J;simp only [Lv.sz]at hsz;simp only [Lv.tot]at htt;obtain⟨u1,u2⟩:=huqe.thr;have ebv:(Lv.thr kk a b o' q .nil).bvs=(if kk= .r then [b]else [])++(o'++q.bvs):=by simp [Lv.bvs]
   rw [ebv]at bvt;simp only [J']at bvt;refine⟨g,0,G,kk.byte,cg q0 c0,λz α hb68 hw69=>⟨λw'=>∃(n3:Nat) (F3:Nat->Nat) (a1 b1:Nat),Kq m r J w'/\Mk w' m n3/\jK w' r F3/\Rn n2 n3 (if kk= .r then [b]else []) F2 F3/\kH w' z kk.byte a1 b1 (.pointer none) (.slice none 0 0)/\(kk= .t\/kk= .p\/(a1=F3 a/\b1=F3 b)),⟨g,0,G,kk.byte,?_,?_⟩,λw146 hJ=>?_⟩⟩
   all_goals have x69:Ex J α:=hw69▸Ex.alloc J _
   all_goals have μ:Kq m r J α:=q0.ex x69 H
   ·exact cg μ c0
   ·have th69:kH α z kk.byte 0 0 (.pointer none) (.slice none 0 0):=kH.new hb68 hw69;have mk69:=V.mc.ex x69;have mf69:=V.mf.kp (Kp.ah x69 λ _=>False) (λh=>h);have two:(kk= .s\/kk= .m)->∃S106:World->Prop,∀ξ:World,ξ=World.drew α->S106 ξ/\∃(b108 o109:Nat),ts[i]=Value.pointer (some ⟨b108,o109,none⟩)/\∃n110:Int,(∀w',S106 w'->World.cell? w' ⟨b108,(o109+1),none⟩=some (Value.int IntKind.i64 n110))/\∃(b111 o112:Nat),ts[i]=Value.pointer (some ⟨b111,o112,none⟩)/\∃n113:Int,(∀w',S106 w'->World.cell? w' ⟨b111,(o112+2),none⟩=some (Value.int IntKind.i64 n113))/\∃(f114:Nat) (ca115:List Value),(Value.func (Fn.func 239) #[] #[(Value.pointer (some ⟨b4,0,none⟩))])=Value.func (Fn.func f114) #[] (List.toArray ca115)/\List.contains dh f114=true/\Calls Tryz.prog f114 (List.toArray ([(Value.int IntKind.i64 n110)]++ca115)) ξ (ax [.i] fun(n116:Int) (w117:World)=>S106 w117/\∃(f118:Nat) (ca119:List Value),(Value.func (Fn.func 239) #[] #[(Value.pointer (some ⟨b4,0,none⟩))])=Value.func (Fn.func f118) #[] (List.toArray ca119)/\List.contains dh f118=true/\Calls Tryz.prog f118 (List.toArray ([(Value.int IntKind.i64 n113)]++ca119)) w117 (ax [.i] fun(n120:Int) (w121:World)=>S106 w121/\((∃u122:Value,World.cell? w121 ⟨z,1,none⟩=some u122)/\World.frozen? w121 ⟨z,1,none⟩=false)/\∀w123:World,w123=World.setCell w121 ⟨z,1,none⟩ (Value.int IntKind.i64 n116)->((∃u124:Value,World.cell? w123 ⟨z,2,none⟩=some u124)/\World.frozen? w123 ⟨z,2,none⟩=false)/\∀w125:World,w125=World.setCell w123 ⟨z,2,none⟩ (Value.int IntKind.i64 n120)->
      ∃(n3:Nat) (F3:Nat->Nat) (a1 b1:Nat),Kq m r J w125/\Mk w125 m n3/\jK w125 r F3/\Rn n2 n3 (if kk= .r then [b]else []) F2 F3/\kH w125 z kk.byte a1 b1 (.pointer none) (.slice none 0 0)/\(kk= .t\/kk= .p\/(a1=F3 a/\b1=F3 b)))):=by
     intro hk2;obtain⟨rfl,rfl⟩:a'=a/\b'=b:=by
      rcases hkk with h | h | h
      ·rw [h]at hk2;simp at hk2
      ·rw [h]at hk2;simp at hk2
      ·exact h
     refine⟨λw'=>Ex α w',λξ hw107=>⟨hw107▸Ex.drew α,g,0,G,a',λw' x=>cg (μ.ex x H) c1,g,0,G,b',λw' x=>cg (μ.ex x H) c2,239,[ptr b4],rfl,by kernel_rfl,?_⟩⟩;have x107:Ex α ξ:=hw107▸Ex.drew α;have q107:=μ.ex x107 H;have mf107:=mf69.kp (Kp.ah x107 λ _=>False) (λh=>h);refine zb (c4b q107) mf107 ⟨x107,239,[ptr b4],rfl,by kernel_rfl,zb (c4b q107) mf107 ⟨x107,?_⟩⟩;have th107:kH ξ z kk.byte 0 0 (.pointer none) (.slice none 0 0):=th69.kp (Kp.ah x107 λ _=>False) λh=>h
     refine⟨⟨⟨_,th107.c1⟩,th107.f 1⟩,λw123 hw123=>?_⟩;have th123:=th107.yn (x:=F2 a') hw123;refine⟨⟨⟨_,th123.c2⟩,th123.f 2⟩,λw125 hw125=>?_⟩;have th125:=th123.tU (x:=F2 b') hw125;have kb:Kr z ξ w125:=Kr.trans (hw123▸Kr.set ξ 1 _) (hw125▸Kr.set w123 2 _);have hkr:¬kk= .r:=λe=>by rw [e]at hk2;simp at hk2
     rw [Ko hkr];exact⟨n2,F2,F2 a',F2 b',q107.out kb (λg G e=>by omega) H,(mk69.ex x107).kp kb (by omega),mf107.kp kb (by omega),Rn.refl n2 F2,th125,.inr (.inr ⟨rfl,rfl⟩)⟩
    have zero:(kk= .t\/kk= .p)->∃(n3:Nat) (F3:Nat->Nat) (a1 b1:Nat),Kq m r J α/\Mk α m n3/\jK α r F3/\Rn n2 n3 (if kk= .r then [b]else []) F2 F3/\kH α z kk.byte a1 b1 (.pointer none) (.slice none 0 0)/\(kk= .t\/kk= .p\/(a1=F3 a/\b1=F3 b)):=by
     intro hk2;have hkr:¬kk= .r:=λe=>by rw [e]at hk2;simp at hk2
     rw [Ko hkr];exact⟨n2,F2,0,0,μ,mk69,mf69,Rn.refl n2 F2,th69,hk2.elim .inl λh=> .inr (.inl h)⟩
    cases kk
    case s=>exact aV (by decide) ⟨λ _=>dc (by decide) (two (.inl rfl)),λh=>absurd h (by decide)⟩
    case m=>exact aV (by decide) ⟨λh=>absurd h (by decide),λ _=>dc (by decide) (two (.inr rfl))⟩
    case t=>exact aV (by decide) ⟨λh=>absurd h (by decide),λ _=>aV (by decide) (zero (.inl rfl))⟩
    case p=>exact aV (by decide) ⟨λh=>absurd h (by decide),λ _=>aV (by decide) (zero (.inr rfl))⟩
    case r=>
     obtain⟨rfl,rfl⟩:a'=a/\b'=b:=by rcases hkk with h | h | h<;>first | exact h | cases h
     obtain⟨v1,v2,v3,v4⟩:=u2 rfl;simp only [LN,J0,Kh]at bvt;refine dc (by decide) ⟨g,0,G,a',cg μ c1,239,[ptr b4],rfl,by kernel_rfl,zb (c4b μ) mf69 ⟨⟨⟨_,th69.c1⟩,th69.f 1⟩,λw82 hw82=>⟨λw'=>Kq m r J w',λw84 hw84=>?_⟩⟩⟩;have th82:=th69.yn (x:=F2 a') hw82;have kb82:Kr z α w82:=hw82▸Kr.set α 1 _;have x84:Ex w82 w84:=hw84▸Ex.drew w82;have q82:Kq m r J w82:=μ.out kb82 (λg G e=>by omega) H;have q84:=q82.ex x84 H;have mk82:=mk69.kp kb82 (by omega);have mf82:=mf69.kp kb82 (by omega);refine⟨q84,_,λw' q=>c4b q,g,0,G,b',λw' q=>cg q c2,r7 (mk82.ex x84) (by omega) λw90 k90 m90=>?_⟩;have q90:=q84.km k90;have th90:=(th82.kp (Kp.ah x84 λ _=>False) λh=>h).kp k90.kp (by omega);obtain⟨mm,hm1,hm2⟩:=(mf82.kp (Kp.ah x84 λ _=>False) (λh=>h)).kp k90.kp (λe=>ο e.symm);refine⟨q90,r,mm,rfl,hm1,λw93 hm93 hb93=>?_⟩;have kr93:Kp w90 w93 (λg=>g=r):=⟨hb93.os,hb93.tape,hb93.output,by rw [hb93.size];exact Kb _,λg _ G=>hb93.block g G⟩
     have q93:=q90.blk hb93 H ο;have mk93:=m90.kp kr93 ο;have th93:=th90.kp kr93 (by omega);refine⟨λw'=>Ex w93 w',λw95 hw95=>?_⟩;have x95:Ex w93 w95:=hw95▸Ex.drew w93;have q95:=q93.ex x95 H;have th95:=th93.kp (Kp.ah x95 λ _=>False) λh=>h
     refine⟨x95,_,λw' x=>c4b (q93.ex x H),g,0,G,b',λw' x=>cg (q93.ex x H) c2,r,_,rfl,aU hm93 (x95.block r (bX hm93)),((n2+101:Nat):Int),true,.inl ⟨rfl,by unfold bK;simp⟩,⟨⟨_,th95.c2⟩,th95.f 2⟩,λw105 hw105=>?_⟩;have kb105:Kr z w95 w105:=hw105▸Kr.set w95 2 _;refine⟨n2+1,aF F2 b' (n2+101),F2 a',n2+101,q95.out kb105 (λg G e=>by omega) H,(mk93.ex x95).kp kb105 (by omega),((sf hm2 hm93).kp (Kp.ah x95 λ _=>False) (λh=>h)).kp kb105 (by omega),Rn.one n2 b' F2,th95.tU hw105,.inr (.inr ⟨?_,?_⟩)⟩
     ·exact(Ko λe=>v2 e.symm).symm
     ·simp [aF]
   ·obtain⟨n3,F3,a1,b1,q146,mk146,mf146,rn146,th146,hab⟩:=hJ;have hbr:∃br,vr=ptr br:=by obtain⟨br,_,_,_,e,_⟩:=hlv;exact⟨br,e⟩
    obtain⟨br,rfl⟩:=hbr;have h68:J.heap.size<=z:=by omega
    refine⟨λw'=>∃(n4:Nat) (F4:Nat->Nat) (vr2:Value),Kq m r J w'/\Mk w' m n4/\jK w' r F4/\Rn n2 n4 ((if kk= .r then [b]else [])++(o'++q.bvs)) F2 F4/\kH w' z kk.byte a1 b1 vr2 (.slice none 0 0)/\aB (λg=>J.heap.size<=g/\g< w'.heap.size) w' (o'.map F4,q.map F4) vr2/\(kk= .t\/kk= .p\/(a1=F4 a/\b1=F4 b)),⟨g,0,G,ptr br,cg q146 c3,some ⟨br,0,none⟩,rfl,λ _=>⟨λw'=>Kq m r J w',λw153 hw153=>?_⟩,λh=>by cases h⟩,λw162 hJ=>?_⟩
    ·have x153:Ex w146 w153:=hw153▸Ex.drew w146;have q153:=q146.ex x153 H;have rl:=rn146.len;have hb1:(if kk= .r then [b]else []).length=if kk= .r then 1 else 0:=by split<;>rfl
     have hl153:gd D w153 (ptr br) o' (af D w153 q):=hlv.kp (q59.trans q153).kp hD λl h=>h.kp (q59.trans q153).kp hD
     refine⟨q153,g,0,G,ptr br,λw' x=>cg x c3,_,λw' x=>c4b x,ih q.sz (by omega) (Kb _) hq hl153 hD u1 (mk146.ex x153) (mf146.kp (Kp.ah x153 λ _=>False) (λh=>h)) ο (by omega) (by omega) λv158 w159 F4 n4 q159 mk159 mf159 rn159 l159=>?_⟩;have s153:=x153.size;have hb68l:=th146.lt;have th159:=(th146.kp (Kp.ah x153 λ _=>False) λh=>h).kp q159.kp (by omega);refine⟨l159.one,⟨⟨_,th159.c3⟩,th159.f 3⟩,λw161 hw161=>?_⟩;have kb161:Kr z w159 w161:=hw161▸Kr.set w159 3 _;have s159:=q159.size;have s161:=kb161.size;have ndb:=huqe.nd;rw [KZ,ebv]at ndb;have nfb:=huqe.nf;rw [ebv]at nfb;have hdis2:=(KL.1 ndb).2.2;refine⟨n4,F4,v158,(q153.trans q159).out kb161 (λg G e=>by omega) H,mk159.kp kb161 (by omega),mf159.kp kb161 (by omega),rn146.app rn159 (λx hx hx'=>hdis2 x hx x hx' rfl),th159.BQ hw161,?_,?_⟩
     ·exact aB.sub (aB.kp (aB.sub (E:=λg=>w153.heap.size<=g/\g< w159.heap.size) l159 λg G hd=>⟨hd,G⟩) kb161 λg G e=>by omega) λg _ G=>⟨by have :=q153.size;omega,by omega⟩
     ·rcases hab with h | h | ⟨ha,hb⟩
      ·exact .inl h
      ·exact .inr (.inl h)
      ·by_cases hkt:kk= .t\/kk= .p
       ·exact hkt.elim .inl λh=> .inr (.inl h)
       ·right;right;have hfa:a∉o'++q.bvs:=λhm=>nfb a (KB _ hm) (by
         cases kk
         ·exact .inl ⟨.inl rfl,.inl rfl⟩
         ·exact .inr (.inl ⟨rfl,rfl⟩)
         ·exact absurd (.inl rfl) hkt
         ·exact .inl ⟨.inr rfl,.inl rfl⟩
         ·exact absurd (.inr rfl) hkt)
        have hfb:b∉o'++q.bvs:=λhm=>by
         by_cases hkr:kk= .r
         ·have :=u2 hkr;exact(Ke.1 hm).elim this.2.2.1 this.2.2.2
         ·exact nfb b (KB _ hm) (by
           cases kk
           ·exact .inl ⟨.inl rfl,.inr rfl⟩
           ·exact absurd rfl hkr
           ·exact absurd (.inl rfl) hkt
           ·exact .inl ⟨.inr rfl,.inr rfl⟩
           ·exact absurd (.inr rfl) hkt)
        rw [rn159.out a hfa,rn159.out b hfb];exact⟨ha,hb⟩
    ·obtain⟨n4,F4,vr2,q162,mk162,mf162,rn162,th162,l162,hab4⟩:=hJ;refine⟨g,0,G,.slice none 0 0,cg q162 c4',none,0,0,rfl,λy w'=>y=0/\w'=w162,λ _ _=>0,⟨rfl,rfl⟩,λy I hy=>?_⟩;obtain⟨rfl,rfl⟩:=hy;refine⟨λh=>by simp at h,λ _=>fin z I n4 F4 h68 th162.lt q162 mk162 mf162 (by rw [ebv];exact rn162) ?_⟩;refine⟨ptr z,[],a1,b1,vr2,rfl,th162.Ix ⟨h68,th162.lt⟩,?_,l162,rfl⟩;rcases hab4 with h | h | ⟨h1,h2⟩
     ·exact .inl h
     ·exact .inr (.inl h)
     ·by_cases hkt:kk= .t\/kk= .p
      ·exact hkt.elim .inl λh=> .inr (.inl h)
      ·exact .inr (.inr ⟨by rw [Ko hkt];exact h1,by rw [Ko hkt];exact h2⟩)
  ·obtain⟨t,ts',a',b',vp,us,e1,ht,hus,hps2,_⟩:=he3;obtain⟨rfl,rfl⟩:=K8 e1;obtain⟨g,G,hgD,hg2,c0,c1,c2,c3,c4'⟩:=ht;have cg:∀{w1:World},Kq m r J w1->∀{j:Nat} {u:Value},w.cell? ⟨g,j,none⟩=some u->w1.cell? ⟨g,j,none⟩=some u:=λx j u hu=>by
    rw [J1 (w:=w) ((q59.trans x).kp.block g hg2 (hD g hgD))];exact hu
   have q0:=Kq.refl m r J;have uq:=huqe.sum;have ebv:(Lv.sum ps .nil).bvs=ps.bvs:=by simp [Lv.bvs]
   rw [ebv]at bvt;simp only [Lv.sz]at hsz;simp only [Lv.tot]at htt;obtain⟨au,cau,hvu⟩:=hus.slice;have hul:=hps2.len;have hpl:=Lv.cT ps;have hpt:=cn ps;refine⟨g,0,G,43,cg q0 c0,λz α hb68 hw69=>⟨λw'=>w'=α,⟨g,0,G,43,?_,aV (by decide) ⟨λh=>absurd h (by decide),λ _=>aV (by decide) rfl⟩⟩,λw146 hJ=>⟨λw'=>w'=α,?_,λw162 hJ2=>?_⟩⟩⟩
   all_goals have x69:Ex J α:=hw69▸Ex.alloc J _
   all_goals have μ:Kq m r J α:=q0.ex x69 H
   ·exact cg μ c0
   ·subst hJ;exact⟨g,0,G,.pointer none,cg μ c3,none,rfl,λh=>(by cases h),λ _=>rfl⟩
   subst hJ2;have h68:J.heap.size<=z:=by omega
   have th69:kH w162 z 43 0 0 (.pointer none) (.slice none 0 0):=kH.new hb68 hw69;refine⟨g,0,G,vp,cg μ c4',au,_,cau,hvu,λy w'=>∃(j n3:Nat) (F3:Nat->Nat) (δ:Value) (us2:List Value),y=j/\j<=us.length/\Kq m r J w'/\Mk w' m n3/\jK w' r F3/\Rn n2 n3 (ps.take j).bvs F2 F3/\kH w' z 43 0 0 (.pointer none) δ/\aP 146 J.heap.size w' δ us2/\(∀g,δ.ownBlock=some g->g≠z)/\af (λg=>(J.heap.size<=g/\g≠z/\δ.ownBlock≠some g)/\g< w'.heap.size) w' ((ps.take j).map F3) us2,
    λy _=>(us.length - y).toNat,⟨0,n2,F2,.slice none 0 0,[],rfl,KT _,μ,V.mc.ex x69,V.mf.kp (Kp.ah x69 λ _=>False) (λh=>h),Rn.refl n2 F2,th69,aP.nil _ _ _,λg G=>(by cases G),rfl⟩,λy I hI2=>?_⟩
   obtain⟨j,n3,F3,δ,us2,rfl,hj,β,mk172,mf172,η,γ,ho172,hnb,ht172⟩:=hI2;refine⟨λhlt2=>?_,λhge2=>?_⟩;rotate_left
   ·have hje:j=ps.bB.length:=by simp only [J6]at hge2;omega
    rw [hje,Lv.di]at η ht172;refine fin z I n3 F3 h68 γ.lt β mk172 mf172 (by rw [ebv];exact η) ⟨ptr z,[],0,0,δ,us2,rfl,γ.Ix ⟨h68,γ.lt⟩,ho172.BN (λg G=>ho172.block g G),af.sub (λg _ G=>⟨G.1.1,G.2⟩) ht172,rfl⟩
   have hju:j< us.length:=by simp only [J4]at hlt2;omega
   have hje:j< ps.bB.length:=by omega
   obtain⟨bu,ou,capu',hvu',hcu⟩:∃bu ou capu',vp= .slice (some ⟨bu,ou,none⟩) us.length capu'/\I.cell? ⟨bu,ou+j,none⟩=some us[j]:=by
    rcases hus with⟨_,h0⟩ | ⟨bt,ot,ζ,e,hbD,hb',υ⟩
    ·rw [h0]at hju;simp at hju
    ·exact⟨bt,ot,ζ,e,by rw [J1 (w:=w) ((q59.trans β).kp.block bt hb' (hD bt hbD))];exact υ j _ (J2 hju)⟩
   obtain⟨e,hf1,hf2,hf3⟩:=aM.single hps2.bB (J2 hju);have hf4:ps.bB[j]=e:=by rw [J2 hje]at hf1;exact KS hf1
   have hts2:=Lv.take_succ ps j hje;rw [hf4]at hts2;obtain⟨hdis2,bvt2⟩:=CR uq hts2;have huqe2:=uq.bB hf2;have hsz2:=Lv.eD ps e hf2;have htt2:=Lv.gv ps e hf2;obtain⟨o2,q,rfl,hq⟩:=Lv.mD hps e hf2;simp only [Lv.sz]at hsz2;simp only [Lv.tot]at htt2;have ebv2:(Lv.part o2 q .nil).bvs=o2++q.bvs:=by simp [Lv.bvs]
   rw [ebv2]at bvt2 hdis2;rw [J']at bvt2;obtain⟨v2,ts3,e2,hlv2,_⟩:=hf3;obtain⟨rfl,rfl⟩:=K8 e2;have rl:=η.len;have s172:=β.size;refine⟨bu,ou,_,capu',hvu',by omega,by omega,us[j],by rw [J9,KK];exact hcu,λw'=>Kp I w' λg=>g=m\/g=r\/δ.ownBlock=some g,λw179 hw179=>?_⟩;have ι:Ex I w179:=hw179▸Ex.drew I;have q179:=β.ex ι H;have hob:=ho172.block;have hb68l:=γ.lt;have nb68:¬(z=m\/z=r\/δ.ownBlock=some z):=λe=>by
    rcases e with e | e | e
    ·omega
    ·omega
    ·exact hnb _ e rfl
   have nb4:¬(b4=m\/b4=r\/δ.ownBlock=some b4):=λe=>by
    rcases e with e | e | e
    ·omega
    ·omega
    ·have :=hob _ e;omega
   have hl179:gd D w179 us[j] o2 (af D w179 q):=hlv2.kp (q59.trans q179).kp hD λl h=>h.kp (q59.trans q179).kp hD
   refine⟨Kp.ah ι _,δ,λw' k=>by rw [J1 (w:=I) (k.block z hb68l nb68)];exact γ.c4,.map (some r),λw' k=>by rw [J1 (w:=I) (k.block b4 (by omega) nb4)];exact c4b β,?_⟩;refine ih q.sz (by omega) (Kb _) hq hl179 hD huqe2.part (mk172.ex ι) (mf172.kp (Kp.ah ι λ _=>False) (λh=>h)) ο (by omega) (by omega) λv182 w183 F4 n4 q183 mk183 mf183 rn183 l183=>?_
   have k183:Kp I w183 λg=>g=m\/g=r\/δ.ownBlock=some g:=Kp.trans (Kp.ah ι _) (Kp.mono (λg e=>e.elim .inl λe=> .inr (.inl e)) q183.kp) λ _ _ h=>h
   refine⟨k183,l183.one,λb184 w185 hb184 hw185=>?_⟩;have κ:Ex w183 w185:=hw185▸Ex.alloc w183 _;have s185:w185.heap.size=w183.heap.size+1:=by rw [hw185,size_alloc]
   have s179:=ι.size;have s183:=q183.size;have hMr:∀g,δ.ownBlock=some g->¬(g=m\/g=r):=λg G e=>by
    have :=hob g G;rcases e with e | e<;>omega
   have ho185:aP 146 J.heap.size w185 δ us2:=((ho172.kp (Kp.ah ι λ _=>False) λ _ _ h=>h).kp q183.kp hMr).kp (Kp.ah κ λ _=>False) λ _ _ h=>h
   have hlu:us2.length<=us.length:=by
    have h1:=ht172.len;have h2:=Bg F3 (ps.take j);have :=Lv.gT ps j;omega
   refine⟨Kp.trans k183 (Kp.ah κ λ _=>False) λ _ _ h=>h.elim,aP.push ho185 (by omega) (m:=[v182]) (D:=λ _=>True) (.inr ⟨b184,0,1,rfl,trivial,by omega,λi y hy=>?_⟩) (by simp only [Lg,MT,Mu];exact l183.one) (by omega) (by simp only [J0,Kh];omega) λv191 w192 ho192 hg192 hn192=>?_⟩
   ·cases i with
    | zero=>simp only [Lh,Lw]at hy;subst hy;rw [hw185,hb184];exact aa rfl
    | succ i=>simp at hy
   have k192:Kp w185 w192 λg=>δ.ownBlock=some g:=Kp.aQ hg192 λ _ h=>h
   have th185:=((γ.kp (Kp.ah ι λ _=>False) λh=>h).kp q183.kp (λe=>by rcases e with e | e<;>omega)).kp (Kp.ah κ λ _=>False) λh=>h
   have th192:=th185.kp k192 λe=>hnb _ e rfl
   refine⟨Kp.trans (Kp.trans k183 (Kp.ah κ λ _=>False) λ _ _ h=>h.elim) k192 λg _ h=> .inr (.inr h),ho192.iL,⟨⟨_,th192.c4⟩,th192.f 4⟩,λw194 hw194=>⟨by unfold aj;omega,?_,by show((us.length:Int) - ((j:Int)+1)).toNat< ((us.length:Int) - j).toNat;omega⟩⟩;have kb194:Kr z w192 w194:=hw194▸Kr.set w192 4 _;have k194:Kp w185 w194 λg=>δ.ownBlock=some g\/g=z:=Kp.trans (Kp.mono (λ _ h=> .inl h) k192) kb194 λ _ _ h=> .inr h
   have s194:=k194.size;have hnew:∀g,v191.ownBlock=some g->δ.ownBlock=some g\/w185.heap.size<=g:=hn192;have q185:Kq m r J w185:=(q179.trans q183).ex κ H;have vJ:(ps.take j).map F4=(ps.take j).map F3:=cL λx hx=>rn183.out x λhxe=>by
    rcases hx with hx | hx
    ·exact hdis2 x hx hxe
    ·exact uq.nf x ((Lv.mH ps _ hf2).subset (by rw [ebv2];exact hxe)) (oz ps j hx)
   have hS:∀g,(δ.ownBlock=some g\/g=z)->J.heap.size<=g:=λg e=>e.elim (λe=>(hob g e).1) λe=>by omega
   refine⟨j+1,n4,F4,v191,us2++[v182],by omega,by omega,q185.out k194 (λg G e=>by have :=hS g e;omega) H,(mk183.ex κ).kp k194 (λe=>by have :=hS _ e;omega),(mf183.kp (Kp.ah κ λ _=>False) (λh=>h)).kp k194 (λe=>by have :=hS _ e;omega),?_,th192.HS hw194,ho192.kp kb194 (λg G e=>?_),λg G e=>?_,?_⟩
   ·rw [hts2,Lv.dA,ebv2];exact η.app rn183 hdis2
   ·rcases hnew g G with h | h
    ·exact hnb g h e
    ·omega
   ·rcases hnew g G with h | h
    ·exact hnb g h e
    ·omega
   ·rw [hts2,Lv.fq,vJ];refine af.app ?_ ?_
    ·refine af.sub (λg _ G=>⟨⟨G.1.1,G.1.2.1,λe=>(hnew g e).elim G.1.2.2 λh=>by omega⟩,by omega⟩) (af.kp k194 (λg G e=>e.elim G.1.2.2 G.1.2.1) (af.ex (af.kp q183.kp (λg G e=>by
      have :=G.1.1;rcases e with e | e<;>omega) (af.ex ht172 ι)) κ))
    ·refine⟨v182,[],rfl,?_,rfl⟩;have l183':=aB.sub (E:=λg=>w179.heap.size<=g/\g< w183.heap.size) l183 λg G hd=>⟨hd,G⟩
     exact aB.sub (aB.kp (aB.ex l183' κ) k194 λg G e=>by
      rcases e with e | e
      ·have :=hob g e;omega
      ·omega) λg _ G=>⟨⟨by omega,by omega,λe=>(hnew g e).elim (λh=>by have :=hob g h;omega) λh=>by omega⟩,by omega⟩
theorem Dg (k:Nat):Hq k:=by
 induction k using Nat.strongRecOn with
 | _ k z=>exact yy k z
def BU (acc:List Tx)(s:Tx):List Tx:=if acc.getLast?=some s then acc else acc++[s]
def dd (l:List Tx):List Tx:=l.foldl BU []
theorem jL (l:List Tx)(s:Tx):dd (l++[s])=BU (dd l) s:=by unfold dd;rw [List.foldl_append];rfl
theorem E':∀l:List Tx,(dd l).getLast?=l.getLast?:=by
 intro l;rcases List.eq_nil_or_concat l with rfl | ⟨l,s,rfl⟩
 ·rfl
 ·rw [List.concat_eq_append,jL];unfold BU;split
  ·rename_i h;rw [h];simp
  ·simp
theorem EF (l:List Tx):(dd l).length<=l.length:=by
 have:∀n (l:List Tx),l.length=n->(dd l).length<=l.length:=by
  intro n
  induction n with
  | zero=>intro l h;have :=KD h;subst this;exact Kb _
  | succ n z=>
   intro l h;rcases List.eq_nil_or_concat l with rfl | ⟨l,s,rfl⟩
   ·exact Kb _
   ·rw [List.concat_eq_append]at h|-;rw [jL];have h2:=z l (by simpa using h);unfold BU;split
    ·simp;omega
    ·simp;omega
 exact this _ l rfl
theorem HD {l:List Tx}:∀s,s∈dd l↔s∈l:=by
 have:∀n (l:List Tx),l.length=n->∀s,s∈dd l↔s∈l:=by
  intro n
  induction n with
  | zero=>intro l h;have :=KD h;subst this;intro s;exact M5
  | succ n z=>
   intro l h s;rcases List.eq_nil_or_concat l with rfl | ⟨l,x,rfl⟩
   ·exact M5
   ·rw [List.concat_eq_append]at h|-;rw [jL];have h2:=z l (by simpa using h);unfold BU;split
    ·rename_i G;rw [h2,Ke,Kf];refine⟨.inl,λh=>h.elim id λe=>?_⟩;subst e;exact(h2 s).1 (List.mem_of_getLast? G)
    ·simp [h2]
 exact this _ l rfl
structure Hm (B:Nat)(w:World)(r:Nat)(l:List Tx)(bad:Bool)(M:Nat->Prop):Prop where
 lt:r< w.heap.size
 mb:M r
 mr:∀g,M g->B<=g/\g< w.heap.size
 f:∀j,w.frozen? ⟨r,j,none⟩=false
 c1:w.cell? ⟨r,1,none⟩=some (.bool bad)
 sl:∃v,w.cell? ⟨r,0,none⟩=some v/\Own B w v l/\∀g,v.ownBlock=some g->M g/\g≠r
theorem Hm.kp {B:Nat}{w w':World}{r:Nat}{l:List Tx}{bad:Bool}{M S:Nat->Prop}(h:Hm B w r l bad M)(k:Kp w w' S)(G:∀g,M g->¬S g):Hm B w' r l bad M:=by
 have e:=k.block r h.lt (G r h.mb);obtain⟨v,I,h2,H⟩:=h.sl;exact⟨Kx h.lt k.size,h.mb,λg z=>⟨(h.mr g z).1,Kx (h.mr g z).2 k.size⟩,λj=>by rw [KC (w:=w) e];exact h.f j,by rw [J1 (w:=w) e];exact h.c1,v,by rw [J1 (w:=w) e];exact I,h2.kp k λg z=>G g (H g z).1,H⟩
theorem Own.iL {B:Nat}{w:World}{v:Value}{l:List Tx}(h:Own B w v l):oneV v=true:=by
 rcases h.2 with⟨rfl,_⟩ | ⟨g,cap,cur,rfl,_⟩<;>rfl
theorem HW {B:Nat}{w:World}{r:Nat}{l:List Tx}{bad:Bool}{M:Nat->Prop}{s:Tx}{ok:Bool}(h:Hm B w r l bad M)(hl:l.length<=1099511627775){R:World->Prop}
  (hR:∀w' M',Kp w w' M->Hm B w' r (l++[s]) (bad|| !ok) M'->(∀g,M' g->M g\/w.heap.size<=g)->R w'):Calls Tryz.prog 99 #[ptr r,.string (ab s),.bool ok] w (ax [] R):=by
 refine mQ (ptr r) s ok w R ?_;obtain⟨v,h1,h2,h3⟩:=h.sl;refine⟨r,0,rfl,v,h1,λb7 w8 η Z=>?_⟩;have x8:Ex w w8:=Z▸Ex.alloc w _;have s8:w8.heap.size=w.heap.size+1:=by rw [Z,size_alloc]
 have hB:=(h.mr r h.mb).1;have α:=h.lt;refine Own.push (h2.ex x8) (by omega) (Strs.one η Z) (by simp only [J0,Kh];omega) λβ H _ J ε W=>?_
 have γ:Kp w8 H λg=>v.ownBlock=some g:=Kp.aQ ε λ _ h=>h
 have δ:=γ.block r (by omega) λe=>(h3 r e).2 rfl
 have ι:=γ.size;have c0:H.cell? ⟨r,0,none⟩=some v:=by rw [J1 (w:=w8) δ,x8.cell (show r< _ from α)];exact h1
 have c1:H.cell? ⟨r,1,none⟩=some (.bool bad):=by rw [J1 (w:=w8) δ,x8.cell (show r< _ from α)];exact h.c1
 have f15:∀j,H.frozen? ⟨r,j,none⟩=false:=λj=>by rw [KC (w:=w8) δ,Lr x8 α];exact h.f j
 refine⟨r,0,rfl,J.iL,⟨⟨_,c0⟩,f15 0⟩,λθ z=>⟨r,0,rfl,bad,?_,λhb=>⟨r,0,rfl,⟨⟨.bool bad,?_⟩,?_⟩,λV G=>?_⟩,λhb=>⟨r,0,rfl,⟨⟨.bool bad,?_⟩,?_⟩,λV G=>?_⟩⟩⟩
 ·rw [z,J7 _ _ _ _ (by simp)];exact c1
 ·rw [z,J7 _ _ _ _ (by simp)];exact c1
 ·rw [z,Kt];exact f15 1
 rotate_left
 ·rw [z,J7 _ _ _ _ (by simp)];exact c1
 ·rw [z,Kt];exact f15 1
 all_goals
  have kk:Kr r H V:=Kr.trans (z▸Kr.set H 0 _) (G▸Kr.set θ 1 _);have κ:=kk.size;have ζ:∀g,β.ownBlock=some g->g≠r:=λg I=>(W g I).elim (λe=>(h3 g e).2) λe=>by omega
  have kM:Kp w V M:=Kp.trans (Kp.trans (Kp.ah x8 M) (Kp.mono (λg e=>(h3 g e).1) γ) λ _ _ h=>h) kk λg _ e=>by rw [e];exact h.mb
  refine hR V (λg=>M g\/β.ownBlock=some g) kM ⟨by omega,.inl h.mb,λg I=>?_,λj=>?_,?_,β,?_,J.kp kk ζ,λg I=>⟨.inr I,ζ g I⟩⟩ λg I=>I.elim .inl λe=>(W g e).elim (λe=> .inl (h3 g e).1) λh=> .inr (by omega)
  ·rcases I with I | I
   ·have :=h.mr g I;omega
   ·have :=J.block g I;omega
  ·rw [G,Kt,z,Kt];exact f15 j
  ·rw [G]
   first
    | (rw [hb,MH];exact Kj _ _ _ (u:= .bool bad) (by rw [z,J7 _ _ _ _ (by simp)];exact c1))
    | (rw [hb,Bool.true_or];exact Kj _ _ _ (u:= .bool bad) (by rw [z,J7 _ _ _ _ (by simp)];exact c1))
  ·rw [G,J7 _ _ _ _ (by simp),z];exact Kj _ _ _ c0
theorem FU {w:World}{R:World->Prop}(z:R w):Calls Tryz.prog 115 #[.slice none 0 0] w (ax [] R):=by
 refine(Any.slices_Sort_string_none zz none 0 w).mono ?_
 rintro e w' ⟨rfl,rfl⟩
 exact⟨rfl,z⟩
theorem yP {l:List Tx}(h:l.length< 2):dd l=l:=by
 match l,h with
 | [],_=>rfl
 | [a],_=>rfl
theorem CJ {B:Nat}{w w':World}{g cap n j:Nat}{l:List Tx}{x:Tx}(h:Own B w (.slice (some ⟨g,0,none⟩) n cap) l)(hw:w'=w.setCell ⟨g,j,none⟩ (.string (ab x)))(z:j< l.length):Own B w' (.slice (some ⟨g,0,none⟩) n cap) (l.set j x):=by
 have G:aP 9 B w (.slice (some ⟨g,0,none⟩) n cap) (l.map sv):=by unfold aP;rw [Kz];exact h
 have :=G.set hw (by simpa using z);rw [show Value.string (ab x)=sv x from rfl,<-List.map_set]at this;unfold aP at this;rw [Kz]at this;exact this
theorem ox {B:Nat}{w:World}{g cap n j:Nat}{l:List Tx}(h:Own B w (.slice (some ⟨g,0,none⟩) n cap) l)(I:j< l.length):w.cell? ⟨g,j,none⟩=some (.string (ab l[j]))/\w.frozen? ⟨g,j,none⟩=false/\n=l.length/\l.length<=cap:=by
 rcases h.2 with⟨G,_⟩ | ⟨Z,z,cur,H,J,V,W,h2,h3,h4⟩
 ·cases G
 ·cases H;refine⟨?_,?_,rfl,W⟩
  ·rcases h.strs with⟨G,_⟩ | ⟨b,off,z,H,_,hc⟩
   ·cases G
   ·cases H;have :=hc j _ (J2 I)
    rwa [KF]at this
  ·unfold World.frozen?;simp [V]
theorem uI {B:Nat}{w:World}{v:Value}{l:List Tx}(h:Own B w v l)(hl:l.length<=1099511627776){R:Value->World->Prop}
  (hR:∀v' w',Kp w w' (λg=>v.ownBlock=some g)->Strs w' v' (dd l)->(∀g,v'.ownBlock=some g->v.ownBlock=some g)->R v' w'):Calls Tryz.prog 149 #[v] w (ax [.v] R):=by
 refine iH v w R ?_;obtain⟨ao,cap,hv⟩:=h.strs.slice;have kx:∀{w1:World},Ex w w1->Kp w w1 (λg=>v.ownBlock=some g):=λx=>Kp.ah x _
 refine⟨ao,_,cap,hv,λhs=>?_,λhs=>?_⟩
 ·have h2:l.length< 2:=by simp only [J4]at hs;omega
  refine hR v w (kx (Ex.refl w)) ?_ λ _ h=>h
  rw [yP h2];exact h.strs
 have h2:2<=l.length:=by simp only [J6]at hs;omega
 obtain⟨g,rfl⟩:∃g,v= .slice (some ⟨g,0,none⟩) l.length cap:=by
  rcases h.2 with⟨_,h0⟩ | ⟨g,cap',cur,η,_⟩
  ·omega
  ·rw [η]at hv;cases hv;exact⟨g,η⟩
 have hcap:=(ox h (j:=0) (by omega)).2.2.2;refine⟨λk w'=>∃n:Nat,k=n/\1<=n/\n<=l.length/\dd (l.take n)=l.take n/\Ex w w',λk _=>(l.length - k).toNat,⟨1,rfl,Kb _,by omega,by rw [yP];rw [KP];omega,Ex.refl w⟩,λk w8 hI=>?_⟩;obtain⟨z,rfl,hk1,θ,Z,x8⟩:=hI;refine⟨_,_,cap,rfl,λhlt=>?_,λhge=>?_⟩;rotate_left
 ·have:z=l.length:=by simp only [J6]at hge;omega
  rw [this,KA]at Z;refine hR _ w8 (kx x8) ?_ λ _ h=>h
  rw [Z];exact h.strs.ex x8
 have δ:z< l.length:=by simp only [J4]at hlt;omega
 refine⟨λw'=>Ex w8 w',λw13 ι=>?_⟩;have κ:Ex w8 w13:=ι▸Ex.drew w8;have I:=Ex.trans x8 κ;have o13:=h.ex I;refine⟨κ,g,0,_,cap,rfl,by omega,by omega,l[z],λw' x=>?_,by unfold aj;omega,g,0,_,cap,rfl,by omega,by omega,l[z - 1]'(by omega),λw' x=>?_,λheq=>?_,λJ=>?_⟩
 ·rw [J9,KK,KF];exact(ox (h.ex (Ex.trans x8 x)) δ).1
 ·rw [show((z:Int) - 1).toNat=z - 1 by omega,KK,KF];exact(ox (h.ex (Ex.trans x8 x)) (by omega)).1
 rotate_left
 ·simp only [J6]at J;refine⟨by unfold aj;omega,⟨z+1,by omega,by omega,by omega,?_,I⟩,by show((l.length:Int) - ((z:Int)+1)).toNat< ((l.length:Int) - z).toNat;omega⟩;rw [J8 δ,jL,Z];unfold BU;have:(l.take z).getLast?≠some l[z]:=λe=>by
   rw [MA,KP,MD θ,LD (by omega),J2 (by omega)]at e;exact J (KS e).symm
  rw [Ko this]
 simp only [J4]at heq;have hsl:(if cap=(z:Int).toNat then(some ⟨g,0,none⟩:Option Addr)else Option.map (λx:Addr=>x.add ((z:Int).toNat* 1)) (some ⟨g,0,none⟩))=some ⟨g,z,none⟩:=by
  rw [Ko (by omega),LR,add_plain,J9,KK,KF]
 refine⟨_,_,cap,rfl,by omega,by omega,by omega,λk kk w'=>∃(n i:Nat) (C:List Tx),k=n/\kk=i/\1<=i/\z+i<=l.length/\n< z+i/\C.length=l.length/\Own B w' (.slice (some ⟨g,0,none⟩) l.length cap) C/\C.take n=dd (l.take (z+i))/\C.drop (z+i - 1)=l.drop (z+i - 1)/\Kp w w' (λb=>(Value.slice (some ⟨g,0,none⟩) l.length cap).ownBlock=some b),
  λ _ kk _=>(l.length - kk).toNat,⟨z,1,l,rfl,rfl,Kb _,by omega,by omega,rfl,o13,?_,rfl,kx I⟩,λk kk V hI=>?_⟩
 ·rw [J8 δ,jL,Z];unfold BU;rw [KG];rw [MA,KP,MD θ,LD (by omega),J2 (by omega),heq]
 obtain⟨n,i,C,rfl,rfl,hi1,hi2,hn,hC,G,ht,hd,μ⟩:=hI;have hnC:n<=C.length:=by omega
 rw [hsl];refine⟨_,_,_,rfl,λν=>?_,λξ=>?_⟩
 ·have α:z+i< l.length:=by simp only [J4]at ν;omega
  have e1:C[z+i]'(by omega)=l[z+i]:=by
   have :=Lb (fun(x:List Tx)=>x[1]?) hd;simp only [List.getElem?_drop]at this;rw [show z+i - 1+1=z+i by omega,J2 (by omega),J2 α]at this;exact KS this
  have e2:C[z+i - 1]'(by omega)=l[z+i - 1]'(by omega):=by
   have :=Lb (fun(x:List Tx)=>x[0]?) hd;simp only [List.getElem?_drop]at this;rw [MF,J2 (by omega),J2 (by omega)]at this;exact KS this
  refine⟨λw'=>Ex V w',λο ς=>?_⟩;have β:Ex V ο:=ς▸Ex.drew V;have ε:=G.ex β;have υ:=Kp.trans μ (Kp.ah β λ _=>False) λ _ _ h=>h.elim
  have rd:∀{w':World},Ex V w'->∀j (hj:j< C.length),w'.cell? ⟨g,j,none⟩=some (.string (ab C[j])):=λx j hj=>(ox (G.ex x) hj).1
  have W:(dd (l.take (z+i))).getLast?=some (l[z+i - 1]'(by omega)):=by
   rw [E',MA,KP,MD hi2,LD (by omega),J2 (by omega)]
  have φ:dd (l.take (z+(i+1)))=BU (dd (l.take (z+i))) l[z+i]:=by
   rw [<-Mt,J8 α,jL]
  refine⟨β,g,z,_,_,rfl,by omega,by omega,C[z+i]'(by omega),λw' x=>?_,by unfold aj;omega,g,z,_,_,rfl,by omega,by omega,C[z+i - 1]'(by omega),λw' x=>?_,λJ=>?_,λγ=>?_⟩
  ·rw [J9,KK];exact rd x _ _
  ·rw [show z+((i:Int) - 1).toNat* 1=z+i - 1 by omega];exact rd x _ _
  ·have χ:l[z+i]≠l[z+i - 1]'(by omega):=by
    rw [<-e1,<-e2];intro e;rw [e]at J;simp at J
   refine⟨g,z,_,_,rfl,by omega,by omega,C[z+i]'(by omega),by rw [J9,KK];exact rd β _ _,g,0,_,cap,rfl,by omega,by omega,?_,λw57 H=>⟨by unfold aj;omega,by unfold aj;omega,⟨n+1,i+1,C.set n (C[z+i]'(by omega)),by omega,by omega,by omega,by omega,by omega,by simpa using hC,?_,?_,?_,?_⟩,by show((l.length:Int) - ((i:Int)+1)).toNat< ((l.length:Int) - i).toNat;omega⟩⟩
   ·rw [J9,KK,KF];have :=ox ε (j:=n) (by omega);exact⟨⟨_,this.1⟩,this.2.1⟩
   ·rw [J9,KK,KF]at H;exact CJ ε H (by omega)
   ·rw [J8 (by simpa using(by omega:n< C.length)),Nq (Kb _),ht,φ];unfold BU;rw [W,Ko (λe=>χ (KS e).symm),List.getElem_set_self,e1]
   ·have:C.drop (z+i)=l.drop (z+i):=by
     have :=Lb (fun(x:List Tx)=>x.drop 1) hd;simp only [M7]at this
     rwa [show z+i - 1+1=z+i by omega]at this
    rw [show z+(i+1) - 1=z+i by omega,List.drop_set_of_lt hn,this]
   ·rw [J9,KK,KF]at H;exact Kp.trans υ (H▸Kr.set ο n _) λb _ e=>by rw [e];rfl
  ·have ψ:l[z+i]=l[z+i - 1]'(by omega):=by
    rw [<-e1,<-e2];have:decide (C[z+i]'(by omega)=C[z+i - 1]'(by omega))=true:=by
     cases hd:decide (C[z+i]'(by omega)=C[z+i - 1]'(by omega))with
     | true=>rfl
     | false=>rw [hd]at γ;cases γ
    exact Kv this
   refine⟨by unfold aj;omega,⟨n,i+1,C,rfl,by omega,by omega,by omega,by omega,hC,ε,?_,?_,υ⟩,by show((l.length:Int) - ((i:Int)+1)).toNat< ((l.length:Int) - i).toNat;omega⟩
   ·rw [ht,φ];unfold BU;rw [W,KG (by rw [ψ])]
   ·have :=Lb (fun(x:List Tx)=>x.drop 1) hd;simp only [M7]at this;rw [show z+i - 1+1=z+i by omega]at this;rw [show z+(i+1) - 1=z+i by omega];exact this
 ·have α:z+i=l.length:=by simp only [J6]at ξ;omega
  rw [α,KA]at ht;have hs2:(if cap=(n:Int).toNat then(some ⟨g,0,none⟩:Option Addr)else Option.map (λx:Addr=>x.add ((n:Int).toNat* 1)) (some ⟨g,0,none⟩))=some ⟨g,n,none⟩:=by
   rw [Ko (by omega),LR,add_plain,J9,KK,KF]
  have hs3:(if cap=(0:Int).toNat then(some ⟨g,0,none⟩:Option Addr)else Option.map (λx:Addr=>x.add ((0:Int).toNat* 1)) (some ⟨g,0,none⟩))=some ⟨g,0,none⟩:=by
   rw [Ko (by have:(0:Int).toNat=0:=rfl;omega),LR,add_plain];rfl
  refine⟨_,_,cap,rfl,by omega,by omega,by omega,_,_,_,rfl,.inr ⟨g,n,hs2,λj hj=>?_,λw66 ω=>⟨_,_,cap,rfl,by omega,by omega,by omega,?_⟩⟩⟩
  ·have :=ox G (j:=n+j) (by omega);exact⟨⟨_,this.1⟩,this.2.1⟩
  rw [hs3];obtain⟨ζ,_,c66,_⟩:=aX (b:=g) (List.replicate (Int.toNat (l.length:Int) - Int.toNat (n:Int)) (.string ⟨#[]⟩)) V n;rw [<-ω]at ζ c66;have hdl:(dd l).length=n:=by rw [<-ht,KP];omega
  have hb31:=(G.block g rfl).2;have s66:=ζ.size;refine hR _ w66 (Kp.trans μ ζ λb _ e=>by rw [e];rfl) (.inr ⟨g,0,cap,?_,by omega,λj x hx=>?_⟩) λb hb=>by cases hb;rfl
  ·rw [hdl];simp
  ·have hj:j< n:=by
    have :=(KX.1 hx).1;omega
   rw [KF,c66 j hj,(ox G (j:=j) (by omega)).1];rw [<-ht,LD hj,J2 (by omega)]at hx;rw [KS hx]
end Go.Proofs.YtdecokaadekjnaaGreat
namespace Go.Proofs.YtdecokaadekjnaaGreat
open Go
set_option maxRecDepth 100000
theorem jS (s1:Value)(v2:ay)(w:World)(R:Int->World->Prop)(h:bM s1 λl4=>eM 0 w λV J z G=>ai (decide (z< (l4:Int))) (aJ s1 z λb10 H=>bZ G b10 (H+z.toNat* 1) λI=>ai (decide (v2=I)) (R z G) (aj (z+1)/\V (z+1) G/\J (z+1) G< J z G)) (R (-1) G)):
  Calls Tryz.prog 107 #[s1,(.string (ab v2))] w (ax [.i] R):=
 bs (bn [(2,[(8,.i)])] [] []) [.tmp 4 .i] [.v s1,.s v2] Tryz.func107 (by kernel_rfl) h
theorem ia (s1:Value)(v2:ay)(w:World)(R:Bool->World->Prop)(h:iU 107 #[s1,(.string (ab v2))] w λz G=>R ((decide (0<=z))) G):
  Calls Tryz.prog 63 #[s1,(.string (ab v2))] w (ax [.b] R):=
 bs (bn [] [] []) [.tmp 4 .b] [.v s1,.s v2] Tryz.func63 (by kernel_rfl) h
theorem qX (p1:ay)(w:World)(R:Value->Bool->World->Prop)(h:oA 135 #[(.string (ab p1))] w λv2 q3 w4=>ai (!q3) (R (.pointer none) false w4) (bO w4 λS5 w6=>az v2 λb7 o8=>iq S5 b7 (o8+1) λs9=>az v2 λb10 o11=>iq S5 b10 (o11+1) λψ=>(aN w6 (.cells #[(.string (ab ψ))] 9) λω w14=>S5 w14/\aN w14 (Obj.map #[] 0) λb15 w16=>S5 w16/\oneV (.slice (some ⟨ω,0,none⟩) 1 1)=true/\oneV (.map (some b15))=true/\aN w16 (.cells #[(.string (ab s9)),(.slice (some ⟨ω,0,none⟩) 1 1),(.map (some b15))] 59) λI w18=>S5 w18/\eM 0 w18 λI19 m20 i21 β=>aS β I 1 λv23=>bM v23 λl25=>ai (decide (i21< (l25:Int))) (aS β I 1 λv27=>aJ v27 i21 λb28 o29=>bZ β b28 (o29+i21.toNat* 1) λs32=>cB 92 #[(.string (ab s32))] β λv33 w34=>oA 136 #[v33] w34 λυ q36 w37=>ai (!q36) (R (.pointer none) false w37) (bO w37 λφ w39=>ct φ I 2 λv40=>ct φ I 1 λv41=>aJ v41 i21 λb42 o43=>iq φ b42 (o43+i21.toNat* 1) λs46=>∃(η:Nat) (m48:Value->Option Value),v40= .map (some η)/\IsMap w39 η .string m48/\∀χ:World,IsMap χ η .string (bK m48 (.string (ab s46)) υ)->bc w39 χ η->bM υ λl51=>eM 0 χ λI53 θ H J=>ai (decide (H< (l51:Int))) (aJ υ H λb57 o58=>bZ J b57 (o58+H.toNat* 1) λs61=>aS J I 1 λv62=>ck 63 #[v62,(.string (ab s61))] J λq63 ι=>ai (!q63) (aS ι I 1 λv65=>aN ι (.cells #[(.string (ab s61))] 9) λb66 w67=>eu 9 1 16 w67 v65 (.slice (some ⟨b66,0,none⟩) 1 1) λv73 w74=>oneV v73=true/\bg w74 I 1 v73 λw76=>aj (H+1)/\I53 (H+1) w76/\θ (H+1) w76< θ H J) (aj (H+1)/\I53 (H+1) ι/\θ (H+1) ι< θ H J)) (aS J I 1 λv77=>bM v77 λl79=>ai (decide (60< (l79:Int))) (R (.pointer none) false J) (aj (i21+1)/\I19 (i21+1) J/\m20 (i21+1) J< m20 i21 β)))) (R ((.pointer (some ⟨I,0,none⟩))) true β))/\(aN w6 (Obj.map #[] 0) λb81 w82=>S5 w82/\aN w82 (.cells #[(.string (ab ψ))] 9) λb83 w84=>S5 w84/\oneV (.slice (some ⟨b83,0,none⟩) 1 1)=true/\oneV (.map (some b81))=true/\aN w84 (.cells #[(.string (ab s9)),(.slice (some ⟨b83,0,none⟩) 1 1),(.map (some b81))] 59) λV w86=>S5 w86/\eM 0 w86 λI87 m88 i89 γ=>aS γ V 1 λv91=>bM v91 λl93=>ai (decide (i89< (l93:Int))) (aS γ V 1 λv95=>aJ v95 i89 λb96 o97=>bZ γ b96 (o97+i89.toNat* 1) λs100=>cB 92 #[(.string (ab s100))] γ λv101 w102=>oA 136 #[v101] w102 λδ q104 κ=>ai (!q104) (R (.pointer none) false κ) (bO κ λε μ=>ct ε V 2 λv108=>ct ε V 1 λv109=>aJ v109 i89 λb110 o111=>iq ε b110 (o111+i89.toNat* 1) λs114=>∃(W:Nat) (ν:Value->Option Value),v108= .map (some W)/\IsMap μ W .string ν/\∀ζ:World,IsMap ζ W .string (bK ν (.string (ab s114)) δ)->bc μ ζ W->bM δ λl119=>eM 0 ζ λξ Z z G=>ai (decide (z< (l119:Int))) (aJ δ z λb125 o126=>bZ G b125 (o126+z.toNat* 1) λο=>aS G V 1 λv130=>ck 63 #[v130,(.string (ab ο))] G λq131 α=>ai (!q131) (aS α V 1 λv133=>aN α (.cells #[(.string (ab ο))] 9) λb134 w135=>eu 9 1 16 w135 v133 (.slice (some ⟨b134,0,none⟩) 1 1) λv141 w142=>oneV v141=true/\bg w142 V 1 v141 λς=>aj (z+1)/\ξ (z+1) ς/\Z (z+1) ς< Z z G) (aj (z+1)/\ξ (z+1) α/\Z (z+1) α< Z z G)) (aS G V 1 λv145=>bM v145 λl147=>ai (decide (60< (l147:Int))) (R (.pointer none) false G) (aj (i89+1)/\I87 (i89+1) G/\m88 (i89+1) G< m88 i89 γ)))) (R ((.pointer (some ⟨V,0,none⟩))) true γ)))):
  Calls Tryz.prog 90 #[(.string (ab p1))] w (ax [.v,.b] R):=
 bs (bn [(6,[(7,.i)]),(13,[(68,.i)])] [] [4,11]) [.tmp 2 .v,.tmp 3 .b] [.s p1] Tryz.func90 (by kernel_rfl) h
theorem gL (s1:Value)(f2:Value)(w:World)(R:Int->World->Prop)(h:bM s1 λl4=>eM 0 w λZ W z H=>ai (decide (z< (l4:Int))) (aJ s1 z λb10 I=>bZ H b10 (I+z.toNat* 1) λJ=>∃(f15:Nat) (c16:List Value),f2= .func (.func f15) #[] (List.toArray c16)/\List.contains dh f15=true/\ck f15 (List.toArray ([(.string (ab J))]++c16)) H λV G=>ai V (R z G) (aj (z+1)/\Z (z+1) G/\W (z+1) G< W z H)) (R (-1) H)):
  Calls Tryz.prog 61 #[s1,f2] w (ax [.i] R):=
 bs (bn [(2,[(8,.i)])] [] []) [.tmp 4 .i] [.v s1,.v f2] Tryz.func61 (by kernel_rfl) h
theorem fD (s1:Value)(f2:Value)(w:World)(R:Bool->World->Prop)(h:iU 61 #[s1,f2] w λz G=>R ((decide (0<=z))) G):
  Calls Tryz.prog 47 #[s1,f2] w (ax [.b] R):=
 bs (bn [] [] []) [.tmp 4 .b] [.v s1,.v f2] Tryz.func47 (by kernel_rfl) h
theorem mV (s1:Value)(z:Int)(w:World)(R:Bool->World->Prop)(h:az s1 λb3 H=>aS w b3 (H+2) λv5=>az v5 λb6 I=>aS w b6 (I+0) λJ=>ck 188 #[J,(.int .i64 z)] w λV G=>R V G):
  Calls Tryz.prog 141 #[s1,(.int .i64 z)] w (ax [.b] R):=
 bs (bn [] [] []) [.tmp 4 .b] [.v s1,.i z] Tryz.func141 (by kernel_rfl) h
theorem qY (s1:UInt32)(w:World)(R:ay->World->Prop)(h:JA ([]) 97 w λI G z c5 H=>ai (decide (c5<=122)) (y3 59 #[(.int .u8 c5.toNat)] H λJ w8=>ai (!decide ((s1 &&& J:UInt32)=0)) ((0<=(UInt8.toNat c5:Int)/\(UInt8.toNat c5:Int)< 128)/\(z.length+List.length [UInt8.ofNat (Int.toNat (UInt8.toNat c5:Int))]<=4611686018427387904)/\I ((z++[UInt8.ofNat (Int.toNat (UInt8.toNat c5:Int))])) (c5+1:UInt8) w8/\G ((z++[UInt8.ofNat (Int.toNat (UInt8.toNat c5:Int))])) (c5+1:UInt8) w8< G z c5 H) (I z (c5+1:UInt8) w8/\G z (c5+1:UInt8) w8< G z c5 H)) (R z H)):
  Calls Tryz.prog 82 #[(.int .u32 (UInt32.toNat s1))] w (ax [.s] R):=
 bs (bn [(3,[(3,.s),(4,.c)])] [] []) [.tmp 2 .s] [.w s1] Tryz.func82 (by kernel_rfl) h
theorem mX (s1:Value)(k2:UInt8)(w:World)(R:ay->World->Prop)(h:az s1 λb3 o4=>aS w b3 (o4+2) λv5=>az v5 λb6 o7=>aS w b6 (o7+1) λv8=>bM v8 λο=>FY 0 0 w λς η δ I β=>ai (decide (I< (ο:Int))) (aJ v8 I λυ φ=>aS β υ (φ+I.toNat* 1) λv21=>cB 140 #[v21] β λθ χ=>bM θ λψ=>FY δ 0 χ λε J G z H=>ai (decide (z< (ψ:Int))) (aJ θ z λV W=>∃ι:UInt8,∃κ:Int,∃μ:Int,∃ν:Value,∃ξ:Bool,(World.cell? H ⟨V,(W+z.toNat* 5),none⟩=some (.int .u8 ι.toNat)/\World.cell? H ⟨V,((W+z.toNat* 5)+1),none⟩=some (.int .i64 κ)/\World.cell? H ⟨V,(((W+z.toNat* 5)+1)+1),none⟩=some (.int .i64 μ)/\World.cell? H ⟨V,((((W+z.toNat* 5)+1)+1)+1),none⟩=some ν/\World.cell? H ⟨V,(((((W+z.toNat* 5)+1)+1)+1)+1),none⟩=some (.bool ξ)/\True)/\aN H (.cells #[(.int .u8 0),(.int .i64 0),(.int .i64 0),(.pointer none),(.bool false)] 160) λγ ω=>xh ω γ 0 5 [(.int .u8 ι.toNat),(.int .i64 κ),(.int .i64 μ),ν,(.bool ξ)] λZ=>gg Z γ 0 λc44=>ai (decide (c44=k2)) (pB Z γ 1 λn45=>ck 141 #[s1,(.int .i64 n45)] Z λq46 α=>ai (!q46) (pB α γ 1 λζ=>0<=(ζ:Int)/\aj (z+1)/\ε ((G ||| (nE 1 ζ.toNat):UInt32)) (z+1) α/\J ((G ||| (nE 1 ζ.toNat):UInt32)) (z+1) α< J G z H) (aj (z+1)/\ε G (z+1) α/\J G (z+1) α< J G z H)) (aj (z+1)/\ε G (z+1) Z/\J G (z+1) Z< J G z H)) (aj (I+1)/\ς G (I+1) H/\η G (I+1) H< η δ I β)) (bw 82 #[(.int .u32 (UInt32.toNat δ))] β λs49 w50=>R s49 w50)):
  Calls Tryz.prog 93 #[s1,(.int .u8 k2.toNat)] w (ax [.s] R):=
 bs (bn [(3,[(5,.w),(18,.i)]),(6,[(5,.w),(25,.i)])] [] []) [.tmp 4 .s] [.v s1,.c k2] Tryz.func93 (by kernel_rfl) h
theorem uh (s1:ay)(w:World)(R:UInt32->World->Prop)(h:FY 0 0 w λV I G z H=>ai (decide (z< (s1.length:Int))) ((0<=(z:Int)/\(z:Int)< s1.length)/\y3 59 #[(.int .u8 (UInt8.toNat (bt s1 z.toNat)))] H λJ w8=>aj (z+1)/\V (G ||| J:UInt32) (z+1) w8/\I (G ||| J:UInt32) (z+1) w8< I G z H) (R G H)):
  Calls Tryz.prog 91 #[(.string (ab s1))] w (ax [.w] R):=
 bs (bn [(3,[(3,.w),(7,.i)])] [] []) [.tmp 2 .w] [.s s1] Tryz.func91 (by kernel_rfl) h
end Go.Proofs.YtdecokaadekjnaaGreat
namespace Go.Proofs.YtdecokaadekjnaaGreat
open Go Go.RowKit
theorem H8 {B:Nat}{w:World}{r:Nat}{l:List Tx}{bad:Bool}{M:Nat->Prop}(h:Hm B w r l bad M)(hl:l.length<=1099511627776){R:Value->Bool->World->Prop}
  (V:bad=true->R (.slice none 0 0) false w) (G:bad=false->∀v' w',Kp w w' M->Strs w' v' (dd (a7 l))->(∀g,v'.ownBlock=some g->M g)->R v' true w'):Calls Tryz.prog 100 #[ptr r] w (ax [.v,.b] R):=by
 refine ly (ptr r) w R ?_;obtain⟨v,W,h2,z⟩:=h.sl;refine⟨r,0,rfl,bad,h.c1,V,λhb=>⟨r,0,rfl,v,W,?_⟩⟩;have Z:(a7 l).length=l.length:=(aO l).length_eq;by_cases H:l=[]
 ·subst H;have I:v= .slice none 0 0\/∃g cap,v= .slice (some ⟨g,0,none⟩) 0 cap:=by
   rcases h2.2 with⟨h0,_⟩ | ⟨g,cap,cur,J,_⟩
   ·exact .inl h0
   ·exact .inr ⟨g,cap,J⟩
  have hs:∀{R:World->Prop},R w->Calls Tryz.prog 115 #[v] w (ax [] R):=λ{R} hR=>by
   rcases I with rfl | ⟨g,cap,rfl⟩
   ·exact FU hR
   ·refine(Any.slices_Sort_string_none zz (some ⟨g,0,none⟩) cap w).mono ?_
    rintro e w' ⟨rfl,rfl⟩
    exact⟨rfl,hR⟩
  refine hs ⟨r,0,rfl,v,W,uI h2 (by simp) λv' w' k s J=>G hb v' w' (Kp.mono (λg e=>(z g e).1) k) ?_ λg hg=>(z g (J g hg)).1⟩;have:a7 []=[]:=KD Z;rw [this];exact s
 ·refine sort_k h2 H hl λw8 k8 o8=>⟨r,0,rfl,v,?_,uI o8 (by omega) λv' w' k s J=>G hb v' w' (Kp.trans (Kp.mono (λg e=>(z g e).1) k8) k λg _ e=>(z g e).1) s λg hg=>(z g (J g hg)).1⟩
  rw [J1 (w:=w) (k8.block r h.lt λe=>(z r e).2 rfl)];exact W
theorem Ak {D:Nat->Prop}{w:World}{v:Value}{o:List Nat}{x:Nat}(h:eF D w v (o.map iv))(hl:o.length<=1099511627776){R:Bool->World->Prop}(H:R (decide (x∈o)) w):
  Calls Tryz.prog 188 #[v,iv x] w (ax [.b] R):=by
 refine j9 v x w R ?_;refine mR v x w _ ?_;obtain⟨W,cap,V⟩:=h.slice;rw [Kz]at V;refine⟨W,_,cap,V,λi w'=>∃j:Nat,i=j/\j<=o.length/\w'=w/\x∉o.take j,λi _=>(o.length - i).toNat,⟨0,rfl,KT _,rfl,by simp⟩,λi w' Z=>?_⟩;obtain⟨j,rfl,hj,rfl,hm⟩:=Z;refine⟨λI=>?_,λJ=>?_⟩
 ·have z:j< o.length:=by simp only [J4]at I;omega
  refine h.ID (i:=j) (x:=o[j]) (by omega) (by rw [J9];exact J2 z) (Q:=λn=>_) ⟨λhe=>?_,λG=>?_⟩
  ·have he:x=o[j]:=by simp only [J4]at he;omega
   show R (decide (0<=(j:Int))) _;rw [Lc (show(0:Int)<=(j:Int) by omega)];rw [Lc (show x∈o by rw [he];exact Kg z)]at H;exact H
  ·have G:x≠o[j]:=by simp only [J6]at G;omega
   refine⟨by unfold aj;omega,⟨j+1,by omega,by omega,rfl,?_⟩,by show((o.length:Int) - ((j:Int)+1)).toNat< ((o.length:Int) - j).toNat;omega⟩;rw [J8 z,Ke,Kf];exact λh=>h.elim hm G
 ·have:j=o.length:=by simp only [J6]at J;omega
  rw [this,KA]at hm;show R (decide ((0:Int)<= -1)) _;rw [Lj (show ¬(0:Int)<= -1 by omega)];rw [Lj hm]at H;exact H
theorem A1 {w:World}{v:Value}{l:List Tx}{x:Tx}(h:Strs w v l)(hl:l.length<=1099511627776){R:Bool->World->Prop}(I:R (decide (x∈l)) w):
  Calls Tryz.prog 63 #[v,.string (ab x)] w (ax [.b] R):=by
 refine ia v x w R ?_;refine jS v x w _ ?_;obtain⟨Z,cap,hv⟩:=h.slice;refine⟨Z,_,cap,hv,λi w'=>∃j:Nat,i=j/\j<=l.length/\w'=w/\x∉l.take j,λi _=>(l.length - i).toNat,⟨0,rfl,KT _,rfl,by simp⟩,λi w' hI=>?_⟩;obtain⟨j,rfl,hj,rfl,hm⟩:=hI;refine⟨λJ=>?_,λV=>?_⟩
 ·have z:j< l.length:=by simp only [J4]at J;omega
  obtain⟨b,off,H,W,_,hc⟩:=h.at z;refine⟨b,off,_,H,W,by omega,by omega,l[j],by rw [J9,KK];exact hc,λhe=>?_,λG=>?_⟩
  ·have he:x=l[j]:=by simpa using he
   show R (decide (0<=(j:Int))) _;rw [Lc (show(0:Int)<=(j:Int) by omega)];rw [Lc (show x∈l by rw [he];exact Kg z)]at I;exact I
  ·have G:x≠l[j]:=by simpa using G
   refine⟨by unfold aj;omega,⟨j+1,by omega,by omega,rfl,?_⟩,by show((l.length:Int) - ((j:Int)+1)).toNat< ((l.length:Int) - j).toNat;omega⟩;rw [J8 z,Ke,Kf];exact λh=>h.elim hm G
 ·have:j=l.length:=by simp only [J6]at V;omega
  rw [this,KA]at hm;show R (decide ((0:Int)<= -1)) _;rw [Lj (show ¬(0:Int)<= -1 by omega)];rw [Lj hm]at I;exact I
theorem HF {D:Nat->Prop}{w:World}{s n x nm:Nat}{o:List Nat}{l:Lv}{c0 c1 c4 vr:Value}(η:Mk w s n)(h:gd D w vr o (af D w l))(hD:∀g,D g->g≠s)(ψ:l.sh true=true)(ω:ug o l)(hnn:n+o.length+l.bvs.length<=4294967296)(θ:o.length+l.tot<=4294967296){R:Value->World->Prop}
  (hR:∀v' w' F' n',Km s w w'->Mk w' s n'->Rn n n' (o++l.bvs) (aF id x nm) F'->aB (Be w) w' (o.map F',l.map F') v'->R v' w'):
  Calls Tryz.prog 177 #[ptr s,.agg (List.toArray [c0,c1,iv x,vr,c4]),iv nm] w (ax [.v] R):=by
 refine jG (ptr s) _ nm w R ?_;refine⟨_,rfl,λb5 H ι α=>⟨λw'=>Kp H w' (λg=>g=s\/H.heap.size<=g),λw8 κ=>?_⟩⟩;have x6:Ex w H:=α▸Ex.alloc w _;have s6:H.heap.size=w.heap.size+1:=by rw [α,size_alloc]
 have x8:Ex H w8:=κ▸Ex.drew H;have s8:w8.heap.size=H.heap.size:=by rw [κ];rfl
 have μ:=η.lt;have ν:¬(b5=s\/H.heap.size<=b5):=λe=>by rcases e with e | e<;>omega
 have d3:H.cell? ⟨b5,3,none⟩=some vr:=by rw [α,ι];exact aa rfl
 have d2:H.cell? ⟨b5,2,none⟩=some (iv x):=by rw [α,ι];exact aa rfl
 have l5:b5< H.heap.size:=by omega
 refine⟨Kp.ah x8 _,s,0,rfl,vr,λw' k=>by rw [J1 (w:=H) (k.block b5 l5 ν)];exact d3,x,λw' k=>by rw [J1 (w:=H) (k.block b5 l5 ν)];exact d2,λβ γ ξ I=>?_⟩;have δ:Ex w8 γ:=I▸Ex.alloc w8 _;have s14:γ.heap.size=w8.heap.size+1:=by rw [I,size_alloc]
 have ο:IsMap γ β (.int .i64) (cH []):=⟨#[],0,by rw [I,ξ];unfold World.alloc;simp,⟨by simp,by simp,by simp⟩,by simp,λq=>rfl⟩
 refine⟨Kp.ah (Ex.trans x8 δ) _,β,_,rfl,ο,λJ ς G=>?_⟩;have ζ:Kp γ J (λg=>g=β):=⟨G.os,G.tape,G.output,by rw [G.size];exact Kb _,λg _ Z=>G.block g Z⟩
 have s17:=ζ.size;have ε:Kp H J (λg=>g=s\/H.heap.size<=g):=Kp.trans (Kp.ah (Ex.trans x8 δ) _) ζ λg _ e=> .inr (by omega)
 have V:Ex w J:=Ex.below (Ex.trans (Ex.trans x6 x8) δ) (Kp.below ζ (Ex.trans (Ex.trans x6 x8) δ).size λg Z e=>by omega);refine⟨ε,?_⟩;have υ:jK J β (aF id x nm):=sf (F:=id) (λz=> .inr ⟨rfl,rfl⟩) ς;have h':gd (λg=>D g/\g< w.heap.size) w vr o (af (λg=>D g/\g< w.heap.size) w l):=aB.sub (L:=(o,l)) h λg Z hd=>⟨hd,Z⟩
 refine Dg _ (Kb _) ψ (gd.ex h' V) (λg Z e=>?_) ω (η.ex V) υ (by omega) hnn θ λv18 w19 F' n' W φ mf19 χ l19=>?_
 ·rcases e with e | e
  ·exact hD g Z.1 e
  ·omega
 ·have s19:=W.size;refine⟨Kp.trans ε (Kp.mono (λg e=>e) W.kp) λg Z e=>e.elim .inl λe=> .inr (by omega),hR v18 w19 F' n' ⟨?_,λj hj=>?_,λj=>?_⟩ φ χ (aB.sub l19 λg _ Z=>by show w.heap.size<=g;have:J.heap.size<=g:=Z;omega)⟩
  ·exact Kp.trans (Kp.ah V _) W.kp λg Z e=>e.elim id λe=>by omega
  ·rw [W.ce j hj,V.cell (show s< _ from μ)]
  ·rw [W.fz j,Lr V μ]
theorem yd {X:Type}(P:Nat->Bool)(x:X):∀(l:List X) (k:Nat),kz P (l++[x]) k=kz P l k++if P (k+l.length)then []else [x]
 | [],k=>by rw [KZ,cz,kv];simp [kv]
 | y::l,k=>by
  rw [K4,cz,cz,yd P x l (k+1),J0,show k+1+l.length=k+(l.length+1) by omega];split<;>simp
def elsL:List Lv->Lv
 | []=> .nil
 | e::r=>e.app (elsL r)
theorem yD:∀l m:List Lv,elsL (l++m)=(elsL l).app (elsL m)
 | [],m=>rfl
 | e::l,m=>by simp only [K4,elsL,yD l m,Lv.cD]
theorem C7 (e:Lv):elsL [e]=e:=Lv.a6 e
theorem rz {X:Type}{P:Nat->Bool}:∀{l:List X} {k:Nat} {x:X},x∈kz P l k->x∈l
 | [],k,x,h=>by rw [kv]at h;cases h
 | y::l,k,x,h=>by
  rw [cz]at h;split at h
  ·exact Ki _ (rz h)
  ·rcases Ks.1 h with rfl | h
   ·exact KR ..
   ·exact Ki _ (rz h)
theorem vD {X:Type}(P:Nat->Bool):∀(l:List X) (k:Nat),(kz P l k).Sublist l
 | [],k=>by rw [kv];exact La _
 | y::l,k=>by
  rw [cz];split
  ·exact(vD P l (k+1)).trans (List.sublist_cons_self ..)
  ·exact(vD P l (k+1)).cons_cons y
def og (l:List Lv):Nat:=(l.map Lv.tot).sum
theorem lJ:∀l:List Lv,(elsL l).tot=og l
 | []=>rfl
 | e::l=>by simp only [elsL,Lv.ch,lJ l,og,KE,Ld]
theorem zW {l m:List Lv}(h:l.Sublist m):og l<=og m:=by
 induction h with
 | slnil=>exact Kb _
 | cons a _ z=>simp only [og,KE,Ld]at*;omega
 | cons_cons a _ z=>simp only [og,KE,Ld]at*;omega
theorem px:∀l:Lv,elsL l.bB=l
 | .nil=>rfl
 | .thr k a b o r n=>by simp only [Lv.bB,elsL,px n,Lv.app]
 | .sum z n=>by simp only [Lv.bB,elsL,px n,Lv.app]
 | .part o q n=>by simp only [Lv.bB,elsL,px n,Lv.app]
theorem Aq {b:Bool}:∀{l:List Lv},(∀e∈l,e.sh b=true)->(elsL l).sh b=true
 | [],_=>by cases b<;>rfl
 | e::l,h=>Lv.gM (h e (by simp)) (Aq λx z=>h x (by simp [z]))
theorem Gd:∀{l:Lv},l.sh true=true->∀e∈l.bB,e.sh true=true:=λ{l} h e he=>by
 rcases Lv.jJ h e he with⟨k,a,b,o,r,rfl,hr⟩ | ⟨G,rfl,z⟩
 ·simp only [Lv.sh,hr,Lu]
 ·simp only [Lv.sh,z,Lu]
theorem xZ:∀{l:List (List Nat×Lv)},(∀x∈l,x.2.sh true=true)->(joinL l).2.sh true=true
 | [],_=>rfl
 | x::l,h=>Lv.gM (h x (by simp)) (xZ λy z=>h y (by simp [z]))
theorem kV:∀(l:List (List Nat×Lv)) (j:Nat),(joinL (l.take j)).1.length<=(joinL l).1.length/\(joinL (l.take j)).2.tot<=(joinL l).2.tot
 | [],j=>by simp [joinL]
 | x::l,0=>by simp [joinL,Lv.tot]
 | x::l,j+1=>by
  obtain⟨z,h2⟩:=kV l j;simp only [List.take_succ_cons,joinL,J',Lv.ch];omega
theorem FT {D:Nat->Prop}{w:World}{s:Nat}{O:List Nat}{l:Lv}{vl vg vo vm:Value}{gl:List Nat}{ms:List (List Nat×Lv)}{mvs:List Value}(hcl:w.cell? ⟨s,2,none⟩=some vl)(hls:s< w.heap.size)(hl:aB D w (O,l) vl)(G:eF D w vg (gl.map iv))(hgl:gl.length<=1000)(ho:eF D w vo (O.map iv))(hm:eF D w vm mvs)
  (hms:aM (λL v=>aB D w L v) ms mvs) (hml:mvs.length<=1000) (hsh:l.sh true=true) (hmsh:∀x∈ms,x.2.sh true=true) (htot:O.length+(joinL ms).1.length+(l.tot+(joinL ms).2.tot)<=4294967295)
  {P:Nat->Bool} (hP:∀i,P i=decide (i∈gl)) {res:List Nat×Lv} (θ:res=(O++(joinL ms).1,(elsL (kz P l.bB 0)).app (joinL ms).2)) (huq:ug (Lv.tidy res.1 res.2).1 (Lv.tidy res.1 res.2).2) (hfr:∀x,x∉(Lv.tidy res.1 res.2).1->(Lv.tidy res.1 res.2).2.fh x->x< 26)
  {R:ay->Bool->World->Prop} (hR:∀w',Ex w w'->(∀s,zv (Lv.tidy res.1 res.2)=some s->R s true w')/\(zv (Lv.tidy res.1 res.2)=none->R [] false w')):
  Calls Tryz.prog 176 #[ptr s,vg,vo,vm] w (ax [.s,.b] R):=by
 refine mS (ptr s) vg vo vm w R ?_;refine wG ho (by omega) λv5 w6 x6 φ=>⟨φ.iL,λb7 w8 hb7 ι=>?_⟩
 have x8':Ex w6 w8:=ι▸Ex.alloc w6 _;have x8:=Ex.trans x6 x8';have s8:w8.heap.size=w6.heap.size+1:=by rw [ι,size_alloc]
 have s6:=x6.size;have bd8:kB w.heap.size w8 b7 O [] λg=>g=b7\/v5.ownBlock=some g:=by
  refine⟨by omega,by omega,.inl rfl,λg G=>?_,λj=>?_,v5,.slice none 0 0,?_,?_,φ.kp (Kp.ah x8' λ _=>False) (λ _ _ h=>h),aP.nil _ _ _,λg G=>⟨.inr G,?_⟩,λg G=>(by cases G),λg _ G=>(by cases G)⟩
  ·rcases G with rfl | G
   ·omega
   ·have :=φ.block g G;omega
  ·rw [ι,hb7];exact aG _ _ _ _
  ·rw [ι,hb7];exact aa rfl
  ·rw [ι,hb7];exact aa rfl
  ·have :=φ.block g G;omega
 obtain⟨bl,vo',vt,ts,rfl,h2,h3,h4,h5,h6,h7,h8⟩:=aB.sub (E:=λg=>g< w.heap.size) hl λg G _=>G
 obtain⟨at_,capt,hvt⟩:=h7.slice;have hlen:ts.length=l.len:=h8.len;have hel:=Lv.cT l;have hlt:=cn l;have κ:∀i,og (kz P (l.bB.take i) 0)<=l.tot:=λi=>by
  have h1:=zW ((vD P (l.bB.take i) 0).trans (List.take_sublist i l.bB));have h2:=lJ l.bB;rw [px]at h2;omega
 refine⟨s,0,rfl,ptr bl,by rw [x8.cell (show s< _ from hls)];exact hcl,bl,0,rfl,vt,by rw [x8.cell (show bl< _ from h3)];exact h5,at_,_,capt,hvt,λx w'=>∃(i:Nat) (J:List Value) (M:Nat->Prop),x=i/\i<=ts.length/\Ex w w'/\kB w.heap.size w' b7 O J M/\af (λg=>g< w.heap.size) w' (elsL (kz P (l.bB.take i) 0)) J,
  λx _=>(ts.length - x).toNat,⟨0,[],_,rfl,KT _,x8,bd8,by rw [List.take_zero,kv];rfl⟩,λx χ hI=>?_⟩
 obtain⟨i,J,M,rfl,hi,γ,H,V⟩:=hI;have hl1:J.length<=l.tot:=by
  have h1:=V.len;have h2:=cn (elsL (kz P (l.bB.take i) 0));rw [lJ]at h2;have :=κ i;omega
 refine⟨λhlt1=>?_,λhge1=>?_⟩
 ·have δ:i< ts.length:=by simp only [J4]at hlt1;omega
  have hie:i< l.bB.length:=by omega
  obtain⟨bt,ot,z,hvt',hct⟩:∃bt ot z,vt= .slice (some ⟨bt,ot,none⟩) ts.length z/\χ.cell? ⟨bt,ot+i,none⟩=some ts[i]:=by
   rcases h7 with⟨_,h0⟩ | ⟨bt,ot,z,e,hbD,hb',W⟩
   ·rw [h0]at δ;simp at δ
   ·exact⟨bt,ot,z,e,by rw [γ.cell (show bt< _ from hb')];exact W i _ (J2 δ)⟩
  obtain⟨e,he1,he2,he3⟩:=aM.single h8.bB (J2 δ);have he4:l.bB[i]=e:=by rw [J2 hie]at he1;exact KS he1
  have hts:kz P (l.bB.take (i+1)) 0=kz P (l.bB.take i) 0++if P i then []else [e]:=by
   rw [J8 hie,yd,he4,KF,KP,MD (by omega)]
  refine⟨bt,ot,_,z,hvt',by omega,by omega,ts[i],by rw [J9,KK];exact hct,Ak (G.ex γ) (by omega) ?_⟩;have hPi:=hP i;refine⟨λhq=>?_,λhq=>⟨by unfold aj;omega,⟨i+1,J,M,by omega,by omega,γ,H,?_⟩,by show((ts.length:Int) - ((i:Int)+1)).toNat< ((ts.length:Int) - i).toNat;omega⟩⟩;rotate_left
  ·have hPt:P i=true:=by rw [hPi];cases h:decide (i∈gl)<;>first | rfl | (rw [h]at hq;cases hq)
   rw [hts,KG hPt,KJ];exact V
  have hPt:P i=false:=by rw [hPi];cases h:decide (i∈gl)<;>first | rfl | (rw [h]at hq;cases hq)
  obtain⟨vo1,ψ,d0,d1,d2,d3,d4,d5,d6⟩:=H.sl;have μ:=he3.all;simp only [Lg,MT,Mu]at μ;refine⟨ψ,d1,μ,λb30 ε hb30 ν=>?_⟩;have ξ:Ex χ ε:=ν▸Ex.alloc χ _;have s31:ε.heap.size=χ.heap.size+1:=by rw [ν,size_alloc]
  have s21:=γ.size;have ο:=H.ex ξ;refine aP.push (d3.kp (Kp.ah ξ λ _=>False) λ _ _ h=>h) (by omega) (m:=[ts[i]]) (D:=λ _=>True) (.inr ⟨b30,0,1,rfl,trivial,by omega,λi' y hy=>?_⟩) (by simp only [Lg,MT,Mu];exact μ) (by omega) (by simp only [J0,Kh];omega) λv37 w38 ho38 hg38 hn38=>?_
  ·cases i' with
   | zero=>simp only [Lh,Lw]at hy;subst hy;rw [ν,hb30];exact aa rfl
   | succ i=>simp at hy
  have k38:Kp ε w38 λg=>ψ.ownBlock=some g:=Kp.aQ hg38 λ _ h=>h
  have e7:=k38.block b7 ο.lt λe=>(d5 b7 e).2 rfl
  have c71:ε.cell? ⟨b7,1,none⟩=some ψ:=by rw [ξ.cell (show b7< _ from H.lt)];exact d1
  refine⟨ho38.iL,⟨⟨ψ,by rw [J1 (w:=ε) e7];exact c71⟩,by rw [KC (w:=ε) e7];exact ο.fr 1⟩,λw40 hw40=>⟨by unfold aj;omega,?_,by show((ts.length:Int) - ((i:Int)+1)).toNat< ((ts.length:Int) - i).toNat;omega⟩⟩;obtain⟨bd40,k40⟩:=ο.IK c71 k38 ho38 hn38 hw40;have ς:=Ex.trans γ ξ;have x40:Ex w w40:=Ex.below ς (Kp.below k40 ς.size λg G hM=>by have :=(H.mr g hM).1;omega);refine⟨i+1,J++[ts[i]],_,by omega,by omega,x40,bd40,?_⟩;rw [hts,Ko (by rw [hPt];simp),yD,C7];exact af.app (af.kp k40 (λg G hM=>by have :=(H.mr g hM).1;omega) (af.ex V ξ)) (af.ex he3 x40)
 ·have δ:i=l.bB.length:=by simp only [J6]at hge1;omega
  rw [δ,KA]at V;obtain⟨am,capm,hvm⟩:=hm.slice;have hl2:J.length<=l.tot:=hl1;have hmsl:=hms.1;refine⟨am,_,capm,hvm,λx w'=>∃(j:Nat) (ω:List Value) (M2:Nat->Prop),x=j/\j<=mvs.length/\Ex w w'/\kB w.heap.size w' b7 (O++(joinL (ms.take j)).1) ω M2/\af (λg=>g< w.heap.size) w' ((elsL (kz P l.bB 0)).app (joinL (ms.take j)).2) ω,λx _=>(mvs.length - x).toNat,⟨0,J,M,rfl,KT _,γ,by simpa [joinL]using H,by simpa [joinL,Lv.a6]using V⟩,λx υ hI=>?_⟩;obtain⟨j,ω,M2,rfl,hj,ζ,I,β⟩:=hI;refine⟨λhlt2=>?_,λhge2=>?_⟩
  ·have η:j< mvs.length:=by simp only [J4]at hlt2;omega
   obtain⟨bm,om,Z,hvm',hcm⟩:∃bm om Z,vm= .slice (some ⟨bm,om,none⟩) mvs.length Z/\υ.cell? ⟨bm,om+j,none⟩=some mvs[j]:=by
    rcases hm with⟨_,h0⟩ | ⟨bt,ot,z,e,hbD,hb',W⟩
    ·rw [h0]at η;simp at η
    ·exact⟨bt,ot,z,e,by rw [ζ.cell (show bt< _ from hb')];exact W j _ (J2 η)⟩
   obtain⟨L,hL1,hL2,hL3⟩:=aM.single hms (J2 η);have hjm:j< ms.length:=by omega
   have hL4:ms[j]=L:=by rw [J2 hjm]at hL1;exact KS hL1
   have α:joinL (ms.take (j+1))=((joinL (ms.take j)).1++L.1,(joinL (ms.take j)).2.app L.2):=by
    rw [J8 hjm,qz,hL4,pE]
   obtain⟨k1,k2⟩:=kV ms (j+1);rw [α]at k1 k2;simp only [J',Lv.ch]at k1 k2;obtain⟨ts3,hl3,ht3⟩:=aB.ths (aB.ex (aB.sub (E:=λg=>g< w.heap.size) hL3 λg G _=>G) ζ);have h47:=β.len;have h47':=cn ((elsL (kz P l.bB 0)).app (joinL (ms.take j)).2);rw [Lv.ch,lJ]at h47';have hp:=κ l.bB.length;rw [KA]at hp;have h3l:=ht3.len;have h3t:=cn L.2;refine⟨bm,om,_,Z,hvm',by omega,by omega,mvs[j],by rw [J9,KK];exact hcm,uc I ζ.size hl3 ht3.all (λg G hM=>by have :=(I.mr g hM).1;omega) ⟨by simp only [J'];omega,by omega⟩ λw53 M3 k53 bd53 _=>⟨by unfold aj;omega,?_,by show((mvs.length:Int) - ((j:Int)+1)).toNat< ((mvs.length:Int) - j).toNat;omega⟩⟩;have x53:Ex w w53:=Ex.below ζ (Kp.below k53 ζ.size λg G hM=>by have :=(I.mr g hM).1;omega);refine⟨j+1,ω++ts3,M3,by omega,by omega,x53,?_,?_⟩
   ·rw [α,<-KN];exact bd53
   ·rw [α,<-Lv.cD];exact af.app (af.kp k53 (λg G hM=>by have :=(I.mr g hM).1;omega) β) (af.kp k53 (λg G hM=>by have :=(I.mr g hM).1;omega) ht3)
  ·have η:j=ms.length:=by simp only [J6]at hge2;omega
   rw [η,KA]at I β;have hp:=κ l.bB.length;rw [KA]at hp;have hLv:gd (λg=>g< υ.heap.size) υ (ptr b7) res.1 (af (λg=>g< υ.heap.size) υ res.2):=by
    rw [θ];exact I.Jc (λg G _=>G) (af.sub (λg G _=>G) β)
   refine uO hLv ?_ ?_ huq hfr λw56 x56=>hR w56 (Ex.trans ζ x56)
   ·rw [θ];exact Lv.gM (Aq λe he=>Gd hsh e (rz he)) (xZ hmsh)
   ·rw [θ];simp only [J',Lv.ch,lJ];omega
end Go.Proofs.YtdecokaadekjnaaGreat
namespace Go.Proofs.YtdecokaadekjnaaGreat
open T
structure Jq (O:List Nat)(F:List UInt8)(p:P)(q:U):Prop where
 ae:AE UInt8.toNat p (λz=>(asg O F ρ0 z).toNat) q
 wf:p.wf=true
 eb:Eb 0 p
 fr:∀z,q.Fr z->z∈O\/(z< 26/\ρ0 z∉F)
theorem Ai {z:Nat}(h:z< 26):lt (ρ0 z)=true:=iy (by rw [eO h];unfold σ0;omega)
theorem AE.Iy {ρ:UInt8->Nat}{σ:Nat->Nat}:∀{z:List P} {us:List U},kO (λp q=>AE ρ p σ q) z us->AE ρ (T.parL z) σ (T.parL us)
 | [],[],_=>trivial
 | [p],[q],.cons h _=>h
 | p::G::z,q::H::us,.cons h k=>⟨h,AE.Iy k⟩
theorem kO.mono {X Y:Type}{R S:X->Y->Prop}(z:∀x y,R x y->S x y){l:List X}{m:List Y}(h:kO R l m):kO S l m:=by
 induction h with
 | nil=>exact .nil
 | cons h _ G=>exact .cons (z _ _ h) G
theorem kO.HV {X Y:Type}{R:X->Y->Prop}{l:List X}{m:List Y}(h:kO R l m){x:X}(z:x∈l):∃y∈m,R x y:=by
 induction h with
 | nil=>cases z
 | cons h _ G=>
  rcases Ks.1 z with rfl | z
  ·exact⟨_,KR ..,h⟩
  ·obtain⟨y,H,h2⟩:=G z;exact⟨y,Ki _ H,h2⟩
theorem kO.Cp {X Y:Type}{R:X->Y->Prop}{l:List X}{m:List Y}(h:kO R l m){y:Y}(z:y∈m):∃x∈l,R x y:=by
 induction h with
 | nil=>cases z
 | cons h _ G=>
  rcases Ks.1 z with rfl | z
  ·exact⟨_,KR ..,h⟩
  ·obtain⟨y,H,h2⟩:=G z;exact⟨y,Ki _ H,h2⟩
theorem AV:∀{l:List P},(∀p∈l,p.wf=true)->(parL l).wf=true
 | [],_=>rfl
 | [p],h=>h p (by simp)
 | p::q::l,h=>by
  have h2:=AV (l:=q::l) λx z=>h x (Ki _ z)
  simp only [parL,wf,J3];exact⟨h p (by simp),h2⟩
theorem Ae {p:P}(z:p.wf=true):∀{l:List UInt8},(∀c∈l,lt c=true)->(resL l p).wf=true
 | [],_=>z
 | c::l,h=>by
  simp only [resL,wf,J3];exact⟨iQ (h c (by simp)),Ae z λx G=>h x (Ki _ G)⟩
theorem Aw {k:Nat}:∀{l:List P},(∀p∈l,Eb k p)->Eb k (parL l)
 | [],_=>trivial
 | [p],h=>h p (by simp)
 | p::q::l,h=>⟨h p (by simp),Aw (l:=q::l) λx z=>h x (Ki _ z)⟩
theorem zh {c:UInt8}(h:lt c=true)(k:Nat):okn k c:=by have :=aW h;unfold okn;omega
theorem AZ {p:P}(H:∀z,p.Fr z->lt z=true):∀{l:List UInt8} {k:Nat},Eb k p->(∀c∈l,lt c=true)->Eb k (resL l p)
 | [],_,G,_=>G
 | c::l,k,G,h=>by
  refine⟨⟨tv (h c (by simp)),λz I _=>zh (H z (fg.1 I).2) k⟩,AZ H (G.mono (by omega)) λx J=>h x (Ki _ J)⟩
theorem wT {A:Type}(p:T A):∀l:List A,(resL l p).rd=p.rd/\(resL l p).ow=l.length+p.ow/\(resL l p).size=l.length+p.size/\(resL l p).aH=3* l.length+p.aH
 | []=>by simp [resL]
 | c::l=>by
  obtain⟨z,h2,G,h4⟩:=wT p l;simp only [resL,rd,ow,size,aH,J0];refine⟨z,?_,?_,?_⟩<;>omega
theorem yM {O:List Nat}{F:List UInt8}(hl:O.length=F.length)(hF:F.Nodup)(V:∀c∈F,lt c=true)(ho:∀x∈O,26<=x){G:List P}{us:List U}(h:kO (Jq O F) G us)(nd:(O++us.flatMap BV).Nodup)(bv:∀x∈us.flatMap BV,26<=x)
  (hb:(parL G).rd+F.length+(parL G).ow<=64) (θ:(parL G).aH<=1000000000) (ι:F.length<=300):ph 0 (resL F (parL G)) σ0 (resL O (parL us)):=by
 have I:∀z,(resL O (parL us)).Fr z->z< 26/\ρ0 z∉F:=λz J=>by
  obtain⟨h1,h2⟩:=fg.1 J;obtain⟨q,hq,W⟩:=my.1 h2;obtain⟨p,hp,Z⟩:=h.Cp hq;exact(Z.fr z W).resolve_left h1
 have α:AE UInt8.toNat (parL G) (λz=>(asg O F ρ0 z).toNat) (parL us):=AE.Iy (h.mono λp q k=>k.ae);have ζ:AE UInt8.toNat (resL F (parL G)) (λz=>(ρ0 z).toNat) (resL O (parL us)):=AE.Dm O F ρ0 hl hF (λz J H=>(I z (fg.2 ⟨H,J⟩)).2) α;have ae:AE UInt8.toNat (resL F (parL G)) σ0 (resL O (parL us)):=ζ.congr (λ _ _=>rfl) λz J=>eO (I z J).1
 have β:∀c,(parL G).Fr c->lt c=true:=λc hc=>by
  obtain⟨z,J,e⟩:=α.free c hc;have e:=Ky.1 e;obtain⟨q,hq,W⟩:=my.1 J;obtain⟨p,hp,Z⟩:=h.Cp hq;by_cases H:z∈O
  ·rw [<-e];exact V _ (ft O F ρ0 z H hl)
  ·rw [<-e,bV _ _ _ _ H];exact Ai ((Z.fr z W).resolve_left H).1
 have γ:BV (resL O (parL us))=O++us.flatMap BV:=by rw [gw,gm]
 have δ:∀x∈BV (resL O (parL us)),26<=x:=λx hx=>by
  rw [γ]at hx;exact(Ke.1 hx).elim (ho x) (bv x)
 have ε:Uq (resL O (parL us)):=⟨by rw [γ];exact nd,λx hx hf=>by have :=δ x hx;have :=(I x hf).1;omega⟩
 obtain⟨k1,k2,k3,k4⟩:=wT (parL G) F;have η:(resL F (parL G)).wf=true:=Ae (AV λp hp=>by obtain⟨q,_,k⟩:=h.HV hp;exact k.wf) V;refine⟨⟨η,by rw [aY,k4];omega,⟨AZ β (Aw λp hp=>by obtain⟨q,_,k⟩:=h.HV hp;exact k.eb) V,by rw [k1,k2];omega⟩,ae,λy z _ _ e=>by unfold σ0 at e;omega,ε⟩,λz J hG=>?_,⟨ε,λy hy=>(I y (bG hy)).1,δ⟩,λ _ _=>rfl⟩;have :=β z (fg.1 J).2;exact absurd hG (eA (tv this))
theorem IA:∀{u:U},Uq u->u.Nr->cO u=u.ow/\(u.dead=false->thAll (tp u.mw)=u.ow):=by
 intro u;have one:∀{u:U},u.isS=false->cO u=u.ow->cO u=u.ow/\(u.dead=false->thAll (tp u.mw)=u.ow):=λ{u} V h=>⟨h,λ _=>by rw [gz V];simp only [tp,thAll,MF];exact h⟩
 have all:∀{u:U},Uq u->u.Nr->cO u=u.frL.length+thAll (tl u.ths):=λ{u} z n=>by unfold cO;rw [js z n]
 induction u with
 | nil=>intro z n;exact one rfl (by rw [all z n];rfl)
 | snd a b p G=>intro z n;exact one rfl (by rw [all z n];have :=(G z.snd n).1;unfold cO at this;simp only [frL,T.ths,tl,thAll,Kh,ow];omega)
 | rcv a b p G=>intro z n;exact one rfl (by rw [all z n];have :=(G z.rcv n).1;unfold cO at this;simp only [frL,T.ths,tl,thAll,Kh,ow];omega)
 | tau p G=>intro z n;exact one rfl (by rw [all z n];have :=(G z.tau n).1;unfold cO at this;simp only [frL,T.ths,tl,thAll,Kh,ow];omega)
 | mat a b p G=>intro z n;exact one rfl (by rw [all z n];have :=(G z.mat n.2).1;unfold cO at this;simp only [frL,T.ths,tl,thAll,Kh,ow];omega)
 | rep p G=>intro z n;exact one rfl (by rw [all z n];have :=(G z.rep n.2).1;unfold cO at this;simp only [frL,T.ths,tl,thAll,Kh,ow];omega)
 | res x p G=>intro z n;exact one rfl (by rw [all z n];have :=(G z.res n.2).1;rw [all z.res n.2]at this;simp only [frL,T.ths,J0,ow];omega)
 | par p q G H=>
  intro z n;refine one rfl ?_;have I:=(G z.fT n.2.1).1;have h2:=(H z.fM n.2.2).1;have W:q.frL=[]:=by
   rcases n.1.2 with h | h
   ·exact iN h
   ·cases q<;>first | rfl | (cases h;done)
  rw [all z.fM n.2.2,W]at h2;rw [all z.fT n.2.1,iN n.1.1,n7 n.1.1]at I;rw [all z n];simp only [frL,T.ths,ow,Kh]at*;rw [show p::q.ths=[p]++q.ths from rfl,gI,cy];omega
 | sum p q G H=>
  intro z n;have I:=(G z.ec n.2.1).2 n.1.1;have h2:=(H z.dL n.2.2).2 n.1.2.1;have J:thAll (tp (T.sum p q).mw)=(T.sum p q).ow:=by
   rw [gz n.1.2.2]at I;simp only [T.mw,ow];rw [show p::q.mw=[p]++q.mw from rfl,tc,cy,I,h2]
  refine⟨?_,λ _=>J⟩;rw [all z n,<-J];simp only [frL,T.ths,tl,thAll,Kh,T.mw];rw [eo z.ec n.2.1 n.1.1,eo z.dL n.2.2 n.1.2.1,gz n.1.2.2];simp
theorem lA {A B:Type}[DecidableEq A][DecidableEq B]:∀{p:T A} {q:T B} {ρ:A->Nat} {σ:B->Nat},AE ρ p σ q->p.ow=q.ow/\p.rd=q.rd/\p.size=q.size:=by
 intro p
 induction p with
 | nil=>intro q ρ σ h;cases q<;>first | exact⟨rfl,rfl,rfl⟩ | cases h
 | snd a b p z=>intro q ρ σ h;cases q<;>first | (have :=z h.2.2;simp only [ow,rd,size];omega) | cases h
 | mat a b p z=>intro q ρ σ h;cases q<;>first | (have :=z h.2.2;simp only [ow,rd,size];omega) | cases h
 | rcv a b p z=>intro q ρ σ h;cases q<;>first | (have :=z (h.2 0);simp only [ow,rd,size];omega) | cases h
 | res b p z=>intro q ρ σ h;cases q<;>first | (have :=z (h 0);simp only [ow,rd,size];omega) | cases h
 | tau p z=>intro q ρ σ h;cases q<;>first | (have :=z h;simp only [ow,rd,size];omega) | cases h
 | rep p z=>intro q ρ σ h;cases q<;>first | (have :=z h;simp only [ow,rd,size];omega) | cases h
 | sum p H z G=>intro q ρ σ h;cases q<;>first | (have :=z h.1;have :=G h.2;simp only [ow,rd,size];omega) | cases h
 | par p H z G=>intro q ρ σ h;cases q<;>first | (have :=z h.1;have :=G h.2;simp only [ow,rd,size];omega) | cases h
theorem cd {A:Type}:∀p:T A,p.rd+p.ow+1<=p.size:=by
 intro p
 induction p<;>simp only [rd,ow,size]<;>omega
theorem D0 {A:Type}:∀{p:T A},(∃a b r,Off.snd a b r∈offs p)->p.rd+p.ow+2<=p.size:=by
 intro p
 induction p with
 | snd a b p=>intro _;have :=cd p;simp only [rd,ow,size];omega
 | sum p q z G=>
  rintro⟨a,b,r,h⟩
  rw [offs,Ke]at h;have H:=cd p;have h2:=cd q;simp only [rd,ow,size];rcases h with h | h
  ·have :=z ⟨a,b,r,h⟩;omega
  ·have :=G ⟨a,b,r,h⟩;omega
 | rep p z=>
  rintro⟨a,b,r,h⟩
  obtain⟨o,H,h2⟩:=KQ.1 h;have:o= .snd a b r:=by cases o<;>simp [Off.stay]at h2;simp [h2]
  have :=z ⟨a,b,r,this▸H⟩;simp only [rd,ow,size];omega
 | _=>rintro⟨a,b,r,h⟩;simp [offs]at h
def gN {A:Type}(l:List (T A)):Nat:=(l.map T.ow).sum
def iZ {A:Type}(l:List (T A)):Nat:=(l.map T.size).sum
def nt {A:Type}(l:List (T A)):Nat:=(l.map T.rd).sum
def eI {A:Type}(l:List (T A)):Nat:=(l.map T.aH).sum
theorem gD {A:Type}:∀(l:List (T A)),(parL l).ow=gN l/\(l≠[]->iZ l+l.length<=(parL l).size+1)/\(parL l).rd<=nt l/\(parL l).aH<=eI l+3* l.length+1/\∀R,(∀p∈l,p.rd<=R)->(parL l).rd<=R
 | []=>by simp [parL,gN,iZ,nt,eI,ow,rd,aH]
 | [p]=>by simp [parL,gN,iZ,nt,eI];omega
 | p::q::l=>by
  obtain⟨H,h2,I,h4,h5⟩:=gD (q::l);have h2:=h2 (by simp);simp only [parL,ow,size,rd,aH,gN,iZ,nt,eI,KE,Ld,J0]at*;refine⟨by omega,λ _=>by omega,by omega,by omega,λR z=>?_⟩;have :=h5 R λx G=>z x (Ki _ G)
  have :=z p (by simp);omega
structure SU (t:P)(u:U):Prop where
 nr:u.Nr
 nu:Nu u
 fr:∀z,u.Fr z->z< 26
 ae:AE UInt8.toNat t (λy=>(ρ0 y).toNat) u
 len:u.frL.length=t.frL.length
 two:kO (λp q=>AE UInt8.toNat p (λz=>(asg u.frL t.frL ρ0 z).toNat) q) t.ths u.ths
 fn:t.frL.Nodup
 fl:∀c∈t.frL,lt c=true
 free:∀z,(∃q∈u.ths,q.Fr z)->z∈u.frL\/(z< 26/\ρ0 z∉t.frL)
 nd:(u.frL++u.ths.flatMap BV).Nodup
 ge:∀x∈u.frL++u.ths.flatMap BV,26<=x
 smp:∀q∈u.ths,q.smp=true
 smpP:∀q∈t.ths,q.smp=true
 nrs:∀q∈u.ths,q.Nr
 al:∀p∈t.ths,p.Al λc=>lt c=true
theorem Ao {A:Type}:∀{t:T A},t.smp=true->∀q∈t.ths,q.smp=true:=by
 intro t
 induction t with
 | nil=>intro _ q h;cases h
 | res x p G=>intro h;exact G h
 | par p q G z=>
  intro h r hr;simp only [smp,J3]at h;rcases Ks.1 hr with rfl | hr
  ·exact h.1
  ·exact z h.2 r hr
 | _=>intro h q H;cases Kf.1 H;exact h
theorem HA {A:Type}{D:A->Prop}:∀{t:T A},t.Al D->(∀q∈t.ths,q.Al D)/\∀c∈t.frL,D c:=by
 intro t
 induction t with
 | nil=>intro _;exact⟨λq h=>(by cases h),λc h=>(by cases h)⟩
 | res x p G=>
  intro h;obtain⟨H,h2⟩:=G h.2;exact⟨H,λc hc=>(Ks.1 hc).elim (λe=>e▸h.1) (h2 c)⟩
 | par p q G z=>
  intro h;refine⟨λr hr=>?_,λc hc=>(by cases hc)⟩;rcases Ks.1 hr with rfl | hr
  ·exact h.1
  ·exact(z h.2).1 r hr
 | _=>intro h;exact⟨λq I=>(by cases Kf.1 I;exact h),λc hc=>(by cases hc)⟩
theorem mA.su {t:P}(ok:mA t):SU t (num t e0 0).1:=by
 have nu:=lT ok.al;have H:=lG ok.al;have G:=GA ok.al;have ae:AE UInt8.toNat t (λy=>(ρ0 y).toNat) (num t e0 0).1:=H.congr (λ _ _=>rfl) λy hy=>(eO (G y hy)).symm
 have nr:(num t e0 0).1.Nr:=AE.nr H (eX t) (λy z _ _ e=>by unfold σ0 at e;omega) ok.nr;obtain⟨hl,I⟩:=ae.open ok.nr;have J:=nr.shape;have V:=ok.nr.shape;have W:BV (num t e0 0).1=(num t e0 0).1.frL++(num t e0 0).1.ths.flatMap BV:=by
  have:BV (num t e0 0).1=BV (resL (num t e0 0).1.frL (parL (num t e0 0).1.ths)):=by rw [<-J]
  rw [this,gw,gm]
 obtain⟨β,γ⟩:=HA ok.al;refine⟨nr,nu,G,ae,hl.symm,I,(ok.nr.Ey).1,γ,λz ⟨q,hq,hz⟩=>?_,by rw [<-W];exact nu.uq.nd,λx hx=>nu.bv x (by rw [W];exact hx),Ao (by rw [<-sW ae];exact ok.smp),Ao ok.smp,λq hq=>(nr.ths q hq).2,β⟩;by_cases Z:z∈(num t e0 0).1.frL
 ·exact .inl Z
 ·right;have α:(num t e0 0).1.Fr z:=by rw [J];exact fg.2 ⟨Z,my.2 ⟨q,hq,hz⟩⟩
  refine⟨G z α,λhF=>?_⟩;obtain⟨c,hc,e⟩:=ae.symm.free z α;have e:=Ky.1 e;rw [V]at hc;have :=(fg.1 hc).1;rw [e]at this;exact this hF
section
variable {t:P} {u:U}
theorem SU.inj (su:SU t u){z y:Nat}(I:∃q∈u.ths,q.Fr z)(J:∃q∈u.ths,q.Fr y)(e:asg u.frL t.frL ρ0 z=asg u.frL t.frL ρ0 y):z=y:=by
 by_cases G:z∈u.frL<;>by_cases h2:y∈u.frL
 ·exact wF u.frL t.frL ρ0 z y G h2 su.len su.fn e
 ·have H:=ft u.frL t.frL ρ0 z G su.len;rw [e,bV _ _ _ _ h2]at H;exact absurd H ((su.free y J).resolve_left h2).2
 ·have H:=ft u.frL t.frL ρ0 y h2 su.len;rw [<-e,bV _ _ _ _ G]at H;exact absurd H ((su.free z I).resolve_left G).2
 ·rw [bV _ _ _ _ G,bV _ _ _ _ h2]at e;have V:=((su.free z I).resolve_left G).1;have W:=((su.free y J).resolve_left h2).1;have :=Lb UInt8.toNat e;rw [eO V,eO W]at this;unfold σ0 at this;omega
theorem SU.Jj (su:SU t u):kO (Jq u.frL t.frL) t.ths u.ths:=by
 have key:∀{G:List P} {us:List U},kO (λp q=>AE UInt8.toNat p (λz=>(asg u.frL t.frL ρ0 z).toNat) q) G us->(∀p∈G,p∈t.ths)->(∀q∈us,q∈u.ths)->kO (Jq u.frL t.frL) G us:=by
  intro G us h
  induction h with
  | nil=>intro _ _;exact .nil
  | cons h _ I=>
   intro H h2;have ha:=su.al _ (H _ (KR ..));refine .cons ⟨h,T.Al.wf ha,T.Al.eb 0 ha,λz J=>su.free z ⟨_,h2 _ (KR ..),J⟩⟩ (I (λp V=>H p (Ki _ V)) λq W=>h2 q (Ki _ W))
 exact key su.two (λ _ h=>h) λ _ h=>h
theorem bY {X:Type}{l m:List X}(h:l.Perm m)(g:X->Nat):(l.map g).sum=(m.map g).sum:=jt (h.map g)
theorem count_flatMap {X:Type}(g:X->List Nat)(x:Nat):∀l:List X,(l.flatMap g).count x=(l.map λy=>(g y).count x).sum
 | []=>rfl
 | y::l=>by simp only [Ly,KV,KE,Ld,count_flatMap g x l]
theorem mA.Hs (ok:mA t):t.frL.length+gN t.ths=t.ow/\t.rd=(parL t.ths).rd/\(t.ths≠[]->t.frL.length+iZ t.ths+t.ths.length<=t.size+1)/\t.frL.length+3* t.frL.length+t.ths.length<=400/\eI t.ths<=400/\t.ow<=8:=by
 have W:=ok.nr.shape;obtain⟨G,h2,Z,h4⟩:=wT (parL t.ths) t.frL;obtain⟨J,V,k3,k4,_⟩:=gD t.ths;rw [<-W]at G h2 Z h4;have hlen:=ok.len;rw [aY,h4]at hlen;have α:=ok.size;have z:∀l:List P,eI l<=(parL l).aH/\l.length<=(parL l).aH:=λl=>by
  have:∀l:List P,eI l+3* l.length<=(parL l).aH+3:=by
   intro l
   induction l with
   | nil=>simp [eI,parL,T.aH]
   | cons p l ih=>
    cases l with
    | nil=>simp [eI,parL]
    | cons q l=>
     simp only [parL,T.aH,eI,KE,Ld,J0]at ih|-;omega
  have G:∀p:P,1<=p.aH:=λp=>by cases p<;>simp only [T.aH]<;>omega
  cases l with
  | nil=>simp [eI]
  | cons p l=>
   have J:=this (p::l);have V:=G p;have k3:1<=eI (p::l):=by simp only [eI,KE,Ld];omega
   have k4:1<=(p::l).length:=by simp
   omega
 have H:t.ow<=8:=by
  have su:=ok.su;have :=(IA su.nu.uq su.nr).1;have h8:=ok.all;have h9:=(lA su.ae).1;omega
 refine⟨by rw [h2,J],G,λI=>by have :=V I;omega,?_,?_,H⟩
 ·have :=(z t.ths).2;omega
 ·have :=(z t.ths).1;omega
theorem SU.cnt (su:SU t u)(x:Nat):u.frL.count x+(u.ths.map λy=>(BV y).count x).sum<=1:=by
 have z:=Mm.1 su.nd x;rw [KV,count_flatMap]at z;exact z
theorem dP {A:Type}:∀p:T A,p.aH<=5* p.size:=by intro p;induction p<;>simp only [aH,size]<;>omega
theorem Bk (ok:mA t)(su:SU t u){i:Nat}(hi:i< t.ths.length)(α:i< u.ths.length){p:P}{I:U}(ho:Off.tau p∈offs t.ths[i])(β:Off.tau I∈offs u.ths[i])(ε:qM UInt8.toNat (λz=>(asg u.frL t.frL ρ0 z).toNat) (.tau p) (.tau I)):
  ph 0 (resL t.frL (parL (wo t.ths i i++[p]))) σ0 (resL u.frL (parL (wo u.ths i i++[I])))/\(resL u.frL (parL (wo u.ths i i++[I]))).smp=true:=by
 have V:=Kg hi;have J:=Kg α;obtain⟨sP,_⟩:=aZ (su.smpP _ V) _ ho;obtain⟨sU,_⟩:=aZ (su.smp _ J) _ β;have bU:=gh _ β;have al:=sP.al _ (su.al _ V);have H:=zu t.ths i hi;have W:=zu u.ths i α;obtain⟨n1,n2,n3,n4,n5,n6⟩:=ok.Hs;have η:=ok.size;obtain⟨k1,k2,k3,k4,k5⟩:=gD (wo t.ths i i++[p]);have γ:=H.length_eq;have so:=bY H T.ow;have ss:=bY H T.size;have st:=bY H T.aH;simp only [KE,Ld,J0]at so ss st γ;have s1:=sP.ow;have s2:=sP.size;have s3:=sP.rd;simp only [Off.tm,ow,size,rd]at s1 s2 s3;have θ:=dP p;have ι:=cd t;have ζ:t.ths≠[]:=λe=>by rw [e]at hi;cases hi
 have n3:=n3 ζ;simp only [gN,iZ,eI,nt,K3,Nw,KE,L6,Ld,List.sum_nil,J',J0,Kh]at*;have κ:(parL (wo t.ths i i++[p])).rd<=t.rd:=by
  refine k5 t.rd λx G=>?_
  rw [n2];have h6:∀x∈t.ths,x.rd<=(parL t.ths).rd:=by
   have:∀l:List P,∀x∈l,x.rd<=(parL l).rd:=by
    intro l
    induction l with
    | nil=>intro x h;cases h
    | cons p l ih=>
     intro x G;cases l with
     | nil=>rw [Kf]at G;subst G;exact Kb _
     | cons q l=>
      simp only [parL,T.rd];rcases Ks.1 G with rfl | G
      ·exact Nat.le_max_left _ _
      ·exact K5 (ih x G) (Nat.le_max_right _ _)
   exact this t.ths
  rcases Ke.1 G with G | G
  ·exact h6 x (lR G)
  ·rw [Kf]at G;subst G;exact K5 s3 (h6 _ V)
 refine⟨yM su.len su.fn su.fl (λx G=>su.ge x (KH _ G)) (us:=wo u.ths i i++[I]) ?_ ?_ ?_ ?_ ?_ ?_,?_⟩
 ·refine(su.Jj.wo i i).app (.cons ⟨ε,T.Al.wf al,T.Al.eb 0 al,λz hz=>su.free z ⟨_,J,sU.fr z hz⟩⟩ .nil)
 ·rw [Mm];intro x;have h1:u.frL.count x+(u.ths.map λy=>(BV y).count x).sum<=1:=su.cnt x;have h2:(BV I).count x<=(BV u.ths[i]).count x:=bU.count_le x;have h3:(u.ths.map λy=>(BV y).count x).sum=(BV u.ths[i]).count x+((wo u.ths i i).map λy=>(BV y).count x).sum:=by
   have :=bY W λy=>(BV y).count x
   simpa only [KE,Ld]using this
  have h4:(u.frL++(wo u.ths i i++[I]).flatMap BV).count x=u.frL.count x+(((wo u.ths i i).map λy=>(BV y).count x).sum+(BV I).count x):=by
   rw [KV,count_flatMap];simp
  have:u.frL.count x+(((wo u.ths i i).map λy=>(BV y).count x).sum+(BV I).count x)<=1:=by omega
  exact K5 (Nat.le_of_eq h4) this
 ·intro x G;refine su.ge x (KB _ ?_);obtain⟨q,Z,δ⟩:=KU.1 G;rcases Ke.1 Z with Z | Z
  ·exact KU.2 ⟨q,lR Z,δ⟩
  ·rw [Kf]at Z;subst Z;exact KU.2 ⟨_,J,bU.subset δ⟩
 ·omega
 ·omega
 ·omega
 ·rw [rX];refine sM λx G=>?_
  rcases Ke.1 G with G | G
  ·exact su.smp x (lR G)
  ·rw [Kf]at G;subst G;exact sU.smp (su.smp _ J)
end
section
variable {t:P} {u:U}
theorem SU.lV (su:SU t u){k:Nat}(I:k< u.ths.length){r:U}(J:Sub r u.ths[k])(hb:(BV r).Sublist (BV u.ths[k])):Uq r:=by
 have hm:=Kg I;have z:(BV u.ths[k]).Sublist (u.ths.flatMap BV):=by
  rw [List.flatMap_def];exact List.sublist_flatten_of_mem (LG hm)
 have G:=(KL.1 su.nd)
 refine⟨G.2.1.sublist (hb.trans z),λx V W=>?_⟩;have H:=z.subset (hb.subset V);have Z:=su.ge x (KB _ H);rcases su.free x ⟨_,hm,J.fr x W⟩with h | h
 ·exact G.2.2 x h x H rfl
 ·omega
theorem I1 {A:Type}:∀l:List (T A),nt l+gN l+l.length<=iZ l
 | []=>by simp [nt,gN,iZ]
 | p::l=>by
  have z:=I1 l;have h2:=cd p;simp only [nt,gN,iZ,KE,Ld,J0]at*;omega
theorem FI {A:Type}:∀l:List (T A),∀x∈l,x.rd<=(parL l).rd:=by
 intro l
 induction l with
 | nil=>intro x h;cases h
 | cons p l G=>
  intro x z;cases l with
  | nil=>cases Kf.1 z;exact Kb _
  | cons q l=>
   simp only [parL,T.rd];rcases Ks.1 z with rfl | z
   ·exact Nat.le_max_left _ _
   ·exact K5 (G x z) (Nat.le_max_right _ _)
theorem xJ {p q:P}(h:p.shp=q.shp):p.rd=q.rd/\p.ow=q.ow/\p.aH=q.aH:=by
 have key:∀p:P,p.shp.rd=p.rd/\p.shp.ow=p.ow:=λp=>by
  unfold T.shp
  induction p<;>simp_all [T.map,T.rd,T.ow]
 refine⟨by rw [<-(key p).1,<-(key q).1,h],by rw [<-(key p).2,<-(key q).2,h],jn h⟩
def bL {A:Type}(l:List (T A))(i k:Nat)(p q:T A)(s:Bool)(x:T A):List (T A):=wo l i k++[p,q]++if s then [x]else []
theorem yC (ok:mA t)(su:SU t u){i k:Nat}(hi:i< t.ths.length)(θ:i< u.ths.length)(hk:k< t.ths.length)(β:k< u.ths.length)(ι:i≠k){a b:UInt8}{p:P}{c d:Nat}{p':U}(ho:Off.snd a b p∈offs t.ths[i])(κ:Off.snd c d p'∈offs u.ths[i])
  (hae:qM UInt8.toNat (λz=>(asg u.frL t.frL ρ0 z).toNat) (.snd a b p) (.snd c d p')) {e x:UInt8} {q:P} {s:Bool} {e' x':Nat} {H:U} {s':Bool} (hr:Off.rcv e x q s∈offs t.ths[k]) (μ:Off.rcv e' x' H s'∈offs u.ths[k])
  (har:qM UInt8.toNat (λz=>(asg u.frL t.frL ρ0 z).toNat) (.rcv e x q s) (.rcv e' x' H s')) {f:Nat->Nat} {N:Nat} (hf:EZ N H x' d f) (hN:∀z,(z∈u.frL\/z∈u.ths.flatMap BV\/∃q∈u.ths,q.Fr z)->z<=N) (h25:25<=N) {Z:P} (γ:iI 0 q x b Z):
  ph 0 (resL t.frL (parL (bL t.ths i k p Z s t.ths[k]))) σ0 (resL u.frL (parL (bL u.ths i k p' (H.map f) s' u.ths[k])))/\(resL u.frL (parL (bL u.ths i k p' (H.map f) s' u.ths[k]))).smp=true:=by
 obtain⟨_,hbd,ν⟩:=hae;obtain⟨_,ξ,rfl⟩:=har;have ε:=Kg hi;have W:=Kg θ;have ζ:=Kg hk;have J:=Kg β;obtain⟨sP,_⟩:=aZ (su.smpP _ ε) _ ho;obtain⟨sU,_⟩:=aZ (su.smp _ W) _ κ;obtain⟨rP,rR⟩:=aZ (su.smpP _ ζ) _ hr;obtain⟨rU,_⟩:=aZ (su.smp _ J) _ μ;have bU:=gh _ κ;have cU:=gh _ μ;have al:=(sP.al _ (su.al _ ε)).2.2;have G:=zJ t.ths i k hi hk ι;have η:=zJ u.ths i k θ β ι;have ο:=su.lV β rU cU;have δ:Uq H:=ο.rcv;have ς:x'∉BV H:=ο.lL;have hd:d<=N:=hN d (.inr (.inr ⟨_,W,sU.fr d (.inr (.inl rfl))⟩));have υ:∀z,H.Fr z->z<=N:=λz I=>by
  by_cases h:z=x'
  ·subst h;exact hN z (.inr (.inl (KU.2 ⟨_,J,cU.subset (KR ..)⟩)))
  ·exact hN z (.inr (.inr ⟨_,J,rU.fr z (.inr ⟨h,I⟩)⟩))
 have φ:∀z∈BV H,z<=N:=λz I=>hN z (.inr (.inl (KU.2 ⟨_,J,cU.subset (Ki _ I)⟩)))
 have ae2:AE UInt8.toNat Z (λz=>(asg u.frL t.frL ρ0 z).toNat) (H.map f):=by
  have k1:=(γ.ok UInt8.toNat).symm;have k2:=ξ b.toNat;have k3:=hf.ae δ ς υ hd φ (λz=>(asg u.frL t.frL ρ0 z).toNat);rw [show b.toNat=(asg u.frL t.frL ρ0 d).toNat from hbd]at k1 k2;exact(k1.trans k2).trans k3
 have χ:∀z,(H.map f).Fr z->∃q∈u.ths,q.Fr z:=λz I=>by
  rcases hf.fr δ z I with h | ⟨h,h'⟩
  ·subst h;exact⟨_,W,sU.fr z (.inr (.inl rfl))⟩
  ·exact⟨_,J,rU.fr z (.inr ⟨h,h'⟩)⟩
 obtain⟨n1,n2,n3,n4,n5,n6⟩:=ok.Hs;have hsz:=ok.size;obtain⟨g1,g2,g3⟩:=xJ γ.shp;have ψ:=G.length_eq;have so:=bY G T.ow;have ss:=bY G T.size;have st:=bY G T.aH;have sr:=bY G T.rd;simp only [KE,Ld,J0]at so ss st sr ψ;have s1:=sP.ow;have s2:=sP.size;have s3:=sP.rd;have r1:=rP.ow;have r2:=rP.size;have r3:=rP.rd;simp only [Off.tm,ow,size,rd]at s1 s2 s3 r1 r2 r3;have tl1:=dP p;have tl2:=dP q;have hro:=cd t;have hne:t.ths≠[]:=λe=>by rw [e]at hi;cases hi
 have n3:=n3 hne;have sum:=I1 (wo t.ths i k);have snd2:=D0 ⟨a,b,p,ho⟩;have rk:=cd t.ths[k];have rdt:=(gD t.ths).2.2.1;have h6:=FI t.ths;have hrd:(parL (bL t.ths i k p Z s t.ths[k])).rd<=t.rd:=by
  refine(gD _).2.2.2.2 t.rd λx V=>?_
  rw [n2];unfold bL at V;rcases Ke.1 V with V | V
  ·rcases Ke.1 V with V | V
   ·exact h6 x (lR V)
   ·rcases Ks.1 V with rfl | V
    ·exact K5 s3 (h6 _ ε)
    ·cases Kf.1 V;have :=h6 _ ζ;omega
  ·cases s
   ·cases V
   ·cases Kf.1 V;exact h6 _ ζ
 obtain⟨k1,_,_,k4,_⟩:=gD (bL t.ths i k p Z s t.ths[k]);have kow:gN (bL t.ths i k p Z s t.ths[k])=gN (wo t.ths i k)+p.ow+Z.ow+if s then t.ths[k].ow else 0:=by
  unfold bL gN;cases s<;>simp<;>omega
 have ktl:eI (bL t.ths i k p Z s t.ths[k])+3* (bL t.ths i k p Z s t.ths[k]).length<=eI (wo t.ths i k)+3* (wo t.ths i k).length+p.aH+Z.aH+t.ths[k].aH+9:=by
  unfold bL eI;cases s<;>simp<;>omega
 have hbound:(parL (bL t.ths i k p Z s t.ths[k])).rd+t.frL.length+(parL (bL t.ths i k p Z s t.ths[k])).ow<=64:=by
  rw [k1,kow];cases s
  ·simp only [L7,ME,gN,iZ,nt]at*;omega
  ·have e2:=rR e x q rfl;have e3:t.ths[k].ow=q.ow/\t.ths[k].rd=q.rd+1/\t.ths[k].size=q.size+2:=by rw [e2];simp [T.ow,T.rd,T.size]
   have rq:=cd q;simp only [LN,gN,iZ,nt]at*;omega
 refine⟨yM su.len su.fn su.fl (λx V=>su.ge x (KH _ V)) (us:=bL u.ths i k p' (H.map f) s u.ths[k]) ?_ ?_ ?_ hbound ?_ ?_,?_⟩
 ·unfold bL;refine((su.Jj.wo i k).app (.cons ⟨ν,T.Al.wf al,T.Al.eb 0 al,λz I=>su.free z ⟨_,W,sU.fr z (.inr (.inr I))⟩⟩ (.cons ⟨ae2,γ.wf,γ.eb,λz I=>su.free z (χ z I)⟩ .nil))).app ?_;cases s
  ·exact .nil
  ·exact .cons (su.Jj.get hk β) .nil
 ·rw [Mm];intro z;have h1:u.frL.count z+(u.ths.map λy=>(BV y).count z).sum<=1:=su.cnt z;have h2:(BV p').count z<=(BV u.ths[i]).count z:=bU.count_le z;have h3:(u.ths.map λy=>(BV y).count z).sum=(BV u.ths[i]).count z+((BV u.ths[k]).count z+((wo u.ths i k).map λy=>(BV y).count z).sum):=by
   have :=bY η λy=>(BV y).count z
   simpa only [KE,Ld]using this
  have h4:(u.frL++(bL u.ths i k p' (H.map f) s u.ths[k]).flatMap BV).count z=u.frL.count z+(((wo u.ths i k).map λy=>(BV y).count z).sum+(BV p').count z+(BV (H.map f)).count z+if s then(BV u.ths[k]).count z else 0):=by
   unfold bL;rw [KV,count_flatMap];cases s<;>simp<;>omega
  have ω:(BV (H.map f)).count z=0\/(N< z/\(BV (H.map f)).count z<=1):=by
   rw [fU];by_cases h:z∈(BV H).map f
   ·right;obtain⟨y,hy,e⟩:=KQ.1 h;refine⟨by rw [<-e];exact hf.fb y hy,?_⟩;have:((BV H).map f).Nodup:=by
     have:∀l:List Nat,l.Nodup->(∀z∈l,z∈BV H)->(l.map f).Nodup:=by
      intro l
      induction l with
      | nil=>intro _ _;exact LB
      | cons y l ih=>
       intro hn hm;have hn:=K7.1 hn;refine K7.2 ⟨λh=>?_,ih hn.2 λz I=>hm z (Ki _ I)⟩;obtain⟨z,I,e⟩:=KQ.1 h;have :=hf.fi z (hm z (Ki _ I)) y (hm y (KR ..)) e;exact hn.1 (this▸I)
     exact this (BV H) δ.nd λ _ h=>h
    exact Mm.1 this z
   ·exact .inl (List.count_eq_zero.2 h)
  have hbig:N< z->u.frL.count z+(u.ths.map λy=>(BV y).count z).sum=0:=λI=>by
   rw [<-count_flatMap,<-KV];refine List.count_eq_zero.2 λhm=>?_
   have :=hN z ((Ke.1 hm).imp id .inl);omega
  have:u.frL.count z+(((wo u.ths i k).map λy=>(BV y).count z).sum+(BV p').count z+(BV (H.map f)).count z+if s then(BV u.ths[k]).count z else 0)<=1:=by
   rcases ω with h | ⟨I,h⟩
   ·cases s<;>simp only [LN,L7,ME]<;>omega
   ·have :=hbig I;cases s<;>simp only [LN,L7,ME]<;>omega
  exact K5 (Nat.le_of_eq h4) this
 ·intro z I;obtain⟨r,hr2,α⟩:=KU.1 I;have old:∀r∈u.ths,z∈BV r->26<=z:=λr h1 h2=>su.ge z (KB _ (KU.2 ⟨r,h1,h2⟩))
  unfold bL at hr2;rcases Ke.1 hr2 with h | h
  ·rcases Ke.1 h with h | h
   ·exact old r (lR h) α
   ·rcases Ks.1 h with rfl | h
    ·exact old _ W (bU.subset α)
    ·cases Kf.1 h;rw [fU]at α;obtain⟨y,hy,e⟩:=KQ.1 α;have :=hf.fb y hy;omega
  ·cases s
   ·cases h
   ·cases Kf.1 h;exact old _ J α
 ·simp only [eI,iZ,gN]at*;omega
 ·omega
 ·rw [rX];have hsm:(H.map f).smp=true:=by
   have h1:=hf.ae δ ς υ hd φ id;rw [<-sW h1];have :=rU.smp (su.smp _ J);exact this
  refine sM λy hy=>?_
  unfold bL at hy;rcases Ke.1 hy with h | h
  ·rcases Ke.1 h with h | h
   ·exact su.smp y (lR h)
   ·rcases Ks.1 h with rfl | h
    ·exact sU.smp (su.smp _ W)
    ·cases Kf.1 h;exact hsm
  ·cases s
   ·cases h
   ·cases Kf.1 h;exact su.smp _ J
end
end Go.Proofs.YtdecokaadekjnaaGreat
namespace Go.Proofs.YtdecokaadekjnaaGreat
open Go Go.RowKit T
theorem HY (w:World){t:P}{k:Nat}{old nw:UInt8}(ok:Ok t)(eb:Eb k t)(hb:k+t.bd<=64)(z:nm nw=true)(G:okn k nw):∃q,iI k t old nw q:=by
 have h:=gQ t.size (old:=old) (Kb _) ok eb hb z G (w:=w) (R:=λ _ _=>∃q,iI k t old nw q) λq w' _ H=>⟨q,H⟩
 obtain⟨e,w',fr,hr,_⟩:=h [];obtain⟨_,hr⟩:=hr;exact hr.2
def Ff (N:Nat)(q:U)(x b:Nat):Nat->Nat:=λz=>if z=x then b else if z∈BV q then z+N+1 else z
theorem zD (N:Nat){q:U}{x:Nat}(b:Nat)(I:x∉BV q):EZ N q x b (Ff N q x b):=by
 refine⟨KG rfl,λz G h2=>?_,λz H=>?_,λz H y J e=>?_⟩
 ·simp only [Ff,Ko G,Ko h2]
 ·have G:z≠x:=λe=>I (e▸H)
  simp only [Ff,Ko G,KG H];omega
 ·have G:z≠x:=λe=>I (e▸H)
  have h2:y≠x:=λe=>I (e▸J)
  simp only [Ff,Ko G,KG H,Ko h2,KG J]at e;omega
def NN (u:U):Nat:=(BV u).sum+26
def It (u:U)(i:Nat)(p:U):U:=resL u.frL (parL (wo u.ths i i++[p]))
def Cx (u:U)(i k:Nat)(p q:U)(s:Bool):U:=resL u.frL (parL (bL u.ths i k p q s (u.ths.getD k .nil)))
def E3 (u:U)(i k c d:Nat)(p:U):Off Nat->List U
 | .rcv e x q s=>if e=c then [Cx u i k p (q.map (Ff (NN u) q x d)) s]else []
 | _=>[]
def E2 (u:U)(i c d:Nat)(p:U)(k:Nat):List U:=if i=k then []else(offs (u.ths.getD k .nil)).flatMap (E3 u i k c d p)
def E1 (u:U)(i:Nat):Off Nat->List U
 | .tau p=>[It u i p]
 | .snd c d p=>(List.range u.ths.length).flatMap (E2 u i c d p)
 | .rcv .. =>[]
def E0 (u:U)(i:Nat):List U:=(offs (u.ths.getD i .nil)).flatMap (E1 u i)
def gU (u:U):List U:=(List.range u.ths.length).flatMap (E0 u)
noncomputable def outs (l:List U):List Tx:=l.map λv=>(kC v).getD []
noncomputable def jv (l:List U):Bool:=l.all λv=>(kC v).isSome
noncomputable def Cy (u:U):Option (List Tx):=if jv (gU u)then some (dd (a7 (outs (gU u))))else none
theorem yS (l m:List U):outs (l++m)=outs l++outs m:=K3 ..
theorem uB (l m:List U):jv (l++m)=(jv l&&jv m):=MC ..
section
variable {t:P} {u:U}
theorem SU.bound (su:SU t u):∀z,(z∈u.frL\/z∈u.ths.flatMap BV\/∃q∈u.ths,q.Fr z)->z<=NN u:=by
 have H:=su.nr.shape;have G:BV u=u.frL++u.ths.flatMap BV:=by
  have:BV u=BV (resL u.frL (parL u.ths)):=by rw [<-H]
  rw [this,gw,gm]
 have key:∀z∈BV u,z<=NN u:=λz I=>by have :=wL I;unfold NN;omega
 intro z I;rcases I with h | h | h
 ·exact key z (by rw [G];exact KH _ h)
 ·exact key z (by rw [G];exact KB _ h)
 ·rcases su.free z h with h | h
  ·exact key z (by rw [G];exact KH _ h)
  ·unfold NN;omega
theorem Dd (ok:mA t)(su:SU t u){i:Nat}(I:i< u.ths.length){p:U}(J:Off.tau p∈offs u.ths[i]):Nu (It u i p)/\(It u i p).smp=true:=by
 have Z:=su.two.len;have z:i< t.ths.length:=by omega
 obtain⟨V,H,G⟩:=(jQ (su.two.get z I)).Cp J;cases V<;>try cases G
 obtain⟨W,h2⟩:=Bk ok su z I H J G;exact⟨W.nu,h2⟩
theorem IH (ok:mA t)(su:SU t u){k:Nat}(z:k< t.ths.length){e x:UInt8}{q:P}{s:Bool}(hr:Off.rcv e x q s∈offs t.ths[k]):Ok q/\Eb 0 q/\0+q.bd<=64:=by
 have hm:=Kg z;obtain⟨sub,_⟩:=aZ (su.smpP _ hm) _ hr;have al:=sub.al _ (su.al _ hm);have J:=sub.size;obtain⟨_,_,G,_,_,_⟩:=ok.Hs;have G:=G (λe=>by rw [e]at z;cases z);have V:=ok.size;have H:t.ths[k].size<=iZ t.ths:=wL (KQ.2 ⟨_,hm,rfl⟩);simp only [Off.tm,size]at J;have :=cd q;have :=T.xV q;have :=dP q;have I:1<=t.ths.length:=by omega
 exact⟨⟨T.Al.wf al.2.2,by rw [aY];omega⟩,T.Al.eb 0 al.2.2,by omega⟩
theorem rL (w:World)(ok:mA t)(su:SU t u){i k:Nat}(hi:i< u.ths.length)(hk:k< u.ths.length)(W:i≠k){c d:Nat}{p:U}(ho:Off.snd c d p∈offs u.ths[i]){e x:Nat}{q:U}{s:Bool}(hr:Off.rcv e x q s∈offs u.ths[k])
  {f:Nat->Nat} {N:Nat} (hf:EZ N q x d f) (hN:∀z,(z∈u.frL\/z∈u.ths.flatMap BV\/∃q∈u.ths,q.Fr z)->z<=N) (Z:25<=N):Nu (resL u.frL (parL (bL u.ths i k p (q.map f) s u.ths[k])))/\(resL u.frL (parL (bL u.ths i k p (q.map f) s u.ths[k]))).smp=true:=by
 have hl:=su.two.len;have G:i< t.ths.length:=by omega
 have H:k< t.ths.length:=by omega
 obtain⟨o',I,α⟩:=(jQ (su.two.get G hi)).Cp ho;obtain⟨r',J,β⟩:=(jQ (su.two.get H hk)).Cp hr;cases o'<;>try cases α
 cases r'<;>try cases β
 rename_i a b p' γ δ e' x' q' s' ε ζ;obtain⟨h1,h2,h3⟩:=IH ok su H J;have V:=Kg G;obtain⟨sP,_⟩:=aZ (su.smpP _ V) _ I;have al:=(sP.al _ (su.al _ V)).2.1;obtain⟨q2,η⟩:=HY w h1 h2 h3 (old:=x') (nw:=b) (iQ al) (zh al 0);obtain⟨k1,k2⟩:=yC ok su G hi H hk W I ho ⟨γ,δ⟩ J hr ⟨ε,ζ⟩ hf hN Z η;exact⟨k1.nu,k2⟩
theorem AE.IC {p q:U}(h:∀σ:Nat->Nat,AE σ p σ q):∀(o:List Nat) (σ:Nat->Nat),AE σ (resL o p) σ (resL o q)
 | [],σ=>h σ
 | x::o,σ=>λv=>AE.IC h o (aF σ x v)
theorem Cn (w:World)(ok:mA t)(su:SU t u){i k:Nat}(hi:i< u.ths.length)(hk:k< u.ths.length)(I:i≠k){c d:Nat}{p:U}(ho:Off.snd c d p∈offs u.ths[i]){e x:Nat}{q:U}{s:Bool}(hr:Off.rcv e x q s∈offs u.ths[k])
  {f f':Nat->Nat} {N N':Nat} (hf:EZ N q x d f) (hN:∀z,(z∈u.frL\/z∈u.ths.flatMap BV\/∃q∈u.ths,q.Fr z)->z<=N) (α:25<=N) (J:EZ N' q x d f') (V:∀z,(z∈u.frL\/z∈u.ths.flatMap BV\/∃q∈u.ths,q.Fr z)->z<=N') (W:25<=N'):
  kC (resL u.frL (parL (bL u.ths i k p (q.map f) s u.ths[k])))=kC (resL u.frL (parL (bL u.ths i k p (q.map f') s u.ths[k]))):=by
 have G:=Kg hk;have Z:=Kg hi;obtain⟨sU,_⟩:=aZ (su.smp _ Z) _ ho;obtain⟨rU,_⟩:=aZ (su.smp _ G) _ hr;have cU:=gh _ hr;have H:=su.lV hk rU cU;have nq:∀M,(∀z,(z∈u.frL\/z∈u.ths.flatMap BV\/∃q∈u.ths,q.Fr z)->z<=M)->(∀z,q.Fr z->z<=M)/\d<=M/\∀z∈BV q,z<=M:=λM hM=>by
  refine⟨λz hz=>?_,hM d (.inr (.inr ⟨_,Z,sU.fr d (.inr (.inl rfl))⟩)),λz hz=>hM z (.inr (.inl (KU.2 ⟨_,G,cU.subset (Ki _ hz)⟩)))⟩;by_cases h:z=x
  ·subst h;exact hM z (.inr (.inl (KU.2 ⟨_,G,cU.subset (KR ..)⟩)))
  ·exact hM z (.inr (.inr ⟨_,G,rU.fr z (.inr ⟨h,hz⟩)⟩))
 obtain⟨a1,a2,a3⟩:=nq N hN;obtain⟨b1,b2,b3⟩:=nq N' V;have hq:∀σ:Nat->Nat,AE σ (q.map f) σ (q.map f'):=λσ=>(hf.ae H.rcv H.lL a1 a2 a3 σ).symm.trans (J.ae H.rcv H.lL b1 b2 b3 σ)
 refine Ej (rL w ok su hi hk I ho hr hf hN α).1 (rL w ok su hi hk I ho hr J V W).1 (AE.IC (λσ=>?_) _ _);have refl:∀l:List U,kO (λp q=>AE σ p σ q) l l:=λl=>by
  induction l with
  | nil=>exact .nil
  | cons p l ih=>exact .cons (AE.refl p σ) ih
 have:kO (λp q=>AE σ p σ q) (bL u.ths i k p (q.map f) s u.ths[k]) (bL u.ths i k p (q.map f') s u.ths[k]):=by
  unfold bL;exact((refl _).app (.cons (AE.refl p σ) (.cons (hq σ) .nil))).app (refl _)
 have key:∀{ps us:List U},kO (λp q=>AE σ p σ q) ps us->AE σ (T.parL ps) σ (T.parL us):=by
  intro ps us h
  induction h with
  | nil=>trivial
  | cons h k ih=>
   cases k with
   | nil=>exact h
   | cons h' k'=>exact⟨h,ih⟩
 exact key this
theorem cN {l:List U}{k:Nat}(h:k< l.length):l.getD k .nil=l[k]:=by simp [List.getD,h]
theorem Dl (w:World)(ok:mA t)(su:SU t u):∀v∈gU u,Nu v/\v.smp=true:=by
 intro v z;unfold gU E0 at z;obtain⟨i,I,z⟩:=KU.1 z;rw [Lz]at I;rw [cN I]at z;obtain⟨o,Z,z⟩:=KU.1 z;cases o with
 | tau p=>cases Kf.1 z;exact Dd ok su I Z
 | rcv=>cases z
 | snd c d p=>
  obtain⟨k,G,z⟩:=KU.1 z;rw [Lz]at G;unfold E2 at z;split at z
  ·cases z
  ·rename_i J;rw [cN G]at z;obtain⟨r,hr,z⟩:=KU.1 z;cases r with
   | tau=>cases z
   | snd=>cases z
   | rcv e x q s=>
    have z:v∈(if e=c then [Cx u i k p (q.map (Ff (NN u) q x d)) s]else []):=z;by_cases H:e=c
    ·rw [KG H]at z;cases Kf.1 z;unfold Cx;rw [cN G];have V:=Kg G;have W:=su.lV G (aZ (su.smp _ V) _ hr).1 (gh _ hr);exact rL w ok su I G J Z hr (zD (NN u) d W.lL) su.bound (by unfold NN;omega)
    ·rw [Ko H]at z;cases z
end
theorem DB:∀l:List U,(tp l).bvs=l.flatMap λs=>(td s).1++(td s).2.bvs
 | []=>rfl
 | u::l=>by simp only [tp,Lv.bvs,Ly,DB l,KN]
theorem Hc:∀u:U,BV u=u.mw.flatMap BV:=by
 intro u
 induction u with
 | sum p q G z=>simp only [BV,T.mw,Ly];rw [<-z]
 | _=>simp [T.mw]
theorem EJ:∀(n:Nat) {u:U},u.size<=n->Uq u->u.Nr->(td u).1++(td u).2.bvs=BV u
 | 0,u,h,_,_=>by cases u<;>simp [T.size]at h
 | n+1,u,h,z,nr=>by
  have G:=λ{p:U} (W:p.size<=n) (z:Uq p) (nr:p.Nr)=>EJ n W z nr
  have e:=js z nr;cases u with
  | nil=>rw [e];rfl
  | snd a b p=>rw [e];have :=G (by simp only [T.size]at h;omega) z.snd nr;simpa [frL,T.ths,tl,Lv.bvs,BV]using this
  | mat a b p=>rw [e];have :=G (by simp only [T.size]at h;omega) z.mat nr.2;simpa [frL,T.ths,tl,Lv.bvs,BV]using this
  | tau p=>rw [e];have :=G (by simp only [T.size]at h;omega) z.tau nr;simpa [frL,T.ths,tl,Lv.bvs,BV]using this
  | rep p=>rw [e];have :=G (by simp only [T.size]at h;omega) z.rep nr.2;simpa [frL,T.ths,tl,Lv.bvs,BV]using this
  | rcv a x p=>rw [e];have :=G (by simp only [T.size]at h;omega) z.rcv nr;simp only [frL,T.ths,tl,Lv.bvs,BV,LN,KJ,KZ,this];rfl
  | res x p=>
   have :=G (by simp only [T.size]at h;omega) z.res nr.2;rw [js z.res nr.2]at this;rw [e];simp only [frL,T.ths,BV,K4];rw [<-this]
  | par p q=>
   simp only [T.size]at h;have I:=G (p:=p) (by omega) z.fT nr.2.1;have h2:=G (p:=q) (by omega) z.fM nr.2.2;rw [js z.fT nr.2.1,iN nr.1.1,n7 nr.1.1]at I;have Z:q.frL=[]:=by
    rcases nr.1.2 with h | h
    ·exact iN h
    ·cases q<;>first | rfl | (cases h;done)
   rw [js z.fM nr.2.2,Z]at h2;simp only [KZ]at I h2;rw [e];simp only [frL,T.ths,BV,KZ];rw [show p::q.ths=[p]++q.ths from rfl,gI,Lv.dA,I,h2]
  | sum p q=>
   simp only [T.size]at h;rw [e];simp only [frL,T.ths,tl,Lv.bvs,KZ,KJ];rw [eo z.ec nr.2.1 nr.1.1,eo z.dL nr.2.2 nr.1.2.1,gz nr.1.2.2];rw [DB,Hc (.sum p q)];have key:∀s∈[p]++q.mw,(td s).1++(td s).2.bvs=BV s:=by
    intro s H;rcases Ke.1 H with H | H
    ·cases Kf.1 H;exact G (by omega) z.ec nr.2.1
    ·have:∀q:U,Uq q->q.Nr->∀s∈q.mw,s.size<=q.size/\Uq s/\s.Nr:=by
      intro q
      induction q with
      | sum p q _ G=>
       intro z nr s H;rcases Ks.1 H with rfl | H
       ·exact⟨by simp only [T.size];omega,z.ec,nr.2.1⟩
       ·obtain⟨k1,J,V⟩:=G z.dL nr.2.2 s H;exact⟨by simp only [T.size];omega,J,V⟩
      | _=>intro z nr s H;cases Kf.1 H;exact⟨Kb _,z,nr⟩
     obtain⟨k1,J,V⟩:=this q z.dL nr.2.2 s H;exact G (by omega) J V
   have fm:∀l:List U,(∀s∈l,(td s).1++(td s).2.bvs=BV s)->(l.flatMap λs=>(td s).1++(td s).2.bvs)=l.flatMap BV:=by
    intro l
    induction l with
    | nil=>intro _;rfl
    | cons s l G=>intro h;rw [Ly,Ly,h s (by simp),G λx hx=>h x (by simp [hx])]
   exact fm _ key
theorem xz:∀{K:List U},(∀t∈K,t.th=true/\Uq t/\t.Nr)->joinL (K.map td)=([],tl K)
 | [],_=>rfl
 | t::K,h=>by
  obtain⟨z,h2,G⟩:=h t (by simp);simp only [KE,joinL];rw [xz (K:=K) λx H=>h x (by simp [H]),js h2 G,iN z,n7 z,show t::K=[t]++K from rfl,gI];rfl
theorem By (O:List Nat){K:List U}(G:∀t∈K,t.th=true/\Uq t/\t.Nr){zs:List ((List Nat×Lv)×U)}(J:∀z∈zs,Pc z.1 z.2):Lv.tidy (O++(joinL (zs.map (·.1))).1) ((tl K).app (joinL (zs.map (·.1))).2)=td (resL O (parL (K++zs.map (·.2)))):=by
 have h:=yp (own:=O) (Pc.join (zs:=K.map (λt=>(td t,t))++zs) λz H=>by
  rcases Ke.1 H with h | h
  ·obtain⟨t,I,rfl⟩:=KQ.1 h;exact Pc.nr (G t I).2.1 (G t I).2.2
  ·exact J z h)
 rw [K3,K3,LM,LM,qz]at h;have V:K.map ((λz:(List Nat×Lv)×U=>z.1)∘λt=>(td t,t))=K.map td:=rfl;have W:K.map ((λz:(List Nat×Lv)×U=>z.2)∘λt=>(td t,t))=K:=List.map_id K;rw [V,W,xz G]at h;exact h
theorem ER:∀{l:List U},(∀t∈l,t.th=true)->(tl l).bB=l.map λt=>tl [t]
 | [],_=>rfl
 | t::l,h=>by
  have z:=h t (by simp);have G:=ER (l:=l) λx H=>h x (by simp [H])
  cases t<;>first | (cases z;done) | simp only [tl,Lv.bB,G,KE]
theorem xe {X Y:Type}(f:X->Y)(P:Nat->Bool):∀(l:List X) (k:Nat),kz P (l.map f) k=(kz P l k).map f
 | [],k=>by rw [L6,kv,kv];rfl
 | x::l,k=>by
  rw [KE,cz,cz,xe f P l (k+1)];split<;>simp
theorem Az:∀l:List U,elsL (l.map λt=>tl [t])=tl l
 | []=>rfl
 | t::l=>by rw [KE,elsL,Az l,<-gI];rfl
theorem HG {l:List U}(h:∀t∈l,t.th=true)(P:Nat->Bool):elsL (kz P (tl l).bB 0)=tl (kz P l 0):=by
 rw [ER h,xe,Az]
theorem GI {O:List Nat}{ts G:List U}(h:ts.Perm G)(n:Nu (resL O (parL ts))):Nu (resL O (parL G)):=by
 have H:(BV (resL O (parL ts))).Perm (BV (resL O (parL G))):=by
  rw [gw,gw,gm,gm];exact(K9 _).append (h.flatMap_right _)
 have J:∀z,(resL O (parL G)).Fr z->(resL O (parL ts)).Fr z:=λz I=>by
  obtain⟨V,h2⟩:=fg.1 I;obtain⟨t,W,I⟩:=my.1 h2;exact fg.2 ⟨V,my.2 ⟨t,h.symm.subset W,I⟩⟩
 have Z:∀z,(resL O (parL G)).Us z->(resL O (parL ts)).Us z:=λz I=>by
  obtain⟨V,h2⟩:=ka.1 I;obtain⟨t,W,I⟩:=rQ.1 h2;exact ka.2 ⟨V,rQ.2 ⟨t,h.symm.subset W,I⟩⟩
 exact⟨⟨H.nodup_iff.1 n.uq.nd,λx hx hf=>n.uq.nf x (H.symm.subset hx) (J x hf)⟩,λy hy=>n.fr y (Z y hy),λx hx=>n.bv x (H.symm.subset hx)⟩
theorem Cm {ths:List U}{i k:Nat}(G:i< ths.length)(H:k< ths.length)(z:i≠k)(p q:U):(wo ths i i++[p,q]).Perm (bL ths i k p q true ths[k]):=by
 unfold bL;have h:=Fx ths i k G H z;refine(h.append (K9 _)).trans ?_;rw [KG rfl,KN,KN];exact(K9 _).append Me
end Go.Proofs.YtdecokaadekjnaaGreat
namespace Go.Proofs.YtdecokaadekjnaaGreat
open Go Go.RowKit T Classical
def St (s:Tx):Prop:=∃t,mA t/\t.text=s
theorem mA.uniq {t z:P}(a:mA t)(b:mA z)(h:t.text=z.text):t=z:=fH a.al.wf b.al.wf h
noncomputable def tF (s:Tx):Option (List Tx):=if h:St s then Cy (num h.choose e0 0).1 else none
theorem Dn {t:P}(ok:mA t):tF t.text=Cy (num t e0 0).1:=by
 have h:St t.text:=⟨t,ok,rfl⟩
 unfold tF;rw [dif_pos h,(h.choose_spec.1).uniq ok h.choose_spec.2]
theorem zH {u:U}(h:Nu u)(z:u.smp=true){s:Tx}(e:kC u=some s):St s:=by
 obtain⟨t,v,n⟩:=DU h e;exact⟨t,n.JQ h z,n.text⟩
theorem Dk (w:World){s:Tx}{l:List Tx}(h:tF s=some l):∀x∈l,St x:=by
 unfold tF at h;split at h
 ·rename_i z;have ok:=z.choose_spec.1;generalize z.choose=t at ok h;have su:=ok.su;generalize (num t e0 0).1=u at su h;unfold Cy at h;split at h
  ·rename_i J;cases h;intro x G;rw [HD,(aO _).mem_iff]at G;obtain⟨v,H,rfl⟩:=KQ.1 G;obtain⟨V,h2⟩:=Dl w ok su v H;have I:=LW.1 J v H;cases e:kC v with
   | none=>rw [e]at I;cases I
   | some y=>exact zH V h2 e
  ·cases h
 ·cases h
def IE (s:Tx):Prop:=∃t:P,t.Al (λc=>lt c=true)/\t.text=s/\dB s/\t.smp=true
noncomputable def cc (s:Tx):Option Tx:=if h:IE s then kC (num h.choose e0 0).1 else none
theorem qn {t:P}(al:t.Al λc=>lt c=true)(g:dB t.text)(z:t.smp=true):cc t.text=kC (num t e0 0).1:=by
 have h:IE t.text:=⟨t,al,rfl,g,z⟩
 unfold cc;rw [dif_pos h,fH h.choose_spec.1.wf al.wf h.choose_spec.2.1]
theorem iu {s:Tx}(h:¬IE s):cc s=none:=by unfold cc;rw [dif_neg h]
theorem uS {s n:Tx}(h:cc s=some n):St n:=by
 unfold cc at h;split at h
 ·rename_i z;exact zH (lT z.choose_spec.1) ((sW (lG z.choose_spec.1)).symm.trans z.choose_spec.2.2.2) h
 ·cases h
theorem mA.good {t:P}(ok:mA t):dB t.text:=⟨ok.len,t,ok.al,rfl,ok.size⟩
theorem BR {t:P}(ok:mA t):cc t.text=some t.text:=(qn ok.al ok.good ok.smp).trans ok.nf
def ie (a:List Tx)(s:Tx):List Tx:=if s∈a then a else a++[s]
def bC (a l:List Tx):List Tx:=l.foldl ie a
theorem ju {a l:List Tx}{i:Nat}(h:i< l.length):bC a (l.take (i+1))=ie (bC a (l.take i)) l[i]:=by
 unfold bC;rw [J8 h,List.foldl_append];rfl
theorem Es {a:List Tx}{s:Tx}:a<+:ie a s:=by
 unfold ie;split
 ·exact No _
 ·exact List.prefix_append _ _
theorem oD:∀{l a:List Tx},a<+:bC a l
 | [],_=>No _
 | s::l,a=>Es.trans (oD (l:=l) (a:=ie a s))
theorem dG:∀{l a:List Tx} {x:Tx},x∈bC a l↔x∈a\/x∈l
 | [],_,_=>by simp [bC]
 | s::l,a,x=>by
  have e:bC a (s::l)=bC (ie a s) l:=rfl;rw [e,dG (l:=l)];unfold ie;split
  ·rename_i h;constructor
   ·rintro(z | z)
    ·exact .inl z
    ·exact .inr (Ki _ z)
   ·rintro(z | z)
    ·exact .inl z
    ·rcases Ks.1 z with rfl | z
     ·exact .inl h
     ·exact .inr z
  ·simp only [Ke,Ks,LY,Mq];exact MU
theorem jg:∀(l a:List Tx),(bC a l).length<=a.length+l.length
 | [],_=>Kb _
 | s::l,a=>by
  have e:bC a (s::l)=bC (ie a s) l:=rfl;have h:=jg l (ie a s);rw [e];have:(ie a s).length<=a.length+1:=by
   unfold ie;split<;>simp
  simp only [J0];omega
noncomputable def bfs:Nat->List Tx->Nat->Option (List Tx)
 | 0,_,_=>none
 | f+1,all,i=>if h:i< all.length then(match tF all[i]with
   | none=>none
   | some l=>if 60< (bC all l).length then none else bfs f (bC all l) (i+1))else some all
noncomputable def bT (s:Tx):Option (List Tx):=(cc s).bind λn=>bfs 62 [n] 0
theorem AB {all:List Tx}{i:Nat}(G:all.length<=60)(h:¬i< all.length)(H:i<=all.length):bfs (62 - i) all i=some all:=by
 obtain⟨k,z⟩:∃k,62 - i=k+1:=⟨61 - i,by omega⟩
 rw [z];unfold bfs;rw [dif_neg h]
theorem yU {all:List Tx}{i:Nat}(H:all.length<=60)(h:i< all.length)(z:tF all[i]=none):bfs (62 - i) all i=none:=by
 obtain⟨k,G⟩:∃k,62 - i=k+1:=⟨61 - i,by omega⟩
 rw [G];unfold bfs;rw [dif_pos h,z]
theorem Ac {all l:List Tx}{i:Nat}(H:all.length<=60)(h:i< all.length)(z:tF all[i]=some l)(hb:60< (bC all l).length):bfs (62 - i) all i=none:=by
 obtain⟨k,G⟩:∃k,62 - i=k+1:=⟨61 - i,by omega⟩
 rw [G];unfold bfs;rw [dif_pos h,z];simp only;rw [KG hb]
theorem xM {all l:List Tx}{i:Nat}(H:all.length<=60)(h:i< all.length)(z:tF all[i]=some l)(hb:¬60< (bC all l).length):bfs (62 - i) all i=bfs (62 - (i+1)) (bC all l) (i+1):=by
 have G:62 - i=(62 - (i+1))+1:=by omega
 rw [G];conv=>lhs;unfold bfs
 rw [dif_pos h,z];simp only;rw [Ko hb]
def Off.over {A:Type}(k:UInt8):Off A->Option A
 | .tau _=>none
 | .snd a _ _=>if k=33 then some a else none
 | .rcv a _ _ _=>if k=63 then some a else none
def Jg (k:UInt8)(t:P)(c:UInt8):Prop:=c∉t.frL/\∃p∈t.ths,∃o∈offs p,o.over k=some c
noncomputable def Cb (k:UInt8)(t:P):Tx:=iO.filter λc=>decide (Jg k t c)
noncomputable def ji (k:UInt8)(s:Tx):Tx:=if h:St s then Cb k h.choose else []
theorem vV {k:UInt8}{t:P}(ok:mA t):ji k t.text=Cb k t:=by
 have h:St t.text:=⟨t,ok,rfl⟩
 unfold ji;rw [dif_pos h,(h.choose_spec.1).uniq ok h.choose_spec.2]
theorem mL {c:UInt8}:c∈iO↔lt c=true:=by
 refine⟨EA,λh=>?_⟩;have :=aW h;refine KQ.2 ⟨c.toNat - 97,Lz.2 (by omega),Ky.1 ?_⟩;rw [K2];omega
theorem po {A:Type}{c:Prop}[Decidable c]{x a:A}(h:(if c then some x else none)=some a):x=a:=by
 by_cases hc:c
 ·rw [KG hc]at h;exact KS h
 ·rw [Ko hc]at h;cases h
theorem rS {A:Type}{k:UInt8}{o:Off A}{a:A}(h:o.over k=some a):o.tm.Fr a:=by
 cases o with
 | tau p=>cases h
 | snd c b p=>exact .inl (po (c:=k=33) h).symm
 | rcv c x p s=>exact .inl (po (c:=k=63) h).symm
theorem AI {A B:Type}[DecidableEq A][DecidableEq B]{ρ:A->Nat}{σ:B->Nat}{k:UInt8}{o:Off A}{r:Off B}(h:qM ρ σ o r):(o.over k=none/\r.over k=none)\/∃a b,o.over k=some a/\r.over k=some b/\ρ a=σ b:=by
 cases o<;>cases r<;>try exact h.elim
 ·exact .inl ⟨rfl,rfl⟩
 ·unfold Off.over;by_cases e:k=33
  ·right;exact⟨_,_,KG e,KG e,h.1⟩
  ·left;exact⟨Ko e,Ko e⟩
 ·unfold Off.over;by_cases e:k=63
  ·right;exact⟨_,_,KG e,KG e,h.1⟩
  ·left;exact⟨Ko e,Ko e⟩
theorem GS {t:P}{u:U}(su:SU t u){k:UInt8}{c:UInt8}:Jg k t c↔∃z,z∉u.frL/\z< 26/\c=ρ0 z/\∃q∈u.ths,∃o∈offs q,o.over k=some z:=by
 have hl:=su.two.len;constructor
 ·rintro⟨hc,p,hp,o,ho,e⟩
  obtain⟨i,W,rfl⟩:=KY.1 hp;have H:i< u.ths.length:=by omega
  obtain⟨r,hr,I⟩:=(jQ (su.two.get W H)).HV ho;rcases AI (k:=k) I with⟨J,_⟩ | ⟨a,b,J,h2,G⟩
  ·rw [J]at e;cases e
  ·rw [J]at e;cases e;have hm:=Kg H;obtain⟨sub,_⟩:=aZ (su.smp _ hm) _ hr;have V:∃q∈u.ths,q.Fr b:=⟨_,hm,sub.fr b (rS h2)⟩
   have G:c=asg u.frL t.frL ρ0 b:=Ky.1 G;by_cases hb:b∈u.frL
   ·exact absurd (G▸ft u.frL t.frL ρ0 b hb su.len) hc
   ·rw [bV _ _ _ _ hb]at G;have Z:=(su.free b V).resolve_left hb;exact⟨b,hb,Z.1,G,_,hm,r,hr,h2⟩
 ·rintro⟨z,Z,β,rfl,q,hq,r,hr,e⟩
  obtain⟨i,H,rfl⟩:=KY.1 hq;have W:i< t.ths.length:=by omega
  obtain⟨o,ho,I⟩:=(jQ (su.two.get W H)).Cp hr;rcases AI (k:=k) I with⟨_,J⟩ | ⟨a,b,J,h2,G⟩
  ·rw [J]at e;cases e
  ·rw [h2]at e;cases e;obtain⟨sub,_⟩:=aZ (su.smp _ hq) _ hr;have V:∃q∈u.ths,q.Fr z:=⟨_,hq,sub.fr z (rS h2)⟩
   have G:a=asg u.frL t.frL ρ0 z:=Ky.1 G;rw [bV _ _ _ _ Z]at G;have α:=(su.free z V).resolve_left Z;exact⟨α.2,_,Kg W,o,ho,by rw [J,G]⟩
theorem Em {t:P}{u:U}(su:SU t u){k c:UInt8}(h:Jg k t c):lt c=true:=by
 obtain⟨z,_,h2,rfl,_⟩:=(GS su).1 h;exact Ai h2
theorem A6 {t:P}{u:U}(su:SU t u){k c:UInt8}:c∈Cb k t↔Jg k t c:=by
 unfold Cb;rw [L5,J4,mL];exact⟨λh=>h.2,λh=>⟨Em su h,h⟩⟩
theorem jV:iO.Pairwise (· < ·):=by
 unfold iO;decide
theorem Fi (k:UInt8)(t:P):(Cb k t).Pairwise (· < ·):=jV.filter _
theorem wW:∀{a b:Tx},a.Pairwise (· < ·)->b.Pairwise (· < ·)->(∀c,c∈a↔c∈b)->a=b
 | [],[],_,_,_=>rfl
 | [],y::b,_,_,h=>by have :=(h y).2 (by simp);cases this
 | x::a,[],_,_,h=>by have :=(h x).1 (by simp);cases this
 | x::a,y::b,ha,hb,h=>by
  obtain⟨H,h2⟩:=Mh.1 ha;obtain⟨I,h4⟩:=Mh.1 hb;have z:x=y:=by
   rcases Ks.1 ((h x).1 (by simp))with e | e
   ·exact e
   ·rcases Ks.1 ((h y).2 (by simp))with G | G
    ·exact G.symm
    ·exact absurd (UInt8.lt_trans (H y G) (I x e)) (MV _)
  subst z;rw [wW h2 h4 λc=>?_];have :=h c;simp only [Ks]at this;constructor
  ·intro hc;rcases this.1 (.inr hc)with rfl | e
   ·exact absurd (H _ hc) (MV _)
   ·exact e
  ·intro hc;rcases this.2 (.inr hc)with rfl | e
   ·exact absurd (I _ hc) (MV _)
   ·exact e
end Go.Proofs.YtdecokaadekjnaaGreat
namespace Go.Proofs.YtdecokaadekjnaaGreat
open Go
set_option maxRecDepth 100000
theorem qV (z:ay)(w:World)(R:ay->Bool->World->Prop)(h:ck 65 #[(.string (ab z))] w λI G=>iz (!I) (ck 66 #[(.string (ab z))] G λJ H=>ai (!J) (R ([]) false H) (hZ 150 #[(.string (ab z))] H λV W w8=>R V W w8)) (R ([]) false G)):
  Calls Tryz.prog 101 #[(.string (ab z))] w (ax [.s,.b] R):=
 bs (bn [] [] []) [.tmp 2 .s,.tmp 3 .b] [.s z] Tryz.func101 (by kernel_rfl) h
theorem qZ (G:ay)(w:World)(R:ay->ay->World->Prop)(h:Jk G ([]) w λJ H z f5 I=>gY 120 #[(.string (ab z))] I λV w8=>ai (decide (V=35)) ((0<=(1:Int)/\(1:Int)<=2/\(2:Int)<=z.length)/\(f5.length+List.length (List.drop (Int.toNat 1) (List.take (Int.toNat 2) z))<=4611686018427387904)/\(0<=(3:Int)/\(3:Int)<=z.length)/\J ((List.drop (Int.toNat 3) z)) ((f5++(List.drop (Int.toNat 1) (List.take (Int.toNat 2) z)))) w8/\H ((List.drop (Int.toNat 3) z)) ((f5++(List.drop (Int.toNat 1) (List.take (Int.toNat 2) z)))) w8< H z f5 I) (R f5 z w8)):
  Calls Tryz.prog 143 #[(.string (ab G))] w (ax [.s,.s] R):=
 bs (bn [(2,[(0,.s),(4,.s)])] [] []) [.tmp 2 .s,.tmp 3 .s] [.s G] Tryz.func143 (by kernel_rfl) h
theorem oR (p1:ay)(w:World)(R:Value->World->Prop)(h:BJ 143 #[(.string (ab p1))] w λs2 s3 w4=>gY 120 #[(.string (ab s3))] w4 λc5 w6=>ai (decide (c5=48)) (R (.slice none 0 0) w6) (JE s3 (.slice none 0 0) w6 λI7 m8 Z z H=>gY 120 #[(.string (ab Z))] H λα I=>ai (decide (α=38)) (cB 117 #[(.string (ab Z))] I λJ V=>aJ J 0 λb16 β=>bZ V b16 (β+Int.toNat 0* 1) λγ=>aN V (.cells #[(.string (ab γ))] 9) λδ ε=>eu 9 1 16 ε z (.slice (some ⟨δ,0,none⟩) 1 1) λv28 G=>aJ J 1 λb30 ζ=>bZ G b30 (ζ+Int.toNat 1* 1) λW=>I7 W v28 G/\m8 W v28 G< m8 Z z H) (aN I (.cells #[(.string (ab Z))] 9) λη θ=>eu 9 1 16 θ z (.slice (some ⟨η,0,none⟩) 1 1) λι κ=>R ι κ))):
  Calls Tryz.prog 144 #[(.string (ab p1))] w (ax [.v] R):=
 bs (bn [(5,[(0,.s),(3,.v)])] [] []) [.tmp 2 .v] [.s p1] Tryz.func144 (by kernel_rfl) h
theorem pH (t1:ay)(w:World)(R:Value->World->Prop)(h:gY 120 #[(.string (ab t1))] w λc2 J=>ai (decide (c2=33)) (ai (decide (c2=33)) (bO J λS4 w5=>(0<=(0:Int)/\(0:Int)< t1.length)/\(0<=(2:Int)/\(2:Int)< t1.length)/\(0<=(4:Int)/\(4:Int)<=t1.length)/\gY 120 #[(.string (ab t1))] w5 λc6 w7=>S4 w7/\aN w7 (.cells #[(.int .u8 c6.toNat),(.int .u8 (UInt8.toNat (bt t1 (Int.toNat 0)))),(.int .u8 (UInt8.toNat (bt t1 (Int.toNat 2)))),(.string (ab (List.drop (Int.toNat 4) t1))),(.bool false)] 166) λb8 w9=>S4 w9/\R ((.slice (some ⟨b8,0,none⟩) 1 1)) w9) (ai (decide (c2=126)) ((0<=(2:Int)/\(2:Int)<=t1.length)/\aN J (.cells #[(.int .u8 (UInt8.toNat 126)),(.int .u8 (UInt8.toNat 0)),(.int .u8 (UInt8.toNat 0)),(.string (ab (List.drop (Int.toNat 2) t1))),(.bool false)] 166) λb10 ο=>R ((.slice (some ⟨b10,0,none⟩) 1 1)) ο) (ai (decide (c2=43)) (cB 117 #[(.string (ab t1))] J λv12 ς=>bO ς λH υ=>aJ v12 0 λb16 φ=>iq H b16 (φ+Int.toNat 0* 1) λχ=>aJ v12 1 λψ ω=>iq H ψ (ω+Int.toNat 1* 1) λs25=>cB 145 #[(.string (ab χ))] υ λv26 Z=>H Z/\cB 145 #[(.string (ab s25))] Z λv28 α=>H α/\eu 166 5 32 α v26 v28 λv35 β=>H β/\R v35 β) (ai (decide (c2=42)) ((0<=(1:Int)/\(1:Int)<=t1.length)/\cB 145 #[(.string (ab (List.drop (Int.toNat 1) t1)))] J λv37 w38=>bM v37 λl40=>eM 0 w38 λI42 γ z V=>ai (decide (z< (l40:Int))) (aJ v37 z λb46 o47=>bg V b46 ((o47+z.toNat* 5)+4) (.bool true) λδ=>aj (z+1)/\I42 (z+1) δ/\γ (z+1) δ< γ z V) (R v37 V)) (R (.slice none 0 0) J))))) (ai (decide (c2=63)) (bO J λε w53=>(0<=(0:Int)/\(0:Int)< t1.length)/\(0<=(2:Int)/\(2:Int)< t1.length)/\(0<=(4:Int)/\(4:Int)<=t1.length)/\gY 120 #[(.string (ab t1))] w53 λc54 ζ=>ε ζ/\aN ζ (.cells #[(.int .u8 c54.toNat),(.int .u8 (UInt8.toNat (bt t1 (Int.toNat 0)))),(.int .u8 (UInt8.toNat (bt t1 (Int.toNat 2)))),(.string (ab (List.drop (Int.toNat 4) t1))),(.bool false)] 166) λb56 η=>ε η/\R ((.slice (some ⟨b56,0,none⟩) 1 1)) η) (ai (decide (c2=126)) ((0<=(2:Int)/\(2:Int)<=t1.length)/\aN J (.cells #[(.int .u8 (UInt8.toNat 126)),(.int .u8 (UInt8.toNat 0)),(.int .u8 (UInt8.toNat 0)),(.string (ab (List.drop (Int.toNat 2) t1))),(.bool false)] 166) λb58 w59=>R ((.slice (some ⟨b58,0,none⟩) 1 1)) w59) (ai (decide (c2=43)) (cB 117 #[(.string (ab t1))] J λθ w61=>bO w61 λI w63=>aJ θ 0 λb64 o65=>iq I b64 (o65+Int.toNat 0* 1) λs68=>aJ θ 1 λb69 o70=>iq I b69 (o70+Int.toNat 1* 1) λs73=>cB 145 #[(.string (ab s68))] w63 λv74 ι=>I ι/\cB 145 #[(.string (ab s73))] ι λv76 κ=>I κ/\eu 166 5 32 κ v74 v76 λv83 μ=>I μ/\R v83 μ) (ai (decide (c2=42)) ((0<=(1:Int)/\(1:Int)<=t1.length)/\cB 145 #[(.string (ab (List.drop (Int.toNat 1) t1)))] J λv85 w86=>bM v85 λl88=>eM 0 w86 λI90 ν G W=>ai (decide (G< (l88:Int))) (aJ v85 G λb94 o95=>bg W b94 ((o95+G.toNat* 5)+4) (.bool true) λξ=>aj (G+1)/\I90 (G+1) ξ/\ν (G+1) ξ< ν G W) (R v85 W)) (R (.slice none 0 0) J)))))):
  Calls Tryz.prog 145 #[(.string (ab t1))] w (ax [.v] R):=
 bs (bn [(13,[(47,.i)])] [] []) [.tmp 2 .v] [.s t1] Tryz.func145 (by kernel_rfl) h
theorem pt (t1:Value)(i2:Int)(V:Int)(w:World)(R:Value->World->Prop)(h:bM t1 λl5=>jX (.slice none 0 0) 0 w λW I H z G=>ai (decide (z< (l5:Int))) (aJ t1 z λZ α=>bZ G Z (α+z.toNat* 1) λβ=>ai (!decide (z=i2)) (ai (!decide (z=V)) (aN G (.cells #[(.string (ab β))] 9) λγ δ=>eu 9 1 16 δ H (.slice (some ⟨γ,0,none⟩) 1 1) λv24 J=>aj (z+1)/\W v24 (z+1) J/\I v24 (z+1) J< I H z G) (aj (z+1)/\W H (z+1) G/\I H (z+1) G< I H z G)) (aj (z+1)/\W H (z+1) G/\I H (z+1) G< I H z G)) (R H G)):
  Calls Tryz.prog 152 #[t1,(.int .i64 i2),(.int .i64 V)] w (ax [.v] R):=
 bs (bn [(3,[(7,.v),(12,.i)])] [] []) [.tmp 6 .v] [.v t1,.i i2,.i V] Tryz.func152 (by kernel_rfl) h
theorem ta (f1:ay)(t2:Value)(w:World)(R:ay->Bool->World->Prop)(h:bM t2 λl4=>ai (decide (0< (l4:Int))) (bw 191 #[t2,(.string (ab [38]))] w λs6 w7=>aj ((f1.length:Int) - 1)/\kY s6 (((f1.length:Int) - 1)) w7 λI8 m9 t10 i11 z=>ai (decide (0<=i11)) (aj (i11+1)/\(0<=(i11:Int)/\(i11:Int)<=(i11+1)/\((i11+1):Int)<=f1.length)/\(List.length [35]+List.length (List.drop i11.toNat (List.take (Int.toNat (i11+1)) f1))<=4611686018427387904)/\(List.length ([35]++(List.drop i11.toNat (List.take (Int.toNat (i11+1)) f1)))+List.length [46]<=4611686018427387904)/\(List.length (([35]++(List.drop i11.toNat (List.take (Int.toNat (i11+1)) f1)))++[46])+t10.length<=4611686018427387904)/\aj (i11 - 1)/\I8 (((([35]++(List.drop i11.toNat (List.take (Int.toNat (i11+1)) f1)))++[46])++t10)) (i11 - 1) z/\m9 (((([35]++(List.drop i11.toNat (List.take (Int.toNat (i11+1)) f1)))++[46])++t10)) (i11 - 1) z< m9 t10 i11 z) (hZ 150 #[(.string (ab t10))] z λI J V=>R I J V)) (aj ((f1.length:Int) - 1)/\kY ([48]) (((f1.length:Int) - 1)) w λW H t18 i19 G=>ai (decide (0<=i19)) (aj (i19+1)/\(0<=(i19:Int)/\(i19:Int)<=(i19+1)/\((i19+1):Int)<=f1.length)/\(List.length [35]+List.length (List.drop i19.toNat (List.take (Int.toNat (i19+1)) f1))<=4611686018427387904)/\(List.length ([35]++(List.drop i19.toNat (List.take (Int.toNat (i19+1)) f1)))+List.length [46]<=4611686018427387904)/\(List.length (([35]++(List.drop i19.toNat (List.take (Int.toNat (i19+1)) f1)))++[46])+t18.length<=4611686018427387904)/\aj (i19 - 1)/\W (((([35]++(List.drop i19.toNat (List.take (Int.toNat (i19+1)) f1)))++[46])++t18)) (i19 - 1) G/\H (((([35]++(List.drop i19.toNat (List.take (Int.toNat (i19+1)) f1)))++[46])++t18)) (i19 - 1) G< H t18 i19 G) (hZ 150 #[(.string (ab t18))] G λZ α β=>R Z α β))):
  Calls Tryz.prog 151 #[(.string (ab f1)),t2] w (ax [.s,.b] R):=
 bs (bn [(5,[(6,.s),(7,.i)])] [] []) [.tmp 4 .s,.tmp 5 .b] [.s f1,.v t2] Tryz.func151 (by kernel_rfl) h
theorem tT (l1:Value)(w:World)(R:Value->World->Prop)(h:cB 69 #[l1] w λv2 w3=>bM v2 λl5=>jX (.slice none 0 0) 0 w3 λI7 V H z G=>ai (decide (z< (l5:Int))) (aJ v2 z λγ δ=>bZ G γ (δ+z.toNat* 1) λI=>bM H λε=>iz (decide ((ε:Int)=0)) (bM H λJ=>aj ((J:Int) - 1)/\aJ H ((J:Int) - 1) λζ η=>bZ G ζ (η+Int.toNat ((J:Int) - 1)* 1) λθ=>ai (!decide (θ=I)) (aN G (.cells #[(.string (ab I))] 9) λι κ=>eu 9 1 16 κ H (.slice (some ⟨ι,0,none⟩) 1 1) λW Z=>aj (z+1)/\I7 W (z+1) Z/\V W (z+1) Z< V H z G) (aj (z+1)/\I7 H (z+1) G/\V H (z+1) G< V H z G)) (aN G (.cells #[(.string (ab I))] 9) λμ ν=>eu 9 1 16 ν H (.slice (some ⟨μ,0,none⟩) 1 1) λα β=>aj (z+1)/\I7 α (z+1) β/\V α (z+1) β< V H z G)) (R H G)):
  Calls Tryz.prog 97 #[l1] w (ax [.v] R):=
 bs (bn [(3,[(3,.v),(9,.i)])] [] []) [.tmp 2 .v] [.v l1] Tryz.func97 (by kernel_rfl) h
end Go.Proofs.YtdecokaadekjnaaGreat
