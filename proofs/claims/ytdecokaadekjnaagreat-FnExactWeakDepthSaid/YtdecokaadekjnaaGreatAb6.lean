/- Part 6 of a proof of what the last text states; no condition. -/
import Derived.Test.YtdecokaadekjnaaGreatAb5
set_option maxRecDepth 100000
set_option maxHeartbeats 4000000
namespace Go.Proofs.YtdecokaadekjnaaGreat
open Go Go.RowKit T Classical
theorem Ck {p q:Tx}(sp:St p)(sq:St q){w:World}{R:Value->Bool->Sl}(hR1:(aV p=none\/aV q=none)->∀a b c d l w',ay a=true->ay b=true->ay c=true->ay d=true->l.length<=120->Strs w' a l->Ex w w'->R (.agg #[a,b,c,d]) false w')
  (hR2:aV p≠none->aV q≠none->∀all va vn vr vx w',p∈all->q∈all->all.length<=120->ay va=true->ay vn=true->ay vr=true->ay vx=true->Ex w w'->OB w.heap.size w' va vx all->R (.agg #[va,vn,vr,vx]) true w'):
  Sm 108 #[.string (ai p),.string (ai q)] w (an [.v,.b] R):=by
 refine qa p q w R ?_;intro b3 w4 hb3 hw4 b5 w6 hb5 ω;have x4:Ex w w4:=hw4▸Ex.alloc w _;have x6:Ex w4 w6:=ω▸Ex.alloc w4 _;have s4:w4.heap.size=w.heap.size+1:=by rw [hw4,size_alloc]
 have s6:w6.heap.size=w4.heap.size+1:=by rw [ω,size_alloc]
 have c6:=tU hb5 ω (Ex.refl _);refine⟨⟨rfl,by simp [ay],λj hj=>by rw [Ph];exact c6 j hj⟩,λw7 hw7 b8 w9 hb8 hw9=>?_⟩;obtain⟨k7,f7,_,sc⟩:=aK (b:=b5) [Value.slice none 0 0,.slice none 0 0,.slice none 0 0,.slice none 0 0] w6 0;rw [show World.setCells w6 b5 0 [Value.slice none 0 0,.slice none 0 0,.slice none 0 0,.slice none 0 0]=w7 from hw7.symm]at k7 f7 sc;have sc:=λj (hj:j< 4)=>sc j (λi hi=>by rw [Ph];exact(c6 i hi).1) hj
 simp only [Ph]at sc;have s7:=k7.size;have x9:Ex w7 w9:=hw9▸Ex.alloc w7 _;have s9:w9.heap.size=w7.heap.size+1:=by rw [hw9,size_alloc]
 have e8:w9.heap[b8]?=some (.cells #[.string (ai p),.string (ai q)] 9):=by rw [hw9,hb8];unfold World.alloc;simp
 have c9:∀j,j< 4->w9.cell? ⟨b5,j,none⟩=some (.slice none 0 0):=λj hj=>by
  rw [x9.cell (a:=⟨b5,j,none⟩) (show b5< _ by omega),sc j hj]
  match j,hj with
  | 0,_=>rfl
  | 1,_=>rfl
  | 2,_=>rfl
  | 3,_=>rfl
 have i9:J2 w9 b5 (.slice none 0 0) [] w9:=⟨Kp.af (Ex.refl _) _,by omega,λj=>by rw [PV x9 (show b5< _ by omega),f7];rw [ω,hb5];exact aG _ _ _ _,c9 0 (by omega),λ _ _=>rfl,Own.nil _ _⟩
 have x09:∀{w'},Kp w9 w' (λg=>g=b5)->Ex w w':=λ{w'} k=>by
  have e1:Ex w4 w7:=Ex.below x6 (Kp.below k7 (by omega) λg G e=>by omega);exact Ex.below (Ex.trans x4 (Ex.trans e1 x9)) (Kp.below k (by omega) λg G e=>by omega)
 have c3:∀{w'},Kp w9 w' (λg=>g=b5)->∀j,j< 4->(∃u,w'.cell? ⟨b3,j,none⟩=some u)/\w'.frozen? ⟨b3,j,none⟩=false:=λ{w'} k j hj=>by
  have e1:Ex w4 w9:=Ex.trans (Ex.below x6 (Kp.below k7 (by omega) λg G e=>by omega)) x9;have eb:=k.block b3 (by omega) (by omega);rw [OG (w:=w9) eb,Pd (w:=w9) eb];exact tU hb3 hw4 e1 j hj
 have lt5:b5< w9.heap.size:=by omega
 have lt3:w.heap.size<=b3/\b3< b5:=by omega
 have lt8:b8< w9.heap.size/\b8≠b5:=by omega
 have s09:w.heap.size<=w9.heap.size:=by omega
 have fin3:∀{w' w2},Kp w9 w' (λg=>g=b5)->Kp w' w2 (λg=>g=b3)->Ex w w2:=λ{w' w2} k k2=>by
  have :=k.size;exact Ex.below (x09 k) (Kp.below k2 (by omega) λg G e=>by omega)
 clear hw4 ω hw7 hw9 hb3 hb5 hb8 c6 f7 sc k7 x4 x6 x9 s4 s6 s7 s9;refine⟨_,2,2,rfl,λx w'=>∃(j:Nat) (va:Value) (all:List Tx),x=j/\j<=2/\J2 w9 b5 va all w'/\Cl all/\(∀s∈all,St s)/\all.Nodup/\all.length<=60* j/\(1<=j->p∈all/\aV p≠none)/\(2<=j->q∈all/\aV q≠none),λx _=>(2 - x).toNat,⟨0,_,[],rfl,Px _,i9,GC,(λs hs=>by cases hs),Qi,OQ _,(λh=>by omega),(λh=>by omega)⟩,λx w16 hI=>?_⟩;clear i9;obtain⟨j,va,all,rfl,hj,i16,hcl,hst,hnd,hlen,hp,hq⟩:=hI;refine⟨λhlt=>?_,λhge=>?_⟩
 ·have hj2:j< 2:=by simp only [OW]at hlt;omega
  have hs:∃s,w16.cell? ⟨b8,0+(j:Int).toNat* 1,none⟩=some (.string (ai s))/\St s/\(j=0->s=p)/\(j=1->s=q):=by
   have e:=(i16.kp.block b8 lt8.1 lt8.2).trans e8
   match j,hj2 with
   | 0,_=>exact⟨p,by unfold World.cell?;simp [e],sp,λ _=>rfl,λh=>by omega⟩
   | 1,_=>exact⟨q,by unfold World.cell?;simp [e],sq,λh=>by omega,λ _=>rfl⟩
  obtain⟨s,h8,hss,hs0,hs1⟩:=hs;have bad:∀{V},Ex w16 V->aV s=none->∃v29:Value,∃v30:Value,∃v31:Value,∃v32:Value,(World.cell? V ⟨b5,0,none⟩=some v29/\World.cell? V ⟨b5,1,none⟩=some v30/\World.cell? V ⟨b5,2,none⟩=some v31/\World.cell? V ⟨b5,3,none⟩=some v32/\True)/\zC V b3 0 4 [v29,v30,v31,v32] λθ=>∃r34:Value,∃r35:Value,∃r36:Value,∃r37:Value,(World.cell? θ ⟨b3,0,none⟩=some r34/\World.cell? θ ⟨b3,1,none⟩=some r35/\World.cell? θ ⟨b3,2,none⟩=some r36/\World.cell? θ ⟨b3,3,none⟩=some r37/\True)/\R (.agg #[r34,r35,r36,r37]) false θ:=λ{V} x J=>by
   have i28:=i16.ex x;refine⟨va,_,_,_,⟨i28.c0,(i28.ot 1 (by omega)).trans (c9 1 (by omega)),(i28.ot 2 (by omega)).trans (c9 2 (by omega)),(i28.ot 3 (by omega)).trans (c9 3 (by omega)),trivial⟩,yW i28.ow.df rfl rfl rfl (c3 i28.kp) (R:=λv w'=>R v false w') λθ k33=>hR1 ?_ _ _ _ _ all θ i28.ow.df rfl rfl rfl (by omega) (i28.ow.strs.zK k33 λg G e=>by have :=(i28.ow.block g G).1;omega) (fin3 i28.kp k33)⟩;rcases(show j=0\/j=1 by omega)with e | e
   ·exact .inl (hs0 e▸J)
   ·exact .inr (hs1 e▸J)
  refine⟨b8,0,2,2,rfl,by omega,by omega,s,h8,Fp (λJ a1 a2 a3 w24 o1 o2 o3 x24=>IP o1 o2 o3 λb25 V x28 _=>⟨λ _=>bad (Ex.trans x24 x28) J,(λh=>by cases h)⟩) λn0 l h0 G φ ll B b va' vn' vx' ns' vs' L' w24 x24 hB hG hlen'=>IP hG.Cx.1 hG.Cx.2.1 hG.Cx.2.2 λb25 V x28 c28=>⟨(λh=>by cases h),λ _=>?_⟩⟩;obtain⟨t,ok,rfl⟩:=hss;have e0:n0=t.text:=by rw [qV ok]at h0;exact(Pz h0).symm
  subst e0;have hclo:=nY h0 G;have hS:=hG.a.strs.ex x28;have hgb:=hG.a.block;have s16:=i16.kp.size;have hd0:∀g,va'.ownBlock=some g->g≠b5/\va.ownBlock≠some g:=λg G=>by
   have h1:=hgb g G;exact⟨by omega,λe=>by have :=(i16.ow.block g e).2;omega⟩
  clear hG;have x1628:=Ex.trans x24 x28;obtain⟨a,cap,hv⟩:=hS.slice;refine⟨va',(c28 V (Ex.refl _)).1,a,_,cap,hv,λx w'=>∃(k:Nat) (vb:Value),x=k/\k<=l.length/\Strs w' va' l/\J2 w9 b5 vb (bc all (l.take k)) w'/\(bc all (l.take k)).Nodup/\∀g,va'.ownBlock=some g->g≠b5/\vb.ownBlock≠some g,λx _=>(l.length - x).toNat,⟨0,va,rfl,Px _,hS,i16.ex x1628,hnd,hd0⟩,λx w45 hI=>?_⟩;obtain⟨k,vb,rfl,hk,μ,i45,γ,δ⟩:=hI;have hcn:=ic (l.take k) all;rw [Pt]at hcn;refine⟨λε=>?_,λW=>?_⟩;rotate_left
  ·have e:=oE W (by omega);subst e;rw [Pa]at i45 hcn γ;have hg':aV t.text≠none:=by rw [G];simp
   have ht:t.text∈bc all l:=cY.2 (.inr (hclo.2.subset (by simp)));refine⟨by omega,⟨j+1,vb,bc all l,by omega,by omega,i45,Cl.add hcl hclo.1.Oa,λs hs=>(cY.1 hs).elim (hst s) (φ s),γ,by omega,λ _=>?_,λh2=>?_⟩,by show(2 - ((j:Int)+1)).toNat< (2 - (j:Int)).toNat;omega⟩
   ·rcases(show j=0\/j=1 by omega)with e | e
    ·exact hs0 e▸⟨ht,hg'⟩
    ·exact⟨cY.2 (.inl (hp (by omega)).1),(hp (by omega)).2⟩
   ·exact hs1 (by omega)▸⟨ht,hg'⟩
  have hkl:=oL ε;have hm2:=@tN l.length k (by omega);refine μ.get (Ex.refl _) (PU k) (gE hkl) (Q:=λn=>_) ⟨vb,i45.c0,jD i45.ow.strs (by omega) λn hn1 hn2=>⟨λhneg=>⟨vb,i45.c0,λb55 w56 hb55 hw56=>?_⟩,λν=>?_⟩⟩
  ·have hni:l[k]∉bc all (l.take k):=hn1.1 (by simpa using hneg);have x56:Ex w45 w56:=hw56▸Ex.alloc w45 _;have s45:=i45.kp.size;have s56:=x56.size;refine Own.push (i45.ow.ex x56) (by omega) (Strs.one hb55 hw56) (by simp only [P5];omega) λv' w63 _ ho G J=>?_
   obtain⟨f1,f2⟩:=i45.push x56 ho G;have et:bc all (l.take (k+1))=bc all (l.take k)++[l[k]]:=by rw [ft hkl];exact O1 hni
   have k63:Kp w56 w63 λg=>vb.ownBlock=some g:=Kp.aJ G λ _ h=>h
   refine⟨ho.df,f1,λw65 hw65=>⟨by omega,⟨k+1,v',by omega,by omega,?_,by rw [et];exact f2 w65 hw65,?_,λg G=>⟨(δ g G).1,λe=>(J g e).elim (δ g G).2 λh=>?_⟩⟩,hm2⟩⟩
   ·have k65:Kp w63 w65 (λg=>g=b5):=hw65▸Kr.set w63 0 v';exact(μ.ex x56).zK (Kp.trans (Kp.mono (T:=λg=>vb.ownBlock=some g\/g=b5) (λ _ h=> .inl h) k63) k65 λ _ _ h=> .inr h) λg G e=>e.elim (δ g G).2 (δ g G).1
   ·rw [et,Pp];exact⟨γ,by simp,λx hx y hy=>by cases OO.1 hy;exact λe=>hni (e▸hx)⟩
   ·rcases μ with⟨e1,_⟩ | ⟨b',off,cap',e1,h2,_⟩
    ·rw [e1]at G;cases G
    ·rw [e1]at G;have:b'=g:=Pz G;omega
  ·have hni:l[k]∈bc all (l.take k):=by
    have:¬n< 0:=by simpa using ν
    exact PJ λh=>this (hn1.2 h)
   have et:bc all (l.take (k+1))=bc all (l.take k):=by rw [ft hkl];exact Pj hni
   exact⟨by omega,⟨k+1,vb,by omega,by omega,μ,by rw [et];exact i45,by rw [et];exact γ,δ⟩,hm2⟩
 have ej:j=2:=by simp only [OV]at hge;omega
 subst ej;have hp:=hp (by omega);have hq:=hq (by omega);have s16:=i16.kp.size;have dva:∀g,va.ownBlock=some g->¬g=b5:=λg G e=>by have :=i16.ow.block g G;omega
 have i0:B7 w16 b5 1 (NB all) (.slice none 0 0) [] w16:=⟨Kp.af (Ex.refl _) _,by omega,i16.fr,(i16.ot 1 (by omega)).trans (c9 1 (by omega)),λ _ _=>rfl,aF.nil _ _ _,(λj hj=>by simp at hj),(λj hj=>by simp at hj),λj hj=>by simp at hj⟩
 obtain⟨a,cap,hv⟩:=i16.ow.strs.slice;refine⟨va,i16.c0,a,_,cap,hv,λx w'=>∃(i:Nat) (vn:Value) (ns:List Value),x=i/\i<=all.length/\ns.length=i/\B7 w16 b5 1 (NB all) vn ns w',λx _=>(all.length - x).toNat,⟨0,_,[],rfl,Px _,rfl,i0⟩,λx χ hI=>?_⟩;clear i0 hge hj e8;obtain⟨i,vn,ns,rfl,hi,hnl,i73⟩:=hI;have c73:χ.cell? ⟨b5,0,none⟩=some va:=(i73.ot 0 (by omega)).trans i16.c0;have S73:Strs χ va all:=i16.ow.strs.zK i73.kp dva;have s73:=i73.kp.size;refine⟨λε=>?_,λW=>?_⟩
 ·have ψ:=oL ε;have hm1:=@tN all.length i (by omega);obtain⟨t,ok,et⟩:=hst _ (OP ψ);obtain⟨φ,hl1,hl2⟩:=hcl _ (OP ψ);have hnx:qp (num t e0 0).1=some φ:=by rw [<-Dh ok,et];exact hl1
  refine S73.get (Ex.refl _) (PU i) (gE ψ) (Q:=λn=>_) ?_;rw [<-et];refine AK ok (λJ=>by rw [hnx]at J;cases J) λl' hl' v w81 x81 o81=>?_
  rw [hnx]at hl';cases hl';have hll:=pg hl1;have s81:=x81.size;obtain⟨al,capl,hvl⟩:=o81.strs.slice;refine⟨al,_,capl,hvl,λo x w'=>∃(j:Nat) (l2:List Nat),x=j/\j<=φ.length/\Ex w81 w'/\aF tI w81.heap.size w' o (l2.map iv)/\l2.map (λn=>all[n]?)=(φ.take j).map some,λ _ x _=>(φ.length - x).toNat,⟨0,[],rfl,Px _,Ex.refl _,aF.nil _ _ _,by simp⟩,λo x w89 hI=>?_⟩;obtain⟨j,l2,rfl,hj,x89,o89,ξ⟩:=hI;have i89:=i73.to (yV _) (Ex.trans x81 x89);have S89:Strs w89 va all:=i16.ow.strs.zK i89.kp dva;have hlen2:=PS List.length ξ;rw [O8,O8,Pt]at hlen2;refine⟨λhlt3=>?_,λhge3=>?_⟩
  ·have ι:=oL hlt3;refine o81.strs.get x89 (PU j) (gE ι) (Q:=λn=>_) ⟨va,(i89.ot 0 (by omega)).trans i16.c0,jD S89 (by omega) λn hn1 hn2=>?_⟩;have ν:0<=n:=by
    by_cases h:n< 0
    ·exact absurd (hl2 _ (OP ι)) (hn1.1 h)
    ·omega
   obtain⟨hb,he⟩:=hn2 ν;obtain⟨m,rfl⟩:=Int.eq_ofNat_of_zero_le ν;refine EA o89 x89.size (by omega) λv' w106 o106 b106=>⟨by omega,⟨j+1,l2++[m],by omega,by omega,Ex.below x89 b106,o106,?_⟩,tN (by omega)⟩
   rw [PH,ξ,OK ι,PH,List.map_singleton,List.map_singleton,<-he];rw [OH (show m< all.length from hb)];rfl
  ·have ej:=oE hge3 (by omega);rw [ej,Pa]at ξ;have s89:=x89.size;refine⟨vn,i89.ce,o89.df,B7.push i89 (yV _) (by rw [hnl];exact λh=>⟨l2,⟨_,o89⟩,by rw [zx hl1];exact Jp ξ,by omega⟩) (λg G=>?_) o89.df (by omega) λv' w116 o1 ζ=>⟨o1,ζ.1,λw118 hw118=>⟨by omega,⟨i+1,v',ns++[o],by omega,by omega,by rw [OM,P5,hnl],ζ.2 w118 hw118⟩,hm1⟩⟩⟩;have h1:=o89.block g G;exact⟨by omega,h1.2,λe=>by have :=(i73.ow.block g e).2;omega,λk hk e=>by have :=(i73.dj k hk g e).2.1;omega⟩
 have ei:=oE W (by omega);subst ei;have lt73:b5< χ.heap.size:=by omega
 have i1:B7 χ b5 2 (NQ all) (.slice none 0 0) [] χ:=⟨Kp.af (Ex.refl _) _,lt73,i73.fr,(i73.ot 2 (by omega)).trans ((i16.ot 2 (by omega)).trans (c9 2 (by omega))),λ _ _=>rfl,aF.nil _ _ _,(λj hj=>by simp at hj),(λj hj=>by simp at hj),λj hj=>by simp at hj⟩
 refine⟨va,c73,a,_,cap,hv,λx w'=>∃(i:Nat) (vr:Value) (rs:List Value),x=i/\i<=all.length/\rs.length=i/\B7 χ b5 2 (NQ all) vr rs w',λx _=>(all.length - x).toNat,⟨0,_,[],rfl,Px _,rfl,i1⟩,λx H hI=>?_⟩;clear i1 W hi;obtain⟨i,vr,rs,rfl,hi,hrl,i126⟩:=hI;have s126:=i126.kp.size;have dvn:∀g,vn.ownBlock=some g->¬g=b5:=λg G e=>by have :=(i73.ow.block g G).1;omega
 have dns:∀j (h:j< ns.length) g,ns[j].ownBlock=some g->¬g=b5:=λj h g G e=>by have :=(i73.dj j h g G).1;omega
 have n126:∀j (h:j< ns.length),NB all j ns[j] H:=λj h=>yV all j _ _ _ _ (i73.rw j h) i126.kp (dns j h)
 refine⟨λε=>?_,λW=>?_⟩
 ·have ψ:=oL ε;have hm1:=@tN all.length i (by omega);intro b127 w128 hb127 κ;have x128:Ex H w128:=κ▸Ex.alloc H _;have o128:aF tI H.heap.size w128 (.slice (some ⟨b127,0,none⟩) 1 1) ([i].map iv):=aF.one (OQ _) hb127 κ;refine⟨λr k w'=>∃(l2:List Nat) (j:Nat),k=j/\j<=l2.length/\Ex H w'/\aF tI H.heap.size w' r (l2.map iv)/\l2.Nodup/\(∀n∈l2,∃h:n< all.length,n9 all[i] all[n])/\i∈l2/\∀c (hc:c< l2.length),c< j->∀m∈B3 (all.getD l2[c] []),∃n∈l2,all[n]?=some m,λ _ k _=>(121 - k).toNat,
   ⟨[i],0,rfl,Px _,x128,o128,by simp,λn J=>by cases OO.1 J;exact⟨ψ,.refl _⟩,by simp,λc _ hc=>by omega⟩,λr k Z hI=>?_⟩
  clear κ hb127 o128 x128;obtain⟨l2,j,rfl,hj,x133,α,nd,hr,hin,hcl2⟩:=hI;have hl2:=ET nd λn J=>(hr n J).1
  have i133:=i126.to (DT _) x133;have N133:Ns Z r l2:=⟨_,α⟩
  obtain⟨ar,capr,hvr⟩:=N133.slice;have s133:=x133.size;refine⟨ar,_,capr,hvr,λhlt3=>?_,λhge3=>?_⟩;rotate_left
  ·have ej:=oE hge3 (by omega);have cl:∀n∈l2,∀m∈B3 (all.getD n []),∃k∈l2,all[k]?=some m:=λn J m hm=>by
    obtain⟨c,hc,rfl⟩:=PD.1 J;exact hcl2 c hc (by omega) m hm
   refine⟨vr,i133.ce,α.df,B7.push i133 (DT _) (by rw [hrl];exact λh=>⟨l2,N133,Kv ψ hr hin cl,by omega⟩) (λg G=>?_) α.df (by omega) λv' w183 o1 ζ=>⟨o1,ζ.1,λw185 hw185=>⟨by omega,⟨i+1,v',rs++[r],by omega,by omega,by rw [OM,P5,hrl],ζ.2 w185 hw185⟩,hm1⟩⟩⟩;have h1:=α.block g G;exact⟨by omega,h1.2,λe=>by have :=(i126.ow.block g e).2;omega,λk hk e=>by have :=(i126.dj k hk g e).2.1;omega⟩
  have ι:=oL hlt3;obtain⟨J,hrn⟩:=hr _ (OP ι);have hnn:l2[j]< ns.length:=by rw [hnl];exact J
  have on133:=i73.ow.kp i133.kp dvn;obtain⟨l3,N126,n2,n3⟩:=n126 _ hnn J;rcases α.cell with⟨_,e⟩ | ⟨g,capg,e1,e2,e3⟩
  ·have:l2=[]:=by simpa using e
   subst this;simp at ι
  rcases on133.cell with⟨_,e⟩ | ⟨g',capg',e1',e2',e3'⟩
  ·subst e;simp at hnn
  rw [O8]at e1;have q1:0+(j:Int).toNat* 1=j:=by omega
  have q2:0+(l2[j]:Int).toNat* 1=l2[j]:=by omega
  have c1:Z.cell? ⟨b5,1,none⟩=some vn:=(i133.ot 1 (by omega)).trans i73.ce;obtain⟨a3,cap3,hv3⟩:=N126.slice;refine⟨λw'=>Ex Z w',λw138 hw138=>⟨hw138▸Ex.drew Z,vn,λw' x=>by rw [x.cell (a:=⟨b5,1,none⟩) (show b5< _ by omega)];exact c1,g,0,_,capg,e1,by omega,by omega,(l2[j]:Int),λw' x=>?_,g',0,_,capg',e1',by omega,by omega,ns[l2[j]],λw' x=>?_,a3,_,cap3,hv3,?_⟩⟩
  ·rw [x.cell (a:=⟨g,_,none⟩) e2,q1];exact e3 j _ (by rw [Qu,OH ι];rfl)
  ·rw [x.cell (a:=⟨g',_,none⟩) e2',q2];exact e3' _ _ (OH hnn)
  have x138:Ex Z w138:=hw138▸Ex.drew Z;refine⟨λr x w'=>∃(l4:List Nat) (d:Nat),x=d/\d<=l3.length/\Ex H w'/\aF tI H.heap.size w' r (l4.map iv)/\l4.Nodup/\(∀n∈l4,∃h:n< all.length,n9 all[i] all[n])/\l2<+:l4/\∀n∈l3.take d,n∈l4,λ _ x _=>(l3.length - x).toNat,⟨l2,0,rfl,Px _,Ex.trans x133 x138,α.ex x138,nd,hr,Ry _,by simp⟩,λr4 x w157 hI=>?_⟩;obtain⟨l4,d,rfl,hd,η,ο,nd4,hr4,β,hin4⟩:=hI;have hl4:=ET nd4 λn J=>(hr4 n J).1
  have hple:=β.length_le;refine⟨λhlt4=>?_,λhge4=>?_⟩;rotate_left
  ·have ed:=oE hge4 (by omega);rw [ed,Pa]at hin4;refine⟨by omega,⟨l4,j+1,by omega,by omega,η,ο,nd4,hr4,β.subset hin,λc hc hcj m hm=>?_⟩,by show(121 - ((j:Int)+1)).toNat< (121 - (j:Int)).toNat;omega⟩;have hc2:c< l2.length:=by omega
   have ec:l4[c]=l2[c]:=(β.getElem hc2).symm;rw [ec]at hm;by_cases e:c=j
   ·subst e;rw [P9,OH J]at hm;obtain⟨n,h1,h2,h3⟩:=n2.2 m hm;exact⟨n,hin4 n h1,by rw [OH h2,h3]⟩
   ·obtain⟨n,h1,h2⟩:=hcl2 c hc2 (by omega) m hm;exact⟨n,β.subset h1,h2⟩
  have hdl:=oL hlt4;have hm2:=@tN l3.length d (by omega);have up:∀{l5:List Nat},(∀n∈l4,n∈l5)->l3[d]∈l5->∀n∈l3.take (d+1),n∈l5:=λh1 h2 n J=>by
   rw [OK hdl,OS,OO]at J;exact J.elim (λh=>h1 n (hin4 n h)) λe=>e▸h2
  refine(N126.ex η).get hdl (K:=λn=>_) (KN ⟨_,ο⟩ (by omega) ⟨λhq=>EA ο η.size (by omega) λv' w173 o173 b173=>?_,λhq=>?_⟩)
  ·have hq:l3[d]∉l4:=by simpa using hq
   refine⟨by omega,⟨l4++[l3[d]],d+1,by omega,by omega,Ex.below η b173,o173,?_,λn hn'=>?_,β.trans (Sb _ _),up (λn h=>Pm _ h) (by simp)⟩,hm2⟩
   ·exact Pp.2 ⟨nd4,by simp,λx hx y hy=>by cases OO.1 hy;exact λe=>hq (e▸hx)⟩
   ·rcases OS.1 hn' with h | h
    ·exact hr4 n h
    ·cases OO.1 h;obtain⟨h1,h2⟩:=n2.1 _ (OP hdl);exact⟨h1,.step hrn h2⟩
  ·have hq:l3[d]∈l4:=by simpa using hq
   exact⟨by omega,⟨l4,d+1,by omega,by omega,η,ο,nd4,hr4,β,up (λn h=>h) hq⟩,hm2⟩
 have ei:=oE W (by omega);subst ei;have P126:I4 H b5 all va vn vr ns rs:=⟨by omega,(i126.ot 0 (by omega)).trans c73,(i126.ot 1 (by omega)).trans i73.ce,i126.ce,S73.zK i126.kp dva,⟨_,i73.ow.kp i126.kp dvn⟩,⟨_,i126.ow⟩,hnl,hrl,λj hj hj'=>n126 j hj' hj,λj hj hj'=>i126.rw j hj' hj,λe=>dva _ e rfl,λe=>dvn _ e rfl,λe=>by have :=(i126.ow.block _ e).1;omega,λj h e=>dns j h _ e rfl,λj h e=>by have :=(i126.dj j h _ e).1;omega⟩
 refine L4 P126 hst (by omega) hcl ((i126.ot 3 (by omega)).trans ((i73.ot 3 (by omega)).trans ((i16.ot 3 (by omega)).trans (c9 3 (by omega))))) i126.fr λw186 vx xs k186 ot186 hA hvb hxb=>?_
 have ς:=P126.kp k186 ot186;obtain⟨B,hx⟩:=hA.x;have kk:Kp w9 w186 (λg=>g=b5):=Kp.trans (Kp.trans (Kp.trans i16.kp i73.kp λ _ _ h=>h) i126.kp λ _ _ h=>h) k186 λ _ _ h=>h
 refine⟨va,vn,vr,vx,⟨ς.c0,ς.c1,ς.c2,hA.c3,trivial⟩,yW i16.ow.df i73.ow.df i126.ow.df hx.df (c3 kk) (R:=λv w'=>R v true w') λw191 υ=>hR2 hp.2 hq.2 all va vn vr vx w191 hp.1 hq.1 (by omega) i16.ow.df i73.ow.df i126.ow.df hx.df (fin3 kk υ) ⟨ς.a.zK υ λg G e=>?_,λw2 c x hc=>⟨xs,hc,⟨B,(hx.kp υ λg G e=>?_).kp x λg G e=>?_⟩,hA.xl,λj hj=>pA _ _ j _ _ _ _ (pA all.length (Az all sI) j _ _ _ _ (hA.xr j hj) υ λg G e=>?_) x λg G e=>?_⟩⟩⟩
 ·have :=(i16.ow.block g G).1;omega
 ·have :=hvb g G;omega
 ·have :=hvb g G;omega
 ·have :=hxb j hj g G;omega
 ·have :=hxb j hj g G;omega
theorem Aj {p q:Tx}(sp:St p)(sq:St q){w:World}{R:Value->Bool->Sl}(hR:∀all va vn vr vx ok w',ay va=true->ay vn=true->ay vr=true->ay vx=true->all.length<=120->Strs w' va all->Ex w w'->(ok=false->aV p=none\/aV q=none)->
   (ok=true->aV p≠none/\aV q≠none/\p∈all/\q∈all/\∀w2 c,Kp w' w2 (λg=>g< w.heap.size)->w2.cell? ⟨c,3,none⟩=some vx->∃xs,I1 w2 c all.length vx xs (Az all sI))->R (.agg #[va,vn,vr,vx]) ok w'):
  Sm 108 #[.string (ai p),.string (ai q)] w (an [.v,.b] R):=
 Ck sp sq (λh a b c d l w' G H J V W hS x=>hR l a b c d false w' G H J V W hS x (λ _=>h) λh=>by cases h) λh1 h2 all va vn vr vx w' m1 m2 W G H J V x Z=>hR all va vn vr vx true w' G H J V W Z.a x (λh=>by cases h) λ _=>⟨h1,h2,m1,m2,Z.x⟩
theorem J9 {p q:Tx}{w:World}{K:Value->Bool->Sl}(H:tolT p q=none->∀w',Ex w w'->K (.pointer none) false w')
  (J:∀a b,tolT p q=some (a,b)->∀(c ra:Nat) (m:Value->Option Value) (w':World),Ex w w'->(∀w2,Ex w' w2->w2.cell? ⟨c,0+5,none⟩=some (.map (some ra))/\w2.cell? ⟨c,0+3,none⟩=some (.string (ai a))/\w2.cell? ⟨c,0+4,none⟩=some (.string (ai b))/\IsMap w2 ra aT m)->m (DV a b)=(sI a b).map iv->K (ptr c) true w'):
  Sm 57 #[.string (ai p),.string (ai q)] w (an [.v,.b] K):=by
 refine LZ H λa0 b0 all V ha hb W hl ra b r vo mm Z x5 hB hA c3 c4=>?_
 obtain⟨m,hm,G⟩:=hA;have lt:=hB.nm.lt;refine J a0 b0 V b ra m Z x5 (λw' x=>⟨?_,?_,?_,aS hm (x.block ra (bS hm))⟩) (by rw [G a0 ha b0 hb,Pj trivial])
 ·rw [x.cell (a:=⟨b,0+5,none⟩) lt];exact hB.c5
 ·rw [x.cell (a:=⟨b,0+3,none⟩) lt];exact c3
 ·rw [x.cell (a:=⟨b,0+4,none⟩) lt];exact c4
theorem IG {p q:Tx}(h:tolT p q=none):qv p q=(false,false):=by unfold qv;rw [h]
theorem H8 {p q a b:Tx}(h:tolT p q=some (a,b)):qv p q=(!(sI a b).isSome,true):=by
 unfold qv;rw [h];show(decide (sI a b=none),true)=_;cases sI a b
 ·rw [PL rfl];rfl
 ·rw [PX (by simp)];rfl
theorem B0 {p q:Tx}(h:tolT p q=none):lL p q=(0,false):=by unfold lL;rw [h]
theorem AD {p q a b:Tx}(h:tolT p q=some (a,b)):lL p q=((sI a b).getD 0,(sI a b).isSome):=by unfold lL;rw [h]
theorem IS {p q:Tx}{w:World}{R:Int->Bool->Sl}(hR:∀w',Ex w w'->R (lL p q).1 (lL p q).2 w'):
  Sm 29 #[.string (ai p),.string (ai q)] w (an [.i,.b] R):=by
 refine pN p q w R ?_;dsimp only [go_sem];dsimp only [go_sem,UInt8.reduceOfNat,UInt32.reduceOfNat,Nat.reduceAdd];refine J9 (λZ G J=>⟨λ _=>?_,(λh=>by cases h)⟩) λa b ht c ra m G J hc hm=>⟨(λh=>by cases h),λ _=>?_⟩
 ·have :=hR G J;rw [B0 Z]at this;exact this
 refine⟨λw'=>Ex G w',λV W=>?_⟩;have H:Ex G V:=W▸Ex.drew G;have hw:=hR V (Ex.trans J H);rw [AD ht]at hw;refine⟨H,c,0,rfl,_,λw' x=>(hc w' x).1,c,0,rfl,a,λw' x=>(hc w' x).2.1,c,0,rfl,b,λw' x=>(hc w' x).2.2.1,ra,m,rfl,(hc V H).2.2.2,?_⟩;cases e:sI a b with
 | none=>rw [e]at hm hw;exact⟨0,false,.inr ⟨rfl,hm,rfl⟩,H,hw⟩
 | some n=>rw [e]at hm hw;exact⟨n,true,.inl ⟨rfl,hm⟩,H,hw⟩
theorem uE {w:World}{e:Nat}{x y z u:Value}(W:ay x=true)(Z:ay y=true)(hz:ay z=true)(hu:ay u=true){K:Nat->Sl}(hK:∀b w',Ex w w'->w.heap.size<=b->b< w'.heap.size->(∀w2,Ex w' w2->World.cell? w2 ⟨b,0,none⟩=some x/\World.cell? w2 ⟨b,1,none⟩=some y/\World.cell? w2 ⟨b,2,none⟩=some z/\World.cell? w2 ⟨b,3,none⟩=some u/\True)->K b w'):
  cc w (.cells #[.slice none 0 0,.slice none 0 0,.slice none 0 0,.slice none 0 0] e) λb w2=>∃c:List Value,(.agg #[x,y,z,u]:Value)= .agg (List.toArray c)/\zC w2 b 0 4 c λJ=>K b J:=by
 intro b w2 hb G;have x2:Ex w w2:=G▸Ex.alloc w _;have s2:w2.heap.size=w.heap.size+1:=by rw [G,size_alloc]
 refine⟨[x,y,z,u],rfl,⟨rfl,by simp [W,Z,hz,hu],λj hj=>by rw [Ph];exact tU hb G (Ex.refl _) j hj⟩,λJ V=>?_⟩;obtain⟨k,_,_,H⟩:=aK (b:=b) [x,y,z,u] w2 0;rw [show World.setCells w2 b 0 [x,y,z,u]=J from V.symm]at k H;have H:=λj (hj:j< 4)=>H j (λi hi=>by rw [Ph];exact(tU hb G (Ex.refl _) i hi).1) hj
 simp only [Ph]at H;have s3:=k.size;have x3:Ex w J:=Ex.below x2 (Kp.below k (by omega) λg hg e=>by omega);refine hK b J x3 (by omega) (by omega) λw4 x4=>?_
 have c:∀j,w4.cell? ⟨b,j,none⟩=J.cell? ⟨b,j,none⟩:=λj=>x4.cell (a:=⟨b,j,none⟩) (show b< _ by omega)
 exact⟨(c 0).trans (H 0 (by omega)),(c 1).trans (H 1 (by omega)),(c 2).trans (H 2 (by omega)),(c 3).trans (H 3 (by omega)),trivial⟩
theorem Ad {p a:Tx}(h:bX p=some a):aV p=aV a:=by
 obtain⟨t,ok,e⟩:=js h;have h2:bX a=some a:=by rw [<-e];exact qV ok
 unfold aV;rw [h,h2]
def MN (all:List Tx)(x:Tx)(i:Int):Prop:=(i< 0↔x∉all)/\(0<=i->∃h:i.toNat< all.length,all[i.toNat]=x)
theorem DA {p q:Tx}{w:World}{R:Value->Int->Int->Bool->Sl}(ε:tolT p q=none->∀a b c d n m w',ay a=true->ay b=true->ay c=true->ay d=true->Ex w w'->R (.agg #[a,b,c,d]) n m false w')
  (κ:∀a0 b0,tolT p q=some (a0,b0)->∀all va vn vr vx n m w',MN all a0 n->MN all b0 m->a0∈all->b0∈all->ay va=true->ay vn=true->ay vr=true->ay vx=true->Ex w w'->(∀w2 c,Ex w' w2->w2.cell? ⟨c,3,none⟩=some vx->∃xs,I1 w2 c all.length vx xs (Az all sI))->R (.agg #[va,vn,vr,vx]) n m true w'):
  Sm 64 #[.string (ai p),.string (ai q)] w (an [.v,.i,.i,.b] R):=by
 refine vw p q w R ?_;dsimp only [go_sem];dsimp only [go_sem,UInt8.reduceOfNat,UInt32.reduceOfNat,Nat.reduceAdd];intro b3 w4 ζ V;have x4:Ex w w4:=V▸Ex.alloc w _;have s4:w4.heap.size=w.heap.size+1:=by rw [V,size_alloc]
 have c3:=λ{w':World} (x:Ex w4 w')=>tU ζ V x
 have α:∀{w1 w2:World},Ex w4 w1->Kp w1 w2 (λg=>g=b3)->Ex w w2:=λ{w1 w2} x k=>Ex.below (Ex.trans x4 x) (Kp.below k (Ex.trans x4 x).size λg hg e=>by omega)
 have υ:b3< w4.heap.size:=by omega
 clear V ζ;have bad:tolT p q=none->∀{w1:World},Ex w4 w1->_:=λhn {w1} x=>yW (x:=Value.slice none 0 0) (y:=Value.slice none 0 0) (z:=Value.slice none 0 0) (u:=Value.slice none 0 0) rfl rfl rfl rfl (c3 x) (R:=λv w'=>R v 0 0 false w') λw2 k=>ε hn _ _ _ _ 0 0 w2 rfl rfl rfl rfl (α x k)
 refine jg λw7 x7=>⟨λa0 ha=>jg λμ G=>⟨λb0 hb=>⟨λ _=>⟨(λh=>by cases h),λ _=>?_⟩,(λh=>by cases h)⟩,λhb=>⟨λ _=>⟨λ _=>?_,(λh=>by cases h)⟩,(λh=>by cases h)⟩⟩,λha=>jg λμ G=>⟨λb0 hb=>⟨(λh=>by cases h),λ _=>?_⟩,λhb=>⟨(λh=>by cases h),λ _=>?_⟩⟩⟩
 rotate_left
 ·exact bad (by unfold tolT aV;rw [hb];cases bX p<;>simp) (Ex.trans x7 G)
 ·exact bad (by unfold tolT aV;rw [ha];simp) (Ex.trans x7 G)
 ·exact bad (by unfold tolT aV;rw [ha];simp) (Ex.trans x7 G)
 have G:=Ex.trans x7 G;have ga:=Ad ha;have gb:=Ad hb;refine Aj (js ha) (js hb) λall va vn vr vx ok ν o1 o2 o3 o4 hl hS η ξ ο=>uE o1 o2 o3 o4 λW H γ φ ς cs=>?_
 have hE:∀n m w',MN all a0 n->MN all b0 m->Ex w w'->Kp ν w' (λg=>g=b3)->R (.agg #[va,vn,vr,vx]) n m ok w':=λn m w' hn hm x k=>by
  cases ok with
  | false=>
   refine ε ?_ va vn vr vx n m w' o1 o2 o3 o4 x;unfold tolT;rw [ga,gb];rcases ξ rfl with e | e
   ·rw [e]
   ·rw [e];cases aV a0<;>rfl
  | true=>
   obtain⟨h1,h2,m1,m2,hP⟩:=ο rfl;obtain⟨la,e1⟩:=Option.ne_none_iff_exists'.1 h1;obtain⟨lb,e2⟩:=Option.ne_none_iff_exists'.1 h2;have χ:=G.size;exact κ a0 b0 (wS ha hb (ga.trans e1) (gb.trans e2)) all va vn vr vx n m w' hn hm m1 m2 o1 o2 o3 o4 x λw2 c x2 hc=>hP w2 c (Kp.trans (Kp.mono (λg hg=>by omega) k) (Kp.af x2 _) λ _ _ h=>h) hc
 have cell:∀w',Kp H w' (λg=>g=b3)->∀j,w'.cell? ⟨W,j,none⟩=H.cell? ⟨W,j,none⟩:=λw' k j=>OG (w:=H) (k.block W ς (by have :=η.size;have :=G.size;omega))
 have cs:=cs H (Ex.refl _);have c0:∀w',Kp H w' (λg=>g=b3)->w'.cell? ⟨W,0,none⟩=some va:=λw' k=>(cell w' k 0).trans cs.1
 refine⟨λw'=>Kp H w' (λg=>g=b3),λw24 θ=>?_⟩;have Z:Ex H w24:=θ▸Ex.drew H;have hS:Strs w24 va all:=hS.ex (Ex.trans γ Z);have hK:Kp H w24 (λg=>g=b3):=Kp.af Z _;have β:Ex w4 w24:=Ex.trans G (Ex.trans η (Ex.trans γ Z));refine⟨hK,va,vn,vr,vx,λw' k=>⟨c0 w' k,(cell w' k 1).trans cs.2.1,(cell w' k 2).trans cs.2.2.1,(cell w' k 3).trans cs.2.2.2.1,trivial⟩,va,c0,va,c0,jD hS (by omega) λn h1 h2=>⟨hK,jD hS (by omega) λm h3 h4=>⟨hK,?_⟩⟩⟩;obtain⟨g1,g2⟩:=yW o1 o2 o3 o4 (c3 β) (R:=λv w'=>Kp w24 w' (λg=>g=b3)/\R v n m ok w') λδ J=>⟨J,hE n m δ ⟨h1,h2⟩ ⟨h3,h4⟩ (α β J) (Kp.trans (Kp.af (Ex.trans γ Z) _) J λ _ _ h=>h)⟩
 refine⟨g1,λδ ι=>?_⟩;obtain⟨r1,r2,r3,r4,hc,J,hr⟩:=g2 δ ι;exact⟨Kp.trans hK J λ _ _ h=>h,r1,r2,r3,r4,hc,hr⟩
theorem I1.at {w:World}{b N:Nat}{vx:Value}{xs:List Value}{A:Nat->Nat->Int}(h:I1 w b N vx xs A){i j:Nat}(hi:i< N)(hj:j< N){K:Int->Prop}(H:K (A i j)):
  bz w b 3 λv=>cJ v i λb3 J=>bz w b3 (J+(i:Int).toNat* 1) λv4=>cJ v4 j λb5 V=>B5 w b5 (V+(j:Int).toNat* 1) K:=by
 obtain⟨B,W⟩:=h.x;have G:i< xs.length:=by rw [h.xl];exact hi
 obtain⟨g,cap,e,_,_,hc⟩:=h.xr i G;refine⟨vx,h.c3,jd W G (K:=λv=>_) ⟨g,0,_,cap,e,by omega,by omega,_,?_,H⟩⟩;rw [show 0+(j:Int).toNat* 1=j by omega];exact hc j hj
theorem MN.at {all:List Tx}{x:Tx}{n:Int}(h:MN all x n)(hm:x∈all):∃i:Nat,n=i/\∃h:i< all.length,all[i]=x:=by
 have G:0<=n:=by
  by_cases e:n< 0
  ·exact absurd hm (h.1.1 e)
  ·omega
 obtain⟨H,h2⟩:=h.2 G;exact⟨n.toNat,by omega,H,h2⟩
theorem MT {p q:Tx}{w:World}{R:Bool->Bool->Sl}(hR:∀w',Ex w w'->R (qv p q).1 (qv p q).2 w'):
  Sm 26 #[.string (ai p),.string (ai q)] w (an [.b,.b] R):=by
 refine kh p q w R ?_;dsimp only [go_sem];dsimp only [go_sem,UInt8.reduceOfNat,UInt32.reduceOfNat,Nat.reduceAdd];refine DA (λJ a b c d n m w7 V W Z o4 x7=>uE V W Z o4 λb8 G H _ _ _=>⟨λ _=>?_,(λh=>by cases h)⟩) λa0 b0 ht all va vn vr vx n m w7 J hm ma mb V W Z o4 x7 hA=>uE V W Z o4 λb8 G H _ _ cs=>⟨(λh=>by cases h),λ _=>?_⟩
 ·have :=hR G (Ex.trans x7 H);rw [IG J]at this;exact this
 obtain⟨xs,hx⟩:=hA G b8 H (cs G (Ex.refl _)).2.2.2.1;obtain⟨i,rfl,hi,rfl⟩:=J.at ma;obtain⟨j,rfl,hj,rfl⟩:=hm.at mb;have hw:=hR G (Ex.trans x7 H);rw [H8 ht]at hw;refine hx.at hi hj (K:=λn=>_) ?_;rw [jo hi hj];cases e:sI all[i] all[j]with
 | none=>rw [e]at hw;exact hw
 | some k=>
  rw [e]at hw;rw [show decide (azN (some k)< 0)=false from PX (by unfold azN;simp only;omega)];exact hw
theorem Ix {p q:Tx}{w:World}{R:Int->Bool->Sl}(hR:∀w',Ex w w'->R (lL p q).1 (lL p q).2 w'):
  Sm 28 #[.string (ai p),.string (ai q)] w (an [.i,.b] R):=by
 refine ph p q w R ?_;dsimp only [go_sem];dsimp only [go_sem,UInt8.reduceOfNat,UInt32.reduceOfNat,Nat.reduceAdd];refine DA (λV a b c d n m w7 W Z o3 o4 x7=>uE W Z o3 o4 λb8 G H _ _ _=>⟨(λh=>by cases h),λ _=>?_⟩) λa0 b0 ht all va vn vr vx n m w7 V hm ma mb W Z o3 o4 x7 hA=>uE W Z o3 o4 λb8 G H _ _ cs=>⟨λ _=>?_,(λh=>by cases h)⟩
 ·have :=hR G (Ex.trans x7 H);rw [B0 V]at this;exact this
 obtain⟨xs,hx⟩:=hA G b8 H (cs G (Ex.refl _)).2.2.2.1;obtain⟨i,rfl,hi,rfl⟩:=V.at ma;obtain⟨j,rfl,hj,rfl⟩:=hm.at mb;have hw:=hR G (Ex.trans x7 H);rw [AD ht]at hw;refine hx.at hi hj (K:=λn=>_) ⟨λJ=>?_,λJ=>hx.at hi hj (K:=λn=>_) ?_⟩
 ·rw [jo hi hj]at J;cases e:sI all[i] all[j]with
  | none=>rw [e]at hw;exact hw
  | some k=>
   rw [e]at J;rw [show decide (azN (some k)< 0)=false from PX (by unfold azN;simp only;omega)]at J;cases J
 ·rw [jo hi hj]at J|-;cases e:sI all[i] all[j]with
  | none=>rw [e]at J;cases J
  | some k=>rw [e]at hw;exact hw
end Go.Proofs.YtdecokaadekjnaaGreat
