/- Part 6 of a proof of what the last text states; no condition. -/
import Derived.Test.YthekamjhgabkjaaGreatAd5
set_option maxRecDepth 100000
set_option maxHeartbeats 4000000
namespace Go.Proofs.YthekamjhgabkjaaGreat
open Go Go.RowKit
section
open T Classical
theorem Lp {t:P}(ok:fX t){w:World}{b:Nat}{D:Nat->Prop}(st:G5 w D b (num t e0 0).2 t.text (td (num t e0 0).1))(hD:∀g,D g->g≠b/\g< w.heap.size){G:Tx}(γ:isLab G=true){R:Value->Bool->Re}
  (μ:de (num t e0 0).1 G=none->∀w',Kr b w w'->R (.slice none 0 0) false w') (ς:∀l,de (num t e0 0).1 G=some l->∀v w',Kr b w w'->Own w.heap.size w' v l->R v true w'):Rf 46 #[ptr b,.string (ak G)] w (an [.v,.b] R):=by
 have su:=ok.su;have hszt:=ok.size;have hsh:=(dT su.ae).2.2;have hn0:=(bN t e0 0).2;have hlenl:G.length<=4:=by
  rcases gb γ with rfl | ⟨_,_,_,_,rfl | rfl | rfl⟩<;>simp
 have hpos:1<=G.length:=by
  rcases gb γ with rfl | ⟨_,_,_,_,rfl | rfl | rfl⟩<;>simp
 have okl:=ok.len;have oal:=ok.al;obtain⟨u,hu⟩:∃u,u=(num t e0 0).1:=⟨_,rfl⟩
 obtain⟨n0,ν⟩:∃n0,n0=(num t e0 0).2:=⟨_,rfl⟩
 rw [<-hu]at su hsh μ ς;have δ:u.size<=60:=by omega
 refine nX (ptr b) G w R ?_;dsimp only [go_sem];dsimp only [go_sem,Nat.reduceAdd];intro bs w1 α β;have x1:Ex w w1:=β▸Ex.alloc _ _;have s1:w1.heap.size=w.heap.size+1:=by rw [β,size_alloc]
 have hb:=st.mc.lt;have st0:=st;rw [<-hu]at st;obtain⟨vl,Z,ε⟩:=st.l;obtain⟨bl,vo,vt,ts,rfl,k2,k3,k4,k5,k6,k7,k8,k9⟩:=pk su ε;have hS:nE b bs n0 0 w w1 [] (λg=>g=bs):=by
  refine⟨Km.ex x1 hb,⟨by omega,rfl,λg e=>by omega,λj=>by rw [β,α];exact aT _ _ _ _,by rw [β,α];exact aa rfl,.slice none 0 0,.slice none 0 0,[],by rw [β,α];exact aa rfl,by rw [β,α];exact aa rfl,rfl,aI.nil _ _ _,Own.nil _ _,λg hg=>(by cases hg),λg hg=>(by cases hg),λi hi=>(by cases hi),Pe⟩,⟨_,by rw [ν];exact st.mc.ex x1,NP _,by simp⟩,hb⟩
 refine⟨by omega,⟨by omega,by omega⟩,λw'=>∃c' E M,nE b bs n0 c' w w' E M/\E.length<=3600/\de u G=fT E G/\G≠[],⟨λζ=>?_,λJ=>?_⟩,λw2 hJ=>?_⟩
 ·have ζ:G=[126]:=by simpa using ζ
  have e:de u G=nG u:=Om ζ;have st1:G5 w1 D b (num t e0 0).2 t.text (td (num t e0 0).1):=by
   rw [<-hu];exact⟨st.mc.ex x1,by rw [x1.cell (a:=⟨b,1,none⟩) hb];exact st.tx,ptr bl,by rw [x1.cell (a:=⟨b,2,none⟩) hb];exact Z,ay.ex ε x1⟩
  have kw:∀{w':World},Kr b w1 w'->Kr b w w':=λk=>Kp.trans (Kp.ab x1 _) k λ _ _ h=>h
  exact F6 ok st1 (λg hg=>⟨(hD g hg).1,by have :=(hD g hg).2;omega⟩) (λhn w' k=>μ (by rw [e,hu];exact hn) w' (kw k)) λl hl v w' k sv=>ς l (by rw [e,hu];exact hl) v w' (kw k) (sv.mono (by omega))
 ·have J:G≠[126]:=by simpa using J
  obtain⟨a,b',ha,H,hl⟩:=(gb γ).resolve_left J;have ξ:G≠[]:=by rcases hl with rfl | rfl | rfl<;>simp
  have υ:¬used u G->de u G=fT (labL u G) G:=λh=>by unfold de;rw [N2 J,N2 h]
  have φ:n0+0<=4000000000:=by omega
  have ο:∀{nm:UInt8} {w3:World} {M':Nat->Prop},nE b bs n0 (0+1000* (tj (bn u nm) u).length) w w3 (tj (bn u nm) u) M'->de u G=fT (tj (bn u nm) u) G->∃c' E M,nE b bs n0 c' w w3 E M/\E.length<=3600/\de u G=fT E G/\G≠[]:=λh3 e=>⟨_,_,_,h3,iG (e8 u _) δ,e,ξ⟩
  rcases hl with rfl | rfl | rfl
  ·refine⟨by simp,λ _=>?_,λh=>by simp [bt]at h⟩;exact Ew (nm:=b') hu ν ok su δ hS Z ε hD H φ λw3 M' c' h3 _ _=>⟨c',_,M',h3,iG (mS u _) δ,υ id,ξ⟩
  ·refine⟨by simp,λh=>by simp [bt]at h,λ _=>⟨by simp,λh=>?_,λ _=>?_⟩⟩
   ·have h:b'=35:=by simpa [bt]using h
    rw [h]at H;cases H
   ·exact xL (nm:=97) hu ν ok su δ hS Z ε hD (by decide) φ λw3 M' h3 _=>ο h3 (by rw [υ id];exact HP rfl)
  ·refine⟨by simp,λh=>by simp [bt]at h,λ _=>⟨by simp,λ _=>?_,λh=>by simp [bt]at h⟩⟩;refine⟨b,0,rfl,t.text,by rw [x1.cell (a:=⟨b,0+1,none⟩) hb];exact st.tx,Hp oal (by omega) (by omega) λy w2 x2 hy=>tV (c:=b') ⟨λχ=>?_,λη=>?_⟩⟩
   ·have χ:¬(y &&& oN b'=0):=by simpa using χ
    have h1:=hy b' H;rw [PF χ]at h1;have hf:t.Fr b':=by simpa using h1.symm
    refine μ ?_ w2 (Kp.ab (Ex.trans x1 x2) _);unfold de;rw [N2 J,Om (show used u [a,33,35,b']from(su.yz H).1 hf)]
   ·have η:y &&& oN b'=0:=by simpa using η
    have h1:=hy b' H;rw [Px η]at h1;have hf:¬t.Fr b':=by simpa using h1.symm
    exact xL (nm:=b') hu ν ok su δ (hS.ex x2) Z ε hD H φ λw3 M' h3 _=>ο h3 (υ λh=>hf ((su.yz H).2 h))
 obtain⟨c',E,M,h2,hE,hw,ξ⟩:=hJ;obtain⟨ψ,vw,rs,q1,q2,q3,q4,q5,q6,q7,q8,_⟩:=h2.rs.ex;have heL:(eL E).length=E.length:=by unfold eL;simp
 have heW:(eW E).length<=E.length:=by unfold eW;rw [NY];exact Pk _ _
 have α:=h2.rs.lt;refine⟨λtv w'=>∃br,tv=ptr br/\Ex w2 w'/\JY w2.heap.size w' br [] (decide (G∈eW E)) (λg=>g=br),⟨false,h2.rs.c2,λ _=>⟨vw,q2,Iu q5.strs (by omega) λbr w3 ω θ=>?_⟩,λh=>(by cases h)⟩,λtv w3 hJ=>?_⟩
 ·have x3:Ex w2 w3:=θ▸Ex.alloc _ _;have s3:w3.heap.size=w2.heap.size+1:=by rw [θ,size_alloc]
  exact⟨br,rfl,x3,by omega,rfl,λg e=>by omega,λj=>by rw [θ,ω];exact aT _ _ _ _,by rw [θ,ω];exact aa rfl,.slice none 0 0,by rw [θ,ω];exact aa rfl,Own.nil _ _,λg hg=>by cases hg⟩
 obtain⟨br,rfl,x3,r3⟩:=hJ;obtain⟨al,capl,hvl⟩:∃a cap,ψ= .slice a (eL E).length cap:=by
  rcases q4.2 with⟨rfl,hn⟩ | ⟨g,cap,cur,rfl,_⟩
  ·exact⟨none,0,by rw [<-q3,hn]⟩
  ·exact⟨_,cap,by rw [q3]⟩
 have hfl:∀k,(((eL E).take k).filter λp=>decide (p.1=G)).length<=3600:=λk=>by
  have h1:=Pk (λp:Tx×Tx=>decide (p.1=G)) ((eL E).take k);rw [Ow]at h1;omega
 refine⟨ψ,by rw [x3.cell (a:=⟨bs,0,none⟩) α];exact q1,al,_,capl,hvl,λi w'=>∃(k:Nat) (M':Nat->Prop),i=k/\k<=(eL E).length/\Ex w2 w'/\JY w2.heap.size w' br ((((eL E).take k).filter λp=>decide (p.1=G)).map Prod.snd) (decide (G∈eW E)) M',λi _=>((eL E).length - i).toNat,⟨0,_,rfl,OA _,x3,by simpa using r3⟩,λi w4 hI=>?_⟩;obtain⟨k,M',rfl,hk,x4,r4⟩:=hI;refine⟨λhlt=>?_,λhge=>?_⟩
 ·have ι:k< (eL E).length:=by simp only [NX]at hlt;omega
  obtain⟨g,p1,p2,p3,p4,p5,p6⟩:=q8 k ι;obtain⟨z1,z2,z3,_⟩:=p6;obtain⟨gl,κ,hv2,hg2,hc2⟩:∃gl κ,ψ= .slice (some ⟨gl,0,none⟩) (eL E).length κ/\gl< w2.heap.size/\w2.cell? ⟨gl,k,none⟩=some (.slice (some ⟨g,0,none⟩) 2 2):=by
   rcases q4.Ed (D:=λ _=>True) λ _ _=>trivial with⟨_,h0⟩ | ⟨b0,o0,c0,e0',_,l0,hc⟩
   ·rw [h0]at q3;simp at q3;omega
   ·rcases q4.2 with⟨h0,_⟩ | ⟨g',cap',cur,e1,_⟩
    ·rw [h0]at hvl;rw [e0']at h0;cases h0
    ·rw [e1]at e0';cases e0';exact⟨_,_,by rw [e1,q3],l0,by have :=hc k _ p1;rwa [Og]at this⟩
  refine⟨gl,0,_,κ,hv2,by omega,by omega,_,by rw [x4.cell (a:=⟨gl,_,none⟩) hg2,Og,Oj];exact hc2,g,0,2,2,rfl,by omega,by omega,_,by rw [x4.cell (a:=⟨g,_,none⟩) z1];exact z2,λheq=>⟨g,0,2,2,rfl,by omega,by omega,_,by rw [x4.cell (a:=⟨g,_,none⟩) z1];exact z3,Hb r4 (by rw [NY];have :=hfl k;omega) λw5 M5 k5 r5 hM5=>⟨by omega,⟨k+1,M5,by omega,by omega,Ex.below x4 (Kp.below k5 x4.size λg hg hM=>by have :=(r4.mr g hM).1;omega),?_⟩,tN ι⟩⟩,λhn=>⟨by omega,⟨k+1,M',by omega,by omega,x4,?_⟩,tN ι⟩⟩
  ·rw [NR ι,OQ,Oy,P7 (by exact heq)];simpa using r5
  ·rw [NR ι,OQ,Oy,PJ (by simpa using hn)];simpa using r4
 ·have hkl:k=(eL E).length:=by simp only [NV]at hge;omega
  have hf:=hfl k;rw [hkl,Oi]at r4 hf;have pe:=hw.trans (JF ξ);have kr:Kr b w w4:=Kp.trans h2.km.kp (Kp.ab x4 λ _=>False) λ _ _ h=>h.elim
  have s2:=h2.km.size;refine FJ r4 (by rw [NY];omega) (λH=>μ (by rw [pe,Om (N8 H)]) w4 kr) λH v' w5 k5 o5 hv'=>ς _ (by rw [pe,N2 (N9 H)]) v' w5 (Kp.trans kr k5 λg hg hM=>by have :=(r4.mr g hM).1;omega) (o5.mono (by omega))
theorem GH {p G:Tx}(hl:G.length<=1099511627776){w:World}{R:Value->Bool->Re}(H:dz p G=none->∀w',Ex w w'->R (.slice none 0 0) false w')(α:∀l,dz p G=some l->∀v w',Ex w w'->Own w.heap.size w' v l->R v true w'):
  Rf 14 #[.string (ak p),.string (ak G)] w (an [.v,.b] R):=by
 refine oY p G w R ?_;dsimp only [go_sem];refine EK (λe w1 J=>⟨λh=>(by cases h),λ _=>H ?_ _ J⟩) λt ok e b w1 J hb st=>⟨λ _=>E8 hl ⟨λhn=>H ?_ _ J,λZ=>?_⟩,λh=>(by cases h)⟩
 ·unfold dz;rw [e];simp
 ·have hn:isLab G=false:=by simpa using hn
  unfold dz;rw [hn];rfl
 ·have Z:isLab G=true:=by simpa using Z
  have es:dz p G=xa t.text G:=by unfold dz;rw [Om Z,e];rfl
  rw [ur ok]at es;have kx:∀{w':World},Kr b w1 w'->Ex w w':=λk=>Ex.below J (Kp.below k J.size λg hg e=>by omega)
  exact Lp ok st (λg hg=>⟨hg.2.1,hg.2.2⟩) Z (λh w2 k=>H (es.trans h) w2 (kx k)) λl h v w2 k sv=>α l (es.trans h) v w2 (kx k) (sv.mono J.size)
end
end Go.Proofs.YthekamjhgabkjaaGreat
