/- Part 5 of a proof of what the last text states; no condition. -/
import Derived.Test.YtdecokaadekjnaaGreatAc4
set_option maxRecDepth 100000
set_option maxHeartbeats 4000000
namespace Go.Proofs.YtdecokaadekjnaaGreat
open Go Go.RowKit T Classical
theorem ru {A:Type}{k:UInt8}{o:Off A}{a:A}(h:o.over k=some a):o.tm.Fr a:=by
 cases o with
 | tau p=>cases h
 | snd c b p=>exact .inl (nH (c:=k=33) h).symm
 | rcv c x p s=>exact .inl (nH (c:=k=63) h).symm
theorem Cv {A B:Type}[DecidableEq A][DecidableEq B]{ρ:A->Nat}{σ:B->Nat}{k:UInt8}{o:Off A}{r:Off B}(h:qn ρ σ o r):(o.over k=none/\r.over k=none)\/∃a b,o.over k=some a/\r.over k=some b/\ρ a=σ b:=by
 cases o<;>cases r<;>try exact h.elim
 ·exact .inl ⟨rfl,rfl⟩
 ·unfold Off.over;by_cases e:k=33
  ·right;exact⟨_,_,MZ e,MZ e,h.1⟩
  ·left;exact⟨MJ e,MJ e⟩
 ·unfold Off.over;by_cases e:k=63
  ·right;exact⟨_,_,MZ e,MZ e,h.1⟩
  ·left;exact⟨MJ e,MJ e⟩
theorem Jc {t:P}{u:U}(su:SU t u){k:UInt8}{c:UInt8}:Lp k t c↔∃z,z∉u.frL/\z< 26/\c=ρ0 z/\∃q∈u.ths,∃o∈offs q,o.over k=some z:=by
 have hl:=su.two.len;constructor
 ·rintro⟨hc,p,hp,o,ho,e⟩
  obtain⟨i,hi,rfl⟩:=Np.1 hp;have H:i< u.ths.length:=by omega
  obtain⟨r,hr,J⟩:=(jD (su.two.get hi H)).Jp ho;rcases Cv (k:=k) J with⟨V,_⟩ | ⟨a,b,V,Z,G⟩
  ·rw [V]at e;cases e
  ·rw [V]at e;cases e;have hm:=Mx H;obtain⟨sub,_⟩:=aW (su.smp _ hm) _ hr;have W:∃q∈u.ths,q.Fr b:=⟨_,hm,sub.fr b (ru Z)⟩
   have G:c=asg u.frL t.frL ρ0 b:=MQ.1 G;by_cases hb:b∈u.frL
   ·exact absurd (G▸eR u.frL t.frL ρ0 b hb su.len) hc
   ·rw [bI _ _ _ _ hb]at G;have hz:=(su.free b W).resolve_left hb;exact⟨b,hb,hz.1,G,_,hm,r,hr,Z⟩
 ·rintro⟨z,hz,β,rfl,q,hq,r,hr,e⟩
  obtain⟨i,H,rfl⟩:=Np.1 hq;have hi:i< t.ths.length:=by omega
  obtain⟨o,ho,J⟩:=(jD (su.two.get hi H)).Ec hr;rcases Cv (k:=k) J with⟨_,V⟩ | ⟨a,b,V,Z,G⟩
  ·rw [V]at e;cases e
  ·rw [Z]at e;cases e;obtain⟨sub,_⟩:=aW (su.smp _ hq) _ hr;have W:∃q∈u.ths,q.Fr z:=⟨_,hq,sub.fr z (ru Z)⟩
   have G:a=asg u.frL t.frL ρ0 z:=MQ.1 G;rw [bI _ _ _ _ hz]at G;have α:=(su.free z W).resolve_left hz;exact⟨α.2,_,Mx hi,o,ho,by rw [V,G]⟩
theorem J1 {t:P}{u:U}(su:SU t u){k c:UInt8}(h:Lp k t c):lt c=true:=by
 obtain⟨z,_,G,rfl,_⟩:=(Jc su).1 h;exact B5 G
theorem Hx {t:P}{u:U}(su:SU t u){k c:UInt8}:c∈Hc k t↔Lp k t c:=by
 unfold Hc;rw [Oz,Mz,rm];exact⟨λh=>h.2,λh=>⟨J1 su h,h⟩⟩
theorem mR:qX.Pairwise (· < ·):=by
 unfold qX;decide
theorem Ht (k:UInt8)(t:P):(Hc k t).Pairwise (· < ·):=mR.filter _
theorem BW:∀{a b:Tx},a.Pairwise (· < ·)->b.Pairwise (· < ·)->(∀c,c∈a↔c∈b)->a=b
 | [],[],_,_,_=>rfl
 | [],y::b,_,_,h=>by have :=(h y).2 (by simp);cases this
 | x::a,[],_,_,h=>by have :=(h x).1 (by simp);cases this
 | x::a,y::b,ha,hb,h=>by
  obtain⟨V,Z⟩:=OE.1 ha;obtain⟨W,h4⟩:=OE.1 hb;have H:x=y:=by
   rcases MH.1 ((h x).1 (by simp))with e | e
   ·exact e
   ·rcases MH.1 ((h y).2 (by simp))with J | J
    ·exact J.symm
    ·exact absurd (UInt8.lt_trans (V y J) (W x e)) (Pn _)
  subst H;rw [BW Z h4 λc=>?_];have :=h c;simp only [MH]at this;constructor
  ·intro G;rcases this.1 (.inr G)with rfl | e
   ·exact absurd (V _ G) (Pn _)
   ·exact e
  ·intro G;rcases this.2 (.inr G)with rfl | e
   ·exact absurd (W _ G) (Pn _)
   ·exact e
def KD (s:Tx):Prop:=119∈Aj 33 s
theorem Ds {s:Tx}{w:World}{R:Value->Bool->PV}(J:cT s=none->∀w',Ex w w'->R (.pointer none) false w')
  (γ:∀t:P,lP t->cT s=some t.text->∀b w',Ex w w'->w.heap.size<=b->Hw w' (λg=>w.heap.size<=g/\g≠b/\g< w'.heap.size) b (num t e0 0).2 t.text (td (num t e0 0).1)->R (ptr b) true w'):
  PW 135 #[.string (ax s)] w (aw [.v,.b] R):=by
 refine qQ s w R ?_;dsimp only [go_sem];dsimp only [go_sem,UInt8.reduceOfNat,UInt32.reduceOfNat,Nat.reduceAdd];refine FR λv q w4 x4 h1 h2=>⟨λV=>?_,λV=>?_⟩
 ·have V:q=true:=by simpa using V
  obtain⟨G,t,Z,e,α⟩:=h1 V;have ζ:t.size<=60:=((mO Z).1 (e▸G)).2;refine FC α.bound (λg G=>G.2) λw6 x6=>⟨λW=>?_,λW=>?_⟩
  ·refine J (gW ?_) w6 (Ex.trans x4 x6)
   rintro⟨t',h4,h5,_,h6⟩
   have :=eZ h4.wf Z.wf (h5.trans e);subst this;rw [h6]at W;cases W
  ·have W:t.smp=true:=by simpa using W
   have β:=aK.kp (Kp.ah x6 λ _=>False) (λ _ _ h=>h) α.bound;have he:=ph Z (e▸G) W;rw [<-e]at he;refine xN β (λg G=>by have :=G.2;have :=x6.size;omega) Z (by omega) λw9 x9=>?_
   have H:=Ex.trans x4 (Ex.trans x6 x9);cases hn:jP (num t e0 0).1 with
   | none=>exact⟨(λs h=>by cases h),λ _=>⟨λ _=>J (he.trans hn) w9 H,(λh=>by cases h)⟩⟩
   | some n=>
    refine⟨λs' h=>?_,(λh=>by cases h)⟩;cases h;refine⟨(λh=>by cases h),λ _=>?_⟩;obtain⟨t',ok,rfl⟩:=BN (kI Z) ((tq (j5 Z)).symm.trans W) hn;have ε:=ok.size;have δ:=ok.len;refine Bw ok.al (by omega) (by omega) λb w' x hb st=>γ t' ok (he.trans hn) b w' (Ex.trans H x) (by have :=H.size;omega) ?_
    obtain⟨v,h1,h2⟩:=st.l;exact⟨st.mc,st.tx,v,h1,h2.sub λg _ G=>⟨by have :=H.size;have :=G.1;omega,G.2⟩⟩
 ·have V:q=false:=by simpa using V
  exact J (gW fun⟨t,_,_,G,_⟩=>h2 V G) w4 x4
theorem IG:tC 0 λ _=>false:=λc _=>by simp
theorem DB {x:UInt32}{tk:Tk}(hx:tC x tk){w:World}{R:aF->PV}(hR:R (qX.filter tk) w):
  PW 82 #[.int .u32 x.toNat] w (aw [.s] R):=by
 refine qT x w R ?_;dsimp only [go_sem];dsimp only [go_sem,UInt8.reduceOfNat,UInt32.reduceOfNat,Nat.reduceAdd];have hl:qX.length=26:=by simp [qX]
 refine⟨λout c w'=>w'=w/\97<=c.toNat/\c.toNat<=123/\out=qX.filter λd=>tk d&&decide (d< c),λ _ c _=>123 - c.toNat,⟨rfl,by decide,by decide,?_⟩,λout c w' hI=>?_⟩
 ·refine(List.filter_eq_nil_iff.2 λd hd h=>?_).symm;have :=bg (rm.1 hd);simp only [Mp,Mz,Nf]at h;have Z:d.toNat< 97:=h.2;omega
 ·obtain⟨rfl,G,h4,rfl⟩:=hI;refine⟨λH=>GX ?_,λH=>?_⟩
  ·simp only [Mz,ML]at H;have J:c.toNat<=122:=H;have V:lt c=true:=nK ⟨G,J⟩;have :=hx c V;have e1:(c+1).toNat=c.toNat+1:=by rw [Pj];show(c.toNat+1) % 256=_;omega
   have hle:(qX.filter λd=>tk d&&decide (d< c)).length<=26:=hl▸N1 _ _;have hd:∀d:UInt8,d< c+1↔d< c\/d=c:=λd=>by
    rw [Nf,Nf,e1,<-MQ];omega
   refine⟨λhe=>?_,λhe=>?_⟩
   ·have ht:tk c=true:=by
     rw [Om]at he;rw [he]at this;simpa using this.symm
    have e2:UInt8.ofNat (Int.toNat (c.toNat:Int))=c:=by rw [Mv];exact UInt8.ofNat_toNat
    refine⟨⟨by omega,by omega⟩,by simp only [Mm,MB];omega,⟨rfl,by omega,by omega,?_⟩,by show 123 - (c+1).toNat< 123 - c.toNat;omega⟩;rw [e2];refine BW ?_ (mR.filter _) λd=>?_
    ·refine Py.2 ⟨mR.filter _,List.pairwise_singleton _ _,λa ha b hb=>?_⟩;cases MA.1 hb;have :=(Oz.1 ha).2;simp only [Mp,Mz]at this;exact this.2
    ·simp only [My,Oz,MA,Mp,Mz,hd];constructor
     ·rintro(⟨h1,Z,G⟩ | rfl)
      ·exact⟨h1,Z,.inl G⟩
      ·exact⟨rm.2 V,ht,.inr rfl⟩
     ·rintro⟨h1,Z,G | G⟩
      ·exact .inl ⟨h1,Z,G⟩
      ·exact .inr G
   ·have ht:tk c=false:=by
     have he:decide (x &&& qU c=0)=true:=by
      cases h:decide (x &&& qU c=0)with
      | true=>rfl
      | false=>rw [h]at he;cases he
     rw [he]at this;simpa using this.symm
    refine⟨⟨rfl,by omega,by omega,?_⟩,by show 123 - (c+1).toNat< 123 - c.toNat;omega⟩;refine OL λd _=>?_
    by_cases W:d=c
    ·rw [W,ht];rfl
    ·have:(d< c+1)↔d< c:=by rw [hd];exact⟨λh=>h.resolve_right W,.inl⟩
     rw [OX.2 this]
  ·simp only [Mw,ML]at H;have J:122< c.toNat:=by have:¬c.toNat<=122:=H;omega
   rw [show(qX.filter λd=>tk d&&decide (d< c))=qX.filter tk from OL λd hd=>by
    have :=bg (rm.1 hd);rw [N5 (Nf.2 (by omega)),OV]]
   exact hR
def Ga (k:UInt8)(u:U)(l:List (Off Nat))(c:UInt8):Prop:=∃o∈l,∃z,o.over k=some z/\z∉u.frL/\c=ρ0 z
def Gt (k:UInt8)(u:U)(l:List U)(c:UInt8):Prop:=Ga k u (l.flatMap offs) c
theorem B1 {k:UInt8}{u:U}{l m:List (Off Nat)}{c:UInt8}:Ga k u (l++m) c↔Ga k u l c\/Ga k u m c:=by
 unfold Ga;constructor
 ·rintro⟨o,G,h⟩
  exact(My.1 G).imp (λH=>⟨o,H,h⟩) λH=>⟨o,H,h⟩
 ·rintro(⟨o,G,h⟩ | ⟨o,G,h⟩)
  ·exact⟨o,M0 _ G,h⟩
  ·exact⟨o,MT _ G,h⟩
theorem tC.cg {x:UInt32}{p q:UInt8->Prop}[DecidablePred p][DecidablePred q](h:tC x λc=>decide (p c))(e:∀c,p c↔q c):tC x λc=>decide (q c):=by
 have:(λc=>decide (p c))=λc=>decide (q c):=funext λc=>OX.2 (e c)
 rwa [<-this]
theorem FI {q:UInt8->Prop}[DecidablePred q](e:∀c,¬q c):tC 0 λc=>decide (q c):=by
 have:(λc=>decide (q c))=λ _=>false:=funext λc=>N9 (e c)
 rw [this];exact IG
theorem sF {k H:UInt8}{a b a' V:Nat}{v v':Value}{s W:Bool}(h:cL k a b v s=cL H a' V v' W):k=H/\a=a':=by
 unfold cL at h
 injection h with J G
 injection G with G _
 injection J with _ J
 injection G with _ G
 exact⟨MQ.1 (by omega),by omega⟩
theorem xn:∀u:U,u.ths.length<=u.size:=by
 intro u
 induction u with
 | par p q _ G=>simp only [T.ths,Mm,T.size];omega
 | res x p G=>simp only [T.ths,T.size];omega
 | _=>simp [T.ths,T.size]
theorem yP {A:Type}{k:UInt8}{a c:A}{p:T A}{z:A}:(Off.snd a c p).over k=some z↔33=k/\z=a:=by
 show(if k=33 then some a else none)=some z↔_;constructor
 ·intro h;by_cases G:k=33
  ·exact⟨G.symm,(nH h).symm⟩
  ·rw [MJ G]at h;cases h
 ·rintro⟨H,J⟩;rw [MZ H.symm,J]
theorem zd {A:Type}{k:UInt8}{a c:A}{p:T A}{s:Bool}{z:A}:(Off.rcv a c p s).over k=some z↔63=k/\z=a:=by
 show(if k=63 then some a else none)=some z↔_;constructor
 ·intro h;by_cases G:k=63
  ·exact⟨G.symm,(nH h).symm⟩
  ·rw [MJ G]at h;cases h
 ·rintro⟨H,J⟩;rw [MZ H.symm,J]
theorem FN:∀u:U,u.frL.length<=u.size:=by
 intro u
 induction u with
 | res x p G=>simp only [T.frL,Mm,T.size];omega
 | _=>simp [T.frL,T.size]
theorem Ho {z:Nat}(h:z< 26):qU (ρ0 z)=uT 1 z:=by
 unfold qU;rw [gi (B5 h),eG h];unfold σ0;rw [Nat.add_sub_cancel]
theorem tC.more {x:UInt32}{p q:UInt8->Prop}[DecidablePred p][DecidablePred q](h:tC x λc=>decide (p c)){z:Nat}(G:z< 26)(e:∀c,q c↔p c\/c=ρ0 z):tC (x ||| uT 1 z) λc=>decide (q c):=by
 have H:=h.add (B5 G);rw [Ho G]at H;have:(cu (λc=>decide (p c)) (ρ0 z))=λc=>decide (q c):=by
  funext c
  unfold cu;rw [lS,OX.2 (e c),Bool.decide_or]
 rwa [<-this]
theorem IX {t:P}(ok:lP t){w:World}{b n:Nat}{D:Nat->Prop}(st:Hw w D b n t.text (td (num t e0 0).1))(hD:∀g,D g->g< w.heap.size){k:UInt8}(hk:k≠126){R:aF->PV}(hR:∀w',Ex w w'->R (Hc k t) w'):
  PW 93 #[ptr b,.int .u8 k.toNat] w (aw [.s] R):=by
 have su:=ok.su;have hszt:=ok.size;have hsh:=(kL su.ae).2.2;generalize hu:(num t e0 0).1=u at*;have hsz:u.size<=60:=by omega
 have hthl:=xn u;refine mE (ptr b) k w R ?_;dsimp only [go_sem];dsimp only [go_sem,UInt8.reduceOfNat,UInt32.reduceOfNat,Nat.reduceAdd];have hb:=st.mc.lt;obtain⟨vl,ο,hl0⟩:=st.l;obtain⟨bl,vo,vt,ts,rfl,k2,k3,k4,k5,k6,k7,k8,k9⟩:=CV su hl0;obtain⟨at_,capt,hvt⟩:=k7.slice;refine⟨b,0,rfl,ptr bl,ο,bl,0,rfl,vt,k5,at_,_,capt,hvt,λout x w'=>∃i:Nat,x=i/\i<=ts.length/\Ex w w'/\tC out λc=>decide (Gt k u (u.ths.take i) c),λ _ x _=>(ts.length - x).toNat,⟨0,rfl,Nl _,Ex.refl w,?_⟩,λout x w16 hI=>?_⟩
 ·exact FI λc=>by simp [Gt,Ga]
 obtain⟨i,rfl,hi,ζ,η⟩:=hI;refine⟨λhlt=>?_,λhge=>?_⟩;rotate_left
 ·have ε:i=u.ths.length:=by simp only [Mw]at hge;omega
  rw [ε,MR]at η;refine DB η ?_;have:(qX.filter λc=>decide (Gt k u u.ths c))=Hc k t:=by
   unfold Hc;refine OL λc _=>OX.2 ?_
   rw [Jc su];constructor
   ·rintro⟨o,ho,z,V,h2,h3⟩
    obtain⟨q,hq,ho⟩:=Ni.1 ho;obtain⟨sub,_⟩:=aW (su.smp _ hq) _ ho;exact⟨z,h2,((su.free z ⟨q,hq,sub.fr z (ru V)⟩).resolve_left h2).1,h3,q,hq,o,ho,V⟩
   ·rintro⟨z,V,h2,h3,q,hq,o,ho,h4⟩
    exact⟨o,Ni.2 ⟨q,hq,ho⟩,z,h4,V,h3⟩
  rw [this];exact hR w16 ζ
 have ε:i< ts.length:=by simp only [Mz]at hlt;omega
 have φ:i< u.ths.length:=by omega
 have s16:=ζ.size;have α:=Mx φ;have θ:=su.th _ α;have hsi:=eg u _ α;have χ:∃bt ot H,vt= .slice (some ⟨bt,ot,none⟩) ts.length H/\w16.cell? ⟨bt,ot+i,none⟩=some ts[i]:=by
  rcases k7 with⟨_,h0⟩ | ⟨bt,ot,H,e,hbD,hb',G⟩
  ·rw [h0]at ε;simp at ε
  ·exact⟨bt,ot,H,e,by rw [ζ.cell (a:=⟨bt,ot+i,none⟩) hb'];exact G i _ (Mo ε)⟩
 obtain⟨bt,ot,H,hvt',χ⟩:=χ;refine⟨bt,ot,_,H,hvt',by omega,by omega,ts[i],by rw [Mv,MW];exact χ,sR θ.1 θ.2.1 θ.2.2 (su.smp _ α) (by omega) (λg hg=>by have :=hD g hg;omega) ((k9 i φ ε).ex ζ) λv22 w23 xs x23 ς hm23=>?_⟩;have hofm:∀o∈offs u.ths[i],∀z,o.over k=some z->z∉u.frL->z< 26:=λo ho z V h2=>by
  obtain⟨sub,_⟩:=aW (su.smp _ α) _ ho;exact((su.free z ⟨_,α,sub.fr z (ru V)⟩).resolve_left h2).1
 have eT:(u.ths.take (i+1)).flatMap offs=(u.ths.take i).flatMap offs++offs u.ths[i]:=by rw [Mq φ,NM];simp
 have hol:(offs u.ths[i]).length<=60:=by have V:=eY u.ths[i];omega
 have υ:=Ex.trans ζ x23;generalize hos:offs u.ths[i]=os at*;have ι:∃a cap,v22= .slice a os.length cap:=by
  rcases ς.cell with⟨V,h2,_⟩ | ⟨g,cap,V,_⟩
  ·exact⟨none,0,by rw [V,h2]⟩
  ·exact⟨_,cap,V⟩
 obtain⟨av,cav,ι⟩:=ι;refine⟨av,_,cav,ι,λout x w'=>∃j:Nat,x=j/\j<=os.length/\Ex w23 w'/\tC out λc=>decide (Gt k u (u.ths.take i) c\/Ga k u (os.take j) c),λ _ x _=>(os.length - x).toNat,⟨0,rfl,Nl _,Ex.refl _,η.cg λc=>by simp [Ga]⟩,λout2 x w30 hI=>?_⟩;obtain⟨j,rfl,hj,ξ,W⟩:=hI;refine⟨λhlt2=>?_,λhge2=>?_⟩;rotate_left
 ·have κ:j=os.length:=by simp only [Mw]at hge2;omega
  rw [κ,MR]at W;refine⟨by omega,⟨i+1,by omega,by omega,Ex.trans υ ξ,W.cg λc=>?_⟩,tN (by omega)⟩;show Ga k u _ c\/Ga k u os c↔Ga k u _ c;rw [eT,B1]
 have κ:j< os.length:=by simp only [Mz]at hlt2;omega
 have ho30:=ς.ex ξ;have hm30:=OffsM.ex hm23 ξ;obtain⟨g,cap,cs,hvg,γ,G⟩:=xt ho30 hm30 κ;obtain⟨kk,a1,b1,vr,s1,rfl,hone⟩:=γ.any;refine⟨g,0,_,cap,hvg,by omega,by omega,kk,a1,b1,vr,s1,⟨G 0 _ rfl _ (by omega) (by omega),G 1 _ rfl _ (by omega) (by omega),G 2 _ rfl _ (by omega) (by omega),G 3 _ rfl _ (by omega) (by omega),G 4 _ rfl _ (by omega) (by omega),trivial⟩,λb40 w41 hb40 hw41=>?_⟩;obtain⟨box1,box2⟩:=Be (cs:=cL kk a1 b1 vr s1) rfl hb40 hw41;refine⟨⟨rfl,sD hone,box1⟩,λw42 hw42=>?_⟩;obtain⟨x42,l42,ψ⟩:=box2 w42 hw42;have Z:=Ex.trans ξ x42;have μ:=Ex.trans υ Z;have ω:os[j]∈os:=Mx κ;have etk:os.take (j+1)=os.take j++[os[j]]:=Mq κ;have δ:=@tN os.length j (by omega);have J:∀z,os[j].over k=some z↔kk=k/\z=a1:=by
  intro z;cases ho:os[j]with
  | tau p=>
   rw [ho]at γ;obtain⟨_,_,_,_,V,_⟩:=γ;have this:=(sF V).1;exact⟨(λh=>by cases h),λh=>absurd (h.1.symm.trans this) hk⟩
  | snd a c p=>
   rw [ho]at γ;obtain⟨_,_,V,_⟩:=γ;obtain⟨e1,e2⟩:=sF V;subst e1 e2;exact yP
  | rcv a c p s=>
   rw [ho]at γ;obtain⟨_,V,_⟩:=γ;obtain⟨e1,e2⟩:=sF V;subst e1 e2;exact zd
 have ν:(∀z,os[j].over k=some z->z∈u.frL)->tC out2 λc=>decide (Gt k u (u.ths.take i) c\/Ga k u (os.take (j+1)) c):=λh=>W.cg λc=>by
  rw [etk,B1];have:¬Ga k u [os[j]] c:=by
   rintro⟨o,ho,z,V,h2,_⟩
   cases MA.1 ho;exact h2 (h z V)
  simp [this]
 refine⟨kk,ψ 0 (by omega),λβ=>?_,λβ=>?_⟩;rotate_left
 ·have β:kk≠k:=by simpa using β
  exact⟨by omega,⟨j+1,by omega,by omega,Z,ν λz h=>absurd ((J z).1 h).1 β⟩,δ⟩
 have β:kk=k:=by simpa using β
 refine⟨a1,ψ 1 (by omega),?_⟩;refine mz (ptr b) a1 w42 _ ?_;dsimp only [go_sem];dsimp only [go_sem,UInt8.reduceOfNat,UInt32.reduceOfNat,Nat.reduceAdd];refine⟨b,0,rfl,ptr bl,?_,bl,0,rfl,vo,?_,CU (k6.ex μ) ?_ ⟨λhn=>?_,λhn=>?_⟩⟩
 ·rw [μ.cell (a:=⟨b,0+2,none⟩) hb];exact ο
 ·rw [μ.cell (a:=⟨bl,0+0,none⟩) k3];exact k4
 ·have :=FN u;omega
 ·have hn:a1∉u.frL:=by simpa using hn
  have h26:=hofm _ ω a1 ((J a1).2 ⟨β,rfl⟩) hn;refine⟨a1,ψ 1 (by omega),by omega,by omega,⟨j+1,by omega,by omega,Z,?_⟩,δ⟩;rw [Mv];refine W.more h26 λc=>?_
  rw [etk,B1];have:Ga k u [os[j]] c↔c=ρ0 a1:=by
   constructor
   ·rintro⟨o,ho,z,V,h2,h3⟩
    cases MA.1 ho;rw [h3,((J z).1 V).2]
   ·intro h;exact⟨_,MA.2 rfl,a1,(J a1).2 ⟨β,rfl⟩,hn,h⟩
  rw [this];exact Pm.symm
 ·have hn:a1∈u.frL:=by simpa using hn
  exact⟨by omega,⟨j+1,by omega,by omega,Z,ν λz h=>((J z).1 h).2▸hn⟩,δ⟩
theorem Df {u:U}(α:u.size<=60):(gu u).length<=12960000:=by
 have Z:u.ths.length<=60:=by have :=xn u;omega
 have H:∀i (h:i< u.ths.length),(offs u.ths[i]).length<=60:=λi h=>by
  have G:=eY u.ths[i];have h2:=eg u _ (Mx h);omega
 have V:∀i c d p k,k< u.ths.length->(E2 u i c d p k).length<=60:=λi c d p k hk=>by
  unfold E2;split
  ·simp
  ·rw [cD hk];have G:=gM (f:=E3 u i k c d p) (c:=1) (l:=offs u.ths[k]) λx _=>by
    cases x with
    | rcv e' x q s=>unfold E3;simp only;split<;>simp
    | _=>simp [E3]
   have :=H k hk;omega
 have W:∀i o,(E1 u i o).length<=3600:=λi o=>by
  cases o with
  | tau p=>simp [E1]
  | rcv=>simp [E1]
  | snd c d p=>
   have G:=gM (f:=E2 u i c d p) (c:=60) (l:=List.range u.ths.length) λx J=>V i c d p x (NV.1 J)
   rw [OJ]at G;show((List.range u.ths.length).flatMap (E2 u i c d p)).length<=3600;omega
 have G:=gM (f:=E0 u) (c:=216000) (l:=List.range u.ths.length) λx J=>by
  rw [NV]at J;have G:=gM (f:=E1 u x) (c:=3600) (l:=offs u.ths[x]) λy _=>W x y
  have :=H x J;unfold E0;rw [cD J];omega
 rw [OJ]at G;unfold gu;omega
theorem Cn {s:Tx}{l:List Tx}(h:uz s=some l):l.length<=12960000:=by
 unfold uz at h;split at h
 ·rename_i G;have ok:=G.choose_spec.1;generalize G.choose=t at ok h;have H:=ok.size;have J:=(kL ok.su.ae).2.2;unfold ql at h;split at h
  ·cases h;have V:=A6 (aH (outs (gu (num t e0 0).1)));have W:=(aE (outs (gu (num t e0 0).1))).length_eq;have Z:=Df (u:=(num t e0 0).1) (by omega);have h4:(outs (gu (num t e0 0).1)).length=(gu (num t e0 0).1).length:=by unfold outs;simp
   omega
  ·cases h
 ·cases h
structure ue (B b r:Nat)(fs:Tx)(w:World)(all:List Tx)(n:Nat)(mm:Value->Option Value)(L:Nat->Prop):Prop where
 lb:B<=b
 lt:b< w.heap.size
 lr:B<=r
 br:b≠r
 f:∀j,w.frozen? ⟨b,j,none⟩=false
 c0:w.cell? ⟨b,0,none⟩=some (.string (ax fs))
 c2:w.cell? ⟨b,2,none⟩=some (.map (some r))
 mp:IsMap w r .string mm
 ml:∀g,L g->B<=g/\g< w.heap.size/\g≠b/\g≠r
 sl:∃v,w.cell? ⟨b,1,none⟩=some v/\Own B w v all/\∀g,v.ownBlock=some g->g≠b/\g≠r/\¬L g
 nx:∀j (h:j< all.length),j< n->∃v l,mm (.string (ax all[j]))=some v/\uz all[j]=some l/\Strs w v l/\∀g,v.ownBlock=some g->L g
section
variable {B b r n:Nat} {fs:Tx} {w w':World} {all:List Tx} {mm:Value->Option Value} {L:Nat->Prop}
theorem ue.ex (h:ue B b r fs w all n mm L)(x:Ex w w'):ue B b r fs w' all n mm L:=by
 obtain⟨v,H,J,V⟩:=h.sl;have s:=x.size;refine⟨h.lb,by have :=h.lt;omega,h.lr,h.br,λj=>by rw [N4 x h.lt];exact h.f j,by rw [x.cell (a:=⟨b,0,none⟩) h.lt];exact h.c0,by rw [x.cell (a:=⟨b,2,none⟩) h.lt];exact h.c2,iI h.mp (x.block r (iV h.mp)),λg G=>⟨(h.ml g G).1,by have :=(h.ml g G).2.1;omega,(h.ml g G).2.2⟩,⟨v,by rw [x.cell (a:=⟨b,1,none⟩) h.lt];exact H,J.ex x,V⟩,λj W Z=>?_⟩;obtain⟨v',l,h4,h5,h6,h7⟩:=h.nx j W Z;exact⟨v',l,h4,h5,h6.ex x,h7⟩
theorem Kp.BD (k:cX w w' r):Kp w w' λg=>g=r:=⟨k.os,k.tape,k.output,Nat.le_of_eq k.size.symm,λg _ G=>k.block g G⟩
theorem nA {v:Value}{g off m cap:Nat}(h:v= .slice (some ⟨g,off,none⟩) m cap):v.ownBlock=some g:=by rw [h];rfl
theorem ue.aI (h:ue B b r fs w all n mm L)(hB:B<=w.heap.size){w1:World}(x:Ex w w1)(hn:n< all.length){v:Value}{l:List Tx}(hl:uz all[n]=some l)(hm:IsMap w' r .string (ef mm (.string (ax all[n])) v))(k:cX w1 w' r)(hs:Strs w1 v l)(J:∀g,v.ownBlock=some g->w.heap.size<=g):
  ue B b r fs w' all (n+1) (ef mm (.string (ax all[n])) v) λg=>L g\/v.ownBlock=some g:=by
 have H:=h.ex x;have ζ:=h.lt;have hr:=iV h.mp;have kp:=Kp.BD k;have eb:=k.block b h.br;have α:∀g,v.ownBlock=some g->g< w1.heap.size:=λg G=>by
  rcases hs with⟨e,_⟩ | ⟨b',off,cap,e,h2,_⟩
  ·rw [e]at G;cases G
  ·rw [e]at G;cases G;exact h2
 obtain⟨vo,k1,k2,k3⟩:=H.sl;obtain⟨β,γ,δ,η⟩:=h.sl;have ε:vo=β:=by
  have :=x.cell (a:=⟨b,1,none⟩) h.lt;rw [k1,γ]at this;exact Ng this
 subst ε;refine⟨h.lb,by have :=k.size;have :=H.lt;omega,h.lr,h.br,λj=>by rw [MU (w:=w1) eb];exact H.f j,by rw [Mn (w:=w1) eb];exact H.c0,by rw [Mn (w:=w1) eb];exact H.c2,hm,λg G=>?_,⟨vo,by rw [Mn (w:=w1) eb];exact k1,k2.kp kp λg G=>(k3 g G).2.1,λg G=>⟨(k3 g G).1,(k3 g G).2.1,λe=>e.elim (k3 g G).2.2 λe=>?_⟩⟩,λj hj θ=>?_⟩
 ·rcases G with G | G
  ·have :=H.ml g G;exact⟨this.1,by have :=k.size;omega,this.2.2⟩
  ·have h2:=J g G;have h3:=α g G;exact⟨by omega,by have :=k.size;omega,by omega,by omega⟩
 ·have h2:=J g e;have h3:=δ.block g G;omega
 ·have V:∀{v':Value} {l':List Tx},Strs w1 v' l'->(∀g,v'.ownBlock=some g->g≠r)->Strs w' v' l':=λhs J=>hs.kp kp λb' off n' cap e W=>J b' (nA e) W
  by_cases e:all[j]=all[n]
  ·refine⟨v,l,by rw [e];unfold ef;simp,by rw [e];exact hl,V hs λg G=>by have :=J g G;omega,λg G=> .inr G⟩
  ·have Z:j< n:=by
    have:j≠n:=λW=>e (by subst W;rfl)
    omega
   obtain⟨v',l',h4,h5,h6,h7⟩:=H.nx j hj Z;refine⟨v',l',?_,h5,V h6 λg G=>(H.ml g (h7 g G)).2.2.2,λg G=> .inl (h7 g G)⟩;unfold ef;rw [MJ]
   ·exact h4
   ·intro W;exact e (oy (Value.string.inj W))
theorem ue.app (h:ue B b r fs w all n mm L)(hn:n<=all.length)(hB:B<=w.heap.size){v:Value}(hv:w.cell? ⟨b,1,none⟩=some v){s:Tx}{w1 w2:World}(x:Ex w w1){v':Value}(ho:Own B w2 v' (all++[s]))(H:w1.grownBy w2 v.ownBlock)(α:∀g,v'.ownBlock=some g->v.ownBlock=some g\/w1.heap.size<=g):
  ((∃u,w2.cell? ⟨b,1,none⟩=some u)/\w2.frozen? ⟨b,1,none⟩=false)/\∀w',w'=w2.setCell ⟨b,1,none⟩ v'->ue B b r fs w' (all++[s]) n mm L/\Below B w w':=by
 have G:=h.ex x;obtain⟨vo,k1,k2,k3⟩:=G.sl;have β:vo=v:=by
  have :=x.cell (a:=⟨b,1,none⟩) h.lt;rw [k1,hv]at this;exact Ng this
 subst β;have k:Kp w1 w2 λg=>vo.ownBlock=some g:=Kp.aQ H λ _ h=>h
 have s1:=x.size;have γ:=G.lt;have e2:=k.block b γ λe=>(k3 b e).1 rfl
 have c1:w2.cell? ⟨b,1,none⟩=some vo:=by rw [Mn (w:=w1) e2];exact k1
 have f2:∀j,w2.frozen? ⟨b,j,none⟩=false:=λj=>by rw [MU (w:=w1) e2];exact G.f j
 refine⟨⟨⟨_,c1⟩,f2 1⟩,λw' J=>?_⟩;have kr:Kr b w2 w':=J▸Kr.set w2 1 _;have sk:=k.size;have sr:=kr.size;have δ:=iV G.mp;have V:∀g,v'.ownBlock=some g->g≠b/\g≠r/\¬L g:=λg H=>(α g H).elim (k3 g) λe=>⟨by omega,by omega,λhL=>by have :=(G.ml g hL).2.1;omega⟩
 have ε:∀{g},g≠b->g< w1.heap.size->vo.ownBlock≠some g->w'.heap[g]?=w1.heap[g]?:=λ{g} h3 h4 h5=>(kr.block g (by omega) h3).trans (k.block g h4 h5)
 refine⟨⟨h.lb,by omega,h.lr,h.br,λj=>by rw [J,MG];exact f2 j,?_,?_,iI G.mp (ε h.br.symm δ λe=>(k3 r e).2.1 rfl),λg H=>⟨(G.ml g H).1,by have :=(G.ml g H).2.1;omega,(G.ml g H).2.2⟩,⟨v',by rw [J];exact MI _ _ _ c1,ho.kp kr λg H=>(V g H).1,V⟩,λj hj ζ=>?_⟩,?_⟩
 ·rw [J,Mr _ _ _ _ (by simp),Mn (w:=w1) e2];exact G.c0
 ·rw [J,Mr _ _ _ _ (by simp),Mn (w:=w1) e2];exact G.c2
 ·have W:j< all.length:=by omega
  rw [O' W];obtain⟨v2,l2,h4,h5,h6,h7⟩:=G.nx j W ζ;have kk:Kp w1 w' λg=>vo.ownBlock=some g\/g=b:=Kp.trans (Kp.mono (λ _ h=> .inl h) k) kr λ _ _ h=> .inr h
  exact⟨v2,l2,h4,h5,h6.kp kk λb' off n' cap e Z=>Z.elim (λZ=>(k3 b' Z).2.2 (h7 b' (nA e))) λZ=>(G.ml b' (h7 b' (nA e))).2.2.1 Z,h7⟩
 ·have b1:Below B w w1:=Pw x hB;have b2:Below B w1 w2:=Kp.below k (by omega) λg H e=>by have :=(k2.block g e).1;omega
  have b3:Below B w2 w':=Kp.below kr (by omega) λg H e=>by have :=h.lb;omega
  exact Ob (Ob b1 b2) b3
end
def La (w:World)(b r:Nat)(fs:Tx)(x:Int)(w':World):Prop:=
 ∃(i:Nat) (all:List Tx) (mm:Value->Option Value) (L:Nat->Prop),x=i/\i<=all.length/\all.length<=60/\(∀s∈all,St s)/\bfs (62 - i) all i=bfs 62 [fs] 0/\Ex w w'/\ue w.heap.size b r fs w' all i mm L
def LO (w:World)(b r:Nat)(fs:Tx)(all:List Tx)(n:Nat)(vl:Value)(l:List Tx)(mm:Value->Option Value)(x:Int)(w':World):Prop:=
 ∃(j:Nat) (L:Nat->Prop),x=j/\j<=l.length/\Ex w w'/\Strs w' vl l/\ue w.heap.size b r fs w' (cf all (l.take j)) n mm L
theorem ue.strs {B b r n:Nat}{fs:Tx}{w:World}{all l:List Tx}{mm:Value->Option Value}{L:Nat->Prop}(h:ue B b r fs w all n mm L){j:Nat}(V:j< all.length)(G:j< n){v:Value}(hm:mm (.string (ax all[j]))=some v)(W:uz all[j]=some l):Strs w v l:=by
 obtain⟨v',l',H,J,Z,_⟩:=h.nx j V G;rw [hm]at H;cases H;rw [W]at J;cases J;exact Z
theorem D0 {s:Tx}{w:World}{R:Value->Bool->PV}(hR1:cI s=none->∀w',Ex w w'->R (.pointer none) false w')
  (hR2:∀n0 all,cT s=some n0->cI s=some all->(∀x∈all,St x)->all.length<=60->∀b r mm L w',Ex w w'->ue w.heap.size b r n0 w' all all.length mm L->R (ptr b) true w'):
  PW 90 #[.string (ax s)] w (aw [.v,.b] R):=by
 refine qt s w R ?_;refine Ds (λhn w4 x4=>⟨λ _=>hR1 (by unfold cI;rw [hn];rfl) w4 x4,(λh=>by cases h)⟩) λt ok hst b2 w4 x4 hb2 st=>⟨(λh=>by cases h),λ _=>?_⟩
 have hg:cI s=bfs 62 [t.text] 0:=by unfold cI;rw [hst];rfl
 rw [hg]at hR1 hR2;have hb2l:=st.mc.lt;have ctx:∀w',Ex w4 w'->w'.cell? ⟨b2,0+1,none⟩=some (.string (ax t.text)):=λw' x=>by rw [x.cell (a:=⟨b2,0+1,none⟩) hb2l];exact st.tx
 refine⟨λw'=>Ex w4 w',λw6 hw6=>⟨hw6▸Ex.drew w4,b2,0,rfl,t.text,ctx,b2,0,rfl,t.text,ctx,?_,?_⟩⟩;have x6:Ex w4 w6:=hw6▸Ex.drew w4;intro bo Z ν H;have J:Ex w6 Z:=H▸Ex.alloc w6 _;have ξ:Z.heap.size=w6.heap.size+1:=by rw [H,size_alloc]
 refine⟨Ex.trans x6 J,?_⟩;intro r α hr V;have W:Ex Z α:=V▸Ex.alloc Z _;have ο:α.heap.size=Z.heap.size+1:=by rw [V,size_alloc]
 refine⟨Ex.trans x6 (Ex.trans J W),rfl,rfl,?_⟩;intro b β hb G;have ζ:Ex α β:=G▸Ex.alloc α _;have s18:β.heap.size=α.heap.size+1:=by rw [G,size_alloc]
 have γ:=Ex.trans J (Ex.trans W ζ);refine⟨Ex.trans x6 γ,?_⟩;have s4:=x4.size;have s6:=x6.size;have em:β.heap[r]?=some (.map #[] 0):=by rw [ζ.block r (by omega),V,hr];unfold World.alloc;simp
 have hI:ue w.heap.size b r t.text β [t.text] 0 (dj []) λ _=>False:=by
  refine⟨by omega,by omega,by omega,by omega,λj=>by rw [G,hb];exact aS _ _ _ _,by rw [G,hb];exact aa rfl,by rw [G,hb];exact aa rfl,⟨#[],0,em,⟨by simp,by simp,by simp⟩,by simp,λq=>rfl⟩,λg hg=>hg.elim,⟨.slice (some ⟨bo,0,none⟩) 1 1,by rw [G,hb];exact aa rfl,(Own.one (by omega) ν H).ex (Ex.trans W ζ),λg hg=>?_⟩,λj _ hj=>by omega⟩;have hg:bo=g:=Ng hg;exact⟨by omega,by omega,λh=>h⟩
 have ς:Ex w β:=Ex.trans x4 (Ex.trans x6 γ);clear em G V H s18 ο ξ hb hr ν J W ζ γ x6 s6;refine⟨La w b r t.text,λx _=>(61 - x).toNat,⟨0,[t.text],_,_,rfl,by simp,by simp,λs hs=>by cases MA.1 hs;exact⟨t,ok,rfl⟩,rfl,ς,hI⟩,λx w22 hO=>?_⟩;rotate_left
 have x6:Ex w4 w6:=hw6▸Ex.drew w4;intro r Z hr H;have J:Ex w6 Z:=H▸Ex.alloc w6 _;have ξ:Z.heap.size=w6.heap.size+1:=by rw [H,size_alloc]
 refine⟨Ex.trans x6 J,?_⟩;intro bo α ν V;have W:Ex Z α:=V▸Ex.alloc Z _;have ο:α.heap.size=Z.heap.size+1:=by rw [V,size_alloc]
 refine⟨Ex.trans x6 (Ex.trans J W),rfl,rfl,?_⟩;intro b β hb G;have ζ:Ex α β:=G▸Ex.alloc α _;have s18:β.heap.size=α.heap.size+1:=by rw [G,size_alloc]
 have γ:=Ex.trans J (Ex.trans W ζ);refine⟨Ex.trans x6 γ,?_⟩;have s4:=x4.size;have s6:=x6.size;have em:β.heap[r]?=some (.map #[] 0):=by rw [ζ.block r (by omega),W.block r (by omega),H,hr];unfold World.alloc;simp
 have hI:ue w.heap.size b r t.text β [t.text] 0 (dj []) λ _=>False:=by
  refine⟨by omega,by omega,by omega,by omega,λj=>by rw [G,hb];exact aS _ _ _ _,by rw [G,hb];exact aa rfl,by rw [G,hb];exact aa rfl,⟨#[],0,em,⟨by simp,by simp,by simp⟩,by simp,λq=>rfl⟩,λg hg=>hg.elim,⟨.slice (some ⟨bo,0,none⟩) 1 1,by rw [G,hb];exact aa rfl,(Own.one (by omega) ν V).ex ζ,λg hg=>?_⟩,λj _ hj=>by omega⟩;have hg:bo=g:=Ng hg;exact⟨by omega,by omega,λh=>h⟩
 have ς:Ex w β:=Ex.trans x4 (Ex.trans x6 γ);clear em G V H s18 ο ξ hb hr ν J W ζ γ x6 s6;refine⟨La w b r t.text,λx _=>(61 - x).toNat,⟨0,[t.text],_,_,rfl,by simp,by simp,λs hs=>by cases MA.1 hs;exact⟨t,ok,rfl⟩,rfl,ς,hI⟩,λx w22 hO=>?_⟩
 all_goals
  obtain⟨i,all,mm,L,rfl,hi,υ,φ,κ,x22,hO⟩:=hO;obtain⟨v,hv1,hv2,hv3⟩:=hO.sl;obtain⟨a,cap,hv⟩:=hv2.strs.slice;refine⟨v,hv1,a,_,cap,hv,λhlt=>?_,λhge=>?_⟩;rotate_left
  ·have δ:¬i< all.length:=by simp only [Mw]at hge;omega
   have e:=(Cl υ δ hi).symm.trans κ;have ei:i=all.length:=by omega
   subst ei;exact hR2 _ _ hst e.symm φ υ b r mm L w22 x22 hO
  have δ:=oL hlt;refine⟨v,hv1,hv2.strs.get (Ex.refl _) (Og i) (gE δ) (Q:=λn=>_) ?_⟩;obtain⟨t',Ay,et⟩:=φ _ (Mx δ);have hsz':=Ay.size;have hlen':=Ay.len;have hnq:=G6 Ay;have s22:=x22.size;rw [et]at hnq;rw [<-et];refine Bw Ay.al (by omega) (by omega) λb33 w34 χ hb33 st'=>FJ Ay st' (λg hg=>⟨hg.2.1,hg.2.2⟩) (λhn ι k37=>⟨λ _=>hR1 ((zF υ δ (hnq.trans hn)).symm.trans κ).symm ι ?_,(λh=>by cases h)⟩) λl hl v35 ι k37 hs35 hv35=>⟨(λh=>by cases h),λ _=>?_⟩
  ·exact Ex.trans x22 (Ex.below χ (Kp.below k37 χ.size λg hg e=>by omega))
  have μ:=hnq.trans hl;have s34:=χ.size;have η:Ex w22 ι:=Ex.below χ (Kp.below k37 χ.size λg hg e=>by omega);obtain⟨bv,ov,capv,hv',hbv,hcv⟩:=hv2.strs.at δ;refine⟨λw'=>Ex ι w',λw39 hw39=>⟨hw39▸Ex.drew ι,.map (some r),λw' x=>(hO.ex (Ex.trans η x)).c2,v,λw' x=>?_,bv,ov,_,capv,hv',by omega,by omega,all[i],λw' x=>?_,r,mm,rfl,?_⟩⟩
  ·rw [(Ex.trans η x).cell (a:=⟨b,1,none⟩) hO.lt];exact hv1
  ·rw [(Ex.trans η x).cell (a:=⟨bv,_,none⟩) hbv,Mv,MW];exact hcv
  have x39:Ex ι w39:=hw39▸Ex.drew ι;have θ:=Ex.trans η x39;refine⟨(hO.ex θ).mp,λw49 hm49 k49=>?_⟩;have hU:=hO.aI s22 θ δ μ hm49 k49 (hs35.ex x39) λg hg=>by have :=hv35 g hg;omega
  have x49:Ex w w49:=Ex.below (Ex.trans x22 θ) (Kp.below (Kp.BD k49) (by have :=θ.size;omega) λg hg e=>by have :=hO.lr;omega);generalize hmm':ef mm (.string (ax all[i])) v35=mm' at*;have hkey:mm' (.string (ax all[i]))=some v35:=by rw [<-hmm'];unfold ef;simp
  have ψ:∀{w':World} {cur:List Tx} {L':Nat->Prop},all<+:cur->ue w.heap.size b r t.text w' cur (i+1) mm' L'->Strs w' v35 l:=λ{w' cur L'} hp h=>by
   have e:∃h:i< cur.length,cur[i]=all[i]:=⟨MP δ hp.length_le,(hp.getElem δ).symm⟩
   obtain⟨h1,h2⟩:=e;exact h.strs h1 (by omega) (by rw [h2];exact hkey) (by rw [h2];exact μ)
  have hll:=Cn μ;obtain⟨av,capl,hvl⟩:=hs35.slice;refine⟨av,_,capl,hvl,LO w b r t.text all (i+1) v35 l mm',λx _=>(l.length - x).toNat,⟨0,_,rfl,Nl _,x49,ψ (List.prefix_refl _) hU,hU⟩,λx w56 hI=>?_⟩;obtain⟨j,L1,rfl,hj,ω,hs56,hI⟩:=hI;obtain⟨v62,c62,o62,n62⟩:=hI.sl;have hcl:=tP (l.take j) all;rw [M5]at hcl;have hpre:all<+:cf all (l.take j):=rL;have hple:=hpre.length_le;refine⟨λhlt2=>?_,λhge2=>?_⟩;rotate_left
  ·have hjl:=oE hge2 (by omega);subst hjl;rw [MR]at hI hple hpre o62;obtain⟨a78,cap78,hv78⟩:=o62.strs.slice;refine⟨v62,c62,a78,_,cap78,hv78,λε=>?_,λε=>?_⟩
   ·have ε:60< (cf all l).length:=by simp only [Mz]at ε;omega
    exact hR1 ((Cd υ δ μ ε).symm.trans κ).symm w56 ω
   ·have ε:¬60< (cf all l).length:=by simp only [Mw]at ε;omega
    refine⟨by omega,⟨i+1,cf all l,mm',L1,by omega,by omega,by omega,λs hs=>?_,(yN υ δ μ ε).symm.trans κ,ω,hI⟩,by show(61 - ((i:Int)+1)).toNat< (61 - (i:Int)).toNat;omega⟩;exact(tr.1 hs).elim (φ s) (FF w μ s)
  have hjl:=oL hlt2;have hmeas:=@tN l.length j (by omega);refine hs56.get (Ex.refl _) (Og j) (gE hjl) (Q:=λn=>_) ⟨v62,c62,HC o62.strs (by omega) ⟨λhq=>⟨v62,c62,λb66 w67 hb66 hw67=>?_⟩,λhq=>?_⟩⟩
  ·have hq:l[j]∉cf all (l.take j):=by simpa using hq
   have x67:Ex w56 w67:=hw67▸Ex.alloc w56 _;have s56:=ω.size;have s67:=x67.size;refine Own.push (o62.ex x67) (by omega) (Strs.one hb66 hw67) (by simp only [Mm,MB];omega) λv73 w74 _ ho hg hn=>?_
   obtain⟨f1,f2⟩:=hI.app (by omega) s56 c62 x67 ho hg hn;refine⟨ho.jU,f1,λw76 hw76=>?_⟩;obtain⟨h76,b76⟩:=f2 w76 hw76;have e:cf all (l.take (j+1))=cf all (l.take j)++[l[j]]:=by rw [lK hjl];unfold nk;rw [MJ hq]
   refine⟨by omega,⟨j+1,L1,by omega,by omega,Ex.below ω b76,ψ (hpre.trans (List.prefix_append _ _)) h76,by rw [e];exact h76⟩,hmeas⟩
  ·have hq:l[j]∈cf all (l.take j):=by simpa using hq
   have e:cf all (l.take (j+1))=cf all (l.take j):=by rw [lK hjl];unfold nk;rw [MZ hq]
   exact⟨by omega,⟨j+1,L1,by omega,by omega,ω,hs56,by rw [e];exact hI⟩,hmeas⟩
structure L8 (all:List Tx)(n:Nat):Prop where
 nd:all.Nodup
 cl:∀(j:Nat) (h:j< all.length),j< n->∃l,uz all[j]=some l/\∀s∈l,s∈all
theorem L8.nx {all:List Tx}(c:L8 all all.length){s:Tx}(h:s∈all):∃l,uz s=some l/\∀x∈l,x∈all:=by
 obtain⟨j,G,rfl⟩:=Np.1 h;exact c.cl j G G
noncomputable def tW (s:Tx):List Tx:=(uz s).getD []
theorem EA {s:Tx}{l:List Tx}(h:uz s=some l):tW s=l:=by unfold tW;rw [h];rfl
def L4 (f:Tx->Bool)(s:Tx):Prop:=f s=true/\tW s≠[]/\∀m∈tW s,f m=false
def put (f:Tx->Bool)(s:Tx)(b:Bool):Tx->Bool:=λx=>if x=s then b else f x
noncomputable def xe (f:Tx->Bool)(s:Tx):Tx->Bool:=if L4 f s then put f s false else f
noncomputable def L6 (l:List Tx)(f:Tx->Bool):Tx->Bool:=l.foldl xe f
noncomputable def Lg (l:List Tx)(f:Tx->Bool):Nat->Tx->Bool
 | 0=>f
 | k+1=>L6 l (Lg l f k)
noncomputable def Db (l:List Tx):Tx->Bool:=if h:∃k,L6 l (Lg l (λs=> !decide (KD s)) k)=Lg l (λs=> !decide (KD s)) k then Lg l (λs=> !decide (KD s)) h.choose else λ _=>false
def cnt (l:List Tx)(f:Tx->Bool):Nat:=l.countP f
theorem H0 {f:Tx->Bool}{s:Tx}:∀{l:List Tx},s∈l->f s=true->cnt l (put f s false)< cnt l f:=by
 intro l H J;have hle:∀l:List Tx,cnt l (put f s false)<=cnt l f:=λl=>List.countP_mono_left λx _ G=>by
  unfold put at G;split at G
  ·cases G
  ·exact G
 induction l with
 | nil=>cases H
 | cons x l V=>
  unfold cnt at*;by_cases e:x=s
  ·subst e;rw [List.countP_cons_of_neg (by simp [put]),List.countP_cons_of_pos J];exact Nat.lt_succ_of_le (hle l)
  ·have H:=(MH.1 H).resolve_left λh=>e h.symm
   have :=V H;have ex:put f s false x=f x:=MJ e;by_cases G:f x=true
   ·rw [List.countP_cons_of_pos (by rw [ex];exact G),List.countP_cons_of_pos G];omega
   ·rw [List.countP_cons_of_neg (by rw [ex];exact G),List.countP_cons_of_neg G];omega
def Ls (all:List Tx)(f0:Tx->Bool)(again:Bool)(f:Tx->Bool):Prop:=(again=false/\f=f0)\/(again=true/\cnt all f< cnt all f0)
theorem Ls.xe {all:List Tx}{f0 f:Tx->Bool}{again:Bool}(h:Ls all f0 again f){s:Tx}(H:s∈all)(G:L4 f s):Ls all f0 true (xe f s):=by
 unfold Proofs.YtdecokaadekjnaaGreat.xe;rw [MZ G];have :=H0 H G.1;rcases h with⟨_,h⟩ | ⟨_,h⟩
 ·exact .inr ⟨rfl,by rw [<-h];exact this⟩
 ·exact .inr ⟨rfl,by omega⟩
end Go.Proofs.YtdecokaadekjnaaGreat
namespace Go.Proofs.YtdecokaadekjnaaGreat
open Go
attribute [go_sem] Tryz.f15
attribute [go_sem] Tryz.f94
attribute [go_sem] Tryz.f50
attribute [go_sem] Tryz.f16
attribute [go_sem] Tryz.f4
end Go.Proofs.YtdecokaadekjnaaGreat
namespace Go.Proofs.YtdecokaadekjnaaGreat
open Go Go.RowKit T Classical
theorem JC {f:Nat}{ca:List Value}{w:World}{v:Value}{l:List Tx}(h:Strs w v l)(hl:l.length<=1099511627776)(hf:hasR fV f=true)(J:Tx->Prop)
  (hp:∀s∈l,∀(w':World) (Q:Bool->PV),Ex w w'->(∀w2,Ex w' w2->Q (decide (J s)) w2)->PW f (List.toArray ([.string (ax s)]++ca)) w' (aw [.b] Q))
  {R:Int->PV} (hR:∀w',Ex w w'->(∀(j:Nat) (h:j< l.length),J l[j]->(∀s∈l.take j,¬J s)->R j w')/\((∀s∈l,¬J s)->R (-1) w')):
  PW 61 #[v,.func (Fn.func f) #[] ca.toArray] w (aw [.i] R):=by
 refine gw v _ w _ ?_;dsimp only [go_sem];dsimp only [go_sem,UInt8.reduceOfNat,UInt32.reduceOfNat,Nat.reduceAdd];obtain⟨ao,cap,hv⟩:=h.slice;refine⟨ao,_,cap,hv,λi w'=>∃j:Nat,i=j/\j<=l.length/\Ex w w'/\∀s∈l.take j,¬J s,λi _=>(l.length - i).toNat,⟨0,rfl,Nl _,Ex.refl w,by simp⟩,λi w' hI=>?_⟩;obtain⟨j,rfl,hj,x,hm⟩:=hI;refine⟨λW=>?_,λZ=>?_⟩
 ·have G:=oL W;refine h.get x (Og j) (gE G) (Q:=λn=>_) ⟨f,ca,rfl,hf,?_⟩;refine hp _ (Mx G) _ _ x λw2 x2=>⟨λhe=>?_,λH=>?_⟩
  ·exact(hR w2 (Ex.trans x x2)).1 j G (by simpa using he) hm
  ·have H:¬J l[j]:=by simpa using H
   refine⟨by omega,⟨j+1,by omega,by omega,Ex.trans x x2,λs V=>?_⟩,tN (by omega)⟩;rw [Mq G,My,MA]at V;exact V.elim (hm s) λe=>e▸H
 ·have:j=l.length:=by simp only [Mw]at Z;omega
  rw [this,MR]at hm;exact(hR w' x).2 hm
noncomputable def JJ (w:World)(r:Nat):Value->Option Value:=match w.heap[r]? with
 | some (.map es _)=>dj es.toList
 | _=>λ _=>none
theorem xV {w:World}{r:Nat}{d:TypeDesc}{m:Value->Option Value}(h:IsMap w r d m):JJ w r=m:=by
 obtain⟨es,clock,G,_,_,H⟩:=h;unfold JJ;rw [G];exact funext λq=>(H q).symm
structure I9 (w:World)(r c:Nat)(P:Tx->Prop)(f:Tx->Bool)(w':World):Prop where
 ex:Ex w w'
 lr:w.heap.size<=r
 lc:w.heap.size<=c
 ne:c≠r
 lt:c< w'.heap.size
 c0:w'.cell? ⟨c,0,none⟩=some (.map (some r))
 mp:∃m,IsMap w' r .string m/\∀s,P s->m (.string (ax s))=some (.bool (f s))
section
variable {w w1 w2:World} {r c:Nat} {P:Tx->Prop} {f:Tx->Bool}
theorem I9.aI (h:I9 w r c P f w1){m:Value->Option Value}(hm:IsMap w1 r .string m){s:Tx}{b:Bool}(G:IsMap w2 r .string (ef m (.string (ax s)) (.bool b)))(k:cX w1 w2 r):I9 w r c (λx=>P x\/x=s) (put f s b) w2:=by
 obtain⟨m',H,J⟩:=h.mp;have e:m'=m:=(xV H).symm.trans (xV hm);subst e;have kp:=Kp.BD k;have s1:=h.ex.size;have W:=h.lt;have Z:=k.size;have l3:=h.lr;refine⟨Ex.below h.ex (Kp.below kp s1 λg hg e=>by omega),h.lr,h.lc,h.ne,by omega,by rw [Mn (w:=w1) (k.block c h.ne)];exact h.c0,_,G,λx V=>?_⟩;unfold ef put;by_cases e:x=s
 ·rw [MZ e,MZ (by rw [e])]
 ·rw [MJ e,MJ λh=>e (oy (Value.string.inj h))];exact J x (V.resolve_right e)
theorem I9.cnt {all:List Tx}(h:I9 w r c (λs=>s∈all) f w1):Proofs.YtdecokaadekjnaaGreat.cnt all (λs=>decide (JJ w1 r (.string (ax s))=some (.bool true)))=Proofs.YtdecokaadekjnaaGreat.cnt all f:=by
 obtain⟨m,G,H⟩:=h.mp;rw [xV G];unfold Proofs.YtdecokaadekjnaaGreat.cnt;refine List.countP_congr λs J=>?_
 rw [H s J];simp
end
end Go.Proofs.YtdecokaadekjnaaGreat
namespace Go.Proofs.YtdecokaadekjnaaGreat
open Go
attribute [go_sem] Tryz.f71
theorem ja (s1:Value)(w:World)(R:Value->PV)(h:vc ay (a6 [] [] []) (ab Tryz.f71) (ai 0 [.v s1]) w (fin ay [.tmp 2 .v] R)):
  PW 71 #[s1] w (aw [.v] R):=
 bc Tryz.func71 (by kernel_rfl) h
attribute [go_sem] Tryz.f114
theorem ij (s1:Value)(w:World)(R:Value->PV)(h:vc ay (a6 [] [] []) (ab Tryz.f114) (ai 0 [.v s1]) w (fin ay [.tmp 2 .v] R)):
  PW 114 #[s1] w (aw [.v] R):=
 bc Tryz.func114 (by kernel_rfl) h
attribute [go_sem] Tryz.f70
theorem iB (s1:Value)(w:World)(R:Value->PV)(h:vc ay (a6 [] [] []) (ab Tryz.f70) (ai 0 [.v s1]) w (fin ay [.tmp 2 .v] R)):
  PW 70 #[s1] w (aw [.v] R):=
 bc Tryz.func70 (by kernel_rfl) h
attribute [go_sem] Tryz.f146
theorem fT (s1:Value)(d2:Value)(w:World)(R:Value->PV)(h:vc ay (a6 [(5,[(5,.i),(6,.i)])] [] []) (ab Tryz.f146) (ai 0 [.v s1,.v d2]) w (fin ay [.tmp 4 .v] R)):
  PW 146 #[s1,d2] w (aw [.v] R):=
 bc Tryz.func146 (by kernel_rfl) h
attribute [go_sem] Tryz.f147
theorem oO (G:Value)(w:World)(R:Value->PV)(h:vc ay (a6 [] [] []) (ab Tryz.f147) (ai 0 [.v G]) w (fin ay [.tmp 2 .v] R)):
  PW 147 #[G] w (aw [.v] R):=
 bc Tryz.func147 (by kernel_rfl) h
attribute [go_sem] Tryz.f148
theorem jT (n1:aF)(c2:Value)(w:World)(R:Bool->PV)(h:vc ay (a6 [] [] []) (ab Tryz.f148) (ai 0 [.s n1,.v c2]) w (fin ay [.tmp 3 .b] R)):
  PW 148 #[(.string (ax n1)),c2] w (aw [.b] R):=
 bc Tryz.func148 (by kernel_rfl) h
attribute [go_sem] Tryz.f98
theorem mw (G:Value)(w:World)(R:Value->PV)(h:vc ay (a6 [] [] []) (ab Tryz.f98) (ai 0 [.v G]) w (fin ay [.tmp 2 .v] R)):
  PW 98 #[G] w (aw [.v] R):=
 bc Tryz.func98 (by kernel_rfl) h
attribute [go_sem] Tryz.f52
theorem pq (G:aF)(w:World)(R:Value->Bool->PV)(h:vc ay (a6 [(6,[(21,.i)])] [] []) (ab Tryz.f52) (ai 0 [.s G]) w (fin ay [.tmp 2 .v,.tmp 3 .b] R)):
  PW 52 #[(.string (ax G))] w (aw [.v,.b] R):=
 bc Tryz.func52 (by kernel_rfl) h
attribute [go_sem] Tryz.f18
theorem ng (G:aF)(w:World)(R:Value->Bool->PV)(h:vc ay (a6 [] [] []) (ab Tryz.f18) (ai 0 [.s G]) w (fin ay [.tmp 2 .v,.tmp 3 .b] R)):
  PW 18 #[(.string (ax G))] w (aw [.v,.b] R):=
 bc Tryz.func18 (by kernel_rfl) h
attribute [go_sem] Tryz.f142
theorem qu (g1:Value)(w:World)(R:Value->PV)(h:vc ay (a6 [(3,[(3,.v),(9,.i)])] [] []) (ab Tryz.f142) (ai 0 [.v g1]) w (fin ay [.tmp 2 .v] R)):
  PW 142 #[g1] w (aw [.v] R):=
 bc Tryz.func142 (by kernel_rfl) h
attribute [go_sem] Tryz.f95
theorem nY (G:aF)(w:World)(R:Value->Bool->PV)(h:vc ay (a6 [] [] []) (ab Tryz.f95) (ai 0 [.s G]) w (fin ay [.tmp 2 .v,.tmp 3 .b] R)):
  PW 95 #[(.string (ax G))] w (aw [.v,.b] R):=
 bc Tryz.func95 (by kernel_rfl) h
attribute [go_sem] Tryz.f51
theorem mS (G:aF)(w:World)(R:Value->Bool->PV)(h:vc ay (a6 [(6,[(6,.v),(20,.i)])] [] []) (ab Tryz.f51) (ai 0 [.s G]) w (fin ay [.tmp 2 .v,.tmp 3 .b] R)):
  PW 51 #[(.string (ax G))] w (aw [.v,.b] R):=
 bc Tryz.func51 (by kernel_rfl) h
attribute [go_sem] Tryz.f17
theorem ni (G:aF)(w:World)(R:Value->Bool->PV)(h:vc ay (a6 [] [] []) (ab Tryz.f17) (ai 0 [.s G]) w (fin ay [.tmp 2 .v,.tmp 3 .b] R)):
  PW 17 #[(.string (ax G))] w (aw [.v,.b] R):=
 bc Tryz.func17 (by kernel_rfl) h
attribute [go_sem] Tryz.f5
theorem gJ (G:aF)(w:World)(R:Bool->PV)(h:vc ay (a6 [] [] []) (ab Tryz.f5) (ai 0 [.s G]) w (fin ay [.tmp 2 .b] R)):
  PW 5 #[(.string (ax G))] w (aw [.b] R):=
 bc Tryz.func5 (by kernel_rfl) h
end Go.Proofs.YtdecokaadekjnaaGreat
namespace Go.Proofs.YtdecokaadekjnaaGreat
open Go Go.RowKit T
section
attribute [local go_sem] Oper.semAt_some
def Iv (n₀:Nat)(w:World)(v:Value)(zs:List Tx):Prop:=(v= .slice none 0 0/\zs=[])\/∃b off cap,v= .slice (some ⟨b,off,none⟩) zs.length cap/\b< n₀/\∀j (h:j< zs.length),w.cell? ⟨b,off+j,none⟩=some (.string (ax zs[j]))
theorem Iv.below {n₀:Nat}{a b:World}(h:Below n₀ a b){v:Value}{zs:List Tx}:Iv n₀ a v zs->Iv n₀ b v zs
 | .inl e=> .inl e
 | .inr ⟨c,off,cap,e,hb,G⟩=> .inr ⟨c,off,cap,e,hb,λj H=>(h.cell (p:=⟨c,off+j,none⟩) hb).trans (G j H)⟩
theorem Gy {n l Bs n₀:Nat}(hn:1<=n){v:Value}{zs:List Tx}(hz:zs.length<=1099511627776){J Jx:List Tx->PV}
  (hY:∀pre x W,J pre W->pre.length< zs.length->YieldAt Fence.wide (n - 1) Tryz.prog l #[.string (ax x)] W λe V=>
   (e= .returned (.bool true)/\J (pre++[x]) V/\Below n₀ W V)\/(e= .returned (.bool false)/\Jx (pre++[x]) V))
  {W:World} (β:W.cell? ⟨Bs,0,none⟩=some v) (hc:Iv n₀ W v zs) (h0:J [] W):
  CallsIn Fence.wide n Tryz.prog 116 #[.func (.yield l) #[] #[],.pointer (some ⟨Bs,0,none⟩)] W λe V=>(∃v,e= .returned v)/\((∃ys,ys=zs/\J ys V)\/(∃pre,pre<+:zs/\Jx pre V)):=by
 refine callsIn_of_wp Tryz.func116 rfl trivial ?_ rfl;simp only [Tryz.ntmps116,List.size_toArray,Mm,MB,Nat.reduceAdd,Nat.reduceSub,Array.replicate_succ,Array.replicate_zero,List.push_toArray,List.append_toArray,Nk,Ns];rcases hc with⟨rfl,rfl⟩ | ⟨b,off,cap,rfl,hb,hc⟩
 ·gi_wp2
  gi_loopw [7] (λi wr=>i= .int .i64 0/\J [] wr) (λ _ _=>0)
  case atStart=>exact⟨rfl,h0⟩
  case round=>
   obtain⟨rfl,Z⟩:=hrel
   gi_wp2
   go_end0
   exact⟨⟨_,rfl⟩,.inl ⟨_,rfl,Z⟩⟩
 ·gi_wp2
  gi_loopw [7] (λi wr=>∃k:Nat,k<=zs.length/\i= .int .i64 k/\J (zs.take k) wr/\Below n₀ W wr) (λi _=>zs.length - (intOf i).toNat)
  case atStart=>exact⟨0,Nl _,rfl,h0,Pg _ _⟩
  case round=>
   obtain⟨k,hk,rfl,Z,hx⟩:=hrel;by_cases G:k< zs.length
   ·have γ:wr.cell? ⟨b,off+k,none⟩=some (.string (ax zs[k])):=(hx.cell (p:=⟨b,off+k,none⟩) hb).trans (hc k G);obtain⟨fn,tmps,assign,body,hy,hR⟩:=hY _ zs[k] wr Z (by rw [M5];omega)
    gi_wp2
    refine hR.mono ?_
    rintro e W3 (⟨rfl,H,α⟩ | ⟨rfl,H⟩)
    ·gi_wp2
     go_roundw
     case rel=>exact⟨k+1,by omega,by simp,by rw [Mq G];exact H,hx.trans α⟩
     case measure=>simp [intOf];omega
    ·gi_wp2
     refine bodyPost_ret (results_none rfl _ _ _) rfl ?_;refine⟨⟨_,rfl⟩,.inr ⟨_,?_,H⟩⟩;rw [<-Mq G];exact List.take_prefix _ _
   ·obtain rfl:k=zs.length:=by omega
    rw [MR]at Z
    gi_wp2
    go_end0
    exact⟨⟨_,rfl⟩,.inl ⟨_,rfl,Z⟩⟩
theorem AD {n H n₀:Nat}(hn:1<=n){v:Value}{zs:List Tx}(hz:zs.length<=1099511627776){w:World}(V:H< w.heap.size)(G:n₀<=w.heap.size)(hv:w.cell? ⟨H,0,none⟩=some v)(hc:Iv n₀ w v zs):
  SeqStopsK Fence.wide n Tryz.prog 116 #[.pointer (some ⟨H,0,none⟩)] (λx:Tx=>#[Value.string (ax x)]) (Below n₀) (λys=>ys=zs) (λpre=>pre<+:zs) zs.length w:=λl J Jx W Z _ _ hY h0=>
 Gy hn hz hY ((Z.cell (p:=⟨H,0,none⟩) V).trans hv) (hc.below (Z.mono G)) h0
theorem KM:(Tryz.prog.info? 9).map (λi=>(i.zero,i.size,i.bytes))=some (some (.string ⟨#[]⟩),1,16):=by kernel_rfl
theorem HS {J:Nat}{v:Value}{zs:List Tx}(hz:zs.length<=1099511627776){w:World}(δ:J< w.heap.size)(hv:w.cell? ⟨J,0,none⟩=some v)(hc:Iv w.heap.size w v zs){R:Value->PV}(hR:∀v' w',Ex w w'->Own w.heap.size w' v' zs->(zs=[]->v'= .slice none 0 0)->R v' w'):
  PW 162 #[.slice none 0 0,.func (.func 116) #[] #[.pointer (some ⟨J,0,none⟩)]] w (aw [.v] R):=by
 refine(callsIn_wide (n:=3)).1 ?_;have ν:zs.length<=maxLen:=by unfold maxLen;omega
 obtain⟨i0,hi,ε,ζ,η⟩:=info_parts KM;refine callsIn_of_wp_marks Tryz.func162 rfl trivial ?_ rfl;simp only [Tryz.ntmps162,List.size_toArray,Mm,MB,Nat.reduceAdd,Nat.reduceSub,Array.replicate_succ,Array.replicate_zero,List.push_toArray,List.append_toArray,Nk,Ns]
 gi_wp2
 have bO:=Boxed.new w 25 (.slice none 0 0);have V:Below w.heap.size w (w.alloc (.cells #[.slice none 0 0] 25)):=(Pg _ w).alloc (Mu _) _;refine wpIn_rangeFunc_ownG rfl (by omega) (gf:=116) (lb:=#[.pointer (some ⟨J,0,none⟩)]) rfl trivial (enters_of Tryz.func116 (by kernel_rfl) rfl)
  (AD (n:=2) (by omega) hz (n₀:=w.heap.size) (by simp;omega) (by simp) ((V.cell (p:=⟨J,0,none⟩) δ).trans hv) (hc.below V)) belowK_t (belowK_b (by simp)) (Pg _ _) (λ _=>rfl)
  (λpre W=>(∃v,Boxed W w.heap.size 25 v/\W.ownsRow w.heap.size 9 1 v pre.length (pre.map λx=> .string (ax x))/\(pre=[]->v= .slice none 0 0))/\Below w.heap.size w W)
  (λ _ _ _=>False)
  (OwnFrom.and (Own.from (holdsRow_own w.heap.size w.heap.size 25 9 1 (λpre:List Tx=>pre.length) (λpre:List Tx=>pre.map λx:Tx=>Value.string (ax x)) (λpre v=>pre=[]->v= .slice none 0 0)) _) (ownFrom_below (Mu _) (by simp)))
  (λ _ _ _ _ _ hs _ _=>hs)
  ⟨⟨_,bO,Pt _ _ _ _,λ _=>rfl⟩,V⟩
  (λx=>{tmps:=#[.slice none 0 0,.func (.func 116) #[] #[.pointer (some ⟨J,0,none⟩)],.pointer (some ⟨w.heap.size,0,none⟩),undef,.slice none 0 0,.string (ax x),.func (.func 116) #[] #[.pointer (some ⟨J,0,none⟩)],.string (ax x),undef,undef,undef,undef,undef],defers:=[]}) ?assign ?body ?done ?stop
 case assign=>
  intro l x W K hK
  gi_wp2
  exact hK
 case body=>
  rintro l pre x W ⟨⟨v,hv,G,_⟩,hB⟩ ξ
  have hc:=hv.cell
  gi_wp2_with (gi_at_builtin;refine wpListIn_append_own _ rfl _ _ 25 rfl w.heap.size 9 i0 (.string ⟨#[]⟩) 1 16 Tryz.underlying25 hi ε ζ η rfl (by decide) _ _ _ rfl (G.alloc _) ⟨W.heap.size,0,none⟩ 1 1 [.string (ax x)] rfl rfl (cell_one_new _ _ _) (by simp [Value.oneCell']) (by omega) (by omega) (by have :=hB.size;simp;omega) ?_;intro v' w1 H Z _;obtain⟨g',μ,rfl⟩:=ownsRow_succ H;obtain⟨α,θ,ι,κ,β⟩:=hv.appended (by decide) G hB.size (Mu _) H Z;have ο:=α.cell;have ς:=α.frozen)
  exact⟨κ.from _,β,⟨_,θ,by simpa using ι,λh=>by simp at h⟩,hB.trans β⟩
 case done=>
  rintro D ys W hD rfl ⟨⟨v,hv,G,γ⟩,hB⟩ hK
  have hc:=hv.cell
  gi_wp2
  refine⟨by simp,.inl ⟨_,_,rfl,run_takeDeferred hK,?_⟩⟩;exact⟨_,results_tmp rfl _ _ _,v,rfl,hR _ _ (hB.trans (belowK_b (w:=w) (Mu _) W D _ _ (by simp at hD;omega) hK rfl rfl)) (ownsRow_putObj G _ hK rfl) γ⟩
 case stop=>
  rintro D c pre W _ _ h _
  exact h.elim
end
theorem Iv.strs {w:World}{v:Value}{l:List Tx}(h:Strs w v l):Iv w.heap.size w v l:=by
 rcases h with h | ⟨b,off,cap,rfl,hb,G⟩
 ·exact .inl h
 ·exact .inr ⟨b,off,cap,rfl,hb,λj H=>G j _ (Mo H)⟩
theorem FE {w:World}{v:Value}{l:List Tx}(h:Strs w v l)(V:l.length<=1099511627776){R:Value->PV}(hR:∀v' w',Ex w w'->Own w.heap.size w' v' (aH l)->R v' w'):
  PW 71 #[v] w (aw [.v] λf w1=>PW 70 #[f] w1 (aw [.v] R)):=by
 refine ja v w _ ?_;dsimp only [go_sem];dsimp only [go_sem,UInt8.reduceOfNat,UInt32.reduceOfNat,Nat.reduceAdd];refine⟨by obtain⟨a,c,rfl⟩:=h.slice;rfl,λb w1 hb G=>?_⟩;have H:Ex w w1:=G▸Ex.alloc w _;have s1:w1.heap.size=w.heap.size+1:=by rw [G,size_alloc]
 refine iB _ w1 R ?_;dsimp only [go_sem];dsimp only [go_sem,UInt8.reduceOfNat,UInt32.reduceOfNat,Nat.reduceAdd];refine ij _ w1 _ ?_;dsimp only [go_sem];dsimp only [go_sem,UInt8.reduceOfNat,UInt32.reduceOfNat,Nat.reduceAdd];refine HS V (by omega) (by rw [G,hb];exact aa rfl) (Iv.strs (h.ex H)) λv2 w2 J W Z=>?_
 have s2:=J.size;by_cases e:l=[]
 ·rw [Z e];subst e;exact CO (hR _ _ (Ex.trans H J) (by rw [show aH []=[] by simp [aH]];exact Own.nil _ _))
 ·exact sort_k W e V λw3 k3 o3=>hR _ _ (Ex.below (Ex.trans H J) (Kp.below k3 (by omega) λg hg e=>by have :=(W.block g e).1;omega)) (o3.mono (by omega))
theorem LA {p:Prop}{d e:Decidable p}:@decide p d=@decide p e:=by cases Subsingleton.elim d e;rfl
theorem Kc {B:Nat}{w:World}{v:Value}{l:List Tx}(h:Own B w v l)(hl:l.length<=1099511627776){f:Nat}{ca:List Value}(hf:hasR fV f=true)(q:Tx->Prop)[DecidablePred q]
  (hp:∀s∈l,∀(w':World) (Q:Bool->PV),Kp w w' (λg=>v.ownBlock=some g)->(∀w2,Ex w' w2->Q (decide (q s)) w2)->PW f (List.toArray ([.string (ax s)]++ca)) w' (aw [.b] Q))
  {R:Value->PV} (hR:∀v' w',Kp w w' (λg=>v.ownBlock=some g)->Own B w' v' (l.filter λs=> !decide (q s))->R v' w'):
  PW 146 #[v,.func (Fn.func f) #[] ca.toArray] w (aw [.v] R):=by
 refine fT v _ w R ?_;dsimp only [go_sem];dsimp only [go_sem,UInt8.reduceOfNat,UInt32.reduceOfNat,Nat.reduceAdd];refine JC h.strs hl hf q (λs Z w' Q x hQ=>hp s Z w' Q (Kp.ah x _) λw2 x2=>by have :=hQ w2 x2;rw [@LA _ (Classical.propDecidable _) _]at this;exact this) λw1 x1=>⟨λi0 ε hq hb=>⟨λhc=>absurd (MN hc) (by omega),λ _=>?_⟩,λhn=>⟨λ _=>hR _ _ (Kp.ah x1 _) ?_,λhc=>by simp at hc⟩⟩
 rotate_left
 ·rw [OP.2 λs Z=>by simp [hn s Z]];exact h.ex x1
 rcases id h.2 with⟨_,h0⟩ | ⟨g,cap,cur,hv,_⟩
 ·omega
 obtain rfl:=hv;have kx:∀{w1:World},Ex w w1->Kp w w1 (λb=>(Value.slice (some ⟨g,0,none⟩) l.length cap).ownBlock=some b):=λx=>Kp.ah x _
 refine⟨by omega,λi j w'=>∃(i' V:Nat) (C:List Tx),i=i'/\j=V/\i'< V/\V<=l.length/\C.length=l.length/\Own B w' (.slice (some ⟨g,0,none⟩) l.length cap) C/\C.take i'=(l.take V).filter (λs=> !decide (q s))/\C.drop V=l.drop V/\Kp w w' (λb=>(Value.slice (some ⟨g,0,none⟩) l.length cap).ownBlock=some b),
  λ _ j _=>(l.length - j).toNat,⟨i0,i0+1,l,rfl,by omega,by omega,by omega,rfl,h.ex x1,?_,rfl,kx x1⟩,λi j w2 hI=>?_⟩
 ·rw [Mq ε,NK,OP.2 λs Z=>by simp [hb s Z]];simp [hq]
 obtain⟨i,j,C,rfl,rfl,ξ,hj,hC,W,ht,hd,k2⟩:=hI;refine⟨_,_,cap,rfl,λζ=>?_,λη=>?_⟩
 ·have G:=oL ζ;have e1:C[j]'(by omega)=l[j]:=by
   have :=Nz (fun(x:List Tx)=>x[0]?) hd;simp only [PJ,OQ]at this;rw [Mo (by omega),Mo G]at this;exact Ng this
  have α:C.drop (j+1)=l.drop (j+1):=by
   have :=Nz (fun(x:List Tx)=>x.drop 1) hd;simpa only [Pe]using this
  refine⟨g,0,_,cap,rfl,by omega,by omega,l[j],?_,f,ca,rfl,hf,hp _ (Mx G) w2 _ k2 λw3 x3=>⟨λJ=>?_,λJ=>?_⟩⟩
  ·rw [Mv,MW,MX,<-e1];exact(il W (by omega)).1
  ·have J:¬q l[j]:=by simpa using J
   have o3:=W.ex x3;refine⟨g,0,_,cap,rfl,by omega,by omega,?_,λw4 H=>⟨by omega,by omega,⟨i+1,j+1,C.set i l[j],by omega,by omega,by omega,by omega,by simpa using hC,?_,?_,?_,?_⟩,tN (by omega)⟩⟩
   ·rw [Mv,MW,MX];have :=il o3 (j:=i) (by omega);exact⟨⟨_,this.1⟩,this.2.1⟩
   ·rw [Mv,MW,MX]at H;exact tF o3 H (by omega)
   ·rw [Mq (by simpa using(by omega:i< C.length)),ON (Mu _),ht,List.getElem_set_self,Mq G,NK];simp [J]
   ·rw [List.drop_set_of_lt (by omega),α]
   ·rw [Mv,MW,MX]at H;exact Kp.trans (Kp.trans k2 (Kp.ah x3 λ _=>False) λ _ _ h=>h.elim) (H▸Kr.set w3 i _) λb _ e=>by rw [e];rfl
  ·have J:q l[j]:=by simpa using J
   refine⟨by omega,⟨i,j+1,C,rfl,by omega,by omega,by omega,hC,W.ex x3,?_,α,Kp.trans k2 (Kp.ah x3 λ _=>False) λ _ _ h=>h.elim⟩,tN (by omega)⟩;rw [ht,Mq G,NK];simp [J]
 ·have G:=oE η hj;subst G;rw [MR]at ht;have ν:i< cap:=by have :=(il W (j:=i) (by omega)).2.2.2;omega
  have θ:(if cap=(i:Int).toNat then(some ⟨g,0,none⟩:Option Addr)else Option.map (λx:Addr=>x.add ((i:Int).toNat* 1)) (some ⟨g,0,none⟩))=some ⟨g,i,none⟩:=by
   rw [MJ (by omega),N8,add_plain,Mv,MW,MX]
  have ι:(if cap=(0:Int).toNat then(some ⟨g,0,none⟩:Option Addr)else Option.map (λx:Addr=>x.add ((0:Int).toNat* 1)) (some ⟨g,0,none⟩))=some ⟨g,0,none⟩:=by
   rw [MJ (by have:(0:Int).toNat=0:=rfl;omega),N8,add_plain];rfl
  refine⟨_,_,cap,rfl,by omega,by omega,by omega,_,_,_,rfl,.inr ⟨g,i,θ,λt ht=>?_,λκ β=>⟨_,_,cap,rfl,by omega,by omega,by omega,?_⟩⟩⟩
  ·have :=il W (j:=i+t) (by omega);exact⟨⟨_,this.1⟩,this.2.1⟩
  rw [ι];obtain⟨C2,γ,ο,μ⟩:=oY (Int.toNat (l.length:Int) - Int.toNat (i:Int)) i C w2 W (by omega);obtain⟨δ,_⟩:=aU (b:=g) (List.replicate (Int.toNat (l.length:Int) - Int.toNat (i:Int)) (.string ⟨#[]⟩)) w2 i;rw [<-β]at δ γ;have :=CD γ (n:=i) (by omega);rw [μ,ht]at this;exact hR _ κ (Kp.trans k2 δ λb _ e=>by rw [e];rfl) this
end Go.Proofs.YtdecokaadekjnaaGreat
namespace Go.Proofs.YtdecokaadekjnaaGreat
open Go Go.RowKit T Classical
noncomputable def qN (all:List Tx):List Tx:=(all.filter λs=> !decide (tW s≠[])).map (Aj 33)
noncomputable def gL (p:Tx):Option (List Tx):=(cI p).map λall=>dd (aH (qN all))
theorem DT (all:List Tx):aH (qN (aH all))=aH (qN all):=fu (((aE all).filter _).map _)
theorem CA {p:Tx}(h:cI p=none):gL p=none:=by unfold gL;rw [h];rfl
theorem CJ {p:Tx}{all:List Tx}(h:cI p=some all):gL p=some (dd (aH (qN all))):=by unfold gL;rw [h];rfl
theorem GW (all:List Tx):(qN all).length<=all.length:=by unfold qN;rw [MM];exact N1 _ _
theorem Gp:∀(f:Nat) (all:List Tx) (i:Nat) (out:List Tx),all.length<=60->bfs f all i=some out->out.length<=60
 | 0,_,_,_,_,h=>by cases h
 | f+1,all,i,out,c,h=>by
  unfold bfs at h;split at h
  ·split at h
   ·cases h
   ·split at h
    ·exact absurd h (by simp)
    ·exact Gp f _ _ out (by omega) h
  ·cases h;exact c
theorem Dz {p:Tx}{all:List Tx}(h:cI p=some all):all.length<=60:=by
 unfold cI at h;cases e:cT p with
 | none=>rw [e]at h;cases h
 | some n=>rw [e]at h;exact Gp 62 _ _ _ (by simp) h
theorem Ek (p:Tx):((gL p).getD []).length<=1000000000:=by
 unfold gL;cases h:cI p with
 | none=>simp
 | some all=>
  have G:=A6 (aH (qN all));have H:(aH (qN all)).length=(qN all).length:=(aE _).length_eq;have J:=GW all;have h4:=Dz h;show(dd (aH (qN all))).length<=_;omega
theorem I9.mono {w w1:World}{r c:Nat}{P G:Tx->Prop}{f H:Tx->Bool}(h:I9 w r c P f w1)(J:∀s,G s->P s/\H s=f s):I9 w r c G H w1:=by
 obtain⟨m,W,Z⟩:=h.mp;exact⟨h.ex,h.lr,h.lc,h.ne,h.lt,h.c0,m,W,λs V=>by rw [(J s V).2];exact Z s (J s V).1⟩
noncomputable def rV (f:Tx->Bool)(s:Tx):Tx:=((tW s).find? f).getD []
noncomputable def runF (f:Tx->Bool):Nat->List Tx->Tx->List Tx
 | 0,r,_=>r
 | n+1,r,s=>if tW s=[]then r else if rV f s∈r then r++[rV f s]else runF f n (r++[rV f s]) (rV f s)
structure EZ (all:List Tx)(n0:Tx)(r:List Tx)(s:Tx):Prop where
 nd:r.Nodup
 sub:∀x∈r,x∈all
 len:1<=r.length
 st:s∈all
 av:Db all s=true
 fin:runF (Db all) (61 - r.length) r s=runF (Db all) 60 [n0] n0
theorem EZ.le {all:List Tx}{n0:Tx}{r:List Tx}{s:Tx}(h:EZ all n0 r s)(G:all.length<=60):r.length<=60:=by
 have :=h.nd.length_le_of_subset h.sub;omega
theorem EZ.stop {all:List Tx}{n0:Tx}{r:List Tx}{s:Tx}(h:EZ all n0 r s)(G:all.length<=60)(H:tW s=[]):runF (Db all) 60 [n0] n0=r:=by
 have :=h.le G;have e:61 - r.length=(60 - r.length)+1:=by omega
 rw [<-h.fin,e];unfold runF;rw [MZ H]
theorem EZ.again {all:List Tx}{n0:Tx}{r:List Tx}{s:Tx}(h:EZ all n0 r s)(G:all.length<=60)(H:tW s≠[])(hm:rV (Db all) s∈r):runF (Db all) 60 [n0] n0=r++[rV (Db all) s]:=by
 have :=h.le G;have e:61 - r.length=(60 - r.length)+1:=by omega
 rw [<-h.fin,e];unfold runF;rw [MJ H,MZ hm]
theorem EZ.go {all:List Tx}{n0:Tx}{r:List Tx}{s:Tx}(h:EZ all n0 r s)(J:all.length<=60)(V:tW s≠[])(hm:rV (Db all) s∉r)(H:rV (Db all) s∈all)(W:Db all (rV (Db all) s)=true):EZ all n0 (r++[rV (Db all) s]) (rV (Db all) s):=by
 have :=h.le J;have e:61 - r.length=(60 - r.length)+1:=by omega
 refine⟨M6.2 ⟨h.nd,by simp,λx G y Z=>by cases MA.1 Z;exact λe=>hm (e▸G)⟩,λx G=>?_,by simp,H,W,?_⟩
 ·rcases My.1 G with G | G
  ·exact h.sub x G
  ·rw [MA.1 G];exact H
 ·rw [<-h.fin,e]
  conv=>rhs;unfold runF
  rw [MJ V,MJ hm,Mt,OB]
  congr 1
  omega
theorem EZ.start {all:List Tx}{n0:Tx}(h:n0∈all)(ha:Db all n0=true):EZ all n0 [n0] n0:=⟨by simp,λx G=>by rw [MA.1 G];exact h,by simp,h,ha,rfl⟩
end Go.Proofs.YtdecokaadekjnaaGreat
namespace Go.Proofs.YtdecokaadekjnaaGreat
open Go
attribute [go_sem] Tryz.f62
attribute [go_sem] Tryz.f25
attribute [go_sem] Tryz.f7
end Go.Proofs.YtdecokaadekjnaaGreat
namespace Go.Proofs.YtdecokaadekjnaaGreat
open Go Go.RowKit T Classical
section
variable {B b r:Nat} {n0:Tx} {w:World} {all:List Tx} {mm:Value->Option Value} {L:Nat->Prop}
theorem Bp (h:ue B b r n0 w all all.length mm L)(J:all.length<=60){R:Value->PV}(hR:∀v' w',Ex w w'->Own w.heap.size w' v' (aH all)->R v' w'):
  PW 147 #[ptr b] w (aw [.v] R):=by
 refine oO _ w R ?_;dsimp only [go_sem];dsimp only [go_sem,UInt8.reduceOfNat,UInt32.reduceOfNat,Nat.reduceAdd];obtain⟨v,G,H,_⟩:=h.sl;exact⟨b,0,rfl,v,G,FE H.strs (by omega) hR⟩
theorem ue.next (h:ue B b r n0 w all all.length mm L){s:Tx}(H:s∈all):∃v l,mm (.string (ax s))=some v/\uz s=some l/\Strs w v l:=by
 obtain⟨j,G,rfl⟩:=List.getElem_of_mem H;obtain⟨v,l,J,V,W,_⟩:=h.nx j G G;exact⟨v,l,J,V,W⟩
theorem Ik (h:ue B b r n0 w all all.length mm L)(hl:all.length<=60){R:Value->PV}(hR:∀v' w',Ex w w'->Own w.heap.size w' v' ((aH all).filter λs=> !decide (tW s≠[]))->R v' w'):
  PW 98 #[ptr b] w (aw [.v] R):=by
 refine mw _ w R ?_;dsimp only [go_sem];dsimp only [go_sem,UInt8.reduceOfNat,UInt32.reduceOfNat,Nat.reduceAdd];refine⟨rfl,λb1 w1 V G=>?_⟩;have W:Ex w w1:=G▸Ex.alloc w _;have s1:w1.heap.size=w.heap.size+1:=by rw [G,size_alloc]
 have c1:w1.cell? ⟨b1,0,none⟩=some (ptr b):=by rw [G,V];exact aa rfl
 have hp:=aE all;refine⟨_,c1,Bp (h.ex W) hl λv2 w2 H J=>Kc J (by rw [hp.length_eq];omega) (by decide) (λs=>tW s≠[]) (λs hs w' Q k hQ=>?_) λv3 w3 k3 o3=>?_⟩
 ·have x:Ex w w':=Ex.below (Ex.trans W H) (Kp.below k (by have :=H.size;omega) λg hg e=>by have :=(J.block g e).1;omega);have hb:=h.lt;have x':Ex w1 w':=Ex.below H (Kp.below k H.size λg hg e=>by have :=(J.block g e).1;omega);refine jT s _ w' Q ?_;dsimp only [go_sem];dsimp only [go_sem,UInt8.reduceOfNat,UInt32.reduceOfNat,Nat.reduceAdd];have Z:=h.ex x;obtain⟨v,l,e1,e2,e3⟩:=Z.next (hp.mem_iff.1 hs);obtain⟨a,cap,hv⟩:=e3.slice;have :=hQ w' (Ex.refl _);rw [EA e2]at this;refine⟨b1,0,rfl,_,by rw [x'.cell (a:=⟨b1,0,none⟩) (show b1< _ by omega)];exact c1,b,0,rfl,_,Z.c2,r,mm,rfl,Z.mp,v,true,.inl ⟨rfl,e1⟩,a,_,cap,hv,?_⟩
  rwa [show decide ((0:Int)< (l.length:Int))=decide (l≠[])from by rw [OX];constructor<;>intro h<;>(try rintro rfl)<;>(try (have :=OO.2 h))<;>(try simp at h)<;>(try omega)]
 ·exact hR _ _ (Ex.below (Ex.trans W H) (Kp.below k3 (by have :=H.size;omega) λg hg e=>by have :=(J.block g e).1;omega)) (o3.mono (by omega))
end
theorem HU {p:Tx}{w:World}{R:Value->Bool->PV}(hR:∀v w',Ex w w'->Own w.heap.size w' v ((gL p).getD [])->R v (gL p).isSome w'):
  PW 52 #[.string (ax p)] w (aw [.v,.b] R):=by
 refine pq p w R ?_;dsimp only [go_sem];dsimp only [go_sem,UInt8.reduceOfNat,UInt32.reduceOfNat,Nat.reduceAdd];refine D0 (λhn w' x=>⟨λ _=>?_,λh=>by cases h⟩) λn0 all h1 h2 h3 h4 b0 r mm L w1 x1 h=>⟨(λh=>by cases h),λ _ b w2 hb G=>?_⟩
 ·have :=hR (.slice none 0 0) w' x;rw [CA hn]at this;exact this (Own.nil _ _)
 have x2:Ex w1 w2:=G▸Ex.alloc w1 _;have s1:=x1.size;have s2:w2.heap.size=w1.heap.size+1:=by rw [G,size_alloc]
 have r2:HD w.heap.size w2 b [] false (λg=>g=b):=⟨by omega,rfl,λg e=>by omega,λj=>by rw [G,hb];exact aS _ _ _ _,by rw [G,hb];exact aa rfl,.slice none 0 0,by rw [G,hb];exact aa rfl,Own.nil _ _,λg J=>by cases J⟩
 refine Ik (h.ex x2) h4 λv3 w3 x3 W=>?_
 have s3:=x3.size;generalize hS:(aH all).filter (λs=> !decide (tW s≠[]))=S at W;have ε:S.length<=60:=by
  have h5:=N1 (λs=> !decide (tW s≠[])) (aH all);rw [hS,(aE all).length_eq]at h5;omega
 have α:∀s∈S,St s:=λs hs=>by
  rw [<-hS]at hs;exact h3 s ((aE all).mem_iff.1 (Oz.1 hs).1)
 obtain⟨a,cap,hv⟩:=W.strs.slice;refine⟨a,_,cap,hv,λx w'=>∃(j:Nat) (M:Nat->Prop),x=j/\j<=S.length/\Ex w1 w'/\w3.heap.size<=w'.heap.size/\Strs w' v3 S/\HD w.heap.size w' b ((S.take j).map (Aj 33)) false M/\∀g,M g->w1.heap.size<=g/\v3.ownBlock≠some g,λx _=>(S.length - x).toNat,⟨0,_,rfl,Nl _,Ex.trans x2 x3,Mu _,W.strs,r2.kp (Kp.ah x3 λ _=>False) (λ _ _ h=>h),λg e=>⟨by omega,λe'=>by have :=(W.block g e').1;omega⟩⟩,λx w4 hI=>?_⟩;obtain⟨j,M,rfl,hj,x4,ζ,Z,r4,hM⟩:=hI;have s4:=x4.size;refine⟨λβ=>?_,λγ=>?_⟩
 ·have H:=oL β;refine Z.get (Ex.refl _) (Og j) (gE H) (Q:=λn=>_) ?_;obtain⟨t,ok,et⟩:=α _ (Mx H);rw [<-et];have η:=ok.size;have hlen:=ok.len;refine Bw ok.al (by omega) (by omega) λb5 w5 x5 θ st=>IX ok st (λg J=>J.2.2) (by decide) λw6 x6=>?_
  have V:=Ex.trans x5 x6;have s6:=V.size;refine GV (r4.kp (Kp.ah V λ _=>False) λ _ _ h=>h) (by rw [MM,M5];omega) λw7 M7 k7 r7 δ=>⟨by omega,⟨j+1,M7,by omega,by omega,?_,by have :=k7.size;omega,?_,?_,λg J=>?_⟩,tN (by omega)⟩
  ·exact Ex.below (Ex.trans x4 V) (Kp.below k7 (by omega) λg J e=>by have :=(hM g e).1;omega)
  ·exact Strs.kp (Z.ex V) k7 λg _ _ _ e J=>(hM g J).2 (nA e)
  ·rw [Mq H,Nq,List.map_singleton,<-et,C7 ok];exact r7
  ·rcases δ g J with e | e
   ·exact hM g e
   ·exact⟨by omega,λe'=>by have :=(W.block g e').2;omega⟩
 ·have H:=oE γ hj;subst H;rw [MR]at r4;refine EH r4 (by rw [MM];omega) (λh=>by cases h) λ _ v5 w5 k5 o5 _=>?_
  have :=hR v5 w5 (Ex.below (Ex.trans x1 x4) (Kp.below k5 (by omega) λg J e=>by have :=(hM g e).1;omega));rw [CJ h2,<-DT]at this;unfold qN at this;rw [hS]at this;exact this o5
theorem zD {p:Tx}{w:World}{R:Value->Bool->PV}(hR:∀v w',Ex w w'->Own w.heap.size w' v ((gL p).getD [])->R v (gL p).isSome w'):
  PW 18 #[.string (ax p)] w (aw [.v,.b] R):=by
 refine ng p w R ?_;dsimp only [go_sem];dsimp only [go_sem,UInt8.reduceOfNat,UInt32.reduceOfNat,Nat.reduceAdd];exact HU hR
end Go.Proofs.YtdecokaadekjnaaGreat
namespace Go.Proofs.YtdecokaadekjnaaGreat
open Go
attribute [go_sem] Tryz.f101
theorem qH (G:aF)(w:World)(R:aF->Bool->PV)(h:vc ay (a6 [] [] []) (ab Tryz.f101) (ai 0 [.s G]) w (fin ay [.tmp 2 .s,.tmp 3 .b] R)):
  PW 101 #[(.string (ax G))] w (aw [.s,.b] R):=
 bc Tryz.func101 (by kernel_rfl) h
attribute [go_sem] Tryz.f143
theorem qw (G:aF)(w:World)(R:aF->aF->PV)(h:vc ay (a6 [(2,[(0,.s),(4,.s)])] [] []) (ab Tryz.f143) (ai 0 [.s G]) w (fin ay [.tmp 2 .s,.tmp 3 .s] R)):
  PW 143 #[(.string (ax G))] w (aw [.s,.s] R):=
 bc Tryz.func143 (by kernel_rfl) h
attribute [go_sem] Tryz.f144
theorem oR (G:aF)(w:World)(R:Value->PV)(h:vc ay (a6 [(5,[(0,.s),(3,.v)])] [] []) (ab Tryz.f144) (ai 0 [.s G]) w (fin ay [.tmp 2 .v] R)):
  PW 144 #[(.string (ax G))] w (aw [.v] R):=
 bc Tryz.func144 (by kernel_rfl) h
attribute [go_sem] Tryz.f145
theorem py (t1:aF)(w:World)(R:Value->PV)(h:vc ay (a6 [(13,[(47,.i)])] [] [(4,false,.lt 0 (.lt 2 (.lt 3 (.lt 4 (.lt 5 (.lt 6 (.lt 7 (.one .h 1 (.lt 8 (.one .h 9 (.lt 10 .done))))))))))),(9,false,.lt 0 (.lt 1 (.lt 2 (.lt 4 (.lt 5 (.lt 6 (.one .h 3 (.one .h 7 (.one .h 8 (.lt 9 .done))))))))))]) (ab Tryz.f145) (ai 0 [.s t1]) w (fin ay [.tmp 2 .v] R)):
  PW 145 #[(.string (ax t1))] w (aw [.v] R):=
 bc Tryz.func145 (by kernel_rfl) h
attribute [go_sem] Tryz.f152
theorem oM (t1:Value)(i2:Int)(G:Int)(w:World)(R:Value->PV)(h:vc ay (a6 [(3,[(7,.v),(12,.i)])] [] []) (ab Tryz.f152) (ai 0 [.v t1,.i i2,.i G]) w (fin ay [.tmp 6 .v] R)):
  PW 152 #[t1,(.int .i64 i2),(.int .i64 G)] w (aw [.v] R):=
 bc Tryz.func152 (by kernel_rfl) h
attribute [go_sem] Tryz.f151
theorem tQ (f1:aF)(t2:Value)(w:World)(R:aF->Bool->PV)(h:vc ay (a6 [(5,[(6,.s),(7,.i)])] [] []) (ab Tryz.f151) (ai 0 [.s f1,.v t2]) w (fin ay [.tmp 4 .s,.tmp 5 .b] R)):
  PW 151 #[(.string (ax f1)),t2] w (aw [.s,.b] R):=
 bc Tryz.func151 (by kernel_rfl) h
attribute [go_sem] Tryz.f97
theorem tG (G:Value)(w:World)(R:Value->PV)(h:vc ay (a6 [(3,[(3,.v),(9,.i)])] [] []) (ab Tryz.f97) (ai 0 [.v G]) w (fin ay [.tmp 2 .v] R)):
  PW 97 #[G] w (aw [.v] R):=
 bc Tryz.func97 (by kernel_rfl) h
theorem sC (p1:aF)(w:World)(R:Value->Bool->PV)(h:LH 143 #[(.string (ax p1))] w λs2 s3 w4=>xL 144 #[(.string (ax p1))] w4 λv5 w6=>jS v5 λl8=>Cq true (.slice none 0 0) 0 w6 λI10 m11 f12 o13 Z φ=>bS (decide (Z< (l8:Int))) (jc v5 Z λb16 o17=>HJ φ b16 (o17+Z.toNat* 1) λs20=>xL 145 #[(.string (ax s20))] φ λv21 w22=>jS v21 λl24=>Cq f12 o13 0 w22 λI26 m27 f28 ν W ε=>bS (decide (W< (l24:Int))) (jc v21 W λχ ψ=>∃c36:UInt8,∃c37:UInt8,∃c38:UInt8,∃s39:aF,∃q40:Bool,(World.cell? ε ⟨χ,(ψ+W.toNat* 5),none⟩=some (.int .u8 c36.toNat)/\World.cell? ε ⟨χ,((ψ+W.toNat* 5)+1),none⟩=some (.int .u8 c37.toNat)/\World.cell? ε ⟨χ,(((ψ+W.toNat* 5)+1)+1),none⟩=some (.int .u8 c38.toNat)/\World.cell? ε ⟨χ,((((ψ+W.toNat* 5)+1)+1)+1),none⟩=some (.string (ax s39))/\World.cell? ε ⟨χ,(((((ψ+W.toNat* 5)+1)+1)+1)+1),none⟩=some (.bool q40)/\True)/\dQ ε (.cells #[(.int .u8 0),(.int .u8 0),(.int .u8 0),(.string ⟨#[]⟩),(.bool false)] 166) λξ w42=>It w42 ξ 0 5 [(.int .u8 c36.toNat),(.int .u8 c37.toNat),(.int .u8 c38.toNat),(.string (ax s39)),(.bool q40)] λw43=>∃J44:Bool->Value->PV,(zR w43 ξ 0 λc45=>bS (decide (c45=126)) (j4 w43 λθ w47=>GP θ ξ 3 λs48=>(xL 152 #[v5,(.int .i64 Z),(.int .i64 Z)] w47 λv49 w50=>θ w50/\dQ w50 (.cells #[(.string (ax s48))] 9) λb51 w52=>θ w52/\nJ 9 1 16 w52 v49 (.slice (some ⟨b51,0,none⟩) 1 1) λv58 w59=>θ w59/\Bf 151 #[(.string (ax s2)),v58] w59 λs60 q61 w62=>θ w62/\∃J63:Bool->aF->PV,(bS f28 (J63 q61 s60 w62) (J63 false s60 w62))/\∀(f64:Bool) (n65:aF) (w66:World),J63 f64 n65 w66->dQ w66 (.cells #[(.string (ax n65))] 9) λb67 w68=>nJ 9 1 16 w68 ν (.slice (some ⟨b67,0,none⟩) 1 1) λv74 w75=>J44 f64 v74 w75)/\(dQ w47 (.cells #[(.string (ax s48))] 9) λb76 w77=>θ w77/\xL 152 #[v5,(.int .i64 Z),(.int .i64 Z)] w77 λv78 w79=>θ w79/\nJ 9 1 16 w79 v78 (.slice (some ⟨b76,0,none⟩) 1 1) λv85 w86=>θ w86/\Bf 151 #[(.string (ax s2)),v85] w86 λs87 q88 w89=>θ w89/\∃J90:Bool->aF->PV,(bS f28 (J90 q88 s87 w89) (J90 false s87 w89))/\∀(f91:Bool) (n92:aF) (w93:World),J90 f91 n92 w93->dQ w93 (.cells #[(.string (ax n92))] 9) λb94 w95=>nJ 9 1 16 w95 ν (.slice (some ⟨b94,0,none⟩) 1 1) λv101 w102=>J44 f91 v101 w102)) (J44 f28 ν w43))/\∀(f103:Bool) (ο:Value) (ι:World),J44 f103 ο ι->zR ι ξ 0 λc106=>bS (!decide (c106=33)) (bJ (W+1)/\I26 f103 ο (W+1) ι/\m27 f103 ο (W+1) ι< m27 f28 ν W ε) (jS v5 λl108=>Cq f103 ο 0 ι λI110 ς f112 δ H α=>bS (decide (H< (l108:Int))) (jc v5 H λb116 o117=>HJ α b116 (o117+H.toNat* 1) λs120=>bS (decide (Z=H)) (bJ (H+1)/\I110 f112 δ (H+1) α/\ς f112 δ (H+1) α< ς f112 δ H α) (xL 145 #[(.string (ax s120))] α λv121 w122=>jS v121 λl124=>Cq f112 δ 0 w122 λω ζ f128 V G J=>bS (decide (G< (l124:Int))) (jc v121 G λκ μ=>∃c136:UInt8,∃c137:UInt8,∃c138:UInt8,∃s139:aF,∃q140:Bool,(World.cell? J ⟨κ,(μ+G.toNat* 5),none⟩=some (.int .u8 c136.toNat)/\World.cell? J ⟨κ,((μ+G.toNat* 5)+1),none⟩=some (.int .u8 c137.toNat)/\World.cell? J ⟨κ,(((μ+G.toNat* 5)+1)+1),none⟩=some (.int .u8 c138.toNat)/\World.cell? J ⟨κ,((((μ+G.toNat* 5)+1)+1)+1),none⟩=some (.string (ax s139))/\World.cell? J ⟨κ,(((((μ+G.toNat* 5)+1)+1)+1)+1),none⟩=some (.bool q140)/\True)/\dQ J (.cells #[(.int .u8 0),(.int .u8 0),(.int .u8 0),(.string ⟨#[]⟩),(.bool false)] 166) λη w142=>It w142 η 0 5 [(.int .u8 c136.toNat),(.int .u8 c137.toNat),(.int .u8 c138.toNat),(.string (ax s139)),(.bool q140)] λβ=>zR β η 0 λc144=>Hg (!decide (c144=63)) (zR β η 1 λc145=>zR β ξ 1 λc146=>bS (!decide (c145=c146)) (bJ (G+1)/\ω f128 V (G+1) β/\ζ f128 V (G+1) β< ζ f128 V G J) (j4 β λγ w148=>GP γ ξ 3 λs149=>GP γ η 3 λs150=>KZ γ η 2 λc151=>KZ γ ξ 2 λc152=>xL 152 #[v5,(.int .i64 Z),(.int .i64 H)] w148 λv153 w154=>γ w154/\Mi 153 #[(.string (ax s150)),(.int .u8 c151.toNat),(.int .u8 c152.toNat)] w154 λs155 w156=>γ w156/\dQ w156 (.cells #[(.string (ax s149)),(.string (ax s155))] 9) λb157 w158=>γ w158/\nJ 9 1 16 w158 v153 (.slice (some ⟨b157,0,none⟩) 2 2) λv164 υ=>γ υ/\∃J166:Value->PV,(LZ υ η 4 λq167=>bS q167 (dQ υ (.cells #[(.string (ax s120))] 9) λb168 w169=>nJ 9 1 16 w169 v164 (.slice (some ⟨b168,0,none⟩) 1 1) λv175 w176=>J166 v175 w176) (J166 v164 υ))/\∀(l177:Value) (w178:World),J166 l177 w178->Bf 151 #[(.string (ax s2)),l177] w178 λs179 q180 w181=>∃J182:Bool->aF->PV,(bS f128 (J182 q180 s179 w181) (J182 false s179 w181))/\∀(f183:Bool) (n184:aF) (w185:World),J182 f183 n184 w185->dQ w185 (.cells #[(.string (ax n184))] 9) λb186 w187=>nJ 9 1 16 w187 V (.slice (some ⟨b186,0,none⟩) 1 1) λv193 w194=>bJ (G+1)/\ω f183 v193 (G+1) w194/\ζ f183 v193 (G+1) w194< ζ f128 V G J)) (bJ (G+1)/\ω f128 V (G+1) β/\ζ f128 V (G+1) β< ζ f128 V G J)) (bJ (H+1)/\I110 f128 V (H+1) J/\ς f128 V (H+1) J< ς f112 δ H α))) (bJ (W+1)/\I26 f112 δ (W+1) α/\m27 f112 δ (W+1) α< m27 f28 ν W ε))) (bJ (Z+1)/\I10 f28 ν (Z+1) ε/\m11 f28 ν (Z+1) ε< m11 f12 o13 Z φ)) (bS (!f12) (R (.slice none 0 0) false φ) (xL 97 #[o13] φ λv195 w196=>R v195 true w196))):
  PW 102 #[(.string (ax p1))] w (aw [.v,.b] R):=
 IJ (a6 [(6,[(7,.b),(8,.v),(31,.i)]),(9,[(7,.b),(8,.v),(39,.i)]),(17,[(7,.b),(8,.v),(72,.i)]),(21,[(7,.b),(8,.v),(83,.i)])] [(14,[(7,.b),(13,.s)]),(15,[(7,.b),(8,.v)]),(27,[(19,.v)]),(29,[(7,.b),(20,.s)])] [(12,false,.lt 0 (.lt 1 (.lt 2 (.lt 3 (.lt 5 (.lt 6 (.br .h 4 (.one .h 7 (.one .h 8 (.one .h 9 (.lt 10 (.lt 11 (.lt 12 (.lt 13 (.lt 14 .done)))))))) (.one .h 7 (.one .h 4 (.one .h 8 (.one .h 9 (.lt 10 (.lt 11 (.lt 12 (.lt 13 (.lt 14 .done)))))))))))))))),(24,false,.lt 0 (.lt 1 (.lt 2 (.lt 4 (.lt 5 (.lt 6 (.lt 7 (.lt 8 (.lt 9 (.lt 10 (.lt 11 (.one .h 3 (.one .h 12 (.one .h 13 (.one .h 14 (.lt 15 .done))))))))))))))))]) [.tmp 2 .v,.tmp 3 .b] [.s p1] Tryz.func102 (by kernel_rfl) h
attribute [go_sem] Tryz.f60
theorem qA (G:Value)(s2:aF)(w:World)(R:Int->PV)(h:vc ay (a6 [(2,[(9,.i)])] [] []) (ab Tryz.f60) (ai 0 [.v G,.s s2]) w (fin ay [.tmp 4 .i] R)):
  PW 60 #[G,(.string (ax s2))] w (aw [.i] R):=
 bc Tryz.func60 (by kernel_rfl) h
theorem qE (p1:aF)(w:World)(R:Value->Bool->PV)(h:dQ w (.cells #[(.slice none 0 0),(.slice none 0 0),(.slice none 0 0)] 49) λb2 w3=>dQ w3 (.cells #[(.slice none 0 0),(.slice none 0 0),(.slice none 0 0)] 49) λb4 w5=>It w5 b4 0 3 [(.slice none 0 0),(.slice none 0 0),(.slice none 0 0)] λw6=>Bf 101 #[(.string (ax p1))] w6 λs7 q8 w9=>bS (!q8) (∃v10:Value,∃v11:Value,∃v12:Value,(World.cell? w9 ⟨b4,0,none⟩=some v10/\World.cell? w9 ⟨b4,1,none⟩=some v11/\World.cell? w9 ⟨b4,2,none⟩=some v12/\True)/\It w9 b2 0 3 [v10,v11,v12] λκ=>∃r14:Value,∃r15:Value,∃r16:Value,(World.cell? κ ⟨b2,0,none⟩=some r14/\World.cell? κ ⟨b2,1,none⟩=some r15/\World.cell? κ ⟨b2,2,none⟩=some r16/\True)/\R (.agg #[r14,r15,r16]) false κ) (dQ w9 (.cells #[(.string (ax s7))] 9) λb17 w18=>aB (.slice (some ⟨b17,0,none⟩) 1 1)=true/\jW w18 b4 0 (.slice (some ⟨b17,0,none⟩) 1 1) λw20=>dQ w20 (.cells #[(.int .i64 0)] 3) λb21 w22=>aB (.slice (some ⟨b21,0,none⟩) 1 1)=true/\jW w22 b4 1 (.slice (some ⟨b21,0,none⟩) 1 1) λw24=>tY 0 w24 λI25 m26 i27 Z=>cY Z b4 0 λv29=>jS v29 λl31=>bS (decide (i27< (l31:Int))) (cY Z b4 0 λv33=>jc v33 i27 λb34 o35=>HJ Z b34 (o35+i27.toNat* 1) λs38=>y7 102 #[(.string (ax s38))] Z λμ q40 δ=>bS (!q40) (∃v42:Value,∃v43:Value,∃v44:Value,(World.cell? δ ⟨b4,0,none⟩=some v42/\World.cell? δ ⟨b4,1,none⟩=some v43/\World.cell? δ ⟨b4,2,none⟩=some v44/\True)/\It δ b2 0 3 [v42,v43,v44] λν=>∃r46:Value,∃r47:Value,∃r48:Value,(World.cell? ν ⟨b2,0,none⟩=some r46/\World.cell? ν ⟨b2,1,none⟩=some r47/\World.cell? ν ⟨b2,2,none⟩=some r48/\True)/\R (.agg #[r46,r47,r48]) false ν) (cY δ b4 2 λv49=>aB μ=true/\dQ δ (.cells #[μ] 25) λb50 w51=>nJ 25 1 24 w51 v49 (.slice (some ⟨b50,0,none⟩) 1 1) λv57 w58=>aB v57=true/\jW w58 b4 2 v57 λw60=>jS μ λl62=>tY 0 w60 λε W G V=>bS (decide (G< (l62:Int))) (jc μ G λb68 o69=>HJ V b68 (o69+G.toNat* 1) λs72=>cY V b4 0 λv73=>FK 60 #[v73,(.string (ax s72))] V λn74 ξ=>bS (decide (n74< 0)) (cY ξ b4 0 λv76=>dQ ξ (.cells #[(.string (ax s72))] 9) λb77 w78=>nJ 9 1 16 w78 v76 (.slice (some ⟨b77,0,none⟩) 1 1) λv84 w85=>aB v84=true/\jW w85 b4 0 v84 λw87=>j4 w87 λH J=>(cY J b4 1 λv90=>H J/\cY J b4 1 λv91=>H J/\jc v91 i27 λb92 o93=>JL J b92 (o93+i27.toNat* 1) λn96=>H J/\bJ (n96+1)/\dQ J (.cells #[(.int .i64 (n96+1))] 3) λb97 w98=>H w98/\nJ 3 1 8 w98 v90 (.slice (some ⟨b97,0,none⟩) 1 1) λο ς=>H ς/\aB ο=true/\jW ς b4 1 ο λζ=>H ζ/\bJ (G+1)/\ε (G+1) ζ/\W (G+1) ζ< W G V)/\(cY J b4 1 λv108=>H J/\jc v108 i27 λυ φ=>(cY J b4 1 λv113=>H J/\JL J υ (φ+i27.toNat* 1) λn114=>H J/\bJ (n114+1)/\dQ J (.cells #[(.int .i64 (n114+1))] 3) λb115 χ=>H χ/\nJ 3 1 8 χ v113 (.slice (some ⟨b115,0,none⟩) 1 1) λψ ω=>H ω/\aB ψ=true/\jW ω b4 1 ψ λη=>H η/\bJ (G+1)/\ε (G+1) η/\W (G+1) η< W G V)/\(JL J υ (φ+i27.toNat* 1) λn126=>H J/\bJ (n126+1)/\(cY J b4 1 λv127=>H J/\dQ J (.cells #[(.int .i64 (n126+1))] 3) λb128 w129=>H w129/\nJ 3 1 8 w129 v127 (.slice (some ⟨b128,0,none⟩) 1 1) λv135 w136=>H w136/\aB v135=true/\jW w136 b4 1 v135 λθ=>H θ/\bJ (G+1)/\ε (G+1) θ/\W (G+1) θ< W G V)/\(dQ J (.cells #[(.int .i64 (n126+1))] 3) λb139 α=>H α/\cY α b4 1 λv141=>H α/\nJ 3 1 8 α v141 (.slice (some ⟨b139,0,none⟩) 1 1) λv147 w148=>H w148/\aB v147=true/\jW w148 b4 1 v147 λι=>H ι/\bJ (G+1)/\ε (G+1) ι/\W (G+1) ι< W G V)))) (bJ (G+1)/\ε (G+1) ξ/\W (G+1) ξ< W G V)) (cY V b4 0 λv151=>jS v151 λl153=>bS (decide (60< (l153:Int))) (∃v155:Value,∃v156:Value,∃v157:Value,(World.cell? V ⟨b4,0,none⟩=some v155/\World.cell? V ⟨b4,1,none⟩=some v156/\World.cell? V ⟨b4,2,none⟩=some v157/\True)/\It V b2 0 3 [v155,v156,v157] λβ=>∃r159:Value,∃r160:Value,∃r161:Value,(World.cell? β ⟨b2,0,none⟩=some r159/\World.cell? β ⟨b2,1,none⟩=some r160/\World.cell? β ⟨b2,2,none⟩=some r161/\True)/\R (.agg #[r159,r160,r161]) false β) (bJ (i27+1)/\I25 (i27+1) V/\m26 (i27+1) V< m26 i27 Z)))) (∃v162:Value,∃v163:Value,∃v164:Value,(World.cell? Z ⟨b4,0,none⟩=some v162/\World.cell? Z ⟨b4,1,none⟩=some v163/\World.cell? Z ⟨b4,2,none⟩=some v164/\True)/\It Z b2 0 3 [v162,v163,v164] λγ=>∃r166:Value,∃r167:Value,∃r168:Value,(World.cell? γ ⟨b2,0,none⟩=some r166/\World.cell? γ ⟨b2,1,none⟩=some r167/\World.cell? γ ⟨b2,2,none⟩=some r168/\True)/\R (.agg #[r166,r167,r168]) true γ))):
  PW 54 #[(.string (ax p1))] w (aw [.v,.b] R):=
 IJ (a6 [(8,[(7,.i)]),(15,[(53,.i)])] [] [(19,false,.lt 0 (.lt 2 (.lt 4 (.br .h 1 (.one .h 3 (.lt 5 (.one .h 6 (.lt 7 (.one .h 8 (.one .h 9 (.lt 10 (.one .h 11 .done)))))))) (.one .h 3 (.lt 5 (.br .h 1 (.one .h 6 (.lt 7 (.one .h 8 (.one .h 9 (.lt 10 (.one .h 11 .done)))))) (.one .h 6 (.lt 7 (.br .h 1 (.one .h 8 (.one .h 9 (.lt 10 (.one .h 11 .done)))) (.one .h 8 (.one .h 1 (.one .h 9 (.lt 10 (.one .h 11 .done)))))))))))))))]) [.agg 2 49,.tmp 3 .b] [.s p1] Tryz.func54 (by kernel_rfl) h
attribute [go_sem] Tryz.f44
attribute [go_sem] Tryz.f96
theorem sf (G:aF)(H:UInt8)(w:World)(R:aF->Bool->PV)(h:vc ay (a6 [(7,[(10,.s),(30,.i)]),(10,[(10,.s),(37,.i)])] [] []) (ab Tryz.f96) (ai 0 [.s G,.c H]) w (fin ay [.tmp 4 .s,.tmp 5 .b] R)):
  PW 96 #[(.string (ax G)),(.int .u8 H.toNat)] w (aw [.s,.b] R):=
 bc Tryz.func96 (by kernel_rfl) h
attribute [go_sem] Tryz.f154
attribute [go_sem] Tryz.f155
attribute [go_sem] Tryz.f103
attribute [go_sem] Tryz.f89
attribute [go_sem] Tryz.f45
attribute [go_sem] Tryz.f13
end Go.Proofs.YtdecokaadekjnaaGreat
namespace Go.Proofs.YtdecokaadekjnaaGreat
open Go Go.RowKit T Classical
theorem E6 (t:P):t.ev T.gd1=t.parts.all λq=>(!decide (t.kind=43)||q.gp)&&q.ev T.gd1:=by
 rw [se];cases t<;>simp [T.gd1,T.parts,T.kind]
 case sum p q=>
  cases p.gp<;>cases q.gp<;>cases p.ev T.gd1<;>cases q.ev T.gd1<;>rfl
theorem EE (t:P):t.ev T.rp1=t.parts.all λq=>(!decide (t.kind=42)||q.isR)&&q.ev T.rp1:=by
 rw [se];cases t<;>simp [T.rp1,T.parts,T.kind]
theorem Ce (q:P):decide (q.kind∈([33,63,126,43,48]:Tx))=q.gp:=by cases q<;>simp [T.kind,T.gp]
theorem yJ (q:P):decide (q.kind=63)=q.isR:=by cases q<;>rfl
theorem yY {X:Type}{l:List X}{f:X->Bool}{k:Nat}(h:k< l.length):(l.take (k+1)).all f=((l.take k).all f&&f l[k]):=by
 rw [Mq h,O6];simp
theorem all_false {X:Type}{l:List X}{f:X->Bool}{k:Nat}(h:k< l.length)(G:f l[k]=false):l.all f=false:=by
 rw [List.all_eq_false];exact⟨_,Mx h,by rw [G];simp⟩
theorem An:∀(n:Nat) {t:P},t.size<=n->Ok t->∀{w:World} {R:Bool->PV},(∀w',Ex w w'->R (t.ev T.gd1) w')->PW 112 #[.string (ax t.text)] w (aw [.b] R):=by
 intro n
 induction n with
 | zero=>intro t h;have :=aY t;omega
 | succ n ih=>
  intro t hn ok w R h;refine oG _ w R ?_;dsimp only [go_sem];dsimp only [go_sem,UInt8.reduceOfNat,UInt32.reduceOfNat,Nat.reduceAdd];refine cO ok λv w3 α hs=>?_
  obtain⟨a,cap,hv⟩:=hs.slice;rw [MM]at hv;rw [E6]at h;refine⟨a,t.parts.length,cap,hv,λx w'=>Ex w3 w'/\∃k:Nat,x=k/\k<=t.parts.length/\(t.parts.take k).all (λq=>(!decide (t.kind=43)||q.gp)&&q.ev T.gd1)=true,λx _=>((t.parts.length:Int) - x).toNat,⟨Ex.refl _,0,rfl,by omega,rfl⟩,λx w4 hI=>?_⟩;obtain⟨H,k,rfl,hk,J⟩:=hI;refine⟨λhc=>?_,λhc=>?_⟩
  ·have G:k< t.parts.length:=by simpa using hc
   have Z:t.parts[k]∈t.parts:=Mx G;have β:=ok.parts _ Z;have γ:=dO Z;refine hs.get H (i:=k) (by omega) (x:=(t.parts[k]).text) (by simp [G]) ?_;have key:∀{w':World},Ex w3 w'->(!decide (t.kind=43)||t.parts[k].gp)=true->∀V,Ex w' V->((!t.parts[k].ev T.gd1)=true->R false V)/\((!t.parts[k].ev T.gd1)=false->bJ ((k:Int)+1)/\(Ex w3 V/\∃j:Nat,(k:Int)+1=j/\j<=t.parts.length/\(t.parts.take j).all (λq=>(!decide (t.kind=43)||q.gp)&&q.ev T.gd1)=true)/\((t.parts.length:Int) - ((k:Int)+1)).toNat< ((t.parts.length:Int) - k).toNat):=λ{w'} x1 hg V x2=>by
    have hx:=Ex.trans x1 x2;refine⟨λW=>?_,λW=>⟨by unfold bJ;have :=dN t;omega,⟨hx,k+1,by omega,G,?_⟩,by omega⟩⟩
    ·have :=h V (Ex.trans α hx);rw [all_false G (by rw [hg];simpa using W)]at this;exact this
    ·rw [yY G,J,hg];simpa using W
   refine aP ok ⟨λhc=>aP β (ia (by simp) ⟨λW=>?_,λW=>?_⟩),λhc=>?_⟩
   ·rw [Ce]at W;have hg:t.parts[k].gp=true:=by simpa using W
    exact ih (by omega) β λV x5=>key H (by rw [hg];simp) V x5
   ·rw [Ce]at W;have hg:t.parts[k].gp=false:=by simpa using W
    have :=h w4 (Ex.trans α H);rw [all_false G (by rw [hc,hg];rfl)]at this;exact this
   ·exact ih (by omega) β λV x5=>key H (by rw [hc];rfl) V x5
  ·have G:k=t.parts.length:=by simp at hc;omega
   subst G;rw [MR]at J;have :=h w4 (Ex.trans α H);rw [J]at this;exact this
theorem Bq:∀(n:Nat) {t:P},t.size<=n->Ok t->∀{w:World} {R:Bool->PV},(∀w',Ex w w'->R (t.ev T.rp1) w')->PW 113 #[.string (ax t.text)] w (aw [.b] R):=by
 intro n
 induction n with
 | zero=>intro t h;have :=aY t;omega
 | succ n ih=>
  intro t hn ok w R h;refine pv _ w R ?_;dsimp only [go_sem];dsimp only [go_sem,UInt8.reduceOfNat,UInt32.reduceOfNat,Nat.reduceAdd];refine cO ok λv w3 α hs=>?_
  obtain⟨a,cap,hv⟩:=hs.slice;rw [MM]at hv;rw [EE]at h;refine⟨a,t.parts.length,cap,hv,λx w'=>Ex w3 w'/\∃k:Nat,x=k/\k<=t.parts.length/\(t.parts.take k).all (λq=>(!decide (t.kind=42)||q.isR)&&q.ev T.rp1)=true,λx _=>((t.parts.length:Int) - x).toNat,⟨Ex.refl _,0,rfl,by omega,rfl⟩,λx w4 hI=>?_⟩;obtain⟨H,k,rfl,hk,J⟩:=hI;refine⟨λhc=>?_,λhc=>?_⟩
  ·have G:k< t.parts.length:=by simpa using hc
   have Z:t.parts[k]∈t.parts:=Mx G;have β:=ok.parts _ Z;have γ:=dO Z;refine hs.get H (i:=k) (by omega) (x:=(t.parts[k]).text) (by simp [G]) ?_;have key:∀{w':World},Ex w3 w'->(!decide (t.kind=42)||t.parts[k].isR)=true->∀V,Ex w' V->((!t.parts[k].ev T.rp1)=true->R false V)/\((!t.parts[k].ev T.rp1)=false->bJ ((k:Int)+1)/\(Ex w3 V/\∃j:Nat,(k:Int)+1=j/\j<=t.parts.length/\(t.parts.take j).all (λq=>(!decide (t.kind=42)||q.isR)&&q.ev T.rp1)=true)/\((t.parts.length:Int) - ((k:Int)+1)).toNat< ((t.parts.length:Int) - k).toNat):=λ{w'} x1 hg V x2=>by
    have hx:=Ex.trans x1 x2;refine⟨λW=>?_,λW=>⟨by unfold bJ;have :=dN t;omega,⟨hx,k+1,by omega,G,?_⟩,by omega⟩⟩
    ·have :=h V (Ex.trans α hx);rw [all_false G (by rw [hg];simpa using W)]at this;exact this
    ·rw [yY G,J,hg];simpa using W
   refine aP ok ⟨λhc=>aP β ⟨λW=>?_,λW=>?_⟩,λhc=>?_⟩
   ·rw [yJ]at W;have hg:t.parts[k].isR=true:=by simpa using W
    exact ih (by omega) β λV x5=>key H (by rw [hg];simp) V x5
   ·rw [yJ]at W;have hg:t.parts[k].isR=false:=by simpa using W
    have :=h w4 (Ex.trans α H);rw [all_false G (by rw [hc,hg];rfl)]at this;exact this
   ·exact ih (by omega) β λV x5=>key H (by rw [hc];rfl) V x5
  ·have G:k=t.parts.length:=by simp at hc;omega
   subst G;rw [MR]at J;have :=h w4 (Ex.trans α H);rw [J]at this;exact this
theorem AF {t:P}(ok:Ok t){w:World}{R:Bool->PV}(h:∀w',Ex w w'->R t.smp w'):PW 66 #[.string (ax t.text)] w (aw [.b] R):=by
 refine p6 _ w R ?_;dsimp only [go_sem];dsimp only [go_sem,UInt8.reduceOfNat,UInt32.reduceOfNat,Nat.reduceAdd];refine An _ (Mu _) ok λw1 H=>⟨λG=>?_,λG=>?_⟩
 ·refine Bq _ (Mu _) ok λw2 J=>?_
  have :=h w2 (Ex.trans H J);rw [dW,G,Oh]at this;exact this
 ·have :=h w1 H;rw [dW,G,PN]at this;exact this
theorem vb {p:Tx}:(∃t:P,Good t/\t.text=p)↔∃t:P,t.Al (λc=>lt c=true)/\t.text=p/\di p:=by
 constructor
 ·rintro⟨t,h,rfl⟩
  exact⟨t,iS.1 h.lw,rfl,kF.1 ⟨t,h,rfl⟩⟩
 ·rintro⟨t,H,rfl,G⟩
  exact kF.2 G
theorem EB {t:P}(h:t.Al λc=>lt c=true)(g:di t.text):Ok t:=⟨h.wf,by have :=g.1;omega⟩
theorem ID {t:P}(h:t.Al λc=>lt c=true)(g:di t.text):t.size<=60:=by
 obtain⟨_,V,G,H,J⟩:=g;have :=eZ G.wf h.wf H;subst this;exact J
theorem Jt {p:Tx}{w:World}{R:Bool->PV}(h:∀b w',Ex w w'->(b=true->∃t:P,t.Al (λc=>lt c=true)/\t.text=p/\di p)->(b=false->¬Lb p)->R b w'):PW 65 #[.string (ax p)] w (aw [.b] R):=
 vB λb w' x hb=>h b w' x (λe=>vb.1 (hb.1 e)) λe ⟨t,G,H,J,_⟩=>by
  have :=hb.2 (vb.2 ⟨t,G,H,J⟩);rw [e]at this;cases this
theorem Io {t:P}(h:t.Al λc=>lt c=true)(G:t.smp=false):¬Lb t.text:=fun⟨V,H,J,_,h4⟩=>by
 have :=eZ H.wf h.wf J;subst this;rw [G]at h4;cases h4
theorem Hf {t:P}(h:t.Al λc=>lt c=true)(g:di t.text):nW 0 t σ0 (num t e0 0).1:=by
 have G:=ID h g;have :=bP t;have nu:=kI h;exact⟨⟨h.wf,by have :=g.1;omega,⟨h.eb 0,by omega⟩,j5 h,λy z _ _ e=>by unfold σ0 at e;omega,nu.uq⟩,λz H J=>absurd J (dZ (r6 (h.free z H))),nu,λ _ _=>rfl⟩
theorem vE {p:Tx}{w:World}{R:aF->Bool->PV}(h:∀w',Ex w w'->(∀s,cT p=some s->R s true w')/\(cT p=none->R [] false w')):PW 101 #[.string (ax p)] w (aw [.s,.b] R):=by
 refine qH _ w R ?_;dsimp only [go_sem];dsimp only [go_sem,UInt8.reduceOfNat,UInt32.reduceOfNat,Nat.reduceAdd];refine Jt λb w1 J V W=>⟨λhb=>?_,λhb=>?_⟩
 ·have hb:b=true:=by simpa using hb
  obtain⟨t,H,rfl,Z⟩:=V hb;refine AF (EB H Z) λw2 x2=>⟨λG=>?_,λG=>?_⟩
  ·have G:t.smp=false:=by simpa using G
   exact(h w2 (Ex.trans J x2)).2 (gW (Io H G))
  ·have G:t.smp=true:=by simpa using G
   refine A8 (Hf H Z) λw3 x3=>?_
   have :=h w3 (Ex.trans (Ex.trans J x2) x3);rw [ph H Z G]at this;exact this
 ·have hb:b=false:=by simpa using hb
  exact(h w1 J).2 (gW (W hb))
def T.Ep:P->P
 | .res _ p=>p.Ep
 | t=>t
theorem vK:∀{t:P},Ok t->Ok t.Ep/\t.Ep.ths=t.ths/\t.Ep.frL=[]/\t.Ep.text.length<=t.text.length/\(t.Nr->t.Ep.Nr)
 | .res x p,ok=>by
  have h:=vK (t:=p) (ok.parts p (by simp [T.parts]));refine⟨h.1,h.2.1,h.2.2.1,?_,λn=>h.2.2.2.2 n.2⟩;have :=h.2.2.2.1;show p.Ep.text.length<=(35::x::46::p.text).length;simp only [Mm];omega
 | .nil,ok=>⟨ok,rfl,rfl,Mu _,id⟩
 | .snd ..,ok=>⟨ok,rfl,rfl,Mu _,id⟩
 | .rcv ..,ok=>⟨ok,rfl,rfl,Mu _,id⟩
 | .tau ..,ok=>⟨ok,rfl,rfl,Mu _,id⟩
 | .sum ..,ok=>⟨ok,rfl,rfl,Mu _,id⟩
 | .par ..,ok=>⟨ok,rfl,rfl,Mu _,id⟩
 | .mat ..,ok=>⟨ok,rfl,rfl,Mu _,id⟩
 | .rep ..,ok=>⟨ok,rfl,rfl,Mu _,id⟩
theorem CX (t:P):t.frL.length<=t.text.length:=by
 induction t with
 | res x p G=>
  show(x::p.frL).length<=(35::x::46::p.text).length;simp only [Mm];omega
 | _=>simp [T.frL]
theorem po {t:P}(ok:Ok t){w:World}{R:aF->aF->PV}(h:R t.frL t.Ep.text w):PW 143 #[.string (ax t.text)] w (aw [.s,.s] R):=by
 refine qw _ w R ?_;dsimp only [go_sem];dsimp only [go_sem,UInt8.reduceOfNat,UInt32.reduceOfNat,Nat.reduceAdd];refine⟨λs f w'=>w'=w/\∃q:P,s=q.text/\Ok q/\t.frL=f++q.frL/\t.Ep=q.Ep,λs _ _=>s.length,⟨rfl,t,rfl,ok,rfl,rfl⟩,λs f w' W=>?_⟩;obtain⟨rfl,q,rfl,G,H,hb⟩:=W;have hlen:=CX t;have hl:=ok.len;refine aP G ⟨λJ=>?_,λJ=>?_⟩
 ·cases q<;>simp [T.kind]at J
  rename_i x p;have e:(T.res x p).text=35::x::46::p.text:=rfl;rw [e];have Z:f.length+1<=t.frL.length:=by
   have :=Nz List.length H;simp only [T.frL,Mt,Mm]at this;omega
  refine⟨⟨by omega,by omega,by simp only [Mm];omega⟩,by simp;omega,⟨by omega,by simp only [Mm];omega⟩,⟨rfl,p,rfl,G.parts p (by simp [T.parts]),?_,hb⟩,?_⟩
  ·rw [H];show f++(x::p.frL)=(f++[x])++p.frL;simp
  ·show p.text.length< (35::x::46::p.text).length;simp only [Mm];omega
 ·have V:q.frL=[]/\q.Ep=q:=by cases q<;>simp [T.kind]at J<;>exact⟨rfl,rfl⟩
  rw [V.1,MY]at H;rw [<-H];rw [hb,V.2]at h;exact h
theorem qg {t:P}(ok:Ok t)(n:t.Nr){w:World}{R:Value->PV}(h:∀v w',Ex w w'->Own w.heap.size w' v (t.ths.map T.text)->R v w'):PW 144 #[.string (ax t.text)] w (aw [.v] R):=by
 refine oR _ w R ?_;dsimp only [go_sem];dsimp only [go_sem,UInt8.reduceOfNat,UInt32.reduceOfNat,Nat.reduceAdd];obtain⟨W,γ,ξ,hbl,ο⟩:=vK ok;have nb:=ο n;rw [<-γ]at h;refine po ok ?_;have hl:=W.len;generalize t.Ep=q at*;refine aP W ⟨λZ=>?_,λZ=>?_⟩
 ·cases q<;>simp [T.kind]at Z
  exact h _ w (Ex.refl w) (Own.nil _ _)
 ·have hq:q.th=true\/q.isP=true:=by cases q<;>simp [T.kind,T.th,T.isP,T.frL]at Z ξ|-
  refine⟨λs out w'=>Ex w w'/\∃(r:P) (l:List P),s=r.text/\Ok r/\r.Nr/\(r.th=true\/r.isP=true)/\q.ths=l++r.ths/\l.length+r.text.length<=q.text.length/\Own w.heap.size w' out (l.map T.text),λs _ _=>s.length,⟨Ex.refl w,q,[],rfl,W,nb,hq,rfl,by simp,Own.nil _ _⟩,λs out w' hI=>?_⟩;obtain⟨x,r,l,rfl,α,nr,hr,δ,hl3,ho⟩:=hI;have hpos:1<=r.text.length:=by cases r<;>simp [T.text]
  refine aP α ⟨λZ=>?_,λZ=>?_⟩
  ·cases r<;>simp [T.kind]at Z
   rename_i a b;refine pI α λv1 w1 x1 ε ς=>?_
   have υ:=Ex.trans x x1;refine ε.get (Ex.refl _) (i:=0) (x:=a.text) (by omega) rfl (Q:=λn=>_) λb21 φ ζ G=>?_
   have β:Ex w1 φ:=G▸Ex.alloc w1 _;have H:=Ex.trans υ β;refine Own.push ((ho.ex x1).ex β) H.size (Strs.one ζ G) (by simp only [MM,Mm,MB];omega) λv28 χ ψ η hg hn=>?_
   have θ:=Ex.below H ψ;have ι:Strs χ v1 ((T.par a b).parts.map T.text):=by
    refine(ε.ex β).grown hg λg ω e=>?_
    have h1:=(ho.block g e).2;have h2:=ς g ω;omega
   refine ι.get (Ex.refl _) (i:=1) (x:=b.text) (by omega) rfl (Q:=λn=>_) ⟨⟨θ,b,l++[a],rfl,α.parts b (by simp [T.parts]),nr.2.2,nr.1.2,?_,?_,by simpa using η⟩,?_⟩
   ·rw [δ];simp [T.ths]
   ·have:(T.par a b).text.length=a.text.length+b.text.length+3:=by simp [T.text];omega
    simp only [Mt,Mm,MB];omega
   ·have:(T.par a b).text.length=a.text.length+b.text.length+3:=by simp [T.text];omega
    show b.text.length< (T.par a b).text.length;omega
  ·have hrt:r.th=true:=hr.resolve_right λe=>by cases r<;>simp [T.isP]at e;simp [T.kind]at Z
   intro b35 w36 κ J;have μ:Ex w' w36:=J▸Ex.alloc w' _;have V:=Ex.trans x μ;refine Own.push (ho.ex μ) V.size (Strs.one κ J) (by simp only [MM,Mm,MB];omega) λv42 w43 b43 ν hg hn=>h _ w43 (Ex.below V b43) ?_
   rw [δ,nc hrt];simpa using ν
theorem kY {w:World}{v:Value}{l:List Tx}(hs:Strs w v l)(hl:l.length<=1000000000){i j:Nat}{R:Value->PV}(h:∀v' w',Ex w w'->Own w.heap.size w' v' (wo l i j)->R v' w'):
  PW 152 #[v,.int .i64 i,.int .i64 j] w (aw [.v] R):=by
 refine oM v i j w R ?_;dsimp only [go_sem];dsimp only [go_sem,UInt8.reduceOfNat,UInt32.reduceOfNat,Nat.reduceAdd];obtain⟨a,cap,hv⟩:=hs.slice;refine⟨a,_,cap,hv,λout x w'=>Ex w w'/\∃k:Nat,x=k/\k<=l.length/\Own w.heap.size w' out (wo (l.take k) i j)/\(wo (l.take k) i j).length<=k,λ _ x _=>((l.length:Int) - x).toNat,⟨Ex.refl w,0,rfl,Nl _,Own.nil _ _,Mu _⟩,λout x w' hI=>?_⟩;obtain⟨x,k,rfl,hk,ho,ε⟩:=hI;refine⟨λhc=>?_,λhc=>?_⟩
 ·have G:=oL hc;have hm:=@tN l.length k (by omega);have e:wo (l.take (k+1)) i j=wo (l.take k) i j++if !(k==i)&& !(k==j)then [l[k]]else []:=by
   unfold wo;rw [Mq G,List.zipIdx_append,NK,Nq]
   congr 1
   have:(l.take k).length=k:=by rw [M5];omega
   simp only [List.zipIdx_cons,List.zipIdx_nil,MX,this,List.filter_cons,List.filter_nil];split<;>rfl
  have skip:(!(k==i)&& !(k==j))=false->bJ ((k:Int)+1)/\(Ex w w'/\∃W:Nat,(k:Int)+1=W/\W<=l.length/\Own w.heap.size w' out (wo (l.take W) i j)/\(wo (l.take W) i j).length<=W)/\((l.length:Int) - ((k:Int)+1)).toNat< ((l.length:Int) - k).toNat:=λh=>by
   refine⟨by omega,⟨x,k+1,by omega,G,?_⟩,hm⟩;rw [e,h];simp only [Ot,Pk,MY];exact⟨ho,by omega⟩
  refine hs.get x (i:=k) (x:=l[k]) (by omega) (by simp [G]) (Q:=λn=>_) ⟨λhi=>⟨λV=>?_,λV=>?_⟩,λhi=>?_⟩
  ·have hi:k≠i:=by simp at hi;omega
   have V:k≠j:=by simp at V;omega
   intro ζ γ Z H;have α:Ex w' γ:=H▸Ex.alloc w' _;have J:=Ex.trans x α;refine Own.push (ho.ex α) J.size (Strs.one Z H) (by simp only [Mm,MB];omega) λv24 η δ β hg hn=>⟨by omega,⟨Ex.below J δ,k+1,by omega,G,?_⟩,hm⟩
   rw [e];have:(!(k==i)&& !(k==j))=true:=by simp [hi,V]
   rw [this,MZ rfl];exact⟨β,by simp only [Mt,Mm,MB];omega⟩
  ·have V:k=j:=by simp at V;omega
   exact skip (by simp [V])
  ·have hi:k=i:=by simp at hi;omega
   exact skip (by simp [hi])
 ·have:k=l.length:=by simp at hc;omega
  subst this;rw [MR]at ho;exact h _ w' x ho
theorem yW {w:World}{v:Value}{l:List Tx}(hs:Strs w v l)(hl:l.length<=1000000000){R:Value->PV}(h:∀v' w',Ex w w'->Own w.heap.size w' v' (dd (aH l))->R v' w'):
  PW 97 #[v] w (aw [.v] R):=by
 refine tG v w R ?_;dsimp only [go_sem];dsimp only [go_sem,UInt8.reduceOfNat,UInt32.reduceOfNat,Nat.reduceAdd];refine jF hs (by omega) λv2 w3 x3 ι=>?_
 have hlen:(aH l).length=l.length:=(aE l).length_eq;generalize aH l=m at*;have ε:=ι.strs;obtain⟨a,cap,hv⟩:=ε.slice;refine⟨a,_,cap,hv,λout x w'=>Ex w3 w'/\∃k:Nat,x=k/\k<=m.length/\Own w3.heap.size w' out (dd (m.take k)),λ _ x _=>((m.length:Int) - x).toNat,⟨Ex.refl w3,0,rfl,Nl _,Own.nil _ _⟩,λout x w' hI=>?_⟩;obtain⟨x,k,rfl,hk,ho⟩:=hI;refine⟨λhc=>?_,λhc=>?_⟩
 ·have β:=oL hc;have hm:=@tN m.length k (by omega);have e:dd (m.take (k+1))=DR (dd (m.take k)) m[k]:=by rw [Mq β,jt]
  have κ:=A6 (m.take k);rw [M5]at κ;have push:∀(W:Nat) (G:World),W=w'.heap.size->G=w'.alloc (.cells #[.string (ax m[k])] 9)->(dd (m.take k)).getLast?≠some m[k]->∀{K:Value->PV},(∀α Z,(Ex w3 Z/\∃k':Nat,(k:Int)+1=k'/\k'<=m.length/\Own w3.heap.size Z α (dd (m.take k')))->K α Z)->
    ∃(base n k:Nat) (xs news:List Value),World.ownsRow G base 9 1 out n xs/\base<=Array.size (World.heap G)/\dI G (.slice (some ⟨W,0,none⟩) 1 1) k 1 news/\(n+k<=maxLen/\(n+k)* 16<=140737488355328)/\
   ∀(v':Value) (w':World),World.ownsRow w' base 9 1 v' (n+k) (xs++news)->World.grownBy G w' (Value.ownBlock out)->(∀b:Nat,Value.ownBlock v'=some b->Value.ownBlock out=some b\/Array.size (World.heap G)<=b)->K v' w':=λW G V H J {K} hK=>by
   have ζ:Ex w' G:=H▸Ex.alloc w' _;have γ:=Ex.trans x ζ;refine Own.push (ho.ex ζ) γ.size (Strs.one V H) (by simp only [Mm,MB];omega) λα Z μ η hg hn=>hK _ _ ⟨Ex.below γ μ,k+1,by omega,β,?_⟩
   rw [e];unfold DR;rw [MJ J];exact η
  refine ε.get x (i:=k) (x:=m[k]) (by omega) (by simp [β]) (Q:=λn=>_) ?_;obtain⟨ao,δ,θ⟩:=ho.strs.slice;refine⟨ao,_,δ,θ,λhz=>?_,λhz=>?_⟩
  ·have hz:(dd (m.take k)).length≠0:=by
    intro e0;simp [e0]at hz
   refine⟨ao,_,δ,θ,by omega,ho.strs.get (Ex.refl _) (i:=((dd (m.take k)).length:Int) - 1) (x:=(dd (m.take k)).getLast (λe=>hz (by rw [e];rfl))) (by omega) ?_ (Q:=λn=>_) ⟨λJ=>?_,λJ=>?_⟩⟩
   ·rw [show(((dd (m.take k)).length:Int) - 1).toNat=(dd (m.take k)).length - 1 by omega,<-O5,List.getLast?_eq_some_getLast]
   ·have J:(dd (m.take k)).getLast?≠some m[k]:=by
     rw [List.getLast?_eq_some_getLast (λe=>hz (by rw [e];rfl))];simpa using J
    exact λW G V H=>push W G V H J λα Z hI=>⟨by omega,hI,hm⟩
   ·have J:(dd (m.take k)).getLast?=some m[k]:=by
     rw [List.getLast?_eq_some_getLast (λe=>hz (by rw [e];rfl))];simpa using J
    exact⟨by omega,⟨x,k+1,by omega,β,by rw [e];unfold DR;rw [MZ J];exact ho⟩,hm⟩
  ·have hz:dd (m.take k)=[]:=by
    refine MS ?_;simpa using hz
   exact λW G V H=>push W G V H (by rw [hz];simp) λα Z hI=>⟨by omega,hI,hm⟩
 ·have:k=m.length:=by simp at hc;omega
  subst this;rw [MR]at ho;exact h _ w' (Ex.trans x3 x) (ho.mono x3.size)
theorem GG {f:Tx}{ps:List P}{v:Value}{w:World}{u:U}(hs:Strs w v (ps.map T.text))(hl:db (ps.map T.text)<=1000000000)(d:nW 0 (resL f (parL ps)) σ0 u){R:aF->Bool->PV}
  (h:∀w',Ex w w'->(∀s,jP u=some s->R s true w')/\(jP u=none->R [] false w')):PW 151 #[.string (ax f),v] w (aw [.s,.b] R):=by
 refine tQ f v w R ?_;dsimp only [go_sem];dsimp only [go_sem,UInt8.reduceOfNat,UInt32.reduceOfNat,Nat.reduceAdd];obtain⟨a,cap,hv⟩:=hs.slice;have J:=d.den.len;have G:=pP (parL ps) f;rw [G,fp]at J;have β:ps≠[]->joinS 38 (ps.map T.text)=(parL ps).text:=λH=>(pZ H).symm
 have γ:ps=[]->(parL ps).text=[48]:=λe=>by rw [e];rfl
 refine⟨a,_,cap,hv,λV=>?_,λV=>?_⟩
 ·have H:ps≠[]:=by
   intro e;simp [e]at V
  refine sd hs (by simpa using H) (by omega) ?_;rw [β H];revert G J;generalize (parL ps).text=body;intro J G;refine⟨by omega,λs i w'=>w'=w/\∃m:Nat,i=(m:Int) - 1/\m<=f.length/\s=wrap (f.drop m) body,λ _ i _=>(i+1).toNat,⟨rfl,f.length,rfl,Mu _,by rw [Oj];rfl⟩,λs i w' hI=>?_⟩;obtain⟨rfl,m,rfl,hm,rfl⟩:=hI;refine⟨λV=>?_,λV=>?_⟩
  ·obtain⟨m,rfl⟩:∃k,m=k+1:=⟨m - 1,by simp at V;omega⟩
   have W:m< f.length:=by omega
   have e:(((m+1:Nat):Int) - 1)=(m:Int):=by omega
   have Z:=pg W body;have α:=fp (f.drop (m+1)) body;rw [NX]at α;rw [e,xj W];refine⟨by omega,⟨by omega,by omega,by omega⟩,by simp,by simp,by simp only [Mt,Mm,MB];omega,by omega,⟨rfl,m,rfl,by omega,?_⟩,by show((m:Int) - 1+1).toNat< ((m:Int)+1).toNat;omega⟩;rw [Z];rfl
  ·have:m=0:=by simp at V;omega
   subst this;rw [Oe,<-G];exact A8 d h
 ·have H:ps=[]:=by
   cases ps with
   | nil=>rfl
   | cons=>simp at V
  rw [<-γ H];revert G J;generalize (parL ps).text=body;intro J G;refine⟨by omega,λs i w'=>w'=w/\∃m:Nat,i=(m:Int) - 1/\m<=f.length/\s=wrap (f.drop m) body,λ _ i _=>(i+1).toNat,⟨rfl,f.length,rfl,Mu _,by rw [Oj];rfl⟩,λs i w' hI=>?_⟩;obtain⟨rfl,m,rfl,hm,rfl⟩:=hI;refine⟨λV=>?_,λV=>?_⟩
  ·obtain⟨m,rfl⟩:∃k,m=k+1:=⟨m - 1,by simp at V;omega⟩
   have W:m< f.length:=by omega
   have e:(((m+1:Nat):Int) - 1)=(m:Int):=by omega
   have Z:=pg W body;have α:=fp (f.drop (m+1)) body;rw [NX]at α;rw [e,xj W];refine⟨by omega,⟨by omega,by omega,by omega⟩,by simp,by simp,by simp only [Mt,Mm,MB];omega,by omega,⟨rfl,m,rfl,by omega,?_⟩,by show((m:Int) - 1+1).toNat< ((m:Int)+1).toNat;omega⟩;rw [Z];rfl
  ·have:m=0:=by simp at V;omega
   subst this;rw [Oe,<-G];exact A8 d h
def cC (e B:Nat)(w:World)(v:Value)(n:Nat)(xs:List Value):Prop:=w.ownsRow B e 5 v n xs
section
variable {e B:Nat} {w w':World} {v:Value} {n:Nat} {xs:List Value}
theorem cC.nil (e B:Nat)(w:World):cC e B w (.slice none 0 0) 0 []:=Pt _ _ _ _
theorem cC.block (h:cC e B w v n xs):∀b,v.ownBlock=some b->B<=b/\b< w.heap.size:=PD h
theorem cC.mono {G:Nat}(h:cC e B w v n xs)(hb:G<=B):cC e G w v n xs:=PI h hb
theorem cC.kp {S:Nat->Prop}(h:cC e B w v n xs)(k:Kp w w' S)(H:∀g,v.ownBlock=some g->¬S g):cC e B w' v n xs:=by
 refine⟨h.1,?_⟩;rcases h.2 with J | ⟨g,cap,cur,rfl,hb,G,rest⟩
 ·exact .inl J
 ·exact .inr ⟨g,cap,cur,rfl,hb,by rw [k.block g (Na.1 G).1 (H g rfl)];exact G,rest⟩
theorem cC.ex (h:cC e B w v n xs)(x:Ex w w'):cC e B w' v n xs:=h.kp (Kp.ah x λ _=>False) λ _ _ h=>h
theorem cC.cell (h:cC e B w v n xs):(v= .slice none 0 0/\n=0/\xs=[])\/∃g cap,v= .slice (some ⟨g,0,none⟩) n cap/\g< w.heap.size/\∀j u,xs[j]?=some u->w.cell? ⟨g,0+j,none⟩=some u:=by
 have G:=h.1;rcases h.2 with⟨V,H⟩ | ⟨g,cap,cur,rfl,hb,J,Z,h2,h3,h4⟩
 ·left;refine⟨V,H,MS (by rw [G,H])⟩
 ·refine .inr ⟨g,cap,rfl,(Na.1 J).1,λj u hu=>?_⟩;have W:j< xs.length:=(No.1 hu).1;unfold World.cell?;simp only [J,MX];rw [<-h4,Oa (by rw [<-G];exact W),N0]at hu;exact hu
theorem cC.src (h:cC e B w v n xs)(ha:xs.all aB=true):dI w v n 5 xs:=by
 refine⟨h.1,ha,?_⟩;rcases h.cell with⟨rfl,rfl,_⟩ | ⟨g,cap,rfl,_,G⟩
 ·exact .inl ⟨rfl,rfl⟩
 ·exact .inr ⟨g,0,cap,rfl,G⟩
theorem cC.one {b:Nat}{cs:List Value}(G:cs.length=5)(hB:B<=w.heap.size)(hb:b=w.heap.size)(h:w'=w.alloc (.cells cs.toArray e)):cC e B w' (.slice (some ⟨b,0,none⟩) 1 1) 1 cs:=by
 subst hb h;refine⟨by rw [G],.inr ⟨_,1,cs.toArray,rfl,hB,?_,by simp,by unfold maxLen;omega,by simp [G],Pf (by simp [G])⟩⟩;unfold World.alloc;simp
theorem cC.push {x:Value}{m by_:Nat}{H:List Value}(h:cC e B w v n xs)(hB:B<=w.heap.size)(V:dI w x m 5 H)(J:by_<=48)(hl:n+m<=1099511627776){K:Value->PV}
  (W:∀v' w',cC e B w' v' (n+m) (xs++H)->w.grownBy w' v.ownBlock->(∀b,v'.ownBlock=some b->v.ownBlock=some b\/w.heap.size<=b)->K v' w'):
  ∃(base n' m':Nat) (G news:List Value),World.ownsRow w base e 5 v n' G/\base<=Array.size (World.heap w)/\dI w x m' 5 news/\(n'+m'<=maxLen/\(n'+m')* by_<=140737488355328)/\
   ∀(v':Value) (w':World),World.ownsRow w' base e 5 v' (n'+m') (G++news)->World.grownBy w w' (Value.ownBlock v)->(∀b:Nat,Value.ownBlock v'=some b->Value.ownBlock v=some b\/Array.size (World.heap w)<=b)->K v' w':=
 ⟨B,n,m,xs,H,h,hB,V,⟨by unfold maxLen;omega,by have :=PM (Mu (n+m)) J;omega⟩,λv' w' Z hg hw=>W v' w' Z hg hw⟩
theorem cC.set {g cap j:Nat}{x:Value}(h:cC e B w (.slice (some ⟨g,0,none⟩) n cap) n xs)(hw:w'=w.setCell ⟨g,j,none⟩ x)(hj:j< xs.length):cC e B w' (.slice (some ⟨g,0,none⟩) n cap) n (xs.set j x):=by
 subst hw;rcases h.2 with⟨H,_⟩ | ⟨g',G,cur,J,hb,V,W,Z,h3,h4⟩
 ·cases H
 ·cases J;have hl:=h.1;have e:(w.setCell ⟨g,j,none⟩ x).heap[g]?=some (.cells (cur.setIfInBounds j x) e (0,0)):=by
   rw [Sort.setCell_eq];simp [Sort.mapBlock,On,V,Sort.onCells]
  refine⟨by rw [NU];exact hl,.inr ⟨g,cap,_,by simp,hb,e,by simpa using W,Z,by simpa using h3,?_⟩⟩;rw [Array.toList_setIfInBounds,List.take_set,h4]
theorem cC.fr (h:cC e B w v n xs){g:Nat}(H:v.ownBlock=some g)(j:Nat):w.frozen? ⟨g,j,none⟩=false:=by
 rcases h.2 with⟨rfl,V⟩ | ⟨J,cap,cur,rfl,hb,G,_⟩
 ·cases H
 ·have e:J=g:=Ng H;subst e;unfold World.frozen?;simp only [G];simp
end
def fy (k a b:UInt8)(s:Tx)(q:Bool):List Value:=[.int .u8 k.toNat,.int .u8 a.toNat,.int .u8 b.toNat,.string (ax s),.bool q]
def uk:Off UInt8->List Value->Prop
 | .tau p,cs=>∃a b s,cs=fy 126 a b p.text s
 | .snd a b p,cs=>∃s,cs=fy 33 a b p.text s
 | .rcv a x q s,cs=>cs=fy 63 a x q.text s
def fe:List (Off UInt8)->List Value->Prop
 | [],xs=>xs=[]
 | o::os,xs=>∃cs G,xs=cs++G/\uk o cs/\fe os G
theorem uk.any {o:Off UInt8}{cs:List Value}(h:uk o cs):∃(k a b:UInt8) (s:Tx) (q:Bool),cs=fy k a b s q:=by
 cases o with
 | tau p=>obtain⟨a,b,s,h⟩:=h;exact⟨_,_,_,_,_,h⟩
 | snd a b p=>obtain⟨s,h⟩:=h;exact⟨_,_,_,_,_,h⟩
 | rcv a b p s=>exact⟨_,_,_,_,_,h⟩
theorem fe.app:∀{os G:List (Off UInt8)} {xs H:List Value},fe os xs->fe G H->fe (os++G) (xs++H)
 | [],_,xs,H,h,k=>by cases h;exact k
 | o::os,_,xs,H,⟨cs,zs,J,V,W⟩,k=>⟨cs,zs++H,by rw [J,M8],V,W.app k⟩
theorem fe.len:∀{os:List (Off UInt8)} {xs:List Value},fe os xs->xs.length=os.length* 5/\xs.all aB=true
 | [],xs,h=>by cases h;exact⟨rfl,rfl⟩
 | o::os,xs,⟨cs,zs,G,H,J⟩=>by
  obtain⟨h4,h5⟩:=J.len;obtain⟨k,a,b,s,q,e⟩:=H.any;subst G e;exact⟨by simp [fy,h4];omega,by rw [O6,h5];rfl⟩
theorem fe.at:∀{os:List (Off UInt8)} {xs:List Value},fe os xs->∀{i:Nat} (hi:i< os.length),∃cs,uk os[i] cs/\∀j,j< 5->xs[i* 5+j]?=cs[j]?
 | o::os,xs,⟨cs,zs,H,G,V⟩,0,_=>⟨cs,G,λj W=>by
   obtain⟨k,a,b,s,q,e⟩:=G.any;have Z:cs.length=5:=by rw [e];rfl
   rw [H,List.getElem?_append_left (by omega)];congr 1;omega⟩
 | o::os,xs,⟨cs,zs,H,G,V⟩,i+1,hi=>by
   obtain⟨J,k1,k2⟩:=V.at (i:=i) (by simpa using hi);refine⟨J,k1,λj W=>?_⟩;obtain⟨k,a,b,s,q,e⟩:=G.any;have Z:cs.length=5:=by rw [e];rfl
   rw [H,List.getElem?_append_right (by omega),<-k2 j W];congr 1;omega
theorem fe.one {o:Off UInt8}{cs:List Value}(h:uk o cs):fe [o] cs:=⟨cs,[],by simp,h,rfl⟩
abbrev tO:Nat:=166
theorem mT:∀(n:Nat) {t:P},t.size<=n->Ok t->t.smp=true->t.size<=1000000->∀{w:World} {R:Value->PV},(∀v w' xs,Ex w w'->cC tO w.heap.size w' v (offs t).length xs->fe (offs t) xs->R v w')->PW 145 #[.string (ax t.text)] w (aw [.v] R):=by
 intro n
 induction n with
 | zero=>intro t h;have :=aY t;omega
 | succ n ih=>
  intro t hn ok hs hsz w R h;refine py _ w R ?_;dsimp only [go_sem];dsimp only [go_sem,UInt8.reduceOfNat,UInt32.reduceOfNat,Nat.reduceAdd];refine aP ok ?_;have none_:offs t=[]->R (.slice none 0 0) w:=λe=>by
   have :=h (.slice none 0 0) w [] (Ex.refl w);rw [e]at this;exact this (cC.nil _ _ _) rfl
  cases t with
  | nil=>repeat' first | exact none_ rfl | refine aT (by simp [T.kind]) ?_
  | par p q=>repeat' first | exact none_ rfl | refine aT (by simp [T.kind]) ?_
  | res x p=>repeat' first | exact none_ rfl | refine aT (by simp [T.kind]) ?_
  | mat a b p=>repeat' first | exact none_ rfl | refine aT (by simp [T.kind]) ?_
  | snd a b p=>
   refine cN rfl (cN rfl ⟨λ _=>True,λw5 ε=>⟨trivial,⟨by omega,by simp [T.text];omega⟩,⟨by omega,by simp [T.text];omega⟩,⟨by omega,by simp [T.text];omega⟩,aP ok ⟨trivial,λb8 w9 J G=>⟨trivial,?_⟩⟩⟩⟩);have x5:Ex w w5:=ε▸Ex.drew w;exact h _ w9 _ (Ex.trans x5 (G▸Ex.alloc w5 _)) (cC.one (cs:=fy 33 a b p.text false) rfl x5.size J G) (fe.one ⟨false,rfl⟩)
  | rcv a b p=>
   refine aT (by simp [T.kind]) (cN rfl ⟨λ _=>True,λw5 ε=>⟨trivial,⟨by omega,by simp [T.text];omega⟩,⟨by omega,by simp [T.text];omega⟩,⟨by omega,by simp [T.text];omega⟩,aP ok ⟨trivial,λb8 w9 J G=>⟨trivial,?_⟩⟩⟩⟩);have x5:Ex w w5:=ε▸Ex.drew w;exact h _ w9 _ (Ex.trans x5 (G▸Ex.alloc w5 _)) (cC.one (cs:=fy 63 a b p.text false) rfl x5.size J G) (fe.one rfl)
  | tau p=>
   refine aT (by simp [T.kind]) (aT (by simp [T.kind]) (cN rfl ⟨⟨by omega,by simp [T.text];omega⟩,λb8 w9 J G=>?_⟩));exact h _ w9 _ (G▸Ex.alloc w _) (cC.one (cs:=fy 126 0 0 p.text false) rfl (Mu _) J G) (fe.one ⟨0,0,false,rfl⟩)
  | sum p q=>
   have hs:(p.gp&&q.gp&&(p.smp&&q.smp))=true:=hs;simp only [Mp]at hs;have ζ:=ok.parts p (by simp [T.parts]);have ς:=ok.parts q (by simp [T.parts]);have e:(T.sum p q).size=p.size+q.size+1:=by simp only [T.size]
   refine aT (by simp [T.kind]) (aT (by simp [T.kind]) (aT (by simp [T.kind]) (cN rfl (cO ok λv1 w1 x1 κ=>⟨λw'=>Ex w1 w',λυ γ=>⟨γ▸Ex.drew w1,?_⟩⟩))));have H:Ex w1 υ:=γ▸Ex.drew w1;refine κ.EX (i:=0) (x:=p.text) (by omega) rfl (Q:=λn=>_) (κ.EX (i:=1) (x:=q.text) (by omega) rfl (Q:=λn=>_) ?_);have V:=Ex.trans x1 H;refine ih (by omega) ζ hs.2.1 (by omega) λv26 w27 xs W Z μ=>⟨Ex.trans H W,ih (by omega) ς hs.2.2 (by omega) λv28 φ ys α ν δ=>⟨Ex.trans H (Ex.trans W α),?_⟩⟩
   have β:=Ex.trans V (Ex.trans W α);have l1:=eY p;have l2:=eY q;refine cC.push ((Z.ex α).mono V.size) β.size (ν.src δ.len.2) (by omega) (by omega) λv35 ξ ho hg hn=>?_
   have χ:Below w.heap.size φ ξ:=Below.grown (Pg _ _) hg β.size λk hk=>by have :=(Z.block k hk).1;have :=V.size;omega
   refine⟨Ob (Ex.trans H (Ex.trans W α)) ?_,h _ ξ _ (Ex.below β χ) (by rw [show(offs (T.sum p q)).length=(offs p).length+(offs q).length from Mt];exact ho) (μ.app δ)⟩;exact Below.grown (Pg _ _) hg (Ex.trans H (Ex.trans W α)).size λk hk=>by have :=(Z.block k hk).1;have :=H.size;omega
  | rep p=>
   have η:(p.isR&&p.smp)=true:=hs;simp only [Mp]at η;have ζ:=ok.parts p (by simp [T.parts]);refine aT (by simp [T.kind]) (aT (by simp [T.kind]) (aT (by simp [T.kind]) (aT (by simp [T.kind]) (cN rfl ⟨⟨by omega,by simp [T.text];omega⟩,?_⟩))));have e:(T.rep p).size=p.size+1:=by simp only [T.size]
   refine ih (t:=p) (by omega) ζ η.2 (by omega) λv w1 xs x1 ho hm=>?_
   cases p<;>try (simp [T.isR]at η;done)
   rename_i a b q;obtain⟨cs,ys,rfl,θ,rfl⟩:=hm;have θ:cs=fy 63 a b q.text false:=θ;subst θ;have ψ:(offs (T.rcv a b q)).length=1:=rfl;rw [ψ]at ho;rcases ho.cell with⟨_,h0,_⟩ | ⟨g,cap,rfl,hg,hc⟩
   ·cases h0
   have ω:=ho.fr (g:=g) rfl;have hgb:=(ho.block g rfl).1;refine⟨_,_,cap,rfl,λx w'=>(x=0/\w'=w1)\/(x=1/\w'=w1.setCell ⟨g,4,none⟩ (.bool true)),λx _=>(1 - x).toNat,.inl ⟨rfl,rfl⟩,λx w' hI=>⟨λι=>?_,λι=>?_⟩⟩
   ·rcases hI with⟨rfl,rfl⟩ | ⟨rfl,_⟩
    ·have c4:w'.cell? ⟨g,4,none⟩=some (.bool false):=hc 4 _ rfl;refine⟨g,0,_,cap,rfl,by omega,by omega,⟨⟨_,c4⟩,ω 4⟩,λw51 ο=>⟨by omega,.inr ⟨rfl,ο⟩,by show((1:Int) - (0+1)).toNat< ((1:Int) - 0).toNat;decide⟩⟩
    ·simp at ι
   ·rcases hI with⟨rfl,_⟩ | ⟨_,rfl⟩
    ·simp at ι
    ·exact h _ _ _ (Ex.own x1 hgb _) (ho.set rfl (by simp [fy])) (fe.one rfl)
def Gr (w0:World)(o0:Value)(w:World)(o:Value):Prop:=Kp w0 w (λg=>o0.ownBlock=some g)/\∀g,o.ownBlock=some g->o0.ownBlock=some g\/w0.heap.size<=g
theorem Gr.refl (w:World)(o:Value):Gr w o w o:=⟨Kp.ah (Ex.refl w) _,λ _ h=> .inl h⟩
theorem Gr.size {w0 w:World}{o0 o:Value}(h:Gr w0 o0 w o):w0.heap.size<=w.heap.size:=h.1.size
theorem Gr.trans {a b c:World}{G H J:Value}(h:Gr a G b H)(k:Gr b H c J):Gr a G c J:=
 ⟨Kp.trans h.1 k.1 λg V e=>(h.2 g e).resolve_right λW=>by omega,λg V=>(k.2 g V).elim (λe=>h.2 g e) λe=> .inr (Nv h.1.size e)⟩
theorem Gr.ex {w0 w w':World}{o0 o:Value}(h:Gr w0 o0 w o)(x:Ex w w'):Gr w0 o0 w' o:=h.trans ⟨Kp.ah x _,λ _ e=> .inl e⟩
theorem Gr.grown {w0 w w':World}{o0 o G:Value}(h:Gr w0 o0 w o)(H:w.grownBy w' o.ownBlock)(J:∀g,G.ownBlock=some g->o.ownBlock=some g\/w.heap.size<=g):Gr w0 o0 w' G:=
 h.trans ⟨Kp.aQ H λ _ e=>e,J⟩
theorem Gr.nil {w0 w:World}{o0 o:Value}(h:Gr w0 o0 w o)(G:o0.ownBlock=none):Ex w0 w:=by
 obtain⟨k,_⟩:=h;exact⟨k.os,k.tape,k.output,k.size,λg H=>k.block g H (by rw [G];simp)⟩
structure nj (B:Nat)(w0:World)(o0:Value)(fine:Bool)(out:Value)(w:World)(acc:List U):Prop where
 gr:Gr w0 o0 w out
 ow:Own B w out (outs acc)
 fi:fine=iH acc
 hB:B<=w0.heap.size
section
variable {B:Nat} {w0 w w':World} {o0 out:Value} {fine:Bool} {acc:List U}
theorem nj.ex (h:nj B w0 o0 fine out w acc)(x:Ex w w'):nj B w0 o0 fine out w' acc:=⟨h.gr.ex x,h.ow.ex x,h.fi,h.hB⟩
theorem nj.start (h:nj B w0 o0 fine out w acc):nj B w out fine out w acc:=⟨Gr.refl _ _,h.ow,h.fi,Nv h.hB h.gr.size⟩
theorem nj.back {w1:World}{H J:Value}{f2:Bool}{G:List U}(h:nj B w0 o0 fine H w1 acc)(k:nj B w1 H f2 J w G):nj B w0 o0 f2 J w G:=⟨h.gr.trans k.gr,k.ow,k.fi,h.hB⟩
theorem nj.lt (h:nj B w0 o0 fine out w acc):∀g,out.ownBlock=some g->g< w.heap.size:=λg G=>(h.ow.block g G).2
theorem yD (l:List U):(outs l).length=l.length:=by unfold outs;simp
theorem I' (h:nj B w0 o0 fine out w acc)(hl:acc.length<=1000000000){vv:U}{s:aF}{q:Bool}(hs:s=(jP vv).getD [])(hq:q=(jP vv).isSome){K:Bool->Value->PV}(hK:∀fn v' w',nj B w0 o0 fn v' w' (acc++[vv])->K fn v' w'):
  ∃J:Bool->aF->PV,((fine=true->J q s w)/\(fine=false->J false s w))/\∀(fn:Bool) (nx:aF) (W:World),J fn nx W->∀(ζ:Nat) (H:World),ζ=Array.size (World.heap W)->H=World.alloc W (Obj.cells #[(Value.string (ax nx))] 9)->
   ∃(G β γ:Nat) (δ V:List Value),World.ownsRow H G 9 1 out β δ/\G<=Array.size (World.heap H)/\dI H (Value.slice (some ⟨ζ,0,none⟩) 1 1) γ 1 V/\(β+γ<=maxLen/\(β+γ)* 16<=140737488355328)/\
   ∀(Z:Value) (α:World),World.ownsRow α G 9 1 Z (β+γ) (δ++V)->World.grownBy H α (Value.ownBlock out)->(∀b:Nat,Value.ownBlock Z=some b->Value.ownBlock out=some b\/Array.size (World.heap H)<=b)->K fn Z α:=by
 have e2:iH (acc++[vv])=(fine&&q):=by
  rw [u0,hq,h.fi];simp [iH]
 refine⟨λfn nx w'=>fn=iH (acc++[vv])/\nx=s/\w'=w,⟨λhf=>⟨by rw [e2,hf,Oh],rfl,rfl⟩,λhf=>⟨by rw [e2,hf,PN],rfl,rfl⟩⟩,λfn nx W hJ ζ H θ ε=>?_⟩;obtain⟨ι,rfl,rfl⟩:=hJ;have η:Ex W H:=ε▸Ex.alloc W _;refine Own.push (h.ow.ex η) (Nv h.hB (Nv h.gr.size η.size)) (Strs.one θ ε) (by rw [yD];simp only [Mm,MB];omega) λZ α κ ho hg hn=>hK fn Z α ⟨(h.gr.ex η).grown hg hn,?_,ι,h.hB⟩
 rw [yU,show outs [vv]=[nx] by rw [hs];rfl];exact ho
end
theorem Fw {f:Tx}{ps:List P}{v:Value}{w:World}{u:U}(G:Strs w v (ps.map T.text))(H:db (ps.map T.text)<=1000000000)(d:nW 0 (resL f (parL ps)) σ0 u){R:aF->Bool->PV}
  (h:∀s q w',Ex w w'->s=(jP u).getD []->q=(jP u).isSome->R s q w'):PW 151 #[.string (ax f),v] w (aw [.s,.b] R):=
 GG G H d λw' x=>⟨λs e=>h s true w' x (by rw [e];rfl) (by rw [e];rfl),λe=>h [] false w' x (by rw [e];rfl) (by rw [e];rfl)⟩
theorem Cs {c:Nat}:∀{l:List Tx},(∀s∈l,s.length<=c)->db l<=l.length* (c+3)
 | [],_=>by simp [db]
 | s::l,h=>by
  have H:=h s (by simp);have J:=Cs (c:=c) (l:=l) λx G=>h x (by simp [G])
  rw [dG,Mm,Nat.succ_mul];omega
theorem xm {X:Type}(l:List X)(i j:Nat):(wo l i j).length<=l.length:=by
 unfold wo;rw [MM];exact Nv (N1 _ _) (by simp)
theorem FD {X Y:Type}(f:X->Y)(l:List X)(i j:Nat):wo (l.map f) i j=(wo l i j).map f:=by
 rw [BX,BX,xJ]
theorem lens {u:U}(δ:u.size<=60):u.ths.length<=60/\(∀i (h:i< u.ths.length),(offs u.ths[i]).length<=60)/\(∀i k c d p (l:List (Off Nat)),l.length<=60->(l.flatMap (E3 u i k c d p)).length<=60)/\(∀i c d p k,k<=u.ths.length->((List.range k).flatMap (E2 u i c d p)).length<=3600)/\
  (∀i j (h:i< u.ths.length),(((offs u.ths[i]).take j).flatMap (E1 u i)).length<=216000)/\∀i,i<=u.ths.length->((List.range i).flatMap (E0 u)).length<=12960000:=by
 have W:u.ths.length<=60:=by have :=xn u;omega
 have J:∀i (h:i< u.ths.length),(offs u.ths[i]).length<=60:=λi h=>by
  have V:=eY u.ths[i];have h2:=eg u _ (Mx h);omega
 have Z:∀i k c d p (l:List (Off Nat)),l.length<=60->(l.flatMap (E3 u i k c d p)).length<=60:=λi k c d p l hl=>by
  have V:=gM (f:=E3 u i k c d p) (c:=1) (l:=l) λx _=>by
   cases x with
   | rcv e' x q s=>unfold E3;simp only;split<;>simp
   | _=>simp [E3]
  omega
 have β:∀i c d p k,k< u.ths.length->(E2 u i c d p k).length<=60:=λi c d p k hk=>by
  unfold E2;split
  ·simp
  ·rw [cD hk];exact Z i k c d p _ (J k hk)
 have G:∀i c d p k,k<=u.ths.length->((List.range k).flatMap (E2 u i c d p)).length<=3600:=λi c d p k hk=>by
  have V:=gM (f:=E2 u i c d p) (c:=60) (l:=List.range k) λx hx=>β i c d p x (by have :=NV.1 hx;omega)
  rw [OJ]at V;omega
 have γ:∀i o,(E1 u i o).length<=3600:=λi o=>by
  cases o with
  | tau p=>simp [E1]
  | rcv=>simp [E1]
  | snd c d p=>exact G i c d p _ (Mu _)
 have H:∀i j (h:i< u.ths.length),(((offs u.ths[i]).take j).flatMap (E1 u i)).length<=216000:=λi j h=>by
  have V:=gM (f:=E1 u i) (c:=3600) (l:=(offs u.ths[i]).take j) λx _=>γ i x
  rw [M5]at V;have :=J i h;omega
 refine⟨W,J,Z,G,H,λi hi=>?_⟩;have V:=gM (f:=E0 u) (c:=216000) (l:=List.range i) λx hx=>by
  have hx:=NV.1 hx;have α:x< u.ths.length:=by omega
  have :=H x (offs u.ths[x]).length α;rw [MR]at this;unfold E0;rw [cD α];exact this
 rw [OJ]at V;omega
abbrev tS:Nat:=9
def DO (w:World)(v src:Value)(K:Value->PV):Prop:=
 ∃(base n m:Nat) (xs news:List Value),World.ownsRow w base tS 1 v n xs/\base<=Array.size (World.heap w)/\dI w src m 1 news/\(n+m<=maxLen/\(n+m)* 16<=140737488355328)/\
  ∀(v':Value) (w':World),World.ownsRow w' base tS 1 v' (n+m) (xs++news)->World.grownBy w w' (Value.ownBlock v)->(∀b:Nat,Value.ownBlock v'=some b->Value.ownBlock v=some b\/Array.size (World.heap w)<=b)->K v' w'
theorem Cp {B:Nat}{w:World}{v x:Value}{l m:List Tx}(h:Own B w v l)(hB:B<=w.heap.size)(G:Strs w x m)(H:l.length+m.length<=1099511627776){K:Value->PV}(J:∀v' w',Below B w w'->Own B w' v' (l++m)->K v' w'):DO w v x K:=
 Own.push h hB G H λv' w' b o _ _=>J v' w' b o
def H7 (w:World)(out:Value)(fine:Bool)(s:aF)(q:Bool)(K:Bool->Value->PV):Prop:=
 ∃J:Bool->aF->PV,((fine=true->J q s w)/\(fine=false->J false s w))/\∀(fn:Bool) (nx:aF) (G:World),J fn nx G->∀(H:Nat) (V:World),H=Array.size (World.heap G)->V=World.alloc G (Obj.cells #[(Value.string (ax nx))] tS)->DO V out (Value.slice (some ⟨H,0,none⟩) 1 1) (K fn)
theorem KY {ps:List P}(h:∀q∈ps,q.aJ<=300)(G:ps.length<=63):db (ps.map T.text)<=1000000000:=by
 have H:=Cs (c:=300) (l:=ps.map T.text) λs J=>by
  obtain⟨q,V,rfl⟩:=Nb.1 J;rw [aV];exact h q V
 rw [MM]at H;have :=PM G (Mu 303);omega
theorem yd {t:P}(ok:lP t):t.ths.length<=60/\∀q∈t.ths,q.size<=60/\q.aJ<=300:=by
 have J:=ok.size;have H:∀t:P,t.ths.length<=t.size/\∀q∈t.ths,q.size<=t.size:=by
  intro t
  induction t with
  | nil=>simp [T.ths]
  | par p q _ G=>
   refine⟨by have :=G.1;simp only [T.ths,Mm,T.size];omega,λr hr=>?_⟩;rcases MH.1 hr with rfl | hr
   ·simp only [T.size];omega
   ·have :=G.2 r hr;simp only [T.size];omega
  | res x p G=>exact⟨by have :=G.1;simp only [T.ths,T.size];omega,λr hr=>by have :=G.2 r hr;simp only [T.size];omega⟩
  | _=>simp [T.ths,T.size]
 refine⟨by have :=(H t).1;omega,λq V=>?_⟩;have W:=(H t).2 q V;have Z:=dL q;omega
theorem Fh {w w':World}{b:Nat}{x y:Tx}(hb:b=w.heap.size)(h:w'=w.alloc (.cells #[.string (ax x),.string (ax y)] tS)):Strs w' (.slice (some ⟨b,0,none⟩) 2 2) [x,y]:=by
 subst hb h;refine .inr ⟨_,0,2,rfl,by rw [size_alloc];omega,λi z G=>?_⟩;rw [MX];refine aa ?_
 match i,G with
 | 0,G=>simp at G|-;exact G▸rfl
 | 1,G=>simp at G|-;exact G▸rfl
 | i+2,G=>simp at G
section
variable {t:P} {u:U} {w:World} {v5 out:Value} {b1 b2 B:Nat} {fine:Bool} {acc:List U}
theorem JX (ok:lP t)(su:SU t u){i:Nat}(hi:i< t.ths.length)(hi':i< u.ths.length){p:P}{p':U}(ho:Off.tau p∈offs t.ths[i])(ho':Off.tau p'∈offs u.ths[i])(hae:qn UInt8.toNat (λz=>(asg u.frL t.frL ρ0 z).toNat) (.tau p) (.tau p'))
  (hv:Strs w v5 (t.ths.map T.text)) (hb:b1< w.heap.size) (hc:w.cell? ⟨b1,3,none⟩=some (.string (ax p.text))) (hI:nj B w out fine out w acc) (hl:acc.length<=1000000000) {J:Bool->Value->PV} (hJ:∀fn v' w',nj B w out fn v' w' (acc++[KL u i p'])->J fn v' w'):
  ∃G:PV,∀H:World,H=World.drew w->G H/\∃η:aF,(∀w',G w'->World.cell? w' ⟨b1,3,none⟩=some (Value.string (ax η)))/\
   (PW 152 #[v5,(Value.int IntKind.i64 i),(Value.int IntKind.i64 i)] H (aw [.v] fun(v49:Value) (Z:World)=>G Z/\∀(θ:Nat) (β:World),θ=Array.size (World.heap Z)->β=World.alloc Z (Obj.cells #[(Value.string (ax η))] tS)->G β/\DO β v49 (Value.slice (some ⟨θ,0,none⟩) 1 1) λξ ι=>G ι/\PW 151 #[(Value.string (ax t.frL)),ξ] ι (aw [.s,.b] fun(s60:aF) (q61:Bool) (ο:World)=>G ο/\H7 ο out fine s60 q61 J)))/\
   (∀(κ:Nat) (γ:World),κ=Array.size (World.heap H)->γ=World.alloc H (Obj.cells #[(Value.string (ax η))] tS)->G γ/\PW 152 #[v5,(Value.int IntKind.i64 i),(Value.int IntKind.i64 i)] γ (aw [.v] fun(ς:Value) (μ:World)=>G μ/\DO μ ς (Value.slice (some ⟨κ,0,none⟩) 1 1) λv85 ν=>G ν/\PW 151 #[(Value.string (ax t.frL)),v85] ν (aw [.s,.b] fun(s87:aF) (q88:Bool) (υ:World)=>G υ/\H7 υ out fine s87 q88 J))):=by
 obtain⟨hn,φ⟩:=yd ok;have χ:=Mx hi;have hpl:p.aJ<=300:=by
  have h1:=(aW (su.smpP _ χ) _ ho).1.size;have h2:=(φ _ χ).1;have h3:=dL p;simp only [Off.tm,T.size]at h1;omega
 have hwl:=xm t.ths i i;have hbound:db ((wo t.ths i i++[p]).map T.text)<=1000000000:=by
  refine KY (λq hq=>?_) (by rw [Mt,OB];omega);rcases My.1 hq with hq | hq
  ·exact(φ _ (lg hq)).2
  ·cases MA.1 hq;exact hpl
 have den:=(Cy ok su hi hi' ho ho' hae).1;have e:wo (t.ths.map T.text) i i++[p.text]=(wo t.ths i i++[p]).map T.text:=by rw [FD,Nq];rfl
 have ψ:(wo (t.ths.map T.text) i i).length+[p.text].length<=1099511627776:=by
  have :=xm (t.ths.map T.text) i i;rw [MM]at this;simp only [Mm,MB];omega
 have mk:∀{v':Value} {w':World},Ex w w'->Strs w' v' ((wo t.ths i i++[p]).map T.text)->PW 151 #[(Value.string (ax t.frL)),v'] w' (aw [.s,.b] fun(s:aF) (q:Bool) (w2:World)=>Ex w w2/\H7 w2 out fine s q J):=λx hs=>
  Fw hs hbound den λs q w2 x2 h1 h2=>⟨Ex.trans x x2,I' (hI.ex (Ex.trans x x2)) hl h1 h2 hJ⟩
 refine⟨λw'=>Ex w w',λH ω=>?_⟩;have α:Ex w H:=ω▸Ex.drew w;refine⟨α,p.text,λw' x=>by rw [x.cell (a:=⟨b1,3,none⟩) hb];exact hc,?_,λκ γ hb76 ε=>?_⟩
 ·refine kY (hv.ex α) (by rw [MM];omega) λv49 Z x50 o50=>⟨Ex.trans α x50,λθ β hb51 ζ=>?_⟩
  have x52:Ex Z β:=ζ▸Ex.alloc Z _;have V:=Ex.trans x50 x52;refine⟨Ex.trans α V,Cp (o50.ex x52) V.size (Strs.one hb51 ζ) ψ λξ ι b59 o59=>?_⟩;have x59:=Ex.trans α (Ex.below V b59);exact⟨x59,mk x59 (e▸o59.strs)⟩
 ·have x77:Ex H γ:=ε▸Ex.alloc H _;have W:=Ex.trans α x77;refine⟨W,kY (hv.ex W) (by rw [MM];omega) λς μ δ o79=>⟨Ex.trans W δ,Cp o79 δ.size ((Strs.one hb76 ε).ex δ) ψ λv85 ν b86 o86=>?_⟩⟩;have x86:=Ex.trans W (Ex.below δ b86);exact⟨x86,mk x86 (e▸o86.strs)⟩
theorem H5 (ok:lP t)(su:SU t u){i k:Nat}(hi:i< t.ths.length)(hi':i< u.ths.length)(hk:k< t.ths.length)(χ:k< u.ths.length)(hik:i≠k){a b:UInt8}{p:P}{c d:Nat}{p':U}(ho:Off.snd a b p∈offs t.ths[i])(ho':Off.snd c d p'∈offs u.ths[i])
  (hae:qn UInt8.toNat (λz=>(asg u.frL t.frL ρ0 z).toNat) (.snd a b p) (.snd c d p')) {e x:UInt8} {q:P} {s:Bool} {e' x':Nat} {q':U} {s':Bool} (hr:Off.rcv e x q s∈offs t.ths[k]) (hr':Off.rcv e' x' q' s'∈offs u.ths[k])
  (har:qn UInt8.toNat (λz=>(asg u.frL t.frL ρ0 z).toNat) (.rcv e x q s) (.rcv e' x' q' s'))
  (hv:Strs w v5 (t.ths.map T.text)) (hb:b1< w.heap.size) (hb2:b2< w.heap.size) (hc2:w.cell? ⟨b1,2,none⟩=some (.int .u8 b.toNat)) (hc3:w.cell? ⟨b1,3,none⟩=some (.string (ax p.text))) (hd2:w.cell? ⟨b2,2,none⟩=some (.int .u8 x.toNat)) (hd3:w.cell? ⟨b2,3,none⟩=some (.string (ax q.text))) (hd4:w.cell? ⟨b2,4,none⟩=some (.bool s))
  (hI:nj B w out fine out w acc) (hl:acc.length<=1000000000) {J:Bool->Value->PV} (hJ:∀fn v' w',nj B w out fn v' w' (acc++[Er u i k p' (q'.map (Ff (NN u) q' x' d)) s'])->J fn v' w'):
  ∃G:PV,∀β:World,β=World.drew w->G β/\∃ω:aF,(∀w',G w'->World.cell? w' ⟨b1,3,none⟩=some (Value.string (ax ω)))/\∃s150:aF,(∀w',G w'->World.cell? w' ⟨b2,3,none⟩=some (Value.string (ax s150)))/\∃c151:UInt8,(∀w',G w'->World.cell? w' ⟨b2,2,none⟩=some (Value.int IntKind.u8 (UInt8.toNat c151)))/\∃c152:UInt8,(∀w',G w'->World.cell? w' ⟨b1,2,none⟩=some (Value.int IntKind.u8 (UInt8.toNat c152)))/\
   PW 152 #[v5,(Value.int IntKind.i64 i),(Value.int IntKind.i64 k)] β (aw [.v] fun(v153:Value) (ι:World)=>G ι/\PW 153 #[(Value.string (ax s150)),(Value.int IntKind.u8 (UInt8.toNat c151)),(Value.int IntKind.u8 (UInt8.toNat c152))] ι (aw [.s] fun(s155:aF) (Z:World)=>G Z/\∀(η:Nat) (α:World),η=Array.size (World.heap Z)->α=World.alloc Z (Obj.cells #[(Value.string (ax ω)),(Value.string (ax s155))] tS)->G α/\DO α v153 (Value.slice (some ⟨η,0,none⟩) 2 2) λv164 H=>G H/\
    ∃κ:Value->PV,(∃μ:Bool,World.cell? H ⟨b2,4,none⟩=some (Value.bool μ)/\(μ=true->∀(ν:Nat) (θ:World),ν=Array.size (World.heap H)->θ=World.alloc H (Obj.cells #[(Value.string (ax t.ths[k].text))] tS)->DO θ v164 (Value.slice (some ⟨ν,0,none⟩) 1 1) κ)/\(μ=false->κ (v164) H))/\
    ∀(γ:Value) (ξ:World),κ γ ξ->PW 151 #[(Value.string (ax t.frL)),γ] ξ (aw [.s,.b] fun(s179:aF) (q180:Bool) (w181:World)=>H7 w181 out fine s179 q180 J))):=by
 obtain⟨hn,ψ⟩:=yd ok;have hmP:=Mx hi;have hmK:=Mx hk;have hmU:=Mx χ;obtain⟨sP,_⟩:=aW (su.smpP _ hmP) _ ho;obtain⟨sK,_⟩:=aW (su.smpP _ hmK) _ hr;have hpl:p.aJ<=300:=by
  have h1:=sP.size;have h2:=(ψ _ hmP).1;have h3:=dL p;simp only [Off.tm,T.size]at h1;omega
 have hqs:q.size<=60:=by
  have h1:=sK.size;have h2:=(ψ _ hmK).1;simp only [Off.tm,T.size]at h1;omega
 obtain⟨hq1,hq2,hq3⟩:=KQ ok su hk hr;have alb:=(sP.al _ (su.al _ hmP)).2.1;have hwl:=xm t.ths i k;have ew:wo (t.ths.map T.text) i k=(wo t.ths i k).map T.text:=FD _ _ _ _;have uqr:=su.kU χ (aW (su.smp _ hmU) _ hr').1 (fM _ hr');have hss:s=s':=har.2.2;have umc:Er u i k p' (q'.map (Ff (NN u) q' x' d)) s'=resL u.frL (parL (bC u.ths i k p' (q'.map (Ff (NN u) q' x' d)) s' u.ths[k])):=by unfold Er;rw [cD χ]
 refine⟨λw'=>Ex w w',λβ hw148=>?_⟩;have V:Ex w β:=hw148▸Ex.drew w;refine⟨V,p.text,λw' x=>by rw [x.cell (a:=⟨b1,3,none⟩) hb];exact hc3,q.text,λw' x=>by rw [x.cell (a:=⟨b2,3,none⟩) hb2];exact hd3,x,λw' x=>by rw [x.cell (a:=⟨b2,2,none⟩) hb2];exact hd2,b,λw' x=>by rw [x.cell (a:=⟨b1,2,none⟩) hb];exact hc2,?_⟩;refine kY (hv.ex V) (by rw [MM];omega) λv153 ι ο o154=>⟨Ex.trans V ο,?_⟩
 refine gC q.size (Mu _) hq1 hq2 hq3 (iu alb) (Bn alb 0) λr Z ς hr2=>⟨Ex.trans (Ex.trans V ο) ς,λη α hb157 υ=>?_⟩
 have x158:Ex Z α:=υ▸Ex.alloc Z _;have W:=Ex.trans ο (Ex.trans ς x158);have x0158:=Ex.trans V W;have hrl:r.aJ<=300:=by
  have h1:=(Aa hr2.shp).2.2;have h2:=dL q;omega
 have den:=(Ac ok su hi hi' hk χ hik ho ho' hae hr hr' har (AZ (NN u) d uqr.lk) su.bound (by unfold NN;omega) hr2).1;rw [<-umc]at den;have hlw:(wo (t.ths.map T.text) i k).length<=60:=by
  have :=xm (t.ths.map T.text) i k;rw [MM]at this;omega
 have two:Strs α (.slice (some ⟨η,0,none⟩) 2 2) [p.text,r.text]:=Fh hb157 υ;refine⟨x0158,Cp (o154.ex (Ex.trans ς x158)) W.size two (by simp only [Mm,MB];omega) λv164 H b165 o165=>?_⟩;have δ:=Ex.below W b165;have ζ:=Ex.trans V δ;refine⟨ζ,λv' w'=>Ex w w'/\Strs w' v' ((bC t.ths i k p r s t.ths[k]).map T.text),⟨s,by rw [ζ.cell (a:=⟨b2,4,none⟩) hb2];exact hd4,λhs ν θ hb168 φ=>?_,λhs=>⟨ζ,?_⟩⟩,λv177 ξ hJ178=>?_⟩
 ·have x169:Ex H θ:=φ▸Ex.alloc H _;have ε:=Ex.trans δ x169;refine Cp (o165.ex x169) ε.size (Strs.one hb168 φ) (by simp only [Mt,Mm,MB];omega) λv175 w176 b176 o176=>⟨Ex.trans V (Ex.below ε b176),?_⟩
  have h:=o176.strs;rw [ew]at h;unfold bC;rw [hs];simpa using h
 ·have h:=o165.strs;rw [ew]at h;unfold bC;rw [hs];simpa using h
 ·obtain⟨x178,hs178⟩:=hJ178;refine Fw hs178 (KY (λz hz=>?_) ?_) den λsx qx w2 x2 h1 h2=>I' (hI.ex (Ex.trans x178 x2)) hl h1 h2 hJ
  ·unfold bC at hz;rcases My.1 hz with hz | hz
   ·rcases My.1 hz with hz | hz
    ·exact(ψ _ (lg hz)).2
    ·rcases MH.1 hz with rfl | hz
     ·exact hpl
     ·cases MA.1 hz;exact hrl
   ·cases s
    ·cases hz
    ·cases MA.1 hz;exact(ψ _ hmK).2
  ·unfold bC;simp only [Mt,Mm,MB];split<;>simp only [Mm,MB]<;>omega
end
theorem sB {e B:Nat}{w:World}{v:Value}{os:List (Off UInt8)}{xs:List Value}(G:cC e B w v os.length xs)(hm:fe os xs){j:Nat}(H:j< os.length):∃(g cap:Nat) (cs:List Value),v= .slice (some ⟨g,0,none⟩) os.length cap/\uk os[j] cs/\∀i u,cs[i]?=some u->∀off,off=j* 5+i->i< 5->w.cell? ⟨g,off,none⟩=some u:=by
 obtain⟨cs,J,V⟩:=hm.at H;rcases G.cell with⟨_,Z,_⟩ | ⟨g,cap,rfl,_,W⟩
 ·omega
 ·refine⟨g,cap,cs,rfl,J,λi u hu off he hi=>?_⟩;have :=W (j* 5+i) u (by rw [V i hi];exact hu);rw [he];rwa [MX]at this
theorem J6 {w w1:World}{g e:Nat}{cs:List Value}{c0:Array Value}(α:cs.length=5)(h0:c0.size=5)(V:g=w.heap.size)(G:w1=w.alloc (.cells c0 e)):
  (∀j,j< 5->(∃u,w1.cell? ⟨g,0+j,none⟩=some u)/\w1.frozen? ⟨g,0+j,none⟩=false)/\∀w2,w2=World.setCells w1 g 0 cs->Ex w w2/\g< w2.heap.size/\∀j,j< 5->w2.cell? ⟨g,j,none⟩=cs[j]?:=by
 have W:∀j,j< 5->∃u,w1.cell? ⟨g,0+j,none⟩=some u:=λj H=>by
  rw [G,V];have:∃u,c0[0+j]?=some u:=by
   rw [MX];exact⟨_,Array.getElem?_eq_getElem (by omega)⟩
  obtain⟨u,hu⟩:=this;exact⟨u,aa hu⟩
 refine⟨λj H=>⟨W j H,by rw [G,V];exact aS _ _ _ _⟩,λw2 J=>?_⟩;obtain⟨k,_,_,Z⟩:=aU (b:=g) cs w1 0;rw [<-J]at k Z;have x1:Ex w w1:=G▸Ex.alloc _ _;have s1:w1.heap.size=w.heap.size+1:=by rw [G,size_alloc]
 have s2:=k.size;refine⟨Ex.below x1 (Kp.below k x1.size λb hb e=>by omega),by omega,λj H=>?_⟩;have :=Z j (λi hi=>W i (by omega)) (by omega)
 rwa [MX]at this
theorem sH {k a b:UInt8}{s:Tx}{q:Bool}:(fy k a b s q).all aB=true:=rfl
theorem Gr.cell {w0 w:World}{o0 o:Value}(h:Gr w0 o0 w o){a:Addr}(ha:a.block< w0.heap.size)(G:o0.ownBlock≠some a.block):w.cell? a=w0.cell? a:=by
 cases a with
 | mk b i t=>exact Mn (w:=w0) (h.1.block b ha G)
theorem Gr.strs {w0 w:World}{o0 o v:Value}{l:List Tx}(h:Gr w0 o0 w o)(H:Strs w0 v l)(G:∀g,v.ownBlock=some g->o0.ownBlock≠some g):Strs w v l:=
 H.kp h.1 λb off n cap e J=>G b (nA e) J
theorem cC.gr {e B:Nat}{w0 w:World}{o0 o v:Value}{n:Nat}{xs:List Value}(h:cC e B w0 v n xs)(k:Gr w0 o0 w o)(G:∀g,v.ownBlock=some g->o0.ownBlock≠some g):cC e B w v n xs:=
 h.kp k.1 G
theorem cC.slice {e B:Nat}{w:World}{v:Value}{n:Nat}{xs:List Value}(h:cC e B w v n xs):∃a cap,v= .slice a n cap:=by
 rcases h.cell with⟨G,H,_⟩ | ⟨g,cap,G,_⟩
 ·exact⟨none,0,by rw [G,H]⟩
 ·exact⟨_,cap,G⟩
theorem Fb {t:P}(ok:lP t){w:World}{R:Value->Bool->PV}(hR1:ql (num t e0 0).1=none->∀w',Ex w w'->R (.slice none 0 0) false w')(hR2:∀l,ql (num t e0 0).1=some l->∀v w',Ex w w'->Own w.heap.size w' v l->R v true w'):
  PW 102 #[.string (ax t.text)] w (aw [.v,.b] R):=by
 have su:=ok.su;have hszt:=ok.size;have hsh:=(kL su.ae).2.2;generalize hu:(num t e0 0).1=u at*;have hsz:u.size<=60:=by omega
 obtain⟨hthl,hol,hE3,hE2s,hE1s,hE0s⟩:=lens hsz;obtain⟨hn,hts⟩:=yd ok;have hlen:=su.two.len;have okt:Ok t:=EB ok.al ok.good;have okth:∀q∈t.ths,Ok q:=λq hq=>⟨(su.al q hq).wf,by rw [aV];have :=(hts q hq).2;omega⟩
 refine sC t.text w R ?_;refine po okt (qg okt ok.nr λv5 w6 x6 o5=>?_);have hv5:=o5.strs;obtain⟨a,cap,hv⟩:=hv5.slice;rw [MM]at hv;refine⟨a,_,cap,hv,λfine out x w'=>∃i:Nat,x=i/\i<=t.ths.length/\nj w6.heap.size w6 (.slice none 0 0) fine out w' ((List.range i).flatMap (E0 u)),λ _ _ x _=>(t.ths.length - x).toNat,⟨0,rfl,Nl _,⟨Gr.refl _ _,Own.nil _ _,rfl,Mu _⟩⟩,λfine1 out1 x w15 hI=>?_⟩;obtain⟨i,rfl,hi,β⟩:=hI;have x15:Ex w6 w15:=β.gr.nil rfl;refine⟨λhlt=>?_,λhge=>?_⟩;rotate_left
 ·have hil:i=u.ths.length:=by simp only [Mw]at hge;omega
  rw [hil]at β;have e:(List.range u.ths.length).flatMap (E0 u)=gu u:=rfl;have hl:=hE0s _ (Mu _);rw [e]at β hl;refine⟨λhf=>hR1 ?_ w15 (Ex.trans x6 x15),λhf=>yW β.ow.strs (by rw [yD];omega) λv2 w2 x2 o2=>hR2 _ ?_ v2 w2 (Ex.trans (Ex.trans x6 x15) x2) (o2.mono (Ex.trans x6 x15).size)⟩
  ·unfold ql;rw [MJ];intro h;rw [<-β.fi]at h;rw [h]at hf;cases hf
  ·unfold ql;rw [MZ];rw [<-β.fi];simpa using hf
 have hi':i< t.ths.length:=by simp only [Mz]at hlt;omega
 have κ:i< u.ths.length:=by omega
 have hmi:=Mx hi';have two1:=jD (su.two.get hi' κ);have hlo:=two1.len;have hacc1:=hE0s i (by omega);have ek:(List.range (i+1)).flatMap (E0 u)=(List.range i).flatMap (E0 u)++E0 u i:=by rw [O7,NM];simp
 have eE0:E0 u i=(offs u.ths[i]).flatMap (E1 u i):=by unfold E0;rw [cD κ]
 refine hv5.get x15 (i:=i) (x:=t.ths[i].text) (by omega) (by simp [hi']) (Q:=λn=>_) (mT _ (Mu _) (okth _ hmi) (su.smpP _ hmi) (by have :=(hts _ hmi).1;omega) λv21 w22 xs x22 o21 m21=>?_);have h22:=(β.ex x22).start;have n21:∀g,v21.ownBlock=some g->out1.ownBlock≠some g:=λg hg e=>by
  have h1:=(o21.block g hg).1;have h2:=β.lt g e;omega
 obtain⟨a23,cap23,hv21⟩:=o21.slice;have hm1:=@tN t.ths.length i (by omega);generalize hA:(List.range i).flatMap (E0 u)=A at*;have hol1:=hol i κ;have hE1i:=λj=>hE1s i j κ
 refine⟨a23,_,cap23,hv21,λfine out x w'=>∃j:Nat,x=j/\j<=(offs t.ths[i]).length/\nj w6.heap.size w22 out1 fine out w' (A++((offs u.ths[i]).take j).flatMap (E1 u i)),λ _ _ x _=>((offs t.ths[i]).length - x).toNat,⟨0,rfl,Nl _,by simpa using h22⟩,λfine2 μ x w31 hI=>?_⟩;obtain⟨j,rfl,hj,ν⟩:=hI;refine⟨λhlt2=>?_,λhge2=>?_⟩;rotate_left
 ·have hjl:j=(offs u.ths[i]).length:=by simp only [Mw]at hge2;omega
  rw [hjl,MR,<-eE0,<-ek]at ν;exact⟨by omega,⟨i+1,by omega,by omega,(β.ex x22).back ν⟩,hm1⟩
 have hjP:j< (offs t.ths[i]).length:=by simp only [Mz]at hlt2;omega
 have hjU:j< (offs u.ths[i]).length:=by omega
 have hm2:(((offs t.ths[i]).length:Int) - ((j:Int)+1)).toNat< (((offs t.ths[i]).length:Int) - j).toNat:=by omega
 have hae:=two1.get hjP hjU;have hmP:=Mx hjP;have hmU:=Mx hjU;obtain⟨g,capg,cs,hvg,W,γ⟩:=sB (o21.gr ν.gr n21) m21 hjP;obtain⟨kk,ca,cb,cs3,cq,rfl⟩:=W.any;have etk:((offs u.ths[i]).take (j+1)).flatMap (E1 u i)=((offs u.ths[i]).take j).flatMap (E1 u i)++E1 u i (offs u.ths[i])[j]:=by rw [Mq hjU,NM];simp
 have hacc2:(A++((offs u.ths[i]).take j).flatMap (E1 u i)).length<=13000000+216000:=by
  rw [Mt];have :=hE1i j;omega
 rw [hv21]at hvg;refine⟨g,0,_,capg,hv21.trans hvg,by omega,by omega,kk,ca,cb,cs3,cq,⟨γ 0 _ rfl _ (by omega) (by omega),γ 1 _ rfl _ (by omega) (by omega),γ 2 _ rfl _ (by omega) (by omega),γ 3 _ rfl _ (by omega) (by omega),γ 4 _ rfl _ (by omega) (by omega),trivial⟩,λδ w42 hb41 hw42=>?_⟩;obtain⟨box1,box2⟩:=J6 (cs:=fy kk ca cb cs3 cq) rfl rfl hb41 hw42;refine⟨⟨rfl,sH,box1⟩,λψ hw43=>?_⟩;obtain⟨x43,l43,ξ⟩:=box2 ψ hw43;have h43:=(ν.ex x43).start;have hnb:μ.ownBlock≠some δ:=λe=>by have :=ν.lt _ e;omega
 have x643:Ex w6 ψ:=Ex.trans ((β.gr.ex x22).trans ν.gr |>.nil rfl) x43;have hacc2':=hacc2;generalize hA2:A++((offs u.ths[i]).take j).flatMap (E1 u i)=A2 at*;have ο:∀{fn:Bool} {o:Value} {w':World},nj w6.heap.size ψ μ fn o w' (A2++E1 u i (offs u.ths[i])[j])->bJ ((j:Int)+1)/\(∃j':Nat,(j:Int)+1=j'/\j'<=(offs t.ths[i]).length/\nj w6.heap.size w22 out1 fn o w' (A++((offs u.ths[i]).take j').flatMap (E1 u i)))/\(((offs t.ths[i]).length:Int) - ((j:Int)+1)).toNat< (((offs t.ths[i]).length:Int) - j).toNat:=λ{fn o w'} h=>by
  refine⟨by omega,⟨j+1,by omega,by omega,(ν.ex x43).back ?_⟩,hm2⟩;rw [etk,<-M8,hA2];exact h
 generalize (offs t.ths[i])[j]=oP at*;generalize (offs u.ths[i])[j]=oU at*;cases oP<;>cases oU<;>try exact hae.elim
 ·
  rename_i p V;obtain⟨_,_,_,W⟩:=W;unfold fy at W;simp only [Nj,NQ,OC,O8,Ox]at W;have e1:kk=126:=MQ.1 (by omega);have e2:cs3=p.text:=oy W.2.2.2.1;subst e1 e2;refine⟨λfn o w'=>nj w6.heap.size ψ μ fn o w' (A2++[KL u i V]),⟨126,ξ 0 (by omega),cN rfl ?_⟩,λfn o w' h=>⟨126,?_,λ _=>ο h,(λh=>by cases h)⟩⟩
  ·exact JX ok su hi' κ hmP hmU hae (hv5.ex x643) l43 (ξ 3 (by omega)) h43 (by omega) λfn v' w' h=>h
  ·rw [h.gr.cell (a:=⟨δ,0,none⟩) l43 hnb];exact ξ 0 (by omega)
 ·
  rename_i ca' cb' p c d V;obtain⟨_,W⟩:=W;unfold fy at W;simp only [Nj,NQ,OC,O8,Ox]at W;have e1:kk=33:=MQ.1 (by omega);have e2:cs3=p.text:=oy W.2.2.2.1;have e3:ca=ca':=MQ.1 (by omega);have e4:cb=cb':=MQ.1 (by omega);subst e1 e2 e3 e4;refine⟨λfn o w'=>nj w6.heap.size ψ μ fn o w' A2,⟨33,ξ 0 (by omega),aT (by decide) h43⟩,λfine3 ζ η H=>⟨33,?_,(λh=>by cases h),λ _=>?_⟩⟩
  ·rw [H.gr.cell (a:=⟨δ,0,none⟩) l43 hnb];exact ξ 0 (by omega)
  have r105:=H.start;have g105:Gr w6 (.slice none 0 0) η ζ:=(((β.gr.ex x22).trans ν.gr).ex x43).trans H.gr;have s43:=H.gr.size;have hnb3:ζ.ownBlock≠some δ:=λe=>(H.gr.2 _ e).elim hnb λe=>by omega
  have c105:∀j,j< 5->η.cell? ⟨δ,j,none⟩=(fy 33 ca cb p.text cq)[j]?:=λj hj=>by rw [H.gr.cell (a:=⟨δ,j,none⟩) l43 hnb];exact ξ j hj
  have hm3:∀k:Nat,k< t.ths.length->((t.ths.length:Int) - ((k:Int)+1)).toNat< ((t.ths.length:Int) - k).toNat:=λk hk=>by omega
  refine⟨a,_,cap,hv,λfine out x w'=>∃k:Nat,x=k/\k<=t.ths.length/\nj w6.heap.size η ζ fine out w' (A2++(List.range k).flatMap (E2 u i c d V)),λ _ _ x _=>(t.ths.length - x).toNat,⟨0,rfl,Nl _,by simpa using r105⟩,λfine4 φ x w115 hI=>?_⟩;obtain⟨k,rfl,hk,Z⟩:=hI;have g115:=g105.trans Z.gr;have x115:=g115.nil rfl;refine⟨λhlt3=>?_,λhge3=>?_⟩;rotate_left
  ·have hkl:k=u.ths.length:=by simp only [Mw]at hge3;omega
   rw [hkl]at Z;exact ο (H.back Z)
  have ω:k< t.ths.length:=by simp only [Mz]at hlt3;omega
  have hkU:k< u.ths.length:=by omega
  have ek2:(List.range (k+1)).flatMap (E2 u i c d V)=(List.range k).flatMap (E2 u i c d V)++E2 u i c d V k:=by rw [O7,NM];simp
  refine hv5.get x115 (i:=k) (x:=t.ths[k].text) (by omega) (by simp [ω]) (Q:=λn=>_) ⟨λheq=>?_,λhne=>?_⟩
  ·have heq:i=k:=by simp only [Mz]at heq;omega
   refine⟨by omega,⟨k+1,by omega,by omega,?_⟩,hm3 k ω⟩;rw [ek2,show E2 u i c d V k=[] by unfold E2;rw [MZ heq],MY];exact Z
  have hik:i≠k:=by simp only [Mw]at hne;omega
  have hmk:=Mx ω;have eE2:E2 u i c d V k=(offs u.ths[k]).flatMap (E3 u i k c d V):=by unfold E2;rw [MJ hik,cD hkU]
  have two2:=jD (su.two.get ω hkU);have hlo2:=two2.len;refine mT _ (Mu _) (okth _ hmk) (su.smpP _ hmk) (by have :=(hts _ hmk).1;omega) λv121 w122 xs2 x122 o121 m121=>?_
  have h122:=(Z.ex x122).start;have n121:∀g,v121.ownBlock=some g->φ.ownBlock≠some g:=λg hg e=>by
   have h1:=(o121.block g hg).1;have h2:=Z.lt g e;omega
  obtain⟨a123,cap123,ς⟩:=o121.slice;have hacc3:(A2++(List.range k).flatMap (E2 u i c d V)).length<=13300000:=by
   have :=hE2s i c d V k (by omega);rw [Mt];omega
  have hm3k:=hm3 k ω;have hnext3:∀{fn:Bool} {o:Value} {w':World},nj w6.heap.size w122 φ fn o w' ((A2++(List.range k).flatMap (E2 u i c d V))++E2 u i c d V k)->bJ ((k:Int)+1)/\(∃k':Nat,(k:Int)+1=k'/\k'<=t.ths.length/\nj w6.heap.size η ζ fn o w' (A2++(List.range k').flatMap (E2 u i c d V)))/\((t.ths.length:Int) - ((k:Int)+1)).toNat< ((t.ths.length:Int) - k).toNat:=λ{fn o w'} h=>by
   refine⟨by omega,⟨k+1,by omega,by omega,(Z.ex x122).back ?_⟩,hm3k⟩;rw [ek2,<-M8];exact h
  generalize hA3:A2++(List.range k).flatMap (E2 u i c d V)=A3 at*;refine⟨a123,_,cap123,ς,λfine out x w'=>∃l:Nat,x=l/\l<=(offs t.ths[k]).length/\nj w6.heap.size w122 φ fine out w' (A3++((offs u.ths[k]).take l).flatMap (E3 u i k c d V)),λ _ _ x _=>((offs t.ths[k]).length - x).toNat,⟨0,rfl,Nl _,by simpa using h122⟩,λfine5 out5 x w131 hI=>?_⟩;obtain⟨l,rfl,hl,θ⟩:=hI;refine⟨λhlt4=>?_,λhge4=>?_⟩;rotate_left
  ·have hll:l=(offs u.ths[k]).length:=by simp only [Mw]at hge4;omega
   rw [hll,MR,<-eE2]at θ;exact hnext3 θ
  have hlP:l< (offs t.ths[k]).length:=by simp only [Mz]at hlt4;omega
  have hlU:l< (offs u.ths[k]).length:=by omega
  have hm4:(((offs t.ths[k]).length:Int) - ((l:Int)+1)).toNat< (((offs t.ths[k]).length:Int) - l).toNat:=by omega
  have har:=two2.get hlP hlU;have hrP:=Mx hlP;have hrU:=Mx hlU;obtain⟨g2,capg2,cs2,hvg2,G,J⟩:=sB (o121.gr θ.gr n121) m121 hlP;obtain⟨kk2,ce,cx,cs4,cq2,rfl⟩:=G.any;have etk2:((offs u.ths[k]).take (l+1)).flatMap (E3 u i k c d V)=((offs u.ths[k]).take l).flatMap (E3 u i k c d V)++E3 u i k c d V (offs u.ths[k])[l]:=by rw [Mq hlU,NM];simp
  have hol2:=hol k hkU;have hacc4:(A3++((offs u.ths[k]).take l).flatMap (E3 u i k c d V)).length<=13400000:=by
   have :=hE3 i k c d V ((offs u.ths[k]).take l) (by rw [M5];omega);rw [Mt];omega
  rw [ς]at hvg2;refine⟨g2,0,_,capg2,ς.trans hvg2,by omega,by omega,kk2,ce,cx,cs4,cq2,⟨J 0 _ rfl _ (by omega) (by omega),J 1 _ rfl _ (by omega) (by omega),J 2 _ rfl _ (by omega) (by omega),J 3 _ rfl _ (by omega) (by omega),J 4 _ rfl _ (by omega) (by omega),trivial⟩,λb141 w142 hb141 hw142=>?_⟩;obtain⟨box3,box4⟩:=J6 (cs:=fy kk2 ce cx cs4 cq2) rfl rfl hb141 hw142;refine⟨⟨rfl,sH,box3⟩,λι hw143=>?_⟩;obtain⟨x143,l143,ε⟩:=box4 ι hw143;have χ:=(θ.ex x143).start;have g143:Gr η ζ ι out5:=((Z.gr.ex x122).trans θ.gr).ex x143;have x6143:Ex w6 ι:=(g105.trans g143).nil rfl;have υ:∀j,j< 5->ι.cell? ⟨δ,j,none⟩=(fy 33 ca cb p.text cq)[j]?:=λj hj=>by rw [g143.cell (a:=⟨δ,j,none⟩) (by show δ< _;omega) hnb3];exact c105 j hj
  have hb143:δ< ι.heap.size:=by have :=g143.size;omega
  generalize hA4:A3++((offs u.ths[k]).take l).flatMap (E3 u i k c d V)=A4 at*;have α:∀{fn:Bool} {o:Value} {w':World},nj w6.heap.size ι out5 fn o w' (A4++E3 u i k c d V (offs u.ths[k])[l])->bJ ((l:Int)+1)/\(∃l':Nat,(l:Int)+1=l'/\l'<=(offs t.ths[k]).length/\nj w6.heap.size w122 φ fn o w' (A3++((offs u.ths[k]).take l').flatMap (E3 u i k c d V)))/\(((offs t.ths[k]).length:Int) - ((l:Int)+1)).toNat< (((offs t.ths[k]).length:Int) - l).toNat:=λ{fn o w'} h=>by
   refine⟨by omega,⟨l+1,by omega,by omega,(θ.ex x143).back ?_⟩,hm4⟩;rw [etk2,<-M8,hA4];exact h
  have frc:∃q∈u.ths,q.Fr c:=⟨_,Mx κ,(aW (su.smp _ (Mx κ)) _ hmU).1.fr c (.inl rfl)⟩
  generalize (offs t.ths[k])[l]=rP at*;generalize (offs u.ths[k])[l]=rU at*;cases rP<;>cases rU<;>try exact har.elim
  ·obtain⟨_,_,_,G⟩:=G;unfold fy at G;simp only [Nj,NQ,OC,O8,Ox]at G;have e1:kk2=126:=MQ.1 (by omega);subst e1;exact⟨126,ε 0 (by omega),(λh=>by cases h),λ _=>α (by simpa [E3]using χ)⟩
  ·obtain⟨_,G⟩:=G;unfold fy at G;simp only [Nj,NQ,OC,O8,Ox]at G;have e1:kk2=33:=MQ.1 (by omega);subst e1;exact⟨33,ε 0 (by omega),(λh=>by cases h),λ _=>α (by simpa [E3]using χ)⟩
  ·rename_i e x q s e' x' q' s';unfold uk fy at G;simp only [Nj,NQ,OC,Value.bool.injEq,O8,Ox]at G;have e1:kk2=63:=MQ.1 (by omega);have e2:cs4=q.text:=oy G.2.2.2.1;have e3:ce=e:=MQ.1 (by omega);have e4:cx=x:=MQ.1 (by omega);have e5:cq2=s:=G.2.2.2.2;subst e1 e2 e3 e4 e5;have fre:∃q∈u.ths,q.Fr e':=⟨_,Mx hkU,(aW (su.smp _ (Mx hkU)) _ hrU).1.fr e' (.inl rfl)⟩
   have hae1:ca=asg u.frL t.frL ρ0 c:=MQ.1 hae.1;have har1:ce=asg u.frL t.frL ρ0 e':=MQ.1 har.1;refine⟨63,ε 0 (by omega),λ _=>⟨ce,ε 1 (by omega),ca,υ 1 (by omega),λhne=>α ?_,λheq=>?_⟩,(λh=>by cases h)⟩
   ·have hne:ce≠ca:=by simpa using hne
    have:¬e'=c:=λh=>hne (by rw [har1,hae1,h])
    rw [show E3 u i k c d V (.rcv e' x' q' s')=[] by unfold E3;simp only;rw [MJ this],MY];exact χ
   ·have heq:ce=ca:=by simpa using heq
    have hec:e'=c:=su.inj fre frc (by rw [<-har1,<-hae1,heq]);refine H5 ok su hi' κ ω hkU hik hmP hmU hae hrP hrU har (hv5.ex x6143) hb143 l143 (υ 2 (by omega)) (υ 3 (by omega)) (ε 2 (by omega)) (ε 3 (by omega)) (ε 4 (by omega)) χ (by omega) λfn v' w' h=>α ?_
    rw [show E3 u i k c d V (.rcv e' x' q' s')=[Er u i k V (q'.map (Ff (NN u) q' x' d)) s'] by unfold E3;simp only;rw [MZ hec]];exact h
 ·
  rename_i ca' cb' p s c d V s';unfold uk fy at W;simp only [Nj,NQ,OC,O8,Ox]at W;have e1:kk=63:=MQ.1 (by omega);subst e1;refine⟨λfn o w'=>nj w6.heap.size ψ μ fn o w' A2,⟨63,ξ 0 (by omega),aT (by decide) h43⟩,λfine3 ζ η H=>⟨63,?_,λ _=>ο ?_,(λh=>by cases h)⟩⟩
  ·rw [H.gr.cell (a:=⟨δ,0,none⟩) l43 hnb];exact ξ 0 (by omega)
  ·simpa [E1]using H
theorem DN {w:World}{v:Value}{l:List Tx}{x:Tx}(h:Strs w v l)(hl:l.length<=1000000000){R:Int->PV}(hR:∀i:Int,(i< 0↔x∉l)->(0<=i->∃h:i.toNat< l.length,l[i.toNat]=x)->R i w):
  PW 60 #[v,.string (ax x)] w (aw [.i] R):=by
 refine qA v x w R ?_;dsimp only [go_sem];dsimp only [go_sem,UInt8.reduceOfNat,UInt32.reduceOfNat,Nat.reduceAdd];obtain⟨a,cap,W⟩:=h.slice;refine⟨a,_,cap,W,λi w'=>w'=w/\∃k:Nat,i=k/\k<=l.length/\x∉l.take k,λi _=>((l.length:Int) - i).toNat,⟨rfl,0,rfl,Nl _,by simp⟩,λi w' Z=>?_⟩;obtain⟨rfl,k,rfl,hk,hm⟩:=Z;refine⟨λJ=>?_,λV=>?_⟩
 ·have G:=oL J;refine h.get (Ex.refl _) (i:=k) (x:=l[k]) (by omega) (by simp [G]) (Q:=λn=>_) ⟨λhe=>hR k ?_ λ _=>⟨G,by simpa using he⟩,λH=>⟨by omega,⟨rfl,k+1,by omega,G,?_⟩,by dsimp only;omega⟩⟩
  ·have he:l[k]=x:=by simpa using he
   exact⟨λh=>by omega,λh=>absurd (he▸Mx G) h⟩
  ·have H:l[k]≠x:=by simpa using H
   rw [Mq G,My,MA];exact λh=>h.elim hm λe=>H e.symm
 ·have:k=l.length:=by simp only [Mw]at V;omega
  rw [this,MR]at hm;exact hR (-1) ⟨λ _=>hm,λ _=>by omega⟩ λh=>by omega
theorem Ah {B b k:Nat}{w w1 w2:World}{v v':Value}(J:b< w.heap.size)(hb:B<=b)(hB:B<=w.heap.size)(Z:∀g,v.ownBlock=some g->B<=g/\g< w.heap.size/\g≠b)(hc:∃u,w.cell? ⟨b,k,none⟩=some u)(hf:∀j,w.frozen? ⟨b,j,none⟩=false)(x:Ex w w1)(hg:w1.grownBy w2 v.ownBlock):
  ((∃u,w2.cell? ⟨b,k,none⟩=some u)/\w2.frozen? ⟨b,k,none⟩=false)/\∀w',w'=w2.setCell ⟨b,k,none⟩ v'->w'.cell? ⟨b,k,none⟩=some v'/\(∀j,j≠k->w'.cell? ⟨b,j,none⟩=w.cell? ⟨b,j,none⟩)/\(∀j,w'.frozen? ⟨b,j,none⟩=false)/\Kp w w' (λg=>v.ownBlock=some g\/g=b)/\Below B w w'/\Kp w2 w' (λg=>g=b):=by
 have G:Kp w1 w2 λg=>v.ownBlock=some g:=Kp.aQ hg λ _ h=>h
 have s1:=x.size;have V:=G.block b (by omega) λe=>(Z b e).2.2 rfl
 obtain⟨u,hu⟩:=hc;have c2:∀j,w2.cell? ⟨b,j,none⟩=w.cell? ⟨b,j,none⟩:=λj=>by rw [Mn (w:=w1) V,x.cell (a:=⟨b,j,none⟩) J]
 have f2:∀j,w2.frozen? ⟨b,j,none⟩=false:=λj=>by rw [MU (w:=w1) V,N4 x J];exact hf j
 have h2:w2.cell? ⟨b,k,none⟩=some u:=(c2 k).trans hu;refine⟨⟨⟨u,h2⟩,f2 k⟩,λw' H=>?_⟩;have kr:Kp w2 w' (λg=>g=b):=H▸Kr.set w2 k v';have sk:=G.size;refine⟨by rw [H];exact MI _ _ _ h2,λj hj=>?_,λj=>by rw [H,MG];exact f2 j,?_,?_,kr⟩
 ·rw [H,Mr _ _ _ _ (λe=>by injection e with e1 V;exact hj V.symm)];exact c2 j
 ·exact Kp.trans (Kp.trans (Kp.ah x _) (Kp.mono (λ _ h=> .inl h) G) λ _ _ h=>h) kr λ _ _ h=> .inr h
 ·exact Ob (Ob (Pw x hB) (Kp.below G (by omega) λg W e=>by have :=(Z g e).1;omega)) (Kp.below kr (by omega) λg W e=>by omega)
abbrev tX:Nat:=25
abbrev tI:Nat:=3
structure oX (B b:Nat)(w:World)(va vn vx:Value)(all:List Tx)(ns:List Nat)(vs:List Value)(L:Nat->Prop):Prop where
 lb:B<=b
 lt:b< w.heap.size
 f:∀j,w.frozen? ⟨b,j,none⟩=false
 c0:w.cell? ⟨b,0,none⟩=some va
 c1:w.cell? ⟨b,1,none⟩=some vn
 c2:w.cell? ⟨b,2,none⟩=some vx
 a:Own B w va all
 n:aM tI B w vn (ns.map iv)
 x:aM tX B w vx vs
 da:∀g,va.ownBlock=some g->g≠b/\vn.ownBlock≠some g/\vx.ownBlock≠some g/\¬L g
 dn:∀g,vn.ownBlock=some g->g≠b/\vx.ownBlock≠some g/\¬L g
 dx:∀g,vx.ownBlock=some g->g≠b/\¬L g
 ml:∀g,L g->B<=g/\g< w.heap.size/\g≠b
 ls:∀j (h:j< vs.length),∃h':j< all.length,∃l,uz all[j]=some l/\Strs w vs[j] l/\∀g,vs[j].ownBlock=some g->L g
section
variable {B b:Nat} {w w':World} {va vn vx:Value} {all:List Tx} {ns:List Nat} {vs:List Value} {L:Nat->Prop}
theorem aM.ex {e:Nat}{v:Value}{l:List Value}(h:aM e B w v l)(x:Ex w w'):aM e B w' v l:=h.kp (Kp.ah x λ _=>False) λ _ _ h=>h
theorem oX.ex (h:oX B b w va vn vx all ns vs L)(x:Ex w w'):oX B b w' va vn vx all ns vs L:=by
 have s:=x.size;have c:∀j,w'.cell? ⟨b,j,none⟩=w.cell? ⟨b,j,none⟩:=λj=>x.cell (a:=⟨b,j,none⟩) h.lt
 refine⟨h.lb,by have :=h.lt;omega,λj=>by rw [N4 x h.lt];exact h.f j,by rw [c];exact h.c0,by rw [c];exact h.c1,by rw [c];exact h.c2,h.a.ex x,h.n.ex x,h.x.ex x,h.da,h.dn,h.dx,λg G=>⟨(h.ml g G).1,by have :=(h.ml g G).2.1;omega,(h.ml g G).2.2⟩,λj H=>?_⟩;obtain⟨J,l,V,W,h4⟩:=h.ls j H;exact⟨J,l,V,W.ex x,h4⟩
theorem Strs.K3 {v:Value}{l:List Tx}{S:Nat->Prop}(h:Strs w v l)(k:Kp w w' S)(G:∀g,v.ownBlock=some g->¬S g):Strs w' v l:=h.kp k λb _ _ _ e=>G b (nA e)
theorem oX.Jb (h:oX B b w va vn vx all ns vs L)(hB:B<=w.heap.size){s:Tx}{w1 w2:World}(x:Ex w w1){v':Value}(ho:Own B w2 v' (all++[s]))(G:w1.grownBy w2 va.ownBlock)(hn:∀g,v'.ownBlock=some g->va.ownBlock=some g\/w1.heap.size<=g):
  ((∃u,w2.cell? ⟨b,0,none⟩=some u)/\w2.frozen? ⟨b,0,none⟩=false)/\∀w',w'=w2.setCell ⟨b,0,none⟩ v'->oX B b w' v' vn vx (all++[s]) ns vs L/\Below B w w':=by
 obtain⟨V,W⟩:=Ah (v':=v') h.lt h.lb hB (λg G=>⟨(h.a.block g G).1,(h.a.block g G).2,(h.da g G).1⟩) ⟨_,h.c0⟩ h.f x G;refine⟨V,λw' Z=>?_⟩;obtain⟨k1,k2,k3,J,k5,k6⟩:=W w' Z;have sx:=x.size;have sk:=J.size;have α:=h.lt;have dv:∀g,v'.ownBlock=some g->g≠b/\vn.ownBlock≠some g/\vx.ownBlock≠some g/\¬L g:=λg G=>(hn g G).elim (h.da g) λe=>⟨by omega,λH=>by have :=(h.n.block g H).2;omega,λH=>by have :=(h.x.block g H).2;omega,λH=>by have :=(h.ml g H).2.1;omega⟩
 refine⟨⟨h.lb,by omega,k3,k1,(k2 1 (by omega)).trans h.c1,(k2 2 (by omega)).trans h.c2,ho.kp k6 λg G=>(dv g G).1,h.n.kp J λg G e=>e.elim (λe=>(h.da g e).2.1 G) (h.dn g G).1,h.x.kp J λg G e=>e.elim (λe=>(h.da g e).2.2.1 G) (h.dx g G).1,dv,h.dn,h.dx,λg G=>⟨(h.ml g G).1,by have :=(h.ml g G).2.1;omega,(h.ml g G).2.2⟩,λj hj=>?_⟩,k5⟩;obtain⟨V,l,W,h3,h4⟩:=h.ls j hj;exact⟨by rw [Mt];omega,l,by rw [O' V];exact W,h3.K3 J λg G e=>e.elim (λe=>(h.da g e).2.2.2 (h4 g G)) (h.ml g (h4 g G)).2.2,h4⟩
theorem oX.Jm (h:oX B b w va vn vx all ns vs L)(hB:B<=w.heap.size){m:Nat}{w1 w2:World}(x:Ex w w1){v':Value}(ho:aM tI B w2 v' ((ns++[m]).map iv))(G:w1.grownBy w2 vn.ownBlock)(hn:∀g,v'.ownBlock=some g->vn.ownBlock=some g\/w1.heap.size<=g):
  ((∃u,w2.cell? ⟨b,1,none⟩=some u)/\w2.frozen? ⟨b,1,none⟩=false)/\∀w',w'=w2.setCell ⟨b,1,none⟩ v'->oX B b w' va v' vx all (ns++[m]) vs L/\Below B w w':=by
 obtain⟨J,V⟩:=Ah (v':=v') h.lt h.lb hB (λg G=>⟨(h.n.block g G).1,(h.n.block g G).2,(h.dn g G).1⟩) ⟨_,h.c1⟩ h.f x G;refine⟨J,λw' W=>?_⟩;obtain⟨k1,k2,k3,H,k5,k6⟩:=V w' W;have sx:=x.size;have sk:=H.size;have α:=h.lt;have dv:∀g,v'.ownBlock=some g->g≠b/\vx.ownBlock≠some g/\¬L g:=λg G=>(hn g G).elim (h.dn g) λe=>⟨by omega,λZ=>by have :=(h.x.block g Z).2;omega,λZ=>by have :=(h.ml g Z).2.1;omega⟩
 refine⟨⟨h.lb,by omega,k3,(k2 0 (by omega)).trans h.c0,k1,(k2 2 (by omega)).trans h.c2,h.a.kp H λg G e=>e.elim (λe=>(h.da g G).2.1 e) (h.da g G).1,ho.kp k6 λg G=>(dv g G).1,h.x.kp H λg G e=>e.elim (λe=>(h.dn g e).2.1 G) (h.dx g G).1,λg G=>⟨(h.da g G).1,λe=>(hn g e).elim (h.da g G).2.1 λe=>by have :=(h.a.block g G).2;omega,(h.da g G).2.2⟩,dv,h.dx,λg G=>⟨(h.ml g G).1,by have :=(h.ml g G).2.1;omega,(h.ml g G).2.2⟩,λj hj=>?_⟩,k5⟩;obtain⟨J,l,V,h3,h4⟩:=h.ls j hj;exact⟨J,l,V,h3.K3 H λg G e=>e.elim (λe=>(h.dn g e).2.2 (h4 g G)) (h.ml g (h4 g G)).2.2,h4⟩
theorem oX.Lc (h:oX B b w va vn vx all ns vs L)(hB:B<=w.heap.size){w0 w1 w2:World}(x0:Ex w w0)(x:Ex w0 w1){v v':Value}{l:List Tx}(hl:vs.length< all.length)(Z:uz all[vs.length]=some l)(hs:Strs w0 v l)(J:∀g,v.ownBlock=some g->w.heap.size<=g/\g< w0.heap.size)(ho:aM tX B w2 v' (vs++[v]))(G:w1.grownBy w2 vx.ownBlock)(hn:∀g,v'.ownBlock=some g->vx.ownBlock=some g\/w1.heap.size<=g):
  ((∃u,w2.cell? ⟨b,2,none⟩=some u)/\w2.frozen? ⟨b,2,none⟩=false)/\∀w',w'=w2.setCell ⟨b,2,none⟩ v'->oX B b w' va vn v' all ns (vs++[v]) (λg=>L g\/v.ownBlock=some g)/\Below B w w':=by
 obtain⟨h1,h2⟩:=Ah (v':=v') h.lt h.lb hB (λg G=>⟨(h.x.block g G).1,(h.x.block g G).2,(h.dx g G).1⟩) ⟨_,h.c2⟩ h.f (Ex.trans x0 x) G;refine⟨h1,λw' α=>?_⟩;obtain⟨k1,k2,k3,W,k5,k6⟩:=h2 w' α;have γ:=x0.size;have sx:=x.size;have sk:=W.size;have s2:=G.size;have s6:=k6.size;have δ:=h.lt;have dv:∀g,v'.ownBlock=some g->g≠b/\¬(L g\/v.ownBlock=some g):=λg G=>(hn g G).elim (λe=>⟨(h.dx g e).1,λH=>H.elim (h.dx g e).2 λH=>by have :=(J g H).1;have :=(h.x.block g e).2;omega⟩) λe=>⟨by omega,λH=>H.elim (λH=>by have :=(h.ml g H).2.1;omega) λH=>by have :=(J g H).2;omega⟩
 refine⟨⟨h.lb,by omega,k3,(k2 0 (by omega)).trans h.c0,(k2 1 (by omega)).trans h.c1,k1,h.a.kp W λg G e=>e.elim (λe=>(h.da g G).2.2.1 e) (h.da g G).1,h.n.kp W λg G e=>e.elim (λe=>(h.dn g G).2.1 e) (h.dn g G).1,ho.kp k6 λg G=>(dv g G).1,λg G=>⟨(h.da g G).1,(h.da g G).2.1,λe=>(hn g e).elim (h.da g G).2.2.1 λe=>by have :=(h.a.block g G).2;omega,λe=>e.elim (h.da g G).2.2.2 λe=>by have :=(J g e).1;have :=(h.a.block g G).2;omega⟩,
  λg G=>⟨(h.dn g G).1,λe=>(hn g e).elim (h.dn g G).2.1 λe=>by have :=(h.n.block g G).2;omega,λe=>e.elim (h.dn g G).2.2 λe=>by have :=(J g e).1;have :=(h.n.block g G).2;omega⟩,dv,λg G=>G.elim (λG=>⟨(h.ml g G).1,by have :=(h.ml g G).2.1;omega,(h.ml g G).2.2⟩) λG=>by have :=J g G;exact⟨by omega,by omega,by omega⟩,λj hj=>?_⟩,k5⟩
 rw [Mt,OB]at hj;by_cases V:j< vs.length
 ·obtain⟨h1,l',h2,h3,h4⟩:=h.ls j V;rw [O' V];exact⟨h1,l',h2,h3.K3 W λg G e=>e.elim (λe=>(h.dx g e).2 (h4 g G)) (h.ml g (h4 g G)).2.2,λg G=> .inl (h4 g G)⟩
 ·have:j=vs.length:=by omega
  subst this;rw [List.getElem_append_right (Mu _)];simp only [Nat.sub_self,List.getElem_cons_zero];have β:Kp w0 w' λg=>vx.ownBlock=some g\/g=b:=Kp.trans (Kp.trans (Kp.ah x _) (Kp.mono (λ _ h=> .inl h) (Kp.aQ G λ _ h=>h)) λ _ _ h=>h) k6 λ _ _ h=> .inr h
  refine⟨hl,l,Z,hs.K3 β λg G e=>?_,λg G=> .inr G⟩;have h3:=(J g G).1;exact e.elim (λe=>by have :=(h.x.block g e).2;omega) λe=>by omega
end
theorem zk {w w':World}(x:Ex w w'):w.grownBy w' none:=⟨x.os,x.tape,x.output,x.size,λg G _=>x.block g G⟩
def K1 (w:World)(b2 b4:Nat)(q:Bool)(R:Value->Bool->PV):Prop:=
 ∃v162:Value,∃H:Value,∃v164:Value,(World.cell? w ⟨b4,0,none⟩=some v162/\World.cell? w ⟨b4,1,none⟩=some H/\World.cell? w ⟨b4,2,none⟩=some v164/\True)/\(List.length [v162,H,v164]=3/\List.all [v162,H,v164] aB=true/\∀j,j< 3->(∃u,World.cell? w ⟨b2,0+j,none⟩=some u)/\World.frozen? w ⟨b2,0+j,none⟩=false)/\
  ∀G:World,G=World.setCells w b2 0 [v162,H,v164]->∃J:Value,∃V:Value,∃W:Value,(World.cell? G ⟨b2,0,none⟩=some J/\World.cell? G ⟨b2,1,none⟩=some V/\World.cell? G ⟨b2,2,none⟩=some W/\True)/\R ((Value.agg #[J,V,W])) q G
section
variable {B b:Nat} {w w':World} {va vn vx:Value} {all:List Tx} {ns:List Nat} {vs:List Value} {L:Nat->Prop}
theorem oX.kp (h:oX B b w va vn vx all ns vs L)(k:Kp w w' λg=>g< B):oX B b w' va vn vx all ns vs L:=by
 have s:=k.size;have hb:=h.lb;have e:=k.block b h.lt (by omega);refine⟨h.lb,by have :=h.lt;omega,λj=>by rw [MU (w:=w) e];exact h.f j,by rw [Mn (w:=w) e];exact h.c0,by rw [Mn (w:=w) e];exact h.c1,by rw [Mn (w:=w) e];exact h.c2,h.a.kp k λg G e=>by have :=(h.a.block g G).1;omega,h.n.kp k λg G e=>by have :=(h.n.block g G).1;omega,h.x.kp k λg G e=>by have :=(h.x.block g G).1;omega,h.da,h.dn,h.dx,λg G=>⟨(h.ml g G).1,by have :=(h.ml g G).2.1;omega,(h.ml g G).2.2⟩,λj H=>?_⟩;obtain⟨J,l,V,W,h4⟩:=h.ls j H;exact⟨J,l,V,W.K3 k λg G e=>by have :=(h.ml g (h4 g G)).1;omega,h4⟩
theorem oX.Fk (h:oX B b w va vn vx all ns vs L):aB va=true/\aB vn=true/\aB vx=true:=⟨h.a.jU,h.n.jU,h.x.jU⟩
theorem EW (h:oX B b w va vn vx all ns vs L){b2:Nat}(W:b2< B)(V:∀j,j< 3->(∃u,w.cell? ⟨b2,j,none⟩=some u)/\w.frozen? ⟨b2,j,none⟩=false){q:Bool}{R:Value->Bool->PV}(hR:∀w',Kp w w' (λg=>g=b2)->oX B b w' va vn vx all ns vs L->R (.agg #[va,vn,vx]) q w'):K1 w b2 b q R:=by
 obtain⟨Z,o2,o3⟩:=h.Fk;refine⟨va,vn,vx,⟨h.c0,h.c1,h.c2,trivial⟩,⟨rfl,by simp [Z,o2,o3],λj H=>by rw [MX];exact V j H⟩,λw1 J=>?_⟩;obtain⟨k,_,_,G⟩:=aU (b:=b2) [va,vn,vx] w 0;rw [<-J]at k G;have G:=λj (H:j< 3)=>G j (λi hi=>by rw [MX];exact(V i hi).1) H
 simp only [MX]at G;exact⟨va,vn,vx,⟨G 0 (by omega),G 1 (by omega),G 2 (by omega),trivial⟩,hR w1 k (h.kp (Kp.mono (λg e=>by omega) k))⟩
end
def LM (w:World)(v src:Value)(K:Value->PV):Prop:=
 ∃(base n m:Nat) (xs news:List Value),World.ownsRow w base tI 1 v n xs/\base<=Array.size (World.heap w)/\dI w src m 1 news/\(n+m<=maxLen/\(n+m)* 8<=140737488355328)/\
  ∀(v':Value) (w':World),World.ownsRow w' base tI 1 v' (n+m) (xs++news)->World.grownBy w w' (Value.ownBlock v)->(∀b:Nat,Value.ownBlock v'=some b->Value.ownBlock v=some b\/Array.size (World.heap w)<=b)->K v' w'
theorem I4 {e B by_:Nat}{w:World}{v:Value}{l:List Value}(h:aM e B w v l)(hB:B<=w.heap.size){x:Value}{m:List Value}(H:dI w x m.length 1 m)(G:by_<=48)(J:l.length+m.length<=1099511627776){K:Value->PV}
  (V:∀v' w',aM e B w' v' (l++m)->w.grownBy w' v.ownBlock->(∀b,v'.ownBlock=some b->v.ownBlock=some b\/w.heap.size<=b)->K v' w'):
  ∃(base n k:Nat) (xs news:List Value),World.ownsRow w base e 1 v n xs/\base<=Array.size (World.heap w)/\dI w x k 1 news/\(n+k<=maxLen/\(n+k)* by_<=140737488355328)/\
   ∀(v':Value) (w':World),World.ownsRow w' base e 1 v' (n+k) (xs++news)->World.grownBy w w' (Value.ownBlock v)->(∀b:Nat,Value.ownBlock v'=some b->Value.ownBlock v=some b\/Array.size (World.heap w)<=b)->K v' w':=by
 refine⟨B,l.length,m.length,l,m,h,hB,H,⟨by unfold maxLen;omega,?_⟩,λv' w' W Z hw=>V v' w' ?_ Z hw⟩
 ·have:(l.length+m.length)* by_<=1099511627776* 48:=PM J G;omega
 ·unfold aM;rw [Mt];exact W
theorem Cz {e:Nat}{w w':World}{b:Nat}{x:Value}(G:aB x=true)(hb:b=w.heap.size)(h:w'=w.alloc (.cells #[x] e)):dI w' (.slice (some ⟨b,0,none⟩) 1 1) [x].length 1 [x]:=by
 subst hb h;refine⟨rfl,by simp [G],.inr ⟨_,0,1,rfl,λj u hu=>?_⟩⟩;rw [MX];refine aa ?_
 match j,hu with
 | 0,hu=>simpa using hu
 | j+1,hu=>simp at hu
theorem DW {s:Tx}{w:World}{R:Value->Bool->PV}(hR1:cI s=none->∀a b c w',aB a=true->aB b=true->aB c=true->Ex w w'->R (.agg #[a,b,c]) false w')
  (hR2:∀n0 all,cT s=some n0->cI s=some all->(∀x∈all,St x)->all.length<=60->∀B b va vn vx ns vs L w',Ex w w'->w.heap.size<=B->oX B b w' va vn vx all ns vs L->vs.length=all.length->R (.agg #[va,vn,vx]) true w'):
  PW 54 #[.string (ax s)] w (aw [.v,.b] R):=by
 refine qE s w R ?_;intro b2 w3 hb2 hw3 b4 Z hb4 hw5;have x3:Ex w w3:=hw3▸Ex.alloc w _;have x5:Ex w3 Z:=hw5▸Ex.alloc w3 _;have s3:w3.heap.size=w.heap.size+1:=by rw [hw3,size_alloc]
 have s5:Z.heap.size=w3.heap.size+1:=by rw [hw5,size_alloc]
 have c2:∀j,j< 3->(∃u,Z.cell? ⟨b2,j,none⟩=some u)/\Z.frozen? ⟨b2,j,none⟩=false:=λj hj=>by
  refine⟨?_,by rw [N4 x5 (show b2< _ by omega),hw3,hb2];exact aS _ _ _ _⟩;rw [x5.cell (a:=⟨b2,j,none⟩) (show b2< _ by omega),hw3,hb2]
  match j,hj with
  | 0,_=>exact⟨_,aa rfl⟩
  | 1,_=>exact⟨_,aa rfl⟩
  | 2,_=>exact⟨_,aa rfl⟩
 have c4:∀j,j< 3->∃u,Z.cell? ⟨b4,0+j,none⟩=some u:=λj hj=>by
  rw [hw5,hb4,MX]
  match j,hj with
  | 0,_=>exact⟨_,aa rfl⟩
  | 1,_=>exact⟨_,aa rfl⟩
  | 2,_=>exact⟨_,aa rfl⟩
 have f4:∀j,Z.frozen? ⟨b4,j,none⟩=false:=λj=>by rw [hw5,hb4];exact aS _ _ _ _
 refine⟨⟨rfl,rfl,λj hj=>⟨c4 j hj,by rw [MX];exact f4 j⟩⟩,λw6 hw6=>?_⟩;obtain⟨k6,k6f,_,sc⟩:=aU (b:=b4) [Value.slice none 0 0,.slice none 0 0,.slice none 0 0] Z 0;rw [<-hw6]at k6 k6f sc;have sc:=λj (hj:j< 3)=>sc j c4 hj
 simp only [MX]at sc;have s6:=k6.size;have h6:oX b4 b4 w6 (.slice none 0 0) (.slice none 0 0) (.slice none 0 0) [] [] [] λ _=>False:=
  ⟨Mu _,by omega,λj=>by rw [k6f];exact f4 j,sc 0 (by omega),sc 1 (by omega),sc 2 (by omega),Own.nil _ _,aM.nil _ _ _,aM.nil _ _ _,(λg hg=>by cases hg),(λg hg=>by cases hg),(λg hg=>by cases hg),λg hg=>hg.elim,λj hj=>by simp at hj⟩
 have b56:Below b4 Z w6:=Kp.below k6 (by omega) λg hg e=>by omega
 have x05:Ex w Z:=Ex.trans x3 x5;have cb2:∀{w':World},Below b4 Z w'->∀j,j< 3->(∃u,w'.cell? ⟨b2,j,none⟩=some u)/\w'.frozen? ⟨b2,j,none⟩=false:=λ{w'} k j hj=>by
  have e:=k.block b2 (by omega);obtain⟨⟨u,h1⟩,h2⟩:=c2 j hj;exact⟨⟨u,by rw [Mn (w:=Z) e];exact h1⟩,by rw [MU (w:=Z) e];exact h2⟩
 have toEx:∀{w' w2:World},Below b4 Z w'->Kp w' w2 (λg=>g=b2)->Ex w w2:=λ{w' w2} k k2=>by
  have :=k.size;exact Ex.below (Ex.below x05 (Pw k (by omega))) (Kp.below k2 (by omega) λg hg e=>by omega)
 have bad:cI s=none->∀{w':World} {va vn vx:Value} {all:List Tx} {ns:List Nat} {vs:List Value} {L:Nat->Prop},Below b4 Z w'->oX b4 b4 w' va vn vx all ns vs L->K1 w' b2 b4 false R:=λhn {w' va vn vx all ns vs L} k h=>
  EW h (by omega) (cb2 k) λw2 k2 h2=>hR1 hn _ _ _ w2 h2.Fk.1 h2.Fk.2.1 h2.Fk.2.2 (toEx k k2)
 refine vE λw9 x9=>⟨λn0 hst=>⟨(λh=>by cases h),λ _=>?_⟩,λhst=>⟨λ _=>bad (by unfold cI;rw [hst];rfl) (Ob b56 (Pw x9 (by omega))) (h6.ex x9),(λh=>by cases h)⟩⟩
 have hg:cI s=bfs 62 [n0] 0:=by unfold cI;rw [hst];rfl
 have hst0:=vw hst;have s9:=x9.size;have h9:=h6.ex x9;have b9:Below b4 Z w9:=Ob b56 (Pw x9 (by omega));intro b17 w18 hb17 hw18;have x18:Ex w9 w18:=hw18▸Ex.alloc w9 _;have o18:Own b4 w18 (.slice (some ⟨b17,0,none⟩) 1 1) ([]++[n0]):=Own.one (by omega) hb17 hw18;obtain⟨f18,g18⟩:=h9.Jb (by omega) (Ex.refl w9) o18 (zk x18) λg hg=> .inr (by have:b17=g:=Ng hg;omega)
 refine⟨rfl,f18,λw20 hw20=>?_⟩;obtain⟨h20,b20⟩:=g18 w20 hw20;intro b21 w22 hb21 hw22;have x22:Ex w20 w22:=hw22▸Ex.alloc w20 _;have s20:=b20.size;have o22:aM tI b4 w22 (.slice (some ⟨b21,0,none⟩) 1 1) (([]++[0]).map iv):=aM.one (by omega) hb21 hw22;obtain⟨f22,g22⟩:=h20.Jm (m:=0) (by omega) (Ex.refl w20) o22 (zk x22) λg hg=> .inr (by have:b21=g:=Ng hg;omega)
 refine⟨rfl,f22,λw24 hw24=>?_⟩;obtain⟨h24,b24⟩:=g22 w24 hw24;have bb24:Below b4 Z w24:=Ob b9 (Ob b20 b24);rw [hg]at hR1 hR2 bad;refine⟨λx w'=>∃(i:Nat) (all:List Tx) (va vn vx:Value) (ns:List Nat) (vs:List Value) (L:Nat->Prop),x=i/\i<=all.length/\all.length<=60/\(∀y∈all,St y)/\bfs (62 - i) all i=bfs 62 [n0] 0/\Below b4 Z w'/\oX b4 b4 w' va vn vx all ns vs L/\ns.length=all.length/\vs.length=i/\∀n∈ns,n<=i,λx _=>(61 - x).toNat,
  ⟨0,[n0],_,_,_,[0],[],_,rfl,by simp,by simp,(λy hy=>by cases MA.1 hy;exact hst0),rfl,bb24,h24,rfl,rfl,λn hn=>by cases MA.1 hn;omega⟩,λx w28 hO=>?_⟩
 clear hw24 hw22 hw20 hw18 f22 g22 f18 g18 o22 o18 h24 h20 h9 x22 x18 bb24 b24 b20 b9 s20 s9 b56 sc k6 k6f hw6 h6 hw5 hw3;obtain⟨i,all,va,vn,vx,ns,vs,L,rfl,hi,h60,hst',χ,ε,μ,hnl,hvl,hnb⟩:=hO;obtain⟨a30,cap30,hva⟩:=μ.a.strs.slice;have s28:=ε.size;refine⟨va,μ.c0,a30,_,cap30,hva,λhlt=>?_,λhge=>?_⟩;rotate_left
 ·have ν:¬i< all.length:=by simp only [Mw]at hge;omega
  have e:=(Cl h60 ν hi).symm.trans χ;exact EW μ (by omega) (cb2 ε) λw2 k2 h2=>hR2 _ _ hst e.symm hst' h60 _ _ _ _ _ _ _ _ w2 (toEx ε k2) (by omega) h2 (by omega)
 have ν:=oL hlt;refine⟨va,μ.c0,μ.a.strs.get (Ex.refl _) (Og i) (gE ν) (Q:=λn=>_) ?_⟩;obtain⟨t',Ay,et⟩:=hst' _ (Mx ν);have hnq:=G6 Ay;rw [et]at hnq;rw [<-et];refine Fb Ay (λhn w41 ς=>⟨λ _=>bad ((zF h60 ν (hnq.trans hn)).symm.trans χ).symm (Ob ε (Pw ς (by omega))) (μ.ex ς),(λh=>by cases h)⟩) λl hl η w41 ς o39=>⟨(λh=>by cases h),λ _=>?_⟩
 have ζ:=hnq.trans hl;have h41:=μ.ex ς;have bw41:Below b4 Z w41:=Ob ε (Pw ς (by omega));have s41:=ς.size;refine⟨vx,h41.c2,o39.jU,λb50 w51 hb50 hw51=>?_⟩;have x51:Ex w41 w51:=hw51▸Ex.alloc w41 _;have s51:w51.heap.size=w41.heap.size+1:=by rw [hw51,size_alloc]
 refine I4 (by_:=24) ((h41.x).ex x51) (by omega) (Cz o39.jU hb50 hw51) (by omega) (by simp only [Mm,MB];omega) λv57 w58 o58 g58 n58=>?_
 obtain⟨f58,q58⟩:=μ.Lc (by omega) ς x51 (by omega) (by subst hvl;exact ζ) o39.strs (λg hg=>o39.block g hg) o58 g58 n58;refine⟨o58.jU,f58,λw60 hw60=>?_⟩;obtain⟨h60',b60⟩:=q58 w60 hw60;have bw60:Below b4 Z w60:=Ob ε b60;have hll:=Cn ζ;obtain⟨a61,cap61,hv39⟩:=o39.strs.slice;have hlv:vs.length< (vs++[η]).length:=by simp
 have hls:∀{w':World} {va vn vx:Value} {cur:List Tx} {ns:List Nat} {L':Nat->Prop},all<+:cur->oX b4 b4 w' va vn vx cur ns (vs++[η]) L'->Strs w' η l:=λ{w' va vn vx cur ns L'} hp h=>by
  obtain⟨h1,l',h2,h3,_⟩:=h.ls vs.length hlv;have e1:cur[vs.length]=all[i]:=by subst hvl;exact(hp.getElem ν).symm
  have e2:(vs++[η])[vs.length]=η:=by rw [List.getElem_append_right (Mu _)];simp
  rw [e1,ζ]at h2;rw [e2]at h3;cases h2;exact h3
 generalize hL':(λg=>L g\/η.ownBlock=some g)=L' at*;refine⟨a61,_,cap61,hv39,λx w'=>∃(j:Nat) (va vn vx:Value) (ns:List Nat),x=j/\j<=l.length/\Below b4 Z w'/\oX b4 b4 w' va vn vx (cf all (l.take j)) ns (vs++[η]) L'/\ns.length=(cf all (l.take j)).length/\(∀n∈ns,n<=i+1)/\∀h:i< ns.length,ns[i]<=i,λx _=>(l.length - x).toNat,⟨0,va,vn,v57,ns,rfl,Nl _,bw60,h60',hnl,λn hn=>by have :=hnb n hn;omega,λh=>hnb _ (Mx h)⟩,λx w67 hI=>?_⟩;obtain⟨j,va2,α,vx2,G,rfl,hj,ξ,J,θ,υ,hni67⟩:=hI;have hcl:=tP (l.take j) all;rw [M5]at hcl;have hpre:all<+:cf all (l.take j):=rL;have hple:=hpre.length_le;have s67:=ξ.size;refine⟨λhlt2=>?_,λhge2=>?_⟩;rotate_left
 ·have hjl:=oE hge2 (by omega);subst hjl;rw [MR]at J θ hpre hple;obtain⟨a78,cap78,hv78⟩:=J.a.strs.slice;refine⟨va2,J.c0,a78,_,cap78,hv78,λV=>?_,λV=>?_⟩
  ·have V:60< (cf all l).length:=by simp only [Mz]at V;omega
   exact bad ((Cd h60 ν ζ V).symm.trans χ).symm ξ J
  ·have V:¬60< (cf all l).length:=by simp only [Mw]at V;omega
   refine⟨by omega,⟨i+1,cf all l,va2,α,vx2,G,vs++[η],L',by omega,by omega,by omega,λs hs=>?_,(yN h60 ν ζ V).symm.trans χ,ξ,J,θ,by simp [hvl],υ⟩,by show(61 - ((i:Int)+1)).toNat< (61 - (i:Int)).toNat;omega⟩;exact(tr.1 hs).elim (hst' s) (FF w ζ s)
 have hjl:=oL hlt2;have hmeas:=@tN l.length j (by omega);refine(hls hpre J).get (Ex.refl _) (Og j) (gE hjl) (Q:=λn=>_) ⟨va2,J.c0,DN J.a.strs (by omega) λn74 hn74 _=>⟨λhq=>?_,λhq=>?_⟩⟩;rotate_left
 ·have hq:l[j]∈cf all (l.take j):=by
   simp only [Mw]at hq;exact NI λh=>hq (hn74.2 h)
  have e:cf all (l.take (j+1))=cf all (l.take j):=by rw [lK hjl];unfold nk;rw [MZ hq]
  exact⟨by omega,⟨j+1,va2,α,vx2,G,by omega,by omega,ξ,by rw [e];exact J,by rw [e];exact θ,υ,hni67⟩,hmeas⟩
 have hq:l[j]∉cf all (l.take j):=by
  simp only [Mz]at hq;exact hn74.1 hq
 have e:cf all (l.take (j+1))=cf all (l.take j)++[l[j]]:=by rw [lK hjl];unfold nk;rw [MJ hq]
 refine⟨va2,J.c0,λb77 w78 hb77 hw78=>?_⟩;have x78:Ex w67 w78:=hw78▸Ex.alloc w67 _;have s78:=x78.size;refine Own.push (J.a.ex x78) (by omega) (Strs.one hb77 hw78) (by simp only [Mm,MB];omega) λv84 w85 _ o85 g85 n85=>?_
 obtain⟨f85,q85⟩:=J.Jb (by omega) x78 o85 g85 n85;refine⟨o85.jU,f85,λw87 hw87=>⟨λ _=>True,λβ hw89=>⟨trivial,?_⟩⟩⟩;obtain⟨h87,b87⟩:=q85 w87 hw87;have x89:Ex w87 β:=hw89▸Ex.drew w87;have γ:=h87.ex x89;have s87:=b87.size;have s89:=x89.size;have bw89:Below b4 Z β:=Ob ξ (Ob b87 (Pw x89 (by omega)));have hin:i< G.length:=by omega
 have hni:=hni67 hin;have hrd:∃ω o93 ι,α= .slice (some ⟨ω,o93,none⟩) G.length ι/\β.cell? ⟨ω,o93+i,none⟩=some (iv G[i]):=by
  rcases γ.n.Dv (D:=λ _=>True) λ _ _=>trivial with⟨_,h0⟩ | ⟨b',off,cap',e1,_,_,hc⟩
  ·rw [Pa]at h0;rw [h0]at hin;simp at hin
  ·rw [MM]at e1;exact⟨b',off,cap',e1,hc i _ (by simp [hin])⟩
 obtain⟨ω,o93,ι,e92,hc92⟩:=hrd;have fin:∀(κ:Nat) (δ:World),κ=β.heap.size->δ=β.alloc (.cells #[.int .i64 ((G[i]:Int)+1)] tI)->LM δ α (.slice (some ⟨κ,0,none⟩) 1 1) λv104 ψ=>True/\aB v104=true/\((∃u106:Value,World.cell? ψ ⟨b4,1,none⟩=some u106)/\World.frozen? ψ ⟨b4,1,none⟩=false)/\∀ο:World,ο=World.setCell ψ ⟨b4,1,none⟩ v104->True/\bJ ((j:Int)+1)/\(∃(j':Nat) (va vn vx:Value) (ns:List Nat),(j:Int)+1=j'/\j'<=l.length/\Below b4 Z ο/\oX b4 b4 ο va vn vx (cf all (l.take j')) ns (vs++[η]) L'/\ns.length=(cf all (l.take j')).length/\(∀n∈ns,n<=i+1)/\∀h:i< ns.length,ns[i]<=i)/\((l.length:Int) - ((j:Int)+1)).toNat< ((l.length:Int) - j).toNat:=λκ δ W H=>by
  have x98:Ex β δ:=H▸Ex.alloc β _;have s98:=x98.size;have ei:Value.int .i64 ((G[i]:Int)+1)=iv (G[i]+1):=rfl;refine I4 (by_:=8) (γ.n.ex x98) (by omega) (Cz rfl W H) (by omega) (by simp only [MM,Mm,MB];omega) λv104 ψ o105 g105 n105=>?_
  rw [ei,show G.map iv++[iv (G[i]+1)]=(G++[G[i]+1]).map iv by simp]at o105;obtain⟨f105,q105⟩:=γ.Jm (by omega) x98 o105 g105 n105;refine⟨trivial,o105.jU,f105,λο hw107=>?_⟩;obtain⟨h107,b107⟩:=q105 ο hw107;refine⟨trivial,by omega,⟨j+1,_,_,_,_,by omega,by omega,Ob bw89 b107,by rw [e];exact h107,by rw [e];simp [θ],λn hn=>?_,λh=>?_⟩,hmeas⟩
  ·rcases My.1 hn with hn | hn
   ·exact υ n hn
   ·cases MA.1 hn;omega
  ·rw [O' hin];exact hni
 have hInR:bJ ((G[i]:Int)+1):=by omega
 have φ:β.cell? ⟨ω,o93+Int.toNat (i:Int)* 1,none⟩=some (.int .i64 (G[i]:Int)):=by rw [Mv,MW];exact hc92
 refine⟨⟨α,γ.c1,trivial,α,γ.c1,trivial,ω,o93,_,ι,e92,by omega,by omega,_,φ,trivial,hInR,λκ δ W H=>⟨trivial,fin κ δ W H⟩⟩,α,γ.c1,trivial,ω,o93,_,ι,e92,by omega,by omega,⟨α,γ.c1,trivial,_,φ,trivial,hInR,λκ δ W H=>⟨trivial,fin κ δ W H⟩⟩,_,φ,trivial,hInR,⟨α,γ.c1,trivial,λκ δ W H=>⟨trivial,fin κ δ W H⟩⟩,λb139 w140 hb139 hw140=>⟨trivial,α,?_,trivial,fin b139 w140 hb139 hw140⟩⟩;rw [(show Ex β w140 from hw140▸Ex.alloc β _).cell (a:=⟨b4,1,none⟩) γ.lt];exact γ.c1
theorem F9 {J:Off UInt8}{G a b:UInt8}{s:Tx}{q:Bool}{k:UInt8}(W:k≠126)(h:uk J (fy G a b s q)):∀c,J.over k=some c↔G=k/\c=a:=by
 intro c;cases J with
 | tau p=>
  obtain⟨_,_,_,h⟩:=h;unfold fy at h;simp only [Nj,NQ,O8,Ox]at h;have H:G=126:=MQ.1 (by omega);exact⟨(λh=>by cases h),λh=>absurd (h.1.symm.trans H) W⟩
 | snd c d p=>
  obtain⟨_,h⟩:=h;unfold fy at h;simp only [Nj,NQ,O8,Ox]at h;have H:G=33:=MQ.1 (by omega);have V:a=c:=MQ.1 (by omega);rw [yP,H,V]
 | rcv c d p Z=>
  unfold uk fy at h;simp only [Nj,NQ,O8,Ox]at h;have H:G=63:=MQ.1 (by omega);have V:a=c:=MQ.1 (by omega);rw [zd,H,V]
def Gs (k:UInt8)(t:P)(l:List (Off UInt8))(c:UInt8):Prop:=∃o∈l,o.over k=some c/\c∉t.frL
theorem GD {k:UInt8}{t:P}{l m:List (Off UInt8)}{c:UInt8}:Gs k t (l++m) c↔Gs k t l c\/Gs k t m c:=by
 unfold Gs;constructor
 ·rintro⟨o,G,h⟩
  exact(My.1 G).imp (λH=>⟨o,H,h⟩) λH=>⟨o,H,h⟩
 ·rintro(⟨o,G,h⟩ | ⟨o,G,h⟩)
  ·exact⟨o,M0 _ G,h⟩
  ·exact⟨o,MT _ G,h⟩
theorem GB {s:Tx}{k:UInt8}(hk:k≠126){w:World}{R:aF->Bool->PV}(hR:∀w',Ex w w'->(cT s=none->R [] false w')/\∀n,cT s=some n->R (Aj k n) true w'):
  PW 96 #[.string (ax s),.int .u8 k.toNat] w (aw [.s,.b] R):=by
 refine sf s k w R ?_;dsimp only [go_sem];dsimp only [go_sem,UInt8.reduceOfNat,UInt32.reduceOfNat,Nat.reduceAdd];refine vE λw5 x5=>⟨λn Z=>⟨(λh=>by cases h),λ _=>?_⟩,λZ=>⟨λ _=>(hR w5 x5).1 Z,(λh=>by cases h)⟩⟩
 obtain⟨t,ok,rfl⟩:=vw Z;have hR:∀w',Ex w w'->R (Hc k t) true w':=λw' x=>by have :=(hR w' x).2 _ Z;rwa [C7 ok]at this
 have su:=ok.su;obtain⟨hn,ε⟩:=yd ok;have ν:Ok t:=EB ok.al ok.good;have ξ:∀q∈t.ths,Ok q:=λq hq=>⟨(su.al q hq).wf,by rw [aV];have :=(ε q hq).2;omega⟩
 have hfl:t.frL.length<=1099511627776:=by have :=CX t;have :=ok.len;omega
 refine po ν (qg ν ok.nr λv9 w10 x10 o9=>?_);have ο:=o9.strs;obtain⟨a,cap,hv⟩:=ο.slice;rw [MM]at hv;refine⟨a,_,cap,hv,λout x w'=>∃i:Nat,x=i/\i<=t.ths.length/\Ex w10 w'/\jE out/\∀c,c∈out↔Gs k t ((t.ths.take i).flatMap offs) c,λ _ x _=>(t.ths.length - x).toNat,⟨0,rfl,Nl _,Ex.refl _,jE.nil,by simp [Gs]⟩,λout x w18 hI=>?_⟩;obtain⟨i,rfl,hi,ζ,ς,hm⟩:=hI;refine⟨λhlt=>?_,λhge=>?_⟩;rotate_left
 ·have hil:=oE hge (by omega);rw [hil,MR]at hm;have:out=Hc k t:=BW ς (Ht k t) λc=>by
   rw [hm,Hx su];constructor
   ·rintro⟨o,ho,h1,h2⟩
    obtain⟨q,hq,ho⟩:=Ni.1 ho;exact⟨h2,q,hq,o,ho,h1⟩
   ·rintro⟨h2,q,hq,o,ho,h1⟩
    exact⟨o,Ni.2 ⟨q,hq,ho⟩,h1,h2⟩
  rw [this];exact hR w18 (Ex.trans x5 (Ex.trans x10 ζ))
 have η:=oL hlt;have α:=Mx η;have eT:(t.ths.take (i+1)).flatMap offs=(t.ths.take i).flatMap offs++offs t.ths[i]:=by rw [Mq η,NM];simp
 refine ο.get ζ (i:=i) (x:=t.ths[i].text) (by omega) (by simp [η]) (Q:=λn=>_) (mT _ (Mu _) (ξ _ α) (su.smpP _ α) (by have :=(ε _ α).1;omega) λv24 υ xs x25 φ m24=>?_);obtain⟨a26,θ,J⟩:=φ.slice;have hm1:=@tN t.ths.length i (by omega);have hol:(offs t.ths[i]).length<=60:=by have :=eY t.ths[i];have :=(ε _ α).1;omega
 generalize hos:offs t.ths[i]=os at*;refine⟨a26,_,θ,J,λout x w'=>∃j:Nat,x=j/\j<=os.length/\Ex υ w'/\jE out/\∀c,c∈out↔Gs k t ((t.ths.take i).flatMap offs++os.take j) c,λ _ x _=>(os.length - x).toNat,⟨0,rfl,Nl _,Ex.refl _,ς,by simpa using hm⟩,λδ x w33 hI=>?_⟩;obtain⟨j,rfl,hj,ι,V,β⟩:=hI;refine⟨λχ=>?_,λψ=>?_⟩;rotate_left
 ·have γ:=oE ψ (by omega);rw [γ,MR,<-eT]at β;exact⟨by omega,⟨i+1,by omega,by omega,Ex.trans ζ (Ex.trans x25 ι),V,β⟩,hm1⟩
 have γ:=oL χ;have ω:=@tN os.length j (by omega);obtain⟨g,capg,cs,hvg,hcs,G⟩:=sB (φ.ex ι) m24 γ;obtain⟨kk,ca,cb,cs3,cq,rfl⟩:=hcs.any;rw [J]at hvg;refine⟨g,0,_,capg,J.trans hvg,by omega,by omega,kk,ca,cb,cs3,cq,⟨G 0 _ rfl _ (by omega) (by omega),G 1 _ rfl _ (by omega) (by omega),G 2 _ rfl _ (by omega) (by omega),G 3 _ rfl _ (by omega) (by omega),G 4 _ rfl _ (by omega) (by omega),trivial⟩,λb43 w44 hb43 hw44=>?_⟩;obtain⟨box1,box2⟩:=J6 (cs:=fy kk ca cb cs3 cq) rfl rfl hb43 hw44;refine⟨⟨rfl,sH,box1⟩,λw45 hw45=>?_⟩;obtain⟨x45,l45,κ⟩:=box2 w45 hw45;have W:=Ex.trans ι x45;have μ:=F9 hk hcs;have etk:(t.ths.take i).flatMap offs++os.take (j+1)=((t.ths.take i).flatMap offs++os.take j)++[os[j]]:=by rw [Mq γ,M8]
 have skip:∀{w':World},Ex w45 w'->(¬(kk=k/\ca∉t.frL))->bJ ((j:Int)+1)/\(∃j':Nat,(j:Int)+1=j'/\j'<=os.length/\Ex υ w'/\jE δ/\∀c,c∈δ↔Gs k t ((t.ths.take i).flatMap offs++os.take j') c)/\((os.length:Int) - ((j:Int)+1)).toNat< ((os.length:Int) - j).toNat:=λ{w'} x h=>by
  refine⟨by omega,⟨j+1,by omega,by omega,Ex.trans W x,V,λc=>?_⟩,ω⟩;rw [etk,GD,β];have:¬Gs k t [os[j]] c:=by
   rintro⟨o,ho,h1,h2⟩
   cases MA.1 ho;obtain⟨h3,h4⟩:=(μ c).1 h1;exact h ⟨h3,h4▸h2⟩
  simp [this]
 refine⟨kk,κ 0 (by omega),λH=>⟨ca,κ 1 (by omega),ia hfl ⟨λhn=>⟨ca,κ 1 (by omega),?_⟩,λhn=>skip (Ex.refl _) ?_⟩⟩,λH=>skip (Ex.refl _) ?_⟩
 ·have H:kk=k:=by simpa using H
  have hn:ca∉t.frL:=by simpa using hn
  refine eU V λs' w52 x52 hs' hm'=>⟨by omega,⟨j+1,by omega,by omega,Ex.trans W x52,hs',λc=>?_⟩,ω⟩
  rw [hm',etk,GD,β];have:Gs k t [os[j]] c↔c=ca:=by
   constructor
   ·rintro⟨o,ho,h1,h2⟩
    cases MA.1 ho;exact((μ c).1 h1).2
   ·rintro rfl
    exact⟨_,MA.2 rfl,(μ _).2 ⟨H,rfl⟩,hn⟩
  rw [this];exact or_comm
 ·have hn:ca∈t.frL:=by simpa using hn
  exact λh=>h.2 hn
 ·have H:kk≠k:=by simpa using H
  exact λh=>H h.1
theorem FQ {w:World}{b3:Nat}{x y z:Value}(hx:aB x=true)(hy:aB y=true)(hz:aB z=true)(hc:∀j,j< 3->(∃u,w.cell? ⟨b3,j,none⟩=some u)/\w.frozen? ⟨b3,j,none⟩=false){R:Value->PV}(hR:∀w',Kp w w' (λg=>g=b3)->R (.agg #[x,y,z]) w'):
  (List.length [x,y,z]=3/\List.all [x,y,z] aB=true/\∀j,j< 3->(∃u,World.cell? w ⟨b3,0+j,none⟩=some u)/\World.frozen? w ⟨b3,0+j,none⟩=false)/\∀G:World,G=World.setCells w b3 0 [x,y,z]->∃J:Value,∃V:Value,∃W:Value,(World.cell? G ⟨b3,0,none⟩=some J/\World.cell? G ⟨b3,1,none⟩=some V/\World.cell? G ⟨b3,2,none⟩=some W/\True)/\R (.agg #[J,V,W]) G:=by
 refine⟨⟨rfl,by simp [hx,hy,hz],λj Z=>by rw [MX];exact hc j Z⟩,λw1 α=>?_⟩;obtain⟨k,_,_,H⟩:=aU (b:=b3) [x,y,z] w 0;rw [<-α]at k H;have H:=λj (Z:j< 3)=>H j (λi hi=>by rw [MX];exact(hc i hi).1) Z
 simp only [MX]at H;exact⟨x,y,z,⟨H 0 (by omega),H 1 (by omega),H 2 (by omega),trivial⟩,hR w1 k⟩
theorem Fs {w w1:World}{b3 e:Nat}{x y z:Value}(hb:b3=w.heap.size)(h:w1=w.alloc (.cells #[x,y,z] e)):∀{w':World},Ex w1 w'->∀j,j< 3->(∃u,w'.cell? ⟨b3,j,none⟩=some u)/\w'.frozen? ⟨b3,j,none⟩=false:=λ{w'} k j G=>by
 have s1:w1.heap.size=w.heap.size+1:=by rw [h,size_alloc]
 rw [k.cell (a:=⟨b3,j,none⟩) (show b3< _ by omega),N4 k (show b3< _ by omega),h,hb];refine⟨?_,aS _ _ _ _⟩
 match j,G with
 | 0,_=>exact⟨_,aa rfl⟩
 | 1,_=>exact⟨_,aa rfl⟩
 | 2,_=>exact⟨_,aa rfl⟩
theorem aM.cell {e B:Nat}{w:World}{v:Value}{l:List Value}(h:aM e B w v l):(v= .slice none 0 0/\l=[])\/∃g cap,v= .slice (some ⟨g,0,none⟩) l.length cap/\g< w.heap.size/\∀j u,l[j]?=some u->w.cell? ⟨g,j,none⟩=some u:=by
 have V:=h.1;rcases h.2 with⟨H,J⟩ | ⟨g,cap,cur,rfl,hb,G,W,Z,h3,h4⟩
 ·left;exact⟨H,MS J⟩
 ·refine .inr ⟨g,cap,rfl,(Na.1 G).1,λj u hu=>?_⟩;have hj:j< l.length:=(No.1 hu).1;unfold World.cell?;simp only [G];rw [<-h4,Oa (by omega),N0]at hu;exact hu
structure Gv (w:World)(va vx:Value)(all:List Tx):Prop where
 a:Strs w va all
 x:∀j (h:j< all.length),∃g cap v l,vx= .slice (some ⟨g,0,none⟩) all.length cap/\w.cell? ⟨g,0+(j:Int).toNat* 1,none⟩=some v/\g< w.heap.size/\uz all[j]=some l/\Strs w v l
theorem Gv.ex {w w':World}{va vx:Value}{all:List Tx}(h:Gv w va vx all)(x:Ex w w'):Gv w' va vx all:=by
 refine⟨h.a.ex x,λj G=>?_⟩;obtain⟨g,cap,v,l,H,J,V,h4,h5⟩:=h.x j G;have :=x.size;exact⟨g,cap,v,l,H,by rw [x.cell (a:=⟨g,_,none⟩) V];exact J,by omega,h4,h5.ex x⟩
theorem oX.gv {B b:Nat}{w:World}{va vn vx:Value}{all:List Tx}{ns:List Nat}{vs:List Value}{L:Nat->Prop}(h:oX B b w va vn vx all ns vs L)(G:vs.length=all.length):Gv w va vx all:=by
 refine⟨h.a.strs,λj Z=>?_⟩;obtain⟨h1,l,H,J,_⟩:=h.ls j (by omega);rcases h.x.cell with⟨_,e⟩ | ⟨g,cap,e,V,W⟩
 ·rw [e]at G;simp at G;omega
 ·exact⟨g,cap,_,l,by rw [e,G],by rw [show 0+(j:Int).toNat* 1=j by omega];exact W j _ (Mo (by omega)),V,H,J⟩
structure Jd (w:World)(b:Nat)(all:List Tx)(P:Nat->Prop)(f:Tx->Bool)(w':World):Prop where
 ex:Ex w w'
 lb:w.heap.size<=b
 lt:b< w'.heap.size
 fr:∀j,w'.frozen? ⟨b,j,none⟩=false
 ce:∀j,j< all.length->∃u,w'.cell? ⟨b,j,none⟩=some u
 ok:∀j (h:j< all.length),P j->w'.cell? ⟨b,j,none⟩=some (.bool (f all[j]))
section
variable {w w1 w2:World} {b:Nat} {all:List Tx} {P:Nat->Prop} {f:Tx->Bool}
theorem Jd.set (h:Jd w b all P f w1)(nd:all.Nodup){j off:Nat}(G:j< all.length)(H:off=j){q:Bool}(hw:w2=w1.setCell ⟨b,off,none⟩ (.bool q)):Jd w b all (λi=>P i\/i=j) (put f all[j] q) w2:=by
 subst H;have k:Kp w1 w2 (λg=>g=b):=hw▸Kr.set w1 off _;have Z:=h.lt;have l2:=k.size;have lb:=h.lb;obtain⟨u,hu⟩:=h.ce off G;have same:w2.cell? ⟨b,off,none⟩=some (.bool q):=by rw [hw];exact MI _ _ _ hu
 have other:∀i,i≠off->w2.cell? ⟨b,i,none⟩=w1.cell? ⟨b,i,none⟩:=λi hi=>by rw [hw];exact Mr _ _ _ _ λe=>by injection e with e1 J;exact hi J.symm
 refine⟨Ex.below h.ex (Kp.below k h.ex.size λg hg e=>by omega),lb,by omega,λi=>by rw [hw,MG];exact h.fr i,λi hi=>?_,λi hi V=>?_⟩
 ·by_cases e:i=off
  ·exact⟨_,e▸same⟩
  ·rw [other i e];exact h.ce i hi
 ·unfold put;by_cases e:i=off
  ·subst e;rw [MZ rfl];exact same
  ·rw [MJ λW=>e ((List.getElem_inj nd).1 W),other i e];exact h.ok i hi (V.resolve_right e)
theorem Jd.mono {J:Nat->Prop}{V:Tx->Bool}(h:Jd w b all P f w1)(W:∀j (H:j< all.length),J j->P j/\V all[j]=f all[j]):Jd w b all J V w1:=
 ⟨h.ex,h.lb,h.lt,h.fr,h.ce,λj H G=>by rw [(W j H G).2];exact h.ok j H (W j H G).1⟩
theorem Jd.cnt (h:Jd w b all (λ _=>True) f w1):Proofs.YtdecokaadekjnaaGreat.cnt all (λs=>decide (∃j,∃h:j< all.length,all[j]=s/\w1.cell? ⟨b,j,none⟩=some (.bool true)))=Proofs.YtdecokaadekjnaaGreat.cnt all f:=by
 unfold Proofs.YtdecokaadekjnaaGreat.cnt;refine List.countP_congr λs H=>?_
 rw [Mz];constructor
 ·rintro⟨j,G,rfl,e⟩
  rw [h.ok j G trivial]at e;simpa using e
 ·intro e;obtain⟨j,G,rfl⟩:=Np.1 H;exact⟨j,G,rfl,by rw [h.ok j G trivial,e]⟩
end
theorem Dg {w:World}{va vn vx:Value}{all:List Tx}(h:Gv w va vx all)(hl:all.length<=60){R:Value->PV}(hR:∀v w',Ex w w'->Own w.heap.size w' v (aH (all.filter λs=> !decide (tW s≠[])))->R v w'):
  PW 142 #[.agg #[va,vn,vx]] w (aw [.v] R):=by
 refine qu _ w R ?_;dsimp only [go_sem];dsimp only [go_sem,UInt8.reduceOfNat,UInt32.reduceOfNat,Nat.reduceAdd];refine⟨[va,vn,vx],rfl,λb w1 hb H=>?_⟩;have x1:Ex w w1:=H▸Ex.alloc w _;have s1:w1.heap.size=w.heap.size+1:=by rw [H,size_alloc]
 have c0:w1.cell? ⟨b,0,none⟩=some va:=by rw [H,hb];exact aa rfl
 have c2:∀{w'},Ex w1 w'->w'.cell? ⟨b,2,none⟩=some vx:=λ{w'} x=>by rw [x.cell (a:=⟨b,2,none⟩) (show b< _ by omega),H,hb];exact aa rfl
 obtain⟨a,cap,hv⟩:=h.a.slice;refine⟨va,c0,a,_,cap,hv,λo x w'=>∃j:Nat,x=j/\j<=all.length/\Ex w1 w'/\Own w1.heap.size w' o ((all.take j).filter λs=> !decide (tW s≠[])),λ _ x _=>(all.length - x).toNat,⟨0,rfl,Nl _,Ex.refl _,Own.nil _ _⟩,λo x w2 hI=>?_⟩;obtain⟨j,rfl,hj,J,V⟩:=hI;have s2:=J.size;refine⟨λβ=>?_,λγ=>?_⟩
 ·have G:=oL β;have h2:=h.ex (Ex.trans x1 J);refine h2.a.get (Ex.refl _) (Og j) (gE G) (Q:=λn=>_) ?_;obtain⟨g,W,v,l,δ,ε,μ,ζ,η⟩:=h2.x j G;obtain⟨al,Z,θ⟩:=η.slice;have hq:=EA ζ;refine⟨_,c2 J,g,0,_,W,δ,by omega,by omega,v,ε,al,_,Z,θ,λhe=>?_,λhe=>?_⟩
  ·have he:l=[]:=by simp only [Mz]at he;exact MS (by omega)
   intro b3 w3 ι α;have x3:Ex w2 w3:=α▸Ex.alloc w2 _;have s3:=x3.size;refine Own.push (V.ex x3) (by omega) (Strs.one ι α) (by have :=N1 (λs=> !decide (tW s≠[])) (all.take j);rw [M5]at this;simp only [Mm,MB];omega) λv4 w4 x4 o4 κ ν=>⟨by omega,⟨j+1,by omega,by omega,?_,?_⟩,tN (by omega)⟩
   ·exact Ex.below (Ex.trans J x3) (Kp.below (Kp.aQ (S:=λg=>o.ownBlock=some g) κ λ _ h=>h) (by omega) λg hg e=>by have :=(V.block g e).1;omega)
   ·rw [Mq G,NK];simpa [hq,he]using o4
  ·have he:l≠[]:=by simp only [Mw]at he;rintro rfl;simp at he
   refine⟨by omega,⟨j+1,by omega,by omega,J,?_⟩,tN (by omega)⟩;rw [Mq G,NK];simpa [hq,he]using V
 ·have G:=oE γ hj;subst G;rw [MR]at V;refine jF V.strs (by have :=N1 (λs=> !decide (tW s≠[])) all;omega) λv3 w3 x3 o3=>hR _ _ (Ex.trans x1 (Ex.trans J x3)) (o3.mono (by omega))
theorem Fl {p:Tx}{w:World}{R:Value->Bool->PV}(h0:cI p=none->∀w',Ex w w'->R (.slice none 0 0) false w')(h1:∀all,cI p=some all->(∀x∈all,St x)->all.length<=60->∀v w',Ex w w'->Own w.heap.size w' v (aH (all.filter λs=> !decide (tW s≠[])))->R v true w'):
  PW 95 #[.string (ax p)] w (aw [.v,.b] R):=by
 refine nY p w R ?_;dsimp only [go_sem];dsimp only [go_sem,UInt8.reduceOfNat,UInt32.reduceOfNat,Nat.reduceAdd];refine DW (λhn a b c V ha hb hc x b6 J W G=>⟨[a,b,c],rfl,?_⟩) λn0 all _ h2 h3 h4 B b va vn vx ns vs L V x hB h β b6 J W G=>⟨[va,vn,vx],rfl,?_⟩
 ·have x7:Ex V J:=G▸Ex.alloc V _;obtain⟨k1,k2⟩:=FQ ha hb hc (Fs W G (Ex.refl J)) (R:=λ _ H=>Kp J H λg=>g=b6) λH k=>k
  refine⟨k1,λH Z=>⟨λ _=>?_,(λh=>by cases h)⟩⟩;obtain⟨_,_,_,_,k⟩:=k2 H Z;exact h0 hn H (Ex.below (Ex.trans x x7) (Kp.below k (Ex.trans x x7).size λg hg e=>by have :=x.size;omega))
 have x7:Ex V J:=G▸Ex.alloc V _;have s7:J.heap.size=V.heap.size+1:=by rw [G,size_alloc]
 obtain⟨o1,o2,o3⟩:=h.Fk;obtain⟨k1,k2⟩:=FQ o1 o2 o3 (Fs W G (Ex.refl J)) (R:=λv H=>v= .agg #[va,vn,vx]/\Kp J H λg=>g=b6) λH k=>⟨rfl,k⟩
 refine⟨k1,λH Z=>⟨(λh=>by cases h),λ _=>?_⟩⟩;obtain⟨r1,r2,r3,hc,hv,k⟩:=k2 H Z;have α:=hv;simp only [Value.agg.injEq,Array.mk.injEq,Nj,O8]at α;obtain⟨rfl,rfl,rfl⟩:=α;have x9:Ex V H:=Ex.below x7 (Kp.below k x7.size λg hg e=>by omega);have xs:=(Ex.trans x x9).size;exact⟨r1,r2,r3,hc,Dg ((h.gv β).ex x9) h4 λv w' x' o=>h1 all h2 h3 h4 v w' (Ex.trans x (Ex.trans x9 x')) (o.mono xs)⟩
theorem Iz {p:Tx}{w:World}{R:Value->Bool->PV}(hR:∀v w',Ex w w'->Strs w' v ((gL p).getD [])->R v (gL p).isSome w'):
  PW 51 #[.string (ax p)] w (aw [.v,.b] R):=by
 refine mS p w R ?_;dsimp only [go_sem];dsimp only [go_sem,UInt8.reduceOfNat,UInt32.reduceOfNat,Nat.reduceAdd];refine Fl (λH w1 W=>⟨λ _=>?_,(λh=>by cases h)⟩) λall h2 h3 h4 v w1 W o1=>⟨(λh=>by cases h),λ _=>?_⟩
 ·have :=hR (.slice none 0 0) w1 W;rw [CA H]at this;exact this (.inl ⟨rfl,rfl⟩)
 have s1:=W.size;have Z:=aE (all.filter λs=> !decide (tW s≠[]));have ζ:=N1 (λs=> !decide (tW s≠[])) all;generalize hS:aH (all.filter λs=> !decide (tW s≠[]))=S at o1 Z;have η:S.length<=60:=by rw [Z.length_eq];omega
 have α:∀s∈S,St s:=λs hs=>h3 s (Oz.1 (Z.mem_iff.1 hs)).1
 obtain⟨a,cap,hv⟩:=o1.strs.slice;refine⟨a,_,cap,hv,λo x w'=>∃j:Nat,x=j/\j<=S.length/\Ex w1 w'/\Own w1.heap.size w' o ((S.take j).map (Aj 33)),λ _ x _=>(S.length - x).toNat,⟨0,rfl,Nl _,Ex.refl _,Own.nil _ _⟩,λo x w2 hI=>?_⟩;obtain⟨j,rfl,hj,x2,o2⟩:=hI;have s2:=x2.size;refine⟨λβ=>?_,λγ=>?_⟩
 ·have G:=oL β;refine o1.strs.get x2 (Og j) (gE G) (Q:=λn=>_) ?_;obtain⟨t,ok,et⟩:=α _ (Mx G);refine GB (k:=33) (by decide) λw3 x3=>⟨λH=>?_,λn H=>?_⟩
  ·rw [<-et,vT ok]at H;cases H
  have H:S[j]=n:=by rw [<-et,vT ok]at H;rw [<-et];exact Ng H
  subst H;intro b4 w4 δ V;have x4:Ex w3 w4:=V▸Ex.alloc w3 _;have J:=Ex.trans x3 x4;have s4:=J.size;refine Own.push (o2.ex J) (by omega) (Strs.one δ V) (by rw [MM,M5];simp only [Mm,MB];omega) λv5 w5 x5 o5 ε θ=>⟨by omega,⟨j+1,by omega,by omega,?_,?_⟩,tN (by omega)⟩
  ·exact Ex.below (Ex.trans x2 J) (Kp.below (Kp.aQ (S:=λg=>o.ownBlock=some g) ε λ _ h=>h) (by omega) λg hg e=>by have :=(o2.block g e).1;omega)
  ·rw [Mq G,Nq,List.map_singleton];exact o5
 ·have G:=oE γ hj;subst G;rw [MR]at o2;refine yW o2.strs (by rw [MM];omega) λv3 w3 x3 o3=>?_
  have :=hR v3 w3 (Ex.trans W (Ex.trans x2 x3));rw [CJ h2,fu (show(qN all).Perm (S.map (Aj 33))from Z.symm.map _)]at this;exact this o3.strs
theorem zE {p:Tx}{w:World}{R:Value->Bool->PV}(hR:∀v w',Ex w w'->Strs w' v ((gL p).getD [])->R v (gL p).isSome w'):
  PW 17 #[.string (ax p)] w (aw [.v,.b] R):=by
 refine ni p w R ?_;dsimp only [go_sem];dsimp only [go_sem,UInt8.reduceOfNat,UInt32.reduceOfNat,Nat.reduceAdd];exact Iz hR
end Go.Proofs.YtdecokaadekjnaaGreat
namespace Go.Proofs.YtdecokaadekjnaaGreat
open Go
attribute [go_sem] Tryz.f19
theorem nU (G:Value)(b2:Value)(w:World)(R:Bool->PV)(h:vc ay (a6 [(4,[(5,.i)])] [] [(6,true,.lt 0 (.lt 1 (.lt 2 (.lt 3 (.lt 4 (.lt 5 (.lt 6 (.lt 7 (.lt 8 .done)))))))))]) (ab Tryz.f19) (ai 0 [.v G,.v b2]) w (fin ay [.tmp 4 .b] R)):
  PW 19 #[G,b2] w (aw [.b] R):=
 bc Tryz.func19 (by kernel_rfl) h
attribute [go_sem] Tryz.f53
theorem pV (G:Int)(w:World)(R:aF->PV)(h:vc ay (a6 [(4,[(0,.i),(3,.s)])] [] []) (ab Tryz.f53) (ai 0 [.i G]) w (fin ay [.tmp 2 .s] R)):
  PW 53 #[(.int .i64 G)] w (aw [.s] R):=
 bc Tryz.func53 (by kernel_rfl) h
attribute [go_sem] Tryz.f20
theorem mg (G:Value)(H:Int)(w:World)(R:Int->PV)(h:vc ay (a6 [(2,[(1,.i),(5,.i)])] [] []) (ab Tryz.f20) (ai 0 [.v G,.i H]) w (fin ay [.tmp 4 .i] R)):
  PW 20 #[G,(.int .i64 H)] w (aw [.i] R):=
 bc Tryz.func20 (by kernel_rfl) h
attribute [go_sem] Tryz.f21
theorem lZ (G:Value)(H:Int)(w:World)(R:Int->PV)(h:vc ay (a6 [(2,[(1,.i),(5,.i)])] [] [(4,true,.lt 0 (.lt 1 (.lt 2 (.lt 3 (.lt 4 (.one .g 5 (.lt 6 .done)))))))]) (ab Tryz.f21) (ai 0 [.v G,.i H]) w (fin ay [.tmp 4 .i] R)):
  PW 21 #[G,(.int .i64 H)] w (aw [.i] R):=
 bc Tryz.func21 (by kernel_rfl) h
end Go.Proofs.YtdecokaadekjnaaGreat
namespace Go.Proofs.YtdecokaadekjnaaGreat
open Go Go.RowKit T Classical
theorem IY {w:World}{v v':Value}{l G:List Tx}(h:Strs w v l)(h':Strs w v' G)(hl:l.length<=1000000000){R:Bool->PV}(hR:∀w',Ex w w'->R (decide (l=G)) w'):
  PW 19 #[v,v'] w (aw [.b] R):=by
 refine nU v v' w R ?_;dsimp only [go_sem];dsimp only [go_sem,UInt8.reduceOfNat,UInt32.reduceOfNat,Nat.reduceAdd];obtain⟨a,c,hv⟩:=h.slice;obtain⟨a',c',Z⟩:=h'.slice;refine⟨a,_,c,hv,a',_,c',Z,λJ=>?_,λhe=>?_⟩
 ·have J:l.length≠G.length:=by
   have:¬((l.length:Int)=G.length):=by simpa using J
   omega
  have :=hR w (Ex.refl w)
  rwa [N9 λe=>J (by rw [e])]at this
 have he:l.length=G.length:=by
  have:(l.length:Int)=G.length:=by simpa using he
  omega
 refine⟨λi w'=>∃j:Nat,i=j/\j<=l.length/\Ex w w'/\l.take j=G.take j,λi _=>(l.length - i).toNat,⟨0,rfl,Nl _,Ex.refl w,rfl⟩,λi w' hI=>?_⟩;obtain⟨j,rfl,hj,x,ht⟩:=hI;refine⟨a,_,c,hv,λα=>?_,λβ=>?_⟩
 ·have W:=oL α;have H:j< G.length:=by omega
  obtain⟨b1,o1,c1,e1,e2,e3⟩:=(h.ex x).at W;obtain⟨b2,o2,c2,f1,f2,f3⟩:=(h'.ex x).at H;refine⟨λw2=>Ex w' w2,λw2 V=>⟨V▸Ex.drew w',b1,o1,_,c1,e1,by omega,by omega,l[j],λw3 x3=>?_,b2,o2,_,c2,f1,by omega,by omega,G[j],λw3 x3=>?_,λhn=>?_,λhy=>?_⟩⟩
  ·rw [x3.cell (a:=⟨b1,_,none⟩) e2,MW,Mv];exact e3
  ·rw [x3.cell (a:=⟨b2,_,none⟩) f2,MW,Mv];exact f3
  ·have hn:l[j]≠G[j]:=by simpa using hn
   have :=hR w2 (Ex.trans x (V▸Ex.drew w'))
   rwa [N9 λe=>hn (by subst e;rfl)]at this
  ·have hy:l[j]=G[j]:=by simpa using hy
   refine⟨by omega,⟨j+1,by omega,by omega,Ex.trans x (V▸Ex.drew w'),by rw [Mq W,Mq H,ht,hy]⟩,tN (by omega)⟩
 ·have e:=oE β (by omega);subst e;rw [MR,he,MR]at ht;have :=hR w' x
  rwa [N5 ht]at this
def dg (k:Nat)(o:Tx):Tx:=if h:k=0 then o else dg (k / 10) (UInt8.ofNat (Int.toNat ((48+((k:Int) % 10)) % 256))::o)
termination_by k
decreasing_by omega
def mt (k:Nat):Tx:=if k=0 then [109,48]else 109::dg k []
theorem rT {k:Nat}(W:k<=1099511627776){w:World}{R:aF->PV}(hR:∀w',Ex w w'->R (mt k) w'):
  PW 53 #[.int .i64 k] w (aw [.s] R):=by
 refine pV k w R ?_;dsimp only [go_sem];dsimp only [go_sem,UInt8.reduceOfNat,UInt32.reduceOfNat,Nat.reduceAdd];refine⟨λh=>?_,λh=>?_⟩
 ·have h:k=0:=by simp only [Mz]at h;omega
  have :=hR w (Ex.refl w);unfold mt at this
  rwa [MZ h]at this
 have h:k≠0:=by simp only [Mw]at h;omega
 refine⟨λx o w'=>∃n:Nat,x=n/\Ex w w'/\dg n o=dg k []/\o.length+n<=k,λx _ _=>x.toNat,⟨k,rfl,Ex.refl w,rfl,by simp⟩,λx o w' V=>?_⟩;obtain⟨n,rfl,x,hd,Z⟩:=V;refine⟨λG=>?_,λG=>?_⟩
 ·have G:n≠0:=by simp only [Mz]at G;omega
  refine⟨⟨by omega,by omega⟩,by omega,λb w8 hb H=>?_⟩;refine⟨b,0,1,1,[UInt8.ofNat (Int.toNat ((48+((n:Int) % 10)) % 256))],rfl,rfl,λj x J=>?_,by simp only [OB];omega,⟨by omega,by omega,by omega⟩,⟨n / 10,by omega,Ex.trans x (H▸Ex.alloc w' _),?_,by simp only [Mt,OB];omega⟩,by show((n:Int) / 10).toNat< (n:Int).toNat;omega⟩
  ·cases j with
   | zero=>
    have J:UInt8.ofNat (Int.toNat ((48+((n:Int) % 10)) % 256))=x:=by simpa using J
    rw [H,hb,<-J];exact aa rfl
   | succ j=>simp at J
  ·rw [<-hd]
   conv=>rhs;rw [dg]
   rw [dif_neg G];rfl
 ·have G:n=0:=by simp only [Mw]at G;omega
  subst G;rw [dg,dif_pos rfl]at hd;refine⟨by simp only [OB];omega,?_⟩;have :=hR w' x;unfold mt at this;rw [MJ h,<-hd]at this;exact this
def BH (n:Nat):List Tx:=(List.range n).map λi=>mt (i+1)
theorem ly (n:Nat):(BH n).length=n:=by simp [BH]
theorem EY (n:Nat):BH (n+1)=BH n++[mt (n+1)]:=by simp [BH,O7]
theorem Hv {l:List Tx}{i:Nat}(h:i< l.length):(BH i++l.drop i).set i (mt (i+1))=BH (i+1)++l.drop (i+1):=by
 rw [List.set_append_right _ _ (by rw [ly];exact Mu _),ly,Nat.sub_self,Nn h,List.set_cons_zero,EY,M8];rfl
theorem IM {B:Nat}{w w':World}{g cap n j:Nat}{l:List Tx}{x:Tx}(h:Own B w (.slice (some ⟨g,0,none⟩) n cap) l)(hw:w'=w.setCell ⟨g,j,none⟩ (.string (ax x)))(H:j< l.length):Own B w' (.slice (some ⟨g,0,none⟩) n cap) (l.set j x):=by
 have J:aM 9 B w (.slice (some ⟨g,0,none⟩) n cap) (l.map sv):=by unfold aM;rw [MM];exact h
 have G:=J.set hw (by rw [MM];exact H);unfold aM at G;rw [NU,MM]at G;unfold Own;rw [NU,PS];exact G
theorem IC {B:Nat}{w:World}{v:Value}{l:List Tx}(h:Own B w v l)(hl:l.length<=1000000000){R:Int->PV}(hR:∀w',Kp w w' (λg=>v.ownBlock=some g)->Own B w' v (BH l.length)->R (l.length+1:Nat) w'):
  PW 20 #[v,.int .i64 1] w (aw [.i] R):=by
 refine mg v 1 w R ?_;dsimp only [go_sem];dsimp only [go_sem,UInt8.reduceOfNat,UInt32.reduceOfNat,Nat.reduceAdd];obtain⟨a,c,hv⟩:=h.strs.slice;refine⟨λk i w'=>∃j:Nat,i=j/\k=j+1/\j<=l.length/\Kp w w' (λg=>v.ownBlock=some g)/\Own B w' v (BH j++l.drop j),λ _ i _=>(l.length - i).toNat,⟨0,rfl,rfl,Nl _,Kp.ah (Ex.refl w) _,by simpa [BH]using h⟩,λk i w' hI=>?_⟩;obtain⟨j,rfl,rfl,hj,kp,V⟩:=hI;refine⟨a,_,c,hv,λW=>?_,λZ=>?_⟩
 ·have α:=oL W;refine rT (k:=j+1) (by omega) λw2 x2=>?_
  have G:=V.ex x2;have hlen:(BH j++l.drop j).length=l.length:=by rw [Mt,ly,NX];omega
  rcases G.2 with⟨_,hn⟩ | ⟨g,cap,cur,H,hb,hg,_⟩
  ·omega
  have β:v.ownBlock=some g:=nA H;obtain⟨b1,o1,c1,e1,e2,e3⟩:=G.strs.at (i:=j) (by omega);have e:=H.symm.trans e1;simp only [Value.slice.injEq,NP,Addr.mk.injEq]at e;obtain⟨⟨rfl,rfl,_⟩,_,_⟩:=e;have ej:0+(j:Int).toNat* 1=j:=by omega
  refine⟨g,0,_,_,H,by omega,by omega,?_⟩;dsimp only;rw [ej];rw [MX]at e3;refine⟨⟨⟨_,e3⟩,?_⟩,λw3 J=>⟨by omega,by omega,⟨j+1,by omega,by omega,by omega,?_,?_⟩,by omega⟩⟩
  ·unfold World.frozen?;simp only [hg];simp
  ·rw [J];exact(kp.trans (Kp.ah x2 λg=>v.ownBlock=some g) λ _ _ h=>h).set β _
  ·rw [H]at G|-;have :=IM G J (by omega)
   rwa [Hv α]at this
 ·have e:=oE Z (by omega);subst e;rw [Oj,MY]at V;exact hR w' kp V
theorem Co {w:World}{v:Value}{n:Nat}(h:Strs w v (BH n))(hl:n<=1000000000){R:Int->PV}(hR:∀w',Ex w w'->R (n+1:Nat) w'):
  PW 21 #[v,.int .i64 1] w (aw [.i] R):=by
 refine lZ v 1 w R ?_;dsimp only [go_sem];dsimp only [go_sem,UInt8.reduceOfNat,UInt32.reduceOfNat,Nat.reduceAdd];obtain⟨a,c,hv⟩:=h.slice;rw [ly]at hv;refine⟨λk i w'=>∃j:Nat,i=j/\k=j+1/\j<=n/\Ex w w',λ _ i _=>(n - i).toNat,⟨0,rfl,rfl,Nl _,Ex.refl w⟩,λk i w' hI=>?_⟩;obtain⟨j,rfl,rfl,hj,x⟩:=hI;refine⟨a,_,c,hv,λJ=>?_,λV=>?_⟩
 ·have W:=oL J;have Z:j< (BH n).length:=by rw [ly];exact W
  obtain⟨b1,o1,c1,e1,e2,e3⟩:=(h.ex x).at Z;have em:(BH n)[j]=mt (j+1):=by simp [BH]
  rw [em]at e3;refine⟨λw2=>Ex w' w2,λw2 G=>⟨G▸Ex.drew w',b1,o1,_,c1,e1,by omega,by rw [ly];omega,mt (j+1),λw3 H=>?_,?_⟩⟩
  ·rw [H.cell (a:=⟨b1,_,none⟩) e2,MW,Mv];exact e3
  have x2:Ex w' w2:=G▸Ex.drew w';refine rT (k:=j+1) (by omega) λw3 H=>⟨Ex.trans x2 H,λhn=>by simp at hn,λ _=>⟨by omega,by omega,⟨j+1,by omega,by omega,by omega,Ex.trans x (Ex.trans x2 H)⟩,tN (by omega)⟩⟩
 ·have e:=oE V (by omega);subst e;exact hR w' x
def Lw (nS nI:Nat)(a:Array Value)(w:World)(R:Bool->PV):Prop:=
 y7 nS a w λv3 q4 w5=>y7 nI a w5 λv6 q7 w8=>Hb 19 #[v6,v3] w8 λq9 G=>Hg (!q9) (bS (!(q7==q4)) (R false G) (FK 20 #[v6,(.int .i64 1)] G λW β=>FK 21 #[v6,(.int .i64 1)] β λZ H=>bS (decide (Z< 0)) (R false H) (bS (!decide (Z=W)) (R false H) (y7 nI a H λγ δ ε=>Hb 19 #[γ,v3] ε λζ J=>Hg (!ζ) (bS (!(δ==q4)) (R false J) (FK 21 #[v6,(.int .i64 1)] J λα V=>bS (decide (α< 0)) (R false V) (bS (!decide (α=W)) (R false V) (R true V)))) (R false J))))) (R false G)
theorem JM {nS nI:Nat}{a:Array Value}{l:List Tx}{b:Bool}(W:l.length<=1000000000)(hS:∀{w:World} {R:Value->Bool->PV},(∀v w',Ex w w'->Strs w' v l->R v b w')->PW nS a w (aw [.v,.b] R))
  (hI:∀{w:World} {R:Value->Bool->PV},(∀v w',Ex w w'->Own w.heap.size w' v l->R v b w')->PW nI a w (aw [.v,.b] R)) {w:World} {R:Bool->PV} (hR:∀w',Ex w w'->R true w'):Lw nS nI a w R:=by
 refine hS λv3 w5 x5 s3=>hI λv6 w8 x8 o6=>IY o6.strs (s3.ex x8) W λη H=>⟨λ _=>?_,λh=>by simp at h⟩
 refine⟨λh=>by simp at h,λ _=>IC (o6.ex H) W λβ γ Z=>Co Z.strs W λθ J=>⟨λh=>?_,λ _=>⟨λh=>by simp at h,λ _=>hI λι κ V δ=>?_⟩⟩⟩
 ·simp only [Mz]at h;omega
 have s8:=x8.size;have μ:=H.size;have G:Ex w5 β:=Ex.below (Ex.trans x8 H) (Kp.below γ (by omega) λg hg e=>by have :=(o6.block g e).1;omega);have ε:=s3.ex (Ex.trans G (Ex.trans J V));refine IY δ.strs ε W λν α=>⟨λ _=>⟨λh=>by simp at h,λ _=>Co (Z.strs.ex (Ex.trans J (Ex.trans V α))) W λξ ζ=>⟨λh=>?_,λ _=>⟨λh=>by simp at h,λ _=>?_⟩⟩⟩,λh=>by simp at h⟩
 ·simp only [Mz]at h;omega
 ·exact hR _ (Ex.trans x5 (Ex.trans G (Ex.trans J (Ex.trans V (Ex.trans α ζ)))))
end Go.Proofs.YtdecokaadekjnaaGreat
