/- Part 3 of a proof of what the last text states; no condition. -/
import Derived.Test.YtdecokaadekjnaaGreatAb2
set_option maxRecDepth 100000
set_option maxHeartbeats 4000000
namespace Go.Proofs.YtdecokaadekjnaaGreat
open Go Go.RowKit
theorem Er:∀n,IH n:=by
 intro n
 induction n with
 | zero=>intro k p σ u Θ w bm br on R h;have :=a8 p;omega
 | succ n ih=>
  have iht:zI (n+1):=Gy ih;intro k p σ u Θ w bm br on R hn d hgf χ hmk h;refine mh _ _ _ w R ?_;dsimp only [go_sem];dsimp only [go_sem,UInt8.reduceOfNat,UInt32.reduceOfNat,Nat.reduceAdd];intro b4 w5 γ ο;have ψ:Ex w w5:=ο▸Ex.alloc w _;have hsz5:w5.heap.size=b4+1:=by rw [ο,size_alloc,<-γ]
  have hbm:bm< b4:=by rw [γ];exact hmk.lt
  have hle:=d.bd.le;have hGL:GL b4 w5 b4 (iq 0) (.slice none 0 0) []:=by
   refine⟨by omega,OQ _,?_,?_,Own.nil _ _,(λe=>by cases e),?_,?_⟩
   ·rw [ο,γ];exact aa rfl
   ·rw [ο,γ];exact aa rfl
   ·rw [ο,γ];unfold World.frozen? World.alloc;simp
   ·rw [ο,γ];unfold World.frozen? World.alloc;simp
  have hl:=d.len;have hszt:=bE p;refine H2 _ hn d hgf (by omega) hGL (by simp only [OX];omega) λw6 v6 ps ω hv6 δ hps=>?_
  rw [PG,Ph]at δ;have hx6:Ex w w6:=⟨ω.os.trans ψ.os,ω.tape.trans ψ.tape,ω.output.trans ψ.output,PN ψ.size ω.size,λg hg=>by
   rw [ω.block g (by rw [hsz5];omega) (λhS=>by
    rcases hS with J | J
    ·omega
    ·cases J)]
   exact ψ.block g hg⟩
  have hpl:=hps.1;have hmlen:=iZ u;rw [En d.ae]at hmlen;have hm64:(ak u).1.length<=64:=by omega
  have hgs:=fW u;have hus:=d.ae.size;obtain⟨av,cap,hv⟩:=δ.own.strs.slice;rw [O8]at hv;refine⟨v6,δ.c1,av,_,cap,hv,λused x w'=>Ex w6 w'/\∃i:Nat,x=i/\i<=ps.length/\jb used/\∀c,c∈used↔∃q∈ps.take i,q.Us c,λ _ x _=>(ps.length - x).toNat,⟨Ex.refl w6,0,rfl,by omega,List.Pairwise.nil,by simp⟩,λused x w7 hI=>?_⟩;obtain⟨hx7,i,rfl,hi,hsu,hmu⟩:=hI;have α:∀i (hi:i< ps.length),∃m τ,k<=m/\Den m ps[i] τ ((ak u).2[i]'(by omega))/\(∀y,((ak u).2[i]'(by omega)).Us y->τ y=asgN (ak u).1 0 σ y)/\GF (0+(ak u).1.length) ps[i]:=λi hi=>
   hps.2 i _ _ (OH hi) (OH (by omega))
  refine⟨λhc=>?_,λhc=>?_⟩
  ·have hc:=O7 hc;have hip:i< ps.length:=by omega
   refine δ.own.strs.get hx7 (i:=i) (x:=(ps[i]).text) (by omega) (by simp [hip]) ?_;obtain⟨_,_,_,dp,_⟩:=α i hip;refine oT _ (OQ _) dp.ok λs w8 hx8 hss hms=>?_
   refine fX hsu (by have :=hss.bound;omega) λs' w9 ς hs9 hm9=>?_
   refine⟨by omega,⟨(hx7.trans hx8).trans ς,i+1,by omega,by omega,hs9,λc=>?_⟩,by dsimp only;omega⟩;rw [hm9,hmu,hms,List.take_succ_eq_append_getElem hip];simp only [OS,OO];constructor
   ·rintro(⟨q,J,h2⟩ | J)
    ·exact⟨q,.inl J,h2⟩
    ·exact⟨_,.inr rfl,J⟩
   ·rintro⟨q,J | rfl,h2⟩
    ·exact .inl ⟨q,J,h2⟩
    ·exact .inr h2
  have hc:=O9 hc;have e:i=ps.length:=by omega
  subst e;rw [Pa]at hmu;have hGL7:=δ.ex hx7;have hall:∀i,i< (ak u).1.length->gl i∈used:=λi hi=>by
   obtain⟨t,ht,hty⟩:=AM u d.uq _ (OP hi);obtain⟨j,hj,e⟩:=PD.1 ht;have hjp:j< ps.length:=by omega
   obtain⟨m,τ,_,dp,hτ,_⟩:=α j hjp;subst e;obtain⟨c,J,h2⟩:=dp.ae.symm.used dp.inj (eZ _) _ hty;rw [hτ _ hty,kz _ _ _ _ hi (gO u d.uq),Ph]at h2;have:c=gl i:=Pe.1 h2;exact(hmu _).2 ⟨_,OP hjp,this▸J⟩
  have hglen:=iC (ak u).1.length;refine⟨λfront i w'=>Ex w7 w'/\∃j:Nat,i=j/\j<=(ak u).1.length/\front=(iq (ak u).1.length).take j,λ _ i _=>((ak u).1.length - i).toNat,⟨Ex.refl w7,0,rfl,by omega,rfl⟩,λfront i w8 hI=>?_⟩;obtain⟨hx8,j,rfl,hj,rfl⟩:=hI;have ε:=hGL7.ex hx8;refine⟨iq (ak u).1.length,ε.c0,λhc2=>?_,λhc2=>?_⟩
  ·have hc2:=O7 hc2;have hj':j< (ak u).1.length:=by omega
   have hbt:bt (iq (ak u).1.length) j=gl j:=by simp [bt,iq,hj']
   refine⟨λfront w'=>Ex w7 w'/\front=(iq (ak u).1.length).take (j+1),⟨iq (ak u).1.length,ε.c0,⟨by omega,by omega⟩,?_⟩,λfront w9 hJ=>?_⟩
   ·rw [OU,hbt];refine iR (by have :=hsu.bound;omega) ⟨λ _=>⟨iq (ak u).1.length,ε.c0,by omega,⟨by omega,by omega,by omega⟩,?_,hx8,?_⟩,λhq=>absurd (hall j hj') (O9 hq)⟩
    ·rw [EN (by omega)];simp only [Pt,OF,OX];omega
    ·rw [EN (by omega),iH (by omega)]
   ·obtain⟨ς,rfl⟩:=hJ;exact⟨by omega,⟨ς,j+1,by omega,by omega,rfl⟩,by dsimp only;omega⟩
  have hc2:=O9 hc2;have e:j=(ak u).1.length:=by omega
  subst e;rw [show(iq (ak u).1.length).take (ak u).1.length=iq (ak u).1.length from RB (by omega)];have ν:Ex w w8:=(hx6.trans hx7).trans hx8;have V:=hmk.ex ν;refine⟨v6,ε.c1,av,_,cap,hv,λυ=>?_,λυ=>?_⟩
  ·have υ:=O7 υ;have hd:=JO d.uq (Pg (by omega));have hm0:=(pR d.uq hd).2.2.2;refine h _ w8 (Kp.af ν _) ?_ (WR.Jc d.uq hd);rw [hm0];simpa using V
  have υ:=O9 υ;have hne:(ak u).2≠[]:=λe=>υ (by rw [e]at hpl;simp only [OX]at hpl;omega)
  refine⟨λhc4=>?_,λhc4=>?_⟩
  ·have hc4:=O7 hc4;have hlm:5< bn u:=by
    have :=AP d.uq;have h5:decide (5< (ak u).1.length)=true:=PL (by omega);rw [h5,Bool.true_or]at this;exact O7 this
   refine⟨bm,0,rfl,⟨⟨_,V.c0⟩,V.f0⟩,λw9 hw9=>?_⟩;subst hw9;refine h _ _ (Kp.set (S:=λg=>g=bm) (Kp.af ν _) rfl _) ?_ (WR.FE hlm);have e5:decide (5< bn u)=true:=PL hlm;rw [e5,Bool.or_true];exact⟨by rw [Pu];exact V.lt,OY _ _ _ V.c0,by rw [OL _ _ _ _ (by simp)];exact V.c1,by rw [O0];exact V.f0⟩
  have hc4:=O9 hc4;have hm5:(ak u).1.length<=5:=by omega
  intro b9 cap9 w9 hb9 _ hg9;have ς:Ex w8 w9:=Ex.aJ hg9;have hx69:Ex w w9:=ν.trans ς;refine⟨_,_,cap9,rfl,λG all x w'=>Ex w9 w'/\∃i:Nat,x=i/\i<=(ak u).1.length/\KR k i Θ G all,λ _ _ x _=>((ak u).1.length - x).toNat,⟨Ex.refl w9,0,rfl,by omega,KR.zero χ.srt⟩,λG all x w10 hI=>?_⟩;obtain⟨hx10,i,rfl,hi,H⟩:=hI;refine⟨λhc5=>?_,λhc5=>?_⟩
  ·have hc5:=O7 hc5;have hi':i< (ak u).1.length:=by omega
   have hall:∀c∈all,okn (k+i) c/\ngr c:=λc hc=>by
    rcases(H.ok.mem c).1 hc with J | J
    ·exact⟨(χ.okn c J).1.mono (by omega),(χ.okn c J).2⟩
    ·exact⟨(H.ok.ok c J).2.1,(H.ok.ok c J).2.2.1⟩
   refine jB (by have :=H.ok.srt.bound;omega) λc hc=>?_
   have hfr:Ag (k+i) all c:=Ag.of (by omega) hall hc;intro b11 φ hb11 hw11;have ζ:Ex w10 φ:=hw11▸Ex.alloc w10 _;refine⟨b11,0,1,1,[c],rfl,rfl,lz _ hb11 hw11,by rw [H.ok.len];simp;omega,?_⟩;refine fD H.ok.srt λs' ι hx12 hs12 hm12=>?_
   exact⟨by omega,⟨(hx10.trans ζ).trans hx12,i+1,by omega,by omega,H.snoc hfr hs12 hm12⟩,by dsimp only;omega⟩
  have hc5:=O9 hc5;have e:i=(ak u).1.length:=by omega
  subst e;have hx610:Ex w w10:=hx69.trans hx10;have hls:=H.ok;refine Cy 5 (by omega) (OQ _) λv11 φ L ζ η hL hmL=>?_
  have hx611:Ex w φ:=hx610.trans ζ;have κ:=hmk.ex hx611;have hLne:L≠[]:=λe=>by
   have :=(hmL (iq (ak u).1.length)).2 (PW _);rw [e]at this;cases this
  have hLlen:L.length<=7776:=by
   have:(6:Nat)^(iq (ak u).1.length).length<=6^5:=Nat.pow_le_pow_right (by omega) (by omega);omega
  have hLpos:0< L.length:=Rt.2 hLne;refine⟨λv w'=>w'=φ/\∃Lo:List Tx,Strs φ v Lo/\(∀b off n c,v= .slice (some ⟨b,off,none⟩) n c->w10.heap.size<=b)/\Lo≠[]/\Lo.length<=7776/\(∀o∈Lo,o.Perm (iq (ak u).1.length))/\(on=false->∀o,o.Perm (iq (ak u).1.length)->o∈Lo),⟨bm,0,rfl,on,κ.c1,λhon=>?_,λhon=>?_⟩,λorders ι hJ=>?_⟩
  ·obtain⟨g,Z,cur,hvL,hbL,_⟩:∃g cap cur,v11= .slice (some ⟨g,0,none⟩) L.length cap/\w10.heap.size<=g/\φ.heap[g]?=some cur:=by
    rcases η.2 with⟨_,hn⟩ | ⟨g,cap,cur,e,hb,hg,_⟩
    ·omega
    ·exact⟨g,cap,_,e,hb,hg⟩
   have hcap:L.length<=Z:=by
    rcases η.2 with⟨_,hn⟩ | ⟨g',cap',cur',e,hb,hg,J,h2,h3,h4⟩
    ·omega
    ·rw [hvL]at e;cases e;exact J
   refine⟨_,_,Z,hvL,by omega,by omega,by omega,rfl,L.take 1,?_,λb off n c e=>?_,?_,?_,λo W=>(hmL o).1 (List.mem_of_mem_take W),λhf=>by rw [hon]at hf;cases hf⟩
   ·have hs:=η.strs;rw [hvL]at hs;exact hs.take (k:=1) (by omega) (by omega)
   ·have ecap:¬Z=Int.toNat 0:=by show ¬Z=0;omega
    rw [O1 ecap]at e;simp [Addr.add]at e;omega
   ·match L,hLne with
    | a::l,_=>simp
   ·rw [Pt];omega
  ·refine⟨rfl,L,η.strs,λb off n c e=>(η.block b (by rw [e];rfl)).1,hLne,hLlen,λo W=>(hmL o).1 W,λ _ o W=>(hmL o).2 W⟩
  obtain⟨rfl,Lo,hsL,hbL,hLo,hLol,hLop,hLoa⟩:=hJ;have hLopos:0< Lo.length:=Rt.2 hLo;obtain⟨aL,Z,hvL⟩:=hsL.slice;have β:GL b4 ι b4 (iq (ak u).1.length) v6 (ps.map T.text):=((ε.ex ς).ex hx10).ex ζ;have hb12:=β.lt;have hbp:∀p∈ps,k+(ak u).1.length+p.rd+p.ow<=64:=λq hq=>by
   obtain⟨i,hi,rfl⟩:=PD.1 hq;obtain⟨_,_,_,dp,_⟩:=α i hi;have :=JH u _ (OP (show i< (ak u).2.length by omega));rw [En dp.ae,K2 dp.ae,En d.ae,K2 d.ae]at this;omega
  have hszp:∀p∈ps,p.size<=n+1:=λq hq=>by
   obtain⟨i,hi,rfl⟩:=PD.1 hq;obtain⟨_,_,_,dp,_⟩:=α i hi;have :=Ce u _ (OP (show i< (ak u).2.length by omega));rw [dp.ae.size];omega
  have htl:=fM u;rw [o7 d.ae,<-T.aX]at htl;generalize hbr:(br||(ak u).2.any λt=>decide (5< ax (tl [t])))=br' at*;refine⟨aL,_,Z,hvL,λbest x w'=>∃i:Nat,x=i/\i<=Lo.length/\Kp ι w' (λg=>g=bm)/\MK w' bm (if i=0 then br else br') on/\(i=0->best=[])/\(0< i->Es on σ u (Lo.take i) G all best),λ _ x _=>(Lo.length - x).toNat,⟨0,rfl,by omega,Kp.af (Ex.refl ι) _,by simpa using κ,λ _=>rfl,λh=>by omega⟩,λbest x w13 hI=>?_⟩;obtain⟨i,rfl,hi,θ,hm13,hb0,hb1⟩:=hI;refine⟨λhc6=>?_,λhc6=>?_⟩
  ·have hc6:=O7 hc6;have hi':i< Lo.length:=by omega
   refine⟨λbest w'=>Kp ι w' (λg=>g=bm)/\MK w' bm br' on/\Es on σ u (Lo.take (i+1)) G all best,?_,λbest' w14 hJ=>?_⟩
   ·have hsL13:Strs w13 orders Lo:=hsL.kp θ λb off n c e hS=>by have :=hbL b off n c e;have :=κ.lt;have :=ζ.size;have :=(hmk.ex hx610).lt;omega
    refine hsL13.get (Ex.refl w13) (i:=i) (x:=Lo[i]) (by omega) (by simp [hi']) ?_;have γ:w13.heap[b4]?=ι.heap[b4]?:=θ.block b4 hb12 (by omega);refine⟨v6,by rw [OG (w:=ι) γ];exact β.c1,?_⟩;have hvt:Own b4 w13 v6 (ps.map T.text):=β.own.kp θ λg hg e=>by have :=(β.own.block g hg).1;omega
    refine Ke iht d.uq hne hbp hszp χ hps hls (hLop _ (OP hi')) hm64 hvt hbm hm13 (by omega) λr w14 hk14 ξ hr=>?_
    have μ:MK w14 bm br' on:=by
     rw [<-hbr];by_cases h0:i=0
     ·rw [Pj h0]at ξ;exact ξ
     ·rw [O1 h0,<-hbr,Ql,Bool.or_self]at ξ;exact ξ
    have hk':=Kp.trans θ hk14 λ _ _ h=>h
    have hrne:=hr.ne hne;have tk:Lo.take (i+1)=Lo.take i++[Lo[i]]:=OK hi';have new:(∀o∈Lo.take i,∃r',xI on σ u o G all r'/\jJ r r'=true)->Es on σ u (Lo.take (i+1)) G all r:=λhh=>by
     rw [tk];refine⟨⟨Lo[i],Pf _ (OO.2 rfl),hr⟩,λo W=>?_⟩;rcases OS.1 W with W | W
     ·exact hh o W
     ·have:o=Lo[i]:=by simpa using W
      subst this;exact⟨r,hr,by simp [jJ]⟩
    refine⟨λhq=>⟨λH=>⟨hk',μ,?_⟩,λH=>⟨hk',μ,?_⟩⟩,λhq=>⟨hk',μ,?_⟩⟩
    ·have hi0:0< i:=by
      rcases Re i with h0 | h0
      ·exact absurd (hb0 h0) (O9 hq)
      ·exact h0
     rw [Se,OW]at H;refine new λo W=>?_
     obtain⟨r',J,h2⟩:=(hb1 hi0).le o W;exact⟨r',J,gU _ _ _ (by simp only [jJ,OW];exact List.le_of_lt H) h2⟩
    ·have hi0:0< i:=by
      rcases Re i with h0 | h0
      ·exact absurd (hb0 h0) (O9 hq)
      ·exact h0
     rw [Se,OV]at H;have hble:jJ best r=true:=by simp only [jJ,OW];exact List.not_lt.1 H
     obtain⟨⟨o,J,h2⟩,h3⟩:=hb1 hi0;rw [tk];refine⟨⟨o,Pm _ J,h2⟩,λo' W=>?_⟩;rcases OS.1 W with W | W
     ·exact h3 o' W
     ·have:o'=Lo[i]:=by simpa using W
      subst this;exact⟨r,hr,hble⟩
    ·have hq:=O7 hq;have hi0:i=0:=by
      rcases Re i with h0 | h0
      ·exact h0
      ·obtain⟨⟨o,J,h2⟩,_⟩:=hb1 h0;exact absurd hq (h2.ne hne)
     exact new λo W=>by rw [hi0]at W;simp at W
   ·obtain⟨j1,j2,j3⟩:=hJ;exact⟨by omega,⟨i+1,by omega,by omega,j1,by simpa using j2,(λh=>by omega),λ _=>j3⟩,by dsimp only;omega⟩
  have hc6:=O9 hc6;have e:i=Lo.length:=by omega
  subst e;have hbest:=hb1 hLopos;rw [Pa]at hbest;rw [O1 (by omega)]at hm13;have hW:=WR.KK d.uq hne χ H hm64 hLop hLoa hbest;have hWl:=hW.len;rw [fP,hls.len,o7 d.ae,<-T.aX]at hWl;have hll:=hls.len;refine⟨by omega,λb i w'=>w'=w13/\∃j:Nat,i=(j:Int) - 1/\j<=(ak u).1.length/\b=wrap (G.drop j) best,λ _ i _=>(i+1).toNat,⟨rfl,(ak u).1.length,by omega,by omega,?_⟩,λb i w14 hI=>?_⟩
  ·rw [Qs (by omega)];rfl
  obtain⟨rfl,j,rfl,hj,rfl⟩:=hI;refine⟨λhc7=>?_,λhc7=>?_⟩
  ·have hc7:=O7 hc7;obtain⟨j,rfl⟩:∃j',j=j'+1:=⟨j - 1,by omega⟩
   have ej:((j+1:Nat):Int) - 1=(j:Int):=by omega
   rw [ej];have hjl:j< G.length:=by omega
   have hdl:(G.drop (j+1)).length<=64:=by rw [Qq];omega
   rw [yj hjl];refine⟨by omega,⟨by omega,by omega,by omega⟩,by simp,by simp,?_,by omega,⟨rfl,j,rfl,by omega,?_⟩,by dsimp only;omega⟩
   ·rw [fP];simp only [OM,OF,OX];omega
   ·rw [qT hjl];rfl
  ·have hc7:=O9 hc7;have e:j=0:=by omega
   subst e;rw [Qz];refine h _ w14 ?_ ?_ hW
   ·exact Kp.trans (Kp.af hx611 _) θ λ _ _ h=>h
   ·rw [AP d.uq];have h5:decide (5< (ak u).1.length)=false:=PX (by omega);rw [h5,Rq,hbr];exact hm13
end Go.Proofs.YtdecokaadekjnaaGreat
namespace Go.Proofs.YtdecokaadekjnaaGreat
open Classical
def num:P->(UInt8->Nat)->Nat->U×Nat
 | .nil,_,n=>(.nil,n)
 | .snd a b p,e,n=>(.snd (e a) (e b) (num p e n).1,(num p e n).2)
 | .rcv a x p,e,n=>(.rcv (e a) (n+101) (num p (aI e x (n+101)) (n+1)).1,(num p (aI e x (n+101)) (n+1)).2)
 | .tau p,e,n=>(.tau (num p e n).1,(num p e n).2)
 | .sum p q,e,n=>(.sum (num p e n).1 (num q e (num p e n).2).1,(num q e (num p e n).2).2)
 | .par p q,e,n=>(.par (num p e n).1 (num q e (num p e n).2).1,(num q e (num p e n).2).2)
 | .res x p,e,n=>(.res (n+101) (num p (aI e x (n+101)) (n+1)).1,(num p (aI e x (n+101)) (n+1)).2)
 | .mat a b p,e,n=>(.mat (e a) (e b) (num p e n).1,(num p e n).2)
 | .rep p,e,n=>(.rep (num p e n).1,(num p e n).2)
theorem dh:∀(p:P) (e:UInt8->Nat) (n:Nat),n<=(num p e n).2
 | .nil,_,_=>OQ _
 | .snd _ _ p,e,n=>dh p e n
 | .mat _ _ p,e,n=>dh p e n
 | .tau p,e,n=>dh p e n
 | .rep p,e,n=>dh p e n
 | .rcv _ x p,e,n=>by have :=dh p (aI e x (n+101)) (n+1);simp only [num];omega
 | .res x p,e,n=>by have :=dh p (aI e x (n+101)) (n+1);simp only [num];omega
 | .sum p q,e,n=>by have :=dh p e n;have :=dh q e (num p e n).2;simp only [num];omega
 | .par p q,e,n=>by have :=dh p e n;have :=dh q e (num p e n).2;simp only [num];omega
theorem AE.K1 {p:P}{u:U}{e:UInt8->Nat}{x:UInt8}{y:Nat}(he:∀c,p.Fr c->c≠x->e c≠y)(h:AE (aI e x y) p id u)(v:Nat):AE (aI e x v) p (aI id y v) u:=by
 refine(h.map λn=>if n=y then v else n).congr (λc hc=>?_) λz _=>?_
 ·unfold aI;by_cases G:c=x
  ·simp [G]
  ·simp only [O1 G];rw [O1 (he c hc G)]
 ·unfold aI;rfl
theorem gA:∀(p:P) (e:UInt8->Nat) (n:Nat),(∀c,p.Fr c->e c<=n+100)->AE e p id (num p e n).1
 | .nil,_,_,_=>trivial
 | .snd a b p,e,n,h=>⟨rfl,rfl,gA p e n λc hc=>h c (.inr (.inr hc))⟩
 | .mat a b p,e,n,h=>⟨rfl,rfl,gA p e n λc hc=>h c (.inr (.inr hc))⟩
 | .tau p,e,n,h=>gA p e n h
 | .rep p,e,n,h=>gA p e n h
 | .sum p q,e,n,h=>⟨gA p e n λc hc=>h c (.inl hc),gA q e _ λc hc=>by have :=h c (.inr hc);have :=dh p e n;omega⟩
 | .par p q,e,n,h=>⟨gA p e n λc hc=>h c (.inl hc),gA q e _ λc hc=>by have :=h c (.inr hc);have :=dh p e n;omega⟩
 | .rcv a x p,e,n,h=>⟨rfl,λv=>AE.K1 (λc hc G=>by have :=h c (.inr ⟨G,hc⟩);omega) (gA p _ _ λc hc=>by
   unfold aI;split
   ·omega
   ·rename_i G;have :=h c (.inr ⟨G,hc⟩);omega) v⟩
 | .res x p,e,n,h=>λv=>AE.K1 (λc hc G=>by have :=h c ⟨G,hc⟩;omega) (gA p _ _ λc hc=>by
   unfold aI;split
   ·omega
   ·rename_i G;have :=h c ⟨G,hc⟩;omega) v
theorem eV:∀(p:P) (e:UInt8->Nat) (n:Nat),(BV (num p e n).1).Nodup/\∀x∈BV (num p e n).1,n+100< x/\x<=(num p e n).2+100
 | .nil,_,_=>⟨Qi,λx h=>by cases h⟩
 | .snd _ _ p,e,n=>eV p e n
 | .mat _ _ p,e,n=>eV p e n
 | .tau p,e,n=>eV p e n
 | .rep p,e,n=>eV p e n
 | .rcv _ x p,e,n=>by
  obtain⟨H,h2⟩:=eV p (aI e x (n+101)) (n+1);have :=dh p (aI e x (n+101)) (n+1);refine⟨PO.2 ⟨λh=>by have :=h2 _ h;omega,H⟩,λy G=>?_⟩;simp only [num];rcases O4.1 G with rfl | G
  ·omega
  ·have :=h2 y G;omega
 | .res x p,e,n=>by
  obtain⟨H,h2⟩:=eV p (aI e x (n+101)) (n+1);have :=dh p (aI e x (n+101)) (n+1);refine⟨PO.2 ⟨λh=>by have :=h2 _ h;omega,H⟩,λy G=>?_⟩;simp only [num];rcases O4.1 G with rfl | G
  ·omega
  ·have :=h2 y G;omega
 | .sum p q,e,n=>by
  obtain⟨H,h2⟩:=eV p e n;obtain⟨J,h4⟩:=eV q e (num p e n).2;have :=dh p e n;have :=dh q e (num p e n).2;refine⟨Pp.2 ⟨H,J,λa ha b hb=>by have :=h2 a ha;have :=h4 b hb;omega⟩,λy G=>?_⟩;simp only [num];rcases OS.1 G with G | G
  ·have :=h2 y G;omega
  ·have :=h4 y G;omega
 | .par p q,e,n=>by
  obtain⟨H,h2⟩:=eV p e n;obtain⟨J,h4⟩:=eV q e (num p e n).2;have :=dh p e n;have :=dh q e (num p e n).2;refine⟨Pp.2 ⟨H,J,λa ha b hb=>by have :=h2 a ha;have :=h4 b hb;omega⟩,λy G=>?_⟩;simp only [num];rcases OS.1 G with G | G
  ·have :=h2 y G;omega
  ·have :=h4 y G;omega
theorem Mo (p:P)(e:UInt8->Nat)(n:Nat)(h:∀c,p.Fr c->e c<=n+100):Uq (num p e n).1:=by
 obtain⟨G,h2⟩:=eV p e n;refine⟨G,λx H J=>?_⟩;obtain⟨c,hc,V⟩:=(gA p e n h).symm.free x J;have W:=h2 x H;have h4:=h c hc;have h5:e c=x:=V;omega
def e0 (c:UInt8):Nat:=c.toNat - 97
def σ0 (y:Nat):Nat:=y+97
def ρ0 (y:Nat):UInt8:=UInt8.ofNat (97+y)
theorem bj {c:UInt8}(h:lt c=true):97<=c.toNat/\c.toNat<=122:=by
 simp only [lt,OJ,OW]at h;exact⟨O6.1 h.1,O6.1 h.2⟩
theorem oR {c:UInt8}(h:97<=c.toNat/\c.toNat<=122):lt c=true:=by
 simp only [lt,OJ,OW];exact⟨O6.2 h.1,O6.2 h.2⟩
theorem fw {y:Nat}(h:y< 26):(ρ0 y).toNat=σ0 y:=by
 unfold ρ0 σ0;rw [PT];omega
theorem sN {p:P}(h:∀c,p.Fr c->lt c=true):AE UInt8.toNat p σ0 (num p e0 0).1/\Uq (num p e0 0).1/\(∀y,(num p e0 0).1.Fr y->y< 26)/\∀x∈BV (num p e0 0).1,26<=x:=by
 have he:∀c,p.Fr c->e0 c<=0+100:=λc hc=>by have :=bj (h c hc);unfold e0;omega
 have ha:=gA p e0 0 he;refine⟨(ha.map (·+97)).congr (λc hc=>?_) λy _=>rfl,Mo p e0 0 he,λy G=>?_,λx H=>?_⟩
 ·have :=bj (h c hc);unfold e0;omega
 ·obtain⟨c,hc,e⟩:=ha.symm.free y G;have :=bj (h c hc);have e:e0 c=y:=e;unfold e0 at e;omega
 ·have :=(eV p e0 0).2 x H;omega
theorem iW {c:UInt8}(h:lt c=true):nm c=true:=by
 simp only [lt,nm]at*;rw [h];rfl
theorem tw {c:UInt8}(h:lt c=true):ngr c:=by
 have :=bj h;right;omega
def dG (s:Tx):Prop:=s.length<=300/\∃t:P,t.Al (λc=>lt c=true)/\t.text=s/\t.size<=60
def mu (l:Lv):Tk:=λc=>lt c&&l.has (e0 c)
noncomputable def Cs (r:List Nat×Lv):Option Tx:=
 if(max r.1.length (ax r.2)<=5/\r.1.length+thAll r.2<=8)/\gg r.1.length r.2.isNil (thBad r.2) (mu r.2)=false/\dG (aU r.1 (thS r.2) ρ0 (mu r.2))then some (aU r.1 (thS r.2) ρ0 (mu r.2))else none
noncomputable def kL (u:U):Option Tx:=Cs (td u)
theorem iG (u:U):kL u=if(bn u<=5/\cQ u<=8)/\dD u (mu (td u).2)=false/\dG (LS u ρ0 (mu (td u).2))then some (LS u ρ0 (mu (td u).2))else none:=rfl
structure Nu (u:U):Prop where
 uq:Uq u
 fr:∀y,u.Us y->y< 26
 bv:∀x∈BV u,26<=x
theorem p6 {u:U}(h:Nu u)(c:UInt8):mu (td u).2 c=true↔lt c=true/\u.Us (e0 c):=by
 unfold mu;rw [OJ];refine and_congr_right λhc=>gk u _ λhb=>?_
 have :=h.bv _ hb;have :=bj hc;unfold e0 at*;omega
theorem Nu.Oq {u:U}(h:Nu u):KE u ρ0 (mu (td u).2):=by
 refine⟨λy G=>?_,λy z G V e=>?_⟩
 ·have H:=h.fr y G;have h2:=fw H;have J:lt (ρ0 y)=true:=oR (by rw [h2];unfold σ0;omega);refine⟨(p6 h _).2 ⟨J,?_⟩,J⟩;have:e0 (ρ0 y)=y:=by unfold e0;rw [h2];unfold σ0;omega
  rw [this];exact G
 ·have H:=fw (h.fr y G);have h2:=fw (h.fr z V);rw [e,h2]at H;unfold σ0 at H;omega
structure Mg (u:U)(s:Tx)(t:P)(v:U):Prop where
 text:t.text=s
 ls:s=LS u ρ0 (mu (td u).2)
 ae:AE UInt8.toNat t (λy=>(ρ0 y).toNat) v
 al:t.Al λc=>lt c=true
 arr:Og u v
 len:s.length<=300
 size:t.size<=60
 most:bn u<=5
 all:cQ u<=8
 bad:dD u (mu (td u).2)=false
theorem T.Al.wf:∀{t:P},t.Al (λc=>lt c=true)->t.wf=true
 | .nil,_=>rfl
 | .snd a b p,⟨G,h2,h⟩=>by simp [T.wf,iW G,iW h2,T.Al.wf h]
 | .rcv a b p,⟨G,h2,h⟩=>by simp [T.wf,iW G,iW h2,T.Al.wf h]
 | .mat a b p,⟨G,h2,h⟩=>by simp [T.wf,iW G,iW h2,T.Al.wf h]
 | .tau p,h=>T.Al.wf (t:=p) h
 | .rep p,h=>T.Al.wf (t:=p) h
 | .sum p q,⟨G,h2⟩=>by simp [T.wf,T.Al.wf G,T.Al.wf h2]
 | .par p q,⟨G,h2⟩=>by simp [T.wf,T.Al.wf G,T.Al.wf h2]
 | .res x p,⟨G,h⟩=>by simp [T.wf,iW G,T.Al.wf h]
theorem T.Al.eb:∀{t:P} (k:Nat),t.Al (λc=>lt c=true)->Eb k t
 | .nil,_,_=>trivial
 | .snd a b p,k,⟨G,h2,h⟩=>⟨oB G,oB h2,T.Al.eb k h⟩
 | .mat a b p,k,⟨G,h2,h⟩=>⟨oB G,oB h2,T.Al.eb k h⟩
 | .rcv a b p,k,⟨G,h2,h⟩=>⟨oB G,⟨tw h2,λz H _=>(T.Al.eb k h).free z H⟩,T.Al.eb (k+1) h⟩
 | .tau p,k,h=>T.Al.eb (t:=p) k h
 | .rep p,k,h=>T.Al.eb (t:=p) k h
 | .sum p q,k,⟨G,h2⟩=>⟨T.Al.eb k G,T.Al.eb k h2⟩
 | .par p q,k,⟨G,h2⟩=>⟨T.Al.eb k G,T.Al.eb k h2⟩
 | .res x p,k,⟨G,h⟩=>⟨⟨tw G,λz H _=>(T.Al.eb k h).free z H⟩,T.Al.eb (k+1) h⟩
theorem T.Al.free {D:UInt8->Prop}:∀{t:P},t.Al D->∀z,t.Fr z->D z
 | .snd a b p,⟨H,h2,h⟩,z,G=>by
  rcases G with rfl | rfl | G
  ·exact H
  ·exact h2
  ·exact T.Al.free h z G
 | .mat a b p,⟨H,h2,h⟩,z,G=>by
  rcases G with rfl | rfl | G
  ·exact H
  ·exact h2
  ·exact T.Al.free h z G
 | .rcv a b p,⟨H,h2,h⟩,z,G=>by
  rcases G with rfl | G
  ·exact H
  ·exact T.Al.free h z G.2
 | .res x p,⟨H,h⟩,z,G=>T.Al.free h z G.2
 | .tau p,h,z,G=>T.Al.free (t:=p) h z G
 | .rep p,h,z,G=>T.Al.free (t:=p) h z G
 | .sum p q,⟨H,h2⟩,z,G=>G.elim (T.Al.free H z) (T.Al.free h2 z)
 | .par p q,⟨H,h2⟩,z,G=>G.elim (T.Al.free H z) (T.Al.free h2 z)
theorem IX {u:U}(h:Nu u){s:Tx}(G:kL u=some s):∃t v,Mg u s t v:=by
 rw [iG]at G;split at G
 ·rename_i hc;obtain⟨⟨W,h2⟩,H,h4,Z,h5,h6,h7⟩:=hc;cases G;obtain⟨t,v,J,k2,V,k4⟩:=arr u.size u ρ0 _ (OQ _) h.uq h.Oq H;have:t=Z:=fT V.wf h5.wf (J.trans h6.symm);subst this;exact⟨t,v,J,rfl,k2,V,k4,h4,h7,W,h2,H⟩
 ·cases G
end Go.Proofs.YtdecokaadekjnaaGreat
namespace Go.Proofs.YtdecokaadekjnaaGreat
open Go Go.RowKit
theorem jF:∀{t:P},t.lw=true↔t.Al λc=>lt c=true
 | .nil=>by simp [T.lw,T.Al]
 | .snd a b p=>by simp [T.lw,T.Al,jF (t:=p),Q4]
 | .rcv a b p=>by simp [T.lw,T.Al,jF (t:=p),Q4]
 | .mat a b p=>by simp [T.lw,T.Al,jF (t:=p),Q4]
 | .tau p=>by simp [T.lw,T.Al,jF (t:=p)]
 | .rep p=>by simp [T.lw,T.Al,jF (t:=p)]
 | .res x p=>by simp [T.lw,T.Al,jF (t:=p)]
 | .sum p q=>by simp [T.lw,T.Al,jF (t:=p),jF (t:=q)]
 | .par p q=>by simp [T.lw,T.Al,jF (t:=p),jF (t:=q)]
theorem mi {s:Tx}:(∃t:P,Good t/\t.text=s)↔dG s:=by
 constructor
 ·rintro⟨t,h,rfl⟩
  exact⟨h.len,t,jF.1 h.lw,rfl,h.size⟩
 ·rintro⟨h,t,G,rfl,h2⟩
  exact⟨t,⟨jF.2 G,h,h2⟩,rfl⟩
theorem CP {s:Tx}(h:dG s):∀c∈s,¬128<=c:=by
 obtain⟨t,G,rfl⟩:=mi.2 h;intro c hc;have :=QN.1 (jm G.lw).2 c hc;simp only [dU,QG,Qd,OV]at this;exact this.2
theorem Li {p:Tx}(H:p.length<=1099511627776){w:World}{R:aB->Bool->Sl}(h:∀w',Ex w w'->(dG p->R p true w')/\(¬dG p->R [] false w')):Sm 190 #[.string (ai p)] w (an [.s,.b] R):=by
 refine zw p w R ?_;dsimp only [go_sem];dsimp only [go_sem,UInt8.reduceOfNat,UInt32.reduceOfNat,Nat.reduceAdd];refine IY H λb w' G hb=>⟨λhc=>(h w' G).2 λJ=>?_,λhc=>(h w' G).1 (mi.1 (hb.1 (by simpa using hc)))⟩
 have :=hb.2 (mi.2 J);rw [this]at hc;cases hc
structure pI (k:Nat)(p:P)(σ:Nat->Nat)(u:U):Prop where
 den:Den k p σ u
 gf:GF 0 p
 nu:Nu u
 σ:∀y,u.Us y->σ y=σ0 y
theorem pI.lt {k:Nat}{p:P}{σ:Nat->Nat}{u:U}(d:pI k p σ u):(∀c,p.Us c->lt c=true/\u.Us (e0 c))/\∀y,u.Us y->p.Us (ρ0 y):=by
 constructor
 ·intro c hc;obtain⟨y,G,h2⟩:=d.den.ae.used (eZ p) d.den.inj c hc;have J:=d.nu.fr y G;rw [d.σ y G]at h2;unfold σ0 at h2;have:e0 c=y:=by unfold e0;omega
  exact⟨oR (by omega),this▸G⟩
 ·intro y H;obtain⟨c,G,h2⟩:=d.den.ae.symm.used d.den.inj (eZ p) y H;have:c=ρ0 y:=Pe.1 (by rw [fw (d.nu.fr y H),h2,d.σ y H]);exact this▸G
theorem pI.tk {k:Nat}{p:P}{σ:Nat->Nat}{u:U}(d:pI k p σ u){s:Tx}(hm:∀c,c∈s↔p.Us c):cT s=mu (td u).2:=by
 funext c
 rw [PM,p6 d.nu];unfold cT;rw [OW,hm];refine⟨d.lt.1 c,fun⟨G,h2⟩=>?_⟩;have :=d.lt.2 _ h2;have e:ρ0 (e0 c)=c:=by
  have :=bj G;apply Pe.1;unfold ρ0 e0;rw [PT];omega
 rwa [e]at this
theorem pI.Nt {k:Nat}{p:P}{σ:Nat->Nat}{u:U}(d:pI k p σ u){s:Tx}(H:jb s)(hm:∀c,c∈s↔p.Us c):xS k s σ u:=by
 refine⟨H,λc hc=>⟨d.den.bd.eb.free c (T.bI ((hm c).1 hc)),?_⟩,λy G=>?_⟩
 ·have :=bj (d.lt.1 c ((hm c).1 hc)).1;right;omega
 ·refine⟨ρ0 y,(hm _).2 (d.lt.2 y G),?_⟩;rw [fw (d.nu.fr y G),d.σ y G]
theorem MG {k:Nat}{p:P}{σ:Nat->Nat}{u:U}(d:pI k p σ u){w:World}{R:aB->Bool->Sl}
  (h:∀w',Ex w w'->(¬(bn u<=5/\cQ u<=8)->R [] false w')/\∀s out,(bn u<=5/\cQ u<=8)->cT s=mu (td u).2->WR false u σ s out->R out true w'):
  Sm 189 #[.string (ai p.text)] w (an [.s,.b] R):=by
 refine yM _ w R ?_;dsimp only [go_sem];dsimp only [go_sem,UInt8.reduceOfNat,UInt32.reduceOfNat,Nat.reduceAdd];intro b2 w3 hb2 ς;have hx3:Ex w w3:=ς▸Ex.alloc w _;have mk:∀{wx wy:World} {b:Nat} (x:Bool),b=wx.heap.size->wy=wx.alloc (.cells #[.bool false,.bool x] 233)->MK wy b false x:=by
  rintro wx wy b x rfl rfl
  refine⟨by rw [size_alloc];omega,aa rfl,aa rfl,?_⟩;unfold World.frozen? World.alloc;simp
 have hm3:=mk true hb2 ς;refine oT _ (OQ _) d.den.ok λs w5 υ hss hms=>?_
 refine Er _ (OQ _) d.den d.gf (d.Nt hss hms) (hm3.ex υ) λr w7 Z hm7 hr=>?_
 have H:Ex w w5:=hx3.trans υ;have hx7:Ex w w7:=⟨Z.os.trans H.os,Z.tape.trans H.tape,Z.output.trans H.output,PN H.size Z.size,λg hg=>by
  rw [Z.block g (O' hg H.size) (by omega)];exact H.block g hg⟩
 intro b8 ε φ hb8 hbr ζ;have V:Ex w φ:=hx7.trans (Ex.aJ ζ);have hrl:=hr.le d.den;have hlen:=d.den.len;obtain⟨cur,lo,hi,χ,ο,hle,_⟩:=hbr;refine⟨_,_,ε,rfl,λown x w'=>w'=φ/\∃i:Nat,x=i/\i<=r.length/\own=((r.take i).count 35:Nat),λ _ x _=>(r.length - x).toNat,⟨rfl,0,rfl,by omega,by simp⟩,λown x γ hI=>?_⟩;obtain⟨rfl,i,rfl,hi,rfl⟩:=hI;refine⟨λhc=>?_,λhc=>?_⟩
 ·have hc:=O7 hc;have α:i< r.length:=by omega
  have η:(r.take i).count 35<=i:=PN (List.count_le_length ..) (by rw [Pt];omega);refine⟨b8,0,_,ε,rfl,by omega,by omega,bt r i,?_,λW=>?_,λW=>?_⟩
  ·unfold World.cell?;simp only [χ,OU,Ph,Pn];have e:=PS (λl=>l[i]?) ο;simp only [dN,Qu]at e;rw [Rf,Pj α]at e;simp only [OH α,QB]at e;simpa [bt,α]using e
  ·have W:=O7 W;have e:(r.take (i+1)).count 35=(r.take i).count 35+1:=by
    rw [iH α,PF,W];simp
   exact⟨by omega,by omega,⟨rfl,i+1,by omega,by omega,by rw [e];omega⟩,by dsimp only;omega⟩
  ·have W:=O9 W;have e:(r.take (i+1)).count 35=(r.take i).count 35:=by
    rw [iH α,PF,bs W];simp
   exact⟨by omega,⟨rfl,i+1,by omega,by omega,by rw [e]⟩,by dsimp only;omega⟩
 have hc:=O9 hc;have e:i=r.length:=by omega
 subst e;rw [Pa];have θ:=hm7.ex (Ex.aJ ζ);rw [Rq]at θ;refine⟨decide (5< bn u),θ.c0,λW=>?_,λW=>?_⟩
 ·have W:=O9 W;have η:=hr.cnt (by omega);rw [η];refine⟨λβ=>?_,λβ=>?_⟩
  ·have β:=O7 β;exact(h γ V).1 (by omega)
  ·have β:=O9 β;intro b25 w26 ψ ι;have ω:Ex γ w26:=ι▸Ex.alloc γ _;have hm26:=mk false ψ ι;refine oT _ (OQ _) d.den.ok λs' w28 κ hss' μ=>?_
   refine Er _ (OQ _) d.den d.gf (d.Nt hss' μ) (hm26.ex κ) λr' δ J ν hr'=>?_
   have G:Ex w w28:=(V.trans ω).trans κ;have hsz:=V.size;have hx30:Ex w δ:=⟨J.os.trans G.os,J.tape.trans G.tape,J.output.trans G.output,PN G.size J.size,λg hg=>by
    rw [J.block g (O' hg G.size) (by omega)];exact G.block g hg⟩
   have hb:decide (5< bn u)=false:=PX (by omega);rw [hb,Bool.or_self]at ν;refine⟨λw'=>Ex δ w',λyX ξ=>⟨ξ▸Ex.drew δ,false,λw' hw'=>(ν.ex hw').c0,?_⟩⟩;exact(h yX (hx30.trans (ξ▸Ex.drew δ))).2 s' r' ⟨by omega,by omega⟩ (d.tk μ) hr'
 ·have W:=O7 W;exact(h γ V).1 (by omega)
theorem CQ {k:Nat}{p:P}{σ:Nat->Nat}{u:U}(d:pI k p σ u){w:World}{R:aB->Bool->Sl}
  (h:∀w',Ex w w'->(∀s,kL u=some s->R s true w')/\(kL u=none->R [] false w')):
  Sm 150 #[.string (ai p.text)] w (an [.s,.b] R):=by
 refine xP _ w R ?_;dsimp only [go_sem];dsimp only [go_sem,UInt8.reduceOfNat,UInt32.reduceOfNat,Nat.reduceAdd];refine MG d λw' hx=>⟨λhn=>⟨λ _=>(h w' hx).2 ?_,λhc=>by cases hc⟩,λs out hb H hr=>⟨λhc=>(by cases hc),λ _=>?_⟩⟩
 ·rw [iG,O1 λW=>hn W.1]
 ·have hlen:=d.den.len;have γ:=hr.le d.den;refine Li (by omega) λw2 Z=>?_
  have α:Compat ρ0 σ u:=λy hy=>by rw [fw (d.nu.fr y hy),d.σ y hy]
  have J:=h w2 (hx.trans Z);cases G:dD u (mu (td u).2)with
  | true=>
   obtain⟨c,h1,h2⟩:=hr.bad hb.1 rfl (by rw [H];exact G);have β:¬dG out:=λV=>CP V c h1 h2
   refine⟨λV=>absurd V β,λ _=>J.2 ?_⟩;rw [iG,O1 λW=>by rw [G]at W;cases W.2.1]
  | false=>
   have e:=hr.eq hb.1 rfl (by rw [H];exact G) ρ0 α;rw [H]at e;subst e;refine⟨λV=>J.1 _ ?_,λV=>J.2 ?_⟩
   ·rw [iG,Pj ⟨hb,G,V⟩]
   ·rw [iG,O1 λW=>V W.2.2]
end Go.Proofs.YtdecokaadekjnaaGreat
namespace Go.Proofs.YtdecokaadekjnaaGreat
open Go
attribute [go_sem] Tryz.f207
theorem nH (r1:Value)(w:World)(R:UInt8->Sl)(h:vc az (bf [] [] [(1,true,.lt 0 (.lt 1 (.lt 2 (.lt 3 (.lt 4 (.lt 5 (.lt 6 (.lt 7 (.lt 8 (.lt 9 .done)))))))))),(5,true,.lt 0 (.lt 1 (.lt 2 (.lt 3 (.lt 4 (.lt 5 (.lt 6 (.lt 7 (.lt 8 (.lt 9 (.lt 10 .done)))))))))))]) (ab Tryz.f207) (aj 0 [.v r1]) w (fin az [.tmp 2 .c] R)):
  Sm 207 #[r1] w (an [.c] R):=
 bD Tryz.func207 (by kernel_rfl) h
attribute [go_sem] Tryz.f128
theorem qN (c1:UInt8)(w:World)(R:Bool->Sl)(h:vc az (bf [] [] []) (ab Tryz.f128) (aj 0 [.c c1]) w (fin az [.tmp 2 .b] R)):
  Sm 128 #[(.int .u8 c1.toNat)] w (an [.b] R):=
 bD Tryz.func128 (by kernel_rfl) h
attribute [go_sem] Tryz.f208
theorem nk (r1:Value)(w:World)(R:UInt8->Sl)(h:vc az (bf [] [] []) (ab Tryz.f208) (aj 0 [.v r1]) w (fin az [.tmp 2 .c] R)):
  Sm 208 #[r1] w (an [.c] R):=
 bD Tryz.func208 (by kernel_rfl) h
attribute [go_sem] Tryz.f209
theorem nF (r1:Value)(c2:UInt8)(w:World)(R:Sl)(h:vc az (bf [] [] []) (ab Tryz.f209) (aj 0 [.v r1,.c c2]) w (fin az [] R)):
  Sm 209 #[r1,(.int .u8 c2.toNat)] w (an [] R):=
 bD Tryz.func209 (by kernel_rfl) h
attribute [go_sem] Tryz.f166
theorem nG (r1:Value)(w:World)(R:Value->Sl)(h:vc az (bf [] [] []) (ab Tryz.f166) (aj 0 [.v r1]) w (fin az [.tmp 2 .v] R)):
  Sm 166 #[r1] w (an [.v] R):=
 bD Tryz.func166 (by kernel_rfl) h
attribute [go_sem] Tryz.f123
theorem vD (s1:aB)(w:World)(R:Value->Bool->Sl)(h:vc az (bf [] [] [(3,true,.lt 0 (.lt 1 (.lt 2 (.lt 3 (.lt 4 (.lt 5 (.lt 6 (.lt 7 (.lt 8 (.lt 9 (.lt 10 (.lt 11 (.lt 12 (.lt 13 (.lt 14 (.lt 15 (.lt 16 .done)))))))))))))))))]) (ab Tryz.f123) (aj 0 [.s s1]) w (fin az [.tmp 2 .v,.tmp 3 .b] R)):
  Sm 123 #[(.string (ai s1))] w (an [.v,.b] R):=
 bD Tryz.func123 (by kernel_rfl) h
attribute [go_sem] Tryz.f124
theorem pj (t1:Value)(w:World)(R:Int->Sl)(h:vc az (bf [(3,[(3,.i),(11,.i)])] [] []) (ab Tryz.f124) (aj 0 [.v t1]) w (fin az [.tmp 2 .i] R)):
  Sm 124 #[t1] w (an [.i] R):=
 bD Tryz.func124 (by kernel_rfl) h
attribute [go_sem] Tryz.f79
theorem zJ (G:aB)(w:World)(R:Value->Bool->Sl)(h:vc az (bf [] [] []) (ab Tryz.f79) (aj 0 [.s G]) w (fin az [.tmp 2 .v,.tmp 3 .b] R)):
  Sm 79 #[(.string (ai G))] w (an [.v,.b] R):=
 bD Tryz.func79 (by kernel_rfl) h
attribute [go_sem] Tryz.f238
theorem oZ (G:aB)(w:World)(R:Bool->Sl)(h:vc az (bf [] [] []) (ab Tryz.f238) (aj 0 [.s G]) w (fin az [.tmp 2 .b] R)):
  Sm 238 #[(.string (ai G))] w (an [.b] R):=
 bD Tryz.func238 (by kernel_rfl) h
attribute [go_sem] Tryz.f129
theorem oD (t1:Value)(w:World)(R:Bool->Sl)(h:vc az (bf [] [] []) (ab Tryz.f129) (aj 0 [.v t1]) w (fin az [.tmp 2 .b] R)):
  Sm 129 #[t1] w (an [.b] R):=
 bD Tryz.func129 (by kernel_rfl) h
attribute [go_sem] Tryz.f168
attribute [go_sem] Tryz.f170
theorem n8 (G:Value)(c2:Value)(c3:Value)(w:World)(R:Sl)(h:vc az (bf [] [] []) (ab Tryz.f170) (aj 0 [.v G,.v c2,.v c3]) w (fin az [] R)):
  Sm 170 #[G,c2,c3] w (an [] R):=
 bD Tryz.func170 (by kernel_rfl) h
attribute [go_sem] Tryz.f169
theorem pn (t1:Value)(d2:Value)(w:World)(R:Sl)(h:vc az (bf [(2,[(14,.i)])] [] []) (ab Tryz.f169) (aj 0 [.v t1,.v d2]) w (fin az [] R)):
  Sm 169 #[t1,d2] w (an [] R):=
 bD Tryz.func169 (by kernel_rfl) h
attribute [go_sem] Tryz.f126
theorem qo (t1:Value)(h2:Value)(w:World)(R:Bool->Sl)(h:vc az (bf [] [] []) (ab Tryz.f126) (aj 0 [.v t1,.v h2]) w (fin az [.tmp 4 .b] R)):
  Sm 126 #[t1,h2] w (an [.b] R):=
 bD Tryz.func126 (by kernel_rfl) h
attribute [go_sem] Tryz.f167
theorem jQ (G:Value)(w:World)(R:Bool->Sl)(h:vc az (bf [] [] []) (ab Tryz.f167) (aj 0 [.v G]) w (fin az [.tmp 2 .b] R)):
  Sm 167 #[G] w (an [.b] R):=
 bD Tryz.func167 (by kernel_rfl) h
attribute [go_sem] Tryz.f125
theorem lG (t1:Value)(w:World)(R:Bool->Sl)(h:vc az (bf [] [] []) (ab Tryz.f125) (aj 0 [.v t1]) w (fin az [.tmp 2 .b] R)):
  Sm 125 #[t1] w (an [.b] R):=
 bD Tryz.func125 (by kernel_rfl) h
attribute [go_sem] Tryz.f127
theorem kO (G:Value)(w:World)(R:Bool->Sl)(h:vc az (bf [] [] []) (ab Tryz.f127) (aj 0 [.v G]) w (fin az [.tmp 2 .b] R)):
  Sm 127 #[G] w (an [.b] R):=
 bD Tryz.func127 (by kernel_rfl) h
attribute [go_sem] Tryz.f80
theorem nE (t1:Value)(w:World)(R:Bool->Sl)(h:vc az (bf [] [] []) (ab Tryz.f80) (aj 0 [.v t1]) w (fin az [.tmp 2 .b] R)):
  Sm 80 #[t1] w (an [.b] R):=
 bD Tryz.func80 (by kernel_rfl) h
attribute [go_sem] Tryz.f67
end Go.Proofs.YtdecokaadekjnaaGreat
namespace Go.Proofs.YtdecokaadekjnaaGreat
open Go Go.RowKit
abbrev ptr (b:Nat):Value:= .pointer (some ⟨b,0,none⟩)
def eP (D:Nat->Prop)(w:World)(v:Value)(l:List Value):Prop:=
 (v= .slice none 0 0/\l=[])\/∃b off cap,v= .slice (some ⟨b,off,none⟩) l.length cap/\D b/\b< w.heap.size/\∀i x,l[i]?=some x->w.cell? ⟨b,off+i,none⟩=some x
theorem eP.kp {D S:Nat->Prop}{w w':World}{v:Value}{l:List Value}(h:eP D w v l)(k:Kp w w' S)(H:∀g,D g->¬S g):eP D w' v l:=by
 rcases h with h | ⟨b,off,cap,J,h2,G,h4⟩
 ·exact .inl h
 ·refine .inr ⟨b,off,cap,J,h2,O' G k.size,λi x V=>?_⟩;rw [OG (w:=w) (k.block b G (H b h2))];exact h4 i x V
theorem eP.mono {D E:Nat->Prop}{w:World}{v:Value}{l:List Value}(h:eP D w v l)(hd:∀g,D g->E g):eP E w v l:=by
 rcases h with h | ⟨b,off,cap,G,h2,H,h4⟩
 ·exact .inl h
 ·exact .inr ⟨b,off,cap,G,hd b h2,H,h4⟩
theorem eP.slice {D:Nat->Prop}{w:World}{v:Value}{l:List Value}(h:eP D w v l):∃a cap,v= .slice a l.length cap:=by
 rcases h with⟨h,rfl⟩ | ⟨b,off,cap,G,_⟩
 ·exact⟨_,_,h⟩
 ·exact⟨_,_,G⟩
theorem eP.get {D:Nat->Prop}{w:World}{v:Value}{l:List Value}(h:eP D w v l){i:Int}{x:Value}(H:0<=i)(G:l[i.toNat]?=some x){Q:Value->Prop}(J:Q x):
  ∃(b o len cap:Nat),v=Value.slice (some ⟨b,o,none⟩) len cap/\0<=i/\i< (len:Int)/\∃s:Value,World.cell? w ⟨b,o+Int.toNat i* 1,none⟩=some s/\Q s:=by
 obtain⟨hi,e⟩:=PB.1 G;rcases h with⟨h,rfl⟩ | ⟨b,off,cap,V,h2,W,h4⟩
 ·simp at hi
 ·exact⟨b,off,l.length,cap,V,H,by omega,x,by rw [Pn];exact h4 _ _ G,J⟩
def fG (D:Nat->Prop)(w:World)(v:Value)(k a c:UInt8)(K:List Value->Prop):Prop:=
 ∃b vs l,v=ptr b/\D b/\b< w.heap.size/\w.cell? ⟨b,0,none⟩=some (.int .u8 k.toNat)/\w.cell? ⟨b,1,none⟩=some (.int .u8 a.toNat)/\w.cell? ⟨b,2,none⟩=some (.int .u8 c.toNat)/\
  w.cell? ⟨b,3,none⟩=some vs/\eP D w vs l/\K l
def aM (D:Nat->Prop)(w:World):P->Value->Prop
 | .nil,v=>fG D w v 48 0 0 λl=>l=[]
 | .snd a b p,v=>fG D w v 33 a b λl=>∃x,l=[x]/\aM D w p x
 | .rcv a b p,v=>fG D w v 63 a b λl=>∃x,l=[x]/\aM D w p x
 | .tau p,v=>fG D w v 126 0 0 λl=>∃x,l=[x]/\aM D w p x
 | .sum p q,v=>fG D w v 43 0 0 λl=>∃x y,l=[x,y]/\aM D w p x/\aM D w q y
 | .par p q,v=>fG D w v 38 0 0 λl=>∃x y,l=[x,y]/\aM D w p x/\aM D w q y
 | .res b p,v=>fG D w v 35 0 b λl=>∃x,l=[x]/\aM D w p x
 | .mat a b p,v=>fG D w v 61 a b λl=>∃x,l=[x]/\aM D w p x
 | .rep p,v=>fG D w v 42 0 0 λl=>∃x,l=[x]/\aM D w p x
def T.ca:P->UInt8
 | .snd a _ _=>a | .rcv a _ _=>a | .mat a _ _=>a | _=>0
def T.cb:P->UInt8
 | .snd _ b _=>b | .rcv _ b _=>b | .mat _ b _=>b | .res b _=>b | _=>0
theorem fG.kp {D S:Nat->Prop}{w w':World}{v:Value}{k a c:UInt8}{K G:List Value->Prop}(h:fG D w v k a c K)(kp:Kp w w' S)(H:∀g,D g->¬S g)(V:∀l,K l->G l):fG D w' v k a c G:=by
 obtain⟨b,vs,l,W,h2,J,h4,h5,Z,h7,h8,h9⟩:=h;have hb:=kp.block b J (H b h2);refine⟨b,vs,l,W,h2,O' J kp.size,?_,?_,?_,?_,h8.kp kp H,V l h9⟩<;>rw [OG (w:=w) hb]<;>assumption
theorem fG.mono {D E:Nat->Prop}{w:World}{v:Value}{k a c:UInt8}{K G:List Value->Prop}(h:fG D w v k a c K)(hd:∀g,D g->E g)(H:∀l,K l->G l):fG E w v k a c G:=by
 obtain⟨b,vs,l,J,h2,V,h4,h5,W,Z,h8,h9⟩:=h;exact⟨b,vs,l,J,hd b h2,V,h4,h5,W,Z,h8.mono hd,H l h9⟩
theorem aM.kp {D S:Nat->Prop}{w w':World}(kp:Kp w w' S)(G:∀g,D g->¬S g):∀{t:P} {v:Value},aM D w t v->aM D w' t v
 | .nil,_,h=>fG.kp h kp G λ _ h=>h
 | .snd _ _ p,_,h=>fG.kp h kp G λ _ ⟨x,H,h2⟩=>⟨x,H,aM.kp kp G (t:=p) h2⟩
 | .rcv _ _ p,_,h=>fG.kp h kp G λ _ ⟨x,H,h2⟩=>⟨x,H,aM.kp kp G (t:=p) h2⟩
 | .tau p,_,h=>fG.kp h kp G λ _ ⟨x,H,h2⟩=>⟨x,H,aM.kp kp G (t:=p) h2⟩
 | .res _ p,_,h=>fG.kp h kp G λ _ ⟨x,H,h2⟩=>⟨x,H,aM.kp kp G (t:=p) h2⟩
 | .mat _ _ p,_,h=>fG.kp h kp G λ _ ⟨x,H,h2⟩=>⟨x,H,aM.kp kp G (t:=p) h2⟩
 | .rep p,_,h=>fG.kp h kp G λ _ ⟨x,H,h2⟩=>⟨x,H,aM.kp kp G (t:=p) h2⟩
 | .sum p q,_,h=>fG.kp h kp G λ _ ⟨x,y,H,h2,J⟩=>⟨x,y,H,aM.kp kp G (t:=p) h2,aM.kp kp G (t:=q) J⟩
 | .par p q,_,h=>fG.kp h kp G λ _ ⟨x,y,H,h2,J⟩=>⟨x,y,H,aM.kp kp G (t:=p) h2,aM.kp kp G (t:=q) J⟩
theorem aM.mono {D E:Nat->Prop}{w:World}(hd:∀g,D g->E g):∀{t:P} {v:Value},aM D w t v->aM E w t v
 | .nil,_,h=>fG.mono h hd λ _ h=>h
 | .snd _ _ p,_,h=>fG.mono h hd λ _ ⟨x,G,h2⟩=>⟨x,G,aM.mono hd (t:=p) h2⟩
 | .rcv _ _ p,_,h=>fG.mono h hd λ _ ⟨x,G,h2⟩=>⟨x,G,aM.mono hd (t:=p) h2⟩
 | .tau p,_,h=>fG.mono h hd λ _ ⟨x,G,h2⟩=>⟨x,G,aM.mono hd (t:=p) h2⟩
 | .res _ p,_,h=>fG.mono h hd λ _ ⟨x,G,h2⟩=>⟨x,G,aM.mono hd (t:=p) h2⟩
 | .mat _ _ p,_,h=>fG.mono h hd λ _ ⟨x,G,h2⟩=>⟨x,G,aM.mono hd (t:=p) h2⟩
 | .rep p,_,h=>fG.mono h hd λ _ ⟨x,G,h2⟩=>⟨x,G,aM.mono hd (t:=p) h2⟩
 | .sum p q,_,h=>fG.mono h hd λ _ ⟨x,y,G,h2,H⟩=>⟨x,y,G,aM.mono hd (t:=p) h2,aM.mono hd (t:=q) H⟩
 | .par p q,_,h=>fG.mono h hd λ _ ⟨x,y,G,h2,H⟩=>⟨x,y,G,aM.mono hd (t:=p) h2,aM.mono hd (t:=q) H⟩
theorem aP.two {A B:Type}{R:A->B->Prop}{a a':A}{b G:B}(h:R a b)(h':R a' G):aP R [a,a'] [b,G]:=(aP.one h).append (aP.one h')
theorem aM.inv {D:Nat->Prop}{w:World}{t:P}{v:Value}(h:aM D w t v):fG D w v t.kind t.ca t.cb λl=>aP (λx p=>aM D w p x) l t.parts:=by
 cases t with
 | nil=>exact fG.mono h (λ _ h=>h) λl (e:l=[])=>by subst e;exact aP.nil
 | sum p q=>exact fG.mono h (λ _ h=>h) λl ⟨x,y,e,G,h2⟩=>by subst e;exact aP.two G h2
 | par p q=>exact fG.mono h (λ _ h=>h) λl ⟨x,y,e,G,h2⟩=>by subst e;exact aP.two G h2
 | snd a b p=>exact fG.mono h (λ _ h=>h) λl ⟨x,e,G⟩=>by subst e;exact aP.one G
 | rcv a b p=>exact fG.mono h (λ _ h=>h) λl ⟨x,e,G⟩=>by subst e;exact aP.one G
 | mat a b p=>exact fG.mono h (λ _ h=>h) λl ⟨x,e,G⟩=>by subst e;exact aP.one G
 | tau p=>exact fG.mono h (λ _ h=>h) λl ⟨x,e,G⟩=>by subst e;exact aP.one G
 | rep p=>exact fG.mono h (λ _ h=>h) λl ⟨x,e,G⟩=>by subst e;exact aP.one G
 | res b p=>exact fG.mono h (λ _ h=>h) λl ⟨x,e,G⟩=>by subst e;exact aP.one G
theorem uO (t:P):t.size=1+(t.parts.map T.size).sum:=by cases t<;>simp [T.size,T.parts]<;>omega
theorem wV {A:Type}(f:A->Nat)(l:List A){i:Nat}(h:i< l.length):(l.map f).sum=((l.take i).map f).sum+(f l[i]+((l.drop (i+1)).map f).sum)/\((l.take (i+1)).map f).sum=((l.take i).map f).sum+f l[i]:=by
 constructor
 ·have e:l=l.take i++(l[i]::l.drop (i+1)):=by rw [<-PK h,P4]
  conv=>lhs;rw [e,PH,R9,Pk,P0]
 ·rw [OK h,PH,R9];simp
theorem Ku:∀(n:Nat) {D:Nat->Prop} {t:P} {v:Value} {w:World},t.size<=n->aM D w t v->t.size<=1099511627776->∀{R:Int->Sl},R (t.size:Int) w->Sm 124 #[v] w (an [.i] R):=by
 intro n
 induction n with
 | zero=>intro D t v w h;have :=a8 t;omega
 | succ n V=>
  intro D t v w hn W hl R h;refine pj v w R ?_;dsimp only [go_sem];dsimp only [go_sem,UInt8.reduceOfNat,UInt32.reduceOfNat,Nat.reduceAdd];obtain⟨b,vs,l,rfl,h1,h2,h3,h4,h5,Z,J,h8⟩:=W.inv;obtain⟨a,cap,hv⟩:=J.slice;have e:=uO t;refine⟨b,0,rfl,vs,Z,a,_,cap,hv,λm x w'=>w'=w/\∃i:Nat,x=i/\i<=l.length/\m=(1+((t.parts.take i).map T.size).sum:Nat),λ _ x _=>(l.length - x).toNat,⟨rfl,0,rfl,by omega,by simp⟩,λm x w1 hI=>?_⟩;obtain⟨rfl,i,rfl,hi,rfl⟩:=hI;refine⟨λhc=>?_,λhc=>?_⟩
  ·have hc:=O7 hc;have G:i< l.length:=by omega
   have H:i< t.parts.length:=by rw [<-h8.1];exact G
   refine J.get (i:=i) (x:=l[i]) (by omega) (by simp [G]) ?_;have hk:=h8.2 i _ _ (OH G) (OH H);obtain⟨hs,α⟩:=wV T.size t.parts H;have β:=dY t;refine V (by omega) hk (by omega) ⟨by omega,by omega,⟨rfl,i+1,by omega,by omega,?_⟩,by dsimp only;omega⟩;omega
  ·have hc:=O9 hc;have:i=t.parts.length:=by rw [<-h8.1];omega
   subst this;rw [Pa,<-e];exact h
structure Rd (w:World)(r:Nat)(s:Tx)(i:Nat)(bad:Bool):Prop where
 lt:r< w.heap.size
 le:i<=s.length
 c0:w.cell? ⟨r,0,none⟩=some (.string (ai s))
 c1:w.cell? ⟨r,1,none⟩=some (.int .i64 i)
 c2:w.cell? ⟨r,2,none⟩=some (.bool bad)
 f1:w.frozen? ⟨r,1,none⟩=false
 f2:w.frozen? ⟨r,2,none⟩=false
theorem Rd.same {w w':World}{r:Nat}{s:Tx}{i:Nat}{bad:Bool}(h:Rd w r s i bad)(V:w.heap.size<=w'.heap.size)(hb:w'.heap[r]?=w.heap[r]?):Rd w' r s i bad:=by
 obtain⟨W,h2,G,h4,h5,H,J⟩:=h;refine⟨by omega,h2,?_,?_,?_,?_,?_⟩
 ·rw [OG (w:=w) hb];exact G
 ·rw [OG (w:=w) hb];exact h4
 ·rw [OG (w:=w) hb];exact h5
 ·rw [Pd (w:=w) hb];exact H
 ·rw [Pd (w:=w) hb];exact J
theorem Rd.setAt {w:World}{r:Nat}{s:Tx}{i j:Nat}{bad:Bool}(h:Rd w r s i bad)(hj:j<=s.length):Rd (w.setCell ⟨r,1,none⟩ (.int .i64 j)) r s j bad:=
 ⟨by rw [Pu];exact h.lt,hj,by rw [OL _ _ _ _ (by simp)];exact h.c0,OY _ _ _ h.c1,by rw [OL _ _ _ _ (by simp)];exact h.c2,by rw [O0];exact h.f1,by rw [O0];exact h.f2⟩
theorem Rd.yR {w:World}{r:Nat}{s:Tx}{i:Nat}{bad:Bool}(h:Rd w r s i bad):Rd (w.setCell ⟨r,2,none⟩ (.bool true)) r s i true:=
 ⟨by rw [Pu];exact h.lt,h.le,by rw [OL _ _ _ _ (by simp)];exact h.c0,by rw [OL _ _ _ _ (by simp)];exact h.c1,OY _ _ _ h.c2,by rw [O0];exact h.f1,by rw [O0];exact h.f2⟩
abbrev Kr (r:Nat)(w w':World):Prop:=Kp w w' λg=>g=r
theorem Kr.refl (r:Nat)(w:World):Kr r w w:=Kp.af (Ex.refl w) _
theorem Kr.trans {r:Nat}{a b c:World}(h:Kr r a b)(k:Kr r b c):Kr r a c:=Kp.trans h k λ _ _ h=>h
theorem Kr.ex {r:Nat}{w w':World}(h:Ex w w'):Kr r w w':=Kp.af h _
theorem Kr.set {r:Nat}(w:World)(j:Nat)(v:Value):Kr r w (w.setCell ⟨r,j,none⟩ v):=Kp.set (S:=λg=>g=r) (Kr.refl r w) rfl v
theorem LQ {w:World}{r:Nat}{s:Tx}{i:Nat}{bad:Bool}(hs:s.length<=1099511627776)(h:Rd w r s i bad){R:UInt8->Sl}
  (hR:∀w',Kr r w w'->Rd w' r s (if i< s.length then i+1 else i) (bad||decide (s.length<=i))->R (if i< s.length then bt s i else 0) w'):Sm 207 #[ptr r] w (an [.c] R):=by
 refine nH _ w R ?_;dsimp only [go_sem];dsimp only [go_sem,UInt8.reduceOfNat,UInt32.reduceOfNat,Nat.reduceAdd];have hle:=h.le;refine⟨λw'=>Ex w w',λw1 W=>⟨W▸Ex.drew w,r,0,rfl,i,λw' H=>(h.same H.size (H.block r h.lt)).c1,r,0,rfl,s,λw' H=>(h.same H.size (H.block r h.lt)).c0,λhc=>?_,λhc=>?_⟩⟩
 ·have G:Ex w w1:=W▸Ex.drew w;have V:=h.same G.size (G.block r h.lt);have hc:=O7 hc;refine⟨r,0,rfl,⟨⟨_,V.c2⟩,V.f2⟩,λw2 J=>?_⟩;subst J;have :=hR _ (Kr.trans (Kr.ex G) (Kr.set w1 2 _)) (by
   rw [O1 (by omega),show decide (s.length<=i)=true from PL (by omega),Bool.or_true];exact V.yR)
  rw [O1 (by omega)]at this;exact this
 ·have G:Ex w w1:=W▸Ex.drew w;have V:=h.same G.size (G.block r h.lt);have hc:=O9 hc;have α:i< s.length:=by omega
  refine⟨r,0,rfl,i,V.c1,by omega,r,0,rfl,⟨⟨_,V.c1⟩,V.f1⟩,λw2 J=>?_⟩;have e:((i:Int)+1)=((i+1:Nat):Int):=by omega
  rw [e]at J;have h2:Rd w2 r s (i+1) bad:=J▸V.setAt (by omega);have k2:Kr r w w2:=J▸Kr.trans (Kr.ex G) (Kr.set w1 1 _);refine⟨λw'=>Ex w2 w',λw3 β=>⟨β▸Ex.drew w2,r,0,rfl,s,λw' H=>(h2.same H.size (H.block r h2.lt)).c0,r,0,rfl,(i+1:Nat),λw' H=>(h2.same H.size (H.block r h2.lt)).c1,by omega,⟨by omega,by omega⟩,?_⟩⟩;have Z:Ex w2 w3:=β▸Ex.drew w2;have e2:Int.toNat (((i+1:Nat):Int) - 1)=i:=by omega
  rw [e2];have :=hR w3 (Kr.trans k2 (Kr.ex Z)) (by
   rw [Pj α,show decide (s.length<=i)=false from PX (by omega),Q8];exact h2.same Z.size (Z.block r h2.lt))
  rw [Pj α]at this;exact this
theorem uU {c:UInt8}{w:World}{R:Bool->Sl}(h:R (lt c) w):Sm 128 #[.int .u8 c.toNat] w (an [.b] R):=by
 refine qN c w R ?_;dsimp only [go_sem];dsimp only [go_sem,UInt8.reduceOfNat,UInt32.reduceOfNat,Nat.reduceAdd];unfold lt at h;refine⟨λhc=>?_,λhc=>?_⟩
 ·rw [hc]at h;simpa using h
 ·rw [hc]at h;simpa using h
structure Nx (s:Tx)(i:Nat)(bad:Bool)(ok:UInt8->Prop)(c:UInt8)(j:Nat)(bad':Bool):Prop where
 le:i<=j
 fine:bad'=false->bad=false/\i< s.length/\j=i+1/\c=bt s i/\ok c
 good:bad=false->i< s.length->ok (bt s i)->bad'=false
theorem pQ {w:World}{r:Nat}{s:Tx}{i:Nat}{bad:Bool}(G:s.length<=1099511627776)(h:Rd w r s i bad){R:UInt8->Sl}
  (hR:∀c j bad' w',Kr r w w'->Rd w' r s j bad'->Nx s i bad (λ _=>True) c j bad'->R c w'):Sm 207 #[ptr r] w (an [.c] R):=by
 refine LQ G h λw' k h'=>hR _ _ _ w' k h' ⟨by split<;>omega,λhb=>?_,λhb hi _=>?_⟩
 ·simp only [Qd,OV]at hb;rw [Pj (by omega),Pj (by omega)];exact⟨hb.1,by omega,rfl,rfl,trivial⟩
 ·rw [hb,Rq];exact PX (by omega)
theorem ze {w:World}{r:Nat}{s:Tx}{i:Nat}{bad:Bool}(W:s.length<=1099511627776)(h:Rd w r s i bad){R:UInt8->Sl}
  (hR:∀c j bad' w',Kr r w w'->Rd w' r s j bad'->Nx s i bad (λc=>lt c=true) c j bad'->R c w'):Sm 208 #[ptr r] w (an [.c] R):=by
 refine nk _ w R ?_;dsimp only [go_sem];dsimp only [go_sem,UInt8.reduceOfNat,UInt32.reduceOfNat,Nat.reduceAdd];refine pQ W h λc j bad' w1 V H G=>uU ⟨λhc=>?_,λhc=>?_⟩
 ·refine⟨r,0,rfl,⟨⟨_,H.c2⟩,H.f2⟩,λw2 J=>?_⟩;subst J;refine hR c j true _ (Kr.trans V (Kr.set w1 2 _)) H.yR ⟨G.le,λhb=>(by cases hb),λhb hi Z=>?_⟩;obtain⟨_,_,_,e,_⟩:=G.fine (G.good hb hi trivial);rw [e]at hc;rw [Z]at hc;cases hc
 ·refine hR c j bad' w1 V H ⟨G.le,λhb=>?_,λhb hi _=>G.good hb hi trivial⟩;obtain⟨a,b,c,d,_⟩:=G.fine hb;exact⟨a,b,c,d,by simpa using hc⟩
theorem qz {w:World}{r:Nat}{s:Tx}{i:Nat}{bad:Bool}{c:UInt8}(W:s.length<=1099511627776)(h:Rd w r s i bad){R:Sl}
  (hR:∀j bad' w',Kr r w w'->Rd w' r s j bad'->Nx s i bad (λd=>d=c) c j bad'->R w'):Sm 209 #[ptr r,.int .u8 c.toNat] w (an [] R):=by
 refine nF _ c w R ?_;dsimp only [go_sem];dsimp only [go_sem,UInt8.reduceOfNat,UInt32.reduceOfNat,Nat.reduceAdd];refine pQ W h λd j bad' w1 V H G=>⟨λhc=>?_,λhc=>?_⟩
 ·refine⟨r,0,rfl,⟨⟨_,H.c2⟩,H.f2⟩,λw2 J=>?_⟩;subst J;refine hR j true _ (Kr.trans V (Kr.set w1 2 _)) H.yR ⟨G.le,λhb=>(by cases hb),λhb hi Z=>?_⟩;obtain⟨_,_,_,e,_⟩:=G.fine (G.good hb hi trivial);rw [e,Z]at hc;simp at hc
 ·have hc:d=c:=by simpa using hc
  subst hc;refine hR j bad' w1 V H ⟨G.le,λhb=>?_,λhb hi _=>G.good hb hi trivial⟩;obtain⟨a,b,c,d,_⟩:=G.fine hb;exact⟨a,b,c,d,rfl⟩
structure Nd (w:World)(b:Nat)(k a c:UInt8)(vs:Value):Prop where
 lt:b< w.heap.size
 c0:w.cell? ⟨b,0,none⟩=some (.int .u8 k.toNat)
 c1:w.cell? ⟨b,1,none⟩=some (.int .u8 a.toNat)
 c2:w.cell? ⟨b,2,none⟩=some (.int .u8 c.toNat)
 c3:w.cell? ⟨b,3,none⟩=some vs
 f:∀j,w.frozen? ⟨b,j,none⟩=false
theorem Nd.same {w w':World}{b:Nat}{k a c:UInt8}{vs:Value}(h:Nd w b k a c vs)(J:w.heap.size<=w'.heap.size)(hb:w'.heap[b]?=w.heap[b]?):Nd w' b k a c vs:=by
 obtain⟨V,h2,G,h4,h5,H⟩:=h;refine⟨by omega,?_,?_,?_,?_,λj=>?_⟩
 ·rw [OG (w:=w) hb];exact h2
 ·rw [OG (w:=w) hb];exact G
 ·rw [OG (w:=w) hb];exact h4
 ·rw [OG (w:=w) hb];exact h5
 ·rw [Pd (w:=w) hb];exact H j
structure TS (w0 w:World)(r b:Nat)(s:Tx)(i:Nat)(bad:Bool)(k a c:UInt8)(vs:Value):Prop where
 rd:Rd w r s i bad
 nd:Nd w b k a c vs
 kr:Kr r w0 w
 hr:r< w0.heap.size
 hb:w0.heap.size<=b
section
variable {w0 w w':World} {r b:Nat} {s:Tx} {i j:Nat} {bad bad':Bool} {k a c x:UInt8} {vs:Value}
theorem TS.go (h:TS w0 w r b s i bad k a c vs)(kr:Kr r w w')(hr:Rd w' r s j bad'):TS w0 w' r b s j bad' k a c vs:=by
 have :=h.hr;have :=h.hb;exact⟨hr,h.nd.same kr.size (kr.block b h.nd.lt (by omega)),Kr.trans h.kr kr,h.hr,h.hb⟩
theorem TS.ex (h:TS w0 w r b s i bad k a c vs)(G:Ex w w'):TS w0 w' r b s i bad k a c vs:=h.go (Kr.ex G) (h.rd.same G.size (G.block r h.rd.lt))
theorem TS.sC (h:TS w0 w r b s i bad k a c vs)(j:Nat)(v:Value):Rd (w.setCell ⟨b,j,none⟩ v) r s i bad/\Kr r w0 (w.setCell ⟨b,j,none⟩ v):=by
 have J:=h.hr;have h2:=h.hb;refine⟨h.rd.same (by rw [Pu];exact OQ _) (Rg _ _ _ _ (show r≠b by omega)),⟨h.kr.os,h.kr.tape,h.kr.output,by rw [Pu];exact h.kr.size,λg G H=>?_⟩⟩;rw [Rg _ _ _ _ (show g≠b by omega)];exact h.kr.block g G H
theorem TS.Fv (h:TS w0 w r b s i bad k a c vs)(hw:w'=w.setCell ⟨b,0,none⟩ (.int .u8 x.toNat)):TS w0 w' r b s i bad x a c vs:=by
 subst hw;obtain⟨G,h2⟩:=h.sC 0 (.int .u8 x.toNat);exact⟨G,⟨by rw [Pu];exact h.nd.lt,OY _ _ _ h.nd.c0,by rw [OL _ _ _ _ (by simp)];exact h.nd.c1,by rw [OL _ _ _ _ (by simp)];exact h.nd.c2,by rw [OL _ _ _ _ (by simp)];exact h.nd.c3,λj=>by rw [O0];exact h.nd.f j⟩,h2,h.hr,h.hb⟩
theorem TS.AF (h:TS w0 w r b s i bad k a c vs)(hw:w'=w.setCell ⟨b,1,none⟩ (.int .u8 x.toNat)):TS w0 w' r b s i bad k x c vs:=by
 subst hw;obtain⟨G,h2⟩:=h.sC 1 (.int .u8 x.toNat);exact⟨G,⟨by rw [Pu];exact h.nd.lt,by rw [OL _ _ _ _ (by simp)];exact h.nd.c0,OY _ _ _ h.nd.c1,by rw [OL _ _ _ _ (by simp)];exact h.nd.c2,by rw [OL _ _ _ _ (by simp)];exact h.nd.c3,λj=>by rw [O0];exact h.nd.f j⟩,h2,h.hr,h.hb⟩
theorem TS.uP (h:TS w0 w r b s i bad k a c vs)(hw:w'=w.setCell ⟨b,2,none⟩ (.int .u8 x.toNat)):TS w0 w' r b s i bad k a x vs:=by
 subst hw;obtain⟨G,h2⟩:=h.sC 2 (.int .u8 x.toNat);exact⟨G,⟨by rw [Pu];exact h.nd.lt,by rw [OL _ _ _ _ (by simp)];exact h.nd.c0,by rw [OL _ _ _ _ (by simp)];exact h.nd.c1,OY _ _ _ h.nd.c2,by rw [OL _ _ _ _ (by simp)];exact h.nd.c3,λj=>by rw [O0];exact h.nd.f j⟩,h2,h.hr,h.hb⟩
theorem TS.Gf (h:TS w0 w r b s i bad k a c vs){v:Value}(hw:w'=w.setCell ⟨b,3,none⟩ v):TS w0 w' r b s i bad k a c v:=by
 subst hw;obtain⟨G,h2⟩:=h.sC 3 v;exact⟨G,⟨by rw [Pu];exact h.nd.lt,by rw [OL _ _ _ _ (by simp)];exact h.nd.c0,by rw [OL _ _ _ _ (by simp)];exact h.nd.c1,by rw [OL _ _ _ _ (by simp)];exact h.nd.c2,OY _ _ _ h.nd.c3,λj=>by rw [O0];exact h.nd.f j⟩,h2,h.hr,h.hb⟩
theorem TS.GR (h:TS w0 w r b s i bad k a c vs)(hw:w'=w.setCell ⟨r,2,none⟩ (.bool true)):TS w0 w' r b s i true k a c vs:=by
 subst hw;exact h.go (Kr.set w 2 _) h.rd.yR
theorem TS.cell (h:TS w0 w r b s i bad k a c vs):((∃u:Value,w.cell? ⟨b,0,none⟩=some u)/\w.frozen? ⟨b,0,none⟩=false)/\((∃u:Value,w.cell? ⟨b,1,none⟩=some u)/\w.frozen? ⟨b,1,none⟩=false)/\
  ((∃u:Value,w.cell? ⟨b,2,none⟩=some u)/\w.frozen? ⟨b,2,none⟩=false)/\((∃u:Value,w.cell? ⟨b,3,none⟩=some u)/\w.frozen? ⟨b,3,none⟩=false)/\((∃u:Value,w.cell? ⟨r,2,none⟩=some u)/\w.frozen? ⟨r,2,none⟩=false):=
 ⟨⟨⟨_,h.nd.c0⟩,h.nd.f 0⟩,⟨⟨_,h.nd.c1⟩,h.nd.f 1⟩,⟨⟨_,h.nd.c2⟩,h.nd.f 2⟩,⟨⟨_,h.nd.c3⟩,h.nd.f 3⟩,⟨⟨_,h.rd.c2⟩,h.rd.f2⟩⟩
end
structure Rs (D:Nat->Prop)(w:World)(s:Tx)(i j:Nat)(bad bad':Bool)(v:Value):Prop where
 le:i<=j
 ptr:∃b,v=ptr b
 fine:bad'=false->bad=false/\∃t:P,t.Al (λc=>lt c=true)/\s.drop i=t.text++s.drop j/\aM D w t v
 good:bad=false->(∃(t:P) (r':Tx),t.Al (λc=>lt c=true)/\s.drop i=t.text++r')->bad'=false
def wE (s:Tx)(n:Nat):Prop:=∀{r i:Nat} {bad:Bool} {w:World} {R:Value->Sl},Rd w r s i bad->(bad=false->s.length - i< n)->
 (∀v w' j bad',Kr r w w'->Rd w' r s j bad'->Rs (λg=>w.heap.size<=g) w' s i j bad bad' v->R v w')->Sm 166 #[Proofs.YtdecokaadekjnaaGreat.ptr r] w (an [.v] R)
theorem GU {s:Tx}{n:Nat}(ε:wE s n){w0 w:World}{r b i:Nat}{bad:Bool}{k a c:UInt8}{vs:Value}(h:TS w0 w r b s i bad k a c vs)(hm:bad=false->s.length - i< n){R:Value->Sl}
  (hR:∀w' j bad' x W,TS w0 w' r b s j bad' k a c W->eP (λg=>w0.heap.size<=g) w' W [x]->Rs (λg=>w0.heap.size<=g) w' s i j bad bad' x->R (ptr b) w'):
  Sm 166 #[ptr r] w (an [.v] fun(v28:Value) (Z:World)=>ay v28=true/\∀(b30:Nat) (G:World),b30=Array.size (World.heap Z)->G=World.alloc Z (Obj.cells #[v28] 88)->
   ay (Value.slice (some ⟨b30,0,none⟩) 1 1)=true/\((∃u32:Value,World.cell? G ⟨b,3,none⟩=some u32)/\World.frozen? G ⟨b,3,none⟩=false)/\∀α:World,α=World.setCell G ⟨b,3,none⟩ (Value.slice (some ⟨b30,0,none⟩) 1 1)->R (Value.pointer (some ⟨b,0,none⟩)) α):=by
 refine ε h.rd hm λv w1 j bad' k1 h1 hs=>?_
 obtain⟨bv,ζ⟩:=hs.ptr;have t1:=h.go k1 h1;refine⟨by rw [ζ],λb2 w2 β J=>⟨rfl,?_⟩⟩;have γ:Ex w1 w2:=J▸Ex.alloc w1 _;have t2:=t1.ex γ;refine⟨t2.cell.2.2.2.1,λw3 H=>?_⟩;have t3:=t2.Gf H;have hb:=h.hb;have ν:=t2.nd.lt;have ι:=k1.size;have κ:=h.kr.size;have μ:=t1.nd.lt;have hK:Kp w2 w3 λg=>g=b:=H▸Kp.set (S:=λg=>g=b) (Kp.af (Ex.refl w2) _) rfl _
 have ξ:b< w.heap.size:=h.nd.lt;refine hR w3 j bad' v _ t3 (.inr ⟨b2,0,1,rfl,by omega,?_,λi x V=>?_⟩) ⟨hs.le,hs.ptr,λη=>?_,hs.good⟩
 ·rw [H,Pu,J,size_alloc,<-β];omega
 ·match i,V with
  | 0,V=>
   simp at V;subst V;rw [H,OL _ _ _ _ (by simp),J,β];exact aa rfl
  | i+1,V=>simp at V
 ·obtain⟨e1,t,ht,e2,θ⟩:=hs.fine η;refine⟨e1,t,ht,e2,?_⟩;have δ:aM (λg=>w.heap.size<=g) w2 t v:=aM.kp (Kp.af γ λ _=>False) (λ _ _ h=>h) θ;exact aM.mono (λg hg=>by omega) (aM.kp hK (λg hg e=>by omega) δ)
theorem bg {s:Tx}{i:Nat}(h:i< s.length):s.drop i=bt s i::s.drop (i+1):=bJ h
theorem fG.of {D:Nat->Prop}{w0 w:World}{r b:Nat}{s:Tx}{i:Nat}{bad:Bool}{k a c:UInt8}{vs:Value}{l:List Value}{K:List Value->Prop}(h:TS w0 w r b s i bad k a c vs)(G:D b)(H:eP D w vs l)(J:K l):fG D w (ptr b) k a c K:=
 ⟨b,vs,l,rfl,G,h.nd.lt,h.nd.c0,h.nd.c1,h.nd.c2,h.nd.c3,H,J⟩
theorem dE {s:Tx}{i:Nat}{c:UInt8}{r:Tx}(h:s.drop i=c::r):i< s.length/\bt s i=c/\s.drop (i+1)=r:=drop_cons h
theorem Mq (s:Tx)(hs:s.length<=1099511627776):∀n,wE s n:=by
 intro n;have main:∀n,(∀m,m+1=n->wE s m)->wE s n:=by
  intro n ih r i bad w R hrd hm hR;refine nG _ w R ?_;dsimp only [go_sem];dsimp only [go_sem,UInt8.reduceOfNat,UInt32.reduceOfNat,Nat.reduceAdd];intro b w1 hb hw1;have ς:Ex w w1:=hw1▸Ex.alloc w _;have hrl:=hrd.lt;have hsz1:w1.heap.size=w.heap.size+1:=by rw [hw1,size_alloc]
  have t1:TS w w1 r b s i bad 48 0 0 (.slice none 0 0):=by
   refine⟨hrd.same ς.size (ς.block r hrl),⟨by omega,?_,?_,?_,?_,λj=>?_⟩,Kr.ex ς,hrl,by omega⟩
   ·rw [hw1,hb];exact aa rfl
   ·rw [hw1,hb];exact aa rfl
   ·rw [hw1,hb];exact aa rfl
   ·rw [hw1,hb];exact aa rfl
   ·rw [hw1,hb];unfold World.frozen? World.alloc;simp
  have hD:w.heap.size<=b:=by omega
  refine⟨r,0,rfl,bad,t1.rd.c2,λhq=>?_,λhq=>?_⟩
  ·exact hR _ _ _ _ t1.kr t1.rd ⟨OQ _,⟨b,rfl⟩,λH=>(by rw [hq]at H;cases H),λH=>(by rw [hq]at H;cases H)⟩
  obtain⟨n,rfl⟩:∃m,n=m+1:=⟨n - 1,by have :=hm hq;omega⟩
  have iht:wE s n:=ih n rfl;have hm:=hm hq;subst hq;refine pQ hs t1.rd λc7 j7 bad7 w8 k8 h8 hn=>?_
  have t8:=t1.go k8 h8;have hj7:=h8.le;have first:bad7=false->i< s.length/\j7=i+1/\c7=bt s i:=λH=>by
   obtain⟨_,a,b,c,_⟩:=hn.fine H;exact⟨a,b,c⟩
  have G:∀{c:UInt8} {x:Tx},s.drop i=c::x->bad7=false/\c7=c/\s.drop j7=x:=λh=>by
   obtain⟨a,b,c⟩:=dE h;have H:=hn.good rfl a trivial;obtain⟨_,e1,e2⟩:=first H;exact⟨H,by rw [e2,b],by rw [e1];exact c⟩
  refine⟨λhc=>?_,λhc=>?_⟩
  ·have hc:=O7 hc;refine hR _ _ j7 bad7 t8.kr t8.rd ⟨hn.le,⟨b,rfl⟩,λH=>?_,λ _ ⟨t,r',ht,e⟩=>?_⟩
   ·obtain⟨a1,a2,a3⟩:=first H;refine⟨rfl,.nil,trivial,?_,fG.of t8 hD (.inl ⟨rfl,rfl⟩) rfl⟩;rw [bg a1,<-a3,hc,a2];rfl
   ·cases ht':t.text with
    | nil=>have :=GJ t;rw [ht']at this;simp at this
    | cons d x=>rw [ht',PI]at e;exact(G e).1
  have hc0:c7≠48:=O9 hc;refine uU ⟨λhl=>?_,λhl=>?_⟩
  ·
   refine pQ hs t8.rd λV j11 W w12 k12 h12 ψ=>?_
   have t12:=t8.go k12 h12;refine⟨t12.cell.2.1,λw14 hw14=>?_⟩;have t14:=t12.AF hw14;refine⟨t14.cell.1,λw16 hw16=>?_⟩;have t16:=t14.Fv hw16;have rest:∀{wx:World} {J:Bool},TS w wx r b s j11 J V c7 0 (.slice none 0 0)->(J=false->W=false/\(V=33\/V=63))->(W=false->(V=33\/V=63)->J=false)->
     ∀{K:UInt8->Sl},(∀κ υ α w24,TS w w24 r b s υ α V c7 0 (.slice none 0 0)->Nx s j11 J (λc=>lt c=true) κ υ α->K κ w24)->
     Sm 208 #[ptr r] wx (an [.c] K):=by
    intro wx J tx _ _ K hK;exact ze hs tx.rd λc j bad' w' k' h' hn'=>hK c j bad' w' (tx.go k' h') hn'
   have fin:∀{J:Bool} {κ:UInt8} {υ:Nat} {α:Bool} {w24 w26:World},(J=false->W=false/\(V=33\/V=63))->(W=false->(V=33\/V=63)->J=false)->Nx s j11 J (λc=>lt c=true) κ υ α->
     TS w w26 r b s υ α V c7 κ (.slice none 0 0)->Sm 209 #[ptr r,.int .u8 46] w26 (an [] λw27=>Sm 166 #[ptr r] w27 (an [.v] fun(v28:Value) (w29:World)=>ay v28=true/\∀(b30:Nat) (φ:World),b30=Array.size (World.heap w29)->φ=World.alloc w29 (Obj.cells #[v28] 88)->
      ay (Value.slice (some ⟨b30,0,none⟩) 1 1)=true/\((∃u32:Value,World.cell? φ ⟨b,3,none⟩=some u32)/\World.frozen? φ ⟨b,3,none⟩=false)/\∀w33:World,w33=World.setCell φ ⟨b,3,none⟩ (Value.slice (some ⟨b30,0,none⟩) 1 1)->R (Value.pointer (some ⟨b,0,none⟩)) w33)):=by
    intro J κ υ α w24 w26 ς hx2 δ t26;refine qz (c:=46) hs t26.rd λj27 bad27 w27 k27 h27 ω=>?_
    have t27:=t26.go k27 h27;refine GU iht t27 (λH=>?_) λw' j bad' x vs' t' hsl hrs=>?_
    ·obtain⟨a1,a2,a3,_⟩:=ω.fine H;obtain⟨b1,b2,b3,_⟩:=δ.fine a1;obtain⟨c1,c2,c3,_⟩:=ψ.fine (ς b1).1;obtain⟨_,d2,d3⟩:=first c1;omega
    ·refine hR _ _ j bad' t'.kr t'.rd ⟨?_,⟨b,rfl⟩,λH=>?_,λ _ ⟨t,r',ht,e⟩=>?_⟩
     ·have :=hn.le;have :=ψ.le;have :=δ.le;have :=ω.le;have :=hrs.le;omega
     ·obtain⟨e1,t,ht,e2,hat⟩:=hrs.fine H;obtain⟨a1,a2,a3,a4,a5⟩:=ω.fine e1;obtain⟨b1,b2,b3,b4,b5⟩:=δ.fine a1;obtain⟨b0,hk⟩:=ς b1;obtain⟨c1,c2,c3,c4,_⟩:=ψ.fine b0;obtain⟨d1,d2,d3⟩:=first c1;have ε:s.drop i=c7::V::κ::46::(t.text++s.drop j):=by
       rw [bg d1,<-d3,<-d2,bg c2,<-c4,<-c3,bg b2,<-b4,<-b3,bg a2,<-a4,<-a3,e2]
      rcases hk with hk | hk
      ·subst hk;exact⟨rfl,.snd c7 κ t,⟨hl,b5,ht⟩,ε,fG.of t' hD hsl ⟨x,rfl,hat⟩⟩
      ·subst hk;exact⟨rfl,.rcv c7 κ t,⟨hl,b5,ht⟩,ε,fG.of t' hD hsl ⟨x,rfl,hat⟩⟩
     ·have key:∀{a d x:UInt8} {p:P},(d=33\/d=63)->lt x=true->p.Al (λc=>lt c=true)->s.drop i=a::d::x::46::(p.text++r')->bad'=false:=by
       intro a d x p hd hx hp he;obtain⟨f1,f2,f3⟩:=G he;obtain⟨g1,g2,g3⟩:=dE f3;have f4:=ψ.good f1 g1 trivial;obtain⟨_,_,h3,h4,_⟩:=ψ.fine f4;rw [<-h3]at g3;obtain⟨k1,k2,k3⟩:=dE g3;have hkd:V=33\/V=63:=by rw [h4,g2];exact hd
       have f5:=δ.good (hx2 f4 hkd) k1 (by rw [k2];exact hx);obtain⟨_,_,l3,l4,_⟩:=δ.fine f5;rw [<-l3]at k3;obtain⟨m1,m2,m3⟩:=dE k3;have f6:=ω.good f5 m1 m2;obtain⟨_,_,o3,o4,_⟩:=ω.fine f6;rw [<-o3]at m3;exact hrs.good f6 ⟨p,r',hp,m3⟩
      cases t with
      | snd a x p=>exact key (.inl rfl) ht.2.1 ht.2.2 e
      | rcv a x p=>exact key (.inr rfl) ht.2.1 ht.2.2 e
      | nil=>exact absurd (G (c:=48) e).2.1 hc0
      | tau p=>have :=(G (c:=126) e).2.1;rw [this]at hl;exact absurd hl (by decide)
      | res y p=>have :=(G (c:=35) e).2.1;rw [this]at hl;exact absurd hl (by decide)
      | mat y z p=>have :=(G (c:=91) e).2.1;rw [this]at hl;exact absurd hl (by decide)
      | rep p=>have :=(G (c:=42) e).2.1;rw [this]at hl;exact absurd hl (by decide)
      | sum p q=>have :=(G (c:=40) e).2.1;rw [this]at hl;exact absurd hl (by decide)
      | par p q=>have :=(G (c:=40) e).2.1;rw [this]at hl;exact absurd hl (by decide)
   refine⟨V,t16.nd.c0,λθ=>⟨V,t16.nd.c0,λι=>⟨r,0,rfl,t16.cell.2.2.2.2,λw22 hw22=>?_⟩,λι=>?_⟩,λθ=>?_⟩
   ·have t22:=t16.GR hw22;have θ:¬V=33:=by simpa using θ
    have ι:¬V=63:=by simpa using ι
    have x1:true=false->W=false/\(V=33\/V=63):=λh=>by cases h
    have x2:W=false->(V=33\/V=63)->true=false:=λ _ h=>by rcases h with h | h<;>contradiction
    refine rest t22 x1 x2 λκ υ α w24 t24 δ=>⟨t24.cell.2.2.1,λw26 hw26=>fin (w24:=w24) x1 x2 δ (t24.uP hw26)⟩
   ·have ι:V=63:=by simpa using ι
    have x1:W=false->W=false/\(V=33\/V=63):=λh=>⟨h,.inr ι⟩
    have x2:W=false->(V=33\/V=63)->W=false:=λh _=>h
    refine rest t16 x1 x2 λκ υ α w24 t24 δ=>⟨t24.cell.2.2.1,λw26 hw26=>fin (w24:=w24) x1 x2 δ (t24.uP hw26)⟩
   ·have θ:V=33:=by simpa using θ
    have x1:W=false->W=false/\(V=33\/V=63):=λh=>⟨h,.inl θ⟩
    have x2:W=false->(V=33\/V=63)->W=false:=λh _=>h
    refine rest t16 x1 x2 λκ υ α w24 t24 δ=>⟨t24.cell.2.2.1,λw26 hw26=>fin (w24:=w24) x1 x2 δ (t24.uP hw26)⟩
  have Z:∀{a:UInt8} {x:Tx},lt a=true->s.drop i=a::x->False:=λha he=>by
   rw [(G he).2.1]at hl;rw [hl]at ha;cases ha
  have one:∀{wx:World} {jx:Nat} {J:Bool} {k a c:UInt8} (hd:Tx) (mk:P->P),TS w wx r b s jx J k a c (.slice none 0 0)->i<=jx->
    (J=false->i< jx/\s.drop i=hd++s.drop jx)->(J=false->∀p,(mk p).text=hd++p.text)->(J=false->∀p:P,p.Al (λc=>lt c=true)->(mk p).Al (λc=>lt c=true))->
    (∀{D:Nat->Prop} {w':World} {v:Value} {p:P},(fG D w' v k a c λl=>∃x,l=[x]/\aM D w' p x)->J=false->aM D w' (mk p) v)->
    (∀(t:P) (r':Tx),t.Al (λc=>lt c=true)->s.drop i=t.text++r'->J=false/\∃p:P,p.Al (λc=>lt c=true)/\s.drop jx=p.text++r')->
    Sm 166 #[ptr r] wx (an [.v] fun(v28:Value) (w29:World)=>ay v28=true/\∀(b30:Nat) (φ:World),b30=Array.size (World.heap w29)->φ=World.alloc w29 (Obj.cells #[v28] 88)->
     ay (Value.slice (some ⟨b30,0,none⟩) 1 1)=true/\((∃u32:Value,World.cell? φ ⟨b,3,none⟩=some u32)/\World.frozen? φ ⟨b,3,none⟩=false)/\∀w33:World,w33=World.setCell φ ⟨b,3,none⟩ (Value.slice (some ⟨b30,0,none⟩) 1 1)->R (Value.pointer (some ⟨b,0,none⟩)) w33):=by
   intro wx jx J k a c hd mk tx hle hpos htx hal hat hgood;have hjx:=tx.rd.le;refine GU iht tx (λH=>by have :=(hpos H).1;omega) λw' j bad' x vs' t' hsl hrs=>?_
   refine hR _ _ j bad' t'.kr t'.rd ⟨by have :=hrs.le;omega,⟨b,rfl⟩,λH=>?_,λ _ ⟨t,r',ht,e⟩=>?_⟩
   ·obtain⟨e1,p,hp,e2,hpa⟩:=hrs.fine H;refine⟨rfl,mk p,hal e1 p hp,?_,hat (fG.of t' hD hsl ⟨x,rfl,hpa⟩) e1⟩;rw [(hpos e1).2,htx e1,e2,Pv]
   ·obtain⟨e1,p,hp,e2⟩:=hgood t r' ht e;exact hrs.good e1 ⟨p,r',hp,e2⟩
  refine⟨λhc=>?_,λhc=>?_⟩
  ·
   have hc:c7=126:=O7 hc;refine⟨t8.cell.1,λw57 μ=>?_⟩;rw [hc]at μ;have t57:=t8.Fv μ;refine qz (c:=46) hs t57.rd λj58 bad58 w58 k58 h58 hn58=>?_
   have t58:=t57.go k58 h58;refine one [126,46] .tau t58 (by have :=hn.le;have :=hn58.le;omega) (λH=>?_) (λ _ p=>rfl) (λ _ p hp=>hp) (λh _=>h) λt r' ht e=>?_
   ·obtain⟨a1,a2,a3,a4,a5⟩:=hn58.fine H;obtain⟨d1,d2,d3⟩:=first a1;refine⟨by omega,?_⟩;rw [bg d1,<-d3,<-d2,bg a2,<-a4,<-a3,hc];rfl
   ·cases t with
    | tau p=>
     obtain⟨f1,f2,f3⟩:=G (c:=126) e;obtain⟨g1,g2,g3⟩:=dE (c:=46) f3;have f4:=hn58.good f1 g1 g2;obtain⟨_,_,h3,_⟩:=hn58.fine f4;exact⟨f4,p,ht,by rw [h3];exact g3⟩
    | nil=>exact absurd (G (c:=48) e).2.1 hc0
    | snd a x p=>exact(Z ht.1 e).elim
    | rcv a x p=>exact(Z ht.1 e).elim
    | res y p=>have :=(G (c:=35) e).2.1;rw [this]at hc;exact absurd hc (by decide)
    | mat y z p=>have :=(G (c:=91) e).2.1;rw [this]at hc;exact absurd hc (by decide)
    | rep p=>have :=(G (c:=42) e).2.1;rw [this]at hc;exact absurd hc (by decide)
    | sum p q=>have :=(G (c:=40) e).2.1;rw [this]at hc;exact absurd hc (by decide)
    | par p q=>have :=(G (c:=40) e).2.1;rw [this]at hc;exact absurd hc (by decide)
  have hc1:c7≠126:=O9 hc;refine⟨λhc=>?_,λhc=>?_⟩
  ·
   have hc:c7=35:=O7 hc;refine ze hs t8.rd λc65 j65 bad65 w66 k66 h66 hn66=>?_
   have t66:=t8.go k66 h66;refine⟨t66.cell.1,λw68 hw68=>?_⟩;rw [hc]at hw68;have t68:=t66.Fv hw68;refine⟨t68.cell.2.2.1,λw70 hw70=>?_⟩;have t70:=t68.uP hw70;refine qz (c:=46) hs t70.rd λj71 bad71 w71 k71 h71 hn71=>?_
   have t71:=t70.go k71 h71;have fx:bad71=false->lt c65=true:=λH=>(hn66.fine (hn71.fine H).1).2.2.2.2
   refine one [35,c65,46] (.res c65) t71 (by have :=hn.le;have :=hn66.le;have :=hn71.le;omega) (λH=>?_) (λ _ p=>rfl) (λH p hp=>⟨fx H,hp⟩) (λh _=>h) λt r' ht e=>?_
   ·obtain⟨a1,a2,a3,a4,a5⟩:=hn71.fine H;obtain⟨b1,b2,b3,b4,b5⟩:=hn66.fine a1;obtain⟨d1,d2,d3⟩:=first b1;refine⟨by omega,?_⟩;rw [bg d1,<-d3,<-d2,bg b2,<-b4,<-b3,bg a2,<-a4,<-a3,hc];rfl
   ·cases t with
    | res y p=>
     obtain⟨f1,f2,f3⟩:=G (c:=35) e;obtain⟨g1,g2,g3⟩:=dE (c:=y) f3;have f4:=hn66.good f1 g1 (by rw [g2];exact ht.1);obtain⟨_,_,h3,h4,_⟩:=hn66.fine f4;rw [<-h3]at g3;obtain⟨m1,m2,m3⟩:=dE (c:=46) g3;have f6:=hn71.good f4 m1 m2;obtain⟨_,_,o3,_⟩:=hn71.fine f6;exact⟨f6,p,ht.2,by rw [o3];exact m3⟩
    | nil=>exact absurd (G (c:=48) e).2.1 hc0
    | snd a x p=>exact(Z ht.1 e).elim
    | rcv a x p=>exact(Z ht.1 e).elim
    | tau p=>exact absurd (G (c:=126) e).2.1 hc1
    | mat y z p=>have :=(G (c:=91) e).2.1;rw [this]at hc;exact absurd hc (by decide)
    | rep p=>have :=(G (c:=42) e).2.1;rw [this]at hc;exact absurd hc (by decide)
    | sum p q=>have :=(G (c:=40) e).2.1;rw [this]at hc;exact absurd hc (by decide)
    | par p q=>have :=(G (c:=40) e).2.1;rw [this]at hc;exact absurd hc (by decide)
  have hc2:c7≠35:=O9 hc;refine⟨λhc=>?_,λhc=>?_⟩
  ·
   have hc:c7=91:=O7 hc;refine ze hs t8.rd λc78 j78 bad78 w79 k79 h79 hn79=>?_
   have t79:=t8.go k79 h79;refine⟨t79.cell.1,λw80 hw80=>?_⟩;have t80:=t79.Fv (x:=61) hw80;refine⟨t80.cell.2.1,λw81 hw81=>?_⟩;have t81:=t80.AF hw81;refine qz (c:=61) hs t81.rd λj82 bad82 w82 k82 h82 hn82=>?_
   have t82:=t81.go k82 h82;refine ze hs t82.rd λc83 j83 bad83 w83 k83 h83 hn83=>?_
   have t83:=t82.go k83 h83;refine⟨t83.cell.2.2.1,λw84 hw84=>?_⟩;have t84:=t83.uP hw84;refine qz (c:=93) hs t84.rd λj85 bad85 w85 k85 h85 hn85=>?_
   have t85:=t84.go k85 h85;have fx:bad85=false->lt c78=true/\lt c83=true:=λH=>by
    obtain⟨a1,_⟩:=hn85.fine H;obtain⟨b1,_,_,_,b5⟩:=hn83.fine a1;obtain⟨c1,_⟩:=hn82.fine b1;exact⟨(hn79.fine c1).2.2.2.2,b5⟩
   refine one [91,c78,61,c83,93] (.mat c78 c83) t85 (by have :=hn.le;have :=hn79.le;have :=hn82.le;have :=hn83.le;have :=hn85.le;omega) (λH=>?_) (λ _ p=>rfl) (λH p hp=>⟨(fx H).1,(fx H).2,hp⟩) (λh _=>h) λt r' ht e=>?_
   ·obtain⟨a1,a2,a3,a4,a5⟩:=hn85.fine H;obtain⟨b1,b2,b3,b4,b5⟩:=hn83.fine a1;obtain⟨c1,c2,c3,c4,c5⟩:=hn82.fine b1;obtain⟨e1,e2,e3,e4,e5⟩:=hn79.fine c1;obtain⟨d1,d2,d3⟩:=first e1;refine⟨by omega,?_⟩;rw [bg d1,<-d3,<-d2,bg e2,<-e4,<-e3,bg c2,<-c4,<-c3,bg b2,<-b4,<-b3,bg a2,<-a4,<-a3,hc];rfl
   ·cases t with
    | mat y z p=>
     obtain⟨f1,f2,f3⟩:=G (c:=91) e;obtain⟨g1,g2,g3⟩:=dE (c:=y) f3;have f4:=hn79.good f1 g1 (by rw [g2];exact ht.1);obtain⟨_,_,h3,h4,_⟩:=hn79.fine f4;rw [<-h3]at g3;obtain⟨m1,m2,m3⟩:=dE (c:=61) g3;have f6:=hn82.good f4 m1 m2;obtain⟨_,_,o3,_⟩:=hn82.fine f6;rw [<-o3]at m3;obtain⟨p1,p2,p3⟩:=dE (c:=z) m3;have f7:=hn83.good f6 p1 (by rw [p2];exact ht.2.1);obtain⟨_,_,q3,_⟩:=hn83.fine f7;rw [<-q3]at p3;obtain⟨s1,s2,s3⟩:=dE (c:=93) p3;have f8:=hn85.good f7 s1 s2;obtain⟨_,_,u3,_⟩:=hn85.fine f8;exact⟨f8,p,ht.2.2,by rw [u3];exact s3⟩
    | nil=>exact absurd (G (c:=48) e).2.1 hc0
    | snd a x p=>exact(Z ht.1 e).elim
    | rcv a x p=>exact(Z ht.1 e).elim
    | tau p=>exact absurd (G (c:=126) e).2.1 hc1
    | res y p=>exact absurd (G (c:=35) e).2.1 hc2
    | rep p=>have :=(G (c:=42) e).2.1;rw [this]at hc;exact absurd hc (by decide)
    | sum p q=>have :=(G (c:=40) e).2.1;rw [this]at hc;exact absurd hc (by decide)
    | par p q=>have :=(G (c:=40) e).2.1;rw [this]at hc;exact absurd hc (by decide)
  have hc3:c7≠91:=O9 hc;refine⟨λhc=>?_,λhc=>?_⟩
  ·
   have hc:c7=42:=O7 hc;refine⟨t8.cell.1,λw57 μ=>?_⟩;rw [hc]at μ;have t57:=t8.Fv μ;refine one [42] .rep t57 hn.le (λH=>?_) (λ _ p=>rfl) (λ _ p hp=>hp) (λh _=>h) λt r' ht e=>?_
   ·obtain⟨d1,d2,d3⟩:=first H;refine⟨by omega,?_⟩;rw [bg d1,<-d3,<-d2,hc];rfl
   ·cases t with
    | rep p=>
     obtain⟨f1,f2,f3⟩:=G (c:=42) e;exact⟨f1,p,ht,f3⟩
    | nil=>exact absurd (G (c:=48) e).2.1 hc0
    | snd a x p=>exact(Z ht.1 e).elim
    | rcv a x p=>exact(Z ht.1 e).elim
    | tau p=>exact absurd (G (c:=126) e).2.1 hc1
    | res y p=>exact absurd (G (c:=35) e).2.1 hc2
    | mat y z p=>exact absurd (G (c:=91) e).2.1 hc3
    | sum p q=>have :=(G (c:=40) e).2.1;rw [this]at hc;exact absurd hc (by decide)
    | par p q=>have :=(G (c:=40) e).2.1;rw [this]at hc;exact absurd hc (by decide)
  have hc4:c7≠42:=O9 hc;refine⟨λhc=>?_,λhc=>?_⟩
  ·
   have hc:c7=40:=O7 hc;refine iht t8.rd (λH=>by have :=(first H).2.1;have :=(first H).1;omega) λv1 w105 j105 bad105 k105 h105 hs1=>?_
   obtain⟨bv1,hbv1⟩:=hs1.ptr;have t105:=t8.go k105 h105;refine pQ hs t105.rd λβ j106 bad106 w107 k107 h107 ν=>?_
   have t107:=t105.go k107 h107;refine⟨t107.cell.1,λw109 hw109=>?_⟩;have t109:=t107.Fv hw109;have sz8:=t8.nd.lt;have szk:=k105.size;have hrw8:r< w8.heap.size:=h8.lt;have kK:∀{wa wb:World},Kr r wa wb->Kp wa wb λg=>g=r\/g=b:=λh=>⟨h.os,h.tape,h.output,h.size,λg hg hn=>h.block g hg λe=>hn (.inl e)⟩
   have kS:∀{wa wb:World} {j:Nat} {v:Value},wb=wa.setCell ⟨b,j,none⟩ v->Kp wa wb λg=>g=r\/g=b:=λ{wa wb j v} h=>h▸Kp.set (S:=λg=>g=r\/g=b) (Kp.af (Ex.refl wa) _) (.inr rfl) v
   have kT:∀{wa wb wc:World},(Kp wa wb λg=>g=r\/g=b)->(Kp wb wc λg=>g=r\/g=b)->Kp wa wc λg=>g=r\/g=b:=λh k=>Kp.trans h k λ _ _ h=>h
   have q109:Kp w105 w109 λg=>g=r\/g=b:=kT (kK k107) (kS hw109)
   have rest:∀{wx:World} {J:Bool},TS w wx r b s j106 J β 0 0 (.slice none 0 0)->(Kp w105 wx λg=>g=r\/g=b)->(J=false->bad106=false/\(β=43\/β=38))->(bad106=false->(β=43\/β=38)->J=false)->
     Sm 166 #[ptr r] wx (an [.v] fun(v116:Value) (ξ:World)=>ay v1=true/\ay v116=true/\∀(γ:Nat) (ζ:World),γ=Array.size (World.heap ξ)->ζ=World.alloc ξ (Obj.cells #[v1,v116] 88)->
      ay (Value.slice (some ⟨γ,0,none⟩) 2 2)=true/\((∃u120:Value,World.cell? ζ ⟨b,3,none⟩=some u120)/\World.frozen? ζ ⟨b,3,none⟩=false)/\∀w121:World,w121=World.setCell ζ ⟨b,3,none⟩ (Value.slice (some ⟨γ,0,none⟩) 2 2)->
      Sm 209 #[ptr r,.int .u8 41] w121 (an [] λη=>R (Value.pointer (some ⟨b,0,none⟩)) η)):=by
    intro wx J tx qx ς hx2;have szx:=qx.size;refine iht tx.rd (λH=>?_) λv2 ξ j117 bad117 k117 h117 hs2=>?_
    ·obtain⟨a1,a2,a3,_⟩:=ν.fine (ς H).1;have :=(hs1.fine a1).1;have :=(first this).2.1;have :=hs1.le;omega
    obtain⟨bv2,hbv2⟩:=hs2.ptr;have t117:=tx.go k117 h117;refine⟨by rw [hbv1],by rw [hbv2],λγ ζ hb118 χ=>⟨rfl,?_⟩⟩;have hx119:Ex ξ ζ:=χ▸Ex.alloc ξ _;have t119:=t117.ex hx119;refine⟨t119.cell.2.2.2.1,λw121 ο=>?_⟩;have t121:=t119.Gf ο;refine qz (c:=41) hs t121.rd λj122 bad122 η k122 h122 hn122=>?_
    have t122:=t121.go k122 h122;have sz117:=k117.size;have q119:Kp ξ ζ λg=>g=r\/g=b:=Kp.af hx119 _
    have q122:Kp ξ η λg=>g=r\/g=b:=kT (kT q119 (kS ο)) (kK k122)
    have qall:Kp w105 η λg=>g=r\/g=b:=kT (kT qx (kK k117)) q122
    have hbl:γ< η.heap.size:=by
     have :=k122.size;rw [ο,Pu,χ,size_alloc,<-hb118]at this;omega
    have hkr:=t8.kr.size;have hsl:eP (λg=>w.heap.size<=g) η (.slice (some ⟨γ,0,none⟩) 2 2) [v1,v2]:=by
     refine .inr ⟨γ,0,2,rfl,by omega,hbl,λi x hx=>?_⟩;have hne:γ≠b:=by omega
     have hblk:η.heap[γ]?=ζ.heap[γ]?:=by
      rw [k122.block γ (by rw [ο,Pu,χ,size_alloc];omega) (by omega),ο,Rg _ _ _ _ (show γ≠b from hne)]
     rw [OG (w:=ζ) hblk,χ,hb118]
     match i,hx with
     | 0,hx=>simp at hx;subst hx;exact aa rfl
     | 1,hx=>simp at hx;subst hx;exact aa rfl
     | i+2,hx=>simp at hx
    refine hR _ _ j122 bad122 t122.kr t122.rd ⟨by have :=hn.le;have :=hs1.le;have :=ν.le;have :=hs2.le;have :=hn122.le;omega,⟨b,rfl⟩,λH=>?_,λ _ ⟨t,r',ht,e⟩=>?_⟩
    ·obtain⟨a1,a2,a3,a4,a5⟩:=hn122.fine H;obtain⟨b1,q,hq,b2,b3⟩:=hs2.fine a1;obtain⟨b0,hk⟩:=ς b1;obtain⟨c1,c2,c3,c4,_⟩:=ν.fine b0;obtain⟨e1,p,hp,e2,e3⟩:=hs1.fine c1;obtain⟨d1,d2,d3⟩:=first e1;have ε:s.drop i=40::(p.text++(β::(q.text++(41::s.drop j122)))):=by
      rw [bg d1,<-d3,<-d2,e2,bg c2,<-c4,<-c3,b2,bg a2,<-a4,<-a3,hc]
     have k1:aM (λg=>w.heap.size<=g) η p v1:=aM.mono (λg hg=>by omega) (aM.kp qall (λg hg hS=>by rcases hS with h | h<;>omega) e3);have k2:aM (λg=>w.heap.size<=g) η q v2:=aM.mono (λg hg=>by omega) (aM.kp q122 (λg hg hS=>by rcases hS with h | h<;>omega) b3);rcases hk with hk | hk
     ·subst hk;exact⟨rfl,.sum p q,⟨hp,hq⟩,by rw [ε];simp [T.text],fG.of t122 hD hsl ⟨v1,v2,rfl,k1,k2⟩⟩
     ·subst hk;exact⟨rfl,.par p q,⟨hp,hq⟩,by rw [ε];simp [T.text],fG.of t122 hD hsl ⟨v1,v2,rfl,k1,k2⟩⟩
    ·have key:∀{d:UInt8} {p q:P},(d=43\/d=38)->p.Al (λc=>lt c=true)->q.Al (λc=>lt c=true)->s.drop i=40::(p.text++(d::(q.text++(41::r'))))->bad122=false:=by
      intro d p q hd hp hq he;obtain⟨f1,f2,f3⟩:=G he;have g1:=hs1.good f1 ⟨p,_,hp,f3⟩;obtain⟨_,p',hp',g2,_⟩:=hs1.fine g1;rw [g2]at f3;obtain⟨rfl,g3⟩:=mj hp'.wf hp.wf f3;obtain⟨k1,k2,k3⟩:=dE g3;have f4:=ν.good g1 k1 trivial;obtain⟨_,_,h3,h4,_⟩:=ν.fine f4;have f5:=hx2 f4 (by rw [h4,k2];exact hd);rw [<-h3]at k3;have f6:=hs2.good f5 ⟨q,_,hq,k3⟩;obtain⟨_,q',hq',g4,_⟩:=hs2.fine f6;rw [g4]at k3;obtain⟨rfl,g5⟩:=mj hq'.wf hq.wf k3;obtain⟨l1,l2,l3⟩:=dE g5;exact hn122.good f6 l1 l2
     cases t with
     | sum p q=>exact key (.inl rfl) ht.1 ht.2 (by rw [e];simp [T.text])
     | par p q=>exact key (.inr rfl) ht.1 ht.2 (by rw [e];simp [T.text])
     | nil=>exact absurd (G (c:=48) e).2.1 hc0
     | snd a x p=>exact(Z ht.1 e).elim
     | rcv a x p=>exact(Z ht.1 e).elim
     | tau p=>exact absurd (G (c:=126) e).2.1 hc1
     | res y p=>exact absurd (G (c:=35) e).2.1 hc2
     | mat y z p=>exact absurd (G (c:=91) e).2.1 hc3
     | rep p=>exact absurd (G (c:=42) e).2.1 hc4
   refine⟨β,t109.nd.c0,λθ=>⟨β,t109.nd.c0,λι=>⟨r,0,rfl,t109.cell.2.2.2.2,λw22 hw22=>?_⟩,λι=>?_⟩,λθ=>?_⟩
   ·have θ:¬β=43:=by simpa using θ
    have ι:¬β=38:=by simpa using ι
    exact rest (t109.GR hw22) (kT q109 (kK (hw22▸Kr.set w109 2 _))) (λh=>by cases h) (λ _ h=>by rcases h with h | h<;>contradiction)
   ·have ι:β=38:=by simpa using ι
    exact rest t109 q109 (λh=>⟨h,.inr ι⟩) (λh _=>h)
   ·have θ:β=43:=by simpa using θ
    exact rest t109 q109 (λh=>⟨h,.inl θ⟩) (λh _=>h)
  ·
   have hc5:c7≠40:=O9 hc;refine⟨r,0,rfl,t8.cell.2.2.2.2,λw57 μ=>?_⟩;have t57:=t8.GR μ;refine one [] .tau t57 hn.le (λH=>by cases H) (λH=>by cases H) (λ _ p hp=>hp) (λh H=>by cases H) λt r' ht e=>?_
   exfalso;cases t with
   | nil=>exact absurd (G (c:=48) e).2.1 hc0
   | snd a x p=>exact(Z ht.1 e).elim
   | rcv a x p=>exact(Z ht.1 e).elim
   | tau p=>exact absurd (G (c:=126) e).2.1 hc1
   | res y p=>exact absurd (G (c:=35) e).2.1 hc2
   | mat y z p=>exact absurd (G (c:=91) e).2.1 hc3
   | rep p=>exact absurd (G (c:=42) e).2.1 hc4
   | sum p q=>exact absurd (G (c:=40) e).2.1 hc5
   | par p q=>exact absurd (G (c:=40) e).2.1 hc5
 induction n with
 | zero=>exact main 0 λm hm=>by omega
 | succ n ih=>exact main (n+1) λm hm=>(show n=m by omega)▸ih
def Ou:Shelf.Ren where
 f:=λx=>if x=137 then 168 else if x=217 then 210 else if x=266 then 232 else x
 t:=λx=>if x=3 then 3 else if x=5 then 5 else if x=9 then 9 else x
 g:=λx=>x
theorem LC:Lays.n137 Tryz.prog Ou where
 mixed:=Eq.refl true
 f137:=QA Tryz.func168 (by kernel_rfl)
 f217:=QA Tryz.func210 (by kernel_rfl)
 f266:=QA Tryz.func232 (by kernel_rfl)
 t3:=Tryz.underlying3
 a3:=Tryz.isAgg3
 z3:=Tryz.sizeOf3
 v3:=Tryz.zeroValue3
 t5:=Tryz.underlying5
 a5:=Tryz.isAgg5
 z5:=Tryz.sizeOf5
 v5:=Tryz.zeroValue5
 t9:=Tryz.underlying9
 a9:=Tryz.isAgg9
 z9:=Tryz.sizeOf9
 v9:=Tryz.zeroValue9
theorem ry {s:Tx}{c:UInt8}{w:World}{R:Int->Sl}(h:R (Lib.indexByte s c) w):
  Sm 168 #[.string (ai s),.int .u8 c.toNat] w (an [.i] R):=by
 refine(Any.strings_IndexByte LC (ai s) c.toNat w).mono ?_
 rintro e w' ⟨rfl,rfl⟩
 have H:UInt8.ofNat c.toNat=c:=by simp
 have G:(Int.toNat (c.toNat:Int)).toUInt8=c:=by simp
 rw [G];exact⟨_,rfl,h⟩
abbrev Lt (t:P):Prop:=t.Al λc=>lt c=true
abbrev ES (w:World):Nat->Prop:=λg=>w.heap.size<=g
theorem EU {s:Tx}(hs:s.length<=1099511627776){w:World}{R:Value->Bool->Sl}
  (hR:∀v q w',Ex w w'->(q=true->∃t:P,Lt t/\s=t.text/\aM (ES w) w' t v)->(q=false->∀t:P,Lt t->s≠t.text)->R v q w'):
  Sm 123 #[.string (ai s)] w (an [.v,.b] R):=by
 refine vD s w R ?_;dsimp only [go_sem];dsimp only [go_sem,UInt8.reduceOfNat,UInt32.reduceOfNat,Nat.reduceAdd];intro b w1 hb G;have α:Ex w w1:=G▸Ex.alloc w _;have γ:w1.heap.size=w.heap.size+1:=by rw [G,size_alloc]
 have h1:Rd w1 b s 0 false:=by
  refine⟨by omega,Px _,?_,?_,?_,?_,?_⟩
  ·rw [G,hb];exact aa rfl
  ·rw [G,hb];exact aa rfl
  ·rw [G,hb];exact aa rfl
  ·rw [G,hb];unfold World.frozen? World.alloc;simp
  ·rw [G,hb];unfold World.frozen? World.alloc;simp
 have hT:wE s (s.length+1):=Mq s hs (s.length+1);refine hT h1 (λ _=>by omega) λv w2 j bad k2 h2 hr=>?_
 refine⟨λw'=>Ex w2 w',λw3 V=>⟨V▸Ex.drew w2,bad,λw' W=>(h2.same W.size (W.block b h2.lt)).c2,?_⟩⟩;have Z:Ex w2 w3:=V▸Ex.drew w2;have hex:Ex w w3:=by
  exact Ex.trans (Ex.below α (Kp.below (B:=w.heap.size) k2 (by omega) (λg hg e=>by omega))) Z
 refine⟨λH=>?_,λH=>?_⟩
 ·have H:bad=false:=by simpa using H
  obtain⟨_,t,ht,e,β⟩:=hr.fine H;refine⟨j,λw' W=>(h2.same W.size (W.block b h2.lt)).c1,hR _ _ _ hex (λhd=>?_) λhd t' J e'=>?_⟩
  ·have hd:=O7 hd;have:s.drop j=[]:=Qs (by omega);rw [this,Qz,Po]at e;exact⟨t,ht,e,aM.mono (λg hg=>by omega) (aM.kp (Kp.af Z λ _=>False) (λ _ _ h=>h) β)⟩
  ·have hd:=O9 hd;rw [Qz]at e;have e2:t'.text++[]=t.text++s.drop j:=by rw [Po,<-e'];exact e
   obtain⟨_,e3⟩:=mj J.wf ht.wf e2;have :=List.drop_eq_nil_iff.1 e3.symm;have :=h2.le;omega
 ·have H:bad=true:=by simpa using H
  refine hR _ _ _ hex (λh=>by cases h) λ _ t' J e'=>?_
  have :=hr.good rfl ⟨t',[],J,by rw [Qz,Po,e']⟩;rw [H]at this;cases this
theorem n7 {t:P}(H:Lt t):dG t.text↔t.text.length<=300/\t.size<=60:=by
 constructor
 ·rintro⟨G,u,h2,J,h4⟩
  have :=fT h2.wf H.wf J;subst this;exact⟨G,h4⟩
 ·rintro⟨G,h2⟩
  exact⟨G,t,H,rfl,h2⟩
theorem HM {s:Tx}{w:World}{R:Value->Bool->Sl}
  (hR:∀v q w',Ex w w'->(q=true->dG s/\∃t:P,Lt t/\s=t.text/\aM (ES w) w' t v)->(q=false->¬dG s)->R v q w'):
  Sm 79 #[.string (ai s)] w (an [.v,.b] R):=by
 refine zJ s w R ?_;dsimp only [go_sem];dsimp only [go_sem,UInt8.reduceOfNat,UInt32.reduceOfNat,Nat.reduceAdd];refine⟨λhc=>?_,λhc=>?_⟩
 ·have hc:=O7 hc;refine hR _ _ _ (Ex.refl w) (λh=>by cases h) λ _ W=>?_
  have :=W.1;omega
 ·have hc:=O9 hc;refine EU (by omega) λv q w' V Z h2=>⟨λJ=>?_,λJ=>?_⟩
  ·obtain⟨t,G,e,H⟩:=Z J;have hs:=bE t;refine Ku t.size (OQ _) H (by rw [<-e]at hs;omega) (hR _ _ _ V (λhd=>?_) λhd=>?_)
   ·have hd:=O7 hd;exact⟨by rw [e];exact(n7 G).2 ⟨by rw [<-e];omega,by omega⟩,t,G,e,H⟩
   ·have hd:=O9 hd;rw [e,n7 G];omega
  ·exact hR _ _ _ V (λh=>by cases h) λ _ ⟨_,t,G,e,_⟩=>h2 J t G e.symm
theorem BD {s:Tx}{w:World}{R:Bool->Sl}(hR:∀q w',Ex w w'->(q=true↔dG s)->R q w'):
  Sm 238 #[.string (ai s)] w (an [.b] R):=by
 refine oZ s w R ?_;dsimp only [go_sem];dsimp only [go_sem,UInt8.reduceOfNat,UInt32.reduceOfNat,Nat.reduceAdd];refine HM λv q w' G H h2=>hR q w' G ⟨λh=>(H h).1,λh=>?_⟩
 cases q
 ·exact absurd h (h2 rfl)
 ·rfl
theorem JP {D:Nat->Prop}{t:P}{v:Value}{w:World}(h:aM D w t v){R:Bool->Sl}(hR:R (decide (t.kind=63)||decide (t.kind=35)) w):
  Sm 129 #[v] w (an [.b] R):=by
 refine oD v w R ?_;dsimp only [go_sem];dsimp only [go_sem,UInt8.reduceOfNat,UInt32.reduceOfNat,Nat.reduceAdd];obtain⟨b,vs,l,rfl,H,h2,G,h4,h5,J,V,h8⟩:=h.inv;refine⟨b,0,rfl,t.kind,G,λhc=>⟨b,0,rfl,t.kind,G,?_⟩,λhc=>?_⟩
 ·rw [hc,Rq]at hR;exact hR
 ·rw [hc,Bool.true_or]at hR;exact hR
def T.ev (p:P->Bool):P->Bool
 | .nil=>p .nil
 | .snd a b q=>p (.snd a b q)&&q.ev p
 | .rcv a b q=>p (.rcv a b q)&&q.ev p
 | .tau q=>p (.tau q)&&q.ev p
 | .sum q r=>p (.sum q r)&&(q.ev p&&r.ev p)
 | .par q r=>p (.par q r)&&(q.ev p&&r.ev p)
 | .res a q=>p (.res a q)&&q.ev p
 | .mat a b q=>p (.mat a b q)&&q.ev p
 | .rep q=>p (.rep q)&&q.ev p
theorem uM (p:P->Bool)(t:P):t.ev p=(p t&&t.parts.all (·.ev p)):=by cases t<;>simp [T.ev,T.parts]
def Bf (f:Nat)(p:P->Bool):Prop:=hasR gj f=true/\∀{D:Nat->Prop} {t:P} {v:Value} {w:World} {R:Bool->Sl},aM D w t v->R (p t) w->Sm f #[v] w (an [.b] R)
structure zl (w:World)(bo bh f:Nat)(q:Bool):Prop where
 lt:bo< w.heap.size
 lh:bh< w.heap.size
 ne:bh≠bo
 c:w.cell? ⟨bo,0,none⟩=some (.bool q)
 fr:w.frozen? ⟨bo,0,none⟩=false
 h:w.cell? ⟨bh,0,none⟩=some (.func (.func f) #[] #[])
theorem zl.set {w:World}{bo bh f:Nat}{q:Bool}(h:zl w bo bh f q)(x:Bool):zl (w.setCell ⟨bo,0,none⟩ (.bool x)) bo bh f x:=
 ⟨by rw [Pu];exact h.lt,by rw [Pu];exact h.lh,h.ne,OY _ _ _ h.c,by rw [O0];exact h.fr,by
  rw [OL _ _ _ _ (by have :=h.ne;simp [this])];exact h.h⟩
theorem Lz {f:Nat}{p:P->Bool}(V:Bf f p){D:Nat->Prop}{t:P}{v:Value}{w:World}{bo bh:Nat}{q:Bool}(W:aM D w t v)(G:zl w bo bh f q){R:Sl}
  (hR:∀w',Kr bo w w'->zl w' bo bh f (q&&p t)->R w'):Sm 170 #[v,ptr bo,ptr bh] w (an [] R):=by
 refine n8 v _ _ w R ?_;dsimp only [go_sem];dsimp only [go_sem,UInt8.reduceOfNat,UInt32.reduceOfNat,Nat.reduceAdd];refine⟨bo,0,rfl,q,G.c,λJ=>⟨bh,0,rfl,_,G.h,f,[],rfl,V.1,V.2 W ⟨bo,0,rfl,⟨⟨_,G.c⟩,G.fr⟩,λw' H=>?_⟩⟩,λJ=>⟨bo,0,rfl,⟨⟨_,G.c⟩,G.fr⟩,λw' H=>?_⟩⟩
 ·subst H;refine hR _ (Kr.set w 0 _) ?_;rw [J,QC];exact G.set _
 ·subst H;refine hR _ (Kr.set w 0 _) ?_;rw [J,Sf];exact G.set _
theorem Mu {f:Nat}{p:P->Bool}(hp:Bf f p):∀(n:Nat) {D:Nat->Prop} {t:P} {v:Value} {w:World} {bo bh:Nat} {q:Bool},t.size<=n->aM D w t v->(∀g,D g->¬g=bo)->zl w bo bh f q->∀{R:Sl},
  (∀w',Kr bo w w'->zl w' bo bh f (q&&t.ev p)->R w')->Sm 169 #[v,.func (.func 170) #[] #[ptr bo,ptr bh]] w (an [] R):=by
 intro n
 induction n with
 | zero=>intro D t v w _ _ _ h;have :=a8 t;omega
 | succ n ih=>
  intro D t v w bo bh q hn ht J hs R hR;refine pn v _ w R ?_;dsimp only [go_sem];dsimp only [go_sem,UInt8.reduceOfNat,UInt32.reduceOfNat,Nat.reduceAdd];refine⟨170,[ptr bo,ptr bh],rfl,by kernel_rfl,?_⟩;refine Lz hp ht hs λw1 k1 h1=>?_
  have V:=aM.kp k1 J ht;obtain⟨b,vs,l,rfl,g1,g2,g3,g4,g5,g6,g7,g8⟩:=V.inv;obtain⟨a,cap,hv⟩:=g7.slice;have e:=uO t;refine⟨b,0,rfl,vs,g6,a,_,cap,hv,λx w'=>∃i:Nat,x=i/\i<=l.length/\Kr bo w w'/\Kr bo w1 w'/\zl w' bo bh f ((q&&p t)&&(t.parts.take i).all (·.ev p)),λx _=>(l.length - x).toNat,⟨0,rfl,by omega,k1,Kr.refl _ _,by simpa using h1⟩,λx w2 hI=>?_⟩;obtain⟨i,rfl,hi,k2,W,h2⟩:=hI;refine⟨λhc=>?_,λhc=>?_⟩
  ·have hc:=O7 hc;have G:i< l.length:=by omega
   have H:i< t.parts.length:=by rw [<-g8.1];exact G
   refine(g7.kp W J).get (i:=i) (x:=l[i]) (by omega) (by simp [G]) ?_;have Z:=g8.2 i _ _ (OH G) (OH H);have Z:=aM.kp W J Z;obtain⟨α,β⟩:=wV T.size t.parts H;have γ:=dY t;refine ih (by omega) Z J h2 λw4 k4 h4=>⟨by omega,⟨i+1,by omega,by omega,Kr.trans k2 k4,Kr.trans W k4,?_⟩,by dsimp only;omega⟩
   rw [OK H,Rl,<-Sg];simpa using h4
  ·have hc:=O9 hc;have:i=t.parts.length:=by rw [<-g8.1];omega
   subst this;rw [Pa,Sg,<-uM]at h2;exact hR _ k2 h2
theorem K4 {f:Nat}{p:P->Bool}(hp:Bf f p){D:Nat->Prop}{t:P}{v:Value}{w:World}(ht:aM D w t v)(hD:∀g,D g->g< w.heap.size){R:Bool->Sl}(hR:∀w',Ex w w'->R (t.ev p) w'):
  Sm 126 #[v,.func (.func f) #[] #[]] w (an [.b] R):=by
 refine qo v _ w R ?_;dsimp only [go_sem];dsimp only [go_sem,UInt8.reduceOfNat,UInt32.reduceOfNat,Nat.reduceAdd];refine⟨rfl,λb1 w1 W H b2 w2 J G=>?_⟩;have x1:Ex w w1:=H▸Ex.alloc w _;have Z:Ex w1 w2:=G▸Ex.alloc w1 _;have s1:w1.heap.size=w.heap.size+1:=by rw [H,size_alloc]
 have s2:w2.heap.size=w1.heap.size+1:=by rw [G,size_alloc]
 have c2:w2.cell? ⟨b2,0,none⟩=some (.bool false):=by rw [G,J];exact aa rfl
 have f2:w2.frozen? ⟨b2,0,none⟩=false:=by rw [G,J];unfold World.frozen? World.alloc;simp
 have c1:w2.cell? ⟨b1,0,none⟩=some (.func (.func f) #[] #[]):=by
  rw [Z.cell (show b1< _ by omega),H,W];exact aa rfl
 have hA:zl w2 b2 b1 f false:=⟨by omega,by omega,by omega,c2,f2,c1⟩
 refine⟨⟨⟨_,c2⟩,f2⟩,λw3 α=>?_⟩;subst α;have β:aM D w2 t v:=aM.kp (Kp.af (Ex.trans x1 Z) λ _=>False) (λ _ _ h=>h) ht;have V:∀g,D g->¬g=b2:=λg hg e=>by have :=hD g hg;omega
 have γ:aM D (w2.setCell ⟨b2,0,none⟩ (.bool true)) t v:=aM.kp (Kr.set w2 0 _) V β;refine Mu hp t.size (OQ _) γ V (hA.set true) λw4 k4 h4=>⟨_,h4.c,?_⟩
 rw [QC];exact hR w4 (Ex.below (Ex.trans x1 Z) (Kp.below (B:=w.heap.size) (Kr.trans (Kr.set w2 0 _) k4) (by omega) λg hg e=>by omega))
def T.gd1:P->Bool
 | .sum p q=>p.gp&&q.gp
 | _=>true
def T.rp1:P->Bool
 | .rep p=>p.isR
 | _=>true
theorem eL:∀t:P,t.smp=(t.ev T.gd1&&t.ev T.rp1)
 | .nil=>rfl
 | .snd _ _ p=>by have :=eL p;simp [T.smp,T.ev,T.gd1,T.rp1,this]
 | .rcv _ _ p=>by have :=eL p;simp [T.smp,T.ev,T.gd1,T.rp1,this]
 | .tau p=>by have :=eL p;simp [T.smp,T.ev,T.gd1,T.rp1,this]
 | .res _ p=>by have :=eL p;simp [T.smp,T.ev,T.gd1,T.rp1,this]
 | .mat _ _ p=>by have :=eL p;simp [T.smp,T.ev,T.gd1,T.rp1,this]
 | .rep p=>by have :=eL p;simp only [T.smp,T.ev,T.gd1,T.rp1,this,QC];cases p.isR<;>simp
 | .par p q=>by have :=eL p;have h:=eL q;simp only [T.smp,T.ev,T.gd1,T.rp1,this,h,QC];ac_rfl
 | .sum p q=>by have :=eL p;have h:=eL q;simp only [T.smp,T.ev,T.gd1,T.rp1,this,h,QC];ac_rfl
theorem Ia (t:P):decide (0<=Lib.indexByte [33,63,126,43,48] t.kind)=t.gp:=by cases t<;>rfl
theorem Da:Bf 167 T.gd1:=by
 refine⟨by kernel_rfl,λ{D t v w R} H hR=>?_⟩;refine jQ v w R ?_;dsimp only [go_sem];dsimp only [go_sem,UInt8.reduceOfNat,UInt32.reduceOfNat,Nat.reduceAdd];obtain⟨b,vs,l,rfl,g1,g2,g3,g4,g5,g6,g7,g8⟩:=H.inv;refine⟨b,0,rfl,_,g3,λhc=>?_,λhc=>?_⟩
 ·obtain⟨p,q,rfl⟩:∃p q,t= .sum p q:=by cases t<;>simp [T.kind]at hc|-
  have J:l.length=2:=g8.1;obtain⟨x,y,rfl⟩:∃x y,l=[x,y]:=by
   match l,J with
   | [x,y],_=>exact⟨x,y,rfl⟩
  have V:=g8.2 0 x p rfl rfl;have W:=g8.2 1 y q rfl rfl;obtain⟨b1,_,_,Z,_,_,i1,_⟩:=V.inv;obtain⟨b2,_,_,e2,_,_,i2,_⟩:=W.inv;refine⟨b,0,rfl,vs,g6,g7.get (i:=0) (x:=x) (by omega) rfl ⟨b1,0,Z,_,i1,ry ⟨λG=>⟨b,0,rfl,vs,g6,g7.get (i:=1) (x:=y) (by omega) rfl ⟨b2,0,e2,_,i2,ry ?_⟩⟩,λG=>?_⟩⟩⟩
  ·rw [Ia]at G|-;rw [T.gd1,G]at hR;exact hR
  ·rw [Ia]at G;rw [T.gd1,G]at hR;exact hR
 ·have:T.gd1 t=true:=by cases t<;>first | rfl | simp [T.kind]at hc
  rw [this]at hR;exact hR
theorem F7:Bf 127 T.rp1:=by
 refine⟨by kernel_rfl,λ{D t v w R} G hR=>?_⟩;refine kO v w R ?_;dsimp only [go_sem];dsimp only [go_sem,UInt8.reduceOfNat,UInt32.reduceOfNat,Nat.reduceAdd];obtain⟨b,vs,l,rfl,g1,g2,g3,g4,g5,g6,g7,g8⟩:=G.inv;refine⟨b,0,rfl,_,g3,λhc=>?_,λhc=>?_⟩
 ·obtain⟨p,rfl⟩:∃p,t= .rep p:=by cases t<;>simp [T.kind]at hc|-
  have H:l.length=1:=g8.1;obtain⟨x,rfl⟩:∃x,l=[x]:=by
   match l,H with
   | [x],_=>exact⟨x,rfl⟩
  have J:=g8.2 0 x p rfl rfl;obtain⟨b1,_,_,V,_,_,i1,_⟩:=J.inv;refine⟨b,0,rfl,vs,g6,g7.get (i:=0) (x:=x) (by omega) rfl ⟨b1,0,V,_,i1,?_⟩⟩;have:decide (p.kind=63)=p.isR:=by cases p<;>rfl
  show R (decide (p.kind=63)) _;rw [this];exact hR
 ·have:T.rp1 t=true:=by cases t<;>first | rfl | simp [T.kind]at hc
  rw [this]at hR;exact hR
theorem HK {D:Nat->Prop}{t:P}{v:Value}{w:World}(J:aM D w t v)(V:∀g,D g->g< w.heap.size){R:Bool->Sl}(hR:∀w',Ex w w'->R t.smp w'):
  Sm 80 #[v] w (an [.b] R):=by
 refine nE v w R ?_;dsimp only [go_sem];dsimp only [go_sem,UInt8.reduceOfNat,UInt32.reduceOfNat,Nat.reduceAdd];refine lG v w _ ?_;dsimp only [go_sem];dsimp only [go_sem,UInt8.reduceOfNat,UInt32.reduceOfNat,Nat.reduceAdd];refine K4 Da J V λw1 G=>⟨λH=>?_,λH=>?_⟩
 ·refine K4 F7 (aM.kp (Kp.af G λ _=>False) (λ _ _ h=>h) J) (λg W=>by have :=V g W;have :=G.size;omega) λw2 Z=>?_
  have :=hR w2 (Ex.trans G Z);rw [eL,H,QC]at this;exact this
 ·have :=hR w1 G;rw [eL,H,Sf]at this;exact this
theorem aM.bound {D:Nat->Prop}{w:World}:∀{t:P} {v:Value},aM D w t v->aM (λg=>D g/\g< w.heap.size) w t v:=by
 have key:∀{v:Value} {k a c:UInt8} {K W:List Value->Prop},fG D w v k a c K->(∀l,K l->W l)->fG (λg=>D g/\g< w.heap.size) w v k a c W:=by
  rintro v k a c K W ⟨b,vs,l,G,h2,V,h4,h5,Z,h7,h8,h9⟩ hK
  refine⟨b,vs,l,G,⟨h2,V⟩,V,h4,h5,Z,h7,?_,hK l h9⟩;rcases h8 with h | ⟨b',off,cap,i1,i2,i3,i4⟩
  ·exact .inl h
  ·exact .inr ⟨b',off,cap,i1,⟨i2,i3⟩,i3,i4⟩
 intro t
 induction t with
 | nil=>exact λh=>key h λ _ h=>h
 | snd _ _ p H=>exact λh=>key h λ _ ⟨x,G,h2⟩=>⟨x,G,H h2⟩
 | rcv _ _ p H=>exact λh=>key h λ _ ⟨x,G,h2⟩=>⟨x,G,H h2⟩
 | tau p H=>exact λh=>key h λ _ ⟨x,G,h2⟩=>⟨x,G,H h2⟩
 | res _ p H=>exact λh=>key h λ _ ⟨x,G,h2⟩=>⟨x,G,H h2⟩
 | mat _ _ p H=>exact λh=>key h λ _ ⟨x,G,h2⟩=>⟨x,G,H h2⟩
 | rep p H=>exact λh=>key h λ _ ⟨x,G,h2⟩=>⟨x,G,H h2⟩
 | sum p q H J=>exact λh=>key h λ _ ⟨x,y,G,h2,V⟩=>⟨x,y,G,H h2,J V⟩
 | par p q H J=>exact λh=>key h λ _ ⟨x,y,G,h2,V⟩=>⟨x,y,G,H h2,J V⟩
end Go.Proofs.YtdecokaadekjnaaGreat
namespace Go.Proofs.YtdecokaadekjnaaGreat
open Go
attribute [go_sem] Tryz.f138
theorem pf (w:World)(R:Value->Sl)(h:vc az (bf [(3,[(4,.i)])] [] []) (ab Tryz.f138) (aj 0 []) w (fin az [.agg 0 150] R)):
  Sm 138 #[] w (an [.v] R):=
 bD Tryz.func138 (by kernel_rfl) h
attribute [go_sem] Tryz.f178
theorem lC (G:Value)(w:World)(R:Int->Sl)(h:vc az (bf [] [] []) (ab Tryz.f178) (aj 0 [.v G]) w (fin az [.tmp 2 .i] R)):
  Sm 178 #[G] w (an [.i] R):=
 bD Tryz.func178 (by kernel_rfl) h
attribute [go_sem] Tryz.f179
theorem lD (G:Value)(H:Value)(w:World)(R:Sl)(h:vc az (bf [] [] [(0,true,.lt 0 (.lt 1 (.lt 2 (.lt 3 (.lt 4 (.lt 5 (.lt 6 (.lt 7 (.lt 8 (.lt 9 (.lt 11 (.lt 12 (.lt 13 (.lt 14 (.lt 15 (.lt 16 (.lt 17 (.lt 18 (.one .g 10 (.one .g 19 (.lt 20 (.lt 21 (.one .n 22 (.lt 23 (.lt 24 (.one .n 25 .done))))))))))))))))))))))))))]) (ab Tryz.f179) (aj 0 [.v G,.v H]) w (fin az [] R)):
  Sm 179 #[G,H] w (an [] R):=
 bD Tryz.func179 (by kernel_rfl) h
attribute [go_sem] Tryz.f137
theorem pa (G:Value)(t2:Value)(H:Value)(w:World)(R:Value->Sl)(h:vc az (bf [] [(4,[]),(6,[]),(8,[]),(23,[])] [(5,true,.lt 0 (.lt 1 (.lt 2 (.lt 3 (.lt 4 (.lt 5 (.one .g 6 (.lt 7 (.one .n 8 .done))))))))),(10,true,.lt 0 (.lt 1 (.lt 2 (.lt 3 (.lt 4 (.lt 5 (.lt 6 (.lt 7 (.lt 8 (.one .g 9 (.lt 10 (.lt 11 (.one .n 12 .done))))))))))))),(14,true,.lt 0 (.lt 1 (.lt 2 (.lt 3 (.lt 4 (.lt 5 (.lt 6 (.lt 7 (.lt 8 (.one .g 9 (.one .g 10 .done))))))))))),(15,true,.lt 0 (.lt 1 (.lt 2 (.lt 3 (.lt 4 (.lt 5 (.lt 6 (.lt 7 (.lt 8 (.one .g 9 (.one .g 10 .done))))))))))),(19,true,.lt 0 (.lt 1 (.lt 2 (.lt 3 (.lt 4 (.lt 5 (.lt 6 (.lt 7 (.lt 8 (.one .g 9 (.one .g 10 .done))))))))))),(22,true,.lt 0 (.lt 1 (.lt 2 (.lt 3 (.lt 4 (.lt 5 (.lt 6 (.lt 7 (.lt 8 (.lt 10 (.lt 11 (.lt 12 (.lt 13 (.lt 14 (.lt 15 (.lt 16 (.lt 17 (.one .g 9 (.one .g 18 (.one .g 19 (.lt 20 (.lt 21 (.one .n 22 .done)))))))))))))))))))))))]) (ab Tryz.f137) (aj 0 [.v G,.v t2,.v H]) w (fin az [.tmp 6 .v] R)):
  Sm 137 #[G,t2,H] w (an [.v] R):=
 bD Tryz.func137 (by kernel_rfl) h
end Go.Proofs.YtdecokaadekjnaaGreat
namespace Go.Proofs.YtdecokaadekjnaaGreat
open Go Go.RowKit
abbrev iv (n:Nat):Value:= .int .i64 n
def K.byte:K->UInt8
 | .s=>33 | .r=>63 | .t=>126 | .m=>61 | .p=>42
theorem eP.sub {D E:Nat->Prop}{w:World}{v:Value}{l:List Value}(h:eP D w v l)(hd:∀g,g< w.heap.size->D g->E g):eP E w v l:=by
 rcases h with h | ⟨b,off,cap,H,h2,G,h4⟩
 ·exact .inl h
 ·exact .inr ⟨b,off,cap,H,hd b G h2,G,h4⟩
def gB (D:Nat->Prop)(w:World)(v:Value)(o:List Nat)(K:List Value->Prop):Prop:=
 ∃b vo vt ts,v=ptr b/\D b/\b< w.heap.size/\w.cell? ⟨b,0,none⟩=some vo/\w.cell? ⟨b,1,none⟩=some vt/\eP D w vo (o.map iv)/\eP D w vt ts/\K ts
def I2 (D:Nat->Prop)(w:World)(v:Value)(k:UInt8)(a b:Nat)(vr vp:Value):Prop:=
 ∃g,v=ptr g/\D g/\g< w.heap.size/\w.cell? ⟨g,0,none⟩=some (.int .u8 k.toNat)/\w.cell? ⟨g,1,none⟩=some (iv a)/\w.cell? ⟨g,2,none⟩=some (iv b)/\w.cell? ⟨g,3,none⟩=some vr/\w.cell? ⟨g,4,none⟩=some vp
def ah (D:Nat->Prop)(w:World):Lv->List Value->Prop
 | .nil,ts=>ts=[]
 | .thr k a b o r n,ts=>∃t G a' H vr,ts=t::G/\I2 D w t k.byte a' H vr (.slice none 0 0)/\(k= .t\/k= .p\/(a'=a/\H=b))/\gB D w vr o (ah D w r)/\ah D w n G
 | .sum ps n,ts=>∃t G a' H vp us,ts=t::G/\I2 D w t 43 a' H (.pointer none) vp/\eP D w vp us/\ah D w ps us/\ah D w n G
 | .part o q n,ts=>∃v G,ts=v::G/\gB D w v o (ah D w q)/\ah D w n G
def aC (D:Nat->Prop)(w:World)(L:List Nat×Lv)(v:Value):Prop:=gB D w v L.1 (ah D w L.2)
section
variable {D E S:Nat->Prop} {w w':World}
theorem gB.kp {v:Value}{o:List Nat}{K H:List Value->Prop}(h:gB D w v o K)(k:Kp w w' S)(G:∀g,D g->¬S g)(V:∀l,K l->H l):gB D w' v o H:=by
 obtain⟨b,vo,vt,ts,W,h2,J,h4,h5,Z,h7,h8⟩:=h;have hb:=k.block b J (G b h2);refine⟨b,vo,vt,ts,W,h2,O' J k.size,?_,?_,Z.kp k G,h7.kp k G,V _ h8⟩<;>rw [OG (w:=w) hb]<;>assumption
theorem gB.sub {v:Value}{o:List Nat}{K G:List Value->Prop}(h:gB D w v o K)(hd:∀g,g< w.heap.size->D g->E g)(J:∀l,K l->G l):gB E w v o G:=by
 obtain⟨b,vo,vt,ts,V,h2,H,h4,h5,W,Z,h8⟩:=h;exact⟨b,vo,vt,ts,V,hd b H h2,H,h4,h5,W.sub hd,Z.sub hd,J _ h8⟩
theorem I2.kp {v:Value}{k:UInt8}{a b:Nat}{vr vp:Value}(h:I2 D w v k a b vr vp)(kp:Kp w w' S)(H:∀g,D g->¬S g):I2 D w' v k a b vr vp:=by
 obtain⟨g,J,h2,G,h4,h5,V,W,h8⟩:=h;have hb:=kp.block g G (H g h2);refine⟨g,J,h2,O' G kp.size,?_,?_,?_,?_,?_⟩<;>rw [OG (w:=w) hb]<;>assumption
theorem I2.sub {v:Value}{k:UInt8}{a b:Nat}{vr vp:Value}(h:I2 D w v k a b vr vp)(hd:∀g,g< w.heap.size->D g->E g):I2 E w v k a b vr vp:=by
 obtain⟨g,H,h2,G,h4,h5,J,V,h8⟩:=h;exact⟨g,H,hd g G h2,G,h4,h5,J,V,h8⟩
theorem ah.kp (k:Kp w w' S)(G:∀g,D g->¬S g):∀{l:Lv} {ts:List Value},ah D w l ts->ah D w' l ts
 | .nil,_,h=>h
 | .thr _ _ _ _ r n,_,⟨t,H,a',W,vr,J,h2,V,h4,h5⟩=>⟨t,H,a',W,vr,J,h2.kp k G,V,h4.kp k G λ _ h=>ah.kp k G (l:=r) h,ah.kp k G (l:=n) h5⟩
 | .sum ps n,_,⟨t,H,a',W,vp,us,J,h2,V,h4,h5⟩=>⟨t,H,a',W,vp,us,J,h2.kp k G,V.kp k G,ah.kp k G (l:=ps) h4,ah.kp k G (l:=n) h5⟩
 | .part o q n,_,⟨v,H,J,h2,V⟩=>⟨v,H,J,h2.kp k G λ _ h=>ah.kp k G (l:=q) h,ah.kp k G (l:=n) V⟩
theorem ah.sub (hd:∀g,g< w.heap.size->D g->E g):∀{l:Lv} {ts:List Value},ah D w l ts->ah E w l ts
 | .nil,_,h=>h
 | .thr _ _ _ _ r n,_,⟨t,G,a',V,vr,H,h2,J,h4,h5⟩=>⟨t,G,a',V,vr,H,h2.sub hd,J,h4.sub hd λ _ h=>ah.sub hd (l:=r) h,ah.sub hd (l:=n) h5⟩
 | .sum ps n,_,⟨t,G,a',V,vp,us,H,h2,J,h4,h5⟩=>⟨t,G,a',V,vp,us,H,h2.sub hd,J.sub hd,ah.sub hd (l:=ps) h4,ah.sub hd (l:=n) h5⟩
 | .part o q n,_,⟨v,G,H,h2,J⟩=>⟨v,G,H,h2.sub hd λ _ h=>ah.sub hd (l:=q) h,ah.sub hd (l:=n) J⟩
theorem aC.kp {L:List Nat×Lv}{v:Value}(h:aC D w L v)(k:Kp w w' S)(G:∀g,D g->¬S g):aC D w' L v:=gB.kp h k G λ _ h=>ah.kp k G h
theorem aC.sub {L:List Nat×Lv}{v:Value}(h:aC D w L v)(hd:∀g,g< w.heap.size->D g->E g):aC E w L v:=gB.sub h hd λ _ h=>ah.sub hd h
theorem aC.ex {L:List Nat×Lv}{v:Value}(h:aC D w L v)(x:Ex w w'):aC D w' L v:=h.kp (Kp.af x λ _=>False) λ _ _ h=>h
theorem ah.ex {l:Lv}{ts:List Value}(h:ah D w l ts)(x:Ex w w'):ah D w' l ts:=ah.kp (Kp.af x λ _=>False) (λ _ _ h=>h) h
theorem ah.app:∀{l m:Lv} {ts us:List Value},ah D w l ts->ah D w m us->ah D w (l.app m) (ts++us)
 | .nil,_,_,_,h,h'=>by cases h;exact h'
 | .thr _ _ _ _ r n,_,_,_,⟨t,G,a',V,vr,H,h2,J,h4,h5⟩,h'=>⟨t,G++_,a',V,vr,by rw [H];rfl,h2,J,h4,ah.app (l:=n) h5 h'⟩
 | .sum ps n,_,_,_,⟨t,G,a',V,vp,us,H,h2,J,h4,h5⟩,h'=>⟨t,G++_,a',V,vp,us,by rw [H];rfl,h2,J,h4,ah.app (l:=n) h5 h'⟩
 | .part o q n,_,_,_,⟨v,G,H,h2,J⟩,h'=>⟨v,G++_,by rw [H];rfl,h2,ah.app (l:=n) J h'⟩
theorem ah.len:∀{l:Lv} {ts:List Value},ah D w l ts->ts.length=l.len
 | .nil,_,h=>by cases h;rfl
 | .thr _ _ _ _ r n,_,⟨t,G,a',V,vr,H,h2,J,h4,h5⟩=>by rw [H,OF,ah.len (l:=n) h5,Lv.len]
 | .sum ps n,_,⟨t,G,a',V,vp,us,H,h2,J,h4,h5⟩=>by rw [H,OF,ah.len (l:=n) h5,Lv.len]
 | .part o q n,_,⟨v,G,H,h2,J⟩=>by rw [H,OF,ah.len (l:=n) J,Lv.len]
end
def aF (e:Nat)(B:Nat)(w:World)(v:Value)(l:List Value):Prop:=w.ownsRow B e 1 v l.length l
theorem aF.nil (e B:Nat)(w:World):aF e B w (.slice none 0 0) []:=World.ownsRow_nil _ _ _ _
theorem aF.block {e B:Nat}{w:World}{v:Value}{l:List Value}(h:aF e B w v l):∀b,v.ownBlock=some b->B<=b/\b< w.heap.size:=Rx h
theorem aF.mono {e B G:Nat}{w:World}{v:Value}{l:List Value}(h:aF e B w v l)(hb:G<=B):aF e G w v l:=Sa h hb
theorem aF.kp {e B:Nat}{w w':World}{S:Nat->Prop}{v:Value}{l:List Value}(h:aF e B w v l)(k:Kp w w' S)(H:∀g,v.ownBlock=some g->¬S g):aF e B w' v l:=by
 refine⟨h.1,?_⟩;rcases h.2 with J | ⟨g,cap,cur,rfl,hb,G,rest⟩
 ·exact .inl J
 ·exact .inr ⟨g,cap,cur,rfl,hb,by rw [k.block g (Ps.1 G).1 (H g rfl)];exact G,rest⟩
theorem aF.E4 {e B:Nat}{w:World}{v:Value}{l:List Value}(h:aF e B w v l){D:Nat->Prop}(J:∀g,v.ownBlock=some g->D g):eP D w v l:=by
 rcases h.2 with⟨rfl,V⟩ | ⟨g,cap,cur,rfl,hb,G,W,h2,Z,h4⟩
 ·exact .inl ⟨rfl,Pg V⟩
 ·refine .inr ⟨g,0,cap,rfl,J g rfl,(Ps.1 G).1,λi x H=>?_⟩;unfold World.cell?;simp only [G,Ph];have e:=PS (λl=>l[i]?) h4;obtain⟨hi,_⟩:=PB.1 H;simp only [Pn,Rf,hi,Qw,H]at e;rw [<-Qj];exact e
theorem aF.one {e:Nat}{w w':World}{B b:Nat}{x:Value}(hB:B<=w.heap.size)(hb:b=w.heap.size)(h:w'=w.alloc (.cells #[x] e)):aF e B w' (.slice (some ⟨b,0,none⟩) 1 1) [x]:=by
 subst hb h;refine⟨rfl,.inr ⟨_,1,#[x],rfl,hB,?_,by simp,by unfold maxLen;omega,rfl,rfl⟩⟩;unfold World.alloc;simp
theorem aF.push {e B by_:Nat}{w:World}{v:Value}{l:List Value}(h:aF e B w v l)(hB:B<=w.heap.size){D:Nat->Prop}{x:Value}{m:List Value}(H:eP D w x m)(hm:m.all ay=true)(G:by_<=16)(J:l.length+m.length<=1099511627776){K:Value->Sl}
  (V:∀v' w',aF e B w' v' (l++m)->w.grownBy w' v.ownBlock->(∀b,v'.ownBlock=some b->v.ownBlock=some b\/w.heap.size<=b)->K v' w'):
  ∃(base n k:Nat) (xs news:List Value),World.ownsRow w base e 1 v n xs/\base<=Array.size (World.heap w)/\dW w x k 1 news/\(n+k<=maxLen/\(n+k)* by_<=140737488355328)/\
   ∀(v':Value) (w':World),World.ownsRow w' base e 1 v' (n+k) (xs++news)->World.grownBy w w' (Value.ownBlock v)->(∀b:Nat,Value.ownBlock v'=some b->Value.ownBlock v=some b\/Array.size (World.heap w)<=b)->K v' w':=by
 refine⟨B,l.length,m.length,l,m,h,hB,?_,⟨by unfold maxLen;omega,?_⟩,λv' w' W Z hw=>V v' w' ?_ Z hw⟩
 ·refine⟨by simp,hm,?_⟩;rcases H with⟨rfl,rfl⟩ | ⟨b,off,cap,rfl,_,hb,hc⟩
  ·exact .inl ⟨rfl,rfl⟩
  ·exact .inr ⟨b,off,cap,rfl,hc⟩
 ·have:(l.length+m.length)* by_<=1099511627776* 16:=RX J G;omega
 ·unfold aF;rw [OM];exact W
theorem Kp.aJ {w w':World}{row:Option Nat}{S:Nat->Prop}(G:w.grownBy w' row)(hr:∀g,row=some g->S g):Kp w w' S:=
 ⟨G.os,G.tape,G.output,G.size,λg H J=>G.block g H λe=>J (hr g e.symm)⟩
theorem Kp.mono {w w':World}{S T:Nat->Prop}(G:∀g,S g->T g)(h:Kp w w' S):Kp w w' T:=⟨h.os,h.tape,h.output,h.size,λg H J=>h.block g H λe=>J (G g e)⟩
structure kN (B:Nat)(w:World)(b:Nat)(o:List Nat)(ts:List Value)(M:Nat->Prop):Prop where
 lt:b< w.heap.size
 le:B<=b
 mb:M b
 mr:∀g,M g->B<=g/\g< w.heap.size
 fr:∀j,w.frozen? ⟨b,j,none⟩=false
 sl:∃vo vt,w.cell? ⟨b,0,none⟩=some vo/\w.cell? ⟨b,1,none⟩=some vt/\aF 3 B w vo (o.map iv)/\aF 156 B w vt ts/\(∀g,vo.ownBlock=some g->M g/\g≠b)/\(∀g,vt.ownBlock=some g->M g/\g≠b)/\∀g,vo.ownBlock=some g->vt.ownBlock≠some g
theorem kN.kp {B:Nat}{w w':World}{b:Nat}{o:List Nat}{ts:List Value}{M S:Nat->Prop}(h:kN B w b o ts M)(k:Kp w w' S)(H:∀g,M g->¬S g):kN B w' b o ts M:=by
 obtain⟨V,h2,W,hr,h4,vo,vt,h5,h6,Z,h8,h9,h10,J⟩:=h;have hb:=k.block b V (H b W);refine⟨O' V k.size,h2,W,λg G=>⟨(hr g G).1,O' (hr g G).2 k.size⟩,λj=>by rw [Pd (w:=w) hb];exact h4 j,vo,vt,?_,?_,Z.kp k λg G=>H g (h9 g G).1,h8.kp k λg G=>H g (h10 g G).1,h9,h10,J⟩<;>rw [OG (w:=w) hb]<;>assumption
theorem kN.ex {B:Nat}{w w':World}{b:Nat}{o:List Nat}{ts:List Value}{M:Nat->Prop}(h:kN B w b o ts M)(x:Ex w w'):kN B w' b o ts M:=h.kp (Kp.af x λ _=>False) λ _ _ h=>h
theorem kN.NC {B:Nat}{w:World}{b:Nat}{o:List Nat}{ts:List Value}{M D:Nat->Prop}(h:kN B w b o ts M)(H:∀g,g< w.heap.size->B<=g->D g){K:List Value->Prop}(W:K ts):gB D w (ptr b) o K:=by
 obtain⟨V,h2,h3,hr,h4,vo,vt,h5,Z,J,h8,h9,h10,α⟩:=h;exact⟨b,vo,vt,ts,rfl,H b V h2,V,h5,Z,J.E4 λg G=>H g (J.block g G).2 (J.block g G).1,h8.E4 λg G=>H g (h8.block g G).2 (h8.block g G).1,W⟩
theorem IV (o:List Nat):(o.map iv).all ay=true:=by simp [ay]
theorem ah.all {D:Nat->Prop}{w:World}:∀{l:Lv} {ts:List Value},ah D w l ts->ts.all ay=true
 | .nil,_,h=>by cases h;rfl
 | .thr _ _ _ _ r n,_,⟨t,G,a',V,vr,H,⟨g,e,_⟩,J,h4,h5⟩=>by rw [H,PZ,ah.all (l:=n) h5,e];rfl
 | .sum ps n,_,⟨t,G,a',V,vp,us,H,⟨g,e,_⟩,J,h4,h5⟩=>by rw [H,PZ,ah.all (l:=n) h5,e];rfl
 | .part o q n,_,⟨v,G,H,⟨g,_,_,_,e,_⟩,J⟩=>by rw [H,PZ,ah.all (l:=n) J,e];rfl
theorem tB {B:Nat}{w:World}{b:Nat}{o:List Nat}{ts:List Value}{M:Nat->Prop}(h:kN B w b o ts M)(hB:B<=w.heap.size){D:Nat->Prop}{v:Value}{o2:List Nat}{W:List Value}(h2:gB D w v o2 λl=>l=W)(ς:W.all ay=true)
  (hM:∀g,D g->¬M g) (hl:o.length+o2.length<=1099511627776/\ts.length+W.length<=1099511627776) {R:Sl}
  (hR:∀w' M',Kp w w' M->kN B w' b (o++o2) (ts++W) M'->(∀g,M' g->M g\/w.heap.size<=g)->R w'):Sm 179 #[ptr b,v] w (an [] R):=by
 refine lD _ v w R ?_;dsimp only [go_sem];dsimp only [go_sem,UInt8.reduceOfNat,UInt32.reduceOfNat,Nat.reduceAdd];obtain⟨b2,υ,φ,ts3,rfl,g1,g2,g3,g4,g5,g6,e3⟩:=h2;subst e3;obtain⟨h1,hle,h3,hr,h4,vo,vt,h5,h6,h7,h8,h9,h10,ε⟩:=h;have Z:¬M b2:=hM b2 g1;refine⟨λw'=>Kp w w' λg=>vo.ownBlock=some g\/vt.ownBlock=some g,λw1 ζ=>⟨ζ▸Kp.af (Ex.drew w) _,b,0,rfl,vo,λw' k=>?_,b2,0,rfl,υ,λw' k=>?_,b,0,rfl,vt,λw' k=>?_,b2,0,rfl,φ,λw' k=>?_,?_⟩⟩
 ·rw [OG (w:=w) (k.block b h1 λh=>h.elim (λe=>(h9 b e).2 rfl) λe=>(h10 b e).2 rfl)];exact h5
 ·rw [OG (w:=w) (k.block b2 g2 λh=>h.elim (λe=>Z (h9 b2 e).1) λe=>Z (h10 b2 e).1)];exact g3
 ·rw [OG (w:=w) (k.block b h1 λh=>h.elim (λe=>(h9 b e).2 rfl) λe=>(h10 b e).2 rfl)];exact h6
 ·rw [OG (w:=w) (k.block b2 g2 λh=>h.elim (λe=>Z (h9 b2 e).1) λe=>Z (h10 b2 e).1)];exact g4
 have x1:Ex w w1:=ζ▸Ex.drew w;have k1:Kp w w1 λ _=>False:=Kp.af x1 _
 have s1:w1.heap.size=w.heap.size:=by rw [ζ];rfl
 refine aF.push (h7.kp k1 λ _ _ h=>h) (by omega) (g5.kp k1 λ _ _ h=>h) (IV o2) (by omega) (by simp;exact hl.1) λJ w2 α χ ψ=>?_
 have k2:Kp w1 w2 λg=>vo.ownBlock=some g:=Kp.aJ χ λg h=>h
 have η:Kp w w2 λg=>vo.ownBlock=some g:=Kp.trans (Kp.af x1 _) k2 λg _ h=>h
 refine⟨Kp.trans (Kp.af x1 _) k2 λg _ h=> .inl h,?_⟩;have s2:=k2.size;have ω:=g6.kp η λg G e=>hM g G (h9 g e).1
 have h8':aF 156 B w2 vt ts:=h8.kp η λg G e=>ε g e G
 refine aF.push h8' (by omega) ω ς (by omega) hl.2 λV w3 θ hg3 hn3=>?_
 have k3:Kp w2 w3 λg=>vt.ownBlock=some g:=Kp.aJ hg3 λg h=>h
 have ι:Kp w w3 λg=>vo.ownBlock=some g\/vt.ownBlock=some g:=Kp.trans (Kp.mono (λg h=> .inl h) η) k3 λg _ h=> .inr h
 have s3:=k3.size;have hv1:ay J=true:=by
  rcases α.2 with⟨rfl,_⟩ | ⟨g,cap,cur,rfl,_⟩<;>rfl
 have hv2:ay V=true:=by
  rcases θ.2 with⟨rfl,_⟩ | ⟨g,cap,cur,rfl,_⟩<;>rfl
 have κ:=ι.block b h1 λh=>h.elim (λe=>(h9 b e).2 rfl) λe=>(h10 b e).2 rfl
 have c30:w3.cell? ⟨b,0,none⟩=some vo:=by rw [OG (w:=w) κ];exact h5
 have ν:w3.cell? ⟨b,1,none⟩=some vt:=by rw [OG (w:=w) κ];exact h6
 have f3:∀j,w3.frozen? ⟨b,j,none⟩=false:=λj=>by rw [Pd (w:=w) κ];exact h4 j
 refine⟨ι,b,0,rfl,hv1,⟨⟨_,c30⟩,f3 0⟩,λw4 H=>⟨b,0,rfl,hv2,⟨⟨vt,?_⟩,?_⟩,λw5 β=>?_⟩⟩
 ·rw [H,OL _ _ _ _ (by simp)];exact ν
 ·rw [H,O0];exact f3 1
 have γ:Kp w3 w5 λg=>g=b:=by
  rw [β,H];exact Kp.set (Kp.set (S:=λg=>g=b) (Kp.af (Ex.refl w3) _) rfl _) rfl _
 have δ:∀g,J.ownBlock=some g->(vo.ownBlock=some g\/w.heap.size<=g):=λg G=>(ψ g G).elim .inl λh=> .inr (by omega)
 have μ:∀g,V.ownBlock=some g->(vt.ownBlock=some g\/w2.heap.size<=g):=λg G=>hn3 g G
 have ξ:∀g,J.ownBlock=some g->g≠b:=λg G=>(δ g G).elim (λe=>(h9 g e).2) λe=>by omega
 have ο:∀g,V.ownBlock=some g->g≠b:=λg G=>(μ g G).elim (λe=>(h10 g e).2) λe=>by omega
 have hot:∀g,J.ownBlock=some g->V.ownBlock≠some g:=λg G e=>by
  have hlt:=(α.block g G).2;rcases μ g e with e1 | e1
  ·rcases δ g G with e2 | e2
   ·exact ε g e2 e1
   ·have :=(h8.block g e1).2;omega
  ·omega
 have s5:=γ.size;refine hR w5 (λg=>M g\/(w.heap.size<=g/\g< w5.heap.size)) ?_ ⟨?_,hle,.inl h3,λg G=>?_,λj=>?_,J,V,?_,?_,?_,?_,λg G=>⟨?_,ξ g G⟩,λg G=>⟨?_,ο g G⟩,hot⟩ λg h=>h.elim .inl λh=> .inr h.1
 ·refine Kp.trans (Kp.mono (λg h=>h.elim (λe=>(h9 g e).1) λe=>(h10 g e).1) ι) γ λg _ e=>?_
  rw [e];exact h3
 ·omega
 ·rcases G with G | G
  ·have :=hr g G;omega
  ·omega
 ·rw [β,O0,H,O0];exact f3 j
 ·rw [β,OL _ _ _ _ (by simp),H];exact OY _ _ _ c30
 ·rw [β];refine OY _ _ _ (u:=vt) ?_;rw [H,OL _ _ _ _ (by simp)];exact ν
 ·rw [PH];refine(α.kp k3 λg G e=>?_).kp γ ξ;rcases δ g G with e2 | e2
  ·exact ε g e2 e
  ·have :=(h8.block g e).2;omega
 ·exact θ.kp γ ο
 ·have :=(α.block g G).2;exact(δ g G).elim (λe=> .inl (h9 g e).1) λe=> .inr ⟨e,by omega⟩
 ·have :=(θ.block g G).2;exact(μ g G).elim (λe=> .inl (h10 g e).1) λe=> .inr ⟨by omega,by omega⟩
theorem ij {c:UInt8}(h:lt c=true):(c - 97:UInt8).toNat=c.toNat - 97:=by
 have :=bj h;rw [UInt8.toNat_sub_of_le]
 ·rfl
 ·exact O6.2 (by simpa using this.1)
structure Mk (w:World)(m n:Nat):Prop where
 lt:m< w.heap.size
 c:w.cell? ⟨m,0,none⟩=some (iv n)
 f:w.frozen? ⟨m,0,none⟩=false
theorem Mk.kp {w w':World}{m n:Nat}{S:Nat->Prop}(h:Mk w m n)(k:Kp w w' S)(G:¬S m):Mk w' m n:=by
 have hb:=k.block m h.lt G;exact⟨O' h.lt k.size,by rw [OG (w:=w) hb];exact h.c,by rw [Pd (w:=w) hb];exact h.f⟩
theorem Mk.ex {w w':World}{m n:Nat}(h:Mk w m n)(x:Ex w w'):Mk w' m n:=h.kp (Kp.af x λ _=>False) λh=>h
structure Km (m:Nat)(w w':World):Prop where
 kp:Kr m w w'
 ce:∀j,j≠0->w'.cell? ⟨m,j,none⟩=w.cell? ⟨m,j,none⟩
 fz:∀j,w'.frozen? ⟨m,j,none⟩=w.frozen? ⟨m,j,none⟩
theorem Km.size {m:Nat}{w w':World}(h:Km m w w'):w.heap.size<=w'.heap.size:=h.kp.size
theorem Km.trans {m:Nat}{a b c:World}(h:Km m a b)(k:Km m b c):Km m a c:=⟨Kr.trans h.kp k.kp,λj hj=>(k.ce j hj).trans (h.ce j hj),λj=>(k.fz j).trans (h.fz j)⟩
theorem Km.out {m:Nat}{w0 w w':World}{S:Nat->Prop}(h:Km m w0 w)(k:Kp w w' S)(H:∀g,g< w0.heap.size->¬S g)(hm:m< w0.heap.size):Km m w0 w':=by
 have e:=k.block m (O' hm h.kp.size) (H m hm);exact⟨Kp.trans h.kp k λg J G=>absurd G (H g J),λj hj=>by rw [OG (w:=w) e];exact h.ce j hj,λj=>by rw [Pd (w:=w) e];exact h.fz j⟩
theorem Km.refl (m:Nat)(w:World):Km m w w:=⟨Kr.refl m w,λ _ _=>rfl,λ _=>rfl⟩
theorem Km.ex {m:Nat}{w w':World}(h:Ex w w')(hm:m< w.heap.size):Km m w w':=(Km.refl m w).out (Kp.af h λ _=>False) (λ _ _ h=>h) hm
theorem Km.set (m:Nat)(w:World)(v:Value):Km m w (w.setCell ⟨m,0,none⟩ v):=⟨Kr.set w 0 v,λj hj=>OL _ _ _ _ (λe=>by injection e with G H;omega),λj=>O0 _ _ _ _⟩
theorem uF {w:World}{m n:Nat}(h:Mk w m n)(J:n<=1099511627776){R:Int->Sl}(hR:∀w',Km m w w'->Mk w' m (n+1)->R ((n+101:Nat):Int) w'):Sm 178 #[ptr m] w (an [.i] R):=by
 refine lC _ w R ?_;dsimp only [go_sem];dsimp only [go_sem,UInt8.reduceOfNat,UInt32.reduceOfNat,Nat.reduceAdd];refine⟨m,0,rfl,n,h.c,by omega,m,0,rfl,⟨⟨_,h.c⟩,h.f⟩,λw1 G=>⟨m,0,rfl,(n:Int)+1,?_,by omega,?_⟩⟩
 ·rw [G];exact OY _ _ _ h.c
 ·have e:((n:Int)+1+100)=((n+101:Nat):Int):=by omega
  have H:((n:Int)+1)=((n+1:Nat):Int):=by omega
  rw [e];rw [H]at G;refine hR w1 (G▸Km.set m w _) ⟨?_,?_,?_⟩
  ·rw [G,Pu];exact h.lt
  ·rw [G];exact OY _ _ _ h.c
  ·rw [G,O0];exact h.f
def Jb (cs:List Value)(e:UInt8->Nat):Prop:=cs.length=26/\∀c,lt c=true->cs[c.toNat - 97]?=some (iv (e c))
structure lg (w:World)(b:Nat)(e:UInt8->Nat):Prop where
 hb:b< w.heap.size
 f:∀j,w.frozen? ⟨b,j,none⟩=false
 c:∃cs,Jb cs e/\∀j,j< 26->w.cell? ⟨b,0+j,none⟩=cs[j]?
theorem lg.kp {w w':World}{b:Nat}{e:UInt8->Nat}{S:Nat->Prop}(h:lg w b e)(k:Kp w w' S)(G:¬S b):lg w' b e:=by
 have hb:=k.block b h.hb G;obtain⟨H,h2,cs,J,h4⟩:=h;exact⟨O' H k.size,λj=>by rw [Pd (w:=w) hb];exact h2 j,cs,J,λj hj=>by rw [OG (w:=w) hb];exact h4 j hj⟩
theorem lg.get {w:World}{b:Nat}{e:UInt8->Nat}(h:lg w b e){c:UInt8}(hc:lt c=true):w.cell? ⟨b,0+Int.toNat ((c - 97:UInt8).toNat:Int)* 1,none⟩=some (iv (e c)):=by
 obtain⟨H,h2,cs,G,h4⟩:=h;have :=bj hc;rw [ij hc,Pn,OU,h4 _ (by omega)];exact G.2 c hc
theorem lg.set {w w':World}{b:Nat}{e:UInt8->Nat}(h:lg w b e){c:UInt8}(hc:lt c=true){n:Nat}(hw:w'=w.setCell ⟨b,0+Int.toNat ((c - 97:UInt8).toNat:Int)* 1,none⟩ (iv n)):lg w' b (aI e c n):=by
 have J:=h.get hc;obtain⟨W,h2,cs,H,h4⟩:=h;have hl:=bj hc;rw [ij hc,Pn,OU]at hw J;refine⟨by rw [hw,Pu];exact W,λj=>by rw [hw,O0];exact h2 j,cs.set (c.toNat - 97) (iv n),⟨by rw [Qp];exact H.1,λd hd=>?_⟩,λj hj=>?_⟩
 ·have Z:=bj hd;rw [List.getElem?_set];by_cases G:d=c
  ·subst G;rw [Pj rfl,Pj (by rw [H.1];omega)];simp [aI]
  ·have V:¬c.toNat - 97=d.toNat - 97:=λV=>G (Pe.1 (by omega))
   rw [O1 V,H.2 d hd];simp [aI,G]
 ·rw [List.getElem?_set];by_cases G:c.toNat - 97=j
  ·subst G;rw [Pj rfl,Pj (by rw [H.1];omega),hw];exact OY _ _ _ J
  ·rw [O1 G,hw,OL _ _ _ _ (by simp)];exact h4 j hj
structure kR (w:World)(g:Nat)(k:UInt8)(a b:Nat)(vr vp:Value):Prop where
 lt:g< w.heap.size
 c0:w.cell? ⟨g,0,none⟩=some (.int .u8 k.toNat)
 c1:w.cell? ⟨g,1,none⟩=some (iv a)
 c2:w.cell? ⟨g,2,none⟩=some (iv b)
 c3:w.cell? ⟨g,3,none⟩=some vr
 c4:w.cell? ⟨g,4,none⟩=some vp
 f:∀j,w.frozen? ⟨g,j,none⟩=false
section
variable {w w':World} {g a b x:Nat} {k:UInt8} {vr vp v:Value} {S:Nat->Prop}
theorem kR.kp (h:kR w g k a b vr vp)(kp:Kp w w' S)(G:¬S g):kR w' g k a b vr vp:=by
 have hb:=kp.block g h.lt G;refine⟨O' h.lt kp.size,?_,?_,?_,?_,?_,λj=>?_⟩
 ·rw [OG (w:=w) hb];exact h.c0
 ·rw [OG (w:=w) hb];exact h.c1
 ·rw [OG (w:=w) hb];exact h.c2
 ·rw [OG (w:=w) hb];exact h.c3
 ·rw [OG (w:=w) hb];exact h.c4
 ·rw [Pd (w:=w) hb];exact h.f j
theorem kR.AF (h:kR w g k a b vr vp)(hw:w'=w.setCell ⟨g,1,none⟩ (iv x)):kR w' g k x b vr vp:=by
 subst hw;exact⟨by rw [Pu];exact h.lt,by rw [OL _ _ _ _ (by simp)];exact h.c0,OY _ _ _ h.c1,by rw [OL _ _ _ _ (by simp)];exact h.c2,
  by rw [OL _ _ _ _ (by simp)];exact h.c3,by rw [OL _ _ _ _ (by simp)];exact h.c4,λj=>by rw [O0];exact h.f j⟩
theorem kR.uP (h:kR w g k a b vr vp)(hw:w'=w.setCell ⟨g,2,none⟩ (iv x)):kR w' g k a x vr vp:=by
 subst hw;exact⟨by rw [Pu];exact h.lt,by rw [OL _ _ _ _ (by simp)];exact h.c0,by rw [OL _ _ _ _ (by simp)];exact h.c1,OY _ _ _ h.c2,
  by rw [OL _ _ _ _ (by simp)];exact h.c3,by rw [OL _ _ _ _ (by simp)];exact h.c4,λj=>by rw [O0];exact h.f j⟩
theorem kR.Gf (h:kR w g k a b vr vp)(hw:w'=w.setCell ⟨g,3,none⟩ v):kR w' g k a b v vp:=by
 subst hw;exact⟨by rw [Pu];exact h.lt,by rw [OL _ _ _ _ (by simp)];exact h.c0,by rw [OL _ _ _ _ (by simp)];exact h.c1,by rw [OL _ _ _ _ (by simp)];exact h.c2,
  OY _ _ _ h.c3,by rw [OL _ _ _ _ (by simp)];exact h.c4,λj=>by rw [O0];exact h.f j⟩
theorem kR.Ml (h:kR w g k a b vr vp)(hw:w'=w.setCell ⟨g,4,none⟩ v):kR w' g k a b vr v:=by
 subst hw;exact⟨by rw [Pu];exact h.lt,by rw [OL _ _ _ _ (by simp)];exact h.c0,by rw [OL _ _ _ _ (by simp)];exact h.c1,by rw [OL _ _ _ _ (by simp)];exact h.c2,
  by rw [OL _ _ _ _ (by simp)];exact h.c3,OY _ _ _ h.c4,λj=>by rw [O0];exact h.f j⟩
theorem kR.new {e:Nat}(G:g=w.heap.size)(hw:w'=w.alloc (.cells #[.int .u8 k.toNat,iv a,iv b,vr,vp] e)):kR w' g k a b vr vp:=by
 subst G hw;refine⟨by rw [size_alloc];omega,aa rfl,aa rfl,aa rfl,aa rfl,aa rfl,λj=>?_⟩;unfold World.frozen? World.alloc;simp
theorem kR.ML (h:kR w g k a b vr vp){D:Nat->Prop}(G:D g):I2 D w (ptr g) k a b vr vp:=⟨g,rfl,G,h.lt,h.c0,h.c1,h.c2,h.c3,h.c4⟩
end
structure RS (w0 w:World)(m n:Nat)(e:UInt8->Nat)(b5 b10:Nat)(k:UInt8)(a b:Nat):Prop where
 kp:Km m w0 w
 mc:Mk w m n
 hm:m< w0.heap.size
 env:lg w b5 e
 h5:w0.heap.size<=b5
 h10:w0.heap.size<=b10
 ne:b5≠b10
 th:kR w b10 k a b (.pointer none) (.slice none 0 0)
section
variable {w0 w w':World} {m n b5 b10 a b x:Nat} {e:UInt8->Nat} {k c:UInt8}
theorem RS.go (h:RS w0 w m n e b5 b10 k a b){n':Nat}(kr:Km m w w')(mk:Mk w' m n'):RS w0 w' m n' e b5 b10 k a b:=by
 have G:=h.hm;have h2:=h.h5;have H:=h.h10;exact⟨Km.trans h.kp kr,mk,h.hm,h.env.kp kr.kp (by omega),h.h5,h.h10,h.ne,h.th.kp kr.kp (by omega)⟩
theorem RS.ex (h:RS w0 w m n e b5 b10 k a b)(G:Ex w w'):RS w0 w' m n e b5 b10 k a b:=h.go (Km.ex G h.mc.lt) (h.mc.ex G)
theorem RS.own (h:RS w0 w m n e b5 b10 k a b){S:Nat->Prop}(kp:Kp w w' S)(H:∀g,S g->w0.heap.size<=g/\g≠b5/\g≠b10):RS w0 w' m n e b5 b10 k a b:=by
 have J:=h.hm;refine⟨h.kp.out kp (λg V G=>(by have :=(H g G).1;omega)) J,h.mc.kp kp λG=>(by have :=(H m G).1;omega),h.hm,h.env.kp kp λG=>(H _ G).2.1 rfl,h.h5,h.h10,h.ne,h.th.kp kp λG=>(H _ G).2.2 rfl⟩
theorem RS.AF (h:RS w0 w m n e b5 b10 k a b)(hw:w'=w.setCell ⟨b10,1,none⟩ (iv x)):RS w0 w' m n e b5 b10 k x b:=by
 have G:=h.hm;have H:=h.h10;have kp:Kr b10 w w':=hw▸Kr.set w 1 _;exact⟨h.kp.out kp (λg J e=>(by omega)) G,h.mc.kp kp (by omega),h.hm,h.env.kp kp h.ne,h.h5,h.h10,h.ne,h.th.AF hw⟩
theorem RS.uP (h:RS w0 w m n e b5 b10 k a b)(hw:w'=w.setCell ⟨b10,2,none⟩ (iv x)):RS w0 w' m n e b5 b10 k a x:=by
 have G:=h.hm;have H:=h.h10;have kp:Kr b10 w w':=hw▸Kr.set w 2 _;exact⟨h.kp.out kp (λg J e=>(by omega)) G,h.mc.kp kp (by omega),h.hm,h.env.kp kp h.ne,h.h5,h.h10,h.ne,h.th.uP hw⟩
theorem RS.N6 (h:RS w0 w m n e b5 b10 k a b)(hc:lt c=true)(hw:w'=w.setCell ⟨b5,0+Int.toNat ((c - 97:UInt8).toNat:Int)* 1,none⟩ (iv x)):RS w0 w' m n (aI e c x) b5 b10 k a b:=by
 have G:=h.hm;have H:=h.h5;have kp:Kr b5 w w':=hw▸Kr.set w _ _;exact⟨h.kp.out kp (λg J e=>(by omega)) G,h.mc.kp kp (by omega),h.hm,h.env.set hc hw,h.h5,h.h10,h.ne,h.th.kp kp (R2 h.ne)⟩
end
def Fe (t:P):Prop:=∀{D:Nat->Prop} {v:Value} {w:World} {m n:Nat} {cs:List Value} {e:UInt8->Nat} {R:Value->Sl},aM D w t v->(∀g,D g->¬g=m)->Mk w m n->Jb cs e->Lt t->n+t.size<=1099511627776->
 (∀v' w',Km m w w'->Mk w' m (num t e n).2->aC (ES w) w' (flat (num t e n).1) v'->R v' w')->Sm 137 #[ptr m,v,.agg cs.toArray] w (an [.v] R)
def T.bnd:P->Bool
 | .rcv .. =>true | .res .. =>true | _=>false
theorem BC (t:P):(decide (t.kind=63)||decide (t.kind=35))=t.bnd:=by cases t<;>rfl
theorem Ng {t:P}(h:Lt t)(hc:t.ca≠0):lt t.ca=true:=by
 cases t<;>first | exact h.1 | exact absurd rfl hc
theorem Nb {t:P}(h:Lt t)(hc:t.cb≠0):lt t.cb=true:=by
 cases t<;>first | exact h.2.1 | exact h.1 | exact absurd rfl hc
theorem LO {t:P}(h:Lt t)(hb:t.bnd=true):lt t.cb=true:=by
 cases t<;>first | exact h.2.1 | exact h.1 | cases hb
theorem bW:∀(t:P) (e:UInt8->Nat) (n:Nat),(num t e n).1.size=t.size/\(num t e n).2<=n+t.size
 | .nil,_,n=>⟨rfl,by simp [num,T.size]⟩
 | .snd _ _ p,e,n=>by have :=bW p e n;exact⟨by simp [num,T.size,this.1],by simp only [num,T.size];omega⟩
 | .mat _ _ p,e,n=>by have :=bW p e n;exact⟨by simp [num,T.size,this.1],by simp only [num,T.size];omega⟩
 | .tau p,e,n=>by have :=bW p e n;exact⟨by simp [num,T.size,this.1],by simp only [num,T.size];omega⟩
 | .rep p,e,n=>by have :=bW p e n;exact⟨by simp [num,T.size,this.1],by simp only [num,T.size];omega⟩
 | .rcv _ x p,e,n=>by have :=bW p (aI e x (n+101)) (n+1);exact⟨by simp [num,T.size,this.1],by simp only [num,T.size];omega⟩
 | .res x p,e,n=>by have :=bW p (aI e x (n+101)) (n+1);exact⟨by simp [num,T.size,this.1],by simp only [num,T.size];omega⟩
 | .sum p q,e,n=>by have :=bW p e n;have h:=bW q e (num p e n).2;exact⟨by simp [num,T.size,this.1,h.1],by simp only [num,T.size];omega⟩
 | .par p q,e,n=>by have :=bW p e n;have h:=bW q e (num p e n).2;exact⟨by simp [num,T.size,this.1,h.1],by simp only [num,T.size];omega⟩
theorem jz:∀u:U,(flat u).1.length<=u.size/\(flat u).2.len<=u.size
 | .nil=>by simp [flat,Lv.len]
 | .snd .. =>by simp [flat,Lv.len,T.size]
 | .rcv .. =>by simp [flat,Lv.len,T.size]
 | .tau .. =>by simp [flat,Lv.len,T.size]
 | .sum .. =>by simp [flat,Lv.len,T.size]
 | .mat .. =>by simp [flat,Lv.len,T.size]
 | .rep .. =>by simp [flat,Lv.len,T.size]
 | .res x p=>by have :=jz p;simp only [flat,T.size,OF];omega
 | .par p q=>by have :=jz p;have :=jz q;simp only [flat,T.size,OM,Lv.eN];omega
theorem kN.new {w w':World}{b B e:Nat}(hB:B<=w.heap.size)(hb:b=w.heap.size)(hw:w'=w.alloc (.cells #[.slice none 0 0,.slice none 0 0] e)):kN B w' b [] [] (λg=>g=b):=by
 subst hb hw;refine⟨by rw [size_alloc];omega,hB,rfl,λg G=>⟨by omega,by rw [size_alloc];omega⟩,λj=>?_,_,_,aa rfl,aa rfl,aF.nil _ _ _,aF.nil _ _ _,λg h=>(by cases h),λg h=>(by cases h),λg h=>(by cases h)⟩;unfold World.frozen? World.alloc;simp
theorem Eu {D Q:Nat->Prop}{w1:World}{t p:P}{v:Value}{b5:Nat}{e:UInt8->Nat}(h:aM D w1 t v)(hD:∀g,D g->¬Q g)(hE:lg w1 b5 e)(h5:¬Q b5){i:Int}(h0:0<=i)(hp:t.parts[i.toNat]?=some p){K:Value->List Value->Prop}(hK:∀x cs,aM D w1 p x->Jb cs e->K x cs):
  ∃(b o:Nat),v=Value.pointer (some ⟨b,o,none⟩)/\∃W:Value,(∀w',Kp w1 w' Q->World.cell? w' ⟨b,(o+3),none⟩=some W)/\∃(Z α G J:Nat),W=Value.slice (some ⟨Z,α,none⟩) G J/\0<=i/\i< G/\
   ∃β:Value,(∀w',Kp w1 w' Q->World.cell? w' ⟨Z,(α+Int.toNat i* 1),none⟩=some β)/\∃H:List Value,List.length H=26/\(∀w',Kp w1 w' Q->∀j,j< 26->World.cell? w' ⟨b5,0+j,none⟩=H[j]?)/\K β H:=by
 obtain⟨b,vs,l,rfl,h1,h2,h3,h4,δ,h6,h7,h8⟩:=h.inv;obtain⟨hi,ε⟩:=PB.1 hp;have V:i.toNat< l.length:=by rw [h8.1];exact hi
 have hx:=h8.2 i.toNat l[i.toNat] p (OH V) hp;refine⟨b,0,rfl,vs,λw' k=>?_,?_⟩
 ·rw [OG (w:=w1) (k.block b h2 (hD b h1))];exact h6
 rcases h7 with⟨_,rfl⟩ | ⟨b',off,cap,rfl,i1,i2,i3⟩
 ·simp at V
 obtain⟨cs,hc,γ⟩:=hE.c;refine⟨b',off,l.length,cap,rfl,h0,by omega,l[i.toNat],λw' k=>?_,cs,hc.1,λw' k j hj=>?_,hK _ _ hx hc⟩
 ·rw [OG (w:=w1) (k.block b' i2 (hD b' i1)),Pn];exact i3 _ _ (OH V)
 ·rw [OG (w:=w1) (k.block b5 hE.hb h5)];exact γ j hj
theorem aC.ths {D:Nat->Prop}{w:World}{L:List Nat×Lv}{v:Value}(h:aC D w L v):∃ts,gB D w v L.1 (λl=>l=ts)/\ah D w L.2 ts:=by
 obtain⟨b,vo,vt,ts,G,h2,H,h4,h5,J,V,h8⟩:=h;exact⟨ts,⟨b,vo,vt,ts,G,h2,H,h4,h5,J,V,rfl⟩,h8⟩
theorem gB.one {D:Nat->Prop}{w:World}{v:Value}{o:List Nat}{K:List Value->Prop}(h:gB D w v o K):ay v=true:=by
 obtain⟨b,_,_,_,rfl,_⟩:=h;rfl
theorem kN.N5 {B b g n e:Nat}{w w1 w2:World}(h:kN B w b [] [] λg=>g=b)(V:g=w.heap.size)(J:w1=w.alloc (.cells #[iv n] 3))(H:w2=w1.setCell ⟨b,0,none⟩ (.slice (some ⟨g,0,none⟩) 1 1)):kN B w2 b [n] [] λx=>x=b\/x=g:=by
 have G:Ex w w1:=J▸Ex.alloc w _;have h':=h.ex G;have W:=h.lt;have hle:=h.le;have Z:aF 3 B w1 (.slice (some ⟨g,0,none⟩) 1 1) [iv n]:=aF.one (by omega) V J;have s1:w1.heap.size=w.heap.size+1:=by rw [J,size_alloc]
 obtain⟨h1,h2,h3,hr,h4,vo,vt,h5,h6,h7,h8,h9,h10,α⟩:=h';have k:Kr b w1 w2:=H▸Kr.set w1 0 _;refine⟨by rw [H,Pu];exact h1,h2,.inl rfl,λx G=>?_,λj=>by rw [H,O0];exact h4 j,_,vt,?_,?_,Z.kp k λx G=>?_,?_,λx G=>?_,λx G=>⟨.inl (h10 x G).1,(h10 x G).2⟩,λx G e=>?_⟩
 ·have :=k.size;rcases G with rfl | rfl<;>omega
 ·rw [H];exact OY _ _ _ h5
 ·rw [H,OL _ _ _ _ (by simp)];exact h6
 ·have e:g=x:=Pz G;omega
 ·exact h8.kp k λx G=>(h10 x G).2
 ·have e:g=x:=Pz G;exact⟨.inr e.symm,by omega⟩
 ·have :=(h10 x e)
  exact absurd this.1 this.2
theorem kN.NO {B b g:Nat}{w w1 w2:World}{x:Value}(h:kN B w b [] [] λg=>g=b)(V:g=w.heap.size)(J:w1=w.alloc (.cells #[x] 156))(H:w2=w1.setCell ⟨b,1,none⟩ (.slice (some ⟨g,0,none⟩) 1 1)):kN B w2 b [] [x] λx=>x=b\/x=g:=by
 have G:Ex w w1:=J▸Ex.alloc w _;have h':=h.ex G;have W:=h.lt;have hle:=h.le;have Z:aF 156 B w1 (.slice (some ⟨g,0,none⟩) 1 1) [x]:=aF.one (by omega) V J;have s1:w1.heap.size=w.heap.size+1:=by rw [J,size_alloc]
 obtain⟨h1,h2,h3,hr,h4,vo,vt,h5,h6,h7,h8,h9,h10,α⟩:=h';have k:Kr b w1 w2:=H▸Kr.set w1 1 _;refine⟨by rw [H,Pu];exact h1,h2,.inl rfl,λx G=>?_,λj=>by rw [H,O0];exact h4 j,vo,_,?_,?_,?_,Z.kp k λx G=>?_,λx G=>⟨.inl (h9 x G).1,(h9 x G).2⟩,λx G=>?_,λx e G=>?_⟩
 ·have :=k.size;rcases G with rfl | rfl<;>omega
 ·rw [H,OL _ _ _ _ (by simp)];exact h5
 ·rw [H];exact OY _ _ _ h6
 ·exact h7.kp k λx G=>(h9 x G).2
 ·have e:g=x:=Pz G;omega
 ·have e:g=x:=Pz G;exact⟨.inr e.symm,by omega⟩
 ·have :=(h9 x e)
  exact absurd this.1 this.2
def T.eB (t:P)(e:UInt8->Nat)(n:Nat):UInt8->Nat:=if t.bnd=true then aI e t.cb (n+101)else e
def T.nB (t:P)(n:Nat):Nat:=if t.bnd=true then n+1 else n
def T.aA (t:P)(e:UInt8->Nat):Nat:=if t.ca=0 then 0 else e t.ca
def T.bA (t:P)(e:UInt8->Nat)(n:Nat):Nat:=if t.cb=0 then 0 else t.eB e n t.cb
structure RW (D:Nat->Prop)(w w':World)(m n:Nat)(e:UInt8->Nat)(b5 b10 b47:Nat)(t:P)(v:Value):Prop where
 rs:RS w w' m (t.nB n) (t.eB e n) b5 b10 t.kind (t.aA e) (t.bA e n)
 bd:kN w.heap.size w' b47 [] [] λg=>g=b47
 n5:b47≠b5
 n10:b47≠b10
 tm:aM D w' t v
 d:∀g,D g->g< w.heap.size/\¬g=m
def RJ (w w':World)(m n:Nat)(e:UInt8->Nat)(b47 b10:Nat)(t:P):Prop:=
 Km m w w'/\Mk w' m (num t e n).2/\kN w.heap.size w' b47 [] [] (λg=>g=b47)/\(flat (num t e n).1).1=[]/\ah (λg=>(w.heap.size<=g/\g≠b47)/\g< w'.heap.size) w' (flat (num t e n).1).2 [ptr b10]
theorem Jn {t:P}{w G:World}{m n:Nat}{e:UInt8->Nat}{b47 b10:Nat}{R:Value->Sl}(hm:m< w.heap.size)(hJ:RJ w G m n e b47 b10 t)(hR:∀v' w',Km m w w'->Mk w' m (num t e n).2->aC (ES w) w' (flat (num t e n).1) v'->R v' w'):
  ∀(J:Nat) (H:World),J=Array.size (World.heap G)->H=World.alloc G (Obj.cells #[(Value.pointer (some ⟨b10,0,none⟩))] 156)->ay (Value.slice (some ⟨J,0,none⟩) 1 1)=true/\
   ((∃W:Value,World.cell? H ⟨b47,1,none⟩=some W)/\World.frozen? H ⟨b47,1,none⟩=false)/\∀V:World,V=World.setCell H ⟨b47,1,none⟩ (Value.slice (some ⟨J,0,none⟩) 1 1)->R ((Value.pointer (some ⟨b47,0,none⟩))) V:=by
 obtain⟨k,mk,bd,ho,β⟩:=hJ;intro g w1 hg Z;have hx:Ex G w1:=Z▸Ex.alloc G _;have γ:=bd.ex hx;have ε:=bd.lt;have hle:=bd.le;refine⟨rfl,?_,λw2 α=>?_⟩
 ·obtain⟨h1,h2,h3,hr,h4,vo,vt,h5,h6,_⟩:=γ;exact⟨⟨_,h6⟩,h4 1⟩
 ·have δ:=bd.NO hg Z α;have kk:Kr b47 w1 w2:=α▸Kr.set w1 1 _;have k2:Kp G w2 λg=>g=b47:=Kp.trans (Kp.af hx _) kk λg _ h=>h
  refine hR _ w2 (k.out k2 (λg hg e=>by omega) hm) (mk.kp k2 (by omega)) ?_;unfold aC;rw [ho];exact δ.NC (λg _ h=>h) (ah.sub (λg _ h=>h.1.1) (ah.kp k2 (λg h e=>h.1.2 e) β))
section
variable {D:Nat->Prop} {w w':World} {m n b5 b10 b47:Nat} {e:UInt8->Nat} {t p:P} {v:Value}
def RQ (w:World)(m b5 b10:Nat):Nat->Prop:=λg=>g=m\/(w.heap.size<=g/\g≠b5/\g≠b10)
theorem RW.fine (h:RW D w w' m n e b5 b10 b47 t v):(∀g,D g->¬RQ w m b5 b10 g)/\¬RQ w m b5 b10 b5/\RQ w m b5 b10 b47:=by
 have J:=h.rs.hm;have h2:=h.rs.h5;have G:=h.bd.le;refine⟨λg H e=>?_,λe=>?_,.inr ⟨G,h.n5,h.n10⟩⟩
 ·have :=h.d g H;rcases e with e | e<;>omega
 ·rcases e with e | e
  ·omega
  ·exact e.2.1 rfl
structure RP (D:Nat->Prop)(w w':World)(m n:Nat)(b5 b10 b47:Nat)(e:UInt8->Nat)(t:P)(v:Value)(o:List Nat)(l:Lv)(ts:List Value)(M:Nat->Prop):Prop where
 kp:Km m w w'
 mc:Mk w' m n
 hm:m< w.heap.size
 env:lg w' b5 e
 h5:w.heap.size<=b5
 h10:b10< w'.heap.size
 tm:aM D w' t v
 d:∀g,D g->g< w.heap.size/\¬g=m
 bd:kN w.heap.size w' b47 o ts M
 mq:∀g,M g->RQ w m b5 b10 g
 th:ah (λg=>(w.heap.size<=g/\¬M g)/\g< w'.heap.size) w' l ts
theorem RP.step {w1:World}{o:List Nat}{l:Lv}{ts:List Value}{M:Nat->Prop}(h:RP D w w1 m n b5 b10 b47 e t v o l ts M)(hp:Fe p){i:Int}(h0:0<=i)(hi:t.parts[i.toNat]?=some p)(ψ:Lt p)
  (hn:n+p.size<=1099511627776) (hol:o.length+p.size<=1099511627776) (hll:l.len+p.size<=1099511627776) {R:Sl}
  (hR:∀w2 ω M',RP D w w2 m (num p e n).2 b5 b10 b47 e t v (o++(flat (num p e n).1).1) (l.app (flat (num p e n).1).2) ω M'->R w2):
  ∃H:Sl,∀α:World,α=World.drew w1->H α/\∃(ζ η:Nat),v=Value.pointer (some ⟨ζ,η,none⟩)/\∃θ:Value,(∀w',H w'->World.cell? w' ⟨ζ,(η+3),none⟩=some θ)/\
   ∃(ι κ J β:Nat),θ=Value.slice (some ⟨ι,κ,none⟩) J β/\0<=i/\i< J/\∃μ:Value,(∀w',H w'->World.cell? w' ⟨ι,(κ+Int.toNat i* 1),none⟩=some μ)/\
   ∃V:List Value,List.length V=26/\(∀w',H w'->∀j,j< 26->World.cell? w' ⟨b5,0+j,none⟩=V[j]?)/\Sm 137 #[ptr m,μ,(Value.agg (List.toArray V))] α (an [.v] fun(v64:Value) (ν:World)=>
    H ν/\Sm 179 #[(Value.pointer (some ⟨b47,0,none⟩)),v64] ν (an [] fun(ξ:World)=>H ξ/\R ξ)):=by
 have h5:=h.h5;have hm:=h.hm;have hD:∀g,D g->¬RQ w m b5 b10 g:=λg G e=>by
  have :=h.d g G;rcases e with e | e<;>omega
 have ο:¬RQ w m b5 b10 b5:=λe=>by
  rcases e with e | e
  ·omega
  ·exact e.2.1 rfl
 refine⟨λw'=>Kp (w1.drew) w' (RQ w m b5 b10),λw2 Z=>⟨Z▸Kp.af (Ex.refl _) _,?_⟩⟩;have x2:Ex w1 w2:=Z▸Ex.drew w1;have hs12:w2.heap.size=w1.heap.size:=by rw [Z];rfl
 rw [<-Z];have kx:Kr m w1 w2:=Kr.ex x2;have ς:¬M m:=λW=>by
  have :=(h.bd.mr m W).1;omega
 refine Eu (aM.kp (Kp.af x2 λ _=>False) (λ _ _ h=>h) h.tm) hD (h.env.kp (Kp.af x2 λ _=>False) λh=>h) ο h0 hi λx cs hx hcs=>?_
 refine hp hx (λg G=>(h.d g G).2) (h.mc.ex x2) hcs ψ hn λv3 w3 k3 m3 l3=>?_
 have s3:=k3.size;have s1:=h.bd.lt;have s0:=h.kp.size;have γ:Kr m w1 w3:=Kr.trans kx k3.kp;have υ:Km m w1 w3:=Km.trans (Km.ex x2 h.mc.lt) k3;refine⟨Kp.mono (λg G=> .inl G) k3.kp,?_⟩;obtain⟨ts2,hl3,δ⟩:=aC.ths (l3.sub (E:=λg=>w2.heap.size<=g/\g< w3.heap.size) λg G hd=>⟨hd,G⟩);have hfs:=jz (num p e n).1;rw [(bW p e n).1]at hfs;have bd3:kN w.heap.size w3 b47 o ts M:=h.bd.kp γ λg G e=>ς (e▸G)
 refine tB bd3 (by omega) hl3 δ.all (λg G W=>by have :=(h.bd.mr g W).2;omega) ⟨by omega,by rw [δ.len,h.th.len];omega⟩ λw4 M' k4 bd4 ε=>?_
 have φ:Kp w3 w4 (RQ w m b5 b10):=Kp.mono h.mq k4;refine⟨Kp.trans (Kp.mono (λg G=> .inl G) k3.kp) φ λg _ h=>h,?_⟩;have s4:=k4.size;have χ:Kp w1 w4 (RQ w m b5 b10):=Kp.trans (Kp.mono (λg G=> .inl G) γ) φ λg _ h=>h
 have hb5:=h.env.hb;refine hR w4 (ts++ts2) M' ⟨?_,m3.kp k4 ς,hm,h.env.kp χ ο,h5,by have :=h.h10;omega,aM.kp χ hD h.tm,h.d,bd4,λg G=>?_,?_⟩
 ·exact(Km.trans h.kp υ).out k4 (λg G W=>by have :=(h.bd.mr g W).1;omega) hm
 ·rcases ε g G with h1 | h1
  ·exact h.mq g h1
  ·exact .inr ⟨by omega,by omega,by have :=h.h10;omega⟩
 ·refine ah.app ?_ ?_
  ·refine ah.sub (λg _ G=>?_) (ah.kp k4 (λg G e=>G.1.2 e) (ah.kp γ (λg G e=>?_) h.th))
   ·refine⟨⟨G.1.1,λW=>?_⟩,by omega⟩;rcases ε g W with h1 | h1
    ·exact G.1.2 h1
    ·omega
   ·have :=G.1.1;omega
  ·refine ah.sub (λg _ G=>?_) (ah.kp k4 (λg G W=>?_) δ)
   ·refine⟨⟨by omega,λW=>?_⟩,by omega⟩;rcases ε g W with h1 | h1
    ·have :=(h.bd.mr g h1).2;omega
    ·omega
   ·have :=(h.bd.mr g W).2;omega
theorem RP.done {w':World}{o:List Nat}{l:Lv}{ts:List Value}{M:Nat->Prop}(h:RP D w w' m n b5 b10 b47 e t v o l ts M):aC (ES w) w' (o,l) (ptr b47):=
 h.bd.NC (λg _ h=>h) (ah.sub (λg _ G=>G.1.1) h.th)
end
theorem IQ {t:P}(ih:∀p∈t.parts,Fe p):Fe t:=by
 intro D v w m n cs e R ht hD hmk ι J hn hR;obtain⟨D,ht,hD⟩:∃D',aM D' w t v/\∀g,D' g->g< w.heap.size/\¬g=m:=⟨_,ht.bound,λg G=>⟨G.2,hD g G.1⟩⟩
 refine pa _ v _ w R ?_;dsimp only [go_sem];dsimp only [go_sem,UInt8.reduceOfNat,UInt32.reduceOfNat,Nat.reduceAdd];refine⟨cs,rfl,λb5 w6 hb5 δ=>?_⟩;have x6:Ex w w6:=δ▸Ex.alloc w _;have s6:w6.heap.size=w.heap.size+1:=by rw [δ,size_alloc]
 have t6:aM D w6 t v:=aM.kp (Kp.af x6 λ _=>False) (λ _ _ h=>h) ht;have c0:∀{w':World},aM D w' t v->∃b,v=ptr b/\w'.cell? ⟨b,0+0,none⟩=some (.int .u8 t.kind.toNat)/\w'.cell? ⟨b,0+1,none⟩=some (.int .u8 t.ca.toNat)/\w'.cell? ⟨b,0+2,none⟩=some (.int .u8 t.cb.toNat):=λh=>by
  obtain⟨b,vs,l,h0,W,h2,h3,h4,h5,_⟩:=h.inv;exact⟨b,h0,h3,h4,h5⟩
 obtain⟨b7,hv,q0,_,_⟩:=c0 t6;refine⟨b7,0,hv,t.kind,q0,λb10 w11 hb10 ν=>?_⟩;have χ:Ex w6 w11:=ν▸Ex.alloc w6 _;have s11:w11.heap.size=w6.heap.size+1:=by rw [ν,size_alloc]
 have kt:∀{w':World},Kr m w w'->aM D w' t v:=λk=>aM.kp k (λg G=>(hD g G).2) ht
 have ε:=hmk.lt;have κ:RS w w11 m n e b5 b10 t.kind 0 0:=by
  refine⟨Km.ex (Ex.trans x6 χ) ε,hmk.ex (Ex.trans x6 χ),ε,⟨by omega,λj=>?_,cs,ι,λj hj=>?_⟩,by omega,by omega,by omega,kR.new hb10 ν⟩
  ·rw [Pd (w:=w6) (χ.block b5 (by omega)),δ,hb5];unfold World.frozen? World.alloc;simp
  ·rw [χ.cell (show b5< _ by omega),δ,hb5,Ph];have :=ι.1;unfold World.cell? World.alloc;simp
 obtain⟨b13,hv13,_,q1,_⟩:=c0 (kt κ.kp.kp);refine⟨λw'=>RS w w' m n e b5 b10 t.kind (t.aA e) 0,⟨b13,0,hv13,t.ca,q1,λhc=>?_,λhc=>?_⟩,λψ Z=>?_⟩
 ·have hc:t.ca≠0:=by simpa using hc
  have hl:=Ng J hc;have hb:=bj hl;refine⟨b13,0,hv13,t.ca,q1,⟨by omega,by rw [ij hl];omega⟩,_,κ.env.get hl,⟨⟨_,κ.th.c1⟩,κ.th.f 1⟩,λw21 ξ=>?_⟩;have:t.aA e=e t.ca:=O1 hc;rw [this];exact κ.AF ξ
 ·have hc:t.ca=0:=by simpa using hc
  have:t.aA e=0:=Pj hc;rw [this];exact κ
 refine⟨λw'=>RS w w' m (t.nB n) (t.eB e n) b5 b10 t.kind (t.aA e) 0,JP (kt Z.kp.kp) ⟨λhq=>?_,λhq=>?_⟩,λw35 μ=>?_⟩
 ·rw [BC]at hq;have hl:=LO J hq;have hb:=bj hl;refine⟨λw'=>Kr m ψ w',λw27 hw27=>⟨hw27▸Kr.ex (Ex.drew ψ),?_⟩⟩;have ω:Ex ψ w27:=hw27▸Ex.drew ψ;obtain⟨b28,hv28,_,_,q2⟩:=c0 (kt Z.kp.kp);refine⟨b28,0,hv28,t.cb,λw' k=>?_,?_⟩
  ·obtain⟨b29,hv29,_,_,q3⟩:=c0 (kt (Kr.trans Z.kp.kp k));have:b29=b28:=by
    have :=hv28.symm.trans hv29
    injection this with W
    injection W with W
    injection W with W
    exact W.symm
   rw [<-this];exact q3
  refine uF (Z.mc.ex ω) (by omega) λyX k32 m32=>⟨Kr.trans (Kr.ex ω) k32.kp,⟨by omega,by rw [ij hl];omega⟩,?_,λw34 hw34=>?_⟩
  ·have :=(Z.go (Km.trans (Km.ex ω Z.mc.lt) k32) m32).env;exact⟨⟨_,this.get hl⟩,this.f _⟩
  ·have e1:t.nB n=n+1:=Pj hq;have e2:t.eB e n=aI e t.cb (n+101):=Pj hq;rw [e1,e2];exact(Z.go (Km.trans (Km.ex ω Z.mc.lt) k32) m32).N6 hl hw34
 ·rw [BC]at hq;have e1:t.nB n=n:=O1 (by rw [hq];simp);have e2:t.eB e n=e:=O1 (by rw [hq];simp);rw [e1,e2];exact Z
 obtain⟨b37,hv37,_,_,q2⟩:=c0 (kt μ.kp.kp);refine⟨λw'=>RS w w' m (t.nB n) (t.eB e n) b5 b10 t.kind (t.aA e) (t.bA e n),⟨b37,0,hv37,t.cb,q2,λhc=>?_,λhc=>?_⟩,λw46 r46 b47 V hb47 hw48=>?_⟩
 ·have hc:t.cb≠0:=by simpa using hc
  have hl:=Nb J hc;have hb:=bj hl;refine⟨b37,0,hv37,t.cb,q2,⟨by omega,by rw [ij hl];omega⟩,_,μ.env.get hl,⟨⟨_,μ.th.c2⟩,μ.th.f 2⟩,λw21 ξ=>?_⟩;have:t.bA e n=t.eB e n t.cb:=O1 hc;rw [this];exact μ.uP ξ
 ·have hc:t.cb=0:=by simpa using hc
  have:t.bA e n=0:=Pj hc;rw [this];exact μ
 have x48:Ex w46 V:=hw48▸Ex.alloc w46 _;have H:=r46.ex x48;have hs46:=r46.kp.size;have bd:kN w.heap.size V b47 [] [] λg=>g=b47:=kN.new hs46 hb47 hw48
 have hn5:b47≠b5:=by have :=r46.env.hb;omega
 have hn10:b47≠b10:=by have :=r46.th.lt;omega
 have h105:=H.h5;have ο:=H.h10;have rp:RP D w V m (t.nB n) b5 b10 b47 (t.eB e n) t v [] .nil [] (λg=>g=b47):=
  ⟨H.kp,H.mc,H.hm,H.env,H.h5,H.th.lt,kt H.kp.kp,hD,bd,λg G=> .inr ⟨by have :=bd.le;omega,by omega,by omega⟩,rfl⟩
 obtain⟨b50,hv50,q0',_,_⟩:=c0 (kt H.kp.kp);refine⟨λw'=>RJ w w' m n e b47 b10 t,⟨b50,0,hv50,t.kind,q0',?_⟩,λw143 hJ=>Jn ε hJ hR⟩;have hRQ:∀g,D g->¬RQ w m b5 b10 g:=λg G e=>by
  have :=hD g G;rcases e with e | e<;>omega
 have hq5:¬RQ w m b5 b10 b5:=λe=>by
  rcases e with e | e
  ·omega
  ·exact e.2.1 rfl
 have hb47:=bd.le;have β:∀{p:P},t.parts[0]?=some p->Fe p->Lt p->t.nB n+p.size<=1099511627776->(num t e n).2=(num p (t.eB e n) (t.nB n)).2->(∀a b vr (w':World),a=t.aA e->b=t.bA e n->I2 (λg=>(w.heap.size<=g/\g≠b47)/\g< w'.heap.size) w' (ptr b10) t.kind a b vr (.slice none 0 0)->
   aC (λg=>(w.heap.size<=g/\g≠b47)/\g< w'.heap.size) w' (flat (num p (t.eB e n) (t.nB n)).1) vr->(flat (num t e n).1).1=[]/\ah (λg=>(w.heap.size<=g/\g≠b47)/\g< w'.heap.size) w' (flat (num t e n).1).2 [ptr b10])->
   ∃γ:Sl,∀ς:World,ς=World.drew V->γ ς/\∃(b130 o131:Nat),v=Value.pointer (some ⟨b130,o131,none⟩)/\∃v132:Value,(∀w',γ w'->World.cell? w' ⟨b130,(o131+3),none⟩=some v132)/\∃(b133 o134 η cap136:Nat),v132=Value.slice (some ⟨b133,o134,none⟩) η cap136/\0<=(0:Int)/\(0:Int)< η/\
    ∃v137:Value,(∀w',γ w'->World.cell? w' ⟨b133,(o134+Int.toNat 0* 1),none⟩=some v137)/\∃ζ:List Value,List.length ζ=26/\(∀w',γ w'->∀j,j< 26->World.cell? w' ⟨b5,0+j,none⟩=ζ[j]?)/\Sm 137 #[ptr m,v137,(Value.agg (List.toArray ζ))] ς (an [.v] fun(v139:Value) (θ:World)=>
     γ θ/\ay v139=true/\((∃u141:Value,World.cell? θ ⟨b10,3,none⟩=some u141)/\World.frozen? θ ⟨b10,3,none⟩=false)/\∀w142:World,w142=World.setCell θ ⟨b10,3,none⟩ v139->RJ w w142 m n e b47 b10 t):=by
  intro p hi hp hlp hnp e2 hth;refine⟨λw'=>Kp V.drew w' (RQ w m b5 b10),λw2 α=>⟨α▸Kp.af (Ex.refl _) _,?_⟩⟩;have x2:Ex V w2:=α▸Ex.drew V;rw [<-α];have hs12:w2.heap.size=V.heap.size:=by rw [α];rfl
  have r2:=H.ex x2;refine Eu (kt r2.kp.kp) hRQ r2.env hq5 (i:=0) (by omega) hi λx cs hx ι=>?_
  refine hp hx (λg G=>(hD g G).2) r2.mc ι hlp hnp λv3 w3 k3 m3 l3=>?_
  have r3:=r2.go k3 m3;have s3:=k3.size;have l3':aC (λg=>w2.heap.size<=g/\g< w3.heap.size) w3 (flat (num p (t.eB e n) (t.nB n)).1) v3:=l3.sub λg G hd=>⟨hd,G⟩
  have hb10lt:=r2.th.lt;have hb47lt:=bd.lt;refine⟨Kp.mono (λg G=> .inl G) k3.kp,gB.one l3,⟨⟨_,r3.th.c3⟩,r3.th.f 3⟩,λw4 hw4=>?_⟩;have k4:Kr b10 w3 w4:=hw4▸Kr.set w3 3 _;have s4:=k4.size;have th4:=r3.th.Gf hw4;have s2:=r2.kp.size;have hl4:aC (λg=>(w.heap.size<=g/\g≠b47)/\g< w4.heap.size) w4 (flat (num p (t.eB e n) (t.nB n)).1) v3:=aC.sub (aC.kp l3' k4 λg G e=>by omega) λg _ G=>⟨⟨by omega,by omega⟩,by omega⟩
  obtain⟨e4,h4⟩:=hth _ _ v3 w4 rfl rfl (th4.ML ⟨⟨ο,R2 hn10⟩,th4.lt⟩) hl4;refine⟨r3.kp.out k4 (λg G e=>by omega) ε,?_,?_,e4,h4⟩
  ·rw [e2];exact m3.kp k4 (by omega)
  ·exact((bd.ex x2).kp k3.kp λg G e=>by omega).kp k4 λg G e=>by omega
 have hn0:∀{i:Int},0<=i->i.toNat=i.toNat:=λ _=>rfl
 cases t with
 | nil=>exact dc rfl (hR _ _ H.kp H.mc rp.done)
 | par p q=>
  refine aW (by dsimp only [T.kind];decide) (dc rfl ?_);have e1:n+(1+p.size+q.size)<=1099511627776:=by simpa only [T.size,Q9,R4,Nat.add_left_comm]using hn
  have W:=bW p e n;have h2:=jz (num p e n).1;rw [W.1]at h2;refine rp.step (i:=0) (ih p (by simp [T.parts])) (by omega) rfl J.1 (show n+p.size<=_ by omega) (by simp only [OX];omega) (by simp only [Lv.len];omega) λw2 ts2 M2 h=>?_
  refine h.step (i:=1) (ih q (by simp [T.parts])) (by omega) rfl J.2 (show(num p e n).2+q.size<=_ by omega) ?_ ?_ λw3 ts3 M3 h=>hR _ _ h.kp h.mc h.done
  ·show(flat (num p e n).1).1.length+q.size<=_;omega
  ·show(flat (num p e n).1).2.len+q.size<=_;omega
 | res x p=>
  refine aW (by dsimp only [T.kind];decide) (aW (by dsimp only [T.kind];decide) (dc rfl ?_));have e1:n+(1+p.size)<=1099511627776:=by simpa only [T.size,Q9,R4,Nat.add_left_comm]using hn
  have hx0:x≠0:=λhx=>by have :=bj J.1;rw [hx]at this;exact absurd this.1 (by decide)
  have e2:T.bA (.res x p) e n=n+101:=by simp [T.bA,T.cb,hx0,T.eB,T.bnd,aI]
  refine⟨_,H.th.c2,λb82 w83 hb82 υ=>?_⟩;have x83:Ex V w83:=υ▸Ex.alloc V _;have bd83:=bd.ex x83;obtain⟨vo,_,hvo,_⟩:=bd83.sl;refine⟨rfl,⟨⟨vo,hvo⟩,bd83.fr 0⟩,λw85 hw85=>?_⟩;rw [e2]at υ;have bd85:=bd.N5 (e:=0) hb82 υ hw85;have φ:Kr b47 V w85:=Kp.trans (Kp.af x83 _) (hw85▸Kr.set w83 0 _) λ _ _ h=>h
  have s85:=φ.size;have hl5:=H.env.hb;have hl10:=H.th.lt;have hs48:=H.kp.size;have rp85:RP D w w85 m (n+1) b5 b10 b47 (aI e x (n+101)) (.res x p) v [n+101] .nil [] (λg=>g=b47\/g=b82):=
   ⟨H.kp.out φ (λg G e=>by omega) ε,H.mc.kp φ (by omega),ε,H.env.kp φ (by omega),h105,by omega,aM.kp φ (λg G e=>by have :=hD g G;omega) rp.tm,hD,bd85,λg G=> .inr (by
    rcases G with rfl | rfl
    ·exact⟨by omega,by omega,by omega⟩
    ·exact⟨by omega,by omega,by omega⟩),rfl⟩
  exact rp85.step (i:=0) (ih p (by simp [T.parts])) (by omega) rfl J.2 (by omega) (by simp only [OF,OX];omega) (by simp only [Lv.len];omega) λw2 ts2 M2 h=>hR _ _ h.kp h.mc h.done
 | sum p q=>
  refine aW (by dsimp only [T.kind];decide) (aW (by dsimp only [T.kind];decide) (aW (by dsimp only [T.kind];decide) (dc rfl ?_)));have e1:n+(1+p.size+q.size)<=1099511627776:=by simpa only [T.size,Q9,R4,Nat.add_left_comm]using hn
  have W:=bW p e n;refine⟨λw'=>Kp V.drew w' (RQ w m b5 b10),λw2 α=>⟨α▸Kp.af (Ex.refl _) _,?_⟩⟩;have x2:Ex V w2:=α▸Ex.drew V;rw [<-α];have hs12:w2.heap.size=V.heap.size:=by rw [α];rfl
  have r2:=H.ex x2;refine Eu (kt r2.kp.kp) hRQ r2.env hq5 (i:=0) (by omega) rfl λx cs hx ι=>?_
  refine Eu (kt r2.kp.kp) hRQ r2.env hq5 (i:=1) (by omega) rfl λy cs' hy hcs'=>?_
  refine ih p (by simp [T.parts]) hx (λg G=>(hD g G).2) r2.mc ι J.1 (show n+p.size<=_ by omega) λv3 w3 k3 m3 l3=>?_
  have r3:=r2.go k3 m3;have s3:=k3.size;have l3':aC (λg=>w2.heap.size<=g/\g< w3.heap.size) w3 (flat (num p e n).1) v3:=l3.sub λg G hd=>⟨hd,G⟩
  refine⟨Kp.mono (λg G=> .inl G) k3.kp,?_⟩;refine ih q (by simp [T.parts]) (aM.kp k3.kp (λg G=>(hD g G).2) hy) (λg G=>(hD g G).2) m3 hcs' J.2 (show(num p e n).2+q.size<=_ by omega) λv4 w4 k4 m4 l4=>?_
  have r4:=r3.go k4 m4;have s4:=k4.size;have l4':aC (λg=>w3.heap.size<=g/\g< w4.heap.size) w4 (flat (num q e (num p e n).2).1) v4:=l4.sub λg G hd=>⟨hd,G⟩
  have k24:Kr m w2 w4:=Kr.trans k3.kp k4.kp;refine⟨Kp.mono (λg G=> .inl G) k24,gB.one l3,gB.one l4,λb124 w5 hb124 hw5=>?_⟩;have x5:Ex w4 w5:=hw5▸Ex.alloc w4 _;have s5:w5.heap.size=w4.heap.size+1:=by rw [hw5,size_alloc]
  have r5:=r4.ex x5;refine⟨Kp.trans (Kp.mono (λg G=> .inl G) k24) (Kp.af x5 λ _=>False) λ _ _ h=>h.elim,rfl,⟨⟨_,r5.th.c4⟩,r5.th.f 4⟩,λw6 δ=>?_⟩;have k6:Kr b10 w5 w6:=δ▸Kr.set w5 4 _;have s6:=k6.size;have th6:=r5.th.Ml δ;have s2:=r2.kp.size;have hb10lt:=r2.th.lt;have hb47lt:=bd.lt;refine⟨r5.kp.out k6 (λg G e=>by omega) ε,r5.mc.kp k6 (by omega),?_,rfl,?_⟩
  ·exact(((bd.ex x2).kp k24 λg G e=>by omega).ex x5).kp k6 λg G e=>by omega
  ·have hl3:aC (λg=>(w.heap.size<=g/\g≠b47)/\g< w6.heap.size) w6 (flat (num p e n).1) v3:=aC.sub (aC.kp (aC.ex (aC.kp l3' k4.kp λg G e=>by omega) x5) k6 λg G e=>by omega) λg _ G=>⟨⟨by omega,by omega⟩,by omega⟩
   have hl4:aC (λg=>(w.heap.size<=g/\g≠b47)/\g< w6.heap.size) w6 (flat (num q e (num p e n).2).1) v4:=aC.sub (aC.kp (aC.ex l4' x5) k6 λg G e=>by omega) λg _ G=>⟨⟨by omega,by omega⟩,by omega⟩
   refine⟨_,_,_,_,_,[v3,v4],rfl,th6.ML ⟨⟨ο,R2 hn10⟩,th6.lt⟩,.inr ⟨b124,0,2,rfl,⟨⟨by omega,by omega⟩,by omega⟩,by omega,λi z hz=>?_⟩,⟨v3,_,rfl,hl3,⟨v4,_,rfl,hl4,rfl⟩⟩,rfl⟩;rw [OG (w:=w5) (k6.block b124 (by omega) (by omega)),hw5,hb124,Ph];refine aa ?_
   match i,hz with
   | 0,hz=>simpa using hz
   | 1,hz=>simpa using hz
   | i+2,hz=>simp at hz
 | snd a b p=>
  refine aW (by dsimp only [T.kind];decide) (aW (by dsimp only [T.kind];decide) (aW (by dsimp only [T.kind];decide) (aW (by dsimp only [T.kind];decide) ?_)));refine β rfl (ih p (by simp [T.parts])) J.2.2 (show n+p.size<=_ by simp only [T.size]at hn;omega) rfl λa' b' vr w' ha hb W h2=>⟨rfl,?_⟩
  have ea:a'=e a:=by rw [ha];exact O1 λhx=>by have :=bj J.1;rw [show a=0 from hx]at this;exact absurd this.1 (by decide)
  have eb:b'=e b:=by rw [hb];exact O1 λhx=>by have :=bj J.2.1;rw [show b=0 from hx]at this;exact absurd this.1 (by decide)
  exact⟨_,_,_,_,_,rfl,W,.inr (.inr ⟨ea,eb⟩),h2,rfl⟩
 | mat a b p=>
  refine aW (by dsimp only [T.kind];decide) (aW (by dsimp only [T.kind];decide) (aW (by dsimp only [T.kind];decide) (aW (by dsimp only [T.kind];decide) ?_)));refine β rfl (ih p (by simp [T.parts])) J.2.2 (show n+p.size<=_ by simp only [T.size]at hn;omega) rfl λa' b' vr w' ha hb W h2=>⟨rfl,?_⟩
  have ea:a'=e a:=by rw [ha];exact O1 λhx=>by have :=bj J.1;rw [show a=0 from hx]at this;exact absurd this.1 (by decide)
  have eb:b'=e b:=by rw [hb];exact O1 λhx=>by have :=bj J.2.1;rw [show b=0 from hx]at this;exact absurd this.1 (by decide)
  exact⟨_,_,_,_,_,rfl,W,.inr (.inr ⟨ea,eb⟩),h2,rfl⟩
 | rcv a b p=>
  refine aW (by dsimp only [T.kind];decide) (aW (by dsimp only [T.kind];decide) (aW (by dsimp only [T.kind];decide) (aW (by dsimp only [T.kind];decide) ?_)));refine β rfl (ih p (by simp [T.parts])) J.2.2 (show n+1+p.size<=_ by simp only [T.size]at hn;omega) rfl λa' b' vr w' ha hb W h2=>⟨rfl,?_⟩
  have ea:a'=e a:=by rw [ha];exact O1 λhx=>by have :=bj J.1;rw [show a=0 from hx]at this;exact absurd this.1 (by decide)
  have eb:b'=n+101:=by
   rw [hb];refine(O1 λhx=>by have :=bj J.2.1;rw [show b=0 from hx]at this;exact absurd this.1 (by decide)).trans ?_;simp [T.eB,T.bnd,aI,T.cb]
  exact⟨_,_,_,_,_,rfl,W,.inr (.inr ⟨ea,eb⟩),h2,rfl⟩
 | tau p=>
  refine aW (by dsimp only [T.kind];decide) (aW (by dsimp only [T.kind];decide) (aW (by dsimp only [T.kind];decide) (aW (by dsimp only [T.kind];decide) ?_)));exact β rfl (ih p (by simp [T.parts])) J (show n+p.size<=_ by simp only [T.size]at hn;omega) rfl λa' b' vr w' ha hb W h2=>⟨rfl,⟨_,_,_,_,_,rfl,W,.inl rfl,h2,rfl⟩⟩
 | rep p=>
  refine aW (by dsimp only [T.kind];decide) (aW (by dsimp only [T.kind];decide) (aW (by dsimp only [T.kind];decide) (aW (by dsimp only [T.kind];decide) ?_)));exact β rfl (ih p (by simp [T.parts])) J (show n+p.size<=_ by simp only [T.size]at hn;omega) rfl λa' b' vr w' ha hb W h2=>⟨rfl,⟨_,_,_,_,_,rfl,W,.inr (.inl rfl),h2,rfl⟩⟩
theorem zH:∀{l:List Nat} {x:Nat},x∈l->x<=l.sum
 | y::l,x,h=>by
  rw [P0];rcases O4.1 h with rfl | h
  ·omega
  ·have :=zH h;omega
theorem K5:∀t:P,Fe t:=by
 have:∀(k:Nat) (t:P),t.size<=k->Fe t:=by
  intro k
  induction k with
  | zero=>intro t h;have :=a8 t;omega
  | succ k G=>
   intro t h;refine IQ λp H=>G p ?_
   have e:=uO t;have:p.size<=(t.parts.map T.size).sum:=zH (Pw.2 ⟨p,H,rfl⟩);omega
 exact λt=>this t.size t (OQ _)
end Go.Proofs.YtdecokaadekjnaaGreat
namespace Go.Proofs.YtdecokaadekjnaaGreat
open Go
attribute [go_sem] Tryz.f180
theorem ni (s1:Value)(w:World)(R:Value->Sl)(h:vc az (bf [] [] []) (ab Tryz.f180) (aj 0 [.v s1]) w (fin az [.tmp 2 .v] R)):
  Sm 180 #[s1] w (an [.v] R):=
 bD Tryz.func180 (by kernel_rfl) h
attribute [go_sem] Tryz.f181
theorem kY (G:Value)(w:World)(R:Bool->Sl)(h:vc az (bf [] [] []) (ab Tryz.f181) (aj 0 [.v G]) w (fin az [.tmp 2 .b] R)):
  Sm 181 #[G] w (an [.b] R):=
 bD Tryz.func181 (by kernel_rfl) h
attribute [go_sem] Tryz.f182
theorem nv (G:Value)(w:World)(R:Bool->Sl)(h:vc az (bf [] [] []) (ab Tryz.f182) (aj 0 [.v G]) w (fin az [.tmp 2 .b] R)):
  Sm 182 #[G] w (an [.b] R):=
 bD Tryz.func182 (by kernel_rfl) h
attribute [go_sem] Tryz.f240
theorem nj (t1:Value)(c2:Value)(w:World)(R:Bool->Sl)(h:vc az (bf [] [] []) (ab Tryz.f240) (aj 0 [.v t1,.v c2]) w (fin az [.tmp 3 .b] R)):
  Sm 240 #[t1,c2] w (an [.b] R):=
 bD Tryz.func240 (by kernel_rfl) h
attribute [go_sem] Tryz.f219
theorem hZ (s1:Value)(f2:Value)(w:World)(R:Int->Sl)(h:vc az (bf [(2,[(8,.i)])] [] []) (ab Tryz.f219) (aj 0 [.v s1,.v f2]) w (fin az [.tmp 4 .i] R)):
  Sm 219 #[s1,f2] w (an [.i] R):=
 bD Tryz.func219 (by kernel_rfl) h
attribute [go_sem] Tryz.f185
theorem fY (s1:Value)(f2:Value)(w:World)(R:Bool->Sl)(h:vc az (bf [] [] []) (ab Tryz.f185) (aj 0 [.v s1,.v f2]) w (fin az [.tmp 4 .b] R)):
  Sm 185 #[s1,f2] w (an [.b] R):=
 bD Tryz.func185 (by kernel_rfl) h
attribute [go_sem] Tryz.f220
theorem pE (G:Value)(H:Int)(w:World)(R:Bool->Sl)(h:vc az (bf [] [] []) (ab Tryz.f220) (aj 0 [.v G,.i H]) w (fin az [.tmp 4 .b] R)):
  Sm 220 #[G,(.int .i64 H)] w (an [.b] R):=
 bD Tryz.func220 (by kernel_rfl) h
attribute [go_sem] Tryz.f222
theorem lF (G:Value)(c2:Value)(w:World)(R:Bool->Sl)(h:vc az (bf [] [] []) (ab Tryz.f222) (aj 0 [.v G,.v c2]) w (fin az [.tmp 3 .b] R)):
  Sm 222 #[G,c2] w (an [.b] R):=
 bD Tryz.func222 (by kernel_rfl) h
attribute [go_sem] Tryz.f241
theorem iw (s1:Value)(f2:Value)(w:World)(R:Int->Sl)(h:vc az (bf [(2,[(8,.i)])] [] []) (ab Tryz.f241) (aj 0 [.v s1,.v f2]) w (fin az [.tmp 4 .i] R)):
  Sm 241 #[s1,f2] w (an [.i] R):=
 bD Tryz.func241 (by kernel_rfl) h
attribute [go_sem] Tryz.f221
theorem gv (s1:Value)(f2:Value)(w:World)(R:Bool->Sl)(h:vc az (bf [] [] []) (ab Tryz.f221) (aj 0 [.v s1,.v f2]) w (fin az [.tmp 4 .b] R)):
  Sm 221 #[s1,f2] w (an [.b] R):=
 bD Tryz.func221 (by kernel_rfl) h
attribute [go_sem] Tryz.f187
theorem nU (t1:Value)(G:Int)(w:World)(R:Bool->Sl)(h:vc az (bf [] [(2,[(5,.b)]),(4,[])] [(2,true,.lt 0 (.lt 1 (.lt 2 (.lt 3 (.lt 4 (.lt 5 (.lt 6 (.lt 7 (.lt 8 (.lt 9 (.lt 10 (.lt 11 (.lt 12 (.lt 13 (.lt 14 (.lt 15 (.lt 16 .done))))))))))))))))),(4,true,.lt 0 (.lt 1 (.lt 2 (.lt 3 (.lt 4 (.lt 5 (.lt 6 (.lt 7 (.lt 8 (.lt 9 (.lt 10 (.one .g 11 (.lt 12 (.lt 13 (.lt 14 (.lt 15 (.lt 16 (.lt 17 (.lt 18 (.one .g 19 (.lt 20 (.lt 21 .done))))))))))))))))))))))]) (ab Tryz.f187) (aj 0 [.v t1,.i G]) w (fin az [.tmp 4 .b] R)):
  Sm 187 #[t1,(.int .i64 G)] w (an [.b] R):=
 bD Tryz.func187 (by kernel_rfl) h
attribute [go_sem] Tryz.f186
theorem iY (t1:Value)(c2:Value)(w:World)(R:Bool->Sl)(h:vc az (bf [] [] []) (ab Tryz.f186) (aj 0 [.v t1,.v c2]) w (fin az [.tmp 3 .b] R)):
  Sm 186 #[t1,c2] w (an [.b] R):=
 bD Tryz.func186 (by kernel_rfl) h
attribute [go_sem] Tryz.f184
theorem jY (G:Int)(c2:Value)(w:World)(R:Bool->Sl)(h:vc az (bf [] [] []) (ab Tryz.f184) (aj 0 [.i G,.v c2]) w (fin az [.tmp 3 .b] R)):
  Sm 184 #[(.int .i64 G),c2] w (an [.b] R):=
 bD Tryz.func184 (by kernel_rfl) h
attribute [go_sem] Tryz.f218
theorem jG (s1:Value)(f2:Value)(w:World)(R:Int->Sl)(h:vc az (bf [(2,[(8,.i)])] [] []) (ab Tryz.f218) (aj 0 [.v s1,.v f2]) w (fin az [.tmp 4 .i] R)):
  Sm 218 #[s1,f2] w (an [.i] R):=
 bD Tryz.func218 (by kernel_rfl) h
attribute [go_sem] Tryz.f183
theorem iX (s1:Value)(d2:Value)(w:World)(R:Value->Sl)(h:vc az (bf [(5,[(5,.i),(6,.i)])] [] []) (ab Tryz.f183) (aj 0 [.v s1,.v d2]) w (fin az [.tmp 4 .v] R)):
  Sm 183 #[s1,d2] w (an [.v] R):=
 bD Tryz.func183 (by kernel_rfl) h
theorem lW (l1:Value)(w:World)(R:Value->Sl)(h:bH l1 λb2 o3=>bz w b2 (o3+0) λv4=>wQ 180 #[v4] w λv5 w6=>ay v5=true/\cc w6 (.cells #[v5,(.slice none 0 0)] 155) λb7 w8=>cc w8 (.cells #[(.pointer none)] 146) λb9 w10=>fH w10 b9 0 (.pointer (some ⟨b7,0,none⟩)) λw12=>bH l1 λb13 o14=>bz w12 b13 (o14+1) λv15=>dO v15 λl17=>kH 0 w12 λZ H G V=>bC (decide (G< (l17:Int))) (cJ v15 G λb23 o24=>bz V b23 (o24+G.toNat* 1) λα=>ja V λS28 w29=>bH α λb30 o31=>M6 S28 b30 (o31+0) λc32=>bH α λb33 o34=>wF S28 b33 (o34+1) λn35=>bH α λb36 o37=>wF S28 b36 (o37+2) λn38=>cc w29 (.cells #[(.int .u8 c32.toNat),(.int .i64 n35),(.int .i64 n38),(.pointer none),(.slice none 0 0)] 201) λb39 ν=>S28 ν/\bH α λb41 o42=>AV ν b41 (o42+0) λc43=>bC (decide (c43=43)) (bH α λb44 o45=>bz ν b44 (o45+4) λv46=>dO v46 λl48=>kH 0 ν λI50 ξ W β=>bC (decide (W< (l48:Int))) (cJ v46 W λb54 o55=>bz β b54 (o55+W.toNat* 1) λv58=>wQ 139 #[v58] β λv59 w60=>Db 181 #[v59] w60 λq61 w62=>bC q61 (a7 (W+1)/\I50 (W+1) w62/\ξ (W+1) w62< ξ W β) (Db 182 #[v59] w62 λq63 w64=>bC q63 (ja w64 λο w66=>dC ο b39 4 λv67=>bH v59 λb68 o69=>dC ο b68 (o69+1) λv70=>cJ v70 0 λb71 o72=>dC ο b71 (o72+Int.toNat 0* 1) λv75=>bH v75 λb76 o77=>dC ο b76 (o77+4) λv78=>iS 146 1 8 w66 v67 v78 λv84 w85=>ο w85/\ay v84=true/\fH w85 b39 4 v84 λw87=>a7 (W+1)/\I50 (W+1) w87/\ξ (W+1) w87< ξ W β) (bz w64 b39 4 λv88=>ay v59=true/\cc w64 (.cells #[v59] 146) λb89 w90=>iS 146 1 8 w90 v88 (.slice (some ⟨b89,0,none⟩) 1 1) λv96 w97=>ay v96=true/\fH w97 b39 4 v96 λw99=>a7 (W+1)/\I50 (W+1) w99/\ξ (W+1) w99< ξ W β))) (bz β b39 4 λv100=>dO v100 λl102=>bC (decide ((l102:Int)=0)) (a7 (G+1)/\Z (G+1) β/\H (G+1) β< H G V) (bC (decide ((l102:Int)=1)) (ja β λκ w105=>dC κ b9 0 λv106=>dC κ b39 4 λv107=>cJ v107 0 λb108 o109=>dC κ b108 (o109+Int.toNat 0* 1) λv112=>fC 179 #[v106,v112] w105 λς=>κ ς/\a7 (G+1)/\Z (G+1) ς/\H (G+1) ς< H G V) (ja β λγ w115=>dC γ b9 0 λv116=>dC γ b9 0 λv117=>bH v117 λb118 o119=>dC γ b118 (o119+1) λv120=>cc w115 (.cells #[(.pointer (some ⟨b39,0,none⟩))] 156) λb121 w122=>γ w122/\iS 156 1 8 w122 v120 (.slice (some ⟨b121,0,none⟩) 1 1) λv128 w129=>γ w129/\bH v116 λb130 o131=>ay v128=true/\fH w129 b130 (o131+1) v128 λw133=>a7 (G+1)/\Z (G+1) w133/\H (G+1) w133< H G V)))) (bH α λb134 o135=>bz ν b134 (o135+3) λv136=>wQ 139 #[v136] ν λv137 w138=>ay v137=true/\fH w138 b39 3 v137 λw140=>ja w140 λυ J=>bH α λb143 o144=>M6 υ b143 (o144+0) λc145=>bC (decide (c145=61)) (bH α λb146 o147=>wF υ b146 (o147+1) λn148=>bH α λb149 o150=>wF υ b149 (o150+2) λn151=>bC (decide (n148=n151)) (ja J λS152 w153=>dC S152 b9 0 λv154=>dC S152 b39 3 λv155=>fC 179 #[v154,v155] w153 λw156=>a7 (G+1)/\Z (G+1) w156/\H (G+1) w156< H G V) (bH α λb157 o158=>AV J b157 (o158+0) λc159=>G2 (decide (c159=61)) (bH α λb160 o161=>AV J b160 (o161+0) λc162=>bC (decide (c162=42)) (bz J b39 3 λv163=>Db 181 #[v163] J λq164 φ=>bC q164 (a7 (G+1)/\Z (G+1) φ/\H (G+1) φ< H G V) (ja φ λδ w167=>dC δ b9 0 λv168=>dC δ b9 0 λv169=>bH v169 λb170 o171=>dC δ b170 (o171+1) λv172=>cc w167 (.cells #[(.pointer (some ⟨b39,0,none⟩))] 156) λb173 w174=>δ w174/\iS 156 1 8 w174 v172 (.slice (some ⟨b173,0,none⟩) 1 1) λv180 w181=>δ w181/\bH v168 λb182 o183=>ay v180=true/\fH w181 b182 (o183+1) v180 λw185=>a7 (G+1)/\Z (G+1) w185/\H (G+1) w185< H G V)) (ja J λε w187=>dC ε b9 0 λv188=>dC ε b9 0 λv189=>bH v189 λb190 o191=>dC ε b190 (o191+1) λv192=>cc w187 (.cells #[(.pointer (some ⟨b39,0,none⟩))] 156) λb193 w194=>ε w194/\iS 156 1 8 w194 v192 (.slice (some ⟨b193,0,none⟩) 1 1) λv200 w201=>ε w201/\bH v188 λb202 o203=>ay v200=true/\fH w201 b202 (o203+1) v200 λw205=>a7 (G+1)/\Z (G+1) w205/\H (G+1) w205< H G V)) (bz J b39 3 λv206=>Db 181 #[v206] J λq207 χ=>bC q207 (a7 (G+1)/\Z (G+1) χ/\H (G+1) χ< H G V) (ja χ λζ w210=>dC ζ b9 0 λv211=>dC ζ b9 0 λv212=>bH v212 λb213 o214=>dC ζ b213 (o214+1) λv215=>cc w210 (.cells #[(.pointer (some ⟨b39,0,none⟩))] 156) λb216 w217=>ζ w217/\iS 156 1 8 w217 v215 (.slice (some ⟨b216,0,none⟩) 1 1) λv223 w224=>ζ w224/\bH v211 λb225 o226=>ay v223=true/\fH w224 b225 (o226+1) v223 λw228=>a7 (G+1)/\Z (G+1) w228/\H (G+1) w228< H G V)))) (bH α λb229 o230=>AV J b229 (o230+0) λc231=>G2 (decide (c231=61)) (bH α λb232 o233=>AV J b232 (o233+0) λc234=>bC (decide (c234=42)) (bz J b39 3 λv235=>Db 181 #[v235] J λq236 ψ=>bC q236 (a7 (G+1)/\Z (G+1) ψ/\H (G+1) ψ< H G V) (ja ψ λη w239=>dC η b9 0 λv240=>dC η b9 0 λv241=>bH v241 λb242 o243=>dC η b242 (o243+1) λv244=>cc w239 (.cells #[(.pointer (some ⟨b39,0,none⟩))] 156) λb245 w246=>η w246/\iS 156 1 8 w246 v244 (.slice (some ⟨b245,0,none⟩) 1 1) λv252 w253=>η w253/\bH v240 λb254 o255=>ay v252=true/\fH w253 b254 (o255+1) v252 λw257=>a7 (G+1)/\Z (G+1) w257/\H (G+1) w257< H G V)) (ja J λθ w259=>dC θ b9 0 λv260=>dC θ b9 0 λv261=>bH v261 λb262 o263=>dC θ b262 (o263+1) λv264=>cc w259 (.cells #[(.pointer (some ⟨b39,0,none⟩))] 156) λb265 w266=>θ w266/\iS 156 1 8 w266 v264 (.slice (some ⟨b265,0,none⟩) 1 1) λv272 w273=>θ w273/\bH v260 λb274 o275=>ay v272=true/\fH w273 b274 (o275+1) v272 λw277=>a7 (G+1)/\Z (G+1) w277/\H (G+1) w277< H G V)) (bz J b39 3 λv278=>Db 181 #[v278] J λq279 ω=>bC q279 (a7 (G+1)/\Z (G+1) ω/\H (G+1) ω< H G V) (ja ω λι w282=>dC ι b9 0 λv283=>dC ι b9 0 λv284=>bH v284 λb285 o286=>dC ι b285 (o286+1) λv287=>cc w282 (.cells #[(.pointer (some ⟨b39,0,none⟩))] 156) λb288 w289=>ι w289/\iS 156 1 8 w289 v287 (.slice (some ⟨b288,0,none⟩) 1 1) λv295 w296=>ι w296/\bH v283 λb297 o298=>ay v295=true/\fH w296 b297 (o298+1) v295 λw300=>a7 (G+1)/\Z (G+1) w300/\H (G+1) w300< H G V))))) (ja V λμ w302=>dC μ b9 0 λv303=>dC μ b9 0 λv304=>bH v304 λb305 o306=>dC μ b305 (o306+0) λv307=>wQ 183 #[v307,(Value.func (Fn.func 184) #[] #[(.pointer (some ⟨b9,0,none⟩))])] w302 λv308 w309=>μ w309/\bH v303 λb310 o311=>ay v308=true/\fH w309 b310 (o311+0) v308 λw313=>bz w313 b9 0 λv314=>R v314 w313)):
  Sm 139 #[l1] w (an [.v] R):=
 D5 (bf [(3,[(22,.i)]),(8,[(50,.i)])] [] [(5,true,.lt 0 (.lt 1 (.lt 2 (.lt 3 (.lt 4 (.lt 5 (.lt 6 (.lt 7 (.lt 8 (.lt 9 (.lt 10 (.lt 11 (.lt 12 (.one .g 13 (.lt 14 .done))))))))))))))),(14,true,.lt 0 (.lt 1 (.lt 2 (.lt 3 (.lt 4 (.lt 5 (.lt 6 (.lt 7 (.lt 8 (.lt 9 (.lt 10 (.lt 11 (.lt 12 (.lt 13 (.one .g 14 (.lt 15 (.lt 16 (.one .n 17 .done)))))))))))))))))),(17,true,.lt 0 (.lt 1 (.lt 2 (.lt 3 (.lt 4 (.lt 5 (.one .g 6 (.one .g 7 (.lt 8 (.lt 9 (.one .n 10 .done))))))))))),(20,true,.lt 0 (.lt 1 (.lt 2 (.lt 3 (.lt 4 (.lt 5 (.lt 6 (.one .g 7 .done)))))))),(22,true,.lt 0 (.lt 1 (.lt 2 (.lt 3 (.lt 4 (.lt 5 (.one .g 6 (.one .g 7 (.lt 8 (.lt 9 (.one .n 10 .done))))))))))),(23,true,.lt 0 (.lt 1 (.lt 2 (.lt 3 (.lt 4 (.lt 5 (.lt 6 (.lt 7 (.lt 8 (.lt 9 (.lt 10 (.lt 11 (.lt 12 (.lt 13 (.lt 14 (.lt 15 (.lt 16 .done))))))))))))))))),(24,true,.lt 0 (.lt 1 (.lt 2 (.lt 3 (.lt 4 (.one .n 5 .done)))))),(27,true,.lt 0 (.lt 1 (.lt 2 (.lt 3 (.lt 4 (.lt 5 (.one .g 6 (.lt 7 (.lt 8 (.one .n 9 .done))))))))))]) [.tmp 2 .v] [.v l1] Tryz.func139 (by kernel_rfl) h
end Go.Proofs.YtdecokaadekjnaaGreat
namespace Go.Proofs.YtdecokaadekjnaaGreat
open Go Go.RowKit
namespace Lv
def sz:Lv->Nat
 | nil=>0 | thr _ _ _ _ r n=>r.sz+n.sz+1 | sum ps n=>ps.sz+n.sz+1 | part _ q n=>q.sz+n.sz+1
def sh:Bool->Lv->Bool
 | _,nil=>true
 | true,thr _ _ _ _ r n=>sh true r&&sh true n
 | true,sum ps n=>sh false ps&&sh true n
 | false,part _ q n=>sh true q&&sh false n
 | _,_=>false
def bB:Lv->List Lv
 | nil=>[] | thr k a b o r n=>thr k a b o r nil::bB n | sum ps n=>sum ps nil::bB n | part o q n=>part o q nil::bB n
theorem cN:∀l:Lv,l.bB.length=l.len
 | nil=>rfl
 | thr _ _ _ _ _ n=>by simp only [bB,len,OF,cN n]
 | sum _ n=>by simp only [bB,len,OF,cN n]
 | part _ _ n=>by simp only [bB,len,OF,cN n]
theorem eJ:∀(l:Lv),∀e∈l.bB,e.sz<=l.sz
 | nil,_,h=>by cases h
 | thr k a b o r n,e,h=>by
  rcases O4.1 h with rfl | h
  ·simp only [sz];omega
  ·have :=eJ n e h;simp only [sz];omega
 | sum ps n,e,h=>by
  rcases O4.1 h with rfl | h
  ·simp only [sz];omega
  ·have :=eJ n e h;simp only [sz];omega
 | part o q n,e,h=>by
  rcases O4.1 h with rfl | h
  ·simp only [sz];omega
  ·have :=eJ n e h;simp only [sz];omega
theorem mD (x:Nat):∀l:Lv,l.has x=l.bB.any (·.has x)
 | nil=>rfl
 | thr k a b o r n=>by simp [bB,has,mD x n]
 | sum ps n=>by simp [bB,has,mD x n]
 | part o q n=>by simp [bB,has,mD x n]
theorem kB:∀{l:Lv},l.sh true=true->∀e∈l.bB,(∃k a b o r,e=thr k a b o r nil/\r.sh true=true)\/∃ps,e=sum ps nil/\ps.sh false=true
 | nil,_,_,h=>by cases h
 | thr k a b o r n,G,e,h=>by
  simp only [sh,OJ]at G;rcases O4.1 h with rfl | h
  ·exact .inl ⟨k,a,b,o,r,rfl,G.1⟩
  ·exact kB G.2 e h
 | sum ps n,G,e,h=>by
  simp only [sh,OJ]at G;rcases O4.1 h with rfl | h
  ·exact .inr ⟨ps,rfl,G.1⟩
  ·exact kB G.2 e h
 | part ..,G,_,_=>by cases G
theorem mQ:∀{l:Lv},l.sh false=true->∀e∈l.bB,∃o q,e=part o q nil/\q.sh true=true
 | nil,_,_,h=>by cases h
 | part o q n,G,e,h=>by
  simp only [sh,OJ]at G;rcases O4.1 h with rfl | h
  ·exact⟨o,q,rfl,G.1⟩
  ·exact mQ G.2 e h
 | thr ..,G,_,_=>by cases G
 | sum ..,G,_,_=>by cases G
theorem ib {b:Bool}:∀{l m:Lv},l.sh b=true->m.sh b=true->(l.app m).sh b=true
 | nil,_,_,h=>h
 | thr _ _ _ _ r n,m,G,h2=>by
  cases b
  ·cases G
  ·simp only [sh,app,OJ]at*;exact⟨G.1,ib G.2 h2⟩
 | sum ps n,m,G,h2=>by
  cases b
  ·cases G
  ·simp only [sh,app,OJ]at*;exact⟨G.1,ib G.2 h2⟩
 | part o q n,m,G,h2=>by
  cases b
  ·simp only [sh,app,OJ]at*;exact⟨G.1,ib G.2 h2⟩
  ·cases G
end Lv
theorem aP.cons {A B:Type}{R:A->B->Prop}{a:A}{b:B}{l:List A}{m:List B}(h:R a b)(h':aP R l m):aP R (a::l) (b::m):=(aP.one h).append h'
theorem ah.bB {D:Nat->Prop}{w:World}:∀{l:Lv} {ts:List Value},ah D w l ts->aP (λe v=>ah D w e [v]) l.bB ts
 | .nil,_,h=>by cases h;exact aP.nil
 | .thr k a b o r n,_,⟨t,G,a',V,vr,H,h2,J,h4,h5⟩=>by subst H;exact aP.cons ⟨t,[],a',V,vr,rfl,h2,J,h4,rfl⟩ (ah.bB (l:=n) h5)
 | .sum ps n,_,⟨t,G,a',V,vp,us,H,h2,J,h4,h5⟩=>by subst H;exact aP.cons ⟨t,[],a',V,vp,us,rfl,h2,J,h4,rfl⟩ (ah.bB (l:=n) h5)
 | .part o q n,_,⟨v,G,H,h2,J⟩=>by subst H;exact aP.cons ⟨v,[],rfl,h2,rfl⟩ (ah.bB (l:=n) J)
theorem eP.ex {D:Nat->Prop}{w w':World}{v:Value}{l:List Value}(h:eP D w v l)(x:Ex w w'):eP D w' v l:=h.kp (Kp.af x λ _=>False) λ _ _ h=>h
def Bl (w:World)(f:Nat)(ca:List Value)(ts:List Value)(p:Nat->Bool):Prop:=
 ∀(i:Nat) (x:Value) (w1:World),ts[i]?=some x->Ex w w1->∀{R:Bool->Sl},(∀w2,Ex w1 w2->R (p i) w2)->Sm f (List.toArray ([x]++ca)) w1 (an [.b] R)
theorem jC {n:Nat}{p:Nat->Bool}:(List.range n).any p=true↔∃i,i< n/\p i=true:=by
 simp [QP,Qc]
theorem HU {D:Nat->Prop}{w:World}{s:Value}{ts:List Value}(W:eP D w s ts){f:Nat}{ca:List Value}(hf:hasR gj f=true){p:Nat->Bool}(hp:Bl w f ca ts p)(hl:ts.length<=1099511627776){R:Bool->Sl}(hR:∀w',Ex w w'->R ((List.range ts.length).any p) w'):
  Sm 185 #[s,.func (.func f) #[] (List.toArray ca)] w (an [.b] R):=by
 refine fY _ _ w R ?_;dsimp only [go_sem];dsimp only [go_sem,UInt8.reduceOfNat,UInt32.reduceOfNat,Nat.reduceAdd];refine hZ _ _ w _ ?_;dsimp only [go_sem];dsimp only [go_sem,UInt8.reduceOfNat,UInt32.reduceOfNat,Nat.reduceAdd];obtain⟨a,cap,e⟩:=W.slice;refine⟨a,_,cap,e,λx w'=>∃i:Nat,x=i/\i<=ts.length/\Ex w w'/\∀j< i,p j=false,λx _=>(ts.length - x).toNat,⟨0,rfl,by omega,Ex.refl w,λj h=>by omega⟩,λx w1 hI=>?_⟩;obtain⟨i,rfl,hi,H,Z⟩:=hI;refine⟨λhc=>?_,λhc=>?_⟩
 ·have hc:=O7 hc;have G:i< ts.length:=by omega
  refine(W.ex H).get (i:=i) (x:=ts[i]) (by omega) (by simp [G]) ⟨f,ca,rfl,hf,hp i _ w1 (OH G) H λw2 J=>⟨λV=>?_,λV=>⟨by omega,⟨i+1,by omega,by omega,Ex.trans H J,λj hj=>?_⟩,by dsimp only;omega⟩⟩⟩
  ·have :=hR w2 (Ex.trans H J);rw [jC.2 ⟨i,G,V⟩]at this;have e:decide ((0:Int)<=i)=true:=PL (by omega);show R (decide ((0:Int)<=i)) w2;rw [e];exact this
  ·by_cases h:j=i
   ·subst h;exact V
   ·exact Z j (by omega)
 ·have hc:=O9 hc;have :=hR w1 H;have e:(List.range ts.length).any p=false:=by
   rw [Bool.eq_false_iff];intro h;obtain⟨j,hj,h⟩:=jC.1 h;rw [Z j (by omega)]at h;cases h
  rw [e]at this;exact this
theorem Hl {D:Nat->Prop}{w:World}{s:Value}{ts:List Value}(W:eP D w s ts){f:Nat}{ca:List Value}(hf:hasR gj f=true){p:Nat->Bool}(hp:Bl w f ca ts p)(hl:ts.length<=1099511627776){R:Bool->Sl}(hR:∀w',Ex w w'->R ((List.range ts.length).any p) w'):
  Sm 221 #[s,.func (.func f) #[] (List.toArray ca)] w (an [.b] R):=by
 refine gv _ _ w R ?_;dsimp only [go_sem];dsimp only [go_sem,UInt8.reduceOfNat,UInt32.reduceOfNat,Nat.reduceAdd];refine iw _ _ w _ ?_;dsimp only [go_sem];dsimp only [go_sem,UInt8.reduceOfNat,UInt32.reduceOfNat,Nat.reduceAdd];obtain⟨a,cap,e⟩:=W.slice;refine⟨a,_,cap,e,λx w'=>∃i:Nat,x=i/\i<=ts.length/\Ex w w'/\∀j< i,p j=false,λx _=>(ts.length - x).toNat,⟨0,rfl,by omega,Ex.refl w,λj h=>by omega⟩,λx w1 hI=>?_⟩;obtain⟨i,rfl,hi,H,Z⟩:=hI;refine⟨λhc=>?_,λhc=>?_⟩
 ·have hc:=O7 hc;have G:i< ts.length:=by omega
  refine(W.ex H).get (i:=i) (x:=ts[i]) (by omega) (by simp [G]) ⟨f,ca,rfl,hf,hp i _ w1 (OH G) H λw2 J=>⟨λV=>?_,λV=>⟨by omega,⟨i+1,by omega,by omega,Ex.trans H J,λj hj=>?_⟩,by dsimp only;omega⟩⟩⟩
  ·have :=hR w2 (Ex.trans H J);rw [jC.2 ⟨i,G,V⟩]at this;have e:decide ((0:Int)<=i)=true:=PL (by omega);show R (decide ((0:Int)<=i)) w2;rw [e];exact this
  ·by_cases h:j=i
   ·subst h;exact V
   ·exact Z j (by omega)
 ·have hc:=O9 hc;have :=hR w1 H;have e:(List.range ts.length).any p=false:=by
   rw [Bool.eq_false_iff];intro h;obtain⟨j,hj,h⟩:=jC.1 h;rw [Z j (by omega)]at h;cases h
  rw [e]at this;exact this
def MJ {A:Type}(l:List A)(f:A->Bool)(i:Nat):Bool:=(l[i]?.map f).getD false
theorem pt {A:Type}{l:List A}{f:A->Bool}{i:Nat}(h:i< l.length):MJ l f i=f l[i]:=by unfold MJ;rw [OH h];rfl
theorem zF {A:Type}{f:A->Bool}(l:List A):(List.range l.length).any (MJ l f)=l.any f:=by
 rw [PM,jC,QP];constructor
 ·rintro⟨i,hi,h⟩
  rw [pt hi]at h;exact⟨_,OP hi,h⟩
 ·rintro⟨x,G,h⟩
  obtain⟨i,hi,e⟩:=PD.1 G;exact⟨i,hi,by rw [pt hi,e];exact h⟩
theorem Dq {w w':World}{b n e:Nat}(hb:b=w.heap.size)(hw:w'=w.alloc (.cells #[iv n] e)):Ex w w'/\b< w'.heap.size/\w'.cell? ⟨b,0,none⟩=some (iv n):=by
 subst hb hw;exact⟨Ex.alloc w _,by rw [size_alloc];omega,aa rfl⟩
def Ef (n:Nat):Prop:=∀{D:Nat->Prop} {w:World} {v:Value} {o:List Nat} {l:Lv} {x:Nat} {R:Bool->Sl},l.sz<=n->l.sh true=true->gB D w v o (ah D w l)->l.sz<=1099511627776->(∀w',Ex w w'->R (l.has x) w')->Sm 220 #[v,iv x] w (an [.b] R)
def DE (n:Nat):Prop:=∀{D:Nat->Prop} {w:World} {v:Value} {l:Lv} {x:Nat} {R:Bool->Sl},l.sz<=n->((∃k a b o r,l= .thr k a b o r .nil/\r.sh true=true)\/∃ps,l= .sum ps .nil/\ps.sh false=true)->ah D w l [v]->l.sz<=1099511627776->
 (∀w',Ex w w'->R (l.has x) w')->Sm 187 #[v,iv x] w (an [.b] R)
theorem ox:∀l:Lv,l.len<=l.sz
 | .nil=>OQ _
 | .thr _ _ _ _ r n=>by have :=ox n;simp only [Lv.len,Lv.sz];omega
 | .sum ps n=>by have :=ox n;simp only [Lv.len,Lv.sz];omega
 | .part o q n=>by have :=ox n;simp only [Lv.len,Lv.sz];omega
theorem gB.ex {D:Nat->Prop}{w w':World}{v:Value}{o:List Nat}{l:Lv}(h:gB D w v o (ah D w l))(x:Ex w w'):gB D w' v o (ah D w' l):=aC.ex (L:=(o,l)) h x
theorem JL {n:Nat}(ht:DE n){D:Nat->Prop}{w:World}{l:Lv}{ts:List Value}{x b3:Nat}(hn:l.sz<=n)(V:l.sh true=true)(h:ah D w l ts)(α:l.sz<=1099511627776)(hb:b3< w.heap.size)(hc:w.cell? ⟨b3,0,none⟩=some (iv x)):
  Bl w 240 [ptr b3] ts (MJ l.bB (Lv.has x)):=by
 intro i v w1 hi Z R hR;have H:=h.bB;obtain⟨W,_⟩:=PB.1 hi;have G:i< l.bB.length:=by rw [H.1];exact W
 have he:=H.2 i l.bB[i] v (OH G) hi;have J:=OP G;have hs:=Lv.eJ l _ J;rw [pt G]at hR;refine nj v (ptr b3) w1 R ?_;dsimp only [go_sem];dsimp only [go_sem,UInt8.reduceOfNat,UInt32.reduceOfNat,Nat.reduceAdd];refine⟨b3,0,rfl,x,by rw [Z.cell (show b3< _ from hb)];exact hc,?_⟩;exact ht (by omega) (Lv.kB V _ J) (he.ex Z) (by omega) hR
theorem wW {n:Nat}(Z:DE n):Ef n:=by
 intro D w v o l x R hn G h H hR;refine pE v x w R ?_;dsimp only [go_sem];dsimp only [go_sem,UInt8.reduceOfNat,UInt32.reduceOfNat,Nat.reduceAdd];intro b3 w4 J V;obtain⟨W,l4,c4⟩:=Dq J V;obtain⟨b,vo,vt,ts,rfl,h2,h3,h4,h5,h6,h7,h8⟩:=h.ex W;refine⟨b,0,rfl,vt,h5,?_⟩;have hlen:=h8.len;have :=ox l;refine HU (ca:=[ptr b3]) h7 (by kernel_rfl) (JL Z hn G h8 H l4 c4) (by omega) λw5 x5=>?_
 rw [hlen,<-Lv.cN,zF,<-Lv.mD];exact hR w5 (Ex.trans W x5)
theorem KD {n:Nat}(ht:Ef n){D:Nat->Prop}{w:World}{l:Lv}{ts:List Value}{x b3:Nat}(hn:l.sz<=n)(V:l.sh false=true)(h:ah D w l ts)(β:l.sz<=1099511627776)(hb:b3< w.heap.size)(hc:w.cell? ⟨b3,0,none⟩=some (iv x)):
  Bl w 222 [ptr b3] ts (MJ l.bB (Lv.has x)):=by
 intro i v w1 hi hx R hR;have H:=h.bB;obtain⟨W,_⟩:=PB.1 hi;have G:i< l.bB.length:=by rw [H.1];exact W
 have he:=H.2 i l.bB[i] v (OH G) hi;have J:=OP G;have hs:=Lv.eJ l _ J;rw [pt G]at hR;refine lF v (ptr b3) w1 R ?_;dsimp only [go_sem];dsimp only [go_sem,UInt8.reduceOfNat,UInt32.reduceOfNat,Nat.reduceAdd];refine⟨b3,0,rfl,x,by rw [hx.cell (show b3< _ from hb)];exact hc,?_⟩;obtain⟨o,q,e,hq⟩:=Lv.mQ V _ J;rw [e]at he hR hs;obtain⟨v',Z,h1,h2,_⟩:=he;obtain⟨rfl,rfl⟩:v=v'/\([]:List Value)=Z:=by simpa using h1
 simp only [Lv.sz]at hs;refine ht (by omega) hq (gB.ex h2 hx) (by omega) λw2 α=>?_
 have :=hR w2 α;simpa [Lv.has]using this
def Jw (k:K)(a b x:Nat):Bool:=(k== .s||k== .m||k== .r)&&(a==x||b==x)
theorem FR {n:Nat}(ht:Ef n):DE (n+1):=by
 intro D w v l x R hn hl h ν hR;refine nU v x w R ?_;dsimp only [go_sem];dsimp only [go_sem,UInt8.reduceOfNat,UInt32.reduceOfNat,Nat.reduceAdd];intro b3 W ψ ω;obtain⟨x4,l4,c4⟩:=Dq ψ ω;rcases hl with⟨k,a,b,o,r,rfl,hr⟩ | ⟨ps,rfl,hps⟩
 ·obtain⟨_,_,a',b',vr,e,θ,hab,ξ,_⟩:=h.ex x4;obtain⟨rfl,_⟩:=PQ e;simp only [Lv.sz]at hn ν;have ζ:∀q w',Ex W w'->q=r.has x->Jw k a b x=false->R q w':=λq w' H hq hn=>by
   have :=hR w' (Ex.trans x4 H);simp only [Lv.has]at this;unfold Jw at hn;rw [hn,Rq,Q8,<-hq]at this;exact this
  have γ:∀w',Ex W w'->Jw k a b x=true->R true w':=λw' H hn=>by
   have :=hR w' (Ex.trans x4 H);simp only [Lv.has]at this;unfold Jw at hn;rw [hn,Bool.true_or,Bool.true_or]at this;exact this
  obtain⟨g,rfl,g2,g3,g4,g5,g6,g7,g8⟩:=θ;have ι:∀q:Bool,q=(k== .s||k== .m||k== .r)->∀w',Ex W w'->((k== .s||k== .m||k== .r)=true->(a'=a/\b'=b))->True:=λ _ _ _ _ _=>trivial
  have ο:(k== .s||k== .m||k== .r)=true->a'=a/\b'=b:=by
   intro hk;rcases hab with rfl | rfl | h
   ·cases hk
   ·cases hk
   ·exact h
  refine⟨λq w'=>Ex W w'/\q=(k== .s||k== .m||k== .r),⟨g,0,rfl,_,g4,?_⟩,λq α hJ=>?_⟩
  ·cases k
   ·exact dQ rfl ⟨Ex.refl _,rfl⟩
   ·exact cF (by dsimp only [K.byte];decide) ⟨g,0,rfl,_,g4,cF (by dsimp only [K.byte];decide) ⟨g,0,rfl,_,g4,Ex.refl _,rfl⟩⟩
   ·exact cF (by dsimp only [K.byte];decide) ⟨g,0,rfl,_,g4,cF (by dsimp only [K.byte];decide) ⟨g,0,rfl,_,g4,Ex.refl _,rfl⟩⟩
   ·exact cF (by dsimp only [K.byte];decide) ⟨g,0,rfl,_,g4,dQ rfl ⟨Ex.refl _,rfl⟩⟩
   ·exact cF (by dsimp only [K.byte];decide) ⟨g,0,rfl,_,g4,cF (by dsimp only [K.byte];decide) ⟨g,0,rfl,_,g4,Ex.refl _,rfl⟩⟩
  obtain⟨β,hq⟩:=hJ;have cg:∀{i:Nat} {u:Value} {w':World},Ex W w'->W.cell? ⟨g,i,none⟩=some u->w'.cell? ⟨g,i,none⟩=some u:=λH h=>by rw [H.cell (show g< _ from g3)];exact h
  have cb:∀{w':World},Ex W w'->w'.cell? ⟨b3,0,none⟩=some (iv x):=λH=>by rw [H.cell (show b3< _ from l4)];exact c4
  have dn:∀m:Nat,decide ((m:Int)=(x:Int))=(m==x):=λm=>by
   rw [PM,decide_eq_true_iff,Rb];omega
  refine⟨λw'=>Ex W w'/\Jw k a b x=false,⟨λw'=>Ex W w',λς J=>⟨J▸Ex.trans β (Ex.drew α),λκ=>?_,λυ=>?_⟩⟩,λδ hJ=>?_⟩
  ·have μ:Ex W ς:=J▸Ex.trans β (Ex.drew α);rw [κ]at hq;obtain⟨rfl,rfl⟩:=ο hq.symm;refine⟨g,0,rfl,a',λw' H=>cg H g5,x,λw' H=>cb H,λha=>⟨g,0,rfl,b',λw' H=>cg H g6,x,λw' H=>cb H,λhb=>?_,λhb=>?_⟩,λha=>?_⟩
   ·rw [dn]at hb;exact γ _ μ (by unfold Jw;rw [<-hq,hb];simp)
   ·rw [dn]at ha hb;exact⟨μ,by unfold Jw;rw [ha,hb];simp⟩
   ·rw [dn]at ha;exact γ _ μ (by unfold Jw;rw [<-hq,ha];simp)
  ·rw [υ]at hq;exact⟨J▸Ex.trans β (Ex.drew α),by unfold Jw;rw [<-hq];simp⟩
  obtain⟨ε,ι⟩:=hJ;obtain⟨br,hvr⟩:∃br,vr=ptr br:=by obtain⟨b,_,_,_,e,_⟩:=ξ;exact⟨b,e⟩
  refine⟨λw'=>Ex W w',λφ V=>⟨V▸Ex.trans ε (Ex.drew δ),g,0,rfl,vr,λw' H=>cg H g7,_,hvr,λ _=>⟨g,0,rfl,vr,λw' H=>cg H g7,x,λw' H=>cb H,?_⟩,λhc=>(by cases hc)⟩⟩;have G:Ex W φ:=V▸Ex.trans ε (Ex.drew δ);refine ht (by omega) hr (gB.ex ξ G) (by omega) λw40 Z=>⟨Ex.trans G Z,λhq=>⟨g,0,rfl,_,λw' H=>cg H g8,?_⟩,λhq=>⟨Ex.trans G Z,ζ _ _ (Ex.trans G Z) hq.symm ι⟩⟩
  refine Hl (D:=D) (ts:=[]) (ca:=[ptr b3]) (p:=λ _=>false) (.inl ⟨rfl,rfl⟩) (by kernel_rfl) (λi z w1 hi=>by simp at hi) (by simp) λw45 η=>⟨Ex.trans (Ex.trans G Z) η,ζ _ _ (Ex.trans (Ex.trans G Z) η) (by rw [hq];rfl) ι⟩
 ·obtain⟨_,_,a',b',vp,us,e,θ,hsl,χ,_⟩:=h.ex x4;obtain⟨rfl,_⟩:=PQ e;simp only [Lv.sz]at hn ν;obtain⟨g,rfl,g2,g3,g4,g5,g6,g7,g8⟩:=θ;have cg:∀{i:Nat} {u:Value} {w':World},Ex W w'->W.cell? ⟨g,i,none⟩=some u->w'.cell? ⟨g,i,none⟩=some u:=λH h=>by rw [H.cell (show g< _ from g3)];exact h
  refine⟨λq w'=>Ex W w'/\q=false,⟨g,0,rfl,_,g4,cF (by decide) ⟨g,0,rfl,_,g4,cF (by decide) ⟨g,0,rfl,_,g4,Ex.refl _,rfl⟩⟩⟩,λq α hJ=>?_⟩;obtain⟨β,rfl⟩:=hJ;refine⟨λw'=>Ex W w',⟨λw'=>Ex W w',λς J=>⟨J▸Ex.trans β (Ex.drew α),λκ=>(by cases κ),λυ=>J▸Ex.trans β (Ex.drew α)⟩⟩,λδ ε=>?_⟩;have G:Ex W δ.drew:=Ex.trans ε (Ex.drew δ);refine⟨λw'=>Ex W w',λφ V=>⟨V▸G,g,0,rfl,_,λw' H=>cg H g7,_,rfl,λhc=>(by cases hc),λ _=>⟨V▸G,g,0,rfl,vp,λw' H=>cg H g8,?_⟩⟩⟩;subst V;have hlen:=χ.len;have :=ox ps;refine Hl (ca:=[ptr b3]) (hsl.ex G) (by kernel_rfl) (KD ht (by omega) hps (χ.ex G) (by omega) (by have :=G.size;omega) (by rw [G.cell (show b3< _ from l4)];exact c4)) (by omega) λw5 x5=>⟨Ex.trans G x5,?_⟩
  rw [hlen,<-Lv.cN,zF,<-Lv.mD];have :=hR w5 (Ex.trans x4 (Ex.trans G x5));simpa [Lv.has]using this
theorem Cc:∀n,DE n
 | 0=>by
  intro G H h J hR;rcases H with⟨k,a,b,o,r,rfl,hr⟩ | ⟨ps,rfl,V⟩<;>simp [Lv.sz]at G
 | n+1=>FR (wW (Cc n))
theorem My (n:Nat):Ef n:=wW (Cc n)
namespace Lv
def tot:Lv->Nat
 | nil=>0 | thr _ _ _ o r n=>o.length+r.tot+n.tot+1 | sum ps n=>ps.tot+n.tot+1 | part o q n=>o.length+q.tot+n.tot+1
theorem kj:∀l:Lv,l.sz<=l.tot
 | nil=>OQ _
 | thr _ _ _ o r n=>by have :=kj r;have :=kj n;simp only [sz,tot];omega
 | sum ps n=>by have :=kj ps;have :=kj n;simp only [sz,tot];omega
 | part o q n=>by have :=kj q;have :=kj n;simp only [sz,tot];omega
theorem cn:∀l m:Lv,(l.app m).tot=l.tot+m.tot
 | nil,m=>by simp [app,tot]
 | thr _ _ _ o r n,m=>by simp only [app,tot,cn n m];omega
 | sum ps n,m=>by simp only [app,tot,cn n m];omega
 | part o q n,m=>by simp only [app,tot,cn n m];omega
def take:Nat->Lv->Lv
 | 0,_=>nil
 | _+1,nil=>nil
 | i+1,thr k a b o r n=>thr k a b o r (n.take i)
 | i+1,sum ps n=>sum ps (n.take i)
 | i+1,part o q n=>part o q (n.take i)
theorem take_succ:∀(l:Lv) (i:Nat) (h:i< l.bB.length),l.take (i+1)=(l.take i).app (l.bB[i])
 | nil,_,h=>by simp [bB]at h
 | thr k a b o r n,0,_=>by simp [take,bB,app]
 | sum ps n,0,_=>by simp [take,bB,app]
 | part o q n,0,_=>by simp [take,bB,app]
 | thr k a b o r n,i+1,h=>by
  simp only [bB,OF]at h;have :=take_succ n i (by omega);rw [take,this];rfl
 | sum ps n,i+1,h=>by
  simp only [bB,OF]at h;have :=take_succ n i (by omega);rw [take,this];rfl
 | part o q n,i+1,h=>by
  simp only [bB,OF]at h;have :=take_succ n i (by omega);rw [take,this];rfl
theorem dq:∀(l:Lv),l.take l.bB.length=l
 | nil=>rfl
 | thr k a b o r n=>by simp only [bB,OF,take,dq n]
 | sum ps n=>by simp only [bB,OF,take,dq n]
 | part o q n=>by simp only [bB,OF,take,dq n]
theorem pM {b:Bool}:∀(l:Lv) (i:Nat),l.sh b=true->(l.take i).sh b=true
 | _,0,_=>rfl
 | nil,_+1,_=>rfl
 | thr _ _ _ _ r n,i+1,h=>by
  cases b
  ·cases h
  ·simp only [sh,take,OJ]at*;exact⟨h.1,pM n i h.2⟩
 | sum ps n,i+1,h=>by
  cases b
  ·cases h
  ·simp only [sh,take,OJ]at*;exact⟨h.1,pM n i h.2⟩
 | part o q n,i+1,h=>by
  cases b
  ·simp only [sh,take,OJ]at*;exact⟨h.1,pM n i h.2⟩
  ·cases h
theorem gh:∀(l:Lv) (i:Nat),(l.take i).tot<=l.tot
 | _,0=>Px _
 | nil,_+1=>OQ _
 | thr _ _ _ _ r n,i+1=>by have :=gh n i;simp only [take,tot];omega
 | sum ps n,i+1=>by have :=gh n i;simp only [take,tot];omega
 | part o q n,i+1=>by have :=gh n i;simp only [take,tot];omega
theorem gJ:∀(l:Lv),∀e∈l.bB,e.tot<=l.tot
 | nil,_,h=>by cases h
 | thr k a b o r n,e,h=>by
  rcases O4.1 h with rfl | h
  ·simp only [tot];omega
  ·have :=gJ n e h;simp only [tot];omega
 | sum ps n,e,h=>by
  rcases O4.1 h with rfl | h
  ·simp only [tot];omega
  ·have :=gJ n e h;simp only [tot];omega
 | part o q n,e,h=>by
  rcases O4.1 h with rfl | h
  ·simp only [tot];omega
  ·have :=gJ n e h;simp only [tot];omega
theorem mG:∀{l:Lv},l.sh true=true->l.fZ=true
 | nil,_=>rfl
 | thr _ _ _ _ r n,h=>by simp only [sh,OJ]at h;exact mG (l:=n) h.2
 | sum ps n,h=>by simp only [sh,OJ]at h;exact mG (l:=n) h.2
 | part ..,h=>by cases h
theorem tG (o:List Nat)(r:List Nat×Lv):(kept o r).1.length+(kept o r).2.tot<=o.length+r.1.length+r.2.tot:=by
 unfold kept;have :=QI (λx=>r.2.has x) (o++r.1);rw [OM]at this;dsimp only;omega
theorem mP (o:List Nat)(q m:Lv):prt o q m=(prt o q nil).app m:=by
 unfold prt;split
 ·rfl
 ·split
  ·rw [aY]
  ·rfl
 ·rfl
theorem eF:∀(l:Lv),(tid l).1.length+(tid l).2.tot<=l.tot
 | nil=>OQ _
 | thr k a b o r n=>by
  have G:=eF r;have h2:=eF n;have H:=tG o (tid r);simp only [tid,tot];split
  ·simp only [OM,cn];omega
  ·split
   ·omega
   ·simp only [tot];omega
 | sum ps n=>by
  have G:=eF ps;have h2:=eF n;simp only [tid,tot];unfold spl;split
  ·omega
  ·rename_i o q e;rw [e]at G;simp only [tot]at G;simp only [OM,cn];omega
  ·simp only [tot];omega
 | part o q n=>by
  have G:=eF q;have h2:=eF n;have H:=tG o (tid q);simp only [tid,tot];rw [mP,cn];have:(prt (kept o (tid q)).1 (kept o (tid q)).2 nil).tot<=(kept o (tid q)).1.length+(kept o (tid q)).2.tot+1:=by
   unfold prt;split
   ·simp [tot]
   ·rename_i ps e;rw [e];split
    ·simp only [cn,tot];omega
    ·simp only [tot];omega
   ·simp only [tot];omega
  simp only [OX];omega
theorem BE:∀{l:Lv} (m:Lv),l.sh false=true->(tid (l.app m)).2=(tid l).2.app (tid m).2
 | nil,m,_=>rfl
 | part o q n,m,h=>by
  simp only [sh,OJ]at h;simp only [app,tid,BE m h.2];rw [mP,mP _ _ (tid n).2,cI]
 | thr ..,_,h=>by cases h
 | sum ..,_,h=>by cases h
theorem dV:∀(l:Lv) (b:Bool),l.sh b=true->(tid l).2.sh b=true
 | nil,b,_=>by cases b<;>rfl
 | thr k a H o r n,b,h=>by
  cases b
  ·cases h
  ·simp only [sh,OJ]at h;simp only [tid];split
   ·exact ib (dV r true h.1) (dV n true h.2)
   ·split
    ·exact dV n true h.2
    ·simp only [sh,OJ];exact⟨dV r true h.1,dV n true h.2⟩
 | sum ps n,b,h=>by
  cases b
  ·cases h
  ·simp only [sh,OJ]at h;have G:=dV ps false h.1;have h2:=dV n true h.2;simp only [tid];unfold spl;split
   ·exact h2
   ·rename_i o q e;rw [e]at G;simp only [sh,OJ]at G;exact ib G.1 h2
   ·simp only [sh,OJ];exact⟨G,h2⟩
 | part o q n,b,h=>by
  cases b
  ·simp only [sh,OJ]at h;have G:=dV q true h.1;have h2:=dV n false h.2;simp only [tid];rw [mP];refine ib ?_ h2;unfold prt;split
   ·rfl
   ·rename_i ps e;have G:(kept o (tid q)).2.sh true=true:=G;rw [e]at G;simp only [sh,OJ]at G;split
    ·rw [aY];exact G.1
    ·simp only [sh,OJ];exact⟨by rw [e];simp [sh,G.1],trivial⟩
   ·simp only [sh,OJ];exact⟨G,trivial⟩
  ·cases h
end Lv
theorem aF.fr {e B:Nat}{w:World}{v:Value}{l:List Value}(h:aF e B w v l){g:Nat}(H:v.ownBlock=some g)(j:Nat):w.frozen? ⟨g,j,none⟩=false:=by
 rcases h.2 with⟨rfl,V⟩ | ⟨J,cap,cur,rfl,hb,G,_⟩
 ·cases H
 ·have e:J=g:=Pz H;subst e;unfold World.frozen?;simp only [G];simp
theorem yr {D:Nat->Prop}{w:World}{v:Value}{o:List Nat}(h:eP D w v (o.map iv))(hl:o.length<=1099511627776){R:Value->Sl}(hR:∀v' w',Ex w w'->aF 3 w.heap.size w' v' (o.map iv)->R v' w'):
  Sm 180 #[v] w (an [.v] R):=by
 refine ni v w R ?_;dsimp only [go_sem];dsimp only [go_sem,UInt8.reduceOfNat,UInt32.reduceOfNat,Nat.reduceAdd];rcases id h with⟨rfl,e⟩ | ⟨b,off,cap,rfl,h1,h2,h3⟩
 ·exact⟨_,_,_,rfl,λ _=>hR _ _ (Ex.refl w) (e▸aF.nil _ _ _),λh=>(by cases h)⟩
 ·refine⟨_,_,_,rfl,λh=>(by cases h),λ _ b5 W J G=>?_⟩;have H:Ex w W:=G▸Ex.alloc w _;have ho:aF 3 w.heap.size W (.slice (some ⟨b5,0,none⟩) 0 0) []:=by
   subst J G;refine⟨rfl,.inr ⟨_,0,#[],rfl,OQ _,?_,by simp,by unfold maxLen;omega,rfl,rfl⟩⟩;unfold World.alloc;simp
  refine aF.push ho H.size (h.ex H) (IV o) (by omega) (by simp;exact hl) λv' w' V Z hn=>hR v' w' ?_ V
  refine Ex.below H (Kp.below (S:=λg=>g=b5) (Kp.aJ Z λg e=>(Pz e).symm) H.size λg Z e=>by omega)
theorem aK {b:Nat}:∀(cs:List Value) (w:World) (off:Nat),Kr b w (w.setCells b off cs)/\(∀g j,(w.setCells b off cs).frozen? ⟨g,j,none⟩=w.frozen? ⟨g,j,none⟩)/\(∀j,j< off->(w.setCells b off cs).cell? ⟨b,j,none⟩=w.cell? ⟨b,j,none⟩)/\
  ∀j,(∀i,i< cs.length->∃u,w.cell? ⟨b,off+i,none⟩=some u)->j< cs.length->(w.setCells b off cs).cell? ⟨b,off+j,none⟩=cs[j]?
 | [],w,off=>⟨Kr.refl b w,λ _ _=>rfl,λ _ _=>rfl,λ _ _ h=>by simp at h⟩
 | c::cs,w,off=>by
  obtain⟨H,h2,G,h4⟩:=aK cs (w.setCell ⟨b,off,none⟩ c) (off+1);refine⟨Kr.trans (Kr.set w off c) H,λg j=>(h2 g j).trans (O0 _ _ _ _),λj hj=>(G j (by omega)).trans (OL _ _ _ _ λe=>by injection e with J V;omega),λj hu hj=>?_⟩;cases j with
  | zero=>
   obtain⟨u,hu⟩:=hu 0 (by simp);exact(G off (by omega)).trans (OY _ _ _ hu)
  | succ j=>
   have :=h4 j (λi hi=>by
    obtain⟨u,hu⟩:=hu (i+1) (by simpa using hi);refine⟨u,?_⟩;rw [OL _ _ _ _ (λe=>by injection e with J V;omega),show off+1+i=off+(i+1) by omega];exact hu) (by simpa using hj)
   rw [show off+1+j=off+(j+1) by omega]at this;exact this
theorem eP.Nq {D:Nat->Prop}{w:World}{v:Value}{o:List Nat}(h:eP D w v (o.map iv)){i:Int}{x:Nat}(G:0<=i)(H:o[i.toNat]?=some x){Q:Int->Prop}(J:Q x):
  ∃(b off len cap:Nat),v=Value.slice (some ⟨b,off,none⟩) len cap/\0<=i/\i< (len:Int)/\∃n:Int,World.cell? w ⟨b,off+Int.toNat i* 1,none⟩=some (.int .i64 n)/\Q n:=by
 obtain⟨b,off,len,cap,V,h2,W,s,h4,h5⟩:=h.get (i:=i) (x:=iv x) (Q:=λs=>s=iv x) G (by rw [Qu,H];rfl) rfl;exact⟨b,off,len,cap,V,h2,W,x,by rw [h4,h5],J⟩
def MI (w:World)(S:Nat->Prop)(f:Nat)(ca:List Value)(p:Nat->Bool):Prop:=
 ∀(x:Nat) (w1:World),Kp w w1 S->∀{R:Bool->Sl},(∀w2,Ex w1 w2->R (p x) w2)->Sm f (List.toArray ([iv x]++ca)) w1 (an [.b] R)
theorem Mz {D S:Nat->Prop}{w:World}{s:Value}{o:List Nat}(Z:eP D w s (o.map iv)){f:Nat}{ca:List Value}(hf:hasR gj f=true){p:Nat->Bool}(hp:MI w S f ca p)(hl:o.length<=1099511627776){R:Int->Sl}
  (hR:∀(n:Int) w',Ex w w'->((n= -1/\∀x∈o,p x=false)\/(∃i:Nat,n=i/\i< o.length/\(∀x∈o.take i,p x=false)/\∀x,o[i]?=some x->p x=true))->R n w'):
  Sm 218 #[s,.func (.func f) #[] (List.toArray ca)] w (an [.i] R):=by
 refine jG _ _ w R ?_;dsimp only [go_sem];dsimp only [go_sem,UInt8.reduceOfNat,UInt32.reduceOfNat,Nat.reduceAdd];obtain⟨a,cap,e⟩:=Z.slice;rw [O8]at e;refine⟨a,_,cap,e,λx w'=>∃i:Nat,x=i/\i<=o.length/\Ex w w'/\∀x∈o.take i,p x=false,λx _=>(o.length - x).toNat,⟨0,rfl,by omega,Ex.refl w,λj h=>by simp at h⟩,λx w1 hI=>?_⟩;obtain⟨i,rfl,hi,H,V⟩:=hI;refine⟨λhc=>?_,λhc=>?_⟩
 ·have hc:=O7 hc;have G:i< o.length:=by omega
  refine(Z.ex H).Nq (i:=i) (x:=o[i]) (by omega) (by simp [G]) ⟨f,ca,rfl,hf,hp o[i] w1 (Kp.af H _) λw2 J=>⟨λW=>?_,λW=>⟨by omega,⟨i+1,by omega,by omega,Ex.trans H J,λx hj=>?_⟩,by dsimp only;omega⟩⟩⟩
  ·exact hR _ w2 (Ex.trans H J) (.inr ⟨i,rfl,G,V,λx H=>by rw [OH G]at H;cases H;exact W⟩)
  ·rw [OK G]at hj;rcases OS.1 hj with h | h
   ·exact V x h
   ·rw [OO.1 h];exact W
 ·have hc:=O9 hc;have:i=o.length:=by omega
  subst this;rw [Pa]at V;exact hR _ w1 H (.inl ⟨rfl,V⟩)
theorem H' {B:Nat}{w:World}{s:Value}{o:List Nat}(h:aF 3 B w s (o.map iv)){f:Nat}{ca:List Value}(hf:hasR gj f=true){p:Nat->Bool}(hp:MI w (λg=>s.ownBlock=some g) f ca p)(hl:o.length<=1099511627776){R:Value->Sl}
  (hR:∀v' w',ay v'=true->Kp w w' (λg=>s.ownBlock=some g)->eP (λg=>s.ownBlock=some g) w' v' ((o.filter λx=> !p x).map iv)->R v' w'):
  Sm 183 #[s,.func (.func f) #[] (List.toArray ca)] w (an [.v] R):=by
 refine iX _ _ w R ?_;dsimp only [go_sem];dsimp only [go_sem,UInt8.reduceOfNat,UInt32.reduceOfNat,Nat.reduceAdd];have δ:eP (λg=>s.ownBlock=some g) w s (o.map iv):=h.E4 λg hg=>hg
 have κ:ay s=true:=by
  rcases h.2 with⟨rfl,_⟩ | ⟨g,cap,cur,rfl,_⟩<;>rfl
 refine Mz δ hf hp hl λn w1 x1 hn=>⟨λhc=>?_,λhc=>?_⟩
 ·have hc:n= -1:=O7 hc;rcases hn with⟨_,hn⟩ | ⟨i,e,_⟩
  ·refine hR _ _ κ (Kp.af x1 _) ?_;rw [R6.2 λx hx=>by simp [hn x hx]];exact δ.ex x1
  ·omega
 have hc:¬n= -1:=O9 hc;obtain⟨i0,rfl,ε,hn,μ⟩:∃i:Nat,n=i/\i< o.length/\(∀x∈o.take i,p x=false)/\∀x,o[i]?=some x->p x=true:=by
  rcases hn with⟨e,_⟩ | h
  ·exact absurd e hc
  ·exact h
 rcases id h.2 with⟨rfl,θ⟩ | ⟨g,cap,cur,rfl,hb,hg,hle,φ,χ,ψ⟩
 ·simp at θ;subst θ;simp at ε
 rw [O8]at*;have ζ:∀t,t< o.length->∃x,w1.cell? ⟨g,t,none⟩=some (iv x)/\o[t]?=some x:=λt G=>by
  rcases δ.ex x1 with⟨e,_⟩ | ⟨b',off,υ,e,h1,h2,h3⟩
  ·cases e
  ·injection e with e1 e2 e3
   injection e1 with e1
   injection e1 with e1 e4
   subst e1 e4;have :=h3 t (iv o[t]) (by simp [G]);rw [Ph]at this;exact⟨_,this,OH G⟩
 have ν:∀t,w1.frozen? ⟨g,t,none⟩=false:=λt=>by
  rw [Pd (w:=w) (x1.block g (Ps.1 hg).1)];exact h.fr rfl t
 let q:Nat->Bool:=λx=> !p x
 refine⟨by omega,λi j w'=>∃(H J:Nat) (c:Nat->Nat),i=H/\j=J/\H< J/\J<=o.length/\Kp w w' (λx=>g=x)/\(∀t,t< o.length->w'.cell? ⟨g,t,none⟩=some (iv (c t)))/\(∀t,w'.frozen? ⟨g,t,none⟩=false)/\
  (List.range H).map c=(o.take J).filter q/\∀t,J<=t->t< o.length->o[t]?=some (c t),λ _ j _=>(o.length - j).toNat,?_,λi j w2 hI=>?_⟩
 ·refine⟨i0,i0+1,λt=>(o[t]?).getD 0,rfl,by omega,by omega,by omega,Kp.af x1 _,λt G=>?_,ν,?_,λt _ G=>by simp [G]⟩
  ·obtain⟨x,h1,h2⟩:=ζ t G;show w1.cell? _=some (iv ((o[t]?).getD 0));rw [h2];exact h1
  ·have e1:(List.range i0).map (λt=>(o[t]?).getD 0)=o.take i0:=by
    refine List.ext_getElem? λt=>?_
    rw [Qu,Rf];by_cases G:t< i0
    ·have ξ:t< o.length:=by omega
     rw [Pj G];simp [G,ξ]
    ·rw [O1 G,List.getElem?_eq_none (by simp;omega)];rfl
   rw [e1,OK ε,Qy,R6.2 λx hx=>by simp [q,hn x hx]];have :=μ _ (OH ε);simp [q,this]
 ·obtain⟨H,J,c,rfl,rfl,ω,hj,k2,V,γ,hm,hd⟩:=hI;refine⟨_,_,_,rfl,λhc=>?_,λhc=>?_⟩
  ·have hc:=O7 hc;have W:J< o.length:=by omega
   have hx:=hd J (OQ _) W;refine⟨g,0,_,_,rfl,by omega,hc,(c J:Int),?_,f,ca,rfl,hf,hp (c J) w2 (Kp.mono (λx e=>PS some e) k2) λw3 x3=>⟨λhq=>?_,λhq=>?_⟩⟩
   ·rw [Ph,Pn,OU];exact V J W
   ·have hq:q (c J)=true:=hq;have Z:g< w2.heap.size:=O' (Ps.1 hg).1 k2.size;have α:=x3.block g Z;refine⟨g,0,_,_,rfl,by omega,by omega,⟨⟨iv (c H),?_⟩,?_⟩,λw4 η=>⟨by omega,by omega,⟨H+1,J+1,aI c H (c J),by omega,by omega,by omega,by omega,?_,λt G=>?_,λt=>?_,?_,λt h1 h2=>?_⟩,by dsimp only;omega⟩⟩
    ·rw [Ph,Pn,OU,OG (w:=w2) α];exact V H (by omega)
    ·rw [Pd (w:=w2) α];exact γ _
    ·rw [η];exact Kp.set (S:=λx=>g=x) (Kp.trans k2 (Kp.af x3 λ _=>False) λ _ _ h=>h.elim) rfl _
    ·rw [η,Ph,Pn,OU];by_cases e:t=H
     ·subst e;have:aI c t (c J) t=c J:=by simp [aI]
      rw [this];refine OY _ _ _ (u:=iv (c t)) ?_;rw [OG (w:=w2) α];exact V t G
     ·have:aI c H (c J) t=c t:=by simp [aI,e]
      rw [this,OL _ _ _ _ (λh=>by injection h with h1 h2;exact e h2.symm),OG (w:=w2) α];exact V t G
    ·rw [η,O0,Pd (w:=w2) α];exact γ t
    ·rw [RH,PH,OK W,Qy,<-hm];rw [OH W]at hx;have e0:o[J]=c J:=Pz hx;rw [e0]
     congr 1
     ·refine P7 λt G=>?_
      have:t≠H:=by have :=Qc.1 G;omega
      simp [aI,this]
     ·simp [aI,hq]
    ·have:t≠H:=by omega
     rw [hd t (by omega) h2];simp [aI,this]
   ·have hq:q (c J)=false:=hq;refine⟨by omega,⟨H,J+1,c,rfl,by omega,by omega,by omega,Kp.trans k2 (Kp.af x3 λ _=>False) (λ _ _ h=>h.elim),λt G=>?_,λt=>?_,?_,λt h1 h2=>hd t (by omega) h2⟩,by dsimp only;omega⟩
    ·have Z:g< w2.heap.size:=O' (Ps.1 hg).1 k2.size;rw [x3.cell (show g< _ from Z)];exact V t G
    ·have Z:g< w2.heap.size:=O' (Ps.1 hg).1 k2.size;rw [Pd (w:=w2) (x3.block g Z)];exact γ t
    ·rw [OK W,Qy,hm];rw [OH W]at hx;have e0:o[J]=c J:=Pz hx;rw [e0];simp [hq]
  ·have hc:=O9 hc;have W:J=o.length:=by omega
   subst W;rw [Pa]at hm;have Z:g< w2.heap.size:=O' (Ps.1 hg).1 k2.size;have ez:Int.toNat 0=0:=rfl;have hlen:H=(o.filter q).length:=by rw [<-hm];simp
   have fin:∀w',Kp w w' (λx=>g=x)->(∀t,t< H->w'.cell? ⟨g,t,none⟩=some (iv (c t)))->R (Value.slice (if cap=Int.toNat 0 then some (⟨g,0,none⟩:Addr)else Option.map (λa:Addr=>a.add (Int.toNat 0* 1)) (some (⟨g,0,none⟩:Addr))) (Int.toNat (H:Int) - Int.toNat 0) (cap - Int.toNat 0)) w':=by
    intro w' k ο;have e:(if cap=Int.toNat 0 then some (⟨g,0,none⟩:Addr)else Option.map (λq:Addr=>q.add (Int.toNat 0* 1)) (some (⟨g,0,none⟩:Addr)))=some ⟨g,0,none⟩:=by
     split
     ·rfl
     ·simp [Addr.add,ez]
    rw [e,ez];refine hR _ _ rfl (Kp.mono (λx e=>PS some e) k) (.inr ⟨g,0,cap - 0,?_,rfl,O' (Ps.1 hg).1 k.size,λt x hx=>?_⟩)
    ·congr 1
     rw [O8];show H - 0=(o.filter q).length;omega
    ·have hx:(o.filter q).map iv=(o.filter λx=> !p x).map iv:=rfl;rename_i β;rw [<-hx,<-hm,Qu,Qu]at β;rw [Ph];by_cases G:t< H
     ·rw [List.getElem?_range G]at β;cases β;exact ο t G
     ·rw [List.getElem?_eq_none (by simp;omega)]at β;cases β
   refine⟨_,_,_,rfl,by omega,by omega,by omega,_,_,_,rfl,?_⟩;by_cases h0:o.length - H=0
   ·refine .inl ⟨by rw [OU,OU];exact h0,_,_,_,rfl,by omega,by omega,by omega,fin w2 k2 λt G=>V t (by omega)⟩
   ·have ς:¬cap=H:=by omega
    refine .inr ⟨g,H,?_,λt G=>⟨⟨_,V (H+t) (by rw [OU,OU]at G;omega)⟩,γ _⟩,λw3 ι=>⟨_,_,_,rfl,by omega,by omega,by omega,fin w3 ?_ λt G=>?_⟩⟩
    ·rw [OU,O1 ς];simp only [QB,Addr.add];simp
     try omega
    ·rw [ι];exact Kp.trans k2 (aK _ w2 H).1 λx _ e=>e.symm
    ·rw [ι,(aK _ w2 H).2.2.1 t G];exact V t (by omega)
def Lv.isSum1:Lv->Bool
 | .sum _ .nil=>true
 | _=>false
theorem xC (o:List Nat)(q:Lv):Lv.prt o q .nil=if q.isNil=true then .nil else if(o.isEmpty&&q.isSum1)=true then(match q with | .sum ps .nil=>ps | q=> .part o q .nil)else .part o q .nil:=by
 cases q with
 | nil=>rfl
 | thr k a b G r n=>cases o<;>rfl
 | part G H n=>cases o<;>rfl
 | sum ps n=>
  cases n with
  | nil=>cases o<;>simp [Lv.prt,Lv.isNil,Lv.isSum1,Lv.aY]
  | thr=>cases o<;>rfl
  | sum=>cases o<;>rfl
  | part=>cases o<;>rfl
section
variable {D:Nat->Prop} {w:World} {v:Value} {o:List Nat} {l:Lv}
theorem m5 (h:gB D w v o (ah D w l)){R:Bool->Sl}(hR:R l.isNil w):Sm 181 #[v] w (an [.b] R):=by
 refine kY v w R ?_;dsimp only [go_sem];dsimp only [go_sem,UInt8.reduceOfNat,UInt32.reduceOfNat,Nat.reduceAdd];obtain⟨b,vo,vt,ts,rfl,h2,H,h4,h5,J,G,h8⟩:=h;obtain⟨a,cap,e⟩:=G.slice;refine⟨b,0,rfl,vt,h5,a,_,cap,e,?_⟩;have:decide ((ts.length:Int)=0)=l.isNil:=by
  rw [h8.len,Lv.dy,PM];simp only [OW];omega
 rw [this];exact hR
theorem Kf (h:gB D w v o (ah D w l))(Z:l.sh true=true){R:Bool->Sl}(hR:R (o.isEmpty&&l.isSum1) w):Sm 182 #[v] w (an [.b] R):=by
 refine nv v w R ?_;dsimp only [go_sem];dsimp only [go_sem,UInt8.reduceOfNat,UInt32.reduceOfNat,Nat.reduceAdd];obtain⟨b,vo,vt,ts,rfl,h2,h3,h4,h5,h6,J,h8⟩:=h;obtain⟨a,cap,e⟩:=h6.slice;obtain⟨a',H,e'⟩:=J.slice;rw [O8]at e;have hlen:=h8.len;refine⟨b,0,rfl,vo,h4,a,_,cap,e,λhc=>⟨b,0,rfl,vt,h5,a',_,H,e',λG=>?_,λG=>?_⟩,λhc=>?_⟩
 ·have hc:=O7 hc;have G:=O7 G;have ho:o.isEmpty=true:=by
   rw [R3];exact Pg (by omega)
  rw [ho,QC]at hR;cases l with
  | nil=>
   have:ts.length=0:=hlen;omega
  | thr k x y o' r n=>
   have V:n= .nil:=by
    have:n.len=0:=by simp only [Lv.len]at hlen;omega
    cases n<;>first | rfl | simp [Lv.len]at this
   subst V;obtain⟨t,W,a1,b1,vr,rfl,⟨g,rfl,g2,g3,g4,_⟩,_⟩:=h8;refine⟨b,0,rfl,vt,h5,J.get (i:=0) (x:=ptr g) (by omega) rfl ⟨g,0,rfl,_,g4,?_⟩⟩;have:decide (k.byte=43)=false:=by cases k<;>rfl
   rw [this];exact hR
  | sum ps n=>
   have V:n= .nil:=by
    have:n.len=0:=by simp only [Lv.len]at hlen;omega
    cases n<;>first | rfl | simp [Lv.len]at this
   subst V;obtain⟨t,W,a1,b1,vp,us,rfl,⟨g,rfl,g2,g3,g4,_⟩,_⟩:=h8;exact⟨b,0,rfl,vt,h5,J.get (i:=0) (x:=ptr g) (by omega) rfl ⟨g,0,rfl,_,g4,hR⟩⟩
  | part o' q n=>cases Z
 ·have G:=O9 G;have:l.isSum1=false:=by
   cases l with
   | sum ps n=>
    cases n with
    | nil=>
     have:ts.length=1:=hlen;omega
    | _=>rfl
   | _=>rfl
  rw [this,Bool.and_false]at hR;exact hR
 ·have hc:=O9 hc;have:o.isEmpty=false:=by
   cases o with
   | nil=>simp at hc
   | cons=>rfl
  rw [this,Sf]at hR;exact hR
end
structure TI (w w':World)(b7 b9:Nat)(O:List Nat)(L:Lv)(ts:List Value)(M X:Nat->Prop):Prop where
 ex:Ex w w'
 bd:kN w.heap.size w' b7 O ts M
 th:ah (λg=>(w.heap.size<=g/\¬M g/\¬X g)/\g< w'.heap.size) w' L ts
 c9:w'.cell? ⟨b9,0,none⟩=some (ptr b7)
 l9:b9< w'.heap.size
 h9:w.heap.size<=b9
 x9:X b9
 mx:∀g,M g->¬X g
 xl:∀g,X g->g< w'.heap.size
section
variable {w w' w'':World} {b7 b9:Nat} {O:List Nat} {L:Lv} {ts:List Value} {M X Y:Nat->Prop}
theorem TI.ND (h:TI w w' b7 b9 O L ts M X){S:Nat->Prop}(k:Kp w' w'' S)(J:∀g,S g->X g/\g≠b9/\w.heap.size<=g)(Z:∀g,X g->Y g)(H:∀g,Y g->X g\/(w'.heap.size<=g/\g< w''.heap.size)):TI w w'' b7 b9 O L ts M Y:=by
 have W:∀g,g< w'.heap.size->¬X g->¬Y g:=λg G V hy=>(H g hy).elim V λh=>by omega
 refine⟨Ex.below h.ex (Kp.below k h.ex.size λg G e=>by have :=(J g e).2.2;omega),h.bd.kp k λg G e=>h.mx g G (J g e).1,?_,?_,O' h.l9 k.size,h.h9,Z b9 h.x9,λg G=>W g (h.bd.mr g G).2 (h.mx g G),λg G=>(H g G).elim (λV=>O' (h.xl g V) k.size) λh=>h.2⟩
 ·refine ah.sub (λg _ G=>⟨⟨G.1.1,G.1.2.1,W g G.2 G.1.2.2⟩,O' G.2 k.size⟩) (ah.kp k (λg G e=>G.1.2.2 (J g e).1) h.th)
 ·rw [OG (w:=w') (k.block b9 h.l9 λe=>(J b9 e).2.1 rfl)];exact h.c9
theorem TI.On (h:TI w w' b7 b9 O L ts M X){S:Nat->Prop}(k:Kp w' w'' S)(G:∀g,S g->X g/\g≠b9/\w.heap.size<=g):TI w w'' b7 b9 O L ts M X:=h.ND k G (λ _ h=>h) λ _ h=> .inl h
theorem TI.ext (h:TI w w' b7 b9 O L ts M X)(x:Ex w' w''):TI w w'' b7 b9 O L ts M X:=h.On (Kp.af x λ _=>False) λ _ h=>h.elim
theorem TI.GV (h:TI w w' b7 b9 O L ts M X)(G:∀g,Y g->X g)(V:Y b9):TI w w' b7 b9 O L ts M Y:=
 ⟨h.ex,h.bd,ah.sub (λg J hd=>⟨⟨hd.1.1,hd.1.2.1,λH=>hd.1.2.2 (G g H)⟩,hd.2⟩) h.th,h.c9,h.l9,h.h9,V,λg hm H=>h.mx g hm (G g H),λg J=>h.xl g (G g J)⟩
theorem TI.Ho (h:TI w w' b7 b9 O L ts M X){D2:Nat->Prop}{v2:Value}{O2:List Nat}{L2:Lv}(hl:aC D2 w' (O2,L2) v2)(hd:∀g,g< w'.heap.size->D2 g->w.heap.size<=g/\¬M g/\¬X g)
  (hb:O.length+O2.length<=1099511627776/\ts.length+L2.len<=1099511627776) {R:Sl} (hR:∀w'' α Z,TI w w'' b7 b9 (O++O2) (L.app L2) α Z X->Kp w' w'' M->R w''):
  Sm 179 #[ptr b7,v2] w' (an [] R):=by
 obtain⟨β,γ,H⟩:=aC.ths (hl.sub (E:=λg=>(w.heap.size<=g/\¬M g/\¬X g)/\g< w'.heap.size) λg G δ=>⟨hd g G δ,G⟩);have V:=h.ex.size;refine tB h.bd V γ H.all (λg G=>G.1.2.1) ⟨hb.1,by rw [H.len];exact hb.2⟩ λw3 Z J ε W=>hR w3 (ts++β) Z ⟨?_,ε,?_,?_,O' h.l9 J.size,h.h9,h.x9,?_,λg G=>O' (h.xl g G) J.size⟩ J
 ·exact Ex.below h.ex (Kp.below J V λg G e=>by have :=(h.bd.mr g e).1;omega)
 ·have key:∀{l:Lv} {us:List Value},ah (λg=>(w.heap.size<=g/\¬M g/\¬X g)/\g< w'.heap.size) w' l us->ah (λg=>(w.heap.size<=g/\¬Z g/\¬X g)/\g< w3.heap.size) w3 l us:=λht=>
   ah.sub (λg _ G=>⟨⟨G.1.1,λhm=>(W g hm).elim G.1.2.1 λh=>by omega,G.1.2.2⟩,O' G.2 J.size⟩) (ah.kp J (λg G=>G.1.2.1) ht)
  exact ah.app (key h.th) (key H)
 ·rw [OG (w:=w') (J.block b9 h.l9 λe=>h.mx b9 e h.x9)];exact h.c9
 ·intro g hm hx;rcases W g hm with h1 | h1
  ·exact h.mx g h1 hx
  ·have :=h.xl g hx;omega
end
section
variable {w w':World} {b7 b9:Nat} {O:List Nat} {L:Lv} {ts:List Value} {M X:Nat->Prop}
theorem TI.push (h:TI w w' b7 b9 O L ts M X){g:Nat}{e:Lv}(he:ah (λg=>(w.heap.size<=g/\¬M g/\¬X g)/\g< w'.heap.size) w' e [ptr g])(hl:ts.length+1<=1099511627776){K:Sl}(hK:∀w'' ts' M',TI w w'' b7 b9 O (L.app e) ts' M' X->K w''):
  ∃V:Sl,∀α:World,α=World.drew w'->V α/\∃v168:Value,(∀w',V w'->World.cell? w' ⟨b9,0,none⟩=some v168)/\∃κ:Value,(∀w',V w'->World.cell? w' ⟨b9,0,none⟩=some κ)/\∃(μ ν:Nat),κ=Value.pointer (some ⟨μ,ν,none⟩)/\
   ∃β:Value,(∀w',V w'->World.cell? w' ⟨μ,(ν+1),none⟩=some β)/\∀(ξ:Nat) (H:World),ξ=Array.size (World.heap α)->H=World.alloc α (Obj.cells #[(Value.pointer (some ⟨g,0,none⟩))] 156)->V H/\
   ∃(J n176 γ:Nat) (θ Z:List Value),World.ownsRow H J 156 1 β n176 θ/\J<=Array.size (World.heap H)/\dW H (Value.slice (some ⟨ξ,0,none⟩) 1 1) γ 1 Z/\(n176+γ<=maxLen/\(n176+γ)* 8<=140737488355328)/\
   ∀(δ:Value) (W:World),World.ownsRow W J 156 1 δ (n176+γ) (θ++Z)->World.grownBy H W (Value.ownBlock β)->(∀b:Nat,Value.ownBlock δ=some b->Value.ownBlock β=some b\/Array.size (World.heap H)<=b)->V W/\
   ∃(ε ζ:Nat),v168=Value.pointer (some ⟨ε,ζ,none⟩)/\ay δ=true/\((∃ω:Value,World.cell? W ⟨ε,(ζ+1),none⟩=some ω)/\World.frozen? W ⟨ε,(ζ+1),none⟩=false)/\∀ο:World,ο=World.setCell W ⟨ε,(ζ+1),none⟩ δ->K ο:=by
 obtain⟨h1,hle,h3,hr,h4,vo,vt,h5,h6,h7,h8,h9,h10,h11⟩:=h.bd;have hb7:b7< w'.heap.size:=h1;have hn9:b9≠b7:=λe=>h.mx b7 h3 (e▸h.x9)
 have hv9:vt.ownBlock≠some b9:=λe=>h.mx b9 (h10 b9 e).1 h.x9
 refine⟨λw2=>Kp w' w2 λg=>vt.ownBlock=some g,λw1 ς=>⟨ς▸Kp.af (Ex.drew w') _,ptr b7,λw2 k=>?_,ptr b7,λw2 k=>?_,b7,0,rfl,vt,λw2 k=>?_,λb2 w2 hb2 υ=>?_⟩⟩
 ·rw [OG (w:=w') (k.block b9 h.l9 hv9)];exact h.c9
 ·rw [OG (w:=w') (k.block b9 h.l9 hv9)];exact h.c9
 ·rw [OG (w:=w') (k.block b7 h1 λe=>(h10 b7 e).2 rfl)];exact h6
 have x2:Ex w' w2:=Ex.trans (ς▸Ex.drew w') (υ▸Ex.alloc w1 _);have s1:w1.heap.size=w'.heap.size:=by rw [ς];rfl
 have s2:w2.heap.size=w1.heap.size+1:=by rw [υ,size_alloc]
 refine⟨Kp.af x2 _,?_⟩;have hsl:eP (λx=>x=b2) w2 (.slice (some ⟨b2,0,none⟩) 1 1) [ptr g]:=by
  refine .inr ⟨b2,0,1,rfl,rfl,by omega,λi x G=>?_⟩;rw [Ph,υ,hb2];refine aa ?_
  match i,G with
  | 0,G=>simpa using G
  | i+1,G=>simp at G
 refine aF.push (h8.kp (Kp.af x2 λ _=>False) λ _ _ h=>h) (PN h.ex.size x2.size) hsl rfl (by omega) (by simpa using hl) λv3 w3 φ hg3 hn3=>?_
 have k23:Kp w2 w3 λg=>vt.ownBlock=some g:=Kp.aJ hg3 λg h=>h
 have k3:Kp w' w3 λg=>vt.ownBlock=some g:=Kp.trans (Kp.af x2 _) k23 λg _ h=>h
 have χ:=k3.block b7 h1 λe=>(h10 b7 e).2 rfl
 have hv3:ay v3=true:=by rcases φ.2 with⟨rfl,_⟩ | ⟨g,cap,cur,rfl,_⟩<;>rfl
 have c31:w3.cell? ⟨b7,1,none⟩=some vt:=by rw [OG (w:=w') χ];exact h6
 have c30:w3.cell? ⟨b7,0,none⟩=some vo:=by rw [OG (w:=w') χ];exact h5
 have f3:∀j,w3.frozen? ⟨b7,j,none⟩=false:=λj=>by rw [Pd (w:=w') χ];exact h4 j
 refine⟨k3,b7,0,rfl,hv3,⟨⟨vt,c31⟩,f3 1⟩,λw4 ι=>?_⟩;have k4:Kr b7 w3 w4:=ι▸Kr.set w3 1 _;have η:Kp w' w4 M:=Kp.trans (Kp.mono (λg e=>(h10 g e).1) k3) k4 λg _ e=>e▸h3
 have s3:=k3.size;have s23:=k23.size;have s4:=k4.size;have ψ:∀x,v3.ownBlock=some x->vt.ownBlock=some x\/w'.heap.size<=x:=λx G=>(hn3 x G).elim .inl λh=> .inr (by omega)
 have h3b:∀x,v3.ownBlock=some x->x≠b7:=λx G=>(ψ x G).elim (λe=>(h10 x e).2) λe=>by omega
 refine hK w4 (ts++[ptr g]) (λx=>M x\/(w'.heap.size<=x/\x< w4.heap.size)) ⟨?_,⟨by omega,hle,.inl h3,λx G=>?_,λj=>?_,vo,v3,?_,?_,?_,?_,λx G=>⟨.inl (h9 x G).1,(h9 x G).2⟩,λx G=>⟨?_,h3b x G⟩,λx G e=>?_⟩,?_,?_,O' h.l9 η.size,h.h9,h.x9,λx G hX=>?_,λx G=>O' (h.xl x G) η.size⟩
 ·exact Ex.below h.ex (Kp.below η h.ex.size λx G e=>by have :=(hr x e).1;omega)
 ·have hB:=h.ex.size;rcases G with G | G
  ·have :=hr x G;omega
  ·omega
 ·rw [ι,O0];exact f3 j
 ·rw [ι,OL _ _ _ _ (by simp)];exact c30
 ·rw [ι];exact OY _ _ _ c31
 ·exact(h7.kp k3 λx G e=>h11 x G e).kp k4 λx G=>(h9 x G).2
 ·exact aF.kp φ k4 h3b
 ·have :=(φ.block x G).2;exact(ψ x G).elim (λe=> .inl (h10 x e).1) λe=> .inr ⟨e,by omega⟩
 ·rcases ψ x e with e1 | e1
  ·exact h11 x G e1
  ·have :=(h7.block x G).2;omega
 ·have key:∀{l:Lv} {us:List Value},ah (λg=>(w.heap.size<=g/\¬M g/\¬X g)/\g< w'.heap.size) w' l us->ah (λg=>(w.heap.size<=g/\¬(M g\/(w'.heap.size<=g/\g< w4.heap.size))/\¬X g)/\g< w4.heap.size) w4 l us:=λht=>
   ah.sub (λg _ hg=>⟨⟨hg.1.1,λhm=>hm.elim hg.1.2.1 λh=>by omega,hg.1.2.2⟩,O' hg.2 η.size⟩) (ah.kp η (λg hg=>hg.1.2.1) ht)
  exact ah.app (key h.th) (key he)
 ·rw [OG (w:=w') (η.block b9 h.l9 λe=>h.mx b9 e h.x9)];exact h.c9
 ·rcases G with G | G
  ·exact h.mx x G hX
  ·have :=h.xl x hX;omega
end
structure SI (w w':World)(b7 b9 b39:Nat)(O:List Nat)(L:Lv)(ts:List Value)(M X:Nat->Prop)(a b:Nat)(Q:Lv):Prop where
 ti:TI w w' b7 b9 O L ts M X
 x39:X b39
 h39:w.heap.size<=b39
 n39:b39≠b9
 sl:∃vp us,kR w' b39 43 a b (.pointer none) vp/\aF 146 w.heap.size w' vp us/\ah (λg=>(w.heap.size<=g/\¬M g/\¬X g)/\g< w'.heap.size) w' Q us/\∀g,vp.ownBlock=some g->X g/\g≠b9/\g≠b39
section
variable {w w':World} {b7 b9 b39 a b:Nat} {O:List Nat} {L Q:Lv} {ts:List Value} {M X:Nat->Prop}
theorem SI.ext {w'':World}(h:SI w w' b7 b9 b39 O L ts M X a b Q)(x:Ex w' w''):SI w w'' b7 b9 b39 O L ts M X a b Q:=by
 obtain⟨H,h2,J,h4,vp,us,h5,V,W,h8⟩:=h;have k:Kp w' w'' λ _=>False:=Kp.af x _
 exact⟨H.ext x,h2,J,h4,vp,us,h5.kp k λh=>h,V.kp k λ _ _ h=>h,ah.sub (λg _ G=>⟨G.1,O' G.2 k.size⟩) (ah.ex W x),h8⟩
theorem SI.push (h:SI w w' b7 b9 b39 O L ts M X a b Q){vx:Value}{α:List Value}{Q2:Lv}{D2:Nat->Prop}(hx:eP D2 w' vx α)(h2:ah (λg=>(w.heap.size<=g/\¬M g/\¬X g)/\g< w'.heap.size) w' Q2 α)(hl:Q.len+α.length<=1099511627776){vp:Value}(ο:w'.cell? ⟨b39,4,none⟩=some vp){K:Value->Sl}
  (hK:∀J G,ay J=true->Kp w' G (λg=>vp.ownBlock=some g)->((∃ς:Value,World.cell? G ⟨b39,4,none⟩=some ς)/\World.frozen? G ⟨b39,4,none⟩=false)->(∀κ,κ=World.setCell G ⟨b39,4,none⟩ J->∃X',SI w κ b7 b9 b39 O L ts M X' a b (Q.app Q2))->K J G):
  ∃(H β γ:Nat) (δ W:List Value),World.ownsRow w' H 146 1 vp β δ/\H<=Array.size (World.heap w')/\dW w' vx γ 1 W/\(β+γ<=maxLen/\(β+γ)* 8<=140737488355328)/\
   ∀(J:Value) (G:World),World.ownsRow G H 146 1 J (β+γ) (δ++W)->World.grownBy w' G (Value.ownBlock vp)->(∀b:Nat,Value.ownBlock J=some b->Value.ownBlock vp=some b\/Array.size (World.heap w')<=b)->K J G:=by
 obtain⟨h1,Z,h3,h4,ε,us,h5,h6,h7,h8⟩:=h;have:ε=vp:=Pz (h5.c4.symm.trans ο);subst this;have υ:=h1.ex.size;have ω:=h7.len;refine aF.push h6 υ hx h2.all (by omega) (by omega) λv3 w3 ζ φ η=>?_
 have k3:Kp w' w3 λg=>ε.ownBlock=some g:=Kp.aJ φ λg h=>h
 have χ:ay v3=true:=by rcases ζ.2 with⟨rfl,_⟩ | ⟨g,cap,cur,rfl,_⟩<;>rfl
 have θ:=h5.kp k3 λe=>(h8 _ e).2.2 rfl
 refine hK v3 w3 χ k3 ⟨⟨_,θ.c4⟩,θ.f 4⟩ λw4 μ=>?_
 have k4:Kr b39 w3 w4:=μ▸Kr.set w3 4 _;have ι:Kp w' w4 λg=>ε.ownBlock=some g\/g=b39:=Kp.trans (Kp.mono (λg e=> .inl e) k3) k4 λg _ e=> .inr e
 have s3:=k3.size;have s4:=k4.size;have ν:∀x,v3.ownBlock=some x->x≠b39:=λx ψ=>(η x ψ).elim (λe=>(h8 x e).2.2) λe=>by have :=h1.xl b39 Z;omega
 have ξ:∀g,(X g\/(v3.ownBlock=some g))->X g\/(w'.heap.size<=g/\g< w4.heap.size):=λg V=>V.elim .inl λe=>(η g e).elim (λe=> .inl (h8 g e).1) λh=> .inr ⟨h,by have :=(ζ.block g e).2;omega⟩
 have ti:=h1.ND (Y:=λg=>X g\/v3.ownBlock=some g) ι (λg e=>e.elim (λe=>⟨(h8 g e).1,(h8 g e).2.1,(h6.block g e).1⟩) λe=>⟨e▸Z,e▸h4,e▸h3⟩) (λg V=> .inl V) ξ;have key:∀{l:Lv} {us:List Value},ah (λg=>(w.heap.size<=g/\¬M g/\¬X g)/\g< w'.heap.size) w' l us->ah (λg=>(w.heap.size<=g/\¬M g/\¬(X g\/v3.ownBlock=some g))/\g< w4.heap.size) w4 l us:=λht=>
  ah.sub (λg _ V=>⟨⟨V.1.1,V.1.2.1,λhy=>(ξ g hy).elim V.1.2.2 λh=>by omega⟩,O' V.2 ι.size⟩) (ah.kp ι (λg V e=>e.elim (λe=>V.1.2.2 (h8 g e).1) λe=>V.1.2.2 (e▸Z)) ht)
 refine⟨_,ti,.inl Z,h3,h4,v3,us++α,θ.Ml μ,?_,ah.app (key h7) (key h2),λg V=>⟨.inr V,?_,ν g V⟩⟩
 ·exact aF.kp ζ k4 ν
 ·exact(η g V).elim (λe=>(h8 g e).2.1) λe=>by have :=h1.l9;omega
end
theorem Kj {D:Nat->Prop}{w:World}{l:Lv}{ts:List Value}{x b3:Nat}(V:l.sh true=true)(h:ah D w l ts)(α:l.sz<=1099511627776)(hb:b3< w.heap.size)(hc:w.cell? ⟨b3,0,none⟩=some (iv x)):
  Bl w 186 [ptr b3] ts (MJ l.bB (Lv.has x)):=by
 intro i v w1 hi Z R hR;have H:=h.bB;obtain⟨W,_⟩:=PB.1 hi;have G:i< l.bB.length:=by rw [H.1];exact W
 have he:=H.2 i l.bB[i] v (OH G) hi;have J:=OP G;have hs:=Lv.eJ l _ J;rw [pt G]at hR;refine iY v (ptr b3) w1 R ?_;dsimp only [go_sem];dsimp only [go_sem,UInt8.reduceOfNat,UInt32.reduceOfNat,Nat.reduceAdd];refine⟨b3,0,rfl,x,by rw [Z.cell (show b3< _ from hb)];exact hc,?_⟩;exact Cc _ (OQ _) (Lv.kB V _ J) (he.ex Z) (by omega) hR
theorem LV {D S:Nat->Prop}{w:World}{b7 b9:Nat}{vt:Value}{l:Lv}{ts:List Value}(h9:w.cell? ⟨b9,0,none⟩=some (ptr b7))(l9:b9< w.heap.size)(h7:w.cell? ⟨b7,1,none⟩=some vt)(l7:b7< w.heap.size)(H:eP D w vt ts)(h:ah D w l ts)(J:l.sh true=true)(α:l.sz<=1099511627776)
  (V:∀g,S g->¬D g/\g≠b9/\g≠b7):MI w S 184 [ptr b9] (λx=> !l.has x):=by
 intro x w1 k R hR;refine jY x (ptr b9) w1 R ?_;dsimp only [go_sem];dsimp only [go_sem,UInt8.reduceOfNat,UInt32.reduceOfNat,Nat.reduceAdd];intro b3 w4 W Z;obtain⟨x4,l4,c4⟩:=Dq W Z;have G:Kp w w4 S:=Kp.trans k (Kp.af x4 λ _=>False) λ _ _ h=>h.elim
 refine⟨b9,0,rfl,ptr b7,?_,b7,0,rfl,vt,?_,?_⟩
 ·rw [OG (w:=w) (G.block b9 l9 λe=>(V _ e).2.1 rfl)];exact h9
 ·rw [OG (w:=w) (G.block b7 l7 λe=>(V _ e).2.2 rfl)];exact h7
 have hlen:=h.len;have :=ox l;have hD:∀g,D g->¬S g:=λg hd H=>(V g H).1 hd
 refine HU (ca:=[ptr b3]) (H.kp G hD) (by kernel_rfl) (Kj J (ah.kp G hD h) (by omega) l4 c4) (by omega) λw5 x5=>?_
 rw [hlen,<-Lv.cN,zF,<-Lv.mD];exact hR w5 (Ex.trans x4 x5)
def D3 (n:Nat):Prop:=∀{D:Nat->Prop} {w:World} {v:Value} {o:List Nat} {l:Lv} {R:Value->Sl},l.sz<=n->l.sh true=true->gB D w v o (ah D w l)->o.length+l.tot<=1099511627775->
 (∀v' w',Ex w w'->aC (ES w) w' (Lv.tidy o l) v'->R v' w')->Sm 139 #[v] w (an [.v] R)
theorem oW (o:List Nat)(l:Lv):(Lv.tidy o l).1.length+(Lv.tidy o l).2.tot<=o.length+l.tot:=by
 have :=Lv.tG o (Lv.tid l);have :=Lv.eF l;show(Lv.kept o (Lv.tid l)).1.length+(Lv.kept o (Lv.tid l)).2.tot<=_;omega
theorem ck (l:Lv):l.len<=l.tot:=PN (ox l) (Lv.kj l)
theorem aF.df {e B:Nat}{w:World}{v:Value}{l:List Value}(h:aF e B w v l):ay v=true:=by
 rcases h.2 with⟨rfl,_⟩ | ⟨g,cap,cur,rfl,_⟩<;>rfl
theorem aP.single {A B:Type}{R:A->B->Prop}{l:List A}{m:List B}(h:aP R l m){i:Nat}{b:B}(hb:m[i]?=some b):∃a,l[i]?=some a/\a∈l/\R a b:=by
 obtain⟨hi,_⟩:=PB.1 hb;have G:i< l.length:=by rw [h.1];exact hi
 exact⟨l[i],OH G,OP G,h.2 i _ _ (OH G) hb⟩
theorem jS {k:K}{a b:Nat}{o:List Nat}{r:Lv}:Lv.tid (.thr k a b o r .nil)=if k= .m/\a=b then Lv.tidy o r else if(k= .m\/k= .p)/\(Lv.tidy o r).2.isNil=true then([],.nil)else([],.thr k a b (Lv.tidy o r).1 (Lv.tidy o r).2 .nil):=by
 simp only [Lv.tid,Po,Lv.aY];rfl
theorem EZ (n:Nat)(ih:∀m,m< n->D3 m):D3 n:=by
 intro D w v o l R hn hsh h hb hR;refine lW v w R ?_;obtain⟨b,vo,vt,ts0,rfl,h2,h3,h4,h5,h6,h7,h8⟩:=h;refine⟨b,0,rfl,vo,h4,yr h6 (by omega) λv5 w6 x6 ho6=>⟨ho6.df,λb7 w8 hb7 hw8 b9 w10 hb9 hw10=>?_⟩⟩;have x8:Ex w6 w8:=hw8▸Ex.alloc w6 _;have x10:Ex w8 w10:=hw10▸Ex.alloc w8 _;have s6:=x6.size;have s8:w8.heap.size=w6.heap.size+1:=by rw [hw8,size_alloc]
 have s10:w10.heap.size=w8.heap.size+1:=by rw [hw10,size_alloc]
 have c9:w10.cell? ⟨b9,0,none⟩=some (.pointer none):=by rw [hw10,hb9];exact aa rfl
 have f9:w10.frozen? ⟨b9,0,none⟩=false:=by rw [hw10,hb9];unfold World.frozen? World.alloc;simp
 have bd8:kN w.heap.size w8 b7 o [] λg=>g=b7\/v5.ownBlock=some g:=by
  refine⟨by omega,by omega,.inl rfl,λg J=>?_,λj=>?_,v5,.slice none 0 0,?_,?_,ho6.kp (Kp.af x8 λ _=>False) (λ _ _ h=>h),aF.nil _ _ _,λg J=>⟨.inr J,?_⟩,λg J=>(by cases J),λg _ J=>(by cases J)⟩
  ·rcases J with rfl | J
   ·omega
   ·have :=ho6.block g J;omega
  ·rw [hw8,hb7];unfold World.frozen? World.alloc;simp
  ·rw [hw8,hb7];exact aa rfl
  ·rw [hw8,hb7];exact aa rfl
  ·have :=ho6.block g J;omega
 refine⟨⟨⟨_,c9⟩,f9⟩,λw12 hw12=>?_⟩;have k12:Kr b9 w10 w12:=hw12▸Kr.set w10 0 _;have x610:Ex w6 w10:=Ex.trans x8 x10;have x12:Ex w w12:=Ex.below (Ex.trans x6 x610) (Kp.below k12 (Ex.trans x6 x610).size λg J e=>by omega);have s12:=k12.size;have ti12:TI w w12 b7 b9 o .nil [] (λg=>g=b7\/v5.ownBlock=some g) (λg=>g=b9):=by
  refine⟨x12,(bd8.ex x10).kp k12 λg J e=>?_,rfl,?_,by omega,by omega,rfl,λg J e=>?_,λg e=>by omega⟩
  ·have :=(bd8.mr g J).2;omega
  ·rw [hw12];exact OY _ _ _ c9
  ·have :=(bd8.mr g J).2;omega
 obtain⟨a0,cap0,hvt⟩:=h7.slice;have hlen:=h8.len;have hel:=Lv.cN l;have hlt:=ck l;refine⟨b,0,rfl,vt,by rw [x12.cell (show b< _ from h3)];exact h5,a0,_,cap0,hvt,λx w'=>∃(i:Nat) (ts:List Value) (M:Nat->Prop),x=i/\i<=l.bB.length/\TI w w' b7 b9 (o++(Lv.tid (l.take i)).1) (Lv.tid (l.take i)).2 ts M (λg=>g=b9),λx _=>(l.bB.length - x).toNat,⟨0,[],_,rfl,by omega,by simpa [Lv.take,Lv.tid]using ti12⟩,λx H hI=>?_⟩;obtain⟨i,ts,M,rfl,hi,δ⟩:=hI;refine⟨λhc=>?_,λhc=>?_⟩
 ·have hc:=O7 hc;have hil:i< ts0.length:=by omega
  have hil':i< l.bB.length:=by omega
  have φ:=δ.ex;have W:∀w' α M',TI w w' b7 b9 (o++(Lv.tid (l.take i)).1++(Lv.tid l.bB[i]).1) ((Lv.tid (l.take i)).2.app (Lv.tid l.bB[i]).2) α M' (λg=>g=b9)->a7 ((i:Int)+1)/\(∃(i':Nat) (ts:List Value) (M:Nat->Prop),((i:Int)+1)=i'/\i'<=l.bB.length/\TI w w' b7 b9 (o++(Lv.tid (l.take i')).1) (Lv.tid (l.take i')).2 ts M (λg=>g=b9))/\((l.bB.length:Int) - ((i:Int)+1)).toNat< ((l.bB.length:Int) - (i:Int)).toNat:=by
   intro w' α M' ti;refine⟨by omega,⟨i+1,α,M',by omega,by omega,?_⟩,by omega⟩;rw [Lv.take_succ l i hil',Lv.cO _ _ (Lv.mG (Lv.pM l i hsh)),<-Pv];exact ti
  have hel22:=(ah.ex h8 φ).bB;have he:=hel22.2 i l.bB[i] ts0[i] (OH hil') (OH hil);have he0:=h8.bB.2 i l.bB[i] ts0[i] (OH hil') (OH hil);have hmem:=OP hil';have hesz:=Lv.eJ l _ hmem;have hetot:=Lv.gJ l _ hmem;have hOt:=Lv.eF (l.take i);have hTt:=Lv.gh l i;have hTe:(l.take i).tot+l.bB[i].tot<=l.tot:=by
   have :=Lv.gh l (i+1);rw [Lv.take_succ l i hil',Lv.cn]at this;exact this
  have hOl:(o++(Lv.tid (l.take i)).1).length=o.length+(Lv.tid (l.take i)).1.length:=OM;have hLl:=ck (Lv.tid (l.take i)).2;refine(h7.ex φ).get (i:=i) (x:=ts0[i]) (by omega) (by simp [hil]) ?_;generalize l.bB[i]=e at*;generalize ts0[i]=v27 at*;have hke:(∃k a b o r,e= .thr k a b o r .nil/\r.sh true=true)\/∃ps,e= .sum ps .nil/\ps.sh false=true:=Lv.kB hsh e hmem;generalize (o++(Lv.tid (l.take i)).1)=O at*;generalize (Lv.tid (l.take i)).2=L at*;have hts:ts.length=L.len:=δ.th.len;have hS:∀{w1:World},Ex H w1->∀{g j:Nat} {u:Value},g< H.heap.size->H.cell? ⟨g,j,none⟩=some u->w1.cell? ⟨g,j,none⟩=some u:=by
   intro w1 Z g j u J hu;rw [Z.cell (show g< _ from J)];exact hu
  rcases hke with⟨k,a,b1,o',r,rfl,hr⟩ | ⟨ps,rfl,hps⟩
  ·obtain⟨_,_,a',b',vr,e,⟨g,rfl,g2,g3,g4,g5,g6,g7,g8⟩,hab,hlv,_⟩:=he;obtain⟨rfl,_⟩:=PQ e;refine⟨λw'=>Ex H w',λχ θ=>⟨θ▸Ex.drew H,g,0,rfl,_,λw' Z=>hS Z g3 g4,g,0,rfl,_,λw' Z=>hS Z g3 g5,g,0,rfl,_,λw' Z=>hS Z g3 g6,λb39 γ hb39 ι=>?_⟩⟩;have x29:Ex H χ:=θ▸Ex.drew H;have s29:χ.heap.size=H.heap.size:=by rw [θ];rfl
   have κ:Ex H γ:=Ex.trans x29 (ι▸Ex.alloc χ _);have s40:γ.heap.size=χ.heap.size+1:=by rw [ι,size_alloc]
   have th40:kR γ b39 k.byte a' b' (.pointer none) (.slice none 0 0):=kR.new hb39 ι;have l9:=δ.l9;have n39:b39≠b9:=by omega
   have h39:w.heap.size<=b39:=by have :=φ.size;omega
   have ti40:TI w γ b7 b9 O L ts M λg=>g=b9\/g=b39:=δ.ND (Kp.af κ λ _=>False) (λ _ h=>h.elim) (λg h=> .inl h) λg h=>h.elim .inl λh=> .inr (by omega)
   simp only [Lv.sz]at hesz;simp only [Lv.tot]at hetot hTe;refine⟨κ,g,0,rfl,_,hS κ g3 g4,aW (by cases k<;>decide) ⟨g,0,rfl,_,hS κ g3 g7,?_⟩⟩;refine ih r.sz (by omega) (OQ _) hr (gB.ex hlv κ) (by omega) λμ w138 ς l137=>⟨gB.one l137,⟨⟨_,(th40.kp (Kp.af ς λ _=>False) λh=>h).c3⟩,(th40.kp (Kp.af ς λ _=>False) λh=>h).f 3⟩,λV hw140=>?_⟩
   have k140:Kr b39 w138 V:=hw140▸Kr.set w138 3 _;have ψ:kR V b39 k.byte a' b' μ (.slice none 0 0):=(th40.kp (Kp.af ς λ _=>False) λh=>h).Gf hw140;have ω:TI w V b7 b9 O L ts M λg=>g=b9\/g=b39:=(ti40.ext ς).On k140 λg J=>⟨.inr J,by omega,by omega⟩
   have s138:=ς.size;have s140:=k140.size;have hrt:=oW o' r;have l140:aC (λg=>(γ.heap.size<=g)/\g< V.heap.size) V (Lv.tidy o' r) μ:=aC.sub (aC.kp (l137.sub (E:=λg=>γ.heap.size<=g/\g< w138.heap.size) λg J h=>⟨h,J⟩) k140 λg J e=>by omega) λg _ J=>⟨J.1,by omega⟩
   have hM40:∀g,M g->g< γ.heap.size:=λg J=>(ti40.bd.mr g J).2
   have cg:∀{w1:World},Ex V w1->∀{j:Nat} {u:Value},H.cell? ⟨g,j,none⟩=some u->w1.cell? ⟨g,j,none⟩=some u:=λZ j u hu=>by
    have:V.cell? ⟨g,j,none⟩=some u:=by
     rw [OG (w:=w138) (k140.block g (by omega) (by omega)),ς.cell (show g< _ by omega)];exact hS κ g3 hu
    rw [Z.cell (show g< _ by omega)];exact this
   have cb:∀{w1:World},Ex V w1->w1.cell? ⟨b39,3,none⟩=some μ:=λZ=>by rw [Z.cell (show b39< _ from ψ.lt)];exact ψ.c3
   have c9':∀{w1:World},Ex V w1->w1.cell? ⟨b9,0,none⟩=some (ptr b7):=λZ=>by rw [Z.cell (show b9< _ from ω.l9)];exact ω.c9
   have hth:∀{w1:World},Ex V w1->ah (λg=>(w.heap.size<=g/\¬M g/\¬(g=b9))/\g< w1.heap.size) w1 (.thr k a b1 (Lv.tidy o' r).1 (Lv.tidy o' r).2 .nil) [ptr b39]:=λ{w1} Z=>by
    have sx:=Z.size;refine⟨ptr b39,[],a',b',μ,rfl,(ψ.kp (Kp.af Z λ _=>False) λh=>h).ML ⟨⟨h39,λhm=>ω.mx b39 hm (.inr rfl),n39⟩,by have :=ψ.lt;omega⟩,hab,?_,rfl⟩;exact aC.sub (aC.ex l140 Z) λg _ J=>⟨⟨by omega,λhm=>by have :=hM40 g hm;omega,by omega⟩,by omega⟩
   have ο:∀{w1:World},Ex V w1->TI w w1 b7 b9 O L ts M λg=>g=b9:=λZ=>(ω.ext Z).GV (λg h=> .inl h) rfl
   have hnil:∀{w1:World},Ex V w1->Lv.tid (.thr k a b1 o' r .nil)=([],.nil)->TI w w1 b7 b9 (O++(Lv.tid (.thr k a b1 o' r .nil)).1) (L.app (Lv.tid (.thr k a b1 o' r .nil)).2) ts M λg=>g=b9:=λZ e=>by
    rw [e,Po,Lv.aY];exact ο Z
   have hlr:=ck (Lv.tidy o' r).2;refine⟨λw'=>Ex V w',λυ hw142=>⟨hw142▸Ex.drew V,g,0,rfl,_,λw' Z=>cg Z g4,?_⟩⟩;have G:Ex V υ:=hw142▸Ex.drew V;have ν:∀{w1:World},Ex V w1->(Lv.tid (.thr k a b1 o' r .nil)=([],.thr k a b1 (Lv.tidy o' r).1 (Lv.tidy o' r).2 .nil))->∀w'' α M',TI w w'' b7 b9 O (L.app (.thr k a b1 (Lv.tidy o' r).1 (Lv.tidy o' r).2 .nil)) α M' (λg=>g=b9)->TI w w'' b7 b9 (O++(Lv.tid (.thr k a b1 o' r .nil)).1) (L.app (Lv.tid (.thr k a b1 o' r .nil)).2) α M' (λg=>g=b9):=λ _ e w'' α M' h=>by
    rw [e,Po];exact h
   have hkm:(Lv.tidy o' r).2.isNil=false->¬(k= .m/\a=b1)->Lv.tid (.thr k a b1 o' r .nil)=([],.thr k a b1 (Lv.tidy o' r).1 (Lv.tidy o' r).2 .nil):=λh1 h2=>by
    rw [jS,O1 h2,O1 (by rw [h1];simp)]
   cases k with
   | m=>
    have hab:a'=a/\b'=b1:=by rcases hab with h | h | h<;>first | exact h | cases h
    obtain⟨rfl,rfl⟩:=hab;refine dc rfl ⟨g,0,rfl,a',λw' Z=>cg Z g5,g,0,rfl,b',λw' Z=>cg Z g6,λhq=>?_,λhq=>?_⟩
    ·have hq:a'=b':=by have :=O7 hq;omega
     have ht:Lv.tid (.thr .m a' b' o' r .nil)=Lv.tidy o' r:=by rw [jS,Pj ⟨rfl,hq⟩]
     refine⟨λw'=>Ex υ w',λw153 hw153=>⟨hw153▸Ex.drew υ,ptr b7,λw' Z=>c9' (Ex.trans G Z),μ,λw' Z=>cb (Ex.trans G Z),?_⟩⟩;have x153:Ex V w153:=Ex.trans G (hw153▸Ex.drew υ);refine(ο x153).Ho (O2:=(Lv.tidy o' r).1) (L2:=(Lv.tidy o' r).2) (aC.ex l140 x153) (λg J hd=>⟨by omega,λhm=>by have :=hM40 g hm;omega,by omega⟩) ⟨by omega,by omega⟩ λw'' α M' h _=>W w'' α M' ?_
     rw [ht];exact h
    ·have hq:¬a'=b':=by have :=O9 hq;omega
     refine⟨g,0,rfl,_,cg G g4,dQ rfl ⟨μ,cb G,m5 (aC.ex l140 G) ⟨λhe=>W υ ts M (hnil G (by rw [jS,O1 (λh=>hq h.2),Pj ⟨.inl rfl,he⟩])),λhe=>?_⟩⟩⟩;have ht:=hkm he λh=>hq h.2
     exact(ο G).push (hth G) (by omega) λw'' α M' h=>W w'' α M' (ν G ht _ _ _ h)
   | p=>
    refine aW (by dsimp only [K.byte];decide) ⟨g,0,rfl,_,cg G g4,cF (by dsimp only [K.byte];decide) ⟨g,0,rfl,_,cg G g4,dc rfl ⟨μ,cb G,m5 (aC.ex l140 G) ⟨λhe=>W υ ts M (hnil G (by rw [jS,O1 (λh=>by cases h.1),Pj ⟨.inr rfl,he⟩])),λhe=>?_⟩⟩⟩⟩;have ht:=hkm he λh=>by cases h.1
    exact(ο G).push (hth G) (by omega) λw'' α M' h=>W w'' α M' (ν G ht _ _ _ h)
   | s=>
    refine aW (by dsimp only [K.byte];decide) ⟨g,0,rfl,_,cg G g4,cF (by dsimp only [K.byte];decide) ⟨g,0,rfl,_,cg G g4,aW (by dsimp only [K.byte];decide) ?_⟩⟩;exact(ο G).push (hth G) (by omega) λw'' α M' h=>W w'' α M' (ν G (by rw [jS,O1 (λh=>by cases h.1),O1 (λh=>by rcases h.1 with h | h<;>cases h)]) _ _ _ h)
   | r=>
    refine aW (by dsimp only [K.byte];decide) ⟨g,0,rfl,_,cg G g4,cF (by dsimp only [K.byte];decide) ⟨g,0,rfl,_,cg G g4,aW (by dsimp only [K.byte];decide) ?_⟩⟩;exact(ο G).push (hth G) (by omega) λw'' α M' h=>W w'' α M' (ν G (by rw [jS,O1 (λh=>by cases h.1),O1 (λh=>by rcases h.1 with h | h<;>cases h)]) _ _ _ h)
   | t=>
    refine aW (by dsimp only [K.byte];decide) ⟨g,0,rfl,_,cg G g4,cF (by dsimp only [K.byte];decide) ⟨g,0,rfl,_,cg G g4,aW (by dsimp only [K.byte];decide) ?_⟩⟩;exact(ο G).push (hth G) (by omega) λw'' α M' h=>W w'' α M' (ν G (by rw [jS,O1 (λh=>by cases h.1),O1 (λh=>by rcases h.1 with h | h<;>cases h)]) _ _ _ h)
  ·clear he;obtain⟨_,_,a',b',vp0,us0,e,⟨g,rfl,g2,g3,g4,g5,g6,g7,g8⟩,hsl,hus,_⟩:=he0;obtain⟨rfl,_⟩:=PQ e;have hS0:∀{w1:World},Ex w w1->∀{j:Nat} {u:Value},w.cell? ⟨g,j,none⟩=some u->w1.cell? ⟨g,j,none⟩=some u:=by
    intro w1 Z j u hu;rw [Z.cell (show g< _ from g3)];exact hu
   refine⟨λw'=>Ex H w',λχ θ=>⟨θ▸Ex.drew H,g,0,rfl,43,λw' Z=>hS0 (Ex.trans φ Z) g4,g,0,rfl,_,λw' Z=>hS0 (Ex.trans φ Z) g5,g,0,rfl,_,λw' Z=>hS0 (Ex.trans φ Z) g6,λb39 γ hb39 ι=>?_⟩⟩;have x29:Ex H χ:=θ▸Ex.drew H;have s29:χ.heap.size=H.heap.size:=by rw [θ];rfl
   have κ:Ex H γ:=Ex.trans x29 (ι▸Ex.alloc χ _);have s40:γ.heap.size=χ.heap.size+1:=by rw [ι,size_alloc]
   have th40:kR γ b39 43 a' b' (.pointer none) (.slice none 0 0):=kR.new hb39 ι;have l9:=δ.l9;have n39:b39≠b9:=by omega
   have h39:w.heap.size<=b39:=by have :=φ.size;omega
   have ti40:TI w γ b7 b9 O L ts M λg=>g=b9\/g=b39:=δ.ND (Kp.af κ λ _=>False) (λ _ h=>h.elim) (λg h=> .inl h) λg h=>h.elim .inl λh=> .inr (by omega)
   have si40:SI w γ b7 b9 b39 O L ts M (λg=>g=b9\/g=b39) a' b' .nil:=⟨ti40,.inr rfl,h39,n39,.slice none 0 0,[],th40,aF.nil _ _ _,rfl,λg h=>by cases h⟩
   simp only [Lv.sz]at hesz;simp only [Lv.tot]at hetot hTe;obtain⟨ap,capp,hvp⟩:=hsl.slice;have hul:=hus.len;have hpel:=Lv.cN ps;have hplt:=ck ps;refine⟨κ,g,0,rfl,_,hS0 (Ex.trans φ κ) g4,dc rfl ⟨g,0,rfl,vp0,hS0 (Ex.trans φ κ) g8,ap,_,capp,hvp,λx w'=>∃(j:Nat) (X:Nat->Prop),x=j/\j<=ps.bB.length/\SI w w' b7 b9 b39 O L ts M X a' b' (Lv.tid (ps.take j)).2,λx _=>(ps.bB.length - x).toNat,⟨0,_,rfl,by omega,by simpa [Lv.take,Lv.tid]using si40⟩,λx β hI=>?_⟩⟩;obtain⟨j,X,rfl,hj,ξ⟩:=hI;have x53:=ξ.ti.ex;refine⟨λhc=>?_,λhc=>?_⟩
   ·have hc:=O7 hc;have hjl:j< us0.length:=by omega
    have hjl':j< ps.bB.length:=by omega
    refine(hsl.ex x53).get (i:=j) (x:=us0[j]) (by omega) (by simp [hjl]) ?_;have hpe:=hus.bB.2 j ps.bB[j] us0[j] (OH hjl') (OH hjl);have hpm:=OP hjl';have hpsz:=Lv.eJ ps _ hpm;have hptot:=Lv.gJ ps _ hpm;obtain⟨o'',q,epq,hq⟩:=Lv.mQ hps _ hpm;have htk:(Lv.tid (ps.take (j+1))).2=(Lv.tid (ps.take j)).2.app (Lv.prt (Lv.tidy o'' q).1 (Lv.tidy o'' q).2 .nil):=by
     rw [Lv.take_succ ps j hjl',Lv.BE _ (Lv.pM ps j hps),epq];rfl
    have hQ:=ck (Lv.tid (ps.take j)).2;have hQ1:=Lv.eF (ps.take j);have hQ2:=Lv.gh ps (j+1);rw [Lv.take_succ ps j hjl',Lv.cn,epq]at hQ2;rw [epq]at hpe hpsz hptot;generalize us0[j]=v58 at*;obtain⟨v58',_,e58,hlq,_⟩:=hpe;obtain⟨rfl,_⟩:=PQ e58;simp only [Lv.sz]at hpsz;simp only [Lv.tot]at hptot hQ2;have hfin:∀w' X',SI w w' b7 b9 b39 O L ts M X' a' b' (Lv.tid (ps.take (j+1))).2->a7 ((j:Int)+1)/\(∃(j':Nat) (X:Nat->Prop),((j:Int)+1)=j'/\j'<=ps.bB.length/\SI w w' b7 b9 b39 O L ts M X a' b' (Lv.tid (ps.take j')).2)/\((ps.bB.length:Int) - ((j:Int)+1)).toNat< ((ps.bB.length:Int) - (j:Int)).toNat:=
     λw' X' h=>⟨by omega,⟨j+1,X',by omega,by omega,h⟩,by omega⟩
    refine ih q.sz (by omega) (OQ _) hq (gB.ex hlq x53) (by omega) λv59 η x60 l59=>?_
    have si60:=ξ.ext x60;have hrt:=oW o'' q;have hqsh:(Lv.tidy o'' q).2.sh true=true:=Lv.dV q true hq;generalize Lv.tidy o'' q=r' at*;have hM53:∀g,M g->g< β.heap.size:=λg J=>(ξ.ti.bd.mr g J).2
    have hX53:=ξ.ti.xl;have hsz53:=x53.size;refine m5 l59 ⟨λhe=>?_,λhe=>Kf l59 hqsh ⟨λhs=>?_,λhs=>?_⟩⟩
    ·refine hfin η X ?_;rw [htk,xC,Pj he,Lv.aY];exact si60
    ·obtain⟨ps',ep⟩:∃ps',r'.2= .sum ps' .nil:=by
      have :=(Bool.and_eq_true_iff.1 hs).2;generalize r'.2=q' at*
      match q',this with
      | .sum ps' .nil,_=>exact⟨ps',rfl⟩
     rw [xC,O1 (by rw [he];simp),Pj hs,ep]at htk;have htk:(Lv.tid (ps.take (j+1))).2=(Lv.tid (ps.take j)).2.app ps':=htk;unfold aC at l59;rw [ep]at l59 hrt;obtain⟨b59,vo59,vt59,tsq,rfl,k2,k3,k4,k5,k6,k7,k8⟩:=l59;obtain⟨_,_,aq,bq,vpq,usq,rfl,⟨gq,rfl,q2,q3,q4,q5,q6,q7,q8⟩,qsl,qus,rfl⟩:=k8;obtain⟨vp,us,ε,ho60,hu60,hob⟩:=si60.sl;have hobl:∀x,vp.ownBlock=some x->x< β.heap.size:=λx Z=>hX53 x (hob x Z).1
     refine⟨λw'=>Kp η w' λg=>vp.ownBlock=some g,λw66 hw66=>⟨hw66▸Kp.af (Ex.drew η) _,vp,λw' k=>?_,b59,0,rfl,vt59,λw' k=>?_,?_⟩⟩
     ·rw [OG (w:=η) (k.block b39 ε.lt λe=>(hob _ e).2.2 rfl)];exact ε.c4
     ·rw [OG (w:=η) (k.block b59 k3 λe=>by have :=hobl _ e;have:β.heap.size<=b59:=k2;omega)];exact k5
     have x66:Ex η w66:=hw66▸Ex.drew η;rcases k7 with⟨_,e⟩ | ⟨bt,off,cp,rfl,t2,t3,t4⟩
     ·cases e
     refine⟨bt,off,1,cp,rfl,by omega,by omega,ptr gq,λw' k=>?_,gq,0,rfl,vpq,λw' k=>?_,?_⟩
     ·rw [OG (w:=η) (k.block bt t3 λe=>by have :=hobl _ e;have:β.heap.size<=bt:=t2;omega)];exact t4 0 _ rfl
     ·rw [OG (w:=η) (k.block gq q3 λe=>by have :=hobl _ e;have:β.heap.size<=gq:=q2;omega)];exact q8
     have hqd:ah (λg=>(w.heap.size<=g/\¬M g/\¬X g)/\g< w66.heap.size) w66 ps' usq:=ah.sub (λg J hd=>⟨⟨by have:β.heap.size<=g:=hd;omega,λhm=>by have :=hM53 g hm;have:β.heap.size<=g:=hd;omega,λhm=>by have :=hX53 g hm;have:β.heap.size<=g:=hd;omega⟩,J⟩) (ah.ex qus x66);have hql:=qus.len;have hql2:=ck ps';simp only [Lv.tot]at hrt;refine(si60.ext x66).push (qsl.ex x66) hqd (by omega) (by rw [x66.cell (show b39< _ from ε.lt)];exact ε.c4) λv84 w85 hv84 k85 hc85 hset=>⟨Kp.trans (Kp.af x66 _) k85 λ _ _ h=>h,hv84,hc85,λw87 hw87=>?_⟩
     obtain⟨X',hsi⟩:=hset w87 hw87;refine hfin w87 X' ?_;rw [htk];exact hsi
    ·rw [xC,O1 (by rw [he];simp),O1 (by rw [hs];simp)]at htk;obtain⟨vp,us,ε,ho60,hu60,hob⟩:=si60.sl;refine⟨vp,ε.c4,gB.one l59,λb89 w90 hb89 hw90=>?_⟩;have x90:Ex η w90:=hw90▸Ex.alloc η _;have s90:w90.heap.size=η.heap.size+1:=by rw [hw90,size_alloc]
     have hsl1:eP (λx=>x=b89) w90 (.slice (some ⟨b89,0,none⟩) 1 1) [v59]:=by
      refine .inr ⟨b89,0,1,rfl,rfl,by omega,λi x Z=>?_⟩;rw [Ph,hw90,hb89];refine aa ?_
      match i,Z with
      | 0,Z=>simpa using Z
      | i+1,Z=>simp at Z
     have hqd:ah (λg=>(w.heap.size<=g/\¬M g/\¬X g)/\g< w90.heap.size) w90 (.part r'.1 r'.2 .nil) [v59]:=⟨v59,[],rfl,aC.sub (aC.ex l59 x90) λg J hd=>⟨⟨by have:β.heap.size<=g:=hd;omega,λhm=>by have :=hM53 g hm;have:β.heap.size<=g:=hd;omega,λhm=>by have :=hX53 g hm;have:β.heap.size<=g:=hd;omega⟩,J⟩,rfl⟩
     refine(si60.ext x90).push hsl1 hqd (by simp only [OF,OX];omega) (by rw [x90.cell (show b39< _ from ε.lt)];exact ε.c4) λv84 w85 hv84 k85 hc85 hset=>⟨hv84,hc85,λw87 hw87=>?_⟩
     obtain⟨X',hsi⟩:=hset w87 hw87;refine hfin w87 X' ?_;rw [htk];exact hsi
   ·have hc:=O9 hc;have:j=ps.bB.length:=by omega
    subst this;rw [Lv.dq]at ξ;have hpsh:(Lv.tid ps).2.sh false=true:=Lv.dV ps false hps;have hpt:=Lv.eF ps;have hpl:=ck (Lv.tid ps).2;have htid:Lv.tid (.sum ps .nil)=Lv.spl (Lv.tid ps).2 ([],.nil):=by simp only [Lv.tid]
    rw [htid]at W;generalize (Lv.tid ps).2=Q at*;have si53':=ξ;obtain⟨ti,hx39,_,_,vp,us,th,ho,hu,hob⟩:=ξ;have ο:TI w β b7 b9 O L ts M λg=>g=b9:=ti.GV (λg h=>h▸ti.x9) rfl
    obtain⟨av,capv,hvpe⟩:=(ho.E4 (D:=λ _=>True) λ _ _=>trivial).slice;have hulen:=hu.len;refine⟨vp,th.c4,av,_,capv,hvpe,λh0=>?_,λh0=>⟨λh1=>?_,λh1=>?_⟩⟩
    ·have h0:=O7 h0;have hQ:Q= .nil:=by
      have:Q.len=0:=by omega
      cases Q<;>first | rfl | simp [Lv.len]at this
     subst hQ;refine W β ts M ?_;simp only [Lv.spl,Po,Lv.aY];exact ο
    ·have h1:=O7 h1;obtain⟨oq,qq,rfl⟩:∃oq qq,Q= .part oq qq .nil:=by
      have:Q.len=1:=by omega
      cases Q with
      | nil=>simp [Lv.len]at this
      | thr=>cases hpsh
      | sum=>cases hpsh
      | part oq qq n=>
       have hn:n= .nil:=by
        have:n.len=0:=by simp only [Lv.len]at this;omega
        cases n<;>first | rfl | simp [Lv.len]at this
       exact⟨oq,qq,by rw [hn]⟩
     obtain⟨u,us',rfl,hlu,rfl⟩:=hu;rcases ho.E4 (D:=λg=>vp.ownBlock=some g) λ _ h=>h with⟨_,e⟩ | ⟨bt,off,cp,hvp2,t2,t3,t4⟩
     ·cases e
     have hnM:∀g,X g->¬M g:=λg Z hm=>ti.mx g hm Z
     refine⟨λw'=>Kp β w' M,λw105 hw105=>⟨hw105▸Kp.af (Ex.drew β) _,ptr b7,λw' k=>?_,vp,λw' k=>?_,bt,off,1,cp,hvp2,by omega,by omega,u,λw' k=>?_,?_⟩⟩
     ·rw [OG (w:=β) (k.block b9 ti.l9 (hnM _ ti.x9))];exact ti.c9
     ·rw [OG (w:=β) (k.block b39 th.lt (hnM _ hx39))];exact th.c4
     ·rw [OG (w:=β) (k.block bt t3 (hnM _ (hob _ t2).1))];exact t4 0 _ rfl
     have x105:Ex β w105:=hw105▸Ex.drew β;simp only [Lv.tot]at hpt;have :=ck qq;refine(ti.ext x105).Ho (O2:=oq) (L2:=qq) (gB.ex hlu x105) (λg _ hd=>hd.1) ⟨by omega,by omega⟩ λw'' α M' h k=>⟨Kp.trans (Kp.af x105 _) k λ _ _ h=>h,W w'' α M' ?_⟩
     simp only [Lv.spl,Po,Lv.aY];exact h.GV (λg h=>h▸ti.x9) rfl
    ·have h0:=O9 h0;have h1:=O9 h1;have hspl:Lv.spl Q ([],.nil)=([],.sum Q .nil):=by
      unfold Lv.spl;split
      ·simp [Lv.len]at hulen;simp [hulen]at h0
      ·simp [Lv.len]at hulen;simp [hulen]at h1
      ·rfl
     refine ο.push (e:= .sum Q .nil) ⟨ptr b39,[],a',b',vp,us,rfl,th.ML ⟨⟨h39,λhm=>ti.mx b39 hm hx39,n39⟩,th.lt⟩,?_,?_,rfl⟩ (by omega) λw'' α M' h=>W w'' α M' ?_
     ·exact ho.E4 λg J=>⟨⟨(ho.block g J).1,λhm=>ti.mx g hm (hob g J).1,(hob g J).2.1⟩,(ho.block g J).2⟩
     ·exact ah.sub (λg _ hd=>⟨⟨hd.1.1,hd.1.2.1,λe=>hd.1.2.2 (e▸ti.x9)⟩,hd.2⟩) hu
     ·rw [hspl,Po];exact h
 ·have hc:=O9 hc;have:i=l.bB.length:=by omega
  subst this;rw [Lv.dq]at δ;have htt:=Lv.eF l;have hsz:=Lv.kj (Lv.tid l).2;have htsh:=Lv.dV l true hsh;have hfil:Lv.tidy o l=((o++(Lv.tid l).1).filter (λx=> !!(Lv.tid l).2.has x),(Lv.tid l).2):=by
   simp only [Bool.not_not];rfl
  rw [hfil]at hR;have hOl:(o++(Lv.tid l).1).length=o.length+(Lv.tid l).1.length:=OM;generalize (o++(Lv.tid l).1)=O at*;generalize (Lv.tid l).2=L at*;have ti:=δ;obtain⟨d1,d2,d3,dr,d4,vo1,vt1,d5,d6,d7,d8,d9,d10,d11⟩:=ti.bd;have hn9:¬M b9:=λhm=>ti.mx b9 hm rfl
  refine⟨λw'=>Kp H w' λg=>vo1.ownBlock=some g,λw302 hw302=>⟨hw302▸Kp.af (Ex.drew H) _,ptr b7,λw' k=>?_,ptr b7,λw' k=>?_,b7,0,rfl,vo1,λw' k=>?_,?_⟩⟩
  ·rw [OG (w:=H) (k.block b9 ti.l9 λe=>hn9 (d9 _ e).1)];exact ti.c9
  ·rw [OG (w:=H) (k.block b9 ti.l9 λe=>hn9 (d9 _ e).1)];exact ti.c9
  ·rw [OG (w:=H) (k.block b7 d1 λe=>(d9 _ e).2 rfl)];exact d5
  have ζ:Ex H w302:=hw302▸Ex.drew H;have kx:Kp H w302 λ _=>False:=Kp.af ζ _
  have hsvt:eP (λg=>w.heap.size<=g/\vo1.ownBlock≠some g/\g< H.heap.size) H vt1 ts:=d8.E4 λg J=>⟨(d8.block g J).1,λe=>d11 g e J,(d8.block g J).2⟩
  have hths:ah (λg=>w.heap.size<=g/\vo1.ownBlock≠some g/\g< H.heap.size) H L ts:=ah.sub (λg J hd=>⟨hd.1.1,λe=>hd.1.2.1 (d9 g e).1,J⟩) ti.th;refine H' (ca:=[ptr b9]) (d7.kp kx λ _ _ h=>h) (by kernel_rfl) (LV (b7:=b7) (vt:=vt1) (D:=λg=>w.heap.size<=g/\vo1.ownBlock≠some g/\g< H.heap.size) ?_ (by have :=ti.l9;have :=ζ.size;omega) ?_ (by have :=ζ.size;omega) (hsvt.ex ζ) (ah.ex hths ζ) htsh (by omega) λg J=>⟨λhd=>hd.2.1 J,λe=>hn9 (e▸(d9 g J).1),(d9 g J).2⟩) (by omega) λv308 w309 hv k309 hsl=>?_
  ·rw [ζ.cell (show b9< _ from ti.l9)];exact ti.c9
  ·rw [ζ.cell (show b7< _ from d1)];exact d6
  have k9:Kp H w309 λg=>vo1.ownBlock=some g:=Kp.trans (Kp.af ζ _) k309 λ _ _ h=>h
  have hb9:=k9.block b7 d1 λe=>(d9 _ e).2 rfl
  have c0:w309.cell? ⟨b7,0,none⟩=some vo1:=by rw [OG (w:=H) hb9];exact d5
  refine⟨k9,b7,0,rfl,hv,⟨⟨_,c0⟩,by rw [Pd (w:=H) hb9];exact d4 _⟩,λw313 hw313=>?_⟩;have kset:Kr b7 w309 w313:=hw313▸Kr.set w309 0 _;have kall:Kp H w313 λg=>vo1.ownBlock=some g\/g=b7:=Kp.trans (Kp.mono (λg e=> .inl e) k9) kset λg _ e=> .inr e
  have hne79:b9≠b7:=λe=>hn9 (e▸d3)
  refine⟨ptr b7,?_,hR _ w313 ?_ ?_⟩
  ·rw [OG (w:=H) (kall.block b9 ti.l9 λe=>e.elim (λe=>hn9 (d9 _ e).1) hne79)];exact ti.c9
  ·exact Ex.below ti.ex (Kp.below kall ti.ex.size λg J e=>by
    rcases e with e | e
    ·have :=(d7.block g e).1;omega
    ·omega)
  ·refine⟨b7,v308,vt1,ts,rfl,d2,O' d1 kall.size,?_,?_,?_,?_,?_⟩
   ·rw [hw313];exact OY _ _ _ c0
   ·rw [hw313,OL _ _ _ _ (by simp),OG (w:=H) hb9];exact d6
   ·exact(hsl.kp kset λg J e=>(d9 g J).2 e).sub λg _ J=>(d7.block g J).1
   ·exact((d8.E4 (D:=λg=>vt1.ownBlock=some g) λ _ h=>h).kp kall λg J e=>e.elim (λe=>d11 g e J) (d10 g J).2).sub λg _ J=>(d8.block g J).1
   ·exact ah.sub (λg _ J=>J.1.1) (ah.kp kall (λg J e=>e.elim (λe=>J.1.2.1 (d9 g e).1) λe=>J.1.2.1 (e▸d3)) ti.th)
theorem Ha:∀n,D3 n:=by
 have:∀k n,n< k->D3 n:=by
  intro k
  induction k with
  | zero=>intro n h;omega
  | succ k G=>exact λn h=>EZ n λm hm=>G m (by omega)
 exact λn=>this (n+1) n (by omega)
end Go.Proofs.YtdecokaadekjnaaGreat
namespace Go.Proofs.YtdecokaadekjnaaGreat
open Go
attribute [go_sem] Tryz.f249
theorem j6 (G:Value)(c2:Value)(c3:Value)(w:World)(R:Sl)(h:vc az (bf [] [] [(1,false,.lt 1 (.lt 4 (.br .h 0 (.lt 2 (.br .h 3 (.lt 5 (.one .h 6 (.one .h 7 .done))) (.one .h 6 (.one .h 3 (.lt 5 (.one .h 7 .done)))))) (.one .h 3 (.lt 5 (.one .h 0 (.lt 2 (.one .h 6 (.one .h 7 .done)))))))))]) (ab Tryz.f249) (aj 0 [.v G,.v c2,.v c3]) w (fin az [] R)):
  Sm 249 #[G,c2,c3] w (an [] R):=
 bD Tryz.func249 (by kernel_rfl) h
theorem lI (l1:Value)(w:World)(R:Int->Int->Sl)(h:ja w λS2 w3=>bH l1 λb4 o5=>dC S2 b4 (o5+0) λv6=>dO v6 λl8=>bH l1 λb10 o11=>dC S2 b10 (o11+0) λv12=>dO v12 λl14=>(cc w3 (.cells #[(.int .i64 0)] 3) λb16 w17=>S2 w17/\cc w17 (.cells #[(.int .i64 0)] 3) λb18 w19=>S2 w19/\fH w19 b16 0 (.int .i64 (l8:Int)) λw21=>S2 w21/\fH w21 b18 0 (.int .i64 (l14:Int)) λw23=>bH l1 λb24 o25=>bz w23 b24 (o25+1) λv26=>dO v26 λl28=>kH 0 w23 λI30 μ J Z=>bC (decide (J< (l28:Int))) (cJ v26 J λb34 o35=>bz Z b34 (o35+J.toNat* 1) λν=>bH ν λb39 o40=>bz Z b39 (o40+3) λv41=>∃q42:Option Addr,v41= .pointer q42/\bC (!Option.isNone q42) (bH ν λb43 o44=>bz Z b43 (o44+3) λv45=>∃(f46:Nat) (c47:List Value),(Value.func (.func 249) #[] #[(.pointer (some ⟨b16,0,none⟩)),(.pointer (some ⟨b18,0,none⟩))])= .func (.func f46) #[] (List.toArray c47)/\hasR gj f46=true/\fC f46 (List.toArray ([v45]++c47)) Z λw48=>bH ν λb49 o50=>bz w48 b49 (o50+4) λv51=>dO v51 λl53=>kH 0 w48 λI55 m56 γ η=>bC (decide (γ< (l53:Int))) (cJ v51 γ λb59 o60=>bz η b59 (o60+γ.toNat* 1) λv63=>∃(f64:Nat) (c65:List Value),(Value.func (.func 249) #[] #[(.pointer (some ⟨b16,0,none⟩)),(.pointer (some ⟨b18,0,none⟩))])= .func (.func f64) #[] (List.toArray c65)/\hasR gj f64=true/\fC f64 (List.toArray ([v63]++c65)) η λw66=>a7 (γ+1)/\I55 (γ+1) w66/\m56 (γ+1) w66< m56 γ η) (a7 (J+1)/\I30 (J+1) η/\μ (J+1) η< μ J Z)) (bH ν λb67 o68=>bz Z b67 (o68+4) λv69=>dO v69 λl71=>kH 0 Z λI73 m74 δ θ=>bC (decide (δ< (l71:Int))) (cJ v69 δ λb77 o78=>bz θ b77 (o78+δ.toNat* 1) λv81=>∃(f82:Nat) (c83:List Value),(Value.func (.func 249) #[] #[(.pointer (some ⟨b16,0,none⟩)),(.pointer (some ⟨b18,0,none⟩))])= .func (.func f82) #[] (List.toArray c83)/\hasR gj f82=true/\fC f82 (List.toArray ([v81]++c83)) θ λw84=>a7 (δ+1)/\I73 (δ+1) w84/\m74 (δ+1) w84< m74 δ θ) (a7 (J+1)/\I30 (J+1) θ/\μ (J+1) θ< μ J Z))) (ja Z λS85 w86=>wF S85 b16 0 λn87=>wF S85 b18 0 λn88=>R n87 n88 w86))/\(cc w3 (.cells #[(.int .i64 0)] 3) λι w90=>S2 w90/\cc w90 (.cells #[(.int .i64 0)] 3) λκ w92=>S2 w92/\fH w92 κ 0 (.int .i64 (l8:Int)) λw94=>S2 w94/\fH w94 ι 0 (.int .i64 (l14:Int)) λw96=>bH l1 λb97 o98=>bz w96 b97 (o98+1) λv99=>dO v99 λl101=>kH 0 w96 λξ ε G H=>bC (decide (G< (l101:Int))) (cJ v99 G λb107 o108=>bz H b107 (o108+G.toNat* 1) λζ=>bH ζ λb112 o113=>bz H b112 (o113+3) λv114=>∃ο:Option Addr,v114= .pointer ο/\bC (!Option.isNone ο) (bH ζ λb116 o117=>bz H b116 (o117+3) λv118=>∃(f119:Nat) (ς:List Value),(Value.func (.func 249) #[] #[(.pointer (some ⟨κ,0,none⟩)),(.pointer (some ⟨ι,0,none⟩))])= .func (.func f119) #[] (List.toArray ς)/\hasR gj f119=true/\fC f119 (List.toArray ([v118]++ς)) H λυ=>bH ζ λb122 o123=>bz υ b122 (o123+4) λv124=>dO v124 λl126=>kH 0 υ λI128 φ V α=>bC (decide (V< (l126:Int))) (cJ v124 V λb132 o133=>bz α b132 (o133+V.toNat* 1) λv136=>∃(f137:Nat) (χ:List Value),(Value.func (.func 249) #[] #[(.pointer (some ⟨κ,0,none⟩)),(.pointer (some ⟨ι,0,none⟩))])= .func (.func f137) #[] (List.toArray χ)/\hasR gj f137=true/\fC f137 (List.toArray ([v136]++χ)) α λψ=>a7 (V+1)/\I128 (V+1) ψ/\φ (V+1) ψ< φ V α) (a7 (G+1)/\ξ (G+1) α/\ε (G+1) α< ε G H)) (bH ζ λb140 o141=>bz H b140 (o141+4) λω=>dO ω λl144=>kH 0 H λI146 m147 W β=>bC (decide (W< (l144:Int))) (cJ ω W λb150 o151=>bz β b150 (o151+W.toNat* 1) λv154=>∃(f155:Nat) (c156:List Value),(Value.func (.func 249) #[] #[(.pointer (some ⟨κ,0,none⟩)),(.pointer (some ⟨ι,0,none⟩))])= .func (.func f155) #[] (List.toArray c156)/\hasR gj f155=true/\fC f155 (List.toArray ([v154]++c156)) β λw157=>a7 (W+1)/\I146 (W+1) w157/\m147 (W+1) w157< m147 W β) (a7 (G+1)/\ξ (G+1) β/\ε (G+1) β< ε G H))) (ja H λS158 w159=>wF S158 κ 0 λn160=>wF S158 ι 0 λn161=>R n160 n161 w159))):
  Sm 236 #[l1] w (an [.i,.i] R):=
 D5 (bf [(4,[(27,.i)]),(9,[(47,.i)])] [] [(1,true,.lt 0 (.lt 1 (.lt 2 (.lt 3 (.lt 4 (.lt 5 (.lt 6 (.lt 7 (.lt 8 (.lt 9 (.br .g 10 (.one .g 11 (.one .g 12 (.one .n 13 .done))) (.one .g 11 (.one .g 10 (.one .g 12 (.one .n 13 .done))))))))))))))),(14,true,.lt 0 (.lt 1 (.lt 2 (.lt 3 .done))))]) [.tmp 2 .i,.tmp 3 .i] [.v l1] Tryz.func236 (by kernel_rfl) h
attribute [go_sem] Tryz.f59
theorem Aw (c1:UInt8)(w:World)(R:UInt32->Sl)(h:vc az (bf [] [] []) (ab Tryz.f59) (aj 0 [.c c1]) w (fin az [.tmp 2 .w] R)):
  Sm 59 #[(.int .u8 c1.toNat)] w (an [.w] R):=
 bD Tryz.func59 (by kernel_rfl) h
attribute [go_sem] Tryz.f130
theorem wm (s1:UInt32)(w:World)(R:UInt8->Bool->Sl)(h:vc az (bf [(2,[(4,.c)])] [] []) (ab Tryz.f130) (aj 0 [.w s1]) w (fin az [.tmp 2 .c,.tmp 3 .b] R)):
  Sm 130 #[(.int .u32 (UInt32.toNat s1))] w (an [.c,.b] R):=
 bD Tryz.func130 (by kernel_rfl) h
attribute [go_sem] Tryz.f252
theorem oQ (n1:Value)(G:Int)(w:World)(R:UInt32->Sl)(h:vc az (bf [] [] [(6,true,.lt 0 (.lt 1 (.lt 2 (.lt 3 (.lt 4 (.one .g 5 (.lt 6 (.lt 7 (.lt 8 (.one .n 9 .done))))))))))]) (ab Tryz.f252) (aj 0 [.v n1,.i G]) w (fin az [.tmp 4 .w] R)):
  Sm 252 #[n1,(.int .i64 G)] w (an [.w] R):=
 bD Tryz.func252 (by kernel_rfl) h
attribute [go_sem] Tryz.f253
theorem oN (n1:Value)(G:Int)(w:World)(R:aB->Sl)(h:vc az (bf [] [] []) (ab Tryz.f253) (aj 0 [.v n1,.i G]) w (fin az [.tmp 4 .s] R)):
  Sm 253 #[n1,(.int .i64 G)] w (an [.s] R):=
 bD Tryz.func253 (by kernel_rfl) h
attribute [go_sem] Tryz.f255
theorem xV (t1:Value)(s2:aB)(w:World)(R:aB->Sl)(h:vc az (bf [(4,[(5,.s),(6,.i)])] [] []) (ab Tryz.f255) (aj 0 [.v t1,.s s2]) w (fin az [.tmp 4 .s] R)):
  Sm 255 #[t1,(.string (ai s2))] w (an [.s] R):=
 bD Tryz.func255 (by kernel_rfl) h
attribute [go_sem] Tryz.f254
theorem lj (n1:Value)(t2:Value)(w:World)(R:aB->Sl)(h:vc az (bf [(5,[(5,.v),(24,.i)])] [] [(15,true,.lt 0 (.lt 1 (.lt 2 (.lt 3 (.lt 4 (.lt 6 (.lt 7 (.lt 8 (.lt 9 (.lt 10 (.one .g 5 (.one .g 11 (.lt 12 (.lt 13 .done)))))))))))))),(19,true,.lt 0 (.lt 1 (.lt 2 (.lt 3 (.lt 4 (.lt 7 (.lt 8 (.lt 9 (.lt 10 (.lt 11 (.lt 15 (.lt 16 (.lt 17 (.lt 18 (.lt 19 (.one .g 5 (.lt 6 (.one .g 12 (.lt 13 (.lt 14 (.one .g 20 (.lt 21 (.lt 22 .done))))))))))))))))))))))),(22,true,.lt 0 (.lt 1 (.lt 2 (.lt 3 (.lt 4 (.lt 7 (.lt 8 (.lt 9 (.lt 10 (.lt 11 (.lt 15 (.lt 16 (.lt 17 (.lt 18 (.lt 19 (.one .g 5 (.lt 6 (.one .g 12 (.lt 13 (.lt 14 (.one .g 20 (.lt 21 (.lt 22 .done)))))))))))))))))))))))]) (ab Tryz.f254) (aj 0 [.v n1,.v t2]) w (fin az [.tmp 4 .s] R)):
  Sm 254 #[n1,t2] w (an [.s] R):=
 bD Tryz.func254 (by kernel_rfl) h
attribute [go_sem] Tryz.f251
theorem kQ (c1:Value)(c2:Value)(c3:Value)(c4:Value)(c5:Value)(w:World)(R:Sl)(h:vc az (bf [(2,[(5,.s),(14,.i)]),(9,[(8,.v),(35,.i)])] [] []) (ab Tryz.f251) (aj 0 [.v c1,.v c2,.v c3,.v c4,.v c5]) w (fin az [] R)):
  Sm 251 #[c1,c2,c3,c4,c5] w (an [] R):=
 bD Tryz.func251 (by kernel_rfl) h
attribute [go_sem] Tryz.f250
theorem lM (G:Value)(a2:Int)(d3:Value)(w:World)(R:Sl)(h:vc az (bf [(3,[(6,.i)])] [] [(5,true,.lt 0 (.lt 1 (.lt 2 (.lt 3 (.lt 4 (.lt 5 (.lt 6 (.lt 7 (.lt 8 (.lt 9 (.lt 10 (.lt 11 (.lt 12 (.one .n 13 (.lt 14 (.one .n 15 .done)))))))))))))))),(7,true,.lt 0 (.lt 1 (.lt 2 (.lt 3 (.lt 4 (.lt 5 (.lt 6 (.lt 7 (.lt 8 (.lt 9 (.lt 10 (.lt 11 (.lt 12 (.one .n 13 (.lt 14 (.one .n 15 .done))))))))))))))))]) (ab Tryz.f250) (aj 0 [.v G,.i a2,.v d3]) w (fin az [] R)):
  Sm 250 #[G,(.int .i64 a2),d3] w (an [] R):=
 bD Tryz.func250 (by kernel_rfl) h
attribute [go_sem] Tryz.f237
theorem nh (n1:Value)(l2:Value)(w:World)(R:aB->Sl)(h:vc az (bf [] [] [(3,true,.lt 0 (.lt 1 (.lt 2 (.lt 3 (.br .g 4 (.one .g 5 (.one .g 6 (.one .n 7 .done))) (.one .g 5 (.one .g 4 (.one .g 6 (.one .n 7 .done)))))))))]) (ab Tryz.f237) (aj 0 [.v n1,.v l2]) w (fin az [.tmp 4 .s] R)):
  Sm 237 #[n1,l2] w (an [.s] R):=
 bD Tryz.func237 (by kernel_rfl) h
attribute [go_sem] Tryz.f216
theorem lE (G:Value)(w:World)(R:aB->Bool->Sl)(h:vc az (bf [(7,[(25,.i)])] [] [(10,true,.lt 0 (.lt 1 (.lt 2 (.lt 3 (.lt 4 (.lt 5 (.lt 6 (.lt 7 (.lt 8 (.one .n 9 .done))))))))))]) (ab Tryz.f216) (aj 0 [.v G]) w (fin az [.tmp 2 .s,.tmp 3 .b] R)):
  Sm 216 #[G] w (an [.s,.b] R):=
 bD Tryz.func216 (by kernel_rfl) h
attribute [go_sem] Tryz.f175
theorem m8 (t1:Value)(w:World)(R:aB->Bool->Sl)(h:vc az (bf [] [] []) (ab Tryz.f175) (aj 0 [.v t1]) w (fin az [.tmp 2 .s,.tmp 3 .b] R)):
  Sm 175 #[t1] w (an [.s,.b] R):=
 bD Tryz.func175 (by kernel_rfl) h
end Go.Proofs.YtdecokaadekjnaaGreat
namespace Go.Proofs.YtdecokaadekjnaaGreat
open Go Go.RowKit
theorem dw:∀l:Lv,thAll l<=l.tot
 | .nil=>OQ _
 | .thr _ _ _ o r n=>by have :=dw r;have :=dw n;simp only [thAll,Lv.tot];omega
 | .sum ps n=>by have :=dw ps;have :=dw n;simp only [thAll,Lv.tot];omega
 | .part o q n=>by have :=dw q;have :=dw n;simp only [thAll,Lv.tot];omega
def Nw (n:Nat):Prop:=∀{D:Nat->Prop} {w:World} {v:Value} {o:List Nat} {l:Lv} {R:Int->Int->Sl},l.sz<=n->l.sh true=true->gB D w v o (ah D w l)->o.length+l.tot<=1099511627776->
 (∀w',Ex w w'->R ((max o.length (ax l):Nat):Int) ((o.length+thAll l:Nat):Int) w')->Sm 236 #[v] w (an [.i,.i] R)
structure FS (w w':World)(bm ba m a:Nat):Prop where
 ex:Ex w w'
 lm:bm< w'.heap.size
 la:ba< w'.heap.size
 hm:w.heap.size<=bm
 ha:w.heap.size<=ba
 ne:bm≠ba
 cm:w'.cell? ⟨bm,0,none⟩=some (iv m)
 ca:w'.cell? ⟨ba,0,none⟩=some (iv a)
 fm:w'.frozen? ⟨bm,0,none⟩=false
 fa:w'.frozen? ⟨ba,0,none⟩=false
theorem FS.ext {w w' w'':World}{bm ba m a:Nat}(h:FS w w' bm ba m a)(x:Ex w' w''):FS w w'' bm ba m a:=
 ⟨Ex.trans h.ex x,O' h.lm x.size,O' h.la x.size,h.hm,h.ha,h.ne,by rw [x.cell (show bm< _ from h.lm)];exact h.cm,by rw [x.cell (show ba< _ from h.la)];exact h.ca,
  by rw [Pd (w:=w') (x.block bm h.lm)];exact h.fm,by rw [Pd (w:=w') (x.block ba h.la)];exact h.fa⟩
theorem FS.L6 {w w' w'':World}{bm ba m a m':Nat}(h:FS w w' bm ba m a)(hw:w''=w'.setCell ⟨bm,0,none⟩ (iv m')):FS w w'' bm ba m' a:=by
 subst hw;exact⟨Ex.own h.ex h.hm _,by rw [Pu];exact h.lm,by rw [Pu];exact h.la,h.hm,h.ha,h.ne,OY _ _ _ h.cm,by rw [OL _ _ _ _ (λe=>by injection e with G;exact h.ne G)];exact h.ca,by rw [O0];exact h.fm,by rw [O0];exact h.fa⟩
theorem FS.MA {w w' w'':World}{bm ba m a a':Nat}(h:FS w w' bm ba m a)(hw:w''=w'.setCell ⟨ba,0,none⟩ (iv a')):FS w w'' bm ba m a':=by
 subst hw;exact⟨Ex.own h.ex h.ha _,by rw [Pu];exact h.lm,by rw [Pu];exact h.la,h.hm,h.ha,h.ne,by rw [OL _ _ _ _ (λe=>by injection e with G;exact h.ne G.symm)];exact h.cm,OY _ _ _ h.ca,by rw [O0];exact h.fm,by rw [O0];exact h.fa⟩
theorem Le {n:Nat}(ih:Nw n){D:Nat->Prop}{w w':World}{v:Value}{o:List Nat}{l:Lv}{bm ba m a:Nat}(hs:FS w w' bm ba m a)(hn:l.sz<=n)(Z:l.sh true=true)(h:gB D w' v o (ah D w' l))(hb:a+o.length+l.tot<=1099511627776){R:Sl}
  (hR:∀w'',FS w w'' bm ba (max m (max o.length (ax l))) (a+(o.length+thAll l))->R w''):Sm 249 #[v,ptr bm,ptr ba] w' (an [] R):=by
 refine j6 v _ _ w' R ?_;dsimp only [go_sem];dsimp only [go_sem,UInt8.reduceOfNat,UInt32.reduceOfNat,Nat.reduceAdd];have h1:=dw l;refine ih hn Z h (by omega) λw6 x6=>⟨λ _=>True,λw8 α=>⟨trivial,?_⟩⟩
 have f8:FS w w8 bm ba m a:=(hs.ext x6).ext (α▸Ex.drew w6);have em:(if((max o.length (ax l):Nat):Int)> (m:Int)then((max o.length (ax l):Nat):Int)else(m:Int))=((max m (max o.length (ax l)):Nat):Int):=by split<;>omega
 have ea:((a:Int)+((o.length+thAll l:Nat):Int))=((a+(o.length+thAll l):Nat):Int):=by omega
 have W:a7 ((a:Int)+((o.length+thAll l:Nat):Int)):=by omega
 have fin:∀w1 w2,FS w w1 bm ba (max m (max o.length (ax l))) a->w2=w1.setCell ⟨ba,0,none⟩ (.int .i64 ((a:Int)+((o.length+thAll l:Nat):Int)))->True/\R w2:=λw1 w2 f1 hw=>by
  rw [ea]at hw;exact⟨trivial,hR w2 (f1.MA hw)⟩
 have mid:∀w1,w1=w8.setCell ⟨bm,0,none⟩ (.int .i64 (if((max o.length (ax l):Nat):Int)> (m:Int)then((max o.length (ax l):Nat):Int)else(m:Int)))->FS w w1 bm ba (max m (max o.length (ax l))) a:=λw1 hw=>by
  rw [em]at hw;exact f8.L6 hw
 refine⟨⟨bm,0,rfl,m,f8.cm,trivial,⟨ba,0,rfl,a,f8.ca,trivial,W,bm,0,rfl,⟨⟨_,f8.cm⟩,f8.fm⟩,λH G=>⟨trivial,ba,0,rfl,⟨⟨_,(mid H G).ca⟩,(mid H G).fa⟩,λV J=>fin H V (mid H G) J⟩⟩,
  ⟨bm,0,rfl,⟨⟨_,f8.cm⟩,f8.fm⟩,λH G=>⟨trivial,ba,0,rfl,a,(mid H G).ca,trivial,W,ba,0,rfl,⟨⟨_,(mid H G).ca⟩,(mid H G).fa⟩,λV J=>fin H V (mid H G) J⟩⟩⟩,
  ⟨ba,0,rfl,a,f8.ca,trivial,W,bm,0,rfl,m,f8.cm,trivial,bm,0,rfl,⟨⟨_,f8.cm⟩,f8.fm⟩,λH G=>⟨trivial,ba,0,rfl,⟨⟨_,(mid H G).ca⟩,(mid H G).fa⟩,λV J=>fin H V (mid H G) J⟩⟩⟩
theorem FS.swap {w w':World}{bm ba m a:Nat}(h:FS w w' bm ba m a):FS w w' ba bm a m:=⟨h.ex,h.la,h.lm,h.ha,h.hm,R2 h.ne,h.ca,h.cm,h.fa,h.fm⟩
theorem aG (w:World)(c:Array Value)(e j:Nat):(w.alloc (.cells c e)).frozen? ⟨w.heap.size,j,none⟩=false:=by unfold World.frozen? World.alloc;simp
theorem FS.new {w w1 w2 V:World}{bm ba:Nat}(x:Ex w w1)(hm:bm=w1.heap.size)(H:w2=w1.alloc (.cells #[iv 0] 3))(ha:ba=w2.heap.size)(J:V=w2.alloc (.cells #[iv 0] 3)):Ex w w2/\FS w V bm ba 0 0:=by
 have :=x.size;subst hm H ha J;have W:Ex w (w1.alloc (.cells #[iv 0] 3)):=Ex.trans x (Ex.alloc _ _);have s2:=size_alloc w1 (.cells #[iv 0] 3);have Z:=size_alloc (w1.alloc (.cells #[iv 0] 3)) (.cells #[iv 0] 3);have G:w1.heap.size< (w1.alloc (.cells #[iv 0] 3)).heap.size:=by omega
 refine⟨W,Ex.trans W (Ex.alloc _ _),by omega,by omega,this,by omega,by omega,?_,aa rfl,?_,aG _ _ _ _⟩
 ·rw [(Ex.alloc _ _).cell (a:=⟨w1.heap.size,0,none⟩) G];exact aa rfl
 ·rw [Pd (w:=w1.alloc (.cells #[iv 0] 3)) ((Ex.alloc _ _).block _ G)];exact aG _ _ _ _
theorem AU (n:Nat)(ih:∀m,m< n->Nw m):Nw n:=by
 intro D w v o l R hn hsh h hb hR;refine lI v w R ?_;obtain⟨b,vo,vt,ts,rfl,h2,h3,h4,h5,h6,h7,h8⟩:=h;obtain⟨ao,ν,ς⟩:=h6.slice;rw [O8]at ς;obtain⟨at_,capt,hvt⟩:=h7.slice;have hlen:=h8.len;have hel:=Lv.cN l;have hlt:=ck l;have cv:∀{w1:World},Ex w w1->∀{j:Nat} {u:Value},w.cell? ⟨b,j,none⟩=some u->w1.cell? ⟨b,j,none⟩=some u:=by
  intro w1 hx j u hu;rw [hx.cell (show b< _ from h3)];exact hu
 have fin:∀bm ba J,FS w J bm ba (max o.length (ax l)) (o.length+thAll l)->∃υ:Sl,∀η:World,η=World.drew J->υ η/\∃n87:Int,(∀w',υ w'->World.cell? w' ⟨bm,0,none⟩=some (Value.int IntKind.i64 n87))/\∃n88:Int,(∀w',υ w'->World.cell? w' ⟨ba,0,none⟩=some (Value.int IntKind.i64 n88))/\R (n87) (n88) η:=by
  intro bm ba J f;refine⟨λw'=>Ex J w',λη ξ=>⟨ξ▸Ex.drew J,((max o.length (ax l):Nat):Int),λw' x=>(f.ext x).cm,((o.length+thAll l:Nat):Int),λw' x=>(f.ext x).ca,hR _ (Ex.trans f.ex (ξ▸Ex.drew J))⟩⟩
 refine⟨λw'=>Ex w w',λw3 hw3=>⟨hw3▸Ex.drew w,b,0,rfl,vo,λw' hx=>cv hx h4,ao,_,ν,ς,b,0,rfl,vo,λw' hx=>cv hx h4,ao,_,ν,ς,λb1 φ δ H=>?A,λb1 φ δ H=>?B⟩⟩
 all_goals have x3:Ex w w3:=hw3▸Ex.drew w
 case' A=>
  have χ:Ex w φ:=H▸Ex.trans x3 (Ex.alloc _ _);refine⟨χ,λb2 w19 ε V=>?_⟩;have f:=(FS.new x3 δ H ε V).2;refine⟨f.ex,⟨⟨_,f.cm⟩,f.fm⟩,λw21 W=>?_⟩;have f21:=f.L6 (m':=o.length) W;refine⟨f21.ex,⟨⟨_,f21.ca⟩,f21.fa⟩,λw23 Z=>?_⟩;have f23:=f21.MA (a':=o.length) Z;generalize b1=bm at*;generalize b2=ba at*;clear δ ε H V W Z f f21
 case' B=>
  have χ:Ex w φ:=H▸Ex.trans x3 (Ex.alloc _ _);refine⟨χ,λb2 w19 ε V=>?_⟩;have f:=(FS.new x3 δ H ε V).2.swap;refine⟨f.ex,⟨⟨_,f.cm⟩,f.fm⟩,λw21 W=>?_⟩;have f21:=f.L6 (m':=o.length) W;refine⟨f21.ex,⟨⟨_,f21.ca⟩,f21.fa⟩,λw23 Z=>?_⟩;have f23:=f21.MA (a':=o.length) Z;generalize b1=ba at*;generalize b2=bm at*;clear δ ε H V W Z f f21
 all_goals
  refine⟨b,0,rfl,vt,cv f23.ex h5,at_,_,capt,hvt,λx w'=>∃i:Nat,x=i/\i<=ts.length/\FS w w' bm ba (max o.length (ax (l.take i))) (o.length+thAll (l.take i)),λx _=>(ts.length - x).toNat,⟨0,rfl,Px _,by simpa [Lv.take,ax,thAll]using f23⟩,λx J hI=>?_⟩;obtain⟨i,rfl,hi,f33⟩:=hI;refine⟨λhlt'=>?_,λhge=>?_⟩;rotate_left
  ·have:i=l.bB.length:=by simp only [OV]at hge;omega
   rw [this,Lv.dq]at f33;exact fin bm ba J f33
  have θ:=oL hlt';have hie:i< l.bB.length:=by omega
  obtain⟨bt,ot,G,hvt',hc⟩:∃bt ot G,vt= .slice (some ⟨bt,ot,none⟩) ts.length G/\J.cell? ⟨bt,ot+i,none⟩=some ts[i]:=by
   rcases h7 with⟨_,h0⟩ | ⟨bt,ot,G,e,_,ψ,β⟩
   ·rw [h0]at θ;simp at θ
   ·exact⟨bt,ot,G,e,by rw [f33.ex.cell (show bt< _ from ψ)];exact β i _ (OH θ)⟩
  obtain⟨e,he1,he2,ω⟩:=aP.single h8.bB (OH θ);have he4:l.bB[i]=e:=by rw [OH hie]at he1;exact Pz he1
  have hts:=Lv.take_succ l i hie;rw [he4]at hts;have htt:=Lv.gh l (i+1);rw [hts,Lv.cn]at htt;have htt0:=dw (l.take i);have hsz:=Lv.eJ l e he2;have he5:=ω.ex f33.ex;have step:∀α,FS w α bm ba (max (max o.length (ax (l.take i))) (ax e)) (o.length+thAll (l.take i)+thAll e)->a7 ((i:Int)+1)/\(∃j:Nat,(i:Int)+1=j/\j<=ts.length/\FS w α bm ba (max o.length (ax (l.take j))) (o.length+thAll (l.take j)))/\((ts.length:Int) - ((i:Int)+1)).toNat< ((ts.length:Int) - i).toNat:=by
   intro α f58;refine⟨by omega,⟨i+1,by omega,by omega,?_⟩,by omega⟩;rw [hts,cA,ct];rw [Nat.max_assoc,Q9]at f58;exact f58
  refine⟨bt,ot,_,G,hvt',by omega,by omega,ts[i],by rw [OU,Pn];exact hc,?_⟩;rcases Lv.kB hsh e he2 with⟨k,a,bb,o',r,rfl,hr⟩ | ⟨ps,rfl,hps⟩
  ·obtain⟨t,ts',a',b',vr,e1,ht,_,ι,_⟩:=ω;obtain⟨rfl,rfl⟩:=PQ e1;obtain⟨g,hg,_,κ,c0,c1,c2,c3,c4⟩:=ht;have ι:=ι.ex f33.ex;rw [<-f33.ex.cell (show g< _ from κ)]at c3;have hvr:∃br,vr=ptr br:=by obtain⟨br,_,_,_,e,_⟩:=ι;exact⟨br,e⟩
   obtain⟨br,rfl⟩:=hvr;simp only [Lv.sz]at hsz;simp only [Lv.tot]at htt;refine⟨g,0,hg,ptr br,c3,some ⟨br,0,none⟩,rfl,λ _=>⟨g,0,hg,ptr br,c3,249,[ptr bm,ptr ba],rfl,by kernel_rfl,?_⟩,λh=>by cases h⟩;refine Le (ih r.sz (by omega)) f33 (OQ _) hr ι (by omega) λw48 f48=>?_
   refine⟨g,0,hg,.slice none 0 0,by rw [f48.ex.cell (show g< _ from κ)];exact c4,none,0,0,rfl,λy α=>y=0/\α=w48,λ _ _=>0,⟨rfl,rfl⟩,λy α hy=>?_⟩;obtain⟨rfl,rfl⟩:=hy;refine⟨λh=>by simp at h,λ _=>step _ ?_⟩;simpa [ax,thAll]using f48
  ·obtain⟨t,ts',a',b',vp,us,e1,ht,hus,ο,_⟩:=ω;obtain⟨rfl,rfl⟩:=PQ e1;obtain⟨g,hg,_,κ,c0,c1,c2,c3,c4⟩:=ht;obtain⟨au,cau,hvu⟩:=hus.slice;rw [<-f33.ex.cell (show g< _ from κ)]at c3 c4;simp only [Lv.sz]at hsz;simp only [Lv.tot]at htt;have hul:=ο.len;have hpl:=Lv.cN ps;have hpt:=ck ps;refine⟨g,0,hg,.pointer none,c3,none,rfl,λh=>(by cases h),λ _=>⟨g,0,hg,vp,c4,au,_,cau,hvu,λy w'=>∃j:Nat,y=j/\j<=us.length/\FS w w' bm ba (max (max o.length (ax (l.take i))) (ax (ps.take j))) (o.length+thAll (l.take i)+thAll (ps.take j)),λy _=>(us.length - y).toNat,⟨0,rfl,Px _,by simpa [Lv.take,ax,thAll]using f33⟩,λy α hJ=>?_⟩⟩;obtain⟨j,rfl,hj,f58⟩:=hJ;refine⟨λhlt2=>?_,λhge2=>?_⟩;rotate_left
   ·have:j=ps.bB.length:=by simp only [OV]at hge2;omega
    rw [this,Lv.dq]at f58;exact step _ (by simpa [ax,thAll]using f58)
   have μ:=oL hlt2;have hje:j< ps.bB.length:=by omega
   obtain⟨bu,ou,γ,hvu',hcu⟩:∃bu ou γ,vp= .slice (some ⟨bu,ou,none⟩) us.length γ/\α.cell? ⟨bu,ou+j,none⟩=some us[j]:=by
    rcases hus with⟨_,h0⟩ | ⟨bt,ot,G,e,_,ψ,β⟩
    ·rw [h0]at μ;simp at μ
    ·exact⟨bt,ot,G,e,by rw [f58.ex.cell (show bt< _ from ψ)];exact β j _ (OH μ)⟩
   obtain⟨e,hf1,hf2,hf3⟩:=aP.single ο.bB (OH μ);have hf4:ps.bB[j]=e:=by rw [OH hje]at hf1;exact Pz hf1
   have ζ:=Lv.take_succ ps j hje;rw [hf4]at ζ;have htu:=Lv.gh ps (j+1);rw [ζ,Lv.cn]at htu;have htu0:=dw (ps.take j);have hsz2:=Lv.eJ ps e hf2;obtain⟨o2,q,rfl,hq⟩:=Lv.mQ hps e hf2;simp only [Lv.sz]at hsz2;simp only [Lv.tot]at htu;obtain⟨v2,ts2,e2,hlv2,_⟩:=hf3;obtain⟨rfl,rfl⟩:=PQ e2;refine⟨bu,ou,_,γ,hvu',by omega,by omega,us[j],by rw [OU,Pn];exact hcu,249,[ptr bm,ptr ba],rfl,by kernel_rfl,?_⟩;refine Le (ih q.sz (by omega)) f58 (OQ _) hq (hlv2.ex f58.ex) (by omega) λw66 f66=>⟨by omega,⟨j+1,by omega,by omega,?_⟩,tN (by omega)⟩
   rw [ζ,cA,ct];simp only [ax,thAll,Nat.max_zero,Ro];rw [<-Nat.max_assoc,<-Q9];exact f66
theorem He (n:Nat):Nw n:=by
 induction n using Nat.strongRecOn with
 | _ n G=>exact AU n G
end Go.Proofs.YtdecokaadekjnaaGreat
namespace Go.Proofs.YtdecokaadekjnaaGreat
namespace Lv
def bvs:Lv->List Nat
 | nil=>[]
 | thr k _ b o r n=>(if k= .r then [b]else [])++(o++(r.bvs++n.bvs))
 | sum ps n=>ps.bvs++n.bvs
 | part o q n=>o++(q.bvs++n.bvs)
theorem dB:∀l m:Lv,(l.app m).bvs=l.bvs++m.bvs
 | nil,m=>rfl
 | thr k a b o r n,m=>by simp only [app,bvs,dB n m,Pv]
 | sum ps n,m=>by simp only [app,bvs,dB n m,Pv]
 | part o q n,m=>by simp only [app,bvs,dB n m,Pv]
theorem mS:∀(l:Lv),∀e∈l.bB,e.bvs.Sublist l.bvs
 | nil,e,h=>by cases h
 | thr k a b o r n,e,h=>by
  rcases O4.1 h with rfl | h
  ·simp only [bvs,Po];exact Qt (PY _) (Qt (PY _) (QZ _ _))
  ·exact(mS n e h).trans ((Qk _ _).trans ((Qk _ _).trans (Qk _ _)))
 | sum ps n,e,h=>by
  rcases O4.1 h with rfl | h
  ·simp only [bvs,Po];exact QZ _ _
  ·exact(mS n e h).trans (Qk _ _)
 | part o q n,e,h=>by
  rcases O4.1 h with rfl | h
  ·simp only [bvs,Po];exact Qt (PY _) (QZ _ _)
  ·exact(mS n e h).trans ((Qk _ _).trans (Qk _ _))
theorem qs {x:Nat}:∀(l:Lv),∀e∈l.bB,e.fh x->l.fh x
 | nil,e,h,_=>by cases h
 | thr k a b o r n,e,h,G=>by
  rcases O4.1 h with rfl | h
  ·rcases G with G | G | G | G
   ·exact .inl G
   ·exact .inr (.inl G)
   ·exact .inr (.inr (.inl G))
   ·exact G.elim
  ·exact .inr (.inr (.inr (qs n e h G)))
 | sum ps n,e,h,G=>by
  rcases O4.1 h with rfl | h
  ·exact .inl (G.elim id λh=>h.elim)
  ·exact .inr (qs n e h G)
 | part o q n,e,h,G=>by
  rcases O4.1 h with rfl | h
  ·exact .inl (G.elim id λh=>h.elim)
  ·exact .inr (qs n e h G)
theorem lf:∀(l:Lv) (i:Nat),∀x∈(l.take i).bvs,x∈l.bvs
 | _,0,x,h=>by simp [take,bvs]at h
 | nil,i+1,x,h=>h
 | thr k a b o r n,i+1,x,h=>by
  simp only [take,bvs,OS]at h|-;exact h.imp id (Or.imp id (Or.imp id (lf n i x)))
 | sum ps n,i+1,x,h=>by
  simp only [take,bvs,OS]at h|-;exact h.imp id (lf n i x)
 | part o q n,i+1,x,h=>by
  simp only [take,bvs,OS]at h|-;exact h.imp id (Or.imp id (lf n i x))
theorem gX:∀(l:Lv) (i:Nat),(l.take i).len<=l.len
 | _,0=>by simp [take,len]
 | nil,i+1=>by simp [take,len]
 | thr k a b o r n,i+1=>by have :=gX n i;simp only [take,len];omega
 | sum ps n,i+1=>by have :=gX n i;simp only [take,len];omega
 | part o q n,i+1=>by have :=gX n i;simp only [take,len];omega
def sm:Lv->Bool
 | nil=>true
 | thr _ _ _ _ r n=>r.sm&&n.sm
 | sum ps n=> !ps.isNil&&(ps.sm&&n.sm)
 | part _ q n=>q.sm&&n.sm
theorem qJ:∀{l m:Lv},(l.app m).sm=(l.sm&&m.sm)
 | nil,m=>by simp [app,sm]
 | thr k a b o r n,m=>by simp only [app,sm,qJ (l:=n),Sg]
 | sum ps n,m=>by simp only [app,sm,qJ (l:=n),Sg]
 | part o q n,m=>by simp only [app,sm,qJ (l:=n),Sg]
theorem tW:∀{l:Lv},l.sm=true->∀e∈l.bB,e.sm=true
 | nil,_,e,h=>by cases h
 | thr k a b o r n,G,e,h=>by
  simp only [sm,OJ]at G;rcases O4.1 h with rfl | h
  ·simp only [sm,G.1,Qe]
  ·exact tW G.2 e h
 | sum ps n,G,e,h=>by
  simp only [sm,OJ]at G;rcases O4.1 h with rfl | h
  ·simp only [sm,G.1,G.2.1,Qe]
  ·exact tW G.2.2 e h
 | part o q n,G,e,h=>by
  simp only [sm,OJ]at G;rcases O4.1 h with rfl | h
  ·simp only [sm,G.1,Qe]
  ·exact tW G.2 e h
theorem Ly {ps:Lv}{n:List Nat×Lv}(h:ps.sm=true)(G:n.2.sm=true):(spl ps n).2.sm=true:=by
 unfold spl;split
 ·exact G
 ·simp only [sm,OJ]at h;simp only [qJ,h.1,G,Qe]
 ·rename_i H h2;have:ps.isNil=false:=by cases ps<;>first | rfl | exact absurd rfl H
  simp only [sm,this,h,G,Bool.not_false,Qe]
theorem Mf {o:List Nat}{q n:Lv}(h:q.sm=true)(G:n.sm=true):(prt o q n).sm=true:=by
 unfold prt;split
 ·exact G
 ·split
  ·simp only [sm,OJ]at h;simp only [qJ,h.2.1,G,Qe]
  ·simp only [sm,OJ]at h|-;exact⟨h,G⟩
 ·simp only [sm,h,G,Qe]
theorem oh:∀l:Lv,(tid l).2.sm=true
 | nil=>rfl
 | thr k a b o r n=>by
  have G:=oh r;have h2:=oh n;simp only [tid];have H:(kept o (tid r)).2=(tid r).2:=rfl;split
  ·simp only [qJ,H,G,h2,Qe]
  ·split
   ·exact h2
   ·simp only [sm,H,G,h2,Qe]
 | sum ps n=>by
  simp only [tid];exact Ly (oh ps) (oh n)
 | part o q n=>by
  simp only [tid,kept];exact Mf (oh q) (oh n)
end Lv
structure ve (o:List Nat)(l:Lv):Prop where
 nd:(o++l.bvs).Nodup
 nf:∀x∈l.bvs,¬l.fh x
 ge:∀x∈o++l.bvs,26<=x
theorem ve.bB {o:List Nat}{l:Lv}(h:ve o l){e:Lv}(he:e∈l.bB):ve [] e:=by
 have G:=Lv.mS l e he;refine⟨by simpa using(Pp.1 h.nd).2.1.sublist G,λx H J=>h.nf x (G.subset H) (Lv.qs l e he J),λx H=>h.ge x (Pf _ (G.subset (by simpa using H)))⟩
theorem ve.thr {k:K}{a b:Nat}{o:List Nat}{r:Lv}(h:ve [] (.thr k a b o r .nil)):ve o r/\(k= .r->26<=b/\b≠a/\b∉o/\b∉r.bvs):=by
 have nd:=h.nd;have ge:=h.ge;have nf:=h.nf;simp only [Lv.bvs,Po,PG]at nd ge nf;have G:=(Pp.1 nd).2.1;refine⟨⟨G,λx H W=>?_,λx H=>ge x (Pf _ H)⟩,λJ=>?_⟩
 ·refine nf x (Pf _ (Pf _ H)) (.inr (.inr (.inl ⟨λV=>(Pp.1 G).2.2 x V x H rfl,fun⟨J,hb⟩=>?_,W⟩)));rw [Pj J]at nd;exact(Pp.1 nd).2.2 b (by simp) x (Pf _ H) hb.symm
 ·rw [Pj J]at nd ge nf;refine⟨ge b (by simp),λe=>nf b (by simp) (.inr (.inl ⟨J,e⟩)),λV=>(Pp.1 nd).2.2 b (by simp) b (Pm _ V) rfl,λhr=>(Pp.1 nd).2.2 b (by simp) b (Pf _ hr) rfl⟩
theorem ve.sum {ps:Lv}(h:ve [] (.sum ps .nil)):ve [] ps:=by
 have nd:=h.nd;have ge:=h.ge;have nf:=h.nf;simp only [Lv.bvs,Po,PG]at nd ge nf;exact⟨by simpa using nd,λx G H=>nf x G (.inl H),λx G=>ge x (by simpa using G)⟩
theorem ve.part {o:List Nat}{q:Lv}(h:ve [] (.part o q .nil)):ve o q:=by
 have nd:=h.nd;have ge:=h.ge;have nf:=h.nf;simp only [Lv.bvs,Po,PG]at nd ge nf;exact⟨nd,λx G H=>nf x (Pf _ G) (.inl ⟨λJ=>(Pp.1 nd).2.2 x J x G rfl,H⟩),ge⟩
def bT (l:List Tx):Nat:=(l.map λs=>s.length+3).sum
theorem iD {l m:List Tx}(h:l.Perm m):bT l=bT m:=jr (h.map _)
theorem Dx (l m:List Tx):bT (l++m)=bT l+bT m:=by simp [bT]
theorem ie (s:UInt8):∀l:List Tx,(joinS s l).length<=bT l
 | []=>by simp [joinS]
 | [a]=>by simp [joinS,bT]
 | a::b::l=>by
  have :=ie s (b::l);simp only [joinS,OF,OM,OX];simp only [bT,Pk,P0]at this|-;omega
theorem wI (s:Tx):∀l:List UInt8,(wrap l s).length=3* l.length+s.length
 | []=>by simp [wrap]
 | c::l=>by simp only [wrap,OF,wI s l];omega
theorem nO {own:List Nat}{f:Rh->Tk->List Tx}{B:Nat}(hB:∀ρ tk,bT (f ρ tk)<=B)(ρ:Rh)(tk:Tk):(aU own f ρ tk).length<=3* own.length+B+1:=by
 unfold aU;split
 ·simp
 ·have G:((perms own).map λπ=>joinS 38 (a6 (f (asg π (lets own.length tk) ρ) (addK (lets own.length tk) tk))))≠[]:=λe=>pc own (Ru.1 e)
  obtain⟨H,_⟩:=cL G;obtain⟨π,_,e⟩:=Pw.1 H;show(wrap _ (bO _)).length<=_;rw [wI,fO,<-e];have :=ie 38 (a6 (f (asg π (lets own.length tk) ρ) (addK (lets own.length tk) tk)));rw [iD (aR _)]at this;have :=hB (asg π (lets own.length tk) ρ) (addK (lets own.length tk) tk);omega
theorem gG:∀(l:Lv) (ρ:Rh) (tk:Tk),bT (thS l ρ tk)<=16* l.tot
 | .nil,_,_=>by simp [thS,bT]
 | .thr k a b o r n,ρ,tk=>by
  have h2:=gG n ρ tk;have G:∀ρ tk,(aU o (thS r) ρ tk).length<=3* o.length+16* r.tot+1:=λρ tk=>nO (λρ tk=>gG r ρ tk) ρ tk
  simp only [bT]at h2|-;cases k<;>simp only [thS,Pk,P0,kText,OF,Lv.tot]
  ·have :=G ρ tk;omega
  ·have :=G (aI ρ b (iV tk)) (cz tk (iV tk));omega
  ·have :=G ρ tk;omega
  ·have :=G ρ tk;omega
  ·have :=G ρ tk;omega
 | .sum ps n,ρ,tk=>by
  have G:=gG ps ρ tk;have h2:=gG n ρ tk;have H:=ie 43 (a6 (thS ps ρ tk));rw [iD (aR _)]at H;simp only [bT]at G h2 H|-;simp only [thS,Pk,P0,Lv.tot];omega
 | .part o q n,ρ,tk=>by
  have h2:=gG n ρ tk;have G:(aU o (thS q) ρ tk).length<=3* o.length+16* q.tot+1:=nO (λρ tk=>gG q ρ tk) ρ tk;simp only [bT]at h2|-;simp only [thS,Pk,P0,Lv.tot];omega
theorem pZ {s:UInt8}:∀{l:List Tx},l≠[]->(∀t∈l,t≠[])->joinS s l≠[]
 | [],h,_=>absurd rfl h
 | [a],_,h=>h a (by simp)
 | a::b::l,_,_=>by simp [joinS]
theorem qA {l:List Tx}(h:l≠[]):a6 l≠[]:=λe=>h (by have :=aR l;rw [e]at this;exact this.symm.eq_nil)
theorem Cr {own:List Nat}{f:Rh->Tk->List Tx}(J:∀ρ tk,∀t∈f ρ tk,t≠[])(he:∀ρ ρ' tk tk',(f ρ tk).isEmpty=(f ρ' tk').isEmpty)(ρ:Rh)(tk:Tk):aU own f ρ tk≠[]:=by
 unfold aU;split
 ·simp
 ·rename_i V;have G:((perms own).map λπ=>joinS 38 (a6 (f (asg π (lets own.length tk) ρ) (addK (lets own.length tk) tk))))≠[]:=λe=>pc own (Ru.1 e)
  obtain⟨W,_⟩:=cL G;obtain⟨π,_,e⟩:=Pw.1 W;show wrap _ (bO _)≠[];rw [z8];refine λZ=>?_
  have H:=(List.append_eq_nil_iff.1 Z).2;rw [<-e]at H;refine pZ (qA ?_) (λt ht=>J _ _ t ((aR _).subset ht)) H;intro e3;have :=he (asg π (lets own.length tk) ρ) ρ (addK (lets own.length tk) tk) tk;rw [e3]at this;exact V this.symm
theorem G9 (l:Lv)(ρ ρ':Rh)(tk tk':Tk):(thS l ρ tk).isEmpty=(thS l ρ' tk').isEmpty:=by
 rw [PM,List.isEmpty_iff_length_eq_zero,List.isEmpty_iff_length_eq_zero,bG,bG]
theorem mI:∀(l:Lv),l.sm=true->∀(ρ:Rh) (tk:Tk),∀t∈thS l ρ tk,t≠[]
 | .nil,_,_,_,t,h=>by cases h
 | .thr k a b o r n,G,ρ,tk,t,h=>by
  simp only [Lv.sm,OJ]at G;have J:t∈thS n ρ tk\/t≠[]:=by
   cases k<;>simp only [thS,O4]at h<;>rcases h with rfl | h<;>first | exact .inl h | (right;simp [kText])
  exact J.elim (mI n G.2 ρ tk t) id
 | .sum ps n,G,ρ,tk,t,h=>by
  simp only [Lv.sm,OJ]at G;rw [thS]at h;rcases O4.1 h with rfl | h
  ·refine pZ (qA λe=>?_) λt V=>mI ps G.2.1 ρ tk t ((aR _).subset V)
   have H:=bG ps ρ tk;rw [e]at H;have h2:ps.isNil=true:=by rw [Lv.dy];simp at H;simp [<-H]
   rw [h2]at G;simp at G
  ·exact mI n G.2.2 ρ tk t h
 | .part o q n,G,ρ,tk,t,h=>by
  simp only [Lv.sm,OJ]at G;rw [thS]at h;rcases O4.1 h with rfl | h
  ·exact Cr (λρ tk=>mI q G.1 ρ tk) (λρ ρ' tk tk'=>G9 q ρ ρ' tk tk') ρ tk
  ·exact mI n G.2 ρ tk t h
theorem Fb (x:Nat)(ps:Lv)(n:List Nat×Lv):((Lv.spl ps n).1++(Lv.spl ps n).2.bvs).count x=ps.bvs.count x+(n.1++n.2.bvs).count x:=by
 unfold Lv.spl;split
 ·simp [Lv.bvs]
 ·simp only [Lv.dB,Lv.bvs,PF,Sh];omega
 ·simp only [Lv.bvs,PF];omega
theorem F8 (x:Nat)(o:List Nat)(q n:Lv):(Lv.prt o q n).bvs.count x<=o.count x+q.bvs.count x+n.bvs.count x:=by
 unfold Lv.prt;split
 ·omega
 ·split
  ·simp only [Lv.dB,Lv.bvs,PF,Sh];omega
  ·simp only [Lv.bvs,PF,Sh];omega
 ·simp only [Lv.bvs,PF];omega
theorem oJ (x:Nat)(own:List Nat)(r:List Nat×Lv):((Lv.kept own r).1).count x<=own.count x+r.1.count x:=by
 have :=(List.filter_sublist (p:=λx=>r.2.has x) (l:=own++r.1)).count_le x;rw [PF]at this;exact this
theorem fA (x:Nat):∀l:Lv,((Lv.tid l).1++(Lv.tid l).2.bvs).count x<=l.bvs.count x
 | .nil=>by simp [Lv.tid,Lv.bvs]
 | .thr k a b o r n=>by
  have G:=fA x r;have h2:=fA x n;have H:=oJ x o (Lv.tid r);have h4:(Lv.kept o (Lv.tid r)).2=(Lv.tid r).2:=rfl;simp only [Lv.tid];simp only [PF]at G h2;split
  ·simp only [h4,Lv.dB,Lv.bvs,PF];omega
  ·split
   ·simp only [Lv.bvs,PF];omega
   ·simp only [h4,Lv.bvs,PF];omega
 | .sum ps n=>by
  have G:=fA x ps;have h2:=fA x n;simp only [Lv.tid,Fb,Lv.bvs];simp only [PF]at G h2|-;omega
 | .part o q n=>by
  have G:=fA x q;have h2:=fA x n;have H:=oJ x o (Lv.tid q);have h4:(Lv.kept o (Lv.tid q)).2=(Lv.tid q).2:=rfl;have h5:=F8 x (Lv.kept o (Lv.tid q)).1 (Lv.kept o (Lv.tid q)).2 (Lv.tid n).2;simp only [Lv.tid,PG,Lv.bvs];rw [h4]at h5;simp only [PF]at G h2 h5|-;rw [h4];omega
theorem cf (x:Nat):∀u:U,((flat u).1++(flat u).2.bvs).count x=(BV u).count x
 | .nil=>rfl
 | .snd a b p=>by have :=cf x p;simpa [flat,Lv.bvs,BV]using this
 | .rcv a y p=>by have :=cf x p;simp only [flat,Lv.bvs,BV,Qw,PF,List.count_cons,PG,Sh,Po]at this|-;omega
 | .tau p=>by have :=cf x p;simpa [flat,Lv.bvs,BV]using this
 | .sum p q=>by
  have :=cf x p;have :=cf x q;simp only [flat,Lv.bvs,BV,PF,PG,Po,Sh]at*;omega
 | .par p q=>by
  have :=cf x p;have :=cf x q;simp only [flat,Lv.dB,BV,PF]at*;omega
 | .res y p=>by have :=cf x p;simp only [flat,BV,PF,List.count_cons]at this|-;omega
 | .mat a b p=>by have :=cf x p;simpa [flat,Lv.bvs,BV]using this
 | .rep p=>by have :=cf x p;simpa [flat,Lv.bvs,BV]using this
theorem HX (x:Nat)(u:U):((td u).1++(td u).2.bvs).count x<=(BV u).count x:=by
 have G:=fA x (flat u).2;have h2:=oJ x (flat u).1 (Lv.tid (flat u).2);have H:=cf x u;have h4:(td u).2=(Lv.tid (flat u).2).2:=rfl;have h5:(td u).1=(Lv.kept (flat u).1 (Lv.tid (flat u).2)).1:=rfl;rw [h4,h5];simp only [PF]at*;omega
theorem Dl {u:U}(h:Uq u)(hb:∀x∈BV u,26<=x):ve (td u).1 (td u).2:=by
 have hc:∀x,((td u).1++(td u).2.bvs).count x<=(BV u).count x:=λx=>HX x u
 have hm:∀x∈(td u).1++(td u).2.bvs,x∈BV u:=λx G=>by
  have :=hc x;have H:=List.count_pos_iff.2 G;exact List.count_pos_iff.1 (by omega)
 have nd:((td u).1++(td u).2.bvs).Nodup:=Q3.2 λx=>PN (hc x) (Q3.1 h.nd x)
 refine⟨nd,λx G J=>?_,λx G=>hb x (hm x G)⟩;have H:x∉(td u).1:=λH=>(Pp.1 nd).2.2 x H x G rfl
 exact h.nf x (hm x (Pf _ G)) (T.bI (Gm _ u (OQ _) h x J H))
end Go.Proofs.YtdecokaadekjnaaGreat
namespace Go.Proofs.YtdecokaadekjnaaGreat
open Go Go.RowKit
def Ox:Shelf.Ren where
 f:=λx=>if x=190 then 115 else if x=125 then 164 else if x=258 then 163 else if x=128 then 205 else if x=129 then 206 else if x=302 then 196 else if x=303 then 197 else if x=304 then 198 else if x=305 then 199 else if x=306 then 200 else if x=307 then 201 else if x=308 then 202 else if x=309 then 203 else if x=310 then 204 else if x=333 then 226 else if x=329 then 227 else if x=330 then 228 else if x=334 then 229 else if x=335 then 230 else if x=336 then 231 else if x=344 then 248 else x
 t:=λx=>if x=31 then 25 else if x=9 then 9 else if x=3 then 3 else if x=46 then 178 else if x=0 then 0 else if x=51 then 73 else if x=53 then 220 else if x=4 then 4 else if x=183 then 213 else if x=182 then 212 else if x=131 then 34 else if x=5 then 5 else if x=218 then 234 else if x=222 then 238 else if x=228 then 258 else if x=229 then 245 else x
 g:=λx=>x
theorem Cq:Lays.n190 Tryz.prog Ox where
 mixed:=Eq.refl true
 f125:=QA Tryz.func164 (by kernel_rfl)
 f128:=QA Tryz.func205 (by kernel_rfl)
 f129:=QA Tryz.func206 (by kernel_rfl)
 f190:=QA Tryz.func115 (by kernel_rfl)
 f258:=QA Tryz.func163 (by kernel_rfl)
 f302:=QA Tryz.func196 (by kernel_rfl)
 f303:=QA Tryz.func197 (by kernel_rfl)
 f304:=QA Tryz.func198 (by kernel_rfl)
 f305:=QA Tryz.func199 (by kernel_rfl)
 f306:=QA Tryz.func200 (by kernel_rfl)
 f307:=QA Tryz.func201 (by kernel_rfl)
 f308:=QA Tryz.func202 (by kernel_rfl)
 f309:=QA Tryz.func203 (by kernel_rfl)
 f310:=QA Tryz.func204 (by kernel_rfl)
 f329:=QA Tryz.func227 (by kernel_rfl)
 f330:=QA Tryz.func228 (by kernel_rfl)
 f333:=QA Tryz.func226 (by kernel_rfl)
 f334:=QA Tryz.func229 (by kernel_rfl)
 f335:=QA Tryz.func230 (by kernel_rfl)
 f336:=QA Tryz.func231 (by kernel_rfl)
 f344:=QA Tryz.func248 (by kernel_rfl)
 t0:=Tryz.underlying0
 a0:=Tryz.isAgg0
 z0:=Tryz.sizeOf0
 v0:=Tryz.zeroValue0
 t3:=Tryz.underlying3
 a3:=Tryz.isAgg3
 z3:=Tryz.sizeOf3
 v3:=Tryz.zeroValue3
 t4:=Tryz.underlying4
 a4:=Tryz.isAgg4
 z4:=Tryz.sizeOf4
 v4:=Tryz.zeroValue4
 t5:=Tryz.underlying5
 a5:=Tryz.isAgg5
 z5:=Tryz.sizeOf5
 v5:=Tryz.zeroValue5
 t9:=Tryz.underlying9
 a9:=Tryz.isAgg9
 z9:=Tryz.sizeOf9
 v9:=Tryz.zeroValue9
 t31:=Tryz.underlying25
 a31:=Tryz.isAgg25
 z31:=Tryz.sizeOf25
 v31:=Tryz.zeroValue25
 t46:=Tryz.underlying178
 a46:=Tryz.isAgg178
 z46:=Tryz.sizeOf178
 v46:=Tryz.zeroValue178
 t51:=Tryz.underlying73
 a51:=Tryz.isAgg73
 z51:=Tryz.sizeOf73
 v51:=Tryz.zeroValue73
 t53:=Tryz.underlying220
 a53:=Tryz.isAgg220
 z53:=Tryz.sizeOf220
 v53:=Tryz.zeroValue220
 t131:=Tryz.underlying34
 a131:=Tryz.isAgg34
 z131:=Tryz.sizeOf34
 v131:=Tryz.zeroValue34
 t182:=Tryz.underlying212
 a182:=Tryz.isAgg212
 z182:=Tryz.sizeOf212
 v182:=Tryz.zeroValue212
 t183:=Tryz.underlying213
 a183:=Tryz.isAgg213
 z183:=Tryz.sizeOf213
 v183:=Tryz.zeroValue213
 t218:=Tryz.underlying234
 a218:=Tryz.isAgg234
 z218:=Tryz.sizeOf234
 v218:=Tryz.zeroValue234
 t222:=Tryz.underlying238
 a222:=Tryz.isAgg238
 z222:=Tryz.sizeOf238
 v222:=Tryz.zeroValue238
 t228:=Tryz.underlying258
 a228:=Tryz.isAgg258
 z228:=Tryz.sizeOf258
 v228:=Tryz.zeroValue258
 t229:=Tryz.underlying245
 a229:=Tryz.isAgg245
 z229:=Tryz.sizeOf245
 v229:=Tryz.zeroValue245
theorem sort_k {B:Nat}{w:World}{v:Value}{l:List Tx}(h:Own B w v l)(G:l≠[])(hl:l.length<=1099511627776){R:Sl}
  (hR:∀w',Kp w w' (λg=>v.ownBlock=some g)->Own B w' v (a6 l)->R w'):Sm 115 #[v] w (an [] R):=by
 rcases h.2 with⟨rfl,W⟩ | ⟨g,cap,cur,rfl,hb,H,Z,h2,h3,h4⟩
 ·exact absurd (Pg W) G
 ·refine(Any.slices_Sort_string Cq g 0 cap l w (holds_of_block H (by rw [Pn]at h4;exact h4)) (Ps.1 H).1 (by omega)).mono ?_
  rintro e w' ⟨rfl,n,os,rfl⟩
  refine⟨rfl,hR _ (Kp.aJ (grownBy_sorted _) λg' J=>J) ?_⟩;have V:(l.mergeSort λx y=>decide (x<=y)).length=l.length:=by simp
  have :=ownsRow_sorted (n:=n) (os:=os) V hb H Z h2 h3;have e2:a6 l=l.mergeSort λx y=>decide (x<=y):=rfl
  unfold Own;rw [e2,V];exact this
theorem CB (s:UInt8)(a b:Tx)(l:List Tx):joinS s (a::b::l)=[40]++a++[s]++joinS s (b::l)++[41]:=by simp [joinS]
theorem IC {B:Nat}{w:World}{v:Value}{l:List Tx}{c:UInt8}(h:Own B w v l)(H:l≠[])(hl:l.length<=1099511627776)(hs:bT l<=1099511627776){R:aB->Sl}
  (hR:∀w',Kp w w' (λg=>v.ownBlock=some g)->R (joinS c (a6 l)) w'):Sm 255 #[v,.string (ai [c])] w (an [.s] R):=by
 refine xV v [c] w R ?_;dsimp only [go_sem];dsimp only [go_sem,UInt8.reduceOfNat,UInt32.reduceOfNat,Nat.reduceAdd];refine sort_k h H hl λw3 k3 o3=>?_
 have hp:=aR l;have J:(a6 l).length=l.length:=hp.length_eq;have α:0< l.length:=Rt.2 H;have st:=o3.strs;generalize hL:a6 l=L at*;rcases st with⟨_,e⟩ | ⟨b,off,cap,rfl,hb,hc⟩
 ·rw [e]at J;simp at J;omega
 have β:bT L=bT l:=iD hp;have V:∀j,(hj:j< L.length)->w3.cell? ⟨b,off+j,none⟩=some (.string (ai L[j])):=λj hj=>hc j _ (OH hj)
 have G:∀j,bT (L.drop j)<=bT L:=λj=>by
  have:bT L=bT (L.take j)+bT (L.drop j):=by rw [<-Dx,P4]
  omega
 refine⟨_,_,cap,rfl,by omega,b,off,_,cap,rfl,by omega,by omega,L[L.length - 1]'(by omega),?_,_,_,cap,rfl,by omega,λout i w'=>w'=w3/\ -1<=i/\i+2<=L.length/\out=joinS c (L.drop (i+1).toNat),λ _ i _=>(i+1).toNat,⟨rfl,by omega,by omega,?_⟩,λout i w' hI=>?_⟩
 ·rw [Pn,show((L.length:Int) - 1).toNat=L.length - 1 by omega];exact V _ (by omega)
 ·rw [show((L.length:Int) - 2+1).toNat=L.length - 1 by omega,PK (by omega),show L.length - 1+1=L.length by omega,QQ];rfl
 ·obtain⟨rfl,h0,h1,rfl⟩:=hI;refine⟨λhi=>?_,λhi=>?_⟩
  ·simp only [OW]at hi;have W:i.toNat< L.length:=by omega
   have Z:i.toNat+1< L.length:=by omega
   have e1:(i+1).toNat=i.toNat+1:=by omega
   have e2:L.drop i.toNat=L[i.toNat]::L.drop (i.toNat+1):=PK W;have e3:L.drop (i.toNat+1)=L[i.toNat+1]::L.drop (i.toNat+1+1):=PK Z;have hj:=ie c (L.drop (i.toNat+1));have hd:=G i.toNat;have γ:bT (L.drop i.toNat)=L[i.toNat].length+3+bT (L.drop (i.toNat+1)):=by rw [e2];simp only [bT,Pk,P0]
   rw [e1];refine⟨b,off,_,cap,rfl,by omega,by omega,L[i.toNat],by rw [Pn];exact V _ W,?_,?_,?_,?_,by omega,⟨rfl,by omega,by omega,?_⟩,by show(i - 1+1).toNat< (i+1).toNat;omega⟩
   ·simp;omega
   ·simp;omega
   ·simp;omega
   ·simp;omega
   ·rw [show(i - 1+1).toNat=i.toNat by omega,e2,e3,CB]
  ·simp only [OV]at hi;have:i= -1:=by omega
   subst this;exact hR w' k3
def nC (c:UInt8):UInt32:=uL 1 (c - 97).toNat
def ke (x:UInt32)(tk:Tk):Prop:=∀c,lt c=true->decide (x &&& nC c=0)= !tk c
theorem Bo (a b c:UInt32):(a ||| b) &&& c=(a &&& c) ||| (b &&& c):=by
 apply R7.1;simp only [UInt32.toBitVec_and,UInt32.toBitVec_or]
 ext i hi
 simp [Bool.and_or_distrib_right]
theorem DR (a b:UInt32):a ||| b=0↔a=0/\b=0:=by
 rw [<-R7,<-R7,<-R7];simp only [UInt32.toBitVec_or];exact BitVec.or_eq_zero_iff
theorem Gw:∀i,i< 26->∀j,j< 26->decide (uL 1 i &&& uL 1 j=0)=decide (i≠j):=by decide+kernel
theorem FW {c d:UInt8}(hc:lt c=true)(hd:lt d=true):decide (nC c &&& nC d=0)= !(d==c):=by
 have G:=bj hc;have h2:=bj hd;unfold nC;rw [Gw _ (by rw [ij hc];omega) _ (by rw [ij hd];omega),ij hc,ij hd];rw [PM];simp only [OW,QG,beq_eq_false_iff_ne,ne_eq,<-Pe];omega
theorem ke.add {x:UInt32}{tk:Tk}(h:ke x tk){d:UInt8}(hd:lt d=true):ke (x ||| nC d) (cz tk d):=by
 intro c hc;rw [Bo,QY.2 (DR _ _),Bool.decide_and,h c hc,FW hd hc];simp [cz]
theorem EE {c:UInt8}{w:World}{R:UInt32->Sl}(h:R (nC c) w):Sm 59 #[.int .u8 c.toNat] w (an [.w] R):=
 Aw c w R h
theorem Mb (tk:Tk):lt (iV tk)=true:=by
 unfold iV vF;cases h:nA.find? λc=> !tk c with
 | none=>decide
 | some c=>
  have :=Rj h;unfold nA at this;simp only [Pw,Qc]at this;obtain⟨i,hi,rfl⟩:=this;clear h;revert i;decide+kernel
theorem J1 {x:UInt32}{tk:Tk}(Z:ke x tk){w:World}{R:UInt8->Bool->Sl}(h1:vF tk=none->R 0 false w)(h2:∀c,vF tk=some c->R c true w):
  Sm 130 #[.int .u32 x.toNat] w (an [.c,.b] R):=by
 refine wm x w R ?_;dsimp only [go_sem];dsimp only [go_sem,UInt8.reduceOfNat,UInt32.reduceOfNat,Nat.reduceAdd];refine⟨λc w'=>w'=w/\97<=c.toNat/\c.toNat<=123/\∀d:UInt8,97<=d->d< c->tk d=true,λc _=>123 - c.toNat,⟨rfl,by decide,by decide,λd h h'=>?_⟩,λc w' hI=>?_⟩
 ·rw [O6]at h;rw [PA]at h';omega
 ·obtain⟨rfl,W,h4,h5⟩:=hI;refine⟨λhc=>EE ?_,λhc=>?_⟩
  ·simp only [OW,O6]at hc;have H:c.toNat<=122:=hc;have V:lt c=true:=oR ⟨W,H⟩;have :=Z c V;refine⟨λhe=>?_,λhe=>?_⟩
   ·rw [he]at this;refine h2 c (ud (f:=λc=> !tk c) (by rw [O6];exact W) (by rw [O6];exact H) this.symm λd hd G=>by simp [h5 d hd G])
   ·rw [he]at this;have ht:tk c=true:=by simpa using this.symm
    have e1:(c+1).toNat=c.toNat+1:=by rw [RE];show(c.toNat+1) % 256=_;omega
    refine⟨⟨rfl,by omega,by omega,λd hd G=>?_⟩,by show 123 - (c+1).toNat< 123 - c.toNat;omega⟩;rw [PA,e1]at G;by_cases J:d=c
    ·rw [J];exact ht
    ·refine h5 d hd (PA.2 ?_);have:d.toNat≠c.toNat:=λe=>J (Pe.1 e)
     omega
  ·simp only [OV,O6]at hc;have H:122< c.toNat:=by have:¬c.toNat<=122:=hc;omega
   refine h1 (wX (f:=λc=> !tk c) λd hd G=>?_);have:tk d=true:=h5 d hd (PA.2 (by rw [O6]at G;have:d.toNat<=122:=G;omega));simp [this]
def NW (m:Value->Option Value)(ρ:Rh):Prop:=∀x,(ρ x).toNat< 128/\(x< 26->ρ x=UInt8.ofNat (97+x))/\(26<=x->m (iv x)=some (.int .u8 (ρ x).toNat)\/(m (iv x)=none/\ρ x=0))
structure Nm (w:World)(n r:Nat)(ρ:Rh)(tk:Tk)(bad:Bool):Prop where
 lt:n< w.heap.size
 lr:r< w.heap.size
 ne:n≠r
 c0:w.cell? ⟨n,0,none⟩=some (.map (some r))
 mp:∃m,IsMap w r (.int .i64) m/\NW m ρ
 c1:∃x:UInt32,w.cell? ⟨n,1,none⟩=some (.int .u32 x.toNat)/\ke x tk
 c2:w.cell? ⟨n,2,none⟩=some (.bool bad)
 f:∀j,w.frozen? ⟨n,j,none⟩=false
theorem Nm.kp {w w':World}{n r:Nat}{ρ:Rh}{tk:Tk}{bad:Bool}{S:Nat->Prop}(h:Nm w n r ρ tk bad)(k:Kp w w' S)(G:¬S n)(hr:¬S r):Nm w' n r ρ tk bad:=by
 have e:=k.block n h.lt G;have H:=k.block r h.lr hr;obtain⟨m,⟨es,cl,J,h2⟩,V⟩:=h.mp;obtain⟨x,h4,h5⟩:=h.c1;exact⟨O' h.lt k.size,O' h.lr k.size,h.ne,by rw [OG (w:=w) e];exact h.c0,⟨m,⟨es,cl,by rw [H];exact J,h2⟩,V⟩,⟨x,by rw [OG (w:=w) e];exact h4,h5⟩,by rw [OG (w:=w) e];exact h.c2,λj=>by rw [Pd (w:=w) e];exact h.f j⟩
theorem Nm.ex {w w':World}{n r:Nat}{ρ:Rh}{tk:Tk}{bad:Bool}(h:Nm w n r ρ tk bad)(x:Ex w w'):Nm w' n r ρ tk bad:=h.kp (Kp.af x λ _=>False) (λh=>h) λh=>h
abbrev Kn (n r:Nat)(w w':World):Prop:=Kp w w' λg=>g=n\/g=r
theorem Kn.trans {n r:Nat}{a b c:World}(h:Kn n r a b)(k:Kn n r b c):Kn n r a c:=Kp.trans h k λ _ _ h=>h
theorem Kn.ex {n r:Nat}{a b:World}(h:Ex a b):Kn n r a b:=Kp.af h _
theorem Kn.set {n r:Nat}(w:World)(j:Nat)(v:Value):Kn n r w (w.setCell ⟨n,j,none⟩ v):=Kp.mono (λ _ h=> .inl h) (Kr.set w j v)
theorem Nm.set {w w':World}{n r:Nat}{ρ:Rh}{tk tk':Tk}{bad bad':Bool}(h:Nm w n r ρ tk bad){j:Nat}{v:Value}(hw:w'=w.setCell ⟨n,j,none⟩ v)(hj:(j=1/\bad'=bad/\∃x:UInt32,v= .int .u32 x.toNat/\ke x tk')\/(j=2/\tk'=tk/\v= .bool bad')):Nm w' n r ρ tk' bad':=by
 subst hw;obtain⟨m,⟨es,cl,G,h2⟩,H⟩:=h.mp;obtain⟨x,h4,h5⟩:=h.c1;have kr:=Kr.set (r:=n) w j v;have J:=kr.block r h.lr h.ne.symm;have ne:∀i,i≠j->(w.setCell ⟨n,j,none⟩ v).cell? ⟨n,i,none⟩=w.cell? ⟨n,i,none⟩:=λi hi=>OL _ _ _ _ (λe=>by injection e with W Z;omega)
 have sz:=kr.size;refine⟨by have :=h.lt;omega,by have :=h.lr;omega,h.ne,by rw [ne 0 (by rcases hj with⟨h,_⟩ | ⟨h,_⟩<;>omega)];exact h.c0,⟨m,⟨es,cl,by rw [J];exact G,h2⟩,H⟩,?_,?_,λi=>by rw [O0];exact h.f i⟩
 ·rcases hj with⟨rfl,_,y,rfl,V⟩ | ⟨rfl,rfl,_⟩
  ·exact⟨y,OY _ _ _ h4,V⟩
  ·exact⟨x,by rw [ne 1 (by omega)];exact h4,h5⟩
 ·rcases hj with⟨rfl,rfl,_⟩ | ⟨rfl,rfl,rfl⟩
  ·rw [ne 2 (by omega)];exact h.c2
  ·exact OY _ _ _ h.c2
theorem Nm.put {w w':World}{n r:Nat}{ρ:Rh}{tk:Tk}{bad:Bool}(h:Nm w n r ρ tk bad){m:Value->Option Value}(hm:NW m ρ){x:Nat}(hx:26<=x){c:UInt8}(hc:c.toNat< 128)(G:IsMap w' r (.int .i64) (bR m (iv x) (.int .u8 c.toNat)))(hb:bw w w' r):
  Nm w' n r (aI ρ x c) tk bad/\Kn n r w w':=by
 have e:=hb.block n h.ne;obtain⟨y,h4,h5⟩:=h.c1;refine⟨⟨by rw [hb.size];exact h.lt,by rw [hb.size];exact h.lr,h.ne,by rw [OG (w:=w) e];exact h.c0,⟨_,G,λz=>?_⟩,⟨y,by rw [OG (w:=w) e];exact h4,h5⟩,by rw [OG (w:=w) e];exact h.c2,λj=>by rw [Pd (w:=w) e];exact h.f j⟩,
  hb.os,hb.tape,hb.output,by rw [hb.size];exact OQ _,λg _ J=>hb.block g λe=>J (.inr e)⟩
 obtain⟨V,W,Z⟩:=hm z;unfold aI bR;by_cases H:z=x
 ·subst H;refine⟨by simpa using hc,λh=>by omega,λ _=> .inl ?_⟩;simp
 ·have:iv z≠iv x:=λe=>H (by injection e with _ e2;omega)
  simp only [O1 H,O1 this];exact⟨V,W,Z⟩
theorem Ee {ρ:Rh}{x:Nat}:[UInt8.ofNat (Int.toNat ((ρ x).toNat:Int))]=[ρ x]:=by simp
theorem kC {w:World}{n r:Nat}{ρ:Rh}{tk:Tk}{bad:Bool}(h:Nm w n r ρ tk bad){x:Nat}{R:aB->Sl}(hR:R [ρ x] w):Sm 253 #[ptr n,iv x] w (an [.s] R):=by
 refine oN (ptr n) x w R ?_;dsimp only [go_sem];dsimp only [go_sem,UInt8.reduceOfNat,UInt32.reduceOfNat,Nat.reduceAdd];obtain⟨m,hm,G⟩:=h.mp;obtain⟨Z,V,W⟩:=G x;refine⟨λH=>?_,λH=>?_⟩
 ·simp only [OW]at H;have e:[UInt8.ofNat (Int.toNat (97+(x:Int)))]=[ρ x]:=by rw [V (by omega),show(97+(x:Int)).toNat=97+x by omega]
  refine⟨by omega,by omega,by omega,by rw [e];exact hR⟩
 ·simp only [OV]at H;refine⟨n,0,rfl,_,h.c0,r,m,rfl,hm,ρ x,?_⟩;rcases W (by omega)with J | ⟨J,h2⟩
  ·exact⟨true,.inl ⟨rfl,J⟩,by omega,by rw [Ee];exact hR⟩
  ·exact⟨false,.inr ⟨rfl,J,by rw [h2];rfl⟩,by omega,by rw [Ee];exact hR⟩
theorem IJ {w:World}{n r:Nat}{ρ:Rh}{tk:Tk}{bad:Bool}(h:Nm w n r ρ tk bad){x:Nat}(hx:26<=x){R:UInt32->Sl}
  (hR:∀y w',ke y tk->Kn n r w w'->Nm w' n r (aI ρ x (iV tk)) (cz tk (iV tk)) (bad||(vF tk).isNone)->R y w'):Sm 252 #[ptr n,iv x] w (an [.w] R):=by
 refine oQ (ptr n) x w R ?_;dsimp only [go_sem];dsimp only [go_sem,UInt8.reduceOfNat,UInt32.reduceOfNat,Nat.reduceAdd];obtain⟨y,hy,ν⟩:=h.c1;have hl:=Mb tk;have hl':=bj hl;have fin:∀G bad',bad'=(bad||(vF tk).isNone)->Kn n r w G->Nm G n r ρ tk bad'->∃η:Sl,∀H:World,H=World.drew G->η H/\∃(ξ ο:Nat),ptr n=Value.pointer (some ⟨ξ,ο,none⟩)/\∃ς:UInt32,(∀w',η w'->World.cell? w' ⟨ξ,(ο+1),none⟩=some (Value.int IntKind.u32 (UInt32.toNat ς)))/\Sm 59 #[(Value.int IntKind.u8 (UInt8.toNat (iV tk)))] H (an [.w] fun(m38:UInt32) (W:World)=>η W/\∃(Z α:Nat),ptr n=Value.pointer (some ⟨Z,α,none⟩)/\((∃u42:Value,World.cell? W ⟨Z,(α+1),none⟩=some u42)/\World.frozen? W ⟨Z,(α+1),none⟩=false)/\∀J:World,J=World.setCell W ⟨Z,(α+1),none⟩ (Value.int IntKind.u32 (UInt32.toNat (ς ||| m38:UInt32)))->∃(υ φ:Nat),ptr n=Value.pointer (some ⟨υ,φ,none⟩)/\∃v46:Value,World.cell? J ⟨υ,(φ+0),none⟩=some v46/\∃(β:Nat) (γ:Value->Option Value),v46=Value.map (some β)/\IsMap J β (TypeDesc.int IntKind.i64) γ/\∀V:World,IsMap V β (TypeDesc.int IntKind.i64) (bR γ (Value.int IntKind.i64 x) (Value.int IntKind.u8 (UInt8.toNat (iV tk))))->bw J V β->R (y) V):=by
  intro G bad' χ k11 θ;obtain⟨z,hz,hzt⟩:=θ.c1;refine⟨λw'=>Ex G w',λH δ=>⟨δ▸Ex.drew G,n,0,rfl,z,λw' x'=>by rw [x'.cell (show n< _ from θ.lt)];exact hz,EE ?_⟩⟩;have ι:Ex G H:=δ▸Ex.drew G;have κ:=θ.ex ι;obtain⟨z',hz',_⟩:=κ.c1;refine⟨ι,n,0,rfl,⟨⟨_,hz'⟩,κ.f 1⟩,λJ ε=>?_⟩;have μ:=κ.set (tk':=cz tk (iV tk)) (bad':=bad') ε (.inl ⟨rfl,rfl,_,rfl,hzt.add hl⟩);obtain⟨m,hm,hρ⟩:=μ.mp;refine⟨n,0,rfl,_,μ.c0,r,m,rfl,hm,λV ψ ω=>?_⟩;obtain⟨n49,k49⟩:=μ.put hρ hx (by omega) ψ ω;have k43:Kn n r H J:=ε▸Kn.set _ _ _;exact hR y V ν (Kn.trans (Kn.trans k11 (Kn.ex ι)) (Kn.trans k43 k49)) (χ▸n49)
 refine⟨n,0,rfl,y,hy,n,0,rfl,y,hy,J1 ν (λhf=>⟨λ _=>?_,λh=>(by cases h)⟩) λc hf=>⟨λh=>(by cases h),λ _=>?_⟩⟩
 ·refine⟨n,0,rfl,⟨⟨_,h.c2⟩,h.f 2⟩,λw15 ζ=>?_⟩;have n15:=h.set (tk':=tk) (bad':=true) ζ (.inr ⟨rfl,rfl,rfl⟩);have e:iV tk=122:=by unfold iV;rw [hf];rfl
  have :=fin w15 true (by rw [hf];simp) (ζ▸Kn.set _ _ _) n15;rw [e]at this;exact this
 ·have e:iV tk=c:=by unfold iV;rw [hf];rfl
  have :=fin w bad (by rw [hf];simp) (Kn.ex (Ex.refl w)) h;rw [e]at this;exact this
def MD (n:Nat):Prop:=∀{D:Nat->Prop} {w:World} {v:Value} {o:List Nat} {l:Lv} {nn r:Nat} {ρ:Rh} {tk:Tk} {bad:Bool} {R:aB->Sl},l.sz<=n->l.sh true=true->l.sm=true->ve o l->gB D w v o (ah D w l)->(∀g,D g->¬(g=nn\/g=r))->Nm w nn r ρ tk bad->o.length+l.tot<=4294967296->
 (∀w' ρ',Kn nn r w w'->Nm w' nn r ρ' tk (bad||gg o.length l.isNil (thBad l) tk)->(∀x,x∉o->x∉l.bvs->ρ' x=ρ x)->R (aU o (thS l) ρ tk) w')->Sm 237 #[ptr nn,v] w (an [.s] R)
def KJ (n:Nat):Prop:=∀{D:Nat->Prop} {w:World} {v:Value} {e:Lv} {nn r:Nat} {ρ:Rh} {tk:Tk} {bad:Bool} {R:aB->Sl},e.sz<=n->((∃k a b o q,e= .thr k a b o q .nil/\q.sh true=true)\/∃ps,e= .sum ps .nil/\ps.sh false=true)->e.sm=true->ve [] e->ah D w e [v]->(∀g,D g->¬(g=nn\/g=r))->Nm w nn r ρ tk bad->e.tot<=4294967296->
 (∀t w' ρ',thS e ρ tk=[t]->Kn nn r w w'->Nm w' nn r ρ' tk (bad||thBad e tk)->(∀x,x∉e.bvs->ρ' x=ρ x)->R t w')->Sm 254 #[ptr nn,v] w (an [.s] R)
theorem Ot (a b:UInt8):Op.bytesLess [a] [b]=decide (a< b):=by
 unfold Op.bytesLess;by_cases h:a< b
 ·simp [h]
 ·by_cases h2:b< a<;>simp [Op.bytesLess,h]
theorem Kp.new {w w1 w2:World}{nn r:Nat}{row:Option Nat}(k:Kn nn r w w1)(G:w1.grownBy w2 row)(hr:∀g,row=some g->w.heap.size<=g):Kn nn r w w2:=
 Kp.trans k (Kp.aJ (S:=λg=>row=some g) G λ _ h=>h) λg H J=>by have :=hr g J;omega
theorem FY {n:Nat}(hl:MD n):KJ (n+1):=by
 intro D w v e nn r ρ tk bad R hn hsh ζ huq h hD hN ο hR;refine lj (ptr nn) v w R ?_;dsimp only [go_sem];dsimp only [go_sem,UInt8.reduceOfNat,UInt32.reduceOfNat,Nat.reduceAdd];rcases hsh with⟨k,a,b,o,q,rfl,hq⟩ | ⟨ps,rfl,hps⟩
 ·obtain⟨t,ts',a',W,vr,e1,ht,hk,hlv,_⟩:=h;obtain⟨rfl,rfl⟩:=PQ e1;obtain⟨g,V,hgD,hg2,c0,c1,c2,c3,c4⟩:=ht;obtain⟨u1,u2⟩:=huq.thr;simp only [Lv.sz]at hn;simp only [Lv.tot]at ο;simp only [Lv.sm,OJ]at ζ;have hgn:=hD g hgD;have cell:∀{w':World},Kn nn r w w'->∀j,w'.cell? ⟨g,j,none⟩=w.cell? ⟨g,j,none⟩:=λx j=>OG (w:=w) (x.block g hg2 hgn)
  have hlen:∀ρ tk,(aU o (thS q) ρ tk).length<=1099511627776:=λρ tk=>by
   have :=nO (λρ tk=>gG q ρ tk) ρ tk (own:=o);omega
  have ι:∀{w1:World} {Z:Rh} {μ:Tk} {ς:Bool} {R:aB->Sl},Kn nn r w w1->Nm w1 nn r Z μ ς->(∀w' ρ',Kn nn r w1 w'->Nm w' nn r ρ' μ (ς||gg o.length q.isNil (thBad q) μ)->(∀x,x∉o->x∉q.bvs->ρ' x=Z x)->R (aU o (thS q) Z μ) w')->Sm 237 #[ptr nn,vr] w1 (an [.s] R):=λk1 n1 hR=>
   hl (by omega) hq ζ.1 u1 (hlv.kp k1 hD λl h=>h.kp k1 hD) hD n1 (by omega) hR
  cases k
  case p=>
   refine⟨g,0,V,_,c0,aW (by decide) (dc (by decide) ⟨g,0,V,vr,c3,ι (Kn.ex (Ex.refl w)) hN λw' ρ' k' n' H=>⟨by have :=hlen ρ tk;simp only [OF,OX];omega,hR _ w' ρ' (by simp only [thS,kText];rfl) k' ?_ λx G=>?_⟩⟩)⟩
   ·simpa [thBad]using n'
   ·simp only [Lv.bvs,Po,OS,Sk]at G;exact H x G.2.1 G.2.2
  case t=>
   refine⟨g,0,V,_,c0,aW (by decide) (aW (by decide) (dc (by decide) ⟨g,0,V,vr,c3,ι (Kn.ex (Ex.refl w)) hN λw' ρ' k' n' H=>⟨by have :=hlen ρ tk;simp only [OF,OX];omega,hR _ w' ρ' (by simp only [thS,kText];rfl) k' ?_ λx G=>?_⟩⟩))⟩
   ·simpa [thBad]using n'
   ·simp only [Lv.bvs,Po,OS,Sk]at G;exact H x G.2.1 G.2.2
  case m=>
   obtain⟨rfl,rfl⟩:a'=a/\W=b:=by rcases hk with h | h | h<;>first | exact h | cases h
   refine⟨g,0,V,_,c0,aW (by decide) (aW (by decide) (aW (by decide) (dc (by decide) ⟨λw'=>Kn nn r w w',λw48 α=>?_⟩)))⟩;have J:Kn nn r w w48:=Kn.ex (α▸Ex.drew w);have β:=hN.ex (α▸Ex.drew w);refine⟨J,g,0,V,a',λw' x=>by rw [cell x];exact c1,g,0,V,W,λw' x=>by rw [cell x];exact c2,kC β ⟨J,kC β ⟨J,?_,?_,?_,?_,g,0,V,vr,by rw [cell J];exact c3,ι J β λw' ρ' k' n' H=>⟨?_,hR _ w' ρ' ?_ (Kn.trans J k') ?_ λx G=>?_⟩⟩⟩⟩
   ·split<;>simp
   ·split<;>simp
   ·split<;>split<;>simp
   ·split<;>split<;>simp
   ·have :=hlen ρ tk;split<;>split<;>(simp only [OM,OF,OX];omega)
   ·simp only [thS,kText,Ot,PC,Rp];by_cases h1:ρ a'< ρ W
    ·have h2:¬ρ W< ρ a':=λh2=>by rw [PA]at h1 h2;omega
     simp [h1,h2]
    ·by_cases h2:ρ W< ρ a'
     ·have h3:ρ a'≠ρ W:=λe=>by rw [e,PA]at h2;omega
      simp [h1,h2,h3]
     ·have h3:ρ a'=ρ W:=by
       rw [PA]at h1 h2;exact Pe.1 (by omega)
      simp [h1,h2,h3]
   ·simpa [thBad]using n'
   ·simp only [Lv.bvs,Po,OS,Sk]at G;exact H x G.2.1 G.2.2
  case s=>
   obtain⟨rfl,rfl⟩:a'=a/\W=b:=by rcases hk with h | h | h<;>first | exact h | cases h
   refine⟨g,0,V,_,c0,aW (by decide) (aW (by decide) (aW (by decide) (aW (by decide) (aW (by decide) ⟨λw'=>Kn nn r w w',λw48 α=>?_⟩))))⟩;have J:Kn nn r w w48:=Kn.ex (α▸Ex.drew w);have β:=hN.ex (α▸Ex.drew w);refine⟨J,g,0,V,a',λw' x=>by rw [cell x];exact c1,g,0,V,W,λw' x=>by rw [cell x];exact c2,g,0,V,vr,λw' x=>by rw [cell x];exact c3,kC β ⟨J,by simp,kC β ⟨J,by simp,by simp,ι J β λw' ρ' k' n' H=>⟨Kn.trans J k',?_,hR _ w' ρ' ?_ (Kn.trans J k') ?_ λx G=>?_⟩⟩⟩⟩
   ·have :=hlen ρ tk;simp only [OM,OF,OX];omega
   ·simp only [thS,kText];simp
   ·simpa [thBad]using n'
   ·simp only [Lv.bvs,Po,OS,Sk]at G;exact H x G.2.1 G.2.2
  case r=>
   obtain⟨rfl,rfl⟩:a'=a/\W=b:=by rcases hk with h | h | h<;>first | exact h | cases h
   obtain⟨u3,u4,u5,u6⟩:=u2 rfl;refine⟨g,0,V,_,c0,aW (by decide) (aW (by decide) (aW (by decide) (aW (by decide) (dc (by decide) ⟨g,0,V,W,c2,IJ hN u3 λy w68 hy k68 n68=>⟨λw'=>Kn nn r w w',λw70 υ=>?_⟩⟩))))⟩;have η:Kn nn r w w70:=Kn.trans k68 (Kn.ex (υ▸Ex.drew w68));have n70:=n68.ex (υ▸Ex.drew w68);refine⟨η,g,0,V,a',λw' x=>by rw [cell x];exact c1,g,0,V,W,λw' x=>by rw [cell x];exact c2,g,0,V,vr,λw' x=>by rw [cell x];exact c3,kC n70 ⟨η,by simp,kC n70 ⟨η,by simp,by simp,ι η n70 λw' ρ' k' n' H=>⟨Kn.trans η k',?_,nn,0,rfl,?_,λw89 φ=>hR _ w89 ρ' ?_ (Kn.trans (Kn.trans η k') (φ▸Kn.set _ _ _)) ?_ λx G=>?_⟩⟩⟩⟩
   ·have :=hlen (aI ρ W (iV tk)) (cz tk (iV tk));simp only [OM,OF,OX];omega
   ·obtain⟨z,hz,_⟩:=n'.c1;exact⟨⟨_,hz⟩,n'.f 1⟩
   ·simp only [thS,kText,PG,PI,Pv];rw [show aI ρ W (iV tk) a'=ρ a' from O1 (R2 u4),show aI ρ W (iV tk) W=iV tk from Pj rfl]
   ·have :=n'.set (tk':=tk) (bad':=(bad||thBad (.thr .r a' W o q .nil) tk)) φ (.inl ⟨rfl,?_,y,rfl,hy⟩)
    ·exact this
    ·simp [thBad,Ql]
   ·simp only [Lv.bvs,Po,OS,Sk,Qw,OO]at G;rw [H x G.2.1 G.2.2];exact O1 G.1
 ·obtain⟨t,ts',a',W,vp,us,e1,ht,hus,χ,_⟩:=h;obtain⟨rfl,rfl⟩:=PQ e1;obtain⟨g,V,hgD,hg2,c0,c1,c2,c3,c4⟩:=ht;have uq:=huq.sum;simp only [Lv.sz]at hn;simp only [Lv.tot]at ο;simp only [Lv.sm,OJ,QG]at ζ;obtain⟨au,cau,hvu⟩:=hus.slice;have hul:=χ.len;have hpl:=Lv.cN ps;have hpt:=ck ps;have hln:∀ρ tk,(thS ps ρ tk).length=ps.len:=λρ tk=>bG ps ρ tk
  refine⟨g,0,V,_,c0,dc (by decide) λb6 w7 hb6 hw7=>?_⟩;have x7:Ex w w7:=hw7▸Ex.alloc w _;refine⟨g,0,V,vp,by rw [x7.cell (show g< _ from hg2)];exact c4,au,_,cau,hvu,λtx x w'=>∃(j:Nat) (ρ':Rh),x=j/\j<=us.length/\Kn nn r w w'/\Nm w' nn r ρ' tk (bad||thBad (ps.take j) tk)/\(∀x,x∉(ps.take j).bvs->ρ' x=ρ x)/\Own w.heap.size w' tx (thS (ps.take j) ρ tk),λ _ x _=>(us.length - x).toNat,⟨0,ρ,rfl,Px _,Kn.ex x7,by simpa [Lv.take,thBad]using hN.ex x7,λ _ _=>rfl,Own.none (OQ _) hb6 hw7⟩,λtx x w18 hI=>?_⟩;obtain⟨j,Z,rfl,hj,κ,n18,H,ho⟩:=hI;refine⟨λhlt=>?_,λhge=>?_⟩;rotate_left
  ·have:j=ps.bB.length:=by simp only [OV]at hge;omega
   rw [this,Lv.dq]at n18 ho H;have hlen:=gG ps ρ tk;refine IC ho (λe=>?_) (by rw [hln];omega) (by omega) λw36 k36=>hR _ w36 Z rfl ?_ ?_ λx G=>H x ?_
   ·have :=hln ρ tk;rw [e]at this;rw [Lv.dy]at ζ;simp only [OX]at this;simp [<-this]at ζ
   ·exact Kp.trans κ k36 λg' hg' h'=>by have :=(ho.block g' h').1;omega
   ·have hb:∀g',tx.ownBlock=some g'->w.heap.size<=g':=λg' h'=>(ho.block g' h').1
    have :=hN.lt;have :=hN.lr;have e:(bad||thBad (.sum ps .nil) tk)=(bad||thBad ps tk):=by simp [thBad]
    rw [e];exact n18.kp k36 (λh'=>by have :=hb _ h';omega) λh'=>by have :=hb _ h';omega
   ·simpa [Lv.bvs]using G
  have ν:=oL hlt;have hje:j< ps.bB.length:=by omega
  obtain⟨bu,ou,γ,hvu',hcu⟩:∃bu ou γ,vp= .slice (some ⟨bu,ou,none⟩) us.length γ/\w18.cell? ⟨bu,ou+j,none⟩=some us[j]:=by
   rcases hus with⟨_,h0⟩ | ⟨bt,ot,capt',e,hbD,hb',hcell⟩
   ·rw [h0]at ν;simp at ν
   ·exact⟨bt,ot,capt',e,by rw [OG (w:=w) (κ.block bt hb' (hD bt hbD))];exact hcell j _ (OH ν)⟩
  obtain⟨e,hf1,θ,hf3⟩:=aP.single χ.bB (OH ν);have hf4:ps.bB[j]=e:=by rw [OH hje]at hf1;exact Pz hf1
  have δ:=Lv.take_succ ps j hje;rw [hf4]at δ;have huqe:=uq.bB θ;have ψ:=Lv.tW ζ.2.1 e θ;have hsz2:=Lv.eJ ps e θ;have htot2:=Lv.gJ ps e θ;have hfe:thS e Z tk=thS e ρ tk:=uh e Z ρ tk λx G=>H x λhb=>uq.nf x (Lv.lf ps j x hb) (Lv.qs ps e θ G)
  obtain⟨o2,q,rfl,hq⟩:=Lv.mQ hps e θ;simp only [Lv.sz]at hsz2;simp only [Lv.tot]at htot2;simp only [Lv.sm,OJ]at ψ;obtain⟨v2,ts2,e2,hlv2,_⟩:=hf3;obtain⟨rfl,rfl⟩:=PQ e2;refine⟨bu,ou,_,γ,hvu',by omega,by omega,us[j],by rw [OU,Pn];exact hcu,?_⟩;refine hl (by omega) hq ψ.1 huqe.part (hlv2.kp κ hD λl h=>h.kp κ hD) hD n18 (by omega) λw25 ρ2 k25 n25 hρ2 b26 w27 hb26 ω=>?_
  have ξ:Ex w25 w27:=ω▸Ex.alloc w25 _;have k1:Kn nn r w w25:=Kn.trans κ k25;have ε:∀g',tx.ownBlock=some g'->w.heap.size<=g'/\¬(g'=nn\/g'=r):=λg' h'=>by
   have h1:=(ho.block g' h').1;have :=hN.lt;have :=hN.lr;exact⟨h1,by omega⟩
  have ho27:Own w.heap.size w27 tx (thS (ps.take j) ρ tk):=(ho.kp k25 λg' h'=>(ε g' h').2).ex ξ;have hl3:(thS (ps.take j) ρ tk).length<=us.length:=by
   rw [bG];have :=Lv.gX ps j;omega
  refine Own.push ho27 (by have :=k1.size;have :=ξ.size;omega) (Strs.one hb26 ω) (by simp only [OF,OX];omega) λv33 w34 _ ho34 hg34 _=>⟨by omega,⟨j+1,ρ2,by omega,by omega,?_,?_,?_,?_⟩,tN (by omega)⟩
  ·exact Kp.new (Kn.trans k1 (Kn.ex ξ)) hg34 λg' h'=>(ε g' h').1
  ·have e1:(bad||thBad (ps.take (j+1)) tk)=(bad||thBad (ps.take j) tk||gg o2.length q.isNil (thBad q) tk):=by rw [δ,cZ];simp [thBad,Ql]
   rw [e1];refine(n25.ex ξ).kp (Kp.aJ (S:=λg=>tx.ownBlock=some g) hg34 λ _ h=>h) (λh'=>(ε _ h').2 (.inl rfl)) λh'=>(ε _ h').2 (.inr rfl)
  ·intro x G;rw [δ,Lv.dB]at G;simp only [Lv.bvs,Po,OS,Sk]at G;rw [hρ2 x G.2.1 G.2.2,H x G.1]
  ·rw [δ,gL];have e3:thS (.part o2 q .nil) ρ tk=[aU o2 (thS q) Z tk]:=by rw [<-hfe];simp only [thS]
   rw [e3];exact ho34
theorem aF.set {e B:Nat}{w w':World}{g cap n j:Nat}{l:List Value}{x:Value}(h:aF e B w (.slice (some ⟨g,0,none⟩) n cap) l)(hw:w'=w.setCell ⟨g,j,none⟩ x)(hj:j< l.length):aF e B w' (.slice (some ⟨g,0,none⟩) n cap) (l.set j x):=by
 subst hw;rcases h.2 with⟨J,_⟩ | ⟨g',G,cur,V,hb,W,Z,h2,H,h4⟩
 ·cases J
 ·cases V;have hl:=h.1;rw [Pn]at H h4;have e:(w.setCell ⟨g,j,none⟩ x).heap[g]?=some (.cells (cur.setIfInBounds j x) e (0,0)):=by
   rw [Sort.setCell_eq];simp [Sort.mapBlock,QH,W,Sort.onCells]
  refine⟨by simp,.inr ⟨g,cap,_,by simp,hb,e,by simpa using Z,h2,by simpa using H,?_⟩⟩;rw [Pn,Qp,Array.toList_setIfInBounds,List.take_set,h4]
theorem aF.at {e B:Nat}{w:World}{g cap n j:Nat}{o:List Nat}(h:aF e B w (.slice (some ⟨g,0,none⟩) n cap) (o.map iv))(hj:j< o.length):w.cell? ⟨g,0+j,none⟩=some (iv o[j])/\w.frozen? ⟨g,0+j,none⟩=false/\g< w.heap.size/\n=o.length:=by
 have fr:=h.fr (g:=g) rfl (0+j);have hb:=h.block g rfl;rcases h.2 with⟨H,_⟩ | ⟨W,G,cur,J,V,Z,h1,h2,h3,h4⟩
 ·cases H
 ·cases J;refine⟨?_,fr,hb.2,by simp⟩;rcases h.E4 (D:=λ _=>True) λ _ _=>trivial with⟨H,_⟩ | ⟨b,off,G,J,_,_,hc⟩
  ·cases H
  ·cases J;exact hc j _ (by simp [hj])
end Go.Proofs.YtdecokaadekjnaaGreat
