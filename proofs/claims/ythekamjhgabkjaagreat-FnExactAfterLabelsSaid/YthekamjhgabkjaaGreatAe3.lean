/- Part 3 of a proof of what the last text states; no condition. -/
import Derived.Test.YthekamjhgabkjaaGreatAe2
set_option maxRecDepth 100000
set_option maxHeartbeats 4000000
set_option linter.defProp false
set_option linter.unusedVariables false
set_option linter.unusedSimpArgs false
namespace Go.Proofs.YthekamjhgabkjaaGreat
open Go Go.RowKit
def EG:∀n,Gt n:=by
 intro n
 induction n with
 | zero=>intro k p σ u Θ w bm br on R h;have :=aX p;omega
 | succ n ih=>
  have iht:zR (n+1):=GA ih;intro k p σ u Θ w bm br on R hn d hLb hgf ψ hmk h;refine me _ _ _ w R ?_;dsimp only [go_sem];dsimp only [go_sem,Nat.reduceAdd];intro b4 w5 δ ς;have ω:Ex w w5:=ς▸Ex.alloc w _;have hsz5:w5.heap.size=b4+1:=by rw [ς,size_alloc,<-δ]
  have hbm:bm< b4:=by rw [δ];exact hmk.lt
  have hle:=d.bd.le;have how:=hLb.1;rw [qs d.ae]at how;have hGL:GL b4 w5 b4 (iF 0) (.slice none 0 0) []:=by
   refine⟨by omega,OB _,?_,?_,Own.nil _ _,(λe=>by cases e),?_,?_⟩
   ·rw [ς,δ];exact aa rfl
   ·rw [ς,δ];exact aa rfl
   ·rw [ς,δ];unfold World.frozen? World.alloc;simp
   ·rw [ς,δ];unfold World.frozen? World.alloc;simp
  have hl:=d.len;have hszt:=bz p;refine G8 _ hn d hgf (by omega) hGL (by simp only [ON];omega) λw6 v6 ps hk6 hv6 ε hps=>?_
  rw [Pv,O6]at ε;have hx6:Ex w w6:=⟨hk6.os.trans ω.os,hk6.tape.trans ω.tape,hk6.output.trans ω.output,Pq ω.size hk6.size,λg hg=>by
   rw [hk6.block g (by rw [hsz5];omega) (λhS=>by
    rcases hS with J | J
    ·omega
    ·cases J)]
   exact ω.block g hg⟩
  have hpl:=hps.1;have hmlen:=jd u;rw [qs d.ae]at hmlen;have hm64:(an u).1.length<=64:=by omega
  have hgs:=gj u;have hus:=d.ae.size;obtain⟨av,cap,hv⟩:=ε.own.strs.slice;rw [OM]at hv;refine⟨v6,ε.c1,av,_,cap,hv,λused x w'=>Ex w6 w'/\∃i:Nat,x=i/\i<=ps.length/\lR used/\∀c,c∈used↔∃q∈ps.take i,q.Us c,λ _ x _=>(ps.length - x).toNat,⟨Ex.refl w6,0,rfl,by omega,List.Pairwise.nil,by simp⟩,λused x w7 hI=>?_⟩;obtain⟨hx7,i,rfl,hi,hsu,hmu⟩:=hI;have β:∀i (hi:i< ps.length),∃m τ,k<=m/\Den m ps[i] τ ((an u).2[i]'(by omega))/\(∀y,((an u).2[i]'(by omega)).Us y->τ y=asgN (an u).1 0 σ y)/\GF (0+(an u).1.length) ps[i]:=λi hi=>
   hps.2 i _ _ (Ox hi) (Ox (by omega))
  refine⟨λhc=>?_,λhc=>?_⟩
  ·have hc:=OW hc;have hip:i< ps.length:=by omega
   refine ε.own.strs.get hx7 (i:=i) (x:=(ps[i]).text) (by omega) (by simp [hip]) ?_;obtain⟨_,_,_,dp,_⟩:=β i hip;refine pj _ (OB _) dp.ok λs w8 hx8 hss hms=>?_
   refine jK hsu (by have :=hss.bound;omega) λs' w9 υ hs9 hm9=>?_
   refine⟨by omega,⟨(hx7.trans hx8).trans υ,i+1,by omega,by omega,hs9,λc=>?_⟩,by dsimp only;omega⟩;rw [hm9,hmu,hms,List.take_succ_eq_append_getElem hip];simp only [OH,OL];constructor
   ·rintro(⟨q,J,h2⟩ | J)
    ·exact⟨q,.inl J,h2⟩
    ·exact⟨_,.inr rfl,J⟩
   ·rintro⟨q,J | rfl,h2⟩
    ·exact .inl ⟨q,J,h2⟩
    ·exact .inr h2
  have hc:=OX hc;have e:i=ps.length:=by omega
  subst e;rw [O4]at hmu;have hGL7:=ε.ex hx7;have hall:∀i,i< (an u).1.length->gl i∈used:=λi hi=>by
   obtain⟨t,ht,hty⟩:=AT u d.uq _ (Oz hi);obtain⟨j,hj,e⟩:=PK.1 ht;have hjp:j< ps.length:=by omega
   obtain⟨m,τ,_,dp,hτ,_⟩:=β j hjp;subst e;obtain⟨c,J,h2⟩:=dp.ae.symm.used dp.inj (fy _) _ hty;rw [hτ _ hty,j0 _ _ _ _ hi (ij u d.uq),O6]at h2;have:c=gl i:=OU.1 h2;exact(hmu _).2 ⟨_,Oz hjp,this▸J⟩
  have hglen:=iK (an u).1.length;refine⟨λfront i w'=>Ex w7 w'/\∃j:Nat,i=j/\j<=(an u).1.length/\front=(iF (an u).1.length).take j,λ _ i _=>((an u).1.length - i).toNat,⟨Ex.refl w7,0,rfl,by omega,rfl⟩,λfront i w8 hI=>?_⟩;obtain⟨hx8,j,rfl,hj,rfl⟩:=hI;have ζ:=hGL7.ex hx8;refine⟨iF (an u).1.length,ζ.c0,λhc2=>?_,λhc2=>?_⟩
  ·have hc2:=OW hc2;have hj':j< (an u).1.length:=by omega
   have hbt:bt (iF (an u).1.length) j=gl j:=by simp [bt,iF,hj']
   refine⟨λfront w'=>Ex w7 w'/\front=(iF (an u).1.length).take (j+1),⟨iF (an u).1.length,ζ.c0,⟨by omega,by omega⟩,?_⟩,λfront w9 hJ=>?_⟩
   ·rw [OG,hbt];refine dZ (by have :=hsu.bound;omega) ⟨λ _=>⟨iF (an u).1.length,ζ.c0,by omega,⟨by omega,by omega,by omega⟩,?_,hx8,?_⟩,λhq=>absurd (hall j hj') (OX hq)⟩
    ·rw [Eh (by omega)];simp only [Pd,Ov,ON];omega
    ·rw [Eh (by omega),iR (by omega)]
   ·obtain⟨υ,rfl⟩:=hJ;exact⟨by omega,⟨υ,j+1,by omega,by omega,rfl⟩,by dsimp only;omega⟩
  have hc2:=OX hc2;have e:j=(an u).1.length:=by omega
  subst e;rw [show(iF (an u).1.length).take (an u).1.length=iF (an u).1.length from Rm (by omega)];have ξ:Ex w w8:=(hx6.trans hx7).trans hx8;have Z:=hmk.ex ξ;refine⟨v6,ζ.c1,av,_,cap,hv,λφ=>?_,λφ=>?_⟩
  ·have φ:=OW φ;have hd:=JW d.uq (Pa (by omega));have hm0:=(pa d.uq hd).2.2.2;refine h _ w8 (Kp.ab ξ _) ?_ (WR.JM d.uq hd);rw [hm0];simpa using Z
  have φ:=OX φ;have hne:(an u).2≠[]:=λe=>φ (by rw [e]at hpl;simp only [ON]at hpl;omega)
  refine⟨λhc4=>?_,λhc4=>?_⟩
  ·have hc4:=OW hc4;have hlm:5< bc u:=by
    have :=BD d.uq;have h5:decide (5< (an u).1.length)=true:=P2 (by omega);rw [h5,R3]at this;exact OW this
   refine⟨bm,0,rfl,⟨⟨_,Z.c0⟩,Z.f0⟩,λw9 hw9=>?_⟩;subst hw9;refine h _ _ (Kp.set (S:=λg=>g=bm) (Kp.ab ξ _) rfl _) ?_ (WR.FF hlm);have e5:decide (5< bc u)=true:=P2 hlm;rw [e5,Bool.or_true];exact⟨by rw [Pj];exact Z.lt,OQ _ _ _ Z.c0,by rw [OD _ _ _ _ (by simp)];exact Z.c1,by rw [OS];exact Z.f0⟩
  have hc4:=OX hc4;have hm5:(an u).1.length<=5:=by omega
  have hkl:k+(an u).1.length<=64:=by
   have :=hLb.2 hm5 _ (Oz (show 0< (an u).2.length by omega));omega
  intro b9 cap9 w9 hb9 _ hg9;have υ:Ex w8 w9:=Ex.aP hg9;have hx69:Ex w w9:=ξ.trans υ;refine⟨_,_,cap9,rfl,λG all x w'=>Ex w9 w'/\∃i:Nat,x=i/\i<=(an u).1.length/\Lc k i Θ G all,λ _ _ x _=>((an u).1.length - x).toNat,⟨Ex.refl w9,0,rfl,by omega,Lc.zero ψ.srt⟩,λG all x w10 hI=>?_⟩;obtain⟨hx10,i,rfl,hi,H⟩:=hI;refine⟨λhc5=>?_,λhc5=>?_⟩
  ·have hc5:=OW hc5;have hi':i< (an u).1.length:=by omega
   have hall:∀c∈all,okn (k+i) c/\ngr c:=λc hc=>by
    rcases(H.ok.mem c).1 hc with J | J
    ·exact⟨(ψ.okn c J).1.mono (by omega),(ψ.okn c J).2⟩
    ·exact⟨(H.ok.ok c J).2.1,(H.ok.ok c J).2.2.1⟩
   refine jh (by have :=H.ok.srt.bound;omega) λc hc=>?_
   have hfr:B5 (k+i) all c:=B5.of (by omega) hall hc;intro b11 χ hb11 hw11;have η:Ex w10 χ:=hw11▸Ex.alloc w10 _;refine⟨b11,0,1,1,[c],rfl,rfl,lx _ hb11 hw11,by rw [H.ok.len];simp;omega,?_⟩;refine hU H.ok.srt λs' κ hx12 hs12 hm12=>?_
   exact⟨by omega,⟨(hx10.trans η).trans hx12,i+1,by omega,by omega,H.snoc hfr hs12 hm12⟩,by dsimp only;omega⟩
  have hc5:=OX hc5;have e:i=(an u).1.length:=by omega
  subst e;have hx610:Ex w w10:=hx69.trans hx10;have hls:=H.ok;refine CB 5 (by omega) (OB _) λv11 χ L η θ hL hmL=>?_
  have hx611:Ex w χ:=hx610.trans η;have μ:=hmk.ex hx611;have hLne:L≠[]:=λe=>by
   have :=(hmL (iF (an u).1.length)).2 (PI _);rw [e]at this;cases this
  have hLlen:L.length<=7776:=by
   have:(6:Nat)^(iF (an u).1.length).length<=6^5:=Nat.pow_le_pow_right (by omega) (by omega);omega
  have hLpos:0< L.length:=Rf.2 hLne;refine⟨λv w'=>w'=χ/\∃Lo:List Tx,Strs χ v Lo/\(∀b off n c,v= .slice (some ⟨b,off,none⟩) n c->w10.heap.size<=b)/\Lo≠[]/\Lo.length<=7776/\(∀o∈Lo,o.Perm (iF (an u).1.length))/\(on=false->∀o,o.Perm (iF (an u).1.length)->o∈Lo),⟨bm,0,rfl,on,μ.c1,λhon=>?_,λhon=>?_⟩,λorders κ hJ=>?_⟩
  ·obtain⟨g,α,cur,hvL,hbL,_⟩:∃g cap cur,v11= .slice (some ⟨g,0,none⟩) L.length cap/\w10.heap.size<=g/\χ.heap[g]?=some cur:=by
    rcases θ.2 with⟨_,hn⟩ | ⟨g,cap,cur,e,hb,hg,_⟩
    ·omega
    ·exact⟨g,cap,_,e,hb,hg⟩
   have hcap:L.length<=α:=by
    rcases θ.2 with⟨_,hn⟩ | ⟨g',cap',cur',e,hb,hg,J,h2,h3,h4⟩
    ·omega
    ·rw [hvL]at e;cases e;exact J
   refine⟨_,_,α,hvL,by omega,by omega,by omega,rfl,L.take 1,?_,λb off n c e=>?_,?_,?_,λo ho=>(hmL o).1 (List.mem_of_mem_take ho),λhf=>by rw [hon]at hf;cases hf⟩
   ·have hs:=θ.strs;rw [hvL]at hs;exact hs.take (k:=1) (by omega) (by omega)
   ·have ecap:¬α=Int.toNat 0:=by show ¬α=0;omega
    rw [OP ecap]at e;simp [Addr.add]at e;omega
   ·match L,hLne with
    | a::l,_=>simp
   ·rw [Pd];omega
  ·refine⟨rfl,L,θ.strs,λb off n c e=>(θ.block b (by rw [e];rfl)).1,hLne,hLlen,λo ho=>(hmL o).1 ho,λ _ o ho=>(hmL o).2 ho⟩
  obtain⟨rfl,Lo,hsL,hbL,hLo,hLol,hLop,hLoa⟩:=hJ;have hLopos:0< Lo.length:=Rf.2 hLo;obtain⟨aL,α,hvL⟩:=hsL.slice;have γ:GL b4 κ b4 (iF (an u).1.length) v6 (ps.map T.text):=((ζ.ex υ).ex hx10).ex η;have hb12:=γ.lt;have hbp:∀p∈ps,k+(an u).1.length+p.rd+p.ow<=64:=λq hq=>by
   obtain⟨i,hi,rfl⟩:=PK.1 hq;obtain⟨_,_,_,dp,_⟩:=β i hi;have :=hLb.2 (by omega) _ (Oz (show i< (an u).2.length by omega));rw [qs dp.ae,Et dp.ae]at this;omega
  have hszp:∀p∈ps,p.size<=n+1:=λq hq=>by
   obtain⟨i,hi,rfl⟩:=PK.1 hq;obtain⟨_,_,_,dp,_⟩:=β i hi;have :=CN u _ (Oz (show i< (an u).2.length by omega));rw [dp.ae.size];omega
  have htl:=gg u;rw [pk d.ae,<-T.aQ]at htl;generalize hbr:(br||(an u).2.any λt=>decide (5< ay (tl [t])))=br' at*;refine⟨aL,_,α,hvL,λbest x w'=>∃i:Nat,x=i/\i<=Lo.length/\Kp κ w' (λg=>g=bm)/\MK w' bm (if i=0 then br else br') on/\(i=0->best=[])/\(0< i->EB on σ u (Lo.take i) G all best),λ _ x _=>(Lo.length - x).toNat,⟨0,rfl,by omega,Kp.ab (Ex.refl κ) _,by simpa using μ,λ _=>rfl,λh=>by omega⟩,λbest x w13 hI=>?_⟩;obtain⟨i,rfl,hi,ι,hm13,hb0,hb1⟩:=hI;refine⟨λhc6=>?_,λhc6=>?_⟩
  ·have hc6:=OW hc6;have hi':i< Lo.length:=by omega
   refine⟨λbest w'=>Kp κ w' (λg=>g=bm)/\MK w' bm br' on/\EB on σ u (Lo.take (i+1)) G all best,?_,λbest' w14 hJ=>?_⟩
   ·have hsL13:Strs w13 orders Lo:=hsL.kp ι λb off n c e hS=>by have :=hbL b off n c e;have :=μ.lt;have :=η.size;have :=(hmk.ex hx610).lt;omega
    refine hsL13.get (Ex.refl w13) (i:=i) (x:=Lo[i]) (by omega) (by simp [hi']) ?_;have δ:w13.heap[b4]?=κ.heap[b4]?:=ι.block b4 hb12 (by omega);refine⟨v6,by rw [Ow (w:=κ) δ];exact γ.c1,?_⟩;have hvt:Own b4 w13 v6 (ps.map T.text):=γ.own.kp ι λg hg e=>by have :=(γ.own.block g hg).1;omega
    refine J9 iht d.uq hne hbp hszp ψ hps hls (hLop _ (Oz hi')) hm64 hvt hbm hm13 (by omega) λr w14 hk14 ο hr=>?_
    have ν:MK w14 bm br' on:=by
     rw [<-hbr];by_cases h0:i=0
     ·rw [O' h0]at ο;exact ο
     ·rw [OP h0,<-hbr,Qg,Bool.or_self]at ο;exact ο
    have hk':=Kp.trans ι hk14 λ _ _ h=>h
    have hrne:=hr.ne hne;have tk:Lo.take (i+1)=Lo.take i++[Lo[i]]:=OC hi';have new:(∀o∈Lo.take i,∃r',Ak on σ u o G all r'/\jR r r'=true)->EB on σ u (Lo.take (i+1)) G all r:=λhh=>by
     rw [tk];refine⟨⟨Lo[i],O0 _ (OL.2 rfl),hr⟩,λo ho=>?_⟩;rcases OH.1 ho with ho | ho
     ·exact hh o ho
     ·have:o=Lo[i]:=by simpa using ho
      subst this;exact⟨r,hr,by simp [jR]⟩
    refine⟨λhq=>⟨λH=>⟨hk',ν,?_⟩,λH=>⟨hk',ν,?_⟩⟩,λhq=>⟨hk',ν,?_⟩⟩
    ·have hi0:0< i:=by
      rcases Q1 i with h0 | h0
      ·exact absurd (hb0 h0) (OX hq)
      ·exact h0
     rw [R1,OK]at H;refine new λo ho=>?_
     obtain⟨r',J,h2⟩:=(hb1 hi0).le o ho;exact⟨r',J,ie _ _ _ (by simp only [jR,OK];exact List.le_of_lt H) h2⟩
    ·have hi0:0< i:=by
      rcases Q1 i with h0 | h0
      ·exact absurd (hb0 h0) (OX hq)
      ·exact h0
     rw [R1,OF]at H;have hble:jR best r=true:=by simp only [jR,OK];exact List.not_lt.1 H
     obtain⟨⟨o,J,h2⟩,h3⟩:=hb1 hi0;rw [tk];refine⟨⟨o,O9 _ J,h2⟩,λo' ho=>?_⟩;rcases OH.1 ho with ho | ho
     ·exact h3 o' ho
     ·have:o'=Lo[i]:=by simpa using ho
      subst this;exact⟨r,hr,hble⟩
    ·have hq:=OW hq;have hi0:i=0:=by
      rcases Q1 i with h0 | h0
      ·exact h0
      ·obtain⟨⟨o,J,h2⟩,_⟩:=hb1 h0;exact absurd hq (h2.ne hne)
     exact new λo ho=>by rw [hi0]at ho;simp at ho
   ·obtain⟨j1,j2,j3⟩:=hJ;exact⟨by omega,⟨i+1,by omega,by omega,j1,by simpa using j2,(λh=>by omega),λ _=>j3⟩,by dsimp only;omega⟩
  have hc6:=OX hc6;have e:i=Lo.length:=by omega
  subst e;have hbest:=hb1 hLopos;rw [O4]at hbest;rw [OP (by omega)]at hm13;have hW:=WR.KJ d.uq hne ψ H hm64 hLop hLoa hbest;have hWl:=hW.len;rw [dT,hls.len,pk d.ae,<-T.aQ]at hWl;have hll:=hls.len;refine⟨by omega,λb i w'=>w'=w13/\∃j:Nat,i=(j:Int) - 1/\j<=(an u).1.length/\b=wrap (G.drop j) best,λ _ i _=>(i+1).toNat,⟨rfl,(an u).1.length,by omega,by omega,?_⟩,λb i w14 hI=>?_⟩
  ·rw [Qo (by omega)];rfl
  obtain⟨rfl,j,rfl,hj,rfl⟩:=hI;refine⟨λhc7=>?_,λhc7=>?_⟩
  ·have hc7:=OW hc7;obtain⟨j,rfl⟩:∃j',j=j'+1:=⟨j - 1,by omega⟩
   have ej:((j+1:Nat):Int) - 1=(j:Int):=by omega
   rw [ej];have hjl:j< G.length:=by omega
   have hdl:(G.drop (j+1)).length<=64:=by rw [P7];omega
   rw [ub hjl];refine⟨by omega,⟨by omega,by omega,by omega⟩,by simp,by simp,?_,by omega,⟨rfl,j,rfl,by omega,?_⟩,by dsimp only;omega⟩
   ·rw [dT];simp only [Oy,Ov,ON];omega
   ·rw [mz hjl];rfl
  ·have hc7:=OX hc7;have e:j=0:=by omega
   subst e;rw [Qk];refine h _ w14 ?_ ?_ hW
   ·exact Kp.trans (Kp.ab hx611 _) ι λ _ _ h=>h
   ·rw [BD d.uq];have h5:decide (5< (an u).1.length)=false:=P9 (by omega);rw [h5,QU,hbr];exact hm13
section
open Classical
def num:P->(UInt8->Nat)->Nat->U×Nat
 | .nil,_,n=>(.nil,n)
 | .snd a b p,e,n=>(.snd (e a) (e b) (num p e n).1,(num p e n).2)
 | .rcv a x p,e,n=>(.rcv (e a) (n+101) (num p (aI e x (n+101)) (n+1)).1,(num p (aI e x (n+101)) (n+1)).2)
 | .tau p,e,n=>(.tau (num p e n).1,(num p e n).2)
 | .sum p q,e,n=>(.sum (num p e n).1 (num q e (num p e n).2).1,(num q e (num p e n).2).2)
 | .par p q,e,n=>(.par (num p e n).1 (num q e (num p e n).2).1,(num q e (num p e n).2).2)
 | .res x p,e,n=>(.res (n+101) (num p (aI e x (n+101)) (n+1)).1,(num p (aI e x (n+101)) (n+1)).2)
 | .mat a b p,e,n=>(.mat (e a) (e b) (num p e n).1,(num p e n).2)
 | .rep p,e,n=>(.rep (num p e n).1,(num p e n).2)
def di:∀(p:P) (e:UInt8->Nat) (n:Nat),n<=(num p e n).2
 | .nil,_,_=>OB _
 | .snd _ _ p,e,n=>di p e n
 | .mat _ _ p,e,n=>di p e n
 | .tau p,e,n=>di p e n
 | .rep p,e,n=>di p e n
 | .rcv _ x p,e,n=>by have :=di p (aI e x (n+101)) (n+1);simp only [num];omega
 | .res x p,e,n=>by have :=di p (aI e x (n+101)) (n+1);simp only [num];omega
 | .sum p q,e,n=>by have :=di p e n;have :=di q e (num p e n).2;simp only [num];omega
 | .par p q,e,n=>by have :=di p e n;have :=di q e (num p e n).2;simp only [num];omega
def AE.KR {p:P}{u:U}{e:UInt8->Nat}{x:UInt8}{y:Nat}(he:∀c,p.Fr c->c≠x->e c≠y)(h:AE (aI e x y) p id u)(v:Nat):AE (aI e x v) p (aI id y v) u:=by
 refine(h.map λn=>if n=y then v else n).congr (λc H=>?_) λz _=>?_
 ·unfold aI;by_cases G:c=x
  ·simp [G]
  ·simp only [OP G];rw [OP (he c H G)]
 ·unfold aI;rfl
def gG:∀(p:P) (e:UInt8->Nat) (n:Nat),(∀c,p.Fr c->e c<=n+100)->AE e p id (num p e n).1
 | .nil,_,_,_=>trivial
 | .snd a b p,e,n,h=>⟨rfl,rfl,gG p e n λc G=>h c (.inr (.inr G))⟩
 | .mat a b p,e,n,h=>⟨rfl,rfl,gG p e n λc G=>h c (.inr (.inr G))⟩
 | .tau p,e,n,h=>gG p e n h
 | .rep p,e,n,h=>gG p e n h
 | .sum p q,e,n,h=>⟨gG p e n λc G=>h c (.inl G),gG q e _ λc G=>by have :=h c (.inr G);have :=di p e n;omega⟩
 | .par p q,e,n,h=>⟨gG p e n λc G=>h c (.inl G),gG q e _ λc G=>by have :=h c (.inr G);have :=di p e n;omega⟩
 | .rcv a x p,e,n,h=>⟨rfl,λv=>AE.KR (λc G H=>by have :=h c (.inr ⟨H,G⟩);omega) (gG p _ _ λc G=>by
   unfold aI;split
   ·omega
   ·rename_i H;have :=h c (.inr ⟨H,G⟩);omega) v⟩
 | .res x p,e,n,h=>λv=>AE.KR (λc G H=>by have :=h c ⟨H,G⟩;omega) (gG p _ _ λc G=>by
   unfold aI;split
   ·omega
   ·rename_i H;have :=h c ⟨H,G⟩;omega) v
def fN:∀(p:P) (e:UInt8->Nat) (n:Nat),(BV (num p e n).1).Nodup/\∀x∈BV (num p e n).1,n+100< x/\x<=(num p e n).2+100
 | .nil,_,_=>⟨P3,λx h=>by cases h⟩
 | .snd _ _ p,e,n=>fN p e n
 | .mat _ _ p,e,n=>fN p e n
 | .tau p,e,n=>fN p e n
 | .rep p,e,n=>fN p e n
 | .rcv _ x p,e,n=>by
  obtain⟨J,H⟩:=fN p (aI e x (n+101)) (n+1);have :=di p (aI e x (n+101)) (n+1);refine⟨PB.2 ⟨λh=>by have :=H _ h;omega,J⟩,λy G=>?_⟩;simp only [num];rcases OY.1 G with rfl | G
  ·omega
  ·have :=H y G;omega
 | .res x p,e,n=>by
  obtain⟨J,H⟩:=fN p (aI e x (n+101)) (n+1);have :=di p (aI e x (n+101)) (n+1);refine⟨PB.2 ⟨λh=>by have :=H _ h;omega,J⟩,λy G=>?_⟩;simp only [num];rcases OY.1 G with rfl | G
  ·omega
  ·have :=H y G;omega
 | .sum p q,e,n=>by
  obtain⟨J,H⟩:=fN p e n;obtain⟨Z,h4⟩:=fN q e (num p e n).2;have :=di p e n;have :=di q e (num p e n).2;refine⟨Pg.2 ⟨J,Z,λa ha b hb=>by have :=H a ha;have :=h4 b hb;omega⟩,λy G=>?_⟩;simp only [num];rcases OH.1 G with G | G
  ·have :=H y G;omega
  ·have :=h4 y G;omega
 | .par p q,e,n=>by
  obtain⟨J,H⟩:=fN p e n;obtain⟨Z,h4⟩:=fN q e (num p e n).2;have :=di p e n;have :=di q e (num p e n).2;refine⟨Pg.2 ⟨J,Z,λa ha b hb=>by have :=H a ha;have :=h4 b hb;omega⟩,λy G=>?_⟩;simp only [num];rcases OH.1 G with G | G
  ·have :=H y G;omega
  ·have :=h4 y G;omega
def L3 (p:P)(e:UInt8->Nat)(n:Nat)(h:∀c,p.Fr c->e c<=n+100):Uq (num p e n).1:=by
 obtain⟨G,H⟩:=fN p e n;refine⟨G,λx J Z=>?_⟩;obtain⟨c,hc,e'⟩:=(gG p e n h).symm.free x Z;have h3:=H x J;have h4:=h c hc;have h5:e c=x:=e';omega
def e0 (c:UInt8):Nat:=c.toNat - 97
def σ0 (y:Nat):Nat:=y+97
def ρ0 (y:Nat):UInt8:=UInt8.ofNat (97+y)
def a7 {c:UInt8}(h:lt c=true):97<=c.toNat/\c.toNat<=122:=by
 simp only [lt,OA,OK]at h;exact⟨OZ.1 h.1,OZ.1 h.2⟩
def tV {c:UInt8}(h:97<=c.toNat/\c.toNat<=122):lt c=true:=by
 simp only [lt,OA,OK];exact⟨OZ.2 h.1,OZ.2 h.2⟩
def dA {y:Nat}(h:y< 26):(ρ0 y).toNat=σ0 y:=by
 unfold ρ0 σ0;rw [PT];omega
def tF {p:P}(h:∀c,p.Fr c->lt c=true):AE UInt8.toNat p σ0 (num p e0 0).1/\Uq (num p e0 0).1/\(∀y,(num p e0 0).1.Fr y->y< 26)/\∀x∈BV (num p e0 0).1,26<=x:=by
 have he:∀c,p.Fr c->e0 c<=0+100:=λc G=>by have :=a7 (h c G);unfold e0;omega
 have ha:=gG p e0 0 he;refine⟨(ha.map (·+97)).congr (λc G=>?_) λy _=>rfl,L3 p e0 0 he,λy H=>?_,λx J=>?_⟩
 ·have :=a7 (h c G);unfold e0;omega
 ·obtain⟨c,G,e⟩:=ha.symm.free y H;have :=a7 (h c G);have e:e0 c=y:=e;unfold e0 at e;omega
 ·have :=(fN p e0 0).2 x J;omega
def fT {c:UInt8}(h:lt c=true):nm c=true:=by
 simp only [lt,nm]at*;rw [h];rfl
def nZ {c:UInt8}(h:lt c=true):ngr c:=by
 have :=a7 h;right;omega
def dJ (s:Tx):Prop:=s.length<=300/\∃t:P,t.Al (λc=>lt c=true)/\t.text=s/\t.size<=60
def lA (l:Lv):Tk:=λc=>lt c&&l.has (e0 c)
noncomputable def Cr (r:List Nat×Lv):Option Tx:=
 if(max r.1.length (ay r.2)<=5/\r.1.length+thAll r.2<=8)/\gw r.1.length r.2.isNil (thBad r.2) (lA r.2)=false/\dJ (aV r.1 (thS r.2) ρ0 (lA r.2))then some (aV r.1 (thS r.2) ρ0 (lA r.2))else none
noncomputable def cL (u:U):Option Tx:=Cr (td u)
def iN (u:U):cL u=if(bc u<=5/\cT u<=8)/\dF u (lA (td u).2)=false/\dJ (LS u ρ0 (lA (td u).2))then some (LS u ρ0 (lA (td u).2))else none:=rfl
structure Nu (u:U):Prop where
 uq:Uq u
 fr:∀y,u.Us y->y< 26
 bv:∀x∈BV u,26<=x
def rJ {u:U}(h:Nu u)(c:UInt8):lA (td u).2 c=true↔lt c=true/\u.Us (e0 c):=by
 unfold lA;rw [OA];refine and_congr_right λG=>gL u _ λhb=>?_
 have :=h.bv _ hb;have :=a7 G;unfold e0 at*;omega
def Nu.Om {u:U}(h:Nu u):Jh u ρ0 (lA (td u).2):=by
 refine⟨λy G=>?_,λy z G hz e=>?_⟩
 ·have H:=h.fr y G;have J:=dA H;have Z:lt (ρ0 y)=true:=tV (by rw [J];unfold σ0;omega);refine⟨(rJ h _).2 ⟨Z,?_⟩,Z⟩;have:e0 (ρ0 y)=y:=by unfold e0;rw [J];unfold σ0;omega
  rw [this];exact G
 ·have H:=dA (h.fr y G);have J:=dA (h.fr z hz);rw [e,J]at H;unfold σ0 at H;omega
structure Mc (u:U)(s:Tx)(t:P)(v:U):Prop where
 text:t.text=s
 ls:s=LS u ρ0 (lA (td u).2)
 ae:AE UInt8.toNat t (λy=>(ρ0 y).toNat) v
 al:t.Al λc=>lt c=true
 arr:N5 u v
 len:s.length<=300
 size:t.size<=60
 most:bc u<=5
 all:cT u<=8
 bad:dF u (lA (td u).2)=false
def T.Al.wf:∀{t:P},t.Al (λc=>lt c=true)->t.wf=true
 | .nil,_=>rfl
 | .snd a b p,⟨G,H,h⟩=>by simp [T.wf,fT G,fT H,T.Al.wf h]
 | .rcv a b p,⟨G,H,h⟩=>by simp [T.wf,fT G,fT H,T.Al.wf h]
 | .mat a b p,⟨G,H,h⟩=>by simp [T.wf,fT G,fT H,T.Al.wf h]
 | .tau p,h=>T.Al.wf (t:=p) h
 | .rep p,h=>T.Al.wf (t:=p) h
 | .sum p q,⟨G,H⟩=>by simp [T.wf,T.Al.wf G,T.Al.wf H]
 | .par p q,⟨G,H⟩=>by simp [T.wf,T.Al.wf G,T.Al.wf H]
 | .res x p,⟨G,h⟩=>by simp [T.wf,fT G,T.Al.wf h]
def T.Al.eb:∀{t:P} (k:Nat),t.Al (λc=>lt c=true)->Eb k t
 | .nil,_,_=>trivial
 | .snd a b p,k,⟨G,H,h⟩=>⟨nX G,nX H,T.Al.eb k h⟩
 | .mat a b p,k,⟨G,H,h⟩=>⟨nX G,nX H,T.Al.eb k h⟩
 | .rcv a b p,k,⟨G,H,h⟩=>⟨nX G,⟨nZ H,λz J _=>(T.Al.eb k h).free z J⟩,T.Al.eb (k+1) h⟩
 | .tau p,k,h=>T.Al.eb (t:=p) k h
 | .rep p,k,h=>T.Al.eb (t:=p) k h
 | .sum p q,k,⟨G,H⟩=>⟨T.Al.eb k G,T.Al.eb k H⟩
 | .par p q,k,⟨G,H⟩=>⟨T.Al.eb k G,T.Al.eb k H⟩
 | .res x p,k,⟨G,h⟩=>⟨⟨nZ G,λz J _=>(T.Al.eb k h).free z J⟩,T.Al.eb (k+1) h⟩
def T.Al.free {D:UInt8->Prop}:∀{t:P},t.Al D->∀z,t.Fr z->D z
 | .snd a b p,⟨H,J,h⟩,z,G=>by
  rcases G with rfl | rfl | G
  ·exact H
  ·exact J
  ·exact T.Al.free h z G
 | .mat a b p,⟨H,J,h⟩,z,G=>by
  rcases G with rfl | rfl | G
  ·exact H
  ·exact J
  ·exact T.Al.free h z G
 | .rcv a b p,⟨H,J,h⟩,z,G=>by
  rcases G with rfl | G
  ·exact H
  ·exact T.Al.free h z G.2
 | .res x p,⟨H,h⟩,z,G=>T.Al.free h z G.2
 | .tau p,h,z,G=>T.Al.free (t:=p) h z G
 | .rep p,h,z,G=>T.Al.free (t:=p) h z G
 | .sum p q,⟨H,J⟩,z,G=>G.elim (T.Al.free H z) (T.Al.free J z)
 | .par p q,⟨H,J⟩,z,G=>G.elim (T.Al.free H z) (T.Al.free J z)
def H4 {u:U}(h:Nu u){s:Tx}(G:cL u=some s):∃t v,Mc u s t v:=by
 rw [iN]at G;split at G
 ·rename_i hc;obtain⟨⟨h1,h2⟩,H,h4,t',h5,h6,h7⟩:=hc;cases G;obtain⟨t,v,J,k2,Z,k4⟩:=arr u.size u ρ0 _ (OB _) h.uq h.Om H;have:t=t':=eV Z.wf h5.wf (J.trans h6.symm);subst this;exact⟨t,v,J,rfl,k2,Z,k4,h4,h7,h1,h2,H⟩
 ·cases G
end
def jN:∀{t:P},t.lw=true↔t.Al λc=>lt c=true
 | .nil=>by simp [T.lw,T.Al]
 | .snd a b p=>by simp [T.lw,T.Al,jN (t:=p),QN]
 | .rcv a b p=>by simp [T.lw,T.Al,jN (t:=p),QN]
 | .mat a b p=>by simp [T.lw,T.Al,jN (t:=p),QN]
 | .tau p=>by simp [T.lw,T.Al,jN (t:=p)]
 | .rep p=>by simp [T.lw,T.Al,jN (t:=p)]
 | .res x p=>by simp [T.lw,T.Al,jN (t:=p)]
 | .sum p q=>by simp [T.lw,T.Al,jN (t:=p),jN (t:=q)]
 | .par p q=>by simp [T.lw,T.Al,jN (t:=p),jN (t:=q)]
def lC {s:Tx}:(∃t:P,Good t/\t.text=s)↔dJ s:=by
 constructor
 ·rintro⟨t,h,rfl⟩
  exact⟨h.len,t,jN.1 h.lw,rfl,h.size⟩
 ·rintro⟨h,t,G,rfl,H⟩
  exact⟨t,⟨jN.2 G,h,H⟩,rfl⟩
def C7 {s:Tx}(h:dJ s):∀c∈s,¬128<=c:=by
 obtain⟨t,G,rfl⟩:=lC.2 h;intro c H;have :=PL.1 (jD G.lw).2 c H;simp only [eo,QA,P4,OF]at this;exact this.2
def L4 {p:Tx}(J:p.length<=1099511627776){w:World}{R:aD->Bool->Sb}(h:∀w',Ex w w'->(dJ p->R p true w')/\(¬dJ p->R [] false w')):Sc 163 #[.string (ak p)] w (aw [.s,.b] R):=by
 refine yp p w R ?_;dsimp only [go_sem];refine Hd J λb w' H hb=>⟨λG=>(h w' H).2 λZ=>?_,λG=>(h w' H).1 (lC.1 (hb.1 (by simpa using G)))⟩
 have :=hb.2 (lC.2 Z);rw [this]at G;cases G
structure gB (k:Nat)(p:P)(σ:Nat->Nat)(u:U):Prop where
 den:Den k p σ u
 gf:GF 0 p
 nu:Nu u
 σ:∀y,u.Us y->σ y=σ0 y
 lb:Lb k u
def gB.lt {k:Nat}{p:P}{σ:Nat->Nat}{u:U}(d:gB k p σ u):(∀c,p.Us c->lt c=true/\u.Us (e0 c))/\∀y,u.Us y->p.Us (ρ0 y):=by
 constructor
 ·intro c Z;obtain⟨y,G,H⟩:=d.den.ae.used (fy p) d.den.inj c Z;have h3:=d.nu.fr y G;rw [d.σ y G]at H;unfold σ0 at H;have:e0 c=y:=by unfold e0;omega
  exact⟨tV (by omega),this▸G⟩
 ·intro y J;obtain⟨c,G,H⟩:=d.den.ae.symm.used d.den.inj (fy p) y J;have:c=ρ0 y:=OU.1 (by rw [dA (d.nu.fr y J),H,d.σ y J]);exact this▸G
def gB.tk {k:Nat}{p:P}{σ:Nat->Nat}{u:U}(d:gB k p σ u){s:Tx}(hm:∀c,c∈s↔p.Us c):cR s=lA (td u).2:=by
 funext c
 rw [PG,rJ d.nu];unfold cR;rw [OK,hm];refine⟨d.lt.1 c,fun⟨G,H⟩=>?_⟩;have :=d.lt.2 _ H;have e:ρ0 (e0 c)=c:=by
  have :=a7 G;apply OU.1;unfold ρ0 e0;rw [PT];omega
 rwa [e]at this
def gB.MW {k:Nat}{p:P}{σ:Nat->Nat}{u:U}(d:gB k p σ u){s:Tx}(J:lR s)(hm:∀c,c∈s↔p.Us c):zB k s σ u:=by
 refine⟨J,λc H=>⟨d.den.bd.eb.free c (T.bj ((hm c).1 H)),?_⟩,λy G=>?_⟩
 ·have :=a7 (d.lt.1 c ((hm c).1 H)).1;right;omega
 ·refine⟨ρ0 y,(hm _).2 (d.lt.2 y G),?_⟩;rw [dA (d.nu.fr y G),d.σ y G]
def Mq {k:Nat}{p:P}{σ:Nat->Nat}{u:U}(d:gB k p σ u){w:World}{R:aD->Bool->Sb}
  (h:∀w',Ex w w'->(¬(bc u<=5/\cT u<=8)->R [] false w')/\∀s out,(bc u<=5/\cT u<=8)->cR s=lA (td u).2->WR false u σ s out->R out true w'):
  Sc 162 #[.string (ak p.text)] w (aw [.s,.b] R):=by
 refine yV _ w R ?_;dsimp only [go_sem];dsimp only [go_sem,Nat.reduceAdd];intro b2 w3 hb2 υ;have hx3:Ex w w3:=υ▸Ex.alloc w _;have mk:∀{wx wy:World} {b:Nat} (x:Bool),b=wx.heap.size->wy=wx.alloc (.cells #[.bool false,.bool x] 216)->MK wy b false x:=by
  rintro wx wy b x rfl rfl
  refine⟨by rw [size_alloc];omega,aa rfl,aa rfl,?_⟩;unfold World.frozen? World.alloc;simp
 have hm3:=mk true hb2 υ;refine pj _ (OB _) d.den.ok λs w5 φ hss hms=>?_
 refine EG _ (OB _) d.den d.lb d.gf (d.MW hss hms) (hm3.ex φ) λr w7 α hm7 hr=>?_
 have H:Ex w w5:=hx3.trans φ;have hx7:Ex w w7:=⟨α.os.trans H.os,α.tape.trans H.tape,α.output.trans H.output,Pq H.size α.size,λg hg=>by
  rw [α.block g (O1 hg H.size) (by omega)];exact H.block g hg⟩
 intro b8 ζ χ hb8 hbr η;have Z:Ex w χ:=hx7.trans (Ex.aP η);have hrl:=hr.le d.den;have hlen:=d.den.len;obtain⟨cur,lo,hi,ψ,ς,hle,_⟩:=hbr;refine⟨_,_,ζ,rfl,λown x w'=>w'=χ/\∃i:Nat,x=i/\i<=r.length/\own=((r.take i).count 35:Nat),λ _ x _=>(r.length - x).toNat,⟨rfl,0,rfl,by omega,by simp⟩,λown x δ hI=>?_⟩;obtain⟨rfl,i,rfl,hi,rfl⟩:=hI;refine⟨λhc=>?_,λhc=>?_⟩
 ·have hc:=OW hc;have β:i< r.length:=by omega
  have θ:(r.take i).count 35<=i:=Pq (List.count_le_length ..) (by rw [Pd];omega);refine⟨b8,0,_,ζ,rfl,by omega,by omega,bt r i,?_,λhq=>?_,λhq=>?_⟩
  ·unfold World.cell?;simp only [ψ,OG,O6,O8];have e:=PA (λl=>l[i]?) ς;simp only [dQ,Qm]at e;rw [Q3,O' β]at e;simp only [Ox β,P8]at e;simpa [bt,β]using e
  ·have hq:=OW hq;have e:(r.take (i+1)).count 35=(r.take i).count 35+1:=by
    rw [iR β,Pp,hq];simp
   exact⟨by omega,by omega,⟨rfl,i+1,by omega,by omega,by rw [e];omega⟩,by dsimp only;omega⟩
  ·have hq:=OX hq;have e:(r.take (i+1)).count 35=(r.take i).count 35:=by
    rw [iR β,Pp,bk hq];simp
   exact⟨by omega,⟨rfl,i+1,by omega,by omega,by rw [e]⟩,by dsimp only;omega⟩
 have hc:=OX hc;have e:i=r.length:=by omega
 subst e;rw [O4];have ι:=hm7.ex (Ex.aP η);rw [QU]at ι;refine⟨decide (5< bc u),ι.c0,λhq=>?_,λhq=>?_⟩
 ·have hq:=OX hq;have θ:=hr.cnt (by omega);rw [θ];refine⟨λγ=>?_,λγ=>?_⟩
  ·have γ:=OW γ;exact(h δ Z).1 (by omega)
  ·have γ:=OX γ;intro b25 w26 ω κ;have hx26:Ex δ w26:=κ▸Ex.alloc δ _;have hm26:=mk false ω κ;refine pj _ (OB _) d.den.ok λs' w28 μ hss' ν=>?_
   refine EG _ (OB _) d.den d.lb d.gf (d.MW hss' ν) (hm26.ex μ) λr' ε J ξ hr'=>?_
   have G:Ex w w28:=(Z.trans hx26).trans μ;have hsz:=Z.size;have hx30:Ex w ε:=⟨J.os.trans G.os,J.tape.trans G.tape,J.output.trans G.output,Pq G.size J.size,λg hg=>by
    rw [J.block g (O1 hg G.size) (by omega)];exact G.block g hg⟩
   have hb:decide (5< bc u)=false:=P9 (by omega);rw [hb,Bool.or_self]at ξ;refine⟨λw'=>Ex ε w',λDf ο=>⟨ο▸Ex.drew ε,false,λw' hw'=>(ξ.ex hw').c0,?_⟩⟩;exact(h Df (hx30.trans (ο▸Ex.drew ε))).2 s' r' ⟨by omega,by omega⟩ (d.tk ν) hr'
 ·have hq:=OW hq;exact(h δ Z).1 (by omega)
def zd {k:Nat}{p:P}{σ:Nat->Nat}{u:U}(d:gB k p σ u){w:World}{R:aD->Bool->Sb}
  (h:∀w',Ex w w'->(∀s,cL u=some s->R s true w')/\(cL u=none->R [] false w')):
  Sc 90 #[.string (ak p.text)] w (aw [.s,.b] R):=by
 refine z8 _ w R ?_;dsimp only [go_sem];refine Mq d λw' hx=>⟨λhn=>⟨λ _=>(h w' hx).2 ?_,λhc=>by cases hc⟩,λs out hb H hr=>⟨λhc=>(by cases hc),λ _=>?_⟩⟩
 ·rw [iN,OP λhh=>hn hh.1]
 ·have hlen:=d.den.len;have δ:=hr.le d.den;refine L4 (by omega) λw2 α=>?_
  have β:Compat ρ0 σ u:=λy hy=>by rw [dA (d.nu.fr y hy),d.σ y hy]
  have J:=h w2 (hx.trans α);cases G:dF u (lA (td u).2)with
  | true=>
   obtain⟨c,h1,h2⟩:=hr.bad hb.1 rfl (by rw [H];exact G);have γ:¬dJ out:=λZ=>C7 Z c h1 h2
   refine⟨λZ=>absurd Z γ,λ _=>J.2 ?_⟩;rw [iN,OP λhh=>by rw [G]at hh;cases hh.2.1]
  | false=>
   have e:=hr.eq hb.1 rfl (by rw [H];exact G) ρ0 β;rw [H]at e;subst e;refine⟨λZ=>J.1 _ ?_,λZ=>J.2 ?_⟩
   ·rw [iN,O' ⟨hb,G,Z⟩]
   ·rw [iN,OP λhh=>Z hh.2.2]
attribute [go_sem] Tryz.f184
def ny (G:Value)(w:World)(R:UInt8->Sb)(h:vc aB (a6 [] [] [(1,true,.lt 0 (.lt 1 (.lt 2 (.lt 3 (.lt 4 (.lt 5 (.lt 6 (.lt 7 (.lt 8 (.lt 9 .done)))))))))),(5,true,.lt 0 (.lt 1 (.lt 2 (.lt 3 (.lt 4 (.lt 5 (.lt 6 (.lt 7 (.lt 8 (.lt 9 (.lt 10 .done)))))))))))]) (ai Tryz.f184) (aj 0 [.v G]) w (fin aB [.tmp 2 .c] R)):
  Sc 184 #[G] w (aw [.c] R):=
 bn Tryz.func184 (by kernel_rfl) h
attribute [go_sem] Tryz.f95
def qJ (c1:UInt8)(w:World)(R:Bool->Sb)(h:vc aB (a6 [] [] []) (ai Tryz.f95) (aj 0 [.c c1]) w (fin aB [.tmp 2 .b] R)):
  Sc 95 #[(.int .u8 c1.toNat)] w (aw [.b] R):=
 bn Tryz.func95 (by kernel_rfl) h
attribute [go_sem] Tryz.f185
def nE (G:Value)(w:World)(R:UInt8->Sb)(h:vc aB (a6 [] [] []) (ai Tryz.f185) (aj 0 [.v G]) w (fin aB [.tmp 2 .c] R)):
  Sc 185 #[G] w (aw [.c] R):=
 bn Tryz.func185 (by kernel_rfl) h
attribute [go_sem] Tryz.f186
def nh (G:Value)(c2:UInt8)(w:World)(R:Sb)(h:vc aB (a6 [] [] []) (ai Tryz.f186) (aj 0 [.v G,.c c2]) w (fin aB [] R)):
  Sc 186 #[G,(.int .u8 c2.toNat)] w (aw [] R):=
 bn Tryz.func186 (by kernel_rfl) h
attribute [go_sem] Tryz.f116
def ns (G:Value)(w:World)(R:Value->Sb)(h:vc aB (a6 [] [] []) (ai Tryz.f116) (aj 0 [.v G]) w (fin aB [.tmp 2 .v] R)):
  Sc 116 #[G] w (aw [.v] R):=
 bn Tryz.func116 (by kernel_rfl) h
attribute [go_sem] Tryz.f60
def wZ (s1:aD)(w:World)(R:Value->Bool->Sb)(h:vc aB (a6 [] [] [(3,true,.lt 0 (.lt 1 (.lt 2 (.lt 3 (.lt 4 (.lt 5 (.lt 6 (.lt 7 (.lt 8 (.lt 9 (.lt 10 (.lt 11 (.lt 12 (.lt 13 (.lt 14 (.lt 15 (.lt 16 .done)))))))))))))))))]) (ai Tryz.f60) (aj 0 [.s s1]) w (fin aB [.tmp 2 .v,.tmp 3 .b] R)):
  Sc 60 #[(.string (ak s1))] w (aw [.v,.b] R):=
 bn Tryz.func60 (by kernel_rfl) h
attribute [go_sem] Tryz.f136
def pG (t1:Value)(w:World)(R:Int->Sb)(h:vc aB (a6 [(3,[(3,.i),(11,.i)])] [] []) (ai Tryz.f136) (aj 0 [.v t1]) w (fin aB [.tmp 2 .i] R)):
  Sc 136 #[t1] w (aw [.i] R):=
 bn Tryz.func136 (by kernel_rfl) h
attribute [go_sem] Tryz.f93
def yL (G:aD)(w:World)(R:Value->Bool->Sb)(h:vc aB (a6 [] [] []) (ai Tryz.f93) (aj 0 [.s G]) w (fin aB [.tmp 2 .v,.tmp 3 .b] R)):
  Sc 93 #[(.string (ak G))] w (aw [.v,.b] R):=
 bn Tryz.func93 (by kernel_rfl) h
attribute [go_sem] Tryz.f190
def qz (G:aD)(w:World)(R:Bool->Sb)(h:vc aB (a6 [] [] []) (ai Tryz.f190) (aj 0 [.s G]) w (fin aB [.tmp 2 .b] R)):
  Sc 190 #[(.string (ak G))] w (aw [.b] R):=
 bn Tryz.func190 (by kernel_rfl) h
attribute [go_sem] Tryz.f171
def oV (t1:Value)(w:World)(R:Bool->Sb)(h:vc aB (a6 [] [] []) (ai Tryz.f171) (aj 0 [.v t1]) w (fin aB [.tmp 2 .b] R)):
  Sc 171 #[t1] w (aw [.b] R):=
 bn Tryz.func171 (by kernel_rfl) h
attribute [go_sem] Tryz.f195
attribute [go_sem] Tryz.f207
def nU (G:Value)(c2:Value)(c3:Value)(w:World)(R:Sb)(h:vc aB (a6 [] [] []) (ai Tryz.f207) (aj 0 [.v G,.v c2,.v c3]) w (fin aB [] R)):
  Sc 207 #[G,c2,c3] w (aw [] R):=
 bn Tryz.func207 (by kernel_rfl) h
attribute [go_sem] Tryz.f206
def pV (t1:Value)(d2:Value)(w:World)(R:Sb)(h:vc aB (a6 [(2,[(14,.i)])] [] []) (ai Tryz.f206) (aj 0 [.v t1,.v d2]) w (fin aB [] R)):
  Sc 206 #[t1,d2] w (aw [] R):=
 bn Tryz.func206 (by kernel_rfl) h
attribute [go_sem] Tryz.f165
def qV (t1:Value)(G:Value)(w:World)(R:Bool->Sb)(h:vc aB (a6 [] [] []) (ai Tryz.f165) (aj 0 [.v t1,.v G]) w (fin aB [.tmp 4 .b] R)):
  Sc 165 #[t1,G] w (aw [.b] R):=
 bn Tryz.func165 (by kernel_rfl) h
attribute [go_sem] Tryz.f205
def kE (G:Value)(w:World)(R:Bool->Sb)(h:vc aB (a6 [] [] []) (ai Tryz.f205) (aj 0 [.v G]) w (fin aB [.tmp 2 .b] R)):
  Sc 205 #[G] w (aw [.b] R):=
 bn Tryz.func205 (by kernel_rfl) h
attribute [go_sem] Tryz.f164
def lP (t1:Value)(w:World)(R:Bool->Sb)(h:vc aB (a6 [] [] []) (ai Tryz.f164) (aj 0 [.v t1]) w (fin aB [.tmp 2 .b] R)):
  Sc 164 #[t1] w (aw [.b] R):=
 bn Tryz.func164 (by kernel_rfl) h
attribute [go_sem] Tryz.f166
def kW (G:Value)(w:World)(R:Bool->Sb)(h:vc aB (a6 [] [] []) (ai Tryz.f166) (aj 0 [.v G]) w (fin aB [.tmp 2 .b] R)):
  Sc 166 #[G] w (aw [.b] R):=
 bn Tryz.func166 (by kernel_rfl) h
attribute [go_sem] Tryz.f94
def nL (t1:Value)(w:World)(R:Bool->Sb)(h:vc aB (a6 [] [] []) (ai Tryz.f94) (aj 0 [.v t1]) w (fin aB [.tmp 2 .b] R)):
  Sc 94 #[t1] w (aw [.b] R):=
 bn Tryz.func94 (by kernel_rfl) h
abbrev ptr (b:Nat):Value:= .pointer (some ⟨b,0,none⟩)
def dt (D:Nat->Prop)(w:World)(v:Value)(l:List Value):Prop:=
 (v= .slice none 0 0/\l=[])\/∃b off cap,v= .slice (some ⟨b,off,none⟩) l.length cap/\D b/\b< w.heap.size/\∀i x,l[i]?=some x->w.cell? ⟨b,off+i,none⟩=some x
def dt.kp {D S:Nat->Prop}{w w':World}{v:Value}{l:List Value}(h:dt D w v l)(k:Kp w w' S)(J:∀g,D g->¬S g):dt D w' v l:=by
 rcases h with h | ⟨b,off,cap,Z,G,H,h4⟩
 ·exact .inl h
 ·refine .inr ⟨b,off,cap,Z,G,O1 H k.size,λi x hx=>?_⟩;rw [Ow (w:=w) (k.block b H (J b G))];exact h4 i x hx
def dt.mono {D E:Nat->Prop}{w:World}{v:Value}{l:List Value}(h:dt D w v l)(hd:∀g,D g->E g):dt E w v l:=by
 rcases h with h | ⟨b,off,cap,G,H,J,h4⟩
 ·exact .inl h
 ·exact .inr ⟨b,off,cap,G,hd b H,J,h4⟩
def dt.slice {D:Nat->Prop}{w:World}{v:Value}{l:List Value}(h:dt D w v l):∃a cap,v= .slice a l.length cap:=by
 rcases h with⟨h,rfl⟩ | ⟨b,off,cap,G,_⟩
 ·exact⟨_,_,h⟩
 ·exact⟨_,_,G⟩
def dt.get {D:Nat->Prop}{w:World}{v:Value}{l:List Value}(h:dt D w v l){i:Int}{x:Value}(H:0<=i)(G:l[i.toNat]?=some x){Q:Value->Prop}(J:Q x):
  ∃(b o len cap:Nat),v=Value.slice (some ⟨b,o,none⟩) len cap/\0<=i/\i< (len:Int)/\∃s:Value,World.cell? w ⟨b,o+Int.toNat i* 1,none⟩=some s/\Q s:=by
 obtain⟨hi,e⟩:=Px.1 G;rcases h with⟨h,rfl⟩ | ⟨b,off,cap,Z,h2,h3,h4⟩
 ·simp at hi
 ·exact⟨b,off,l.length,cap,Z,H,by omega,x,by rw [O8];exact h4 _ _ G,J⟩
def fV (D:Nat->Prop)(w:World)(v:Value)(k a c:UInt8)(K:List Value->Prop):Prop:=
 ∃b vs l,v=ptr b/\D b/\b< w.heap.size/\w.cell? ⟨b,0,none⟩=some (.int .u8 k.toNat)/\w.cell? ⟨b,1,none⟩=some (.int .u8 a.toNat)/\w.cell? ⟨b,2,none⟩=some (.int .u8 c.toNat)/\
  w.cell? ⟨b,3,none⟩=some vs/\dt D w vs l/\K l
def aN (D:Nat->Prop)(w:World):P->Value->Prop
 | .nil,v=>fV D w v 48 0 0 λl=>l=[]
 | .snd a b p,v=>fV D w v 33 a b λl=>∃x,l=[x]/\aN D w p x
 | .rcv a b p,v=>fV D w v 63 a b λl=>∃x,l=[x]/\aN D w p x
 | .tau p,v=>fV D w v 126 0 0 λl=>∃x,l=[x]/\aN D w p x
 | .sum p q,v=>fV D w v 43 0 0 λl=>∃x y,l=[x,y]/\aN D w p x/\aN D w q y
 | .par p q,v=>fV D w v 38 0 0 λl=>∃x y,l=[x,y]/\aN D w p x/\aN D w q y
 | .res b p,v=>fV D w v 35 0 b λl=>∃x,l=[x]/\aN D w p x
 | .mat a b p,v=>fV D w v 61 a b λl=>∃x,l=[x]/\aN D w p x
 | .rep p,v=>fV D w v 42 0 0 λl=>∃x,l=[x]/\aN D w p x
def T.ca:P->UInt8
 | .snd a _ _=>a | .rcv a _ _=>a | .mat a _ _=>a | _=>0
def T.cb:P->UInt8
 | .snd _ b _=>b | .rcv _ b _=>b | .mat _ b _=>b | .res b _=>b | _=>0
def fV.kp {D S:Nat->Prop}{w w':World}{v:Value}{k a c:UInt8}{K G:List Value->Prop}(h:fV D w v k a c K)(kp:Kp w w' S)(H:∀g,D g->¬S g)(hK:∀l,K l->G l):fV D w' v k a c G:=by
 obtain⟨b,vs,l,h1,J,Z,h4,h5,h6,h7,h8,h9⟩:=h;have hb:=kp.block b Z (H b J);refine⟨b,vs,l,h1,J,O1 Z kp.size,?_,?_,?_,?_,h8.kp kp H,hK l h9⟩<;>rw [Ow (w:=w) hb]<;>assumption
def fV.mono {D E:Nat->Prop}{w:World}{v:Value}{k a c:UInt8}{K G:List Value->Prop}(h:fV D w v k a c K)(hd:∀g,D g->E g)(H:∀l,K l->G l):fV E w v k a c G:=by
 obtain⟨b,vs,l,J,Z,h3,h4,h5,h6,h7,h8,h9⟩:=h;exact⟨b,vs,l,J,hd b Z,h3,h4,h5,h6,h7,h8.mono hd,H l h9⟩
def aN.kp {D S:Nat->Prop}{w w':World}(kp:Kp w w' S)(G:∀g,D g->¬S g):∀{t:P} {v:Value},aN D w t v->aN D w' t v
 | .nil,_,h=>fV.kp h kp G λ _ h=>h
 | .snd _ _ p,_,h=>fV.kp h kp G λ _ ⟨x,H,J⟩=>⟨x,H,aN.kp kp G (t:=p) J⟩
 | .rcv _ _ p,_,h=>fV.kp h kp G λ _ ⟨x,H,J⟩=>⟨x,H,aN.kp kp G (t:=p) J⟩
 | .tau p,_,h=>fV.kp h kp G λ _ ⟨x,H,J⟩=>⟨x,H,aN.kp kp G (t:=p) J⟩
 | .res _ p,_,h=>fV.kp h kp G λ _ ⟨x,H,J⟩=>⟨x,H,aN.kp kp G (t:=p) J⟩
 | .mat _ _ p,_,h=>fV.kp h kp G λ _ ⟨x,H,J⟩=>⟨x,H,aN.kp kp G (t:=p) J⟩
 | .rep p,_,h=>fV.kp h kp G λ _ ⟨x,H,J⟩=>⟨x,H,aN.kp kp G (t:=p) J⟩
 | .sum p q,_,h=>fV.kp h kp G λ _ ⟨x,y,H,J,Z⟩=>⟨x,y,H,aN.kp kp G (t:=p) J,aN.kp kp G (t:=q) Z⟩
 | .par p q,_,h=>fV.kp h kp G λ _ ⟨x,y,H,J,Z⟩=>⟨x,y,H,aN.kp kp G (t:=p) J,aN.kp kp G (t:=q) Z⟩
def aN.mono {D E:Nat->Prop}{w:World}(hd:∀g,D g->E g):∀{t:P} {v:Value},aN D w t v->aN E w t v
 | .nil,_,h=>fV.mono h hd λ _ h=>h
 | .snd _ _ p,_,h=>fV.mono h hd λ _ ⟨x,G,H⟩=>⟨x,G,aN.mono hd (t:=p) H⟩
 | .rcv _ _ p,_,h=>fV.mono h hd λ _ ⟨x,G,H⟩=>⟨x,G,aN.mono hd (t:=p) H⟩
 | .tau p,_,h=>fV.mono h hd λ _ ⟨x,G,H⟩=>⟨x,G,aN.mono hd (t:=p) H⟩
 | .res _ p,_,h=>fV.mono h hd λ _ ⟨x,G,H⟩=>⟨x,G,aN.mono hd (t:=p) H⟩
 | .mat _ _ p,_,h=>fV.mono h hd λ _ ⟨x,G,H⟩=>⟨x,G,aN.mono hd (t:=p) H⟩
 | .rep p,_,h=>fV.mono h hd λ _ ⟨x,G,H⟩=>⟨x,G,aN.mono hd (t:=p) H⟩
 | .sum p q,_,h=>fV.mono h hd λ _ ⟨x,y,G,H,J⟩=>⟨x,y,G,aN.mono hd (t:=p) H,aN.mono hd (t:=q) J⟩
 | .par p q,_,h=>fV.mono h hd λ _ ⟨x,y,G,H,J⟩=>⟨x,y,G,aN.mono hd (t:=p) H,aN.mono hd (t:=q) J⟩
def aO.two {A B:Type}{R:A->B->Prop}{a a':A}{b G:B}(h:R a b)(H:R a' G):aO R [a,a'] [b,G]:=(aO.one h).append (aO.one H)
def aN.inv {D:Nat->Prop}{w:World}{t:P}{v:Value}(h:aN D w t v):fV D w v t.kind t.ca t.cb λl=>aO (λx p=>aN D w p x) l t.parts:=by
 cases t with
 | nil=>exact fV.mono h (λ _ h=>h) λl (e:l=[])=>by subst e;exact aO.nil
 | sum p q=>exact fV.mono h (λ _ h=>h) λl ⟨x,y,e,G,H⟩=>by subst e;exact aO.two G H
 | par p q=>exact fV.mono h (λ _ h=>h) λl ⟨x,y,e,G,H⟩=>by subst e;exact aO.two G H
 | snd a b p=>exact fV.mono h (λ _ h=>h) λl ⟨x,e,G⟩=>by subst e;exact aO.one G
 | rcv a b p=>exact fV.mono h (λ _ h=>h) λl ⟨x,e,G⟩=>by subst e;exact aO.one G
 | mat a b p=>exact fV.mono h (λ _ h=>h) λl ⟨x,e,G⟩=>by subst e;exact aO.one G
 | tau p=>exact fV.mono h (λ _ h=>h) λl ⟨x,e,G⟩=>by subst e;exact aO.one G
 | rep p=>exact fV.mono h (λ _ h=>h) λl ⟨x,e,G⟩=>by subst e;exact aO.one G
 | res b p=>exact fV.mono h (λ _ h=>h) λl ⟨x,e,G⟩=>by subst e;exact aO.one G
def pb (t:P):t.size=1+(t.parts.map T.size).sum:=by cases t<;>simp [T.size,T.parts]<;>omega
def qE {A:Type}(f:A->Nat)(l:List A){i:Nat}(h:i< l.length):(l.map f).sum=((l.take i).map f).sum+(f l[i]+((l.drop (i+1)).map f).sum)/\((l.take (i+1)).map f).sum=((l.take i).map f).sum+f l[i]:=by
 constructor
 ·have e:l=l.take i++(l[i]::l.drop (i+1)):=by rw [<-Ps h,PV]
  conv=>lhs;rw [e,Pm,Ra,O3,Py]
 ·rw [OC h,Pm,Ra];simp
def J8:∀(n:Nat) {D:Nat->Prop} {t:P} {v:Value} {w:World},t.size<=n->aN D w t v->t.size<=1099511627776->∀{R:Int->Sb},R (t.size:Int) w->Sc 136 #[v] w (aw [.i] R):=by
 intro n
 induction n with
 | zero=>intro D t v w h;have :=aX t;omega
 | succ n ih=>
  intro D t v w hn ht hl R h;refine pG v w R ?_;dsimp only [go_sem];dsimp only [go_sem,Nat.reduceAdd];obtain⟨b,vs,l,rfl,h1,h2,h3,h4,h5,h6,h7,Z⟩:=ht.inv;obtain⟨a,cap,hv⟩:=h7.slice;have e:=pb t;refine⟨b,0,rfl,vs,h6,a,_,cap,hv,λm x w'=>w'=w/\∃i:Nat,x=i/\i<=l.length/\m=(1+((t.parts.take i).map T.size).sum:Nat),λ _ x _=>(l.length - x).toNat,⟨rfl,0,rfl,by omega,by simp⟩,λm x w1 hI=>?_⟩;obtain⟨rfl,i,rfl,hi,rfl⟩:=hI;refine⟨λH=>?_,λH=>?_⟩
  ·have H:=OW H;have G:i< l.length:=by omega
   have J:i< t.parts.length:=by rw [<-Z.1];exact G
   refine h7.get (i:=i) (x:=l[i]) (by omega) (by simp [G]) ?_;have hk:=Z.2 i _ _ (Ox G) (Ox J);obtain⟨hs,α⟩:=qE T.size t.parts J;have β:=dE t;refine ih (by omega) hk (by omega) ⟨by omega,by omega,⟨rfl,i+1,by omega,by omega,?_⟩,by dsimp only;omega⟩;omega
  ·have H:=OX H;have:i=t.parts.length:=by rw [<-Z.1];omega
   subst this;rw [O4,<-e];exact h
structure Rd (w:World)(r:Nat)(s:Tx)(i:Nat)(bad:Bool):Prop where
 lt:r< w.heap.size
 le:i<=s.length
 c0:w.cell? ⟨r,0,none⟩=some (.string (ak s))
 c1:w.cell? ⟨r,1,none⟩=some (.int .i64 i)
 c2:w.cell? ⟨r,2,none⟩=some (.bool bad)
 f1:w.frozen? ⟨r,1,none⟩=false
 f2:w.frozen? ⟨r,2,none⟩=false
def Rd.same {w w':World}{r:Nat}{s:Tx}{i:Nat}{bad:Bool}(h:Rd w r s i bad)(hs:w.heap.size<=w'.heap.size)(hb:w'.heap[r]?=w.heap[r]?):Rd w' r s i bad:=by
 obtain⟨h1,G,H,h4,h5,J,Z⟩:=h;refine⟨by omega,G,?_,?_,?_,?_,?_⟩
 ·rw [Ow (w:=w) hb];exact H
 ·rw [Ow (w:=w) hb];exact h4
 ·rw [Ow (w:=w) hb];exact h5
 ·rw [O7 (w:=w) hb];exact J
 ·rw [O7 (w:=w) hb];exact Z
def Rd.setAt {w:World}{r:Nat}{s:Tx}{i j:Nat}{bad:Bool}(h:Rd w r s i bad)(G:j<=s.length):Rd (w.setCell ⟨r,1,none⟩ (.int .i64 j)) r s j bad:=
 ⟨by rw [Pj];exact h.lt,G,by rw [OD _ _ _ _ (by simp)];exact h.c0,OQ _ _ _ h.c1,by rw [OD _ _ _ _ (by simp)];exact h.c2,by rw [OS];exact h.f1,by rw [OS];exact h.f2⟩
def Rd.zK {w:World}{r:Nat}{s:Tx}{i:Nat}{bad:Bool}(h:Rd w r s i bad):Rd (w.setCell ⟨r,2,none⟩ (.bool true)) r s i true:=
 ⟨by rw [Pj];exact h.lt,h.le,by rw [OD _ _ _ _ (by simp)];exact h.c0,by rw [OD _ _ _ _ (by simp)];exact h.c1,OQ _ _ _ h.c2,by rw [OS];exact h.f1,by rw [OS];exact h.f2⟩
abbrev Kr (r:Nat)(w w':World):Prop:=Kp w w' λg=>g=r
def Kr.refl (r:Nat)(w:World):Kr r w w:=Kp.ab (Ex.refl w) _
def Kr.trans {r:Nat}{a b c:World}(h:Kr r a b)(k:Kr r b c):Kr r a c:=Kp.trans h k λ _ _ h=>h
def Kr.ex {r:Nat}{w w':World}(h:Ex w w'):Kr r w w':=Kp.ab h _
def Kr.set {r:Nat}(w:World)(j:Nat)(v:Value):Kr r w (w.setCell ⟨r,j,none⟩ v):=Kp.set (S:=λg=>g=r) (Kr.refl r w) rfl v
def MI {w:World}{r:Nat}{s:Tx}{i:Nat}{bad:Bool}(hs:s.length<=1099511627776)(h:Rd w r s i bad){R:UInt8->Sb}
  (hR:∀w',Kr r w w'->Rd w' r s (if i< s.length then i+1 else i) (bad||decide (s.length<=i))->R (if i< s.length then bt s i else 0) w'):Sc 184 #[ptr r] w (aw [.c] R):=by
 refine ny _ w R ?_;dsimp only [go_sem];dsimp only [go_sem,Nat.reduceAdd];have hle:=h.le;refine⟨λw'=>Ex w w',λw1 α=>⟨α▸Ex.drew w,r,0,rfl,i,λw' H=>(h.same H.size (H.block r h.lt)).c1,r,0,rfl,s,λw' H=>(h.same H.size (H.block r h.lt)).c0,λhc=>?_,λhc=>?_⟩⟩
 ·have G:Ex w w1:=α▸Ex.drew w;have Z:=h.same G.size (G.block r h.lt);have hc:=OW hc;refine⟨r,0,rfl,⟨⟨_,Z.c2⟩,Z.f2⟩,λw2 J=>?_⟩;subst J;have :=hR _ (Kr.trans (Kr.ex G) (Kr.set w1 2 _)) (by
   rw [OP (by omega),show decide (s.length<=i)=true from P2 (by omega),Bool.or_true];exact Z.zK)
  rw [OP (by omega)]at this;exact this
 ·have G:Ex w w1:=α▸Ex.drew w;have Z:=h.same G.size (G.block r h.lt);have hc:=OX hc;have γ:i< s.length:=by omega
  refine⟨r,0,rfl,i,Z.c1,by omega,r,0,rfl,⟨⟨_,Z.c1⟩,Z.f1⟩,λw2 J=>?_⟩;have e:((i:Int)+1)=((i+1:Nat):Int):=by omega
  rw [e]at J;have h2:Rd w2 r s (i+1) bad:=J▸Z.setAt (by omega);have k2:Kr r w w2:=J▸Kr.trans (Kr.ex G) (Kr.set w1 1 _);refine⟨λw'=>Ex w2 w',λw3 δ=>⟨δ▸Ex.drew w2,r,0,rfl,s,λw' H=>(h2.same H.size (H.block r h2.lt)).c0,r,0,rfl,(i+1:Nat),λw' H=>(h2.same H.size (H.block r h2.lt)).c1,by omega,⟨by omega,by omega⟩,?_⟩⟩;have β:Ex w2 w3:=δ▸Ex.drew w2;have e2:Int.toNat (((i+1:Nat):Int) - 1)=i:=by omega
  rw [e2];have :=hR w3 (Kr.trans k2 (Kr.ex β)) (by
   rw [O' γ,show decide (s.length<=i)=false from P9 (by omega),QT];exact h2.same β.size (β.block r h2.lt))
  rw [O' γ]at this;exact this
def kD {c:UInt8}{w:World}{R:Bool->Sb}(h:R (lt c) w):Sc 95 #[.int .u8 c.toNat] w (aw [.b] R):=by
 refine qJ c w R ?_;dsimp only [go_sem];dsimp only [go_sem,UInt8.reduceOfNat];unfold lt at h;refine⟨λG=>?_,λG=>?_⟩
 ·rw [G]at h;simpa using h
 ·rw [G]at h;simpa using h
structure Nx (s:Tx)(i:Nat)(bad:Bool)(ok:UInt8->Prop)(c:UInt8)(j:Nat)(bad':Bool):Prop where
 le:i<=j
 fine:bad'=false->bad=false/\i< s.length/\j=i+1/\c=bt s i/\ok c
 good:bad=false->i< s.length->ok (bt s i)->bad'=false
def pA {w:World}{r:Nat}{s:Tx}{i:Nat}{bad:Bool}(G:s.length<=1099511627776)(h:Rd w r s i bad){R:UInt8->Sb}
  (hR:∀c j bad' w',Kr r w w'->Rd w' r s j bad'->Nx s i bad (λ _=>True) c j bad'->R c w'):Sc 184 #[ptr r] w (aw [.c] R):=by
 refine MI G h λw' k H=>hR _ _ _ w' k H ⟨by split<;>omega,λhb=>?_,λhb hi _=>?_⟩
 ·simp only [P4,OF]at hb;rw [O' (by omega),O' (by omega)];exact⟨hb.1,by omega,rfl,rfl,trivial⟩
 ·rw [hb,QU];exact P9 (by omega)
def zF {w:World}{r:Nat}{s:Tx}{i:Nat}{bad:Bool}(hs:s.length<=1099511627776)(h:Rd w r s i bad){R:UInt8->Sb}
  (hR:∀c j bad' w',Kr r w w'->Rd w' r s j bad'->Nx s i bad (λc=>lt c=true) c j bad'->R c w'):Sc 185 #[ptr r] w (aw [.c] R):=by
 refine nE _ w R ?_;dsimp only [go_sem];refine pA hs h λc j bad' w1 k1 J G=>kD ⟨λH=>?_,λH=>?_⟩
 ·refine⟨r,0,rfl,⟨⟨_,J.c2⟩,J.f2⟩,λw2 Z=>?_⟩;subst Z;refine hR c j true _ (Kr.trans k1 (Kr.set w1 2 _)) J.zK ⟨G.le,λhb=>(by cases hb),λhb hi ho=>?_⟩;obtain⟨_,_,_,e,_⟩:=G.fine (G.good hb hi trivial);rw [e]at H;rw [ho]at H;cases H
 ·refine hR c j bad' w1 k1 J ⟨G.le,λhb=>?_,λhb hi _=>G.good hb hi trivial⟩;obtain⟨a,b,c,d,_⟩:=G.fine hb;exact⟨a,b,c,d,by simpa using H⟩
def qG {w:World}{r:Nat}{s:Tx}{i:Nat}{bad:Bool}{c:UInt8}(hs:s.length<=1099511627776)(h:Rd w r s i bad){R:Sb}
  (hR:∀j bad' w',Kr r w w'->Rd w' r s j bad'->Nx s i bad (λd=>d=c) c j bad'->R w'):Sc 186 #[ptr r,.int .u8 c.toNat] w (aw [] R):=by
 refine nh _ c w R ?_;dsimp only [go_sem];refine pA hs h λd j bad' w1 k1 J G=>⟨λH=>?_,λH=>?_⟩
 ·refine⟨r,0,rfl,⟨⟨_,J.c2⟩,J.f2⟩,λw2 Z=>?_⟩;subst Z;refine hR j true _ (Kr.trans k1 (Kr.set w1 2 _)) J.zK ⟨G.le,λhb=>(by cases hb),λhb hi ho=>?_⟩;obtain⟨_,_,_,e,_⟩:=G.fine (G.good hb hi trivial);rw [e,ho]at H;simp at H
 ·have H:d=c:=by simpa using H
  subst H;refine hR j bad' w1 k1 J ⟨G.le,λhb=>?_,λhb hi _=>G.good hb hi trivial⟩;obtain⟨a,b,c,d,_⟩:=G.fine hb;exact⟨a,b,c,d,rfl⟩
structure Nd (w:World)(b:Nat)(k a c:UInt8)(vs:Value):Prop where
 lt:b< w.heap.size
 c0:w.cell? ⟨b,0,none⟩=some (.int .u8 k.toNat)
 c1:w.cell? ⟨b,1,none⟩=some (.int .u8 a.toNat)
 c2:w.cell? ⟨b,2,none⟩=some (.int .u8 c.toNat)
 c3:w.cell? ⟨b,3,none⟩=some vs
 f:∀j,w.frozen? ⟨b,j,none⟩=false
def Nd.same {w w':World}{b:Nat}{k a c:UInt8}{vs:Value}(h:Nd w b k a c vs)(Z:w.heap.size<=w'.heap.size)(hb:w'.heap[b]?=w.heap[b]?):Nd w' b k a c vs:=by
 obtain⟨h1,G,H,h4,h5,J⟩:=h;refine⟨by omega,?_,?_,?_,?_,λj=>?_⟩
 ·rw [Ow (w:=w) hb];exact G
 ·rw [Ow (w:=w) hb];exact H
 ·rw [Ow (w:=w) hb];exact h4
 ·rw [Ow (w:=w) hb];exact h5
 ·rw [O7 (w:=w) hb];exact J j
structure TS (w0 w:World)(r b:Nat)(s:Tx)(i:Nat)(bad:Bool)(k a c:UInt8)(vs:Value):Prop where
 rd:Rd w r s i bad
 nd:Nd w b k a c vs
 kr:Kr r w0 w
 hr:r< w0.heap.size
 hb:w0.heap.size<=b
section
variable {w0 w w':World} {r b:Nat} {s:Tx} {i j:Nat} {bad bad':Bool} {k a c x:UInt8} {vs:Value}
def TS.go (h:TS w0 w r b s i bad k a c vs)(kr:Kr r w w')(hr:Rd w' r s j bad'):TS w0 w' r b s j bad' k a c vs:=by
 have :=h.hr;have :=h.hb;exact⟨hr,h.nd.same kr.size (kr.block b h.nd.lt (by omega)),Kr.trans h.kr kr,h.hr,h.hb⟩
def TS.ex (h:TS w0 w r b s i bad k a c vs)(G:Ex w w'):TS w0 w' r b s i bad k a c vs:=h.go (Kr.ex G) (h.rd.same G.size (G.block r h.rd.lt))
def TS.tA (h:TS w0 w r b s i bad k a c vs)(j:Nat)(v:Value):Rd (w.setCell ⟨b,j,none⟩ v) r s i bad/\Kr r w0 (w.setCell ⟨b,j,none⟩ v):=by
 have J:=h.hr;have Z:=h.hb;refine⟨h.rd.same (by rw [Pj];exact OB _) (Q5 _ _ _ _ (show r≠b by omega)),⟨h.kr.os,h.kr.tape,h.kr.output,by rw [Pj];exact h.kr.size,λg G H=>?_⟩⟩;rw [Q5 _ _ _ _ (show g≠b by omega)];exact h.kr.block g G H
def TS.Gj (h:TS w0 w r b s i bad k a c vs)(hw:w'=w.setCell ⟨b,0,none⟩ (.int .u8 x.toNat)):TS w0 w' r b s i bad x a c vs:=by
 subst hw;obtain⟨G,H⟩:=h.tA 0 (.int .u8 x.toNat);exact⟨G,⟨by rw [Pj];exact h.nd.lt,OQ _ _ _ h.nd.c0,by rw [OD _ _ _ _ (by simp)];exact h.nd.c1,by rw [OD _ _ _ _ (by simp)];exact h.nd.c2,by rw [OD _ _ _ _ (by simp)];exact h.nd.c3,λj=>by rw [OS];exact h.nd.f j⟩,H,h.hr,h.hb⟩
def TS.AM (h:TS w0 w r b s i bad k a c vs)(hw:w'=w.setCell ⟨b,1,none⟩ (.int .u8 x.toNat)):TS w0 w' r b s i bad k x c vs:=by
 subst hw;obtain⟨G,H⟩:=h.tA 1 (.int .u8 x.toNat);exact⟨G,⟨by rw [Pj];exact h.nd.lt,by rw [OD _ _ _ _ (by simp)];exact h.nd.c0,OQ _ _ _ h.nd.c1,by rw [OD _ _ _ _ (by simp)];exact h.nd.c2,by rw [OD _ _ _ _ (by simp)];exact h.nd.c3,λj=>by rw [OS];exact h.nd.f j⟩,H,h.hr,h.hb⟩
def TS.vB (h:TS w0 w r b s i bad k a c vs)(hw:w'=w.setCell ⟨b,2,none⟩ (.int .u8 x.toNat)):TS w0 w' r b s i bad k a x vs:=by
 subst hw;obtain⟨G,H⟩:=h.tA 2 (.int .u8 x.toNat);exact⟨G,⟨by rw [Pj];exact h.nd.lt,by rw [OD _ _ _ _ (by simp)];exact h.nd.c0,by rw [OD _ _ _ _ (by simp)];exact h.nd.c1,OQ _ _ _ h.nd.c2,by rw [OD _ _ _ _ (by simp)];exact h.nd.c3,λj=>by rw [OS];exact h.nd.f j⟩,H,h.hr,h.hb⟩
def TS.Fk (h:TS w0 w r b s i bad k a c vs){v:Value}(hw:w'=w.setCell ⟨b,3,none⟩ v):TS w0 w' r b s i bad k a c v:=by
 subst hw;obtain⟨G,H⟩:=h.tA 3 v;exact⟨G,⟨by rw [Pj];exact h.nd.lt,by rw [OD _ _ _ _ (by simp)];exact h.nd.c0,by rw [OD _ _ _ _ (by simp)];exact h.nd.c1,by rw [OD _ _ _ _ (by simp)];exact h.nd.c2,OQ _ _ _ h.nd.c3,λj=>by rw [OS];exact h.nd.f j⟩,H,h.hr,h.hb⟩
def TS.IM (h:TS w0 w r b s i bad k a c vs)(hw:w'=w.setCell ⟨r,2,none⟩ (.bool true)):TS w0 w' r b s i true k a c vs:=by
 subst hw;exact h.go (Kr.set w 2 _) h.rd.zK
def TS.cell (h:TS w0 w r b s i bad k a c vs):((∃u:Value,w.cell? ⟨b,0,none⟩=some u)/\w.frozen? ⟨b,0,none⟩=false)/\((∃u:Value,w.cell? ⟨b,1,none⟩=some u)/\w.frozen? ⟨b,1,none⟩=false)/\
  ((∃u:Value,w.cell? ⟨b,2,none⟩=some u)/\w.frozen? ⟨b,2,none⟩=false)/\((∃u:Value,w.cell? ⟨b,3,none⟩=some u)/\w.frozen? ⟨b,3,none⟩=false)/\((∃u:Value,w.cell? ⟨r,2,none⟩=some u)/\w.frozen? ⟨r,2,none⟩=false):=
 ⟨⟨⟨_,h.nd.c0⟩,h.nd.f 0⟩,⟨⟨_,h.nd.c1⟩,h.nd.f 1⟩,⟨⟨_,h.nd.c2⟩,h.nd.f 2⟩,⟨⟨_,h.nd.c3⟩,h.nd.f 3⟩,⟨⟨_,h.rd.c2⟩,h.rd.f2⟩⟩
end
structure Rs (D:Nat->Prop)(w:World)(s:Tx)(i j:Nat)(bad bad':Bool)(v:Value):Prop where
 le:i<=j
 ptr:∃b,v=ptr b
 fine:bad'=false->bad=false/\∃t:P,t.Al (λc=>lt c=true)/\s.drop i=t.text++s.drop j/\aN D w t v
 good:bad=false->(∃(t:P) (r':Tx),t.Al (λc=>lt c=true)/\s.drop i=t.text++r')->bad'=false
def xW (s:Tx)(n:Nat):Prop:=∀{r i:Nat} {bad:Bool} {w:World} {R:Value->Sb},Rd w r s i bad->(bad=false->s.length - i< n)->
 (∀v w' j bad',Kr r w w'->Rd w' r s j bad'->Rs (λg=>w.heap.size<=g) w' s i j bad bad' v->R v w')->Sc 116 #[Proofs.YthekamjhgabkjaaGreat.ptr r] w (aw [.v] R)
def Ia {s:Tx}{n:Nat}(η:xW s n){w0 w:World}{r b i:Nat}{bad:Bool}{k a c:UInt8}{vs:Value}(h:TS w0 w r b s i bad k a c vs)(hm:bad=false->s.length - i< n){R:Value->Sb}
  (hR:∀w' j bad' x α,TS w0 w' r b s j bad' k a c α->dt (λg=>w0.heap.size<=g) w' α [x]->Rs (λg=>w0.heap.size<=g) w' s i j bad bad' x->R (ptr b) w'):
  Sc 116 #[ptr r] w (aw [.v] fun(v28:Value) (β:World)=>oneV v28=true/\∀(b30:Nat) (G:World),b30=Array.size (World.heap β)->G=World.alloc β (Obj.cells #[v28] 64)->
   oneV (Value.slice (some ⟨b30,0,none⟩) 1 1)=true/\((∃u32:Value,World.cell? G ⟨b,3,none⟩=some u32)/\World.frozen? G ⟨b,3,none⟩=false)/\∀γ:World,γ=World.setCell G ⟨b,3,none⟩ (Value.slice (some ⟨b30,0,none⟩) 1 1)->R (Value.pointer (some ⟨b,0,none⟩)) γ):=by
 refine η h.rd hm λv w1 j bad' k1 h1 hs=>?_
 obtain⟨bv,θ⟩:=hs.ptr;have t1:=h.go k1 h1;refine⟨by rw [θ],λb2 w2 δ J=>⟨rfl,?_⟩⟩;have ε:Ex w1 w2:=J▸Ex.alloc w1 _;have t2:=t1.ex ε;refine⟨t2.cell.2.2.2.1,λw3 H=>?_⟩;have t3:=t2.Fk H;have hb:=h.hb;have ο:=t2.nd.lt;have μ:=k1.size;have ν:=h.kr.size;have ξ:=t1.nd.lt;have hK:Kp w2 w3 λg=>g=b:=H▸Kp.set (S:=λg=>g=b) (Kp.ab (Ex.refl w2) _) rfl _
 have ς:b< w.heap.size:=h.nd.lt;refine hR w3 j bad' v _ t3 (.inr ⟨b2,0,1,rfl,by omega,?_,λi x Z=>?_⟩) ⟨hs.le,hs.ptr,λι=>?_,hs.good⟩
 ·rw [H,Pj,J,size_alloc,<-δ];omega
 ·match i,Z with
  | 0,Z=>
   simp at Z;subst Z;rw [H,OD _ _ _ _ (by simp),J,δ];exact aa rfl
  | i+1,Z=>simp at Z
 ·obtain⟨e1,t,ht,e2,κ⟩:=hs.fine ι;refine⟨e1,t,ht,e2,?_⟩;have ζ:aN (λg=>w.heap.size<=g) w2 t v:=aN.kp (Kp.ab ε λ _=>False) (λ _ _ h=>h) κ;exact aN.mono (λg hg=>by omega) (aN.kp hK (λg hg e=>by omega) ζ)
def a8 {s:Tx}{i:Nat}(h:i< s.length):s.drop i=bt s i::s.drop (i+1):=bI h
def fV.of {D:Nat->Prop}{w0 w:World}{r b:Nat}{s:Tx}{i:Nat}{bad:Bool}{k a c:UInt8}{vs:Value}{l:List Value}{K:List Value->Prop}(h:TS w0 w r b s i bad k a c vs)(G:D b)(H:dt D w vs l)(J:K l):fV D w (ptr b) k a c K:=
 ⟨b,vs,l,rfl,G,h.nd.lt,h.nd.c0,h.nd.c1,h.nd.c2,h.nd.c3,H,J⟩
def dG {s:Tx}{i:Nat}{c:UInt8}{r:Tx}(h:s.drop i=c::r):i< s.length/\bt s i=c/\s.drop (i+1)=r:=drop_cons h
def LX (s:Tx)(hs:s.length<=1099511627776):∀n,xW s n:=by
 intro n;have main:∀n,(∀m,m+1=n->xW s m)->xW s n:=by
  intro n ih r i bad w R hrd hm hR;refine ns _ w R ?_;dsimp only [go_sem];intro b w1 hb hw1;have χ:Ex w w1:=hw1▸Ex.alloc w _;have hrl:=hrd.lt;have hsz1:w1.heap.size=w.heap.size+1:=by rw [hw1,size_alloc]
  have t1:TS w w1 r b s i bad 48 0 0 (.slice none 0 0):=by
   refine⟨hrd.same χ.size (χ.block r hrl),⟨by omega,?_,?_,?_,?_,λj=>?_⟩,Kr.ex χ,hrl,by omega⟩
   ·rw [hw1,hb];exact aa rfl
   ·rw [hw1,hb];exact aa rfl
   ·rw [hw1,hb];exact aa rfl
   ·rw [hw1,hb];exact aa rfl
   ·rw [hw1,hb];unfold World.frozen? World.alloc;simp
  have hD:w.heap.size<=b:=by omega
  refine⟨r,0,rfl,bad,t1.rd.c2,λhq=>?_,λhq=>?_⟩
  ·exact hR _ _ _ _ t1.kr t1.rd ⟨OB _,⟨b,rfl⟩,λH=>(by rw [hq]at H;cases H),λH=>(by rw [hq]at H;cases H)⟩
  obtain⟨n,rfl⟩:∃m,n=m+1:=⟨n - 1,by have :=hm hq;omega⟩
  have iht:xW s n:=ih n rfl;have hm:=hm hq;subst hq;refine pA hs t1.rd λc7 j7 bad7 w8 k8 h8 hn=>?_
  have t8:=t1.go k8 h8;have hj7:=h8.le;have first:bad7=false->i< s.length/\j7=i+1/\c7=bt s i:=λH=>by
   obtain⟨_,a,b,c,_⟩:=hn.fine H;exact⟨a,b,c⟩
  have G:∀{c:UInt8} {x:Tx},s.drop i=c::x->bad7=false/\c7=c/\s.drop j7=x:=λh=>by
   obtain⟨a,b,c⟩:=dG h;have H:=hn.good rfl a trivial;obtain⟨_,e1,e2⟩:=first H;exact⟨H,by rw [e2,b],by rw [e1];exact c⟩
  refine⟨λZ=>?_,λZ=>?_⟩
  ·have Z:=OW Z;refine hR _ _ j7 bad7 t8.kr t8.rd ⟨hn.le,⟨b,rfl⟩,λH=>?_,λ _ ⟨t,r',ht,e⟩=>?_⟩
   ·obtain⟨a1,a2,a3⟩:=first H;refine⟨rfl,.nil,trivial,?_,fV.of t8 hD (.inl ⟨rfl,rfl⟩) rfl⟩;rw [a8 a1,<-a3,Z,a2];rfl
   ·cases ht':t.text with
    | nil=>have :=It t;rw [ht']at this;simp at this
    | cons d x=>rw [ht',PC]at e;exact(G e).1
  have hc0:c7≠48:=OX Z;refine kD ⟨λhl=>?_,λhl=>?_⟩
  ·
   refine pA hs t8.rd λα j11 β w12 k12 h12 hn11=>?_
   have t12:=t8.go k12 h12;refine⟨t12.cell.2.1,λw14 hw14=>?_⟩;have t14:=t12.AM hw14;refine⟨t14.cell.1,λw16 hw16=>?_⟩;have t16:=t14.Gj hw16;have rest:∀{wx:World} {J:Bool},TS w wx r b s j11 J α c7 0 (.slice none 0 0)->(J=false->β=false/\(α=33\/α=63))->(β=false->(α=33\/α=63)->J=false)->
     ∀{K:UInt8->Sb},(∀ξ ψ δ w24,TS w w24 r b s ψ δ α c7 0 (.slice none 0 0)->Nx s j11 J (λc=>lt c=true) ξ ψ δ->K ξ w24)->
     Sc 185 #[ptr r] wx (aw [.c] K):=by
    intro wx J tx _ _ K hK;exact zF hs tx.rd λc j bad' w' k' h' hn'=>hK c j bad' w' (tx.go k' h') hn'
   have fin:∀{J:Bool} {ξ:UInt8} {ψ:Nat} {δ:Bool} {w24 w26:World},(J=false->β=false/\(α=33\/α=63))->(β=false->(α=33\/α=63)->J=false)->Nx s j11 J (λc=>lt c=true) ξ ψ δ->
     TS w w26 r b s ψ δ α c7 ξ (.slice none 0 0)->Sc 186 #[ptr r,.int .u8 46] w26 (aw [] λw27=>Sc 116 #[ptr r] w27 (aw [.v] fun(v28:Value) (w29:World)=>oneV v28=true/\∀(b30:Nat) (ω:World),b30=Array.size (World.heap w29)->ω=World.alloc w29 (Obj.cells #[v28] 64)->
      oneV (Value.slice (some ⟨b30,0,none⟩) 1 1)=true/\((∃u32:Value,World.cell? ω ⟨b,3,none⟩=some u32)/\World.frozen? ω ⟨b,3,none⟩=false)/\∀w33:World,w33=World.setCell ω ⟨b,3,none⟩ (Value.slice (some ⟨b30,0,none⟩) 1 1)->R (Value.pointer (some ⟨b,0,none⟩)) w33)):=by
    intro J ξ ψ δ w24 w26 χ hx2 η t26;refine qG (c:=46) hs t26.rd λj27 bad27 w27 k27 h27 hn27=>?_
    have t27:=t26.go k27 h27;refine Ia iht t27 (λH=>?_) λw' j bad' x vs' t' hsl hrs=>?_
    ·obtain⟨a1,a2,a3,_⟩:=hn27.fine H;obtain⟨b1,b2,b3,_⟩:=η.fine a1;obtain⟨c1,c2,c3,_⟩:=hn11.fine (χ b1).1;obtain⟨_,d2,d3⟩:=first c1;omega
    ·refine hR _ _ j bad' t'.kr t'.rd ⟨?_,⟨b,rfl⟩,λH=>?_,λ _ ⟨t,r',ht,e⟩=>?_⟩
     ·have :=hn.le;have :=hn11.le;have :=η.le;have :=hn27.le;have :=hrs.le;omega
     ·obtain⟨e1,t,ht,e2,hat⟩:=hrs.fine H;obtain⟨a1,a2,a3,a4,a5⟩:=hn27.fine e1;obtain⟨b1,b2,b3,b4,b5⟩:=η.fine a1;obtain⟨b0,hk⟩:=χ b1;obtain⟨c1,c2,c3,c4,_⟩:=hn11.fine b0;obtain⟨d1,d2,d3⟩:=first c1;have θ:s.drop i=c7::α::ξ::46::(t.text++s.drop j):=by
       rw [a8 d1,<-d3,<-d2,a8 c2,<-c4,<-c3,a8 b2,<-b4,<-b3,a8 a2,<-a4,<-a3,e2]
      rcases hk with hk | hk
      ·subst hk;exact⟨rfl,.snd c7 ξ t,⟨hl,b5,ht⟩,θ,fV.of t' hD hsl ⟨x,rfl,hat⟩⟩
      ·subst hk;exact⟨rfl,.rcv c7 ξ t,⟨hl,b5,ht⟩,θ,fV.of t' hD hsl ⟨x,rfl,hat⟩⟩
     ·have key:∀{a d x:UInt8} {p:P},(d=33\/d=63)->lt x=true->p.Al (λc=>lt c=true)->s.drop i=a::d::x::46::(p.text++r')->bad'=false:=by
       intro a d x p hd hx hp he;obtain⟨f1,f2,f3⟩:=G he;obtain⟨g1,g2,g3⟩:=dG f3;have f4:=hn11.good f1 g1 trivial;obtain⟨_,_,h3,h4,_⟩:=hn11.fine f4;rw [<-h3]at g3;obtain⟨k1,k2,k3⟩:=dG g3;have hkd:α=33\/α=63:=by rw [h4,g2];exact hd
       have f5:=η.good (hx2 f4 hkd) k1 (by rw [k2];exact hx);obtain⟨_,_,l3,l4,_⟩:=η.fine f5;rw [<-l3]at k3;obtain⟨m1,m2,m3⟩:=dG k3;have f6:=hn27.good f5 m1 m2;obtain⟨_,_,o3,o4,_⟩:=hn27.fine f6;rw [<-o3]at m3;exact hrs.good f6 ⟨p,r',hp,m3⟩
      cases t with
      | snd a x p=>exact key (.inl rfl) ht.2.1 ht.2.2 e
      | rcv a x p=>exact key (.inr rfl) ht.2.1 ht.2.2 e
      | nil=>exact absurd (G (c:=48) e).2.1 hc0
      | tau p=>have :=(G (c:=126) e).2.1;rw [this]at hl;exact absurd hl (by decide)
      | res y p=>have :=(G (c:=35) e).2.1;rw [this]at hl;exact absurd hl (by decide)
      | mat y z p=>have :=(G (c:=91) e).2.1;rw [this]at hl;exact absurd hl (by decide)
      | rep p=>have :=(G (c:=42) e).2.1;rw [this]at hl;exact absurd hl (by decide)
      | sum p q=>have :=(G (c:=40) e).2.1;rw [this]at hl;exact absurd hl (by decide)
      | par p q=>have :=(G (c:=40) e).2.1;rw [this]at hl;exact absurd hl (by decide)
   refine⟨α,t16.nd.c0,λμ=>⟨α,t16.nd.c0,λν=>⟨r,0,rfl,t16.cell.2.2.2.2,λw22 hw22=>?_⟩,λν=>?_⟩,λμ=>?_⟩
   ·have t22:=t16.IM hw22;have μ:¬α=33:=by simpa using μ
    have ν:¬α=63:=by simpa using ν
    have x1:true=false->β=false/\(α=33\/α=63):=λh=>by cases h
    have x2:β=false->(α=33\/α=63)->true=false:=λ _ h=>by rcases h with h | h<;>contradiction
    refine rest t22 x1 x2 λξ ψ δ w24 t24 η=>⟨t24.cell.2.2.1,λw26 hw26=>fin (w24:=w24) x1 x2 η (t24.vB hw26)⟩
   ·have ν:α=63:=by simpa using ν
    have x1:β=false->β=false/\(α=33\/α=63):=λh=>⟨h,.inr ν⟩
    have x2:β=false->(α=33\/α=63)->β=false:=λh _=>h
    refine rest t16 x1 x2 λξ ψ δ w24 t24 η=>⟨t24.cell.2.2.1,λw26 hw26=>fin (w24:=w24) x1 x2 η (t24.vB hw26)⟩
   ·have μ:α=33:=by simpa using μ
    have x1:β=false->β=false/\(α=33\/α=63):=λh=>⟨h,.inl μ⟩
    have x2:β=false->(α=33\/α=63)->β=false:=λh _=>h
    refine rest t16 x1 x2 λξ ψ δ w24 t24 η=>⟨t24.cell.2.2.1,λw26 hw26=>fin (w24:=w24) x1 x2 η (t24.vB hw26)⟩
  have γ:∀{a:UInt8} {x:Tx},lt a=true->s.drop i=a::x->False:=λha he=>by
   rw [(G he).2.1]at hl;rw [hl]at ha;cases ha
  have one:∀{wx:World} {jx:Nat} {J:Bool} {k a c:UInt8} (hd:Tx) (mk:P->P),TS w wx r b s jx J k a c (.slice none 0 0)->i<=jx->
    (J=false->i< jx/\s.drop i=hd++s.drop jx)->(J=false->∀p,(mk p).text=hd++p.text)->(J=false->∀p:P,p.Al (λc=>lt c=true)->(mk p).Al (λc=>lt c=true))->
    (∀{D:Nat->Prop} {w':World} {v:Value} {p:P},(fV D w' v k a c λl=>∃x,l=[x]/\aN D w' p x)->J=false->aN D w' (mk p) v)->
    (∀(t:P) (r':Tx),t.Al (λc=>lt c=true)->s.drop i=t.text++r'->J=false/\∃p:P,p.Al (λc=>lt c=true)/\s.drop jx=p.text++r')->
    Sc 116 #[ptr r] wx (aw [.v] fun(v28:Value) (w29:World)=>oneV v28=true/\∀(b30:Nat) (ω:World),b30=Array.size (World.heap w29)->ω=World.alloc w29 (Obj.cells #[v28] 64)->
     oneV (Value.slice (some ⟨b30,0,none⟩) 1 1)=true/\((∃u32:Value,World.cell? ω ⟨b,3,none⟩=some u32)/\World.frozen? ω ⟨b,3,none⟩=false)/\∀w33:World,w33=World.setCell ω ⟨b,3,none⟩ (Value.slice (some ⟨b30,0,none⟩) 1 1)->R (Value.pointer (some ⟨b,0,none⟩)) w33):=by
   intro wx jx J k a c hd mk tx hle hpos htx hal hat hgood;have hjx:=tx.rd.le;refine Ia iht tx (λH=>by have :=(hpos H).1;omega) λw' j bad' x vs' t' hsl hrs=>?_
   refine hR _ _ j bad' t'.kr t'.rd ⟨by have :=hrs.le;omega,⟨b,rfl⟩,λH=>?_,λ _ ⟨t,r',ht,e⟩=>?_⟩
   ·obtain⟨e1,p,hp,e2,hpa⟩:=hrs.fine H;refine⟨rfl,mk p,hal e1 p hp,?_,hat (fV.of t' hD hsl ⟨x,rfl,hpa⟩) e1⟩;rw [(hpos e1).2,htx e1,e2,Pe]
   ·obtain⟨e1,p,hp,e2⟩:=hgood t r' ht e;exact hrs.good e1 ⟨p,r',hp,e2⟩
  refine⟨λZ=>?_,λZ=>?_⟩
  ·
   have Z:c7=126:=OW Z;refine⟨t8.cell.1,λw57 ο=>?_⟩;rw [Z]at ο;have t57:=t8.Gj ο;refine qG (c:=46) hs t57.rd λj58 bad58 w58 k58 h58 hn58=>?_
   have t58:=t57.go k58 h58;refine one [126,46] .tau t58 (by have :=hn.le;have :=hn58.le;omega) (λH=>?_) (λ _ p=>rfl) (λ _ p hp=>hp) (λh _=>h) λt r' ht e=>?_
   ·obtain⟨a1,a2,a3,a4,a5⟩:=hn58.fine H;obtain⟨d1,d2,d3⟩:=first a1;refine⟨by omega,?_⟩;rw [a8 d1,<-d3,<-d2,a8 a2,<-a4,<-a3,Z];rfl
   ·cases t with
    | tau p=>
     obtain⟨f1,f2,f3⟩:=G (c:=126) e;obtain⟨g1,g2,g3⟩:=dG (c:=46) f3;have f4:=hn58.good f1 g1 g2;obtain⟨_,_,h3,_⟩:=hn58.fine f4;exact⟨f4,p,ht,by rw [h3];exact g3⟩
    | nil=>exact absurd (G (c:=48) e).2.1 hc0
    | snd a x p=>exact(γ ht.1 e).elim
    | rcv a x p=>exact(γ ht.1 e).elim
    | res y p=>have :=(G (c:=35) e).2.1;rw [this]at Z;exact absurd Z (by decide)
    | mat y z p=>have :=(G (c:=91) e).2.1;rw [this]at Z;exact absurd Z (by decide)
    | rep p=>have :=(G (c:=42) e).2.1;rw [this]at Z;exact absurd Z (by decide)
    | sum p q=>have :=(G (c:=40) e).2.1;rw [this]at Z;exact absurd Z (by decide)
    | par p q=>have :=(G (c:=40) e).2.1;rw [this]at Z;exact absurd Z (by decide)
  have hc1:c7≠126:=OX Z;refine⟨λZ=>?_,λZ=>?_⟩
  ·
   have Z:c7=35:=OW Z;refine zF hs t8.rd λc65 j65 bad65 w66 k66 h66 hn66=>?_
   have t66:=t8.go k66 h66;refine⟨t66.cell.1,λw68 hw68=>?_⟩;rw [Z]at hw68;have t68:=t66.Gj hw68;refine⟨t68.cell.2.2.1,λw70 hw70=>?_⟩;have t70:=t68.vB hw70;refine qG (c:=46) hs t70.rd λj71 bad71 w71 k71 h71 hn71=>?_
   have t71:=t70.go k71 h71;have fx:bad71=false->lt c65=true:=λH=>(hn66.fine (hn71.fine H).1).2.2.2.2
   refine one [35,c65,46] (.res c65) t71 (by have :=hn.le;have :=hn66.le;have :=hn71.le;omega) (λH=>?_) (λ _ p=>rfl) (λH p hp=>⟨fx H,hp⟩) (λh _=>h) λt r' ht e=>?_
   ·obtain⟨a1,a2,a3,a4,a5⟩:=hn71.fine H;obtain⟨b1,b2,b3,b4,b5⟩:=hn66.fine a1;obtain⟨d1,d2,d3⟩:=first b1;refine⟨by omega,?_⟩;rw [a8 d1,<-d3,<-d2,a8 b2,<-b4,<-b3,a8 a2,<-a4,<-a3,Z];rfl
   ·cases t with
    | res y p=>
     obtain⟨f1,f2,f3⟩:=G (c:=35) e;obtain⟨g1,g2,g3⟩:=dG (c:=y) f3;have f4:=hn66.good f1 g1 (by rw [g2];exact ht.1);obtain⟨_,_,h3,h4,_⟩:=hn66.fine f4;rw [<-h3]at g3;obtain⟨m1,m2,m3⟩:=dG (c:=46) g3;have f6:=hn71.good f4 m1 m2;obtain⟨_,_,o3,_⟩:=hn71.fine f6;exact⟨f6,p,ht.2,by rw [o3];exact m3⟩
    | nil=>exact absurd (G (c:=48) e).2.1 hc0
    | snd a x p=>exact(γ ht.1 e).elim
    | rcv a x p=>exact(γ ht.1 e).elim
    | tau p=>exact absurd (G (c:=126) e).2.1 hc1
    | mat y z p=>have :=(G (c:=91) e).2.1;rw [this]at Z;exact absurd Z (by decide)
    | rep p=>have :=(G (c:=42) e).2.1;rw [this]at Z;exact absurd Z (by decide)
    | sum p q=>have :=(G (c:=40) e).2.1;rw [this]at Z;exact absurd Z (by decide)
    | par p q=>have :=(G (c:=40) e).2.1;rw [this]at Z;exact absurd Z (by decide)
  have hc2:c7≠35:=OX Z;refine⟨λZ=>?_,λZ=>?_⟩
  ·
   have Z:c7=91:=OW Z;refine zF hs t8.rd λc78 j78 bad78 w79 k79 h79 hn79=>?_
   have t79:=t8.go k79 h79;refine⟨t79.cell.1,λw80 hw80=>?_⟩;have t80:=t79.Gj (x:=61) hw80;refine⟨t80.cell.2.1,λw81 hw81=>?_⟩;have t81:=t80.AM hw81;refine qG (c:=61) hs t81.rd λj82 bad82 w82 k82 h82 hn82=>?_
   have t82:=t81.go k82 h82;refine zF hs t82.rd λc83 j83 bad83 w83 k83 h83 hn83=>?_
   have t83:=t82.go k83 h83;refine⟨t83.cell.2.2.1,λw84 hw84=>?_⟩;have t84:=t83.vB hw84;refine qG (c:=93) hs t84.rd λj85 bad85 w85 k85 h85 hn85=>?_
   have t85:=t84.go k85 h85;have fx:bad85=false->lt c78=true/\lt c83=true:=λH=>by
    obtain⟨a1,_⟩:=hn85.fine H;obtain⟨b1,_,_,_,b5⟩:=hn83.fine a1;obtain⟨c1,_⟩:=hn82.fine b1;exact⟨(hn79.fine c1).2.2.2.2,b5⟩
   refine one [91,c78,61,c83,93] (.mat c78 c83) t85 (by have :=hn.le;have :=hn79.le;have :=hn82.le;have :=hn83.le;have :=hn85.le;omega) (λH=>?_) (λ _ p=>rfl) (λH p hp=>⟨(fx H).1,(fx H).2,hp⟩) (λh _=>h) λt r' ht e=>?_
   ·obtain⟨a1,a2,a3,a4,a5⟩:=hn85.fine H;obtain⟨b1,b2,b3,b4,b5⟩:=hn83.fine a1;obtain⟨c1,c2,c3,c4,c5⟩:=hn82.fine b1;obtain⟨e1,e2,e3,e4,e5⟩:=hn79.fine c1;obtain⟨d1,d2,d3⟩:=first e1;refine⟨by omega,?_⟩;rw [a8 d1,<-d3,<-d2,a8 e2,<-e4,<-e3,a8 c2,<-c4,<-c3,a8 b2,<-b4,<-b3,a8 a2,<-a4,<-a3,Z];rfl
   ·cases t with
    | mat y z p=>
     obtain⟨f1,f2,f3⟩:=G (c:=91) e;obtain⟨g1,g2,g3⟩:=dG (c:=y) f3;have f4:=hn79.good f1 g1 (by rw [g2];exact ht.1);obtain⟨_,_,h3,h4,_⟩:=hn79.fine f4;rw [<-h3]at g3;obtain⟨m1,m2,m3⟩:=dG (c:=61) g3;have f6:=hn82.good f4 m1 m2;obtain⟨_,_,o3,_⟩:=hn82.fine f6;rw [<-o3]at m3;obtain⟨p1,p2,p3⟩:=dG (c:=z) m3;have f7:=hn83.good f6 p1 (by rw [p2];exact ht.2.1);obtain⟨_,_,q3,_⟩:=hn83.fine f7;rw [<-q3]at p3;obtain⟨s1,s2,s3⟩:=dG (c:=93) p3;have f8:=hn85.good f7 s1 s2;obtain⟨_,_,u3,_⟩:=hn85.fine f8;exact⟨f8,p,ht.2.2,by rw [u3];exact s3⟩
    | nil=>exact absurd (G (c:=48) e).2.1 hc0
    | snd a x p=>exact(γ ht.1 e).elim
    | rcv a x p=>exact(γ ht.1 e).elim
    | tau p=>exact absurd (G (c:=126) e).2.1 hc1
    | res y p=>exact absurd (G (c:=35) e).2.1 hc2
    | rep p=>have :=(G (c:=42) e).2.1;rw [this]at Z;exact absurd Z (by decide)
    | sum p q=>have :=(G (c:=40) e).2.1;rw [this]at Z;exact absurd Z (by decide)
    | par p q=>have :=(G (c:=40) e).2.1;rw [this]at Z;exact absurd Z (by decide)
  have hc3:c7≠91:=OX Z;refine⟨λZ=>?_,λZ=>?_⟩
  ·
   have Z:c7=42:=OW Z;refine⟨t8.cell.1,λw57 ο=>?_⟩;rw [Z]at ο;have t57:=t8.Gj ο;refine one [42] .rep t57 hn.le (λH=>?_) (λ _ p=>rfl) (λ _ p hp=>hp) (λh _=>h) λt r' ht e=>?_
   ·obtain⟨d1,d2,d3⟩:=first H;refine⟨by omega,?_⟩;rw [a8 d1,<-d3,<-d2,Z];rfl
   ·cases t with
    | rep p=>
     obtain⟨f1,f2,f3⟩:=G (c:=42) e;exact⟨f1,p,ht,f3⟩
    | nil=>exact absurd (G (c:=48) e).2.1 hc0
    | snd a x p=>exact(γ ht.1 e).elim
    | rcv a x p=>exact(γ ht.1 e).elim
    | tau p=>exact absurd (G (c:=126) e).2.1 hc1
    | res y p=>exact absurd (G (c:=35) e).2.1 hc2
    | mat y z p=>exact absurd (G (c:=91) e).2.1 hc3
    | sum p q=>have :=(G (c:=40) e).2.1;rw [this]at Z;exact absurd Z (by decide)
    | par p q=>have :=(G (c:=40) e).2.1;rw [this]at Z;exact absurd Z (by decide)
  have hc4:c7≠42:=OX Z;refine⟨λZ=>?_,λZ=>?_⟩
  ·
   have Z:c7=40:=OW Z;refine iht t8.rd (λH=>by have :=(first H).2.1;have :=(first H).1;omega) λv1 w105 j105 bad105 k105 h105 hs1=>?_
   obtain⟨bv1,hbv1⟩:=hs1.ptr;have t105:=t8.go k105 h105;refine pA hs t105.rd λε j106 bad106 w107 k107 h107 ς=>?_
   have t107:=t105.go k107 h107;refine⟨t107.cell.1,λw109 hw109=>?_⟩;have t109:=t107.Gj hw109;have sz8:=t8.nd.lt;have szk:=k105.size;have hrw8:r< w8.heap.size:=h8.lt;have kK:∀{wa wb:World},Kr r wa wb->Kp wa wb λg=>g=r\/g=b:=λh=>⟨h.os,h.tape,h.output,h.size,λg hg hn=>h.block g hg λe=>hn (.inl e)⟩
   have kS:∀{wa wb:World} {j:Nat} {v:Value},wb=wa.setCell ⟨b,j,none⟩ v->Kp wa wb λg=>g=r\/g=b:=λ{wa wb j v} h=>h▸Kp.set (S:=λg=>g=r\/g=b) (Kp.ab (Ex.refl wa) _) (.inr rfl) v
   have kT:∀{wa wb wc:World},(Kp wa wb λg=>g=r\/g=b)->(Kp wb wc λg=>g=r\/g=b)->Kp wa wc λg=>g=r\/g=b:=λh k=>Kp.trans h k λ _ _ h=>h
   have q109:Kp w105 w109 λg=>g=r\/g=b:=kT (kK k107) (kS hw109)
   have rest:∀{wx:World} {J:Bool},TS w wx r b s j106 J ε 0 0 (.slice none 0 0)->(Kp w105 wx λg=>g=r\/g=b)->(J=false->bad106=false/\(ε=43\/ε=38))->(bad106=false->(ε=43\/ε=38)->J=false)->
     Sc 116 #[ptr r] wx (aw [.v] fun(v116:Value) (υ:World)=>oneV v1=true/\oneV v116=true/\∀(ζ:Nat) (ι:World),ζ=Array.size (World.heap υ)->ι=World.alloc υ (Obj.cells #[v1,v116] 64)->
      oneV (Value.slice (some ⟨ζ,0,none⟩) 2 2)=true/\((∃u120:Value,World.cell? ι ⟨b,3,none⟩=some u120)/\World.frozen? ι ⟨b,3,none⟩=false)/\∀w121:World,w121=World.setCell ι ⟨b,3,none⟩ (Value.slice (some ⟨ζ,0,none⟩) 2 2)->
      Sc 186 #[ptr r,.int .u8 41] w121 (aw [] λκ=>R (Value.pointer (some ⟨b,0,none⟩)) κ)):=by
    intro wx J tx qx χ hx2;have szx:=qx.size;refine iht tx.rd (λH=>?_) λv2 υ j117 bad117 k117 h117 hs2=>?_
    ·obtain⟨a1,a2,a3,_⟩:=ς.fine (χ H).1;have :=(hs1.fine a1).1;have :=(first this).2.1;have :=hs1.le;omega
    obtain⟨bv2,hbv2⟩:=hs2.ptr;have t117:=tx.go k117 h117;refine⟨by rw [hbv1],by rw [hbv2],λζ ι hb118 hw119=>⟨rfl,?_⟩⟩;have hx119:Ex υ ι:=hw119▸Ex.alloc υ _;have t119:=t117.ex hx119;refine⟨t119.cell.2.2.2.1,λw121 φ=>?_⟩;have t121:=t119.Fk φ;refine qG (c:=41) hs t121.rd λj122 bad122 κ k122 h122 hn122=>?_
    have t122:=t121.go k122 h122;have sz117:=k117.size;have q119:Kp υ ι λg=>g=r\/g=b:=Kp.ab hx119 _
    have q122:Kp υ κ λg=>g=r\/g=b:=kT (kT q119 (kS φ)) (kK k122)
    have qall:Kp w105 κ λg=>g=r\/g=b:=kT (kT qx (kK k117)) q122
    have hbl:ζ< κ.heap.size:=by
     have :=k122.size;rw [φ,Pj,hw119,size_alloc,<-hb118]at this;omega
    have hkr:=t8.kr.size;have hsl:dt (λg=>w.heap.size<=g) κ (.slice (some ⟨ζ,0,none⟩) 2 2) [v1,v2]:=by
     refine .inr ⟨ζ,0,2,rfl,by omega,hbl,λi x hx=>?_⟩;have hne:ζ≠b:=by omega
     have hblk:κ.heap[ζ]?=ι.heap[ζ]?:=by
      rw [k122.block ζ (by rw [φ,Pj,hw119,size_alloc];omega) (by omega),φ,Q5 _ _ _ _ (show ζ≠b from hne)]
     rw [Ow (w:=ι) hblk,hw119,hb118]
     match i,hx with
     | 0,hx=>simp at hx;subst hx;exact aa rfl
     | 1,hx=>simp at hx;subst hx;exact aa rfl
     | i+2,hx=>simp at hx
    refine hR _ _ j122 bad122 t122.kr t122.rd ⟨by have :=hn.le;have :=hs1.le;have :=ς.le;have :=hs2.le;have :=hn122.le;omega,⟨b,rfl⟩,λH=>?_,λ _ ⟨t,r',ht,e⟩=>?_⟩
    ·obtain⟨a1,a2,a3,a4,a5⟩:=hn122.fine H;obtain⟨b1,q,hq,b2,b3⟩:=hs2.fine a1;obtain⟨b0,hk⟩:=χ b1;obtain⟨c1,c2,c3,c4,_⟩:=ς.fine b0;obtain⟨e1,p,hp,e2,e3⟩:=hs1.fine c1;obtain⟨d1,d2,d3⟩:=first e1;have θ:s.drop i=40::(p.text++(ε::(q.text++(41::s.drop j122)))):=by
      rw [a8 d1,<-d3,<-d2,e2,a8 c2,<-c4,<-c3,b2,a8 a2,<-a4,<-a3,Z]
     have k1:aN (λg=>w.heap.size<=g) κ p v1:=aN.mono (λg hg=>by omega) (aN.kp qall (λg hg hS=>by rcases hS with h | h<;>omega) e3);have k2:aN (λg=>w.heap.size<=g) κ q v2:=aN.mono (λg hg=>by omega) (aN.kp q122 (λg hg hS=>by rcases hS with h | h<;>omega) b3);rcases hk with hk | hk
     ·subst hk;exact⟨rfl,.sum p q,⟨hp,hq⟩,by rw [θ];simp [T.text],fV.of t122 hD hsl ⟨v1,v2,rfl,k1,k2⟩⟩
     ·subst hk;exact⟨rfl,.par p q,⟨hp,hq⟩,by rw [θ];simp [T.text],fV.of t122 hD hsl ⟨v1,v2,rfl,k1,k2⟩⟩
    ·have key:∀{d:UInt8} {p q:P},(d=43\/d=38)->p.Al (λc=>lt c=true)->q.Al (λc=>lt c=true)->s.drop i=40::(p.text++(d::(q.text++(41::r'))))->bad122=false:=by
      intro d p q hd hp hq he;obtain⟨f1,f2,f3⟩:=G he;have g1:=hs1.good f1 ⟨p,_,hp,f3⟩;obtain⟨_,p',hp',g2,_⟩:=hs1.fine g1;rw [g2]at f3;obtain⟨rfl,g3⟩:=mg hp'.wf hp.wf f3;obtain⟨k1,k2,k3⟩:=dG g3;have f4:=ς.good g1 k1 trivial;obtain⟨_,_,h3,h4,_⟩:=ς.fine f4;have f5:=hx2 f4 (by rw [h4,k2];exact hd);rw [<-h3]at k3;have f6:=hs2.good f5 ⟨q,_,hq,k3⟩;obtain⟨_,q',hq',g4,_⟩:=hs2.fine f6;rw [g4]at k3;obtain⟨rfl,g5⟩:=mg hq'.wf hq.wf k3;obtain⟨l1,l2,l3⟩:=dG g5;exact hn122.good f6 l1 l2
     cases t with
     | sum p q=>exact key (.inl rfl) ht.1 ht.2 (by rw [e];simp [T.text])
     | par p q=>exact key (.inr rfl) ht.1 ht.2 (by rw [e];simp [T.text])
     | nil=>exact absurd (G (c:=48) e).2.1 hc0
     | snd a x p=>exact(γ ht.1 e).elim
     | rcv a x p=>exact(γ ht.1 e).elim
     | tau p=>exact absurd (G (c:=126) e).2.1 hc1
     | res y p=>exact absurd (G (c:=35) e).2.1 hc2
     | mat y z p=>exact absurd (G (c:=91) e).2.1 hc3
     | rep p=>exact absurd (G (c:=42) e).2.1 hc4
   refine⟨ε,t109.nd.c0,λμ=>⟨ε,t109.nd.c0,λν=>⟨r,0,rfl,t109.cell.2.2.2.2,λw22 hw22=>?_⟩,λν=>?_⟩,λμ=>?_⟩
   ·have μ:¬ε=43:=by simpa using μ
    have ν:¬ε=38:=by simpa using ν
    exact rest (t109.IM hw22) (kT q109 (kK (hw22▸Kr.set w109 2 _))) (λh=>by cases h) (λ _ h=>by rcases h with h | h<;>contradiction)
   ·have ν:ε=38:=by simpa using ν
    exact rest t109 q109 (λh=>⟨h,.inr ν⟩) (λh _=>h)
   ·have μ:ε=43:=by simpa using μ
    exact rest t109 q109 (λh=>⟨h,.inl μ⟩) (λh _=>h)
  ·
   have hc5:c7≠40:=OX Z;refine⟨r,0,rfl,t8.cell.2.2.2.2,λw57 ο=>?_⟩;have t57:=t8.IM ο;refine one [] .tau t57 hn.le (λH=>by cases H) (λH=>by cases H) (λ _ p hp=>hp) (λh H=>by cases H) λt r' ht e=>?_
   exfalso;cases t with
   | nil=>exact absurd (G (c:=48) e).2.1 hc0
   | snd a x p=>exact(γ ht.1 e).elim
   | rcv a x p=>exact(γ ht.1 e).elim
   | tau p=>exact absurd (G (c:=126) e).2.1 hc1
   | res y p=>exact absurd (G (c:=35) e).2.1 hc2
   | mat y z p=>exact absurd (G (c:=91) e).2.1 hc3
   | rep p=>exact absurd (G (c:=42) e).2.1 hc4
   | sum p q=>exact absurd (G (c:=40) e).2.1 hc5
   | par p q=>exact absurd (G (c:=40) e).2.1 hc5
 induction n with
 | zero=>exact main 0 λm hm=>by omega
 | succ n ih=>exact main (n+1) λm hm=>(show n=m by omega)▸ih
def Oq:Shelf.Ren where
 f:=λx=>if x=137 then 195 else if x=217 then 240 else if x=266 then 256 else x
 t:=λx=>if x=3 then 3 else if x=5 then 5 else if x=9 then 9 else x
 g:=λx=>x
def MB:Lays.n137 Tryz.prog Oq where
 mixed:=Eq.refl true
 f137:=Qs Tryz.func195 (by kernel_rfl)
 f217:=Qs Tryz.func240 (by kernel_rfl)
 f266:=Qs Tryz.func256 (by kernel_rfl)
 t3:=Tryz.underlying3
 a3:=Tryz.isAgg3
 z3:=Tryz.sizeOf3
 v3:=Tryz.zeroValue3
 t5:=Tryz.underlying5
 a5:=Tryz.isAgg5
 z5:=Tryz.sizeOf5
 v5:=Tryz.zeroValue5
 t9:=Tryz.underlying9
 a9:=Tryz.isAgg9
 z9:=Tryz.sizeOf9
 v9:=Tryz.zeroValue9
def sf {s:Tx}{c:UInt8}{w:World}{R:Int->Sb}(h:R (Lib.indexByte s c) w):
  Sc 195 #[.string (ak s),.int .u8 c.toNat] w (aw [.i] R):=by
 refine(Any.strings_IndexByte MB (ak s) c.toNat w).mono ?_
 rintro e w' ⟨rfl,rfl⟩
 have H:UInt8.ofNat c.toNat=c:=by simp
 have G:(Int.toNat (c.toNat:Int)).toUInt8=c:=by simp
 rw [G];exact⟨_,rfl,h⟩
abbrev Lt (t:P):Prop:=t.Al λc=>lt c=true
abbrev EX (w:World):Nat->Prop:=λg=>w.heap.size<=g
def zW {s:Tx}(hs:s.length<=1099511627776){w:World}{R:Value->Bool->Sb}
  (hR:∀v q w',Ex w w'->(q=true->∃t:P,Lt t/\s=t.text/\aN (EX w) w' t v)->(q=false->∀t:P,Lt t->s≠t.text)->R v q w'):
  Sc 60 #[.string (ak s)] w (aw [.v,.b] R):=by
 refine wZ s w R ?_;dsimp only [go_sem];intro b w1 hb G;have γ:Ex w w1:=G▸Ex.alloc w _;have ε:w1.heap.size=w.heap.size+1:=by rw [G,size_alloc]
 have h1:Rd w1 b s 0 false:=by
  refine⟨by omega,Pn _,?_,?_,?_,?_,?_⟩
  ·rw [G,hb];exact aa rfl
  ·rw [G,hb];exact aa rfl
  ·rw [G,hb];exact aa rfl
  ·rw [G,hb];unfold World.frozen? World.alloc;simp
  ·rw [G,hb];unfold World.frozen? World.alloc;simp
 have hT:xW s (s.length+1):=LX s hs (s.length+1);refine hT h1 (λ _=>by omega) λv w2 j bad k2 Z hr=>?_
 refine⟨λw'=>Ex w2 w',λw3 α=>⟨α▸Ex.drew w2,bad,λw' hx=>(Z.same hx.size (hx.block b Z.lt)).c2,?_⟩⟩;have β:Ex w2 w3:=α▸Ex.drew w2;have hex:Ex w w3:=by
  exact Ex.trans (Ex.below γ (Kp.below (B:=w.heap.size) k2 (by omega) (λg hg e=>by omega))) β
 refine⟨λH=>?_,λH=>?_⟩
 ·have H:bad=false:=by simpa using H
  obtain⟨_,t,ht,e,δ⟩:=hr.fine H;refine⟨j,λw' hx=>(Z.same hx.size (hx.block b Z.lt)).c1,hR _ _ _ hex (λhd=>?_) λhd t' J e'=>?_⟩
  ·have hd:=OW hd;have:s.drop j=[]:=Qo (by omega);rw [this,Qk,O5]at e;exact⟨t,ht,e,aN.mono (λg hg=>by omega) (aN.kp (Kp.ab β λ _=>False) (λ _ _ h=>h) δ)⟩
  ·have hd:=OX hd;rw [Qk]at e;have e2:t'.text++[]=t.text++s.drop j:=by rw [O5,<-e'];exact e
   obtain⟨_,e3⟩:=mg J.wf ht.wf e2;have :=List.drop_eq_nil_iff.1 e3.symm;have :=Z.le;omega
 ·have H:bad=true:=by simpa using H
  refine hR _ _ _ hex (λh=>by cases h) λ _ t' J e'=>?_
  have :=hr.good rfl ⟨t',[],J,by rw [Qk,O5,e']⟩;rw [H]at this;cases this
def oO {t:P}(J:Lt t):dJ t.text↔t.text.length<=300/\t.size<=60:=by
 constructor
 ·rintro⟨G,u,H,Z,h4⟩
  have :=eV H.wf J.wf Z;subst this;exact⟨G,h4⟩
 ·rintro⟨G,H⟩
  exact⟨G,t,J,rfl,H⟩
def GW {s:Tx}{w:World}{R:Value->Bool->Sb}
  (hR:∀v q w',Ex w w'->(q=true->dJ s/\∃t:P,Lt t/\s=t.text/\aN (EX w) w' t v)->(q=false->¬dJ s)->R v q w'):
  Sc 93 #[.string (ak s)] w (aw [.v,.b] R):=by
 refine yL s w R ?_;dsimp only [go_sem];refine⟨λG=>?_,λG=>?_⟩
 ·have G:=OW G;refine hR _ _ _ (Ex.refl w) (λh=>by cases h) λ _ hg=>?_
  have :=hg.1;omega
 ·have G:=OX G;refine zW (by omega) λv q w' hx h1 h2=>⟨λZ=>?_,λZ=>?_⟩
  ·obtain⟨t,H,e,J⟩:=h1 Z;have hs:=bz t;refine J8 t.size (OB _) J (by rw [<-e]at hs;omega) (hR _ _ _ hx (λhd=>?_) λhd=>?_)
   ·have hd:=OW hd;exact⟨by rw [e];exact(oO H).2 ⟨by rw [<-e];omega,by omega⟩,t,H,e,J⟩
   ·have hd:=OX hd;rw [e,oO H];omega
  ·exact hR _ _ _ hx (λh=>by cases h) λ _ ⟨_,t,H,e,_⟩=>h2 Z t H e.symm
def Bl {s:Tx}{w:World}{R:Bool->Sb}(hR:∀q w',Ex w w'->(q=true↔dJ s)->R q w'):
  Sc 190 #[.string (ak s)] w (aw [.b] R):=by
 refine qz s w R ?_;dsimp only [go_sem];refine GW λv q w' G H J=>hR q w' G ⟨λh=>(H h).1,λh=>?_⟩
 cases q
 ·exact absurd h (J rfl)
 ·rfl
def D7 {D:Nat->Prop}{t:P}{v:Value}{w:World}(h:aN D w t v){R:Bool->Sb}(hR:R (decide (t.kind=63)||decide (t.kind=35)) w):
  Sc 171 #[v] w (aw [.b] R):=by
 refine oV v w R ?_;dsimp only [go_sem];dsimp only [go_sem,UInt8.reduceOfNat];obtain⟨b,vs,l,rfl,J,Z,H,h4,h5,h6,h7,h8⟩:=h.inv;refine⟨b,0,rfl,t.kind,H,λG=>⟨b,0,rfl,t.kind,H,?_⟩,λG=>?_⟩
 ·rw [G,QU]at hR;exact hR
 ·rw [G,R3]at hR;exact hR
def T.ev (p:P->Bool):P->Bool
 | .nil=>p .nil
 | .snd a b q=>p (.snd a b q)&&q.ev p
 | .rcv a b q=>p (.rcv a b q)&&q.ev p
 | .tau q=>p (.tau q)&&q.ev p
 | .sum q r=>p (.sum q r)&&(q.ev p&&r.ev p)
 | .par q r=>p (.par q r)&&(q.ev p&&r.ev p)
 | .res a q=>p (.res a q)&&q.ev p
 | .mat a b q=>p (.mat a b q)&&q.ev p
 | .rep q=>p (.rep q)&&q.ev p
def uB (p:P->Bool)(t:P):t.ev p=(p t&&t.parts.all (·.ev p)):=by cases t<;>simp [T.ev,T.parts]
def B0 (f:Nat)(p:P->Bool):Prop:=hasR gN f=true/\∀{D:Nat->Prop} {t:P} {v:Value} {w:World} {R:Bool->Sb},aN D w t v->R (p t) w->Sc f #[v] w (aw [.b] R)
structure yD (w:World)(bo bh f:Nat)(q:Bool):Prop where
 lt:bo< w.heap.size
 lh:bh< w.heap.size
 ne:bh≠bo
 c:w.cell? ⟨bo,0,none⟩=some (.bool q)
 fr:w.frozen? ⟨bo,0,none⟩=false
 h:w.cell? ⟨bh,0,none⟩=some (.func (.func f) #[] #[])
def yD.set {w:World}{bo bh f:Nat}{q:Bool}(h:yD w bo bh f q)(x:Bool):yD (w.setCell ⟨bo,0,none⟩ (.bool x)) bo bh f x:=
 ⟨by rw [Pj];exact h.lt,by rw [Pj];exact h.lh,h.ne,OQ _ _ _ h.c,by rw [OS];exact h.fr,by
  rw [OD _ _ _ _ (by have :=h.ne;simp [this])];exact h.h⟩
def Lz {f:Nat}{p:P->Bool}(Z:B0 f p){D:Nat->Prop}{t:P}{v:Value}{w:World}{bo bh:Nat}{q:Bool}(ht:aN D w t v)(G:yD w bo bh f q){R:Sb}
  (hR:∀w',Kr bo w w'->yD w' bo bh f (q&&p t)->R w'):Sc 207 #[v,ptr bo,ptr bh] w (aw [] R):=by
 refine nU v _ _ w R ?_;dsimp only [go_sem];refine⟨bo,0,rfl,q,G.c,λJ=>⟨bh,0,rfl,_,G.h,f,[],rfl,Z.1,Z.2 ht ⟨bo,0,rfl,⟨⟨_,G.c⟩,G.fr⟩,λw' H=>?_⟩⟩,λJ=>⟨bo,0,rfl,⟨⟨_,G.c⟩,G.fr⟩,λw' H=>?_⟩⟩
 ·subst H;refine hR _ (Kr.set w 0 _) ?_;rw [J,Qa];exact G.set _
 ·subst H;refine hR _ (Kr.set w 0 _) ?_;rw [J,RE];exact G.set _
def MJ {f:Nat}{p:P->Bool}(hp:B0 f p):∀(n:Nat) {D:Nat->Prop} {t:P} {v:Value} {w:World} {bo bh:Nat} {q:Bool},t.size<=n->aN D w t v->(∀g,D g->¬g=bo)->yD w bo bh f q->∀{R:Sb},
  (∀w',Kr bo w w'->yD w' bo bh f (q&&t.ev p)->R w')->Sc 206 #[v,.func (.func 207) #[] #[ptr bo,ptr bh]] w (aw [] R):=by
 intro n
 induction n with
 | zero=>intro D t v w _ _ _ h;have :=aX t;omega
 | succ n ih=>
  intro D t v w bo bh q hn ht Z hs R hR;refine pV v _ w R ?_;dsimp only [go_sem];dsimp only [go_sem,Nat.reduceAdd];refine⟨207,[ptr bo,ptr bh],rfl,by kernel_rfl,?_⟩;refine Lz hp ht hs λw1 k1 h1=>?_
  have α:=aN.kp k1 Z ht;obtain⟨b,vs,l,rfl,g1,g2,g3,g4,g5,g6,g7,g8⟩:=α.inv;obtain⟨a,cap,hv⟩:=g7.slice;have e:=pb t;refine⟨b,0,rfl,vs,g6,a,_,cap,hv,λx w'=>∃i:Nat,x=i/\i<=l.length/\Kr bo w w'/\Kr bo w1 w'/\yD w' bo bh f ((q&&p t)&&(t.parts.take i).all (·.ev p)),λx _=>(l.length - x).toNat,⟨0,rfl,by omega,k1,Kr.refl _ _,by simpa using h1⟩,λx w2 hI=>?_⟩;obtain⟨i,rfl,hi,k2,k3,h2⟩:=hI;refine⟨λJ=>?_,λJ=>?_⟩
  ·have J:=OW J;have G:i< l.length:=by omega
   have H:i< t.parts.length:=by rw [<-g8.1];exact G
   refine(g7.kp k3 Z).get (i:=i) (x:=l[i]) (by omega) (by simp [G]) ?_;have hk:=g8.2 i _ _ (Ox G) (Ox H);have hk:=aN.kp k3 Z hk;obtain⟨β,γ⟩:=qE T.size t.parts H;have δ:=dE t;refine ih (by omega) hk Z h2 λw4 k4 h4=>⟨by omega,⟨i+1,by omega,by omega,Kr.trans k2 k4,Kr.trans k3 k4,?_⟩,by dsimp only;omega⟩
   rw [OC H,QP,<-R4];simpa using h4
  ·have J:=OX J;have:i=t.parts.length:=by rw [<-g8.1];omega
   subst this;rw [O4,R4,<-uB]at h2;exact hR _ k2 h2
def La {f:Nat}{p:P->Bool}(hp:B0 f p){D:Nat->Prop}{t:P}{v:Value}{w:World}(ht:aN D w t v)(hD:∀g,D g->g< w.heap.size){R:Bool->Sb}(hR:∀w',Ex w w'->R (t.ev p) w'):
  Sc 165 #[v,.func (.func f) #[] #[]] w (aw [.b] R):=by
 refine qV v _ w R ?_;dsimp only [go_sem];dsimp only [go_sem,Nat.reduceAdd];refine⟨rfl,λb1 w1 β J b2 G Z H=>?_⟩;have x1:Ex w w1:=J▸Ex.alloc w _;have x2:Ex w1 G:=H▸Ex.alloc w1 _;have s1:w1.heap.size=w.heap.size+1:=by rw [J,size_alloc]
 have s2:G.heap.size=w1.heap.size+1:=by rw [H,size_alloc]
 have c2:G.cell? ⟨b2,0,none⟩=some (.bool false):=by rw [H,Z];exact aa rfl
 have f2:G.frozen? ⟨b2,0,none⟩=false:=by rw [H,Z];unfold World.frozen? World.alloc;simp
 have c1:G.cell? ⟨b1,0,none⟩=some (.func (.func f) #[] #[]):=by
  rw [x2.cell (show b1< _ by omega),J,β];exact aa rfl
 have hA:yD G b2 b1 f false:=⟨by omega,by omega,by omega,c2,f2,c1⟩
 refine⟨⟨⟨_,c2⟩,f2⟩,λw3 γ=>?_⟩;subst γ;have δ:aN D G t v:=aN.kp (Kp.ab (Ex.trans x1 x2) λ _=>False) (λ _ _ h=>h) ht;have α:∀g,D g->¬g=b2:=λg hg e=>by have :=hD g hg;omega
 have ε:aN D (G.setCell ⟨b2,0,none⟩ (.bool true)) t v:=aN.kp (Kr.set G 0 _) α δ;refine MJ hp t.size (OB _) ε α (hA.set true) λw4 k4 h4=>⟨_,h4.c,?_⟩
 rw [Qa];exact hR w4 (Ex.below (Ex.trans x1 x2) (Kp.below (B:=w.heap.size) (Kr.trans (Kr.set G 0 _) k4) (by omega) λg hg e=>by omega))
def T.gd1:P->Bool
 | .sum p q=>p.gp&&q.gp
 | _=>true
def T.rp1:P->Bool
 | .rep p=>p.isR
 | _=>true
def eY:∀t:P,t.smp=(t.ev T.gd1&&t.ev T.rp1)
 | .nil=>rfl
 | .snd _ _ p=>by have :=eY p;simp [T.smp,T.ev,T.gd1,T.rp1,this]
 | .rcv _ _ p=>by have :=eY p;simp [T.smp,T.ev,T.gd1,T.rp1,this]
 | .tau p=>by have :=eY p;simp [T.smp,T.ev,T.gd1,T.rp1,this]
 | .res _ p=>by have :=eY p;simp [T.smp,T.ev,T.gd1,T.rp1,this]
 | .mat _ _ p=>by have :=eY p;simp [T.smp,T.ev,T.gd1,T.rp1,this]
 | .rep p=>by have :=eY p;simp only [T.smp,T.ev,T.gd1,T.rp1,this,Qa];cases p.isR<;>simp
 | .par p q=>by have :=eY p;have h:=eY q;simp only [T.smp,T.ev,T.gd1,T.rp1,this,h,Qa];ac_rfl
 | .sum p q=>by have :=eY p;have h:=eY q;simp only [T.smp,T.ev,T.gd1,T.rp1,this,h,Qa];ac_rfl
def Ha (t:P):decide (0<=Lib.indexByte [33,63,126,43,48] t.kind)=t.gp:=by cases t<;>rfl
def Dc:B0 205 T.gd1:=by
 refine⟨by kernel_rfl,λ{D t v w R} J hR=>?_⟩;refine kE v w R ?_;dsimp only [go_sem];dsimp only [go_sem,Nat.reduceAdd];obtain⟨b,vs,l,rfl,g1,g2,g3,g4,g5,g6,g7,g8⟩:=J.inv;refine⟨b,0,rfl,_,g3,λH=>?_,λH=>?_⟩
 ·obtain⟨p,q,rfl⟩:∃p q,t= .sum p q:=by cases t<;>simp [T.kind]at H|-
  have Z:l.length=2:=g8.1;obtain⟨x,y,rfl⟩:∃x y,l=[x,y]:=by
   match l,Z with
   | [x,y],_=>exact⟨x,y,rfl⟩
  have hx:=g8.2 0 x p rfl rfl;have hy:=g8.2 1 y q rfl rfl;obtain⟨b1,_,_,e1,_,_,i1,_⟩:=hx.inv;obtain⟨b2,_,_,e2,_,_,i2,_⟩:=hy.inv;refine⟨b,0,rfl,vs,g6,g7.get (i:=0) (x:=x) (by omega) rfl ⟨b1,0,e1,_,i1,sf ⟨λG=>⟨b,0,rfl,vs,g6,g7.get (i:=1) (x:=y) (by omega) rfl ⟨b2,0,e2,_,i2,sf ?_⟩⟩,λG=>?_⟩⟩⟩
  ·rw [Ha]at G|-;rw [T.gd1,G]at hR;exact hR
  ·rw [Ha]at G;rw [T.gd1,G]at hR;exact hR
 ·have:T.gd1 t=true:=by cases t<;>first | rfl | simp [T.kind]at H
  rw [this]at hR;exact hR
def Fj:B0 166 T.rp1:=by
 refine⟨by kernel_rfl,λ{D t v w R} H hR=>?_⟩;refine kW v w R ?_;dsimp only [go_sem];dsimp only [go_sem,Nat.reduceAdd];obtain⟨b,vs,l,rfl,g1,g2,g3,g4,g5,g6,g7,g8⟩:=H.inv;refine⟨b,0,rfl,_,g3,λG=>?_,λG=>?_⟩
 ·obtain⟨p,rfl⟩:∃p,t= .rep p:=by cases t<;>simp [T.kind]at G|-
  have J:l.length=1:=g8.1;obtain⟨x,rfl⟩:∃x,l=[x]:=by
   match l,J with
   | [x],_=>exact⟨x,rfl⟩
  have Z:=g8.2 0 x p rfl rfl;obtain⟨b1,_,_,e1,_,_,i1,_⟩:=Z.inv;refine⟨b,0,rfl,vs,g6,g7.get (i:=0) (x:=x) (by omega) rfl ⟨b1,0,e1,_,i1,?_⟩⟩;have:decide (p.kind=63)=p.isR:=by cases p<;>rfl
  show R (decide (p.kind=63)) _;rw [this];exact hR
 ·have:T.rp1 t=true:=by cases t<;>first | rfl | simp [T.kind]at G
  rw [this]at hR;exact hR
def GI {D:Nat->Prop}{t:P}{v:Value}{w:World}(J:aN D w t v)(Z:∀g,D g->g< w.heap.size){R:Bool->Sb}(hR:∀w',Ex w w'->R t.smp w'):
  Sc 94 #[v] w (aw [.b] R):=by
 refine nL v w R ?_;dsimp only [go_sem];refine lP v w _ ?_;dsimp only [go_sem];refine La Dc J Z λw1 G=>⟨λH=>?_,λH=>?_⟩
 ·refine La Fj (aN.kp (Kp.ab G λ _=>False) (λ _ _ h=>h) J) (λg hg=>by have :=Z g hg;have :=G.size;omega) λw2 x2=>?_
  have :=hR w2 (Ex.trans G x2);rw [eY,H,Qa]at this;exact this
 ·have :=hR w1 G;rw [eY,H,RE]at this;exact this
def aN.bound {D:Nat->Prop}{w:World}:∀{t:P} {v:Value},aN D w t v->aN (λg=>D g/\g< w.heap.size) w t v:=by
 have key:∀{v:Value} {k a c:UInt8} {K K':List Value->Prop},fV D w v k a c K->(∀l,K l->K' l)->fV (λg=>D g/\g< w.heap.size) w v k a c K':=by
  rintro v k a c K K' ⟨b,vs,l,G,H,h3,h4,h5,h6,h7,h8,h9⟩ hK
  refine⟨b,vs,l,G,⟨H,h3⟩,h3,h4,h5,h6,h7,?_,hK l h9⟩;rcases h8 with h | ⟨b',off,cap,i1,i2,i3,i4⟩
  ·exact .inl h
  ·exact .inr ⟨b',off,cap,i1,⟨i2,i3⟩,i3,i4⟩
 intro t
 induction t with
 | nil=>exact λh=>key h λ _ h=>h
 | snd _ _ p J=>exact λh=>key h λ _ ⟨x,G,H⟩=>⟨x,G,J H⟩
 | rcv _ _ p J=>exact λh=>key h λ _ ⟨x,G,H⟩=>⟨x,G,J H⟩
 | tau p J=>exact λh=>key h λ _ ⟨x,G,H⟩=>⟨x,G,J H⟩
 | res _ p J=>exact λh=>key h λ _ ⟨x,G,H⟩=>⟨x,G,J H⟩
 | mat _ _ p J=>exact λh=>key h λ _ ⟨x,G,H⟩=>⟨x,G,J H⟩
 | rep p J=>exact λh=>key h λ _ ⟨x,G,H⟩=>⟨x,G,J H⟩
 | sum p q J Z=>exact λh=>key h λ _ ⟨x,y,G,H,h3⟩=>⟨x,y,G,J H,Z h3⟩
 | par p q J Z=>exact λh=>key h λ _ ⟨x,y,G,H,h3⟩=>⟨x,y,G,J H,Z h3⟩
attribute [go_sem] Tryz.f105
def qg (w:World)(R:Value->Sb)(h:vc aB (a6 [(3,[(4,.i)])] [] []) (ai Tryz.f105) (aj 0 []) w (fin aB [.agg 0 113] R)):
  Sc 105 #[] w (aw [.v] R):=
 bn Tryz.func105 (by kernel_rfl) h
attribute [go_sem] Tryz.f172
def lN (G:Value)(w:World)(R:Int->Sb)(h:vc aB (a6 [] [] []) (ai Tryz.f172) (aj 0 [.v G]) w (fin aB [.tmp 2 .i] R)):
  Sc 172 #[G] w (aw [.i] R):=
 bn Tryz.func172 (by kernel_rfl) h
attribute [go_sem] Tryz.f153
def lI (G:Value)(H:Value)(w:World)(R:Sb)(h:vc aB (a6 [] [] [(0,true,.lt 0 (.lt 1 (.lt 2 (.lt 3 (.lt 4 (.lt 5 (.lt 6 (.lt 7 (.lt 8 (.lt 9 (.lt 11 (.lt 12 (.lt 13 (.lt 14 (.lt 15 (.lt 16 (.lt 17 (.lt 18 (.one .g 10 (.one .g 19 (.lt 20 (.lt 21 (.one .n 22 (.lt 23 (.lt 24 (.one .n 25 .done))))))))))))))))))))))))))]) (ai Tryz.f153) (aj 0 [.v G,.v H]) w (fin aB [] R)):
  Sc 153 #[G,H] w (aw [] R):=
 bn Tryz.func153 (by kernel_rfl) h
attribute [go_sem] Tryz.f104
def qm (G:Value)(t2:Value)(H:Value)(w:World)(R:Value->Sb)(h:vc aB (a6 [] [(4,[]),(6,[]),(8,[]),(23,[])] [(5,true,.lt 0 (.lt 1 (.lt 2 (.lt 3 (.lt 4 (.lt 5 (.one .g 6 (.lt 7 (.one .n 8 .done))))))))),(10,true,.lt 0 (.lt 1 (.lt 2 (.lt 3 (.lt 4 (.lt 5 (.lt 6 (.lt 7 (.lt 8 (.one .g 9 (.lt 10 (.lt 11 (.one .n 12 .done))))))))))))),(14,true,.lt 0 (.lt 1 (.lt 2 (.lt 3 (.lt 4 (.lt 5 (.lt 6 (.lt 7 (.lt 8 (.one .g 9 (.one .g 10 .done))))))))))),(15,true,.lt 0 (.lt 1 (.lt 2 (.lt 3 (.lt 4 (.lt 5 (.lt 6 (.lt 7 (.lt 8 (.one .g 9 (.one .g 10 .done))))))))))),(19,true,.lt 0 (.lt 1 (.lt 2 (.lt 3 (.lt 4 (.lt 5 (.lt 6 (.lt 7 (.lt 8 (.one .g 9 (.one .g 10 .done))))))))))),(22,true,.lt 0 (.lt 1 (.lt 2 (.lt 3 (.lt 4 (.lt 5 (.lt 6 (.lt 7 (.lt 8 (.lt 10 (.lt 11 (.lt 12 (.lt 13 (.lt 14 (.lt 15 (.lt 16 (.lt 17 (.one .g 9 (.one .g 18 (.one .g 19 (.lt 20 (.lt 21 (.one .n 22 .done)))))))))))))))))))))))]) (ai Tryz.f104) (aj 0 [.v G,.v t2,.v H]) w (fin aB [.tmp 6 .v] R)):
  Sc 104 #[G,t2,H] w (aw [.v] R):=
 bn Tryz.func104 (by kernel_rfl) h
abbrev iv (n:Nat):Value:= .int .i64 n
def K.byte:K->UInt8
 | .s=>33 | .r=>63 | .t=>126 | .m=>61 | .p=>42
def dt.sub {D E:Nat->Prop}{w:World}{v:Value}{l:List Value}(h:dt D w v l)(hd:∀g,g< w.heap.size->D g->E g):dt E w v l:=by
 rcases h with h | ⟨b,off,cap,H,J,G,h4⟩
 ·exact .inl h
 ·exact .inr ⟨b,off,cap,H,hd b G J,G,h4⟩
def gC (D:Nat->Prop)(w:World)(v:Value)(o:List Nat)(K:List Value->Prop):Prop:=
 ∃b vo vt ts,v=ptr b/\D b/\b< w.heap.size/\w.cell? ⟨b,0,none⟩=some vo/\w.cell? ⟨b,1,none⟩=some vt/\dt D w vo (o.map iv)/\dt D w vt ts/\K ts
def I0 (D:Nat->Prop)(w:World)(v:Value)(k:UInt8)(a b:Nat)(vr vp:Value):Prop:=
 ∃g,v=ptr g/\D g/\g< w.heap.size/\w.cell? ⟨g,0,none⟩=some (.int .u8 k.toNat)/\w.cell? ⟨g,1,none⟩=some (iv a)/\w.cell? ⟨g,2,none⟩=some (iv b)/\w.cell? ⟨g,3,none⟩=some vr/\w.cell? ⟨g,4,none⟩=some vp
def ah (D:Nat->Prop)(w:World):Lv->List Value->Prop
 | .nil,ts=>ts=[]
 | .thr k a b o r n,ts=>∃t G a' H vr,ts=t::G/\I0 D w t k.byte a' H vr (.slice none 0 0)/\(k= .t\/k= .p\/(a'=a/\H=b))/\gC D w vr o (ah D w r)/\ah D w n G
 | .sum ps n,ts=>∃t G a' H vp us,ts=t::G/\I0 D w t 43 a' H (.pointer none) vp/\dt D w vp us/\ah D w ps us/\ah D w n G
 | .part o q n,ts=>∃v G,ts=v::G/\gC D w v o (ah D w q)/\ah D w n G
def az (D:Nat->Prop)(w:World)(L:List Nat×Lv)(v:Value):Prop:=gC D w v L.1 (ah D w L.2)
section
variable {D E S:Nat->Prop} {w w':World}
def gC.kp {v:Value}{o:List Nat}{K H:List Value->Prop}(h:gC D w v o K)(k:Kp w w' S)(G:∀g,D g->¬S g)(hK:∀l,K l->H l):gC D w' v o H:=by
 obtain⟨b,vo,vt,ts,h1,J,Z,h4,h5,h6,h7,h8⟩:=h;have hb:=k.block b Z (G b J);refine⟨b,vo,vt,ts,h1,J,O1 Z k.size,?_,?_,h6.kp k G,h7.kp k G,hK _ h8⟩<;>rw [Ow (w:=w) hb]<;>assumption
def gC.sub {v:Value}{o:List Nat}{K G:List Value->Prop}(h:gC D w v o K)(hd:∀g,g< w.heap.size->D g->E g)(J:∀l,K l->G l):gC E w v o G:=by
 obtain⟨b,vo,vt,ts,Z,h2,H,h4,h5,h6,h7,h8⟩:=h;exact⟨b,vo,vt,ts,Z,hd b H h2,H,h4,h5,h6.sub hd,h7.sub hd,J _ h8⟩
def I0.kp {v:Value}{k:UInt8}{a b:Nat}{vr vp:Value}(h:I0 D w v k a b vr vp)(kp:Kp w w' S)(J:∀g,D g->¬S g):I0 D w' v k a b vr vp:=by
 obtain⟨g,Z,G,H,h4,h5,h6,h7,h8⟩:=h;have hb:=kp.block g H (J g G);refine⟨g,Z,G,O1 H kp.size,?_,?_,?_,?_,?_⟩<;>rw [Ow (w:=w) hb]<;>assumption
def I0.sub {v:Value}{k:UInt8}{a b:Nat}{vr vp:Value}(h:I0 D w v k a b vr vp)(hd:∀g,g< w.heap.size->D g->E g):I0 E w v k a b vr vp:=by
 obtain⟨g,H,J,G,h4,h5,Z,h7,h8⟩:=h;exact⟨g,H,hd g G J,G,h4,h5,Z,h7,h8⟩
def ah.kp (k:Kp w w' S)(G:∀g,D g->¬S g):∀{l:Lv} {ts:List Value},ah D w l ts->ah D w' l ts
 | .nil,_,h=>h
 | .thr _ _ _ _ r n,_,⟨t,H,a',b',vr,J,Z,h3,h4,h5⟩=>⟨t,H,a',b',vr,J,Z.kp k G,h3,h4.kp k G λ _ h=>ah.kp k G (l:=r) h,ah.kp k G (l:=n) h5⟩
 | .sum ps n,_,⟨t,H,a',b',vp,us,J,Z,h3,h4,h5⟩=>⟨t,H,a',b',vp,us,J,Z.kp k G,h3.kp k G,ah.kp k G (l:=ps) h4,ah.kp k G (l:=n) h5⟩
 | .part o q n,_,⟨v,H,J,Z,h3⟩=>⟨v,H,J,Z.kp k G λ _ h=>ah.kp k G (l:=q) h,ah.kp k G (l:=n) h3⟩
def ah.sub (hd:∀g,g< w.heap.size->D g->E g):∀{l:Lv} {ts:List Value},ah D w l ts->ah E w l ts
 | .nil,_,h=>h
 | .thr _ _ _ _ r n,_,⟨t,G,a',b',vr,H,J,Z,h4,h5⟩=>⟨t,G,a',b',vr,H,J.sub hd,Z,h4.sub hd λ _ h=>ah.sub hd (l:=r) h,ah.sub hd (l:=n) h5⟩
 | .sum ps n,_,⟨t,G,a',b',vp,us,H,J,Z,h4,h5⟩=>⟨t,G,a',b',vp,us,H,J.sub hd,Z.sub hd,ah.sub hd (l:=ps) h4,ah.sub hd (l:=n) h5⟩
 | .part o q n,_,⟨v,G,H,J,Z⟩=>⟨v,G,H,J.sub hd λ _ h=>ah.sub hd (l:=q) h,ah.sub hd (l:=n) Z⟩
def az.kp {L:List Nat×Lv}{v:Value}(h:az D w L v)(k:Kp w w' S)(G:∀g,D g->¬S g):az D w' L v:=gC.kp h k G λ _ h=>ah.kp k G h
def az.sub {L:List Nat×Lv}{v:Value}(h:az D w L v)(hd:∀g,g< w.heap.size->D g->E g):az E w L v:=gC.sub h hd λ _ h=>ah.sub hd h
def az.ex {L:List Nat×Lv}{v:Value}(h:az D w L v)(x:Ex w w'):az D w' L v:=h.kp (Kp.ab x λ _=>False) λ _ _ h=>h
def ah.ex {l:Lv}{ts:List Value}(h:ah D w l ts)(x:Ex w w'):ah D w' l ts:=ah.kp (Kp.ab x λ _=>False) (λ _ _ h=>h) h
def ah.app:∀{l m:Lv} {ts us:List Value},ah D w l ts->ah D w m us->ah D w (l.app m) (ts++us)
 | .nil,_,_,_,h,H=>by cases h;exact H
 | .thr _ _ _ _ r n,_,_,_,⟨t,G,a',b',vr,J,Z,h3,h4,h5⟩,H=>⟨t,G++_,a',b',vr,by rw [J];rfl,Z,h3,h4,ah.app (l:=n) h5 H⟩
 | .sum ps n,_,_,_,⟨t,G,a',b',vp,us,J,Z,h3,h4,h5⟩,H=>⟨t,G++_,a',b',vp,us,by rw [J];rfl,Z,h3,h4,ah.app (l:=n) h5 H⟩
 | .part o q n,_,_,_,⟨v,G,J,Z,h3⟩,H=>⟨v,G++_,by rw [J];rfl,Z,ah.app (l:=n) h3 H⟩
def ah.len:∀{l:Lv} {ts:List Value},ah D w l ts->ts.length=l.len
 | .nil,_,h=>by cases h;rfl
 | .thr _ _ _ _ r n,_,⟨t,G,a',b',vr,H,Z,J,h4,h5⟩=>by rw [H,Ov,ah.len (l:=n) h5,Lv.len]
 | .sum ps n,_,⟨t,G,a',b',vp,us,H,Z,J,h4,h5⟩=>by rw [H,Ov,ah.len (l:=n) h5,Lv.len]
 | .part o q n,_,⟨v,G,H,Z,J⟩=>by rw [H,Ov,ah.len (l:=n) J,Lv.len]
end
def aM (e:Nat)(B:Nat)(w:World)(v:Value)(l:List Value):Prop:=w.ownsRow B e 1 v l.length l
def aM.nil (e B:Nat)(w:World):aM e B w (.slice none 0 0) []:=RA _ _ _ _
def aM.block {e B:Nat}{w:World}{v:Value}{l:List Value}(h:aM e B w v l):∀b,v.ownBlock=some b->B<=b/\b< w.heap.size:=QX h
def aM.mono {e B G:Nat}{w:World}{v:Value}{l:List Value}(h:aM e B w v l)(hb:G<=B):aM e G w v l:=Q4 h hb
def aM.kp {e B:Nat}{w w':World}{S:Nat->Prop}{v:Value}{l:List Value}(h:aM e B w v l)(k:Kp w w' S)(H:∀g,v.ownBlock=some g->¬S g):aM e B w' v l:=by
 refine⟨h.1,?_⟩;rcases h.2 with J | ⟨g,cap,cur,rfl,hb,G,rest⟩
 ·exact .inl J
 ·exact .inr ⟨g,cap,cur,rfl,hb,by rw [k.block g (Ph.1 G).1 (H g rfl)];exact G,rest⟩
def aM.DO {e B:Nat}{w:World}{v:Value}{l:List Value}(h:aM e B w v l){D:Nat->Prop}(J:∀g,v.ownBlock=some g->D g):dt D w v l:=by
 rcases h.2 with⟨rfl,Z⟩ | ⟨g,cap,cur,rfl,hb,G,h1,h2,h3,h4⟩
 ·exact .inl ⟨rfl,Pa Z⟩
 ·refine .inr ⟨g,0,cap,rfl,J g rfl,(Ph.1 G).1,λi x H=>?_⟩;unfold World.cell?;simp only [G,O6];have e:=PA (λl=>l[i]?) h4;obtain⟨hi,_⟩:=Px.1 H;simp only [O8,Q3,hi,Qu,H]at e;rw [<-PO];exact e
def aM.one {e:Nat}{w w':World}{B b:Nat}{x:Value}(hB:B<=w.heap.size)(hb:b=w.heap.size)(h:w'=w.alloc (.cells #[x] e)):aM e B w' (.slice (some ⟨b,0,none⟩) 1 1) [x]:=by
 subst hb h;refine⟨rfl,.inr ⟨_,1,#[x],rfl,hB,?_,by simp,by unfold maxLen;omega,rfl,rfl⟩⟩;unfold World.alloc;simp
def aM.push {e B by_:Nat}{w:World}{v:Value}{l:List Value}(h:aM e B w v l)(hB:B<=w.heap.size){D:Nat->Prop}{x:Value}{m:List Value}(J:dt D w x m)(hm:m.all oneV=true)(H:by_<=16)(Z:l.length+m.length<=1099511627776){K:Value->Sb}
  (hK:∀G w',aM e B w' G (l++m)->w.grownBy w' v.ownBlock->(∀b,G.ownBlock=some b->v.ownBlock=some b\/w.heap.size<=b)->K G w'):
  ∃(base n k:Nat) (xs news:List Value),World.ownsRow w base e 1 v n xs/\base<=Array.size (World.heap w)/\fp w x k 1 news/\(n+k<=maxLen/\(n+k)* by_<=140737488355328)/\
   ∀(G:Value) (w':World),World.ownsRow w' base e 1 G (n+k) (xs++news)->World.grownBy w w' (Value.ownBlock v)->(∀b:Nat,Value.ownBlock G=some b->Value.ownBlock v=some b\/Array.size (World.heap w)<=b)->K G w':=by
 refine⟨B,l.length,m.length,l,m,h,hB,?_,⟨by unfold maxLen;omega,?_⟩,λG w' ho hg hw=>hK G w' ?_ hg hw⟩
 ·refine⟨by simp,hm,?_⟩;rcases J with⟨rfl,rfl⟩ | ⟨b,off,cap,rfl,_,hb,hc⟩
  ·exact .inl ⟨rfl,rfl⟩
  ·exact .inr ⟨b,off,cap,rfl,hc⟩
 ·have:(l.length+m.length)* by_<=1099511627776* 16:=Rl Z H;omega
 ·unfold aM;rw [Oy];exact ho
def Kp.aP {w w':World}{row:Option Nat}{S:Nat->Prop}(G:w.grownBy w' row)(hr:∀g,row=some g->S g):Kp w w' S:=
 ⟨G.os,G.tape,G.output,G.size,λg H J=>G.block g H λe=>J (hr g e.symm)⟩
def Kp.mono {w w':World}{S T:Nat->Prop}(G:∀g,S g->T g)(h:Kp w w' S):Kp w w' T:=⟨h.os,h.tape,h.output,h.size,λg H J=>h.block g H λe=>J (G g e)⟩
structure ke (B:Nat)(w:World)(b:Nat)(o:List Nat)(ts:List Value)(M:Nat->Prop):Prop where
 lt:b< w.heap.size
 le:B<=b
 mb:M b
 mr:∀g,M g->B<=g/\g< w.heap.size
 fr:∀j,w.frozen? ⟨b,j,none⟩=false
 sl:∃vo vt,w.cell? ⟨b,0,none⟩=some vo/\w.cell? ⟨b,1,none⟩=some vt/\aM 3 B w vo (o.map iv)/\aM 130 B w vt ts/\(∀g,vo.ownBlock=some g->M g/\g≠b)/\(∀g,vt.ownBlock=some g->M g/\g≠b)/\∀g,vo.ownBlock=some g->vt.ownBlock≠some g
def ke.kp {B:Nat}{w w':World}{b:Nat}{o:List Nat}{ts:List Value}{M S:Nat->Prop}(h:ke B w b o ts M)(k:Kp w w' S)(H:∀g,M g->¬S g):ke B w' b o ts M:=by
 obtain⟨Z,h2,h3,hr,h4,vo,vt,h5,h6,h7,h8,h9,h10,J⟩:=h;have hb:=k.block b Z (H b h3);refine⟨O1 Z k.size,h2,h3,λg G=>⟨(hr g G).1,O1 (hr g G).2 k.size⟩,λj=>by rw [O7 (w:=w) hb];exact h4 j,vo,vt,?_,?_,h7.kp k λg G=>H g (h9 g G).1,h8.kp k λg G=>H g (h10 g G).1,h9,h10,J⟩<;>rw [Ow (w:=w) hb]<;>assumption
def ke.ex {B:Nat}{w w':World}{b:Nat}{o:List Nat}{ts:List Value}{M:Nat->Prop}(h:ke B w b o ts M)(x:Ex w w'):ke B w' b o ts M:=h.kp (Kp.ab x λ _=>False) λ _ _ h=>h
def ke.Nc {B:Nat}{w:World}{b:Nat}{o:List Nat}{ts:List Value}{M D:Nat->Prop}(h:ke B w b o ts M)(H:∀g,g< w.heap.size->B<=g->D g){K:List Value->Prop}(hK:K ts):gC D w (ptr b) o K:=by
 obtain⟨h1,h2,h3,hr,h4,vo,vt,h5,h6,J,Z,h9,h10,α⟩:=h;exact⟨b,vo,vt,ts,rfl,H b h1 h2,h1,h5,h6,J.DO λg G=>H g (J.block g G).2 (J.block g G).1,Z.DO λg G=>H g (Z.block g G).2 (Z.block g G).1,hK⟩
def IB (o:List Nat):(o.map iv).all oneV=true:=by simp [oneV]
def ah.all {D:Nat->Prop}{w:World}:∀{l:Lv} {ts:List Value},ah D w l ts->ts.all oneV=true
 | .nil,_,h=>by cases h;rfl
 | .thr _ _ _ _ r n,_,⟨t,G,a',Z,vr,H,⟨g,e,_⟩,J,h4,h5⟩=>by rw [H,PQ,ah.all (l:=n) h5,e];rfl
 | .sum ps n,_,⟨t,G,a',Z,vp,us,H,⟨g,e,_⟩,J,h4,h5⟩=>by rw [H,PQ,ah.all (l:=n) h5,e];rfl
 | .part o q n,_,⟨v,G,H,⟨g,_,_,_,e,_⟩,J⟩=>by rw [H,PQ,ah.all (l:=n) J,e];rfl
def qd {B:Nat}{w:World}{b:Nat}{o:List Nat}{ts:List Value}{M:Nat->Prop}(h:ke B w b o ts M)(hB:B<=w.heap.size){D:Nat->Prop}{v:Value}{o2:List Nat}{α:List Value}(h2:gC D w v o2 λl=>l=α)(φ:α.all oneV=true)
  (hM:∀g,D g->¬M g) (hl:o.length+o2.length<=1099511627776/\ts.length+α.length<=1099511627776) {R:Sb}
  (hR:∀w' M',Kp w w' M->ke B w' b (o++o2) (ts++α) M'->(∀g,M' g->M g\/w.heap.size<=g)->R w'):Sc 153 #[ptr b,v] w (aw [] R):=by
 refine lI _ v w R ?_;dsimp only [go_sem];obtain⟨b2,χ,ψ,ts3,rfl,g1,g2,g3,g4,g5,g6,e3⟩:=h2;subst e3;obtain⟨h1,hle,h3,hr,h4,vo,vt,h5,h6,h7,h8,h9,h10,η⟩:=h;have β:¬M b2:=hM b2 g1;refine⟨λw'=>Kp w w' λg=>vo.ownBlock=some g\/vt.ownBlock=some g,λw1 θ=>⟨θ▸Kp.ab (Ex.drew w) _,b,0,rfl,vo,λw' k=>?_,b2,0,rfl,χ,λw' k=>?_,b,0,rfl,vt,λw' k=>?_,b2,0,rfl,ψ,λw' k=>?_,?_⟩⟩
 ·rw [Ow (w:=w) (k.block b h1 λh=>h.elim (λe=>(h9 b e).2 rfl) λe=>(h10 b e).2 rfl)];exact h5
 ·rw [Ow (w:=w) (k.block b2 g2 λh=>h.elim (λe=>β (h9 b2 e).1) λe=>β (h10 b2 e).1)];exact g3
 ·rw [Ow (w:=w) (k.block b h1 λh=>h.elim (λe=>(h9 b e).2 rfl) λe=>(h10 b e).2 rfl)];exact h6
 ·rw [Ow (w:=w) (k.block b2 g2 λh=>h.elim (λe=>β (h9 b2 e).1) λe=>β (h10 b2 e).1)];exact g4
 have x1:Ex w w1:=θ▸Ex.drew w;have k1:Kp w w1 λ _=>False:=Kp.ab x1 _
 have s1:w1.heap.size=w.heap.size:=by rw [θ];rfl
 refine aM.push (h7.kp k1 λ _ _ h=>h) (by omega) (g5.kp k1 λ _ _ h=>h) (IB o2) (by omega) (by simp;exact hl.1) λJ w2 γ ω hn2=>?_
 have k2:Kp w1 w2 λg=>vo.ownBlock=some g:=Kp.aP ω λg h=>h
 have ι:Kp w w2 λg=>vo.ownBlock=some g:=Kp.trans (Kp.ab x1 _) k2 λg _ h=>h
 refine⟨Kp.trans (Kp.ab x1 _) k2 λg _ h=> .inl h,?_⟩;have s2:=k2.size;have g6':=g6.kp ι λg G e=>hM g G (h9 g e).1
 have h8':aM 130 B w2 vt ts:=h8.kp ι λg G e=>η g e G
 refine aM.push h8' (by omega) g6' φ (by omega) hl.2 λZ w3 κ hg3 hn3=>?_
 have k3:Kp w2 w3 λg=>vt.ownBlock=some g:=Kp.aP hg3 λg h=>h
 have μ:Kp w w3 λg=>vo.ownBlock=some g\/vt.ownBlock=some g:=Kp.trans (Kp.mono (λg h=> .inl h) ι) k3 λg _ h=> .inr h
 have s3:=k3.size;have hv1:oneV J=true:=by
  rcases γ.2 with⟨rfl,_⟩ | ⟨g,cap,cur,rfl,_⟩<;>rfl
 have hv2:oneV Z=true:=by
  rcases κ.2 with⟨rfl,_⟩ | ⟨g,cap,cur,rfl,_⟩<;>rfl
 have ν:=μ.block b h1 λh=>h.elim (λe=>(h9 b e).2 rfl) λe=>(h10 b e).2 rfl
 have c30:w3.cell? ⟨b,0,none⟩=some vo:=by rw [Ow (w:=w) ν];exact h5
 have ο:w3.cell? ⟨b,1,none⟩=some vt:=by rw [Ow (w:=w) ν];exact h6
 have f3:∀j,w3.frozen? ⟨b,j,none⟩=false:=λj=>by rw [O7 (w:=w) ν];exact h4 j
 refine⟨μ,b,0,rfl,hv1,⟨⟨_,c30⟩,f3 0⟩,λw4 H=>⟨b,0,rfl,hv2,⟨⟨vt,?_⟩,?_⟩,λw5 δ=>?_⟩⟩
 ·rw [H,OD _ _ _ _ (by simp)];exact ο
 ·rw [H,OS];exact f3 1
 have ε:Kp w3 w5 λg=>g=b:=by
  rw [δ,H];exact Kp.set (Kp.set (S:=λg=>g=b) (Kp.ab (Ex.refl w3) _) rfl _) rfl _
 have ζ:∀g,J.ownBlock=some g->(vo.ownBlock=some g\/w.heap.size<=g):=λg G=>(hn2 g G).elim .inl λh=> .inr (by omega)
 have ξ:∀g,Z.ownBlock=some g->(vt.ownBlock=some g\/w2.heap.size<=g):=λg G=>hn3 g G
 have ς:∀g,J.ownBlock=some g->g≠b:=λg G=>(ζ g G).elim (λe=>(h9 g e).2) λe=>by omega
 have υ:∀g,Z.ownBlock=some g->g≠b:=λg G=>(ξ g G).elim (λe=>(h10 g e).2) λe=>by omega
 have hot:∀g,J.ownBlock=some g->Z.ownBlock≠some g:=λg G e=>by
  have hlt:=(γ.block g G).2;rcases ξ g e with e1 | e1
  ·rcases ζ g G with e2 | e2
   ·exact η g e2 e1
   ·have :=(h8.block g e1).2;omega
  ·omega
 have s5:=ε.size;refine hR w5 (λg=>M g\/(w.heap.size<=g/\g< w5.heap.size)) ?_ ⟨?_,hle,.inl h3,λg G=>?_,λj=>?_,J,Z,?_,?_,?_,?_,λg G=>⟨?_,ς g G⟩,λg G=>⟨?_,υ g G⟩,hot⟩ λg h=>h.elim .inl λh=> .inr h.1
 ·refine Kp.trans (Kp.mono (λg h=>h.elim (λe=>(h9 g e).1) λe=>(h10 g e).1) μ) ε λg _ e=>?_
  rw [e];exact h3
 ·omega
 ·rcases G with G | G
  ·have :=hr g G;omega
  ·omega
 ·rw [δ,OS,H,OS];exact f3 j
 ·rw [δ,OD _ _ _ _ (by simp),H];exact OQ _ _ _ c30
 ·rw [δ];refine OQ _ _ _ (u:=vt) ?_;rw [H,OD _ _ _ _ (by simp)];exact ο
 ·rw [Pm];refine(γ.kp k3 λg G e=>?_).kp ε ς;rcases ζ g G with e2 | e2
  ·exact η g e2 e
  ·have :=(h8.block g e).2;omega
 ·exact κ.kp ε υ
 ·have :=(γ.block g G).2;exact(ζ g G).elim (λe=> .inl (h9 g e).1) λe=> .inr ⟨e,by omega⟩
 ·have :=(κ.block g G).2;exact(ξ g G).elim (λe=> .inl (h10 g e).1) λe=> .inr ⟨by omega,by omega⟩
def gM {c:UInt8}(h:lt c=true):(c - 97:UInt8).toNat=c.toNat - 97:=by
 have :=a7 h;rw [UInt8.toNat_sub_of_le]
 ·rfl
 ·exact OZ.2 (by simpa using this.1)
structure Mk (w:World)(m n:Nat):Prop where
 lt:m< w.heap.size
 c:w.cell? ⟨m,0,none⟩=some (iv n)
 f:w.frozen? ⟨m,0,none⟩=false
def Mk.kp {w w':World}{m n:Nat}{S:Nat->Prop}(h:Mk w m n)(k:Kp w w' S)(G:¬S m):Mk w' m n:=by
 have hb:=k.block m h.lt G;exact⟨O1 h.lt k.size,by rw [Ow (w:=w) hb];exact h.c,by rw [O7 (w:=w) hb];exact h.f⟩
def Mk.ex {w w':World}{m n:Nat}(h:Mk w m n)(x:Ex w w'):Mk w' m n:=h.kp (Kp.ab x λ _=>False) λh=>h
structure Km (m:Nat)(w w':World):Prop where
 kp:Kr m w w'
 ce:∀j,j≠0->w'.cell? ⟨m,j,none⟩=w.cell? ⟨m,j,none⟩
 fz:∀j,w'.frozen? ⟨m,j,none⟩=w.frozen? ⟨m,j,none⟩
def Km.size {m:Nat}{w w':World}(h:Km m w w'):w.heap.size<=w'.heap.size:=h.kp.size
def Km.trans {m:Nat}{a b c:World}(h:Km m a b)(k:Km m b c):Km m a c:=⟨Kr.trans h.kp k.kp,λj G=>(k.ce j G).trans (h.ce j G),λj=>(k.fz j).trans (h.fz j)⟩
def Km.out {m:Nat}{w0 w w':World}{S:Nat->Prop}(h:Km m w0 w)(k:Kp w w' S)(H:∀g,g< w0.heap.size->¬S g)(hm:m< w0.heap.size):Km m w0 w':=by
 have e:=k.block m (O1 hm h.kp.size) (H m hm);exact⟨Kp.trans h.kp k λg J G=>absurd G (H g J),λj Z=>by rw [Ow (w:=w) e];exact h.ce j Z,λj=>by rw [O7 (w:=w) e];exact h.fz j⟩
def Km.refl (m:Nat)(w:World):Km m w w:=⟨Kr.refl m w,λ _ _=>rfl,λ _=>rfl⟩
def Km.ex {m:Nat}{w w':World}(h:Ex w w')(hm:m< w.heap.size):Km m w w':=(Km.refl m w).out (Kp.ab h λ _=>False) (λ _ _ h=>h) hm
def Km.set (m:Nat)(w:World)(v:Value):Km m w (w.setCell ⟨m,0,none⟩ v):=⟨Kr.set w 0 v,λj G=>OD _ _ _ _ (λe=>by injection e with H J;omega),λj=>OS _ _ _ _⟩
def uP {w:World}{m n:Nat}(h:Mk w m n)(J:n<=1099511627776){R:Int->Sb}(hR:∀w',Km m w w'->Mk w' m (n+1)->R ((n+101:Nat):Int) w'):Sc 172 #[ptr m] w (aw [.i] R):=by
 refine lN _ w R ?_;dsimp only [go_sem];refine⟨m,0,rfl,n,h.c,by omega,m,0,rfl,⟨⟨_,h.c⟩,h.f⟩,λw1 G=>⟨m,0,rfl,(n:Int)+1,?_,by omega,?_⟩⟩
 ·rw [G];exact OQ _ _ _ h.c
 ·have e:((n:Int)+1+100)=((n+101:Nat):Int):=by omega
  have H:((n:Int)+1)=((n+1:Nat):Int):=by omega
  rw [e];rw [H]at G;refine hR w1 (G▸Km.set m w _) ⟨?_,?_,?_⟩
  ·rw [G,Pj];exact h.lt
  ·rw [G];exact OQ _ _ _ h.c
  ·rw [G,OS];exact h.f
def Kh (cs:List Value)(e:UInt8->Nat):Prop:=cs.length=26/\∀c,lt c=true->cs[c.toNat - 97]?=some (iv (e c))
structure lJ (w:World)(b:Nat)(e:UInt8->Nat):Prop where
 hb:b< w.heap.size
 f:∀j,w.frozen? ⟨b,j,none⟩=false
 c:∃cs,Kh cs e/\∀j,j< 26->w.cell? ⟨b,0+j,none⟩=cs[j]?
def lJ.kp {w w':World}{b:Nat}{e:UInt8->Nat}{S:Nat->Prop}(h:lJ w b e)(k:Kp w w' S)(G:¬S b):lJ w' b e:=by
 have hb:=k.block b h.hb G;obtain⟨H,J,cs,Z,h4⟩:=h;exact⟨O1 H k.size,λj=>by rw [O7 (w:=w) hb];exact J j,cs,Z,λj hj=>by rw [Ow (w:=w) hb];exact h4 j hj⟩
def lJ.get {w:World}{b:Nat}{e:UInt8->Nat}(h:lJ w b e){c:UInt8}(G:lt c=true):w.cell? ⟨b,0+Int.toNat ((c - 97:UInt8).toNat:Int)* 1,none⟩=some (iv (e c)):=by
 obtain⟨J,Z,cs,H,h4⟩:=h;have :=a7 G;rw [gM G,O8,OG,h4 _ (by omega)];exact H.2 c G
def lJ.set {w w':World}{b:Nat}{e:UInt8->Nat}(h:lJ w b e){c:UInt8}(J:lt c=true){n:Nat}(hw:w'=w.setCell ⟨b,0+Int.toNat ((c - 97:UInt8).toNat:Int)* 1,none⟩ (iv n)):lJ w' b (aI e c n):=by
 have Z:=h.get J;obtain⟨h1,h2,cs,H,h4⟩:=h;have hl:=a7 J;rw [gM J,O8,OG]at hw Z;refine⟨by rw [hw,Pj];exact h1,λj=>by rw [hw,OS];exact h2 j,cs.set (c.toNat - 97) (iv n),⟨by rw [PW];exact H.1,λd hd=>?_⟩,λj hj=>?_⟩
 ·have α:=a7 hd;rw [List.getElem?_set];by_cases G:d=c
  ·subst G;rw [O' rfl,O' (by rw [H.1];omega)];simp [aI]
  ·have e2:¬c.toNat - 97=d.toNat - 97:=λe2=>G (OU.1 (by omega))
   rw [OP e2,H.2 d hd];simp [aI,G]
 ·rw [List.getElem?_set];by_cases G:c.toNat - 97=j
  ·subst G;rw [O' rfl,O' (by rw [H.1];omega),hw];exact OQ _ _ _ Z
  ·rw [OP G,hw,OD _ _ _ _ (by simp)];exact h4 j hj
structure kP (w:World)(g:Nat)(k:UInt8)(a b:Nat)(vr vp:Value):Prop where
 lt:g< w.heap.size
 c0:w.cell? ⟨g,0,none⟩=some (.int .u8 k.toNat)
 c1:w.cell? ⟨g,1,none⟩=some (iv a)
 c2:w.cell? ⟨g,2,none⟩=some (iv b)
 c3:w.cell? ⟨g,3,none⟩=some vr
 c4:w.cell? ⟨g,4,none⟩=some vp
 f:∀j,w.frozen? ⟨g,j,none⟩=false
section
variable {w w':World} {g a b x:Nat} {k:UInt8} {vr vp v:Value} {S:Nat->Prop}
def kP.kp (h:kP w g k a b vr vp)(kp:Kp w w' S)(G:¬S g):kP w' g k a b vr vp:=by
 have hb:=kp.block g h.lt G;refine⟨O1 h.lt kp.size,?_,?_,?_,?_,?_,λj=>?_⟩
 ·rw [Ow (w:=w) hb];exact h.c0
 ·rw [Ow (w:=w) hb];exact h.c1
 ·rw [Ow (w:=w) hb];exact h.c2
 ·rw [Ow (w:=w) hb];exact h.c3
 ·rw [Ow (w:=w) hb];exact h.c4
 ·rw [O7 (w:=w) hb];exact h.f j
def kP.AM (h:kP w g k a b vr vp)(hw:w'=w.setCell ⟨g,1,none⟩ (iv x)):kP w' g k x b vr vp:=by
 subst hw;exact⟨by rw [Pj];exact h.lt,by rw [OD _ _ _ _ (by simp)];exact h.c0,OQ _ _ _ h.c1,by rw [OD _ _ _ _ (by simp)];exact h.c2,
  by rw [OD _ _ _ _ (by simp)];exact h.c3,by rw [OD _ _ _ _ (by simp)];exact h.c4,λj=>by rw [OS];exact h.f j⟩
def kP.vB (h:kP w g k a b vr vp)(hw:w'=w.setCell ⟨g,2,none⟩ (iv x)):kP w' g k a x vr vp:=by
 subst hw;exact⟨by rw [Pj];exact h.lt,by rw [OD _ _ _ _ (by simp)];exact h.c0,by rw [OD _ _ _ _ (by simp)];exact h.c1,OQ _ _ _ h.c2,
  by rw [OD _ _ _ _ (by simp)];exact h.c3,by rw [OD _ _ _ _ (by simp)];exact h.c4,λj=>by rw [OS];exact h.f j⟩
def kP.Fk (h:kP w g k a b vr vp)(hw:w'=w.setCell ⟨g,3,none⟩ v):kP w' g k a b v vp:=by
 subst hw;exact⟨by rw [Pj];exact h.lt,by rw [OD _ _ _ _ (by simp)];exact h.c0,by rw [OD _ _ _ _ (by simp)];exact h.c1,by rw [OD _ _ _ _ (by simp)];exact h.c2,
  OQ _ _ _ h.c3,by rw [OD _ _ _ _ (by simp)];exact h.c4,λj=>by rw [OS];exact h.f j⟩
def kP.LM (h:kP w g k a b vr vp)(hw:w'=w.setCell ⟨g,4,none⟩ v):kP w' g k a b vr v:=by
 subst hw;exact⟨by rw [Pj];exact h.lt,by rw [OD _ _ _ _ (by simp)];exact h.c0,by rw [OD _ _ _ _ (by simp)];exact h.c1,by rw [OD _ _ _ _ (by simp)];exact h.c2,
  by rw [OD _ _ _ _ (by simp)];exact h.c3,OQ _ _ _ h.c4,λj=>by rw [OS];exact h.f j⟩
def kP.new {e:Nat}(G:g=w.heap.size)(hw:w'=w.alloc (.cells #[.int .u8 k.toNat,iv a,iv b,vr,vp] e)):kP w' g k a b vr vp:=by
 subst G hw;refine⟨by rw [size_alloc];omega,aa rfl,aa rfl,aa rfl,aa rfl,aa rfl,λj=>?_⟩;unfold World.frozen? World.alloc;simp
def kP.wF (h:kP w g k a b vr vp){D:Nat->Prop}(G:D g):I0 D w (ptr g) k a b vr vp:=⟨g,rfl,G,h.lt,h.c0,h.c1,h.c2,h.c3,h.c4⟩
end
structure RS (w0 w:World)(m n:Nat)(e:UInt8->Nat)(b5 b10:Nat)(k:UInt8)(a b:Nat):Prop where
 kp:Km m w0 w
 mc:Mk w m n
 hm:m< w0.heap.size
 env:lJ w b5 e
 h5:w0.heap.size<=b5
 h10:w0.heap.size<=b10
 ne:b5≠b10
 th:kP w b10 k a b (.pointer none) (.slice none 0 0)
section
variable {w0 w w':World} {m n b5 b10 a b x:Nat} {e:UInt8->Nat} {k c:UInt8}
def RS.go (h:RS w0 w m n e b5 b10 k a b){n':Nat}(kr:Km m w w')(mk:Mk w' m n'):RS w0 w' m n' e b5 b10 k a b:=by
 have G:=h.hm;have H:=h.h5;have J:=h.h10;exact⟨Km.trans h.kp kr,mk,h.hm,h.env.kp kr.kp (by omega),h.h5,h.h10,h.ne,h.th.kp kr.kp (by omega)⟩
def RS.ex (h:RS w0 w m n e b5 b10 k a b)(G:Ex w w'):RS w0 w' m n e b5 b10 k a b:=h.go (Km.ex G h.mc.lt) (h.mc.ex G)
def RS.own (h:RS w0 w m n e b5 b10 k a b){S:Nat->Prop}(kp:Kp w w' S)(H:∀g,S g->w0.heap.size<=g/\g≠b5/\g≠b10):RS w0 w' m n e b5 b10 k a b:=by
 have J:=h.hm;refine⟨h.kp.out kp (λg Z G=>(by have :=(H g G).1;omega)) J,h.mc.kp kp λG=>(by have :=(H m G).1;omega),h.hm,h.env.kp kp λG=>(H _ G).2.1 rfl,h.h5,h.h10,h.ne,h.th.kp kp λG=>(H _ G).2.2 rfl⟩
def RS.AM (h:RS w0 w m n e b5 b10 k a b)(hw:w'=w.setCell ⟨b10,1,none⟩ (iv x)):RS w0 w' m n e b5 b10 k x b:=by
 have G:=h.hm;have H:=h.h10;have kp:Kr b10 w w':=hw▸Kr.set w 1 _;exact⟨h.kp.out kp (λg J e=>(by omega)) G,h.mc.kp kp (by omega),h.hm,h.env.kp kp h.ne,h.h5,h.h10,h.ne,h.th.AM hw⟩
def RS.vB (h:RS w0 w m n e b5 b10 k a b)(hw:w'=w.setCell ⟨b10,2,none⟩ (iv x)):RS w0 w' m n e b5 b10 k a x:=by
 have G:=h.hm;have H:=h.h10;have kp:Kr b10 w w':=hw▸Kr.set w 2 _;exact⟨h.kp.out kp (λg J e=>(by omega)) G,h.mc.kp kp (by omega),h.hm,h.env.kp kp h.ne,h.h5,h.h10,h.ne,h.th.vB hw⟩
def RS.NR (h:RS w0 w m n e b5 b10 k a b)(G:lt c=true)(hw:w'=w.setCell ⟨b5,0+Int.toNat ((c - 97:UInt8).toNat:Int)* 1,none⟩ (iv x)):RS w0 w' m n (aI e c x) b5 b10 k a b:=by
 have H:=h.hm;have J:=h.h5;have kp:Kr b5 w w':=hw▸Kr.set w _ _;exact⟨h.kp.out kp (λg Z e=>(by omega)) H,h.mc.kp kp (by omega),h.hm,h.env.set G hw,h.h5,h.h10,h.ne,h.th.kp kp (Ry h.ne)⟩
end
def FT (t:P):Prop:=∀{D:Nat->Prop} {v:Value} {w:World} {m n:Nat} {cs:List Value} {e:UInt8->Nat} {R:Value->Sb},aN D w t v->(∀g,D g->¬g=m)->Mk w m n->Kh cs e->Lt t->n+t.size<=1099511627776->
 (∀G w',Km m w w'->Mk w' m (num t e n).2->az (EX w) w' (flat (num t e n).1) G->R G w')->Sc 104 #[ptr m,v,.agg cs.toArray] w (aw [.v] R)
def T.bnd:P->Bool
 | .rcv .. =>true | .res .. =>true | _=>false
def AS (t:P):(decide (t.kind=63)||decide (t.kind=35))=t.bnd:=by cases t<;>rfl
def MT {t:P}(h:Lt t)(G:t.ca≠0):lt t.ca=true:=by
 cases t<;>first | exact h.1 | exact absurd rfl G
def Nf {t:P}(h:Lt t)(G:t.cb≠0):lt t.cb=true:=by
 cases t<;>first | exact h.2.1 | exact h.1 | exact absurd rfl G
def Lp {t:P}(h:Lt t)(hb:t.bnd=true):lt t.cb=true:=by
 cases t<;>first | exact h.2.1 | exact h.1 | cases hb
def bO:∀(t:P) (e:UInt8->Nat) (n:Nat),(num t e n).1.size=t.size/\(num t e n).2<=n+t.size
 | .nil,_,n=>⟨rfl,by simp [num,T.size]⟩
 | .snd _ _ p,e,n=>by have :=bO p e n;exact⟨by simp [num,T.size,this.1],by simp only [num,T.size];omega⟩
 | .mat _ _ p,e,n=>by have :=bO p e n;exact⟨by simp [num,T.size,this.1],by simp only [num,T.size];omega⟩
 | .tau p,e,n=>by have :=bO p e n;exact⟨by simp [num,T.size,this.1],by simp only [num,T.size];omega⟩
 | .rep p,e,n=>by have :=bO p e n;exact⟨by simp [num,T.size,this.1],by simp only [num,T.size];omega⟩
 | .rcv _ x p,e,n=>by have :=bO p (aI e x (n+101)) (n+1);exact⟨by simp [num,T.size,this.1],by simp only [num,T.size];omega⟩
 | .res x p,e,n=>by have :=bO p (aI e x (n+101)) (n+1);exact⟨by simp [num,T.size,this.1],by simp only [num,T.size];omega⟩
 | .sum p q,e,n=>by have :=bO p e n;have h:=bO q e (num p e n).2;exact⟨by simp [num,T.size,this.1,h.1],by simp only [num,T.size];omega⟩
 | .par p q,e,n=>by have :=bO p e n;have h:=bO q e (num p e n).2;exact⟨by simp [num,T.size,this.1,h.1],by simp only [num,T.size];omega⟩
def jL:∀u:U,(flat u).1.length<=u.size/\(flat u).2.len<=u.size
 | .nil=>by simp [flat,Lv.len]
 | .snd .. =>by simp [flat,Lv.len,T.size]
 | .rcv .. =>by simp [flat,Lv.len,T.size]
 | .tau .. =>by simp [flat,Lv.len,T.size]
 | .sum .. =>by simp [flat,Lv.len,T.size]
 | .mat .. =>by simp [flat,Lv.len,T.size]
 | .rep .. =>by simp [flat,Lv.len,T.size]
 | .res x p=>by have :=jL p;simp only [flat,T.size,Ov];omega
 | .par p q=>by have :=jL p;have :=jL q;simp only [flat,T.size,Oy,Lv.fe];omega
def ke.new {w w':World}{b B e:Nat}(hB:B<=w.heap.size)(hb:b=w.heap.size)(hw:w'=w.alloc (.cells #[.slice none 0 0,.slice none 0 0] e)):ke B w' b [] [] (λg=>g=b):=by
 subst hb hw;refine⟨by rw [size_alloc];omega,hB,rfl,λg G=>⟨by omega,by rw [size_alloc];omega⟩,λj=>?_,_,_,aa rfl,aa rfl,aM.nil _ _ _,aM.nil _ _ _,λg h=>(by cases h),λg h=>(by cases h),λg h=>(by cases h)⟩;unfold World.frozen? World.alloc;simp
def DS {D Q:Nat->Prop}{w1:World}{t p:P}{v:Value}{b5:Nat}{e:UInt8->Nat}(h:aN D w1 t v)(hD:∀g,D g->¬Q g)(hE:lJ w1 b5 e)(h5:¬Q b5){i:Int}(h0:0<=i)(hp:t.parts[i.toNat]?=some p){K:Value->List Value->Prop}(hK:∀x cs,aN D w1 p x->Kh cs e->K x cs):
  ∃(b o:Nat),v=Value.pointer (some ⟨b,o,none⟩)/\∃α:Value,(∀w',Kp w1 w' Q->World.cell? w' ⟨b,(o+3),none⟩=some α)/\∃(β γ G J:Nat),α=Value.slice (some ⟨β,γ,none⟩) G J/\0<=i/\i< G/\
   ∃δ:Value,(∀w',Kp w1 w' Q->World.cell? w' ⟨β,(γ+Int.toNat i* 1),none⟩=some δ)/\∃H:List Value,List.length H=26/\(∀w',Kp w1 w' Q->∀j,j< 26->World.cell? w' ⟨b5,0+j,none⟩=H[j]?)/\K δ H:=by
 obtain⟨b,vs,l,rfl,h1,h2,h3,h4,ζ,h6,h7,h8⟩:=h.inv;obtain⟨hi,η⟩:=Px.1 hp;have Z:i.toNat< l.length:=by rw [h8.1];exact hi
 have hx:=h8.2 i.toNat l[i.toNat] p (Ox Z) hp;refine⟨b,0,rfl,vs,λw' k=>?_,?_⟩
 ·rw [Ow (w:=w1) (k.block b h2 (hD b h1))];exact h6
 rcases h7 with⟨_,rfl⟩ | ⟨b',off,cap,rfl,i1,i2,i3⟩
 ·simp at Z
 obtain⟨cs,hc,ε⟩:=hE.c;refine⟨b',off,l.length,cap,rfl,h0,by omega,l[i.toNat],λw' k=>?_,cs,hc.1,λw' k j hj=>?_,hK _ _ hx hc⟩
 ·rw [Ow (w:=w1) (k.block b' i2 (hD b' i1)),O8];exact i3 _ _ (Ox Z)
 ·rw [Ow (w:=w1) (k.block b5 hE.hb h5)];exact ε j hj
def az.ths {D:Nat->Prop}{w:World}{L:List Nat×Lv}{v:Value}(h:az D w L v):∃ts,gC D w v L.1 (λl=>l=ts)/\ah D w L.2 ts:=by
 obtain⟨b,vo,vt,ts,G,H,J,h4,h5,Z,h7,h8⟩:=h;exact⟨ts,⟨b,vo,vt,ts,G,H,J,h4,h5,Z,h7,rfl⟩,h8⟩
def gC.one {D:Nat->Prop}{w:World}{v:Value}{o:List Nat}{K:List Value->Prop}(h:gC D w v o K):oneV v=true:=by
 obtain⟨b,_,_,_,rfl,_⟩:=h;rfl
def ke.NZ {B b g n e:Nat}{w w1 Z:World}(h:ke B w b [] [] λg=>g=b)(hg:g=w.heap.size)(J:w1=w.alloc (.cells #[iv n] 3))(H:Z=w1.setCell ⟨b,0,none⟩ (.slice (some ⟨g,0,none⟩) 1 1)):ke B Z b [n] [] λx=>x=b\/x=g:=by
 have G:Ex w w1:=J▸Ex.alloc w _;have h':=h.ex G;have α:=h.lt;have hle:=h.le;have ho:aM 3 B w1 (.slice (some ⟨g,0,none⟩) 1 1) [iv n]:=aM.one (by omega) hg J;have s1:w1.heap.size=w.heap.size+1:=by rw [J,size_alloc]
 obtain⟨h1,h2,h3,hr,h4,vo,vt,h5,h6,h7,h8,h9,h10,β⟩:=h';have k:Kr b w1 Z:=H▸Kr.set w1 0 _;refine⟨by rw [H,Pj];exact h1,h2,.inl rfl,λx G=>?_,λj=>by rw [H,OS];exact h4 j,_,vt,?_,?_,ho.kp k λx G=>?_,?_,λx G=>?_,λx G=>⟨.inl (h10 x G).1,(h10 x G).2⟩,λx G e=>?_⟩
 ·have :=k.size;rcases G with rfl | rfl<;>omega
 ·rw [H];exact OQ _ _ _ h5
 ·rw [H,OD _ _ _ _ (by simp)];exact h6
 ·have e:g=x:=Pr G;omega
 ·exact h8.kp k λx G=>(h10 x G).2
 ·have e:g=x:=Pr G;exact⟨.inr e.symm,by omega⟩
 ·have :=(h10 x e)
  exact absurd this.1 this.2
def ke.NL {B b g:Nat}{w w1 Z:World}{x:Value}(h:ke B w b [] [] λg=>g=b)(hg:g=w.heap.size)(J:w1=w.alloc (.cells #[x] 130))(H:Z=w1.setCell ⟨b,1,none⟩ (.slice (some ⟨g,0,none⟩) 1 1)):ke B Z b [] [x] λx=>x=b\/x=g:=by
 have G:Ex w w1:=J▸Ex.alloc w _;have h':=h.ex G;have α:=h.lt;have hle:=h.le;have ho:aM 130 B w1 (.slice (some ⟨g,0,none⟩) 1 1) [x]:=aM.one (by omega) hg J;have s1:w1.heap.size=w.heap.size+1:=by rw [J,size_alloc]
 obtain⟨h1,h2,h3,hr,h4,vo,vt,h5,h6,h7,h8,h9,h10,β⟩:=h';have k:Kr b w1 Z:=H▸Kr.set w1 1 _;refine⟨by rw [H,Pj];exact h1,h2,.inl rfl,λx G=>?_,λj=>by rw [H,OS];exact h4 j,vo,_,?_,?_,?_,ho.kp k λx G=>?_,λx G=>⟨.inl (h9 x G).1,(h9 x G).2⟩,λx G=>?_,λx e G=>?_⟩
 ·have :=k.size;rcases G with rfl | rfl<;>omega
 ·rw [H,OD _ _ _ _ (by simp)];exact h5
 ·rw [H];exact OQ _ _ _ h6
 ·exact h7.kp k λx G=>(h9 x G).2
 ·have e:g=x:=Pr G;omega
 ·have e:g=x:=Pr G;exact⟨.inr e.symm,by omega⟩
 ·have :=(h9 x e)
  exact absurd this.1 this.2
def T.eB (t:P)(e:UInt8->Nat)(n:Nat):UInt8->Nat:=if t.bnd=true then aI e t.cb (n+101)else e
def T.nB (t:P)(n:Nat):Nat:=if t.bnd=true then n+1 else n
def T.aA (t:P)(e:UInt8->Nat):Nat:=if t.ca=0 then 0 else e t.ca
def T.bA (t:P)(e:UInt8->Nat)(n:Nat):Nat:=if t.cb=0 then 0 else t.eB e n t.cb
structure RW (D:Nat->Prop)(w w':World)(m n:Nat)(e:UInt8->Nat)(b5 b10 b47:Nat)(t:P)(v:Value):Prop where
 rs:RS w w' m (t.nB n) (t.eB e n) b5 b10 t.kind (t.aA e) (t.bA e n)
 bd:ke w.heap.size w' b47 [] [] λg=>g=b47
 n5:b47≠b5
 n10:b47≠b10
 tm:aN D w' t v
 d:∀g,D g->g< w.heap.size/\¬g=m
def RJ (w w':World)(m n:Nat)(e:UInt8->Nat)(b47 b10:Nat)(t:P):Prop:=
 Km m w w'/\Mk w' m (num t e n).2/\ke w.heap.size w' b47 [] [] (λg=>g=b47)/\(flat (num t e n).1).1=[]/\ah (λg=>(w.heap.size<=g/\g≠b47)/\g< w'.heap.size) w' (flat (num t e n).1).2 [ptr b10]
def Kj {t:P}{w G:World}{m n:Nat}{e:UInt8->Nat}{b47 b10:Nat}{R:Value->Sb}(hm:m< w.heap.size)(hJ:RJ w G m n e b47 b10 t)(hR:∀v' w',Km m w w'->Mk w' m (num t e n).2->az (EX w) w' (flat (num t e n).1) v'->R v' w'):
  ∀(J:Nat) (H:World),J=Array.size (World.heap G)->H=World.alloc G (Obj.cells #[(Value.pointer (some ⟨b10,0,none⟩))] 130)->oneV (Value.slice (some ⟨J,0,none⟩) 1 1)=true/\
   ((∃α:Value,World.cell? H ⟨b47,1,none⟩=some α)/\World.frozen? H ⟨b47,1,none⟩=false)/\∀Z:World,Z=World.setCell H ⟨b47,1,none⟩ (Value.slice (some ⟨J,0,none⟩) 1 1)->R ((Value.pointer (some ⟨b47,0,none⟩))) Z:=by
 obtain⟨k,mk,bd,ho,δ⟩:=hJ;intro g w1 hg β;have hx:Ex G w1:=β▸Ex.alloc G _;have ε:=bd.ex hx;have η:=bd.lt;have hle:=bd.le;refine⟨rfl,?_,λw2 γ=>?_⟩
 ·obtain⟨h1,h2,h3,hr,h4,vo,vt,h5,h6,_⟩:=ε;exact⟨⟨_,h6⟩,h4 1⟩
 ·have ζ:=bd.NL hg β γ;have kk:Kr b47 w1 w2:=γ▸Kr.set w1 1 _;have k2:Kp G w2 λg=>g=b47:=Kp.trans (Kp.ab hx _) kk λg _ h=>h
  refine hR _ w2 (k.out k2 (λg hg e=>by omega) hm) (mk.kp k2 (by omega)) ?_;unfold az;rw [ho];exact ζ.Nc (λg _ h=>h) (ah.sub (λg _ h=>h.1.1) (ah.kp k2 (λg h e=>h.1.2 e) δ))
section
variable {D:Nat->Prop} {w w':World} {m n b5 b10 b47:Nat} {e:UInt8->Nat} {t p:P} {v:Value}
def RQ (w:World)(m b5 b10:Nat):Nat->Prop:=λg=>g=m\/(w.heap.size<=g/\g≠b5/\g≠b10)
def RW.fine (h:RW D w w' m n e b5 b10 b47 t v):(∀g,D g->¬RQ w m b5 b10 g)/\¬RQ w m b5 b10 b5/\RQ w m b5 b10 b47:=by
 have J:=h.rs.hm;have Z:=h.rs.h5;have G:=h.bd.le;refine⟨λg H e=>?_,λe=>?_,.inr ⟨G,h.n5,h.n10⟩⟩
 ·have :=h.d g H;rcases e with e | e<;>omega
 ·rcases e with e | e
  ·omega
  ·exact e.2.1 rfl
structure RP (D:Nat->Prop)(w w':World)(m n:Nat)(b5 b10 b47:Nat)(e:UInt8->Nat)(t:P)(v:Value)(o:List Nat)(l:Lv)(ts:List Value)(M:Nat->Prop):Prop where
 kp:Km m w w'
 mc:Mk w' m n
 hm:m< w.heap.size
 env:lJ w' b5 e
 h5:w.heap.size<=b5
 h10:b10< w'.heap.size
 tm:aN D w' t v
 d:∀g,D g->g< w.heap.size/\¬g=m
 bd:ke w.heap.size w' b47 o ts M
 mq:∀g,M g->RQ w m b5 b10 g
 th:ah (λg=>(w.heap.size<=g/\¬M g)/\g< w'.heap.size) w' l ts
def RP.step {w1:World}{o:List Nat}{l:Lv}{ts:List Value}{M:Nat->Prop}(h:RP D w w1 m n b5 b10 b47 e t v o l ts M)(hp:FT p){i:Int}(h0:0<=i)(hi:t.parts[i.toNat]?=some p)(ω:Lt p)
  (hn:n+p.size<=1099511627776) (hol:o.length+p.size<=1099511627776) (hll:l.len+p.size<=1099511627776) {R:Sb}
  (hR:∀w2 ts' M',RP D w w2 m (num p e n).2 b5 b10 b47 e t v (o++(flat (num p e n).1).1) (l.app (flat (num p e n).1).2) ts' M'->R w2):
  ∃H:Sb,∀β:World,β=World.drew w1->H β/\∃(η θ:Nat),v=Value.pointer (some ⟨η,θ,none⟩)/\∃ι:Value,(∀w',H w'->World.cell? w' ⟨η,(θ+3),none⟩=some ι)/\
   ∃(κ μ J γ:Nat),ι=Value.slice (some ⟨κ,μ,none⟩) J γ/\0<=i/\i< J/\∃ν:Value,(∀w',H w'->World.cell? w' ⟨κ,(μ+Int.toNat i* 1),none⟩=some ν)/\
   ∃Z:List Value,List.length Z=26/\(∀w',H w'->∀j,j< 26->World.cell? w' ⟨b5,0+j,none⟩=Z[j]?)/\Sc 104 #[ptr m,ν,(Value.agg (List.toArray Z))] β (aw [.v] fun(v64:Value) (ξ:World)=>
    H ξ/\Sc 153 #[(Value.pointer (some ⟨b47,0,none⟩)),v64] ξ (aw [] fun(ο:World)=>H ο/\R ο)):=by
 have h5:=h.h5;have hm:=h.hm;have hD:∀g,D g->¬RQ w m b5 b10 g:=λg G e=>by
  have :=h.d g G;rcases e with e | e<;>omega
 have ς:¬RQ w m b5 b10 b5:=λe=>by
  rcases e with e | e
  ·omega
  ·exact e.2.1 rfl
 refine⟨λw'=>Kp (w1.drew) w' (RQ w m b5 b10),λw2 α=>⟨α▸Kp.ab (Ex.refl _) _,?_⟩⟩;have x2:Ex w1 w2:=α▸Ex.drew w1;have hs12:w2.heap.size=w1.heap.size:=by rw [α];rfl
 rw [<-α];have kx:Kr m w1 w2:=Kr.ex x2;have υ:¬M m:=λhM=>by
  have :=(h.bd.mr m hM).1;omega
 refine DS (aN.kp (Kp.ab x2 λ _=>False) (λ _ _ h=>h) h.tm) hD (h.env.kp (Kp.ab x2 λ _=>False) λh=>h) ς h0 hi λx cs hx hcs=>?_
 refine hp hx (λg G=>(h.d g G).2) (h.mc.ex x2) hcs ω hn λv3 w3 k3 m3 l3=>?_
 have s3:=k3.size;have s1:=h.bd.lt;have s0:=h.kp.size;have δ:Kr m w1 w3:=Kr.trans kx k3.kp;have φ:Km m w1 w3:=Km.trans (Km.ex x2 h.mc.lt) k3;refine⟨Kp.mono (λg G=> .inl G) k3.kp,?_⟩;obtain⟨ts2,hl3,ε⟩:=az.ths (l3.sub (E:=λg=>w2.heap.size<=g/\g< w3.heap.size) λg G hd=>⟨hd,G⟩);have hfs:=jL (num p e n).1;rw [(bO p e n).1]at hfs;have bd3:ke w.heap.size w3 b47 o ts M:=h.bd.kp δ λg G e=>υ (e▸G)
 refine qd bd3 (by omega) hl3 ε.all (λg G hM=>by have :=(h.bd.mr g hM).2;omega) ⟨by omega,by rw [ε.len,h.th.len];omega⟩ λw4 M' k4 bd4 ζ=>?_
 have χ:Kp w3 w4 (RQ w m b5 b10):=Kp.mono h.mq k4;refine⟨Kp.trans (Kp.mono (λg G=> .inl G) k3.kp) χ λg _ h=>h,?_⟩;have s4:=k4.size;have ψ:Kp w1 w4 (RQ w m b5 b10):=Kp.trans (Kp.mono (λg G=> .inl G) δ) χ λg _ h=>h
 have hb5:=h.env.hb;refine hR w4 (ts++ts2) M' ⟨?_,m3.kp k4 υ,hm,h.env.kp ψ ς,h5,by have :=h.h10;omega,aN.kp ψ hD h.tm,h.d,bd4,λg G=>?_,?_⟩
 ·exact(Km.trans h.kp φ).out k4 (λg G hM=>by have :=(h.bd.mr g hM).1;omega) hm
 ·rcases ζ g G with h1 | h1
  ·exact h.mq g h1
  ·exact .inr ⟨by omega,by omega,by have :=h.h10;omega⟩
 ·refine ah.app ?_ ?_
  ·refine ah.sub (λg _ G=>?_) (ah.kp k4 (λg G e=>G.1.2 e) (ah.kp δ (λg G e=>?_) h.th))
   ·refine⟨⟨G.1.1,λhM=>?_⟩,by omega⟩;rcases ζ g hM with h1 | h1
    ·exact G.1.2 h1
    ·omega
   ·have :=G.1.1;omega
  ·refine ah.sub (λg _ G=>?_) (ah.kp k4 (λg G hM=>?_) ε)
   ·refine⟨⟨by omega,λhM=>?_⟩,by omega⟩;rcases ζ g hM with h1 | h1
    ·have :=(h.bd.mr g h1).2;omega
    ·omega
   ·have :=(h.bd.mr g hM).2;omega
def RP.done {w':World}{o:List Nat}{l:Lv}{ts:List Value}{M:Nat->Prop}(h:RP D w w' m n b5 b10 b47 e t v o l ts M):az (EX w) w' (o,l) (ptr b47):=
 h.bd.Nc (λg _ h=>h) (ah.sub (λg _ G=>G.1.1) h.th)
end
def IL {t:P}(ih:∀p∈t.parts,FT p):FT t:=by
 intro D v w m n cs e R ht hD hmk κ J hn hR;obtain⟨D,ht,hD⟩:∃D',aN D' w t v/\∀g,D' g->g< w.heap.size/\¬g=m:=⟨_,ht.bound,λg G=>⟨G.2,hD g G.1⟩⟩
 refine qm _ v _ w R ?_;dsimp only [go_sem];dsimp only [go_sem,UInt8.reduceOfNat];refine⟨cs,rfl,λb5 w6 hb5 ε=>?_⟩;have x6:Ex w w6:=ε▸Ex.alloc w _;have s6:w6.heap.size=w.heap.size+1:=by rw [ε,size_alloc]
 have t6:aN D w6 t v:=aN.kp (Kp.ab x6 λ _=>False) (λ _ _ h=>h) ht;have c0:∀{w':World},aN D w' t v->∃b,v=ptr b/\w'.cell? ⟨b,0+0,none⟩=some (.int .u8 t.kind.toNat)/\w'.cell? ⟨b,0+1,none⟩=some (.int .u8 t.ca.toNat)/\w'.cell? ⟨b,0+2,none⟩=some (.int .u8 t.cb.toNat):=λh=>by
  obtain⟨b,vs,l,h0,h1,h2,h3,h4,h5,_⟩:=h.inv;exact⟨b,h0,h3,h4,h5⟩
 obtain⟨b7,hv,q0,_,_⟩:=c0 t6;refine⟨b7,0,hv,t.kind,q0,λb10 w11 hb10 ξ=>?_⟩;have ψ:Ex w6 w11:=ξ▸Ex.alloc w6 _;have s11:w11.heap.size=w6.heap.size+1:=by rw [ξ,size_alloc]
 have kt:∀{w':World},Kr m w w'->aN D w' t v:=λk=>aN.kp k (λg G=>(hD g G).2) ht
 have ζ:=hmk.lt;have μ:RS w w11 m n e b5 b10 t.kind 0 0:=by
  refine⟨Km.ex (Ex.trans x6 ψ) ζ,hmk.ex (Ex.trans x6 ψ),ζ,⟨by omega,λj=>?_,cs,κ,λj hj=>?_⟩,by omega,by omega,by omega,kP.new hb10 ξ⟩
  ·rw [O7 (w:=w6) (ψ.block b5 (by omega)),ε,hb5];unfold World.frozen? World.alloc;simp
  ·rw [ψ.cell (show b5< _ by omega),ε,hb5,O6];have :=κ.1;unfold World.cell? World.alloc;simp
 obtain⟨b13,hv13,_,q1,_⟩:=c0 (kt μ.kp.kp);refine⟨λw'=>RS w w' m n e b5 b10 t.kind (t.aA e) 0,⟨b13,0,hv13,t.ca,q1,λhc=>?_,λhc=>?_⟩,λω α=>?_⟩
 ·have hc:t.ca≠0:=by simpa using hc
  have hl:=MT J hc;have hb:=a7 hl;refine⟨b13,0,hv13,t.ca,q1,⟨by omega,by rw [gM hl];omega⟩,_,μ.env.get hl,⟨⟨_,μ.th.c1⟩,μ.th.f 1⟩,λw21 ο=>?_⟩;have:t.aA e=e t.ca:=OP hc;rw [this];exact μ.AM ο
 ·have hc:t.ca=0:=by simpa using hc
  have:t.aA e=0:=O' hc;rw [this];exact μ
 refine⟨λw'=>RS w w' m (t.nB n) (t.eB e n) b5 b10 t.kind (t.aA e) 0,D7 (kt α.kp.kp) ⟨λhq=>?_,λhq=>?_⟩,λw35 ν=>?_⟩
 ·rw [AS]at hq;have hl:=Lp J hq;have hb:=a7 hl;refine⟨λw'=>Kr m ω w',λw27 hw27=>⟨hw27▸Kr.ex (Ex.drew ω),?_⟩⟩;have x27:Ex ω w27:=hw27▸Ex.drew ω;obtain⟨b28,hv28,_,_,q2⟩:=c0 (kt α.kp.kp);refine⟨b28,0,hv28,t.cb,λw' k=>?_,?_⟩
  ·obtain⟨b29,hv29,_,_,q3⟩:=c0 (kt (Kr.trans α.kp.kp k));have:b29=b28:=by
    have :=hv28.symm.trans hv29
    injection this with h1
    injection h1 with h1
    injection h1 with h1
    exact h1.symm
   rw [<-this];exact q3
  refine uP (α.mc.ex x27) (by omega) λDf k32 m32=>⟨Kr.trans (Kr.ex x27) k32.kp,⟨by omega,by rw [gM hl];omega⟩,?_,λw34 hw34=>?_⟩
  ·have :=(α.go (Km.trans (Km.ex x27 α.mc.lt) k32) m32).env;exact⟨⟨_,this.get hl⟩,this.f _⟩
  ·have e1:t.nB n=n+1:=O' hq;have e2:t.eB e n=aI e t.cb (n+101):=O' hq;rw [e1,e2];exact(α.go (Km.trans (Km.ex x27 α.mc.lt) k32) m32).NR hl hw34
 ·rw [AS]at hq;have e1:t.nB n=n:=OP (by rw [hq];simp);have e2:t.eB e n=e:=OP (by rw [hq];simp);rw [e1,e2];exact α
 obtain⟨b37,hv37,_,_,q2⟩:=c0 (kt ν.kp.kp);refine⟨λw'=>RS w w' m (t.nB n) (t.eB e n) b5 b10 t.kind (t.aA e) (t.bA e n),⟨b37,0,hv37,t.cb,q2,λhc=>?_,λhc=>?_⟩,λw46 r46 b47 Z hb47 hw48=>?_⟩
 ·have hc:t.cb≠0:=by simpa using hc
  have hl:=Nf J hc;have hb:=a7 hl;refine⟨b37,0,hv37,t.cb,q2,⟨by omega,by rw [gM hl];omega⟩,_,ν.env.get hl,⟨⟨_,ν.th.c2⟩,ν.th.f 2⟩,λw21 ο=>?_⟩;have:t.bA e n=t.eB e n t.cb:=OP hc;rw [this];exact ν.vB ο
 ·have hc:t.cb=0:=by simpa using hc
  have:t.bA e n=0:=O' hc;rw [this];exact ν
 have x48:Ex w46 Z:=hw48▸Ex.alloc w46 _;have H:=r46.ex x48;have hs46:=r46.kp.size;have bd:ke w.heap.size Z b47 [] [] λg=>g=b47:=ke.new hs46 hb47 hw48
 have hn5:b47≠b5:=by have :=r46.env.hb;omega
 have hn10:b47≠b10:=by have :=r46.th.lt;omega
 have h105:=H.h5;have ς:=H.h10;have rp:RP D w Z m (t.nB n) b5 b10 b47 (t.eB e n) t v [] .nil [] (λg=>g=b47):=
  ⟨H.kp,H.mc,H.hm,H.env,H.h5,H.th.lt,kt H.kp.kp,hD,bd,λg G=> .inr ⟨by have :=bd.le;omega,by omega,by omega⟩,rfl⟩
 obtain⟨b50,hv50,q0',_,_⟩:=c0 (kt H.kp.kp);refine⟨λw'=>RJ w w' m n e b47 b10 t,⟨b50,0,hv50,t.kind,q0',?_⟩,λw143 hJ=>Kj ζ hJ hR⟩;have hRQ:∀g,D g->¬RQ w m b5 b10 g:=λg G e=>by
  have :=hD g G;rcases e with e | e<;>omega
 have hq5:¬RQ w m b5 b10 b5:=λe=>by
  rcases e with e | e
  ·omega
  ·exact e.2.1 rfl
 have hb47:=bd.le;have γ:∀{p:P},t.parts[0]?=some p->FT p->Lt p->t.nB n+p.size<=1099511627776->(num t e n).2=(num p (t.eB e n) (t.nB n)).2->(∀a b vr (w':World),a=t.aA e->b=t.bA e n->I0 (λg=>(w.heap.size<=g/\g≠b47)/\g< w'.heap.size) w' (ptr b10) t.kind a b vr (.slice none 0 0)->
   az (λg=>(w.heap.size<=g/\g≠b47)/\g< w'.heap.size) w' (flat (num p (t.eB e n) (t.nB n)).1) vr->(flat (num t e n).1).1=[]/\ah (λg=>(w.heap.size<=g/\g≠b47)/\g< w'.heap.size) w' (flat (num t e n).1).2 [ptr b10])->
   ∃δ:Sb,∀υ:World,υ=World.drew Z->δ υ/\∃(b130 o131:Nat),v=Value.pointer (some ⟨b130,o131,none⟩)/\∃v132:Value,(∀w',δ w'->World.cell? w' ⟨b130,(o131+3),none⟩=some v132)/\∃(b133 o134 θ cap136:Nat),v132=Value.slice (some ⟨b133,o134,none⟩) θ cap136/\0<=(0:Int)/\(0:Int)< θ/\
    ∃v137:Value,(∀w',δ w'->World.cell? w' ⟨b133,(o134+Int.toNat 0* 1),none⟩=some v137)/\∃η:List Value,List.length η=26/\(∀w',δ w'->∀j,j< 26->World.cell? w' ⟨b5,0+j,none⟩=η[j]?)/\Sc 104 #[ptr m,v137,(Value.agg (List.toArray η))] υ (aw [.v] fun(v139:Value) (ι:World)=>
     δ ι/\oneV v139=true/\((∃u141:Value,World.cell? ι ⟨b10,3,none⟩=some u141)/\World.frozen? ι ⟨b10,3,none⟩=false)/\∀w142:World,w142=World.setCell ι ⟨b10,3,none⟩ v139->RJ w w142 m n e b47 b10 t):=by
  intro p hi hp hlp hnp e2 hth;refine⟨λw'=>Kp Z.drew w' (RQ w m b5 b10),λw2 β=>⟨β▸Kp.ab (Ex.refl _) _,?_⟩⟩;have x2:Ex Z w2:=β▸Ex.drew Z;rw [<-β];have hs12:w2.heap.size=Z.heap.size:=by rw [β];rfl
  have r2:=H.ex x2;refine DS (kt r2.kp.kp) hRQ r2.env hq5 (i:=0) (by omega) hi λx cs hx κ=>?_
  refine hp hx (λg G=>(hD g G).2) r2.mc κ hlp hnp λv3 w3 k3 m3 l3=>?_
  have r3:=r2.go k3 m3;have s3:=k3.size;have l3':az (λg=>w2.heap.size<=g/\g< w3.heap.size) w3 (flat (num p (t.eB e n) (t.nB n)).1) v3:=l3.sub λg G hd=>⟨hd,G⟩
  have hb10lt:=r2.th.lt;have hb47lt:=bd.lt;refine⟨Kp.mono (λg G=> .inl G) k3.kp,gC.one l3,⟨⟨_,r3.th.c3⟩,r3.th.f 3⟩,λw4 hw4=>?_⟩;have k4:Kr b10 w3 w4:=hw4▸Kr.set w3 3 _;have s4:=k4.size;have th4:=r3.th.Fk hw4;have s2:=r2.kp.size;have hl4:az (λg=>(w.heap.size<=g/\g≠b47)/\g< w4.heap.size) w4 (flat (num p (t.eB e n) (t.nB n)).1) v3:=az.sub (az.kp l3' k4 λg G e=>by omega) λg _ G=>⟨⟨by omega,by omega⟩,by omega⟩
  obtain⟨e4,h4⟩:=hth _ _ v3 w4 rfl rfl (th4.wF ⟨⟨ς,Ry hn10⟩,th4.lt⟩) hl4;refine⟨r3.kp.out k4 (λg G e=>by omega) ζ,?_,?_,e4,h4⟩
  ·rw [e2];exact m3.kp k4 (by omega)
  ·exact((bd.ex x2).kp k3.kp λg G e=>by omega).kp k4 λg G e=>by omega
 have hn0:∀{i:Int},0<=i->i.toNat=i.toNat:=λ _=>rfl
 cases t with
 | nil=>exact df rfl (hR _ _ H.kp H.mc rp.done)
 | par p q=>
  refine aW (by dsimp only [T.kind];decide) (df rfl ?_);have e1:n+(1+p.size+q.size)<=1099511627776:=by simpa only [T.size,QV,Nat.add_comm,Nat.add_left_comm]using hn
  have h1:=bO p e n;have h2:=jL (num p e n).1;rw [h1.1]at h2;refine rp.step (i:=0) (ih p (by simp [T.parts])) (by omega) rfl J.1 (show n+p.size<=_ by omega) (by simp only [ON];omega) (by simp only [Lv.len];omega) λw2 ts2 M2 h=>?_
  refine h.step (i:=1) (ih q (by simp [T.parts])) (by omega) rfl J.2 (show(num p e n).2+q.size<=_ by omega) ?_ ?_ λw3 ts3 M3 h=>hR _ _ h.kp h.mc h.done
  ·show(flat (num p e n).1).1.length+q.size<=_;omega
  ·show(flat (num p e n).1).2.len+q.size<=_;omega
 | res x p=>
  refine aW (by dsimp only [T.kind];decide) (aW (by dsimp only [T.kind];decide) (df rfl ?_));have e1:n+(1+p.size)<=1099511627776:=by simpa only [T.size,QV,Nat.add_comm,Nat.add_left_comm]using hn
  have hx0:x≠0:=λhx=>by have :=a7 J.1;rw [hx]at this;exact absurd this.1 (by decide)
  have e2:T.bA (.res x p) e n=n+101:=by simp [T.bA,T.cb,hx0,T.eB,T.bnd,aI]
  refine⟨_,H.th.c2,λb82 w83 hb82 φ=>?_⟩;have x83:Ex Z w83:=φ▸Ex.alloc Z _;have bd83:=bd.ex x83;obtain⟨vo,_,hvo,_⟩:=bd83.sl;refine⟨rfl,⟨⟨vo,hvo⟩,bd83.fr 0⟩,λw85 hw85=>?_⟩;rw [e2]at φ;have bd85:=bd.NZ (e:=0) hb82 φ hw85;have χ:Kr b47 Z w85:=Kp.trans (Kp.ab x83 _) (hw85▸Kr.set w83 0 _) λ _ _ h=>h
  have s85:=χ.size;have hl5:=H.env.hb;have hl10:=H.th.lt;have hs48:=H.kp.size;have rp85:RP D w w85 m (n+1) b5 b10 b47 (aI e x (n+101)) (.res x p) v [n+101] .nil [] (λg=>g=b47\/g=b82):=
   ⟨H.kp.out χ (λg G e=>by omega) ζ,H.mc.kp χ (by omega),ζ,H.env.kp χ (by omega),h105,by omega,aN.kp χ (λg G e=>by have :=hD g G;omega) rp.tm,hD,bd85,λg G=> .inr (by
    rcases G with rfl | rfl
    ·exact⟨by omega,by omega,by omega⟩
    ·exact⟨by omega,by omega,by omega⟩),rfl⟩
  exact rp85.step (i:=0) (ih p (by simp [T.parts])) (by omega) rfl J.2 (by omega) (by simp only [Ov,ON];omega) (by simp only [Lv.len];omega) λw2 ts2 M2 h=>hR _ _ h.kp h.mc h.done
 | sum p q=>
  refine aW (by dsimp only [T.kind];decide) (aW (by dsimp only [T.kind];decide) (aW (by dsimp only [T.kind];decide) (df rfl ?_)));have e1:n+(1+p.size+q.size)<=1099511627776:=by simpa only [T.size,QV,Nat.add_comm,Nat.add_left_comm]using hn
  have h1:=bO p e n;refine⟨λw'=>Kp Z.drew w' (RQ w m b5 b10),λw2 β=>⟨β▸Kp.ab (Ex.refl _) _,?_⟩⟩;have x2:Ex Z w2:=β▸Ex.drew Z;rw [<-β];have hs12:w2.heap.size=Z.heap.size:=by rw [β];rfl
  have r2:=H.ex x2;refine DS (kt r2.kp.kp) hRQ r2.env hq5 (i:=0) (by omega) rfl λx cs hx κ=>?_
  refine DS (kt r2.kp.kp) hRQ r2.env hq5 (i:=1) (by omega) rfl λy cs' hy hcs'=>?_
  refine ih p (by simp [T.parts]) hx (λg G=>(hD g G).2) r2.mc κ J.1 (show n+p.size<=_ by omega) λv3 w3 k3 m3 l3=>?_
  have r3:=r2.go k3 m3;have s3:=k3.size;have l3':az (λg=>w2.heap.size<=g/\g< w3.heap.size) w3 (flat (num p e n).1) v3:=l3.sub λg G hd=>⟨hd,G⟩
  refine⟨Kp.mono (λg G=> .inl G) k3.kp,?_⟩;refine ih q (by simp [T.parts]) (aN.kp k3.kp (λg G=>(hD g G).2) hy) (λg G=>(hD g G).2) m3 hcs' J.2 (show(num p e n).2+q.size<=_ by omega) λv4 w4 k4 m4 l4=>?_
  have r4:=r3.go k4 m4;have s4:=k4.size;have l4':az (λg=>w3.heap.size<=g/\g< w4.heap.size) w4 (flat (num q e (num p e n).2).1) v4:=l4.sub λg G hd=>⟨hd,G⟩
  have k24:Kr m w2 w4:=Kr.trans k3.kp k4.kp;refine⟨Kp.mono (λg G=> .inl G) k24,gC.one l3,gC.one l4,λb124 w5 hb124 hw5=>?_⟩;have x5:Ex w4 w5:=hw5▸Ex.alloc w4 _;have s5:w5.heap.size=w4.heap.size+1:=by rw [hw5,size_alloc]
  have r5:=r4.ex x5;refine⟨Kp.trans (Kp.mono (λg G=> .inl G) k24) (Kp.ab x5 λ _=>False) λ _ _ h=>h.elim,rfl,⟨⟨_,r5.th.c4⟩,r5.th.f 4⟩,λw6 ε=>?_⟩;have k6:Kr b10 w5 w6:=ε▸Kr.set w5 4 _;have s6:=k6.size;have th6:=r5.th.LM ε;have s2:=r2.kp.size;have hb10lt:=r2.th.lt;have hb47lt:=bd.lt;refine⟨r5.kp.out k6 (λg G e=>by omega) ζ,r5.mc.kp k6 (by omega),?_,rfl,?_⟩
  ·exact(((bd.ex x2).kp k24 λg G e=>by omega).ex x5).kp k6 λg G e=>by omega
  ·have hl3:az (λg=>(w.heap.size<=g/\g≠b47)/\g< w6.heap.size) w6 (flat (num p e n).1) v3:=az.sub (az.kp (az.ex (az.kp l3' k4.kp λg G e=>by omega) x5) k6 λg G e=>by omega) λg _ G=>⟨⟨by omega,by omega⟩,by omega⟩
   have hl4:az (λg=>(w.heap.size<=g/\g≠b47)/\g< w6.heap.size) w6 (flat (num q e (num p e n).2).1) v4:=az.sub (az.kp (az.ex l4' x5) k6 λg G e=>by omega) λg _ G=>⟨⟨by omega,by omega⟩,by omega⟩
   refine⟨_,_,_,_,_,[v3,v4],rfl,th6.wF ⟨⟨ς,Ry hn10⟩,th6.lt⟩,.inr ⟨b124,0,2,rfl,⟨⟨by omega,by omega⟩,by omega⟩,by omega,λi z hz=>?_⟩,⟨v3,_,rfl,hl3,⟨v4,_,rfl,hl4,rfl⟩⟩,rfl⟩;rw [Ow (w:=w5) (k6.block b124 (by omega) (by omega)),hw5,hb124,O6];refine aa ?_
   match i,hz with
   | 0,hz=>simpa using hz
   | 1,hz=>simpa using hz
   | i+2,hz=>simp at hz
 | snd a b p=>
  refine aW (by dsimp only [T.kind];decide) (aW (by dsimp only [T.kind];decide) (aW (by dsimp only [T.kind];decide) (aW (by dsimp only [T.kind];decide) ?_)));refine γ rfl (ih p (by simp [T.parts])) J.2.2 (show n+p.size<=_ by simp only [T.size]at hn;omega) rfl λa' b' vr w' ha hb h1 h2=>⟨rfl,?_⟩
  have ea:a'=e a:=by rw [ha];exact OP λhx=>by have :=a7 J.1;rw [show a=0 from hx]at this;exact absurd this.1 (by decide)
  have eb:b'=e b:=by rw [hb];exact OP λhx=>by have :=a7 J.2.1;rw [show b=0 from hx]at this;exact absurd this.1 (by decide)
  exact⟨_,_,_,_,_,rfl,h1,.inr (.inr ⟨ea,eb⟩),h2,rfl⟩
 | mat a b p=>
  refine aW (by dsimp only [T.kind];decide) (aW (by dsimp only [T.kind];decide) (aW (by dsimp only [T.kind];decide) (aW (by dsimp only [T.kind];decide) ?_)));refine γ rfl (ih p (by simp [T.parts])) J.2.2 (show n+p.size<=_ by simp only [T.size]at hn;omega) rfl λa' b' vr w' ha hb h1 h2=>⟨rfl,?_⟩
  have ea:a'=e a:=by rw [ha];exact OP λhx=>by have :=a7 J.1;rw [show a=0 from hx]at this;exact absurd this.1 (by decide)
  have eb:b'=e b:=by rw [hb];exact OP λhx=>by have :=a7 J.2.1;rw [show b=0 from hx]at this;exact absurd this.1 (by decide)
  exact⟨_,_,_,_,_,rfl,h1,.inr (.inr ⟨ea,eb⟩),h2,rfl⟩
 | rcv a b p=>
  refine aW (by dsimp only [T.kind];decide) (aW (by dsimp only [T.kind];decide) (aW (by dsimp only [T.kind];decide) (aW (by dsimp only [T.kind];decide) ?_)));refine γ rfl (ih p (by simp [T.parts])) J.2.2 (show n+1+p.size<=_ by simp only [T.size]at hn;omega) rfl λa' b' vr w' ha hb h1 h2=>⟨rfl,?_⟩
  have ea:a'=e a:=by rw [ha];exact OP λhx=>by have :=a7 J.1;rw [show a=0 from hx]at this;exact absurd this.1 (by decide)
  have eb:b'=n+101:=by
   rw [hb];refine(OP λhx=>by have :=a7 J.2.1;rw [show b=0 from hx]at this;exact absurd this.1 (by decide)).trans ?_;simp [T.eB,T.bnd,aI,T.cb]
  exact⟨_,_,_,_,_,rfl,h1,.inr (.inr ⟨ea,eb⟩),h2,rfl⟩
 | tau p=>
  refine aW (by dsimp only [T.kind];decide) (aW (by dsimp only [T.kind];decide) (aW (by dsimp only [T.kind];decide) (aW (by dsimp only [T.kind];decide) ?_)));exact γ rfl (ih p (by simp [T.parts])) J (show n+p.size<=_ by simp only [T.size]at hn;omega) rfl λa' b' vr w' ha hb h1 h2=>⟨rfl,⟨_,_,_,_,_,rfl,h1,.inl rfl,h2,rfl⟩⟩
 | rep p=>
  refine aW (by dsimp only [T.kind];decide) (aW (by dsimp only [T.kind];decide) (aW (by dsimp only [T.kind];decide) (aW (by dsimp only [T.kind];decide) ?_)));exact γ rfl (ih p (by simp [T.parts])) J (show n+p.size<=_ by simp only [T.size]at hn;omega) rfl λa' b' vr w' ha hb h1 h2=>⟨rfl,⟨_,_,_,_,_,rfl,h1,.inr (.inl rfl),h2,rfl⟩⟩
def mo:∀{l:List Nat} {x:Nat},x∈l->x<=l.sum
 | y::l,x,h=>by
  rw [Py];rcases OY.1 h with rfl | h
  ·omega
  ·have :=mo h;omega
def K5:∀t:P,FT t:=by
 have:∀(k:Nat) (t:P),t.size<=k->FT t:=by
  intro k
  induction k with
  | zero=>intro t h;have :=aX t;omega
  | succ k G=>
   intro t h;refine IL λp H=>G p ?_
   have e:=pb t;have:p.size<=(t.parts.map T.size).sum:=mo (Pf.2 ⟨p,H,rfl⟩);omega
 exact λt=>this t.size t (OB _)
attribute [go_sem] Tryz.f151
def nG (s1:Value)(w:World)(R:Value->Sb)(h:vc aB (a6 [] [] []) (ai Tryz.f151) (aj 0 [.v s1]) w (fin aB [.tmp 2 .v] R)):
  Sc 151 #[s1] w (aw [.v] R):=
 bn Tryz.func151 (by kernel_rfl) h
attribute [go_sem] Tryz.f173
def kY (G:Value)(w:World)(R:Bool->Sb)(h:vc aB (a6 [] [] []) (ai Tryz.f173) (aj 0 [.v G]) w (fin aB [.tmp 2 .b] R)):
  Sc 173 #[G] w (aw [.b] R):=
 bn Tryz.func173 (by kernel_rfl) h
attribute [go_sem] Tryz.f174
def nK (G:Value)(w:World)(R:Bool->Sb)(h:vc aB (a6 [] [] []) (ai Tryz.f174) (aj 0 [.v G]) w (fin aB [.tmp 2 .b] R)):
  Sc 174 #[G] w (aw [.b] R):=
 bn Tryz.func174 (by kernel_rfl) h
attribute [go_sem] Tryz.f224
def nJ (t1:Value)(c2:Value)(w:World)(R:Bool->Sb)(h:vc aB (a6 [] [] []) (ai Tryz.f224) (aj 0 [.v t1,.v c2]) w (fin aB [.tmp 3 .b] R)):
  Sc 224 #[t1,c2] w (aw [.b] R):=
 bn Tryz.func224 (by kernel_rfl) h
attribute [go_sem] Tryz.f219
def iw (s1:Value)(f2:Value)(w:World)(R:Int->Sb)(h:vc aB (a6 [(2,[(8,.i)])] [] []) (ai Tryz.f219) (aj 0 [.v s1,.v f2]) w (fin aB [.tmp 4 .i] R)):
  Sc 219 #[s1,f2] w (aw [.i] R):=
 bn Tryz.func219 (by kernel_rfl) h
attribute [go_sem] Tryz.f176
def gz (s1:Value)(f2:Value)(w:World)(R:Bool->Sb)(h:vc aB (a6 [] [] []) (ai Tryz.f176) (aj 0 [.v s1,.v f2]) w (fin aB [.tmp 4 .b] R)):
  Sc 176 #[s1,f2] w (aw [.b] R):=
 bn Tryz.func176 (by kernel_rfl) h
attribute [go_sem] Tryz.f188
def ph (G:Value)(H:Int)(w:World)(R:Bool->Sb)(h:vc aB (a6 [] [] []) (ai Tryz.f188) (aj 0 [.v G,.i H]) w (fin aB [.tmp 4 .b] R)):
  Sc 188 #[G,(.int .i64 H)] w (aw [.b] R):=
 bn Tryz.func188 (by kernel_rfl) h
attribute [go_sem] Tryz.f221
def lV (G:Value)(c2:Value)(w:World)(R:Bool->Sb)(h:vc aB (a6 [] [] []) (ai Tryz.f221) (aj 0 [.v G,.v c2]) w (fin aB [.tmp 3 .b] R)):
  Sc 221 #[G,c2] w (aw [.b] R):=
 bn Tryz.func221 (by kernel_rfl) h
attribute [go_sem] Tryz.f252
def iI (s1:Value)(f2:Value)(w:World)(R:Int->Sb)(h:vc aB (a6 [(2,[(8,.i)])] [] []) (ai Tryz.f252) (aj 0 [.v s1,.v f2]) w (fin aB [.tmp 4 .i] R)):
  Sc 252 #[s1,f2] w (aw [.i] R):=
 bn Tryz.func252 (by kernel_rfl) h
attribute [go_sem] Tryz.f220
def gO (s1:Value)(f2:Value)(w:World)(R:Bool->Sb)(h:vc aB (a6 [] [] []) (ai Tryz.f220) (aj 0 [.v s1,.v f2]) w (fin aB [.tmp 4 .b] R)):
  Sc 220 #[s1,f2] w (aw [.b] R):=
 bn Tryz.func220 (by kernel_rfl) h
attribute [go_sem] Tryz.f178
def og (t1:Value)(G:Int)(w:World)(R:Bool->Sb)(h:vc aB (a6 [] [(2,[(5,.b)]),(4,[])] [(2,true,.lt 0 (.lt 1 (.lt 2 (.lt 3 (.lt 4 (.lt 5 (.lt 6 (.lt 7 (.lt 8 (.lt 9 (.lt 10 (.lt 11 (.lt 12 (.lt 13 (.lt 14 (.lt 15 (.lt 16 .done))))))))))))))))),(4,true,.lt 0 (.lt 1 (.lt 2 (.lt 3 (.lt 4 (.lt 5 (.lt 6 (.lt 7 (.lt 8 (.lt 9 (.lt 10 (.one .g 11 (.lt 12 (.lt 13 (.lt 14 (.lt 15 (.lt 16 (.lt 17 (.lt 18 (.one .g 19 (.lt 20 (.lt 21 .done))))))))))))))))))))))]) (ai Tryz.f178) (aj 0 [.v t1,.i G]) w (fin aB [.tmp 4 .b] R)):
  Sc 178 #[t1,(.int .i64 G)] w (aw [.b] R):=
 bn Tryz.func178 (by kernel_rfl) h
attribute [go_sem] Tryz.f177
def iW (t1:Value)(c2:Value)(w:World)(R:Bool->Sb)(h:vc aB (a6 [] [] []) (ai Tryz.f177) (aj 0 [.v t1,.v c2]) w (fin aB [.tmp 3 .b] R)):
  Sc 177 #[t1,c2] w (aw [.b] R):=
 bn Tryz.func177 (by kernel_rfl) h
attribute [go_sem] Tryz.f175
def ki (G:Int)(c2:Value)(w:World)(R:Bool->Sb)(h:vc aB (a6 [] [] []) (ai Tryz.f175) (aj 0 [.i G,.v c2]) w (fin aB [.tmp 3 .b] R)):
  Sc 175 #[(.int .i64 G),c2] w (aw [.b] R):=
 bn Tryz.func175 (by kernel_rfl) h
attribute [go_sem] Tryz.f197
def js (s1:Value)(f2:Value)(w:World)(R:Int->Sb)(h:vc aB (a6 [(2,[(8,.i)])] [] []) (ai Tryz.f197) (aj 0 [.v s1,.v f2]) w (fin aB [.tmp 4 .i] R)):
  Sc 197 #[s1,f2] w (aw [.i] R):=
 bn Tryz.func197 (by kernel_rfl) h
attribute [go_sem] Tryz.f150
def dU (s1:Value)(d2:Value)(w:World)(R:Value->Sb)(h:vc aB (a6 [(5,[(5,.i),(6,.i)])] [] []) (ai Tryz.f150) (aj 0 [.v s1,.v d2]) w (fin aB [.tmp 4 .v] R)):
  Sc 150 #[s1,d2] w (aw [.v] R):=
 bn Tryz.func150 (by kernel_rfl) h
def lU (l1:Value)(w:World)(R:Value->Sb)(h:bT l1 λb2 o3=>dP w b2 (o3+0) λv4=>lg 151 #[v4] w λv5 w6=>oneV v5=true/\db w6 (.cells #[v5,(.slice none 0 0)] 129) λb7 w8=>db w8 (.cells #[(.pointer none)] 59) λb9 w10=>nj w10 b9 0 (.pointer (some ⟨b7,0,none⟩)) λw12=>bT l1 λb13 o14=>dP w12 b13 (o14+1) λv15=>kZ v15 λl17=>yC 0 w12 λβ H G Z=>bZ (decide (G< (l17:Int))) (jQ v15 G λb23 o24=>dP Z b23 (o24+G.toNat* 1) λγ=>jf Z λS28 w29=>bT γ λb30 o31=>GM S28 b30 (o31+0) λc32=>bT γ λb33 o34=>uX S28 b33 (o34+1) λn35=>bT γ λb36 o37=>uX S28 b36 (o37+2) λn38=>db w29 (.cells #[(.int .u8 c32.toNat),(.int .i64 n35),(.int .i64 n38),(.pointer none),(.slice none 0 0)] 191) λb39 ο=>S28 ο/\bT γ λb41 o42=>rG ο b41 (o42+0) λc43=>bZ (decide (c43=43)) (bT γ λb44 o45=>dP ο b44 (o45+4) λv46=>kZ v46 λl48=>yC 0 ο λI50 ς α δ=>bZ (decide (α< (l48:Int))) (jQ v46 α λb54 o55=>dP δ b54 (o55+α.toNat* 1) λv58=>lg 106 #[v58] δ λv59 w60=>Er 173 #[v59] w60 λq61 w62=>bZ q61 (bG (α+1)/\I50 (α+1) w62/\ς (α+1) w62< ς α δ) (Er 174 #[v59] w62 λq63 w64=>bZ q63 (jf w64 λυ w66=>fq υ b39 4 λv67=>bT v59 λb68 o69=>fq υ b68 (o69+1) λv70=>jQ v70 0 λb71 o72=>fq υ b71 (o72+Int.toNat 0* 1) λv75=>bT v75 λb76 o77=>fq υ b76 (o77+4) λv78=>nV 59 1 8 w66 v67 v78 λv84 w85=>υ w85/\oneV v84=true/\nj w85 b39 4 v84 λw87=>bG (α+1)/\I50 (α+1) w87/\ς (α+1) w87< ς α δ) (dP w64 b39 4 λv88=>oneV v59=true/\db w64 (.cells #[v59] 59) λb89 w90=>nV 59 1 8 w90 v88 (.slice (some ⟨b89,0,none⟩) 1 1) λv96 w97=>oneV v96=true/\nj w97 b39 4 v96 λw99=>bG (α+1)/\I50 (α+1) w99/\ς (α+1) w99< ς α δ))) (dP δ b39 4 λv100=>kZ v100 λl102=>bZ (decide ((l102:Int)=0)) (bG (G+1)/\β (G+1) δ/\H (G+1) δ< H G Z) (bZ (decide ((l102:Int)=1)) (jf δ λν w105=>fq ν b9 0 λv106=>fq ν b39 4 λv107=>jQ v107 0 λb108 o109=>fq ν b108 (o109+Int.toNat 0* 1) λv112=>fC 153 #[v106,v112] w105 λφ=>ν φ/\bG (G+1)/\β (G+1) φ/\H (G+1) φ< H G Z) (jf δ λε w115=>fq ε b9 0 λv116=>fq ε b9 0 λv117=>bT v117 λb118 o119=>fq ε b118 (o119+1) λv120=>db w115 (.cells #[(.pointer (some ⟨b39,0,none⟩))] 130) λb121 w122=>ε w122/\nV 130 1 8 w122 v120 (.slice (some ⟨b121,0,none⟩) 1 1) λv128 w129=>ε w129/\bT v116 λb130 o131=>oneV v128=true/\nj w129 b130 (o131+1) v128 λw133=>bG (G+1)/\β (G+1) w133/\H (G+1) w133< H G Z)))) (bT γ λb134 o135=>dP ο b134 (o135+3) λv136=>lg 106 #[v136] ο λv137 w138=>oneV v137=true/\nj w138 b39 3 v137 λw140=>jf w140 λχ J=>bT γ λb143 o144=>GM χ b143 (o144+0) λc145=>bZ (decide (c145=61)) (bT γ λb146 o147=>uX χ b146 (o147+1) λn148=>bT γ λb149 o150=>uX χ b149 (o150+2) λn151=>bZ (decide (n148=n151)) (jf J λS152 w153=>fq S152 b9 0 λv154=>fq S152 b39 3 λv155=>fC 153 #[v154,v155] w153 λw156=>bG (G+1)/\β (G+1) w156/\H (G+1) w156< H G Z) (bT γ λb157 o158=>rG J b157 (o158+0) λc159=>Gp (decide (c159=61)) (bT γ λb160 o161=>rG J b160 (o161+0) λc162=>bZ (decide (c162=42)) (dP J b39 3 λv163=>Er 173 #[v163] J λq164 ψ=>bZ q164 (bG (G+1)/\β (G+1) ψ/\H (G+1) ψ< H G Z) (jf ψ λζ w167=>fq ζ b9 0 λv168=>fq ζ b9 0 λv169=>bT v169 λb170 o171=>fq ζ b170 (o171+1) λv172=>db w167 (.cells #[(.pointer (some ⟨b39,0,none⟩))] 130) λb173 w174=>ζ w174/\nV 130 1 8 w174 v172 (.slice (some ⟨b173,0,none⟩) 1 1) λv180 w181=>ζ w181/\bT v168 λb182 o183=>oneV v180=true/\nj w181 b182 (o183+1) v180 λw185=>bG (G+1)/\β (G+1) w185/\H (G+1) w185< H G Z)) (jf J λη w187=>fq η b9 0 λv188=>fq η b9 0 λv189=>bT v189 λb190 o191=>fq η b190 (o191+1) λv192=>db w187 (.cells #[(.pointer (some ⟨b39,0,none⟩))] 130) λb193 w194=>η w194/\nV 130 1 8 w194 v192 (.slice (some ⟨b193,0,none⟩) 1 1) λv200 w201=>η w201/\bT v188 λb202 o203=>oneV v200=true/\nj w201 b202 (o203+1) v200 λw205=>bG (G+1)/\β (G+1) w205/\H (G+1) w205< H G Z)) (dP J b39 3 λv206=>Er 173 #[v206] J λq207 ω=>bZ q207 (bG (G+1)/\β (G+1) ω/\H (G+1) ω< H G Z) (jf ω λθ w210=>fq θ b9 0 λv211=>fq θ b9 0 λv212=>bT v212 λb213 o214=>fq θ b213 (o214+1) λv215=>db w210 (.cells #[(.pointer (some ⟨b39,0,none⟩))] 130) λb216 w217=>θ w217/\nV 130 1 8 w217 v215 (.slice (some ⟨b216,0,none⟩) 1 1) λv223 w224=>θ w224/\bT v211 λb225 o226=>oneV v223=true/\nj w224 b225 (o226+1) v223 λw228=>bG (G+1)/\β (G+1) w228/\H (G+1) w228< H G Z)))) (bT γ λb229 o230=>rG J b229 (o230+0) λc231=>Gp (decide (c231=61)) (bT γ λb232 o233=>rG J b232 (o233+0) λc234=>bZ (decide (c234=42)) (dP J b39 3 λv235=>Er 173 #[v235] J λq236 w237=>bZ q236 (bG (G+1)/\β (G+1) w237/\H (G+1) w237< H G Z) (jf w237 λι w239=>fq ι b9 0 λv240=>fq ι b9 0 λv241=>bT v241 λb242 o243=>fq ι b242 (o243+1) λv244=>db w239 (.cells #[(.pointer (some ⟨b39,0,none⟩))] 130) λb245 w246=>ι w246/\nV 130 1 8 w246 v244 (.slice (some ⟨b245,0,none⟩) 1 1) λv252 w253=>ι w253/\bT v240 λb254 o255=>oneV v252=true/\nj w253 b254 (o255+1) v252 λw257=>bG (G+1)/\β (G+1) w257/\H (G+1) w257< H G Z)) (jf J λκ w259=>fq κ b9 0 λv260=>fq κ b9 0 λv261=>bT v261 λb262 o263=>fq κ b262 (o263+1) λv264=>db w259 (.cells #[(.pointer (some ⟨b39,0,none⟩))] 130) λb265 w266=>κ w266/\nV 130 1 8 w266 v264 (.slice (some ⟨b265,0,none⟩) 1 1) λv272 w273=>κ w273/\bT v260 λb274 o275=>oneV v272=true/\nj w273 b274 (o275+1) v272 λw277=>bG (G+1)/\β (G+1) w277/\H (G+1) w277< H G Z)) (dP J b39 3 λv278=>Er 173 #[v278] J λq279 w280=>bZ q279 (bG (G+1)/\β (G+1) w280/\H (G+1) w280< H G Z) (jf w280 λμ w282=>fq μ b9 0 λv283=>fq μ b9 0 λv284=>bT v284 λb285 o286=>fq μ b285 (o286+1) λv287=>db w282 (.cells #[(.pointer (some ⟨b39,0,none⟩))] 130) λb288 w289=>μ w289/\nV 130 1 8 w289 v287 (.slice (some ⟨b288,0,none⟩) 1 1) λv295 w296=>μ w296/\bT v283 λb297 o298=>oneV v295=true/\nj w296 b297 (o298+1) v295 λw300=>bG (G+1)/\β (G+1) w300/\H (G+1) w300< H G Z))))) (jf Z λξ w302=>fq ξ b9 0 λv303=>fq ξ b9 0 λv304=>bT v304 λb305 o306=>fq ξ b305 (o306+0) λv307=>lg 150 #[v307,(Value.func (Fn.func 175) #[] #[(.pointer (some ⟨b9,0,none⟩))])] w302 λv308 w309=>ξ w309/\bT v303 λb310 o311=>oneV v308=true/\nj w309 b310 (o311+0) v308 λw313=>dP w313 b9 0 λv314=>R v314 w313)):
  Sc 106 #[l1] w (aw [.v] R):=
 Iz (a6 [(3,[(22,.i)]),(8,[(50,.i)])] [] [(5,true,.lt 0 (.lt 1 (.lt 2 (.lt 3 (.lt 4 (.lt 5 (.lt 6 (.lt 7 (.lt 8 (.lt 9 (.lt 10 (.lt 11 (.lt 12 (.one .g 13 (.lt 14 .done))))))))))))))),(14,true,.lt 0 (.lt 1 (.lt 2 (.lt 3 (.lt 4 (.lt 5 (.lt 6 (.lt 7 (.lt 8 (.lt 9 (.lt 10 (.lt 11 (.lt 12 (.lt 13 (.one .g 14 (.lt 15 (.lt 16 (.one .n 17 .done)))))))))))))))))),(17,true,.lt 0 (.lt 1 (.lt 2 (.lt 3 (.lt 4 (.lt 5 (.one .g 6 (.one .g 7 (.lt 8 (.lt 9 (.one .n 10 .done))))))))))),(20,true,.lt 0 (.lt 1 (.lt 2 (.lt 3 (.lt 4 (.lt 5 (.lt 6 (.one .g 7 .done)))))))),(22,true,.lt 0 (.lt 1 (.lt 2 (.lt 3 (.lt 4 (.lt 5 (.one .g 6 (.one .g 7 (.lt 8 (.lt 9 (.one .n 10 .done))))))))))),(23,true,.lt 0 (.lt 1 (.lt 2 (.lt 3 (.lt 4 (.lt 5 (.lt 6 (.lt 7 (.lt 8 (.lt 9 (.lt 10 (.lt 11 (.lt 12 (.lt 13 (.lt 14 (.lt 15 (.lt 16 .done))))))))))))))))),(24,true,.lt 0 (.lt 1 (.lt 2 (.lt 3 (.lt 4 (.one .n 5 .done)))))),(27,true,.lt 0 (.lt 1 (.lt 2 (.lt 3 (.lt 4 (.lt 5 (.one .g 6 (.lt 7 (.lt 8 (.one .n 9 .done))))))))))]) [.tmp 2 .v] [.v l1] Tryz.func106 (by kernel_rfl) h
namespace Lv
def sz:Lv->Nat
 | nil=>0 | thr _ _ _ _ r n=>r.sz+n.sz+1 | sum ps n=>ps.sz+n.sz+1 | part _ q n=>q.sz+n.sz+1
def sh:Bool->Lv->Bool
 | _,nil=>true
 | true,thr _ _ _ _ r n=>sh true r&&sh true n
 | true,sum ps n=>sh false ps&&sh true n
 | false,part _ q n=>sh true q&&sh false n
 | _,_=>false
def bw:Lv->List Lv
 | nil=>[] | thr k a b o r n=>thr k a b o r nil::bw n | sum ps n=>sum ps nil::bw n | part o q n=>part o q nil::bw n
def cM:∀l:Lv,l.bw.length=l.len
 | nil=>rfl
 | thr _ _ _ _ _ n=>by simp only [bw,len,Ov,cM n]
 | sum _ n=>by simp only [bw,len,Ov,cM n]
 | part _ _ n=>by simp only [bw,len,Ov,cM n]
def eX:∀(l:Lv),∀e∈l.bw,e.sz<=l.sz
 | nil,_,h=>by cases h
 | thr k a b o r n,e,h=>by
  rcases OY.1 h with rfl | h
  ·simp only [sz];omega
  ·have :=eX n e h;simp only [sz];omega
 | sum ps n,e,h=>by
  rcases OY.1 h with rfl | h
  ·simp only [sz];omega
  ·have :=eX n e h;simp only [sz];omega
 | part o q n,e,h=>by
  rcases OY.1 h with rfl | h
  ·simp only [sz];omega
  ·have :=eX n e h;simp only [sz];omega
def mL (x:Nat):∀l:Lv,l.has x=l.bw.any (·.has x)
 | nil=>rfl
 | thr k a b o r n=>by simp [bw,has,mL x n]
 | sum ps n=>by simp [bw,has,mL x n]
 | part o q n=>by simp [bw,has,mL x n]
def ku:∀{l:Lv},l.sh true=true->∀e∈l.bw,(∃k a b o r,e=thr k a b o r nil/\r.sh true=true)\/∃ps,e=sum ps nil/\ps.sh false=true
 | nil,_,_,h=>by cases h
 | thr k a b o r n,G,e,h=>by
  simp only [sh,OA]at G;rcases OY.1 h with rfl | h
  ·exact .inl ⟨k,a,b,o,r,rfl,G.1⟩
  ·exact ku G.2 e h
 | sum ps n,G,e,h=>by
  simp only [sh,OA]at G;rcases OY.1 h with rfl | h
  ·exact .inr ⟨ps,rfl,G.1⟩
  ·exact ku G.2 e h
 | part ..,G,_,_=>by cases G
def mZ:∀{l:Lv},l.sh false=true->∀e∈l.bw,∃o q,e=part o q nil/\q.sh true=true
 | nil,_,_,h=>by cases h
 | part o q n,G,e,h=>by
  simp only [sh,OA]at G;rcases OY.1 h with rfl | h
  ·exact⟨o,q,rfl,G.1⟩
  ·exact mZ G.2 e h
 | thr ..,G,_,_=>by cases G
 | sum ..,G,_,_=>by cases G
def gJ {b:Bool}:∀{l m:Lv},l.sh b=true->m.sh b=true->(l.app m).sh b=true
 | nil,_,_,h=>h
 | thr _ _ _ _ r n,m,G,H=>by
  cases b
  ·cases G
  ·simp only [sh,app,OA]at*;exact⟨G.1,gJ G.2 H⟩
 | sum ps n,m,G,H=>by
  cases b
  ·cases G
  ·simp only [sh,app,OA]at*;exact⟨G.1,gJ G.2 H⟩
 | part o q n,m,G,H=>by
  cases b
  ·simp only [sh,app,OA]at*;exact⟨G.1,gJ G.2 H⟩
  ·cases G
end Lv
def aO.cons {A B:Type}{R:A->B->Prop}{a:A}{b:B}{l:List A}{m:List B}(h:R a b)(G:aO R l m):aO R (a::l) (b::m):=(aO.one h).append G
def ah.bw {D:Nat->Prop}{w:World}:∀{l:Lv} {ts:List Value},ah D w l ts->aO (λe v=>ah D w e [v]) l.bw ts
 | .nil,_,h=>by cases h;exact aO.nil
 | .thr k a b o r n,_,⟨t,G,a',b',vr,H,J,Z,h4,h5⟩=>by subst H;exact aO.cons ⟨t,[],a',b',vr,rfl,J,Z,h4,rfl⟩ (ah.bw (l:=n) h5)
 | .sum ps n,_,⟨t,G,a',b',vp,us,H,J,Z,h4,h5⟩=>by subst H;exact aO.cons ⟨t,[],a',b',vp,us,rfl,J,Z,h4,rfl⟩ (ah.bw (l:=n) h5)
 | .part o q n,_,⟨v,G,H,J,Z⟩=>by subst H;exact aO.cons ⟨v,[],rfl,J,rfl⟩ (ah.bw (l:=n) Z)
def dt.ex {D:Nat->Prop}{w w':World}{v:Value}{l:List Value}(h:dt D w v l)(x:Ex w w'):dt D w' v l:=h.kp (Kp.ab x λ _=>False) λ _ _ h=>h
def BG (w:World)(f:Nat)(ca:List Value)(ts:List Value)(p:Nat->Bool):Prop:=
 ∀(i:Nat) (x:Value) (w1:World),ts[i]?=some x->Ex w w1->∀{R:Bool->Sb},(∀G,Ex w1 G->R (p i) G)->Sc f (List.toArray ([x]++ca)) w1 (aw [.b] R)
def jC {n:Nat}{p:Nat->Bool}:(List.range n).any p=true↔∃i,i< n/\p i=true:=by
 simp [QH,PH]
def IG {D:Nat->Prop}{w:World}{s:Value}{ts:List Value}(hs:dt D w s ts){f:Nat}{ca:List Value}(hf:hasR gN f=true){p:Nat->Bool}(hp:BG w f ca ts p)(hl:ts.length<=1099511627776){R:Bool->Sb}(hR:∀w',Ex w w'->R ((List.range ts.length).any p) w'):
  Sc 176 #[s,.func (.func f) #[] (List.toArray ca)] w (aw [.b] R):=by
 refine gz _ _ w R ?_;dsimp only [go_sem];refine iw _ _ w _ ?_;dsimp only [go_sem];dsimp only [go_sem,Nat.reduceAdd];obtain⟨a,cap,e⟩:=hs.slice;refine⟨a,_,cap,e,λx w'=>∃i:Nat,x=i/\i<=ts.length/\Ex w w'/\∀j< i,p j=false,λx _=>(ts.length - x).toNat,⟨0,rfl,by omega,Ex.refl w,λj h=>by omega⟩,λx w1 hI=>?_⟩;obtain⟨i,rfl,hi,H,hn⟩:=hI;refine⟨λJ=>?_,λJ=>?_⟩
 ·have J:=OW J;have G:i< ts.length:=by omega
  refine(hs.ex H).get (i:=i) (x:=ts[i]) (by omega) (by simp [G]) ⟨f,ca,rfl,hf,hp i _ w1 (Ox G) H λw2 Z=>⟨λhq=>?_,λhq=>⟨by omega,⟨i+1,by omega,by omega,Ex.trans H Z,λj hj=>?_⟩,by dsimp only;omega⟩⟩⟩
  ·have :=hR w2 (Ex.trans H Z);rw [jC.2 ⟨i,G,hq⟩]at this;have e:decide ((0:Int)<=i)=true:=P2 (by omega);show R (decide ((0:Int)<=i)) w2;rw [e];exact this
  ·by_cases h:j=i
   ·subst h;exact hq
   ·exact hn j (by omega)
 ·have J:=OX J;have :=hR w1 H;have e:(List.range ts.length).any p=false:=by
   rw [Bool.eq_false_iff];intro h;obtain⟨j,hj,h⟩:=jC.1 h;rw [hn j (by omega)]at h;cases h
  rw [e]at this;exact this
def G9 {D:Nat->Prop}{w:World}{s:Value}{ts:List Value}(hs:dt D w s ts){f:Nat}{ca:List Value}(hf:hasR gN f=true){p:Nat->Bool}(hp:BG w f ca ts p)(hl:ts.length<=1099511627776){R:Bool->Sb}(hR:∀w',Ex w w'->R ((List.range ts.length).any p) w'):
  Sc 220 #[s,.func (.func f) #[] (List.toArray ca)] w (aw [.b] R):=by
 refine gO _ _ w R ?_;dsimp only [go_sem];refine iI _ _ w _ ?_;dsimp only [go_sem];dsimp only [go_sem,Nat.reduceAdd];obtain⟨a,cap,e⟩:=hs.slice;refine⟨a,_,cap,e,λx w'=>∃i:Nat,x=i/\i<=ts.length/\Ex w w'/\∀j< i,p j=false,λx _=>(ts.length - x).toNat,⟨0,rfl,by omega,Ex.refl w,λj h=>by omega⟩,λx w1 hI=>?_⟩;obtain⟨i,rfl,hi,H,hn⟩:=hI;refine⟨λJ=>?_,λJ=>?_⟩
 ·have J:=OW J;have G:i< ts.length:=by omega
  refine(hs.ex H).get (i:=i) (x:=ts[i]) (by omega) (by simp [G]) ⟨f,ca,rfl,hf,hp i _ w1 (Ox G) H λw2 Z=>⟨λhq=>?_,λhq=>⟨by omega,⟨i+1,by omega,by omega,Ex.trans H Z,λj hj=>?_⟩,by dsimp only;omega⟩⟩⟩
  ·have :=hR w2 (Ex.trans H Z);rw [jC.2 ⟨i,G,hq⟩]at this;have e:decide ((0:Int)<=i)=true:=P2 (by omega);show R (decide ((0:Int)<=i)) w2;rw [e];exact this
  ·by_cases h:j=i
   ·subst h;exact hq
   ·exact hn j (by omega)
 ·have J:=OX J;have :=hR w1 H;have e:(List.range ts.length).any p=false:=by
   rw [Bool.eq_false_iff];intro h;obtain⟨j,hj,h⟩:=jC.1 h;rw [hn j (by omega)]at h;cases h
  rw [e]at this;exact this
def MP {A:Type}(l:List A)(f:A->Bool)(i:Nat):Bool:=(l[i]?.map f).getD false
def pP {A:Type}{l:List A}{f:A->Bool}{i:Nat}(h:i< l.length):MP l f i=f l[i]:=by unfold MP;rw [Ox h];rfl
def Ag {A:Type}{f:A->Bool}(l:List A):(List.range l.length).any (MP l f)=l.any f:=by
 rw [PG,jC,QH];constructor
 ·rintro⟨i,hi,h⟩
  rw [pP hi]at h;exact⟨_,Oz hi,h⟩
 ·rintro⟨x,G,h⟩
  obtain⟨i,hi,e⟩:=PK.1 G;exact⟨i,hi,by rw [pP hi,e];exact h⟩
def Dk {w w':World}{b n e:Nat}(hb:b=w.heap.size)(hw:w'=w.alloc (.cells #[iv n] e)):Ex w w'/\b< w'.heap.size/\w'.cell? ⟨b,0,none⟩=some (iv n):=by
 subst hb hw;exact⟨Ex.alloc w _,by rw [size_alloc];omega,aa rfl⟩
def D1 (n:Nat):Prop:=∀{D:Nat->Prop} {w:World} {v:Value} {o:List Nat} {l:Lv} {x:Nat} {R:Bool->Sb},l.sz<=n->l.sh true=true->gC D w v o (ah D w l)->l.sz<=1099511627776->(∀w',Ex w w'->R (l.has x) w')->Sc 188 #[v,iv x] w (aw [.b] R)
def EH (n:Nat):Prop:=∀{D:Nat->Prop} {w:World} {v:Value} {l:Lv} {x:Nat} {R:Bool->Sb},l.sz<=n->((∃k a b o r,l= .thr k a b o r .nil/\r.sh true=true)\/∃ps,l= .sum ps .nil/\ps.sh false=true)->ah D w l [v]->l.sz<=1099511627776->
 (∀w',Ex w w'->R (l.has x) w')->Sc 178 #[v,iv x] w (aw [.b] R)
def oC:∀l:Lv,l.len<=l.sz
 | .nil=>OB _
 | .thr _ _ _ _ r n=>by have :=oC n;simp only [Lv.len,Lv.sz];omega
 | .sum ps n=>by have :=oC n;simp only [Lv.len,Lv.sz];omega
 | .part o q n=>by have :=oC n;simp only [Lv.len,Lv.sz];omega
def gC.ex {D:Nat->Prop}{w w':World}{v:Value}{o:List Nat}{l:Lv}(h:gC D w v o (ah D w l))(x:Ex w w'):gC D w' v o (ah D w' l):=az.ex (L:=(o,l)) h x
def Kw {n:Nat}(ht:EH n){D:Nat->Prop}{w:World}{l:Lv}{ts:List Value}{x b3:Nat}(hn:l.sz<=n)(Z:l.sh true=true)(h:ah D w l ts)(β:l.sz<=1099511627776)(hb:b3< w.heap.size)(hc:w.cell? ⟨b3,0,none⟩=some (iv x)):
  BG w 224 [ptr b3] ts (MP l.bw (Lv.has x)):=by
 intro i v w1 hi hx R hR;have H:=h.bw;obtain⟨α,_⟩:=Px.1 hi;have G:i< l.bw.length:=by rw [H.1];exact α
 have he:=H.2 i l.bw[i] v (Ox G) hi;have J:=Oz G;have hs:=Lv.eX l _ J;rw [pP G]at hR;refine nJ v (ptr b3) w1 R ?_;dsimp only [go_sem];refine⟨b3,0,rfl,x,by rw [hx.cell (show b3< _ from hb)];exact hc,?_⟩;exact ht (by omega) (Lv.ku Z _ J) (he.ex hx) (by omega) hR
def yd {n:Nat}(ht:EH n):D1 n:=by
 intro D w v o l x R hn G h H hR;refine ph v x w R ?_;dsimp only [go_sem];intro b3 w4 J Z;obtain⟨x4,l4,c4⟩:=Dk J Z;obtain⟨b,vo,vt,ts,rfl,h2,h3,h4,h5,h6,h7,h8⟩:=h.ex x4;refine⟨b,0,rfl,vt,h5,?_⟩;have hlen:=h8.len;have :=oC l;refine IG (ca:=[ptr b3]) h7 (by kernel_rfl) (Kw ht hn G h8 H l4 c4) (by omega) λw5 x5=>?_
 rw [hlen,<-Lv.cM,Ag,<-Lv.mL];exact hR w5 (Ex.trans x4 x5)
def JX {n:Nat}(ht:D1 n){D:Nat->Prop}{w:World}{l:Lv}{ts:List Value}{x b3:Nat}(hn:l.sz<=n)(Z:l.sh false=true)(h:ah D w l ts)(δ:l.sz<=1099511627776)(hb:b3< w.heap.size)(hc:w.cell? ⟨b3,0,none⟩=some (iv x)):
  BG w 221 [ptr b3] ts (MP l.bw (Lv.has x)):=by
 intro i v w1 hi hx R hR;have H:=h.bw;obtain⟨α,_⟩:=Px.1 hi;have G:i< l.bw.length:=by rw [H.1];exact α
 have he:=H.2 i l.bw[i] v (Ox G) hi;have J:=Oz G;have hs:=Lv.eX l _ J;rw [pP G]at hR;refine lV v (ptr b3) w1 R ?_;dsimp only [go_sem];dsimp only [go_sem,Nat.reduceAdd];refine⟨b3,0,rfl,x,by rw [hx.cell (show b3< _ from hb)];exact hc,?_⟩;obtain⟨o,q,e,hq⟩:=Lv.mZ Z _ J;rw [e]at he hR hs;obtain⟨v',β,h1,h2,_⟩:=he;obtain⟨rfl,rfl⟩:v=v'/\([]:List Value)=β:=by simpa using h1
 simp only [Lv.sz]at hs;refine ht (by omega) hq (gC.ex h2 hx) (by omega) λw2 γ=>?_
 have :=hR w2 γ;simpa [Lv.has]using this
def Jc (k:K)(a b x:Nat):Bool:=(k== .s||k== .m||k== .r)&&(a==x||b==x)
def FM {n:Nat}(ht:D1 n):EH (n+1):=by
 intro D w v l x R hn hl h ξ hR;refine og v x w R ?_;dsimp only [go_sem];dsimp only [go_sem,Nat.reduceAdd];intro b3 w4 ω hw4;obtain⟨x4,l4,c4⟩:=Dk ω hw4;rcases hl with⟨k,a,b,o,r,rfl,hr⟩ | ⟨ps,rfl,hps⟩
 ·obtain⟨_,_,a',b',vr,e,ι,hab,ο,_⟩:=h.ex x4;obtain⟨rfl,_⟩:=Pw e;simp only [Lv.sz]at hn ξ;have η:∀q w',Ex w4 w'->q=r.has x->Jc k a b x=false->R q w':=λq w' H hq hn=>by
   have :=hR w' (Ex.trans x4 H);simp only [Lv.has]at this;unfold Jc at hn;rw [hn,QU,QT,<-hq]at this;exact this
  have δ:∀w',Ex w4 w'->Jc k a b x=true->R true w':=λw' H hn=>by
   have :=hR w' (Ex.trans x4 H);simp only [Lv.has]at this;unfold Jc at hn;rw [hn,R3,R3]at this;exact this
  obtain⟨g,rfl,g2,g3,g4,g5,g6,g7,g8⟩:=ι;have κ:∀q:Bool,q=(k== .s||k== .m||k== .r)->∀w',Ex w4 w'->((k== .s||k== .m||k== .r)=true->(a'=a/\b'=b))->True:=λ _ _ _ _ _=>trivial
  have ς:(k== .s||k== .m||k== .r)=true->a'=a/\b'=b:=by
   intro hk;rcases hab with rfl | rfl | h
   ·cases hk
   ·cases hk
   ·exact h
  refine⟨λq w'=>Ex w4 w'/\q=(k== .s||k== .m||k== .r),⟨g,0,rfl,_,g4,?_⟩,λq β hJ=>?_⟩
  ·cases k
   ·exact ee rfl ⟨Ex.refl _,rfl⟩
   ·exact cH (by dsimp only [K.byte];decide) ⟨g,0,rfl,_,g4,cH (by dsimp only [K.byte];decide) ⟨g,0,rfl,_,g4,Ex.refl _,rfl⟩⟩
   ·exact cH (by dsimp only [K.byte];decide) ⟨g,0,rfl,_,g4,cH (by dsimp only [K.byte];decide) ⟨g,0,rfl,_,g4,Ex.refl _,rfl⟩⟩
   ·exact cH (by dsimp only [K.byte];decide) ⟨g,0,rfl,_,g4,ee rfl ⟨Ex.refl _,rfl⟩⟩
   ·exact cH (by dsimp only [K.byte];decide) ⟨g,0,rfl,_,g4,cH (by dsimp only [K.byte];decide) ⟨g,0,rfl,_,g4,Ex.refl _,rfl⟩⟩
  obtain⟨γ,hq⟩:=hJ;have cg:∀{i:Nat} {u:Value} {w':World},Ex w4 w'->w4.cell? ⟨g,i,none⟩=some u->w'.cell? ⟨g,i,none⟩=some u:=λH h=>by rw [H.cell (show g< _ from g3)];exact h
  have cb:∀{w':World},Ex w4 w'->w'.cell? ⟨b3,0,none⟩=some (iv x):=λH=>by rw [H.cell (show b3< _ from l4)];exact c4
  have dn:∀m:Nat,decide ((m:Int)=(x:Int))=(m==x):=λm=>by
   rw [PG,decide_eq_true_iff,QY];omega
  refine⟨λw'=>Ex w4 w'/\Jc k a b x=false,⟨λw'=>Ex w4 w',λυ J=>⟨J▸Ex.trans γ (Ex.drew β),λμ=>?_,λφ=>?_⟩⟩,λε hJ=>?_⟩
  ·have ν:Ex w4 υ:=J▸Ex.trans γ (Ex.drew β);rw [μ]at hq;obtain⟨rfl,rfl⟩:=ς hq.symm;refine⟨g,0,rfl,a',λw' H=>cg H g5,x,λw' H=>cb H,λha=>⟨g,0,rfl,b',λw' H=>cg H g6,x,λw' H=>cb H,λhb=>?_,λhb=>?_⟩,λha=>?_⟩
   ·rw [dn]at hb;exact δ _ ν (by unfold Jc;rw [<-hq,hb];simp)
   ·rw [dn]at ha hb;exact⟨ν,by unfold Jc;rw [ha,hb];simp⟩
   ·rw [dn]at ha;exact δ _ ν (by unfold Jc;rw [<-hq,ha];simp)
  ·rw [φ]at hq;exact⟨J▸Ex.trans γ (Ex.drew β),by unfold Jc;rw [<-hq];simp⟩
  obtain⟨ζ,κ⟩:=hJ;obtain⟨br,hvr⟩:∃br,vr=ptr br:=by obtain⟨b,_,_,_,e,_⟩:=ο;exact⟨b,e⟩
  refine⟨λw'=>Ex w4 w',λχ Z=>⟨Z▸Ex.trans ζ (Ex.drew ε),g,0,rfl,vr,λw' H=>cg H g7,_,hvr,λ _=>⟨g,0,rfl,vr,λw' H=>cg H g7,x,λw' H=>cb H,?_⟩,λhc=>(by cases hc)⟩⟩;have G:Ex w4 χ:=Z▸Ex.trans ζ (Ex.drew ε);refine ht (by omega) hr (gC.ex ο G) (by omega) λw40 α=>⟨Ex.trans G α,λhq=>⟨g,0,rfl,_,λw' H=>cg H g8,?_⟩,λhq=>⟨Ex.trans G α,η _ _ (Ex.trans G α) hq.symm κ⟩⟩
  refine G9 (D:=D) (ts:=[]) (ca:=[ptr b3]) (p:=λ _=>false) (.inl ⟨rfl,rfl⟩) (by kernel_rfl) (λi z w1 hi=>by simp at hi) (by simp) λw45 θ=>⟨Ex.trans (Ex.trans G α) θ,η _ _ (Ex.trans (Ex.trans G α) θ) (by rw [hq];rfl) κ⟩
 ·obtain⟨_,_,a',b',vp,us,e,ι,hsl,ψ,_⟩:=h.ex x4;obtain⟨rfl,_⟩:=Pw e;simp only [Lv.sz]at hn ξ;obtain⟨g,rfl,g2,g3,g4,g5,g6,g7,g8⟩:=ι;have cg:∀{i:Nat} {u:Value} {w':World},Ex w4 w'->w4.cell? ⟨g,i,none⟩=some u->w'.cell? ⟨g,i,none⟩=some u:=λH h=>by rw [H.cell (show g< _ from g3)];exact h
  refine⟨λq w'=>Ex w4 w'/\q=false,⟨g,0,rfl,_,g4,cH (by decide) ⟨g,0,rfl,_,g4,cH (by decide) ⟨g,0,rfl,_,g4,Ex.refl _,rfl⟩⟩⟩,λq β hJ=>?_⟩;obtain⟨γ,rfl⟩:=hJ;refine⟨λw'=>Ex w4 w',⟨λw'=>Ex w4 w',λυ J=>⟨J▸Ex.trans γ (Ex.drew β),λμ=>(by cases μ),λφ=>J▸Ex.trans γ (Ex.drew β)⟩⟩,λε ζ=>?_⟩;have G:Ex w4 ε.drew:=Ex.trans ζ (Ex.drew ε);refine⟨λw'=>Ex w4 w',λχ Z=>⟨Z▸G,g,0,rfl,_,λw' H=>cg H g7,_,rfl,λhc=>(by cases hc),λ _=>⟨Z▸G,g,0,rfl,vp,λw' H=>cg H g8,?_⟩⟩⟩;subst Z;have hlen:=ψ.len;have :=oC ps;refine G9 (ca:=[ptr b3]) (hsl.ex G) (by kernel_rfl) (JX ht (by omega) hps (ψ.ex G) (by omega) (by have :=G.size;omega) (by rw [G.cell (show b3< _ from l4)];exact c4)) (by omega) λw5 x5=>⟨Ex.trans G x5,?_⟩
  rw [hlen,<-Lv.cM,Ag,<-Lv.mL];have :=hR w5 (Ex.trans x4 (Ex.trans G x5));simpa [Lv.has]using this
def Dz:∀n,EH n
 | 0=>by
  intro G H h J hR;rcases H with⟨k,a,b,o,r,rfl,hr⟩ | ⟨ps,rfl,Z⟩<;>simp [Lv.sz]at G
 | n+1=>FM (yd (Dz n))
def L8 (n:Nat):D1 n:=yd (Dz n)
namespace Lv
def tot:Lv->Nat
 | nil=>0 | thr _ _ _ o r n=>o.length+r.tot+n.tot+1 | sum ps n=>ps.tot+n.tot+1 | part o q n=>o.length+q.tot+n.tot+1
def kB:∀l:Lv,l.sz<=l.tot
 | nil=>OB _
 | thr _ _ _ o r n=>by have :=kB r;have :=kB n;simp only [sz,tot];omega
 | sum ps n=>by have :=kB ps;have :=kB n;simp only [sz,tot];omega
 | part o q n=>by have :=kB q;have :=kB n;simp only [sz,tot];omega
def bQ:∀l m:Lv,(l.app m).tot=l.tot+m.tot
 | nil,m=>by simp [app,tot]
 | thr _ _ _ o r n,m=>by simp only [app,tot,bQ n m];omega
 | sum ps n,m=>by simp only [app,tot,bQ n m];omega
 | part o q n,m=>by simp only [app,tot,bQ n m];omega
def take:Nat->Lv->Lv
 | 0,_=>nil
 | _+1,nil=>nil
 | i+1,thr k a b o r n=>thr k a b o r (n.take i)
 | i+1,sum ps n=>sum ps (n.take i)
 | i+1,part o q n=>part o q (n.take i)
def take_succ:∀(l:Lv) (i:Nat) (h:i< l.bw.length),l.take (i+1)=(l.take i).app (l.bw[i])
 | nil,_,h=>by simp [bw]at h
 | thr k a b o r n,0,_=>by simp [take,bw,app]
 | sum ps n,0,_=>by simp [take,bw,app]
 | part o q n,0,_=>by simp [take,bw,app]
 | thr k a b o r n,i+1,h=>by
  simp only [bw,Ov]at h;have :=take_succ n i (by omega);rw [take,this];rfl
 | sum ps n,i+1,h=>by
  simp only [bw,Ov]at h;have :=take_succ n i (by omega);rw [take,this];rfl
 | part o q n,i+1,h=>by
  simp only [bw,Ov]at h;have :=take_succ n i (by omega);rw [take,this];rfl
def dv:∀(l:Lv),l.take l.bw.length=l
 | nil=>rfl
 | thr k a b o r n=>by simp only [bw,Ov,take,dv n]
 | sum ps n=>by simp only [bw,Ov,take,dv n]
 | part o q n=>by simp only [bw,Ov,take,dv n]
def qi {b:Bool}:∀(l:Lv) (i:Nat),l.sh b=true->(l.take i).sh b=true
 | _,0,_=>rfl
 | nil,_+1,_=>rfl
 | thr _ _ _ _ r n,i+1,h=>by
  cases b
  ·cases h
  ·simp only [sh,take,OA]at*;exact⟨h.1,qi n i h.2⟩
 | sum ps n,i+1,h=>by
  cases b
  ·cases h
  ·simp only [sh,take,OA]at*;exact⟨h.1,qi n i h.2⟩
 | part o q n,i+1,h=>by
  cases b
  ·simp only [sh,take,OA]at*;exact⟨h.1,qi n i h.2⟩
  ·cases h
def gk:∀(l:Lv) (i:Nat),(l.take i).tot<=l.tot
 | _,0=>Pn _
 | nil,_+1=>OB _
 | thr _ _ _ _ r n,i+1=>by have :=gk n i;simp only [take,tot];omega
 | sum ps n,i+1=>by have :=gk n i;simp only [take,tot];omega
 | part o q n,i+1=>by have :=gk n i;simp only [take,tot];omega
def gY:∀(l:Lv),∀e∈l.bw,e.tot<=l.tot
 | nil,_,h=>by cases h
 | thr k a b o r n,e,h=>by
  rcases OY.1 h with rfl | h
  ·simp only [tot];omega
  ·have :=gY n e h;simp only [tot];omega
 | sum ps n,e,h=>by
  rcases OY.1 h with rfl | h
  ·simp only [tot];omega
  ·have :=gY n e h;simp only [tot];omega
 | part o q n,e,h=>by
  rcases OY.1 h with rfl | h
  ·simp only [tot];omega
  ·have :=gY n e h;simp only [tot];omega
def mX:∀{l:Lv},l.sh true=true->l.gb=true
 | nil,_=>rfl
 | thr _ _ _ _ r n,h=>by simp only [sh,OA]at h;exact mX (l:=n) h.2
 | sum ps n,h=>by simp only [sh,OA]at h;exact mX (l:=n) h.2
 | part ..,h=>by cases h
def wg (o:List Nat)(r:List Nat×Lv):(kept o r).1.length+(kept o r).2.tot<=o.length+r.1.length+r.2.tot:=by
 unfold kept;have :=P' (λx=>r.2.has x) (o++r.1);rw [Oy]at this;dsimp only;omega
def mI (o:List Nat)(q m:Lv):prt o q m=(prt o q nil).app m:=by
 unfold prt;split
 ·rfl
 ·split
  ·rw [aY]
  ·rfl
 ·rfl
def eN:∀(l:Lv),(tid l).1.length+(tid l).2.tot<=l.tot
 | nil=>OB _
 | thr k a b o r n=>by
  have G:=eN r;have H:=eN n;have J:=wg o (tid r);simp only [tid,tot];split
  ·simp only [Oy,bQ];omega
  ·split
   ·omega
   ·simp only [tot];omega
 | sum ps n=>by
  have G:=eN ps;have H:=eN n;simp only [tid,tot];unfold spl;split
  ·omega
  ·rename_i o q e;rw [e]at G;simp only [tot]at G;simp only [Oy,bQ];omega
  ·simp only [tot];omega
 | part o q n=>by
  have G:=eN q;have H:=eN n;have J:=wg o (tid q);simp only [tid,tot];rw [mI,bQ];have:(prt (kept o (tid q)).1 (kept o (tid q)).2 nil).tot<=(kept o (tid q)).1.length+(kept o (tid q)).2.tot+1:=by
   unfold prt;split
   ·simp [tot]
   ·rename_i ps e;rw [e];split
    ·simp only [bQ,tot];omega
    ·simp only [tot];omega
   ·simp only [tot];omega
  simp only [ON];omega
def BP:∀{l:Lv} (m:Lv),l.sh false=true->(tid (l.app m)).2=(tid l).2.app (tid m).2
 | nil,m,_=>rfl
 | part o q n,m,h=>by
  simp only [sh,OA]at h;simp only [app,tid,BP m h.2];rw [mI,mI _ _ (tid n).2,cD]
 | thr ..,_,h=>by cases h
 | sum ..,_,h=>by cases h
def eu:∀(l:Lv) (b:Bool),l.sh b=true->(tid l).2.sh b=true
 | nil,b,_=>by cases b<;>rfl
 | thr k a J o r n,b,h=>by
  cases b
  ·cases h
  ·simp only [sh,OA]at h;simp only [tid];split
   ·exact gJ (eu r true h.1) (eu n true h.2)
   ·split
    ·exact eu n true h.2
    ·simp only [sh,OA];exact⟨eu r true h.1,eu n true h.2⟩
 | sum ps n,b,h=>by
  cases b
  ·cases h
  ·simp only [sh,OA]at h;have G:=eu ps false h.1;have H:=eu n true h.2;simp only [tid];unfold spl;split
   ·exact H
   ·rename_i o q e;rw [e]at G;simp only [sh,OA]at G;exact gJ G.1 H
   ·simp only [sh,OA];exact⟨G,H⟩
 | part o q n,b,h=>by
  cases b
  ·simp only [sh,OA]at h;have G:=eu q true h.1;have H:=eu n false h.2;simp only [tid];rw [mI];refine gJ ?_ H;unfold prt;split
   ·rfl
   ·rename_i ps e;have G:(kept o (tid q)).2.sh true=true:=G;rw [e]at G;simp only [sh,OA]at G;split
    ·rw [aY];exact G.1
    ·simp only [sh,OA];exact⟨by rw [e];simp [sh,G.1],trivial⟩
   ·simp only [sh,OA];exact⟨G,trivial⟩
  ·cases h
end Lv
def aM.fr {e B:Nat}{w:World}{v:Value}{l:List Value}(h:aM e B w v l){g:Nat}(H:v.ownBlock=some g)(j:Nat):w.frozen? ⟨g,j,none⟩=false:=by
 rcases h.2 with⟨rfl,Z⟩ | ⟨J,cap,cur,rfl,hb,G,_⟩
 ·cases H
 ·have e:J=g:=Pr H;subst e;unfold World.frozen?;simp only [G];simp
def tK {D:Nat->Prop}{w:World}{v:Value}{o:List Nat}(h:dt D w v (o.map iv))(hl:o.length<=1099511627776){R:Value->Sb}(hR:∀H w',Ex w w'->aM 3 w.heap.size w' H (o.map iv)->R H w'):
  Sc 151 #[v] w (aw [.v] R):=by
 refine nG v w R ?_;dsimp only [go_sem];rcases id h with⟨rfl,e⟩ | ⟨b,off,cap,rfl,h1,h2,h3⟩
 ·exact⟨_,_,_,rfl,λ _=>hR _ _ (Ex.refl w) (e▸aM.nil _ _ _),λh=>(by cases h)⟩
 ·refine⟨_,_,_,rfl,λh=>(by cases h),λ _ b5 w6 Z G=>?_⟩;have J:Ex w w6:=G▸Ex.alloc w _;have ho:aM 3 w.heap.size w6 (.slice (some ⟨b5,0,none⟩) 0 0) []:=by
   subst Z G;refine⟨rfl,.inr ⟨_,0,#[],rfl,OB _,?_,by simp,by unfold maxLen;omega,rfl,rfl⟩⟩;unfold World.alloc;simp
  refine aM.push ho J.size (h.ex J) (IB o) (by omega) (by simp;exact hl) λH w' α hg hn=>hR H w' ?_ α
  refine Ex.below J (Kp.below (S:=λg=>g=b5) (Kp.aP hg λg e=>(Pr e).symm) J.size λg hg e=>by omega)
def bg {b:Nat}:∀(cs:List Value) (w:World) (off:Nat),Kr b w (w.setCells b off cs)/\(∀g j,(w.setCells b off cs).frozen? ⟨g,j,none⟩=w.frozen? ⟨g,j,none⟩)/\(∀j,j< off->(w.setCells b off cs).cell? ⟨b,j,none⟩=w.cell? ⟨b,j,none⟩)/\
  ∀j,(∀i,i< cs.length->∃u,w.cell? ⟨b,off+i,none⟩=some u)->j< cs.length->(w.setCells b off cs).cell? ⟨b,off+j,none⟩=cs[j]?
 | [],w,off=>⟨Kr.refl b w,λ _ _=>rfl,λ _ _=>rfl,λ _ _ h=>by simp at h⟩
 | c::cs,w,off=>by
  obtain⟨J,Z,G,h4⟩:=bg cs (w.setCell ⟨b,off,none⟩ c) (off+1);refine⟨Kr.trans (Kr.set w off c) J,λg j=>(Z g j).trans (OS _ _ _ _),λj H=>(G j (by omega)).trans (OD _ _ _ _ λe=>by injection e with e1 e2;omega),λj hu H=>?_⟩;cases j with
  | zero=>
   obtain⟨u,hu⟩:=hu 0 (by simp);exact(G off (by omega)).trans (OQ _ _ _ hu)
  | succ j=>
   have :=h4 j (λi hi=>by
    obtain⟨u,hu⟩:=hu (i+1) (by simpa using hi);refine⟨u,?_⟩;rw [OD _ _ _ _ (λe=>by injection e with e1 e2;omega),show off+1+i=off+(i+1) by omega];exact hu) (by simpa using H)
   rw [show off+1+j=off+(j+1) by omega]at this;exact this
def dt.Nl {D:Nat->Prop}{w:World}{v:Value}{o:List Nat}(h:dt D w v (o.map iv)){i:Int}{x:Nat}(G:0<=i)(H:o[i.toNat]?=some x){Q:Int->Prop}(J:Q x):
  ∃(b off len cap:Nat),v=Value.slice (some ⟨b,off,none⟩) len cap/\0<=i/\i< (len:Int)/\∃n:Int,World.cell? w ⟨b,off+Int.toNat i* 1,none⟩=some (.int .i64 n)/\Q n:=by
 obtain⟨b,off,len,cap,Z,h2,h3,s,h4,h5⟩:=h.get (i:=i) (x:=iv x) (Q:=λs=>s=iv x) G (by rw [Qm,H];rfl) rfl;exact⟨b,off,len,cap,Z,h2,h3,x,by rw [h4,h5],J⟩
def JT (w:World)(S:Nat->Prop)(f:Nat)(ca:List Value)(p:Nat->Bool):Prop:=
 ∀(x:Nat) (w1:World),Kp w w1 S->∀{R:Bool->Sb},(∀G,Ex w1 G->R (p x) G)->Sc f (List.toArray ([iv x]++ca)) w1 (aw [.b] R)
def Ip {D S:Nat->Prop}{w:World}{s:Value}{o:List Nat}(hs:dt D w s (o.map iv)){f:Nat}{ca:List Value}(hf:hasR gN f=true){p:Nat->Bool}(hp:JT w S f ca p)(hl:o.length<=1099511627776){R:Int->Sb}
  (hR:∀(n:Int) w',Ex w w'->((n= -1/\∀x∈o,p x=false)\/(∃i:Nat,n=i/\i< o.length/\(∀x∈o.take i,p x=false)/\∀x,o[i]?=some x->p x=true))->R n w'):
  Sc 197 #[s,.func (.func f) #[] (List.toArray ca)] w (aw [.i] R):=by
 refine js _ _ w R ?_;dsimp only [go_sem];dsimp only [go_sem,Nat.reduceAdd];obtain⟨a,cap,e⟩:=hs.slice;rw [OM]at e;refine⟨a,_,cap,e,λx w'=>∃i:Nat,x=i/\i<=o.length/\Ex w w'/\∀x∈o.take i,p x=false,λx _=>(o.length - x).toNat,⟨0,rfl,by omega,Ex.refl w,λj h=>by simp at h⟩,λx w1 hI=>?_⟩;obtain⟨i,rfl,hi,H,hn⟩:=hI;refine⟨λJ=>?_,λJ=>?_⟩
 ·have J:=OW J;have G:i< o.length:=by omega
  refine(hs.ex H).Nl (i:=i) (x:=o[i]) (by omega) (by simp [G]) ⟨f,ca,rfl,hf,hp o[i] w1 (Kp.ab H _) λw2 Z=>⟨λhq=>?_,λhq=>⟨by omega,⟨i+1,by omega,by omega,Ex.trans H Z,λx hj=>?_⟩,by dsimp only;omega⟩⟩⟩
  ·exact hR _ w2 (Ex.trans H Z) (.inr ⟨i,rfl,G,hn,λx H=>by rw [Ox G]at H;cases H;exact hq⟩)
  ·rw [OC G]at hj;rcases OH.1 hj with h | h
   ·exact hn x h
   ·rw [OL.1 h];exact hq
 ·have J:=OX J;have:i=o.length:=by omega
  subst this;rw [O4]at hn;exact hR _ w1 H (.inl ⟨rfl,hn⟩)
def Hy {B:Nat}{w:World}{s:Value}{o:List Nat}(h:aM 3 B w s (o.map iv)){f:Nat}{ca:List Value}(hf:hasR gN f=true){p:Nat->Bool}(hp:JT w (λg=>s.ownBlock=some g) f ca p)(hl:o.length<=1099511627776){R:Value->Sb}
  (hR:∀v' w',oneV v'=true->Kp w w' (λg=>s.ownBlock=some g)->dt (λg=>s.ownBlock=some g) w' v' ((o.filter λx=> !p x).map iv)->R v' w'):
  Sc 150 #[s,.func (.func f) #[] (List.toArray ca)] w (aw [.v] R):=by
 refine dU _ _ w R ?_;dsimp only [go_sem];dsimp only [go_sem,Nat.reduceAdd];have ζ:dt (λg=>s.ownBlock=some g) w s (o.map iv):=h.DO λg hg=>hg
 have ν:oneV s=true:=by
  rcases h.2 with⟨rfl,_⟩ | ⟨g,cap,cur,rfl,_⟩<;>rfl
 refine Ip ζ hf hp hl λn w1 x1 hn=>⟨λhc=>?_,λhc=>?_⟩
 ·have hc:n= -1:=OW hc;rcases hn with⟨_,hn⟩ | ⟨i,e,_⟩
  ·refine hR _ _ ν (Kp.ab x1 _) ?_;rw [Qq.2 λx hx=>by simp [hn x hx]];exact ζ.ex x1
  ·omega
 have hc:¬n= -1:=OX hc;obtain⟨i0,rfl,η,hn,ξ⟩:∃i:Nat,n=i/\i< o.length/\(∀x∈o.take i,p x=false)/\∀x,o[i]?=some x->p x=true:=by
  rcases hn with⟨e,_⟩ | h
  ·exact absurd e hc
  ·exact h
 rcases id h.2 with⟨rfl,κ⟩ | ⟨g,cap,cur,rfl,hb,hg,hle,ψ,ω,htk⟩
 ·simp at κ;subst κ;simp at η
 rw [OM]at*;have θ:∀t,t< o.length->∃x,w1.cell? ⟨g,t,none⟩=some (iv x)/\o[t]?=some x:=λt G=>by
  rcases ζ.ex x1 with⟨e,_⟩ | ⟨b',off,χ,e,h1,h2,h3⟩
  ·cases e
  ·injection e with e1 e2 e3
   injection e1 with e1
   injection e1 with e1 e4
   subst e1 e4;have :=h3 t (iv o[t]) (by simp [G]);rw [O6]at this;exact⟨_,this,Ox G⟩
 have ο:∀t,w1.frozen? ⟨g,t,none⟩=false:=λt=>by
  rw [O7 (w:=w) (x1.block g (Ph.1 hg).1)];exact h.fr rfl t
 let q:Nat->Bool:=λx=> !p x
 refine⟨by omega,λi j w'=>∃(H J:Nat) (c:Nat->Nat),i=H/\j=J/\H< J/\J<=o.length/\Kp w w' (λx=>g=x)/\(∀t,t< o.length->w'.cell? ⟨g,t,none⟩=some (iv (c t)))/\(∀t,w'.frozen? ⟨g,t,none⟩=false)/\
  (List.range H).map c=(o.take J).filter q/\∀t,J<=t->t< o.length->o[t]?=some (c t),λ _ j _=>(o.length - j).toNat,?_,λi j w2 hI=>?_⟩
 ·refine⟨i0,i0+1,λt=>(o[t]?).getD 0,rfl,by omega,by omega,by omega,Kp.ab x1 _,λt G=>?_,ο,?_,λt _ G=>by simp [G]⟩
  ·obtain⟨x,h1,h2⟩:=θ t G;show w1.cell? _=some (iv ((o[t]?).getD 0));rw [h2];exact h1
  ·have e1:(List.range i0).map (λt=>(o[t]?).getD 0)=o.take i0:=by
    refine List.ext_getElem? λt=>?_
    rw [Qm,Q3];by_cases G:t< i0
    ·have ς:t< o.length:=by omega
     rw [O' G];simp [G,ς]
    ·rw [OP G,Ru (by simp;omega)];rfl
   rw [e1,OC η,PD,Qq.2 λx hx=>by simp [q,hn x hx]];have :=ξ _ (Ox η);simp [q,this]
 ·obtain⟨H,J,c,rfl,rfl,hij,hj,k2,Z,ε,hm,hd⟩:=hI;refine⟨_,_,_,rfl,λhc=>?_,λhc=>?_⟩
  ·have hc:=OW hc;have α:J< o.length:=by omega
   have hx:=hd J (OB _) α;refine⟨g,0,_,_,rfl,by omega,hc,(c J:Int),?_,f,ca,rfl,hf,hp (c J) w2 (Kp.mono (λx e=>PA some e) k2) λw3 x3=>⟨λhq=>?_,λhq=>?_⟩⟩
   ·rw [O6,O8,OG];exact Z J α
   ·have hq:q (c J)=true:=hq;have β:g< w2.heap.size:=O1 (Ph.1 hg).1 k2.size;have γ:=x3.block g β;refine⟨g,0,_,_,rfl,by omega,by omega,⟨⟨iv (c H),?_⟩,?_⟩,λw4 ι=>⟨by omega,by omega,⟨H+1,J+1,aI c H (c J),by omega,by omega,by omega,by omega,?_,λt G=>?_,λt=>?_,?_,λt h1 h2=>?_⟩,by dsimp only;omega⟩⟩
    ·rw [O6,O8,OG,Ow (w:=w2) γ];exact Z H (by omega)
    ·rw [O7 (w:=w2) γ];exact ε _
    ·rw [ι];exact Kp.set (S:=λx=>g=x) (Kp.trans k2 (Kp.ab x3 λ _=>False) λ _ _ h=>h.elim) rfl _
    ·rw [ι,O6,O8,OG];by_cases e:t=H
     ·subst e;have:aI c t (c J) t=c J:=by simp [aI]
      rw [this];refine OQ _ _ _ (u:=iv (c t)) ?_;rw [Ow (w:=w2) γ];exact Z t G
     ·have:aI c H (c J) t=c t:=by simp [aI,e]
      rw [this,OD _ _ _ _ (λh=>by injection h with h1 h2;exact e h2.symm),Ow (w:=w2) γ];exact Z t G
    ·rw [ι,OS,O7 (w:=w2) γ];exact ε t
    ·rw [Qw,Pm,OC α,PD,<-hm];rw [Ox α]at hx;have e0:o[J]=c J:=Pr hx;rw [e0]
     congr 1
     ·refine PX λt G=>?_
      have:t≠H:=by have :=PH.1 G;omega
      simp [aI,this]
     ·simp [aI,hq]
    ·have:t≠H:=by omega
     rw [hd t (by omega) h2];simp [aI,this]
   ·have hq:q (c J)=false:=hq;refine⟨by omega,⟨H,J+1,c,rfl,by omega,by omega,by omega,Kp.trans k2 (Kp.ab x3 λ _=>False) (λ _ _ h=>h.elim),λt G=>?_,λt=>?_,?_,λt h1 h2=>hd t (by omega) h2⟩,by dsimp only;omega⟩
    ·have β:g< w2.heap.size:=O1 (Ph.1 hg).1 k2.size;rw [x3.cell (show g< _ from β)];exact Z t G
    ·have β:g< w2.heap.size:=O1 (Ph.1 hg).1 k2.size;rw [O7 (w:=w2) (x3.block g β)];exact ε t
    ·rw [OC α,PD,hm];rw [Ox α]at hx;have e0:o[J]=c J:=Pr hx;rw [e0];simp [hq]
  ·have hc:=OX hc;have α:J=o.length:=by omega
   subst α;rw [O4]at hm;have β:g< w2.heap.size:=O1 (Ph.1 hg).1 k2.size;have ez:Int.toNat 0=0:=rfl;have hlen:H=(o.filter q).length:=by rw [<-hm];simp
   have fin:∀w',Kp w w' (λx=>g=x)->(∀t,t< H->w'.cell? ⟨g,t,none⟩=some (iv (c t)))->R (Value.slice (if cap=Int.toNat 0 then some (⟨g,0,none⟩:Addr)else Option.map (λa:Addr=>a.add (Int.toNat 0* 1)) (some (⟨g,0,none⟩:Addr))) (Int.toNat (H:Int) - Int.toNat 0) (cap - Int.toNat 0)) w':=by
    intro w' k υ;have e:(if cap=Int.toNat 0 then some (⟨g,0,none⟩:Addr)else Option.map (λq:Addr=>q.add (Int.toNat 0* 1)) (some (⟨g,0,none⟩:Addr)))=some ⟨g,0,none⟩:=by
     split
     ·rfl
     ·simp [Addr.add,ez]
    rw [e,ez];refine hR _ _ rfl (Kp.mono (λx e=>PA some e) k) (.inr ⟨g,0,cap - 0,?_,rfl,O1 (Ph.1 hg).1 k.size,λt x hx=>?_⟩)
    ·congr 1
     rw [OM];show H - 0=(o.filter q).length;omega
    ·have hx:(o.filter q).map iv=(o.filter λx=> !p x).map iv:=rfl;rename_i δ;rw [<-hx,<-hm,Qm,Qm]at δ;rw [O6];by_cases G:t< H
     ·rw [List.getElem?_range G]at δ;cases δ;exact υ t G
     ·rw [Ru (by simp;omega)]at δ;cases δ
   refine⟨_,_,_,rfl,by omega,by omega,by omega,_,_,_,rfl,?_⟩;by_cases h0:o.length - H=0
   ·refine .inl ⟨by rw [OG,OG];exact h0,_,_,_,rfl,by omega,by omega,by omega,fin w2 k2 λt G=>Z t (by omega)⟩
   ·have φ:¬cap=H:=by omega
    refine .inr ⟨g,H,?_,λt G=>⟨⟨_,Z (H+t) (by rw [OG,OG]at G;omega)⟩,ε _⟩,λw3 μ=>⟨_,_,_,rfl,by omega,by omega,by omega,fin w3 ?_ λt G=>?_⟩⟩
    ·rw [OG,OP φ];simp only [P8,Addr.add];simp
     try omega
    ·rw [μ];exact Kp.trans k2 (bg _ w2 H).1 λx _ e=>e.symm
    ·rw [μ,(bg _ w2 H).2.2.1 t G];exact Z t (by omega)
def Lv.isSum1:Lv->Bool
 | .sum _ .nil=>true
 | _=>false
def As (o:List Nat)(q:Lv):Lv.prt o q .nil=if q.isNil=true then .nil else if(o.isEmpty&&q.isSum1)=true then(match q with | .sum ps .nil=>ps | q=> .part o q .nil)else .part o q .nil:=by
 cases q with
 | nil=>rfl
 | thr k a b G r n=>cases o<;>rfl
 | part G H n=>cases o<;>rfl
 | sum ps n=>
  cases n with
  | nil=>cases o<;>simp [Lv.prt,Lv.isNil,Lv.isSum1,Lv.aY]
  | thr=>cases o<;>rfl
  | sum=>cases o<;>rfl
  | part=>cases o<;>rfl
section
variable {D:Nat->Prop} {w:World} {v:Value} {o:List Nat} {l:Lv}
def mG (h:gC D w v o (ah D w l)){R:Bool->Sb}(hR:R l.isNil w):Sc 173 #[v] w (aw [.b] R):=by
 refine kY v w R ?_;dsimp only [go_sem];dsimp only [go_sem,Nat.reduceAdd];obtain⟨b,vo,vt,ts,rfl,J,Z,h4,h5,h6,G,H⟩:=h;obtain⟨a,cap,e⟩:=G.slice;refine⟨b,0,rfl,vt,h5,a,_,cap,e,?_⟩;have:decide ((ts.length:Int)=0)=l.isNil:=by
  rw [H.len,Lv.dH,PG];simp only [OK];omega
 rw [this];exact hR
def JC (h:gC D w v o (ah D w l))(hs:l.sh true=true){R:Bool->Sb}(hR:R (o.isEmpty&&l.isSum1) w):Sc 174 #[v] w (aw [.b] R):=by
 refine nK v w R ?_;dsimp only [go_sem];dsimp only [go_sem,UInt8.reduceOfNat];obtain⟨b,vo,vt,ts,rfl,h2,h3,h4,h5,h6,Z,h8⟩:=h;obtain⟨a,cap,e⟩:=h6.slice;obtain⟨a',J,e'⟩:=Z.slice;rw [OM]at e;have hlen:=h8.len;refine⟨b,0,rfl,vo,h4,a,_,cap,e,λH=>⟨b,0,rfl,vt,h5,a',_,J,e',λG=>?_,λG=>?_⟩,λH=>?_⟩
 ·have H:=OW H;have G:=OW G;have ho:o.isEmpty=true:=by
   rw [RH];exact Pa (by omega)
  rw [ho,Qa]at hR;cases l with
  | nil=>
   have:ts.length=0:=hlen;omega
  | thr k x y o' r n=>
   have hn:n= .nil:=by
    have:n.len=0:=by simp only [Lv.len]at hlen;omega
    cases n<;>first | rfl | simp [Lv.len]at this
   subst hn;obtain⟨t,α,a1,b1,vr,rfl,⟨g,rfl,g2,g3,g4,_⟩,_⟩:=h8;refine⟨b,0,rfl,vt,h5,Z.get (i:=0) (x:=ptr g) (by omega) rfl ⟨g,0,rfl,_,g4,?_⟩⟩;have:decide (k.byte=43)=false:=by cases k<;>rfl
   rw [this];exact hR
  | sum ps n=>
   have hn:n= .nil:=by
    have:n.len=0:=by simp only [Lv.len]at hlen;omega
    cases n<;>first | rfl | simp [Lv.len]at this
   subst hn;obtain⟨t,α,a1,b1,vp,us,rfl,⟨g,rfl,g2,g3,g4,_⟩,_⟩:=h8;exact⟨b,0,rfl,vt,h5,Z.get (i:=0) (x:=ptr g) (by omega) rfl ⟨g,0,rfl,_,g4,hR⟩⟩
  | part o' q n=>cases hs
 ·have G:=OX G;have:l.isSum1=false:=by
   cases l with
   | sum ps n=>
    cases n with
    | nil=>
     have:ts.length=1:=hlen;omega
    | _=>rfl
   | _=>rfl
  rw [this,Bool.and_false]at hR;exact hR
 ·have H:=OX H;have:o.isEmpty=false:=by
   cases o with
   | nil=>simp at H
   | cons=>rfl
  rw [this,RE]at hR;exact hR
end
structure TI (w w':World)(b7 b9:Nat)(O:List Nat)(L:Lv)(ts:List Value)(M X:Nat->Prop):Prop where
 ex:Ex w w'
 bd:ke w.heap.size w' b7 O ts M
 th:ah (λg=>(w.heap.size<=g/\¬M g/\¬X g)/\g< w'.heap.size) w' L ts
 c9:w'.cell? ⟨b9,0,none⟩=some (ptr b7)
 l9:b9< w'.heap.size
 h9:w.heap.size<=b9
 x9:X b9
 mx:∀g,M g->¬X g
 xl:∀g,X g->g< w'.heap.size
section
variable {w w' w'':World} {b7 b9:Nat} {O:List Nat} {L:Lv} {ts:List Value} {M X Y:Nat->Prop}
def TI.NI (h:TI w w' b7 b9 O L ts M X){S:Nat->Prop}(k:Kp w' w'' S)(J:∀g,S g->X g/\g≠b9/\w.heap.size<=g)(hY:∀g,X g->Y g)(H:∀g,Y g->X g\/(w'.heap.size<=g/\g< w''.heap.size)):TI w w'' b7 b9 O L ts M Y:=by
 have hn:∀g,g< w'.heap.size->¬X g->¬Y g:=λg G Z hy=>(H g hy).elim Z λh=>by omega
 refine⟨Ex.below h.ex (Kp.below k h.ex.size λg G e=>by have :=(J g e).2.2;omega),h.bd.kp k λg G e=>h.mx g G (J g e).1,?_,?_,O1 h.l9 k.size,h.h9,hY b9 h.x9,λg G=>hn g (h.bd.mr g G).2 (h.mx g G),λg G=>(H g G).elim (λZ=>O1 (h.xl g Z) k.size) λh=>h.2⟩
 ·refine ah.sub (λg _ G=>⟨⟨G.1.1,G.1.2.1,hn g G.2 G.1.2.2⟩,O1 G.2 k.size⟩) (ah.kp k (λg G e=>G.1.2.2 (J g e).1) h.th)
 ·rw [Ow (w:=w') (k.block b9 h.l9 λe=>(J b9 e).2.1 rfl)];exact h.c9
def TI.Ob (h:TI w w' b7 b9 O L ts M X){S:Nat->Prop}(k:Kp w' w'' S)(G:∀g,S g->X g/\g≠b9/\w.heap.size<=g):TI w w'' b7 b9 O L ts M X:=h.NI k G (λ _ h=>h) λ _ h=> .inl h
def TI.ext (h:TI w w' b7 b9 O L ts M X)(x:Ex w' w''):TI w w'' b7 b9 O L ts M X:=h.Ob (Kp.ab x λ _=>False) λ _ h=>h.elim
def TI.HD (h:TI w w' b7 b9 O L ts M X)(G:∀g,Y g->X g)(Z:Y b9):TI w w' b7 b9 O L ts M Y:=
 ⟨h.ex,h.bd,ah.sub (λg J hd=>⟨⟨hd.1.1,hd.1.2.1,λH=>hd.1.2.2 (G g H)⟩,hd.2⟩) h.th,h.c9,h.l9,h.h9,Z,λg hm H=>h.mx g hm (G g H),λg J=>h.xl g (G g J)⟩
def TI.H2 (h:TI w w' b7 b9 O L ts M X){D2:Nat->Prop}{v2:Value}{O2:List Nat}{L2:Lv}(hl:az D2 w' (O2,L2) v2)(hd:∀g,g< w'.heap.size->D2 g->w.heap.size<=g/\¬M g/\¬X g)
  (hb:O.length+O2.length<=1099511627776/\ts.length+L2.len<=1099511627776) {R:Sb} (hR:∀w'' β M',TI w w'' b7 b9 (O++O2) (L.app L2) β M' X->Kp w' w'' M->R w''):
  Sc 153 #[ptr b7,v2] w' (aw [] R):=by
 obtain⟨γ,δ,H⟩:=az.ths (hl.sub (E:=λg=>(w.heap.size<=g/\¬M g/\¬X g)/\g< w'.heap.size) λg G ε=>⟨hd g G ε,G⟩);have Z:=h.ex.size;refine qd h.bd Z δ H.all (λg G=>G.1.2.1) ⟨hb.1,by rw [H.len];exact hb.2⟩ λw3 M' J ζ α=>hR w3 (ts++γ) M' ⟨?_,ζ,?_,?_,O1 h.l9 J.size,h.h9,h.x9,?_,λg G=>O1 (h.xl g G) J.size⟩ J
 ·exact Ex.below h.ex (Kp.below J Z λg G e=>by have :=(h.bd.mr g e).1;omega)
 ·have key:∀{l:Lv} {us:List Value},ah (λg=>(w.heap.size<=g/\¬M g/\¬X g)/\g< w'.heap.size) w' l us->ah (λg=>(w.heap.size<=g/\¬M' g/\¬X g)/\g< w3.heap.size) w3 l us:=λht=>
   ah.sub (λg _ G=>⟨⟨G.1.1,λhm=>(α g hm).elim G.1.2.1 λh=>by omega,G.1.2.2⟩,O1 G.2 J.size⟩) (ah.kp J (λg G=>G.1.2.1) ht)
  exact ah.app (key h.th) (key H)
 ·rw [Ow (w:=w') (J.block b9 h.l9 λe=>h.mx b9 e h.x9)];exact h.c9
 ·intro g hm hx;rcases α g hm with h1 | h1
  ·exact h.mx g h1 hx
  ·have :=h.xl g hx;omega
end
section
variable {w w':World} {b7 b9:Nat} {O:List Nat} {L:Lv} {ts:List Value} {M X:Nat->Prop}
def TI.push (h:TI w w' b7 b9 O L ts M X){g:Nat}{e:Lv}(he:ah (λg=>(w.heap.size<=g/\¬M g/\¬X g)/\g< w'.heap.size) w' e [ptr g])(hl:ts.length+1<=1099511627776){K:Sb}(hK:∀w'' ts' M',TI w w'' b7 b9 O (L.app e) ts' M' X->K w''):
  ∃Z:Sb,∀γ:World,γ=World.drew w'->Z γ/\∃v168:Value,(∀w',Z w'->World.cell? w' ⟨b9,0,none⟩=some v168)/\∃ν:Value,(∀w',Z w'->World.cell? w' ⟨b9,0,none⟩=some ν)/\∃(ξ ο:Nat),ν=Value.pointer (some ⟨ξ,ο,none⟩)/\
   ∃δ:Value,(∀w',Z w'->World.cell? w' ⟨ξ,(ο+1),none⟩=some δ)/\∀(ς:Nat) (H:World),ς=Array.size (World.heap γ)->H=World.alloc γ (Obj.cells #[(Value.pointer (some ⟨g,0,none⟩))] 130)->Z H/\
   ∃(J n176 ε:Nat) (κ β:List Value),World.ownsRow H J 130 1 δ n176 κ/\J<=Array.size (World.heap H)/\fp H (Value.slice (some ⟨ς,0,none⟩) 1 1) ε 1 β/\(n176+ε<=maxLen/\(n176+ε)* 8<=140737488355328)/\
   ∀(ζ:Value) (α:World),World.ownsRow α J 130 1 ζ (n176+ε) (κ++β)->World.grownBy H α (Value.ownBlock δ)->(∀b:Nat,Value.ownBlock ζ=some b->Value.ownBlock δ=some b\/Array.size (World.heap H)<=b)->Z α/\
   ∃(η θ:Nat),v168=Value.pointer (some ⟨η,θ,none⟩)/\oneV ζ=true/\((∃u184:Value,World.cell? α ⟨η,(θ+1),none⟩=some u184)/\World.frozen? α ⟨η,(θ+1),none⟩=false)/\∀υ:World,υ=World.setCell α ⟨η,(θ+1),none⟩ ζ->K υ:=by
 obtain⟨h1,hle,h3,hr,h4,vo,vt,h5,h6,h7,h8,h9,h10,h11⟩:=h.bd;have hb7:b7< w'.heap.size:=h1;have hn9:b9≠b7:=λe=>h.mx b7 h3 (e▸h.x9)
 have hv9:vt.ownBlock≠some b9:=λe=>h.mx b9 (h10 b9 e).1 h.x9
 refine⟨λw2=>Kp w' w2 λg=>vt.ownBlock=some g,λw1 φ=>⟨φ▸Kp.ab (Ex.drew w') _,ptr b7,λw2 k=>?_,ptr b7,λw2 k=>?_,b7,0,rfl,vt,λw2 k=>?_,λb2 w2 hb2 χ=>?_⟩⟩
 ·rw [Ow (w:=w') (k.block b9 h.l9 hv9)];exact h.c9
 ·rw [Ow (w:=w') (k.block b9 h.l9 hv9)];exact h.c9
 ·rw [Ow (w:=w') (k.block b7 h1 λe=>(h10 b7 e).2 rfl)];exact h6
 have x2:Ex w' w2:=Ex.trans (φ▸Ex.drew w') (χ▸Ex.alloc w1 _);have s1:w1.heap.size=w'.heap.size:=by rw [φ];rfl
 have s2:w2.heap.size=w1.heap.size+1:=by rw [χ,size_alloc]
 refine⟨Kp.ab x2 _,?_⟩;have hsl:dt (λx=>x=b2) w2 (.slice (some ⟨b2,0,none⟩) 1 1) [ptr g]:=by
  refine .inr ⟨b2,0,1,rfl,rfl,by omega,λi x G=>?_⟩;rw [O6,χ,hb2];refine aa ?_
  match i,G with
  | 0,G=>simpa using G
  | i+1,G=>simp at G
 refine aM.push (h8.kp (Kp.ab x2 λ _=>False) λ _ _ h=>h) (Pq h.ex.size x2.size) hsl rfl (by omega) (by simpa using hl) λv3 w3 ψ hg3 hn3=>?_
 have k23:Kp w2 w3 λg=>vt.ownBlock=some g:=Kp.aP hg3 λg h=>h
 have k3:Kp w' w3 λg=>vt.ownBlock=some g:=Kp.trans (Kp.ab x2 _) k23 λg _ h=>h
 have ω:=k3.block b7 h1 λe=>(h10 b7 e).2 rfl
 have hv3:oneV v3=true:=by rcases ψ.2 with⟨rfl,_⟩ | ⟨g,cap,cur,rfl,_⟩<;>rfl
 have c31:w3.cell? ⟨b7,1,none⟩=some vt:=by rw [Ow (w:=w') ω];exact h6
 have c30:w3.cell? ⟨b7,0,none⟩=some vo:=by rw [Ow (w:=w') ω];exact h5
 have f3:∀j,w3.frozen? ⟨b7,j,none⟩=false:=λj=>by rw [O7 (w:=w') ω];exact h4 j
 refine⟨k3,b7,0,rfl,hv3,⟨⟨vt,c31⟩,f3 1⟩,λw4 μ=>?_⟩;have k4:Kr b7 w3 w4:=μ▸Kr.set w3 1 _;have ι:Kp w' w4 M:=Kp.trans (Kp.mono (λg e=>(h10 g e).1) k3) k4 λg _ e=>e▸h3
 have s3:=k3.size;have s23:=k23.size;have s4:=k4.size;have hnb:∀x,v3.ownBlock=some x->vt.ownBlock=some x\/w'.heap.size<=x:=λx G=>(hn3 x G).elim .inl λh=> .inr (by omega)
 have h3b:∀x,v3.ownBlock=some x->x≠b7:=λx G=>(hnb x G).elim (λe=>(h10 x e).2) λe=>by omega
 refine hK w4 (ts++[ptr g]) (λx=>M x\/(w'.heap.size<=x/\x< w4.heap.size)) ⟨?_,⟨by omega,hle,.inl h3,λx G=>?_,λj=>?_,vo,v3,?_,?_,?_,?_,λx G=>⟨.inl (h9 x G).1,(h9 x G).2⟩,λx G=>⟨?_,h3b x G⟩,λx G e=>?_⟩,?_,?_,O1 h.l9 ι.size,h.h9,h.x9,λx G hX=>?_,λx G=>O1 (h.xl x G) ι.size⟩
 ·exact Ex.below h.ex (Kp.below ι h.ex.size λx G e=>by have :=(hr x e).1;omega)
 ·have hB:=h.ex.size;rcases G with G | G
  ·have :=hr x G;omega
  ·omega
 ·rw [μ,OS];exact f3 j
 ·rw [μ,OD _ _ _ _ (by simp)];exact c30
 ·rw [μ];exact OQ _ _ _ c31
 ·exact(h7.kp k3 λx G e=>h11 x G e).kp k4 λx G=>(h9 x G).2
 ·exact aM.kp ψ k4 h3b
 ·have :=(ψ.block x G).2;exact(hnb x G).elim (λe=> .inl (h10 x e).1) λe=> .inr ⟨e,by omega⟩
 ·rcases hnb x e with e1 | e1
  ·exact h11 x G e1
  ·have :=(h7.block x G).2;omega
 ·have key:∀{l:Lv} {us:List Value},ah (λg=>(w.heap.size<=g/\¬M g/\¬X g)/\g< w'.heap.size) w' l us->ah (λg=>(w.heap.size<=g/\¬(M g\/(w'.heap.size<=g/\g< w4.heap.size))/\¬X g)/\g< w4.heap.size) w4 l us:=λht=>
   ah.sub (λg _ hg=>⟨⟨hg.1.1,λhm=>hm.elim hg.1.2.1 λh=>by omega,hg.1.2.2⟩,O1 hg.2 ι.size⟩) (ah.kp ι (λg hg=>hg.1.2.1) ht)
  exact ah.app (key h.th) (key he)
 ·rw [Ow (w:=w') (ι.block b9 h.l9 λe=>h.mx b9 e h.x9)];exact h.c9
 ·rcases G with G | G
  ·exact h.mx x G hX
  ·have :=h.xl x hX;omega
end
structure SI (w w':World)(b7 b9 b39:Nat)(O:List Nat)(L:Lv)(ts:List Value)(M X:Nat->Prop)(a b:Nat)(Q:Lv):Prop where
 ti:TI w w' b7 b9 O L ts M X
 x39:X b39
 h39:w.heap.size<=b39
 n39:b39≠b9
 sl:∃vp us,kP w' b39 43 a b (.pointer none) vp/\aM 59 w.heap.size w' vp us/\ah (λg=>(w.heap.size<=g/\¬M g/\¬X g)/\g< w'.heap.size) w' Q us/\∀g,vp.ownBlock=some g->X g/\g≠b9/\g≠b39
section
variable {w w':World} {b7 b9 b39 a b:Nat} {O:List Nat} {L Q:Lv} {ts:List Value} {M X:Nat->Prop}
def SI.ext {w'':World}(h:SI w w' b7 b9 b39 O L ts M X a b Q)(x:Ex w' w''):SI w w'' b7 b9 b39 O L ts M X a b Q:=by
 obtain⟨H,J,Z,h4,vp,us,h5,h6,h7,h8⟩:=h;have k:Kp w' w'' λ _=>False:=Kp.ab x _
 exact⟨H.ext x,J,Z,h4,vp,us,h5.kp k λh=>h,h6.kp k λ _ _ h=>h,ah.sub (λg _ G=>⟨G.1,O1 G.2 k.size⟩) (ah.ex h7 x),h8⟩
def SI.push (h:SI w w' b7 b9 b39 O L ts M X a b Q){vx:Value}{γ:List Value}{Q2:Lv}{D2:Nat->Prop}(hx:dt D2 w' vx γ)(h2:ah (λg=>(w.heap.size<=g/\¬M g/\¬X g)/\g< w'.heap.size) w' Q2 γ)(hl:Q.len+γ.length<=1099511627776){vp:Value}(υ:w'.cell? ⟨b39,4,none⟩=some vp){K:Value->Sb}
  (hK:∀J G,oneV J=true->Kp w' G (λg=>vp.ownBlock=some g)->((∃φ:Value,World.cell? G ⟨b39,4,none⟩=some φ)/\World.frozen? G ⟨b39,4,none⟩=false)->(∀ν,ν=World.setCell G ⟨b39,4,none⟩ J->∃X',SI w ν b7 b9 b39 O L ts M X' a b (Q.app Q2))->K J G):
  ∃(H δ ε:Nat) (ζ α:List Value),World.ownsRow w' H 59 1 vp δ ζ/\H<=Array.size (World.heap w')/\fp w' vx ε 1 α/\(δ+ε<=maxLen/\(δ+ε)* 8<=140737488355328)/\
   ∀(J:Value) (G:World),World.ownsRow G H 59 1 J (δ+ε) (ζ++α)->World.grownBy w' G (Value.ownBlock vp)->(∀b:Nat,Value.ownBlock J=some b->Value.ownBlock vp=some b\/Array.size (World.heap w')<=b)->K J G:=by
 obtain⟨h1,β,h3,h4,η,us,h5,h6,h7,h8⟩:=h;have:η=vp:=Pr (h5.c4.symm.trans υ);subst this;have χ:=h1.ex.size;have hlu:=h7.len;refine aM.push h6 χ hx h2.all (by omega) (by omega) λv3 w3 θ ψ ι=>?_
 have k3:Kp w' w3 λg=>η.ownBlock=some g:=Kp.aP ψ λg h=>h
 have ω:oneV v3=true:=by rcases θ.2 with⟨rfl,_⟩ | ⟨g,cap,cur,rfl,_⟩<;>rfl
 have κ:=h5.kp k3 λe=>(h8 _ e).2.2 rfl
 refine hK v3 w3 ω k3 ⟨⟨_,κ.c4⟩,κ.f 4⟩ λw4 ξ=>?_
 have k4:Kr b39 w3 w4:=ξ▸Kr.set w3 4 _;have μ:Kp w' w4 λg=>η.ownBlock=some g\/g=b39:=Kp.trans (Kp.mono (λg e=> .inl e) k3) k4 λg _ e=> .inr e
 have s3:=k3.size;have s4:=k4.size;have ο:∀x,v3.ownBlock=some x->x≠b39:=λx hx'=>(ι x hx').elim (λe=>(h8 x e).2.2) λe=>by have :=h1.xl b39 β;omega
 have ς:∀g,(X g\/(v3.ownBlock=some g))->X g\/(w'.heap.size<=g/\g< w4.heap.size):=λg Z=>Z.elim .inl λe=>(ι g e).elim (λe=> .inl (h8 g e).1) λh=> .inr ⟨h,by have :=(θ.block g e).2;omega⟩
 have ti:=h1.NI (Y:=λg=>X g\/v3.ownBlock=some g) μ (λg e=>e.elim (λe=>⟨(h8 g e).1,(h8 g e).2.1,(h6.block g e).1⟩) λe=>⟨e▸β,e▸h4,e▸h3⟩) (λg Z=> .inl Z) ς;have key:∀{l:Lv} {us:List Value},ah (λg=>(w.heap.size<=g/\¬M g/\¬X g)/\g< w'.heap.size) w' l us->ah (λg=>(w.heap.size<=g/\¬M g/\¬(X g\/v3.ownBlock=some g))/\g< w4.heap.size) w4 l us:=λht=>
  ah.sub (λg _ Z=>⟨⟨Z.1.1,Z.1.2.1,λhy=>(ς g hy).elim Z.1.2.2 λh=>by omega⟩,O1 Z.2 μ.size⟩) (ah.kp μ (λg Z e=>e.elim (λe=>Z.1.2.2 (h8 g e).1) λe=>Z.1.2.2 (e▸β)) ht)
 refine⟨_,ti,.inl β,h3,h4,v3,us++γ,κ.LM ξ,?_,ah.app (key h7) (key h2),λg Z=>⟨.inr Z,?_,ο g Z⟩⟩
 ·exact aM.kp θ k4 ο
 ·exact(ι g Z).elim (λe=>(h8 g e).2.1) λe=>by have :=h1.l9;omega
end
def I8 {D:Nat->Prop}{w:World}{l:Lv}{ts:List Value}{x b3:Nat}(Z:l.sh true=true)(h:ah D w l ts)(β:l.sz<=1099511627776)(hb:b3< w.heap.size)(hc:w.cell? ⟨b3,0,none⟩=some (iv x)):
  BG w 177 [ptr b3] ts (MP l.bw (Lv.has x)):=by
 intro i v w1 hi hx R hR;have H:=h.bw;obtain⟨α,_⟩:=Px.1 hi;have G:i< l.bw.length:=by rw [H.1];exact α
 have he:=H.2 i l.bw[i] v (Ox G) hi;have J:=Oz G;have hs:=Lv.eX l _ J;rw [pP G]at hR;refine iW v (ptr b3) w1 R ?_;dsimp only [go_sem];refine⟨b3,0,rfl,x,by rw [hx.cell (show b3< _ from hb)];exact hc,?_⟩;exact Dz _ (OB _) (Lv.ku Z _ J) (he.ex hx) (by omega) hR
def LP {D S:Nat->Prop}{w:World}{b7 b9:Nat}{vt:Value}{l:Lv}{ts:List Value}(h9:w.cell? ⟨b9,0,none⟩=some (ptr b7))(l9:b9< w.heap.size)(h7:w.cell? ⟨b7,1,none⟩=some vt)(l7:b7< w.heap.size)(H:dt D w vt ts)(h:ah D w l ts)(J:l.sh true=true)(γ:l.sz<=1099511627776)
  (Z:∀g,S g->¬D g/\g≠b9/\g≠b7):JT w S 175 [ptr b9] (λx=> !l.has x):=by
 intro x w1 k R hR;refine ki x (ptr b9) w1 R ?_;dsimp only [go_sem];intro b3 w4 α β;obtain⟨x4,l4,c4⟩:=Dk α β;have G:Kp w w4 S:=Kp.trans k (Kp.ab x4 λ _=>False) λ _ _ h=>h.elim
 refine⟨b9,0,rfl,ptr b7,?_,b7,0,rfl,vt,?_,?_⟩
 ·rw [Ow (w:=w) (G.block b9 l9 λe=>(Z _ e).2.1 rfl)];exact h9
 ·rw [Ow (w:=w) (G.block b7 l7 λe=>(Z _ e).2.2 rfl)];exact h7
 have hlen:=h.len;have :=oC l;have hD:∀g,D g->¬S g:=λg hd H=>(Z g H).1 hd
 refine IG (ca:=[ptr b3]) (H.kp G hD) (by kernel_rfl) (I8 J (ah.kp G hD h) (by omega) l4 c4) (by omega) λw5 x5=>?_
 rw [hlen,<-Lv.cM,Ag,<-Lv.mL];exact hR w5 (Ex.trans x4 x5)
def EV (n:Nat):Prop:=∀{D:Nat->Prop} {w:World} {v:Value} {o:List Nat} {l:Lv} {R:Value->Sb},l.sz<=n->l.sh true=true->gC D w v o (ah D w l)->o.length+l.tot<=1099511627775->
 (∀G w',Ex w w'->az (EX w) w' (Lv.tidy o l) G->R G w')->Sc 106 #[v] w (aw [.v] R)
def qv (o:List Nat)(l:Lv):(Lv.tidy o l).1.length+(Lv.tidy o l).2.tot<=o.length+l.tot:=by
 have :=Lv.wg o (Lv.tid l);have :=Lv.eN l;show(Lv.kept o (Lv.tid l)).1.length+(Lv.kept o (Lv.tid l)).2.tot<=_;omega
def bS (l:Lv):l.len<=l.tot:=Pq (oC l) (Lv.kB l)
def aM.qh {e B:Nat}{w:World}{v:Value}{l:List Value}(h:aM e B w v l):oneV v=true:=by
 rcases h.2 with⟨rfl,_⟩ | ⟨g,cap,cur,rfl,_⟩<;>rfl
def aO.single {A B:Type}{R:A->B->Prop}{l:List A}{m:List B}(h:aO R l m){i:Nat}{b:B}(hb:m[i]?=some b):∃a,l[i]?=some a/\a∈l/\R a b:=by
 obtain⟨hi,_⟩:=Px.1 hb;have G:i< l.length:=by rw [h.1];exact hi
 exact⟨l[i],Ox G,Oz G,h.2 i _ _ (Ox G) hb⟩
def jX {k:K}{a b:Nat}{o:List Nat}{r:Lv}:Lv.tid (.thr k a b o r .nil)=if k= .m/\a=b then Lv.tidy o r else if(k= .m\/k= .p)/\(Lv.tidy o r).2.isNil=true then([],.nil)else([],.thr k a b (Lv.tidy o r).1 (Lv.tidy o r).2 .nil):=by
 simp only [Lv.tid,O5,Lv.aY];rfl
def FP (n:Nat)(ih:∀m,m< n->EV m):EV n:=by
 intro D w v o l R hn hsh h hb hR;refine lU v w R ?_;obtain⟨b,vo,vt,ts0,rfl,h2,h3,h4,h5,h6,h7,h8⟩:=h;refine⟨b,0,rfl,vo,h4,tK h6 (by omega) λv5 w6 x6 ho6=>⟨ho6.qh,λb7 w8 hb7 hw8 b9 w10 hb9 hw10=>?_⟩⟩;have x8:Ex w6 w8:=hw8▸Ex.alloc w6 _;have x10:Ex w8 w10:=hw10▸Ex.alloc w8 _;have s6:=x6.size;have s8:w8.heap.size=w6.heap.size+1:=by rw [hw8,size_alloc]
 have s10:w10.heap.size=w8.heap.size+1:=by rw [hw10,size_alloc]
 have c9:w10.cell? ⟨b9,0,none⟩=some (.pointer none):=by rw [hw10,hb9];exact aa rfl
 have f9:w10.frozen? ⟨b9,0,none⟩=false:=by rw [hw10,hb9];unfold World.frozen? World.alloc;simp
 have bd8:ke w.heap.size w8 b7 o [] λg=>g=b7\/v5.ownBlock=some g:=by
  refine⟨by omega,by omega,.inl rfl,λg J=>?_,λj=>?_,v5,.slice none 0 0,?_,?_,ho6.kp (Kp.ab x8 λ _=>False) (λ _ _ h=>h),aM.nil _ _ _,λg J=>⟨.inr J,?_⟩,λg J=>(by cases J),λg _ J=>(by cases J)⟩
  ·rcases J with rfl | J
   ·omega
   ·have :=ho6.block g J;omega
  ·rw [hw8,hb7];unfold World.frozen? World.alloc;simp
  ·rw [hw8,hb7];exact aa rfl
  ·rw [hw8,hb7];exact aa rfl
  ·have :=ho6.block g J;omega
 refine⟨⟨⟨_,c9⟩,f9⟩,λw12 hw12=>?_⟩;have k12:Kr b9 w10 w12:=hw12▸Kr.set w10 0 _;have x610:Ex w6 w10:=Ex.trans x8 x10;have x12:Ex w w12:=Ex.below (Ex.trans x6 x610) (Kp.below k12 (Ex.trans x6 x610).size λg J e=>by omega);have s12:=k12.size;have ti12:TI w w12 b7 b9 o .nil [] (λg=>g=b7\/v5.ownBlock=some g) (λg=>g=b9):=by
  refine⟨x12,(bd8.ex x10).kp k12 λg J e=>?_,rfl,?_,by omega,by omega,rfl,λg J e=>?_,λg e=>by omega⟩
  ·have :=(bd8.mr g J).2;omega
  ·rw [hw12];exact OQ _ _ _ c9
  ·have :=(bd8.mr g J).2;omega
 obtain⟨a0,cap0,hvt⟩:=h7.slice;have hlen:=h8.len;have hel:=Lv.cM l;have hlt:=bS l;refine⟨b,0,rfl,vt,by rw [x12.cell (show b< _ from h3)];exact h5,a0,_,cap0,hvt,λx w'=>∃(i:Nat) (ts:List Value) (M:Nat->Prop),x=i/\i<=l.bw.length/\TI w w' b7 b9 (o++(Lv.tid (l.take i)).1) (Lv.tid (l.take i)).2 ts M (λg=>g=b9),λx _=>(l.bw.length - x).toNat,⟨0,[],_,rfl,by omega,by simpa [Lv.take,Lv.tid]using ti12⟩,λx H hI=>?_⟩;obtain⟨i,ts,M,rfl,hi,ε⟩:=hI;refine⟨λhc=>?_,λhc=>?_⟩
 ·have hc:=OW hc;have hil:i< ts0.length:=by omega
  have hil':i< l.bw.length:=by omega
  have χ:=ε.ex;have α:∀w' β M',TI w w' b7 b9 (o++(Lv.tid (l.take i)).1++(Lv.tid l.bw[i]).1) ((Lv.tid (l.take i)).2.app (Lv.tid l.bw[i]).2) β M' (λg=>g=b9)->bG ((i:Int)+1)/\(∃(i':Nat) (ts:List Value) (M:Nat->Prop),((i:Int)+1)=i'/\i'<=l.bw.length/\TI w w' b7 b9 (o++(Lv.tid (l.take i')).1) (Lv.tid (l.take i')).2 ts M (λg=>g=b9))/\((l.bw.length:Int) - ((i:Int)+1)).toNat< ((l.bw.length:Int) - (i:Int)).toNat:=by
   intro w' β M' ti;refine⟨by omega,⟨i+1,β,M',by omega,by omega,?_⟩,by omega⟩;rw [Lv.take_succ l i hil',Lv.cO _ _ (Lv.mX (Lv.qi l i hsh)),<-Pe];exact ti
  have hel22:=(ah.ex h8 χ).bw;have he:=hel22.2 i l.bw[i] ts0[i] (Ox hil') (Ox hil);have he0:=h8.bw.2 i l.bw[i] ts0[i] (Ox hil') (Ox hil);have hmem:=Oz hil';have hesz:=Lv.eX l _ hmem;have hetot:=Lv.gY l _ hmem;have hOt:=Lv.eN (l.take i);have hTt:=Lv.gk l i;have hTe:(l.take i).tot+l.bw[i].tot<=l.tot:=by
   have :=Lv.gk l (i+1);rw [Lv.take_succ l i hil',Lv.bQ]at this;exact this
  have hOl:(o++(Lv.tid (l.take i)).1).length=o.length+(Lv.tid (l.take i)).1.length:=Oy;have hLl:=bS (Lv.tid (l.take i)).2;refine(h7.ex χ).get (i:=i) (x:=ts0[i]) (by omega) (by simp [hil]) ?_;generalize l.bw[i]=e at*;generalize ts0[i]=v27 at*;have hke:(∃k a b o r,e= .thr k a b o r .nil/\r.sh true=true)\/∃ps,e= .sum ps .nil/\ps.sh false=true:=Lv.ku hsh e hmem;generalize (o++(Lv.tid (l.take i)).1)=O at*;generalize (Lv.tid (l.take i)).2=L at*;have hts:ts.length=L.len:=ε.th.len;have hS:∀{w1:World},Ex H w1->∀{g j:Nat} {u:Value},g< H.heap.size->H.cell? ⟨g,j,none⟩=some u->w1.cell? ⟨g,j,none⟩=some u:=by
   intro w1 hx g j u J hu;rw [hx.cell (show g< _ from J)];exact hu
  rcases hke with⟨k,a,b1,o',r,rfl,hr⟩ | ⟨ps,rfl,hps⟩
  ·obtain⟨_,_,a',b',vr,e,⟨g,rfl,g2,g3,g4,g5,g6,g7,g8⟩,hab,hlv,_⟩:=he;obtain⟨rfl,_⟩:=Pw e;refine⟨λw'=>Ex H w',λψ ι=>⟨ι▸Ex.drew H,g,0,rfl,_,λw' hx=>hS hx g3 g4,g,0,rfl,_,λw' hx=>hS hx g3 g5,g,0,rfl,_,λw' hx=>hS hx g3 g6,λb39 δ hb39 κ=>?_⟩⟩;have x29:Ex H ψ:=ι▸Ex.drew H;have s29:ψ.heap.size=H.heap.size:=by rw [ι];rfl
   have μ:Ex H δ:=Ex.trans x29 (κ▸Ex.alloc ψ _);have s40:δ.heap.size=ψ.heap.size+1:=by rw [κ,size_alloc]
   have th40:kP δ b39 k.byte a' b' (.pointer none) (.slice none 0 0):=kP.new hb39 κ;have l9:=ε.l9;have n39:b39≠b9:=by omega
   have h39:w.heap.size<=b39:=by have :=χ.size;omega
   have ti40:TI w δ b7 b9 O L ts M λg=>g=b9\/g=b39:=ε.NI (Kp.ab μ λ _=>False) (λ _ h=>h.elim) (λg h=> .inl h) λg h=>h.elim .inl λh=> .inr (by omega)
   simp only [Lv.sz]at hesz;simp only [Lv.tot]at hetot hTe;refine⟨μ,g,0,rfl,_,hS μ g3 g4,aW (by cases k<;>decide) ⟨g,0,rfl,_,hS μ g3 g7,?_⟩⟩;refine ih r.sz (by omega) (OB _) hr (gC.ex hlv μ) (by omega) λν w138 υ l137=>⟨gC.one l137,⟨⟨_,(th40.kp (Kp.ab υ λ _=>False) λh=>h).c3⟩,(th40.kp (Kp.ab υ λ _=>False) λh=>h).f 3⟩,λZ hw140=>?_⟩
   have k140:Kr b39 w138 Z:=hw140▸Kr.set w138 3 _;have ω:kP Z b39 k.byte a' b' ν (.slice none 0 0):=(th40.kp (Kp.ab υ λ _=>False) λh=>h).Fk hw140;have ti140:TI w Z b7 b9 O L ts M λg=>g=b9\/g=b39:=(ti40.ext υ).Ob k140 λg J=>⟨.inr J,by omega,by omega⟩
   have s138:=υ.size;have s140:=k140.size;have hrt:=qv o' r;have l140:az (λg=>(δ.heap.size<=g)/\g< Z.heap.size) Z (Lv.tidy o' r) ν:=az.sub (az.kp (l137.sub (E:=λg=>δ.heap.size<=g/\g< w138.heap.size) λg J h=>⟨h,J⟩) k140 λg J e=>by omega) λg _ J=>⟨J.1,by omega⟩
   have hM40:∀g,M g->g< δ.heap.size:=λg J=>(ti40.bd.mr g J).2
   have cg:∀{w1:World},Ex Z w1->∀{j:Nat} {u:Value},H.cell? ⟨g,j,none⟩=some u->w1.cell? ⟨g,j,none⟩=some u:=λhx j u hu=>by
    have:Z.cell? ⟨g,j,none⟩=some u:=by
     rw [Ow (w:=w138) (k140.block g (by omega) (by omega)),υ.cell (show g< _ by omega)];exact hS μ g3 hu
    rw [hx.cell (show g< _ by omega)];exact this
   have cb:∀{w1:World},Ex Z w1->w1.cell? ⟨b39,3,none⟩=some ν:=λhx=>by rw [hx.cell (show b39< _ from ω.lt)];exact ω.c3
   have c9':∀{w1:World},Ex Z w1->w1.cell? ⟨b9,0,none⟩=some (ptr b7):=λhx=>by rw [hx.cell (show b9< _ from ti140.l9)];exact ti140.c9
   have hth:∀{w1:World},Ex Z w1->ah (λg=>(w.heap.size<=g/\¬M g/\¬(g=b9))/\g< w1.heap.size) w1 (.thr k a b1 (Lv.tidy o' r).1 (Lv.tidy o' r).2 .nil) [ptr b39]:=λ{w1} hx=>by
    have sx:=hx.size;refine⟨ptr b39,[],a',b',ν,rfl,(ω.kp (Kp.ab hx λ _=>False) λh=>h).wF ⟨⟨h39,λhm=>ti140.mx b39 hm (.inr rfl),n39⟩,by have :=ω.lt;omega⟩,hab,?_,rfl⟩;exact az.sub (az.ex l140 hx) λg _ J=>⟨⟨by omega,λhm=>by have :=hM40 g hm;omega,by omega⟩,by omega⟩
   have ς:∀{w1:World},Ex Z w1->TI w w1 b7 b9 O L ts M λg=>g=b9:=λhx=>(ti140.ext hx).HD (λg h=> .inl h) rfl
   have hnil:∀{w1:World},Ex Z w1->Lv.tid (.thr k a b1 o' r .nil)=([],.nil)->TI w w1 b7 b9 (O++(Lv.tid (.thr k a b1 o' r .nil)).1) (L.app (Lv.tid (.thr k a b1 o' r .nil)).2) ts M λg=>g=b9:=λhx e=>by
    rw [e,O5,Lv.aY];exact ς hx
   have hlr:=bS (Lv.tidy o' r).2;refine⟨λw'=>Ex Z w',λφ hw142=>⟨hw142▸Ex.drew Z,g,0,rfl,_,λw' hx=>cg hx g4,?_⟩⟩;have G:Ex Z φ:=hw142▸Ex.drew Z;have ξ:∀{w1:World},Ex Z w1->(Lv.tid (.thr k a b1 o' r .nil)=([],.thr k a b1 (Lv.tidy o' r).1 (Lv.tidy o' r).2 .nil))->∀w'' β M',TI w w'' b7 b9 O (L.app (.thr k a b1 (Lv.tidy o' r).1 (Lv.tidy o' r).2 .nil)) β M' (λg=>g=b9)->TI w w'' b7 b9 (O++(Lv.tid (.thr k a b1 o' r .nil)).1) (L.app (Lv.tid (.thr k a b1 o' r .nil)).2) β M' (λg=>g=b9):=λ _ e w'' β M' h=>by
    rw [e,O5];exact h
   have hkm:(Lv.tidy o' r).2.isNil=false->¬(k= .m/\a=b1)->Lv.tid (.thr k a b1 o' r .nil)=([],.thr k a b1 (Lv.tidy o' r).1 (Lv.tidy o' r).2 .nil):=λh1 h2=>by
    rw [jX,OP h2,OP (by rw [h1];simp)]
   cases k with
   | m=>
    have hab:a'=a/\b'=b1:=by rcases hab with h | h | h<;>first | exact h | cases h
    obtain⟨rfl,rfl⟩:=hab;refine df rfl ⟨g,0,rfl,a',λw' hx=>cg hx g5,g,0,rfl,b',λw' hx=>cg hx g6,λhq=>?_,λhq=>?_⟩
    ·have hq:a'=b':=by have :=OW hq;omega
     have ht:Lv.tid (.thr .m a' b' o' r .nil)=Lv.tidy o' r:=by rw [jX,O' ⟨rfl,hq⟩]
     refine⟨λw'=>Ex φ w',λw153 hw153=>⟨hw153▸Ex.drew φ,ptr b7,λw' hx=>c9' (Ex.trans G hx),ν,λw' hx=>cb (Ex.trans G hx),?_⟩⟩;have x153:Ex Z w153:=Ex.trans G (hw153▸Ex.drew φ);refine(ς x153).H2 (O2:=(Lv.tidy o' r).1) (L2:=(Lv.tidy o' r).2) (az.ex l140 x153) (λg J hd=>⟨by omega,λhm=>by have :=hM40 g hm;omega,by omega⟩) ⟨by omega,by omega⟩ λw'' β M' h _=>α w'' β M' ?_
     rw [ht];exact h
    ·have hq:¬a'=b':=by have :=OX hq;omega
     refine⟨g,0,rfl,_,cg G g4,ee rfl ⟨ν,cb G,mG (az.ex l140 G) ⟨λhe=>α φ ts M (hnil G (by rw [jX,OP (λh=>hq h.2),O' ⟨.inl rfl,he⟩])),λhe=>?_⟩⟩⟩;have ht:=hkm he λh=>hq h.2
     exact(ς G).push (hth G) (by omega) λw'' β M' h=>α w'' β M' (ξ G ht _ _ _ h)
   | p=>
    refine aW (by dsimp only [K.byte];decide) ⟨g,0,rfl,_,cg G g4,cH (by dsimp only [K.byte];decide) ⟨g,0,rfl,_,cg G g4,df rfl ⟨ν,cb G,mG (az.ex l140 G) ⟨λhe=>α φ ts M (hnil G (by rw [jX,OP (λh=>by cases h.1),O' ⟨.inr rfl,he⟩])),λhe=>?_⟩⟩⟩⟩;have ht:=hkm he λh=>by cases h.1
    exact(ς G).push (hth G) (by omega) λw'' β M' h=>α w'' β M' (ξ G ht _ _ _ h)
   | s=>
    refine aW (by dsimp only [K.byte];decide) ⟨g,0,rfl,_,cg G g4,cH (by dsimp only [K.byte];decide) ⟨g,0,rfl,_,cg G g4,aW (by dsimp only [K.byte];decide) ?_⟩⟩;exact(ς G).push (hth G) (by omega) λw'' β M' h=>α w'' β M' (ξ G (by rw [jX,OP (λh=>by cases h.1),OP (λh=>by rcases h.1 with h | h<;>cases h)]) _ _ _ h)
   | r=>
    refine aW (by dsimp only [K.byte];decide) ⟨g,0,rfl,_,cg G g4,cH (by dsimp only [K.byte];decide) ⟨g,0,rfl,_,cg G g4,aW (by dsimp only [K.byte];decide) ?_⟩⟩;exact(ς G).push (hth G) (by omega) λw'' β M' h=>α w'' β M' (ξ G (by rw [jX,OP (λh=>by cases h.1),OP (λh=>by rcases h.1 with h | h<;>cases h)]) _ _ _ h)
   | t=>
    refine aW (by dsimp only [K.byte];decide) ⟨g,0,rfl,_,cg G g4,cH (by dsimp only [K.byte];decide) ⟨g,0,rfl,_,cg G g4,aW (by dsimp only [K.byte];decide) ?_⟩⟩;exact(ς G).push (hth G) (by omega) λw'' β M' h=>α w'' β M' (ξ G (by rw [jX,OP (λh=>by cases h.1),OP (λh=>by rcases h.1 with h | h<;>cases h)]) _ _ _ h)
  ·clear he;obtain⟨_,_,a',b',vp0,us0,e,⟨g,rfl,g2,g3,g4,g5,g6,g7,g8⟩,hsl,hus,_⟩:=he0;obtain⟨rfl,_⟩:=Pw e;have hS0:∀{w1:World},Ex w w1->∀{j:Nat} {u:Value},w.cell? ⟨g,j,none⟩=some u->w1.cell? ⟨g,j,none⟩=some u:=by
    intro w1 hx j u hu;rw [hx.cell (show g< _ from g3)];exact hu
   refine⟨λw'=>Ex H w',λψ ι=>⟨ι▸Ex.drew H,g,0,rfl,43,λw' hx=>hS0 (Ex.trans χ hx) g4,g,0,rfl,_,λw' hx=>hS0 (Ex.trans χ hx) g5,g,0,rfl,_,λw' hx=>hS0 (Ex.trans χ hx) g6,λb39 δ hb39 κ=>?_⟩⟩;have x29:Ex H ψ:=ι▸Ex.drew H;have s29:ψ.heap.size=H.heap.size:=by rw [ι];rfl
   have μ:Ex H δ:=Ex.trans x29 (κ▸Ex.alloc ψ _);have s40:δ.heap.size=ψ.heap.size+1:=by rw [κ,size_alloc]
   have th40:kP δ b39 43 a' b' (.pointer none) (.slice none 0 0):=kP.new hb39 κ;have l9:=ε.l9;have n39:b39≠b9:=by omega
   have h39:w.heap.size<=b39:=by have :=χ.size;omega
   have ti40:TI w δ b7 b9 O L ts M λg=>g=b9\/g=b39:=ε.NI (Kp.ab μ λ _=>False) (λ _ h=>h.elim) (λg h=> .inl h) λg h=>h.elim .inl λh=> .inr (by omega)
   have si40:SI w δ b7 b9 b39 O L ts M (λg=>g=b9\/g=b39) a' b' .nil:=⟨ti40,.inr rfl,h39,n39,.slice none 0 0,[],th40,aM.nil _ _ _,rfl,λg h=>by cases h⟩
   simp only [Lv.sz]at hesz;simp only [Lv.tot]at hetot hTe;obtain⟨ap,capp,hvp⟩:=hsl.slice;have hul:=hus.len;have hpel:=Lv.cM ps;have hplt:=bS ps;refine⟨μ,g,0,rfl,_,hS0 (Ex.trans χ μ) g4,df rfl ⟨g,0,rfl,vp0,hS0 (Ex.trans χ μ) g8,ap,_,capp,hvp,λx w'=>∃(j:Nat) (X:Nat->Prop),x=j/\j<=ps.bw.length/\SI w w' b7 b9 b39 O L ts M X a' b' (Lv.tid (ps.take j)).2,λx _=>(ps.bw.length - x).toNat,⟨0,_,rfl,by omega,by simpa [Lv.take,Lv.tid]using si40⟩,λx γ hI=>?_⟩⟩;obtain⟨j,X,rfl,hj,ο⟩:=hI;have x53:=ο.ti.ex;refine⟨λhc=>?_,λhc=>?_⟩
   ·have hc:=OW hc;have hjl:j< us0.length:=by omega
    have hjl':j< ps.bw.length:=by omega
    refine(hsl.ex x53).get (i:=j) (x:=us0[j]) (by omega) (by simp [hjl]) ?_;have hpe:=hus.bw.2 j ps.bw[j] us0[j] (Ox hjl') (Ox hjl);have hpm:=Oz hjl';have hpsz:=Lv.eX ps _ hpm;have hptot:=Lv.gY ps _ hpm;obtain⟨o'',q,epq,hq⟩:=Lv.mZ hps _ hpm;have htk:(Lv.tid (ps.take (j+1))).2=(Lv.tid (ps.take j)).2.app (Lv.prt (Lv.tidy o'' q).1 (Lv.tidy o'' q).2 .nil):=by
     rw [Lv.take_succ ps j hjl',Lv.BP _ (Lv.qi ps j hps),epq];rfl
    have hQ:=bS (Lv.tid (ps.take j)).2;have hQ1:=Lv.eN (ps.take j);have hQ2:=Lv.gk ps (j+1);rw [Lv.take_succ ps j hjl',Lv.bQ,epq]at hQ2;rw [epq]at hpe hpsz hptot;generalize us0[j]=v58 at*;obtain⟨v58',_,e58,hlq,_⟩:=hpe;obtain⟨rfl,_⟩:=Pw e58;simp only [Lv.sz]at hpsz;simp only [Lv.tot]at hptot hQ2;have hfin:∀w' X',SI w w' b7 b9 b39 O L ts M X' a' b' (Lv.tid (ps.take (j+1))).2->bG ((j:Int)+1)/\(∃(j':Nat) (X:Nat->Prop),((j:Int)+1)=j'/\j'<=ps.bw.length/\SI w w' b7 b9 b39 O L ts M X a' b' (Lv.tid (ps.take j')).2)/\((ps.bw.length:Int) - ((j:Int)+1)).toNat< ((ps.bw.length:Int) - (j:Int)).toNat:=
     λw' X' h=>⟨by omega,⟨j+1,X',by omega,by omega,h⟩,by omega⟩
    refine ih q.sz (by omega) (OB _) hq (gC.ex hlq x53) (by omega) λv59 θ x60 l59=>?_
    have si60:=ο.ext x60;have hrt:=qv o'' q;have hqsh:(Lv.tidy o'' q).2.sh true=true:=Lv.eu q true hq;generalize Lv.tidy o'' q=r' at*;have hM53:∀g,M g->g< γ.heap.size:=λg J=>(ο.ti.bd.mr g J).2
    have hX53:=ο.ti.xl;have hsz53:=x53.size;refine mG l59 ⟨λhe=>?_,λhe=>JC l59 hqsh ⟨λhs=>?_,λhs=>?_⟩⟩
    ·refine hfin θ X ?_;rw [htk,As,O' he,Lv.aY];exact si60
    ·obtain⟨ps',ep⟩:∃ps',r'.2= .sum ps' .nil:=by
      have :=(Bool.and_eq_true_iff.1 hs).2;generalize r'.2=q' at*
      match q',this with
      | .sum ps' .nil,_=>exact⟨ps',rfl⟩
     rw [As,OP (by rw [he];simp),O' hs,ep]at htk;have htk:(Lv.tid (ps.take (j+1))).2=(Lv.tid (ps.take j)).2.app ps':=htk;unfold az at l59;rw [ep]at l59 hrt;obtain⟨b59,vo59,vt59,tsq,rfl,k2,k3,k4,k5,k6,k7,k8⟩:=l59;obtain⟨_,_,aq,bq,vpq,usq,rfl,⟨gq,rfl,q2,q3,q4,q5,q6,q7,q8⟩,qsl,qus,rfl⟩:=k8;obtain⟨vp,us,ζ,ho60,hu60,hob⟩:=si60.sl;have hobl:∀x,vp.ownBlock=some x->x< γ.heap.size:=λx hx=>hX53 x (hob x hx).1
     refine⟨λw'=>Kp θ w' λg=>vp.ownBlock=some g,λw66 hw66=>⟨hw66▸Kp.ab (Ex.drew θ) _,vp,λw' k=>?_,b59,0,rfl,vt59,λw' k=>?_,?_⟩⟩
     ·rw [Ow (w:=θ) (k.block b39 ζ.lt λe=>(hob _ e).2.2 rfl)];exact ζ.c4
     ·rw [Ow (w:=θ) (k.block b59 k3 λe=>by have :=hobl _ e;have:γ.heap.size<=b59:=k2;omega)];exact k5
     have x66:Ex θ w66:=hw66▸Ex.drew θ;rcases k7 with⟨_,e⟩ | ⟨bt,off,cp,rfl,t2,t3,t4⟩
     ·cases e
     refine⟨bt,off,1,cp,rfl,by omega,by omega,ptr gq,λw' k=>?_,gq,0,rfl,vpq,λw' k=>?_,?_⟩
     ·rw [Ow (w:=θ) (k.block bt t3 λe=>by have :=hobl _ e;have:γ.heap.size<=bt:=t2;omega)];exact t4 0 _ rfl
     ·rw [Ow (w:=θ) (k.block gq q3 λe=>by have :=hobl _ e;have:γ.heap.size<=gq:=q2;omega)];exact q8
     have hqd:ah (λg=>(w.heap.size<=g/\¬M g/\¬X g)/\g< w66.heap.size) w66 ps' usq:=ah.sub (λg J hd=>⟨⟨by have:γ.heap.size<=g:=hd;omega,λhm=>by have :=hM53 g hm;have:γ.heap.size<=g:=hd;omega,λhm=>by have :=hX53 g hm;have:γ.heap.size<=g:=hd;omega⟩,J⟩) (ah.ex qus x66);have hql:=qus.len;have hql2:=bS ps';simp only [Lv.tot]at hrt;refine(si60.ext x66).push (qsl.ex x66) hqd (by omega) (by rw [x66.cell (show b39< _ from ζ.lt)];exact ζ.c4) λv84 w85 hv84 k85 hc85 hset=>⟨Kp.trans (Kp.ab x66 _) k85 λ _ _ h=>h,hv84,hc85,λw87 hw87=>?_⟩
     obtain⟨X',hsi⟩:=hset w87 hw87;refine hfin w87 X' ?_;rw [htk];exact hsi
    ·rw [As,OP (by rw [he];simp),OP (by rw [hs];simp)]at htk;obtain⟨vp,us,ζ,ho60,hu60,hob⟩:=si60.sl;refine⟨vp,ζ.c4,gC.one l59,λb89 w90 hb89 hw90=>?_⟩;have x90:Ex θ w90:=hw90▸Ex.alloc θ _;have s90:w90.heap.size=θ.heap.size+1:=by rw [hw90,size_alloc]
     have hsl1:dt (λx=>x=b89) w90 (.slice (some ⟨b89,0,none⟩) 1 1) [v59]:=by
      refine .inr ⟨b89,0,1,rfl,rfl,by omega,λi x hx=>?_⟩;rw [O6,hw90,hb89];refine aa ?_
      match i,hx with
      | 0,hx=>simpa using hx
      | i+1,hx=>simp at hx
     have hqd:ah (λg=>(w.heap.size<=g/\¬M g/\¬X g)/\g< w90.heap.size) w90 (.part r'.1 r'.2 .nil) [v59]:=⟨v59,[],rfl,az.sub (az.ex l59 x90) λg J hd=>⟨⟨by have:γ.heap.size<=g:=hd;omega,λhm=>by have :=hM53 g hm;have:γ.heap.size<=g:=hd;omega,λhm=>by have :=hX53 g hm;have:γ.heap.size<=g:=hd;omega⟩,J⟩,rfl⟩
     refine(si60.ext x90).push hsl1 hqd (by simp only [Ov,ON];omega) (by rw [x90.cell (show b39< _ from ζ.lt)];exact ζ.c4) λv84 w85 hv84 k85 hc85 hset=>⟨hv84,hc85,λw87 hw87=>?_⟩
     obtain⟨X',hsi⟩:=hset w87 hw87;refine hfin w87 X' ?_;rw [htk];exact hsi
   ·have hc:=OX hc;have:j=ps.bw.length:=by omega
    subst this;rw [Lv.dv]at ο;have hpsh:(Lv.tid ps).2.sh false=true:=Lv.eu ps false hps;have hpt:=Lv.eN ps;have hpl:=bS (Lv.tid ps).2;have htid:Lv.tid (.sum ps .nil)=Lv.spl (Lv.tid ps).2 ([],.nil):=by simp only [Lv.tid]
    rw [htid]at α;generalize (Lv.tid ps).2=Q at*;have si53':=ο;obtain⟨ti,hx39,_,_,vp,us,th,ho,hu,hob⟩:=ο;have ς:TI w γ b7 b9 O L ts M λg=>g=b9:=ti.HD (λg h=>h▸ti.x9) rfl
    obtain⟨av,capv,hvpe⟩:=(ho.DO (D:=λ _=>True) λ _ _=>trivial).slice;have hulen:=hu.len;refine⟨vp,th.c4,av,_,capv,hvpe,λh0=>?_,λh0=>⟨λh1=>?_,λh1=>?_⟩⟩
    ·have h0:=OW h0;have hQ:Q= .nil:=by
      have:Q.len=0:=by omega
      cases Q<;>first | rfl | simp [Lv.len]at this
     subst hQ;refine α γ ts M ?_;simp only [Lv.spl,O5,Lv.aY];exact ς
    ·have h1:=OW h1;obtain⟨oq,qq,rfl⟩:∃oq qq,Q= .part oq qq .nil:=by
      have:Q.len=1:=by omega
      cases Q with
      | nil=>simp [Lv.len]at this
      | thr=>cases hpsh
      | sum=>cases hpsh
      | part oq qq n=>
       have hn:n= .nil:=by
        have:n.len=0:=by simp only [Lv.len]at this;omega
        cases n<;>first | rfl | simp [Lv.len]at this
       exact⟨oq,qq,by rw [hn]⟩
     obtain⟨u,us',rfl,hlu,rfl⟩:=hu;rcases ho.DO (D:=λg=>vp.ownBlock=some g) λ _ h=>h with⟨_,e⟩ | ⟨bt,off,cp,hvp2,t2,t3,t4⟩
     ·cases e
     have hnM:∀g,X g->¬M g:=λg hx hm=>ti.mx g hm hx
     refine⟨λw'=>Kp γ w' M,λw105 hw105=>⟨hw105▸Kp.ab (Ex.drew γ) _,ptr b7,λw' k=>?_,vp,λw' k=>?_,bt,off,1,cp,hvp2,by omega,by omega,u,λw' k=>?_,?_⟩⟩
     ·rw [Ow (w:=γ) (k.block b9 ti.l9 (hnM _ ti.x9))];exact ti.c9
     ·rw [Ow (w:=γ) (k.block b39 th.lt (hnM _ hx39))];exact th.c4
     ·rw [Ow (w:=γ) (k.block bt t3 (hnM _ (hob _ t2).1))];exact t4 0 _ rfl
     have x105:Ex γ w105:=hw105▸Ex.drew γ;simp only [Lv.tot]at hpt;have :=bS qq;refine(ti.ext x105).H2 (O2:=oq) (L2:=qq) (gC.ex hlu x105) (λg _ hd=>hd.1) ⟨by omega,by omega⟩ λw'' β M' h k=>⟨Kp.trans (Kp.ab x105 _) k λ _ _ h=>h,α w'' β M' ?_⟩
     simp only [Lv.spl,O5,Lv.aY];exact h.HD (λg h=>h▸ti.x9) rfl
    ·have h0:=OX h0;have h1:=OX h1;have hspl:Lv.spl Q ([],.nil)=([],.sum Q .nil):=by
      unfold Lv.spl;split
      ·simp [Lv.len]at hulen;simp [hulen]at h0
      ·simp [Lv.len]at hulen;simp [hulen]at h1
      ·rfl
     refine ς.push (e:= .sum Q .nil) ⟨ptr b39,[],a',b',vp,us,rfl,th.wF ⟨⟨h39,λhm=>ti.mx b39 hm hx39,n39⟩,th.lt⟩,?_,?_,rfl⟩ (by omega) λw'' β M' h=>α w'' β M' ?_
     ·exact ho.DO λg J=>⟨⟨(ho.block g J).1,λhm=>ti.mx g hm (hob g J).1,(hob g J).2.1⟩,(ho.block g J).2⟩
     ·exact ah.sub (λg _ hd=>⟨⟨hd.1.1,hd.1.2.1,λe=>hd.1.2.2 (e▸ti.x9)⟩,hd.2⟩) hu
     ·rw [hspl,O5];exact h
 ·have hc:=OX hc;have:i=l.bw.length:=by omega
  subst this;rw [Lv.dv]at ε;have htt:=Lv.eN l;have hsz:=Lv.kB (Lv.tid l).2;have htsh:=Lv.eu l true hsh;have hfil:Lv.tidy o l=((o++(Lv.tid l).1).filter (λx=> !!(Lv.tid l).2.has x),(Lv.tid l).2):=by
   simp only [Bool.not_not];rfl
  rw [hfil]at hR;have hOl:(o++(Lv.tid l).1).length=o.length+(Lv.tid l).1.length:=Oy;generalize (o++(Lv.tid l).1)=O at*;generalize (Lv.tid l).2=L at*;have ti:=ε;obtain⟨d1,d2,d3,dr,d4,vo1,vt1,d5,d6,d7,d8,d9,d10,d11⟩:=ti.bd;have hn9:¬M b9:=λhm=>ti.mx b9 hm rfl
  refine⟨λw'=>Kp H w' λg=>vo1.ownBlock=some g,λw302 hw302=>⟨hw302▸Kp.ab (Ex.drew H) _,ptr b7,λw' k=>?_,ptr b7,λw' k=>?_,b7,0,rfl,vo1,λw' k=>?_,?_⟩⟩
  ·rw [Ow (w:=H) (k.block b9 ti.l9 λe=>hn9 (d9 _ e).1)];exact ti.c9
  ·rw [Ow (w:=H) (k.block b9 ti.l9 λe=>hn9 (d9 _ e).1)];exact ti.c9
  ·rw [Ow (w:=H) (k.block b7 d1 λe=>(d9 _ e).2 rfl)];exact d5
  have η:Ex H w302:=hw302▸Ex.drew H;have kx:Kp H w302 λ _=>False:=Kp.ab η _
  have hsvt:dt (λg=>w.heap.size<=g/\vo1.ownBlock≠some g/\g< H.heap.size) H vt1 ts:=d8.DO λg J=>⟨(d8.block g J).1,λe=>d11 g e J,(d8.block g J).2⟩
  have hths:ah (λg=>w.heap.size<=g/\vo1.ownBlock≠some g/\g< H.heap.size) H L ts:=ah.sub (λg J hd=>⟨hd.1.1,λe=>hd.1.2.1 (d9 g e).1,J⟩) ti.th;refine Hy (ca:=[ptr b9]) (d7.kp kx λ _ _ h=>h) (by kernel_rfl) (LP (b7:=b7) (vt:=vt1) (D:=λg=>w.heap.size<=g/\vo1.ownBlock≠some g/\g< H.heap.size) ?_ (by have :=ti.l9;have :=η.size;omega) ?_ (by have :=η.size;omega) (hsvt.ex η) (ah.ex hths η) htsh (by omega) λg J=>⟨λhd=>hd.2.1 J,λe=>hn9 (e▸(d9 g J).1),(d9 g J).2⟩) (by omega) λv308 w309 hv k309 hsl=>?_
  ·rw [η.cell (show b9< _ from ti.l9)];exact ti.c9
  ·rw [η.cell (show b7< _ from d1)];exact d6
  have k9:Kp H w309 λg=>vo1.ownBlock=some g:=Kp.trans (Kp.ab η _) k309 λ _ _ h=>h
  have hb9:=k9.block b7 d1 λe=>(d9 _ e).2 rfl
  have c0:w309.cell? ⟨b7,0,none⟩=some vo1:=by rw [Ow (w:=H) hb9];exact d5
  refine⟨k9,b7,0,rfl,hv,⟨⟨_,c0⟩,by rw [O7 (w:=H) hb9];exact d4 _⟩,λw313 hw313=>?_⟩;have kset:Kr b7 w309 w313:=hw313▸Kr.set w309 0 _;have kall:Kp H w313 λg=>vo1.ownBlock=some g\/g=b7:=Kp.trans (Kp.mono (λg e=> .inl e) k9) kset λg _ e=> .inr e
  have hne79:b9≠b7:=λe=>hn9 (e▸d3)
  refine⟨ptr b7,?_,hR _ w313 ?_ ?_⟩
  ·rw [Ow (w:=H) (kall.block b9 ti.l9 λe=>e.elim (λe=>hn9 (d9 _ e).1) hne79)];exact ti.c9
  ·exact Ex.below ti.ex (Kp.below kall ti.ex.size λg J e=>by
    rcases e with e | e
    ·have :=(d7.block g e).1;omega
    ·omega)
  ·refine⟨b7,v308,vt1,ts,rfl,d2,O1 d1 kall.size,?_,?_,?_,?_,?_⟩
   ·rw [hw313];exact OQ _ _ _ c0
   ·rw [hw313,OD _ _ _ _ (by simp),Ow (w:=H) hb9];exact d6
   ·exact(hsl.kp kset λg J e=>(d9 g J).2 e).sub λg _ J=>(d7.block g J).1
   ·exact((d8.DO (D:=λg=>vt1.ownBlock=some g) λ _ h=>h).kp kall λg J e=>e.elim (λe=>d11 g e J) (d10 g J).2).sub λg _ J=>(d8.block g J).1
   ·exact ah.sub (λg _ J=>J.1.1) (ah.kp kall (λg J e=>e.elim (λe=>J.1.2.1 (d9 g e).1) λe=>J.1.2.1 (e▸d3)) ti.th)
def Hg:∀n,EV n:=by
 have:∀k n,n< k->EV n:=by
  intro k
  induction k with
  | zero=>intro n h;omega
  | succ k G=>exact λn h=>FP n λm hm=>G m (by omega)
 exact λn=>this (n+1) n (by omega)
attribute [go_sem] Tryz.f223
def jS (G:Value)(c2:Value)(c3:Value)(w:World)(R:Sb)(h:vc aB (a6 [] [] [(1,false,.lt 1 (.lt 4 (.br .h 0 (.lt 2 (.br .h 3 (.lt 5 (.one .h 6 (.one .h 7 .done))) (.one .h 6 (.one .h 3 (.lt 5 (.one .h 7 .done)))))) (.one .h 3 (.lt 5 (.one .h 0 (.lt 2 (.one .h 6 (.one .h 7 .done)))))))))]) (ai Tryz.f223) (aj 0 [.v G,.v c2,.v c3]) w (fin aB [] R)):
  Sc 223 #[G,c2,c3] w (aw [] R):=
 bn Tryz.func223 (by kernel_rfl) h
def lM (l1:Value)(w:World)(R:Int->Int->Sb)(h:jf w λS2 w3=>bT l1 λb4 o5=>fq S2 b4 (o5+0) λv6=>kZ v6 λl8=>bT l1 λb10 o11=>fq S2 b10 (o11+0) λv12=>kZ v12 λl14=>(db w3 (.cells #[(.int .i64 0)] 3) λb16 w17=>S2 w17/\db w17 (.cells #[(.int .i64 0)] 3) λb18 w19=>S2 w19/\nj w19 b16 0 (.int .i64 (l8:Int)) λw21=>S2 w21/\nj w21 b18 0 (.int .i64 (l14:Int)) λw23=>bT l1 λb24 o25=>dP w23 b24 (o25+1) λv26=>kZ v26 λl28=>yC 0 w23 λI30 ξ J β=>bZ (decide (J< (l28:Int))) (jQ v26 J λb34 o35=>dP β b34 (o35+J.toNat* 1) λο=>bT ο λb39 o40=>dP β b39 (o40+3) λv41=>∃q42:Option Addr,v41= .pointer q42/\bZ (!Option.isNone q42) (bT ο λb43 o44=>dP β b43 (o44+3) λv45=>∃(f46:Nat) (c47:List Value),(Value.func (.func 223) #[] #[(.pointer (some ⟨b16,0,none⟩)),(.pointer (some ⟨b18,0,none⟩))])= .func (.func f46) #[] (List.toArray c47)/\hasR gN f46=true/\fC f46 (List.toArray ([v45]++c47)) β λw48=>bT ο λb49 o50=>dP w48 b49 (o50+4) λv51=>kZ v51 λl53=>yC 0 w48 λI55 m56 ε ι=>bZ (decide (ε< (l53:Int))) (jQ v51 ε λb59 o60=>dP ι b59 (o60+ε.toNat* 1) λv63=>∃(f64:Nat) (c65:List Value),(Value.func (.func 223) #[] #[(.pointer (some ⟨b16,0,none⟩)),(.pointer (some ⟨b18,0,none⟩))])= .func (.func f64) #[] (List.toArray c65)/\hasR gN f64=true/\fC f64 (List.toArray ([v63]++c65)) ι λw66=>bG (ε+1)/\I55 (ε+1) w66/\m56 (ε+1) w66< m56 ε ι) (bG (J+1)/\I30 (J+1) ι/\ξ (J+1) ι< ξ J β)) (bT ο λb67 o68=>dP β b67 (o68+4) λv69=>kZ v69 λl71=>yC 0 β λI73 m74 ζ κ=>bZ (decide (ζ< (l71:Int))) (jQ v69 ζ λb77 o78=>dP κ b77 (o78+ζ.toNat* 1) λv81=>∃(f82:Nat) (c83:List Value),(Value.func (.func 223) #[] #[(.pointer (some ⟨b16,0,none⟩)),(.pointer (some ⟨b18,0,none⟩))])= .func (.func f82) #[] (List.toArray c83)/\hasR gN f82=true/\fC f82 (List.toArray ([v81]++c83)) κ λw84=>bG (ζ+1)/\I73 (ζ+1) w84/\m74 (ζ+1) w84< m74 ζ κ) (bG (J+1)/\I30 (J+1) κ/\ξ (J+1) κ< ξ J β))) (jf β λS85 w86=>uX S85 b16 0 λn87=>uX S85 b18 0 λn88=>R n87 n88 w86))/\(db w3 (.cells #[(.int .i64 0)] 3) λμ w90=>S2 w90/\db w90 (.cells #[(.int .i64 0)] 3) λν w92=>S2 w92/\nj w92 ν 0 (.int .i64 (l8:Int)) λw94=>S2 w94/\nj w94 μ 0 (.int .i64 (l14:Int)) λw96=>bT l1 λb97 o98=>dP w96 b97 (o98+1) λv99=>kZ v99 λl101=>yC 0 w96 λς η G H=>bZ (decide (G< (l101:Int))) (jQ v99 G λb107 o108=>dP H b107 (o108+G.toNat* 1) λθ=>bT θ λb112 o113=>dP H b112 (o113+3) λv114=>∃υ:Option Addr,v114= .pointer υ/\bZ (!Option.isNone υ) (bT θ λb116 o117=>dP H b116 (o117+3) λv118=>∃(f119:Nat) (φ:List Value),(Value.func (.func 223) #[] #[(.pointer (some ⟨ν,0,none⟩)),(.pointer (some ⟨μ,0,none⟩))])= .func (.func f119) #[] (List.toArray φ)/\hasR gN f119=true/\fC f119 (List.toArray ([v118]++φ)) H λχ=>bT θ λb122 o123=>dP χ b122 (o123+4) λv124=>kZ v124 λl126=>yC 0 χ λI128 ψ Z γ=>bZ (decide (Z< (l126:Int))) (jQ v124 Z λb132 o133=>dP γ b132 (o133+Z.toNat* 1) λv136=>∃(f137:Nat) (ω:List Value),(Value.func (.func 223) #[] #[(.pointer (some ⟨ν,0,none⟩)),(.pointer (some ⟨μ,0,none⟩))])= .func (.func f137) #[] (List.toArray ω)/\hasR gN f137=true/\fC f137 (List.toArray ([v136]++ω)) γ λw139=>bG (Z+1)/\I128 (Z+1) w139/\ψ (Z+1) w139< ψ Z γ) (bG (G+1)/\ς (G+1) γ/\η (G+1) γ< η G H)) (bT θ λb140 o141=>dP H b140 (o141+4) λv142=>kZ v142 λl144=>yC 0 H λI146 m147 α δ=>bZ (decide (α< (l144:Int))) (jQ v142 α λb150 o151=>dP δ b150 (o151+α.toNat* 1) λv154=>∃(f155:Nat) (c156:List Value),(Value.func (.func 223) #[] #[(.pointer (some ⟨ν,0,none⟩)),(.pointer (some ⟨μ,0,none⟩))])= .func (.func f155) #[] (List.toArray c156)/\hasR gN f155=true/\fC f155 (List.toArray ([v154]++c156)) δ λw157=>bG (α+1)/\I146 (α+1) w157/\m147 (α+1) w157< m147 α δ) (bG (G+1)/\ς (G+1) δ/\η (G+1) δ< η G H))) (jf H λS158 w159=>uX S158 ν 0 λn160=>uX S158 μ 0 λn161=>R n160 n161 w159))):
  Sc 187 #[l1] w (aw [.i,.i] R):=
 Iz (a6 [(4,[(27,.i)]),(9,[(47,.i)])] [] [(1,true,.lt 0 (.lt 1 (.lt 2 (.lt 3 (.lt 4 (.lt 5 (.lt 6 (.lt 7 (.lt 8 (.lt 9 (.br .g 10 (.one .g 11 (.one .g 12 (.one .n 13 .done))) (.one .g 11 (.one .g 10 (.one .g 12 (.one .n 13 .done))))))))))))))),(14,true,.lt 0 (.lt 1 (.lt 2 (.lt 3 .done))))]) [.tmp 2 .i,.tmp 3 .i] [.v l1] Tryz.func187 (by kernel_rfl) h
attribute [go_sem] Tryz.f96
def Cb (c1:UInt8)(w:World)(R:UInt32->Sb)(h:vc aB (a6 [] [] []) (ai Tryz.f96) (aj 0 [.c c1]) w (fin aB [.tmp 2 .w] R)):
  Sc 96 #[(.int .u8 c1.toNat)] w (aw [.w] R):=
 bn Tryz.func96 (by kernel_rfl) h
attribute [go_sem] Tryz.f80
def wY (s1:UInt32)(w:World)(R:UInt8->Bool->Sb)(h:vc aB (a6 [(2,[(4,.c)])] [] []) (ai Tryz.f80) (aj 0 [.w s1]) w (fin aB [.tmp 2 .c,.tmp 3 .b] R)):
  Sc 80 #[(.int .u32 (UInt32.toNat s1))] w (aw [.c,.b] R):=
 bn Tryz.func80 (by kernel_rfl) h
attribute [go_sem] Tryz.f227
def oG (n1:Value)(G:Int)(w:World)(R:UInt32->Sb)(h:vc aB (a6 [] [] [(6,true,.lt 0 (.lt 1 (.lt 2 (.lt 3 (.lt 4 (.one .g 5 (.lt 6 (.lt 7 (.lt 8 (.one .n 9 .done))))))))))]) (ai Tryz.f227) (aj 0 [.v n1,.i G]) w (fin aB [.tmp 4 .w] R)):
  Sc 227 #[n1,(.int .i64 G)] w (aw [.w] R):=
 bn Tryz.func227 (by kernel_rfl) h
attribute [go_sem] Tryz.f228
def oH (n1:Value)(G:Int)(w:World)(R:aD->Sb)(h:vc aB (a6 [] [] []) (ai Tryz.f228) (aj 0 [.v n1,.i G]) w (fin aB [.tmp 4 .s] R)):
  Sc 228 #[n1,(.int .i64 G)] w (aw [.s] R):=
 bn Tryz.func228 (by kernel_rfl) h
attribute [go_sem] Tryz.f230
def y5 (t1:Value)(s2:aD)(w:World)(R:aD->Sb)(h:vc aB (a6 [(4,[(5,.s),(6,.i)])] [] []) (ai Tryz.f230) (aj 0 [.v t1,.s s2]) w (fin aB [.tmp 4 .s] R)):
  Sc 230 #[t1,(.string (ak s2))] w (aw [.s] R):=
 bn Tryz.func230 (by kernel_rfl) h
attribute [go_sem] Tryz.f229
def lE (n1:Value)(t2:Value)(w:World)(R:aD->Sb)(h:vc aB (a6 [(5,[(5,.v),(24,.i)])] [] [(15,true,.lt 0 (.lt 1 (.lt 2 (.lt 3 (.lt 4 (.lt 6 (.lt 7 (.lt 8 (.lt 9 (.lt 10 (.one .g 5 (.one .g 11 (.lt 12 (.lt 13 .done)))))))))))))),(19,true,.lt 0 (.lt 1 (.lt 2 (.lt 3 (.lt 4 (.lt 7 (.lt 8 (.lt 9 (.lt 10 (.lt 11 (.lt 15 (.lt 16 (.lt 17 (.lt 18 (.lt 19 (.one .g 5 (.lt 6 (.one .g 12 (.lt 13 (.lt 14 (.one .g 20 (.lt 21 (.lt 22 .done))))))))))))))))))))))),(22,true,.lt 0 (.lt 1 (.lt 2 (.lt 3 (.lt 4 (.lt 7 (.lt 8 (.lt 9 (.lt 10 (.lt 11 (.lt 15 (.lt 16 (.lt 17 (.lt 18 (.lt 19 (.one .g 5 (.lt 6 (.one .g 12 (.lt 13 (.lt 14 (.one .g 20 (.lt 21 (.lt 22 .done)))))))))))))))))))))))]) (ai Tryz.f229) (aj 0 [.v n1,.v t2]) w (fin aB [.tmp 4 .s] R)):
  Sc 229 #[n1,t2] w (aw [.s] R):=
 bn Tryz.func229 (by kernel_rfl) h
attribute [go_sem] Tryz.f226
def kX (c1:Value)(c2:Value)(c3:Value)(c4:Value)(c5:Value)(w:World)(R:Sb)(h:vc aB (a6 [(2,[(5,.s),(14,.i)]),(9,[(8,.v),(35,.i)])] [] []) (ai Tryz.f226) (aj 0 [.v c1,.v c2,.v c3,.v c4,.v c5]) w (fin aB [] R)):
  Sc 226 #[c1,c2,c3,c4,c5] w (aw [] R):=
 bn Tryz.func226 (by kernel_rfl) h
attribute [go_sem] Tryz.f225
def lu (G:Value)(a2:Int)(d3:Value)(w:World)(R:Sb)(h:vc aB (a6 [(3,[(6,.i)])] [] [(5,true,.lt 0 (.lt 1 (.lt 2 (.lt 3 (.lt 4 (.lt 5 (.lt 6 (.lt 7 (.lt 8 (.lt 9 (.lt 10 (.lt 11 (.lt 12 (.one .n 13 (.lt 14 (.one .n 15 .done)))))))))))))))),(7,true,.lt 0 (.lt 1 (.lt 2 (.lt 3 (.lt 4 (.lt 5 (.lt 6 (.lt 7 (.lt 8 (.lt 9 (.lt 10 (.lt 11 (.lt 12 (.one .n 13 (.lt 14 (.one .n 15 .done))))))))))))))))]) (ai Tryz.f225) (aj 0 [.v G,.i a2,.v d3]) w (fin aB [] R)):
  Sc 225 #[G,(.int .i64 a2),d3] w (aw [] R):=
 bn Tryz.func225 (by kernel_rfl) h
attribute [go_sem] Tryz.f189
def nz (n1:Value)(G:Value)(w:World)(R:aD->Sb)(h:vc aB (a6 [] [] [(3,true,.lt 0 (.lt 1 (.lt 2 (.lt 3 (.br .g 4 (.one .g 5 (.one .g 6 (.one .n 7 .done))) (.one .g 5 (.one .g 4 (.one .g 6 (.one .n 7 .done)))))))))]) (ai Tryz.f189) (aj 0 [.v n1,.v G]) w (fin aB [.tmp 4 .s] R)):
  Sc 189 #[n1,G] w (aw [.s] R):=
 bn Tryz.func189 (by kernel_rfl) h
attribute [go_sem] Tryz.f117
def mj (G:Value)(w:World)(R:aD->Bool->Sb)(h:vc aB (a6 [(7,[(25,.i)])] [] [(10,true,.lt 0 (.lt 1 (.lt 2 (.lt 3 (.lt 4 (.lt 5 (.lt 6 (.lt 7 (.lt 8 (.one .n 9 .done))))))))))]) (ai Tryz.f117) (aj 0 [.v G]) w (fin aB [.tmp 2 .s,.tmp 3 .b] R)):
  Sc 117 #[G] w (aw [.s,.b] R):=
 bn Tryz.func117 (by kernel_rfl) h
attribute [go_sem] Tryz.f62
def nI (t1:Value)(w:World)(R:aD->Bool->Sb)(h:vc aB (a6 [] [] []) (ai Tryz.f62) (aj 0 [.v t1]) w (fin aB [.tmp 2 .s,.tmp 3 .b] R)):
  Sc 62 #[t1] w (aw [.s,.b] R):=
 bn Tryz.func62 (by kernel_rfl) h
def dI:∀l:Lv,thAll l<=l.tot
 | .nil=>OB _
 | .thr _ _ _ o r n=>by have :=dI r;have :=dI n;simp only [thAll,Lv.tot];omega
 | .sum ps n=>by have :=dI ps;have :=dI n;simp only [thAll,Lv.tot];omega
 | .part o q n=>by have :=dI q;have :=dI n;simp only [thAll,Lv.tot];omega
def NC (n:Nat):Prop:=∀{D:Nat->Prop} {w:World} {v:Value} {o:List Nat} {l:Lv} {R:Int->Int->Sb},l.sz<=n->l.sh true=true->gC D w v o (ah D w l)->o.length+l.tot<=1099511627776->
 (∀w',Ex w w'->R ((max o.length (ay l):Nat):Int) ((o.length+thAll l:Nat):Int) w')->Sc 187 #[v] w (aw [.i,.i] R)
structure FS (w w':World)(bm ba m a:Nat):Prop where
 ex:Ex w w'
 lm:bm< w'.heap.size
 la:ba< w'.heap.size
 hm:w.heap.size<=bm
 ha:w.heap.size<=ba
 ne:bm≠ba
 cm:w'.cell? ⟨bm,0,none⟩=some (iv m)
 ca:w'.cell? ⟨ba,0,none⟩=some (iv a)
 fm:w'.frozen? ⟨bm,0,none⟩=false
 fa:w'.frozen? ⟨ba,0,none⟩=false
def FS.ext {w w' w'':World}{bm ba m a:Nat}(h:FS w w' bm ba m a)(x:Ex w' w''):FS w w'' bm ba m a:=
 ⟨Ex.trans h.ex x,O1 h.lm x.size,O1 h.la x.size,h.hm,h.ha,h.ne,by rw [x.cell (show bm< _ from h.lm)];exact h.cm,by rw [x.cell (show ba< _ from h.la)];exact h.ca,
  by rw [O7 (w:=w') (x.block bm h.lm)];exact h.fm,by rw [O7 (w:=w') (x.block ba h.la)];exact h.fa⟩
def FS.Ml {w w' w'':World}{bm ba m a m':Nat}(h:FS w w' bm ba m a)(hw:w''=w'.setCell ⟨bm,0,none⟩ (iv m')):FS w w'' bm ba m' a:=by
 subst hw;exact⟨Ex.own h.ex h.hm _,by rw [Pj];exact h.lm,by rw [Pj];exact h.la,h.hm,h.ha,h.ne,OQ _ _ _ h.cm,by rw [OD _ _ _ _ (λe=>by injection e with G;exact h.ne G)];exact h.ca,by rw [OS];exact h.fm,by rw [OS];exact h.fa⟩
def FS.MM {w w' w'':World}{bm ba m a a':Nat}(h:FS w w' bm ba m a)(hw:w''=w'.setCell ⟨ba,0,none⟩ (iv a')):FS w w'' bm ba m a':=by
 subst hw;exact⟨Ex.own h.ex h.ha _,by rw [Pj];exact h.lm,by rw [Pj];exact h.la,h.hm,h.ha,h.ne,by rw [OD _ _ _ _ (λe=>by injection e with G;exact h.ne G.symm)];exact h.cm,OQ _ _ _ h.ca,by rw [OS];exact h.fm,by rw [OS];exact h.fa⟩
def K0 {n:Nat}(ih:NC n){D:Nat->Prop}{w w':World}{v:Value}{o:List Nat}{l:Lv}{bm ba m a:Nat}(hs:FS w w' bm ba m a)(hn:l.sz<=n)(β:l.sh true=true)(h:gC D w' v o (ah D w' l))(hb:a+o.length+l.tot<=1099511627776){R:Sb}
  (hR:∀w'',FS w w'' bm ba (max m (max o.length (ay l))) (a+(o.length+thAll l))->R w''):Sc 223 #[v,ptr bm,ptr ba] w' (aw [] R):=by
 refine jS v _ _ w' R ?_;dsimp only [go_sem];have h1:=dI l;refine ih hn β h (by omega) λw6 x6=>⟨λ _=>True,λw8 γ=>⟨trivial,?_⟩⟩
 have f8:FS w w8 bm ba m a:=(hs.ext x6).ext (γ▸Ex.drew w6);have em:(if((max o.length (ay l):Nat):Int)> (m:Int)then((max o.length (ay l):Nat):Int)else(m:Int))=((max m (max o.length (ay l)):Nat):Int):=by split<;>omega
 have ea:((a:Int)+((o.length+thAll l:Nat):Int))=((a+(o.length+thAll l):Nat):Int):=by omega
 have α:bG ((a:Int)+((o.length+thAll l:Nat):Int)):=by omega
 have fin:∀w1 w2,FS w w1 bm ba (max m (max o.length (ay l))) a->w2=w1.setCell ⟨ba,0,none⟩ (.int .i64 ((a:Int)+((o.length+thAll l:Nat):Int)))->True/\R w2:=λw1 w2 f1 hw=>by
  rw [ea]at hw;exact⟨trivial,hR w2 (f1.MM hw)⟩
 have mid:∀w1,w1=w8.setCell ⟨bm,0,none⟩ (.int .i64 (if((max o.length (ay l):Nat):Int)> (m:Int)then((max o.length (ay l):Nat):Int)else(m:Int)))->FS w w1 bm ba (max m (max o.length (ay l))) a:=λw1 hw=>by
  rw [em]at hw;exact f8.Ml hw
 refine⟨⟨bm,0,rfl,m,f8.cm,trivial,⟨ba,0,rfl,a,f8.ca,trivial,α,bm,0,rfl,⟨⟨_,f8.cm⟩,f8.fm⟩,λH G=>⟨trivial,ba,0,rfl,⟨⟨_,(mid H G).ca⟩,(mid H G).fa⟩,λZ J=>fin H Z (mid H G) J⟩⟩,
  ⟨bm,0,rfl,⟨⟨_,f8.cm⟩,f8.fm⟩,λH G=>⟨trivial,ba,0,rfl,a,(mid H G).ca,trivial,α,ba,0,rfl,⟨⟨_,(mid H G).ca⟩,(mid H G).fa⟩,λZ J=>fin H Z (mid H G) J⟩⟩⟩,
  ⟨ba,0,rfl,a,f8.ca,trivial,α,bm,0,rfl,m,f8.cm,trivial,bm,0,rfl,⟨⟨_,f8.cm⟩,f8.fm⟩,λH G=>⟨trivial,ba,0,rfl,⟨⟨_,(mid H G).ca⟩,(mid H G).fa⟩,λZ J=>fin H Z (mid H G) J⟩⟩⟩
def FS.swap {w w':World}{bm ba m a:Nat}(h:FS w w' bm ba m a):FS w w' ba bm a m:=⟨h.ex,h.la,h.lm,h.ha,h.hm,Ry h.ne,h.ca,h.cm,h.fa,h.fm⟩
def aU (w:World)(c:Array Value)(e j:Nat):(w.alloc (.cells c e)).frozen? ⟨w.heap.size,j,none⟩=false:=by unfold World.frozen? World.alloc;simp
def FS.new {w w1 H w3:World}{bm ba:Nat}(x:Ex w w1)(hm:bm=w1.heap.size)(J:H=w1.alloc (.cells #[iv 0] 3))(ha:ba=H.heap.size)(Z:w3=H.alloc (.cells #[iv 0] 3)):Ex w H/\FS w w3 bm ba 0 0:=by
 have :=x.size;subst hm J ha Z;have x2:Ex w (w1.alloc (.cells #[iv 0] 3)):=Ex.trans x (Ex.alloc _ _);have s2:=size_alloc w1 (.cells #[iv 0] 3);have s3:=size_alloc (w1.alloc (.cells #[iv 0] 3)) (.cells #[iv 0] 3);have G:w1.heap.size< (w1.alloc (.cells #[iv 0] 3)).heap.size:=by omega
 refine⟨x2,Ex.trans x2 (Ex.alloc _ _),by omega,by omega,this,by omega,by omega,?_,aa rfl,?_,aU _ _ _ _⟩
 ·rw [(Ex.alloc _ _).cell (a:=⟨w1.heap.size,0,none⟩) G];exact aa rfl
 ·rw [O7 (w:=w1.alloc (.cells #[iv 0] 3)) ((Ex.alloc _ _).block _ G)];exact aU _ _ _ _
def BZ (n:Nat)(ih:∀m,m< n->NC m):NC n:=by
 intro D w v o l R hn hsh h hb hR;refine lM v w R ?_;obtain⟨b,vo,vt,ts,rfl,h2,h3,h4,h5,h6,h7,h8⟩:=h;obtain⟨ao,ο,φ⟩:=h6.slice;rw [OM]at φ;obtain⟨at_,capt,hvt⟩:=h7.slice;have hlen:=h8.len;have hel:=Lv.cM l;have hlt:=bS l;have cv:∀{w1:World},Ex w w1->∀{j:Nat} {u:Value},w.cell? ⟨b,j,none⟩=some u->w1.cell? ⟨b,j,none⟩=some u:=by
  intro w1 hx j u hu;rw [hx.cell (show b< _ from h3)];exact hu
 have fin:∀bm ba J,FS w J bm ba (max o.length (ay l)) (o.length+thAll l)->∃χ:Sb,∀ι:World,ι=World.drew J->χ ι/\∃n87:Int,(∀w',χ w'->World.cell? w' ⟨bm,0,none⟩=some (Value.int IntKind.i64 n87))/\∃n88:Int,(∀w',χ w'->World.cell? w' ⟨ba,0,none⟩=some (Value.int IntKind.i64 n88))/\R (n87) (n88) ι:=by
  intro bm ba J f;refine⟨λw'=>Ex J w',λι ς=>⟨ς▸Ex.drew J,((max o.length (ay l):Nat):Int),λw' x=>(f.ext x).cm,((o.length+thAll l:Nat):Int),λw' x=>(f.ext x).ca,hR _ (Ex.trans f.ex (ς▸Ex.drew J))⟩⟩
 refine⟨λw'=>Ex w w',λw3 hw3=>⟨hw3▸Ex.drew w,b,0,rfl,vo,λw' hx=>cv hx h4,ao,_,ο,φ,b,0,rfl,vo,λw' hx=>cv hx h4,ao,_,ο,φ,λb1 ψ ζ H=>?A,λb1 ψ ζ H=>?B⟩⟩
 all_goals have x3:Ex w w3:=hw3▸Ex.drew w
 case' A=>
  have ω:Ex w ψ:=H▸Ex.trans x3 (Ex.alloc _ _);refine⟨ω,λb2 w19 η Z=>?_⟩;have f:=(FS.new x3 ζ H η Z).2;refine⟨f.ex,⟨⟨_,f.cm⟩,f.fm⟩,λw21 α=>?_⟩;have f21:=f.Ml (m':=o.length) α;refine⟨f21.ex,⟨⟨_,f21.ca⟩,f21.fa⟩,λw23 β=>?_⟩;have f23:=f21.MM (a':=o.length) β;generalize b1=bm at*;generalize b2=ba at*;clear ζ η H Z α β f f21
 case' B=>
  have ω:Ex w ψ:=H▸Ex.trans x3 (Ex.alloc _ _);refine⟨ω,λb2 w19 η Z=>?_⟩;have f:=(FS.new x3 ζ H η Z).2.swap;refine⟨f.ex,⟨⟨_,f.cm⟩,f.fm⟩,λw21 α=>?_⟩;have f21:=f.Ml (m':=o.length) α;refine⟨f21.ex,⟨⟨_,f21.ca⟩,f21.fa⟩,λw23 β=>?_⟩;have f23:=f21.MM (a':=o.length) β;generalize b1=ba at*;generalize b2=bm at*;clear ζ η H Z α β f f21
 all_goals
  refine⟨b,0,rfl,vt,cv f23.ex h5,at_,_,capt,hvt,λx w'=>∃i:Nat,x=i/\i<=ts.length/\FS w w' bm ba (max o.length (ay (l.take i))) (o.length+thAll (l.take i)),λx _=>(ts.length - x).toNat,⟨0,rfl,Pn _,by simpa [Lv.take,ay,thAll]using f23⟩,λx J hI=>?_⟩;obtain⟨i,rfl,hi,f33⟩:=hI;refine⟨λhlt'=>?_,λhge=>?_⟩;rotate_left
  ·have:i=l.bw.length:=by simp only [OF]at hge;omega
   rw [this,Lv.dv]at f33;exact fin bm ba J f33
  have κ:=oL hlt';have hie:i< l.bw.length:=by omega
  obtain⟨bt,ot,G,hvt',hc⟩:∃bt ot G,vt= .slice (some ⟨bt,ot,none⟩) ts.length G/\J.cell? ⟨bt,ot+i,none⟩=some ts[i]:=by
   rcases h7 with⟨_,h0⟩ | ⟨bt,ot,G,e,_,hb',δ⟩
   ·rw [h0]at κ;simp at κ
   ·exact⟨bt,ot,G,e,by rw [f33.ex.cell (show bt< _ from hb')];exact δ i _ (Ox κ)⟩
  obtain⟨e,he1,he2,he3⟩:=aO.single h8.bw (Ox κ);have he4:l.bw[i]=e:=by rw [Ox hie]at he1;exact Pr he1
  have hts:=Lv.take_succ l i hie;rw [he4]at hts;have htt:=Lv.gk l (i+1);rw [hts,Lv.bQ]at htt;have htt0:=dI (l.take i);have hsz:=Lv.eX l e he2;have he5:=he3.ex f33.ex;have step:∀γ,FS w γ bm ba (max (max o.length (ay (l.take i))) (ay e)) (o.length+thAll (l.take i)+thAll e)->bG ((i:Int)+1)/\(∃j:Nat,(i:Int)+1=j/\j<=ts.length/\FS w γ bm ba (max o.length (ay (l.take j))) (o.length+thAll (l.take j)))/\((ts.length:Int) - ((i:Int)+1)).toNat< ((ts.length:Int) - i).toNat:=by
   intro γ f58;refine⟨by omega,⟨i+1,by omega,by omega,?_⟩,by omega⟩;rw [hts,cn,cd];rw [Nat.max_assoc,QV]at f58;exact f58
  refine⟨bt,ot,_,G,hvt',by omega,by omega,ts[i],by rw [OG,O8];exact hc,?_⟩;rcases Lv.ku hsh e he2 with⟨k,a,bb,o',r,rfl,hr⟩ | ⟨ps,rfl,hps⟩
  ·obtain⟨t,ts',a',b',vr,e1,ht,_,μ,_⟩:=he3;obtain⟨rfl,rfl⟩:=Pw e1;obtain⟨g,hg,_,ν,c0,c1,c2,c3,c4⟩:=ht;have μ:=μ.ex f33.ex;rw [<-f33.ex.cell (show g< _ from ν)]at c3;have hvr:∃br,vr=ptr br:=by obtain⟨br,_,_,_,e,_⟩:=μ;exact⟨br,e⟩
   obtain⟨br,rfl⟩:=hvr;simp only [Lv.sz]at hsz;simp only [Lv.tot]at htt;refine⟨g,0,hg,ptr br,c3,some ⟨br,0,none⟩,rfl,λ _=>⟨g,0,hg,ptr br,c3,223,[ptr bm,ptr ba],rfl,by kernel_rfl,?_⟩,λh=>by cases h⟩;refine K0 (ih r.sz (by omega)) f33 (OB _) hr μ (by omega) λw48 f48=>?_
   refine⟨g,0,hg,.slice none 0 0,by rw [f48.ex.cell (show g< _ from ν)];exact c4,none,0,0,rfl,λy γ=>y=0/\γ=w48,λ _ _=>0,⟨rfl,rfl⟩,λy γ hy=>?_⟩;obtain⟨rfl,rfl⟩:=hy;refine⟨λh=>by simp at h,λ _=>step _ ?_⟩;simpa [ay,thAll]using f48
  ·obtain⟨t,ts',a',b',vp,us,e1,ht,hus,υ,_⟩:=he3;obtain⟨rfl,rfl⟩:=Pw e1;obtain⟨g,hg,_,ν,c0,c1,c2,c3,c4⟩:=ht;obtain⟨au,cau,hvu⟩:=hus.slice;rw [<-f33.ex.cell (show g< _ from ν)]at c3 c4;simp only [Lv.sz]at hsz;simp only [Lv.tot]at htt;have hul:=υ.len;have hpl:=Lv.cM ps;have hpt:=bS ps;refine⟨g,0,hg,.pointer none,c3,none,rfl,λh=>(by cases h),λ _=>⟨g,0,hg,vp,c4,au,_,cau,hvu,λy w'=>∃j:Nat,y=j/\j<=us.length/\FS w w' bm ba (max (max o.length (ay (l.take i))) (ay (ps.take j))) (o.length+thAll (l.take i)+thAll (ps.take j)),λy _=>(us.length - y).toNat,⟨0,rfl,Pn _,by simpa [Lv.take,ay,thAll]using f33⟩,λy γ hJ=>?_⟩⟩;obtain⟨j,rfl,hj,f58⟩:=hJ;refine⟨λhlt2=>?_,λhge2=>?_⟩;rotate_left
   ·have:j=ps.bw.length:=by simp only [OF]at hge2;omega
    rw [this,Lv.dv]at f58;exact step _ (by simpa [ay,thAll]using f58)
   have ξ:=oL hlt2;have hje:j< ps.bw.length:=by omega
   obtain⟨bu,ou,ε,hvu',hcu⟩:∃bu ou ε,vp= .slice (some ⟨bu,ou,none⟩) us.length ε/\γ.cell? ⟨bu,ou+j,none⟩=some us[j]:=by
    rcases hus with⟨_,h0⟩ | ⟨bt,ot,G,e,_,hb',δ⟩
    ·rw [h0]at ξ;simp at ξ
    ·exact⟨bt,ot,G,e,by rw [f58.ex.cell (show bt< _ from hb')];exact δ j _ (Ox ξ)⟩
   obtain⟨e,hf1,hf2,hf3⟩:=aO.single υ.bw (Ox ξ);have hf4:ps.bw[j]=e:=by rw [Ox hje]at hf1;exact Pr hf1
   have θ:=Lv.take_succ ps j hje;rw [hf4]at θ;have htu:=Lv.gk ps (j+1);rw [θ,Lv.bQ]at htu;have htu0:=dI (ps.take j);have hsz2:=Lv.eX ps e hf2;obtain⟨o2,q,rfl,hq⟩:=Lv.mZ hps e hf2;simp only [Lv.sz]at hsz2;simp only [Lv.tot]at htu;obtain⟨v2,ts2,e2,hlv2,_⟩:=hf3;obtain⟨rfl,rfl⟩:=Pw e2;refine⟨bu,ou,_,ε,hvu',by omega,by omega,us[j],by rw [OG,O8];exact hcu,223,[ptr bm,ptr ba],rfl,by kernel_rfl,?_⟩;refine K0 (ih q.sz (by omega)) f58 (OB _) hq (hlv2.ex f58.ex) (by omega) λw66 f66=>⟨by omega,⟨j+1,by omega,by omega,?_⟩,tN (by omega)⟩
   rw [θ,cn,cd];simp only [ay,thAll,Nat.max_zero,QR];rw [<-Nat.max_assoc,<-QV];exact f66
def G4 (n:Nat):NC n:=by
 induction n using Nat.strongRecOn with
 | _ n G=>exact BZ n G
namespace Lv
def bvs:Lv->List Nat
 | nil=>[]
 | thr k _ b o r n=>(if k= .r then [b]else [])++(o++(r.bvs++n.bvs))
 | sum ps n=>ps.bvs++n.bvs
 | part o q n=>o++(q.bvs++n.bvs)
def cz:∀l m:Lv,(l.app m).bvs=l.bvs++m.bvs
 | nil,m=>rfl
 | thr k a b o r n,m=>by simp only [app,bvs,cz n m,Pe]
 | sum ps n,m=>by simp only [app,bvs,cz n m,Pe]
 | part o q n,m=>by simp only [app,bvs,cz n m,Pe]
def my:∀(l:Lv),∀e∈l.bw,e.bvs.Sublist l.bvs
 | nil,e,h=>by cases h
 | thr k a b o r n,e,h=>by
  rcases OY.1 h with rfl | h
  ·simp only [bvs,O5];exact Qj (Pz _) (Qj (Pz _) (QD _ _))
  ·exact(my n e h).trans ((Qc _ _).trans ((Qc _ _).trans (Qc _ _)))
 | sum ps n,e,h=>by
  rcases OY.1 h with rfl | h
  ·simp only [bvs,O5];exact QD _ _
  ·exact(my n e h).trans (Qc _ _)
 | part o q n,e,h=>by
  rcases OY.1 h with rfl | h
  ·simp only [bvs,O5];exact Qj (Pz _) (QD _ _)
  ·exact(my n e h).trans ((Qc _ _).trans (Qc _ _))
def rT {x:Nat}:∀(l:Lv),∀e∈l.bw,e.fh x->l.fh x
 | nil,e,h,_=>by cases h
 | thr k a b o r n,e,h,G=>by
  rcases OY.1 h with rfl | h
  ·rcases G with G | G | G | G
   ·exact .inl G
   ·exact .inr (.inl G)
   ·exact .inr (.inr (.inl G))
   ·exact G.elim
  ·exact .inr (.inr (.inr (rT n e h G)))
 | sum ps n,e,h,G=>by
  rcases OY.1 h with rfl | h
  ·exact .inl (G.elim id λh=>h.elim)
  ·exact .inr (rT n e h G)
 | part o q n,e,h,G=>by
  rcases OY.1 h with rfl | h
  ·exact .inl (G.elim id λh=>h.elim)
  ·exact .inr (rT n e h G)
def lL:∀(l:Lv) (i:Nat),∀x∈(l.take i).bvs,x∈l.bvs
 | _,0,x,h=>by simp [take,bvs]at h
 | nil,i+1,x,h=>h
 | thr k a b o r n,i+1,x,h=>by
  simp only [take,bvs,OH]at h|-;exact h.imp id (Or.imp id (Or.imp id (lL n i x)))
 | sum ps n,i+1,x,h=>by
  simp only [take,bvs,OH]at h|-;exact h.imp id (lL n i x)
 | part o q n,i+1,x,h=>by
  simp only [take,bvs,OH]at h|-;exact h.imp id (Or.imp id (lL n i x))
def iq:∀(l:Lv) (i:Nat),(l.take i).len<=l.len
 | _,0=>by simp [take,len]
 | nil,i+1=>by simp [take,len]
 | thr k a b o r n,i+1=>by have :=iq n i;simp only [take,len];omega
 | sum ps n,i+1=>by have :=iq n i;simp only [take,len];omega
 | part o q n,i+1=>by have :=iq n i;simp only [take,len];omega
def sm:Lv->Bool
 | nil=>true
 | thr _ _ _ _ r n=>r.sm&&n.sm
 | sum ps n=> !ps.isNil&&(ps.sm&&n.sm)
 | part _ q n=>q.sm&&n.sm
def qW:∀{l m:Lv},(l.app m).sm=(l.sm&&m.sm)
 | nil,m=>by simp [app,sm]
 | thr k a b o r n,m=>by simp only [app,sm,qW (l:=n),R4]
 | sum ps n,m=>by simp only [app,sm,qW (l:=n),R4]
 | part o q n,m=>by simp only [app,sm,qW (l:=n),R4]
def vh:∀{l:Lv},l.sm=true->∀e∈l.bw,e.sm=true
 | nil,_,e,h=>by cases h
 | thr k a b o r n,G,e,h=>by
  simp only [sm,OA]at G;rcases OY.1 h with rfl | h
  ·simp only [sm,G.1,P5]
  ·exact vh G.2 e h
 | sum ps n,G,e,h=>by
  simp only [sm,OA]at G;rcases OY.1 h with rfl | h
  ·simp only [sm,G.1,G.2.1,P5]
  ·exact vh G.2.2 e h
 | part o q n,G,e,h=>by
  simp only [sm,OA]at G;rcases OY.1 h with rfl | h
  ·simp only [sm,G.1,P5]
  ·exact vh G.2 e h
def Ln {ps:Lv}{n:List Nat×Lv}(h:ps.sm=true)(G:n.2.sm=true):(spl ps n).2.sm=true:=by
 unfold spl;split
 ·exact G
 ·simp only [sm,OA]at h;simp only [qW,h.1,G,P5]
 ·rename_i H J;have:ps.isNil=false:=by cases ps<;>first | rfl | exact absurd rfl H
  simp only [sm,this,h,G,Bool.not_false,P5]
def Mt {o:List Nat}{q n:Lv}(h:q.sm=true)(G:n.sm=true):(prt o q n).sm=true:=by
 unfold prt;split
 ·exact G
 ·split
  ·simp only [sm,OA]at h;simp only [qW,h.2.1,G,P5]
  ·simp only [sm,OA]at h|-;exact⟨h,G⟩
 ·simp only [sm,h,G,P5]
def oT:∀l:Lv,(tid l).2.sm=true
 | nil=>rfl
 | thr k a b o r n=>by
  have H:=oT r;have G:=oT n;simp only [tid];have J:(kept o (tid r)).2=(tid r).2:=rfl;split
  ·simp only [qW,J,H,G,P5]
  ·split
   ·exact G
   ·simp only [sm,J,H,G,P5]
 | sum ps n=>by
  simp only [tid];exact Ln (oT ps) (oT n)
 | part o q n=>by
  simp only [tid,kept];exact Mt (oT q) (oT n)
end Lv
structure vi (o:List Nat)(l:Lv):Prop where
 nd:(o++l.bvs).Nodup
 nf:∀x∈l.bvs,¬l.fh x
 ge:∀x∈o++l.bvs,26<=x
def vi.bw {o:List Nat}{l:Lv}(h:vi o l){e:Lv}(he:e∈l.bw):vi [] e:=by
 have G:=Lv.my l e he;refine⟨by simpa using(Pg.1 h.nd).2.1.sublist G,λx H J=>h.nf x (G.subset H) (Lv.rT l e he J),λx H=>h.ge x (O0 _ (G.subset (by simpa using H)))⟩
def vi.thr {k:K}{a b:Nat}{o:List Nat}{r:Lv}(h:vi [] (.thr k a b o r .nil)):vi o r/\(k= .r->26<=b/\b≠a/\b∉o/\b∉r.bvs):=by
 have nd:=h.nd;have ge:=h.ge;have nf:=h.nf;simp only [Lv.bvs,O5,Pv]at nd ge nf;have G:=(Pg.1 nd).2.1;refine⟨⟨G,λx H hf=>?_,λx H=>ge x (O0 _ H)⟩,λJ=>?_⟩
 ·refine nf x (O0 _ (O0 _ H)) (.inr (.inr (.inl ⟨λZ=>(Pg.1 G).2.2 x Z x H rfl,fun⟨J,hb⟩=>?_,hf⟩)));rw [O' J]at nd;exact(Pg.1 nd).2.2 b (by simp) x (O0 _ H) hb.symm
 ·rw [O' J]at nd ge nf;refine⟨ge b (by simp),λe=>nf b (by simp) (.inr (.inl ⟨J,e⟩)),λZ=>(Pg.1 nd).2.2 b (by simp) b (O9 _ Z) rfl,λhr=>(Pg.1 nd).2.2 b (by simp) b (O0 _ hr) rfl⟩
def vi.sum {ps:Lv}(h:vi [] (.sum ps .nil)):vi [] ps:=by
 have nd:=h.nd;have ge:=h.ge;have nf:=h.nf;simp only [Lv.bvs,O5,Pv]at nd ge nf;exact⟨by simpa using nd,λx G H=>nf x G (.inl H),λx G=>ge x (by simpa using G)⟩
def vi.part {o:List Nat}{q:Lv}(h:vi [] (.part o q .nil)):vi o q:=by
 have nd:=h.nd;have ge:=h.ge;have nf:=h.nf;simp only [Lv.bvs,O5,Pv]at nd ge nf;exact⟨nd,λx G H=>nf x (O0 _ G) (.inl ⟨λJ=>(Pg.1 nd).2.2 x J x G rfl,H⟩),ge⟩
def bP (l:List Tx):Nat:=(l.map λs=>s.length+3).sum
def iU {l m:List Tx}(h:l.Perm m):bP l=bP m:=jF (h.map _)
def CK (l m:List Tx):bP (l++m)=bP l+bP m:=by simp [bP]
def iC (s:UInt8):∀l:List Tx,(joinS s l).length<=bP l
 | []=>by simp [joinS]
 | [a]=>by simp [joinS,bP]
 | a::b::l=>by
  have :=iC s (b::l);simp only [joinS,Ov,Oy,ON];simp only [bP,O3,Py]at this|-;omega
def yn (s:Tx):∀l:List UInt8,(wrap l s).length=3* l.length+s.length
 | []=>by simp [wrap]
 | c::l=>by simp only [wrap,Ov,yn s l];omega
def oZ {own:List Nat}{f:Rh->Tk->List Tx}{B:Nat}(hB:∀ρ tk,bP (f ρ tk)<=B)(ρ:Rh)(tk:Tk):(aV own f ρ tk).length<=3* own.length+B+1:=by
 unfold aV;split
 ·simp
 ·have G:((perms own).map λπ=>joinS 38 (aK (f (asg π (lets own.length tk) ρ) (addK (lets own.length tk) tk))))≠[]:=λe=>pY own (RR.1 e)
  obtain⟨H,_⟩:=cK G;obtain⟨π,_,e⟩:=Pf.1 H;show(wrap _ (bJ _)).length<=_;rw [yn,gd,<-e];have :=iC 38 (aK (f (asg π (lets own.length tk) ρ) (addK (lets own.length tk) tk)));rw [iU (aG _)]at this;have :=hB (asg π (lets own.length tk) ρ) (addK (lets own.length tk) tk);omega
def gW:∀(l:Lv) (ρ:Rh) (tk:Tk),bP (thS l ρ tk)<=16* l.tot
 | .nil,_,_=>by simp [thS,bP]
 | .thr k a b o r n,ρ,tk=>by
  have H:=gW n ρ tk;have G:∀ρ tk,(aV o (thS r) ρ tk).length<=3* o.length+16* r.tot+1:=λρ tk=>oZ (λρ tk=>gW r ρ tk) ρ tk
  simp only [bP]at H|-;cases k<;>simp only [thS,O3,Py,kText,Ov,Lv.tot]
  ·have :=G ρ tk;omega
  ·have :=G (aI ρ b (jc tk)) (cY tk (jc tk));omega
  ·have :=G ρ tk;omega
  ·have :=G ρ tk;omega
  ·have :=G ρ tk;omega
 | .sum ps n,ρ,tk=>by
  have G:=gW ps ρ tk;have H:=gW n ρ tk;have J:=iC 43 (aK (thS ps ρ tk));rw [iU (aG _)]at J;simp only [bP]at G H J|-;simp only [thS,O3,Py,Lv.tot];omega
 | .part o q n,ρ,tk=>by
  have H:=gW n ρ tk;have G:(aV o (thS q) ρ tk).length<=3* o.length+16* q.tot+1:=oZ (λρ tk=>gW q ρ tk) ρ tk;simp only [bP]at H|-;simp only [thS,O3,Py,Lv.tot];omega
def re {s:UInt8}:∀{l:List Tx},l≠[]->(∀t∈l,t≠[])->joinS s l≠[]
 | [],h,_=>absurd rfl h
 | [a],_,h=>h a (by simp)
 | a::b::l,_,_=>by simp [joinS]
def rA {l:List Tx}(h:l≠[]):aK l≠[]:=λe=>h (by have :=aG l;rw [e]at this;exact this.symm.eq_nil)
def Dm {own:List Nat}{f:Rh->Tk->List Tx}(J:∀ρ tk,∀t∈f ρ tk,t≠[])(he:∀ρ ρ' tk tk',(f ρ tk).isEmpty=(f ρ' tk').isEmpty)(ρ:Rh)(tk:Tk):aV own f ρ tk≠[]:=by
 unfold aV;split
 ·simp
 ·rename_i Z;have G:((perms own).map λπ=>joinS 38 (aK (f (asg π (lets own.length tk) ρ) (addK (lets own.length tk) tk))))≠[]:=λe=>pY own (RR.1 e)
  obtain⟨h1,_⟩:=cK G;obtain⟨π,_,e⟩:=Pf.1 h1;show wrap _ (bJ _)≠[];rw [Bs];refine λe'=>?_
  have H:=(List.append_eq_nil_iff.1 e').2;rw [<-e]at H;refine re (rA ?_) (λt ht=>J _ _ t ((aG _).subset ht)) H;intro e3;have :=he (asg π (lets own.length tk) ρ) ρ (addK (lets own.length tk) tk) tk;rw [e3]at this;exact Z this.symm
def Gx (l:Lv)(ρ ρ':Rh)(tk tk':Tk):(thS l ρ tk).isEmpty=(thS l ρ' tk').isEmpty:=by
 rw [PG,List.isEmpty_iff_length_eq_zero,List.isEmpty_iff_length_eq_zero,bD,bD]
def mV:∀(l:Lv),l.sm=true->∀(ρ:Rh) (tk:Tk),∀t∈thS l ρ tk,t≠[]
 | .nil,_,_,_,t,h=>by cases h
 | .thr k a b o r n,G,ρ,tk,t,h=>by
  simp only [Lv.sm,OA]at G;have J:t∈thS n ρ tk\/t≠[]:=by
   cases k<;>simp only [thS,OY]at h<;>rcases h with rfl | h<;>first | exact .inl h | (right;simp [kText])
  exact J.elim (mV n G.2 ρ tk t) id
 | .sum ps n,G,ρ,tk,t,h=>by
  simp only [Lv.sm,OA]at G;rw [thS]at h;rcases OY.1 h with rfl | h
  ·refine re (rA λe=>?_) λt Z=>mV ps G.2.1 ρ tk t ((aG _).subset Z)
   have H:=bD ps ρ tk;rw [e]at H;have h2:ps.isNil=true:=by rw [Lv.dH];simp at H;simp [<-H]
   rw [h2]at G;simp at G
  ·exact mV n G.2.2 ρ tk t h
 | .part o q n,G,ρ,tk,t,h=>by
  simp only [Lv.sm,OA]at G;rw [thS]at h;rcases OY.1 h with rfl | h
  ·exact Dm (λρ tk=>mV q G.1 ρ tk) (λρ ρ' tk tk'=>Gx q ρ ρ' tk tk') ρ tk
  ·exact mV n G.2 ρ tk t h
def F7 (x:Nat)(ps:Lv)(n:List Nat×Lv):((Lv.spl ps n).1++(Lv.spl ps n).2.bvs).count x=ps.bvs.count x+(n.1++n.2.bvs).count x:=by
 unfold Lv.spl;split
 ·simp [Lv.bvs]
 ·simp only [Lv.cz,Lv.bvs,Pp,R5];omega
 ·simp only [Lv.bvs,Pp];omega
def FL (x:Nat)(o:List Nat)(q n:Lv):(Lv.prt o q n).bvs.count x<=o.count x+q.bvs.count x+n.bvs.count x:=by
 unfold Lv.prt;split
 ·omega
 ·split
  ·simp only [Lv.cz,Lv.bvs,Pp,R5];omega
  ·simp only [Lv.bvs,Pp,R5];omega
 ·simp only [Lv.bvs,Pp];omega
def oe (x:Nat)(own:List Nat)(r:List Nat×Lv):((Lv.kept own r).1).count x<=own.count x+r.1.count x:=by
 have :=(List.filter_sublist (p:=λx=>r.2.has x) (l:=own++r.1)).count_le x;rw [Pp]at this;exact this
def fK (x:Nat):∀l:Lv,((Lv.tid l).1++(Lv.tid l).2.bvs).count x<=l.bvs.count x
 | .nil=>by simp [Lv.tid,Lv.bvs]
 | .thr k a b o r n=>by
  have G:=fK x r;have H:=fK x n;have J:=oe x o (Lv.tid r);have h4:(Lv.kept o (Lv.tid r)).2=(Lv.tid r).2:=rfl;simp only [Lv.tid];simp only [Pp]at G H;split
  ·simp only [h4,Lv.cz,Lv.bvs,Pp];omega
  ·split
   ·simp only [Lv.bvs,Pp];omega
   ·simp only [h4,Lv.bvs,Pp];omega
 | .sum ps n=>by
  have G:=fK x ps;have H:=fK x n;simp only [Lv.tid,F7,Lv.bvs];simp only [Pp]at G H|-;omega
 | .part o q n=>by
  have G:=fK x q;have H:=fK x n;have J:=oe x o (Lv.tid q);have h4:(Lv.kept o (Lv.tid q)).2=(Lv.tid q).2:=rfl;have h5:=FL x (Lv.kept o (Lv.tid q)).1 (Lv.kept o (Lv.tid q)).2 (Lv.tid n).2;simp only [Lv.tid,Pv,Lv.bvs];rw [h4]at h5;simp only [Pp]at G H h5|-;rw [h4];omega
def bW (x:Nat):∀u:U,((flat u).1++(flat u).2.bvs).count x=(BV u).count x
 | .nil=>rfl
 | .snd a b p=>by have :=bW x p;simpa [flat,Lv.bvs,BV]using this
 | .rcv a y p=>by have :=bW x p;simp only [flat,Lv.bvs,BV,Qu,Pp,List.count_cons,Pv,R5,O5]at this|-;omega
 | .tau p=>by have :=bW x p;simpa [flat,Lv.bvs,BV]using this
 | .sum p q=>by
  have :=bW x p;have :=bW x q;simp only [flat,Lv.bvs,BV,Pp,Pv,O5,R5]at*;omega
 | .par p q=>by
  have :=bW x p;have :=bW x q;simp only [flat,Lv.cz,BV,Pp]at*;omega
 | .res y p=>by have :=bW x p;simp only [flat,BV,Pp,List.count_cons]at this|-;omega
 | .mat a b p=>by have :=bW x p;simpa [flat,Lv.bvs,BV]using this
 | .rep p=>by have :=bW x p;simpa [flat,Lv.bvs,BV]using this
def HI (x:Nat)(u:U):((td u).1++(td u).2.bvs).count x<=(BV u).count x:=by
 have G:=fK x (flat u).2;have H:=oe x (flat u).1 (Lv.tid (flat u).2);have J:=bW x u;have h4:(td u).2=(Lv.tid (flat u).2).2:=rfl;have h5:(td u).1=(Lv.kept (flat u).1 (Lv.tid (flat u).2)).1:=rfl;rw [h4,h5];simp only [Pp]at*;omega
def uS {u:U}(h:Uq u)(hb:∀x∈BV u,26<=x):vi (td u).1 (td u).2:=by
 have J:∀x,((td u).1++(td u).2.bvs).count x<=(BV u).count x:=λx=>HI x u
 have hm:∀x∈(td u).1++(td u).2.bvs,x∈BV u:=λx G=>by
  have :=J x;have H:=List.count_pos_iff.2 G;exact List.count_pos_iff.1 (by omega)
 have nd:((td u).1++(td u).2.bvs).Nodup:=Qn.2 λx=>Pq (J x) (Qn.1 h.nd x)
 refine⟨nd,λx G Z=>?_,λx G=>hb x (hm x G)⟩;have H:x∉(td u).1:=λH=>(Pg.1 nd).2.2 x H x G rfl
 exact h.nf x (hm x (O0 _ G)) (T.bj (By _ u (OB _) h x Z H))
def Oh:Shelf.Ren where
 f:=λx=>if x=190 then 100 else if x=125 then 170 else if x=258 then 169 else if x=128 then 217 else if x=129 then 218 else if x=302 then 208 else if x=303 then 209 else if x=304 then 210 else if x=305 then 211 else if x=306 then 212 else if x=307 then 213 else if x=308 then 214 else if x=309 then 215 else if x=310 then 216 else if x=333 then 247 else if x=329 then 248 else if x=330 then 249 else if x=334 then 250 else if x=335 then 251 else if x=336 then 239 else if x=344 then 259 else x
 t:=λx=>if x=31 then 22 else if x=9 then 9 else if x=3 then 3 else if x=46 then 188 else if x=0 then 0 else if x=51 then 91 else if x=53 then 228 else if x=4 then 4 else if x=183 then 221 else if x=182 then 220 else if x=131 then 210 else if x=5 then 5 else if x=218 then 246 else if x=222 then 250 else if x=228 then 255 else if x=229 then 200 else x
 g:=λx=>x
def CJ:Lays.n190 Tryz.prog Oh where
 mixed:=Eq.refl true
 f125:=Qs Tryz.func170 (by kernel_rfl)
 f128:=Qs Tryz.func217 (by kernel_rfl)
 f129:=Qs Tryz.func218 (by kernel_rfl)
 f190:=Qs Tryz.func100 (by kernel_rfl)
 f258:=Qs Tryz.func169 (by kernel_rfl)
 f302:=Qs Tryz.func208 (by kernel_rfl)
 f303:=Qs Tryz.func209 (by kernel_rfl)
 f304:=Qs Tryz.func210 (by kernel_rfl)
 f305:=Qs Tryz.func211 (by kernel_rfl)
 f306:=Qs Tryz.func212 (by kernel_rfl)
 f307:=Qs Tryz.func213 (by kernel_rfl)
 f308:=Qs Tryz.func214 (by kernel_rfl)
 f309:=Qs Tryz.func215 (by kernel_rfl)
 f310:=Qs Tryz.func216 (by kernel_rfl)
 f329:=Qs Tryz.func248 (by kernel_rfl)
 f330:=Qs Tryz.func249 (by kernel_rfl)
 f333:=Qs Tryz.func247 (by kernel_rfl)
 f334:=Qs Tryz.func250 (by kernel_rfl)
 f335:=Qs Tryz.func251 (by kernel_rfl)
 f336:=Qs Tryz.func239 (by kernel_rfl)
 f344:=Qs Tryz.func259 (by kernel_rfl)
 t0:=Tryz.underlying0
 a0:=Tryz.isAgg0
 z0:=Tryz.sizeOf0
 v0:=Tryz.zeroValue0
 t3:=Tryz.underlying3
 a3:=Tryz.isAgg3
 z3:=Tryz.sizeOf3
 v3:=Tryz.zeroValue3
 t4:=Tryz.underlying4
 a4:=Tryz.isAgg4
 z4:=Tryz.sizeOf4
 v4:=Tryz.zeroValue4
 t5:=Tryz.underlying5
 a5:=Tryz.isAgg5
 z5:=Tryz.sizeOf5
 v5:=Tryz.zeroValue5
 t9:=Tryz.underlying9
 a9:=Tryz.isAgg9
 z9:=Tryz.sizeOf9
 v9:=Tryz.zeroValue9
 t31:=Tryz.underlying22
 a31:=Tryz.isAgg22
 z31:=Tryz.sizeOf22
 v31:=Tryz.zeroValue22
 t46:=Tryz.underlying188
 a46:=Tryz.isAgg188
 z46:=Tryz.sizeOf188
 v46:=Tryz.zeroValue188
 t51:=Tryz.underlying91
 a51:=Tryz.isAgg91
 z51:=Tryz.sizeOf91
 v51:=Tryz.zeroValue91
 t53:=Tryz.underlying228
 a53:=Tryz.isAgg228
 z53:=Tryz.sizeOf228
 v53:=Tryz.zeroValue228
 t131:=Tryz.underlying210
 a131:=Tryz.isAgg210
 z131:=Tryz.sizeOf210
 v131:=Tryz.zeroValue210
 t182:=Tryz.underlying220
 a182:=Tryz.isAgg220
 z182:=Tryz.sizeOf220
 v182:=Tryz.zeroValue220
 t183:=Tryz.underlying221
 a183:=Tryz.isAgg221
 z183:=Tryz.sizeOf221
 v183:=Tryz.zeroValue221
 t218:=Tryz.underlying246
 a218:=Tryz.isAgg246
 z218:=Tryz.sizeOf246
 v218:=Tryz.zeroValue246
 t222:=Tryz.underlying250
 a222:=Tryz.isAgg250
 z222:=Tryz.sizeOf250
 v222:=Tryz.zeroValue250
 t228:=Tryz.underlying255
 a228:=Tryz.isAgg255
 z228:=Tryz.sizeOf255
 v228:=Tryz.zeroValue255
 t229:=Tryz.underlying200
 a229:=Tryz.isAgg200
 z229:=Tryz.sizeOf200
 v229:=Tryz.zeroValue200
def sort_k {B:Nat}{w:World}{v:Value}{l:List Tx}(h:Own B w v l)(G:l≠[])(hl:l.length<=1099511627776){R:Sb}
  (hR:∀w',Kp w w' (λg=>v.ownBlock=some g)->Own B w' v (aK l)->R w'):Sc 100 #[v] w (aw [] R):=by
 rcases h.2 with⟨rfl,hn⟩ | ⟨g,cap,cur,rfl,hb,H,h1,h2,h3,h4⟩
 ·exact absurd (Pa hn) G
 ·refine(Any.slices_Sort_string CJ g 0 cap l w (holds_of_block H (by rw [O8]at h4;exact h4)) (Ph.1 H).1 (by omega)).mono ?_
  rintro e w' ⟨rfl,n,os,rfl⟩
  refine⟨rfl,hR _ (Kp.aP (grownBy_sorted _) λg' J=>J) ?_⟩;have Z:(l.mergeSort λx y=>decide (x<=y)).length=l.length:=by simp
  have :=ownsRow_sorted (n:=n) (os:=os) Z hb H h1 h2 h3;have e2:aK l=l.mergeSort λx y=>decide (x<=y):=rfl
  unfold Own;rw [e2,Z];exact this
def CD (s:UInt8)(a b:Tx)(l:List Tx):joinS s (a::b::l)=[40]++a++[s]++joinS s (b::l)++[41]:=by simp [joinS]
def GJ {B:Nat}{w:World}{v:Value}{l:List Tx}{c:UInt8}(h:Own B w v l)(H:l≠[])(hl:l.length<=1099511627776)(hs:bP l<=1099511627776){R:aD->Sb}
  (hR:∀w',Kp w w' (λg=>v.ownBlock=some g)->R (joinS c (aK l)) w'):Sc 230 #[v,.string (ak [c])] w (aw [.s] R):=by
 refine y5 v [c] w R ?_;dsimp only [go_sem];dsimp only [go_sem,Nat.reduceAdd];refine sort_k h H hl λw3 k3 o3=>?_
 have hp:=aG l;have J:(aK l).length=l.length:=hp.length_eq;have γ:0< l.length:=Rf.2 H;have st:=o3.strs;generalize hL:aK l=L at*;rcases st with⟨_,e⟩ | ⟨b,off,cap,rfl,hb,hc⟩
 ·rw [e]at J;simp at J;omega
 have δ:bP L=bP l:=iU hp;have Z:∀j,(hj:j< L.length)->w3.cell? ⟨b,off+j,none⟩=some (.string (ak L[j])):=λj hj=>hc j _ (Ox hj)
 have G:∀j,bP (L.drop j)<=bP L:=λj=>by
  have:bP L=bP (L.take j)+bP (L.drop j):=by rw [<-CK,PV]
  omega
 refine⟨_,_,cap,rfl,by omega,b,off,_,cap,rfl,by omega,by omega,L[L.length - 1]'(by omega),?_,_,_,cap,rfl,by omega,λout i w'=>w'=w3/\ -1<=i/\i+2<=L.length/\out=joinS c (L.drop (i+1).toNat),λ _ i _=>(i+1).toNat,⟨rfl,by omega,by omega,?_⟩,λout i w' hI=>?_⟩
 ·rw [O8,show((L.length:Int) - 1).toNat=L.length - 1 by omega];exact Z _ (by omega)
 ·rw [show((L.length:Int) - 2+1).toNat=L.length - 1 by omega,Ps (by omega),show L.length - 1+1=L.length by omega,Qd];rfl
 ·obtain⟨rfl,h0,h1,rfl⟩:=hI;refine⟨λhi=>?_,λhi=>?_⟩
  ·simp only [OK]at hi;have α:i.toNat< L.length:=by omega
   have β:i.toNat+1< L.length:=by omega
   have e1:(i+1).toNat=i.toNat+1:=by omega
   have e2:L.drop i.toNat=L[i.toNat]::L.drop (i.toNat+1):=Ps α;have e3:L.drop (i.toNat+1)=L[i.toNat+1]::L.drop (i.toNat+1+1):=Ps β;have hj:=iC c (L.drop (i.toNat+1));have hd:=G i.toNat;have ε:bP (L.drop i.toNat)=L[i.toNat].length+3+bP (L.drop (i.toNat+1)):=by rw [e2];simp only [bP,O3,Py]
   rw [e1];refine⟨b,off,_,cap,rfl,by omega,by omega,L[i.toNat],by rw [O8];exact Z _ α,?_,?_,?_,?_,by omega,⟨rfl,by omega,by omega,?_⟩,by show(i - 1+1).toNat< (i+1).toNat;omega⟩
   ·simp;omega
   ·simp;omega
   ·simp;omega
   ·simp;omega
   ·rw [show(i - 1+1).toNat=i.toNat by omega,e2,e3,CD]
  ·simp only [OF]at hi;have:i= -1:=by omega
   subst this;exact hR w' k3
def pK (c:UInt8):UInt32:=Bt 1 (c - 97).toNat
def qB (x:UInt32)(tk:Tk):Prop:=∀c,lt c=true->decide (x &&& pK c=0)= !tk c
def BT (a b c:UInt32):(a ||| b) &&& c=(a &&& c) ||| (b &&& c):=by
 apply QQ.1;simp only [UInt32.toBitVec_and,UInt32.toBitVec_or]
 ext i hi
 simp [Bool.and_or_distrib_right]
def DQ (a b:UInt32):a ||| b=0↔a=0/\b=0:=by
 rw [<-QQ,<-QQ,<-QQ];simp only [UInt32.toBitVec_or];exact BitVec.or_eq_zero_iff
def Ii:∀i,i< 26->∀j,j< 26->decide (Bt 1 i &&& Bt 1 j=0)=decide (i≠j):=by decide+kernel
def rC {c d:UInt8}(G:lt c=true)(hd:lt d=true):decide (pK c &&& pK d=0)= !(d==c):=by
 have H:=a7 G;have J:=a7 hd;unfold pK;rw [Ii _ (by rw [gM G];omega) _ (by rw [gM hd];omega),gM G,gM hd];rw [PG];simp only [OK,QA,beq_eq_false_iff_ne,ne_eq,<-OU];omega
def qB.add {x:UInt32}{tk:Tk}(h:qB x tk){d:UInt8}(hd:lt d=true):qB (x ||| pK d) (cY tk d):=by
 intro c G;rw [BT,QI.2 (DQ _ _),Bool.decide_and,h c G,rC hd G];simp [cY]
def uy {c:UInt8}{w:World}{R:UInt32->Sb}(h:R (pK c) w):Sc 96 #[.int .u8 c.toNat] w (aw [.w] R):=
 Cb c w R h
def Me (tk:Tk):lt (jc tk)=true:=by
 unfold jc wV;cases h:Gm.find? λc=> !tk c with
 | none=>decide
 | some c=>
  have :=Q7 h;unfold Gm at this;simp only [Pf,PH]at this;obtain⟨i,hi,rfl⟩:=this;clear h;revert i;decide+kernel
def Jt {x:UInt32}{tk:Tk}(hx:qB x tk){w:World}{R:UInt8->Bool->Sb}(h1:wV tk=none->R 0 false w)(h2:∀c,wV tk=some c->R c true w):
  Sc 80 #[.int .u32 x.toNat] w (aw [.c,.b] R):=by
 refine wY x w R ?_;dsimp only [go_sem];dsimp only [go_sem,UInt8.reduceOfNat,UInt32.reduceOfNat,Nat.reduceAdd];refine⟨λc w'=>w'=w/\97<=c.toNat/\c.toNat<=123/\∀d:UInt8,97<=d->d< c->tk d=true,λc _=>123 - c.toNat,⟨rfl,by decide,by decide,λd h h'=>?_⟩,λc w' hI=>?_⟩
 ·rw [OZ]at h;rw [Pu]at h';omega
 ·obtain⟨rfl,h3,h4,h5⟩:=hI;refine⟨λJ=>uy ?_,λJ=>?_⟩
  ·simp only [OK,OZ]at J;have H:c.toNat<=122:=J;have α:lt c=true:=tV ⟨h3,H⟩;have :=hx c α;refine⟨λhe=>?_,λhe=>?_⟩
   ·rw [he]at this;refine h2 c (vk (f:=λc=> !tk c) (by rw [OZ];exact h3) (by rw [OZ];exact H) this.symm λd hd G=>by simp [h5 d hd G])
   ·rw [he]at this;have ht:tk c=true:=by simpa using this.symm
    have e1:(c+1).toNat=c.toNat+1:=by rw [RV];show(c.toNat+1) % 256=_;omega
    refine⟨⟨rfl,by omega,by omega,λd hd G=>?_⟩,by show 123 - (c+1).toNat< 123 - c.toNat;omega⟩;rw [Pu,e1]at G;by_cases Z:d=c
    ·rw [Z];exact ht
    ·refine h5 d hd (Pu.2 ?_);have:d.toNat≠c.toNat:=λe=>Z (OU.1 e)
     omega
  ·simp only [OF,OZ]at J;have H:122< c.toNat:=by have:¬c.toNat<=122:=J;omega
   refine h1 (xT (f:=λc=> !tk c) λd hd G=>?_);have:tk d=true:=h5 d hd (Pu.2 (by rw [OZ]at G;have:d.toNat<=122:=G;omega));simp [this]
def N1 (m:Value->Option Value)(ρ:Rh):Prop:=∀x,(ρ x).toNat< 128/\(x< 26->ρ x=UInt8.ofNat (97+x))/\(26<=x->m (iv x)=some (.int .u8 (ρ x).toNat)\/(m (iv x)=none/\ρ x=0))
structure Nm (w:World)(n r:Nat)(ρ:Rh)(tk:Tk)(bad:Bool):Prop where
 lt:n< w.heap.size
 lr:r< w.heap.size
 ne:n≠r
 c0:w.cell? ⟨n,0,none⟩=some (.map (some r))
 mp:∃m,IsMap w r (.int .i64) m/\N1 m ρ
 c1:∃x:UInt32,w.cell? ⟨n,1,none⟩=some (.int .u32 x.toNat)/\qB x tk
 c2:w.cell? ⟨n,2,none⟩=some (.bool bad)
 f:∀j,w.frozen? ⟨n,j,none⟩=false
def Nm.kp {w w':World}{n r:Nat}{ρ:Rh}{tk:Tk}{bad:Bool}{S:Nat->Prop}(h:Nm w n r ρ tk bad)(k:Kp w w' S)(G:¬S n)(hr:¬S r):Nm w' n r ρ tk bad:=by
 have e:=k.block n h.lt G;have H:=k.block r h.lr hr;obtain⟨m,⟨es,J,Z,h2⟩,h3⟩:=h.mp;obtain⟨x,h4,h5⟩:=h.c1;exact⟨O1 h.lt k.size,O1 h.lr k.size,h.ne,by rw [Ow (w:=w) e];exact h.c0,⟨m,⟨es,J,by rw [H];exact Z,h2⟩,h3⟩,⟨x,by rw [Ow (w:=w) e];exact h4,h5⟩,by rw [Ow (w:=w) e];exact h.c2,λj=>by rw [O7 (w:=w) e];exact h.f j⟩
def Nm.ex {w w':World}{n r:Nat}{ρ:Rh}{tk:Tk}{bad:Bool}(h:Nm w n r ρ tk bad)(x:Ex w w'):Nm w' n r ρ tk bad:=h.kp (Kp.ab x λ _=>False) (λh=>h) λh=>h
abbrev Kn (n r:Nat)(w w':World):Prop:=Kp w w' λg=>g=n\/g=r
def Kn.trans {n r:Nat}{a b c:World}(h:Kn n r a b)(k:Kn n r b c):Kn n r a c:=Kp.trans h k λ _ _ h=>h
def Kn.ex {n r:Nat}{a b:World}(h:Ex a b):Kn n r a b:=Kp.ab h _
def Kn.set {n r:Nat}(w:World)(j:Nat)(v:Value):Kn n r w (w.setCell ⟨n,j,none⟩ v):=Kp.mono (λ _ h=> .inl h) (Kr.set w j v)
def Nm.set {w w':World}{n r:Nat}{ρ:Rh}{tk tk':Tk}{bad bad':Bool}(h:Nm w n r ρ tk bad){j:Nat}{v:Value}(hw:w'=w.setCell ⟨n,j,none⟩ v)(G:(j=1/\bad'=bad/\∃x:UInt32,v= .int .u32 x.toNat/\qB x tk')\/(j=2/\tk'=tk/\v= .bool bad')):Nm w' n r ρ tk' bad':=by
 subst hw;obtain⟨m,⟨es,H,J,Z⟩,h3⟩:=h.mp;obtain⟨x,h4,h5⟩:=h.c1;have kr:=Kr.set (r:=n) w j v;have er:=kr.block r h.lr h.ne.symm;have ne:∀i,i≠j->(w.setCell ⟨n,j,none⟩ v).cell? ⟨n,i,none⟩=w.cell? ⟨n,i,none⟩:=λi hi=>OD _ _ _ _ (λe=>by injection e with e1 e2;omega)
 have sz:=kr.size;refine⟨by have :=h.lt;omega,by have :=h.lr;omega,h.ne,by rw [ne 0 (by rcases G with⟨h,_⟩ | ⟨h,_⟩<;>omega)];exact h.c0,⟨m,⟨es,H,by rw [er];exact J,Z⟩,h3⟩,?_,?_,λi=>by rw [OS];exact h.f i⟩
 ·rcases G with⟨rfl,_,y,rfl,hy⟩ | ⟨rfl,rfl,_⟩
  ·exact⟨y,OQ _ _ _ h4,hy⟩
  ·exact⟨x,by rw [ne 1 (by omega)];exact h4,h5⟩
 ·rcases G with⟨rfl,rfl,_⟩ | ⟨rfl,rfl,rfl⟩
  ·rw [ne 2 (by omega)];exact h.c2
  ·exact OQ _ _ _ h.c2
def Nm.put {w w':World}{n r:Nat}{ρ:Rh}{tk:Tk}{bad:Bool}(h:Nm w n r ρ tk bad){m:Value->Option Value}(hm:N1 m ρ){x:Nat}(hx:26<=x){c:UInt8}(J:c.toNat< 128)(G:IsMap w' r (.int .i64) (gF m (iv x) (.int .u8 c.toNat)))(hb:dO w w' r):
  Nm w' n r (aI ρ x c) tk bad/\Kn n r w w':=by
 have e:=hb.block n h.ne;obtain⟨y,h4,h5⟩:=h.c1;refine⟨⟨by rw [hb.size];exact h.lt,by rw [hb.size];exact h.lr,h.ne,by rw [Ow (w:=w) e];exact h.c0,⟨_,G,λz=>?_⟩,⟨y,by rw [Ow (w:=w) e];exact h4,h5⟩,by rw [Ow (w:=w) e];exact h.c2,λj=>by rw [O7 (w:=w) e];exact h.f j⟩,
  hb.os,hb.tape,hb.output,by rw [hb.size];exact OB _,λg _ Z=>hb.block g λe=>Z (.inr e)⟩
 obtain⟨k1,k2,k3⟩:=hm z;unfold aI gF;by_cases H:z=x
 ·subst H;refine⟨by simpa using J,λh=>by omega,λ _=> .inl ?_⟩;simp
 ·have:iv z≠iv x:=λe=>H (by injection e with _ e2;omega)
  simp only [OP H,OP this];exact⟨k1,k2,k3⟩
def DJ {ρ:Rh}{x:Nat}:[UInt8.ofNat (Int.toNat ((ρ x).toNat:Int))]=[ρ x]:=by simp
def j9 {w:World}{n r:Nat}{ρ:Rh}{tk:Tk}{bad:Bool}(h:Nm w n r ρ tk bad){x:Nat}{R:aD->Sb}(hR:R [ρ x] w):Sc 228 #[ptr n,iv x] w (aw [.s] R):=by
 refine oH (ptr n) x w R ?_;dsimp only [go_sem];obtain⟨m,hm,G⟩:=h.mp;obtain⟨k1,Z,k3⟩:=G x;refine⟨λH=>?_,λH=>?_⟩
 ·simp only [OK]at H;have e:[UInt8.ofNat (Int.toNat (97+(x:Int)))]=[ρ x]:=by rw [Z (by omega),show(97+(x:Int)).toNat=97+x by omega]
  refine⟨by omega,by omega,by omega,by rw [e];exact hR⟩
 ·simp only [OF]at H;refine⟨n,0,rfl,_,h.c0,r,m,rfl,hm,ρ x,?_⟩;rcases k3 (by omega)with J | ⟨J,h2⟩
  ·exact⟨true,.inl ⟨rfl,J⟩,by omega,by rw [DJ];exact hR⟩
  ·exact⟨false,.inr ⟨rfl,J,by rw [h2];rfl⟩,by omega,by rw [DJ];exact hR⟩
def HP {w:World}{n r:Nat}{ρ:Rh}{tk:Tk}{bad:Bool}(h:Nm w n r ρ tk bad){x:Nat}(hx:26<=x){R:UInt32->Sb}
  (hR:∀y w',qB y tk->Kn n r w w'->Nm w' n r (aI ρ x (jc tk)) (cY tk (jc tk)) (bad||(wV tk).isNone)->R y w'):Sc 227 #[ptr n,iv x] w (aw [.w] R):=by
 refine oG (ptr n) x w R ?_;dsimp only [go_sem];obtain⟨y,hy,ν⟩:=h.c1;have hl:=Me tk;have hl':=a7 hl;have fin:∀G bad',bad'=(bad||(wV tk).isNone)->Kn n r w G->Nm G n r ρ tk bad'->∃ι:Sb,∀H:World,H=World.drew G->ι H/\∃(ξ ο:Nat),ptr n=Value.pointer (some ⟨ξ,ο,none⟩)/\∃ς:UInt32,(∀w',ι w'->World.cell? w' ⟨ξ,(ο+1),none⟩=some (Value.int IntKind.u32 (UInt32.toNat ς)))/\Sc 96 #[(Value.int IntKind.u8 (UInt8.toNat (jc tk)))] H (aw [.w] fun(m38:UInt32) (α:World)=>ι α/\∃(β γ:Nat),ptr n=Value.pointer (some ⟨β,γ,none⟩)/\((∃u42:Value,World.cell? α ⟨β,(γ+1),none⟩=some u42)/\World.frozen? α ⟨β,(γ+1),none⟩=false)/\∀J:World,J=World.setCell α ⟨β,(γ+1),none⟩ (Value.int IntKind.u32 (UInt32.toNat (ς ||| m38:UInt32)))->∃(υ φ:Nat),ptr n=Value.pointer (some ⟨υ,φ,none⟩)/\∃v46:Value,World.cell? J ⟨υ,(φ+0),none⟩=some v46/\∃(δ:Nat) (ε:Value->Option Value),v46=Value.map (some δ)/\IsMap J δ (TypeDesc.int IntKind.i64) ε/\∀Z:World,IsMap Z δ (TypeDesc.int IntKind.i64) (gF ε (Value.int IntKind.i64 x) (Value.int IntKind.u8 (UInt8.toNat (jc tk))))->dO J Z δ->R (y) Z):=by
  intro G bad' χ k11 κ;obtain⟨z,hz,hzt⟩:=κ.c1;refine⟨λw'=>Ex G w',λH ζ=>⟨ζ▸Ex.drew G,n,0,rfl,z,λw' x'=>by rw [x'.cell (show n< _ from κ.lt)];exact hz,uy ?_⟩⟩;have μ:Ex G H:=ζ▸Ex.drew G;have n34:=κ.ex μ;obtain⟨z',hz',_⟩:=n34.c1;refine⟨μ,n,0,rfl,⟨⟨_,hz'⟩,n34.f 1⟩,λJ η=>?_⟩;have n43:=n34.set (tk':=cY tk (jc tk)) (bad':=bad') η (.inl ⟨rfl,rfl,_,rfl,hzt.add hl⟩);obtain⟨m,hm,hρ⟩:=n43.mp;refine⟨n,0,rfl,_,n43.c0,r,m,rfl,hm,λZ ψ ω=>?_⟩;obtain⟨n49,k49⟩:=n43.put hρ hx (by omega) ψ ω;have k43:Kn n r H J:=η▸Kn.set _ _ _;exact hR y Z ν (Kn.trans (Kn.trans k11 (Kn.ex μ)) (Kn.trans k43 k49)) (χ▸n49)
 refine⟨n,0,rfl,y,hy,n,0,rfl,y,hy,Jt ν (λhf=>⟨λ _=>?_,λh=>(by cases h)⟩) λc hf=>⟨λh=>(by cases h),λ _=>?_⟩⟩
 ·refine⟨n,0,rfl,⟨⟨_,h.c2⟩,h.f 2⟩,λw15 θ=>?_⟩;have n15:=h.set (tk':=tk) (bad':=true) θ (.inr ⟨rfl,rfl,rfl⟩);have e:jc tk=122:=by unfold jc;rw [hf];rfl
  have :=fin w15 true (by rw [hf];simp) (θ▸Kn.set _ _ _) n15;rw [e]at this;exact this
 ·have e:jc tk=c:=by unfold jc;rw [hf];rfl
  have :=fin w bad (by rw [hf];simp) (Kn.ex (Ex.refl w)) h;rw [e]at this;exact this
def Mv (n:Nat):Prop:=∀{D:Nat->Prop} {w:World} {v:Value} {o:List Nat} {l:Lv} {nn r:Nat} {ρ:Rh} {tk:Tk} {bad:Bool} {R:aD->Sb},l.sz<=n->l.sh true=true->l.sm=true->vi o l->gC D w v o (ah D w l)->(∀g,D g->¬(g=nn\/g=r))->Nm w nn r ρ tk bad->o.length+l.tot<=4294967296->
 (∀w' ρ',Kn nn r w w'->Nm w' nn r ρ' tk (bad||gw o.length l.isNil (thBad l) tk)->(∀x,x∉o->x∉l.bvs->ρ' x=ρ x)->R (aV o (thS l) ρ tk) w')->Sc 189 #[ptr nn,v] w (aw [.s] R)
def KI (n:Nat):Prop:=∀{D:Nat->Prop} {w:World} {v:Value} {e:Lv} {nn r:Nat} {ρ:Rh} {tk:Tk} {bad:Bool} {R:aD->Sb},e.sz<=n->((∃k a b o q,e= .thr k a b o q .nil/\q.sh true=true)\/∃ps,e= .sum ps .nil/\ps.sh false=true)->e.sm=true->vi [] e->ah D w e [v]->(∀g,D g->¬(g=nn\/g=r))->Nm w nn r ρ tk bad->e.tot<=4294967296->
 (∀t w' ρ',thS e ρ tk=[t]->Kn nn r w w'->Nm w' nn r ρ' tk (bad||thBad e tk)->(∀x,x∉e.bvs->ρ' x=ρ x)->R t w')->Sc 229 #[ptr nn,v] w (aw [.s] R)
def On (a b:UInt8):Op.bytesLess [a] [b]=decide (a< b):=by
 unfold Op.bytesLess;by_cases h:a< b
 ·simp [h]
 ·by_cases G:b< a<;>simp [Op.bytesLess,h]
def Kp.new {w w1 G:World}{nn r:Nat}{row:Option Nat}(k:Kn nn r w w1)(H:w1.grownBy G row)(hr:∀g,row=some g->w.heap.size<=g):Kn nn r w G:=
 Kp.trans k (Kp.aP (S:=λg=>row=some g) H λ _ h=>h) λg J Z=>by have :=hr g Z;omega
def FG {n:Nat}(hl:Mv n):KI (n+1):=by
 intro D w v e nn r ρ tk bad R hn hsh η huq h hD hN ς hR;refine lE (ptr nn) v w R ?_;dsimp only [go_sem];dsimp only [go_sem,Nat.reduceAdd];rcases hsh with⟨k,a,b,o,q,rfl,hq⟩ | ⟨ps,rfl,hps⟩
 ·obtain⟨t,ts',a',b',vr,e1,ht,hk,hlv,_⟩:=h;obtain⟨rfl,rfl⟩:=Pw e1;obtain⟨g,Z,hgD,hg2,c0,c1,c2,c3,c4⟩:=ht;obtain⟨u1,u2⟩:=huq.thr;simp only [Lv.sz]at hn;simp only [Lv.tot]at ς;simp only [Lv.sm,OA]at η;have hgn:=hD g hgD;have cell:∀{w':World},Kn nn r w w'->∀j,w'.cell? ⟨g,j,none⟩=w.cell? ⟨g,j,none⟩:=λx j=>Ow (w:=w) (x.block g hg2 hgn)
  have hlen:∀ρ tk,(aV o (thS q) ρ tk).length<=1099511627776:=λρ tk=>by
   have :=oZ (λρ tk=>gW q ρ tk) ρ tk (own:=o);omega
  have κ:∀{w1:World} {α:Rh} {ν:Tk} {υ:Bool} {R:aD->Sb},Kn nn r w w1->Nm w1 nn r α ν υ->(∀w' ρ',Kn nn r w1 w'->Nm w' nn r ρ' ν (υ||gw o.length q.isNil (thBad q) ν)->(∀x,x∉o->x∉q.bvs->ρ' x=α x)->R (aV o (thS q) α ν) w')->Sc 189 #[ptr nn,vr] w1 (aw [.s] R):=λk1 n1 hR=>
   hl (by omega) hq η.1 u1 (hlv.kp k1 hD λl h=>h.kp k1 hD) hD n1 (by omega) hR
  cases k
  case p=>
   refine⟨g,0,Z,_,c0,aW (by decide) (df (by decide) ⟨g,0,Z,vr,c3,κ (Kn.ex (Ex.refl w)) hN λw' ρ' k' n' H=>⟨by have :=hlen ρ tk;simp only [Ov,ON];omega,hR _ w' ρ' (by simp only [thS,kText];rfl) k' ?_ λx G=>?_⟩⟩)⟩
   ·simpa [thBad]using n'
   ·simp only [Lv.bvs,O5,OH,R9]at G;exact H x G.2.1 G.2.2
  case t=>
   refine⟨g,0,Z,_,c0,aW (by decide) (aW (by decide) (df (by decide) ⟨g,0,Z,vr,c3,κ (Kn.ex (Ex.refl w)) hN λw' ρ' k' n' H=>⟨by have :=hlen ρ tk;simp only [Ov,ON];omega,hR _ w' ρ' (by simp only [thS,kText];rfl) k' ?_ λx G=>?_⟩⟩))⟩
   ·simpa [thBad]using n'
   ·simp only [Lv.bvs,O5,OH,R9]at G;exact H x G.2.1 G.2.2
  case m=>
   obtain⟨rfl,rfl⟩:a'=a/\b'=b:=by rcases hk with h | h | h<;>first | exact h | cases h
   refine⟨g,0,Z,_,c0,aW (by decide) (aW (by decide) (aW (by decide) (df (by decide) ⟨λw'=>Kn nn r w w',λw48 β=>?_⟩)))⟩;have J:Kn nn r w w48:=Kn.ex (β▸Ex.drew w);have γ:=hN.ex (β▸Ex.drew w);refine⟨J,g,0,Z,a',λw' x=>by rw [cell x];exact c1,g,0,Z,b',λw' x=>by rw [cell x];exact c2,j9 γ ⟨J,j9 γ ⟨J,?_,?_,?_,?_,g,0,Z,vr,by rw [cell J];exact c3,κ J γ λw' ρ' k' n' H=>⟨?_,hR _ w' ρ' ?_ (Kn.trans J k') ?_ λx G=>?_⟩⟩⟩⟩
   ·split<;>simp
   ·split<;>simp
   ·split<;>split<;>simp
   ·split<;>split<;>simp
   ·have :=hlen ρ tk;split<;>split<;>(simp only [Oy,Ov,ON];omega)
   ·simp only [thS,kText,On,Po,Qz];by_cases h1:ρ a'< ρ b'
    ·have h2:¬ρ b'< ρ a':=λh2=>by rw [Pu]at h1 h2;omega
     simp [h1,h2]
    ·by_cases h2:ρ b'< ρ a'
     ·have h3:ρ a'≠ρ b':=λe=>by rw [e,Pu]at h2;omega
      simp [h1,h2,h3]
     ·have h3:ρ a'=ρ b':=by
       rw [Pu]at h1 h2;exact OU.1 (by omega)
      simp [h1,h2,h3]
   ·simpa [thBad]using n'
   ·simp only [Lv.bvs,O5,OH,R9]at G;exact H x G.2.1 G.2.2
  case s=>
   obtain⟨rfl,rfl⟩:a'=a/\b'=b:=by rcases hk with h | h | h<;>first | exact h | cases h
   refine⟨g,0,Z,_,c0,aW (by decide) (aW (by decide) (aW (by decide) (aW (by decide) (aW (by decide) ⟨λw'=>Kn nn r w w',λw48 β=>?_⟩))))⟩;have J:Kn nn r w w48:=Kn.ex (β▸Ex.drew w);have γ:=hN.ex (β▸Ex.drew w);refine⟨J,g,0,Z,a',λw' x=>by rw [cell x];exact c1,g,0,Z,b',λw' x=>by rw [cell x];exact c2,g,0,Z,vr,λw' x=>by rw [cell x];exact c3,j9 γ ⟨J,by simp,j9 γ ⟨J,by simp,by simp,κ J γ λw' ρ' k' n' H=>⟨Kn.trans J k',?_,hR _ w' ρ' ?_ (Kn.trans J k') ?_ λx G=>?_⟩⟩⟩⟩
   ·have :=hlen ρ tk;simp only [Oy,Ov,ON];omega
   ·simp only [thS,kText];simp
   ·simpa [thBad]using n'
   ·simp only [Lv.bvs,O5,OH,R9]at G;exact H x G.2.1 G.2.2
  case r=>
   obtain⟨rfl,rfl⟩:a'=a/\b'=b:=by rcases hk with h | h | h<;>first | exact h | cases h
   obtain⟨u3,u4,u5,u6⟩:=u2 rfl;refine⟨g,0,Z,_,c0,aW (by decide) (aW (by decide) (aW (by decide) (aW (by decide) (df (by decide) ⟨g,0,Z,b',c2,HP hN u3 λy w68 hy k68 n68=>⟨λw'=>Kn nn r w w',λw70 φ=>?_⟩⟩))))⟩;have θ:Kn nn r w w70:=Kn.trans k68 (Kn.ex (φ▸Ex.drew w68));have n70:=n68.ex (φ▸Ex.drew w68);refine⟨θ,g,0,Z,a',λw' x=>by rw [cell x];exact c1,g,0,Z,b',λw' x=>by rw [cell x];exact c2,g,0,Z,vr,λw' x=>by rw [cell x];exact c3,j9 n70 ⟨θ,by simp,j9 n70 ⟨θ,by simp,by simp,κ θ n70 λw' ρ' k' n' H=>⟨Kn.trans θ k',?_,nn,0,rfl,?_,λw89 χ=>hR _ w89 ρ' ?_ (Kn.trans (Kn.trans θ k') (χ▸Kn.set _ _ _)) ?_ λx G=>?_⟩⟩⟩⟩
   ·have :=hlen (aI ρ b' (jc tk)) (cY tk (jc tk));simp only [Oy,Ov,ON];omega
   ·obtain⟨z,hz,_⟩:=n'.c1;exact⟨⟨_,hz⟩,n'.f 1⟩
   ·simp only [thS,kText,Pv,PC,Pe];rw [show aI ρ b' (jc tk) a'=ρ a' from OP (Ry u4),show aI ρ b' (jc tk) b'=jc tk from O' rfl]
   ·have :=n'.set (tk':=tk) (bad':=(bad||thBad (.thr .r a' b' o q .nil) tk)) χ (.inl ⟨rfl,?_,y,rfl,hy⟩)
    ·exact this
    ·simp [thBad,Qg]
   ·simp only [Lv.bvs,O5,OH,R9,Qu,OL]at G;rw [H x G.2.1 G.2.2];exact OP G.1
 ·obtain⟨t,ts',a',b',vp,us,e1,ht,hus,ψ,_⟩:=h;obtain⟨rfl,rfl⟩:=Pw e1;obtain⟨g,Z,hgD,hg2,c0,c1,c2,c3,c4⟩:=ht;have uq:=huq.sum;simp only [Lv.sz]at hn;simp only [Lv.tot]at ς;simp only [Lv.sm,OA,QA]at η;obtain⟨au,cau,hvu⟩:=hus.slice;have hul:=ψ.len;have hpl:=Lv.cM ps;have hpt:=bS ps;have hln:∀ρ tk,(thS ps ρ tk).length=ps.len:=λρ tk=>bD ps ρ tk
  refine⟨g,0,Z,_,c0,df (by decide) λb6 w7 hb6 hw7=>?_⟩;have x7:Ex w w7:=hw7▸Ex.alloc w _;refine⟨g,0,Z,vp,by rw [x7.cell (show g< _ from hg2)];exact c4,au,_,cau,hvu,λtx x w'=>∃(j:Nat) (ρ':Rh),x=j/\j<=us.length/\Kn nn r w w'/\Nm w' nn r ρ' tk (bad||thBad (ps.take j) tk)/\(∀x,x∉(ps.take j).bvs->ρ' x=ρ x)/\Own w.heap.size w' tx (thS (ps.take j) ρ tk),λ _ x _=>(us.length - x).toNat,⟨0,ρ,rfl,Pn _,Kn.ex x7,by simpa [Lv.take,thBad]using hN.ex x7,λ _ _=>rfl,Own.none (OB _) hb6 hw7⟩,λtx x w18 hI=>?_⟩;obtain⟨j,α,rfl,hj,μ,n18,H,ho⟩:=hI;refine⟨λhlt=>?_,λhge=>?_⟩;rotate_left
  ·have:j=ps.bw.length:=by simp only [OF]at hge;omega
   rw [this,Lv.dv]at n18 ho H;have hlen:=gW ps ρ tk;refine GJ ho (λe=>?_) (by rw [hln];omega) (by omega) λw36 k36=>hR _ w36 α rfl ?_ ?_ λx G=>H x ?_
   ·have :=hln ρ tk;rw [e]at this;rw [Lv.dH]at η;simp only [ON]at this;simp [<-this]at η
   ·exact Kp.trans μ k36 λg' hg' h'=>by have :=(ho.block g' h').1;omega
   ·have hb:∀g',tx.ownBlock=some g'->w.heap.size<=g':=λg' h'=>(ho.block g' h').1
    have :=hN.lt;have :=hN.lr;have e:(bad||thBad (.sum ps .nil) tk)=(bad||thBad ps tk):=by simp [thBad]
    rw [e];exact n18.kp k36 (λh'=>by have :=hb _ h';omega) λh'=>by have :=hb _ h';omega
   ·simpa [Lv.bvs]using G
  have ξ:=oL hlt;have hje:j< ps.bw.length:=by omega
  obtain⟨bu,ou,δ,hvu',hcu⟩:∃bu ou δ,vp= .slice (some ⟨bu,ou,none⟩) us.length δ/\w18.cell? ⟨bu,ou+j,none⟩=some us[j]:=by
   rcases hus with⟨_,h0⟩ | ⟨bt,ot,capt',e,hbD,hb',hcell⟩
   ·rw [h0]at ξ;simp at ξ
   ·exact⟨bt,ot,capt',e,by rw [Ow (w:=w) (μ.block bt hb' (hD bt hbD))];exact hcell j _ (Ox ξ)⟩
  obtain⟨e,hf1,ι,hf3⟩:=aO.single ψ.bw (Ox ξ);have hf4:ps.bw[j]=e:=by rw [Ox hje]at hf1;exact Pr hf1
  have ε:=Lv.take_succ ps j hje;rw [hf4]at ε;have huqe:=uq.bw ι;have ω:=Lv.vh η.2.1 e ι;have hsz2:=Lv.eX ps e ι;have htot2:=Lv.gY ps e ι;have hfe:thS e α tk=thS e ρ tk:=uF e α ρ tk λx G=>H x λhb=>uq.nf x (Lv.lL ps j x hb) (Lv.rT ps e ι G)
  obtain⟨o2,q,rfl,hq⟩:=Lv.mZ hps e ι;simp only [Lv.sz]at hsz2;simp only [Lv.tot]at htot2;simp only [Lv.sm,OA]at ω;obtain⟨v2,ts2,e2,hlv2,_⟩:=hf3;obtain⟨rfl,rfl⟩:=Pw e2;refine⟨bu,ou,_,δ,hvu',by omega,by omega,us[j],by rw [OG,O8];exact hcu,?_⟩;refine hl (by omega) hq ω.1 huqe.part (hlv2.kp μ hD λl h=>h.kp μ hD) hD n18 (by omega) λw25 ρ2 k25 n25 hρ2 b26 w27 hb26 hw27=>?_
  have ο:Ex w25 w27:=hw27▸Ex.alloc w25 _;have k1:Kn nn r w w25:=Kn.trans μ k25;have ζ:∀g',tx.ownBlock=some g'->w.heap.size<=g'/\¬(g'=nn\/g'=r):=λg' h'=>by
   have h1:=(ho.block g' h').1;have :=hN.lt;have :=hN.lr;exact⟨h1,by omega⟩
  have ho27:Own w.heap.size w27 tx (thS (ps.take j) ρ tk):=(ho.kp k25 λg' h'=>(ζ g' h').2).ex ο;have hl3:(thS (ps.take j) ρ tk).length<=us.length:=by
   rw [bD];have :=Lv.iq ps j;omega
  refine Own.push ho27 (by have :=k1.size;have :=ο.size;omega) (Strs.one hb26 hw27) (by simp only [Ov,ON];omega) λv33 w34 _ ho34 hg34 _=>⟨by omega,⟨j+1,ρ2,by omega,by omega,?_,?_,?_,?_⟩,tN (by omega)⟩
  ·exact Kp.new (Kn.trans k1 (Kn.ex ο)) hg34 λg' h'=>(ζ g' h').1
  ·have e1:(bad||thBad (ps.take (j+1)) tk)=(bad||thBad (ps.take j) tk||gw o2.length q.isNil (thBad q) tk):=by rw [ε,dc];simp [thBad,Qg]
   rw [e1];refine(n25.ex ο).kp (Kp.aP (S:=λg=>tx.ownBlock=some g) hg34 λ _ h=>h) (λh'=>(ζ _ h').2 (.inl rfl)) λh'=>(ζ _ h').2 (.inr rfl)
  ·intro x G;rw [ε,Lv.cz]at G;simp only [Lv.bvs,O5,OH,R9]at G;rw [hρ2 x G.2.1 G.2.2,H x G.1]
  ·rw [ε,gU];have e3:thS (.part o2 q .nil) ρ tk=[aV o2 (thS q) α tk]:=by rw [<-hfe];simp only [thS]
   rw [e3];exact ho34
def aM.set {e B:Nat}{w w':World}{g cap n j:Nat}{l:List Value}{x:Value}(h:aM e B w (.slice (some ⟨g,0,none⟩) n cap) l)(hw:w'=w.setCell ⟨g,j,none⟩ x)(hj:j< l.length):aM e B w' (.slice (some ⟨g,0,none⟩) n cap) (l.set j x):=by
 subst hw;rcases h.2 with⟨J,_⟩ | ⟨g',G,cur,Z,hb,hg,h1,h2,H,h4⟩
 ·cases J
 ·cases Z;have hl:=h.1;rw [O8]at H h4;have e:(w.setCell ⟨g,j,none⟩ x).heap[g]?=some (.cells (cur.setIfInBounds j x) e (0,0)):=by
   rw [Sort.setCell_eq];simp [Sort.mapBlock,Qh,hg,Sort.onCells]
  refine⟨by simp,.inr ⟨g,cap,_,by simp,hb,e,by simpa using h1,h2,by simpa using H,?_⟩⟩;rw [O8,PW,Array.toList_setIfInBounds,List.take_set,h4]
def aM.at {e B:Nat}{w:World}{g cap n j:Nat}{o:List Nat}(h:aM e B w (.slice (some ⟨g,0,none⟩) n cap) (o.map iv))(Z:j< o.length):w.cell? ⟨g,0+j,none⟩=some (iv o[j])/\w.frozen? ⟨g,0+j,none⟩=false/\g< w.heap.size/\n=o.length:=by
 have fr:=h.fr (g:=g) rfl (0+j);have hb:=h.block g rfl;rcases h.2 with⟨H,_⟩ | ⟨g',G,cur,J,α,hg,h1,h2,h3,h4⟩
 ·cases H
 ·cases J;refine⟨?_,fr,hb.2,by simp⟩;rcases h.DO (D:=λ _=>True) λ _ _=>trivial with⟨H,_⟩ | ⟨b,off,G,J,_,_,hc⟩
  ·cases H
  ·cases J;exact hc j _ (by simp [Z])
def swp (π:List Nat)(a i:Nat)(ha:a< π.length)(hi:i< π.length):List Nat:=(π.set a π[i]).set i π[a]
def mv (π:List Nat)(a i:Nat)(ha:a< π.length)(hi:i< π.length)(H:a<=i):
  (swp π a i ha hi).Perm π/\(swp π a i ha hi).length=π.length/\(swp π a i ha hi).take (a+1)=π.take a++[π[i]]:=by
 have G:(swp π a i ha hi).Perm π:=by
  have :=List.set_set_perm hi ha;unfold swp;by_cases h:a=i
  ·subst h;simp
  ·rw [List.set_comm _ _ h];exact this
 have J:(swp π a i ha hi).length=π.length:=G.length_eq;refine⟨G,J,?_⟩;rw [OC (by omega)]
 congr 1
 ·unfold swp;rw [QJ (by omega),QJ (by omega)]
 ·unfold swp;by_cases h:a=i
  ·subst h;simp
  ·simp [List.getElem_set,Ry h]
def Jp (π:List Nat)(a:Nat)(ha:a< π.length)(σ:List Nat):
  (∃i,∃hi:i< π.length,a<=i/\∃τ:List Nat,τ.Perm ((swp π a i ha hi).drop (a+1))/\σ=(swp π a i ha hi).take (a+1)++τ)↔∃τ:List Nat,τ.Perm (π.drop a)/\σ=π.take a++τ:=by
 have key:∀i (hi:i< π.length),a<=i->(π[i]::(swp π a i ha hi).drop (a+1)).Perm (π.drop a):=λi hi G=>by
  obtain⟨H,Z,J⟩:=mv π a i ha hi G;have h4:(π.take a++(π[i]::(swp π a i ha hi).drop (a+1))).Perm (π.take a++π.drop a):=by
   rw [PV,List.append_cons,<-J,PV];exact H
  exact(List.perm_append_left_iff _).1 h4
 constructor
 ·rintro⟨i,hi,G,τ,H,rfl⟩
  obtain⟨Z,J,h4⟩:=mv π a i ha hi G;refine⟨π[i]::τ,(H.cons _).trans (key i hi G),?_⟩;rw [h4,Pe];rfl
 ·rintro⟨τ,H,rfl⟩
  cases τ with
  | nil=>have :=H.length_eq;rw [P7]at this;simp at this;omega
  | cons y τ=>
   have hy:=H.subset (Pb ..);obtain⟨j,hj,e⟩:=PK.1 hy;rw [P7]at hj;rw [List.getElem_drop]at e;have hi:a+j< π.length:=by omega
   obtain⟨Z,J,h4⟩:=mv π a (a+j) ha hi (by omega);refine⟨a+j,hi,by omega,τ,?_,?_⟩
   ·have :=key (a+j) hi (by omega);rw [e]at this;exact(R0 y).1 (H.trans this.symm)
   ·rw [h4,e,Pe];rfl
def LL (π:List Nat)(a i:Nat)(ha:a< π.length)(hi:i< π.length)(G:i< (swp π a i ha hi).length)(H:a< (swp π a i ha hi).length):(swp π a i ha hi)[i]=π[a]/\(swp π a i ha hi)[a]=π[i]:=by
 simp only [swp,List.getElem_set];refine⟨O' trivial,?_⟩;by_cases h:i=a
 ·subst h;simp
 ·simp [h]
def Oo (B:Nat)(v:Value)(o:List Nat)(Inv:List (List Nat)->Sb)(f:Nat)(ca:List Value):Prop:=
 ∀(acc:List (List Nat)) (π:List Nat) (w:World),Inv acc w->aM 3 B w v (π.map iv)->π.Perm o->∀{R:Sb},(∀w',Inv (acc++[π]) w'->aM 3 B w' v (π.map iv)->R w')->Sc f (List.toArray ca) w (aw [] R)
end Go.Proofs.YthekamjhgabkjaaGreat
