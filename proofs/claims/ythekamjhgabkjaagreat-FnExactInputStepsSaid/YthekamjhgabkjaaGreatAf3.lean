/- Part 3 of a proof of what the last text states; no condition. -/
import Derived.Test.YthekamjhgabkjaaGreatAf2
set_option maxRecDepth 100000
set_option maxHeartbeats 4000000
set_option linter.defProp false
set_option linter.unusedVariables false
set_option linter.unusedSimpArgs false
namespace Go.Proofs.YthekamjhgabkjaaGreat
open Go Go.RowKit
def Co:∀n,Gv n:=by
 intro n
 induction n with
 | zero=>intro k p σ u Θ w bm br on R h;have :=aU p;omega
 | succ n ih=>
  have iht:yz (n+1):=Fx ih;intro k p σ u Θ w bm br on R hn d hLb hgf ω hmk h;refine jY _ _ _ w R ?_;dsimp only [go_sem];dsimp only [go_sem,Nat.reduceAdd];intro b4 w5 ε υ;have hx5:Ex w w5:=υ▸Ex.alloc w _;have hsz5:w5.heap.size=b4+1:=by rw [υ,size_alloc,<-ε]
  have hbm:bm< b4:=by rw [ε];exact hmk.lt
  have hle:=d.bd.le;have how:=hLb.1;rw [sT d.ae]at how;have hGL:GL b4 w5 b4 (gH 0) (.slice none 0 0) []:=by
   refine⟨by omega,Nc _,?_,?_,Own.nil _ _,(λe=>by cases e),?_,?_⟩
   ·rw [υ,ε];exact aa rfl
   ·rw [υ,ε];exact aa rfl
   ·rw [υ,ε];unfold World.frozen? World.alloc;simp
   ·rw [υ,ε];unfold World.frozen? World.alloc;simp
  have hl:=d.len;have hszt:=bc p;refine GN _ hn d hgf (by omega) hGL (by simp only [Np];omega) λw6 v6 ps hk6 hv6 ζ hps=>?_
  rw [N2,NJ]at ζ;have hx6:Ex w w6:=⟨hk6.os.trans hx5.os,hk6.tape.trans hx5.tape,hk6.output.trans hx5.output,N8 hx5.size hk6.size,λg hg=>by
   rw [hk6.block g (by rw [hsz5];omega) (λhS=>by
    rcases hS with h1 | h1
    ·omega
    ·cases h1)]
   exact hx5.block g hg⟩
  have hpl:=hps.1;have hmlen:=hZ u;rw [sT d.ae]at hmlen;have hm64:(aj u).1.length<=64:=by omega
  have hgs:=fy u;have hus:=d.ae.size;obtain⟨av,cap,hv⟩:=ζ.own.strs.slice;rw [Nq]at hv;refine⟨v6,ζ.c1,av,_,cap,hv,λused x w'=>Ex w6 w'/\∃i:Nat,x=i/\i<=ps.length/\kC used/\∀c,c∈used↔∃q∈ps.take i,q.Us c,λ _ x _=>(ps.length - x).toNat,⟨Ex.refl w6,0,rfl,by omega,List.Pairwise.nil,by simp⟩,λused x w7 hI=>?_⟩;obtain⟨hx7,i,rfl,hi,hsu,hmu⟩:=hI;have γ:∀i (hi:i< ps.length),∃m τ,k<=m/\Den m ps[i] τ ((aj u).2[i]'(by omega))/\(∀y,((aj u).2[i]'(by omega)).Us y->τ y=asgN (aj u).1 0 σ y)/\GF (0+(aj u).1.length) ps[i]:=λi hi=>
   hps.2 i _ _ (M6 hi) (M6 (by omega))
  refine⟨λhc=>?_,λhc=>?_⟩
  ·have hc:=NB hc;have hip:i< ps.length:=by omega
   refine ζ.own.strs.get hx7 (i:=i) (x:=(ps[i]).text) (by omega) (by simp [hip]) ?_;obtain⟨_,_,_,dp,_⟩:=γ i hip;refine og _ (Nc _) dp.ok λs w8 hx8 hss hms=>?_
   refine iA hsu (by have :=hss.bound;omega) λs' w9 φ hs9 hm9=>?_
   refine⟨by omega,⟨(hx7.trans hx8).trans φ,i+1,by omega,by omega,hs9,λc=>?_⟩,by dsimp only;omega⟩;rw [hm9,hmu,hms,List.take_succ_eq_append_getElem hip];simp only [Nk,ND];constructor
   ·rintro(⟨q,h1,h2⟩ | h1)
    ·exact⟨q,.inl h1,h2⟩
    ·exact⟨_,.inr rfl,h1⟩
   ·rintro⟨q,h1 | rfl,h2⟩
    ·exact .inl ⟨q,h1,h2⟩
    ·exact .inr h2
  have hc:=Ny hc;have e:i=ps.length:=by omega
  subst e;rw [NR]at hmu;have hGL7:=ζ.ex hx7;have hall:∀i,i< (aj u).1.length->gl i∈used:=λi hi=>by
   obtain⟨t,ht,hty⟩:=zI u d.uq _ (NC hi);obtain⟨j,hj,e⟩:=Od.1 ht;have hjp:j< ps.length:=by omega
   obtain⟨m,τ,_,dp,hτ,_⟩:=γ j hjp;subst e;obtain⟨c,h1,h2⟩:=dp.ae.symm.used dp.inj (dZ _) _ hty;rw [hτ _ hty,js _ _ _ _ hi (fV u d.uq),NJ]at h2;have:c=gl i:=NK.1 h2;exact(hmu _).2 ⟨_,NC hjp,this▸h1⟩
  have hglen:=gN (aj u).1.length;refine⟨λfront i w'=>Ex w7 w'/\∃j:Nat,i=j/\j<=(aj u).1.length/\front=(gH (aj u).1.length).take j,λ _ i _=>((aj u).1.length - i).toNat,⟨Ex.refl w7,0,rfl,by omega,rfl⟩,λfront i w8 hI=>?_⟩;obtain⟨hx8,j,rfl,hj,rfl⟩:=hI;have η:=hGL7.ex hx8;refine⟨gH (aj u).1.length,η.c0,λhc2=>?_,λhc2=>?_⟩
  ·have hc2:=NB hc2;have hj':j< (aj u).1.length:=by omega
   have hbt:bt (gH (aj u).1.length) j=gl j:=by simp [bt,gH,hj']
   refine⟨λfront w'=>Ex w7 w'/\front=(gH (aj u).1.length).take (j+1),⟨gH (aj u).1.length,η.c0,⟨by omega,by omega⟩,?_⟩,λfront w9 hJ=>?_⟩
   ·rw [Nf,hbt];refine ib (by have :=hsu.bound;omega) ⟨λ _=>⟨gH (aj u).1.length,η.c0,by omega,⟨by omega,by omega,by omega⟩,?_,hx8,?_⟩,λhq=>absurd (hall j hj') (Ny hq)⟩
    ·rw [Cx (by omega)];simp only [NW,M0,Np];omega
    ·rw [Cx (by omega),gM (by omega)]
   ·obtain⟨φ,rfl⟩:=hJ;exact⟨by omega,⟨φ,j+1,by omega,by omega,rfl⟩,by dsimp only;omega⟩
  have hc2:=Ny hc2;have e:j=(aj u).1.length:=by omega
  subst e;rw [show(gH (aj u).1.length).take (aj u).1.length=gH (aj u).1.length from PS (by omega)];have ο:Ex w w8:=(hx6.trans hx7).trans hx8;have J:=hmk.ex ο;refine⟨v6,η.c1,av,_,cap,hv,λχ=>?_,λχ=>?_⟩
  ·have χ:=NB χ;have hd:=IA d.uq (NF (by omega));have hm0:=(oJ d.uq hd).2.2.2;refine h _ w8 (Kp.ah ο _) ?_ (WR.Ij d.uq hd);rw [hm0];simpa using J
  have χ:=Ny χ;have hne:(aj u).2≠[]:=λe=>χ (by rw [e]at hpl;simp only [Np]at hpl;omega)
  refine⟨λhc4=>?_,λhc4=>?_⟩
  ·have hc4:=NB hc4;have hlm:5< aY u:=by
    have :=Ac d.uq;have h5:decide (5< (aj u).1.length)=true:=OS (by omega);rw [h5,Bool.true_or]at this;exact NB this
   refine⟨bm,0,rfl,⟨⟨_,J.c0⟩,J.f0⟩,λw9 hw9=>?_⟩;subst hw9;refine h _ _ (Kp.set (S:=λg=>g=bm) (Kp.ah ο _) rfl _) ?_ (WR.Ef hlm);have e5:decide (5< aY u)=true:=OS hlm;rw [e5,Bool.or_true];exact⟨by rw [NV];exact J.lt,Ns _ _ _ J.c0,by rw [Na _ _ _ _ (by simp)];exact J.c1,by rw [Nv];exact J.f0⟩
  have hc4:=Ny hc4;have hm5:(aj u).1.length<=5:=by omega
  have hkl:k+(aj u).1.length<=64:=by
   have :=hLb.2 hm5 _ (NC (show 0< (aj u).2.length by omega));omega
  intro b9 cap9 w9 hb9 _ hg9;have φ:Ex w8 w9:=Ex.aG hg9;have hx69:Ex w w9:=ο.trans φ;refine⟨_,_,cap9,rfl,λG all x w'=>Ex w9 w'/\∃i:Nat,x=i/\i<=(aj u).1.length/\Je k i Θ G all,λ _ _ x _=>((aj u).1.length - x).toNat,⟨Ex.refl w9,0,rfl,by omega,Je.zero ω.srt⟩,λG all x w10 hI=>?_⟩;obtain⟨hx10,i,rfl,hi,H⟩:=hI;refine⟨λhc5=>?_,λhc5=>?_⟩
  ·have hc5:=NB hc5;have hi':i< (aj u).1.length:=by omega
   have hall:∀c∈all,okn (k+i) c/\ngr c:=λc hc=>by
    rcases(H.ok.mem c).1 hc with h1 | h1
    ·exact⟨(ω.okn c h1).1.mono (by omega),(ω.okn c h1).2⟩
    ·exact⟨(H.ok.ok c h1).2.1,(H.ok.ok c h1).2.2.1⟩
   refine iy (by have :=H.ok.srt.bound;omega) λc hc=>?_
   have hfr:zP (k+i) all c:=zP.of (by omega) hall hc;intro b11 ψ hb11 hw11;have θ:Ex w10 ψ:=hw11▸Ex.alloc w10 _;refine⟨b11,0,1,1,[c],rfl,rfl,kN _ hb11 hw11,by rw [H.ok.len];simp;omega,?_⟩;refine fT H.ok.srt λs' μ hx12 hs12 hm12=>?_
   exact⟨by omega,⟨(hx10.trans θ).trans hx12,i+1,by omega,by omega,H.snoc hfr hs12 hm12⟩,by dsimp only;omega⟩
  have hc5:=Ny hc5;have e:i=(aj u).1.length:=by omega
  subst e;have hx610:Ex w w10:=hx69.trans hx10;have hls:=H.ok;refine A7 5 (by omega) (Nc _) λv11 ψ L θ ι hL hmL=>?_
  have hx611:Ex w ψ:=hx610.trans θ;have ν:=hmk.ex hx611;have hLne:L≠[]:=λe=>by
   have :=(hmL (gH (aj u).1.length)).2 (Of _);rw [e]at this;cases this
  have hLlen:L.length<=7776:=by
   have:(6:Nat)^(gH (aj u).1.length).length<=6^5:=Nat.pow_le_pow_right (by omega) (by omega);omega
  have hLpos:0< L.length:=Pn.2 hLne;refine⟨λv w'=>w'=ψ/\∃Lo:List Tx,Strs ψ v Lo/\(∀b off n c,v= .slice (some ⟨b,off,none⟩) n c->w10.heap.size<=b)/\Lo≠[]/\Lo.length<=7776/\(∀o∈Lo,o.Perm (gH (aj u).1.length))/\(on=false->∀o,o.Perm (gH (aj u).1.length)->o∈Lo),⟨bm,0,rfl,on,ν.c1,λhon=>?_,λhon=>?_⟩,λorders μ hJ=>?_⟩
  ·obtain⟨g,β,cur,hvL,hbL,_⟩:∃g cap cur,v11= .slice (some ⟨g,0,none⟩) L.length cap/\w10.heap.size<=g/\ψ.heap[g]?=some cur:=by
    rcases ι.2 with⟨_,hn⟩ | ⟨g,cap,cur,e,hb,hg,_⟩
    ·omega
    ·exact⟨g,cap,_,e,hb,hg⟩
   have hcap:L.length<=β:=by
    rcases ι.2 with⟨_,hn⟩ | ⟨g',cap',cur',e,hb,hg,h1,h2,h3,h4⟩
    ·omega
    ·rw [hvL]at e;cases e;exact h1
   refine⟨_,_,β,hvL,by omega,by omega,by omega,rfl,L.take 1,?_,λb off n c e=>?_,?_,?_,λo Z=>(hmL o).1 (List.mem_of_mem_take Z),λhf=>by rw [hon]at hf;cases hf⟩
   ·have hs:=ι.strs;rw [hvL]at hs;exact hs.take (k:=1) (by omega) (by omega)
   ·have ecap:¬β=Int.toNat 0:=by show ¬β=0;omega
    rw [Nt ecap]at e;simp [Addr.add]at e;omega
   ·match L,hLne with
    | a::l,_=>simp
   ·rw [NW];omega
  ·refine⟨rfl,L,ι.strs,λb off n c e=>(ι.block b (by rw [e];rfl)).1,hLne,hLlen,λo Z=>(hmL o).1 Z,λ _ o Z=>(hmL o).2 Z⟩
  obtain⟨rfl,Lo,hsL,hbL,hLo,hLol,hLop,hLoa⟩:=hJ;have hLopos:0< Lo.length:=Pn.2 hLo;obtain⟨aL,β,hvL⟩:=hsL.slice;have δ:GL b4 μ b4 (gH (aj u).1.length) v6 (ps.map T.text):=((η.ex φ).ex hx10).ex θ;have hb12:=δ.lt;have hbp:∀p∈ps,k+(aj u).1.length+p.rd+p.ow<=64:=λq hq=>by
   obtain⟨i,hi,rfl⟩:=Od.1 hq;obtain⟨_,_,_,dp,_⟩:=γ i hi;have :=hLb.2 (by omega) _ (NC (show i< (aj u).2.length by omega));rw [sT dp.ae,Gu dp.ae]at this;omega
  have hszp:∀p∈ps,p.size<=n+1:=λq hq=>by
   obtain⟨i,hi,rfl⟩:=Od.1 hq;obtain⟨_,_,_,dp,_⟩:=γ i hi;have :=Bt u _ (NC (show i< (aj u).2.length by omega));rw [dp.ae.size];omega
  have htl:=eX u;rw [oS d.ae,<-T.aQ]at htl;generalize hbr:(br||(aj u).2.any λt=>decide (5< an (tl [t])))=br' at*;refine⟨aL,_,β,hvL,λbest x w'=>∃i:Nat,x=i/\i<=Lo.length/\Kp μ w' (λg=>g=bm)/\MK w' bm (if i=0 then br else br') on/\(i=0->best=[])/\(0< i->Cq on σ u (Lo.take i) G all best),λ _ x _=>(Lo.length - x).toNat,⟨0,rfl,by omega,Kp.ah (Ex.refl μ) _,by simpa using ν,λ _=>rfl,λh=>by omega⟩,λbest x w13 hI=>?_⟩;obtain⟨i,rfl,hi,κ,hm13,hb0,hb1⟩:=hI;refine⟨λhc6=>?_,λhc6=>?_⟩
  ·have hc6:=NB hc6;have hi':i< Lo.length:=by omega
   refine⟨λbest w'=>Kp μ w' (λg=>g=bm)/\MK w' bm br' on/\Cq on σ u (Lo.take (i+1)) G all best,?_,λbest' w14 hJ=>?_⟩
   ·have hsL13:Strs w13 orders Lo:=hsL.kp κ λb off n c e hS=>by have :=hbL b off n c e;have :=ν.lt;have :=θ.size;have :=(hmk.ex hx610).lt;omega
    refine hsL13.get (Ex.refl w13) (i:=i) (x:=Lo[i]) (by omega) (by simp [hi']) ?_;have ε:w13.heap[b4]?=μ.heap[b4]?:=κ.block b4 hb12 (by omega);refine⟨v6,by rw [M5 (w:=μ) ε];exact δ.c1,?_⟩;have hvt:Own b4 w13 v6 (ps.map T.text):=δ.own.kp κ λg hg e=>by have :=(δ.own.block g hg).1;omega
    refine HQ iht d.uq hne hbp hszp ω hps hls (hLop _ (NC hi')) hm64 hvt hbm hm13 (by omega) λr w14 hk14 ς hr=>?_
    have ξ:MK w14 bm br' on:=by
     rw [<-hbr];by_cases h0:i=0
     ·rw [NO h0]at ς;exact ς
     ·rw [Nt h0,<-hbr,OL,Bool.or_self]at ς;exact ς
    have hk':=Kp.trans κ hk14 λ _ _ h=>h
    have hrne:=hr.ne hne;have tk:Lo.take (i+1)=Lo.take i++[Lo[i]]:=Ng hi';have new:(∀o∈Lo.take i,∃r',yl on σ u o G all r'/\iS r r'=true)->Cq on σ u (Lo.take (i+1)) G all r:=λhh=>by
     rw [tk];refine⟨⟨Lo[i],NG _ (ND.2 rfl),hr⟩,λo Z=>?_⟩;rcases Nk.1 Z with Z | Z
     ·exact hh o Z
     ·have:o=Lo[i]:=by simpa using Z
      subst this;exact⟨r,hr,by simp [iS]⟩
    refine⟨λhq=>⟨λH=>⟨hk',ξ,?_⟩,λH=>⟨hk',ξ,?_⟩⟩,λhq=>⟨hk',ξ,?_⟩⟩
    ·have hi0:0< i:=by
      rcases Pv i with h0 | h0
      ·exact absurd (hb0 h0) (Ny hq)
      ·exact h0
     rw [Pd,Nj]at H;refine new λo Z=>?_
     obtain⟨r',h1,h2⟩:=(hb1 hi0).le o Z;exact⟨r',h1,fU _ _ _ (by simp only [iS,Nj];exact List.le_of_lt H) h2⟩
    ·have hi0:0< i:=by
      rcases Pv i with h0 | h0
      ·exact absurd (hb0 h0) (Ny hq)
      ·exact h0
     rw [Pd,No]at H;have hble:iS best r=true:=by simp only [iS,Nj];exact List.not_lt.1 H
     obtain⟨⟨o,h1,h2⟩,h3⟩:=hb1 hi0;rw [tk];refine⟨⟨o,NS _ h1,h2⟩,λo' Z=>?_⟩;rcases Nk.1 Z with Z | Z
     ·exact h3 o' Z
     ·have:o'=Lo[i]:=by simpa using Z
      subst this;exact⟨r,hr,hble⟩
    ·have hq:=NB hq;have hi0:i=0:=by
      rcases Pv i with h0 | h0
      ·exact h0
      ·obtain⟨⟨o,h1,h2⟩,_⟩:=hb1 h0;exact absurd hq (h2.ne hne)
     exact new λo Z=>by rw [hi0]at Z;simp at Z
   ·obtain⟨j1,j2,j3⟩:=hJ;exact⟨by omega,⟨i+1,by omega,by omega,j1,by simpa using j2,(λh=>by omega),λ _=>j3⟩,by dsimp only;omega⟩
  have hc6:=Ny hc6;have e:i=Lo.length:=by omega
  subst e;have hbest:=hb1 hLopos;rw [NR]at hbest;rw [Nt (by omega)]at hm13;have hW:=WR.HJ d.uq hne ω H hm64 hLop hLoa hbest;have hWl:=hW.len;rw [gi,hls.len,oS d.ae,<-T.aQ]at hWl;have hll:=hls.len;refine⟨by omega,λb i w'=>w'=w13/\∃j:Nat,i=(j:Int) - 1/\j<=(aj u).1.length/\b=wrap (G.drop j) best,λ _ i _=>(i+1).toNat,⟨rfl,(aj u).1.length,by omega,by omega,?_⟩,λb i w14 hI=>?_⟩
  ·rw [OT (by omega)];rfl
  obtain⟨rfl,j,rfl,hj,rfl⟩:=hI;refine⟨λhc7=>?_,λhc7=>?_⟩
  ·have hc7:=NB hc7;obtain⟨j,rfl⟩:∃j',j=j'+1:=⟨j - 1,by omega⟩
   have ej:((j+1:Nat):Int) - 1=(j:Int):=by omega
   rw [ej];have hjl:j< G.length:=by omega
   have hdl:(G.drop (j+1)).length<=64:=by rw [OB];omega
   rw [Bw hjl];refine⟨by omega,⟨by omega,by omega,by omega⟩,by simp,by simp,?_,by omega,⟨rfl,j,rfl,by omega,?_⟩,by dsimp only;omega⟩
   ·rw [gi];simp only [Nb,M0,Np];omega
   ·rw [vn hjl];rfl
  ·have hc7:=Ny hc7;have e:j=0:=by omega
   subst e;rw [O4];refine h _ w14 ?_ ?_ hW
   ·exact Kp.trans (Kp.ah hx611 _) κ λ _ _ h=>h
   ·rw [Ac d.uq];have h5:decide (5< (aj u).1.length)=false:=OD (by omega);rw [h5,PV,hbr];exact hm13
section
open Classical
def num:P->(UInt8->Nat)->Nat->U×Nat
 | .nil,_,n=>(.nil,n)
 | .snd a b p,e,n=>(.snd (e a) (e b) (num p e n).1,(num p e n).2)
 | .rcv a x p,e,n=>(.rcv (e a) (n+101) (num p (aF e x (n+101)) (n+1)).1,(num p (aF e x (n+101)) (n+1)).2)
 | .tau p,e,n=>(.tau (num p e n).1,(num p e n).2)
 | .sum p q,e,n=>(.sum (num p e n).1 (num q e (num p e n).2).1,(num q e (num p e n).2).2)
 | .par p q,e,n=>(.par (num p e n).1 (num q e (num p e n).2).1,(num q e (num p e n).2).2)
 | .res x p,e,n=>(.res (n+101) (num p (aF e x (n+101)) (n+1)).1,(num p (aF e x (n+101)) (n+1)).2)
 | .mat a b p,e,n=>(.mat (e a) (e b) (num p e n).1,(num p e n).2)
 | .rep p,e,n=>(.rep (num p e n).1,(num p e n).2)
def cG:∀(p:P) (e:UInt8->Nat) (n:Nat),n<=(num p e n).2
 | .nil,_,_=>Nc _
 | .snd _ _ p,e,n=>cG p e n
 | .mat _ _ p,e,n=>cG p e n
 | .tau p,e,n=>cG p e n
 | .rep p,e,n=>cG p e n
 | .rcv _ x p,e,n=>by have :=cG p (aF e x (n+101)) (n+1);simp only [num];omega
 | .res x p,e,n=>by have :=cG p (aF e x (n+101)) (n+1);simp only [num];omega
 | .sum p q,e,n=>by have :=cG p e n;have :=cG q e (num p e n).2;simp only [num];omega
 | .par p q,e,n=>by have :=cG p e n;have :=cG q e (num p e n).2;simp only [num];omega
def AE.Jt {p:P}{u:U}{e:UInt8->Nat}{x:UInt8}{y:Nat}(he:∀c,p.Fr c->c≠x->e c≠y)(h:AE (aF e x y) p id u)(v:Nat):AE (aF e x v) p (aF id y v) u:=by
 refine(h.map λn=>if n=y then v else n).congr (λc G=>?_) λz _=>?_
 ·unfold aF;by_cases h1:c=x
  ·simp [h1]
  ·simp only [Nt h1];rw [Nt (he c G h1)]
 ·unfold aF;rfl
def fE:∀(p:P) (e:UInt8->Nat) (n:Nat),(∀c,p.Fr c->e c<=n+100)->AE e p id (num p e n).1
 | .nil,_,_,_=>trivial
 | .snd a b p,e,n,h=>⟨rfl,rfl,fE p e n λc G=>h c (.inr (.inr G))⟩
 | .mat a b p,e,n,h=>⟨rfl,rfl,fE p e n λc G=>h c (.inr (.inr G))⟩
 | .tau p,e,n,h=>fE p e n h
 | .rep p,e,n,h=>fE p e n h
 | .sum p q,e,n,h=>⟨fE p e n λc G=>h c (.inl G),fE q e _ λc G=>by have :=h c (.inr G);have :=cG p e n;omega⟩
 | .par p q,e,n,h=>⟨fE p e n λc G=>h c (.inl G),fE q e _ λc G=>by have :=h c (.inr G);have :=cG p e n;omega⟩
 | .rcv a x p,e,n,h=>⟨rfl,λv=>AE.Jt (λc G H=>by have :=h c (.inr ⟨H,G⟩);omega) (fE p _ _ λc G=>by
   unfold aF;split
   ·omega
   ·rename_i H;have :=h c (.inr ⟨H,G⟩);omega) v⟩
 | .res x p,e,n,h=>λv=>AE.Jt (λc G H=>by have :=h c ⟨H,G⟩;omega) (fE p _ _ λc G=>by
   unfold aF;split
   ·omega
   ·rename_i H;have :=h c ⟨H,G⟩;omega) v
def ew:∀(p:P) (e:UInt8->Nat) (n:Nat),(BV (num p e n).1).Nodup/\∀x∈BV (num p e n).1,n+100< x/\x<=(num p e n).2+100
 | .nil,_,_=>⟨OG,λx h=>by cases h⟩
 | .snd _ _ p,e,n=>ew p e n
 | .mat _ _ p,e,n=>ew p e n
 | .tau p,e,n=>ew p e n
 | .rep p,e,n=>ew p e n
 | .rcv _ x p,e,n=>by
  obtain⟨h1,H⟩:=ew p (aF e x (n+101)) (n+1);have :=cG p (aF e x (n+101)) (n+1);refine⟨N7.2 ⟨λh=>by have :=H _ h;omega,h1⟩,λy G=>?_⟩;simp only [num];rcases Nw.1 G with rfl | G
  ·omega
  ·have :=H y G;omega
 | .res x p,e,n=>by
  obtain⟨h1,H⟩:=ew p (aF e x (n+101)) (n+1);have :=cG p (aF e x (n+101)) (n+1);refine⟨N7.2 ⟨λh=>by have :=H _ h;omega,h1⟩,λy G=>?_⟩;simp only [num];rcases Nw.1 G with rfl | G
  ·omega
  ·have :=H y G;omega
 | .sum p q,e,n=>by
  obtain⟨h1,H⟩:=ew p e n;obtain⟨J,h4⟩:=ew q e (num p e n).2;have :=cG p e n;have :=cG q e (num p e n).2;refine⟨NU.2 ⟨h1,J,λa ha b hb=>by have :=H a ha;have :=h4 b hb;omega⟩,λy G=>?_⟩;simp only [num];rcases Nk.1 G with G | G
  ·have :=H y G;omega
  ·have :=h4 y G;omega
 | .par p q,e,n=>by
  obtain⟨h1,H⟩:=ew p e n;obtain⟨J,h4⟩:=ew q e (num p e n).2;have :=cG p e n;have :=cG q e (num p e n).2;refine⟨NU.2 ⟨h1,J,λa ha b hb=>by have :=H a ha;have :=h4 b hb;omega⟩,λy G=>?_⟩;simp only [num];rcases Nk.1 G with G | G
  ·have :=H y G;omega
  ·have :=h4 y G;omega
def JI (p:P)(e:UInt8->Nat)(n:Nat)(h:∀c,p.Fr c->e c<=n+100):Uq (num p e n).1:=by
 obtain⟨h1,G⟩:=ew p e n;refine⟨h1,λx H J=>?_⟩;obtain⟨c,Z,e'⟩:=(fE p e n h).symm.free x J;have h3:=G x H;have h4:=h c Z;have h5:e c=x:=e';omega
def e0 (c:UInt8):Nat:=c.toNat - 97
def σ0 (y:Nat):Nat:=y+97
def ρ0 (y:Nat):UInt8:=UInt8.ofNat (97+y)
def bg {c:UInt8}(h:lt c=true):97<=c.toNat/\c.toNat<=122:=by
 simp only [lt,M8,Nj]at h;exact⟨NA.1 h.1,NA.1 h.2⟩
def rC {c:UInt8}(h:97<=c.toNat/\c.toNat<=122):lt c=true:=by
 simp only [lt,M8,Nj];exact⟨NA.2 h.1,NA.2 h.2⟩
def dt {y:Nat}(h:y< 26):(ρ0 y).toNat=σ0 y:=by
 unfold ρ0 σ0;rw [Om];omega
def rr {p:P}(h:∀c,p.Fr c->lt c=true):AE UInt8.toNat p σ0 (num p e0 0).1/\Uq (num p e0 0).1/\(∀y,(num p e0 0).1.Fr y->y< 26)/\∀x∈BV (num p e0 0).1,26<=x:=by
 have he:∀c,p.Fr c->e0 c<=0+100:=λc G=>by have :=bg (h c G);unfold e0;omega
 have ha:=fE p e0 0 he;refine⟨(ha.map (·+97)).congr (λc G=>?_) λy _=>rfl,JI p e0 0 he,λy H=>?_,λx J=>?_⟩
 ·have :=bg (h c G);unfold e0;omega
 ·obtain⟨c,G,e⟩:=ha.symm.free y H;have :=bg (h c G);have e:e0 c=y:=e;unfold e0 at e;omega
 ·have :=(ew p e0 0).2 x J;omega
def jk {c:UInt8}(h:lt c=true):nm c=true:=by
 simp only [lt,nm]at*;rw [h];rfl
def sM {c:UInt8}(h:lt c=true):ngr c:=by
 have :=bg h;right;omega
def cV (s:Tx):Prop:=s.length<=300/\∃t:P,t.Al (λc=>lt c=true)/\t.text=s/\t.size<=60
def kR (l:Lv):Tk:=λc=>lt c&&l.has (e0 c)
noncomputable def BG (r:List Nat×Lv):Option Tx:=
 if(max r.1.length (an r.2)<=5/\r.1.length+thAll r.2<=8)/\fu r.1.length r.2.isNil (thBad r.2) (kR r.2)=false/\cV (aP r.1 (thS r.2) ρ0 (kR r.2))then some (aP r.1 (thS r.2) ρ0 (kR r.2))else none
noncomputable def je (u:U):Option Tx:=BG (td u)
def gP (u:U):je u=if(aY u<=5/\ck u<=8)/\cN u (kR (td u).2)=false/\cV (LS u ρ0 (kR (td u).2))then some (LS u ρ0 (kR (td u).2))else none:=rfl
structure Nu (u:U):Prop where
 uq:Uq u
 fr:∀y,u.Us y->y< 26
 bv:∀x∈BV u,26<=x
def p8 {u:U}(h:Nu u)(c:UInt8):kR (td u).2 c=true↔lt c=true/\u.Us (e0 c):=by
 unfold kR;rw [M8];refine and_congr_right λG=>fH u _ λhb=>?_
 have :=h.bv _ hb;have :=bg G;unfold e0 at*;omega
def Nu.MN {u:U}(h:Nu u):IB u ρ0 (kR (td u).2):=by
 refine⟨λy G=>?_,λy z G Z e=>?_⟩
 ·have h1:=h.fr y G;have H:=dt h1;have J:lt (ρ0 y)=true:=rC (by rw [H];unfold σ0;omega);refine⟨(p8 h _).2 ⟨J,?_⟩,J⟩;have:e0 (ρ0 y)=y:=by unfold e0;rw [H];unfold σ0;omega
  rw [this];exact G
 ·have h1:=dt (h.fr y G);have H:=dt (h.fr z Z);rw [e,H]at h1;unfold σ0 at h1;omega
structure JO (u:U)(s:Tx)(t:P)(v:U):Prop where
 text:t.text=s
 ls:s=LS u ρ0 (kR (td u).2)
 ae:AE UInt8.toNat t (λy=>(ρ0 y).toNat) v
 al:t.Al λc=>lt c=true
 arr:MG u v
 len:s.length<=300
 size:t.size<=60
 most:aY u<=5
 all:ck u<=8
 bad:cN u (kR (td u).2)=false
def T.Al.wf:∀{t:P},t.Al (λc=>lt c=true)->t.wf=true
 | .nil,_=>rfl
 | .snd a b p,⟨h1,G,h⟩=>by simp [T.wf,jk h1,jk G,T.Al.wf h]
 | .rcv a b p,⟨h1,G,h⟩=>by simp [T.wf,jk h1,jk G,T.Al.wf h]
 | .mat a b p,⟨h1,G,h⟩=>by simp [T.wf,jk h1,jk G,T.Al.wf h]
 | .tau p,h=>T.Al.wf (t:=p) h
 | .rep p,h=>T.Al.wf (t:=p) h
 | .sum p q,⟨h1,G⟩=>by simp [T.wf,T.Al.wf h1,T.Al.wf G]
 | .par p q,⟨h1,G⟩=>by simp [T.wf,T.Al.wf h1,T.Al.wf G]
 | .res x p,⟨h1,h⟩=>by simp [T.wf,jk h1,T.Al.wf h]
def T.Al.eb:∀{t:P} (k:Nat),t.Al (λc=>lt c=true)->Eb k t
 | .nil,_,_=>trivial
 | .snd a b p,k,⟨h1,G,h⟩=>⟨mQ h1,mQ G,T.Al.eb k h⟩
 | .mat a b p,k,⟨h1,G,h⟩=>⟨mQ h1,mQ G,T.Al.eb k h⟩
 | .rcv a b p,k,⟨h1,G,h⟩=>⟨mQ h1,⟨sM G,λz H _=>(T.Al.eb k h).free z H⟩,T.Al.eb (k+1) h⟩
 | .tau p,k,h=>T.Al.eb (t:=p) k h
 | .rep p,k,h=>T.Al.eb (t:=p) k h
 | .sum p q,k,⟨h1,G⟩=>⟨T.Al.eb k h1,T.Al.eb k G⟩
 | .par p q,k,⟨h1,G⟩=>⟨T.Al.eb k h1,T.Al.eb k G⟩
 | .res x p,k,⟨h1,h⟩=>⟨⟨sM h1,λz H _=>(T.Al.eb k h).free z H⟩,T.Al.eb (k+1) h⟩
def T.Al.free {D:UInt8->Prop}:∀{t:P},t.Al D->∀z,t.Fr z->D z
 | .snd a b p,⟨h1,H,h⟩,z,G=>by
  rcases G with rfl | rfl | G
  ·exact h1
  ·exact H
  ·exact T.Al.free h z G
 | .mat a b p,⟨h1,H,h⟩,z,G=>by
  rcases G with rfl | rfl | G
  ·exact h1
  ·exact H
  ·exact T.Al.free h z G
 | .rcv a b p,⟨h1,H,h⟩,z,G=>by
  rcases G with rfl | G
  ·exact h1
  ·exact T.Al.free h z G.2
 | .res x p,⟨h1,h⟩,z,G=>T.Al.free h z G.2
 | .tau p,h,z,G=>T.Al.free (t:=p) h z G
 | .rep p,h,z,G=>T.Al.free (t:=p) h z G
 | .sum p q,⟨h1,H⟩,z,G=>G.elim (T.Al.free h1 z) (T.Al.free H z)
 | .par p q,⟨h1,H⟩,z,G=>G.elim (T.Al.free h1 z) (T.Al.free H z)
def FY {u:U}(h:Nu u){s:Tx}(G:je u=some s):∃t v,JO u s t v:=by
 rw [gP]at G;split at G
 ·rename_i hc;obtain⟨⟨h1,h2⟩,H,h4,t',h5,h6,h7⟩:=hc;cases G;obtain⟨t,v,J,k2,Z,k4⟩:=arr u.size u ρ0 _ (Nc _) h.uq h.MN H;have:t=t':=fp Z.wf h5.wf (J.trans h6.symm);subst this;exact⟨t,v,J,rfl,k2,Z,k4,h4,h7,h1,h2,H⟩
 ·cases G
end
def iR:∀{t:P},t.lw=true↔t.Al λc=>lt c=true
 | .nil=>by simp [T.lw,T.Al]
 | .snd a b p=>by simp [T.lw,T.Al,iR (t:=p),Pk]
 | .rcv a b p=>by simp [T.lw,T.Al,iR (t:=p),Pk]
 | .mat a b p=>by simp [T.lw,T.Al,iR (t:=p),Pk]
 | .tau p=>by simp [T.lw,T.Al,iR (t:=p)]
 | .rep p=>by simp [T.lw,T.Al,iR (t:=p)]
 | .res x p=>by simp [T.lw,T.Al,iR (t:=p)]
 | .sum p q=>by simp [T.lw,T.Al,iR (t:=p),iR (t:=q)]
 | .par p q=>by simp [T.lw,T.Al,iR (t:=p),iR (t:=q)]
def kB {s:Tx}:(∃t:P,Good t/\t.text=s)↔cV s:=by
 constructor
 ·rintro⟨t,h,rfl⟩
  exact⟨h.len,t,iR.1 h.lw,rfl,h.size⟩
 ·rintro⟨h,t,h1,rfl,G⟩
  exact⟨t,⟨iR.2 h1,h,G⟩,rfl⟩
def BH {s:Tx}(h:cV s):∀c∈s,¬128<=c:=by
 obtain⟨t,G,rfl⟩:=kB.2 h;intro c H;have :=OV.1 (iH G.lw).2 c H;simp only [du,Pa,Oz,No]at this;exact this.2
def KE {p:Tx}(J:p.length<=1099511627776){w:World}{R:aJ->Bool->Qx}(h:∀w',Ex w w'->(cV p->R p true w')/\(¬cV p->R [] false w')):Qy 163 #[.string (ay p)] w (ax [.s,.b] R):=by
 refine yA p w R ?_;dsimp only [go_sem];refine EM J λb w' H hb=>⟨λG=>(h w' H).2 λZ=>?_,λG=>(h w' H).1 (kB.1 (hb.1 (by simpa using G)))⟩
 have :=hb.2 (kB.2 Z);rw [this]at G;cases G
structure qR (k:Nat)(p:P)(σ:Nat->Nat)(u:U):Prop where
 den:Den k p σ u
 gf:GF 0 p
 nu:Nu u
 σ:∀y,u.Us y->σ y=σ0 y
 lb:Lb k u
def qR.lt {k:Nat}{p:P}{σ:Nat->Nat}{u:U}(d:qR k p σ u):(∀c,p.Us c->lt c=true/\u.Us (e0 c))/\∀y,u.Us y->p.Us (ρ0 y):=by
 constructor
 ·intro c J;obtain⟨y,h1,G⟩:=d.den.ae.used (dZ p) d.den.inj c J;have Z:=d.nu.fr y h1;rw [d.σ y h1]at G;unfold σ0 at G;have:e0 c=y:=by unfold e0;omega
  exact⟨rC (by omega),this▸h1⟩
 ·intro y H;obtain⟨c,h1,G⟩:=d.den.ae.symm.used d.den.inj (dZ p) y H;have:c=ρ0 y:=NK.1 (by rw [dt (d.nu.fr y H),G,d.σ y H]);exact this▸h1
def qR.tk {k:Nat}{p:P}{σ:Nat->Nat}{u:U}(d:qR k p σ u){s:Tx}(hm:∀c,c∈s↔p.Us c):cy s=kR (td u).2:=by
 funext c
 rw [N',p8 d.nu];unfold cy;rw [Nj,hm];refine⟨d.lt.1 c,fun⟨h1,G⟩=>?_⟩;have :=d.lt.2 _ G;have e:ρ0 (e0 c)=c:=by
  have :=bg h1;apply NK.1;unfold ρ0 e0;rw [Om];omega
 rwa [e]at this
def qR.Ll {k:Nat}{p:P}{σ:Nat->Nat}{u:U}(d:qR k p σ u){s:Tx}(J:kC s)(hm:∀c,c∈s↔p.Us c):xL k s σ u:=by
 refine⟨J,λc H=>⟨d.den.bd.eb.free c (T.bw ((hm c).1 H)),?_⟩,λy G=>?_⟩
 ·have :=bg (d.lt.1 c ((hm c).1 H)).1;right;omega
 ·refine⟨ρ0 y,(hm _).2 (d.lt.2 y G),?_⟩;rw [dt (d.nu.fr y G),d.σ y G]
def J1 {k:Nat}{p:P}{σ:Nat->Nat}{u:U}(d:qR k p σ u){w:World}{R:aJ->Bool->Qx}
  (h:∀w',Ex w w'->(¬(aY u<=5/\ck u<=8)->R [] false w')/\∀s out,(aY u<=5/\ck u<=8)->cy s=kR (td u).2->WR false u σ s out->R out true w'):
  Qy 162 #[.string (ay p.text)] w (ax [.s,.b] R):=by
 refine wQ _ w R ?_;dsimp only [go_sem];dsimp only [go_sem,Nat.reduceAdd];intro b2 w3 hb2 φ;have hx3:Ex w w3:=φ▸Ex.alloc w _;have mk:∀{wx wy:World} {b:Nat} (x:Bool),b=wx.heap.size->wy=wx.alloc (.cells #[.bool false,.bool x] 216)->MK wy b false x:=by
  rintro wx wy b x rfl rfl
  refine⟨by rw [size_alloc];omega,aa rfl,aa rfl,?_⟩;unfold World.frozen? World.alloc;simp
 have hm3:=mk true hb2 φ;refine og _ (Nc _) d.den.ok λs w5 χ hss hms=>?_
 refine Co _ (Nc _) d.den d.lb d.gf (d.Ll hss hms) (hm3.ex χ) λr w7 β hm7 hr=>?_
 have H:Ex w w5:=hx3.trans χ;have hx7:Ex w w7:=⟨β.os.trans H.os,β.tape.trans H.tape,β.output.trans H.output,N8 H.size β.size,λg hg=>by
  rw [β.block g (Nz hg H.size) (by omega)];exact H.block g hg⟩
 intro b8 η ψ hb8 hbr θ;have Z:Ex w ψ:=hx7.trans (Ex.aG θ);have hrl:=hr.le d.den;have hlen:=d.den.len;obtain⟨cur,lo,hi,hblk,υ,hle,_⟩:=hbr;refine⟨_,_,η,rfl,λown x w'=>w'=ψ/\∃i:Nat,x=i/\i<=r.length/\own=((r.take i).count 35:Nat),λ _ x _=>(r.length - x).toNat,⟨rfl,0,rfl,by omega,by simp⟩,λown x ε hI=>?_⟩;obtain⟨rfl,i,rfl,hi,rfl⟩:=hI;refine⟨λhc=>?_,λhc=>?_⟩
 ·have hc:=NB hc;have γ:i< r.length:=by omega
  have ι:(r.take i).count 35<=i:=N8 (List.count_le_length ..) (by rw [NW];omega);refine⟨b8,0,_,η,rfl,by omega,by omega,bt r i,?_,λhq=>?_,λhq=>?_⟩
  ·unfold World.cell?;simp only [hblk,Nf,NJ,NQ];have e:=N9 (λl=>l[i]?) υ;simp only [c8,OX]at e;rw [Pg,NO γ]at e;simp only [M6 γ,OP]at e;simpa [bt,γ]using e
  ·have hq:=NB hq;have e:(r.take (i+1)).count 35=(r.take i).count 35+1:=by
    rw [gM γ,N3,hq];simp
   exact⟨by omega,by omega,⟨rfl,i+1,by omega,by omega,by rw [e];omega⟩,by dsimp only;omega⟩
  ·have hq:=Ny hq;have e:(r.take (i+1)).count 35=(r.take i).count 35:=by
    rw [gM γ,N3,a6 hq];simp
   exact⟨by omega,⟨rfl,i+1,by omega,by omega,by rw [e]⟩,by dsimp only;omega⟩
 have hc:=Ny hc;have e:i=r.length:=by omega
 subst e;rw [NR];have κ:=hm7.ex (Ex.aG θ);rw [PV]at κ;refine⟨decide (5< aY u),κ.c0,λhq=>?_,λhq=>?_⟩
 ·have hq:=Ny hq;have ι:=hr.cnt (by omega);rw [ι];refine⟨λδ=>?_,λδ=>?_⟩
  ·have δ:=NB δ;exact(h ε Z).1 (by omega)
  ·have δ:=Ny δ;intro b25 w26 ω μ;have hx26:Ex ε w26:=μ▸Ex.alloc ε _;have hm26:=mk false ω μ;refine og _ (Nc _) d.den.ok λs' w28 ν hss' ξ=>?_
   refine Co _ (Nc _) d.den d.lb d.gf (d.Ll hss' ξ) (hm26.ex ν) λr' ζ J ο hr'=>?_
   have G:Ex w w28:=(Z.trans hx26).trans ν;have hsz:=Z.size;have hx30:Ex w ζ:=⟨J.os.trans G.os,J.tape.trans G.tape,J.output.trans G.output,N8 G.size J.size,λg hg=>by
    rw [J.block g (Nz hg G.size) (by omega)];exact G.block g hg⟩
   have hb:decide (5< aY u)=false:=OD (by omega);rw [hb,Bool.or_self]at ο;refine⟨λw'=>Ex ζ w',λBT ς=>⟨ς▸Ex.drew ζ,false,λw' hw'=>(ο.ex hw').c0,?_⟩⟩;exact(h BT (hx30.trans (ς▸Ex.drew ζ))).2 s' r' ⟨by omega,by omega⟩ (d.tk ξ) hr'
 ·have hq:=NB hq;exact(h ε Z).1 (by omega)
def ER {k:Nat}{p:P}{σ:Nat->Nat}{u:U}(d:qR k p σ u){w:World}{R:aJ->Bool->Qx}
  (h:∀w',Ex w w'->(∀s,je u=some s->R s true w')/\(je u=none->R [] false w')):
  Qy 90 #[.string (ay p.text)] w (ax [.s,.b] R):=by
 refine xt _ w R ?_;dsimp only [go_sem];refine J1 d λw' hx=>⟨λhn=>⟨λ _=>(h w' hx).2 ?_,λhc=>by cases hc⟩,λs out hb H hr=>⟨λhc=>(by cases hc),λ _=>?_⟩⟩
 ·rw [gP,Nt λhh=>hn hh.1]
 ·have hlen:=d.den.len;have ε:=hr.le d.den;refine KE (by omega) λw2 β=>?_
  have γ:Compat ρ0 σ u:=λy hy=>by rw [dt (d.nu.fr y hy),d.σ y hy]
  have J:=h w2 (hx.trans β);cases G:cN u (kR (td u).2)with
  | true=>
   obtain⟨c,h1,h2⟩:=hr.bad hb.1 rfl (by rw [H];exact G);have δ:¬cV out:=λZ=>BH Z c h1 h2
   refine⟨λZ=>absurd Z δ,λ _=>J.2 ?_⟩;rw [gP,Nt λhh=>by rw [G]at hh;cases hh.2.1]
  | false=>
   have e:=hr.eq hb.1 rfl (by rw [H];exact G) ρ0 γ;rw [H]at e;subst e;refine⟨λZ=>J.1 _ ?_,λZ=>J.2 ?_⟩
   ·rw [gP,NO ⟨hb,G,Z⟩]
   ·rw [gP,Nt λhh=>Z hh.2.2]
attribute [go_sem] Tryz.f184
def mh (G:Value)(w:World)(R:UInt8->Qx)(h:vc az (aZ [] [] [(1,true,.lt 0 (.lt 1 (.lt 2 (.lt 3 (.lt 4 (.lt 5 (.lt 6 (.lt 7 (.lt 8 (.lt 9 .done)))))))))),(5,true,.lt 0 (.lt 1 (.lt 2 (.lt 3 (.lt 4 (.lt 5 (.lt 6 (.lt 7 (.lt 8 (.lt 9 (.lt 10 .done)))))))))))]) (ab Tryz.f184) (ai 0 [.v G]) w (fin az [.tmp 2 .c] R)):
  Qy 184 #[G] w (ax [.c] R):=
 a7 Tryz.func184 (by kernel_rfl) h
attribute [go_sem] Tryz.f95
def pF (c1:UInt8)(w:World)(R:Bool->Qx)(h:vc az (aZ [] [] []) (ab Tryz.f95) (ai 0 [.c c1]) w (fin az [.tmp 2 .b] R)):
  Qy 95 #[(.int .u8 c1.toNat)] w (ax [.b] R):=
 a7 Tryz.func95 (by kernel_rfl) h
attribute [go_sem] Tryz.f185
def my (G:Value)(w:World)(R:UInt8->Qx)(h:vc az (aZ [] [] []) (ab Tryz.f185) (ai 0 [.v G]) w (fin az [.tmp 2 .c] R)):
  Qy 185 #[G] w (ax [.c] R):=
 a7 Tryz.func185 (by kernel_rfl) h
attribute [go_sem] Tryz.f186
def mv (G:Value)(c2:UInt8)(w:World)(R:Qx)(h:vc az (aZ [] [] []) (ab Tryz.f186) (ai 0 [.v G,.c c2]) w (fin az [] R)):
  Qy 186 #[G,(.int .u8 c2.toNat)] w (ax [] R):=
 a7 Tryz.func186 (by kernel_rfl) h
attribute [go_sem] Tryz.f116
def mC (G:Value)(w:World)(R:Value->Qx)(h:vc az (aZ [] [] []) (ab Tryz.f116) (ai 0 [.v G]) w (fin az [.tmp 2 .v] R)):
  Qy 116 #[G] w (ax [.v] R):=
 a7 Tryz.func116 (by kernel_rfl) h
attribute [go_sem] Tryz.f60
def uB (s1:aJ)(w:World)(R:Value->Bool->Qx)(h:vc az (aZ [] [] [(3,true,.lt 0 (.lt 1 (.lt 2 (.lt 3 (.lt 4 (.lt 5 (.lt 6 (.lt 7 (.lt 8 (.lt 9 (.lt 10 (.lt 11 (.lt 12 (.lt 13 (.lt 14 (.lt 15 (.lt 16 .done)))))))))))))))))]) (ab Tryz.f60) (ai 0 [.s s1]) w (fin az [.tmp 2 .v,.tmp 3 .b] R)):
  Qy 60 #[(.string (ay s1))] w (ax [.v,.b] R):=
 a7 Tryz.func60 (by kernel_rfl) h
attribute [go_sem] Tryz.f136
def oK (t1:Value)(w:World)(R:Int->Qx)(h:vc az (aZ [(3,[(3,.i),(11,.i)])] [] []) (ab Tryz.f136) (ai 0 [.v t1]) w (fin az [.tmp 2 .i] R)):
  Qy 136 #[t1] w (ax [.i] R):=
 a7 Tryz.func136 (by kernel_rfl) h
attribute [go_sem] Tryz.f93
def wv (G:aJ)(w:World)(R:Value->Bool->Qx)(h:vc az (aZ [] [] []) (ab Tryz.f93) (ai 0 [.s G]) w (fin az [.tmp 2 .v,.tmp 3 .b] R)):
  Qy 93 #[(.string (ay G))] w (ax [.v,.b] R):=
 a7 Tryz.func93 (by kernel_rfl) h
attribute [go_sem] Tryz.f190
def oy (G:aJ)(w:World)(R:Bool->Qx)(h:vc az (aZ [] [] []) (ab Tryz.f190) (ai 0 [.s G]) w (fin az [.tmp 2 .b] R)):
  Qy 190 #[(.string (ay G))] w (ax [.b] R):=
 a7 Tryz.func190 (by kernel_rfl) h
attribute [go_sem] Tryz.f171
def mP (t1:Value)(w:World)(R:Bool->Qx)(h:vc az (aZ [] [] []) (ab Tryz.f171) (ai 0 [.v t1]) w (fin az [.tmp 2 .b] R)):
  Qy 171 #[t1] w (ax [.b] R):=
 a7 Tryz.func171 (by kernel_rfl) h
attribute [go_sem] Tryz.f195
attribute [go_sem] Tryz.f207
def mM (G:Value)(c2:Value)(c3:Value)(w:World)(R:Qx)(h:vc az (aZ [] [] []) (ab Tryz.f207) (ai 0 [.v G,.v c2,.v c3]) w (fin az [] R)):
  Qy 207 #[G,c2,c3] w (ax [] R):=
 a7 Tryz.func207 (by kernel_rfl) h
attribute [go_sem] Tryz.f206
def nT (t1:Value)(d2:Value)(w:World)(R:Qx)(h:vc az (aZ [(2,[(14,.i)])] [] []) (ab Tryz.f206) (ai 0 [.v t1,.v d2]) w (fin az [] R)):
  Qy 206 #[t1,d2] w (ax [] R):=
 a7 Tryz.func206 (by kernel_rfl) h
attribute [go_sem] Tryz.f165
def pH (t1:Value)(G:Value)(w:World)(R:Bool->Qx)(h:vc az (aZ [] [] []) (ab Tryz.f165) (ai 0 [.v t1,.v G]) w (fin az [.tmp 4 .b] R)):
  Qy 165 #[t1,G] w (ax [.b] R):=
 a7 Tryz.func165 (by kernel_rfl) h
attribute [go_sem] Tryz.f205
def iX (G:Value)(w:World)(R:Bool->Qx)(h:vc az (aZ [] [] []) (ab Tryz.f205) (ai 0 [.v G]) w (fin az [.tmp 2 .b] R)):
  Qy 205 #[G] w (ax [.b] R):=
 a7 Tryz.func205 (by kernel_rfl) h
attribute [go_sem] Tryz.f164
def ke (t1:Value)(w:World)(R:Bool->Qx)(h:vc az (aZ [] [] []) (ab Tryz.f164) (ai 0 [.v t1]) w (fin az [.tmp 2 .b] R)):
  Qy 164 #[t1] w (ax [.b] R):=
 a7 Tryz.func164 (by kernel_rfl) h
attribute [go_sem] Tryz.f166
def jS (G:Value)(w:World)(R:Bool->Qx)(h:vc az (aZ [] [] []) (ab Tryz.f166) (ai 0 [.v G]) w (fin az [.tmp 2 .b] R)):
  Qy 166 #[G] w (ax [.b] R):=
 a7 Tryz.func166 (by kernel_rfl) h
attribute [go_sem] Tryz.f94
def mB (t1:Value)(w:World)(R:Bool->Qx)(h:vc az (aZ [] [] []) (ab Tryz.f94) (ai 0 [.v t1]) w (fin az [.tmp 2 .b] R)):
  Qy 94 #[t1] w (ax [.b] R):=
 a7 Tryz.func94 (by kernel_rfl) h
abbrev ptr (b:Nat):Value:= .pointer (some ⟨b,0,none⟩)
def dG (D:Nat->Prop)(w:World)(v:Value)(l:List Value):Prop:=
 (v= .slice none 0 0/\l=[])\/∃b off cap,v= .slice (some ⟨b,off,none⟩) l.length cap/\D b/\b< w.heap.size/\∀i x,l[i]?=some x->w.cell? ⟨b,off+i,none⟩=some x
def dG.kp {D S:Nat->Prop}{w w':World}{v:Value}{l:List Value}(h:dG D w v l)(k:Kp w w' S)(J:∀g,D g->¬S g):dG D w' v l:=by
 rcases h with h | ⟨b,off,cap,h1,G,H,h4⟩
 ·exact .inl h
 ·refine .inr ⟨b,off,cap,h1,G,Nz H k.size,λi x Z=>?_⟩;rw [M5 (w:=w) (k.block b H (J b G))];exact h4 i x Z
def dG.mono {D E:Nat->Prop}{w:World}{v:Value}{l:List Value}(h:dG D w v l)(hd:∀g,D g->E g):dG E w v l:=by
 rcases h with h | ⟨b,off,cap,h1,G,H,h4⟩
 ·exact .inl h
 ·exact .inr ⟨b,off,cap,h1,hd b G,H,h4⟩
def dG.slice {D:Nat->Prop}{w:World}{v:Value}{l:List Value}(h:dG D w v l):∃a cap,v= .slice a l.length cap:=by
 rcases h with⟨h,rfl⟩ | ⟨b,off,cap,h1,_⟩
 ·exact⟨_,_,h⟩
 ·exact⟨_,_,h1⟩
def dG.get {D:Nat->Prop}{w:World}{v:Value}{l:List Value}(h:dG D w v l){i:Int}{x:Value}(H:0<=i)(G:l[i.toNat]?=some x){Q:Value->Prop}(J:Q x):
  ∃(b o len cap:Nat),v=Value.slice (some ⟨b,o,none⟩) len cap/\0<=i/\i< (len:Int)/\∃s:Value,World.cell? w ⟨b,o+Int.toNat i* 1,none⟩=some s/\Q s:=by
 obtain⟨hi,e⟩:=NZ.1 G;rcases h with⟨h,rfl⟩ | ⟨b,off,cap,h1,Z,h3,h4⟩
 ·simp at hi
 ·exact⟨b,off,l.length,cap,h1,H,by omega,x,by rw [NQ];exact h4 _ _ G,J⟩
def eN (D:Nat->Prop)(w:World)(v:Value)(k a c:UInt8)(K:List Value->Prop):Prop:=
 ∃b vs l,v=ptr b/\D b/\b< w.heap.size/\w.cell? ⟨b,0,none⟩=some (.int .u8 k.toNat)/\w.cell? ⟨b,1,none⟩=some (.int .u8 a.toNat)/\w.cell? ⟨b,2,none⟩=some (.int .u8 c.toNat)/\
  w.cell? ⟨b,3,none⟩=some vs/\dG D w vs l/\K l
def aI (D:Nat->Prop)(w:World):P->Value->Prop
 | .nil,v=>eN D w v 48 0 0 λl=>l=[]
 | .snd a b p,v=>eN D w v 33 a b λl=>∃x,l=[x]/\aI D w p x
 | .rcv a b p,v=>eN D w v 63 a b λl=>∃x,l=[x]/\aI D w p x
 | .tau p,v=>eN D w v 126 0 0 λl=>∃x,l=[x]/\aI D w p x
 | .sum p q,v=>eN D w v 43 0 0 λl=>∃x y,l=[x,y]/\aI D w p x/\aI D w q y
 | .par p q,v=>eN D w v 38 0 0 λl=>∃x y,l=[x,y]/\aI D w p x/\aI D w q y
 | .res b p,v=>eN D w v 35 0 b λl=>∃x,l=[x]/\aI D w p x
 | .mat a b p,v=>eN D w v 61 a b λl=>∃x,l=[x]/\aI D w p x
 | .rep p,v=>eN D w v 42 0 0 λl=>∃x,l=[x]/\aI D w p x
def T.ca:P->UInt8
 | .snd a _ _=>a | .rcv a _ _=>a | .mat a _ _=>a | _=>0
def T.cb:P->UInt8
 | .snd _ b _=>b | .rcv _ b _=>b | .mat _ b _=>b | .res b _=>b | _=>0
def eN.kp {D S:Nat->Prop}{w w':World}{v:Value}{k a c:UInt8}{K G:List Value->Prop}(h:eN D w v k a c K)(kp:Kp w w' S)(H:∀g,D g->¬S g)(hK:∀l,K l->G l):eN D w' v k a c G:=by
 obtain⟨b,vs,l,h1,J,Z,h4,h5,h6,h7,h8,h9⟩:=h;have hb:=kp.block b Z (H b J);refine⟨b,vs,l,h1,J,Nz Z kp.size,?_,?_,?_,?_,h8.kp kp H,hK l h9⟩<;>rw [M5 (w:=w) hb]<;>assumption
def eN.mono {D E:Nat->Prop}{w:World}{v:Value}{k a c:UInt8}{K G:List Value->Prop}(h:eN D w v k a c K)(hd:∀g,D g->E g)(H:∀l,K l->G l):eN E w v k a c G:=by
 obtain⟨b,vs,l,h1,J,Z,h4,h5,h6,h7,h8,h9⟩:=h;exact⟨b,vs,l,h1,hd b J,Z,h4,h5,h6,h7,h8.mono hd,H l h9⟩
def aI.kp {D S:Nat->Prop}{w w':World}(kp:Kp w w' S)(G:∀g,D g->¬S g):∀{t:P} {v:Value},aI D w t v->aI D w' t v
 | .nil,_,h=>eN.kp h kp G λ _ h=>h
 | .snd _ _ p,_,h=>eN.kp h kp G λ _ ⟨x,h1,H⟩=>⟨x,h1,aI.kp kp G (t:=p) H⟩
 | .rcv _ _ p,_,h=>eN.kp h kp G λ _ ⟨x,h1,H⟩=>⟨x,h1,aI.kp kp G (t:=p) H⟩
 | .tau p,_,h=>eN.kp h kp G λ _ ⟨x,h1,H⟩=>⟨x,h1,aI.kp kp G (t:=p) H⟩
 | .res _ p,_,h=>eN.kp h kp G λ _ ⟨x,h1,H⟩=>⟨x,h1,aI.kp kp G (t:=p) H⟩
 | .mat _ _ p,_,h=>eN.kp h kp G λ _ ⟨x,h1,H⟩=>⟨x,h1,aI.kp kp G (t:=p) H⟩
 | .rep p,_,h=>eN.kp h kp G λ _ ⟨x,h1,H⟩=>⟨x,h1,aI.kp kp G (t:=p) H⟩
 | .sum p q,_,h=>eN.kp h kp G λ _ ⟨x,y,h1,H,J⟩=>⟨x,y,h1,aI.kp kp G (t:=p) H,aI.kp kp G (t:=q) J⟩
 | .par p q,_,h=>eN.kp h kp G λ _ ⟨x,y,h1,H,J⟩=>⟨x,y,h1,aI.kp kp G (t:=p) H,aI.kp kp G (t:=q) J⟩
def aI.mono {D E:Nat->Prop}{w:World}(hd:∀g,D g->E g):∀{t:P} {v:Value},aI D w t v->aI E w t v
 | .nil,_,h=>eN.mono h hd λ _ h=>h
 | .snd _ _ p,_,h=>eN.mono h hd λ _ ⟨x,h1,G⟩=>⟨x,h1,aI.mono hd (t:=p) G⟩
 | .rcv _ _ p,_,h=>eN.mono h hd λ _ ⟨x,h1,G⟩=>⟨x,h1,aI.mono hd (t:=p) G⟩
 | .tau p,_,h=>eN.mono h hd λ _ ⟨x,h1,G⟩=>⟨x,h1,aI.mono hd (t:=p) G⟩
 | .res _ p,_,h=>eN.mono h hd λ _ ⟨x,h1,G⟩=>⟨x,h1,aI.mono hd (t:=p) G⟩
 | .mat _ _ p,_,h=>eN.mono h hd λ _ ⟨x,h1,G⟩=>⟨x,h1,aI.mono hd (t:=p) G⟩
 | .rep p,_,h=>eN.mono h hd λ _ ⟨x,h1,G⟩=>⟨x,h1,aI.mono hd (t:=p) G⟩
 | .sum p q,_,h=>eN.mono h hd λ _ ⟨x,y,h1,G,H⟩=>⟨x,y,h1,aI.mono hd (t:=p) G,aI.mono hd (t:=q) H⟩
 | .par p q,_,h=>eN.mono h hd λ _ ⟨x,y,h1,G,H⟩=>⟨x,y,h1,aI.mono hd (t:=p) G,aI.mono hd (t:=q) H⟩
def aO.two {A B:Type}{R:A->B->Prop}{a a':A}{b G:B}(h:R a b)(H:R a' G):aO R [a,a'] [b,G]:=(aO.one h).append (aO.one H)
def aI.inv {D:Nat->Prop}{w:World}{t:P}{v:Value}(h:aI D w t v):eN D w v t.kind t.ca t.cb λl=>aO (λx p=>aI D w p x) l t.parts:=by
 cases t with
 | nil=>exact eN.mono h (λ _ h=>h) λl (e:l=[])=>by subst e;exact aO.nil
 | sum p q=>exact eN.mono h (λ _ h=>h) λl ⟨x,y,e,h1,G⟩=>by subst e;exact aO.two h1 G
 | par p q=>exact eN.mono h (λ _ h=>h) λl ⟨x,y,e,h1,G⟩=>by subst e;exact aO.two h1 G
 | snd a b p=>exact eN.mono h (λ _ h=>h) λl ⟨x,e,h1⟩=>by subst e;exact aO.one h1
 | rcv a b p=>exact eN.mono h (λ _ h=>h) λl ⟨x,e,h1⟩=>by subst e;exact aO.one h1
 | mat a b p=>exact eN.mono h (λ _ h=>h) λl ⟨x,e,h1⟩=>by subst e;exact aO.one h1
 | tau p=>exact eN.mono h (λ _ h=>h) λl ⟨x,e,h1⟩=>by subst e;exact aO.one h1
 | rep p=>exact eN.mono h (λ _ h=>h) λl ⟨x,e,h1⟩=>by subst e;exact aO.one h1
 | res b p=>exact eN.mono h (λ _ h=>h) λl ⟨x,e,h1⟩=>by subst e;exact aO.one h1
def sH (t:P):t.size=1+(t.parts.map T.size).sum:=by cases t<;>simp [T.size,T.parts]<;>omega
def vP {A:Type}(f:A->Nat)(l:List A){i:Nat}(h:i< l.length):(l.map f).sum=((l.take i).map f).sum+(f l[i]+((l.drop (i+1)).map f).sum)/\((l.take (i+1)).map f).sum=((l.take i).map f).sum+f l[i]:=by
 constructor
 ·have e:l=l.take i++(l[i]::l.drop (i+1)):=by rw [<-N4 h,Oi]
  conv=>lhs;rw [e,N0,PA,NI,Ol]
 ·rw [Ng h,N0,PA];simp
def I0:∀(n:Nat) {D:Nat->Prop} {t:P} {v:Value} {w:World},t.size<=n->aI D w t v->t.size<=1099511627776->∀{R:Int->Qx},R (t.size:Int) w->Qy 136 #[v] w (ax [.i] R):=by
 intro n
 induction n with
 | zero=>intro D t v w h;have :=aU t;omega
 | succ n ih=>
  intro D t v w hn ht hl R h;refine oK v w R ?_;dsimp only [go_sem];dsimp only [go_sem,Nat.reduceAdd];obtain⟨b,vs,l,rfl,h1,h2,h3,h4,h5,h6,h7,Z⟩:=ht.inv;obtain⟨a,cap,hv⟩:=h7.slice;have e:=sH t;refine⟨b,0,rfl,vs,h6,a,_,cap,hv,λm x w'=>w'=w/\∃i:Nat,x=i/\i<=l.length/\m=(1+((t.parts.take i).map T.size).sum:Nat),λ _ x _=>(l.length - x).toNat,⟨rfl,0,rfl,by omega,by simp⟩,λm x w1 hI=>?_⟩;obtain⟨rfl,i,rfl,hi,rfl⟩:=hI;refine⟨λH=>?_,λH=>?_⟩
  ·have H:=NB H;have G:i< l.length:=by omega
   have J:i< t.parts.length:=by rw [<-Z.1];exact G
   refine h7.get (i:=i) (x:=l[i]) (by omega) (by simp [G]) ?_;have hk:=Z.2 i _ _ (M6 G) (M6 J);obtain⟨hs,β⟩:=vP T.size t.parts J;have γ:=dB t;refine ih (by omega) hk (by omega) ⟨by omega,by omega,⟨rfl,i+1,by omega,by omega,?_⟩,by dsimp only;omega⟩;omega
  ·have H:=Ny H;have:i=t.parts.length:=by rw [<-Z.1];omega
   subst this;rw [NR,<-e];exact h
structure Rd (w:World)(r:Nat)(s:Tx)(i:Nat)(bad:Bool):Prop where
 lt:r< w.heap.size
 le:i<=s.length
 c0:w.cell? ⟨r,0,none⟩=some (.string (ay s))
 c1:w.cell? ⟨r,1,none⟩=some (.int .i64 i)
 c2:w.cell? ⟨r,2,none⟩=some (.bool bad)
 f1:w.frozen? ⟨r,1,none⟩=false
 f2:w.frozen? ⟨r,2,none⟩=false
def Rd.same {w w':World}{r:Nat}{s:Tx}{i:Nat}{bad:Bool}(h:Rd w r s i bad)(hs:w.heap.size<=w'.heap.size)(hb:w'.heap[r]?=w.heap[r]?):Rd w' r s i bad:=by
 obtain⟨h1,G,H,h4,h5,J,Z⟩:=h;refine⟨by omega,G,?_,?_,?_,?_,?_⟩
 ·rw [M5 (w:=w) hb];exact H
 ·rw [M5 (w:=w) hb];exact h4
 ·rw [M5 (w:=w) hb];exact h5
 ·rw [NH (w:=w) hb];exact J
 ·rw [NH (w:=w) hb];exact Z
def Rd.setAt {w:World}{r:Nat}{s:Tx}{i j:Nat}{bad:Bool}(h:Rd w r s i bad)(G:j<=s.length):Rd (w.setCell ⟨r,1,none⟩ (.int .i64 j)) r s j bad:=
 ⟨by rw [NV];exact h.lt,G,by rw [Na _ _ _ _ (by simp)];exact h.c0,Ns _ _ _ h.c1,by rw [Na _ _ _ _ (by simp)];exact h.c2,by rw [Nv];exact h.f1,by rw [Nv];exact h.f2⟩
def Rd.wB {w:World}{r:Nat}{s:Tx}{i:Nat}{bad:Bool}(h:Rd w r s i bad):Rd (w.setCell ⟨r,2,none⟩ (.bool true)) r s i true:=
 ⟨by rw [NV];exact h.lt,h.le,by rw [Na _ _ _ _ (by simp)];exact h.c0,by rw [Na _ _ _ _ (by simp)];exact h.c1,Ns _ _ _ h.c2,by rw [Nv];exact h.f1,by rw [Nv];exact h.f2⟩
abbrev Kr (r:Nat)(w w':World):Prop:=Kp w w' λg=>g=r
def Kr.refl (r:Nat)(w:World):Kr r w w:=Kp.ah (Ex.refl w) _
def Kr.trans {r:Nat}{a b c:World}(h:Kr r a b)(k:Kr r b c):Kr r a c:=Kp.trans h k λ _ _ h=>h
def Kr.ex {r:Nat}{w w':World}(h:Ex w w'):Kr r w w':=Kp.ah h _
def Kr.set {r:Nat}(w:World)(j:Nat)(v:Value):Kr r w (w.setCell ⟨r,j,none⟩ v):=Kp.set (S:=λg=>g=r) (Kr.refl r w) rfl v
def K0 {w:World}{r:Nat}{s:Tx}{i:Nat}{bad:Bool}(hs:s.length<=1099511627776)(h:Rd w r s i bad){R:UInt8->Qx}
  (hR:∀w',Kr r w w'->Rd w' r s (if i< s.length then i+1 else i) (bad||decide (s.length<=i))->R (if i< s.length then bt s i else 0) w'):Qy 184 #[ptr r] w (ax [.c] R):=by
 refine mh _ w R ?_;dsimp only [go_sem];dsimp only [go_sem,Nat.reduceAdd];have hle:=h.le;refine⟨λw'=>Ex w w',λw1 Z=>⟨Z▸Ex.drew w,r,0,rfl,i,λw' H=>(h.same H.size (H.block r h.lt)).c1,r,0,rfl,s,λw' H=>(h.same H.size (H.block r h.lt)).c0,λhc=>?_,λhc=>?_⟩⟩
 ·have G:Ex w w1:=Z▸Ex.drew w;have h1:=h.same G.size (G.block r h.lt);have hc:=NB hc;refine⟨r,0,rfl,⟨⟨_,h1.c2⟩,h1.f2⟩,λw2 J=>?_⟩;subst J;have :=hR _ (Kr.trans (Kr.ex G) (Kr.set w1 2 _)) (by
   rw [Nt (by omega),show decide (s.length<=i)=true from OS (by omega),Bool.or_true];exact h1.wB)
  rw [Nt (by omega)]at this;exact this
 ·have G:Ex w w1:=Z▸Ex.drew w;have h1:=h.same G.size (G.block r h.lt);have hc:=Ny hc;have γ:i< s.length:=by omega
  refine⟨r,0,rfl,i,h1.c1,by omega,r,0,rfl,⟨⟨_,h1.c1⟩,h1.f1⟩,λw2 J=>?_⟩;have e:((i:Int)+1)=((i+1:Nat):Int):=by omega
  rw [e]at J;have h2:Rd w2 r s (i+1) bad:=J▸h1.setAt (by omega);have k2:Kr r w w2:=J▸Kr.trans (Kr.ex G) (Kr.set w1 1 _);refine⟨λw'=>Ex w2 w',λw3 δ=>⟨δ▸Ex.drew w2,r,0,rfl,s,λw' H=>(h2.same H.size (H.block r h2.lt)).c0,r,0,rfl,(i+1:Nat),λw' H=>(h2.same H.size (H.block r h2.lt)).c1,by omega,⟨by omega,by omega⟩,?_⟩⟩;have β:Ex w2 w3:=δ▸Ex.drew w2;have e2:Int.toNat (((i+1:Nat):Int) - 1)=i:=by omega
  rw [e2];have :=hR w3 (Kr.trans k2 (Kr.ex β)) (by
   rw [NO γ,show decide (s.length<=i)=false from OD (by omega),Pr];exact h2.same β.size (β.block r h2.lt))
  rw [NO γ]at this;exact this
def mX {c:UInt8}{w:World}{R:Bool->Qx}(h:R (lt c) w):Qy 95 #[.int .u8 c.toNat] w (ax [.b] R):=by
 refine pF c w R ?_;dsimp only [go_sem];dsimp only [go_sem,UInt8.reduceOfNat];unfold lt at h;refine⟨λG=>?_,λG=>?_⟩
 ·rw [G]at h;simpa using h
 ·rw [G]at h;simpa using h
structure Nx (s:Tx)(i:Nat)(bad:Bool)(ok:UInt8->Prop)(c:UInt8)(j:Nat)(bad':Bool):Prop where
 le:i<=j
 fine:bad'=false->bad=false/\i< s.length/\j=i+1/\c=bt s i/\ok c
 good:bad=false->i< s.length->ok (bt s i)->bad'=false
def oX {w:World}{r:Nat}{s:Tx}{i:Nat}{bad:Bool}(G:s.length<=1099511627776)(h:Rd w r s i bad){R:UInt8->Qx}
  (hR:∀c j bad' w',Kr r w w'->Rd w' r s j bad'->Nx s i bad (λ _=>True) c j bad'->R c w'):Qy 184 #[ptr r] w (ax [.c] R):=by
 refine K0 G h λw' k H=>hR _ _ _ w' k H ⟨by split<;>omega,λhb=>?_,λhb hi _=>?_⟩
 ·simp only [Oz,No]at hb;rw [NO (by omega),NO (by omega)];exact⟨hb.1,by omega,rfl,rfl,trivial⟩
 ·rw [hb,PV];exact OD (by omega)
def wZ {w:World}{r:Nat}{s:Tx}{i:Nat}{bad:Bool}(hs:s.length<=1099511627776)(h:Rd w r s i bad){R:UInt8->Qx}
  (hR:∀c j bad' w',Kr r w w'->Rd w' r s j bad'->Nx s i bad (λc=>lt c=true) c j bad'->R c w'):Qy 185 #[ptr r] w (ax [.c] R):=by
 refine my _ w R ?_;dsimp only [go_sem];refine oX hs h λc j bad' w1 Z h1 G=>mX ⟨λH=>?_,λH=>?_⟩
 ·refine⟨r,0,rfl,⟨⟨_,h1.c2⟩,h1.f2⟩,λw2 J=>?_⟩;subst J;refine hR c j true _ (Kr.trans Z (Kr.set w1 2 _)) h1.wB ⟨G.le,λhb=>(by cases hb),λhb hi ho=>?_⟩;obtain⟨_,_,_,e,_⟩:=G.fine (G.good hb hi trivial);rw [e]at H;rw [ho]at H;cases H
 ·refine hR c j bad' w1 Z h1 ⟨G.le,λhb=>?_,λhb hi _=>G.good hb hi trivial⟩;obtain⟨a,b,c,d,_⟩:=G.fine hb;exact⟨a,b,c,d,by simpa using H⟩
def pP {w:World}{r:Nat}{s:Tx}{i:Nat}{bad:Bool}{c:UInt8}(hs:s.length<=1099511627776)(h:Rd w r s i bad){R:Qx}
  (hR:∀j bad' w',Kr r w w'->Rd w' r s j bad'->Nx s i bad (λd=>d=c) c j bad'->R w'):Qy 186 #[ptr r,.int .u8 c.toNat] w (ax [] R):=by
 refine mv _ c w R ?_;dsimp only [go_sem];refine oX hs h λd j bad' w1 Z h1 G=>⟨λH=>?_,λH=>?_⟩
 ·refine⟨r,0,rfl,⟨⟨_,h1.c2⟩,h1.f2⟩,λw2 J=>?_⟩;subst J;refine hR j true _ (Kr.trans Z (Kr.set w1 2 _)) h1.wB ⟨G.le,λhb=>(by cases hb),λhb hi ho=>?_⟩;obtain⟨_,_,_,e,_⟩:=G.fine (G.good hb hi trivial);rw [e,ho]at H;simp at H
 ·have H:d=c:=by simpa using H
  subst H;refine hR j bad' w1 Z h1 ⟨G.le,λhb=>?_,λhb hi _=>G.good hb hi trivial⟩;obtain⟨a,b,c,d,_⟩:=G.fine hb;exact⟨a,b,c,d,rfl⟩
structure Nd (w:World)(b:Nat)(k a c:UInt8)(vs:Value):Prop where
 lt:b< w.heap.size
 c0:w.cell? ⟨b,0,none⟩=some (.int .u8 k.toNat)
 c1:w.cell? ⟨b,1,none⟩=some (.int .u8 a.toNat)
 c2:w.cell? ⟨b,2,none⟩=some (.int .u8 c.toNat)
 c3:w.cell? ⟨b,3,none⟩=some vs
 f:∀j,w.frozen? ⟨b,j,none⟩=false
def Nd.same {w w':World}{b:Nat}{k a c:UInt8}{vs:Value}(h:Nd w b k a c vs)(Z:w.heap.size<=w'.heap.size)(hb:w'.heap[b]?=w.heap[b]?):Nd w' b k a c vs:=by
 obtain⟨h1,G,H,h4,h5,J⟩:=h;refine⟨by omega,?_,?_,?_,?_,λj=>?_⟩
 ·rw [M5 (w:=w) hb];exact G
 ·rw [M5 (w:=w) hb];exact H
 ·rw [M5 (w:=w) hb];exact h4
 ·rw [M5 (w:=w) hb];exact h5
 ·rw [NH (w:=w) hb];exact J j
structure TS (w0 w:World)(r b:Nat)(s:Tx)(i:Nat)(bad:Bool)(k a c:UInt8)(vs:Value):Prop where
 rd:Rd w r s i bad
 nd:Nd w b k a c vs
 kr:Kr r w0 w
 hr:r< w0.heap.size
 hb:w0.heap.size<=b
section
variable {w0 w w':World} {r b:Nat} {s:Tx} {i j:Nat} {bad bad':Bool} {k a c x:UInt8} {vs:Value}
def TS.go (h:TS w0 w r b s i bad k a c vs)(kr:Kr r w w')(hr:Rd w' r s j bad'):TS w0 w' r b s j bad' k a c vs:=by
 have :=h.hr;have :=h.hb;exact⟨hr,h.nd.same kr.size (kr.block b h.nd.lt (by omega)),Kr.trans h.kr kr,h.hr,h.hb⟩
def TS.ex (h:TS w0 w r b s i bad k a c vs)(G:Ex w w'):TS w0 w' r b s i bad k a c vs:=h.go (Kr.ex G) (h.rd.same G.size (G.block r h.rd.lt))
def TS.ri (h:TS w0 w r b s i bad k a c vs)(j:Nat)(v:Value):Rd (w.setCell ⟨b,j,none⟩ v) r s i bad/\Kr r w0 (w.setCell ⟨b,j,none⟩ v):=by
 have h1:=h.hr;have J:=h.hb;refine⟨h.rd.same (by rw [NV];exact Nc _) (Px _ _ _ _ (show r≠b by omega)),⟨h.kr.os,h.kr.tape,h.kr.output,by rw [NV];exact h.kr.size,λg G H=>?_⟩⟩;rw [Px _ _ _ _ (show g≠b by omega)];exact h.kr.block g G H
def TS.Ek (h:TS w0 w r b s i bad k a c vs)(hw:w'=w.setCell ⟨b,0,none⟩ (.int .u8 x.toNat)):TS w0 w' r b s i bad x a c vs:=by
 subst hw;obtain⟨h1,G⟩:=h.ri 0 (.int .u8 x.toNat);exact⟨h1,⟨by rw [NV];exact h.nd.lt,Ns _ _ _ h.nd.c0,by rw [Na _ _ _ _ (by simp)];exact h.nd.c1,by rw [Na _ _ _ _ (by simp)];exact h.nd.c2,by rw [Na _ _ _ _ (by simp)];exact h.nd.c3,λj=>by rw [Nv];exact h.nd.f j⟩,G,h.hr,h.hb⟩
def TS.zQ (h:TS w0 w r b s i bad k a c vs)(hw:w'=w.setCell ⟨b,1,none⟩ (.int .u8 x.toNat)):TS w0 w' r b s i bad k x c vs:=by
 subst hw;obtain⟨h1,G⟩:=h.ri 1 (.int .u8 x.toNat);exact⟨h1,⟨by rw [NV];exact h.nd.lt,by rw [Na _ _ _ _ (by simp)];exact h.nd.c0,Ns _ _ _ h.nd.c1,by rw [Na _ _ _ _ (by simp)];exact h.nd.c2,by rw [Na _ _ _ _ (by simp)];exact h.nd.c3,λj=>by rw [Nv];exact h.nd.f j⟩,G,h.hr,h.hb⟩
def TS.sa (h:TS w0 w r b s i bad k a c vs)(hw:w'=w.setCell ⟨b,2,none⟩ (.int .u8 x.toNat)):TS w0 w' r b s i bad k a x vs:=by
 subst hw;obtain⟨h1,G⟩:=h.ri 2 (.int .u8 x.toNat);exact⟨h1,⟨by rw [NV];exact h.nd.lt,by rw [Na _ _ _ _ (by simp)];exact h.nd.c0,by rw [Na _ _ _ _ (by simp)];exact h.nd.c1,Ns _ _ _ h.nd.c2,by rw [Na _ _ _ _ (by simp)];exact h.nd.c3,λj=>by rw [Nv];exact h.nd.f j⟩,G,h.hr,h.hb⟩
def TS.DP (h:TS w0 w r b s i bad k a c vs){v:Value}(hw:w'=w.setCell ⟨b,3,none⟩ v):TS w0 w' r b s i bad k a c v:=by
 subst hw;obtain⟨h1,G⟩:=h.ri 3 v;exact⟨h1,⟨by rw [NV];exact h.nd.lt,by rw [Na _ _ _ _ (by simp)];exact h.nd.c0,by rw [Na _ _ _ _ (by simp)];exact h.nd.c1,by rw [Na _ _ _ _ (by simp)];exact h.nd.c2,Ns _ _ _ h.nd.c3,λj=>by rw [Nv];exact h.nd.f j⟩,G,h.hr,h.hb⟩
def TS.As (h:TS w0 w r b s i bad k a c vs)(hw:w'=w.setCell ⟨r,2,none⟩ (.bool true)):TS w0 w' r b s i true k a c vs:=by
 subst hw;exact h.go (Kr.set w 2 _) h.rd.wB
def TS.cell (h:TS w0 w r b s i bad k a c vs):((∃u:Value,w.cell? ⟨b,0,none⟩=some u)/\w.frozen? ⟨b,0,none⟩=false)/\((∃u:Value,w.cell? ⟨b,1,none⟩=some u)/\w.frozen? ⟨b,1,none⟩=false)/\
  ((∃u:Value,w.cell? ⟨b,2,none⟩=some u)/\w.frozen? ⟨b,2,none⟩=false)/\((∃u:Value,w.cell? ⟨b,3,none⟩=some u)/\w.frozen? ⟨b,3,none⟩=false)/\((∃u:Value,w.cell? ⟨r,2,none⟩=some u)/\w.frozen? ⟨r,2,none⟩=false):=
 ⟨⟨⟨_,h.nd.c0⟩,h.nd.f 0⟩,⟨⟨_,h.nd.c1⟩,h.nd.f 1⟩,⟨⟨_,h.nd.c2⟩,h.nd.f 2⟩,⟨⟨_,h.nd.c3⟩,h.nd.f 3⟩,⟨⟨_,h.rd.c2⟩,h.rd.f2⟩⟩
end
structure Rs (D:Nat->Prop)(w:World)(s:Tx)(i j:Nat)(bad bad':Bool)(v:Value):Prop where
 le:i<=j
 ptr:∃b,v=ptr b
 fine:bad'=false->bad=false/\∃t:P,t.Al (λc=>lt c=true)/\s.drop i=t.text++s.drop j/\aI D w t v
 good:bad=false->(∃(t:P) (r':Tx),t.Al (λc=>lt c=true)/\s.drop i=t.text++r')->bad'=false
def vh (s:Tx)(n:Nat):Prop:=∀{r i:Nat} {bad:Bool} {w:World} {R:Value->Qx},Rd w r s i bad->(bad=false->s.length - i< n)->
 (∀v w' j bad',Kr r w w'->Rd w' r s j bad'->Rs (λg=>w.heap.size<=g) w' s i j bad bad' v->R v w')->Qy 116 #[Proofs.YthekamjhgabkjaaGreat.ptr r] w (ax [.v] R)
def Fp {s:Tx}{n:Nat}(θ:vh s n){w0 w:World}{r b i:Nat}{bad:Bool}{k a c:UInt8}{vs:Value}(h:TS w0 w r b s i bad k a c vs)(hm:bad=false->s.length - i< n){R:Value->Qx}
  (hR:∀w' j bad' x β,TS w0 w' r b s j bad' k a c β->dG (λg=>w0.heap.size<=g) w' β [x]->Rs (λg=>w0.heap.size<=g) w' s i j bad bad' x->R (ptr b) w'):
  Qy 116 #[ptr r] w (ax [.v] fun(v28:Value) (γ:World)=>oneV v28=true/\∀(b30:Nat) (G:World),b30=Array.size (World.heap γ)->G=World.alloc γ (Obj.cells #[v28] 64)->
   oneV (Value.slice (some ⟨b30,0,none⟩) 1 1)=true/\((∃u32:Value,World.cell? G ⟨b,3,none⟩=some u32)/\World.frozen? G ⟨b,3,none⟩=false)/\∀δ:World,δ=World.setCell G ⟨b,3,none⟩ (Value.slice (some ⟨b30,0,none⟩) 1 1)->R (Value.pointer (some ⟨b,0,none⟩)) δ):=by
 refine θ h.rd hm λv w1 j bad' k1 h1 hs=>?_
 obtain⟨bv,ι⟩:=hs.ptr;have t1:=h.go k1 h1;refine⟨by rw [ι],λb2 w2 ε J=>⟨rfl,?_⟩⟩;have ζ:Ex w1 w2:=J▸Ex.alloc w1 _;have t2:=t1.ex ζ;refine⟨t2.cell.2.2.2.1,λw3 H=>?_⟩;have t3:=t2.DP H;have hb:=h.hb;have ς:=t2.nd.lt;have ν:=k1.size;have ξ:=h.kr.size;have ο:=t1.nd.lt;have hK:Kp w2 w3 λg=>g=b:=H▸Kp.set (S:=λg=>g=b) (Kp.ah (Ex.refl w2) _) rfl _
 have υ:b< w.heap.size:=h.nd.lt;refine hR w3 j bad' v _ t3 (.inr ⟨b2,0,1,rfl,by omega,?_,λi x Z=>?_⟩) ⟨hs.le,hs.ptr,λκ=>?_,hs.good⟩
 ·rw [H,NV,J,size_alloc,<-ε];omega
 ·match i,Z with
  | 0,Z=>
   simp at Z;subst Z;rw [H,Na _ _ _ _ (by simp),J,ε];exact aa rfl
  | i+1,Z=>simp at Z
 ·obtain⟨e1,t,ht,e2,μ⟩:=hs.fine κ;refine⟨e1,t,ht,e2,?_⟩;have η:aI (λg=>w.heap.size<=g) w2 t v:=aI.kp (Kp.ah ζ λ _=>False) (λ _ _ h=>h) μ;exact aI.mono (λg hg=>by omega) (aI.kp hK (λg hg e=>by omega) η)
def aV {s:Tx}{i:Nat}(h:i< s.length):s.drop i=bt s i::s.drop (i+1):=bC h
def eN.of {D:Nat->Prop}{w0 w:World}{r b:Nat}{s:Tx}{i:Nat}{bad:Bool}{k a c:UInt8}{vs:Value}{l:List Value}{K:List Value->Prop}(h:TS w0 w r b s i bad k a c vs)(G:D b)(H:dG D w vs l)(J:K l):eN D w (ptr b) k a c K:=
 ⟨b,vs,l,rfl,G,h.nd.lt,h.nd.c0,h.nd.c1,h.nd.c2,h.nd.c3,H,J⟩
def cR {s:Tx}{i:Nat}{c:UInt8}{r:Tx}(h:s.drop i=c::r):i< s.length/\bt s i=c/\s.drop (i+1)=r:=drop_cons h
def K5 (s:Tx)(hs:s.length<=1099511627776):∀n,vh s n:=by
 intro n;have main:∀n,(∀m,m+1=n->vh s m)->vh s n:=by
  intro n ih r i bad w R hrd hm hR;refine mC _ w R ?_;dsimp only [go_sem];intro b w1 hb hw1;have ψ:Ex w w1:=hw1▸Ex.alloc w _;have hrl:=hrd.lt;have hsz1:w1.heap.size=w.heap.size+1:=by rw [hw1,size_alloc]
  have t1:TS w w1 r b s i bad 48 0 0 (.slice none 0 0):=by
   refine⟨hrd.same ψ.size (ψ.block r hrl),⟨by omega,?_,?_,?_,?_,λj=>?_⟩,Kr.ex ψ,hrl,by omega⟩
   ·rw [hw1,hb];exact aa rfl
   ·rw [hw1,hb];exact aa rfl
   ·rw [hw1,hb];exact aa rfl
   ·rw [hw1,hb];exact aa rfl
   ·rw [hw1,hb];unfold World.frozen? World.alloc;simp
  have hD:w.heap.size<=b:=by omega
  refine⟨r,0,rfl,bad,t1.rd.c2,λhq=>?_,λhq=>?_⟩
  ·exact hR _ _ _ _ t1.kr t1.rd ⟨Nc _,⟨b,rfl⟩,λH=>(by rw [hq]at H;cases H),λH=>(by rw [hq]at H;cases H)⟩
  obtain⟨n,rfl⟩:∃m,n=m+1:=⟨n - 1,by have :=hm hq;omega⟩
  have iht:vh s n:=ih n rfl;have hm:=hm hq;subst hq;refine oX hs t1.rd λc7 j7 bad7 w8 k8 h8 hn=>?_
  have t8:=t1.go k8 h8;have hj7:=h8.le;have first:bad7=false->i< s.length/\j7=i+1/\c7=bt s i:=λH=>by
   obtain⟨_,a,b,c,_⟩:=hn.fine H;exact⟨a,b,c⟩
  have G:∀{c:UInt8} {x:Tx},s.drop i=c::x->bad7=false/\c7=c/\s.drop j7=x:=λh=>by
   obtain⟨a,b,c⟩:=cR h;have H:=hn.good rfl a trivial;obtain⟨_,e1,e2⟩:=first H;exact⟨H,by rw [e2,b],by rw [e1];exact c⟩
  refine⟨λZ=>?_,λZ=>?_⟩
  ·have Z:=NB Z;refine hR _ _ j7 bad7 t8.kr t8.rd ⟨hn.le,⟨b,rfl⟩,λH=>?_,λ _ ⟨t,r',ht,e⟩=>?_⟩
   ·obtain⟨a1,a2,a3⟩:=first H;refine⟨rfl,.nil,trivial,?_,eN.of t8 hD (.inl ⟨rfl,rfl⟩) rfl⟩;rw [aV a1,<-a3,Z,a2];rfl
   ·cases ht':t.text with
    | nil=>have :=Gm t;rw [ht']at this;simp at this
    | cons d x=>rw [ht',N6]at e;exact(G e).1
  have hc0:c7≠48:=Ny Z;refine mX ⟨λhl=>?_,λhl=>?_⟩
  ·
   refine oX hs t8.rd λβ j11 γ w12 k12 h12 hn11=>?_
   have t12:=t8.go k12 h12;refine⟨t12.cell.2.1,λw14 hw14=>?_⟩;have t14:=t12.zQ hw14;refine⟨t14.cell.1,λw16 hw16=>?_⟩;have t16:=t14.Ek hw16;have rest:∀{wx:World} {J:Bool},TS w wx r b s j11 J β c7 0 (.slice none 0 0)->(J=false->γ=false/\(β=33\/β=63))->(γ=false->(β=33\/β=63)->J=false)->
     ∀{K:UInt8->Qx},(∀ο ω ε w24,TS w w24 r b s ω ε β c7 0 (.slice none 0 0)->Nx s j11 J (λc=>lt c=true) ο ω ε->K ο w24)->
     Qy 185 #[ptr r] wx (ax [.c] K):=by
    intro wx J tx _ _ K hK;exact wZ hs tx.rd λc j bad' w' k' h' hn'=>hK c j bad' w' (tx.go k' h') hn'
   have fin:∀{J:Bool} {ο:UInt8} {ω:Nat} {ε:Bool} {w24 w26:World},(J=false->γ=false/\(β=33\/β=63))->(γ=false->(β=33\/β=63)->J=false)->Nx s j11 J (λc=>lt c=true) ο ω ε->
     TS w w26 r b s ω ε β c7 ο (.slice none 0 0)->Qy 186 #[ptr r,.int .u8 46] w26 (ax [] λw27=>Qy 116 #[ptr r] w27 (ax [.v] fun(v28:Value) (w29:World)=>oneV v28=true/\∀(b30:Nat) (w31:World),b30=Array.size (World.heap w29)->w31=World.alloc w29 (Obj.cells #[v28] 64)->
      oneV (Value.slice (some ⟨b30,0,none⟩) 1 1)=true/\((∃u32:Value,World.cell? w31 ⟨b,3,none⟩=some u32)/\World.frozen? w31 ⟨b,3,none⟩=false)/\∀w33:World,w33=World.setCell w31 ⟨b,3,none⟩ (Value.slice (some ⟨b30,0,none⟩) 1 1)->R (Value.pointer (some ⟨b,0,none⟩)) w33)):=by
    intro J ο ω ε w24 w26 ψ hx2 θ t26;refine pP (c:=46) hs t26.rd λj27 bad27 w27 k27 h27 hn27=>?_
    have t27:=t26.go k27 h27;refine Fp iht t27 (λH=>?_) λw' j bad' x vs' t' hsl hrs=>?_
    ·obtain⟨a1,a2,a3,_⟩:=hn27.fine H;obtain⟨b1,b2,b3,_⟩:=θ.fine a1;obtain⟨c1,c2,c3,_⟩:=hn11.fine (ψ b1).1;obtain⟨_,d2,d3⟩:=first c1;omega
    ·refine hR _ _ j bad' t'.kr t'.rd ⟨?_,⟨b,rfl⟩,λH=>?_,λ _ ⟨t,r',ht,e⟩=>?_⟩
     ·have :=hn.le;have :=hn11.le;have :=θ.le;have :=hn27.le;have :=hrs.le;omega
     ·obtain⟨e1,t,ht,e2,hat⟩:=hrs.fine H;obtain⟨a1,a2,a3,a4,a5⟩:=hn27.fine e1;obtain⟨b1,b2,b3,b4,b5⟩:=θ.fine a1;obtain⟨b0,hk⟩:=ψ b1;obtain⟨c1,c2,c3,c4,_⟩:=hn11.fine b0;obtain⟨d1,d2,d3⟩:=first c1;have ι:s.drop i=c7::β::ο::46::(t.text++s.drop j):=by
       rw [aV d1,<-d3,<-d2,aV c2,<-c4,<-c3,aV b2,<-b4,<-b3,aV a2,<-a4,<-a3,e2]
      rcases hk with hk | hk
      ·subst hk;exact⟨rfl,.snd c7 ο t,⟨hl,b5,ht⟩,ι,eN.of t' hD hsl ⟨x,rfl,hat⟩⟩
      ·subst hk;exact⟨rfl,.rcv c7 ο t,⟨hl,b5,ht⟩,ι,eN.of t' hD hsl ⟨x,rfl,hat⟩⟩
     ·have key:∀{a d x:UInt8} {p:P},(d=33\/d=63)->lt x=true->p.Al (λc=>lt c=true)->s.drop i=a::d::x::46::(p.text++r')->bad'=false:=by
       intro a d x p hd hx hp he;obtain⟨f1,f2,f3⟩:=G he;obtain⟨g1,g2,g3⟩:=cR f3;have f4:=hn11.good f1 g1 trivial;obtain⟨_,_,h3,h4,_⟩:=hn11.fine f4;rw [<-h3]at g3;obtain⟨k1,k2,k3⟩:=cR g3;have hkd:β=33\/β=63:=by rw [h4,g2];exact hd
       have f5:=θ.good (hx2 f4 hkd) k1 (by rw [k2];exact hx);obtain⟨_,_,l3,l4,_⟩:=θ.fine f5;rw [<-l3]at k3;obtain⟨m1,m2,m3⟩:=cR k3;have f6:=hn27.good f5 m1 m2;obtain⟨_,_,o3,o4,_⟩:=hn27.fine f6;rw [<-o3]at m3;exact hrs.good f6 ⟨p,r',hp,m3⟩
      cases t with
      | snd a x p=>exact key (.inl rfl) ht.2.1 ht.2.2 e
      | rcv a x p=>exact key (.inr rfl) ht.2.1 ht.2.2 e
      | nil=>exact absurd (G (c:=48) e).2.1 hc0
      | tau p=>have :=(G (c:=126) e).2.1;rw [this]at hl;exact absurd hl (by decide)
      | res y p=>have :=(G (c:=35) e).2.1;rw [this]at hl;exact absurd hl (by decide)
      | mat y z p=>have :=(G (c:=91) e).2.1;rw [this]at hl;exact absurd hl (by decide)
      | rep p=>have :=(G (c:=42) e).2.1;rw [this]at hl;exact absurd hl (by decide)
      | sum p q=>have :=(G (c:=40) e).2.1;rw [this]at hl;exact absurd hl (by decide)
      | par p q=>have :=(G (c:=40) e).2.1;rw [this]at hl;exact absurd hl (by decide)
   refine⟨β,t16.nd.c0,λν=>⟨β,t16.nd.c0,λξ=>⟨r,0,rfl,t16.cell.2.2.2.2,λw22 hw22=>?_⟩,λξ=>?_⟩,λν=>?_⟩
   ·have t22:=t16.As hw22;have ν:¬β=33:=by simpa using ν
    have ξ:¬β=63:=by simpa using ξ
    have x1:true=false->γ=false/\(β=33\/β=63):=λh=>by cases h
    have x2:γ=false->(β=33\/β=63)->true=false:=λ _ h=>by rcases h with h | h<;>contradiction
    refine rest t22 x1 x2 λο ω ε w24 t24 θ=>⟨t24.cell.2.2.1,λw26 hw26=>fin (w24:=w24) x1 x2 θ (t24.sa hw26)⟩
   ·have ξ:β=63:=by simpa using ξ
    have x1:γ=false->γ=false/\(β=33\/β=63):=λh=>⟨h,.inr ξ⟩
    have x2:γ=false->(β=33\/β=63)->γ=false:=λh _=>h
    refine rest t16 x1 x2 λο ω ε w24 t24 θ=>⟨t24.cell.2.2.1,λw26 hw26=>fin (w24:=w24) x1 x2 θ (t24.sa hw26)⟩
   ·have ν:β=33:=by simpa using ν
    have x1:γ=false->γ=false/\(β=33\/β=63):=λh=>⟨h,.inl ν⟩
    have x2:γ=false->(β=33\/β=63)->γ=false:=λh _=>h
    refine rest t16 x1 x2 λο ω ε w24 t24 θ=>⟨t24.cell.2.2.1,λw26 hw26=>fin (w24:=w24) x1 x2 θ (t24.sa hw26)⟩
  have δ:∀{a:UInt8} {x:Tx},lt a=true->s.drop i=a::x->False:=λha he=>by
   rw [(G he).2.1]at hl;rw [hl]at ha;cases ha
  have one:∀{wx:World} {jx:Nat} {J:Bool} {k a c:UInt8} (hd:Tx) (mk:P->P),TS w wx r b s jx J k a c (.slice none 0 0)->i<=jx->
    (J=false->i< jx/\s.drop i=hd++s.drop jx)->(J=false->∀p,(mk p).text=hd++p.text)->(J=false->∀p:P,p.Al (λc=>lt c=true)->(mk p).Al (λc=>lt c=true))->
    (∀{D:Nat->Prop} {w':World} {v:Value} {p:P},(eN D w' v k a c λl=>∃x,l=[x]/\aI D w' p x)->J=false->aI D w' (mk p) v)->
    (∀(t:P) (r':Tx),t.Al (λc=>lt c=true)->s.drop i=t.text++r'->J=false/\∃p:P,p.Al (λc=>lt c=true)/\s.drop jx=p.text++r')->
    Qy 116 #[ptr r] wx (ax [.v] fun(v28:Value) (w29:World)=>oneV v28=true/\∀(b30:Nat) (w31:World),b30=Array.size (World.heap w29)->w31=World.alloc w29 (Obj.cells #[v28] 64)->
     oneV (Value.slice (some ⟨b30,0,none⟩) 1 1)=true/\((∃u32:Value,World.cell? w31 ⟨b,3,none⟩=some u32)/\World.frozen? w31 ⟨b,3,none⟩=false)/\∀w33:World,w33=World.setCell w31 ⟨b,3,none⟩ (Value.slice (some ⟨b30,0,none⟩) 1 1)->R (Value.pointer (some ⟨b,0,none⟩)) w33):=by
   intro wx jx J k a c hd mk tx hle hpos htx hal hat hgood;have hjx:=tx.rd.le;refine Fp iht tx (λH=>by have :=(hpos H).1;omega) λw' j bad' x vs' t' hsl hrs=>?_
   refine hR _ _ j bad' t'.kr t'.rd ⟨by have :=hrs.le;omega,⟨b,rfl⟩,λH=>?_,λ _ ⟨t,r',ht,e⟩=>?_⟩
   ·obtain⟨e1,p,hp,e2,hpa⟩:=hrs.fine H;refine⟨rfl,mk p,hal e1 p hp,?_,hat (eN.of t' hD hsl ⟨x,rfl,hpa⟩) e1⟩;rw [(hpos e1).2,htx e1,e2,NX]
   ·obtain⟨e1,p,hp,e2⟩:=hgood t r' ht e;exact hrs.good e1 ⟨p,r',hp,e2⟩
  refine⟨λZ=>?_,λZ=>?_⟩
  ·
   have Z:c7=126:=NB Z;refine⟨t8.cell.1,λw57 ς=>?_⟩;rw [Z]at ς;have t57:=t8.Ek ς;refine pP (c:=46) hs t57.rd λj58 bad58 w58 k58 h58 hn58=>?_
   have t58:=t57.go k58 h58;refine one [126,46] .tau t58 (by have :=hn.le;have :=hn58.le;omega) (λH=>?_) (λ _ p=>rfl) (λ _ p hp=>hp) (λh _=>h) λt r' ht e=>?_
   ·obtain⟨a1,a2,a3,a4,a5⟩:=hn58.fine H;obtain⟨d1,d2,d3⟩:=first a1;refine⟨by omega,?_⟩;rw [aV d1,<-d3,<-d2,aV a2,<-a4,<-a3,Z];rfl
   ·cases t with
    | tau p=>
     obtain⟨f1,f2,f3⟩:=G (c:=126) e;obtain⟨g1,g2,g3⟩:=cR (c:=46) f3;have f4:=hn58.good f1 g1 g2;obtain⟨_,_,h3,_⟩:=hn58.fine f4;exact⟨f4,p,ht,by rw [h3];exact g3⟩
    | nil=>exact absurd (G (c:=48) e).2.1 hc0
    | snd a x p=>exact(δ ht.1 e).elim
    | rcv a x p=>exact(δ ht.1 e).elim
    | res y p=>have :=(G (c:=35) e).2.1;rw [this]at Z;exact absurd Z (by decide)
    | mat y z p=>have :=(G (c:=91) e).2.1;rw [this]at Z;exact absurd Z (by decide)
    | rep p=>have :=(G (c:=42) e).2.1;rw [this]at Z;exact absurd Z (by decide)
    | sum p q=>have :=(G (c:=40) e).2.1;rw [this]at Z;exact absurd Z (by decide)
    | par p q=>have :=(G (c:=40) e).2.1;rw [this]at Z;exact absurd Z (by decide)
  have hc1:c7≠126:=Ny Z;refine⟨λZ=>?_,λZ=>?_⟩
  ·
   have Z:c7=35:=NB Z;refine wZ hs t8.rd λc65 j65 bad65 w66 k66 h66 hn66=>?_
   have t66:=t8.go k66 h66;refine⟨t66.cell.1,λw68 hw68=>?_⟩;rw [Z]at hw68;have t68:=t66.Ek hw68;refine⟨t68.cell.2.2.1,λw70 hw70=>?_⟩;have t70:=t68.sa hw70;refine pP (c:=46) hs t70.rd λj71 bad71 w71 k71 h71 hn71=>?_
   have t71:=t70.go k71 h71;have fx:bad71=false->lt c65=true:=λH=>(hn66.fine (hn71.fine H).1).2.2.2.2
   refine one [35,c65,46] (.res c65) t71 (by have :=hn.le;have :=hn66.le;have :=hn71.le;omega) (λH=>?_) (λ _ p=>rfl) (λH p hp=>⟨fx H,hp⟩) (λh _=>h) λt r' ht e=>?_
   ·obtain⟨a1,a2,a3,a4,a5⟩:=hn71.fine H;obtain⟨b1,b2,b3,b4,b5⟩:=hn66.fine a1;obtain⟨d1,d2,d3⟩:=first b1;refine⟨by omega,?_⟩;rw [aV d1,<-d3,<-d2,aV b2,<-b4,<-b3,aV a2,<-a4,<-a3,Z];rfl
   ·cases t with
    | res y p=>
     obtain⟨f1,f2,f3⟩:=G (c:=35) e;obtain⟨g1,g2,g3⟩:=cR (c:=y) f3;have f4:=hn66.good f1 g1 (by rw [g2];exact ht.1);obtain⟨_,_,h3,h4,_⟩:=hn66.fine f4;rw [<-h3]at g3;obtain⟨m1,m2,m3⟩:=cR (c:=46) g3;have f6:=hn71.good f4 m1 m2;obtain⟨_,_,o3,_⟩:=hn71.fine f6;exact⟨f6,p,ht.2,by rw [o3];exact m3⟩
    | nil=>exact absurd (G (c:=48) e).2.1 hc0
    | snd a x p=>exact(δ ht.1 e).elim
    | rcv a x p=>exact(δ ht.1 e).elim
    | tau p=>exact absurd (G (c:=126) e).2.1 hc1
    | mat y z p=>have :=(G (c:=91) e).2.1;rw [this]at Z;exact absurd Z (by decide)
    | rep p=>have :=(G (c:=42) e).2.1;rw [this]at Z;exact absurd Z (by decide)
    | sum p q=>have :=(G (c:=40) e).2.1;rw [this]at Z;exact absurd Z (by decide)
    | par p q=>have :=(G (c:=40) e).2.1;rw [this]at Z;exact absurd Z (by decide)
  have hc2:c7≠35:=Ny Z;refine⟨λZ=>?_,λZ=>?_⟩
  ·
   have Z:c7=91:=NB Z;refine wZ hs t8.rd λc78 j78 bad78 w79 k79 h79 hn79=>?_
   have t79:=t8.go k79 h79;refine⟨t79.cell.1,λw80 hw80=>?_⟩;have t80:=t79.Ek (x:=61) hw80;refine⟨t80.cell.2.1,λw81 hw81=>?_⟩;have t81:=t80.zQ hw81;refine pP (c:=61) hs t81.rd λj82 bad82 w82 k82 h82 hn82=>?_
   have t82:=t81.go k82 h82;refine wZ hs t82.rd λc83 j83 bad83 w83 k83 h83 hn83=>?_
   have t83:=t82.go k83 h83;refine⟨t83.cell.2.2.1,λw84 hw84=>?_⟩;have t84:=t83.sa hw84;refine pP (c:=93) hs t84.rd λj85 bad85 w85 k85 h85 hn85=>?_
   have t85:=t84.go k85 h85;have fx:bad85=false->lt c78=true/\lt c83=true:=λH=>by
    obtain⟨a1,_⟩:=hn85.fine H;obtain⟨b1,_,_,_,b5⟩:=hn83.fine a1;obtain⟨c1,_⟩:=hn82.fine b1;exact⟨(hn79.fine c1).2.2.2.2,b5⟩
   refine one [91,c78,61,c83,93] (.mat c78 c83) t85 (by have :=hn.le;have :=hn79.le;have :=hn82.le;have :=hn83.le;have :=hn85.le;omega) (λH=>?_) (λ _ p=>rfl) (λH p hp=>⟨(fx H).1,(fx H).2,hp⟩) (λh _=>h) λt r' ht e=>?_
   ·obtain⟨a1,a2,a3,a4,a5⟩:=hn85.fine H;obtain⟨b1,b2,b3,b4,b5⟩:=hn83.fine a1;obtain⟨c1,c2,c3,c4,c5⟩:=hn82.fine b1;obtain⟨e1,e2,e3,e4,e5⟩:=hn79.fine c1;obtain⟨d1,d2,d3⟩:=first e1;refine⟨by omega,?_⟩;rw [aV d1,<-d3,<-d2,aV e2,<-e4,<-e3,aV c2,<-c4,<-c3,aV b2,<-b4,<-b3,aV a2,<-a4,<-a3,Z];rfl
   ·cases t with
    | mat y z p=>
     obtain⟨f1,f2,f3⟩:=G (c:=91) e;obtain⟨g1,g2,g3⟩:=cR (c:=y) f3;have f4:=hn79.good f1 g1 (by rw [g2];exact ht.1);obtain⟨_,_,h3,h4,_⟩:=hn79.fine f4;rw [<-h3]at g3;obtain⟨m1,m2,m3⟩:=cR (c:=61) g3;have f6:=hn82.good f4 m1 m2;obtain⟨_,_,o3,_⟩:=hn82.fine f6;rw [<-o3]at m3;obtain⟨p1,p2,p3⟩:=cR (c:=z) m3;have f7:=hn83.good f6 p1 (by rw [p2];exact ht.2.1);obtain⟨_,_,q3,_⟩:=hn83.fine f7;rw [<-q3]at p3;obtain⟨s1,s2,s3⟩:=cR (c:=93) p3;have f8:=hn85.good f7 s1 s2;obtain⟨_,_,u3,_⟩:=hn85.fine f8;exact⟨f8,p,ht.2.2,by rw [u3];exact s3⟩
    | nil=>exact absurd (G (c:=48) e).2.1 hc0
    | snd a x p=>exact(δ ht.1 e).elim
    | rcv a x p=>exact(δ ht.1 e).elim
    | tau p=>exact absurd (G (c:=126) e).2.1 hc1
    | res y p=>exact absurd (G (c:=35) e).2.1 hc2
    | rep p=>have :=(G (c:=42) e).2.1;rw [this]at Z;exact absurd Z (by decide)
    | sum p q=>have :=(G (c:=40) e).2.1;rw [this]at Z;exact absurd Z (by decide)
    | par p q=>have :=(G (c:=40) e).2.1;rw [this]at Z;exact absurd Z (by decide)
  have hc3:c7≠91:=Ny Z;refine⟨λZ=>?_,λZ=>?_⟩
  ·
   have Z:c7=42:=NB Z;refine⟨t8.cell.1,λw57 ς=>?_⟩;rw [Z]at ς;have t57:=t8.Ek ς;refine one [42] .rep t57 hn.le (λH=>?_) (λ _ p=>rfl) (λ _ p hp=>hp) (λh _=>h) λt r' ht e=>?_
   ·obtain⟨d1,d2,d3⟩:=first H;refine⟨by omega,?_⟩;rw [aV d1,<-d3,<-d2,Z];rfl
   ·cases t with
    | rep p=>
     obtain⟨f1,f2,f3⟩:=G (c:=42) e;exact⟨f1,p,ht,f3⟩
    | nil=>exact absurd (G (c:=48) e).2.1 hc0
    | snd a x p=>exact(δ ht.1 e).elim
    | rcv a x p=>exact(δ ht.1 e).elim
    | tau p=>exact absurd (G (c:=126) e).2.1 hc1
    | res y p=>exact absurd (G (c:=35) e).2.1 hc2
    | mat y z p=>exact absurd (G (c:=91) e).2.1 hc3
    | sum p q=>have :=(G (c:=40) e).2.1;rw [this]at Z;exact absurd Z (by decide)
    | par p q=>have :=(G (c:=40) e).2.1;rw [this]at Z;exact absurd Z (by decide)
  have hc4:c7≠42:=Ny Z;refine⟨λZ=>?_,λZ=>?_⟩
  ·
   have Z:c7=40:=NB Z;refine iht t8.rd (λH=>by have :=(first H).2.1;have :=(first H).1;omega) λv1 w105 j105 bad105 k105 h105 hs1=>?_
   obtain⟨bv1,hbv1⟩:=hs1.ptr;have t105:=t8.go k105 h105;refine oX hs t105.rd λζ j106 bad106 w107 k107 h107 υ=>?_
   have t107:=t105.go k107 h107;refine⟨t107.cell.1,λw109 hw109=>?_⟩;have t109:=t107.Ek hw109;have sz8:=t8.nd.lt;have szk:=k105.size;have hrw8:r< w8.heap.size:=h8.lt;have kK:∀{wa wb:World},Kr r wa wb->Kp wa wb λg=>g=r\/g=b:=λh=>⟨h.os,h.tape,h.output,h.size,λg hg hn=>h.block g hg λe=>hn (.inl e)⟩
   have kS:∀{wa wb:World} {j:Nat} {v:Value},wb=wa.setCell ⟨b,j,none⟩ v->Kp wa wb λg=>g=r\/g=b:=λ{wa wb j v} h=>h▸Kp.set (S:=λg=>g=r\/g=b) (Kp.ah (Ex.refl wa) _) (.inr rfl) v
   have kT:∀{wa wb wc:World},(Kp wa wb λg=>g=r\/g=b)->(Kp wb wc λg=>g=r\/g=b)->Kp wa wc λg=>g=r\/g=b:=λh k=>Kp.trans h k λ _ _ h=>h
   have q109:Kp w105 w109 λg=>g=r\/g=b:=kT (kK k107) (kS hw109)
   have rest:∀{wx:World} {J:Bool},TS w wx r b s j106 J ζ 0 0 (.slice none 0 0)->(Kp w105 wx λg=>g=r\/g=b)->(J=false->bad106=false/\(ζ=43\/ζ=38))->(bad106=false->(ζ=43\/ζ=38)->J=false)->
     Qy 116 #[ptr r] wx (ax [.v] fun(v116:Value) (φ:World)=>oneV v1=true/\oneV v116=true/\∀(η:Nat) (κ:World),η=Array.size (World.heap φ)->κ=World.alloc φ (Obj.cells #[v1,v116] 64)->
      oneV (Value.slice (some ⟨η,0,none⟩) 2 2)=true/\((∃u120:Value,World.cell? κ ⟨b,3,none⟩=some u120)/\World.frozen? κ ⟨b,3,none⟩=false)/\∀w121:World,w121=World.setCell κ ⟨b,3,none⟩ (Value.slice (some ⟨η,0,none⟩) 2 2)->
      Qy 186 #[ptr r,.int .u8 41] w121 (ax [] λμ=>R (Value.pointer (some ⟨b,0,none⟩)) μ)):=by
    intro wx J tx qx ψ hx2;have szx:=qx.size;refine iht tx.rd (λH=>?_) λv2 φ j117 bad117 k117 h117 hs2=>?_
    ·obtain⟨a1,a2,a3,_⟩:=υ.fine (ψ H).1;have :=(hs1.fine a1).1;have :=(first this).2.1;have :=hs1.le;omega
    obtain⟨bv2,hbv2⟩:=hs2.ptr;have t117:=tx.go k117 h117;refine⟨by rw [hbv1],by rw [hbv2],λη κ hb118 hw119=>⟨rfl,?_⟩⟩;have hx119:Ex φ κ:=hw119▸Ex.alloc φ _;have t119:=t117.ex hx119;refine⟨t119.cell.2.2.2.1,λw121 χ=>?_⟩;have t121:=t119.DP χ;refine pP (c:=41) hs t121.rd λj122 bad122 μ k122 h122 hn122=>?_
    have t122:=t121.go k122 h122;have sz117:=k117.size;have q119:Kp φ κ λg=>g=r\/g=b:=Kp.ah hx119 _
    have q122:Kp φ μ λg=>g=r\/g=b:=kT (kT q119 (kS χ)) (kK k122)
    have qall:Kp w105 μ λg=>g=r\/g=b:=kT (kT qx (kK k117)) q122
    have hbl:η< μ.heap.size:=by
     have :=k122.size;rw [χ,NV,hw119,size_alloc,<-hb118]at this;omega
    have hkr:=t8.kr.size;have hsl:dG (λg=>w.heap.size<=g) μ (.slice (some ⟨η,0,none⟩) 2 2) [v1,v2]:=by
     refine .inr ⟨η,0,2,rfl,by omega,hbl,λi x hx=>?_⟩;have hne:η≠b:=by omega
     have hblk:μ.heap[η]?=κ.heap[η]?:=by
      rw [k122.block η (by rw [χ,NV,hw119,size_alloc];omega) (by omega),χ,Px _ _ _ _ (show η≠b from hne)]
     rw [M5 (w:=κ) hblk,hw119,hb118]
     match i,hx with
     | 0,hx=>simp at hx;subst hx;exact aa rfl
     | 1,hx=>simp at hx;subst hx;exact aa rfl
     | i+2,hx=>simp at hx
    refine hR _ _ j122 bad122 t122.kr t122.rd ⟨by have :=hn.le;have :=hs1.le;have :=υ.le;have :=hs2.le;have :=hn122.le;omega,⟨b,rfl⟩,λH=>?_,λ _ ⟨t,r',ht,e⟩=>?_⟩
    ·obtain⟨a1,a2,a3,a4,a5⟩:=hn122.fine H;obtain⟨b1,q,hq,b2,b3⟩:=hs2.fine a1;obtain⟨b0,hk⟩:=ψ b1;obtain⟨c1,c2,c3,c4,_⟩:=υ.fine b0;obtain⟨e1,p,hp,e2,e3⟩:=hs1.fine c1;obtain⟨d1,d2,d3⟩:=first e1;have ι:s.drop i=40::(p.text++(ζ::(q.text++(41::s.drop j122)))):=by
      rw [aV d1,<-d3,<-d2,e2,aV c2,<-c4,<-c3,b2,aV a2,<-a4,<-a3,Z]
     have k1:aI (λg=>w.heap.size<=g) μ p v1:=aI.mono (λg hg=>by omega) (aI.kp qall (λg hg hS=>by rcases hS with h | h<;>omega) e3);have k2:aI (λg=>w.heap.size<=g) μ q v2:=aI.mono (λg hg=>by omega) (aI.kp q122 (λg hg hS=>by rcases hS with h | h<;>omega) b3);rcases hk with hk | hk
     ·subst hk;exact⟨rfl,.sum p q,⟨hp,hq⟩,by rw [ι];simp [T.text],eN.of t122 hD hsl ⟨v1,v2,rfl,k1,k2⟩⟩
     ·subst hk;exact⟨rfl,.par p q,⟨hp,hq⟩,by rw [ι];simp [T.text],eN.of t122 hD hsl ⟨v1,v2,rfl,k1,k2⟩⟩
    ·have key:∀{d:UInt8} {p q:P},(d=43\/d=38)->p.Al (λc=>lt c=true)->q.Al (λc=>lt c=true)->s.drop i=40::(p.text++(d::(q.text++(41::r'))))->bad122=false:=by
      intro d p q hd hp hq he;obtain⟨f1,f2,f3⟩:=G he;have g1:=hs1.good f1 ⟨p,_,hp,f3⟩;obtain⟨_,p',hp',g2,_⟩:=hs1.fine g1;rw [g2]at f3;obtain⟨rfl,g3⟩:=kj hp'.wf hp.wf f3;obtain⟨k1,k2,k3⟩:=cR g3;have f4:=υ.good g1 k1 trivial;obtain⟨_,_,h3,h4,_⟩:=υ.fine f4;have f5:=hx2 f4 (by rw [h4,k2];exact hd);rw [<-h3]at k3;have f6:=hs2.good f5 ⟨q,_,hq,k3⟩;obtain⟨_,q',hq',g4,_⟩:=hs2.fine f6;rw [g4]at k3;obtain⟨rfl,g5⟩:=kj hq'.wf hq.wf k3;obtain⟨l1,l2,l3⟩:=cR g5;exact hn122.good f6 l1 l2
     cases t with
     | sum p q=>exact key (.inl rfl) ht.1 ht.2 (by rw [e];simp [T.text])
     | par p q=>exact key (.inr rfl) ht.1 ht.2 (by rw [e];simp [T.text])
     | nil=>exact absurd (G (c:=48) e).2.1 hc0
     | snd a x p=>exact(δ ht.1 e).elim
     | rcv a x p=>exact(δ ht.1 e).elim
     | tau p=>exact absurd (G (c:=126) e).2.1 hc1
     | res y p=>exact absurd (G (c:=35) e).2.1 hc2
     | mat y z p=>exact absurd (G (c:=91) e).2.1 hc3
     | rep p=>exact absurd (G (c:=42) e).2.1 hc4
   refine⟨ζ,t109.nd.c0,λν=>⟨ζ,t109.nd.c0,λξ=>⟨r,0,rfl,t109.cell.2.2.2.2,λw22 hw22=>?_⟩,λξ=>?_⟩,λν=>?_⟩
   ·have ν:¬ζ=43:=by simpa using ν
    have ξ:¬ζ=38:=by simpa using ξ
    exact rest (t109.As hw22) (kT q109 (kK (hw22▸Kr.set w109 2 _))) (λh=>by cases h) (λ _ h=>by rcases h with h | h<;>contradiction)
   ·have ξ:ζ=38:=by simpa using ξ
    exact rest t109 q109 (λh=>⟨h,.inr ξ⟩) (λh _=>h)
   ·have ν:ζ=43:=by simpa using ν
    exact rest t109 q109 (λh=>⟨h,.inl ν⟩) (λh _=>h)
  ·
   have hc5:c7≠40:=Ny Z;refine⟨r,0,rfl,t8.cell.2.2.2.2,λw57 ς=>?_⟩;have t57:=t8.As ς;refine one [] .tau t57 hn.le (λH=>by cases H) (λH=>by cases H) (λ _ p hp=>hp) (λh H=>by cases H) λt r' ht e=>?_
   exfalso;cases t with
   | nil=>exact absurd (G (c:=48) e).2.1 hc0
   | snd a x p=>exact(δ ht.1 e).elim
   | rcv a x p=>exact(δ ht.1 e).elim
   | tau p=>exact absurd (G (c:=126) e).2.1 hc1
   | res y p=>exact absurd (G (c:=35) e).2.1 hc2
   | mat y z p=>exact absurd (G (c:=91) e).2.1 hc3
   | rep p=>exact absurd (G (c:=42) e).2.1 hc4
   | sum p q=>exact absurd (G (c:=40) e).2.1 hc5
   | par p q=>exact absurd (G (c:=40) e).2.1 hc5
 induction n with
 | zero=>exact main 0 λm hm=>by omega
 | succ n ih=>exact main (n+1) λm hm=>(show n=m by omega)▸ih
def MS:Shelf.Ren where
 f:=λx=>if x=137 then 195 else if x=217 then 240 else if x=266 then 256 else x
 t:=λx=>if x=3 then 3 else if x=5 then 5 else if x=9 then 9 else x
 g:=λx=>x
def KV:Lays.n137 Tryz.prog MS where
 mixed:=Eq.refl true
 f137:=Oh Tryz.func195 (by kernel_rfl)
 f217:=Oh Tryz.func240 (by kernel_rfl)
 f266:=Oh Tryz.func256 (by kernel_rfl)
 t3:=Tryz.underlying3
 a3:=Tryz.isAgg3
 z3:=Tryz.sizeOf3
 v3:=Tryz.zeroValue3
 t5:=Tryz.underlying5
 a5:=Tryz.isAgg5
 z5:=Tryz.sizeOf5
 v5:=Tryz.zeroValue5
 t9:=Tryz.underlying9
 a9:=Tryz.isAgg9
 z9:=Tryz.sizeOf9
 v9:=Tryz.zeroValue9
def qk {s:Tx}{c:UInt8}{w:World}{R:Int->Qx}(h:R (Lib.indexByte s c) w):
  Qy 195 #[.string (ay s),.int .u8 c.toNat] w (ax [.i] R):=by
 refine(Any.strings_IndexByte KV (ay s) c.toNat w).mono ?_
 rintro e w' ⟨rfl,rfl⟩
 have H:UInt8.ofNat c.toNat=c:=by simp
 have G:(Int.toNat (c.toNat:Int)).toUInt8=c:=by simp
 rw [G];exact⟨_,rfl,h⟩
abbrev Lt (t:P):Prop:=t.Al λc=>lt c=true
abbrev Cv (w:World):Nat->Prop:=λg=>w.heap.size<=g
def Cw {s:Tx}(hs:s.length<=1099511627776){w:World}{R:Value->Bool->Qx}
  (hR:∀v q w',Ex w w'->(q=true->∃t:P,Lt t/\s=t.text/\aI (Cv w) w' t v)->(q=false->∀t:P,Lt t->s≠t.text)->R v q w'):
  Qy 60 #[.string (ay s)] w (ax [.v,.b] R):=by
 refine uB s w R ?_;dsimp only [go_sem];intro b w1 hb G;have δ:Ex w w1:=G▸Ex.alloc w _;have ζ:w1.heap.size=w.heap.size+1:=by rw [G,size_alloc]
 have h1:Rd w1 b s 0 false:=by
  refine⟨by omega,N5 _,?_,?_,?_,?_,?_⟩
  ·rw [G,hb];exact aa rfl
  ·rw [G,hb];exact aa rfl
  ·rw [G,hb];exact aa rfl
  ·rw [G,hb];unfold World.frozen? World.alloc;simp
  ·rw [G,hb];unfold World.frozen? World.alloc;simp
 have hT:vh s (s.length+1):=K5 s hs (s.length+1);refine hT h1 (λ _=>by omega) λv w2 j bad k2 Z hr=>?_
 refine⟨λw'=>Ex w2 w',λw3 β=>⟨β▸Ex.drew w2,bad,λw' hx=>(Z.same hx.size (hx.block b Z.lt)).c2,?_⟩⟩;have γ:Ex w2 w3:=β▸Ex.drew w2;have hex:Ex w w3:=by
  exact Ex.trans (Ex.below δ (Kp.below (B:=w.heap.size) k2 (by omega) (λg hg e=>by omega))) γ
 refine⟨λH=>?_,λH=>?_⟩
 ·have H:bad=false:=by simpa using H
  obtain⟨_,t,ht,e,ε⟩:=hr.fine H;refine⟨j,λw' hx=>(Z.same hx.size (hx.block b Z.lt)).c1,hR _ _ _ hex (λhd=>?_) λhd t' J e'=>?_⟩
  ·have hd:=NB hd;have:s.drop j=[]:=OT (by omega);rw [this,O4,NM]at e;exact⟨t,ht,e,aI.mono (λg hg=>by omega) (aI.kp (Kp.ah γ λ _=>False) (λ _ _ h=>h) ε)⟩
  ·have hd:=Ny hd;rw [O4]at e;have e2:t'.text++[]=t.text++s.drop j:=by rw [NM,<-e'];exact e
   obtain⟨_,e3⟩:=kj J.wf ht.wf e2;have :=List.drop_eq_nil_iff.1 e3.symm;have :=Z.le;omega
 ·have H:bad=true:=by simpa using H
  refine hR _ _ _ hex (λh=>by cases h) λ _ t' J e'=>?_
  have :=hr.good rfl ⟨t',[],J,by rw [O4,NM,e']⟩;rw [H]at this;cases this
def mN {t:P}(H:Lt t):cV t.text↔t.text.length<=300/\t.size<=60:=by
 constructor
 ·rintro⟨h1,u,G,J,h4⟩
  have :=fp G.wf H.wf J;subst this;exact⟨h1,h4⟩
 ·rintro⟨h1,G⟩
  exact⟨h1,t,H,rfl,G⟩
def GC {s:Tx}{w:World}{R:Value->Bool->Qx}
  (hR:∀v q w',Ex w w'->(q=true->cV s/\∃t:P,Lt t/\s=t.text/\aI (Cv w) w' t v)->(q=false->¬cV s)->R v q w'):
  Qy 93 #[.string (ay s)] w (ax [.v,.b] R):=by
 refine wv s w R ?_;dsimp only [go_sem];refine⟨λG=>?_,λG=>?_⟩
 ·have G:=NB G;refine hR _ _ _ (Ex.refl w) (λh=>by cases h) λ _ hg=>?_
  have :=hg.1;omega
 ·have G:=Ny G;refine Cw (by omega) λv q w' hx h1 h2=>⟨λZ=>?_,λZ=>?_⟩
  ·obtain⟨t,H,e,J⟩:=h1 Z;have hs:=bc t;refine I0 t.size (Nc _) J (by rw [<-e]at hs;omega) (hR _ _ _ hx (λhd=>?_) λhd=>?_)
   ·have hd:=NB hd;exact⟨by rw [e];exact(mN H).2 ⟨by rw [<-e];omega,by omega⟩,t,H,e,J⟩
   ·have hd:=Ny hd;rw [e,mN H];omega
  ·exact hR _ _ _ hx (λh=>by cases h) λ _ ⟨_,t,H,e,_⟩=>h2 Z t H e.symm
def Ay {s:Tx}{w:World}{R:Bool->Qx}(hR:∀q w',Ex w w'->(q=true↔cV s)->R q w'):
  Qy 190 #[.string (ay s)] w (ax [.b] R):=by
 refine oy s w R ?_;dsimp only [go_sem];refine GC λv q w' G h1 H=>hR q w' G ⟨λh=>(h1 h).1,λh=>?_⟩
 cases q
 ·exact absurd h (H rfl)
 ·rfl
def HG {D:Nat->Prop}{t:P}{v:Value}{w:World}(h:aI D w t v){R:Bool->Qx}(hR:R (decide (t.kind=63)||decide (t.kind=35)) w):
  Qy 171 #[v] w (ax [.b] R):=by
 refine mP v w R ?_;dsimp only [go_sem];dsimp only [go_sem,UInt8.reduceOfNat];obtain⟨b,vs,l,rfl,h1,J,H,h4,h5,Z,h7,h8⟩:=h.inv;refine⟨b,0,rfl,t.kind,H,λG=>⟨b,0,rfl,t.kind,H,?_⟩,λG=>?_⟩
 ·rw [G,PV]at hR;exact hR
 ·rw [G,Bool.true_or]at hR;exact hR
def T.ev (p:P->Bool):P->Bool
 | .nil=>p .nil
 | .snd a b q=>p (.snd a b q)&&q.ev p
 | .rcv a b q=>p (.rcv a b q)&&q.ev p
 | .tau q=>p (.tau q)&&q.ev p
 | .sum q r=>p (.sum q r)&&(q.ev p&&r.ev p)
 | .par q r=>p (.par q r)&&(q.ev p&&r.ev p)
 | .res a q=>p (.res a q)&&q.ev p
 | .mat a b q=>p (.mat a b q)&&q.ev p
 | .rep q=>p (.rep q)&&q.ev p
def tB (p:P->Bool)(t:P):t.ev p=(p t&&t.parts.all (·.ev p)):=by cases t<;>simp [T.ev,T.parts]
def Ad (f:Nat)(p:P->Bool):Prop:=hasR gD f=true/\∀{D:Nat->Prop} {t:P} {v:Value} {w:World} {R:Bool->Qx},aI D w t v->R (p t) w->Qy f #[v] w (ax [.b] R)
structure wG (w:World)(bo bh f:Nat)(q:Bool):Prop where
 lt:bo< w.heap.size
 lh:bh< w.heap.size
 ne:bh≠bo
 c:w.cell? ⟨bo,0,none⟩=some (.bool q)
 fr:w.frozen? ⟨bo,0,none⟩=false
 h:w.cell? ⟨bh,0,none⟩=some (.func (.func f) #[] #[])
def wG.set {w:World}{bo bh f:Nat}{q:Bool}(h:wG w bo bh f q)(x:Bool):wG (w.setCell ⟨bo,0,none⟩ (.bool x)) bo bh f x:=
 ⟨by rw [NV];exact h.lt,by rw [NV];exact h.lh,h.ne,Ns _ _ _ h.c,by rw [Nv];exact h.fr,by
  rw [Na _ _ _ _ (by have :=h.ne;simp [this])];exact h.h⟩
def Kz {f:Nat}{p:P->Bool}(Z:Ad f p){D:Nat->Prop}{t:P}{v:Value}{w:World}{bo bh:Nat}{q:Bool}(ht:aI D w t v)(G:wG w bo bh f q){R:Qx}
  (hR:∀w',Kr bo w w'->wG w' bo bh f (q&&p t)->R w'):Qy 207 #[v,ptr bo,ptr bh] w (ax [] R):=by
 refine mM v _ _ w R ?_;dsimp only [go_sem];refine⟨bo,0,rfl,q,G.c,λJ=>⟨bh,0,rfl,_,G.h,f,[],rfl,Z.1,Z.2 ht ⟨bo,0,rfl,⟨⟨_,G.c⟩,G.fr⟩,λw' H=>?_⟩⟩,λJ=>⟨bo,0,rfl,⟨⟨_,G.c⟩,G.fr⟩,λw' H=>?_⟩⟩
 ·subst H;refine hR _ (Kr.set w 0 _) ?_;rw [J,OZ];exact G.set _
 ·subst H;refine hR _ (Kr.set w 0 _) ?_;rw [J,Qo];exact G.set _
def KG {f:Nat}{p:P->Bool}(hp:Ad f p):∀(n:Nat) {D:Nat->Prop} {t:P} {v:Value} {w:World} {bo bh:Nat} {q:Bool},t.size<=n->aI D w t v->(∀g,D g->¬g=bo)->wG w bo bh f q->∀{R:Qx},
  (∀w',Kr bo w w'->wG w' bo bh f (q&&t.ev p)->R w')->Qy 206 #[v,.func (.func 207) #[] #[ptr bo,ptr bh]] w (ax [] R):=by
 intro n
 induction n with
 | zero=>intro D t v w _ _ _ h;have :=aU t;omega
 | succ n ih=>
  intro D t v w bo bh q hn ht Z hs R hR;refine nT v _ w R ?_;dsimp only [go_sem];dsimp only [go_sem,Nat.reduceAdd];refine⟨207,[ptr bo,ptr bh],rfl,by kernel_rfl,?_⟩;refine Kz hp ht hs λw1 k1 h1=>?_
  have β:=aI.kp k1 Z ht;obtain⟨b,vs,l,rfl,g1,g2,g3,g4,g5,g6,g7,g8⟩:=β.inv;obtain⟨a,cap,hv⟩:=g7.slice;have e:=sH t;refine⟨b,0,rfl,vs,g6,a,_,cap,hv,λx w'=>∃i:Nat,x=i/\i<=l.length/\Kr bo w w'/\Kr bo w1 w'/\wG w' bo bh f ((q&&p t)&&(t.parts.take i).all (·.ev p)),λx _=>(l.length - x).toNat,⟨0,rfl,by omega,k1,Kr.refl _ _,by simpa using h1⟩,λx w2 hI=>?_⟩;obtain⟨i,rfl,hi,k2,k3,h2⟩:=hI;refine⟨λJ=>?_,λJ=>?_⟩
  ·have J:=NB J;have G:i< l.length:=by omega
   have H:i< t.parts.length:=by rw [<-g8.1];exact G
   refine(g7.kp k3 Z).get (i:=i) (x:=l[i]) (by omega) (by simp [G]) ?_;have hk:=g8.2 i _ _ (M6 G) (M6 H);have hk:=aI.kp k3 Z hk;obtain⟨γ,δ⟩:=vP T.size t.parts H;have ε:=dB t;refine ih (by omega) hk Z h2 λw4 k4 h4=>⟨by omega,⟨i+1,by omega,by omega,Kr.trans k2 k4,Kr.trans k3 k4,?_⟩,by dsimp only;omega⟩
   rw [Ng H,PB,<-Qp];simpa using h4
  ·have J:=Ny J;have:i=t.parts.length:=by rw [<-g8.1];omega
   subst this;rw [NR,Qp,<-tB]at h2;exact hR _ k2 h2
def Jv {f:Nat}{p:P->Bool}(hp:Ad f p){D:Nat->Prop}{t:P}{v:Value}{w:World}(ht:aI D w t v)(hD:∀g,D g->g< w.heap.size){R:Bool->Qx}(hR:∀w',Ex w w'->R (t.ev p) w'):
  Qy 165 #[v,.func (.func f) #[] #[]] w (ax [.b] R):=by
 refine pH v _ w R ?_;dsimp only [go_sem];dsimp only [go_sem,Nat.reduceAdd];refine⟨rfl,λb1 w1 γ J b2 G Z H=>?_⟩;have x1:Ex w w1:=J▸Ex.alloc w _;have x2:Ex w1 G:=H▸Ex.alloc w1 _;have s1:w1.heap.size=w.heap.size+1:=by rw [J,size_alloc]
 have s2:G.heap.size=w1.heap.size+1:=by rw [H,size_alloc]
 have c2:G.cell? ⟨b2,0,none⟩=some (.bool false):=by rw [H,Z];exact aa rfl
 have f2:G.frozen? ⟨b2,0,none⟩=false:=by rw [H,Z];unfold World.frozen? World.alloc;simp
 have c1:G.cell? ⟨b1,0,none⟩=some (.func (.func f) #[] #[]):=by
  rw [x2.cell (show b1< _ by omega),J,γ];exact aa rfl
 have hA:wG G b2 b1 f false:=⟨by omega,by omega,by omega,c2,f2,c1⟩
 refine⟨⟨⟨_,c2⟩,f2⟩,λw3 δ=>?_⟩;subst δ;have ε:aI D G t v:=aI.kp (Kp.ah (Ex.trans x1 x2) λ _=>False) (λ _ _ h=>h) ht;have β:∀g,D g->¬g=b2:=λg hg e=>by have :=hD g hg;omega
 have ζ:aI D (G.setCell ⟨b2,0,none⟩ (.bool true)) t v:=aI.kp (Kr.set G 0 _) β ε;refine KG hp t.size (Nc _) ζ β (hA.set true) λw4 k4 h4=>⟨_,h4.c,?_⟩
 rw [OZ];exact hR w4 (Ex.below (Ex.trans x1 x2) (Kp.below (B:=w.heap.size) (Kr.trans (Kr.set G 0 _) k4) (by omega) λg hg e=>by omega))
def T.gd1:P->Bool
 | .sum p q=>p.gp&&q.gp
 | _=>true
def T.rp1:P->Bool
 | .rep p=>p.isR
 | _=>true
def dO:∀t:P,t.smp=(t.ev T.gd1&&t.ev T.rp1)
 | .nil=>rfl
 | .snd _ _ p=>by have :=dO p;simp [T.smp,T.ev,T.gd1,T.rp1,this]
 | .rcv _ _ p=>by have :=dO p;simp [T.smp,T.ev,T.gd1,T.rp1,this]
 | .tau p=>by have :=dO p;simp [T.smp,T.ev,T.gd1,T.rp1,this]
 | .res _ p=>by have :=dO p;simp [T.smp,T.ev,T.gd1,T.rp1,this]
 | .mat _ _ p=>by have :=dO p;simp [T.smp,T.ev,T.gd1,T.rp1,this]
 | .rep p=>by have :=dO p;simp only [T.smp,T.ev,T.gd1,T.rp1,this,OZ];cases p.isR<;>simp
 | .par p q=>by have :=dO p;have h:=dO q;simp only [T.smp,T.ev,T.gd1,T.rp1,this,h,OZ];ac_rfl
 | .sum p q=>by have :=dO p;have h:=dO q;simp only [T.smp,T.ev,T.gd1,T.rp1,this,h,OZ];ac_rfl
def GQ (t:P):decide (0<=Lib.indexByte [33,63,126,43,48] t.kind)=t.gp:=by cases t<;>rfl
def BX:Ad 205 T.gd1:=by
 refine⟨by kernel_rfl,λ{D t v w R} J hR=>?_⟩;refine iX v w R ?_;dsimp only [go_sem];dsimp only [go_sem,Nat.reduceAdd];obtain⟨b,vs,l,rfl,g1,g2,g3,g4,g5,g6,g7,g8⟩:=J.inv;refine⟨b,0,rfl,_,g3,λH=>?_,λH=>?_⟩
 ·obtain⟨p,q,rfl⟩:∃p q,t= .sum p q:=by cases t<;>simp [T.kind]at H|-
  have Z:l.length=2:=g8.1;obtain⟨x,y,rfl⟩:∃x y,l=[x,y]:=by
   match l,Z with
   | [x,y],_=>exact⟨x,y,rfl⟩
  have hx:=g8.2 0 x p rfl rfl;have hy:=g8.2 1 y q rfl rfl;obtain⟨b1,_,_,e1,_,_,i1,_⟩:=hx.inv;obtain⟨b2,_,_,e2,_,_,i2,_⟩:=hy.inv;refine⟨b,0,rfl,vs,g6,g7.get (i:=0) (x:=x) (by omega) rfl ⟨b1,0,e1,_,i1,qk ⟨λG=>⟨b,0,rfl,vs,g6,g7.get (i:=1) (x:=y) (by omega) rfl ⟨b2,0,e2,_,i2,qk ?_⟩⟩,λG=>?_⟩⟩⟩
  ·rw [GQ]at G|-;rw [T.gd1,G]at hR;exact hR
  ·rw [GQ]at G;rw [T.gd1,G]at hR;exact hR
 ·have:T.gd1 t=true:=by cases t<;>first | rfl | simp [T.kind]at H
  rw [this]at hR;exact hR
def Es:Ad 166 T.rp1:=by
 refine⟨by kernel_rfl,λ{D t v w R} H hR=>?_⟩;refine jS v w R ?_;dsimp only [go_sem];dsimp only [go_sem,Nat.reduceAdd];obtain⟨b,vs,l,rfl,g1,g2,g3,g4,g5,g6,g7,g8⟩:=H.inv;refine⟨b,0,rfl,_,g3,λG=>?_,λG=>?_⟩
 ·obtain⟨p,rfl⟩:∃p,t= .rep p:=by cases t<;>simp [T.kind]at G|-
  have J:l.length=1:=g8.1;obtain⟨x,rfl⟩:∃x,l=[x]:=by
   match l,J with
   | [x],_=>exact⟨x,rfl⟩
  have Z:=g8.2 0 x p rfl rfl;obtain⟨b1,_,_,e1,_,_,i1,_⟩:=Z.inv;refine⟨b,0,rfl,vs,g6,g7.get (i:=0) (x:=x) (by omega) rfl ⟨b1,0,e1,_,i1,?_⟩⟩;have:decide (p.kind=63)=p.isR:=by cases p<;>rfl
  show R (decide (p.kind=63)) _;rw [this];exact hR
 ·have:T.rp1 t=true:=by cases t<;>first | rfl | simp [T.kind]at G
  rw [this]at hR;exact hR
def FD {D:Nat->Prop}{t:P}{v:Value}{w:World}(J:aI D w t v)(Z:∀g,D g->g< w.heap.size){R:Bool->Qx}(hR:∀w',Ex w w'->R t.smp w'):
  Qy 94 #[v] w (ax [.b] R):=by
 refine mB v w R ?_;dsimp only [go_sem];refine ke v w _ ?_;dsimp only [go_sem];refine Jv BX J Z λw1 G=>⟨λH=>?_,λH=>?_⟩
 ·refine Jv Es (aI.kp (Kp.ah G λ _=>False) (λ _ _ h=>h) J) (λg hg=>by have :=Z g hg;have :=G.size;omega) λw2 x2=>?_
  have :=hR w2 (Ex.trans G x2);rw [dO,H,OZ]at this;exact this
 ·have :=hR w1 G;rw [dO,H,Qo]at this;exact this
def aI.bound {D:Nat->Prop}{w:World}:∀{t:P} {v:Value},aI D w t v->aI (λg=>D g/\g< w.heap.size) w t v:=by
 have key:∀{v:Value} {k a c:UInt8} {K K':List Value->Prop},eN D w v k a c K->(∀l,K l->K' l)->eN (λg=>D g/\g< w.heap.size) w v k a c K':=by
  rintro v k a c K K' ⟨b,vs,l,h1,G,Z,h4,h5,h6,h7,h8,h9⟩ hK
  refine⟨b,vs,l,h1,⟨G,Z⟩,Z,h4,h5,h6,h7,?_,hK l h9⟩;rcases h8 with h | ⟨b',off,cap,i1,i2,i3,i4⟩
  ·exact .inl h
  ·exact .inr ⟨b',off,cap,i1,⟨i2,i3⟩,i3,i4⟩
 intro t
 induction t with
 | nil=>exact λh=>key h λ _ h=>h
 | snd _ _ p H=>exact λh=>key h λ _ ⟨x,h1,G⟩=>⟨x,h1,H G⟩
 | rcv _ _ p H=>exact λh=>key h λ _ ⟨x,h1,G⟩=>⟨x,h1,H G⟩
 | tau p H=>exact λh=>key h λ _ ⟨x,h1,G⟩=>⟨x,h1,H G⟩
 | res _ p H=>exact λh=>key h λ _ ⟨x,h1,G⟩=>⟨x,h1,H G⟩
 | mat _ _ p H=>exact λh=>key h λ _ ⟨x,h1,G⟩=>⟨x,h1,H G⟩
 | rep p H=>exact λh=>key h λ _ ⟨x,h1,G⟩=>⟨x,h1,H G⟩
 | sum p q H J=>exact λh=>key h λ _ ⟨x,y,h1,G,Z⟩=>⟨x,y,h1,H G,J Z⟩
 | par p q H J=>exact λh=>key h λ _ ⟨x,y,h1,G,Z⟩=>⟨x,y,h1,H G,J Z⟩
attribute [go_sem] Tryz.f105
def nZ (w:World)(R:Value->Qx)(h:vc az (aZ [(3,[(4,.i)])] [] []) (ab Tryz.f105) (ai 0 []) w (fin az [.agg 0 113] R)):
  Qy 105 #[] w (ax [.v] R):=
 a7 Tryz.func105 (by kernel_rfl) h
attribute [go_sem] Tryz.f172
def kV (m1:Value)(w:World)(R:Int->Qx)(h:vc az (aZ [] [] []) (ab Tryz.f172) (ai 0 [.v m1]) w (fin az [.tmp 2 .i] R)):
  Qy 172 #[m1] w (ax [.i] R):=
 a7 Tryz.func172 (by kernel_rfl) h
attribute [go_sem] Tryz.f153
def j8 (G:Value)(H:Value)(w:World)(R:Qx)(h:vc az (aZ [] [] [(0,true,.lt 0 (.lt 1 (.lt 2 (.lt 3 (.lt 4 (.lt 5 (.lt 6 (.lt 7 (.lt 8 (.lt 9 (.lt 11 (.lt 12 (.lt 13 (.lt 14 (.lt 15 (.lt 16 (.lt 17 (.lt 18 (.one .g 10 (.one .g 19 (.lt 20 (.lt 21 (.one .n 22 (.lt 23 (.lt 24 (.one .n 25 .done))))))))))))))))))))))))))]) (ab Tryz.f153) (ai 0 [.v G,.v H]) w (fin az [] R)):
  Qy 153 #[G,H] w (ax [] R):=
 a7 Tryz.func153 (by kernel_rfl) h
attribute [go_sem] Tryz.f104
def nY (m1:Value)(t2:Value)(G:Value)(w:World)(R:Value->Qx)(h:vc az (aZ [] [(4,[]),(6,[]),(8,[]),(23,[])] [(5,true,.lt 0 (.lt 1 (.lt 2 (.lt 3 (.lt 4 (.lt 5 (.one .g 6 (.lt 7 (.one .n 8 .done))))))))),(10,true,.lt 0 (.lt 1 (.lt 2 (.lt 3 (.lt 4 (.lt 5 (.lt 6 (.lt 7 (.lt 8 (.one .g 9 (.lt 10 (.lt 11 (.one .n 12 .done))))))))))))),(14,true,.lt 0 (.lt 1 (.lt 2 (.lt 3 (.lt 4 (.lt 5 (.lt 6 (.lt 7 (.lt 8 (.one .g 9 (.one .g 10 .done))))))))))),(15,true,.lt 0 (.lt 1 (.lt 2 (.lt 3 (.lt 4 (.lt 5 (.lt 6 (.lt 7 (.lt 8 (.one .g 9 (.one .g 10 .done))))))))))),(19,true,.lt 0 (.lt 1 (.lt 2 (.lt 3 (.lt 4 (.lt 5 (.lt 6 (.lt 7 (.lt 8 (.one .g 9 (.one .g 10 .done))))))))))),(22,true,.lt 0 (.lt 1 (.lt 2 (.lt 3 (.lt 4 (.lt 5 (.lt 6 (.lt 7 (.lt 8 (.lt 10 (.lt 11 (.lt 12 (.lt 13 (.lt 14 (.lt 15 (.lt 16 (.lt 17 (.one .g 9 (.one .g 18 (.one .g 19 (.lt 20 (.lt 21 (.one .n 22 .done)))))))))))))))))))))))]) (ab Tryz.f104) (ai 0 [.v m1,.v t2,.v G]) w (fin az [.tmp 6 .v] R)):
  Qy 104 #[m1,t2,G] w (ax [.v] R):=
 a7 Tryz.func104 (by kernel_rfl) h
abbrev iv (n:Nat):Value:= .int .i64 n
def K.byte:K->UInt8
 | .s=>33 | .r=>63 | .t=>126 | .m=>61 | .p=>42
def dG.sub {D E:Nat->Prop}{w:World}{v:Value}{l:List Value}(h:dG D w v l)(hd:∀g,g< w.heap.size->D g->E g):dG E w v l:=by
 rcases h with h | ⟨b,off,cap,h1,H,G,h4⟩
 ·exact .inl h
 ·exact .inr ⟨b,off,cap,h1,hd b G H,G,h4⟩
def fL (D:Nat->Prop)(w:World)(v:Value)(o:List Nat)(K:List Value->Prop):Prop:=
 ∃b vo vt ts,v=ptr b/\D b/\b< w.heap.size/\w.cell? ⟨b,0,none⟩=some vo/\w.cell? ⟨b,1,none⟩=some vt/\dG D w vo (o.map iv)/\dG D w vt ts/\K ts
def Ht (D:Nat->Prop)(w:World)(v:Value)(k:UInt8)(a b:Nat)(vr vp:Value):Prop:=
 ∃g,v=ptr g/\D g/\g< w.heap.size/\w.cell? ⟨g,0,none⟩=some (.int .u8 k.toNat)/\w.cell? ⟨g,1,none⟩=some (iv a)/\w.cell? ⟨g,2,none⟩=some (iv b)/\w.cell? ⟨g,3,none⟩=some vr/\w.cell? ⟨g,4,none⟩=some vp
def af (D:Nat->Prop)(w:World):Lv->List Value->Prop
 | .nil,ts=>ts=[]
 | .thr k a b o r n,ts=>∃t G a' H vr,ts=t::G/\Ht D w t k.byte a' H vr (.slice none 0 0)/\(k= .t\/k= .p\/(a'=a/\H=b))/\fL D w vr o (af D w r)/\af D w n G
 | .sum ps n,ts=>∃t G a' H vp us,ts=t::G/\Ht D w t 43 a' H (.pointer none) vp/\dG D w vp us/\af D w ps us/\af D w n G
 | .part o q n,ts=>∃v G,ts=v::G/\fL D w v o (af D w q)/\af D w n G
def aH (D:Nat->Prop)(w:World)(L:List Nat×Lv)(v:Value):Prop:=fL D w v L.1 (af D w L.2)
section
variable {D E S:Nat->Prop} {w w':World}
def fL.kp {v:Value}{o:List Nat}{K H:List Value->Prop}(h:fL D w v o K)(k:Kp w w' S)(G:∀g,D g->¬S g)(hK:∀l,K l->H l):fL D w' v o H:=by
 obtain⟨b,vo,vt,ts,h1,J,Z,h4,h5,h6,h7,h8⟩:=h;have hb:=k.block b Z (G b J);refine⟨b,vo,vt,ts,h1,J,Nz Z k.size,?_,?_,h6.kp k G,h7.kp k G,hK _ h8⟩<;>rw [M5 (w:=w) hb]<;>assumption
def fL.sub {v:Value}{o:List Nat}{K G:List Value->Prop}(h:fL D w v o K)(hd:∀g,g< w.heap.size->D g->E g)(J:∀l,K l->G l):fL E w v o G:=by
 obtain⟨b,vo,vt,ts,h1,Z,H,h4,h5,h6,h7,h8⟩:=h;exact⟨b,vo,vt,ts,h1,hd b H Z,H,h4,h5,h6.sub hd,h7.sub hd,J _ h8⟩
def Ht.kp {v:Value}{k:UInt8}{a b:Nat}{vr vp:Value}(h:Ht D w v k a b vr vp)(kp:Kp w w' S)(J:∀g,D g->¬S g):Ht D w' v k a b vr vp:=by
 obtain⟨g,h1,G,H,h4,h5,Z,h7,h8⟩:=h;have hb:=kp.block g H (J g G);refine⟨g,h1,G,Nz H kp.size,?_,?_,?_,?_,?_⟩<;>rw [M5 (w:=w) hb]<;>assumption
def Ht.sub {v:Value}{k:UInt8}{a b:Nat}{vr vp:Value}(h:Ht D w v k a b vr vp)(hd:∀g,g< w.heap.size->D g->E g):Ht E w v k a b vr vp:=by
 obtain⟨g,h1,H,G,h4,h5,J,Z,h8⟩:=h;exact⟨g,h1,hd g G H,G,h4,h5,J,Z,h8⟩
def af.kp (k:Kp w w' S)(G:∀g,D g->¬S g):∀{l:Lv} {ts:List Value},af D w l ts->af D w' l ts
 | .nil,_,h=>h
 | .thr _ _ _ _ r n,_,⟨t,H,a',b',vr,h1,J,Z,h4,h5⟩=>⟨t,H,a',b',vr,h1,J.kp k G,Z,h4.kp k G λ _ h=>af.kp k G (l:=r) h,af.kp k G (l:=n) h5⟩
 | .sum ps n,_,⟨t,H,a',b',vp,us,h1,J,Z,h4,h5⟩=>⟨t,H,a',b',vp,us,h1,J.kp k G,Z.kp k G,af.kp k G (l:=ps) h4,af.kp k G (l:=n) h5⟩
 | .part o q n,_,⟨v,H,h1,J,Z⟩=>⟨v,H,h1,J.kp k G λ _ h=>af.kp k G (l:=q) h,af.kp k G (l:=n) Z⟩
def af.sub (hd:∀g,g< w.heap.size->D g->E g):∀{l:Lv} {ts:List Value},af D w l ts->af E w l ts
 | .nil,_,h=>h
 | .thr _ _ _ _ r n,_,⟨t,G,a',Z,vr,h1,H,J,h4,h5⟩=>⟨t,G,a',Z,vr,h1,H.sub hd,J,h4.sub hd λ _ h=>af.sub hd (l:=r) h,af.sub hd (l:=n) h5⟩
 | .sum ps n,_,⟨t,G,a',Z,vp,us,h1,H,J,h4,h5⟩=>⟨t,G,a',Z,vp,us,h1,H.sub hd,J.sub hd,af.sub hd (l:=ps) h4,af.sub hd (l:=n) h5⟩
 | .part o q n,_,⟨v,G,h1,H,J⟩=>⟨v,G,h1,H.sub hd λ _ h=>af.sub hd (l:=q) h,af.sub hd (l:=n) J⟩
def aH.kp {L:List Nat×Lv}{v:Value}(h:aH D w L v)(k:Kp w w' S)(G:∀g,D g->¬S g):aH D w' L v:=fL.kp h k G λ _ h=>af.kp k G h
def aH.sub {L:List Nat×Lv}{v:Value}(h:aH D w L v)(hd:∀g,g< w.heap.size->D g->E g):aH E w L v:=fL.sub h hd λ _ h=>af.sub hd h
def aH.ex {L:List Nat×Lv}{v:Value}(h:aH D w L v)(x:Ex w w'):aH D w' L v:=h.kp (Kp.ah x λ _=>False) λ _ _ h=>h
def af.ex {l:Lv}{ts:List Value}(h:af D w l ts)(x:Ex w w'):af D w' l ts:=af.kp (Kp.ah x λ _=>False) (λ _ _ h=>h) h
def af.app:∀{l m:Lv} {ts us:List Value},af D w l ts->af D w m us->af D w (l.app m) (ts++us)
 | .nil,_,_,_,h,H=>by cases h;exact H
 | .thr _ _ _ _ r n,_,_,_,⟨t,G,a',b',vr,h1,J,Z,h4,h5⟩,H=>⟨t,G++_,a',b',vr,by rw [h1];rfl,J,Z,h4,af.app (l:=n) h5 H⟩
 | .sum ps n,_,_,_,⟨t,G,a',b',vp,us,h1,J,Z,h4,h5⟩,H=>⟨t,G++_,a',b',vp,us,by rw [h1];rfl,J,Z,h4,af.app (l:=n) h5 H⟩
 | .part o q n,_,_,_,⟨v,G,h1,J,Z⟩,H=>⟨v,G++_,by rw [h1];rfl,J,af.app (l:=n) Z H⟩
def af.len:∀{l:Lv} {ts:List Value},af D w l ts->ts.length=l.len
 | .nil,_,h=>by cases h;rfl
 | .thr _ _ _ _ r n,_,⟨t,G,a',Z,vr,h1,J,H,h4,h5⟩=>by rw [h1,M0,af.len (l:=n) h5,Lv.len]
 | .sum ps n,_,⟨t,G,a',Z,vp,us,h1,J,H,h4,h5⟩=>by rw [h1,M0,af.len (l:=n) h5,Lv.len]
 | .part o q n,_,⟨v,G,h1,J,H⟩=>by rw [h1,M0,af.len (l:=n) H,Lv.len]
end
def aE (e:Nat)(B:Nat)(w:World)(v:Value)(l:List Value):Prop:=w.ownsRow B e 1 v l.length l
def aE.nil (e B:Nat)(w:World):aE e B w (.slice none 0 0) []:=P3 _ _ _ _
def aE.block {e B:Nat}{w:World}{v:Value}{l:List Value}(h:aE e B w v l):∀b,v.ownBlock=some b->B<=b/\b< w.heap.size:=Pt h
def aE.mono {e B G:Nat}{w:World}{v:Value}{l:List Value}(h:aE e B w v l)(hb:G<=B):aE e G w v l:=Pw h hb
def aE.kp {e B:Nat}{w w':World}{S:Nat->Prop}{v:Value}{l:List Value}(h:aE e B w v l)(k:Kp w w' S)(H:∀g,v.ownBlock=some g->¬S g):aE e B w' v l:=by
 refine⟨h.1,?_⟩;rcases h.2 with J | ⟨g,cap,cur,rfl,hb,G,rest⟩
 ·exact .inl J
 ·exact .inr ⟨g,cap,cur,rfl,hb,by rw [k.block g (NL.1 G).1 (H g rfl)];exact G,rest⟩
def aE.AS {e B:Nat}{w:World}{v:Value}{l:List Value}(h:aE e B w v l){D:Nat->Prop}(J:∀g,v.ownBlock=some g->D g):dG D w v l:=by
 rcases h.2 with⟨rfl,Z⟩ | ⟨g,cap,cur,rfl,hb,G,h1,h2,h3,h4⟩
 ·exact .inl ⟨rfl,NF Z⟩
 ·refine .inr ⟨g,0,cap,rfl,J g rfl,(NL.1 G).1,λi x H=>?_⟩;unfold World.cell?;simp only [G,NJ];have e:=N9 (λl=>l[i]?) h4;obtain⟨hi,_⟩:=NZ.1 H;simp only [NQ,Pg,hi,O9,H]at e;rw [<-Oe];exact e
def aE.one {e:Nat}{w w':World}{B b:Nat}{x:Value}(hB:B<=w.heap.size)(hb:b=w.heap.size)(h:w'=w.alloc (.cells #[x] e)):aE e B w' (.slice (some ⟨b,0,none⟩) 1 1) [x]:=by
 subst hb h;refine⟨rfl,.inr ⟨_,1,#[x],rfl,hB,?_,by simp,by unfold maxLen;omega,rfl,rfl⟩⟩;unfold World.alloc;simp
def aE.push {e B by_:Nat}{w:World}{v:Value}{l:List Value}(h:aE e B w v l)(hB:B<=w.heap.size){D:Nat->Prop}{x:Value}{m:List Value}(H:dG D w x m)(hm:m.all oneV=true)(G:by_<=16)(J:l.length+m.length<=1099511627776){K:Value->Qx}
  (Z:∀v' w',aE e B w' v' (l++m)->w.grownBy w' v.ownBlock->(∀b,v'.ownBlock=some b->v.ownBlock=some b\/w.heap.size<=b)->K v' w'):
  ∃(base n k:Nat) (xs news:List Value),World.ownsRow w base e 1 v n xs/\base<=Array.size (World.heap w)/\db w x k 1 news/\(n+k<=maxLen/\(n+k)* by_<=140737488355328)/\
   ∀(v':Value) (w':World),World.ownsRow w' base e 1 v' (n+k) (xs++news)->World.grownBy w w' (Value.ownBlock v)->(∀b:Nat,Value.ownBlock v'=some b->Value.ownBlock v=some b\/Array.size (World.heap w)<=b)->K v' w':=by
 refine⟨B,l.length,m.length,l,m,h,hB,?_,⟨by unfold maxLen;omega,?_⟩,λv' w' ho hg hw=>Z v' w' ?_ hg hw⟩
 ·refine⟨by simp,hm,?_⟩;rcases H with⟨rfl,rfl⟩ | ⟨b,off,cap,rfl,_,hb,hc⟩
  ·exact .inl ⟨rfl,rfl⟩
  ·exact .inr ⟨b,off,cap,rfl,hc⟩
 ·have:(l.length+m.length)* by_<=1099511627776* 16:=P8 J G;omega
 ·unfold aE;rw [Nb];exact ho
def Kp.aG {w w':World}{row:Option Nat}{S:Nat->Prop}(G:w.grownBy w' row)(hr:∀g,row=some g->S g):Kp w w' S:=
 ⟨G.os,G.tape,G.output,G.size,λg H J=>G.block g H λe=>J (hr g e.symm)⟩
def Kp.mono {w w':World}{S T:Nat->Prop}(G:∀g,S g->T g)(h:Kp w w' S):Kp w w' T:=⟨h.os,h.tape,h.output,h.size,λg H J=>h.block g H λe=>J (G g e)⟩
structure jI (B:Nat)(w:World)(b:Nat)(o:List Nat)(ts:List Value)(M:Nat->Prop):Prop where
 lt:b< w.heap.size
 le:B<=b
 mb:M b
 mr:∀g,M g->B<=g/\g< w.heap.size
 fr:∀j,w.frozen? ⟨b,j,none⟩=false
 sl:∃vo vt,w.cell? ⟨b,0,none⟩=some vo/\w.cell? ⟨b,1,none⟩=some vt/\aE 3 B w vo (o.map iv)/\aE 130 B w vt ts/\(∀g,vo.ownBlock=some g->M g/\g≠b)/\(∀g,vt.ownBlock=some g->M g/\g≠b)/\∀g,vo.ownBlock=some g->vt.ownBlock≠some g
def jI.kp {B:Nat}{w w':World}{b:Nat}{o:List Nat}{ts:List Value}{M S:Nat->Prop}(h:jI B w b o ts M)(k:Kp w w' S)(H:∀g,M g->¬S g):jI B w' b o ts M:=by
 obtain⟨h1,h2,Z,hr,h4,vo,vt,h5,h6,h7,h8,h9,h10,J⟩:=h;have hb:=k.block b h1 (H b Z);refine⟨Nz h1 k.size,h2,Z,λg G=>⟨(hr g G).1,Nz (hr g G).2 k.size⟩,λj=>by rw [NH (w:=w) hb];exact h4 j,vo,vt,?_,?_,h7.kp k λg G=>H g (h9 g G).1,h8.kp k λg G=>H g (h10 g G).1,h9,h10,J⟩<;>rw [M5 (w:=w) hb]<;>assumption
def jI.ex {B:Nat}{w w':World}{b:Nat}{o:List Nat}{ts:List Value}{M:Nat->Prop}(h:jI B w b o ts M)(x:Ex w w'):jI B w' b o ts M:=h.kp (Kp.ah x λ _=>False) λ _ _ h=>h
def jI.LO {B:Nat}{w:World}{b:Nat}{o:List Nat}{ts:List Value}{M D:Nat->Prop}(h:jI B w b o ts M)(H:∀g,g< w.heap.size->B<=g->D g){K:List Value->Prop}(hK:K ts):fL D w (ptr b) o K:=by
 obtain⟨h1,h2,h3,hr,h4,vo,vt,h5,h6,J,Z,h9,h10,β⟩:=h;exact⟨b,vo,vt,ts,rfl,H b h1 h2,h1,h5,h6,J.AS λg G=>H g (J.block g G).2 (J.block g G).1,Z.AS λg G=>H g (Z.block g G).2 (Z.block g G).1,hK⟩
def G6 (o:List Nat):(o.map iv).all oneV=true:=by simp [oneV]
def af.all {D:Nat->Prop}{w:World}:∀{l:Lv} {ts:List Value},af D w l ts->ts.all oneV=true
 | .nil,_,h=>by cases h;rfl
 | .thr _ _ _ _ r n,_,⟨t,G,a',J,vr,h1,⟨g,e,_⟩,H,h4,h5⟩=>by rw [h1,Oj,af.all (l:=n) h5,e];rfl
 | .sum ps n,_,⟨t,G,a',J,vp,us,h1,⟨g,e,_⟩,H,h4,h5⟩=>by rw [h1,Oj,af.all (l:=n) h5,e];rfl
 | .part o q n,_,⟨v,G,h1,⟨g,_,_,_,e,_⟩,H⟩=>by rw [h1,Oj,af.all (l:=n) H,e];rfl
def ta {B:Nat}{w:World}{b:Nat}{o:List Nat}{ts:List Value}{M:Nat->Prop}(h:jI B w b o ts M)(hB:B<=w.heap.size){D:Nat->Prop}{v:Value}{o2:List Nat}{β:List Value}(h2:fL D w v o2 λl=>l=β)(χ:β.all oneV=true)
  (hM:∀g,D g->¬M g) (hl:o.length+o2.length<=1099511627776/\ts.length+β.length<=1099511627776) {R:Qx}
  (hR:∀w' M',Kp w w' M->jI B w' b (o++o2) (ts++β) M'->(∀g,M' g->M g\/w.heap.size<=g)->R w'):Qy 153 #[ptr b,v] w (ax [] R):=by
 refine j8 _ v w R ?_;dsimp only [go_sem];obtain⟨b2,ψ,ω,ts3,rfl,g1,g2,g3,g4,g5,g6,e3⟩:=h2;subst e3;obtain⟨h1,hle,h3,hr,h4,vo,vt,h5,h6,h7,h8,h9,h10,θ⟩:=h;have γ:¬M b2:=hM b2 g1;refine⟨λw'=>Kp w w' λg=>vo.ownBlock=some g\/vt.ownBlock=some g,λw1 ι=>⟨ι▸Kp.ah (Ex.drew w) _,b,0,rfl,vo,λw' k=>?_,b2,0,rfl,ψ,λw' k=>?_,b,0,rfl,vt,λw' k=>?_,b2,0,rfl,ω,λw' k=>?_,?_⟩⟩
 ·rw [M5 (w:=w) (k.block b h1 λh=>h.elim (λe=>(h9 b e).2 rfl) λe=>(h10 b e).2 rfl)];exact h5
 ·rw [M5 (w:=w) (k.block b2 g2 λh=>h.elim (λe=>γ (h9 b2 e).1) λe=>γ (h10 b2 e).1)];exact g3
 ·rw [M5 (w:=w) (k.block b h1 λh=>h.elim (λe=>(h9 b e).2 rfl) λe=>(h10 b e).2 rfl)];exact h6
 ·rw [M5 (w:=w) (k.block b2 g2 λh=>h.elim (λe=>γ (h9 b2 e).1) λe=>γ (h10 b2 e).1)];exact g4
 have x1:Ex w w1:=ι▸Ex.drew w;have k1:Kp w w1 λ _=>False:=Kp.ah x1 _
 have s1:w1.heap.size=w.heap.size:=by rw [ι];rfl
 refine aE.push (h7.kp k1 λ _ _ h=>h) (by omega) (g5.kp k1 λ _ _ h=>h) (G6 o2) (by omega) (by simp;exact hl.1) λJ w2 δ hg2 hn2=>?_
 have k2:Kp w1 w2 λg=>vo.ownBlock=some g:=Kp.aG hg2 λg h=>h
 have κ:Kp w w2 λg=>vo.ownBlock=some g:=Kp.trans (Kp.ah x1 _) k2 λg _ h=>h
 refine⟨Kp.trans (Kp.ah x1 _) k2 λg _ h=> .inl h,?_⟩;have s2:=k2.size;have g6':=g6.kp κ λg G e=>hM g G (h9 g e).1
 have h8':aE 130 B w2 vt ts:=h8.kp κ λg G e=>θ g e G
 refine aE.push h8' (by omega) g6' χ (by omega) hl.2 λZ w3 μ hg3 hn3=>?_
 have k3:Kp w2 w3 λg=>vt.ownBlock=some g:=Kp.aG hg3 λg h=>h
 have ν:Kp w w3 λg=>vo.ownBlock=some g\/vt.ownBlock=some g:=Kp.trans (Kp.mono (λg h=> .inl h) κ) k3 λg _ h=> .inr h
 have s3:=k3.size;have hv1:oneV J=true:=by
  rcases δ.2 with⟨rfl,_⟩ | ⟨g,cap,cur,rfl,_⟩<;>rfl
 have hv2:oneV Z=true:=by
  rcases μ.2 with⟨rfl,_⟩ | ⟨g,cap,cur,rfl,_⟩<;>rfl
 have ξ:=ν.block b h1 λh=>h.elim (λe=>(h9 b e).2 rfl) λe=>(h10 b e).2 rfl
 have c30:w3.cell? ⟨b,0,none⟩=some vo:=by rw [M5 (w:=w) ξ];exact h5
 have ς:w3.cell? ⟨b,1,none⟩=some vt:=by rw [M5 (w:=w) ξ];exact h6
 have f3:∀j,w3.frozen? ⟨b,j,none⟩=false:=λj=>by rw [NH (w:=w) ξ];exact h4 j
 refine⟨ν,b,0,rfl,hv1,⟨⟨_,c30⟩,f3 0⟩,λw4 H=>⟨b,0,rfl,hv2,⟨⟨vt,?_⟩,?_⟩,λw5 ε=>?_⟩⟩
 ·rw [H,Na _ _ _ _ (by simp)];exact ς
 ·rw [H,Nv];exact f3 1
 have ζ:Kp w3 w5 λg=>g=b:=by
  rw [ε,H];exact Kp.set (Kp.set (S:=λg=>g=b) (Kp.ah (Ex.refl w3) _) rfl _) rfl _
 have η:∀g,J.ownBlock=some g->(vo.ownBlock=some g\/w.heap.size<=g):=λg G=>(hn2 g G).elim .inl λh=> .inr (by omega)
 have ο:∀g,Z.ownBlock=some g->(vt.ownBlock=some g\/w2.heap.size<=g):=λg G=>hn3 g G
 have υ:∀g,J.ownBlock=some g->g≠b:=λg G=>(η g G).elim (λe=>(h9 g e).2) λe=>by omega
 have φ:∀g,Z.ownBlock=some g->g≠b:=λg G=>(ο g G).elim (λe=>(h10 g e).2) λe=>by omega
 have hot:∀g,J.ownBlock=some g->Z.ownBlock≠some g:=λg G e=>by
  have hlt:=(δ.block g G).2;rcases ο g e with e1 | e1
  ·rcases η g G with e2 | e2
   ·exact θ g e2 e1
   ·have :=(h8.block g e1).2;omega
  ·omega
 have s5:=ζ.size;refine hR w5 (λg=>M g\/(w.heap.size<=g/\g< w5.heap.size)) ?_ ⟨?_,hle,.inl h3,λg G=>?_,λj=>?_,J,Z,?_,?_,?_,?_,λg G=>⟨?_,υ g G⟩,λg G=>⟨?_,φ g G⟩,hot⟩ λg h=>h.elim .inl λh=> .inr h.1
 ·refine Kp.trans (Kp.mono (λg h=>h.elim (λe=>(h9 g e).1) λe=>(h10 g e).1) ν) ζ λg _ e=>?_
  rw [e];exact h3
 ·omega
 ·rcases G with G | G
  ·have :=hr g G;omega
  ·omega
 ·rw [ε,Nv,H,Nv];exact f3 j
 ·rw [ε,Na _ _ _ _ (by simp),H];exact Ns _ _ _ c30
 ·rw [ε];refine Ns _ _ _ (u:=vt) ?_;rw [H,Na _ _ _ _ (by simp)];exact ς
 ·rw [N0];refine(δ.kp k3 λg G e=>?_).kp ζ υ;rcases η g G with e2 | e2
  ·exact θ g e2 e
  ·have :=(h8.block g e).2;omega
 ·exact μ.kp ζ φ
 ·have :=(δ.block g G).2;exact(η g G).elim (λe=> .inl (h9 g e).1) λe=> .inr ⟨e,by omega⟩
 ·have :=(μ.block g G).2;exact(ο g G).elim (λe=> .inl (h10 g e).1) λe=> .inr ⟨by omega,by omega⟩
def gC {c:UInt8}(h:lt c=true):(c - 97:UInt8).toNat=c.toNat - 97:=by
 have :=bg h;rw [UInt8.toNat_sub_of_le]
 ·rfl
 ·exact NA.2 (by simpa using this.1)
structure Mk (w:World)(m n:Nat):Prop where
 lt:m< w.heap.size
 c:w.cell? ⟨m,0,none⟩=some (iv n)
 f:w.frozen? ⟨m,0,none⟩=false
def Mk.kp {w w':World}{m n:Nat}{S:Nat->Prop}(h:Mk w m n)(k:Kp w w' S)(G:¬S m):Mk w' m n:=by
 have hb:=k.block m h.lt G;exact⟨Nz h.lt k.size,by rw [M5 (w:=w) hb];exact h.c,by rw [NH (w:=w) hb];exact h.f⟩
def Mk.ex {w w':World}{m n:Nat}(h:Mk w m n)(x:Ex w w'):Mk w' m n:=h.kp (Kp.ah x λ _=>False) λh=>h
structure Km (m:Nat)(w w':World):Prop where
 kp:Kr m w w'
 ce:∀j,j≠0->w'.cell? ⟨m,j,none⟩=w.cell? ⟨m,j,none⟩
 fz:∀j,w'.frozen? ⟨m,j,none⟩=w.frozen? ⟨m,j,none⟩
def Km.size {m:Nat}{w w':World}(h:Km m w w'):w.heap.size<=w'.heap.size:=h.kp.size
def Km.trans {m:Nat}{a b c:World}(h:Km m a b)(k:Km m b c):Km m a c:=⟨Kr.trans h.kp k.kp,λj G=>(k.ce j G).trans (h.ce j G),λj=>(k.fz j).trans (h.fz j)⟩
def Km.out {m:Nat}{w0 w w':World}{S:Nat->Prop}(h:Km m w0 w)(k:Kp w w' S)(H:∀g,g< w0.heap.size->¬S g)(hm:m< w0.heap.size):Km m w0 w':=by
 have e:=k.block m (Nz hm h.kp.size) (H m hm);exact⟨Kp.trans h.kp k λg J G=>absurd G (H g J),λj Z=>by rw [M5 (w:=w) e];exact h.ce j Z,λj=>by rw [NH (w:=w) e];exact h.fz j⟩
def Km.refl (m:Nat)(w:World):Km m w w:=⟨Kr.refl m w,λ _ _=>rfl,λ _=>rfl⟩
def Km.ex {m:Nat}{w w':World}(h:Ex w w')(hm:m< w.heap.size):Km m w w':=(Km.refl m w).out (Kp.ah h λ _=>False) (λ _ _ h=>h) hm
def Km.set (m:Nat)(w:World)(v:Value):Km m w (w.setCell ⟨m,0,none⟩ v):=⟨Kr.set w 0 v,λj G=>Na _ _ _ _ (λe=>by injection e with H J;omega),λj=>Nv _ _ _ _⟩
def rR {w:World}{m n:Nat}(h:Mk w m n)(J:n<=1099511627776){R:Int->Qx}(hR:∀w',Km m w w'->Mk w' m (n+1)->R ((n+101:Nat):Int) w'):Qy 172 #[ptr m] w (ax [.i] R):=by
 refine kV _ w R ?_;dsimp only [go_sem];refine⟨m,0,rfl,n,h.c,by omega,m,0,rfl,⟨⟨_,h.c⟩,h.f⟩,λw1 G=>⟨m,0,rfl,(n:Int)+1,?_,by omega,?_⟩⟩
 ·rw [G];exact Ns _ _ _ h.c
 ·have e:((n:Int)+1+100)=((n+101:Nat):Int):=by omega
  have H:((n:Int)+1)=((n+1:Nat):Int):=by omega
  rw [e];rw [H]at G;refine hR w1 (G▸Km.set m w _) ⟨?_,?_,?_⟩
  ·rw [G,NV];exact h.lt
  ·rw [G];exact Ns _ _ _ h.c
  ·rw [G,Nv];exact h.f
def Jd (cs:List Value)(e:UInt8->Nat):Prop:=cs.length=26/\∀c,lt c=true->cs[c.toNat - 97]?=some (iv (e c))
structure lg (w:World)(b:Nat)(e:UInt8->Nat):Prop where
 hb:b< w.heap.size
 f:∀j,w.frozen? ⟨b,j,none⟩=false
 c:∃cs,Jd cs e/\∀j,j< 26->w.cell? ⟨b,0+j,none⟩=cs[j]?
def lg.kp {w w':World}{b:Nat}{e:UInt8->Nat}{S:Nat->Prop}(h:lg w b e)(k:Kp w w' S)(G:¬S b):lg w' b e:=by
 have hb:=k.block b h.hb G;obtain⟨h1,H,cs,J,h4⟩:=h;exact⟨Nz h1 k.size,λj=>by rw [NH (w:=w) hb];exact H j,cs,J,λj Z=>by rw [M5 (w:=w) hb];exact h4 j Z⟩
def lg.get {w:World}{b:Nat}{e:UInt8->Nat}(h:lg w b e){c:UInt8}(G:lt c=true):w.cell? ⟨b,0+Int.toNat ((c - 97:UInt8).toNat:Int)* 1,none⟩=some (iv (e c)):=by
 obtain⟨h1,J,cs,H,h4⟩:=h;have :=bg G;rw [gC G,NQ,Nf,h4 _ (by omega)];exact H.2 c G
def lg.set {w w':World}{b:Nat}{e:UInt8->Nat}(h:lg w b e){c:UInt8}(J:lt c=true){n:Nat}(hw:w'=w.setCell ⟨b,0+Int.toNat ((c - 97:UInt8).toNat:Int)* 1,none⟩ (iv n)):lg w' b (aF e c n):=by
 have Z:=h.get J;obtain⟨h1,h2,cs,H,h4⟩:=h;have hl:=bg J;rw [gC J,NQ,Nf]at hw Z;refine⟨by rw [hw,NV];exact h1,λj=>by rw [hw,Nv];exact h2 j,cs.set (c.toNat - 97) (iv n),⟨by rw [OE];exact H.1,λd hd=>?_⟩,λj hj=>?_⟩
 ·have β:=bg hd;rw [List.getElem?_set];by_cases G:d=c
  ·subst G;rw [NO rfl,NO (by rw [H.1];omega)];simp [aF]
  ·have e2:¬c.toNat - 97=d.toNat - 97:=λe2=>G (NK.1 (by omega))
   rw [Nt e2,H.2 d hd];simp [aF,G]
 ·rw [List.getElem?_set];by_cases G:c.toNat - 97=j
  ·subst G;rw [NO rfl,NO (by rw [H.1];omega),hw];exact Ns _ _ _ Z
  ·rw [Nt G,hw,Na _ _ _ _ (by simp)];exact h4 j hj
structure jT (w:World)(g:Nat)(k:UInt8)(a b:Nat)(vr vp:Value):Prop where
 lt:g< w.heap.size
 c0:w.cell? ⟨g,0,none⟩=some (.int .u8 k.toNat)
 c1:w.cell? ⟨g,1,none⟩=some (iv a)
 c2:w.cell? ⟨g,2,none⟩=some (iv b)
 c3:w.cell? ⟨g,3,none⟩=some vr
 c4:w.cell? ⟨g,4,none⟩=some vp
 f:∀j,w.frozen? ⟨g,j,none⟩=false
section
variable {w w':World} {g a b x:Nat} {k:UInt8} {vr vp v:Value} {S:Nat->Prop}
def jT.kp (h:jT w g k a b vr vp)(kp:Kp w w' S)(G:¬S g):jT w' g k a b vr vp:=by
 have hb:=kp.block g h.lt G;refine⟨Nz h.lt kp.size,?_,?_,?_,?_,?_,λj=>?_⟩
 ·rw [M5 (w:=w) hb];exact h.c0
 ·rw [M5 (w:=w) hb];exact h.c1
 ·rw [M5 (w:=w) hb];exact h.c2
 ·rw [M5 (w:=w) hb];exact h.c3
 ·rw [M5 (w:=w) hb];exact h.c4
 ·rw [NH (w:=w) hb];exact h.f j
def jT.zQ (h:jT w g k a b vr vp)(hw:w'=w.setCell ⟨g,1,none⟩ (iv x)):jT w' g k x b vr vp:=by
 subst hw;exact⟨by rw [NV];exact h.lt,by rw [Na _ _ _ _ (by simp)];exact h.c0,Ns _ _ _ h.c1,by rw [Na _ _ _ _ (by simp)];exact h.c2,
  by rw [Na _ _ _ _ (by simp)];exact h.c3,by rw [Na _ _ _ _ (by simp)];exact h.c4,λj=>by rw [Nv];exact h.f j⟩
def jT.sa (h:jT w g k a b vr vp)(hw:w'=w.setCell ⟨g,2,none⟩ (iv x)):jT w' g k a x vr vp:=by
 subst hw;exact⟨by rw [NV];exact h.lt,by rw [Na _ _ _ _ (by simp)];exact h.c0,by rw [Na _ _ _ _ (by simp)];exact h.c1,Ns _ _ _ h.c2,
  by rw [Na _ _ _ _ (by simp)];exact h.c3,by rw [Na _ _ _ _ (by simp)];exact h.c4,λj=>by rw [Nv];exact h.f j⟩
def jT.DP (h:jT w g k a b vr vp)(hw:w'=w.setCell ⟨g,3,none⟩ v):jT w' g k a b v vp:=by
 subst hw;exact⟨by rw [NV];exact h.lt,by rw [Na _ _ _ _ (by simp)];exact h.c0,by rw [Na _ _ _ _ (by simp)];exact h.c1,by rw [Na _ _ _ _ (by simp)];exact h.c2,
  Ns _ _ _ h.c3,by rw [Na _ _ _ _ (by simp)];exact h.c4,λj=>by rw [Nv];exact h.f j⟩
def jT.Kt (h:jT w g k a b vr vp)(hw:w'=w.setCell ⟨g,4,none⟩ v):jT w' g k a b vr v:=by
 subst hw;exact⟨by rw [NV];exact h.lt,by rw [Na _ _ _ _ (by simp)];exact h.c0,by rw [Na _ _ _ _ (by simp)];exact h.c1,by rw [Na _ _ _ _ (by simp)];exact h.c2,
  by rw [Na _ _ _ _ (by simp)];exact h.c3,Ns _ _ _ h.c4,λj=>by rw [Nv];exact h.f j⟩
def jT.new {e:Nat}(G:g=w.heap.size)(hw:w'=w.alloc (.cells #[.int .u8 k.toNat,iv a,iv b,vr,vp] e)):jT w' g k a b vr vp:=by
 subst G hw;refine⟨by rw [size_alloc];omega,aa rfl,aa rfl,aa rfl,aa rfl,aa rfl,λj=>?_⟩;unfold World.frozen? World.alloc;simp
def jT.Le (h:jT w g k a b vr vp){D:Nat->Prop}(G:D g):Ht D w (ptr g) k a b vr vp:=⟨g,rfl,G,h.lt,h.c0,h.c1,h.c2,h.c3,h.c4⟩
end
structure RS (w0 w:World)(m n:Nat)(e:UInt8->Nat)(b5 b10:Nat)(k:UInt8)(a b:Nat):Prop where
 kp:Km m w0 w
 mc:Mk w m n
 hm:m< w0.heap.size
 env:lg w b5 e
 h5:w0.heap.size<=b5
 h10:w0.heap.size<=b10
 ne:b5≠b10
 th:jT w b10 k a b (.pointer none) (.slice none 0 0)
section
variable {w0 w w':World} {m n b5 b10 a b x:Nat} {e:UInt8->Nat} {k c:UInt8}
def RS.go (h:RS w0 w m n e b5 b10 k a b){n':Nat}(kr:Km m w w')(mk:Mk w' m n'):RS w0 w' m n' e b5 b10 k a b:=by
 have h1:=h.hm;have G:=h.h5;have H:=h.h10;exact⟨Km.trans h.kp kr,mk,h.hm,h.env.kp kr.kp (by omega),h.h5,h.h10,h.ne,h.th.kp kr.kp (by omega)⟩
def RS.ex (h:RS w0 w m n e b5 b10 k a b)(G:Ex w w'):RS w0 w' m n e b5 b10 k a b:=h.go (Km.ex G h.mc.lt) (h.mc.ex G)
def RS.own (h:RS w0 w m n e b5 b10 k a b){S:Nat->Prop}(kp:Kp w w' S)(H:∀g,S g->w0.heap.size<=g/\g≠b5/\g≠b10):RS w0 w' m n e b5 b10 k a b:=by
 have h1:=h.hm;refine⟨h.kp.out kp (λg J G=>(by have :=(H g G).1;omega)) h1,h.mc.kp kp λG=>(by have :=(H m G).1;omega),h.hm,h.env.kp kp λG=>(H _ G).2.1 rfl,h.h5,h.h10,h.ne,h.th.kp kp λG=>(H _ G).2.2 rfl⟩
def RS.zQ (h:RS w0 w m n e b5 b10 k a b)(hw:w'=w.setCell ⟨b10,1,none⟩ (iv x)):RS w0 w' m n e b5 b10 k x b:=by
 have h1:=h.hm;have G:=h.h10;have kp:Kr b10 w w':=hw▸Kr.set w 1 _;exact⟨h.kp.out kp (λg H e=>(by omega)) h1,h.mc.kp kp (by omega),h.hm,h.env.kp kp h.ne,h.h5,h.h10,h.ne,h.th.zQ hw⟩
def RS.sa (h:RS w0 w m n e b5 b10 k a b)(hw:w'=w.setCell ⟨b10,2,none⟩ (iv x)):RS w0 w' m n e b5 b10 k a x:=by
 have h1:=h.hm;have G:=h.h10;have kp:Kr b10 w w':=hw▸Kr.set w 2 _;exact⟨h.kp.out kp (λg H e=>(by omega)) h1,h.mc.kp kp (by omega),h.hm,h.env.kp kp h.ne,h.h5,h.h10,h.ne,h.th.sa hw⟩
def RS.L5 (h:RS w0 w m n e b5 b10 k a b)(G:lt c=true)(hw:w'=w.setCell ⟨b5,0+Int.toNat ((c - 97:UInt8).toNat:Int)* 1,none⟩ (iv x)):RS w0 w' m n (aF e c x) b5 b10 k a b:=by
 have h1:=h.hm;have H:=h.h5;have kp:Kr b5 w w':=hw▸Kr.set w _ _;exact⟨h.kp.out kp (λg J e=>(by omega)) h1,h.mc.kp kp (by omega),h.hm,h.env.set G hw,h.h5,h.h10,h.ne,h.th.kp kp (P' h.ne)⟩
end
def Ew (t:P):Prop:=∀{D:Nat->Prop} {v:Value} {w:World} {m n:Nat} {cs:List Value} {e:UInt8->Nat} {R:Value->Qx},aI D w t v->(∀g,D g->¬g=m)->Mk w m n->Jd cs e->Lt t->n+t.size<=1099511627776->
 (∀v' w',Km m w w'->Mk w' m (num t e n).2->aH (Cv w) w' (flat (num t e n).1) v'->R v' w')->Qy 104 #[ptr m,v,.agg cs.toArray] w (ax [.v] R)
def T.bnd:P->Bool
 | .rcv .. =>true | .res .. =>true | _=>false
def zR (t:P):(decide (t.kind=63)||decide (t.kind=35))=t.bnd:=by cases t<;>rfl
def LJ {t:P}(h:Lt t)(G:t.ca≠0):lt t.ca=true:=by
 cases t<;>first | exact h.1 | exact absurd rfl G
def Lw {t:P}(h:Lt t)(G:t.cb≠0):lt t.cb=true:=by
 cases t<;>first | exact h.2.1 | exact h.1 | exact absurd rfl G
def Kh {t:P}(h:Lt t)(hb:t.bnd=true):lt t.cb=true:=by
 cases t<;>first | exact h.2.1 | exact h.1 | cases hb
def bI:∀(t:P) (e:UInt8->Nat) (n:Nat),(num t e n).1.size=t.size/\(num t e n).2<=n+t.size
 | .nil,_,n=>⟨rfl,by simp [num,T.size]⟩
 | .snd _ _ p,e,n=>by have :=bI p e n;exact⟨by simp [num,T.size,this.1],by simp only [num,T.size];omega⟩
 | .mat _ _ p,e,n=>by have :=bI p e n;exact⟨by simp [num,T.size,this.1],by simp only [num,T.size];omega⟩
 | .tau p,e,n=>by have :=bI p e n;exact⟨by simp [num,T.size,this.1],by simp only [num,T.size];omega⟩
 | .rep p,e,n=>by have :=bI p e n;exact⟨by simp [num,T.size,this.1],by simp only [num,T.size];omega⟩
 | .rcv _ x p,e,n=>by have :=bI p (aF e x (n+101)) (n+1);exact⟨by simp [num,T.size,this.1],by simp only [num,T.size];omega⟩
 | .res x p,e,n=>by have :=bI p (aF e x (n+101)) (n+1);exact⟨by simp [num,T.size,this.1],by simp only [num,T.size];omega⟩
 | .sum p q,e,n=>by have :=bI p e n;have h:=bI q e (num p e n).2;exact⟨by simp [num,T.size,this.1,h.1],by simp only [num,T.size];omega⟩
 | .par p q,e,n=>by have :=bI p e n;have h:=bI q e (num p e n).2;exact⟨by simp [num,T.size,this.1,h.1],by simp only [num,T.size];omega⟩
def iO:∀u:U,(flat u).1.length<=u.size/\(flat u).2.len<=u.size
 | .nil=>by simp [flat,Lv.len]
 | .snd .. =>by simp [flat,Lv.len,T.size]
 | .rcv .. =>by simp [flat,Lv.len,T.size]
 | .tau .. =>by simp [flat,Lv.len,T.size]
 | .sum .. =>by simp [flat,Lv.len,T.size]
 | .mat .. =>by simp [flat,Lv.len,T.size]
 | .rep .. =>by simp [flat,Lv.len,T.size]
 | .res x p=>by have :=iO p;simp only [flat,T.size,M0];omega
 | .par p q=>by have :=iO p;have :=iO q;simp only [flat,T.size,Nb,Lv.dT];omega
def jI.new {w w':World}{b B e:Nat}(hB:B<=w.heap.size)(hb:b=w.heap.size)(hw:w'=w.alloc (.cells #[.slice none 0 0,.slice none 0 0] e)):jI B w' b [] [] (λg=>g=b):=by
 subst hb hw;refine⟨by rw [size_alloc];omega,hB,rfl,λg G=>⟨by omega,by rw [size_alloc];omega⟩,λj=>?_,_,_,aa rfl,aa rfl,aE.nil _ _ _,aE.nil _ _ _,λg h=>(by cases h),λg h=>(by cases h),λg h=>(by cases h)⟩;unfold World.frozen? World.alloc;simp
def Ch {D Q:Nat->Prop}{w1:World}{t p:P}{v:Value}{b5:Nat}{e:UInt8->Nat}(h:aI D w1 t v)(hD:∀g,D g->¬Q g)(hE:lg w1 b5 e)(h5:¬Q b5){i:Int}(h0:0<=i)(hp:t.parts[i.toNat]?=some p){K:Value->List Value->Prop}(hK:∀x cs,aI D w1 p x->Jd cs e->K x cs):
  ∃(b o:Nat),v=Value.pointer (some ⟨b,o,none⟩)/\∃β:Value,(∀w',Kp w1 w' Q->World.cell? w' ⟨b,(o+3),none⟩=some β)/\∃(γ δ G J:Nat),β=Value.slice (some ⟨γ,δ,none⟩) G J/\0<=i/\i< G/\
   ∃ε:Value,(∀w',Kp w1 w' Q->World.cell? w' ⟨γ,(δ+Int.toNat i* 1),none⟩=some ε)/\∃H:List Value,List.length H=26/\(∀w',Kp w1 w' Q->∀j,j< 26->World.cell? w' ⟨b5,0+j,none⟩=H[j]?)/\K ε H:=by
 obtain⟨b,vs,l,rfl,h1,h2,h3,h4,η,h6,h7,h8⟩:=h.inv;obtain⟨hi,θ⟩:=NZ.1 hp;have Z:i.toNat< l.length:=by rw [h8.1];exact hi
 have hx:=h8.2 i.toNat l[i.toNat] p (M6 Z) hp;refine⟨b,0,rfl,vs,λw' k=>?_,?_⟩
 ·rw [M5 (w:=w1) (k.block b h2 (hD b h1))];exact h6
 rcases h7 with⟨_,rfl⟩ | ⟨b',off,cap,rfl,i1,i2,i3⟩
 ·simp at Z
 obtain⟨cs,hc,ζ⟩:=hE.c;refine⟨b',off,l.length,cap,rfl,h0,by omega,l[i.toNat],λw' k=>?_,cs,hc.1,λw' k j hj=>?_,hK _ _ hx hc⟩
 ·rw [M5 (w:=w1) (k.block b' i2 (hD b' i1)),NQ];exact i3 _ _ (M6 Z)
 ·rw [M5 (w:=w1) (k.block b5 hE.hb h5)];exact ζ j hj
def aH.ths {D:Nat->Prop}{w:World}{L:List Nat×Lv}{v:Value}(h:aH D w L v):∃ts,fL D w v L.1 (λl=>l=ts)/\af D w L.2 ts:=by
 obtain⟨b,vo,vt,ts,h1,G,H,h4,h5,J,Z,h8⟩:=h;exact⟨ts,⟨b,vo,vt,ts,h1,G,H,h4,h5,J,Z,rfl⟩,h8⟩
def fL.one {D:Nat->Prop}{w:World}{v:Value}{o:List Nat}{K:List Value->Prop}(h:fL D w v o K):oneV v=true:=by
 obtain⟨b,_,_,_,rfl,_⟩:=h;rfl
def jI.L3 {B b g n e:Nat}{w w1 Z:World}(h:jI B w b [] [] λg=>g=b)(hg:g=w.heap.size)(J:w1=w.alloc (.cells #[iv n] 3))(H:Z=w1.setCell ⟨b,0,none⟩ (.slice (some ⟨g,0,none⟩) 1 1)):jI B Z b [n] [] λx=>x=b\/x=g:=by
 have G:Ex w w1:=J▸Ex.alloc w _;have h':=h.ex G;have β:=h.lt;have hle:=h.le;have ho:aE 3 B w1 (.slice (some ⟨g,0,none⟩) 1 1) [iv n]:=aE.one (by omega) hg J;have s1:w1.heap.size=w.heap.size+1:=by rw [J,size_alloc]
 obtain⟨h1,h2,h3,hr,h4,vo,vt,h5,h6,h7,h8,h9,h10,γ⟩:=h';have k:Kr b w1 Z:=H▸Kr.set w1 0 _;refine⟨by rw [H,NV];exact h1,h2,.inl rfl,λx G=>?_,λj=>by rw [H,Nv];exact h4 j,_,vt,?_,?_,ho.kp k λx G=>?_,?_,λx G=>?_,λx G=>⟨.inl (h10 x G).1,(h10 x G).2⟩,λx G e=>?_⟩
 ·have :=k.size;rcases G with rfl | rfl<;>omega
 ·rw [H];exact Ns _ _ _ h5
 ·rw [H,Na _ _ _ _ (by simp)];exact h6
 ·have e:g=x:=NY G;omega
 ·exact h8.kp k λx G=>(h10 x G).2
 ·have e:g=x:=NY G;exact⟨.inr e.symm,by omega⟩
 ·have :=(h10 x e)
  exact absurd this.1 this.2
def jI.L4 {B b g:Nat}{w w1 Z:World}{x:Value}(h:jI B w b [] [] λg=>g=b)(hg:g=w.heap.size)(J:w1=w.alloc (.cells #[x] 130))(H:Z=w1.setCell ⟨b,1,none⟩ (.slice (some ⟨g,0,none⟩) 1 1)):jI B Z b [] [x] λx=>x=b\/x=g:=by
 have G:Ex w w1:=J▸Ex.alloc w _;have h':=h.ex G;have β:=h.lt;have hle:=h.le;have ho:aE 130 B w1 (.slice (some ⟨g,0,none⟩) 1 1) [x]:=aE.one (by omega) hg J;have s1:w1.heap.size=w.heap.size+1:=by rw [J,size_alloc]
 obtain⟨h1,h2,h3,hr,h4,vo,vt,h5,h6,h7,h8,h9,h10,γ⟩:=h';have k:Kr b w1 Z:=H▸Kr.set w1 1 _;refine⟨by rw [H,NV];exact h1,h2,.inl rfl,λx G=>?_,λj=>by rw [H,Nv];exact h4 j,vo,_,?_,?_,?_,ho.kp k λx G=>?_,λx G=>⟨.inl (h9 x G).1,(h9 x G).2⟩,λx G=>?_,λx e G=>?_⟩
 ·have :=k.size;rcases G with rfl | rfl<;>omega
 ·rw [H,Na _ _ _ _ (by simp)];exact h5
 ·rw [H];exact Ns _ _ _ h6
 ·exact h7.kp k λx G=>(h9 x G).2
 ·have e:g=x:=NY G;omega
 ·have e:g=x:=NY G;exact⟨.inr e.symm,by omega⟩
 ·have :=(h9 x e)
  exact absurd this.1 this.2
def T.eB (t:P)(e:UInt8->Nat)(n:Nat):UInt8->Nat:=if t.bnd=true then aF e t.cb (n+101)else e
def T.nB (t:P)(n:Nat):Nat:=if t.bnd=true then n+1 else n
def T.aA (t:P)(e:UInt8->Nat):Nat:=if t.ca=0 then 0 else e t.ca
def T.bA (t:P)(e:UInt8->Nat)(n:Nat):Nat:=if t.cb=0 then 0 else t.eB e n t.cb
structure RW (D:Nat->Prop)(w w':World)(m n:Nat)(e:UInt8->Nat)(b5 b10 b47:Nat)(t:P)(v:Value):Prop where
 rs:RS w w' m (t.nB n) (t.eB e n) b5 b10 t.kind (t.aA e) (t.bA e n)
 bd:jI w.heap.size w' b47 [] [] λg=>g=b47
 n5:b47≠b5
 n10:b47≠b10
 tm:aI D w' t v
 d:∀g,D g->g< w.heap.size/\¬g=m
def RJ (w w':World)(m n:Nat)(e:UInt8->Nat)(b47 b10:Nat)(t:P):Prop:=
 Km m w w'/\Mk w' m (num t e n).2/\jI w.heap.size w' b47 [] [] (λg=>g=b47)/\(flat (num t e n).1).1=[]/\af (λg=>(w.heap.size<=g/\g≠b47)/\g< w'.heap.size) w' (flat (num t e n).1).2 [ptr b10]
def I3 {t:P}{w G:World}{m n:Nat}{e:UInt8->Nat}{b47 b10:Nat}{R:Value->Qx}(hm:m< w.heap.size)(hJ:RJ w G m n e b47 b10 t)(hR:∀v' w',Km m w w'->Mk w' m (num t e n).2->aH (Cv w) w' (flat (num t e n).1) v'->R v' w'):
  ∀(J:Nat) (H:World),J=Array.size (World.heap G)->H=World.alloc G (Obj.cells #[(Value.pointer (some ⟨b10,0,none⟩))] 130)->oneV (Value.slice (some ⟨J,0,none⟩) 1 1)=true/\
   ((∃β:Value,World.cell? H ⟨b47,1,none⟩=some β)/\World.frozen? H ⟨b47,1,none⟩=false)/\∀Z:World,Z=World.setCell H ⟨b47,1,none⟩ (Value.slice (some ⟨J,0,none⟩) 1 1)->R ((Value.pointer (some ⟨b47,0,none⟩))) Z:=by
 obtain⟨k,mk,bd,ho,ε⟩:=hJ;intro g w1 hg γ;have hx:Ex G w1:=γ▸Ex.alloc G _;have ζ:=bd.ex hx;have θ:=bd.lt;have hle:=bd.le;refine⟨rfl,?_,λw2 δ=>?_⟩
 ·obtain⟨h1,h2,h3,hr,h4,vo,vt,h5,h6,_⟩:=ζ;exact⟨⟨_,h6⟩,h4 1⟩
 ·have η:=bd.L4 hg γ δ;have kk:Kr b47 w1 w2:=δ▸Kr.set w1 1 _;have k2:Kp G w2 λg=>g=b47:=Kp.trans (Kp.ah hx _) kk λg _ h=>h
  refine hR _ w2 (k.out k2 (λg hg e=>by omega) hm) (mk.kp k2 (by omega)) ?_;unfold aH;rw [ho];exact η.LO (λg _ h=>h) (af.sub (λg _ h=>h.1.1) (af.kp k2 (λg h e=>h.1.2 e) ε))
section
variable {D:Nat->Prop} {w w':World} {m n b5 b10 b47:Nat} {e:UInt8->Nat} {t p:P} {v:Value}
def RQ (w:World)(m b5 b10:Nat):Nat->Prop:=λg=>g=m\/(w.heap.size<=g/\g≠b5/\g≠b10)
def RW.fine (h:RW D w w' m n e b5 b10 b47 t v):(∀g,D g->¬RQ w m b5 b10 g)/\¬RQ w m b5 b10 b5/\RQ w m b5 b10 b47:=by
 have h1:=h.rs.hm;have J:=h.rs.h5;have G:=h.bd.le;refine⟨λg H e=>?_,λe=>?_,.inr ⟨G,h.n5,h.n10⟩⟩
 ·have :=h.d g H;rcases e with e | e<;>omega
 ·rcases e with e | e
  ·omega
  ·exact e.2.1 rfl
structure RP (D:Nat->Prop)(w w':World)(m n:Nat)(b5 b10 b47:Nat)(e:UInt8->Nat)(t:P)(v:Value)(o:List Nat)(l:Lv)(ts:List Value)(M:Nat->Prop):Prop where
 kp:Km m w w'
 mc:Mk w' m n
 hm:m< w.heap.size
 env:lg w' b5 e
 h5:w.heap.size<=b5
 h10:b10< w'.heap.size
 tm:aI D w' t v
 d:∀g,D g->g< w.heap.size/\¬g=m
 bd:jI w.heap.size w' b47 o ts M
 mq:∀g,M g->RQ w m b5 b10 g
 th:af (λg=>(w.heap.size<=g/\¬M g)/\g< w'.heap.size) w' l ts
def RP.step {w1:World}{o:List Nat}{l:Lv}{ts:List Value}{M:Nat->Prop}(h:RP D w w1 m n b5 b10 b47 e t v o l ts M)(hp:Ew p){i:Int}(h0:0<=i)(hi:t.parts[i.toNat]?=some p)(hlt:Lt p)
  (hn:n+p.size<=1099511627776) (hol:o.length+p.size<=1099511627776) (hll:l.len+p.size<=1099511627776) {R:Qx}
  (hR:∀w2 ts' M',RP D w w2 m (num p e n).2 b5 b10 b47 e t v (o++(flat (num p e n).1).1) (l.app (flat (num p e n).1).2) ts' M'->R w2):
  ∃H:Qx,∀γ:World,γ=World.drew w1->H γ/\∃(θ ι:Nat),v=Value.pointer (some ⟨θ,ι,none⟩)/\∃κ:Value,(∀w',H w'->World.cell? w' ⟨θ,(ι+3),none⟩=some κ)/\
   ∃(μ ν J δ:Nat),κ=Value.slice (some ⟨μ,ν,none⟩) J δ/\0<=i/\i< J/\∃ξ:Value,(∀w',H w'->World.cell? w' ⟨μ,(ν+Int.toNat i* 1),none⟩=some ξ)/\
   ∃Z:List Value,List.length Z=26/\(∀w',H w'->∀j,j< 26->World.cell? w' ⟨b5,0+j,none⟩=Z[j]?)/\Qy 104 #[ptr m,ξ,(Value.agg (List.toArray Z))] γ (ax [.v] fun(v64:Value) (ο:World)=>
    H ο/\Qy 153 #[(Value.pointer (some ⟨b47,0,none⟩)),v64] ο (ax [] fun(ς:World)=>H ς/\R ς)):=by
 have h5:=h.h5;have hm:=h.hm;have hD:∀g,D g->¬RQ w m b5 b10 g:=λg G e=>by
  have :=h.d g G;rcases e with e | e<;>omega
 have υ:¬RQ w m b5 b10 b5:=λe=>by
  rcases e with e | e
  ·omega
  ·exact e.2.1 rfl
 refine⟨λw'=>Kp (w1.drew) w' (RQ w m b5 b10),λw2 β=>⟨β▸Kp.ah (Ex.refl _) _,?_⟩⟩;have x2:Ex w1 w2:=β▸Ex.drew w1;have hs12:w2.heap.size=w1.heap.size:=by rw [β];rfl
 rw [<-β];have kx:Kr m w1 w2:=Kr.ex x2;have φ:¬M m:=λhM=>by
  have :=(h.bd.mr m hM).1;omega
 refine Ch (aI.kp (Kp.ah x2 λ _=>False) (λ _ _ h=>h) h.tm) hD (h.env.kp (Kp.ah x2 λ _=>False) λh=>h) υ h0 hi λx cs hx hcs=>?_
 refine hp hx (λg G=>(h.d g G).2) (h.mc.ex x2) hcs hlt hn λv3 w3 k3 m3 l3=>?_
 have s3:=k3.size;have s1:=h.bd.lt;have s0:=h.kp.size;have ε:Kr m w1 w3:=Kr.trans kx k3.kp;have χ:Km m w1 w3:=Km.trans (Km.ex x2 h.mc.lt) k3;refine⟨Kp.mono (λg G=> .inl G) k3.kp,?_⟩;obtain⟨ts2,hl3,ζ⟩:=aH.ths (l3.sub (E:=λg=>w2.heap.size<=g/\g< w3.heap.size) λg G hd=>⟨hd,G⟩);have hfs:=iO (num p e n).1;rw [(bI p e n).1]at hfs;have bd3:jI w.heap.size w3 b47 o ts M:=h.bd.kp ε λg G e=>φ (e▸G)
 refine ta bd3 (by omega) hl3 ζ.all (λg G hM=>by have :=(h.bd.mr g hM).2;omega) ⟨by omega,by rw [ζ.len,h.th.len];omega⟩ λw4 M' k4 bd4 η=>?_
 have ψ:Kp w3 w4 (RQ w m b5 b10):=Kp.mono h.mq k4;refine⟨Kp.trans (Kp.mono (λg G=> .inl G) k3.kp) ψ λg _ h=>h,?_⟩;have s4:=k4.size;have ω:Kp w1 w4 (RQ w m b5 b10):=Kp.trans (Kp.mono (λg G=> .inl G) ε) ψ λg _ h=>h
 have hb5:=h.env.hb;refine hR w4 (ts++ts2) M' ⟨?_,m3.kp k4 φ,hm,h.env.kp ω υ,h5,by have :=h.h10;omega,aI.kp ω hD h.tm,h.d,bd4,λg G=>?_,?_⟩
 ·exact(Km.trans h.kp χ).out k4 (λg G hM=>by have :=(h.bd.mr g hM).1;omega) hm
 ·rcases η g G with h1 | h1
  ·exact h.mq g h1
  ·exact .inr ⟨by omega,by omega,by have :=h.h10;omega⟩
 ·refine af.app ?_ ?_
  ·refine af.sub (λg _ G=>?_) (af.kp k4 (λg G e=>G.1.2 e) (af.kp ε (λg G e=>?_) h.th))
   ·refine⟨⟨G.1.1,λhM=>?_⟩,by omega⟩;rcases η g hM with h1 | h1
    ·exact G.1.2 h1
    ·omega
   ·have :=G.1.1;omega
  ·refine af.sub (λg _ G=>?_) (af.kp k4 (λg G hM=>?_) ζ)
   ·refine⟨⟨by omega,λhM=>?_⟩,by omega⟩;rcases η g hM with h1 | h1
    ·have :=(h.bd.mr g h1).2;omega
    ·omega
   ·have :=(h.bd.mr g hM).2;omega
def RP.done {w':World}{o:List Nat}{l:Lv}{ts:List Value}{M:Nat->Prop}(h:RP D w w' m n b5 b10 b47 e t v o l ts M):aH (Cv w) w' (o,l) (ptr b47):=
 h.bd.LO (λg _ h=>h) (af.sub (λg _ G=>G.1.1) h.th)
end
def GX {t:P}(ih:∀p∈t.parts,Ew p):Ew t:=by
 intro D v w m n cs e R ht hD hmk μ J hn hR;obtain⟨D,ht,hD⟩:∃D',aI D' w t v/\∀g,D' g->g< w.heap.size/\¬g=m:=⟨_,ht.bound,λg G=>⟨G.2,hD g G.1⟩⟩
 refine nY _ v _ w R ?_;dsimp only [go_sem];dsimp only [go_sem,UInt8.reduceOfNat];refine⟨cs,rfl,λb5 w6 hb5 ζ=>?_⟩;have x6:Ex w w6:=ζ▸Ex.alloc w _;have s6:w6.heap.size=w.heap.size+1:=by rw [ζ,size_alloc]
 have t6:aI D w6 t v:=aI.kp (Kp.ah x6 λ _=>False) (λ _ _ h=>h) ht;have c0:∀{w':World},aI D w' t v->∃b,v=ptr b/\w'.cell? ⟨b,0+0,none⟩=some (.int .u8 t.kind.toNat)/\w'.cell? ⟨b,0+1,none⟩=some (.int .u8 t.ca.toNat)/\w'.cell? ⟨b,0+2,none⟩=some (.int .u8 t.cb.toNat):=λh=>by
  obtain⟨b,vs,l,h0,h1,h2,h3,h4,h5,_⟩:=h.inv;exact⟨b,h0,h3,h4,h5⟩
 obtain⟨b7,hv,q0,_,_⟩:=c0 t6;refine⟨b7,0,hv,t.kind,q0,λb10 w11 hb10 ο=>?_⟩;have ω:Ex w6 w11:=ο▸Ex.alloc w6 _;have s11:w11.heap.size=w6.heap.size+1:=by rw [ο,size_alloc]
 have kt:∀{w':World},Kr m w w'->aI D w' t v:=λk=>aI.kp k (λg G=>(hD g G).2) ht
 have η:=hmk.lt;have ν:RS w w11 m n e b5 b10 t.kind 0 0:=by
  refine⟨Km.ex (Ex.trans x6 ω) η,hmk.ex (Ex.trans x6 ω),η,⟨by omega,λj=>?_,cs,μ,λj hj=>?_⟩,by omega,by omega,by omega,jT.new hb10 ο⟩
  ·rw [NH (w:=w6) (ω.block b5 (by omega)),ζ,hb5];unfold World.frozen? World.alloc;simp
  ·rw [ω.cell (show b5< _ by omega),ζ,hb5,NJ];have :=μ.1;unfold World.cell? World.alloc;simp
 obtain⟨b13,hv13,_,q1,_⟩:=c0 (kt ν.kp.kp);refine⟨λw'=>RS w w' m n e b5 b10 t.kind (t.aA e) 0,⟨b13,0,hv13,t.ca,q1,λhc=>?_,λhc=>?_⟩,λw22 β=>?_⟩
 ·have hc:t.ca≠0:=by simpa using hc
  have hl:=LJ J hc;have hb:=bg hl;refine⟨b13,0,hv13,t.ca,q1,⟨by omega,by rw [gC hl];omega⟩,_,ν.env.get hl,⟨⟨_,ν.th.c1⟩,ν.th.f 1⟩,λw21 ς=>?_⟩;have:t.aA e=e t.ca:=Nt hc;rw [this];exact ν.zQ ς
 ·have hc:t.ca=0:=by simpa using hc
  have:t.aA e=0:=NO hc;rw [this];exact ν
 refine⟨λw'=>RS w w' m (t.nB n) (t.eB e n) b5 b10 t.kind (t.aA e) 0,HG (kt β.kp.kp) ⟨λhq=>?_,λhq=>?_⟩,λw35 ξ=>?_⟩
 ·rw [zR]at hq;have hl:=Kh J hq;have hb:=bg hl;refine⟨λw'=>Kr m w22 w',λw27 hw27=>⟨hw27▸Kr.ex (Ex.drew w22),?_⟩⟩;have x27:Ex w22 w27:=hw27▸Ex.drew w22;obtain⟨b28,hv28,_,_,q2⟩:=c0 (kt β.kp.kp);refine⟨b28,0,hv28,t.cb,λw' k=>?_,?_⟩
  ·obtain⟨b29,hv29,_,_,q3⟩:=c0 (kt (Kr.trans β.kp.kp k));have:b29=b28:=by
    have :=hv28.symm.trans hv29
    injection this with h1
    injection h1 with h1
    injection h1 with h1
    exact h1.symm
   rw [<-this];exact q3
  refine rR (β.mc.ex x27) (by omega) λBT k32 m32=>⟨Kr.trans (Kr.ex x27) k32.kp,⟨by omega,by rw [gC hl];omega⟩,?_,λw34 hw34=>?_⟩
  ·have :=(β.go (Km.trans (Km.ex x27 β.mc.lt) k32) m32).env;exact⟨⟨_,this.get hl⟩,this.f _⟩
  ·have e1:t.nB n=n+1:=NO hq;have e2:t.eB e n=aF e t.cb (n+101):=NO hq;rw [e1,e2];exact(β.go (Km.trans (Km.ex x27 β.mc.lt) k32) m32).L5 hl hw34
 ·rw [zR]at hq;have e1:t.nB n=n:=Nt (by rw [hq];simp);have e2:t.eB e n=e:=Nt (by rw [hq];simp);rw [e1,e2];exact β
 obtain⟨b37,hv37,_,_,q2⟩:=c0 (kt ξ.kp.kp);refine⟨λw'=>RS w w' m (t.nB n) (t.eB e n) b5 b10 t.kind (t.aA e) (t.bA e n),⟨b37,0,hv37,t.cb,q2,λhc=>?_,λhc=>?_⟩,λw46 r46 b47 Z hb47 hw48=>?_⟩
 ·have hc:t.cb≠0:=by simpa using hc
  have hl:=Lw J hc;have hb:=bg hl;refine⟨b37,0,hv37,t.cb,q2,⟨by omega,by rw [gC hl];omega⟩,_,ξ.env.get hl,⟨⟨_,ξ.th.c2⟩,ξ.th.f 2⟩,λw21 ς=>?_⟩;have:t.bA e n=t.eB e n t.cb:=Nt hc;rw [this];exact ξ.sa ς
 ·have hc:t.cb=0:=by simpa using hc
  have:t.bA e n=0:=NO hc;rw [this];exact ξ
 have x48:Ex w46 Z:=hw48▸Ex.alloc w46 _;have H:=r46.ex x48;have hs46:=r46.kp.size;have bd:jI w.heap.size Z b47 [] [] λg=>g=b47:=jI.new hs46 hb47 hw48
 have hn5:b47≠b5:=by have :=r46.env.hb;omega
 have hn10:b47≠b10:=by have :=r46.th.lt;omega
 have h105:=H.h5;have υ:=H.h10;have rp:RP D w Z m (t.nB n) b5 b10 b47 (t.eB e n) t v [] .nil [] (λg=>g=b47):=
  ⟨H.kp,H.mc,H.hm,H.env,H.h5,H.th.lt,kt H.kp.kp,hD,bd,λg G=> .inr ⟨by have :=bd.le;omega,by omega,by omega⟩,rfl⟩
 obtain⟨b50,hv50,q0',_,_⟩:=c0 (kt H.kp.kp);refine⟨λw'=>RJ w w' m n e b47 b10 t,⟨b50,0,hv50,t.kind,q0',?_⟩,λw143 hJ=>I3 η hJ hR⟩;have hRQ:∀g,D g->¬RQ w m b5 b10 g:=λg G e=>by
  have :=hD g G;rcases e with e | e<;>omega
 have hq5:¬RQ w m b5 b10 b5:=λe=>by
  rcases e with e | e
  ·omega
  ·exact e.2.1 rfl
 have hb47:=bd.le;have δ:∀{p:P},t.parts[0]?=some p->Ew p->Lt p->t.nB n+p.size<=1099511627776->(num t e n).2=(num p (t.eB e n) (t.nB n)).2->(∀a b vr (w':World),a=t.aA e->b=t.bA e n->Ht (λg=>(w.heap.size<=g/\g≠b47)/\g< w'.heap.size) w' (ptr b10) t.kind a b vr (.slice none 0 0)->
   aH (λg=>(w.heap.size<=g/\g≠b47)/\g< w'.heap.size) w' (flat (num p (t.eB e n) (t.nB n)).1) vr->(flat (num t e n).1).1=[]/\af (λg=>(w.heap.size<=g/\g≠b47)/\g< w'.heap.size) w' (flat (num t e n).1).2 [ptr b10])->
   ∃ε:Qx,∀φ:World,φ=World.drew Z->ε φ/\∃(b130 o131:Nat),v=Value.pointer (some ⟨b130,o131,none⟩)/\∃v132:Value,(∀w',ε w'->World.cell? w' ⟨b130,(o131+3),none⟩=some v132)/\∃(b133 o134 ι cap136:Nat),v132=Value.slice (some ⟨b133,o134,none⟩) ι cap136/\0<=(0:Int)/\(0:Int)< ι/\
    ∃v137:Value,(∀w',ε w'->World.cell? w' ⟨b133,(o134+Int.toNat 0* 1),none⟩=some v137)/\∃θ:List Value,List.length θ=26/\(∀w',ε w'->∀j,j< 26->World.cell? w' ⟨b5,0+j,none⟩=θ[j]?)/\Qy 104 #[ptr m,v137,(Value.agg (List.toArray θ))] φ (ax [.v] fun(v139:Value) (κ:World)=>
     ε κ/\oneV v139=true/\((∃u141:Value,World.cell? κ ⟨b10,3,none⟩=some u141)/\World.frozen? κ ⟨b10,3,none⟩=false)/\∀w142:World,w142=World.setCell κ ⟨b10,3,none⟩ v139->RJ w w142 m n e b47 b10 t):=by
  intro p hi hp hlp hnp e2 hth;refine⟨λw'=>Kp Z.drew w' (RQ w m b5 b10),λw2 γ=>⟨γ▸Kp.ah (Ex.refl _) _,?_⟩⟩;have x2:Ex Z w2:=γ▸Ex.drew Z;rw [<-γ];have hs12:w2.heap.size=Z.heap.size:=by rw [γ];rfl
  have r2:=H.ex x2;refine Ch (kt r2.kp.kp) hRQ r2.env hq5 (i:=0) (by omega) hi λx cs hx μ=>?_
  refine hp hx (λg G=>(hD g G).2) r2.mc μ hlp hnp λv3 w3 k3 m3 l3=>?_
  have r3:=r2.go k3 m3;have s3:=k3.size;have l3':aH (λg=>w2.heap.size<=g/\g< w3.heap.size) w3 (flat (num p (t.eB e n) (t.nB n)).1) v3:=l3.sub λg G hd=>⟨hd,G⟩
  have hb10lt:=r2.th.lt;have hb47lt:=bd.lt;refine⟨Kp.mono (λg G=> .inl G) k3.kp,fL.one l3,⟨⟨_,r3.th.c3⟩,r3.th.f 3⟩,λw4 hw4=>?_⟩;have k4:Kr b10 w3 w4:=hw4▸Kr.set w3 3 _;have s4:=k4.size;have th4:=r3.th.DP hw4;have s2:=r2.kp.size;have hl4:aH (λg=>(w.heap.size<=g/\g≠b47)/\g< w4.heap.size) w4 (flat (num p (t.eB e n) (t.nB n)).1) v3:=aH.sub (aH.kp l3' k4 λg G e=>by omega) λg _ G=>⟨⟨by omega,by omega⟩,by omega⟩
  obtain⟨e4,h4⟩:=hth _ _ v3 w4 rfl rfl (th4.Le ⟨⟨υ,P' hn10⟩,th4.lt⟩) hl4;refine⟨r3.kp.out k4 (λg G e=>by omega) η,?_,?_,e4,h4⟩
  ·rw [e2];exact m3.kp k4 (by omega)
  ·exact((bd.ex x2).kp k3.kp λg G e=>by omega).kp k4 λg G e=>by omega
 have hn0:∀{i:Int},0<=i->i.toNat=i.toNat:=λ _=>rfl
 cases t with
 | nil=>exact cI rfl (hR _ _ H.kp H.mc rp.done)
 | par p q=>
  refine aR (by dsimp only [T.kind];decide) (cI rfl ?_);have e1:n+(1+p.size+q.size)<=1099511627776:=by simpa only [T.size,O',Nat.add_comm,Nat.add_left_comm]using hn
  have h1:=bI p e n;have h2:=iO (num p e n).1;rw [h1.1]at h2;refine rp.step (i:=0) (ih p (by simp [T.parts])) (by omega) rfl J.1 (show n+p.size<=_ by omega) (by simp only [Np];omega) (by simp only [Lv.len];omega) λw2 ts2 M2 h=>?_
  refine h.step (i:=1) (ih q (by simp [T.parts])) (by omega) rfl J.2 (show(num p e n).2+q.size<=_ by omega) ?_ ?_ λw3 ts3 M3 h=>hR _ _ h.kp h.mc h.done
  ·show(flat (num p e n).1).1.length+q.size<=_;omega
  ·show(flat (num p e n).1).2.len+q.size<=_;omega
 | res x p=>
  refine aR (by dsimp only [T.kind];decide) (aR (by dsimp only [T.kind];decide) (cI rfl ?_));have e1:n+(1+p.size)<=1099511627776:=by simpa only [T.size,O',Nat.add_comm,Nat.add_left_comm]using hn
  have hx0:x≠0:=λhx=>by have :=bg J.1;rw [hx]at this;exact absurd this.1 (by decide)
  have e2:T.bA (.res x p) e n=n+101:=by simp [T.bA,T.cb,hx0,T.eB,T.bnd,aF]
  refine⟨_,H.th.c2,λb82 w83 hb82 χ=>?_⟩;have x83:Ex Z w83:=χ▸Ex.alloc Z _;have bd83:=bd.ex x83;obtain⟨vo,_,hvo,_⟩:=bd83.sl;refine⟨rfl,⟨⟨vo,hvo⟩,bd83.fr 0⟩,λw85 hw85=>?_⟩;rw [e2]at χ;have bd85:=bd.L3 (e:=0) hb82 χ hw85;have ψ:Kr b47 Z w85:=Kp.trans (Kp.ah x83 _) (hw85▸Kr.set w83 0 _) λ _ _ h=>h
  have s85:=ψ.size;have hl5:=H.env.hb;have hl10:=H.th.lt;have hs48:=H.kp.size;have rp85:RP D w w85 m (n+1) b5 b10 b47 (aF e x (n+101)) (.res x p) v [n+101] .nil [] (λg=>g=b47\/g=b82):=
   ⟨H.kp.out ψ (λg G e=>by omega) η,H.mc.kp ψ (by omega),η,H.env.kp ψ (by omega),h105,by omega,aI.kp ψ (λg G e=>by have :=hD g G;omega) rp.tm,hD,bd85,λg G=> .inr (by
    rcases G with rfl | rfl
    ·exact⟨by omega,by omega,by omega⟩
    ·exact⟨by omega,by omega,by omega⟩),rfl⟩
  exact rp85.step (i:=0) (ih p (by simp [T.parts])) (by omega) rfl J.2 (by omega) (by simp only [M0,Np];omega) (by simp only [Lv.len];omega) λw2 ts2 M2 h=>hR _ _ h.kp h.mc h.done
 | sum p q=>
  refine aR (by dsimp only [T.kind];decide) (aR (by dsimp only [T.kind];decide) (aR (by dsimp only [T.kind];decide) (cI rfl ?_)));have e1:n+(1+p.size+q.size)<=1099511627776:=by simpa only [T.size,O',Nat.add_comm,Nat.add_left_comm]using hn
  have h1:=bI p e n;refine⟨λw'=>Kp Z.drew w' (RQ w m b5 b10),λw2 γ=>⟨γ▸Kp.ah (Ex.refl _) _,?_⟩⟩;have x2:Ex Z w2:=γ▸Ex.drew Z;rw [<-γ];have hs12:w2.heap.size=Z.heap.size:=by rw [γ];rfl
  have r2:=H.ex x2;refine Ch (kt r2.kp.kp) hRQ r2.env hq5 (i:=0) (by omega) rfl λx cs hx μ=>?_
  refine Ch (kt r2.kp.kp) hRQ r2.env hq5 (i:=1) (by omega) rfl λy cs' hy hcs'=>?_
  refine ih p (by simp [T.parts]) hx (λg G=>(hD g G).2) r2.mc μ J.1 (show n+p.size<=_ by omega) λv3 w3 k3 m3 l3=>?_
  have r3:=r2.go k3 m3;have s3:=k3.size;have l3':aH (λg=>w2.heap.size<=g/\g< w3.heap.size) w3 (flat (num p e n).1) v3:=l3.sub λg G hd=>⟨hd,G⟩
  refine⟨Kp.mono (λg G=> .inl G) k3.kp,?_⟩;refine ih q (by simp [T.parts]) (aI.kp k3.kp (λg G=>(hD g G).2) hy) (λg G=>(hD g G).2) m3 hcs' J.2 (show(num p e n).2+q.size<=_ by omega) λv4 w4 k4 m4 l4=>?_
  have r4:=r3.go k4 m4;have s4:=k4.size;have l4':aH (λg=>w3.heap.size<=g/\g< w4.heap.size) w4 (flat (num q e (num p e n).2).1) v4:=l4.sub λg G hd=>⟨hd,G⟩
  have k24:Kr m w2 w4:=Kr.trans k3.kp k4.kp;refine⟨Kp.mono (λg G=> .inl G) k24,fL.one l3,fL.one l4,λb124 w5 hb124 hw5=>?_⟩;have x5:Ex w4 w5:=hw5▸Ex.alloc w4 _;have s5:w5.heap.size=w4.heap.size+1:=by rw [hw5,size_alloc]
  have r5:=r4.ex x5;refine⟨Kp.trans (Kp.mono (λg G=> .inl G) k24) (Kp.ah x5 λ _=>False) λ _ _ h=>h.elim,rfl,⟨⟨_,r5.th.c4⟩,r5.th.f 4⟩,λw6 ζ=>?_⟩;have k6:Kr b10 w5 w6:=ζ▸Kr.set w5 4 _;have s6:=k6.size;have th6:=r5.th.Kt ζ;have s2:=r2.kp.size;have hb10lt:=r2.th.lt;have hb47lt:=bd.lt;refine⟨r5.kp.out k6 (λg G e=>by omega) η,r5.mc.kp k6 (by omega),?_,rfl,?_⟩
  ·exact(((bd.ex x2).kp k24 λg G e=>by omega).ex x5).kp k6 λg G e=>by omega
  ·have hl3:aH (λg=>(w.heap.size<=g/\g≠b47)/\g< w6.heap.size) w6 (flat (num p e n).1) v3:=aH.sub (aH.kp (aH.ex (aH.kp l3' k4.kp λg G e=>by omega) x5) k6 λg G e=>by omega) λg _ G=>⟨⟨by omega,by omega⟩,by omega⟩
   have hl4:aH (λg=>(w.heap.size<=g/\g≠b47)/\g< w6.heap.size) w6 (flat (num q e (num p e n).2).1) v4:=aH.sub (aH.kp (aH.ex l4' x5) k6 λg G e=>by omega) λg _ G=>⟨⟨by omega,by omega⟩,by omega⟩
   refine⟨_,_,_,_,_,[v3,v4],rfl,th6.Le ⟨⟨υ,P' hn10⟩,th6.lt⟩,.inr ⟨b124,0,2,rfl,⟨⟨by omega,by omega⟩,by omega⟩,by omega,λi z hz=>?_⟩,⟨v3,_,rfl,hl3,⟨v4,_,rfl,hl4,rfl⟩⟩,rfl⟩;rw [M5 (w:=w5) (k6.block b124 (by omega) (by omega)),hw5,hb124,NJ];refine aa ?_
   match i,hz with
   | 0,hz=>simpa using hz
   | 1,hz=>simpa using hz
   | i+2,hz=>simp at hz
 | snd a b p=>
  refine aR (by dsimp only [T.kind];decide) (aR (by dsimp only [T.kind];decide) (aR (by dsimp only [T.kind];decide) (aR (by dsimp only [T.kind];decide) ?_)));refine δ rfl (ih p (by simp [T.parts])) J.2.2 (show n+p.size<=_ by simp only [T.size]at hn;omega) rfl λa' b' vr w' ha hb h1 h2=>⟨rfl,?_⟩
  have ea:a'=e a:=by rw [ha];exact Nt λhx=>by have :=bg J.1;rw [show a=0 from hx]at this;exact absurd this.1 (by decide)
  have eb:b'=e b:=by rw [hb];exact Nt λhx=>by have :=bg J.2.1;rw [show b=0 from hx]at this;exact absurd this.1 (by decide)
  exact⟨_,_,_,_,_,rfl,h1,.inr (.inr ⟨ea,eb⟩),h2,rfl⟩
 | mat a b p=>
  refine aR (by dsimp only [T.kind];decide) (aR (by dsimp only [T.kind];decide) (aR (by dsimp only [T.kind];decide) (aR (by dsimp only [T.kind];decide) ?_)));refine δ rfl (ih p (by simp [T.parts])) J.2.2 (show n+p.size<=_ by simp only [T.size]at hn;omega) rfl λa' b' vr w' ha hb h1 h2=>⟨rfl,?_⟩
  have ea:a'=e a:=by rw [ha];exact Nt λhx=>by have :=bg J.1;rw [show a=0 from hx]at this;exact absurd this.1 (by decide)
  have eb:b'=e b:=by rw [hb];exact Nt λhx=>by have :=bg J.2.1;rw [show b=0 from hx]at this;exact absurd this.1 (by decide)
  exact⟨_,_,_,_,_,rfl,h1,.inr (.inr ⟨ea,eb⟩),h2,rfl⟩
 | rcv a b p=>
  refine aR (by dsimp only [T.kind];decide) (aR (by dsimp only [T.kind];decide) (aR (by dsimp only [T.kind];decide) (aR (by dsimp only [T.kind];decide) ?_)));refine δ rfl (ih p (by simp [T.parts])) J.2.2 (show n+1+p.size<=_ by simp only [T.size]at hn;omega) rfl λa' b' vr w' ha hb h1 h2=>⟨rfl,?_⟩
  have ea:a'=e a:=by rw [ha];exact Nt λhx=>by have :=bg J.1;rw [show a=0 from hx]at this;exact absurd this.1 (by decide)
  have eb:b'=n+101:=by
   rw [hb];refine(Nt λhx=>by have :=bg J.2.1;rw [show b=0 from hx]at this;exact absurd this.1 (by decide)).trans ?_;simp [T.eB,T.bnd,aF,T.cb]
  exact⟨_,_,_,_,_,rfl,h1,.inr (.inr ⟨ea,eb⟩),h2,rfl⟩
 | tau p=>
  refine aR (by dsimp only [T.kind];decide) (aR (by dsimp only [T.kind];decide) (aR (by dsimp only [T.kind];decide) (aR (by dsimp only [T.kind];decide) ?_)));exact δ rfl (ih p (by simp [T.parts])) J (show n+p.size<=_ by simp only [T.size]at hn;omega) rfl λa' b' vr w' ha hb h1 h2=>⟨rfl,⟨_,_,_,_,_,rfl,h1,.inl rfl,h2,rfl⟩⟩
 | rep p=>
  refine aR (by dsimp only [T.kind];decide) (aR (by dsimp only [T.kind];decide) (aR (by dsimp only [T.kind];decide) (aR (by dsimp only [T.kind];decide) ?_)));exact δ rfl (ih p (by simp [T.parts])) J (show n+p.size<=_ by simp only [T.size]at hn;omega) rfl λa' b' vr w' ha hb h1 h2=>⟨rfl,⟨_,_,_,_,_,rfl,h1,.inr (.inl rfl),h2,rfl⟩⟩
def nv:∀{l:List Nat} {x:Nat},x∈l->x<=l.sum
 | y::l,x,h=>by
  rw [Ol];rcases Nw.1 h with rfl | h
  ·omega
  ·have :=nv h;omega
def Jw:∀t:P,Ew t:=by
 have:∀(k:Nat) (t:P),t.size<=k->Ew t:=by
  intro k
  induction k with
  | zero=>intro t h;have :=aU t;omega
  | succ k G=>
   intro t h;refine GX λp H=>G p ?_
   have e:=sH t;have:p.size<=(t.parts.map T.size).sum:=nv (NT.2 ⟨p,H,rfl⟩);omega
 exact λt=>this t.size t (Nc _)
attribute [go_sem] Tryz.f151
def mo (s1:Value)(w:World)(R:Value->Qx)(h:vc az (aZ [] [] []) (ab Tryz.f151) (ai 0 [.v s1]) w (fin az [.tmp 2 .v] R)):
  Qy 151 #[s1] w (ax [.v] R):=
 a7 Tryz.func151 (by kernel_rfl) h
attribute [go_sem] Tryz.f173
def jN (G:Value)(w:World)(R:Bool->Qx)(h:vc az (aZ [] [] []) (ab Tryz.f173) (ai 0 [.v G]) w (fin az [.tmp 2 .b] R)):
  Qy 173 #[G] w (ax [.b] R):=
 a7 Tryz.func173 (by kernel_rfl) h
attribute [go_sem] Tryz.f174
def lZ (G:Value)(w:World)(R:Bool->Qx)(h:vc az (aZ [] [] []) (ab Tryz.f174) (ai 0 [.v G]) w (fin az [.tmp 2 .b] R)):
  Qy 174 #[G] w (ax [.b] R):=
 a7 Tryz.func174 (by kernel_rfl) h
attribute [go_sem] Tryz.f224
def mg (t1:Value)(c2:Value)(w:World)(R:Bool->Qx)(h:vc az (aZ [] [] []) (ab Tryz.f224) (ai 0 [.v t1,.v c2]) w (fin az [.tmp 3 .b] R)):
  Qy 224 #[t1,c2] w (ax [.b] R):=
 a7 Tryz.func224 (by kernel_rfl) h
attribute [go_sem] Tryz.f219
def gk (s1:Value)(f2:Value)(w:World)(R:Int->Qx)(h:vc az (aZ [(2,[(8,.i)])] [] []) (ab Tryz.f219) (ai 0 [.v s1,.v f2]) w (fin az [.tmp 4 .i] R)):
  Qy 219 #[s1,f2] w (ax [.i] R):=
 a7 Tryz.func219 (by kernel_rfl) h
attribute [go_sem] Tryz.f176
def ft (s1:Value)(f2:Value)(w:World)(R:Bool->Qx)(h:vc az (aZ [] [] []) (ab Tryz.f176) (ai 0 [.v s1,.v f2]) w (fin az [.tmp 4 .b] R)):
  Qy 176 #[s1,f2] w (ax [.b] R):=
 a7 Tryz.func176 (by kernel_rfl) h
attribute [go_sem] Tryz.f188
def oN (G:Value)(H:Int)(w:World)(R:Bool->Qx)(h:vc az (aZ [] [] []) (ab Tryz.f188) (ai 0 [.v G,.i H]) w (fin az [.tmp 4 .b] R)):
  Qy 188 #[G,(.int .i64 H)] w (ax [.b] R):=
 a7 Tryz.func188 (by kernel_rfl) h
attribute [go_sem] Tryz.f221
def lk (G:Value)(c2:Value)(w:World)(R:Bool->Qx)(h:vc az (aZ [] [] []) (ab Tryz.f221) (ai 0 [.v G,.v c2]) w (fin az [.tmp 3 .b] R)):
  Qy 221 #[G,c2] w (ax [.b] R):=
 a7 Tryz.func221 (by kernel_rfl) h
attribute [go_sem] Tryz.f252
def gK (s1:Value)(f2:Value)(w:World)(R:Int->Qx)(h:vc az (aZ [(2,[(8,.i)])] [] []) (ab Tryz.f252) (ai 0 [.v s1,.v f2]) w (fin az [.tmp 4 .i] R)):
  Qy 252 #[s1,f2] w (ax [.i] R):=
 a7 Tryz.func252 (by kernel_rfl) h
attribute [go_sem] Tryz.f220
def fJ (s1:Value)(f2:Value)(w:World)(R:Bool->Qx)(h:vc az (aZ [] [] []) (ab Tryz.f220) (ai 0 [.v s1,.v f2]) w (fin az [.tmp 4 .b] R)):
  Qy 220 #[s1,f2] w (ax [.b] R):=
 a7 Tryz.func220 (by kernel_rfl) h
attribute [go_sem] Tryz.f178
def ng (t1:Value)(G:Int)(w:World)(R:Bool->Qx)(h:vc az (aZ [] [(2,[(5,.b)]),(4,[])] [(2,true,.lt 0 (.lt 1 (.lt 2 (.lt 3 (.lt 4 (.lt 5 (.lt 6 (.lt 7 (.lt 8 (.lt 9 (.lt 10 (.lt 11 (.lt 12 (.lt 13 (.lt 14 (.lt 15 (.lt 16 .done))))))))))))))))),(4,true,.lt 0 (.lt 1 (.lt 2 (.lt 3 (.lt 4 (.lt 5 (.lt 6 (.lt 7 (.lt 8 (.lt 9 (.lt 10 (.one .g 11 (.lt 12 (.lt 13 (.lt 14 (.lt 15 (.lt 16 (.lt 17 (.lt 18 (.one .g 19 (.lt 20 (.lt 21 .done))))))))))))))))))))))]) (ab Tryz.f178) (ai 0 [.v t1,.i G]) w (fin az [.tmp 4 .b] R)):
  Qy 178 #[t1,(.int .i64 G)] w (ax [.b] R):=
 a7 Tryz.func178 (by kernel_rfl) h
attribute [go_sem] Tryz.f177
def hU (t1:Value)(c2:Value)(w:World)(R:Bool->Qx)(h:vc az (aZ [] [] []) (ab Tryz.f177) (ai 0 [.v t1,.v c2]) w (fin az [.tmp 3 .b] R)):
  Qy 177 #[t1,c2] w (ax [.b] R):=
 a7 Tryz.func177 (by kernel_rfl) h
attribute [go_sem] Tryz.f175
def jz (G:Int)(c2:Value)(w:World)(R:Bool->Qx)(h:vc az (aZ [] [] []) (ab Tryz.f175) (ai 0 [.i G,.v c2]) w (fin az [.tmp 3 .b] R)):
  Qy 175 #[(.int .i64 G),c2] w (ax [.b] R):=
 a7 Tryz.func175 (by kernel_rfl) h
attribute [go_sem] Tryz.f197
def iz (s1:Value)(f2:Value)(w:World)(R:Int->Qx)(h:vc az (aZ [(2,[(8,.i)])] [] []) (ab Tryz.f197) (ai 0 [.v s1,.v f2]) w (fin az [.tmp 4 .i] R)):
  Qy 197 #[s1,f2] w (ax [.i] R):=
 a7 Tryz.func197 (by kernel_rfl) h
attribute [go_sem] Tryz.f150
def il (s1:Value)(d2:Value)(w:World)(R:Value->Qx)(h:vc az (aZ [(5,[(5,.i),(6,.i)])] [] []) (ab Tryz.f150) (ai 0 [.v s1,.v d2]) w (fin az [.tmp 4 .v] R)):
  Qy 150 #[s1,d2] w (ax [.v] R):=
 a7 Tryz.func150 (by kernel_rfl) h
def kA (l1:Value)(w:World)(R:Value->Qx)(h:cJ l1 λb2 o3=>fW w b2 (o3+0) λv4=>GI 151 #[v4] w λv5 w6=>oneV v5=true/\jF w6 (.cells #[v5,(.slice none 0 0)] 129) λb7 w8=>jF w8 (.cells #[(.pointer none)] 59) λb9 w10=>pb w10 b9 0 (.pointer (some ⟨b7,0,none⟩)) λw12=>cJ l1 λb13 o14=>fW w12 b13 (o14+1) λv15=>uC v15 λl17=>Hm 0 w12 λβ m20 G J=>dP (decide (G< (l17:Int))) (vQ v15 G λb23 o24=>fW J b23 (o24+G.toNat* 1) λγ=>qg J λS28 w29=>cJ γ λb30 o31=>LP S28 b30 (o31+0) λc32=>cJ γ λb33 o34=>yO S28 b33 (o34+1) λn35=>cJ γ λb36 o37=>yO S28 b36 (o37+2) λn38=>jF w29 (.cells #[(.int .u8 c32.toNat),(.int .i64 n35),(.int .i64 n38),(.pointer none),(.slice none 0 0)] 191) λb39 ο=>S28 ο/\cJ γ λb41 o42=>CH ο b41 (o42+0) λc43=>dP (decide (c43=43)) (cJ γ λb44 o45=>fW ο b44 (o45+4) λv46=>uC v46 λl48=>Hm 0 ο λI50 ς Z δ=>dP (decide (Z< (l48:Int))) (vQ v46 Z λb54 o55=>fW δ b54 (o55+Z.toNat* 1) λv58=>GI 106 #[v58] δ λv59 w60=>Hv 173 #[v59] w60 λq61 w62=>dP q61 (cW (Z+1)/\I50 (Z+1) w62/\ς (Z+1) w62< ς Z δ) (Hv 174 #[v59] w62 λq63 w64=>dP q63 (qg w64 λυ w66=>gG υ b39 4 λv67=>cJ v59 λb68 o69=>gG υ b68 (o69+1) λv70=>vQ v70 0 λb71 o72=>gG υ b71 (o72+Int.toNat 0* 1) λv75=>cJ v75 λb76 o77=>gG υ b76 (o77+4) λv78=>um 59 1 8 w66 v67 v78 λv84 w85=>υ w85/\oneV v84=true/\pb w85 b39 4 v84 λw87=>cW (Z+1)/\I50 (Z+1) w87/\ς (Z+1) w87< ς Z δ) (fW w64 b39 4 λv88=>oneV v59=true/\jF w64 (.cells #[v59] 59) λb89 w90=>um 59 1 8 w90 v88 (.slice (some ⟨b89,0,none⟩) 1 1) λv96 w97=>oneV v96=true/\pb w97 b39 4 v96 λw99=>cW (Z+1)/\I50 (Z+1) w99/\ς (Z+1) w99< ς Z δ))) (fW δ b39 4 λv100=>uC v100 λl102=>dP (decide ((l102:Int)=0)) (cW (G+1)/\β (G+1) δ/\m20 (G+1) δ< m20 G J) (dP (decide ((l102:Int)=1)) (qg δ λν w105=>gG ν b9 0 λv106=>gG ν b39 4 λv107=>vQ v107 0 λb108 o109=>gG ν b108 (o109+Int.toNat 0* 1) λv112=>fC 153 #[v106,v112] w105 λφ=>ν φ/\cW (G+1)/\β (G+1) φ/\m20 (G+1) φ< m20 G J) (qg δ λε w115=>gG ε b9 0 λv116=>gG ε b9 0 λv117=>cJ v117 λb118 o119=>gG ε b118 (o119+1) λv120=>jF w115 (.cells #[(.pointer (some ⟨b39,0,none⟩))] 130) λb121 w122=>ε w122/\um 130 1 8 w122 v120 (.slice (some ⟨b121,0,none⟩) 1 1) λv128 w129=>ε w129/\cJ v116 λb130 o131=>oneV v128=true/\pb w129 b130 (o131+1) v128 λw133=>cW (G+1)/\β (G+1) w133/\m20 (G+1) w133< m20 G J)))) (cJ γ λb134 o135=>fW ο b134 (o135+3) λv136=>GI 106 #[v136] ο λv137 w138=>oneV v137=true/\pb w138 b39 3 v137 λw140=>qg w140 λχ H=>cJ γ λb143 o144=>LP χ b143 (o144+0) λc145=>dP (decide (c145=61)) (cJ γ λb146 o147=>yO χ b146 (o147+1) λn148=>cJ γ λb149 o150=>yO χ b149 (o150+2) λn151=>dP (decide (n148=n151)) (qg H λS152 w153=>gG S152 b9 0 λv154=>gG S152 b39 3 λv155=>fC 153 #[v154,v155] w153 λw156=>cW (G+1)/\β (G+1) w156/\m20 (G+1) w156< m20 G J) (cJ γ λb157 o158=>CH H b157 (o158+0) λc159=>Iv (decide (c159=61)) (cJ γ λb160 o161=>CH H b160 (o161+0) λc162=>dP (decide (c162=42)) (fW H b39 3 λv163=>Hv 173 #[v163] H λq164 ψ=>dP q164 (cW (G+1)/\β (G+1) ψ/\m20 (G+1) ψ< m20 G J) (qg ψ λζ w167=>gG ζ b9 0 λv168=>gG ζ b9 0 λv169=>cJ v169 λb170 o171=>gG ζ b170 (o171+1) λv172=>jF w167 (.cells #[(.pointer (some ⟨b39,0,none⟩))] 130) λb173 w174=>ζ w174/\um 130 1 8 w174 v172 (.slice (some ⟨b173,0,none⟩) 1 1) λv180 w181=>ζ w181/\cJ v168 λb182 o183=>oneV v180=true/\pb w181 b182 (o183+1) v180 λw185=>cW (G+1)/\β (G+1) w185/\m20 (G+1) w185< m20 G J)) (qg H λη w187=>gG η b9 0 λv188=>gG η b9 0 λv189=>cJ v189 λb190 o191=>gG η b190 (o191+1) λv192=>jF w187 (.cells #[(.pointer (some ⟨b39,0,none⟩))] 130) λb193 w194=>η w194/\um 130 1 8 w194 v192 (.slice (some ⟨b193,0,none⟩) 1 1) λv200 w201=>η w201/\cJ v188 λb202 o203=>oneV v200=true/\pb w201 b202 (o203+1) v200 λw205=>cW (G+1)/\β (G+1) w205/\m20 (G+1) w205< m20 G J)) (fW H b39 3 λv206=>Hv 173 #[v206] H λq207 ω=>dP q207 (cW (G+1)/\β (G+1) ω/\m20 (G+1) ω< m20 G J) (qg ω λθ w210=>gG θ b9 0 λv211=>gG θ b9 0 λv212=>cJ v212 λb213 o214=>gG θ b213 (o214+1) λv215=>jF w210 (.cells #[(.pointer (some ⟨b39,0,none⟩))] 130) λb216 w217=>θ w217/\um 130 1 8 w217 v215 (.slice (some ⟨b216,0,none⟩) 1 1) λv223 w224=>θ w224/\cJ v211 λb225 o226=>oneV v223=true/\pb w224 b225 (o226+1) v223 λw228=>cW (G+1)/\β (G+1) w228/\m20 (G+1) w228< m20 G J)))) (cJ γ λb229 o230=>CH H b229 (o230+0) λc231=>Iv (decide (c231=61)) (cJ γ λb232 o233=>CH H b232 (o233+0) λc234=>dP (decide (c234=42)) (fW H b39 3 λv235=>Hv 173 #[v235] H λq236 w237=>dP q236 (cW (G+1)/\β (G+1) w237/\m20 (G+1) w237< m20 G J) (qg w237 λι w239=>gG ι b9 0 λv240=>gG ι b9 0 λv241=>cJ v241 λb242 o243=>gG ι b242 (o243+1) λv244=>jF w239 (.cells #[(.pointer (some ⟨b39,0,none⟩))] 130) λb245 w246=>ι w246/\um 130 1 8 w246 v244 (.slice (some ⟨b245,0,none⟩) 1 1) λv252 w253=>ι w253/\cJ v240 λb254 o255=>oneV v252=true/\pb w253 b254 (o255+1) v252 λw257=>cW (G+1)/\β (G+1) w257/\m20 (G+1) w257< m20 G J)) (qg H λκ w259=>gG κ b9 0 λv260=>gG κ b9 0 λv261=>cJ v261 λb262 o263=>gG κ b262 (o263+1) λv264=>jF w259 (.cells #[(.pointer (some ⟨b39,0,none⟩))] 130) λb265 w266=>κ w266/\um 130 1 8 w266 v264 (.slice (some ⟨b265,0,none⟩) 1 1) λv272 w273=>κ w273/\cJ v260 λb274 o275=>oneV v272=true/\pb w273 b274 (o275+1) v272 λw277=>cW (G+1)/\β (G+1) w277/\m20 (G+1) w277< m20 G J)) (fW H b39 3 λv278=>Hv 173 #[v278] H λq279 w280=>dP q279 (cW (G+1)/\β (G+1) w280/\m20 (G+1) w280< m20 G J) (qg w280 λμ w282=>gG μ b9 0 λv283=>gG μ b9 0 λv284=>cJ v284 λb285 o286=>gG μ b285 (o286+1) λv287=>jF w282 (.cells #[(.pointer (some ⟨b39,0,none⟩))] 130) λb288 w289=>μ w289/\um 130 1 8 w289 v287 (.slice (some ⟨b288,0,none⟩) 1 1) λv295 w296=>μ w296/\cJ v283 λb297 o298=>oneV v295=true/\pb w296 b297 (o298+1) v295 λw300=>cW (G+1)/\β (G+1) w300/\m20 (G+1) w300< m20 G J))))) (qg J λξ w302=>gG ξ b9 0 λv303=>gG ξ b9 0 λv304=>cJ v304 λb305 o306=>gG ξ b305 (o306+0) λv307=>GI 150 #[v307,(Value.func (Fn.func 175) #[] #[(.pointer (some ⟨b9,0,none⟩))])] w302 λv308 w309=>ξ w309/\cJ v303 λb310 o311=>oneV v308=true/\pb w309 b310 (o311+0) v308 λw313=>fW w313 b9 0 λv314=>R v314 w313)):
  Qy 106 #[l1] w (ax [.v] R):=
 Lf (aZ [(3,[(22,.i)]),(8,[(50,.i)])] [] [(5,true,.lt 0 (.lt 1 (.lt 2 (.lt 3 (.lt 4 (.lt 5 (.lt 6 (.lt 7 (.lt 8 (.lt 9 (.lt 10 (.lt 11 (.lt 12 (.one .g 13 (.lt 14 .done))))))))))))))),(14,true,.lt 0 (.lt 1 (.lt 2 (.lt 3 (.lt 4 (.lt 5 (.lt 6 (.lt 7 (.lt 8 (.lt 9 (.lt 10 (.lt 11 (.lt 12 (.lt 13 (.one .g 14 (.lt 15 (.lt 16 (.one .n 17 .done)))))))))))))))))),(17,true,.lt 0 (.lt 1 (.lt 2 (.lt 3 (.lt 4 (.lt 5 (.one .g 6 (.one .g 7 (.lt 8 (.lt 9 (.one .n 10 .done))))))))))),(20,true,.lt 0 (.lt 1 (.lt 2 (.lt 3 (.lt 4 (.lt 5 (.lt 6 (.one .g 7 .done)))))))),(22,true,.lt 0 (.lt 1 (.lt 2 (.lt 3 (.lt 4 (.lt 5 (.one .g 6 (.one .g 7 (.lt 8 (.lt 9 (.one .n 10 .done))))))))))),(23,true,.lt 0 (.lt 1 (.lt 2 (.lt 3 (.lt 4 (.lt 5 (.lt 6 (.lt 7 (.lt 8 (.lt 9 (.lt 10 (.lt 11 (.lt 12 (.lt 13 (.lt 14 (.lt 15 (.lt 16 .done))))))))))))))))),(24,true,.lt 0 (.lt 1 (.lt 2 (.lt 3 (.lt 4 (.one .n 5 .done)))))),(27,true,.lt 0 (.lt 1 (.lt 2 (.lt 3 (.lt 4 (.lt 5 (.one .g 6 (.lt 7 (.lt 8 (.one .n 9 .done))))))))))]) [.tmp 2 .v] [.v l1] Tryz.func106 (by kernel_rfl) h
namespace Lv
def sz:Lv->Nat
 | nil=>0 | thr _ _ _ _ r n=>r.sz+n.sz+1 | sum ps n=>ps.sz+n.sz+1 | part _ q n=>q.sz+n.sz+1
def sh:Bool->Lv->Bool
 | _,nil=>true
 | true,thr _ _ _ _ r n=>sh true r&&sh true n
 | true,sum ps n=>sh false ps&&sh true n
 | false,part _ q n=>sh true q&&sh false n
 | _,_=>false
def a8:Lv->List Lv
 | nil=>[] | thr k a b o r n=>thr k a b o r nil::a8 n | sum ps n=>sum ps nil::a8 n | part o q n=>part o q nil::a8 n
def cu:∀l:Lv,l.a8.length=l.len
 | nil=>rfl
 | thr _ _ _ _ _ n=>by simp only [a8,len,M0,cu n]
 | sum _ n=>by simp only [a8,len,M0,cu n]
 | part _ _ n=>by simp only [a8,len,M0,cu n]
def dQ:∀(l:Lv),∀e∈l.a8,e.sz<=l.sz
 | nil,_,h=>by cases h
 | thr k a b o r n,e,h=>by
  rcases Nw.1 h with rfl | h
  ·simp only [sz];omega
  ·have :=dQ n e h;simp only [sz];omega
 | sum ps n,e,h=>by
  rcases Nw.1 h with rfl | h
  ·simp only [sz];omega
  ·have :=dQ n e h;simp only [sz];omega
 | part o q n,e,h=>by
  rcases Nw.1 h with rfl | h
  ·simp only [sz];omega
  ·have :=dQ n e h;simp only [sz];omega
def lH (x:Nat):∀l:Lv,l.has x=l.a8.any (·.has x)
 | nil=>rfl
 | thr k a b o r n=>by simp [a8,has,lH x n]
 | sum ps n=>by simp [a8,has,lH x n]
 | part o q n=>by simp [a8,has,lH x n]
def jh:∀{l:Lv},l.sh true=true->∀e∈l.a8,(∃k a b o r,e=thr k a b o r nil/\r.sh true=true)\/∃ps,e=sum ps nil/\ps.sh false=true
 | nil,_,_,h=>by cases h
 | thr k a b o r n,G,e,h=>by
  simp only [sh,M8]at G;rcases Nw.1 h with rfl | h
  ·exact .inl ⟨k,a,b,o,r,rfl,G.1⟩
  ·exact jh G.2 e h
 | sum ps n,G,e,h=>by
  simp only [sh,M8]at G;rcases Nw.1 h with rfl | h
  ·exact .inr ⟨ps,rfl,G.1⟩
  ·exact jh G.2 e h
 | part ..,G,_,_=>by cases G
def lI:∀{l:Lv},l.sh false=true->∀e∈l.a8,∃o q,e=part o q nil/\q.sh true=true
 | nil,_,_,h=>by cases h
 | part o q n,G,e,h=>by
  simp only [sh,M8]at G;rcases Nw.1 h with rfl | h
  ·exact⟨o,q,rfl,G.1⟩
  ·exact lI G.2 e h
 | thr ..,G,_,_=>by cases G
 | sum ..,G,_,_=>by cases G
def gF {b:Bool}:∀{l m:Lv},l.sh b=true->m.sh b=true->(l.app m).sh b=true
 | nil,_,_,h=>h
 | thr _ _ _ _ r n,m,h1,G=>by
  cases b
  ·cases h1
  ·simp only [sh,app,M8]at*;exact⟨h1.1,gF h1.2 G⟩
 | sum ps n,m,h1,G=>by
  cases b
  ·cases h1
  ·simp only [sh,app,M8]at*;exact⟨h1.1,gF h1.2 G⟩
 | part o q n,m,h1,G=>by
  cases b
  ·simp only [sh,app,M8]at*;exact⟨h1.1,gF h1.2 G⟩
  ·cases h1
end Lv
def aO.cons {A B:Type}{R:A->B->Prop}{a:A}{b:B}{l:List A}{m:List B}(h:R a b)(G:aO R l m):aO R (a::l) (b::m):=(aO.one h).append G
def af.a8 {D:Nat->Prop}{w:World}:∀{l:Lv} {ts:List Value},af D w l ts->aO (λe v=>af D w e [v]) l.a8 ts
 | .nil,_,h=>by cases h;exact aO.nil
 | .thr k a b o r n,_,⟨t,G,a',Z,vr,h1,H,J,h4,h5⟩=>by subst h1;exact aO.cons ⟨t,[],a',Z,vr,rfl,H,J,h4,rfl⟩ (af.a8 (l:=n) h5)
 | .sum ps n,_,⟨t,G,a',Z,vp,us,h1,H,J,h4,h5⟩=>by subst h1;exact aO.cons ⟨t,[],a',Z,vp,us,rfl,H,J,h4,rfl⟩ (af.a8 (l:=n) h5)
 | .part o q n,_,⟨v,G,h1,H,J⟩=>by subst h1;exact aO.cons ⟨v,[],rfl,H,rfl⟩ (af.a8 (l:=n) J)
def dG.ex {D:Nat->Prop}{w w':World}{v:Value}{l:List Value}(h:dG D w v l)(x:Ex w w'):dG D w' v l:=h.kp (Kp.ah x λ _=>False) λ _ _ h=>h
def zm (w:World)(f:Nat)(ca:List Value)(ts:List Value)(p:Nat->Bool):Prop:=
 ∀(i:Nat) (x:Value) (w1:World),ts[i]?=some x->Ex w w1->∀{R:Bool->Qx},(∀G,Ex w1 G->R (p i) G)->Qy f (List.toArray ([x]++ca)) w1 (ax [.b] R)
def iI {n:Nat}{p:Nat->Bool}:(List.range n).any p=true↔∃i,i< n/\p i=true:=by
 simp [O7,OQ]
def Gs {D:Nat->Prop}{w:World}{s:Value}{ts:List Value}(hs:dG D w s ts){f:Nat}{ca:List Value}(hf:hasR gD f=true){p:Nat->Bool}(hp:zm w f ca ts p)(hl:ts.length<=1099511627776){R:Bool->Qx}(hR:∀w',Ex w w'->R ((List.range ts.length).any p) w'):
  Qy 176 #[s,.func (.func f) #[] (List.toArray ca)] w (ax [.b] R):=by
 refine ft _ _ w R ?_;dsimp only [go_sem];refine gk _ _ w _ ?_;dsimp only [go_sem];dsimp only [go_sem,Nat.reduceAdd];obtain⟨a,cap,e⟩:=hs.slice;refine⟨a,_,cap,e,λx w'=>∃i:Nat,x=i/\i<=ts.length/\Ex w w'/\∀j< i,p j=false,λx _=>(ts.length - x).toNat,⟨0,rfl,by omega,Ex.refl w,λj h=>by omega⟩,λx w1 hI=>?_⟩;obtain⟨i,rfl,hi,H,hn⟩:=hI;refine⟨λJ=>?_,λJ=>?_⟩
 ·have J:=NB J;have G:i< ts.length:=by omega
  refine(hs.ex H).get (i:=i) (x:=ts[i]) (by omega) (by simp [G]) ⟨f,ca,rfl,hf,hp i _ w1 (M6 G) H λw2 Z=>⟨λhq=>?_,λhq=>⟨by omega,⟨i+1,by omega,by omega,Ex.trans H Z,λj hj=>?_⟩,by dsimp only;omega⟩⟩⟩
  ·have :=hR w2 (Ex.trans H Z);rw [iI.2 ⟨i,G,hq⟩]at this;have e:decide ((0:Int)<=i)=true:=OS (by omega);show R (decide ((0:Int)<=i)) w2;rw [e];exact this
  ·by_cases h:j=i
   ·subst h;exact hq
   ·exact hn j (by omega)
 ·have J:=Ny J;have :=hR w1 H;have e:(List.range ts.length).any p=false:=by
   rw [Bool.eq_false_iff];intro h;obtain⟨j,hj,h⟩:=iI.1 h;rw [hn j (by omega)]at h;cases h
  rw [e]at this;exact this
def Hd {D:Nat->Prop}{w:World}{s:Value}{ts:List Value}(hs:dG D w s ts){f:Nat}{ca:List Value}(hf:hasR gD f=true){p:Nat->Bool}(hp:zm w f ca ts p)(hl:ts.length<=1099511627776){R:Bool->Qx}(hR:∀w',Ex w w'->R ((List.range ts.length).any p) w'):
  Qy 220 #[s,.func (.func f) #[] (List.toArray ca)] w (ax [.b] R):=by
 refine fJ _ _ w R ?_;dsimp only [go_sem];refine gK _ _ w _ ?_;dsimp only [go_sem];dsimp only [go_sem,Nat.reduceAdd];obtain⟨a,cap,e⟩:=hs.slice;refine⟨a,_,cap,e,λx w'=>∃i:Nat,x=i/\i<=ts.length/\Ex w w'/\∀j< i,p j=false,λx _=>(ts.length - x).toNat,⟨0,rfl,by omega,Ex.refl w,λj h=>by omega⟩,λx w1 hI=>?_⟩;obtain⟨i,rfl,hi,H,hn⟩:=hI;refine⟨λJ=>?_,λJ=>?_⟩
 ·have J:=NB J;have G:i< ts.length:=by omega
  refine(hs.ex H).get (i:=i) (x:=ts[i]) (by omega) (by simp [G]) ⟨f,ca,rfl,hf,hp i _ w1 (M6 G) H λw2 Z=>⟨λhq=>?_,λhq=>⟨by omega,⟨i+1,by omega,by omega,Ex.trans H Z,λj hj=>?_⟩,by dsimp only;omega⟩⟩⟩
  ·have :=hR w2 (Ex.trans H Z);rw [iI.2 ⟨i,G,hq⟩]at this;have e:decide ((0:Int)<=i)=true:=OS (by omega);show R (decide ((0:Int)<=i)) w2;rw [e];exact this
  ·by_cases h:j=i
   ·subst h;exact hq
   ·exact hn j (by omega)
 ·have J:=Ny J;have :=hR w1 H;have e:(List.range ts.length).any p=false:=by
   rw [Bool.eq_false_iff];intro h;obtain⟨j,hj,h⟩:=iI.1 h;rw [hn j (by omega)]at h;cases h
  rw [e]at this;exact this
def K9 {A:Type}(l:List A)(f:A->Bool)(i:Nat):Bool:=(l[i]?.map f).getD false
def oe {A:Type}{l:List A}{f:A->Bool}{i:Nat}(h:i< l.length):K9 l f i=f l[i]:=by unfold K9;rw [M6 h];rfl
def yn {A:Type}{f:A->Bool}(l:List A):(List.range l.length).any (K9 l f)=l.any f:=by
 rw [N',iI,O7];constructor
 ·rintro⟨i,hi,h⟩
  rw [oe hi]at h;exact⟨_,NC hi,h⟩
 ·rintro⟨x,G,h⟩
  obtain⟨i,hi,e⟩:=Od.1 G;exact⟨i,hi,by rw [oe hi,e];exact h⟩
def Ba {w w':World}{b n e:Nat}(hb:b=w.heap.size)(hw:w'=w.alloc (.cells #[iv n] e)):Ex w w'/\b< w'.heap.size/\w'.cell? ⟨b,0,none⟩=some (iv n):=by
 subst hb hw;exact⟨Ex.alloc w _,by rw [size_alloc];omega,aa rfl⟩
def CV (n:Nat):Prop:=∀{D:Nat->Prop} {w:World} {v:Value} {o:List Nat} {l:Lv} {x:Nat} {R:Bool->Qx},l.sz<=n->l.sh true=true->fL D w v o (af D w l)->l.sz<=1099511627776->(∀w',Ex w w'->R (l.has x) w')->Qy 188 #[v,iv x] w (ax [.b] R)
def CB (n:Nat):Prop:=∀{D:Nat->Prop} {w:World} {v:Value} {l:Lv} {x:Nat} {R:Bool->Qx},l.sz<=n->((∃k a b o r,l= .thr k a b o r .nil/\r.sh true=true)\/∃ps,l= .sum ps .nil/\ps.sh false=true)->af D w l [v]->l.sz<=1099511627776->
 (∀w',Ex w w'->R (l.has x) w')->Qy 178 #[v,iv x] w (ax [.b] R)
def mK:∀l:Lv,l.len<=l.sz
 | .nil=>Nc _
 | .thr _ _ _ _ r n=>by have :=mK n;simp only [Lv.len,Lv.sz];omega
 | .sum ps n=>by have :=mK n;simp only [Lv.len,Lv.sz];omega
 | .part o q n=>by have :=mK n;simp only [Lv.len,Lv.sz];omega
def fL.ex {D:Nat->Prop}{w w':World}{v:Value}{o:List Nat}{l:Lv}(h:fL D w v o (af D w l))(x:Ex w w'):fL D w' v o (af D w' l):=aH.ex (L:=(o,l)) h x
def Il {n:Nat}(ht:CB n){D:Nat->Prop}{w:World}{l:Lv}{ts:List Value}{x b3:Nat}(hn:l.sz<=n)(Z:l.sh true=true)(h:af D w l ts)(γ:l.sz<=1099511627776)(hb:b3< w.heap.size)(hc:w.cell? ⟨b3,0,none⟩=some (iv x)):
  zm w 224 [ptr b3] ts (K9 l.a8 (Lv.has x)):=by
 intro i v w1 hi hx R hR;have H:=h.a8;obtain⟨β,_⟩:=NZ.1 hi;have G:i< l.a8.length:=by rw [H.1];exact β
 have he:=H.2 i l.a8[i] v (M6 G) hi;have J:=NC G;have hs:=Lv.dQ l _ J;rw [oe G]at hR;refine mg v (ptr b3) w1 R ?_;dsimp only [go_sem];refine⟨b3,0,rfl,x,by rw [hx.cell (show b3< _ from hb)];exact hc,?_⟩;exact ht (by omega) (Lv.jh Z _ J) (he.ex hx) (by omega) hR
def wj {n:Nat}(ht:CB n):CV n:=by
 intro D w v o l x R hn G h H hR;refine oN v x w R ?_;dsimp only [go_sem];intro b3 w4 J Z;obtain⟨x4,l4,c4⟩:=Ba J Z;obtain⟨b,vo,vt,ts,rfl,h2,h3,h4,h5,h6,h7,h8⟩:=h.ex x4;refine⟨b,0,rfl,vt,h5,?_⟩;have hlen:=h8.len;have :=mK l;refine Gs (ca:=[ptr b3]) h7 (by kernel_rfl) (Il ht hn G h8 H l4 c4) (by omega) λw5 x5=>?_
 rw [hlen,<-Lv.cu,yn,<-Lv.lH];exact hR w5 (Ex.trans x4 x5)
def Ii {n:Nat}(ht:CV n){D:Nat->Prop}{w:World}{l:Lv}{ts:List Value}{x b3:Nat}(hn:l.sz<=n)(Z:l.sh false=true)(h:af D w l ts)(ε:l.sz<=1099511627776)(hb:b3< w.heap.size)(hc:w.cell? ⟨b3,0,none⟩=some (iv x)):
  zm w 221 [ptr b3] ts (K9 l.a8 (Lv.has x)):=by
 intro i v w1 hi hx R hR;have H:=h.a8;obtain⟨β,_⟩:=NZ.1 hi;have G:i< l.a8.length:=by rw [H.1];exact β
 have he:=H.2 i l.a8[i] v (M6 G) hi;have J:=NC G;have hs:=Lv.dQ l _ J;rw [oe G]at hR;refine lk v (ptr b3) w1 R ?_;dsimp only [go_sem];dsimp only [go_sem,Nat.reduceAdd];refine⟨b3,0,rfl,x,by rw [hx.cell (show b3< _ from hb)];exact hc,?_⟩;obtain⟨o,q,e,hq⟩:=Lv.lI Z _ J;rw [e]at he hR hs;obtain⟨v',γ,h1,h2,_⟩:=he;obtain⟨rfl,rfl⟩:v=v'/\([]:List Value)=γ:=by simpa using h1
 simp only [Lv.sz]at hs;refine ht (by omega) hq (fL.ex h2 hx) (by omega) λw2 δ=>?_
 have :=hR w2 δ;simpa [Lv.has]using this
def HZ (k:K)(a b x:Nat):Bool:=(k== .s||k== .m||k== .r)&&(a==x||b==x)
def Em {n:Nat}(ht:CV n):CB (n+1):=by
 intro D w v l x R hn hl h ο hR;refine ng v x w R ?_;dsimp only [go_sem];dsimp only [go_sem,Nat.reduceAdd];intro b3 w4 hb3 hw4;obtain⟨x4,l4,c4⟩:=Ba hb3 hw4;rcases hl with⟨k,a,b,o,r,rfl,hr⟩ | ⟨ps,rfl,hps⟩
 ·obtain⟨_,_,a',b',vr,e,κ,hab,ς,_⟩:=h.ex x4;obtain⟨rfl,_⟩:=Oa e;simp only [Lv.sz]at hn ο;have θ:∀q w',Ex w4 w'->q=r.has x->HZ k a b x=false->R q w':=λq w' H hq hn=>by
   have :=hR w' (Ex.trans x4 H);simp only [Lv.has]at this;unfold HZ at hn;rw [hn,PV,Pr,<-hq]at this;exact this
  have ε:∀w',Ex w4 w'->HZ k a b x=true->R true w':=λw' H hn=>by
   have :=hR w' (Ex.trans x4 H);simp only [Lv.has]at this;unfold HZ at hn;rw [hn,Bool.true_or,Bool.true_or]at this;exact this
  obtain⟨g,rfl,g2,g3,g4,g5,g6,g7,g8⟩:=κ;have μ:∀q:Bool,q=(k== .s||k== .m||k== .r)->∀w',Ex w4 w'->((k== .s||k== .m||k== .r)=true->(a'=a/\b'=b))->True:=λ _ _ _ _ _=>trivial
  have υ:(k== .s||k== .m||k== .r)=true->a'=a/\b'=b:=by
   intro hk;rcases hab with rfl | rfl | h
   ·cases hk
   ·cases hk
   ·exact h
  refine⟨λq w'=>Ex w4 w'/\q=(k== .s||k== .m||k== .r),⟨g,0,rfl,_,g4,?_⟩,λq γ hJ=>?_⟩
  ·cases k
   ·exact dx rfl ⟨Ex.refl _,rfl⟩
   ·exact bV (by dsimp only [K.byte];decide) ⟨g,0,rfl,_,g4,bV (by dsimp only [K.byte];decide) ⟨g,0,rfl,_,g4,Ex.refl _,rfl⟩⟩
   ·exact bV (by dsimp only [K.byte];decide) ⟨g,0,rfl,_,g4,bV (by dsimp only [K.byte];decide) ⟨g,0,rfl,_,g4,Ex.refl _,rfl⟩⟩
   ·exact bV (by dsimp only [K.byte];decide) ⟨g,0,rfl,_,g4,dx rfl ⟨Ex.refl _,rfl⟩⟩
   ·exact bV (by dsimp only [K.byte];decide) ⟨g,0,rfl,_,g4,bV (by dsimp only [K.byte];decide) ⟨g,0,rfl,_,g4,Ex.refl _,rfl⟩⟩
  obtain⟨δ,hq⟩:=hJ;have cg:∀{i:Nat} {u:Value} {w':World},Ex w4 w'->w4.cell? ⟨g,i,none⟩=some u->w'.cell? ⟨g,i,none⟩=some u:=λH h=>by rw [H.cell (show g< _ from g3)];exact h
  have cb:∀{w':World},Ex w4 w'->w'.cell? ⟨b3,0,none⟩=some (iv x):=λH=>by rw [H.cell (show b3< _ from l4)];exact c4
  have dn:∀m:Nat,decide ((m:Int)=(x:Int))=(m==x):=λm=>by
   rw [N',decide_eq_true_iff,PI];omega
  refine⟨λw'=>Ex w4 w'/\HZ k a b x=false,⟨λw'=>Ex w4 w',λφ J=>⟨J▸Ex.trans δ (Ex.drew γ),λν=>?_,λχ=>?_⟩⟩,λζ hJ=>?_⟩
  ·have ξ:Ex w4 φ:=J▸Ex.trans δ (Ex.drew γ);rw [ν]at hq;obtain⟨rfl,rfl⟩:=υ hq.symm;refine⟨g,0,rfl,a',λw' H=>cg H g5,x,λw' H=>cb H,λha=>⟨g,0,rfl,b',λw' H=>cg H g6,x,λw' H=>cb H,λhb=>?_,λhb=>?_⟩,λha=>?_⟩
   ·rw [dn]at hb;exact ε _ ξ (by unfold HZ;rw [<-hq,hb];simp)
   ·rw [dn]at ha hb;exact⟨ξ,by unfold HZ;rw [ha,hb];simp⟩
   ·rw [dn]at ha;exact ε _ ξ (by unfold HZ;rw [<-hq,ha];simp)
  ·rw [χ]at hq;exact⟨J▸Ex.trans δ (Ex.drew γ),by unfold HZ;rw [<-hq];simp⟩
  obtain⟨η,μ⟩:=hJ;obtain⟨br,hvr⟩:∃br,vr=ptr br:=by obtain⟨b,_,_,_,e,_⟩:=ς;exact⟨b,e⟩
  refine⟨λw'=>Ex w4 w',λψ Z=>⟨Z▸Ex.trans η (Ex.drew ζ),g,0,rfl,vr,λw' H=>cg H g7,_,hvr,λ _=>⟨g,0,rfl,vr,λw' H=>cg H g7,x,λw' H=>cb H,?_⟩,λhc=>(by cases hc)⟩⟩;have G:Ex w4 ψ:=Z▸Ex.trans η (Ex.drew ζ);refine ht (by omega) hr (fL.ex ς G) (by omega) λw40 β=>⟨Ex.trans G β,λhq=>⟨g,0,rfl,_,λw' H=>cg H g8,?_⟩,λhq=>⟨Ex.trans G β,θ _ _ (Ex.trans G β) hq.symm μ⟩⟩
  refine Hd (D:=D) (ts:=[]) (ca:=[ptr b3]) (p:=λ _=>false) (.inl ⟨rfl,rfl⟩) (by kernel_rfl) (λi z w1 hi=>by simp at hi) (by simp) λw45 ι=>⟨Ex.trans (Ex.trans G β) ι,θ _ _ (Ex.trans (Ex.trans G β) ι) (by rw [hq];rfl) μ⟩
 ·obtain⟨_,_,a',b',vp,us,e,κ,hsl,ω,_⟩:=h.ex x4;obtain⟨rfl,_⟩:=Oa e;simp only [Lv.sz]at hn ο;obtain⟨g,rfl,g2,g3,g4,g5,g6,g7,g8⟩:=κ;have cg:∀{i:Nat} {u:Value} {w':World},Ex w4 w'->w4.cell? ⟨g,i,none⟩=some u->w'.cell? ⟨g,i,none⟩=some u:=λH h=>by rw [H.cell (show g< _ from g3)];exact h
  refine⟨λq w'=>Ex w4 w'/\q=false,⟨g,0,rfl,_,g4,bV (by decide) ⟨g,0,rfl,_,g4,bV (by decide) ⟨g,0,rfl,_,g4,Ex.refl _,rfl⟩⟩⟩,λq γ hJ=>?_⟩;obtain⟨δ,rfl⟩:=hJ;refine⟨λw'=>Ex w4 w',⟨λw'=>Ex w4 w',λφ J=>⟨J▸Ex.trans δ (Ex.drew γ),λν=>(by cases ν),λχ=>J▸Ex.trans δ (Ex.drew γ)⟩⟩,λζ η=>?_⟩;have G:Ex w4 ζ.drew:=Ex.trans η (Ex.drew ζ);refine⟨λw'=>Ex w4 w',λψ Z=>⟨Z▸G,g,0,rfl,_,λw' H=>cg H g7,_,rfl,λhc=>(by cases hc),λ _=>⟨Z▸G,g,0,rfl,vp,λw' H=>cg H g8,?_⟩⟩⟩;subst Z;have hlen:=ω.len;have :=mK ps;refine Hd (ca:=[ptr b3]) (hsl.ex G) (by kernel_rfl) (Ii ht (by omega) hps (ω.ex G) (by omega) (by have :=G.size;omega) (by rw [G.cell (show b3< _ from l4)];exact c4)) (by omega) λw5 x5=>⟨Ex.trans G x5,?_⟩
  rw [hlen,<-Lv.cu,yn,<-Lv.lH];have :=hR w5 (Ex.trans x4 (Ex.trans G x5));simpa [Lv.has]using this
def Bz:∀n,CB n
 | 0=>by
  intro G H h J hR;rcases H with⟨k,a,b,o,r,rfl,hr⟩ | ⟨ps,rfl,Z⟩<;>simp [Lv.sz]at G
 | n+1=>Em (wj (Bz n))
def Kk (n:Nat):CV n:=wj (Bz n)
namespace Lv
def tot:Lv->Nat
 | nil=>0 | thr _ _ _ o r n=>o.length+r.tot+n.tot+1 | sum ps n=>ps.tot+n.tot+1 | part o q n=>o.length+q.tot+n.tot+1
def iZ:∀l:Lv,l.sz<=l.tot
 | nil=>Nc _
 | thr _ _ _ o r n=>by have :=iZ r;have :=iZ n;simp only [sz,tot];omega
 | sum ps n=>by have :=iZ ps;have :=iZ n;simp only [sz,tot];omega
 | part o q n=>by have :=iZ q;have :=iZ n;simp only [sz,tot];omega
def bM:∀l m:Lv,(l.app m).tot=l.tot+m.tot
 | nil,m=>by simp [app,tot]
 | thr _ _ _ o r n,m=>by simp only [app,tot,bM n m];omega
 | sum ps n,m=>by simp only [app,tot,bM n m];omega
 | part o q n,m=>by simp only [app,tot,bM n m];omega
def take:Nat->Lv->Lv
 | 0,_=>nil
 | _+1,nil=>nil
 | i+1,thr k a b o r n=>thr k a b o r (n.take i)
 | i+1,sum ps n=>sum ps (n.take i)
 | i+1,part o q n=>part o q (n.take i)
def take_succ:∀(l:Lv) (i:Nat) (h:i< l.a8.length),l.take (i+1)=(l.take i).app (l.a8[i])
 | nil,_,h=>by simp [a8]at h
 | thr k a b o r n,0,_=>by simp [take,a8,app]
 | sum ps n,0,_=>by simp [take,a8,app]
 | part o q n,0,_=>by simp [take,a8,app]
 | thr k a b o r n,i+1,h=>by
  simp only [a8,M0]at h;have :=take_succ n i (by omega);rw [take,this];rfl
 | sum ps n,i+1,h=>by
  simp only [a8,M0]at h;have :=take_succ n i (by omega);rw [take,this];rfl
 | part o q n,i+1,h=>by
  simp only [a8,M0]at h;have :=take_succ n i (by omega);rw [take,this];rfl
def cL:∀(l:Lv),l.take l.a8.length=l
 | nil=>rfl
 | thr k a b o r n=>by simp only [a8,M0,take,cL n]
 | sum ps n=>by simp only [a8,M0,take,cL n]
 | part o q n=>by simp only [a8,M0,take,cL n]
def od {b:Bool}:∀(l:Lv) (i:Nat),l.sh b=true->(l.take i).sh b=true
 | _,0,_=>rfl
 | nil,_+1,_=>rfl
 | thr _ _ _ _ r n,i+1,h=>by
  cases b
  ·cases h
  ·simp only [sh,take,M8]at*;exact⟨h.1,od n i h.2⟩
 | sum ps n,i+1,h=>by
  cases b
  ·cases h
  ·simp only [sh,take,M8]at*;exact⟨h.1,od n i h.2⟩
 | part o q n,i+1,h=>by
  cases b
  ·simp only [sh,take,M8]at*;exact⟨h.1,od n i h.2⟩
  ·cases h
def fg:∀(l:Lv) (i:Nat),(l.take i).tot<=l.tot
 | _,0=>N5 _
 | nil,_+1=>Nc _
 | thr _ _ _ _ r n,i+1=>by have :=fg n i;simp only [take,tot];omega
 | sum ps n,i+1=>by have :=fg n i;simp only [take,tot];omega
 | part o q n,i+1=>by have :=fg n i;simp only [take,tot];omega
def fS:∀(l:Lv),∀e∈l.a8,e.tot<=l.tot
 | nil,_,h=>by cases h
 | thr k a b o r n,e,h=>by
  rcases Nw.1 h with rfl | h
  ·simp only [tot];omega
  ·have :=fS n e h;simp only [tot];omega
 | sum ps n,e,h=>by
  rcases Nw.1 h with rfl | h
  ·simp only [tot];omega
  ·have :=fS n e h;simp only [tot];omega
 | part o q n,e,h=>by
  rcases Nw.1 h with rfl | h
  ·simp only [tot];omega
  ·have :=fS n e h;simp only [tot];omega
def lE:∀{l:Lv},l.sh true=true->l.fe=true
 | nil,_=>rfl
 | thr _ _ _ _ r n,h=>by simp only [sh,M8]at h;exact lE (l:=n) h.2
 | sum ps n,h=>by simp only [sh,M8]at h;exact lE (l:=n) h.2
 | part ..,h=>by cases h
def tU (o:List Nat)(r:List Nat×Lv):(kept o r).1.length+(kept o r).2.tot<=o.length+r.1.length+r.2.tot:=by
 unfold kept;have :=Pe (λx=>r.2.has x) (o++r.1);rw [Nb]at this;dsimp only;omega
def lT (o:List Nat)(q m:Lv):prt o q m=(prt o q nil).app m:=by
 unfold prt;split
 ·rfl
 ·split
  ·rw [aT]
  ·rfl
 ·rfl
def dV:∀(l:Lv),(tid l).1.length+(tid l).2.tot<=l.tot
 | nil=>Nc _
 | thr k a b o r n=>by
  have h1:=dV r;have G:=dV n;have H:=tU o (tid r);simp only [tid,tot];split
  ·simp only [Nb,bM];omega
  ·split
   ·omega
   ·simp only [tot];omega
 | sum ps n=>by
  have h1:=dV ps;have G:=dV n;simp only [tid,tot];unfold spl;split
  ·omega
  ·rename_i o q e;rw [e]at h1;simp only [tot]at h1;simp only [Nb,bM];omega
  ·simp only [tot];omega
 | part o q n=>by
  have h1:=dV q;have G:=dV n;have H:=tU o (tid q);simp only [tid,tot];rw [lT,bM];have:(prt (kept o (tid q)).1 (kept o (tid q)).2 nil).tot<=(kept o (tid q)).1.length+(kept o (tid q)).2.tot+1:=by
   unfold prt;split
   ·simp [tot]
   ·rename_i ps e;rw [e];split
    ·simp only [bM,tot];omega
    ·simp only [tot];omega
   ·simp only [tot];omega
  simp only [Np];omega
def Ak:∀{l:Lv} (m:Lv),l.sh false=true->(tid (l.app m)).2=(tid l).2.app (tid m).2
 | nil,m,_=>rfl
 | part o q n,m,h=>by
  simp only [sh,M8]at h;simp only [app,tid,Ak m h.2];rw [lT,lT _ _ (tid n).2,cc]
 | thr ..,_,h=>by cases h
 | sum ..,_,h=>by cases h
def di:∀(l:Lv) (b:Bool),l.sh b=true->(tid l).2.sh b=true
 | nil,b,_=>by cases b<;>rfl
 | thr k a H o r n,b,h=>by
  cases b
  ·cases h
  ·simp only [sh,M8]at h;simp only [tid];split
   ·exact gF (di r true h.1) (di n true h.2)
   ·split
    ·exact di n true h.2
    ·simp only [sh,M8];exact⟨di r true h.1,di n true h.2⟩
 | sum ps n,b,h=>by
  cases b
  ·cases h
  ·simp only [sh,M8]at h;have h1:=di ps false h.1;have G:=di n true h.2;simp only [tid];unfold spl;split
   ·exact G
   ·rename_i o q e;rw [e]at h1;simp only [sh,M8]at h1;exact gF h1.1 G
   ·simp only [sh,M8];exact⟨h1,G⟩
 | part o q n,b,h=>by
  cases b
  ·simp only [sh,M8]at h;have h1:=di q true h.1;have G:=di n false h.2;simp only [tid];rw [lT];refine gF ?_ G;unfold prt;split
   ·rfl
   ·rename_i ps e;have h1:(kept o (tid q)).2.sh true=true:=h1;rw [e]at h1;simp only [sh,M8]at h1;split
    ·rw [aT];exact h1.1
    ·simp only [sh,M8];exact⟨by rw [e];simp [sh,h1.1],trivial⟩
   ·simp only [sh,M8];exact⟨h1,trivial⟩
  ·cases h
end Lv
def aE.fr {e B:Nat}{w:World}{v:Value}{l:List Value}(h:aE e B w v l){g:Nat}(H:v.ownBlock=some g)(j:Nat):w.frozen? ⟨g,j,none⟩=false:=by
 rcases h.2 with⟨rfl,Z⟩ | ⟨J,cap,cur,rfl,hb,G,_⟩
 ·cases H
 ·have e:J=g:=NY H;subst e;unfold World.frozen?;simp only [G];simp
def xX {D:Nat->Prop}{w:World}{v:Value}{o:List Nat}(h:dG D w v (o.map iv))(hl:o.length<=1099511627776){R:Value->Qx}(hR:∀v' w',Ex w w'->aE 3 w.heap.size w' v' (o.map iv)->R v' w'):
  Qy 151 #[v] w (ax [.v] R):=by
 refine mo v w R ?_;dsimp only [go_sem];rcases id h with⟨rfl,e⟩ | ⟨b,off,cap,rfl,h1,h2,h3⟩
 ·exact⟨_,_,_,rfl,λ _=>hR _ _ (Ex.refl w) (e▸aE.nil _ _ _),λh=>(by cases h)⟩
 ·refine⟨_,_,_,rfl,λh=>(by cases h),λ _ b5 w6 J G=>?_⟩;have H:Ex w w6:=G▸Ex.alloc w _;have ho:aE 3 w.heap.size w6 (.slice (some ⟨b5,0,none⟩) 0 0) []:=by
   subst J G;refine⟨rfl,.inr ⟨_,0,#[],rfl,Nc _,?_,by simp,by unfold maxLen;omega,rfl,rfl⟩⟩;unfold World.alloc;simp
  refine aE.push ho H.size (h.ex H) (G6 o) (by omega) (by simp;exact hl) λv' w' Z hg hn=>hR v' w' ?_ Z
  refine Ex.below H (Kp.below (S:=λg=>g=b5) (Kp.aG hg λg e=>(NY e).symm) H.size λg hg e=>by omega)
def bk {b:Nat}:∀(cs:List Value) (w:World) (off:Nat),Kr b w (w.setCells b off cs)/\(∀g j,(w.setCells b off cs).frozen? ⟨g,j,none⟩=w.frozen? ⟨g,j,none⟩)/\(∀j,j< off->(w.setCells b off cs).cell? ⟨b,j,none⟩=w.cell? ⟨b,j,none⟩)/\
  ∀j,(∀i,i< cs.length->∃u,w.cell? ⟨b,off+i,none⟩=some u)->j< cs.length->(w.setCells b off cs).cell? ⟨b,off+j,none⟩=cs[j]?
 | [],w,off=>⟨Kr.refl b w,λ _ _=>rfl,λ _ _=>rfl,λ _ _ h=>by simp at h⟩
 | c::cs,w,off=>by
  obtain⟨h1,J,G,h4⟩:=bk cs (w.setCell ⟨b,off,none⟩ c) (off+1);refine⟨Kr.trans (Kr.set w off c) h1,λg j=>(J g j).trans (Nv _ _ _ _),λj H=>(G j (by omega)).trans (Na _ _ _ _ λe=>by injection e with Z e2;omega),λj hu H=>?_⟩;cases j with
  | zero=>
   obtain⟨u,hu⟩:=hu 0 (by simp);exact(G off (by omega)).trans (Ns _ _ _ hu)
  | succ j=>
   have :=h4 j (λi hi=>by
    obtain⟨u,hu⟩:=hu (i+1) (by simpa using hi);refine⟨u,?_⟩;rw [Na _ _ _ _ (λe=>by injection e with Z e2;omega),show off+1+i=off+(i+1) by omega];exact hu) (by simpa using H)
   rw [show off+1+j=off+(j+1) by omega]at this;exact this
def dG.Lz {D:Nat->Prop}{w:World}{v:Value}{o:List Nat}(h:dG D w v (o.map iv)){i:Int}{x:Nat}(G:0<=i)(H:o[i.toNat]?=some x){Q:Int->Prop}(J:Q x):
  ∃(b off len cap:Nat),v=Value.slice (some ⟨b,off,none⟩) len cap/\0<=i/\i< (len:Int)/\∃n:Int,World.cell? w ⟨b,off+Int.toNat i* 1,none⟩=some (.int .i64 n)/\Q n:=by
 obtain⟨b,off,len,cap,h1,Z,h3,s,h4,h5⟩:=h.get (i:=i) (x:=iv x) (Q:=λs=>s=iv x) G (by rw [OX,H];rfl) rfl;exact⟨b,off,len,cap,h1,Z,h3,x,by rw [h4,h5],J⟩
def KM (w:World)(S:Nat->Prop)(f:Nat)(ca:List Value)(p:Nat->Bool):Prop:=
 ∀(x:Nat) (w1:World),Kp w w1 S->∀{R:Bool->Qx},(∀G,Ex w1 G->R (p x) G)->Qy f (List.toArray ([iv x]++ca)) w1 (ax [.b] R)
def JR {D S:Nat->Prop}{w:World}{s:Value}{o:List Nat}(hs:dG D w s (o.map iv)){f:Nat}{ca:List Value}(hf:hasR gD f=true){p:Nat->Bool}(hp:KM w S f ca p)(hl:o.length<=1099511627776){R:Int->Qx}
  (hR:∀(n:Int) w',Ex w w'->((n= -1/\∀x∈o,p x=false)\/(∃i:Nat,n=i/\i< o.length/\(∀x∈o.take i,p x=false)/\∀x,o[i]?=some x->p x=true))->R n w'):
  Qy 197 #[s,.func (.func f) #[] (List.toArray ca)] w (ax [.i] R):=by
 refine iz _ _ w R ?_;dsimp only [go_sem];dsimp only [go_sem,Nat.reduceAdd];obtain⟨a,cap,e⟩:=hs.slice;rw [Nq]at e;refine⟨a,_,cap,e,λx w'=>∃i:Nat,x=i/\i<=o.length/\Ex w w'/\∀x∈o.take i,p x=false,λx _=>(o.length - x).toNat,⟨0,rfl,by omega,Ex.refl w,λj h=>by simp at h⟩,λx w1 hI=>?_⟩;obtain⟨i,rfl,hi,H,hn⟩:=hI;refine⟨λJ=>?_,λJ=>?_⟩
 ·have J:=NB J;have G:i< o.length:=by omega
  refine(hs.ex H).Lz (i:=i) (x:=o[i]) (by omega) (by simp [G]) ⟨f,ca,rfl,hf,hp o[i] w1 (Kp.ah H _) λw2 Z=>⟨λhq=>?_,λhq=>⟨by omega,⟨i+1,by omega,by omega,Ex.trans H Z,λx hj=>?_⟩,by dsimp only;omega⟩⟩⟩
  ·exact hR _ w2 (Ex.trans H Z) (.inr ⟨i,rfl,G,hn,λx H=>by rw [M6 G]at H;cases H;exact hq⟩)
  ·rw [Ng G]at hj;rcases Nk.1 hj with h | h
   ·exact hn x h
   ·rw [ND.1 h];exact hq
 ·have J:=Ny J;have:i=o.length:=by omega
  subst this;rw [NR]at hn;exact hR _ w1 H (.inl ⟨rfl,hn⟩)
def EI {B:Nat}{w:World}{s:Value}{o:List Nat}(h:aE 3 B w s (o.map iv)){f:Nat}{ca:List Value}(hf:hasR gD f=true){p:Nat->Bool}(hp:KM w (λg=>s.ownBlock=some g) f ca p)(hl:o.length<=1099511627776){R:Value->Qx}
  (hR:∀v' w',oneV v'=true->Kp w w' (λg=>s.ownBlock=some g)->dG (λg=>s.ownBlock=some g) w' v' ((o.filter λx=> !p x).map iv)->R v' w'):
  Qy 150 #[s,.func (.func f) #[] (List.toArray ca)] w (ax [.v] R):=by
 refine il _ _ w R ?_;dsimp only [go_sem];dsimp only [go_sem,Nat.reduceAdd];have η:dG (λg=>s.ownBlock=some g) w s (o.map iv):=h.AS λg hg=>hg
 have ξ:oneV s=true:=by
  rcases h.2 with⟨rfl,_⟩ | ⟨g,cap,cur,rfl,_⟩<;>rfl
 refine JR η hf hp hl λn w1 x1 hn=>⟨λhc=>?_,λhc=>?_⟩
 ·have hc:n= -1:=NB hc;rcases hn with⟨_,hn⟩ | ⟨i,e,_⟩
  ·refine hR _ _ ξ (Kp.ah x1 _) ?_;rw [Po.2 λx hx=>by simp [hn x hx]];exact η.ex x1
  ·omega
 have hc:¬n= -1:=Ny hc;obtain⟨i0,rfl,θ,hn,ο⟩:∃i:Nat,n=i/\i< o.length/\(∀x∈o.take i,p x=false)/\∀x,o[i]?=some x->p x=true:=by
  rcases hn with⟨e,_⟩ | h
  ·exact absurd e hc
  ·exact h
 rcases id h.2 with⟨rfl,μ⟩ | ⟨g,cap,cur,rfl,hb,hg,hle,ω,hsz,htk⟩
 ·simp at μ;subst μ;simp at θ
 rw [Nq]at*;have ι:∀t,t< o.length->∃x,w1.cell? ⟨g,t,none⟩=some (iv x)/\o[t]?=some x:=λt G=>by
  rcases η.ex x1 with⟨e,_⟩ | ⟨b',off,ψ,e,h1,h2,h3⟩
  ·cases e
  ·injection e with e1 e2 e3
   injection e1 with e1
   injection e1 with e1 e4
   subst e1 e4;have :=h3 t (iv o[t]) (by simp [G]);rw [NJ]at this;exact⟨_,this,M6 G⟩
 have ς:∀t,w1.frozen? ⟨g,t,none⟩=false:=λt=>by
  rw [NH (w:=w) (x1.block g (NL.1 hg).1)];exact h.fr rfl t
 let q:Nat->Bool:=λx=> !p x
 refine⟨by omega,λi j w'=>∃(H J:Nat) (c:Nat->Nat),i=H/\j=J/\H< J/\J<=o.length/\Kp w w' (λx=>g=x)/\(∀t,t< o.length->w'.cell? ⟨g,t,none⟩=some (iv (c t)))/\(∀t,w'.frozen? ⟨g,t,none⟩=false)/\
  (List.range H).map c=(o.take J).filter q/\∀t,J<=t->t< o.length->o[t]?=some (c t),λ _ j _=>(o.length - j).toNat,?_,λi j w2 hI=>?_⟩
 ·refine⟨i0,i0+1,λt=>(o[t]?).getD 0,rfl,by omega,by omega,by omega,Kp.ah x1 _,λt G=>?_,ς,?_,λt _ G=>by simp [G]⟩
  ·obtain⟨x,h1,h2⟩:=ι t G;show w1.cell? _=some (iv ((o[t]?).getD 0));rw [h2];exact h1
  ·have e1:(List.range i0).map (λt=>(o[t]?).getD 0)=o.take i0:=by
    refine List.ext_getElem? λt=>?_
    rw [OX,Pg];by_cases G:t< i0
    ·have υ:t< o.length:=by omega
     rw [NO G];simp [G,υ]
    ·rw [Nt G,O1 (by simp;omega)];rfl
   rw [e1,Ng θ,OF,Po.2 λx hx=>by simp [q,hn x hx]];have :=ο _ (M6 θ);simp [q,this]
 ·obtain⟨H,J,c,rfl,rfl,hij,hj,k2,Z,ζ,hm,hd⟩:=hI;refine⟨_,_,_,rfl,λhc=>?_,λhc=>?_⟩
  ·have hc:=NB hc;have β:J< o.length:=by omega
   have hx:=hd J (Nc _) β;refine⟨g,0,_,_,rfl,by omega,hc,(c J:Int),?_,f,ca,rfl,hf,hp (c J) w2 (Kp.mono (λx e=>N9 some e) k2) λw3 x3=>⟨λhq=>?_,λhq=>?_⟩⟩
   ·rw [NJ,NQ,Nf];exact Z J β
   ·have hq:q (c J)=true:=hq;have γ:g< w2.heap.size:=Nz (NL.1 hg).1 k2.size;have δ:=x3.block g γ;refine⟨g,0,_,_,rfl,by omega,by omega,⟨⟨iv (c H),?_⟩,?_⟩,λw4 κ=>⟨by omega,by omega,⟨H+1,J+1,aF c H (c J),by omega,by omega,by omega,by omega,?_,λt G=>?_,λt=>?_,?_,λt h1 h2=>?_⟩,by dsimp only;omega⟩⟩
    ·rw [NJ,NQ,Nf,M5 (w:=w2) δ];exact Z H (by omega)
    ·rw [NH (w:=w2) δ];exact ζ _
    ·rw [κ];exact Kp.set (S:=λx=>g=x) (Kp.trans k2 (Kp.ah x3 λ _=>False) λ _ _ h=>h.elim) rfl _
    ·rw [κ,NJ,NQ,Nf];by_cases e:t=H
     ·subst e;have:aF c t (c J) t=c J:=by simp [aF]
      rw [this];refine Ns _ _ _ (u:=iv (c t)) ?_;rw [M5 (w:=w2) δ];exact Z t G
     ·have:aF c H (c J) t=c t:=by simp [aF,e]
      rw [this,Na _ _ _ _ (λh=>by injection h with h1 h2;exact e h2.symm),M5 (w:=w2) δ];exact Z t G
    ·rw [κ,Nv,NH (w:=w2) δ];exact ζ t
    ·rw [Qj,N0,Ng β,OF,<-hm];rw [M6 β]at hx;have e0:o[J]=c J:=NY hx;rw [e0]
     congr 1
     ·refine Ot λt G=>?_
      have:t≠H:=by have :=OQ.1 G;omega
      simp [aF,this]
     ·simp [aF,hq]
    ·have:t≠H:=by omega
     rw [hd t (by omega) h2];simp [aF,this]
   ·have hq:q (c J)=false:=hq;refine⟨by omega,⟨H,J+1,c,rfl,by omega,by omega,by omega,Kp.trans k2 (Kp.ah x3 λ _=>False) (λ _ _ h=>h.elim),λt G=>?_,λt=>?_,?_,λt h1 h2=>hd t (by omega) h2⟩,by dsimp only;omega⟩
    ·have γ:g< w2.heap.size:=Nz (NL.1 hg).1 k2.size;rw [x3.cell (show g< _ from γ)];exact Z t G
    ·have γ:g< w2.heap.size:=Nz (NL.1 hg).1 k2.size;rw [NH (w:=w2) (x3.block g γ)];exact ζ t
    ·rw [Ng β,OF,hm];rw [M6 β]at hx;have e0:o[J]=c J:=NY hx;rw [e0];simp [hq]
  ·have hc:=Ny hc;have β:J=o.length:=by omega
   subst β;rw [NR]at hm;have γ:g< w2.heap.size:=Nz (NL.1 hg).1 k2.size;have ez:Int.toNat 0=0:=rfl;have hlen:H=(o.filter q).length:=by rw [<-hm];simp
   have fin:∀w',Kp w w' (λx=>g=x)->(∀t,t< H->w'.cell? ⟨g,t,none⟩=some (iv (c t)))->R (Value.slice (if cap=Int.toNat 0 then some (⟨g,0,none⟩:Addr)else Option.map (λa:Addr=>a.add (Int.toNat 0* 1)) (some (⟨g,0,none⟩:Addr))) (Int.toNat (H:Int) - Int.toNat 0) (cap - Int.toNat 0)) w':=by
    intro w' k φ;have e:(if cap=Int.toNat 0 then some (⟨g,0,none⟩:Addr)else Option.map (λq:Addr=>q.add (Int.toNat 0* 1)) (some (⟨g,0,none⟩:Addr)))=some ⟨g,0,none⟩:=by
     split
     ·rfl
     ·simp [Addr.add,ez]
    rw [e,ez];refine hR _ _ rfl (Kp.mono (λx e=>N9 some e) k) (.inr ⟨g,0,cap - 0,?_,rfl,Nz (NL.1 hg).1 k.size,λt x hx=>?_⟩)
    ·congr 1
     rw [Nq];show H - 0=(o.filter q).length;omega
    ·have hx:(o.filter q).map iv=(o.filter λx=> !p x).map iv:=rfl;rename_i ε;rw [<-hx,<-hm,OX,OX]at ε;rw [NJ];by_cases G:t< H
     ·rw [List.getElem?_range G]at ε;cases ε;exact φ t G
     ·rw [O1 (by simp;omega)]at ε;cases ε
   refine⟨_,_,_,rfl,by omega,by omega,by omega,_,_,_,rfl,?_⟩;by_cases h0:o.length - H=0
   ·refine .inl ⟨by rw [Nf,Nf];exact h0,_,_,_,rfl,by omega,by omega,by omega,fin w2 k2 λt G=>Z t (by omega)⟩
   ·have χ:¬cap=H:=by omega
    refine .inr ⟨g,H,?_,λt G=>⟨⟨_,Z (H+t) (by rw [Nf,Nf]at G;omega)⟩,ζ _⟩,λw3 ν=>⟨_,_,_,rfl,by omega,by omega,by omega,fin w3 ?_ λt G=>?_⟩⟩
    ·rw [Nf,Nt χ];simp only [OP,Addr.add];simp
     try omega
    ·rw [ν];exact Kp.trans k2 (bk _ w2 H).1 λx _ e=>e.symm
    ·rw [ν,(bk _ w2 H).2.2.1 t G];exact Z t (by omega)
def Lv.isSum1:Lv->Bool
 | .sum _ .nil=>true
 | _=>false
def yk (o:List Nat)(q:Lv):Lv.prt o q .nil=if q.isNil=true then .nil else if(o.isEmpty&&q.isSum1)=true then(match q with | .sum ps .nil=>ps | q=> .part o q .nil)else .part o q .nil:=by
 cases q with
 | nil=>rfl
 | thr k a b G r n=>cases o<;>rfl
 | part G H n=>cases o<;>rfl
 | sum ps n=>
  cases n with
  | nil=>cases o<;>simp [Lv.prt,Lv.isNil,Lv.isSum1,Lv.aT]
  | thr=>cases o<;>rfl
  | sum=>cases o<;>rfl
  | part=>cases o<;>rfl
section
variable {D:Nat->Prop} {w:World} {v:Value} {o:List Nat} {l:Lv}
def lU (h:fL D w v o (af D w l)){R:Bool->Qx}(hR:R l.isNil w):Qy 173 #[v] w (ax [.b] R):=by
 refine jN v w R ?_;dsimp only [go_sem];dsimp only [go_sem,Nat.reduceAdd];obtain⟨b,vo,vt,ts,rfl,J,Z,h4,h5,h6,G,H⟩:=h;obtain⟨a,cap,e⟩:=G.slice;refine⟨b,0,rfl,vt,h5,a,_,cap,e,?_⟩;have:decide ((ts.length:Int)=0)=l.isNil:=by
  rw [H.len,Lv.cT,N'];simp only [Nj];omega
 rw [this];exact hR
def H9 (h:fL D w v o (af D w l))(hs:l.sh true=true){R:Bool->Qx}(hR:R (o.isEmpty&&l.isSum1) w):Qy 174 #[v] w (ax [.b] R):=by
 refine lZ v w R ?_;dsimp only [go_sem];dsimp only [go_sem,UInt8.reduceOfNat];obtain⟨b,vo,vt,ts,rfl,h2,h3,h4,h5,h6,Z,h8⟩:=h;obtain⟨a,cap,e⟩:=h6.slice;obtain⟨a',J,e'⟩:=Z.slice;rw [Nq]at e;have hlen:=h8.len;refine⟨b,0,rfl,vo,h4,a,_,cap,e,λH=>⟨b,0,rfl,vt,h5,a',_,J,e',λG=>?_,λG=>?_⟩,λH=>?_⟩
 ·have H:=NB H;have G:=NB G;have ho:o.isEmpty=true:=by
   rw [Qa];exact NF (by omega)
  rw [ho,OZ]at hR;cases l with
  | nil=>
   have:ts.length=0:=hlen;omega
  | thr k x y o' r n=>
   have hn:n= .nil:=by
    have:n.len=0:=by simp only [Lv.len]at hlen;omega
    cases n<;>first | rfl | simp [Lv.len]at this
   subst hn;obtain⟨t,β,a1,b1,vr,rfl,⟨g,rfl,g2,g3,g4,_⟩,_⟩:=h8;refine⟨b,0,rfl,vt,h5,Z.get (i:=0) (x:=ptr g) (by omega) rfl ⟨g,0,rfl,_,g4,?_⟩⟩;have:decide (k.byte=43)=false:=by cases k<;>rfl
   rw [this];exact hR
  | sum ps n=>
   have hn:n= .nil:=by
    have:n.len=0:=by simp only [Lv.len]at hlen;omega
    cases n<;>first | rfl | simp [Lv.len]at this
   subst hn;obtain⟨t,β,a1,b1,vp,us,rfl,⟨g,rfl,g2,g3,g4,_⟩,_⟩:=h8;exact⟨b,0,rfl,vt,h5,Z.get (i:=0) (x:=ptr g) (by omega) rfl ⟨g,0,rfl,_,g4,hR⟩⟩
  | part o' q n=>cases hs
 ·have G:=Ny G;have:l.isSum1=false:=by
   cases l with
   | sum ps n=>
    cases n with
    | nil=>
     have:ts.length=1:=hlen;omega
    | _=>rfl
   | _=>rfl
  rw [this,Bool.and_false]at hR;exact hR
 ·have H:=Ny H;have:o.isEmpty=false:=by
   cases o with
   | nil=>simp at H
   | cons=>rfl
  rw [this,Qo]at hR;exact hR
end
structure TI (w w':World)(b7 b9:Nat)(O:List Nat)(L:Lv)(ts:List Value)(M X:Nat->Prop):Prop where
 ex:Ex w w'
 bd:jI w.heap.size w' b7 O ts M
 th:af (λg=>(w.heap.size<=g/\¬M g/\¬X g)/\g< w'.heap.size) w' L ts
 c9:w'.cell? ⟨b9,0,none⟩=some (ptr b7)
 l9:b9< w'.heap.size
 h9:w.heap.size<=b9
 x9:X b9
 mx:∀g,M g->¬X g
 xl:∀g,X g->g< w'.heap.size
section
variable {w w' w'':World} {b7 b9:Nat} {O:List Nat} {L:Lv} {ts:List Value} {M X Y:Nat->Prop}
def TI.LW (h:TI w w' b7 b9 O L ts M X){S:Nat->Prop}(k:Kp w' w'' S)(J:∀g,S g->X g/\g≠b9/\w.heap.size<=g)(hY:∀g,X g->Y g)(H:∀g,Y g->X g\/(w'.heap.size<=g/\g< w''.heap.size)):TI w w'' b7 b9 O L ts M Y:=by
 have hn:∀g,g< w'.heap.size->¬X g->¬Y g:=λg G Z hy=>(H g hy).elim Z λh=>by omega
 refine⟨Ex.below h.ex (Kp.below k h.ex.size λg G e=>by have :=(J g e).2.2;omega),h.bd.kp k λg G e=>h.mx g G (J g e).1,?_,?_,Nz h.l9 k.size,h.h9,hY b9 h.x9,λg G=>hn g (h.bd.mr g G).2 (h.mx g G),λg G=>(H g G).elim (λZ=>Nz (h.xl g Z) k.size) λh=>h.2⟩
 ·refine af.sub (λg _ G=>⟨⟨G.1.1,G.1.2.1,hn g G.2 G.1.2.2⟩,Nz G.2 k.size⟩) (af.kp k (λg G e=>G.1.2.2 (J g e).1) h.th)
 ·rw [M5 (w:=w') (k.block b9 h.l9 λe=>(J b9 e).2.1 rfl)];exact h.c9
def TI.Mw (h:TI w w' b7 b9 O L ts M X){S:Nat->Prop}(k:Kp w' w'' S)(G:∀g,S g->X g/\g≠b9/\w.heap.size<=g):TI w w'' b7 b9 O L ts M X:=h.LW k G (λ _ h=>h) λ _ h=> .inl h
def TI.ext (h:TI w w' b7 b9 O L ts M X)(x:Ex w' w''):TI w w'' b7 b9 O L ts M X:=h.Mw (Kp.ah x λ _=>False) λ _ h=>h.elim
def TI.Fw (h:TI w w' b7 b9 O L ts M X)(G:∀g,Y g->X g)(Z:Y b9):TI w w' b7 b9 O L ts M Y:=
 ⟨h.ex,h.bd,af.sub (λg J hd=>⟨⟨hd.1.1,hd.1.2.1,λH=>hd.1.2.2 (G g H)⟩,hd.2⟩) h.th,h.c9,h.l9,h.h9,Z,λg hm H=>h.mx g hm (G g H),λg J=>h.xl g (G g J)⟩
def TI.FQ (h:TI w w' b7 b9 O L ts M X){D2:Nat->Prop}{v2:Value}{O2:List Nat}{L2:Lv}(hl:aH D2 w' (O2,L2) v2)(hd:∀g,g< w'.heap.size->D2 g->w.heap.size<=g/\¬M g/\¬X g)
  (hb:O.length+O2.length<=1099511627776/\ts.length+L2.len<=1099511627776) {R:Qx} (hR:∀w'' γ M',TI w w'' b7 b9 (O++O2) (L.app L2) γ M' X->Kp w' w'' M->R w''):
  Qy 153 #[ptr b7,v2] w' (ax [] R):=by
 obtain⟨δ,ε,H⟩:=aH.ths (hl.sub (E:=λg=>(w.heap.size<=g/\¬M g/\¬X g)/\g< w'.heap.size) λg G ζ=>⟨hd g G ζ,G⟩);have Z:=h.ex.size;refine ta h.bd Z ε H.all (λg G=>G.1.2.1) ⟨hb.1,by rw [H.len];exact hb.2⟩ λw3 M' J η β=>hR w3 (ts++δ) M' ⟨?_,η,?_,?_,Nz h.l9 J.size,h.h9,h.x9,?_,λg G=>Nz (h.xl g G) J.size⟩ J
 ·exact Ex.below h.ex (Kp.below J Z λg G e=>by have :=(h.bd.mr g e).1;omega)
 ·have key:∀{l:Lv} {us:List Value},af (λg=>(w.heap.size<=g/\¬M g/\¬X g)/\g< w'.heap.size) w' l us->af (λg=>(w.heap.size<=g/\¬M' g/\¬X g)/\g< w3.heap.size) w3 l us:=λht=>
   af.sub (λg _ G=>⟨⟨G.1.1,λhm=>(β g hm).elim G.1.2.1 λh=>by omega,G.1.2.2⟩,Nz G.2 J.size⟩) (af.kp J (λg G=>G.1.2.1) ht)
  exact af.app (key h.th) (key H)
 ·rw [M5 (w:=w') (J.block b9 h.l9 λe=>h.mx b9 e h.x9)];exact h.c9
 ·intro g hm hx;rcases β g hm with h1 | h1
  ·exact h.mx g h1 hx
  ·have :=h.xl g hx;omega
end
section
variable {w w':World} {b7 b9:Nat} {O:List Nat} {L:Lv} {ts:List Value} {M X:Nat->Prop}
def TI.push (h:TI w w' b7 b9 O L ts M X){g:Nat}{e:Lv}(he:af (λg=>(w.heap.size<=g/\¬M g/\¬X g)/\g< w'.heap.size) w' e [ptr g])(hl:ts.length+1<=1099511627776){K:Qx}(hK:∀w'' ts' M',TI w w'' b7 b9 O (L.app e) ts' M' X->K w''):
  ∃Z:Qx,∀δ:World,δ=World.drew w'->Z δ/\∃v168:Value,(∀w',Z w'->World.cell? w' ⟨b9,0,none⟩=some v168)/\∃ξ:Value,(∀w',Z w'->World.cell? w' ⟨b9,0,none⟩=some ξ)/\∃(ο ς:Nat),ξ=Value.pointer (some ⟨ο,ς,none⟩)/\
   ∃ε:Value,(∀w',Z w'->World.cell? w' ⟨ο,(ς+1),none⟩=some ε)/\∀(υ:Nat) (H:World),υ=Array.size (World.heap δ)->H=World.alloc δ (Obj.cells #[(Value.pointer (some ⟨g,0,none⟩))] 130)->Z H/\
   ∃(J n176 ζ:Nat) (μ γ:List Value),World.ownsRow H J 130 1 ε n176 μ/\J<=Array.size (World.heap H)/\db H (Value.slice (some ⟨υ,0,none⟩) 1 1) ζ 1 γ/\(n176+ζ<=maxLen/\(n176+ζ)* 8<=140737488355328)/\
   ∀(η:Value) (β:World),World.ownsRow β J 130 1 η (n176+ζ) (μ++γ)->World.grownBy H β (Value.ownBlock ε)->(∀b:Nat,Value.ownBlock η=some b->Value.ownBlock ε=some b\/Array.size (World.heap H)<=b)->Z β/\
   ∃(θ ι:Nat),v168=Value.pointer (some ⟨θ,ι,none⟩)/\oneV η=true/\((∃u184:Value,World.cell? β ⟨θ,(ι+1),none⟩=some u184)/\World.frozen? β ⟨θ,(ι+1),none⟩=false)/\∀φ:World,φ=World.setCell β ⟨θ,(ι+1),none⟩ η->K φ:=by
 obtain⟨h1,hle,h3,hr,h4,vo,vt,h5,h6,h7,h8,h9,h10,h11⟩:=h.bd;have hb7:b7< w'.heap.size:=h1;have hn9:b9≠b7:=λe=>h.mx b7 h3 (e▸h.x9)
 have hv9:vt.ownBlock≠some b9:=λe=>h.mx b9 (h10 b9 e).1 h.x9
 refine⟨λw2=>Kp w' w2 λg=>vt.ownBlock=some g,λw1 χ=>⟨χ▸Kp.ah (Ex.drew w') _,ptr b7,λw2 k=>?_,ptr b7,λw2 k=>?_,b7,0,rfl,vt,λw2 k=>?_,λb2 w2 hb2 ψ=>?_⟩⟩
 ·rw [M5 (w:=w') (k.block b9 h.l9 hv9)];exact h.c9
 ·rw [M5 (w:=w') (k.block b9 h.l9 hv9)];exact h.c9
 ·rw [M5 (w:=w') (k.block b7 h1 λe=>(h10 b7 e).2 rfl)];exact h6
 have x2:Ex w' w2:=Ex.trans (χ▸Ex.drew w') (ψ▸Ex.alloc w1 _);have s1:w1.heap.size=w'.heap.size:=by rw [χ];rfl
 have s2:w2.heap.size=w1.heap.size+1:=by rw [ψ,size_alloc]
 refine⟨Kp.ah x2 _,?_⟩;have hsl:dG (λx=>x=b2) w2 (.slice (some ⟨b2,0,none⟩) 1 1) [ptr g]:=by
  refine .inr ⟨b2,0,1,rfl,rfl,by omega,λi x G=>?_⟩;rw [NJ,ψ,hb2];refine aa ?_
  match i,G with
  | 0,G=>simpa using G
  | i+1,G=>simp at G
 refine aE.push (h8.kp (Kp.ah x2 λ _=>False) λ _ _ h=>h) (N8 h.ex.size x2.size) hsl rfl (by omega) (by simpa using hl) λv3 w3 ω hg3 hn3=>?_
 have k23:Kp w2 w3 λg=>vt.ownBlock=some g:=Kp.aG hg3 λg h=>h
 have k3:Kp w' w3 λg=>vt.ownBlock=some g:=Kp.trans (Kp.ah x2 _) k23 λg _ h=>h
 have hb3:=k3.block b7 h1 λe=>(h10 b7 e).2 rfl
 have hv3:oneV v3=true:=by rcases ω.2 with⟨rfl,_⟩ | ⟨g,cap,cur,rfl,_⟩<;>rfl
 have c31:w3.cell? ⟨b7,1,none⟩=some vt:=by rw [M5 (w:=w') hb3];exact h6
 have c30:w3.cell? ⟨b7,0,none⟩=some vo:=by rw [M5 (w:=w') hb3];exact h5
 have f3:∀j,w3.frozen? ⟨b7,j,none⟩=false:=λj=>by rw [NH (w:=w') hb3];exact h4 j
 refine⟨k3,b7,0,rfl,hv3,⟨⟨vt,c31⟩,f3 1⟩,λw4 ν=>?_⟩;have k4:Kr b7 w3 w4:=ν▸Kr.set w3 1 _;have κ:Kp w' w4 M:=Kp.trans (Kp.mono (λg e=>(h10 g e).1) k3) k4 λg _ e=>e▸h3
 have s3:=k3.size;have s23:=k23.size;have s4:=k4.size;have hnb:∀x,v3.ownBlock=some x->vt.ownBlock=some x\/w'.heap.size<=x:=λx G=>(hn3 x G).elim .inl λh=> .inr (by omega)
 have h3b:∀x,v3.ownBlock=some x->x≠b7:=λx G=>(hnb x G).elim (λe=>(h10 x e).2) λe=>by omega
 refine hK w4 (ts++[ptr g]) (λx=>M x\/(w'.heap.size<=x/\x< w4.heap.size)) ⟨?_,⟨by omega,hle,.inl h3,λx G=>?_,λj=>?_,vo,v3,?_,?_,?_,?_,λx G=>⟨.inl (h9 x G).1,(h9 x G).2⟩,λx G=>⟨?_,h3b x G⟩,λx G e=>?_⟩,?_,?_,Nz h.l9 κ.size,h.h9,h.x9,λx G hX=>?_,λx G=>Nz (h.xl x G) κ.size⟩
 ·exact Ex.below h.ex (Kp.below κ h.ex.size λx G e=>by have :=(hr x e).1;omega)
 ·have hB:=h.ex.size;rcases G with G | G
  ·have :=hr x G;omega
  ·omega
 ·rw [ν,Nv];exact f3 j
 ·rw [ν,Na _ _ _ _ (by simp)];exact c30
 ·rw [ν];exact Ns _ _ _ c31
 ·exact(h7.kp k3 λx G e=>h11 x G e).kp k4 λx G=>(h9 x G).2
 ·exact aE.kp ω k4 h3b
 ·have :=(ω.block x G).2;exact(hnb x G).elim (λe=> .inl (h10 x e).1) λe=> .inr ⟨e,by omega⟩
 ·rcases hnb x e with e1 | e1
  ·exact h11 x G e1
  ·have :=(h7.block x G).2;omega
 ·have key:∀{l:Lv} {us:List Value},af (λg=>(w.heap.size<=g/\¬M g/\¬X g)/\g< w'.heap.size) w' l us->af (λg=>(w.heap.size<=g/\¬(M g\/(w'.heap.size<=g/\g< w4.heap.size))/\¬X g)/\g< w4.heap.size) w4 l us:=λht=>
   af.sub (λg _ hg=>⟨⟨hg.1.1,λhm=>hm.elim hg.1.2.1 λh=>by omega,hg.1.2.2⟩,Nz hg.2 κ.size⟩) (af.kp κ (λg hg=>hg.1.2.1) ht)
  exact af.app (key h.th) (key he)
 ·rw [M5 (w:=w') (κ.block b9 h.l9 λe=>h.mx b9 e h.x9)];exact h.c9
 ·rcases G with G | G
  ·exact h.mx x G hX
  ·have :=h.xl x hX;omega
end
structure SI (w w':World)(b7 b9 b39:Nat)(O:List Nat)(L:Lv)(ts:List Value)(M X:Nat->Prop)(a b:Nat)(Q:Lv):Prop where
 ti:TI w w' b7 b9 O L ts M X
 x39:X b39
 h39:w.heap.size<=b39
 n39:b39≠b9
 sl:∃vp us,jT w' b39 43 a b (.pointer none) vp/\aE 59 w.heap.size w' vp us/\af (λg=>(w.heap.size<=g/\¬M g/\¬X g)/\g< w'.heap.size) w' Q us/\∀g,vp.ownBlock=some g->X g/\g≠b9/\g≠b39
section
variable {w w':World} {b7 b9 b39 a b:Nat} {O:List Nat} {L Q:Lv} {ts:List Value} {M X:Nat->Prop}
def SI.ext {w'':World}(h:SI w w' b7 b9 b39 O L ts M X a b Q)(x:Ex w' w''):SI w w'' b7 b9 b39 O L ts M X a b Q:=by
 obtain⟨h1,H,J,h4,vp,us,h5,Z,h7,h8⟩:=h;have k:Kp w' w'' λ _=>False:=Kp.ah x _
 exact⟨h1.ext x,H,J,h4,vp,us,h5.kp k λh=>h,Z.kp k λ _ _ h=>h,af.sub (λg _ G=>⟨G.1,Nz G.2 k.size⟩) (af.ex h7 x),h8⟩
def SI.push (h:SI w w' b7 b9 b39 O L ts M X a b Q){vx:Value}{δ:List Value}{Q2:Lv}{D2:Nat->Prop}(hx:dG D2 w' vx δ)(h2:af (λg=>(w.heap.size<=g/\¬M g/\¬X g)/\g< w'.heap.size) w' Q2 δ)(hl:Q.len+δ.length<=1099511627776){vp:Value}(φ:w'.cell? ⟨b39,4,none⟩=some vp){K:Value->Qx}
  (hK:∀J G,oneV J=true->Kp w' G (λg=>vp.ownBlock=some g)->((∃χ:Value,World.cell? G ⟨b39,4,none⟩=some χ)/\World.frozen? G ⟨b39,4,none⟩=false)->(∀ξ,ξ=World.setCell G ⟨b39,4,none⟩ J->∃X',SI w ξ b7 b9 b39 O L ts M X' a b (Q.app Q2))->K J G):
  ∃(H ε ζ:Nat) (η β:List Value),World.ownsRow w' H 59 1 vp ε η/\H<=Array.size (World.heap w')/\db w' vx ζ 1 β/\(ε+ζ<=maxLen/\(ε+ζ)* 8<=140737488355328)/\
   ∀(J:Value) (G:World),World.ownsRow G H 59 1 J (ε+ζ) (η++β)->World.grownBy w' G (Value.ownBlock vp)->(∀b:Nat,Value.ownBlock J=some b->Value.ownBlock vp=some b\/Array.size (World.heap w')<=b)->K J G:=by
 obtain⟨h1,γ,h3,h4,θ,us,h5,h6,h7,h8⟩:=h;have:θ=vp:=NY (h5.c4.symm.trans φ);subst this;have ψ:=h1.ex.size;have hlu:=h7.len;refine aE.push h6 ψ hx h2.all (by omega) (by omega) λv3 w3 ι ω κ=>?_
 have k3:Kp w' w3 λg=>θ.ownBlock=some g:=Kp.aG ω λg h=>h
 have hv3:oneV v3=true:=by rcases ι.2 with⟨rfl,_⟩ | ⟨g,cap,cur,rfl,_⟩<;>rfl
 have μ:=h5.kp k3 λe=>(h8 _ e).2.2 rfl
 refine hK v3 w3 hv3 k3 ⟨⟨_,μ.c4⟩,μ.f 4⟩ λw4 ο=>?_
 have k4:Kr b39 w3 w4:=ο▸Kr.set w3 4 _;have ν:Kp w' w4 λg=>θ.ownBlock=some g\/g=b39:=Kp.trans (Kp.mono (λg e=> .inl e) k3) k4 λg _ e=> .inr e
 have s3:=k3.size;have s4:=k4.size;have ς:∀x,v3.ownBlock=some x->x≠b39:=λx hx'=>(κ x hx').elim (λe=>(h8 x e).2.2) λe=>by have :=h1.xl b39 γ;omega
 have υ:∀g,(X g\/(v3.ownBlock=some g))->X g\/(w'.heap.size<=g/\g< w4.heap.size):=λg Z=>Z.elim .inl λe=>(κ g e).elim (λe=> .inl (h8 g e).1) λh=> .inr ⟨h,by have :=(ι.block g e).2;omega⟩
 have ti:=h1.LW (Y:=λg=>X g\/v3.ownBlock=some g) ν (λg e=>e.elim (λe=>⟨(h8 g e).1,(h8 g e).2.1,(h6.block g e).1⟩) λe=>⟨e▸γ,e▸h4,e▸h3⟩) (λg Z=> .inl Z) υ;have key:∀{l:Lv} {us:List Value},af (λg=>(w.heap.size<=g/\¬M g/\¬X g)/\g< w'.heap.size) w' l us->af (λg=>(w.heap.size<=g/\¬M g/\¬(X g\/v3.ownBlock=some g))/\g< w4.heap.size) w4 l us:=λht=>
  af.sub (λg _ Z=>⟨⟨Z.1.1,Z.1.2.1,λhy=>(υ g hy).elim Z.1.2.2 λh=>by omega⟩,Nz Z.2 ν.size⟩) (af.kp ν (λg Z e=>e.elim (λe=>Z.1.2.2 (h8 g e).1) λe=>Z.1.2.2 (e▸γ)) ht)
 refine⟨_,ti,.inl γ,h3,h4,v3,us++δ,μ.Kt ο,?_,af.app (key h7) (key h2),λg Z=>⟨.inr Z,?_,ς g Z⟩⟩
 ·exact aE.kp ι k4 ς
 ·exact(κ g Z).elim (λe=>(h8 g e).2.1) λe=>by have :=h1.l9;omega
end
def IE {D:Nat->Prop}{w:World}{l:Lv}{ts:List Value}{x b3:Nat}(Z:l.sh true=true)(h:af D w l ts)(γ:l.sz<=1099511627776)(hb:b3< w.heap.size)(hc:w.cell? ⟨b3,0,none⟩=some (iv x)):
  zm w 177 [ptr b3] ts (K9 l.a8 (Lv.has x)):=by
 intro i v w1 hi hx R hR;have H:=h.a8;obtain⟨β,_⟩:=NZ.1 hi;have G:i< l.a8.length:=by rw [H.1];exact β
 have he:=H.2 i l.a8[i] v (M6 G) hi;have J:=NC G;have hs:=Lv.dQ l _ J;rw [oe G]at hR;refine hU v (ptr b3) w1 R ?_;dsimp only [go_sem];refine⟨b3,0,rfl,x,by rw [hx.cell (show b3< _ from hb)];exact hc,?_⟩;exact Bz _ (Nc _) (Lv.jh Z _ J) (he.ex hx) (by omega) hR
def JP {D S:Nat->Prop}{w:World}{b7 b9:Nat}{vt:Value}{l:Lv}{ts:List Value}(h9:w.cell? ⟨b9,0,none⟩=some (ptr b7))(l9:b9< w.heap.size)(h7:w.cell? ⟨b7,1,none⟩=some vt)(l7:b7< w.heap.size)(H:dG D w vt ts)(h:af D w l ts)(J:l.sh true=true)(δ:l.sz<=1099511627776)
  (Z:∀g,S g->¬D g/\g≠b9/\g≠b7):KM w S 175 [ptr b9] (λx=> !l.has x):=by
 intro x w1 k R hR;refine jz x (ptr b9) w1 R ?_;dsimp only [go_sem];intro b3 w4 β γ;obtain⟨x4,l4,c4⟩:=Ba β γ;have G:Kp w w4 S:=Kp.trans k (Kp.ah x4 λ _=>False) λ _ _ h=>h.elim
 refine⟨b9,0,rfl,ptr b7,?_,b7,0,rfl,vt,?_,?_⟩
 ·rw [M5 (w:=w) (G.block b9 l9 λe=>(Z _ e).2.1 rfl)];exact h9
 ·rw [M5 (w:=w) (G.block b7 l7 λe=>(Z _ e).2.2 rfl)];exact h7
 have hlen:=h.len;have :=mK l;have hD:∀g,D g->¬S g:=λg hd H=>(Z g H).1 hd
 refine Gs (ca:=[ptr b3]) (H.kp G hD) (by kernel_rfl) (IE J (af.kp G hD h) (by omega) l4 c4) (by omega) λw5 x5=>?_
 rw [hlen,<-Lv.cu,yn,<-Lv.lH];exact hR w5 (Ex.trans x4 x5)
def Cj (n:Nat):Prop:=∀{D:Nat->Prop} {w:World} {v:Value} {o:List Nat} {l:Lv} {R:Value->Qx},l.sz<=n->l.sh true=true->fL D w v o (af D w l)->o.length+l.tot<=1099511627775->
 (∀v' w',Ex w w'->aH (Cv w) w' (Lv.tidy o l) v'->R v' w')->Qy 106 #[v] w (ax [.v] R)
def oF (o:List Nat)(l:Lv):(Lv.tidy o l).1.length+(Lv.tidy o l).2.tot<=o.length+l.tot:=by
 have :=Lv.tU o (Lv.tid l);have :=Lv.dV l;show(Lv.kept o (Lv.tid l)).1.length+(Lv.kept o (Lv.tid l)).2.tot<=_;omega
def bL (l:Lv):l.len<=l.tot:=N8 (mK l) (Lv.iZ l)
def aE.uw {e B:Nat}{w:World}{v:Value}{l:List Value}(h:aE e B w v l):oneV v=true:=by
 rcases h.2 with⟨rfl,_⟩ | ⟨g,cap,cur,rfl,_⟩<;>rfl
def aO.single {A B:Type}{R:A->B->Prop}{l:List A}{m:List B}(h:aO R l m){i:Nat}{b:B}(hb:m[i]?=some b):∃a,l[i]?=some a/\a∈l/\R a b:=by
 obtain⟨hi,_⟩:=NZ.1 hb;have G:i< l.length:=by rw [h.1];exact hi
 exact⟨l[i],M6 G,NC G,h.2 i _ _ (M6 G) hb⟩
def jv {k:K}{a b:Nat}{o:List Nat}{r:Lv}:Lv.tid (.thr k a b o r .nil)=if k= .m/\a=b then Lv.tidy o r else if(k= .m\/k= .p)/\(Lv.tidy o r).2.isNil=true then([],.nil)else([],.thr k a b (Lv.tidy o r).1 (Lv.tidy o r).2 .nil):=by
 simp only [Lv.tid,NM,Lv.aT];rfl
def DX (n:Nat)(ih:∀m,m< n->Cj m):Cj n:=by
 intro D w v o l R hn hsh h hb hR;refine kA v w R ?_;obtain⟨b,vo,vt,ts0,rfl,h2,h3,h4,h5,h6,h7,h8⟩:=h;refine⟨b,0,rfl,vo,h4,xX h6 (by omega) λv5 w6 x6 ho6=>⟨ho6.uw,λb7 w8 hb7 hw8 b9 w10 hb9 hw10=>?_⟩⟩;have x8:Ex w6 w8:=hw8▸Ex.alloc w6 _;have x10:Ex w8 w10:=hw10▸Ex.alloc w8 _;have s6:=x6.size;have s8:w8.heap.size=w6.heap.size+1:=by rw [hw8,size_alloc]
 have s10:w10.heap.size=w8.heap.size+1:=by rw [hw10,size_alloc]
 have c9:w10.cell? ⟨b9,0,none⟩=some (.pointer none):=by rw [hw10,hb9];exact aa rfl
 have f9:w10.frozen? ⟨b9,0,none⟩=false:=by rw [hw10,hb9];unfold World.frozen? World.alloc;simp
 have bd8:jI w.heap.size w8 b7 o [] λg=>g=b7\/v5.ownBlock=some g:=by
  refine⟨by omega,by omega,.inl rfl,λg J=>?_,λj=>?_,v5,.slice none 0 0,?_,?_,ho6.kp (Kp.ah x8 λ _=>False) (λ _ _ h=>h),aE.nil _ _ _,λg J=>⟨.inr J,?_⟩,λg J=>(by cases J),λg _ J=>(by cases J)⟩
  ·rcases J with rfl | J
   ·omega
   ·have :=ho6.block g J;omega
  ·rw [hw8,hb7];unfold World.frozen? World.alloc;simp
  ·rw [hw8,hb7];exact aa rfl
  ·rw [hw8,hb7];exact aa rfl
  ·have :=ho6.block g J;omega
 refine⟨⟨⟨_,c9⟩,f9⟩,λw12 hw12=>?_⟩;have k12:Kr b9 w10 w12:=hw12▸Kr.set w10 0 _;have x610:Ex w6 w10:=Ex.trans x8 x10;have x12:Ex w w12:=Ex.below (Ex.trans x6 x610) (Kp.below k12 (Ex.trans x6 x610).size λg J e=>by omega);have s12:=k12.size;have ti12:TI w w12 b7 b9 o .nil [] (λg=>g=b7\/v5.ownBlock=some g) (λg=>g=b9):=by
  refine⟨x12,(bd8.ex x10).kp k12 λg J e=>?_,rfl,?_,by omega,by omega,rfl,λg J e=>?_,λg e=>by omega⟩
  ·have :=(bd8.mr g J).2;omega
  ·rw [hw12];exact Ns _ _ _ c9
  ·have :=(bd8.mr g J).2;omega
 obtain⟨a0,cap0,hvt⟩:=h7.slice;have hlen:=h8.len;have hel:=Lv.cu l;have hlt:=bL l;refine⟨b,0,rfl,vt,by rw [x12.cell (show b< _ from h3)];exact h5,a0,_,cap0,hvt,λx w'=>∃(i:Nat) (ts:List Value) (M:Nat->Prop),x=i/\i<=l.a8.length/\TI w w' b7 b9 (o++(Lv.tid (l.take i)).1) (Lv.tid (l.take i)).2 ts M (λg=>g=b9),λx _=>(l.a8.length - x).toNat,⟨0,[],_,rfl,by omega,by simpa [Lv.take,Lv.tid]using ti12⟩,λx H hI=>?_⟩;obtain⟨i,ts,M,rfl,hi,ζ⟩:=hI;refine⟨λhc=>?_,λhc=>?_⟩
 ·have hc:=NB hc;have hil:i< ts0.length:=by omega
  have hil':i< l.a8.length:=by omega
  have ψ:=ζ.ex;have β:∀w' γ M',TI w w' b7 b9 (o++(Lv.tid (l.take i)).1++(Lv.tid l.a8[i]).1) ((Lv.tid (l.take i)).2.app (Lv.tid l.a8[i]).2) γ M' (λg=>g=b9)->cW ((i:Int)+1)/\(∃(i':Nat) (ts:List Value) (M:Nat->Prop),((i:Int)+1)=i'/\i'<=l.a8.length/\TI w w' b7 b9 (o++(Lv.tid (l.take i')).1) (Lv.tid (l.take i')).2 ts M (λg=>g=b9))/\((l.a8.length:Int) - ((i:Int)+1)).toNat< ((l.a8.length:Int) - (i:Int)).toNat:=by
   intro w' γ M' ti;refine⟨by omega,⟨i+1,γ,M',by omega,by omega,?_⟩,by omega⟩;rw [Lv.take_succ l i hil',Lv.ct _ _ (Lv.lE (Lv.od l i hsh)),<-NX];exact ti
  have hel22:=(af.ex h8 ψ).a8;have he:=hel22.2 i l.a8[i] ts0[i] (M6 hil') (M6 hil);have he0:=h8.a8.2 i l.a8[i] ts0[i] (M6 hil') (M6 hil);have hmem:=NC hil';have hesz:=Lv.dQ l _ hmem;have hetot:=Lv.fS l _ hmem;have hOt:=Lv.dV (l.take i);have hTt:=Lv.fg l i;have hTe:(l.take i).tot+l.a8[i].tot<=l.tot:=by
   have :=Lv.fg l (i+1);rw [Lv.take_succ l i hil',Lv.bM]at this;exact this
  have hOl:(o++(Lv.tid (l.take i)).1).length=o.length+(Lv.tid (l.take i)).1.length:=Nb;have hLl:=bL (Lv.tid (l.take i)).2;refine(h7.ex ψ).get (i:=i) (x:=ts0[i]) (by omega) (by simp [hil]) ?_;generalize l.a8[i]=e at*;generalize ts0[i]=v27 at*;have hke:(∃k a b o r,e= .thr k a b o r .nil/\r.sh true=true)\/∃ps,e= .sum ps .nil/\ps.sh false=true:=Lv.jh hsh e hmem;generalize (o++(Lv.tid (l.take i)).1)=O at*;generalize (Lv.tid (l.take i)).2=L at*;have hts:ts.length=L.len:=ζ.th.len;have hS:∀{w1:World},Ex H w1->∀{g j:Nat} {u:Value},g< H.heap.size->H.cell? ⟨g,j,none⟩=some u->w1.cell? ⟨g,j,none⟩=some u:=by
   intro w1 hx g j u J hu;rw [hx.cell (show g< _ from J)];exact hu
  rcases hke with⟨k,a,b1,o',r,rfl,hr⟩ | ⟨ps,rfl,hps⟩
  ·obtain⟨_,_,a',b',vr,e,⟨g,rfl,g2,g3,g4,g5,g6,g7,g8⟩,hab,hlv,_⟩:=he;obtain⟨rfl,_⟩:=Oa e;refine⟨λw'=>Ex H w',λω κ=>⟨κ▸Ex.drew H,g,0,rfl,_,λw' hx=>hS hx g3 g4,g,0,rfl,_,λw' hx=>hS hx g3 g5,g,0,rfl,_,λw' hx=>hS hx g3 g6,λb39 ε hb39 μ=>?_⟩⟩;have x29:Ex H ω:=κ▸Ex.drew H;have s29:ω.heap.size=H.heap.size:=by rw [κ];rfl
   have ν:Ex H ε:=Ex.trans x29 (μ▸Ex.alloc ω _);have s40:ε.heap.size=ω.heap.size+1:=by rw [μ,size_alloc]
   have th40:jT ε b39 k.byte a' b' (.pointer none) (.slice none 0 0):=jT.new hb39 μ;have l9:=ζ.l9;have n39:b39≠b9:=by omega
   have h39:w.heap.size<=b39:=by have :=ψ.size;omega
   have ti40:TI w ε b7 b9 O L ts M λg=>g=b9\/g=b39:=ζ.LW (Kp.ah ν λ _=>False) (λ _ h=>h.elim) (λg h=> .inl h) λg h=>h.elim .inl λh=> .inr (by omega)
   simp only [Lv.sz]at hesz;simp only [Lv.tot]at hetot hTe;refine⟨ν,g,0,rfl,_,hS ν g3 g4,aR (by cases k<;>decide) ⟨g,0,rfl,_,hS ν g3 g7,?_⟩⟩;refine ih r.sz (by omega) (Nc _) hr (fL.ex hlv ν) (by omega) λξ w138 φ l137=>⟨fL.one l137,⟨⟨_,(th40.kp (Kp.ah φ λ _=>False) λh=>h).c3⟩,(th40.kp (Kp.ah φ λ _=>False) λh=>h).f 3⟩,λZ hw140=>?_⟩
   have k140:Kr b39 w138 Z:=hw140▸Kr.set w138 3 _;have th140:jT Z b39 k.byte a' b' ξ (.slice none 0 0):=(th40.kp (Kp.ah φ λ _=>False) λh=>h).DP hw140;have ti140:TI w Z b7 b9 O L ts M λg=>g=b9\/g=b39:=(ti40.ext φ).Mw k140 λg J=>⟨.inr J,by omega,by omega⟩
   have s138:=φ.size;have s140:=k140.size;have hrt:=oF o' r;have l140:aH (λg=>(ε.heap.size<=g)/\g< Z.heap.size) Z (Lv.tidy o' r) ξ:=aH.sub (aH.kp (l137.sub (E:=λg=>ε.heap.size<=g/\g< w138.heap.size) λg J h=>⟨h,J⟩) k140 λg J e=>by omega) λg _ J=>⟨J.1,by omega⟩
   have hM40:∀g,M g->g< ε.heap.size:=λg J=>(ti40.bd.mr g J).2
   have cg:∀{w1:World},Ex Z w1->∀{j:Nat} {u:Value},H.cell? ⟨g,j,none⟩=some u->w1.cell? ⟨g,j,none⟩=some u:=λhx j u hu=>by
    have:Z.cell? ⟨g,j,none⟩=some u:=by
     rw [M5 (w:=w138) (k140.block g (by omega) (by omega)),φ.cell (show g< _ by omega)];exact hS ν g3 hu
    rw [hx.cell (show g< _ by omega)];exact this
   have cb:∀{w1:World},Ex Z w1->w1.cell? ⟨b39,3,none⟩=some ξ:=λhx=>by rw [hx.cell (show b39< _ from th140.lt)];exact th140.c3
   have c9':∀{w1:World},Ex Z w1->w1.cell? ⟨b9,0,none⟩=some (ptr b7):=λhx=>by rw [hx.cell (show b9< _ from ti140.l9)];exact ti140.c9
   have hth:∀{w1:World},Ex Z w1->af (λg=>(w.heap.size<=g/\¬M g/\¬(g=b9))/\g< w1.heap.size) w1 (.thr k a b1 (Lv.tidy o' r).1 (Lv.tidy o' r).2 .nil) [ptr b39]:=λ{w1} hx=>by
    have sx:=hx.size;refine⟨ptr b39,[],a',b',ξ,rfl,(th140.kp (Kp.ah hx λ _=>False) λh=>h).Le ⟨⟨h39,λhm=>ti140.mx b39 hm (.inr rfl),n39⟩,by have :=th140.lt;omega⟩,hab,?_,rfl⟩;exact aH.sub (aH.ex l140 hx) λg _ J=>⟨⟨by omega,λhm=>by have :=hM40 g hm;omega,by omega⟩,by omega⟩
   have υ:∀{w1:World},Ex Z w1->TI w w1 b7 b9 O L ts M λg=>g=b9:=λhx=>(ti140.ext hx).Fw (λg h=> .inl h) rfl
   have hnil:∀{w1:World},Ex Z w1->Lv.tid (.thr k a b1 o' r .nil)=([],.nil)->TI w w1 b7 b9 (O++(Lv.tid (.thr k a b1 o' r .nil)).1) (L.app (Lv.tid (.thr k a b1 o' r .nil)).2) ts M λg=>g=b9:=λhx e=>by
    rw [e,NM,Lv.aT];exact υ hx
   have hlr:=bL (Lv.tidy o' r).2;refine⟨λw'=>Ex Z w',λχ hw142=>⟨hw142▸Ex.drew Z,g,0,rfl,_,λw' hx=>cg hx g4,?_⟩⟩;have G:Ex Z χ:=hw142▸Ex.drew Z;have ο:∀{w1:World},Ex Z w1->(Lv.tid (.thr k a b1 o' r .nil)=([],.thr k a b1 (Lv.tidy o' r).1 (Lv.tidy o' r).2 .nil))->∀w'' γ M',TI w w'' b7 b9 O (L.app (.thr k a b1 (Lv.tidy o' r).1 (Lv.tidy o' r).2 .nil)) γ M' (λg=>g=b9)->TI w w'' b7 b9 (O++(Lv.tid (.thr k a b1 o' r .nil)).1) (L.app (Lv.tid (.thr k a b1 o' r .nil)).2) γ M' (λg=>g=b9):=λ _ e w'' γ M' h=>by
    rw [e,NM];exact h
   have hkm:(Lv.tidy o' r).2.isNil=false->¬(k= .m/\a=b1)->Lv.tid (.thr k a b1 o' r .nil)=([],.thr k a b1 (Lv.tidy o' r).1 (Lv.tidy o' r).2 .nil):=λh1 h2=>by
    rw [jv,Nt h2,Nt (by rw [h1];simp)]
   cases k with
   | m=>
    have hab:a'=a/\b'=b1:=by rcases hab with h | h | h<;>first | exact h | cases h
    obtain⟨rfl,rfl⟩:=hab;refine cI rfl ⟨g,0,rfl,a',λw' hx=>cg hx g5,g,0,rfl,b',λw' hx=>cg hx g6,λhq=>?_,λhq=>?_⟩
    ·have hq:a'=b':=by have :=NB hq;omega
     have ht:Lv.tid (.thr .m a' b' o' r .nil)=Lv.tidy o' r:=by rw [jv,NO ⟨rfl,hq⟩]
     refine⟨λw'=>Ex χ w',λw153 hw153=>⟨hw153▸Ex.drew χ,ptr b7,λw' hx=>c9' (Ex.trans G hx),ξ,λw' hx=>cb (Ex.trans G hx),?_⟩⟩;have x153:Ex Z w153:=Ex.trans G (hw153▸Ex.drew χ);refine(υ x153).FQ (O2:=(Lv.tidy o' r).1) (L2:=(Lv.tidy o' r).2) (aH.ex l140 x153) (λg J hd=>⟨by omega,λhm=>by have :=hM40 g hm;omega,by omega⟩) ⟨by omega,by omega⟩ λw'' γ M' h _=>β w'' γ M' ?_
     rw [ht];exact h
    ·have hq:¬a'=b':=by have :=Ny hq;omega
     refine⟨g,0,rfl,_,cg G g4,dx rfl ⟨ξ,cb G,lU (aH.ex l140 G) ⟨λhe=>β χ ts M (hnil G (by rw [jv,Nt (λh=>hq h.2),NO ⟨.inl rfl,he⟩])),λhe=>?_⟩⟩⟩;have ht:=hkm he λh=>hq h.2
     exact(υ G).push (hth G) (by omega) λw'' γ M' h=>β w'' γ M' (ο G ht _ _ _ h)
   | p=>
    refine aR (by dsimp only [K.byte];decide) ⟨g,0,rfl,_,cg G g4,bV (by dsimp only [K.byte];decide) ⟨g,0,rfl,_,cg G g4,cI rfl ⟨ξ,cb G,lU (aH.ex l140 G) ⟨λhe=>β χ ts M (hnil G (by rw [jv,Nt (λh=>by cases h.1),NO ⟨.inr rfl,he⟩])),λhe=>?_⟩⟩⟩⟩;have ht:=hkm he λh=>by cases h.1
    exact(υ G).push (hth G) (by omega) λw'' γ M' h=>β w'' γ M' (ο G ht _ _ _ h)
   | s=>
    refine aR (by dsimp only [K.byte];decide) ⟨g,0,rfl,_,cg G g4,bV (by dsimp only [K.byte];decide) ⟨g,0,rfl,_,cg G g4,aR (by dsimp only [K.byte];decide) ?_⟩⟩;exact(υ G).push (hth G) (by omega) λw'' γ M' h=>β w'' γ M' (ο G (by rw [jv,Nt (λh=>by cases h.1),Nt (λh=>by rcases h.1 with h | h<;>cases h)]) _ _ _ h)
   | r=>
    refine aR (by dsimp only [K.byte];decide) ⟨g,0,rfl,_,cg G g4,bV (by dsimp only [K.byte];decide) ⟨g,0,rfl,_,cg G g4,aR (by dsimp only [K.byte];decide) ?_⟩⟩;exact(υ G).push (hth G) (by omega) λw'' γ M' h=>β w'' γ M' (ο G (by rw [jv,Nt (λh=>by cases h.1),Nt (λh=>by rcases h.1 with h | h<;>cases h)]) _ _ _ h)
   | t=>
    refine aR (by dsimp only [K.byte];decide) ⟨g,0,rfl,_,cg G g4,bV (by dsimp only [K.byte];decide) ⟨g,0,rfl,_,cg G g4,aR (by dsimp only [K.byte];decide) ?_⟩⟩;exact(υ G).push (hth G) (by omega) λw'' γ M' h=>β w'' γ M' (ο G (by rw [jv,Nt (λh=>by cases h.1),Nt (λh=>by rcases h.1 with h | h<;>cases h)]) _ _ _ h)
  ·clear he;obtain⟨_,_,a',b',vp0,us0,e,⟨g,rfl,g2,g3,g4,g5,g6,g7,g8⟩,hsl,hus,_⟩:=he0;obtain⟨rfl,_⟩:=Oa e;have hS0:∀{w1:World},Ex w w1->∀{j:Nat} {u:Value},w.cell? ⟨g,j,none⟩=some u->w1.cell? ⟨g,j,none⟩=some u:=by
    intro w1 hx j u hu;rw [hx.cell (show g< _ from g3)];exact hu
   refine⟨λw'=>Ex H w',λω κ=>⟨κ▸Ex.drew H,g,0,rfl,43,λw' hx=>hS0 (Ex.trans ψ hx) g4,g,0,rfl,_,λw' hx=>hS0 (Ex.trans ψ hx) g5,g,0,rfl,_,λw' hx=>hS0 (Ex.trans ψ hx) g6,λb39 ε hb39 μ=>?_⟩⟩;have x29:Ex H ω:=κ▸Ex.drew H;have s29:ω.heap.size=H.heap.size:=by rw [κ];rfl
   have ν:Ex H ε:=Ex.trans x29 (μ▸Ex.alloc ω _);have s40:ε.heap.size=ω.heap.size+1:=by rw [μ,size_alloc]
   have th40:jT ε b39 43 a' b' (.pointer none) (.slice none 0 0):=jT.new hb39 μ;have l9:=ζ.l9;have n39:b39≠b9:=by omega
   have h39:w.heap.size<=b39:=by have :=ψ.size;omega
   have ti40:TI w ε b7 b9 O L ts M λg=>g=b9\/g=b39:=ζ.LW (Kp.ah ν λ _=>False) (λ _ h=>h.elim) (λg h=> .inl h) λg h=>h.elim .inl λh=> .inr (by omega)
   have si40:SI w ε b7 b9 b39 O L ts M (λg=>g=b9\/g=b39) a' b' .nil:=⟨ti40,.inr rfl,h39,n39,.slice none 0 0,[],th40,aE.nil _ _ _,rfl,λg h=>by cases h⟩
   simp only [Lv.sz]at hesz;simp only [Lv.tot]at hetot hTe;obtain⟨ap,capp,hvp⟩:=hsl.slice;have hul:=hus.len;have hpel:=Lv.cu ps;have hplt:=bL ps;refine⟨ν,g,0,rfl,_,hS0 (Ex.trans ψ ν) g4,cI rfl ⟨g,0,rfl,vp0,hS0 (Ex.trans ψ ν) g8,ap,_,capp,hvp,λx w'=>∃(j:Nat) (X:Nat->Prop),x=j/\j<=ps.a8.length/\SI w w' b7 b9 b39 O L ts M X a' b' (Lv.tid (ps.take j)).2,λx _=>(ps.a8.length - x).toNat,⟨0,_,rfl,by omega,by simpa [Lv.take,Lv.tid]using si40⟩,λx δ hI=>?_⟩⟩;obtain⟨j,X,rfl,hj,ς⟩:=hI;have x53:=ς.ti.ex;refine⟨λhc=>?_,λhc=>?_⟩
   ·have hc:=NB hc;have hjl:j< us0.length:=by omega
    have hjl':j< ps.a8.length:=by omega
    refine(hsl.ex x53).get (i:=j) (x:=us0[j]) (by omega) (by simp [hjl]) ?_;have hpe:=hus.a8.2 j ps.a8[j] us0[j] (M6 hjl') (M6 hjl);have hpm:=NC hjl';have hpsz:=Lv.dQ ps _ hpm;have hptot:=Lv.fS ps _ hpm;obtain⟨o'',q,epq,hq⟩:=Lv.lI hps _ hpm;have htk:(Lv.tid (ps.take (j+1))).2=(Lv.tid (ps.take j)).2.app (Lv.prt (Lv.tidy o'' q).1 (Lv.tidy o'' q).2 .nil):=by
     rw [Lv.take_succ ps j hjl',Lv.Ak _ (Lv.od ps j hps),epq];rfl
    have hQ:=bL (Lv.tid (ps.take j)).2;have hQ1:=Lv.dV (ps.take j);have hQ2:=Lv.fg ps (j+1);rw [Lv.take_succ ps j hjl',Lv.bM,epq]at hQ2;rw [epq]at hpe hpsz hptot;generalize us0[j]=v58 at*;obtain⟨v58',_,e58,hlq,_⟩:=hpe;obtain⟨rfl,_⟩:=Oa e58;simp only [Lv.sz]at hpsz;simp only [Lv.tot]at hptot hQ2;have hfin:∀w' X',SI w w' b7 b9 b39 O L ts M X' a' b' (Lv.tid (ps.take (j+1))).2->cW ((j:Int)+1)/\(∃(j':Nat) (X:Nat->Prop),((j:Int)+1)=j'/\j'<=ps.a8.length/\SI w w' b7 b9 b39 O L ts M X a' b' (Lv.tid (ps.take j')).2)/\((ps.a8.length:Int) - ((j:Int)+1)).toNat< ((ps.a8.length:Int) - (j:Int)).toNat:=
     λw' X' h=>⟨by omega,⟨j+1,X',by omega,by omega,h⟩,by omega⟩
    refine ih q.sz (by omega) (Nc _) hq (fL.ex hlq x53) (by omega) λv59 ι x60 l59=>?_
    have si60:=ς.ext x60;have hrt:=oF o'' q;have hqsh:(Lv.tidy o'' q).2.sh true=true:=Lv.di q true hq;generalize Lv.tidy o'' q=r' at*;have hM53:∀g,M g->g< δ.heap.size:=λg J=>(ς.ti.bd.mr g J).2
    have hX53:=ς.ti.xl;have hsz53:=x53.size;refine lU l59 ⟨λhe=>?_,λhe=>H9 l59 hqsh ⟨λhs=>?_,λhs=>?_⟩⟩
    ·refine hfin ι X ?_;rw [htk,yk,NO he,Lv.aT];exact si60
    ·obtain⟨ps',ep⟩:∃ps',r'.2= .sum ps' .nil:=by
      have :=(Bool.and_eq_true_iff.1 hs).2;generalize r'.2=q' at*
      match q',this with
      | .sum ps' .nil,_=>exact⟨ps',rfl⟩
     rw [yk,Nt (by rw [he];simp),NO hs,ep]at htk;have htk:(Lv.tid (ps.take (j+1))).2=(Lv.tid (ps.take j)).2.app ps':=htk;unfold aH at l59;rw [ep]at l59 hrt;obtain⟨b59,vo59,vt59,tsq,rfl,k2,k3,k4,k5,k6,k7,k8⟩:=l59;obtain⟨_,_,aq,bq,vpq,usq,rfl,⟨gq,rfl,q2,q3,q4,q5,q6,q7,q8⟩,qsl,qus,rfl⟩:=k8;obtain⟨vp,us,η,ho60,hu60,hob⟩:=si60.sl;have hobl:∀x,vp.ownBlock=some x->x< δ.heap.size:=λx hx=>hX53 x (hob x hx).1
     refine⟨λw'=>Kp ι w' λg=>vp.ownBlock=some g,λw66 hw66=>⟨hw66▸Kp.ah (Ex.drew ι) _,vp,λw' k=>?_,b59,0,rfl,vt59,λw' k=>?_,?_⟩⟩
     ·rw [M5 (w:=ι) (k.block b39 η.lt λe=>(hob _ e).2.2 rfl)];exact η.c4
     ·rw [M5 (w:=ι) (k.block b59 k3 λe=>by have :=hobl _ e;have:δ.heap.size<=b59:=k2;omega)];exact k5
     have x66:Ex ι w66:=hw66▸Ex.drew ι;rcases k7 with⟨_,e⟩ | ⟨bt,off,cp,rfl,t2,t3,t4⟩
     ·cases e
     refine⟨bt,off,1,cp,rfl,by omega,by omega,ptr gq,λw' k=>?_,gq,0,rfl,vpq,λw' k=>?_,?_⟩
     ·rw [M5 (w:=ι) (k.block bt t3 λe=>by have :=hobl _ e;have:δ.heap.size<=bt:=t2;omega)];exact t4 0 _ rfl
     ·rw [M5 (w:=ι) (k.block gq q3 λe=>by have :=hobl _ e;have:δ.heap.size<=gq:=q2;omega)];exact q8
     have hqd:af (λg=>(w.heap.size<=g/\¬M g/\¬X g)/\g< w66.heap.size) w66 ps' usq:=af.sub (λg J hd=>⟨⟨by have:δ.heap.size<=g:=hd;omega,λhm=>by have :=hM53 g hm;have:δ.heap.size<=g:=hd;omega,λhm=>by have :=hX53 g hm;have:δ.heap.size<=g:=hd;omega⟩,J⟩) (af.ex qus x66);have hql:=qus.len;have hql2:=bL ps';simp only [Lv.tot]at hrt;refine(si60.ext x66).push (qsl.ex x66) hqd (by omega) (by rw [x66.cell (show b39< _ from η.lt)];exact η.c4) λv84 w85 hv84 k85 hc85 hset=>⟨Kp.trans (Kp.ah x66 _) k85 λ _ _ h=>h,hv84,hc85,λw87 hw87=>?_⟩
     obtain⟨X',hsi⟩:=hset w87 hw87;refine hfin w87 X' ?_;rw [htk];exact hsi
    ·rw [yk,Nt (by rw [he];simp),Nt (by rw [hs];simp)]at htk;obtain⟨vp,us,η,ho60,hu60,hob⟩:=si60.sl;refine⟨vp,η.c4,fL.one l59,λb89 w90 hb89 hw90=>?_⟩;have x90:Ex ι w90:=hw90▸Ex.alloc ι _;have s90:w90.heap.size=ι.heap.size+1:=by rw [hw90,size_alloc]
     have hsl1:dG (λx=>x=b89) w90 (.slice (some ⟨b89,0,none⟩) 1 1) [v59]:=by
      refine .inr ⟨b89,0,1,rfl,rfl,by omega,λi x hx=>?_⟩;rw [NJ,hw90,hb89];refine aa ?_
      match i,hx with
      | 0,hx=>simpa using hx
      | i+1,hx=>simp at hx
     have hqd:af (λg=>(w.heap.size<=g/\¬M g/\¬X g)/\g< w90.heap.size) w90 (.part r'.1 r'.2 .nil) [v59]:=⟨v59,[],rfl,aH.sub (aH.ex l59 x90) λg J hd=>⟨⟨by have:δ.heap.size<=g:=hd;omega,λhm=>by have :=hM53 g hm;have:δ.heap.size<=g:=hd;omega,λhm=>by have :=hX53 g hm;have:δ.heap.size<=g:=hd;omega⟩,J⟩,rfl⟩
     refine(si60.ext x90).push hsl1 hqd (by simp only [M0,Np];omega) (by rw [x90.cell (show b39< _ from η.lt)];exact η.c4) λv84 w85 hv84 k85 hc85 hset=>⟨hv84,hc85,λw87 hw87=>?_⟩
     obtain⟨X',hsi⟩:=hset w87 hw87;refine hfin w87 X' ?_;rw [htk];exact hsi
   ·have hc:=Ny hc;have:j=ps.a8.length:=by omega
    subst this;rw [Lv.cL]at ς;have hpsh:(Lv.tid ps).2.sh false=true:=Lv.di ps false hps;have hpt:=Lv.dV ps;have hpl:=bL (Lv.tid ps).2;have htid:Lv.tid (.sum ps .nil)=Lv.spl (Lv.tid ps).2 ([],.nil):=by simp only [Lv.tid]
    rw [htid]at β;generalize (Lv.tid ps).2=Q at*;have si53':=ς;obtain⟨ti,hx39,_,_,vp,us,th,ho,hu,hob⟩:=ς;have υ:TI w δ b7 b9 O L ts M λg=>g=b9:=ti.Fw (λg h=>h▸ti.x9) rfl
    obtain⟨av,capv,hvpe⟩:=(ho.AS (D:=λ _=>True) λ _ _=>trivial).slice;have hulen:=hu.len;refine⟨vp,th.c4,av,_,capv,hvpe,λh0=>?_,λh0=>⟨λh1=>?_,λh1=>?_⟩⟩
    ·have h0:=NB h0;have hQ:Q= .nil:=by
      have:Q.len=0:=by omega
      cases Q<;>first | rfl | simp [Lv.len]at this
     subst hQ;refine β δ ts M ?_;simp only [Lv.spl,NM,Lv.aT];exact υ
    ·have h1:=NB h1;obtain⟨oq,qq,rfl⟩:∃oq qq,Q= .part oq qq .nil:=by
      have:Q.len=1:=by omega
      cases Q with
      | nil=>simp [Lv.len]at this
      | thr=>cases hpsh
      | sum=>cases hpsh
      | part oq qq n=>
       have hn:n= .nil:=by
        have:n.len=0:=by simp only [Lv.len]at this;omega
        cases n<;>first | rfl | simp [Lv.len]at this
       exact⟨oq,qq,by rw [hn]⟩
     obtain⟨u,us',rfl,hlu,rfl⟩:=hu;rcases ho.AS (D:=λg=>vp.ownBlock=some g) λ _ h=>h with⟨_,e⟩ | ⟨bt,off,cp,hvp2,t2,t3,t4⟩
     ·cases e
     have hnM:∀g,X g->¬M g:=λg hx hm=>ti.mx g hm hx
     refine⟨λw'=>Kp δ w' M,λw105 hw105=>⟨hw105▸Kp.ah (Ex.drew δ) _,ptr b7,λw' k=>?_,vp,λw' k=>?_,bt,off,1,cp,hvp2,by omega,by omega,u,λw' k=>?_,?_⟩⟩
     ·rw [M5 (w:=δ) (k.block b9 ti.l9 (hnM _ ti.x9))];exact ti.c9
     ·rw [M5 (w:=δ) (k.block b39 th.lt (hnM _ hx39))];exact th.c4
     ·rw [M5 (w:=δ) (k.block bt t3 (hnM _ (hob _ t2).1))];exact t4 0 _ rfl
     have x105:Ex δ w105:=hw105▸Ex.drew δ;simp only [Lv.tot]at hpt;have :=bL qq;refine(ti.ext x105).FQ (O2:=oq) (L2:=qq) (fL.ex hlu x105) (λg _ hd=>hd.1) ⟨by omega,by omega⟩ λw'' γ M' h k=>⟨Kp.trans (Kp.ah x105 _) k λ _ _ h=>h,β w'' γ M' ?_⟩
     simp only [Lv.spl,NM,Lv.aT];exact h.Fw (λg h=>h▸ti.x9) rfl
    ·have h0:=Ny h0;have h1:=Ny h1;have hspl:Lv.spl Q ([],.nil)=([],.sum Q .nil):=by
      unfold Lv.spl;split
      ·simp [Lv.len]at hulen;simp [hulen]at h0
      ·simp [Lv.len]at hulen;simp [hulen]at h1
      ·rfl
     refine υ.push (e:= .sum Q .nil) ⟨ptr b39,[],a',b',vp,us,rfl,th.Le ⟨⟨h39,λhm=>ti.mx b39 hm hx39,n39⟩,th.lt⟩,?_,?_,rfl⟩ (by omega) λw'' γ M' h=>β w'' γ M' ?_
     ·exact ho.AS λg J=>⟨⟨(ho.block g J).1,λhm=>ti.mx g hm (hob g J).1,(hob g J).2.1⟩,(ho.block g J).2⟩
     ·exact af.sub (λg _ hd=>⟨⟨hd.1.1,hd.1.2.1,λe=>hd.1.2.2 (e▸ti.x9)⟩,hd.2⟩) hu
     ·rw [hspl,NM];exact h
 ·have hc:=Ny hc;have:i=l.a8.length:=by omega
  subst this;rw [Lv.cL]at ζ;have htt:=Lv.dV l;have hsz:=Lv.iZ (Lv.tid l).2;have htsh:=Lv.di l true hsh;have hfil:Lv.tidy o l=((o++(Lv.tid l).1).filter (λx=> !!(Lv.tid l).2.has x),(Lv.tid l).2):=by
   simp only [Bool.not_not];rfl
  rw [hfil]at hR;have hOl:(o++(Lv.tid l).1).length=o.length+(Lv.tid l).1.length:=Nb;generalize (o++(Lv.tid l).1)=O at*;generalize (Lv.tid l).2=L at*;have ti:=ζ;obtain⟨d1,d2,d3,dr,d4,vo1,vt1,d5,d6,d7,d8,d9,d10,d11⟩:=ti.bd;have hn9:¬M b9:=λhm=>ti.mx b9 hm rfl
  refine⟨λw'=>Kp H w' λg=>vo1.ownBlock=some g,λw302 hw302=>⟨hw302▸Kp.ah (Ex.drew H) _,ptr b7,λw' k=>?_,ptr b7,λw' k=>?_,b7,0,rfl,vo1,λw' k=>?_,?_⟩⟩
  ·rw [M5 (w:=H) (k.block b9 ti.l9 λe=>hn9 (d9 _ e).1)];exact ti.c9
  ·rw [M5 (w:=H) (k.block b9 ti.l9 λe=>hn9 (d9 _ e).1)];exact ti.c9
  ·rw [M5 (w:=H) (k.block b7 d1 λe=>(d9 _ e).2 rfl)];exact d5
  have θ:Ex H w302:=hw302▸Ex.drew H;have kx:Kp H w302 λ _=>False:=Kp.ah θ _
  have hsvt:dG (λg=>w.heap.size<=g/\vo1.ownBlock≠some g/\g< H.heap.size) H vt1 ts:=d8.AS λg J=>⟨(d8.block g J).1,λe=>d11 g e J,(d8.block g J).2⟩
  have hths:af (λg=>w.heap.size<=g/\vo1.ownBlock≠some g/\g< H.heap.size) H L ts:=af.sub (λg J hd=>⟨hd.1.1,λe=>hd.1.2.1 (d9 g e).1,J⟩) ti.th;refine EI (ca:=[ptr b9]) (d7.kp kx λ _ _ h=>h) (by kernel_rfl) (JP (b7:=b7) (vt:=vt1) (D:=λg=>w.heap.size<=g/\vo1.ownBlock≠some g/\g< H.heap.size) ?_ (by have :=ti.l9;have :=θ.size;omega) ?_ (by have :=θ.size;omega) (hsvt.ex θ) (af.ex hths θ) htsh (by omega) λg J=>⟨λhd=>hd.2.1 J,λe=>hn9 (e▸(d9 g J).1),(d9 g J).2⟩) (by omega) λv308 w309 hv k309 hsl=>?_
  ·rw [θ.cell (show b9< _ from ti.l9)];exact ti.c9
  ·rw [θ.cell (show b7< _ from d1)];exact d6
  have k9:Kp H w309 λg=>vo1.ownBlock=some g:=Kp.trans (Kp.ah θ _) k309 λ _ _ h=>h
  have hb9:=k9.block b7 d1 λe=>(d9 _ e).2 rfl
  have c0:w309.cell? ⟨b7,0,none⟩=some vo1:=by rw [M5 (w:=H) hb9];exact d5
  refine⟨k9,b7,0,rfl,hv,⟨⟨_,c0⟩,by rw [NH (w:=H) hb9];exact d4 _⟩,λw313 hw313=>?_⟩;have kset:Kr b7 w309 w313:=hw313▸Kr.set w309 0 _;have kall:Kp H w313 λg=>vo1.ownBlock=some g\/g=b7:=Kp.trans (Kp.mono (λg e=> .inl e) k9) kset λg _ e=> .inr e
  have hne79:b9≠b7:=λe=>hn9 (e▸d3)
  refine⟨ptr b7,?_,hR _ w313 ?_ ?_⟩
  ·rw [M5 (w:=H) (kall.block b9 ti.l9 λe=>e.elim (λe=>hn9 (d9 _ e).1) hne79)];exact ti.c9
  ·exact Ex.below ti.ex (Kp.below kall ti.ex.size λg J e=>by
    rcases e with e | e
    ·have :=(d7.block g e).1;omega
    ·omega)
  ·refine⟨b7,v308,vt1,ts,rfl,d2,Nz d1 kall.size,?_,?_,?_,?_,?_⟩
   ·rw [hw313];exact Ns _ _ _ c0
   ·rw [hw313,Na _ _ _ _ (by simp),M5 (w:=H) hb9];exact d6
   ·exact(hsl.kp kset λg J e=>(d9 g J).2 e).sub λg _ J=>(d7.block g J).1
   ·exact((d8.AS (D:=λg=>vt1.ownBlock=some g) λ _ h=>h).kp kall λg J e=>e.elim (λe=>d11 g e J) (d10 g J).2).sub λg _ J=>(d8.block g J).1
   ·exact af.sub (λg _ J=>J.1.1) (af.kp kall (λg J e=>e.elim (λe=>J.1.2.1 (d9 g e).1) λe=>J.1.2.1 (e▸d3)) ti.th)
def EX:∀n,Cj n:=by
 have:∀k n,n< k->Cj n:=by
  intro k
  induction k with
  | zero=>intro n h;omega
  | succ k G=>exact λn h=>DX n λm hm=>G m (by omega)
 exact λn=>this (n+1) n (by omega)
attribute [go_sem] Tryz.f223
def iT (G:Value)(c2:Value)(c3:Value)(w:World)(R:Qx)(h:vc az (aZ [] [] [(1,false,.lt 1 (.lt 4 (.br .h 0 (.lt 2 (.br .h 3 (.lt 5 (.one .h 6 (.one .h 7 .done))) (.one .h 6 (.one .h 3 (.lt 5 (.one .h 7 .done)))))) (.one .h 3 (.lt 5 (.one .h 0 (.lt 2 (.one .h 6 (.one .h 7 .done)))))))))]) (ab Tryz.f223) (ai 0 [.v G,.v c2,.v c3]) w (fin az [] R)):
  Qy 223 #[G,c2,c3] w (ax [] R):=
 a7 Tryz.func223 (by kernel_rfl) h
def j0 (l1:Value)(w:World)(R:Int->Int->Qx)(h:qg w λS2 w3=>cJ l1 λb4 o5=>gG S2 b4 (o5+0) λv6=>uC v6 λl8=>cJ l1 λb10 o11=>gG S2 b10 (o11+0) λv12=>uC v12 λl14=>(jF w3 (.cells #[(.int .i64 0)] 3) λb16 w17=>S2 w17/\jF w17 (.cells #[(.int .i64 0)] 3) λb18 w19=>S2 w19/\pb w19 b16 0 (.int .i64 (l8:Int)) λw21=>S2 w21/\pb w21 b18 0 (.int .i64 (l14:Int)) λw23=>cJ l1 λb24 o25=>fW w23 b24 (o25+1) λv26=>uC v26 λl28=>Hm 0 w23 λI30 ο J γ=>dP (decide (J< (l28:Int))) (vQ v26 J λb34 o35=>fW γ b34 (o35+J.toNat* 1) λς=>cJ ς λb39 o40=>fW γ b39 (o40+3) λv41=>∃q42:Option Addr,v41= .pointer q42/\dP (!Option.isNone q42) (cJ ς λb43 o44=>fW γ b43 (o44+3) λv45=>∃(f46:Nat) (c47:List Value),(Value.func (.func 223) #[] #[(.pointer (some ⟨b16,0,none⟩)),(.pointer (some ⟨b18,0,none⟩))])= .func (.func f46) #[] (List.toArray c47)/\hasR gD f46=true/\fC f46 (List.toArray ([v45]++c47)) γ λw48=>cJ ς λb49 o50=>fW w48 b49 (o50+4) λv51=>uC v51 λl53=>Hm 0 w48 λI55 m56 ζ κ=>dP (decide (ζ< (l53:Int))) (vQ v51 ζ λb59 o60=>fW κ b59 (o60+ζ.toNat* 1) λv63=>∃(f64:Nat) (c65:List Value),(Value.func (.func 223) #[] #[(.pointer (some ⟨b16,0,none⟩)),(.pointer (some ⟨b18,0,none⟩))])= .func (.func f64) #[] (List.toArray c65)/\hasR gD f64=true/\fC f64 (List.toArray ([v63]++c65)) κ λw66=>cW (ζ+1)/\I55 (ζ+1) w66/\m56 (ζ+1) w66< m56 ζ κ) (cW (J+1)/\I30 (J+1) κ/\ο (J+1) κ< ο J γ)) (cJ ς λb67 o68=>fW γ b67 (o68+4) λv69=>uC v69 λl71=>Hm 0 γ λI73 m74 η μ=>dP (decide (η< (l71:Int))) (vQ v69 η λb77 o78=>fW μ b77 (o78+η.toNat* 1) λv81=>∃(f82:Nat) (c83:List Value),(Value.func (.func 223) #[] #[(.pointer (some ⟨b16,0,none⟩)),(.pointer (some ⟨b18,0,none⟩))])= .func (.func f82) #[] (List.toArray c83)/\hasR gD f82=true/\fC f82 (List.toArray ([v81]++c83)) μ λw84=>cW (η+1)/\I73 (η+1) w84/\m74 (η+1) w84< m74 η μ) (cW (J+1)/\I30 (J+1) μ/\ο (J+1) μ< ο J γ))) (qg γ λS85 w86=>yO S85 b16 0 λn87=>yO S85 b18 0 λn88=>R n87 n88 w86))/\(jF w3 (.cells #[(.int .i64 0)] 3) λν w90=>S2 w90/\jF w90 (.cells #[(.int .i64 0)] 3) λξ w92=>S2 w92/\pb w92 ξ 0 (.int .i64 (l8:Int)) λw94=>S2 w94/\pb w94 ν 0 (.int .i64 (l14:Int)) λw96=>cJ l1 λb97 o98=>fW w96 b97 (o98+1) λv99=>uC v99 λl101=>Hm 0 w96 λυ θ G H=>dP (decide (G< (l101:Int))) (vQ v99 G λb107 o108=>fW H b107 (o108+G.toNat* 1) λι=>cJ ι λb112 o113=>fW H b112 (o113+3) λv114=>∃φ:Option Addr,v114= .pointer φ/\dP (!Option.isNone φ) (cJ ι λb116 o117=>fW H b116 (o117+3) λv118=>∃(f119:Nat) (χ:List Value),(Value.func (.func 223) #[] #[(.pointer (some ⟨ξ,0,none⟩)),(.pointer (some ⟨ν,0,none⟩))])= .func (.func f119) #[] (List.toArray χ)/\hasR gD f119=true/\fC f119 (List.toArray ([v118]++χ)) H λψ=>cJ ι λb122 o123=>fW ψ b122 (o123+4) λv124=>uC v124 λl126=>Hm 0 ψ λI128 ω Z δ=>dP (decide (Z< (l126:Int))) (vQ v124 Z λb132 o133=>fW δ b132 (o133+Z.toNat* 1) λv136=>∃(f137:Nat) (c138:List Value),(Value.func (.func 223) #[] #[(.pointer (some ⟨ξ,0,none⟩)),(.pointer (some ⟨ν,0,none⟩))])= .func (.func f137) #[] (List.toArray c138)/\hasR gD f137=true/\fC f137 (List.toArray ([v136]++c138)) δ λw139=>cW (Z+1)/\I128 (Z+1) w139/\ω (Z+1) w139< ω Z δ) (cW (G+1)/\υ (G+1) δ/\θ (G+1) δ< θ G H)) (cJ ι λb140 o141=>fW H b140 (o141+4) λv142=>uC v142 λl144=>Hm 0 H λI146 m147 β ε=>dP (decide (β< (l144:Int))) (vQ v142 β λb150 o151=>fW ε b150 (o151+β.toNat* 1) λv154=>∃(f155:Nat) (c156:List Value),(Value.func (.func 223) #[] #[(.pointer (some ⟨ξ,0,none⟩)),(.pointer (some ⟨ν,0,none⟩))])= .func (.func f155) #[] (List.toArray c156)/\hasR gD f155=true/\fC f155 (List.toArray ([v154]++c156)) ε λw157=>cW (β+1)/\I146 (β+1) w157/\m147 (β+1) w157< m147 β ε) (cW (G+1)/\υ (G+1) ε/\θ (G+1) ε< θ G H))) (qg H λS158 w159=>yO S158 ξ 0 λn160=>yO S158 ν 0 λn161=>R n160 n161 w159))):
  Qy 187 #[l1] w (ax [.i,.i] R):=
 Lf (aZ [(4,[(27,.i)]),(9,[(47,.i)])] [] [(1,true,.lt 0 (.lt 1 (.lt 2 (.lt 3 (.lt 4 (.lt 5 (.lt 6 (.lt 7 (.lt 8 (.lt 9 (.br .g 10 (.one .g 11 (.one .g 12 (.one .n 13 .done))) (.one .g 11 (.one .g 10 (.one .g 12 (.one .n 13 .done))))))))))))))),(14,true,.lt 0 (.lt 1 (.lt 2 (.lt 3 .done))))]) [.tmp 2 .i,.tmp 3 .i] [.v l1] Tryz.func187 (by kernel_rfl) h
attribute [go_sem] Tryz.f96
def zT (c1:UInt8)(w:World)(R:UInt32->Qx)(h:vc az (aZ [] [] []) (ab Tryz.f96) (ai 0 [.c c1]) w (fin az [.tmp 2 .w] R)):
  Qy 96 #[(.int .u8 c1.toNat)] w (ax [.w] R):=
 a7 Tryz.func96 (by kernel_rfl) h
attribute [go_sem] Tryz.f80
def ur (s1:UInt32)(w:World)(R:UInt8->Bool->Qx)(h:vc az (aZ [(2,[(4,.c)])] [] []) (ab Tryz.f80) (ai 0 [.w s1]) w (fin az [.tmp 2 .c,.tmp 3 .b] R)):
  Qy 80 #[(.int .u32 (UInt32.toNat s1))] w (ax [.c,.b] R):=
 a7 Tryz.func80 (by kernel_rfl) h
attribute [go_sem] Tryz.f227
def mS (n1:Value)(G:Int)(w:World)(R:UInt32->Qx)(h:vc az (aZ [] [] [(6,true,.lt 0 (.lt 1 (.lt 2 (.lt 3 (.lt 4 (.one .g 5 (.lt 6 (.lt 7 (.lt 8 (.one .n 9 .done))))))))))]) (ab Tryz.f227) (ai 0 [.v n1,.i G]) w (fin az [.tmp 4 .w] R)):
  Qy 227 #[n1,(.int .i64 G)] w (ax [.w] R):=
 a7 Tryz.func227 (by kernel_rfl) h
attribute [go_sem] Tryz.f228
def ni (n1:Value)(G:Int)(w:World)(R:aJ->Qx)(h:vc az (aZ [] [] []) (ab Tryz.f228) (ai 0 [.v n1,.i G]) w (fin az [.tmp 4 .s] R)):
  Qy 228 #[n1,(.int .i64 G)] w (ax [.s] R):=
 a7 Tryz.func228 (by kernel_rfl) h
attribute [go_sem] Tryz.f230
def wU (t1:Value)(s2:aJ)(w:World)(R:aJ->Qx)(h:vc az (aZ [(4,[(5,.s),(6,.i)])] [] []) (ab Tryz.f230) (ai 0 [.v t1,.s s2]) w (fin az [.tmp 4 .s] R)):
  Qy 230 #[t1,(.string (ay s2))] w (ax [.s] R):=
 a7 Tryz.func230 (by kernel_rfl) h
attribute [go_sem] Tryz.f229
def ku (n1:Value)(t2:Value)(w:World)(R:aJ->Qx)(h:vc az (aZ [(5,[(5,.v),(24,.i)])] [] [(15,true,.lt 0 (.lt 1 (.lt 2 (.lt 3 (.lt 4 (.lt 6 (.lt 7 (.lt 8 (.lt 9 (.lt 10 (.one .g 5 (.one .g 11 (.lt 12 (.lt 13 .done)))))))))))))),(19,true,.lt 0 (.lt 1 (.lt 2 (.lt 3 (.lt 4 (.lt 7 (.lt 8 (.lt 9 (.lt 10 (.lt 11 (.lt 15 (.lt 16 (.lt 17 (.lt 18 (.lt 19 (.one .g 5 (.lt 6 (.one .g 12 (.lt 13 (.lt 14 (.one .g 20 (.lt 21 (.lt 22 .done))))))))))))))))))))))),(22,true,.lt 0 (.lt 1 (.lt 2 (.lt 3 (.lt 4 (.lt 7 (.lt 8 (.lt 9 (.lt 10 (.lt 11 (.lt 15 (.lt 16 (.lt 17 (.lt 18 (.lt 19 (.one .g 5 (.lt 6 (.one .g 12 (.lt 13 (.lt 14 (.one .g 20 (.lt 21 (.lt 22 .done)))))))))))))))))))))))]) (ab Tryz.f229) (ai 0 [.v n1,.v t2]) w (fin az [.tmp 4 .s] R)):
  Qy 229 #[n1,t2] w (ax [.s] R):=
 a7 Tryz.func229 (by kernel_rfl) h
attribute [go_sem] Tryz.f226
def jO (c1:Value)(c2:Value)(c3:Value)(c4:Value)(c5:Value)(w:World)(R:Qx)(h:vc az (aZ [(2,[(5,.s),(14,.i)]),(9,[(8,.v),(35,.i)])] [] []) (ab Tryz.f226) (ai 0 [.v c1,.v c2,.v c3,.v c4,.v c5]) w (fin az [] R)):
  Qy 226 #[c1,c2,c3,c4,c5] w (ax [] R):=
 a7 Tryz.func226 (by kernel_rfl) h
attribute [go_sem] Tryz.f225
def kL (G:Value)(a2:Int)(d3:Value)(w:World)(R:Qx)(h:vc az (aZ [(3,[(6,.i)])] [] [(5,true,.lt 0 (.lt 1 (.lt 2 (.lt 3 (.lt 4 (.lt 5 (.lt 6 (.lt 7 (.lt 8 (.lt 9 (.lt 10 (.lt 11 (.lt 12 (.one .n 13 (.lt 14 (.one .n 15 .done)))))))))))))))),(7,true,.lt 0 (.lt 1 (.lt 2 (.lt 3 (.lt 4 (.lt 5 (.lt 6 (.lt 7 (.lt 8 (.lt 9 (.lt 10 (.lt 11 (.lt 12 (.one .n 13 (.lt 14 (.one .n 15 .done))))))))))))))))]) (ab Tryz.f225) (ai 0 [.v G,.i a2,.v d3]) w (fin az [] R)):
  Qy 225 #[G,(.int .i64 a2),d3] w (ax [] R):=
 a7 Tryz.func225 (by kernel_rfl) h
attribute [go_sem] Tryz.f189
def lY (n1:Value)(G:Value)(w:World)(R:aJ->Qx)(h:vc az (aZ [] [] [(3,true,.lt 0 (.lt 1 (.lt 2 (.lt 3 (.br .g 4 (.one .g 5 (.one .g 6 (.one .n 7 .done))) (.one .g 5 (.one .g 4 (.one .g 6 (.one .n 7 .done)))))))))]) (ab Tryz.f189) (ai 0 [.v n1,.v G]) w (fin az [.tmp 4 .s] R)):
  Qy 189 #[n1,G] w (ax [.s] R):=
 a7 Tryz.func189 (by kernel_rfl) h
attribute [go_sem] Tryz.f117
def kJ (G:Value)(w:World)(R:aJ->Bool->Qx)(h:vc az (aZ [(7,[(25,.i)])] [] [(10,true,.lt 0 (.lt 1 (.lt 2 (.lt 3 (.lt 4 (.lt 5 (.lt 6 (.lt 7 (.lt 8 (.one .n 9 .done))))))))))]) (ab Tryz.f117) (ai 0 [.v G]) w (fin az [.tmp 2 .s,.tmp 3 .b] R)):
  Qy 117 #[G] w (ax [.s,.b] R):=
 a7 Tryz.func117 (by kernel_rfl) h
attribute [go_sem] Tryz.f62
def mz (t1:Value)(w:World)(R:aJ->Bool->Qx)(h:vc az (aZ [] [] []) (ab Tryz.f62) (ai 0 [.v t1]) w (fin az [.tmp 2 .s,.tmp 3 .b] R)):
  Qy 62 #[t1] w (ax [.s,.b] R):=
 a7 Tryz.func62 (by kernel_rfl) h
def cP:∀l:Lv,thAll l<=l.tot
 | .nil=>Nc _
 | .thr _ _ _ o r n=>by have :=cP r;have :=cP n;simp only [thAll,Lv.tot];omega
 | .sum ps n=>by have :=cP ps;have :=cP n;simp only [thAll,Lv.tot];omega
 | .part o q n=>by have :=cP q;have :=cP n;simp only [thAll,Lv.tot];omega
def LZ (n:Nat):Prop:=∀{D:Nat->Prop} {w:World} {v:Value} {o:List Nat} {l:Lv} {R:Int->Int->Qx},l.sz<=n->l.sh true=true->fL D w v o (af D w l)->o.length+l.tot<=1099511627776->
 (∀w',Ex w w'->R ((max o.length (an l):Nat):Int) ((o.length+thAll l:Nat):Int) w')->Qy 187 #[v] w (ax [.i,.i] R)
structure FS (w w':World)(bm ba m a:Nat):Prop where
 ex:Ex w w'
 lm:bm< w'.heap.size
 la:ba< w'.heap.size
 hm:w.heap.size<=bm
 ha:w.heap.size<=ba
 ne:bm≠ba
 cm:w'.cell? ⟨bm,0,none⟩=some (iv m)
 ca:w'.cell? ⟨ba,0,none⟩=some (iv a)
 fm:w'.frozen? ⟨bm,0,none⟩=false
 fa:w'.frozen? ⟨ba,0,none⟩=false
def FS.ext {w w' w'':World}{bm ba m a:Nat}(h:FS w w' bm ba m a)(x:Ex w' w''):FS w w'' bm ba m a:=
 ⟨Ex.trans h.ex x,Nz h.lm x.size,Nz h.la x.size,h.hm,h.ha,h.ne,by rw [x.cell (show bm< _ from h.lm)];exact h.cm,by rw [x.cell (show ba< _ from h.la)];exact h.ca,
  by rw [NH (w:=w') (x.block bm h.lm)];exact h.fm,by rw [NH (w:=w') (x.block ba h.la)];exact h.fa⟩
def FS.K2 {w w' w'':World}{bm ba m a m':Nat}(h:FS w w' bm ba m a)(hw:w''=w'.setCell ⟨bm,0,none⟩ (iv m')):FS w w'' bm ba m' a:=by
 subst hw;exact⟨Ex.own h.ex h.hm _,by rw [NV];exact h.lm,by rw [NV];exact h.la,h.hm,h.ha,h.ne,Ns _ _ _ h.cm,by rw [Na _ _ _ _ (λe=>by injection e with G;exact h.ne G)];exact h.ca,by rw [Nv];exact h.fm,by rw [Nv];exact h.fa⟩
def FS.KY {w w' w'':World}{bm ba m a a':Nat}(h:FS w w' bm ba m a)(hw:w''=w'.setCell ⟨ba,0,none⟩ (iv a')):FS w w'' bm ba m a':=by
 subst hw;exact⟨Ex.own h.ex h.ha _,by rw [NV];exact h.lm,by rw [NV];exact h.la,h.hm,h.ha,h.ne,by rw [Na _ _ _ _ (λe=>by injection e with G;exact h.ne G.symm)];exact h.cm,Ns _ _ _ h.ca,by rw [Nv];exact h.fm,by rw [Nv];exact h.fa⟩
def Jm {n:Nat}(ih:LZ n){D:Nat->Prop}{w w':World}{v:Value}{o:List Nat}{l:Lv}{bm ba m a:Nat}(hs:FS w w' bm ba m a)(hn:l.sz<=n)(γ:l.sh true=true)(h:fL D w' v o (af D w' l))(hb:a+o.length+l.tot<=1099511627776){R:Qx}
  (hR:∀w'',FS w w'' bm ba (max m (max o.length (an l))) (a+(o.length+thAll l))->R w''):Qy 223 #[v,ptr bm,ptr ba] w' (ax [] R):=by
 refine iT v _ _ w' R ?_;dsimp only [go_sem];have h1:=cP l;refine ih hn γ h (by omega) λw6 x6=>⟨λ _=>True,λw8 δ=>⟨trivial,?_⟩⟩
 have f8:FS w w8 bm ba m a:=(hs.ext x6).ext (δ▸Ex.drew w6);have em:(if((max o.length (an l):Nat):Int)> (m:Int)then((max o.length (an l):Nat):Int)else(m:Int))=((max m (max o.length (an l)):Nat):Int):=by split<;>omega
 have ea:((a:Int)+((o.length+thAll l:Nat):Int))=((a+(o.length+thAll l):Nat):Int):=by omega
 have β:cW ((a:Int)+((o.length+thAll l:Nat):Int)):=by omega
 have fin:∀w1 w2,FS w w1 bm ba (max m (max o.length (an l))) a->w2=w1.setCell ⟨ba,0,none⟩ (.int .i64 ((a:Int)+((o.length+thAll l:Nat):Int)))->True/\R w2:=λw1 w2 f1 hw=>by
  rw [ea]at hw;exact⟨trivial,hR w2 (f1.KY hw)⟩
 have mid:∀w1,w1=w8.setCell ⟨bm,0,none⟩ (.int .i64 (if((max o.length (an l):Nat):Int)> (m:Int)then((max o.length (an l):Nat):Int)else(m:Int)))->FS w w1 bm ba (max m (max o.length (an l))) a:=λw1 hw=>by
  rw [em]at hw;exact f8.K2 hw
 refine⟨⟨bm,0,rfl,m,f8.cm,trivial,⟨ba,0,rfl,a,f8.ca,trivial,β,bm,0,rfl,⟨⟨_,f8.cm⟩,f8.fm⟩,λH G=>⟨trivial,ba,0,rfl,⟨⟨_,(mid H G).ca⟩,(mid H G).fa⟩,λZ J=>fin H Z (mid H G) J⟩⟩,
  ⟨bm,0,rfl,⟨⟨_,f8.cm⟩,f8.fm⟩,λH G=>⟨trivial,ba,0,rfl,a,(mid H G).ca,trivial,β,ba,0,rfl,⟨⟨_,(mid H G).ca⟩,(mid H G).fa⟩,λZ J=>fin H Z (mid H G) J⟩⟩⟩,
  ⟨ba,0,rfl,a,f8.ca,trivial,β,bm,0,rfl,m,f8.cm,trivial,bm,0,rfl,⟨⟨_,f8.cm⟩,f8.fm⟩,λH G=>⟨trivial,ba,0,rfl,⟨⟨_,(mid H G).ca⟩,(mid H G).fa⟩,λZ J=>fin H Z (mid H G) J⟩⟩⟩
def FS.swap {w w':World}{bm ba m a:Nat}(h:FS w w' bm ba m a):FS w w' ba bm a m:=⟨h.ex,h.la,h.lm,h.ha,h.hm,P' h.ne,h.ca,h.cm,h.fa,h.fm⟩
def aW (w:World)(c:Array Value)(e j:Nat):(w.alloc (.cells c e)).frozen? ⟨w.heap.size,j,none⟩=false:=by unfold World.frozen? World.alloc;simp
def FS.new {w w1 H w3:World}{bm ba:Nat}(x:Ex w w1)(hm:bm=w1.heap.size)(J:H=w1.alloc (.cells #[iv 0] 3))(ha:ba=H.heap.size)(Z:w3=H.alloc (.cells #[iv 0] 3)):Ex w H/\FS w w3 bm ba 0 0:=by
 have :=x.size;subst hm J ha Z;have x2:Ex w (w1.alloc (.cells #[iv 0] 3)):=Ex.trans x (Ex.alloc _ _);have s2:=size_alloc w1 (.cells #[iv 0] 3);have s3:=size_alloc (w1.alloc (.cells #[iv 0] 3)) (.cells #[iv 0] 3);have G:w1.heap.size< (w1.alloc (.cells #[iv 0] 3)).heap.size:=by omega
 refine⟨x2,Ex.trans x2 (Ex.alloc _ _),by omega,by omega,this,by omega,by omega,?_,aa rfl,?_,aW _ _ _ _⟩
 ·rw [(Ex.alloc _ _).cell (a:=⟨w1.heap.size,0,none⟩) G];exact aa rfl
 ·rw [NH (w:=w1.alloc (.cells #[iv 0] 3)) ((Ex.alloc _ _).block _ G)];exact aW _ _ _ _
def zg (n:Nat)(ih:∀m,m< n->LZ m):LZ n:=by
 intro D w v o l R hn hsh h hb hR;refine j0 v w R ?_;obtain⟨b,vo,vt,ts,rfl,h2,h3,h4,h5,h6,h7,h8⟩:=h;obtain⟨ao,ς,χ⟩:=h6.slice;rw [Nq]at χ;obtain⟨at_,capt,hvt⟩:=h7.slice;have hlen:=h8.len;have hel:=Lv.cu l;have hlt:=bL l;have cv:∀{w1:World},Ex w w1->∀{j:Nat} {u:Value},w.cell? ⟨b,j,none⟩=some u->w1.cell? ⟨b,j,none⟩=some u:=by
  intro w1 hx j u hu;rw [hx.cell (show b< _ from h3)];exact hu
 have fin:∀bm ba J,FS w J bm ba (max o.length (an l)) (o.length+thAll l)->∃ψ:Qx,∀κ:World,κ=World.drew J->ψ κ/\∃n87:Int,(∀w',ψ w'->World.cell? w' ⟨bm,0,none⟩=some (Value.int IntKind.i64 n87))/\∃n88:Int,(∀w',ψ w'->World.cell? w' ⟨ba,0,none⟩=some (Value.int IntKind.i64 n88))/\R (n87) (n88) κ:=by
  intro bm ba J f;refine⟨λw'=>Ex J w',λκ υ=>⟨υ▸Ex.drew J,((max o.length (an l):Nat):Int),λw' x=>(f.ext x).cm,((o.length+thAll l:Nat):Int),λw' x=>(f.ext x).ca,hR _ (Ex.trans f.ex (υ▸Ex.drew J))⟩⟩
 refine⟨λw'=>Ex w w',λw3 hw3=>⟨hw3▸Ex.drew w,b,0,rfl,vo,λw' hx=>cv hx h4,ao,_,ς,χ,b,0,rfl,vo,λw' hx=>cv hx h4,ao,_,ς,χ,λb1 ω η H=>?A,λb1 ω η H=>?B⟩⟩
 all_goals have x3:Ex w w3:=hw3▸Ex.drew w
 case' A=>
  have x17:Ex w ω:=H▸Ex.trans x3 (Ex.alloc _ _);refine⟨x17,λb2 w19 θ Z=>?_⟩;have f:=(FS.new x3 η H θ Z).2;refine⟨f.ex,⟨⟨_,f.cm⟩,f.fm⟩,λw21 β=>?_⟩;have f21:=f.K2 (m':=o.length) β;refine⟨f21.ex,⟨⟨_,f21.ca⟩,f21.fa⟩,λw23 γ=>?_⟩;have f23:=f21.KY (a':=o.length) γ;generalize b1=bm at*;generalize b2=ba at*;clear η θ H Z β γ f f21
 case' B=>
  have x17:Ex w ω:=H▸Ex.trans x3 (Ex.alloc _ _);refine⟨x17,λb2 w19 θ Z=>?_⟩;have f:=(FS.new x3 η H θ Z).2.swap;refine⟨f.ex,⟨⟨_,f.cm⟩,f.fm⟩,λw21 β=>?_⟩;have f21:=f.K2 (m':=o.length) β;refine⟨f21.ex,⟨⟨_,f21.ca⟩,f21.fa⟩,λw23 γ=>?_⟩;have f23:=f21.KY (a':=o.length) γ;generalize b1=ba at*;generalize b2=bm at*;clear η θ H Z β γ f f21
 all_goals
  refine⟨b,0,rfl,vt,cv f23.ex h5,at_,_,capt,hvt,λx w'=>∃i:Nat,x=i/\i<=ts.length/\FS w w' bm ba (max o.length (an (l.take i))) (o.length+thAll (l.take i)),λx _=>(ts.length - x).toNat,⟨0,rfl,N5 _,by simpa [Lv.take,an,thAll]using f23⟩,λx J hI=>?_⟩;obtain⟨i,rfl,hi,f33⟩:=hI;refine⟨λhlt'=>?_,λhge=>?_⟩;rotate_left
  ·have:i=l.a8.length:=by simp only [No]at hge;omega
   rw [this,Lv.cL]at f33;exact fin bm ba J f33
  have μ:=oL hlt';have hie:i< l.a8.length:=by omega
  obtain⟨bt,ot,G,hvt',hc⟩:∃bt ot G,vt= .slice (some ⟨bt,ot,none⟩) ts.length G/\J.cell? ⟨bt,ot+i,none⟩=some ts[i]:=by
   rcases h7 with⟨_,h0⟩ | ⟨bt,ot,G,e,_,hb',ε⟩
   ·rw [h0]at μ;simp at μ
   ·exact⟨bt,ot,G,e,by rw [f33.ex.cell (show bt< _ from hb')];exact ε i _ (M6 μ)⟩
  obtain⟨e,he1,he2,he3⟩:=aO.single h8.a8 (M6 μ);have he4:l.a8[i]=e:=by rw [M6 hie]at he1;exact NY he1
  have hts:=Lv.take_succ l i hie;rw [he4]at hts;have htt:=Lv.fg l (i+1);rw [hts,Lv.bM]at htt;have htt0:=cP (l.take i);have hsz:=Lv.dQ l e he2;have he5:=he3.ex f33.ex;have step:∀δ,FS w δ bm ba (max (max o.length (an (l.take i))) (an e)) (o.length+thAll (l.take i)+thAll e)->cW ((i:Int)+1)/\(∃j:Nat,(i:Int)+1=j/\j<=ts.length/\FS w δ bm ba (max o.length (an (l.take j))) (o.length+thAll (l.take j)))/\((ts.length:Int) - ((i:Int)+1)).toNat< ((ts.length:Int) - i).toNat:=by
   intro δ f58;refine⟨by omega,⟨i+1,by omega,by omega,?_⟩,by omega⟩;rw [hts,bQ,bN];rw [Nat.max_assoc,O']at f58;exact f58
  refine⟨bt,ot,_,G,hvt',by omega,by omega,ts[i],by rw [Nf,NQ];exact hc,?_⟩;rcases Lv.jh hsh e he2 with⟨k,a,bb,o',r,rfl,hr⟩ | ⟨ps,rfl,hps⟩
  ·obtain⟨t,ts',a',b',vr,e1,ht,_,ν,_⟩:=he3;obtain⟨rfl,rfl⟩:=Oa e1;obtain⟨g,hg,_,ξ,c0,c1,c2,c3,c4⟩:=ht;have ν:=ν.ex f33.ex;rw [<-f33.ex.cell (show g< _ from ξ)]at c3;have hvr:∃br,vr=ptr br:=by obtain⟨br,_,_,_,e,_⟩:=ν;exact⟨br,e⟩
   obtain⟨br,rfl⟩:=hvr;simp only [Lv.sz]at hsz;simp only [Lv.tot]at htt;refine⟨g,0,hg,ptr br,c3,some ⟨br,0,none⟩,rfl,λ _=>⟨g,0,hg,ptr br,c3,223,[ptr bm,ptr ba],rfl,by kernel_rfl,?_⟩,λh=>by cases h⟩;refine Jm (ih r.sz (by omega)) f33 (Nc _) hr ν (by omega) λw48 f48=>?_
   refine⟨g,0,hg,.slice none 0 0,by rw [f48.ex.cell (show g< _ from ξ)];exact c4,none,0,0,rfl,λy δ=>y=0/\δ=w48,λ _ _=>0,⟨rfl,rfl⟩,λy δ hy=>?_⟩;obtain⟨rfl,rfl⟩:=hy;refine⟨λh=>by simp at h,λ _=>step _ ?_⟩;simpa [an,thAll]using f48
  ·obtain⟨t,ts',a',b',vp,us,e1,ht,hus,φ,_⟩:=he3;obtain⟨rfl,rfl⟩:=Oa e1;obtain⟨g,hg,_,ξ,c0,c1,c2,c3,c4⟩:=ht;obtain⟨au,cau,hvu⟩:=hus.slice;rw [<-f33.ex.cell (show g< _ from ξ)]at c3 c4;simp only [Lv.sz]at hsz;simp only [Lv.tot]at htt;have hul:=φ.len;have hpl:=Lv.cu ps;have hpt:=bL ps;refine⟨g,0,hg,.pointer none,c3,none,rfl,λh=>(by cases h),λ _=>⟨g,0,hg,vp,c4,au,_,cau,hvu,λy w'=>∃j:Nat,y=j/\j<=us.length/\FS w w' bm ba (max (max o.length (an (l.take i))) (an (ps.take j))) (o.length+thAll (l.take i)+thAll (ps.take j)),λy _=>(us.length - y).toNat,⟨0,rfl,N5 _,by simpa [Lv.take,an,thAll]using f33⟩,λy δ hJ=>?_⟩⟩;obtain⟨j,rfl,hj,f58⟩:=hJ;refine⟨λhlt2=>?_,λhge2=>?_⟩;rotate_left
   ·have:j=ps.a8.length:=by simp only [No]at hge2;omega
    rw [this,Lv.cL]at f58;exact step _ (by simpa [an,thAll]using f58)
   have ο:=oL hlt2;have hje:j< ps.a8.length:=by omega
   obtain⟨bu,ou,ζ,hvu',hcu⟩:∃bu ou ζ,vp= .slice (some ⟨bu,ou,none⟩) us.length ζ/\δ.cell? ⟨bu,ou+j,none⟩=some us[j]:=by
    rcases hus with⟨_,h0⟩ | ⟨bt,ot,G,e,_,hb',ε⟩
    ·rw [h0]at ο;simp at ο
    ·exact⟨bt,ot,G,e,by rw [f58.ex.cell (show bt< _ from hb')];exact ε j _ (M6 ο)⟩
   obtain⟨e,hf1,hf2,hf3⟩:=aO.single φ.a8 (M6 ο);have hf4:ps.a8[j]=e:=by rw [M6 hje]at hf1;exact NY hf1
   have ι:=Lv.take_succ ps j hje;rw [hf4]at ι;have htu:=Lv.fg ps (j+1);rw [ι,Lv.bM]at htu;have htu0:=cP (ps.take j);have hsz2:=Lv.dQ ps e hf2;obtain⟨o2,q,rfl,hq⟩:=Lv.lI hps e hf2;simp only [Lv.sz]at hsz2;simp only [Lv.tot]at htu;obtain⟨v2,ts2,e2,hlv2,_⟩:=hf3;obtain⟨rfl,rfl⟩:=Oa e2;refine⟨bu,ou,_,ζ,hvu',by omega,by omega,us[j],by rw [Nf,NQ];exact hcu,223,[ptr bm,ptr ba],rfl,by kernel_rfl,?_⟩;refine Jm (ih q.sz (by omega)) f58 (Nc _) hq (hlv2.ex f58.ex) (by omega) λw66 f66=>⟨by omega,⟨j+1,by omega,by omega,?_⟩,tN (by omega)⟩
   rw [ι,bQ,bN];simp only [an,thAll,Nat.max_zero,PC];rw [<-Nat.max_assoc,<-O'];exact f66
def F8 (n:Nat):LZ n:=by
 induction n using Nat.strongRecOn with
 | _ n G=>exact zg n G
namespace Lv
def bvs:Lv->List Nat
 | nil=>[]
 | thr k _ b o r n=>(if k= .r then [b]else [])++(o++(r.bvs++n.bvs))
 | sum ps n=>ps.bvs++n.bvs
 | part o q n=>o++(q.bvs++n.bvs)
def cO:∀l m:Lv,(l.app m).bvs=l.bvs++m.bvs
 | nil,m=>rfl
 | thr k a b o r n,m=>by simp only [app,bvs,cO n m,NX]
 | sum ps n,m=>by simp only [app,bvs,cO n m,NX]
 | part o q n,m=>by simp only [app,bvs,cO n m,NX]
def lD:∀(l:Lv),∀e∈l.a8,e.bvs.Sublist l.bvs
 | nil,e,h=>by cases h
 | thr k a b o r n,e,h=>by
  rcases Nw.1 h with rfl | h
  ·simp only [bvs,NM];exact OW (Oc _) (OW (Oc _) (O5 _ _))
  ·exact(lD n e h).trans ((OJ _ _).trans ((OJ _ _).trans (OJ _ _)))
 | sum ps n,e,h=>by
  rcases Nw.1 h with rfl | h
  ·simp only [bvs,NM];exact O5 _ _
  ·exact(lD n e h).trans (OJ _ _)
 | part o q n,e,h=>by
  rcases Nw.1 h with rfl | h
  ·simp only [bvs,NM];exact OW (Oc _) (O5 _ _)
  ·exact(lD n e h).trans ((OJ _ _).trans (OJ _ _))
def ph {x:Nat}:∀(l:Lv),∀e∈l.a8,e.fh x->l.fh x
 | nil,e,h,_=>by cases h
 | thr k a b o r n,e,h,G=>by
  rcases Nw.1 h with rfl | h
  ·rcases G with G | G | G | G
   ·exact .inl G
   ·exact .inr (.inl G)
   ·exact .inr (.inr (.inl G))
   ·exact G.elim
  ·exact .inr (.inr (.inr (ph n e h G)))
 | sum ps n,e,h,G=>by
  rcases Nw.1 h with rfl | h
  ·exact .inl (G.elim id λh=>h.elim)
  ·exact .inr (ph n e h G)
 | part o q n,e,h,G=>by
  rcases Nw.1 h with rfl | h
  ·exact .inl (G.elim id λh=>h.elim)
  ·exact .inr (ph n e h G)
def kE:∀(l:Lv) (i:Nat),∀x∈(l.take i).bvs,x∈l.bvs
 | _,0,x,h=>by simp [take,bvs]at h
 | nil,i+1,x,h=>h
 | thr k a b o r n,i+1,x,h=>by
  simp only [take,bvs,Nk]at h|-;exact h.imp id (Or.imp id (Or.imp id (kE n i x)))
 | sum ps n,i+1,x,h=>by
  simp only [take,bvs,Nk]at h|-;exact h.imp id (kE n i x)
 | part o q n,i+1,x,h=>by
  simp only [take,bvs,Nk]at h|-;exact h.imp id (Or.imp id (kE n i x))
def gu:∀(l:Lv) (i:Nat),(l.take i).len<=l.len
 | _,0=>by simp [take,len]
 | nil,i+1=>by simp [take,len]
 | thr k a b o r n,i+1=>by have :=gu n i;simp only [take,len];omega
 | sum ps n,i+1=>by have :=gu n i;simp only [take,len];omega
 | part o q n,i+1=>by have :=gu n i;simp only [take,len];omega
def sm:Lv->Bool
 | nil=>true
 | thr _ _ _ _ r n=>r.sm&&n.sm
 | sum ps n=> !ps.isNil&&(ps.sm&&n.sm)
 | part _ q n=>q.sm&&n.sm
def pQ:∀{l m:Lv},(l.app m).sm=(l.sm&&m.sm)
 | nil,m=>by simp [app,sm]
 | thr k a b o r n,m=>by simp only [app,sm,pQ (l:=n),Qp]
 | sum ps n,m=>by simp only [app,sm,pQ (l:=n),Qp]
 | part o q n,m=>by simp only [app,sm,pQ (l:=n),Qp]
def sE:∀{l:Lv},l.sm=true->∀e∈l.a8,e.sm=true
 | nil,_,e,h=>by cases h
 | thr k a b o r n,G,e,h=>by
  simp only [sm,M8]at G;rcases Nw.1 h with rfl | h
  ·simp only [sm,G.1,OA]
  ·exact sE G.2 e h
 | sum ps n,G,e,h=>by
  simp only [sm,M8]at G;rcases Nw.1 h with rfl | h
  ·simp only [sm,G.1,G.2.1,OA]
  ·exact sE G.2.2 e h
 | part o q n,G,e,h=>by
  simp only [sm,M8]at G;rcases Nw.1 h with rfl | h
  ·simp only [sm,G.1,OA]
  ·exact sE G.2 e h
def JQ {ps:Lv}{n:List Nat×Lv}(h:ps.sm=true)(G:n.2.sm=true):(spl ps n).2.sm=true:=by
 unfold spl;split
 ·exact G
 ·simp only [sm,M8]at h;simp only [pQ,h.1,G,OA]
 ·rename_i h1 H;have:ps.isNil=false:=by cases ps<;>first | rfl | exact absurd rfl h1
  simp only [sm,this,h,G,Bool.not_false,OA]
def K1 {o:List Nat}{q n:Lv}(h:q.sm=true)(G:n.sm=true):(prt o q n).sm=true:=by
 unfold prt;split
 ·exact G
 ·split
  ·simp only [sm,M8]at h;simp only [pQ,h.2.1,G,OA]
  ·simp only [sm,M8]at h|-;exact⟨h,G⟩
 ·simp only [sm,h,G,OA]
def nc:∀l:Lv,(tid l).2.sm=true
 | nil=>rfl
 | thr k a b o r n=>by
  have h1:=nc r;have G:=nc n;simp only [tid];have H:(kept o (tid r)).2=(tid r).2:=rfl;split
  ·simp only [pQ,H,h1,G,OA]
  ·split
   ·exact G
   ·simp only [sm,H,h1,G,OA]
 | sum ps n=>by
  simp only [tid];exact JQ (nc ps) (nc n)
 | part o q n=>by
  simp only [tid,kept];exact K1 (nc q) (nc n)
end Lv
structure ua (o:List Nat)(l:Lv):Prop where
 nd:(o++l.bvs).Nodup
 nf:∀x∈l.bvs,¬l.fh x
 ge:∀x∈o++l.bvs,26<=x
def ua.a8 {o:List Nat}{l:Lv}(h:ua o l){e:Lv}(he:e∈l.a8):ua [] e:=by
 have G:=Lv.lD l e he;refine⟨by simpa using(NU.1 h.nd).2.1.sublist G,λx H J=>h.nf x (G.subset H) (Lv.ph l e he J),λx H=>h.ge x (NG _ (G.subset (by simpa using H)))⟩
def ua.thr {k:K}{a b:Nat}{o:List Nat}{r:Lv}(h:ua [] (.thr k a b o r .nil)):ua o r/\(k= .r->26<=b/\b≠a/\b∉o/\b∉r.bvs):=by
 have nd:=h.nd;have ge:=h.ge;have nf:=h.nf;simp only [Lv.bvs,NM,N2]at nd ge nf;have G:=(NU.1 nd).2.1;refine⟨⟨G,λx H Z=>?_,λx H=>ge x (NG _ H)⟩,λhk=>?_⟩
 ·refine nf x (NG _ (NG _ H)) (.inr (.inr (.inl ⟨λJ=>(NU.1 G).2.2 x J x H rfl,fun⟨hk,hb⟩=>?_,Z⟩)));rw [NO hk]at nd;exact(NU.1 nd).2.2 b (by simp) x (NG _ H) hb.symm
 ·rw [NO hk]at nd ge nf;refine⟨ge b (by simp),λe=>nf b (by simp) (.inr (.inl ⟨hk,e⟩)),λJ=>(NU.1 nd).2.2 b (by simp) b (NS _ J) rfl,λhr=>(NU.1 nd).2.2 b (by simp) b (NG _ hr) rfl⟩
def ua.sum {ps:Lv}(h:ua [] (.sum ps .nil)):ua [] ps:=by
 have nd:=h.nd;have ge:=h.ge;have nf:=h.nf;simp only [Lv.bvs,NM,N2]at nd ge nf;exact⟨by simpa using nd,λx G H=>nf x G (.inl H),λx G=>ge x (by simpa using G)⟩
def ua.part {o:List Nat}{q:Lv}(h:ua [] (.part o q .nil)):ua o q:=by
 have nd:=h.nd;have ge:=h.ge;have nf:=h.nf;simp only [Lv.bvs,NM,N2]at nd ge nf;exact⟨nd,λx G H=>nf x (NG _ G) (.inl ⟨λJ=>(NU.1 nd).2.2 x J x G rfl,H⟩),ge⟩
def bH (l:List Tx):Nat:=(l.map λs=>s.length+3).sum
def gT {l m:List Tx}(h:l.Perm m):bH l=bH m:=iB (h.map _)
def AZ (l m:List Tx):bH (l++m)=bH l+bH m:=by simp [bH]
def gw (s:UInt8):∀l:List Tx,(joinS s l).length<=bH l
 | []=>by simp [joinS]
 | [a]=>by simp [joinS,bH]
 | a::b::l=>by
  have :=gw s (b::l);simp only [joinS,M0,Nb,Np];simp only [bH,NI,Ol]at this|-;omega
def vO (s:Tx):∀l:List UInt8,(wrap l s).length=3* l.length+s.length
 | []=>by simp [wrap]
 | c::l=>by simp only [wrap,M0,vO s l];omega
def nz {own:List Nat}{f:Rh->Tk->List Tx}{B:Nat}(hB:∀ρ tk,bH (f ρ tk)<=B)(ρ:Rh)(tk:Tk):(aP own f ρ tk).length<=3* own.length+B+1:=by
 unfold aP;split
 ·simp
 ·have G:((perms own).map λπ=>joinS 38 (bf (f (asg π (lets own.length tk) ρ) (addK (lets own.length tk) tk))))≠[]:=λe=>oC own (PM.1 e)
  obtain⟨h1,_⟩:=cf G;obtain⟨π,_,e⟩:=NT.1 h1;show(wrap _ (bE _)).length<=_;rw [vO,fq,<-e];have :=gw 38 (bf (f (asg π (lets own.length tk) ρ) (addK (lets own.length tk) tk)));rw [gT (aS _)]at this;have :=hB (asg π (lets own.length tk) ρ) (addK (lets own.length tk) tk);omega
def fM:∀(l:Lv) (ρ:Rh) (tk:Tk),bH (thS l ρ tk)<=16* l.tot
 | .nil,_,_=>by simp [thS,bH]
 | .thr k a b o r n,ρ,tk=>by
  have G:=fM n ρ tk;have h1:∀ρ tk,(aP o (thS r) ρ tk).length<=3* o.length+16* r.tot+1:=λρ tk=>nz (λρ tk=>fM r ρ tk) ρ tk
  simp only [bH]at G|-;cases k<;>simp only [thS,NI,Ol,kText,M0,Lv.tot]
  ·have :=h1 ρ tk;omega
  ·have :=h1 (aF ρ b (ic tk)) (cA tk (ic tk));omega
  ·have :=h1 ρ tk;omega
  ·have :=h1 ρ tk;omega
  ·have :=h1 ρ tk;omega
 | .sum ps n,ρ,tk=>by
  have h1:=fM ps ρ tk;have G:=fM n ρ tk;have H:=gw 43 (bf (thS ps ρ tk));rw [gT (aS _)]at H;simp only [bH]at h1 G H|-;simp only [thS,NI,Ol,Lv.tot];omega
 | .part o q n,ρ,tk=>by
  have G:=fM n ρ tk;have h1:(aP o (thS q) ρ tk).length<=3* o.length+16* q.tot+1:=nz (λρ tk=>fM q ρ tk) ρ tk;simp only [bH]at G|-;simp only [thS,NI,Ol,Lv.tot];omega
def pe {s:UInt8}:∀{l:List Tx},l≠[]->(∀t∈l,t≠[])->joinS s l≠[]
 | [],h,_=>absurd rfl h
 | [a],_,h=>h a (by simp)
 | a::b::l,_,_=>by simp [joinS]
def pU {l:List Tx}(h:l≠[]):bf l≠[]:=λe=>h (by have :=aS l;rw [e]at this;exact this.symm.eq_nil)
def Bx {own:List Nat}{f:Rh->Tk->List Tx}(J:∀ρ tk,∀t∈f ρ tk,t≠[])(he:∀ρ ρ' tk tk',(f ρ tk).isEmpty=(f ρ' tk').isEmpty)(ρ:Rh)(tk:Tk):aP own f ρ tk≠[]:=by
 unfold aP;split
 ·simp
 ·rename_i Z;have G:((perms own).map λπ=>joinS 38 (bf (f (asg π (lets own.length tk) ρ) (addK (lets own.length tk) tk))))≠[]:=λe=>oC own (PM.1 e)
  obtain⟨h1,_⟩:=cf G;obtain⟨π,_,e⟩:=NT.1 h1;show wrap _ (bE _)≠[];rw [z8];refine λe'=>?_
  have H:=(List.append_eq_nil_iff.1 e').2;rw [<-e]at H;refine pe (pU ?_) (λt ht=>J _ _ t ((aS _).subset ht)) H;intro e3;have :=he (asg π (lets own.length tk) ρ) ρ (addK (lets own.length tk) tk) tk;rw [e3]at this;exact Z this.symm
def GA (l:Lv)(ρ ρ':Rh)(tk tk':Tk):(thS l ρ tk).isEmpty=(thS l ρ' tk').isEmpty:=by
 rw [N',List.isEmpty_iff_length_eq_zero,List.isEmpty_iff_length_eq_zero,bj,bj]
def lN:∀(l:Lv),l.sm=true->∀(ρ:Rh) (tk:Tk),∀t∈thS l ρ tk,t≠[]
 | .nil,_,_,_,t,h=>by cases h
 | .thr k a b o r n,G,ρ,tk,t,h=>by
  simp only [Lv.sm,M8]at G;have H:t∈thS n ρ tk\/t≠[]:=by
   cases k<;>simp only [thS,Nw]at h<;>rcases h with rfl | h<;>first | exact .inl h | (right;simp [kText])
  exact H.elim (lN n G.2 ρ tk t) id
 | .sum ps n,G,ρ,tk,t,h=>by
  simp only [Lv.sm,M8]at G;rw [thS]at h;rcases Nw.1 h with rfl | h
  ·refine pe (pU λe=>?_) λt J=>lN ps G.2.1 ρ tk t ((aS _).subset J)
   have h1:=bj ps ρ tk;rw [e]at h1;have Z:ps.isNil=true:=by rw [Lv.cT];simp at h1;simp [<-h1]
   rw [Z]at G;simp at G
  ·exact lN n G.2.2 ρ tk t h
 | .part o q n,G,ρ,tk,t,h=>by
  simp only [Lv.sm,M8]at G;rw [thS]at h;rcases Nw.1 h with rfl | h
  ·exact Bx (λρ tk=>lN q G.1 ρ tk) (λρ ρ' tk tk'=>GA q ρ ρ' tk tk') ρ tk
  ·exact lN n G.2 ρ tk t h
def D3 (x:Nat)(ps:Lv)(n:List Nat×Lv):((Lv.spl ps n).1++(Lv.spl ps n).2.bvs).count x=ps.bvs.count x+(n.1++n.2.bvs).count x:=by
 unfold Lv.spl;split
 ·simp [Lv.bvs]
 ·simp only [Lv.cO,Lv.bvs,N3,Qq];omega
 ·simp only [Lv.bvs,N3];omega
def Ec (x:Nat)(o:List Nat)(q n:Lv):(Lv.prt o q n).bvs.count x<=o.count x+q.bvs.count x+n.bvs.count x:=by
 unfold Lv.prt;split
 ·omega
 ·split
  ·simp only [Lv.cO,Lv.bvs,N3,Qq];omega
  ·simp only [Lv.bvs,N3,Qq];omega
 ·simp only [Lv.bvs,N3];omega
def mW (x:Nat)(own:List Nat)(r:List Nat×Lv):((Lv.kept own r).1).count x<=own.count x+r.1.count x:=by
 have :=(List.filter_sublist (p:=λx=>r.2.has x) (l:=own++r.1)).count_le x;rw [N3]at this;exact this
def eH (x:Nat):∀l:Lv,((Lv.tid l).1++(Lv.tid l).2.bvs).count x<=l.bvs.count x
 | .nil=>by simp [Lv.tid,Lv.bvs]
 | .thr k a b o r n=>by
  have h1:=eH x r;have G:=eH x n;have H:=mW x o (Lv.tid r);have h4:(Lv.kept o (Lv.tid r)).2=(Lv.tid r).2:=rfl;simp only [Lv.tid];simp only [N3]at h1 G;split
  ·simp only [h4,Lv.cO,Lv.bvs,N3];omega
  ·split
   ·simp only [Lv.bvs,N3];omega
   ·simp only [h4,Lv.bvs,N3];omega
 | .sum ps n=>by
  have h1:=eH x ps;have G:=eH x n;simp only [Lv.tid,D3,Lv.bvs];simp only [N3]at h1 G|-;omega
 | .part o q n=>by
  have h1:=eH x q;have G:=eH x n;have H:=mW x o (Lv.tid q);have h4:(Lv.kept o (Lv.tid q)).2=(Lv.tid q).2:=rfl;have h5:=Ec x (Lv.kept o (Lv.tid q)).1 (Lv.kept o (Lv.tid q)).2 (Lv.tid n).2;simp only [Lv.tid,N2,Lv.bvs];rw [h4]at h5;simp only [N3]at h1 G h5|-;rw [h4];omega
def bK (x:Nat):∀u:U,((flat u).1++(flat u).2.bvs).count x=(BV u).count x
 | .nil=>rfl
 | .snd a b p=>by have :=bK x p;simpa [flat,Lv.bvs,BV]using this
 | .rcv a y p=>by have :=bK x p;simp only [flat,Lv.bvs,BV,O9,N3,List.count_cons,N2,Qq,NM]at this|-;omega
 | .tau p=>by have :=bK x p;simpa [flat,Lv.bvs,BV]using this
 | .sum p q=>by
  have :=bK x p;have :=bK x q;simp only [flat,Lv.bvs,BV,N3,N2,NM,Qq]at*;omega
 | .par p q=>by
  have :=bK x p;have :=bK x q;simp only [flat,Lv.cO,BV,N3]at*;omega
 | .res y p=>by have :=bK x p;simp only [flat,BV,N3,List.count_cons]at this|-;omega
 | .mat a b p=>by have :=bK x p;simpa [flat,Lv.bvs,BV]using this
 | .rep p=>by have :=bK x p;simpa [flat,Lv.bvs,BV]using this
def Gq (x:Nat)(u:U):((td u).1++(td u).2.bvs).count x<=(BV u).count x:=by
 have h1:=eH x (flat u).2;have G:=mW x (flat u).1 (Lv.tid (flat u).2);have H:=bK x u;have h4:(td u).2=(Lv.tid (flat u).2).2:=rfl;have h5:(td u).1=(Lv.kept (flat u).1 (Lv.tid (flat u).2)).1:=rfl;rw [h4,h5];simp only [N3]at*;omega
def Ca {u:U}(h:Uq u)(hb:∀x∈BV u,26<=x):ua (td u).1 (td u).2:=by
 have H:∀x,((td u).1++(td u).2.bvs).count x<=(BV u).count x:=λx=>Gq x u
 have hm:∀x∈(td u).1++(td u).2.bvs,x∈BV u:=λx G=>by
  have :=H x;have h1:=List.count_pos_iff.2 G;exact List.count_pos_iff.1 (by omega)
 have nd:((td u).1++(td u).2.bvs).Nodup:=PF.2 λx=>N8 (H x) (PF.1 h.nd x)
 refine⟨nd,λx G J=>?_,λx G=>hb x (hm x G)⟩;have h1:x∉(td u).1:=λh1=>(NU.1 nd).2.2 x h1 x G rfl
 exact h.nf x (hm x (NG _ G)) (T.bw (Gl _ u (Nc _) h x J h1))
def MO:Shelf.Ren where
 f:=λx=>if x=190 then 100 else if x=125 then 170 else if x=258 then 169 else if x=128 then 217 else if x=129 then 218 else if x=302 then 208 else if x=303 then 209 else if x=304 then 210 else if x=305 then 211 else if x=306 then 212 else if x=307 then 213 else if x=308 then 214 else if x=309 then 215 else if x=310 then 216 else if x=333 then 247 else if x=329 then 248 else if x=330 then 249 else if x=334 then 250 else if x=335 then 251 else if x=336 then 239 else if x=344 then 259 else x
 t:=λx=>if x=31 then 22 else if x=9 then 9 else if x=3 then 3 else if x=46 then 188 else if x=0 then 0 else if x=51 then 91 else if x=53 then 228 else if x=4 then 4 else if x=183 then 221 else if x=182 then 220 else if x=131 then 210 else if x=5 then 5 else if x=218 then 246 else if x=222 then 250 else if x=228 then 255 else if x=229 then 200 else x
 g:=λx=>x
def Ki:Lays.n190 Tryz.prog MO where
 mixed:=Eq.refl true
 f125:=Oh Tryz.func170 (by kernel_rfl)
 f128:=Oh Tryz.func217 (by kernel_rfl)
 f129:=Oh Tryz.func218 (by kernel_rfl)
 f190:=Oh Tryz.func100 (by kernel_rfl)
 f258:=Oh Tryz.func169 (by kernel_rfl)
 f302:=Oh Tryz.func208 (by kernel_rfl)
 f303:=Oh Tryz.func209 (by kernel_rfl)
 f304:=Oh Tryz.func210 (by kernel_rfl)
 f305:=Oh Tryz.func211 (by kernel_rfl)
 f306:=Oh Tryz.func212 (by kernel_rfl)
 f307:=Oh Tryz.func213 (by kernel_rfl)
 f308:=Oh Tryz.func214 (by kernel_rfl)
 f309:=Oh Tryz.func215 (by kernel_rfl)
 f310:=Oh Tryz.func216 (by kernel_rfl)
 f329:=Oh Tryz.func248 (by kernel_rfl)
 f330:=Oh Tryz.func249 (by kernel_rfl)
 f333:=Oh Tryz.func247 (by kernel_rfl)
 f334:=Oh Tryz.func250 (by kernel_rfl)
 f335:=Oh Tryz.func251 (by kernel_rfl)
 f336:=Oh Tryz.func239 (by kernel_rfl)
 f344:=Oh Tryz.func259 (by kernel_rfl)
 t0:=Tryz.underlying0
 a0:=Tryz.isAgg0
 z0:=Tryz.sizeOf0
 v0:=Tryz.zeroValue0
 t3:=Tryz.underlying3
 a3:=Tryz.isAgg3
 z3:=Tryz.sizeOf3
 v3:=Tryz.zeroValue3
 t4:=Tryz.underlying4
 a4:=Tryz.isAgg4
 z4:=Tryz.sizeOf4
 v4:=Tryz.zeroValue4
 t5:=Tryz.underlying5
 a5:=Tryz.isAgg5
 z5:=Tryz.sizeOf5
 v5:=Tryz.zeroValue5
 t9:=Tryz.underlying9
 a9:=Tryz.isAgg9
 z9:=Tryz.sizeOf9
 v9:=Tryz.zeroValue9
 t31:=Tryz.underlying22
 a31:=Tryz.isAgg22
 z31:=Tryz.sizeOf22
 v31:=Tryz.zeroValue22
 t46:=Tryz.underlying188
 a46:=Tryz.isAgg188
 z46:=Tryz.sizeOf188
 v46:=Tryz.zeroValue188
 t51:=Tryz.underlying91
 a51:=Tryz.isAgg91
 z51:=Tryz.sizeOf91
 v51:=Tryz.zeroValue91
 t53:=Tryz.underlying228
 a53:=Tryz.isAgg228
 z53:=Tryz.sizeOf228
 v53:=Tryz.zeroValue228
 t131:=Tryz.underlying210
 a131:=Tryz.isAgg210
 z131:=Tryz.sizeOf210
 v131:=Tryz.zeroValue210
 t182:=Tryz.underlying220
 a182:=Tryz.isAgg220
 z182:=Tryz.sizeOf220
 v182:=Tryz.zeroValue220
 t183:=Tryz.underlying221
 a183:=Tryz.isAgg221
 z183:=Tryz.sizeOf221
 v183:=Tryz.zeroValue221
 t218:=Tryz.underlying246
 a218:=Tryz.isAgg246
 z218:=Tryz.sizeOf246
 v218:=Tryz.zeroValue246
 t222:=Tryz.underlying250
 a222:=Tryz.isAgg250
 z222:=Tryz.sizeOf250
 v222:=Tryz.zeroValue250
 t228:=Tryz.underlying255
 a228:=Tryz.isAgg255
 z228:=Tryz.sizeOf255
 v228:=Tryz.zeroValue255
 t229:=Tryz.underlying200
 a229:=Tryz.isAgg200
 z229:=Tryz.sizeOf200
 v229:=Tryz.zeroValue200
def sort_k {B:Nat}{w:World}{v:Value}{l:List Tx}(h:Own B w v l)(G:l≠[])(hl:l.length<=1099511627776){R:Qx}
  (hR:∀w',Kp w w' (λg=>v.ownBlock=some g)->Own B w' v (bf l)->R w'):Qy 100 #[v] w (ax [] R):=by
 rcases h.2 with⟨rfl,hn⟩ | ⟨g,cap,cur,rfl,hb,H,h1,h2,h3,h4⟩
 ·exact absurd (NF hn) G
 ·refine(Any.slices_Sort_string Ki g 0 cap l w (holds_of_block H (by rw [NQ]at h4;exact h4)) (NL.1 H).1 (by omega)).mono ?_
  rintro e w' ⟨rfl,n,os,rfl⟩
  refine⟨rfl,hR _ (Kp.aG (grownBy_sorted _) λg' J=>J) ?_⟩;have Z:(l.mergeSort λx y=>decide (x<=y)).length=l.length:=by simp
  have :=ownsRow_sorted (n:=n) (os:=os) Z hb H h1 h2 h3;have e2:bf l=l.mergeSort λx y=>decide (x<=y):=rfl
  unfold Own;rw [e2,Z];exact this
def BZ (s:UInt8)(a b:Tx)(l:List Tx):joinS s (a::b::l)=[40]++a++[s]++joinS s (b::l)++[41]:=by simp [joinS]
def Ho {B:Nat}{w:World}{v:Value}{l:List Tx}{c:UInt8}(h:Own B w v l)(H:l≠[])(hl:l.length<=1099511627776)(hs:bH l<=1099511627776){R:aJ->Qx}
  (hR:∀w',Kp w w' (λg=>v.ownBlock=some g)->R (joinS c (bf l)) w'):Qy 230 #[v,.string (ay [c])] w (ax [.s] R):=by
 refine wU v [c] w R ?_;dsimp only [go_sem];dsimp only [go_sem,Nat.reduceAdd];refine sort_k h H hl λw3 k3 o3=>?_
 have hp:=aS l;have J:(bf l).length=l.length:=hp.length_eq;have δ:0< l.length:=Pn.2 H;have st:=o3.strs;generalize hL:bf l=L at*;rcases st with⟨_,e⟩ | ⟨b,off,cap,rfl,hb,hc⟩
 ·rw [e]at J;simp at J;omega
 have ε:bH L=bH l:=gT hp;have Z:∀j,(hj:j< L.length)->w3.cell? ⟨b,off+j,none⟩=some (.string (ay L[j])):=λj hj=>hc j _ (M6 hj)
 have G:∀j,bH (L.drop j)<=bH L:=λj=>by
  have:bH L=bH (L.take j)+bH (L.drop j):=by rw [<-AZ,Oi]
  omega
 refine⟨_,_,cap,rfl,by omega,b,off,_,cap,rfl,by omega,by omega,L[L.length - 1]'(by omega),?_,_,_,cap,rfl,by omega,λout i w'=>w'=w3/\ -1<=i/\i+2<=L.length/\out=joinS c (L.drop (i+1).toNat),λ _ i _=>(i+1).toNat,⟨rfl,by omega,by omega,?_⟩,λout i w' hI=>?_⟩
 ·rw [NQ,show((L.length:Int) - 1).toNat=L.length - 1 by omega];exact Z _ (by omega)
 ·rw [show((L.length:Int) - 2+1).toNat=L.length - 1 by omega,N4 (by omega),show L.length - 1+1=L.length by omega,O8];rfl
 ·obtain⟨rfl,h0,h1,rfl⟩:=hI;refine⟨λhi=>?_,λhi=>?_⟩
  ·simp only [Nj]at hi;have β:i.toNat< L.length:=by omega
   have γ:i.toNat+1< L.length:=by omega
   have e1:(i+1).toNat=i.toNat+1:=by omega
   have e2:L.drop i.toNat=L[i.toNat]::L.drop (i.toNat+1):=N4 β;have e3:L.drop (i.toNat+1)=L[i.toNat+1]::L.drop (i.toNat+1+1):=N4 γ;have hj:=gw c (L.drop (i.toNat+1));have hd:=G i.toNat;have ζ:bH (L.drop i.toNat)=L[i.toNat].length+3+bH (L.drop (i.toNat+1)):=by rw [e2];simp only [bH,NI,Ol]
   rw [e1];refine⟨b,off,_,cap,rfl,by omega,by omega,L[i.toNat],by rw [NQ];exact Z _ β,?_,?_,?_,?_,by omega,⟨rfl,by omega,by omega,?_⟩,by show(i - 1+1).toNat< (i+1).toNat;omega⟩
   ·simp;omega
   ·simp;omega
   ·simp;omega
   ·simp;omega
   ·rw [show(i - 1+1).toNat=i.toNat by omega,e2,e3,BZ]
  ·simp only [No]at hi;have:i= -1:=by omega
   subst this;exact hR w' k3
def AP (c:UInt8):UInt32:=Au 1 (c - 97).toNat
def yL (x:UInt32)(tk:Tk):Prop:=∀c,lt c=true->decide (x &&& AP c=0)= !tk c
def zi (a b c:UInt32):(a ||| b) &&& c=(a &&& c) ||| (b &&& c):=by
 apply Qe.1;simp only [UInt32.toBitVec_and,UInt32.toBitVec_or]
 ext i hi
 simp [Bool.and_or_distrib_right]
def CO (a b:UInt32):a ||| b=0↔a=0/\b=0:=by
 rw [<-Qe,<-Qe,<-Qe];simp only [UInt32.toBitVec_or];exact BitVec.or_eq_zero_iff
def EY:∀i,i< 26->∀j,j< 26->decide (Au 1 i &&& Au 1 j=0)=decide (i≠j):=by decide+kernel
def Eg {c d:UInt8}(G:lt c=true)(hd:lt d=true):decide (AP c &&& AP d=0)= !(d==c):=by
 have h1:=bg G;have H:=bg hd;unfold AP;rw [EY _ (by rw [gC G];omega) _ (by rw [gC hd];omega),gC G,gC hd];rw [N'];simp only [Nj,Pa,beq_eq_false_iff_ne,ne_eq,<-NK];omega
def yL.add {x:UInt32}{tk:Tk}(h:yL x tk){d:UInt8}(hd:lt d=true):yL (x ||| AP d) (cA tk d):=by
 intro c G;rw [zi,decide_eq_decide.2 (CO _ _),Bool.decide_and,h c G,Eg hd G];simp [cA]
def Jg {c:UInt8}{w:World}{R:UInt32->Qx}(h:R (AP c) w):Qy 96 #[.int .u8 c.toNat] w (ax [.w] R):=
 zT c w R h
def JJ (tk:Tk):lt (ic tk)=true:=by
 unfold ic uH;cases h:DA.find? λc=> !tk c with
 | none=>decide
 | some c=>
  have :=Py h;unfold DA at this;simp only [NT,OQ]at this;obtain⟨i,hi,rfl⟩:=this;clear h;revert i;decide+kernel
def I4 {x:UInt32}{tk:Tk}(hx:yL x tk){w:World}{R:UInt8->Bool->Qx}(h1:uH tk=none->R 0 false w)(h2:∀c,uH tk=some c->R c true w):
  Qy 80 #[.int .u32 x.toNat] w (ax [.c,.b] R):=by
 refine ur x w R ?_;dsimp only [go_sem];dsimp only [go_sem,UInt8.reduceOfNat,UInt32.reduceOfNat,Nat.reduceAdd];refine⟨λc w'=>w'=w/\97<=c.toNat/\c.toNat<=123/\∀d:UInt8,97<=d->d< c->tk d=true,λc _=>123 - c.toNat,⟨rfl,by decide,by decide,λd h h'=>?_⟩,λc w' hI=>?_⟩
 ·rw [NA]at h;rw [N1]at h';omega
 ·obtain⟨rfl,h3,h4,h5⟩:=hI;refine⟨λJ=>Jg ?_,λJ=>?_⟩
  ·simp only [Nj,NA]at J;have H:c.toNat<=122:=J;have β:lt c=true:=rC ⟨h3,H⟩;have :=hx c β;refine⟨λhe=>?_,λhe=>?_⟩
   ·rw [he]at this;refine h2 c (rX (f:=λc=> !tk c) (by rw [NA];exact h3) (by rw [NA];exact H) this.symm λd hd G=>by simp [h5 d hd G])
   ·rw [he]at this;have ht:tk c=true:=by simpa using this.symm
    have e1:(c+1).toNat=c.toNat+1:=by rw [Qh];show(c.toNat+1) % 256=_;omega
    refine⟨⟨rfl,by omega,by omega,λd hd G=>?_⟩,by show 123 - (c+1).toNat< 123 - c.toNat;omega⟩;rw [N1,e1]at G;by_cases Z:d=c
    ·rw [Z];exact ht
    ·refine h5 d hd (N1.2 ?_);have:d.toNat≠c.toNat:=λe=>Z (NK.1 e)
     omega
  ·simp only [No,NA]at J;have H:122< c.toNat:=by have:¬c.toNat<=122:=J;omega
   refine h1 (vG (f:=λc=> !tk c) λd hd G=>?_);have:tk d=true:=h5 d hd (N1.2 (by rw [NA]at G;have:d.toNat<=122:=G;omega));simp [this]
def Mf (m:Value->Option Value)(ρ:Rh):Prop:=∀x,(ρ x).toNat< 128/\(x< 26->ρ x=UInt8.ofNat (97+x))/\(26<=x->m (iv x)=some (.int .u8 (ρ x).toNat)\/(m (iv x)=none/\ρ x=0))
structure Nm (w:World)(n r:Nat)(ρ:Rh)(tk:Tk)(bad:Bool):Prop where
 lt:n< w.heap.size
 lr:r< w.heap.size
 ne:n≠r
 c0:w.cell? ⟨n,0,none⟩=some (.map (some r))
 mp:∃m,IsMap w r (.int .i64) m/\Mf m ρ
 c1:∃x:UInt32,w.cell? ⟨n,1,none⟩=some (.int .u32 x.toNat)/\yL x tk
 c2:w.cell? ⟨n,2,none⟩=some (.bool bad)
 f:∀j,w.frozen? ⟨n,j,none⟩=false
def Nm.kp {w w':World}{n r:Nat}{ρ:Rh}{tk:Tk}{bad:Bool}{S:Nat->Prop}(h:Nm w n r ρ tk bad)(k:Kp w w' S)(G:¬S n)(hr:¬S r):Nm w' n r ρ tk bad:=by
 have e:=k.block n h.lt G;have H:=k.block r h.lr hr;obtain⟨m,⟨es,cl,h1,J⟩,Z⟩:=h.mp;obtain⟨x,h4,h5⟩:=h.c1;exact⟨Nz h.lt k.size,Nz h.lr k.size,h.ne,by rw [M5 (w:=w) e];exact h.c0,⟨m,⟨es,cl,by rw [H];exact h1,J⟩,Z⟩,⟨x,by rw [M5 (w:=w) e];exact h4,h5⟩,by rw [M5 (w:=w) e];exact h.c2,λj=>by rw [NH (w:=w) e];exact h.f j⟩
def Nm.ex {w w':World}{n r:Nat}{ρ:Rh}{tk:Tk}{bad:Bool}(h:Nm w n r ρ tk bad)(x:Ex w w'):Nm w' n r ρ tk bad:=h.kp (Kp.ah x λ _=>False) (λh=>h) λh=>h
abbrev Kn (n r:Nat)(w w':World):Prop:=Kp w w' λg=>g=n\/g=r
def Kn.trans {n r:Nat}{a b c:World}(h:Kn n r a b)(k:Kn n r b c):Kn n r a c:=Kp.trans h k λ _ _ h=>h
def Kn.ex {n r:Nat}{a b:World}(h:Ex a b):Kn n r a b:=Kp.ah h _
def Kn.set {n r:Nat}(w:World)(j:Nat)(v:Value):Kn n r w (w.setCell ⟨n,j,none⟩ v):=Kp.mono (λ _ h=> .inl h) (Kr.set w j v)
def Nm.set {w w':World}{n r:Nat}{ρ:Rh}{tk tk':Tk}{bad bad':Bool}(h:Nm w n r ρ tk bad){j:Nat}{v:Value}(hw:w'=w.setCell ⟨n,j,none⟩ v)(G:(j=1/\bad'=bad/\∃x:UInt32,v= .int .u32 x.toNat/\yL x tk')\/(j=2/\tk'=tk/\v= .bool bad')):Nm w' n r ρ tk' bad':=by
 subst hw;obtain⟨m,⟨es,cl,h1,H⟩,J⟩:=h.mp;obtain⟨x,h4,h5⟩:=h.c1;have kr:=Kr.set (r:=n) w j v;have Z:=kr.block r h.lr h.ne.symm;have ne:∀i,i≠j->(w.setCell ⟨n,j,none⟩ v).cell? ⟨n,i,none⟩=w.cell? ⟨n,i,none⟩:=λi hi=>Na _ _ _ _ (λe=>by injection e with e1 e2;omega)
 have sz:=kr.size;refine⟨by have :=h.lt;omega,by have :=h.lr;omega,h.ne,by rw [ne 0 (by rcases G with⟨h,_⟩ | ⟨h,_⟩<;>omega)];exact h.c0,⟨m,⟨es,cl,by rw [Z];exact h1,H⟩,J⟩,?_,?_,λi=>by rw [Nv];exact h.f i⟩
 ·rcases G with⟨rfl,_,y,rfl,hy⟩ | ⟨rfl,rfl,_⟩
  ·exact⟨y,Ns _ _ _ h4,hy⟩
  ·exact⟨x,by rw [ne 1 (by omega)];exact h4,h5⟩
 ·rcases G with⟨rfl,rfl,_⟩ | ⟨rfl,rfl,rfl⟩
  ·rw [ne 2 (by omega)];exact h.c2
  ·exact Ns _ _ _ h.c2
def Nm.put {w w':World}{n r:Nat}{ρ:Rh}{tk:Tk}{bad:Bool}(h:Nm w n r ρ tk bad){m:Value->Option Value}(hm:Mf m ρ){x:Nat}(hx:26<=x){c:UInt8}(J:c.toNat< 128)(G:IsMap w' r (.int .i64) (gz m (iv x) (.int .u8 c.toNat)))(hb:dR w w' r):
  Nm w' n r (aF ρ x c) tk bad/\Kn n r w w':=by
 have e:=hb.block n h.ne;obtain⟨y,h4,h5⟩:=h.c1;refine⟨⟨by rw [hb.size];exact h.lt,by rw [hb.size];exact h.lr,h.ne,by rw [M5 (w:=w) e];exact h.c0,⟨_,G,λz=>?_⟩,⟨y,by rw [M5 (w:=w) e];exact h4,h5⟩,by rw [M5 (w:=w) e];exact h.c2,λj=>by rw [NH (w:=w) e];exact h.f j⟩,
  hb.os,hb.tape,hb.output,by rw [hb.size];exact Nc _,λg _ Z=>hb.block g λe=>Z (.inr e)⟩
 obtain⟨k1,k2,k3⟩:=hm z;unfold aF gz;by_cases H:z=x
 ·subst H;refine⟨by simpa using J,λh=>by omega,λ _=> .inl ?_⟩;simp
 ·have:iv z≠iv x:=λe=>H (by injection e with _ e2;omega)
  simp only [Nt H,Nt this];exact⟨k1,k2,k3⟩
def Da {ρ:Rh}{x:Nat}:[UInt8.ofNat (Int.toNat ((ρ x).toNat:Int))]=[ρ x]:=by simp
def jq {w:World}{n r:Nat}{ρ:Rh}{tk:Tk}{bad:Bool}(h:Nm w n r ρ tk bad){x:Nat}{R:aJ->Qx}(hR:R [ρ x] w):Qy 228 #[ptr n,iv x] w (ax [.s] R):=by
 refine ni (ptr n) x w R ?_;dsimp only [go_sem];obtain⟨m,hm,G⟩:=h.mp;obtain⟨k1,J,Z⟩:=G x;refine⟨λH=>?_,λH=>?_⟩
 ·simp only [Nj]at H;have e:[UInt8.ofNat (Int.toNat (97+(x:Int)))]=[ρ x]:=by rw [J (by omega),show(97+(x:Int)).toNat=97+x by omega]
  refine⟨by omega,by omega,by omega,by rw [e];exact hR⟩
 ·simp only [No]at H;refine⟨n,0,rfl,_,h.c0,r,m,rfl,hm,ρ x,?_⟩;rcases Z (by omega)with h1 | ⟨h1,h2⟩
  ·exact⟨true,.inl ⟨rfl,h1⟩,by omega,by rw [Da];exact hR⟩
  ·exact⟨false,.inr ⟨rfl,h1,by rw [h2];rfl⟩,by omega,by rw [Da];exact hR⟩
def Gw {w:World}{n r:Nat}{ρ:Rh}{tk:Tk}{bad:Bool}(h:Nm w n r ρ tk bad){x:Nat}(hx:26<=x){R:UInt32->Qx}
  (hR:∀y w',yL y tk->Kn n r w w'->Nm w' n r (aF ρ x (ic tk)) (cA tk (ic tk)) (bad||(uH tk).isNone)->R y w'):Qy 227 #[ptr n,iv x] w (ax [.w] R):=by
 refine mS (ptr n) x w R ?_;dsimp only [go_sem];obtain⟨y,hy,ν⟩:=h.c1;have hl:=JJ tk;have hl':=bg hl;have fin:∀G bad',bad'=(bad||(uH tk).isNone)->Kn n r w G->Nm G n r ρ tk bad'->∃κ:Qx,∀H:World,H=World.drew G->κ H/\∃(ξ ο:Nat),ptr n=Value.pointer (some ⟨ξ,ο,none⟩)/\∃ς:UInt32,(∀w',κ w'->World.cell? w' ⟨ξ,(ο+1),none⟩=some (Value.int IntKind.u32 (UInt32.toNat ς)))/\Qy 96 #[(Value.int IntKind.u8 (UInt8.toNat (ic tk)))] H (ax [.w] fun(m38:UInt32) (β:World)=>κ β/\∃(γ δ:Nat),ptr n=Value.pointer (some ⟨γ,δ,none⟩)/\((∃u42:Value,World.cell? β ⟨γ,(δ+1),none⟩=some u42)/\World.frozen? β ⟨γ,(δ+1),none⟩=false)/\∀J:World,J=World.setCell β ⟨γ,(δ+1),none⟩ (Value.int IntKind.u32 (UInt32.toNat (ς ||| m38:UInt32)))->∃(υ φ:Nat),ptr n=Value.pointer (some ⟨υ,φ,none⟩)/\∃v46:Value,World.cell? J ⟨υ,(φ+0),none⟩=some v46/\∃(ε:Nat) (ζ:Value->Option Value),v46=Value.map (some ε)/\IsMap J ε (TypeDesc.int IntKind.i64) ζ/\∀Z:World,IsMap Z ε (TypeDesc.int IntKind.i64) (gz ζ (Value.int IntKind.i64 x) (Value.int IntKind.u8 (UInt8.toNat (ic tk))))->dR J Z ε->R (y) Z):=by
  intro G bad' χ k11 n11;obtain⟨z,hz,hzt⟩:=n11.c1;refine⟨λw'=>Ex G w',λH η=>⟨η▸Ex.drew G,n,0,rfl,z,λw' x'=>by rw [x'.cell (show n< _ from n11.lt)];exact hz,Jg ?_⟩⟩;have μ:Ex G H:=η▸Ex.drew G;have n34:=n11.ex μ;obtain⟨z',hz',_⟩:=n34.c1;refine⟨μ,n,0,rfl,⟨⟨_,hz'⟩,n34.f 1⟩,λJ θ=>?_⟩;have n43:=n34.set (tk':=cA tk (ic tk)) (bad':=bad') θ (.inl ⟨rfl,rfl,_,rfl,hzt.add hl⟩);obtain⟨m,hm,hρ⟩:=n43.mp;refine⟨n,0,rfl,_,n43.c0,r,m,rfl,hm,λZ ψ ω=>?_⟩;obtain⟨n49,k49⟩:=n43.put hρ hx (by omega) ψ ω;have k43:Kn n r H J:=θ▸Kn.set _ _ _;exact hR y Z ν (Kn.trans (Kn.trans k11 (Kn.ex μ)) (Kn.trans k43 k49)) (χ▸n49)
 refine⟨n,0,rfl,y,hy,n,0,rfl,y,hy,I4 ν (λhf=>⟨λ _=>?_,λh=>(by cases h)⟩) λc hf=>⟨λh=>(by cases h),λ _=>?_⟩⟩
 ·refine⟨n,0,rfl,⟨⟨_,h.c2⟩,h.f 2⟩,λw15 ι=>?_⟩;have n15:=h.set (tk':=tk) (bad':=true) ι (.inr ⟨rfl,rfl,rfl⟩);have e:ic tk=122:=by unfold ic;rw [hf];rfl
  have :=fin w15 true (by rw [hf];simp) (ι▸Kn.set _ _ _) n15;rw [e]at this;exact this
 ·have e:ic tk=c:=by unfold ic;rw [hf];rfl
  have :=fin w bad (by rw [hf];simp) (Kn.ex (Ex.refl w)) h;rw [e]at this;exact this
def KW (n:Nat):Prop:=∀{D:Nat->Prop} {w:World} {v:Value} {o:List Nat} {l:Lv} {nn r:Nat} {ρ:Rh} {tk:Tk} {bad:Bool} {R:aJ->Qx},l.sz<=n->l.sh true=true->l.sm=true->ua o l->fL D w v o (af D w l)->(∀g,D g->¬(g=nn\/g=r))->Nm w nn r ρ tk bad->o.length+l.tot<=4294967296->
 (∀w' ρ',Kn nn r w w'->Nm w' nn r ρ' tk (bad||fu o.length l.isNil (thBad l) tk)->(∀x,x∉o->x∉l.bvs->ρ' x=ρ x)->R (aP o (thS l) ρ tk) w')->Qy 189 #[ptr nn,v] w (ax [.s] R)
def II (n:Nat):Prop:=∀{D:Nat->Prop} {w:World} {v:Value} {e:Lv} {nn r:Nat} {ρ:Rh} {tk:Tk} {bad:Bool} {R:aJ->Qx},e.sz<=n->((∃k a b o q,e= .thr k a b o q .nil/\q.sh true=true)\/∃ps,e= .sum ps .nil/\ps.sh false=true)->e.sm=true->ua [] e->af D w e [v]->(∀g,D g->¬(g=nn\/g=r))->Nm w nn r ρ tk bad->e.tot<=4294967296->
 (∀t w' ρ',thS e ρ tk=[t]->Kn nn r w w'->Nm w' nn r ρ' tk (bad||thBad e tk)->(∀x,x∉e.bvs->ρ' x=ρ x)->R t w')->Qy 229 #[ptr nn,v] w (ax [.s] R)
def MM (a b:UInt8):Op.bytesLess [a] [b]=decide (a< b):=by
 unfold Op.bytesLess;by_cases h:a< b
 ·simp [h]
 ·by_cases G:b< a<;>simp [Op.bytesLess,h]
def Kp.new {w w1 G:World}{nn r:Nat}{row:Option Nat}(k:Kn nn r w w1)(H:w1.grownBy G row)(hr:∀g,row=some g->w.heap.size<=g):Kn nn r w G:=
 Kp.trans k (Kp.aG (S:=λg=>row=some g) H λ _ h=>h) λg J Z=>by have :=hr g Z;omega
def DD {n:Nat}(hl:KW n):II (n+1):=by
 intro D w v e nn r ρ tk bad R hn hsh η huq h hD hN ς hR;refine ku (ptr nn) v w R ?_;dsimp only [go_sem];dsimp only [go_sem,Nat.reduceAdd];rcases hsh with⟨k,a,b,o,q,rfl,hq⟩ | ⟨ps,rfl,hps⟩
 ·obtain⟨t,ts',a',b',vr,e1,ht,hk,hlv,_⟩:=h;obtain⟨rfl,rfl⟩:=Oa e1;obtain⟨g,Z,hgD,hg2,c0,c1,c2,c3,c4⟩:=ht;obtain⟨u1,u2⟩:=huq.thr;simp only [Lv.sz]at hn;simp only [Lv.tot]at ς;simp only [Lv.sm,M8]at η;have hgn:=hD g hgD;have cell:∀{w':World},Kn nn r w w'->∀j,w'.cell? ⟨g,j,none⟩=w.cell? ⟨g,j,none⟩:=λx j=>M5 (w:=w) (x.block g hg2 hgn)
  have hlen:∀ρ tk,(aP o (thS q) ρ tk).length<=1099511627776:=λρ tk=>by
   have :=nz (λρ tk=>fM q ρ tk) ρ tk (own:=o);omega
  have κ:∀{w1:World} {β:Rh} {ν:Tk} {υ:Bool} {R:aJ->Qx},Kn nn r w w1->Nm w1 nn r β ν υ->(∀w' ρ',Kn nn r w1 w'->Nm w' nn r ρ' ν (υ||fu o.length q.isNil (thBad q) ν)->(∀x,x∉o->x∉q.bvs->ρ' x=β x)->R (aP o (thS q) β ν) w')->Qy 189 #[ptr nn,vr] w1 (ax [.s] R):=λk1 n1 hR=>
   hl (by omega) hq η.1 u1 (hlv.kp k1 hD λl h=>h.kp k1 hD) hD n1 (by omega) hR
  cases k
  case p=>
   refine⟨g,0,Z,_,c0,aR (by decide) (cI (by decide) ⟨g,0,Z,vr,c3,κ (Kn.ex (Ex.refl w)) hN λw' ρ' k' n' H=>⟨by have :=hlen ρ tk;simp only [M0,Np];omega,hR _ w' ρ' (by simp only [thS,kText];rfl) k' ?_ λx G=>?_⟩⟩)⟩
   ·simpa [thBad]using n'
   ·simp only [Lv.bvs,NM,Nk,Qt]at G;exact H x G.2.1 G.2.2
  case t=>
   refine⟨g,0,Z,_,c0,aR (by decide) (aR (by decide) (cI (by decide) ⟨g,0,Z,vr,c3,κ (Kn.ex (Ex.refl w)) hN λw' ρ' k' n' H=>⟨by have :=hlen ρ tk;simp only [M0,Np];omega,hR _ w' ρ' (by simp only [thS,kText];rfl) k' ?_ λx G=>?_⟩⟩))⟩
   ·simpa [thBad]using n'
   ·simp only [Lv.bvs,NM,Nk,Qt]at G;exact H x G.2.1 G.2.2
  case m=>
   obtain⟨rfl,rfl⟩:a'=a/\b'=b:=by rcases hk with h | h | h<;>first | exact h | cases h
   refine⟨g,0,Z,_,c0,aR (by decide) (aR (by decide) (aR (by decide) (cI (by decide) ⟨λw'=>Kn nn r w w',λw48 γ=>?_⟩)))⟩;have J:Kn nn r w w48:=Kn.ex (γ▸Ex.drew w);have n48:=hN.ex (γ▸Ex.drew w);refine⟨J,g,0,Z,a',λw' x=>by rw [cell x];exact c1,g,0,Z,b',λw' x=>by rw [cell x];exact c2,jq n48 ⟨J,jq n48 ⟨J,?_,?_,?_,?_,g,0,Z,vr,by rw [cell J];exact c3,κ J n48 λw' ρ' k' n' H=>⟨?_,hR _ w' ρ' ?_ (Kn.trans J k') ?_ λx G=>?_⟩⟩⟩⟩
   ·split<;>simp
   ·split<;>simp
   ·split<;>split<;>simp
   ·split<;>split<;>simp
   ·have :=hlen ρ tk;split<;>split<;>(simp only [Nb,M0,Np];omega)
   ·simp only [thS,kText,MM,OC,Qv];by_cases h1:ρ a'< ρ b'
    ·have h2:¬ρ b'< ρ a':=λh2=>by rw [N1]at h1 h2;omega
     simp [h1,h2]
    ·by_cases h2:ρ b'< ρ a'
     ·have h3:ρ a'≠ρ b':=λe=>by rw [e,N1]at h2;omega
      simp [h1,h2,h3]
     ·have h3:ρ a'=ρ b':=by
       rw [N1]at h1 h2;exact NK.1 (by omega)
      simp [h1,h2,h3]
   ·simpa [thBad]using n'
   ·simp only [Lv.bvs,NM,Nk,Qt]at G;exact H x G.2.1 G.2.2
  case s=>
   obtain⟨rfl,rfl⟩:a'=a/\b'=b:=by rcases hk with h | h | h<;>first | exact h | cases h
   refine⟨g,0,Z,_,c0,aR (by decide) (aR (by decide) (aR (by decide) (aR (by decide) (aR (by decide) ⟨λw'=>Kn nn r w w',λw48 γ=>?_⟩))))⟩;have J:Kn nn r w w48:=Kn.ex (γ▸Ex.drew w);have n48:=hN.ex (γ▸Ex.drew w);refine⟨J,g,0,Z,a',λw' x=>by rw [cell x];exact c1,g,0,Z,b',λw' x=>by rw [cell x];exact c2,g,0,Z,vr,λw' x=>by rw [cell x];exact c3,jq n48 ⟨J,by simp,jq n48 ⟨J,by simp,by simp,κ J n48 λw' ρ' k' n' H=>⟨Kn.trans J k',?_,hR _ w' ρ' ?_ (Kn.trans J k') ?_ λx G=>?_⟩⟩⟩⟩
   ·have :=hlen ρ tk;simp only [Nb,M0,Np];omega
   ·simp only [thS,kText];simp
   ·simpa [thBad]using n'
   ·simp only [Lv.bvs,NM,Nk,Qt]at G;exact H x G.2.1 G.2.2
  case r=>
   obtain⟨rfl,rfl⟩:a'=a/\b'=b:=by rcases hk with h | h | h<;>first | exact h | cases h
   obtain⟨u3,u4,u5,u6⟩:=u2 rfl;refine⟨g,0,Z,_,c0,aR (by decide) (aR (by decide) (aR (by decide) (aR (by decide) (cI (by decide) ⟨g,0,Z,b',c2,Gw hN u3 λy w68 hy k68 n68=>⟨λw'=>Kn nn r w w',λw70 φ=>?_⟩⟩))))⟩;have θ:Kn nn r w w70:=Kn.trans k68 (Kn.ex (φ▸Ex.drew w68));have n70:=n68.ex (φ▸Ex.drew w68);refine⟨θ,g,0,Z,a',λw' x=>by rw [cell x];exact c1,g,0,Z,b',λw' x=>by rw [cell x];exact c2,g,0,Z,vr,λw' x=>by rw [cell x];exact c3,jq n70 ⟨θ,by simp,jq n70 ⟨θ,by simp,by simp,κ θ n70 λw' ρ' k' n' H=>⟨Kn.trans θ k',?_,nn,0,rfl,?_,λw89 χ=>hR _ w89 ρ' ?_ (Kn.trans (Kn.trans θ k') (χ▸Kn.set _ _ _)) ?_ λx G=>?_⟩⟩⟩⟩
   ·have :=hlen (aF ρ b' (ic tk)) (cA tk (ic tk));simp only [Nb,M0,Np];omega
   ·obtain⟨z,hz,_⟩:=n'.c1;exact⟨⟨_,hz⟩,n'.f 1⟩
   ·simp only [thS,kText,N2,N6,NX];rw [show aF ρ b' (ic tk) a'=ρ a' from Nt (P' u4),show aF ρ b' (ic tk) b'=ic tk from NO rfl]
   ·have :=n'.set (tk':=tk) (bad':=(bad||thBad (.thr .r a' b' o q .nil) tk)) χ (.inl ⟨rfl,?_,y,rfl,hy⟩)
    ·exact this
    ·simp [thBad,OL]
   ·simp only [Lv.bvs,NM,Nk,Qt,O9,ND]at G;rw [H x G.2.1 G.2.2];exact Nt G.1
 ·obtain⟨t,ts',a',b',vp,us,e1,ht,hus,ψ,_⟩:=h;obtain⟨rfl,rfl⟩:=Oa e1;obtain⟨g,Z,hgD,hg2,c0,c1,c2,c3,c4⟩:=ht;have uq:=huq.sum;simp only [Lv.sz]at hn;simp only [Lv.tot]at ς;simp only [Lv.sm,M8,Pa]at η;obtain⟨au,cau,hvu⟩:=hus.slice;have hul:=ψ.len;have hpl:=Lv.cu ps;have hpt:=bL ps;have hln:∀ρ tk,(thS ps ρ tk).length=ps.len:=λρ tk=>bj ps ρ tk
  refine⟨g,0,Z,_,c0,cI (by decide) λb6 w7 hb6 hw7=>?_⟩;have x7:Ex w w7:=hw7▸Ex.alloc w _;refine⟨g,0,Z,vp,by rw [x7.cell (show g< _ from hg2)];exact c4,au,_,cau,hvu,λtx x w'=>∃(j:Nat) (ρ':Rh),x=j/\j<=us.length/\Kn nn r w w'/\Nm w' nn r ρ' tk (bad||thBad (ps.take j) tk)/\(∀x,x∉(ps.take j).bvs->ρ' x=ρ x)/\Own w.heap.size w' tx (thS (ps.take j) ρ tk),λ _ x _=>(us.length - x).toNat,⟨0,ρ,rfl,N5 _,Kn.ex x7,by simpa [Lv.take,thBad]using hN.ex x7,λ _ _=>rfl,Own.none (Nc _) hb6 hw7⟩,λtx x w18 hI=>?_⟩;obtain⟨j,β,rfl,hj,μ,n18,H,ho⟩:=hI;refine⟨λhlt=>?_,λhge=>?_⟩;rotate_left
  ·have:j=ps.a8.length:=by simp only [No]at hge;omega
   rw [this,Lv.cL]at n18 ho H;have hlen:=fM ps ρ tk;refine Ho ho (λe=>?_) (by rw [hln];omega) (by omega) λw36 k36=>hR _ w36 β rfl ?_ ?_ λx G=>H x ?_
   ·have :=hln ρ tk;rw [e]at this;rw [Lv.cT]at η;simp only [Np]at this;simp [<-this]at η
   ·exact Kp.trans μ k36 λg' hg' h'=>by have :=(ho.block g' h').1;omega
   ·have hb:∀g',tx.ownBlock=some g'->w.heap.size<=g':=λg' h'=>(ho.block g' h').1
    have :=hN.lt;have :=hN.lr;have e:(bad||thBad (.sum ps .nil) tk)=(bad||thBad ps tk):=by simp [thBad]
    rw [e];exact n18.kp k36 (λh'=>by have :=hb _ h';omega) λh'=>by have :=hb _ h';omega
   ·simpa [Lv.bvs]using G
  have ξ:=oL hlt;have hje:j< ps.a8.length:=by omega
  obtain⟨bu,ou,δ,hvu',hcu⟩:∃bu ou δ,vp= .slice (some ⟨bu,ou,none⟩) us.length δ/\w18.cell? ⟨bu,ou+j,none⟩=some us[j]:=by
   rcases hus with⟨_,h0⟩ | ⟨bt,ot,capt',e,hbD,hb',hcell⟩
   ·rw [h0]at ξ;simp at ξ
   ·exact⟨bt,ot,capt',e,by rw [M5 (w:=w) (μ.block bt hb' (hD bt hbD))];exact hcell j _ (M6 ξ)⟩
  obtain⟨e,hf1,ι,hf3⟩:=aO.single ψ.a8 (M6 ξ);have hf4:ps.a8[j]=e:=by rw [M6 hje]at hf1;exact NY hf1
  have ε:=Lv.take_succ ps j hje;rw [hf4]at ε;have huqe:=uq.a8 ι;have ω:=Lv.sE η.2.1 e ι;have hsz2:=Lv.dQ ps e ι;have htot2:=Lv.fS ps e ι;have hfe:thS e β tk=thS e ρ tk:=sJ e β ρ tk λx G=>H x λhb=>uq.nf x (Lv.kE ps j x hb) (Lv.ph ps e ι G)
  obtain⟨o2,q,rfl,hq⟩:=Lv.lI hps e ι;simp only [Lv.sz]at hsz2;simp only [Lv.tot]at htot2;simp only [Lv.sm,M8]at ω;obtain⟨v2,ts2,e2,hlv2,_⟩:=hf3;obtain⟨rfl,rfl⟩:=Oa e2;refine⟨bu,ou,_,δ,hvu',by omega,by omega,us[j],by rw [Nf,NQ];exact hcu,?_⟩;refine hl (by omega) hq ω.1 huqe.part (hlv2.kp μ hD λl h=>h.kp μ hD) hD n18 (by omega) λw25 ρ2 k25 n25 hρ2 b26 w27 hb26 hw27=>?_
  have ο:Ex w25 w27:=hw27▸Ex.alloc w25 _;have k1:Kn nn r w w25:=Kn.trans μ k25;have ζ:∀g',tx.ownBlock=some g'->w.heap.size<=g'/\¬(g'=nn\/g'=r):=λg' h'=>by
   have h1:=(ho.block g' h').1;have :=hN.lt;have :=hN.lr;exact⟨h1,by omega⟩
  have ho27:Own w.heap.size w27 tx (thS (ps.take j) ρ tk):=(ho.kp k25 λg' h'=>(ζ g' h').2).ex ο;have hl3:(thS (ps.take j) ρ tk).length<=us.length:=by
   rw [bj];have :=Lv.gu ps j;omega
  refine Own.push ho27 (by have :=k1.size;have :=ο.size;omega) (Strs.one hb26 hw27) (by simp only [M0,Np];omega) λv33 w34 _ ho34 hg34 _=>⟨by omega,⟨j+1,ρ2,by omega,by omega,?_,?_,?_,?_⟩,tN (by omega)⟩
  ·exact Kp.new (Kn.trans k1 (Kn.ex ο)) hg34 λg' h'=>(ζ g' h').1
  ·have e1:(bad||thBad (ps.take (j+1)) tk)=(bad||thBad (ps.take j) tk||fu o2.length q.isNil (thBad q) tk):=by rw [ε,cE];simp [thBad,OL]
   rw [e1];refine(n25.ex ο).kp (Kp.aG (S:=λg=>tx.ownBlock=some g) hg34 λ _ h=>h) (λh'=>(ζ _ h').2 (.inl rfl)) λh'=>(ζ _ h').2 (.inr rfl)
  ·intro x G;rw [ε,Lv.cO]at G;simp only [Lv.bvs,NM,Nk,Qt]at G;rw [hρ2 x G.2.1 G.2.2,H x G.1]
  ·rw [ε,fO];have e3:thS (.part o2 q .nil) ρ tk=[aP o2 (thS q) β tk]:=by rw [<-hfe];simp only [thS]
   rw [e3];exact ho34
def aE.set {e B:Nat}{w w':World}{g cap n j:Nat}{l:List Value}{x:Value}(h:aE e B w (.slice (some ⟨g,0,none⟩) n cap) l)(hw:w'=w.setCell ⟨g,j,none⟩ x)(hj:j< l.length):aE e B w' (.slice (some ⟨g,0,none⟩) n cap) (l.set j x):=by
 subst hw;rcases h.2 with⟨J,_⟩ | ⟨g',G,cur,Z,hb,hg,h1,h2,H,h4⟩
 ·cases J
 ·cases Z;have hl:=h.1;rw [NQ]at H h4;have e:(w.setCell ⟨g,j,none⟩ x).heap[g]?=some (.cells (cur.setIfInBounds j x) e (0,0)):=by
   rw [Sort.setCell_eq];simp [Sort.mapBlock,OM,hg,Sort.onCells]
  refine⟨by simp,.inr ⟨g,cap,_,by simp,hb,e,by simpa using h1,h2,by simpa using H,?_⟩⟩;rw [NQ,OE,Array.toList_setIfInBounds,List.take_set,h4]
def aE.at {e B:Nat}{w:World}{g cap n j:Nat}{o:List Nat}(h:aE e B w (.slice (some ⟨g,0,none⟩) n cap) (o.map iv))(Z:j< o.length):w.cell? ⟨g,0+j,none⟩=some (iv o[j])/\w.frozen? ⟨g,0+j,none⟩=false/\g< w.heap.size/\n=o.length:=by
 have fr:=h.fr (g:=g) rfl (0+j);have hb:=h.block g rfl;rcases h.2 with⟨H,_⟩ | ⟨g',G,cur,J,β,hg,h1,h2,h3,h4⟩
 ·cases H
 ·cases J;refine⟨?_,fr,hb.2,by simp⟩;rcases h.AS (D:=λ _=>True) λ _ _=>trivial with⟨H,_⟩ | ⟨b,off,G,J,_,_,hc⟩
  ·cases H
  ·cases J;exact hc j _ (by simp [Z])
def swp (π:List Nat)(a i:Nat)(ha:a< π.length)(hi:i< π.length):List Nat:=(π.set a π[i]).set i π[a]
def lC (π:List Nat)(a i:Nat)(ha:a< π.length)(hi:i< π.length)(H:a<=i):
  (swp π a i ha hi).Perm π/\(swp π a i ha hi).length=π.length/\(swp π a i ha hi).take (a+1)=π.take a++[π[i]]:=by
 have G:(swp π a i ha hi).Perm π:=by
  have :=List.set_set_perm hi ha;unfold swp;by_cases h:a=i
  ·subst h;simp
  ·rw [List.set_comm _ _ h];exact this
 have J:(swp π a i ha hi).length=π.length:=G.length_eq;refine⟨G,J,?_⟩;rw [Ng (by omega)]
 congr 1
 ·unfold swp;rw [PK (by omega),PK (by omega)]
 ·unfold swp;by_cases h:a=i
  ·subst h;simp
  ·simp [List.getElem_set,P' h]
def HU (π:List Nat)(a:Nat)(ha:a< π.length)(σ:List Nat):
  (∃i,∃hi:i< π.length,a<=i/\∃τ:List Nat,τ.Perm ((swp π a i ha hi).drop (a+1))/\σ=(swp π a i ha hi).take (a+1)++τ)↔∃τ:List Nat,τ.Perm (π.drop a)/\σ=π.take a++τ:=by
 have key:∀i (hi:i< π.length),a<=i->(π[i]::(swp π a i ha hi).drop (a+1)).Perm (π.drop a):=λi hi G=>by
  obtain⟨h1,J,H⟩:=lC π a i ha hi G;have h4:(π.take a++(π[i]::(swp π a i ha hi).drop (a+1))).Perm (π.take a++π.drop a):=by
   rw [Oi,List.append_cons,<-H,Oi];exact h1
  exact(List.perm_append_left_iff _).1 h4
 constructor
 ·rintro⟨i,hi,G,τ,h1,rfl⟩
  obtain⟨J,H,h4⟩:=lC π a i ha hi G;refine⟨π[i]::τ,(h1.cons _).trans (key i hi G),?_⟩;rw [h4,NX];rfl
 ·rintro⟨τ,h1,rfl⟩
  cases τ with
  | nil=>have :=h1.length_eq;rw [OB]at this;simp at this;omega
  | cons y τ=>
   have Z:=h1.subset (NP ..);obtain⟨j,hj,e⟩:=Od.1 Z;rw [OB]at hj;rw [List.getElem_drop]at e;have hi:a+j< π.length:=by omega
   obtain⟨J,H,h4⟩:=lC π a (a+j) ha hi (by omega);refine⟨a+j,hi,by omega,τ,?_,?_⟩
   ·have :=key (a+j) hi (by omega);rw [e]at this;exact(List.perm_cons y).1 (h1.trans this.symm)
   ·rw [h4,e,NX];rfl
def KR (π:List Nat)(a i:Nat)(ha:a< π.length)(hi:i< π.length)(h1:i< (swp π a i ha hi).length)(G:a< (swp π a i ha hi).length):(swp π a i ha hi)[i]=π[a]/\(swp π a i ha hi)[a]=π[i]:=by
 simp only [swp,List.getElem_set];refine⟨NO trivial,?_⟩;by_cases h:i=a
 ·subst h;simp
 ·simp [h]
def MQ (B:Nat)(v:Value)(o:List Nat)(Inv:List (List Nat)->Qx)(f:Nat)(ca:List Value):Prop:=
 ∀(acc:List (List Nat)) (π:List Nat) (w:World),Inv acc w->aE 3 B w v (π.map iv)->π.Perm o->∀{R:Qx},(∀w',Inv (acc++[π]) w'->aE 3 B w' v (π.map iv)->R w')->Qy f (List.toArray ca) w (ax [] R)
end Go.Proofs.YthekamjhgabkjaaGreat
