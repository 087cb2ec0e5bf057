/- Part 3 of a proof of what the last text states; no condition. -/
import Derived.Test.YtdecokaadekjnaaGreatX2
namespace Go.Proofs.YtdecokaadekjnaaGreat
open Classical
theorem arr:∀(n:Nat) (u:U) (ρ:Rh) (tk:Tk),u.size<=n->Uq u->EU u ρ tk->dj u tk=false->∃t v,Fl u ρ tk t v:=by
 intro n
 induction n with
 | zero=>intro u ρ tk h;cases u<;>simp [T.size]at h
 | succ n ih=>
  intro u ρ tk hn hu hm hb;cases hd:u.dead with
  | true=>
   obtain⟨d1,d2,d3,d4⟩:=oV hu hd;have χ:Uq .nil:=⟨Ky,λx h=>by cases h⟩
   obtain⟨e1,e2,e3,e4⟩:=oV χ rfl;refine⟨.nil,.nil,by rw [d1];rfl,trivial,trivial,trivial,χ,λx h=>(by cases h),λx=>⟨λh=>h.elim,λh=>absurd h (T.bC hd)⟩,λρ tk=>by rw [d1,e1],λtk=>by rw [d2,e2],by rw [d3,e3],by rw [d4,e4],hd.symm,λ _=>rfl,λt V=>?_,λ _=>rfl⟩;rw [de u hu hd]at V;cases V
  | false=>
   have ψ:=vZ hd hu;obtain⟨g1,g2,_⟩:=fN u hu;have hlen:(td u).1.length=(ak u).1.length:=g2.length_eq;have ω:(td u).2.isNil=false:=by rw [dD,hd]
   simp only [dj,fq,ω,Bool.not_false,KO,Ko,hlen]at hb;obtain⟨hb1,δ⟩:=hb;rw [g1,rS]at δ;have δ:∀t∈(ak u).2,thBad (tl [t]) (addK (lets (ak u).1.length tk) tk)=false:=by simpa [List.any_eq_false]using δ
   obtain⟨l1,l2⟩:=uj _ tk hb1;have hls:=fE (ak u).1.length tk;generalize hl:lets (ak u).1.length tk=ls at*;have hLS:LS u ρ tk=wrap ls (bG ((perms (ak u).1).map λπ=>joinS 38 (aX ((ak u).2.map λt=>thU t (asg π ls ρ) (addK ls tk))))):=by
    rw [uY hu];unfold aP;rw [Jn (by simpa using ψ)];show wrap (lets _ tk) (bG (List.map (λπ=>joinS 38 (aX ((ak u).2.map λt=>thU t (asg π (lets _ tk) ρ) (addK (lets _ tk) tk)))) _))=_;rw [hl]
   obtain⟨hmem,_⟩:=cE (l:=(perms (ak u).1).map λπ=>joinS 38 (aX ((ak u).2.map λt=>thU t (asg π ls ρ) (addK ls tk)))) (by simpa using oH _);obtain⟨π,G,μ⟩:=JL.1 hmem;have G:=(cT _ π).1 G;have α:π.length=ls.length:=by rw [G.length_eq,hls]
   have ν:=FI u hu;have η:π.Nodup:=G.nodup_iff.2 (JG.1 ν).1;have hmt:∀t∈(ak u).2,EU t (asg π ls ρ) (addK ls tk):=by
    intro t V;have ξ:∀y,t.Us y->y∈π\/(y∉π/\u.Us y):=λy hy=>by
     by_cases hp:y∈π
     ·exact .inl hp
     ·exact .inr ⟨hp,(kF u hu t V y hy).resolve_right λh=>hp (G.symm.subset h)⟩
    refine⟨λy hy=>?_,λy z hy I e=>?_⟩
    ·rw [u9];rcases ξ y hy with h | ⟨h,h'⟩
     ·have :=eV π ls ρ y h α;exact⟨by simp [this],(l2 _ this).2⟩
     ·rw [bL π ls ρ y h];exact⟨by simp [(hm.ok y h').1],(hm.ok y h').2⟩
    ·rcases ξ y hy with h | ⟨h,h'⟩<;>rcases ξ z I with k | ⟨k,k'⟩
     ·exact vM π ls ρ y z h k α l1 e
     ·rw [bL π ls ρ z k]at e;have :=(l2 _ (eV π ls ρ y h α)).1;rw [e,(hm.ok z k').1]at this;cases this
     ·rw [bL π ls ρ y h]at e;have :=(l2 _ (eV π ls ρ z k α)).1;rw [<-e,(hm.ok y h').1]at this;cases this
     ·rw [bL π ls ρ y h,bL π ls ρ z k]at e;exact hm.inj y z h' k' e
   obtain⟨zs,z1,z2⟩:=triples (R:=λu=>Dz u (asg π ls ρ) (addK ls tk)) (l:=(ak u).2) λt V=>
    Iv ih (by have :=zc u t V;omega) (CK hu t V) (vh u t V) (sS u t V).1 (sS u t V).2 (hmt t V) (δ t V)
   obtain⟨J,y1,y2⟩:=tJ zs λz=>z.2.1.text
   have H:(J.map (·.1)).Perm (ak u).2:=z1▸y1.map _;have I:∀z∈J,Dz z.1 (asg π ls ρ) (addK ls tk) z.2.1 z.2.2:=λz I=>z2 z (y1.subset I)
   have W:∀z∈J,z.1∈(ak u).2:=λz I=>H.subset (KC I)
   have γ:J≠[]:=λe=>ψ (by have :=H;rw [e]at this;exact this.symm.eq_nil)
   have ε:∀w∈J.map (·.2.2),w.th=true/\w.Nr:=λw hw=>by
    obtain⟨z,Z,rfl⟩:=JL.1 hw;exact⟨(I z Z).2.2.2.th,(I z Z).2.2.2.nr⟩
   have θ:∀x,(T.parL (J.map (·.2.2))).Us x↔∃t∈(ak u).2,t.Us x:=λx=>by
    rw [T.qT];constructor
    ·rintro⟨v,Z,h2⟩
     obtain⟨z,h3,rfl⟩:=JL.1 Z;exact⟨z.1,W z h3,((I z h3).2.2.2.us x).1 h2⟩
    ·rintro⟨u',Z,h2⟩
     obtain⟨z,h3,rfl⟩:=JL.1 (H.symm.subset Z);exact⟨_,KC h3,((I z h3).2.2.2.us x).2 h2⟩
   have ι:=T.AG ε;have ο:(T.resL π (T.parL (J.map (·.2.2)))).Nr:=T.zX ι.1 η λx hx=>(θ x).2 (wV u hu x (G.subset hx))
   have ς:∀x,(T.resL π (T.parL (J.map (·.2.2)))).Us x↔u.Us x:=λx=>by
    rw [T.jK,θ];constructor
    ·rintro⟨Z,t,h2,h3⟩
     exact(kF u hu t h2 x h3).resolve_right λh=>Z (G.symm.subset h)
    ·intro h;exact⟨λhx=>hu.nf x (iF u x (G.subset hx)) (T.bz h),DX u x h⟩
   have hbv:∀x∈BV (T.resL π (T.parL (J.map (·.2.2)))),x∈BV u:=λx hx=>by
    rw [gg,gb]at hx;rcases Jf.1 hx with hx | hx
    ·exact iF u x (G.subset hx)
    ·obtain⟨v,Z,h2⟩:=JR.1 hx;obtain⟨z,h3,rfl⟩:=JL.1 Z;exact Ah _ z.1 (W z h3) x ((I z h3).2.2.2.bv x h2)
   have hndv:(BV (T.resL π (T.parL (J.map (·.2.2))))).Nodup:=by
    rw [gg,gb,L6];have hp:=(H.flatMap_right BV)
    rw [L6]at hp;have hnd':(J.flatMap λz=>BV z.1).Nodup:=hp.nodup_iff.2 (JG.1 ν).2.1;refine JG.2 ⟨η,pN (f:=λz=>BV z.1) hnd' λz h=>⟨(I z h).2.2.2.uq.nd,(I z h).2.2.2.bv⟩,λa ha b hb=>?_⟩;obtain⟨z,Z,h2⟩:=JR.1 hb;exact(JG.1 ν).2.2 a (G.subset ha) b (JR.2 ⟨z.1,W z Z,(I z Z).2.2.2.bv b h2⟩)
   have ζ:=qe hndv ο hbv (λx=>(ς x).1) hu;have κ:ak (T.resL π (T.parL (J.map (·.2.2))))=(π,J.map (·.2.2)):=by
    rw [yy ζ ο,T.xW,T.xf,T.yc λt V=>(ε t V).1,T.BW λt V=>(ε t V).1,JD]
   have υ:∀{β:Type} (g:U->β),(∀z∈J,g z.2.2=g z.1)->((J.map (·.2.2)).map g).Perm ((ak u).2.map g):=λg hg=>by
    have e:(J.map (·.2.2)).map g=(J.map (·.1)).map g:=by
     rw [KL,KL];exact Kg hg
    rw [e];exact H.map g
   obtain⟨k1,k2,_⟩:=fN _ ζ;rw [κ]at k1 k2;have hdv:(T.resL π (T.parL (J.map (·.2.2)))).dead=false:=by
    rw [kj,k1]
    match J,γ,ε with
    | z::l,_,h=>
     have :=(h z.2.2 (by simp)).1;intro hh;revert hh this;simp only [JA];cases z.2.2<;>simp [tl,Lv.len,T.th]
   have φ:(td (T.resL π (T.parL (J.map (·.2.2))))).1.length=(td u).1.length:=by rw [k2.length_eq,G.length_eq,hlen]
   refine⟨T.resL ls (T.parL (J.map (·.2.1))),T.resL π (T.parL (J.map (·.2.2))),?_,?_,?_,ο,ζ,hbv,ς,λρ tk=>?_,λtk=>?_,?_,?_,by rw [hdv,hd],λhs=>?_,λt V=>?_,λhns=>?_⟩
   ·rw [T.pS,hLS,<-μ,T.pc (by simpa using γ),KL];have e:J.map (T.text∘λz=>z.2.1)=aX (zs.map λz=>z.2.1.text):=y2;rw [e,<-z1,KL]
    congr 3
    exact Kg λz h=>(z2 z h).1
   ·refine AE.DK π ls ρ α l1 (λz hz' hzp hc=>?_) (AE.parL λz h=>(I z h).2.1);have hzu:u.Us z:=(ς z).1 (T.jK.2 ⟨hzp,ι.1.gY hz'⟩);have :=(l2 _ hc).1;rw [(hm.ok z hzu).1]at this;cases this
   ·refine Ap (Az λt V=>?_) λc hc=>(l2 c hc).2
    obtain⟨z,Z,rfl⟩:=JL.1 V;exact(I z Z).2.2.1
   ·rw [uY ζ,uY hu,κ];exact kN G (λρ tk=>υ (λt=>thU t ρ tk) λz h=>(I z h).2.2.2.tx ρ tk) ρ tk
   ·unfold dj fq;rw [φ,dD,dD,hdv,hd,k1,g1]
    congr 2
    rw [rS,rS];have Z:=wC (f:=λb:Bool=>b) (υ (λt=>thBad (tl [t]) (addK (lets (td u).1.length tk) tk)) λz h=>(I z h).2.2.2.bad _);simpa [List.any_map,Function.comp_def]using Z
   ·unfold cM;rw [φ,k1,g1,yr,yr (ak u).2]
    congr 1
    exact iL (υ (λt=>thAll (tl [t])) λz h=>(I z h).2.2.2.all)
   ·unfold bc;rw [φ,k1,g1]
    congr 1
    refine AI λk=>?_
    rw [qV,qV];constructor
    ·intro h t V;obtain⟨z,h3,rfl⟩:=JL.1 (H.symm.subset V);rw [<-(I z h3).2.2.2.most];exact h _ (KC h3)
    ·intro h v hv;obtain⟨z,h3,rfl⟩:=JL.1 hv;rw [(I z h3).2.2.2.most];exact h _ (W z h3)
   ·rw [rL];refine rY λt V=>?_
    obtain⟨z,Z,rfl⟩:=JL.1 V;exact(I z Z).2.2.2.smp (Et u hs z.1 (W z Z))
   ·rw [V]at G H;have e1:π=[]:=G.eq_nil;have e2:=H.length_eq;rw [Ju]at e2
    match J,e2,H,I with
    | [z],_,hs,I=>
     have:z.1=t:=by simpa using hs
     subst this;rw [e1];exact(I z (by simp)).2.2.2.tg
   ·cases hp:π with
    | cons x l=>rfl
    | nil=>
     rw [hp]at G;have e0:(ak u).1=[]:=G.symm.eq_nil
     match J,γ,H,I with
     | [z],_,hs,I=>
      have e1:(ak u).2=[z.1]:=by
       have :=List.perm_singleton.1 hs.symm;simpa using this
      show z.2.2.isS=false;have htg:=(I z (by simp)).2.2.2.tg;rw [T.CR,htg,<-T.CR];cases hz1:z.1<;>first | rfl | skip
      rename_i p q;exact absurd (Prod.ext e0 (by rw [e1,hz1])) (hns p q)
     | z::y::l,_,_,_=>rfl
def num:P->(UInt8->Nat)->Nat->U×Nat
 | .nil,_,n=>(.nil,n)
 | .snd a b p,e,n=>(.snd (e a) (e b) (num p e n).1,(num p e n).2)
 | .rcv a x p,e,n=>(.rcv (e a) (n+101) (num p (aE e x (n+101)) (n+1)).1,(num p (aE e x (n+101)) (n+1)).2)
 | .tau p,e,n=>(.tau (num p e n).1,(num p e n).2)
 | .sum p q,e,n=>(.sum (num p e n).1 (num q e (num p e n).2).1,(num q e (num p e n).2).2)
 | .par p q,e,n=>(.par (num p e n).1 (num q e (num p e n).2).1,(num q e (num p e n).2).2)
 | .res x p,e,n=>(.res (n+101) (num p (aE e x (n+101)) (n+1)).1,(num p (aE e x (n+101)) (n+1)).2)
 | .mat a b p,e,n=>(.mat (e a) (e b) (num p e n).1,(num p e n).2)
 | .rep p,e,n=>(.rep (num p e n).1,(num p e n).2)
theorem cW:∀(p:P) (e:UInt8->Nat) (n:Nat),n<=(num p e n).2
 | .nil,_,_=>Jc _
 | .snd _ _ p,e,n=>cW p e n
 | .mat _ _ p,e,n=>cW p e n
 | .tau p,e,n=>cW p e n
 | .rep p,e,n=>cW p e n
 | .rcv _ x p,e,n=>by have :=cW p (aE e x (n+101)) (n+1);simp only [num];omega
 | .res x p,e,n=>by have :=cW p (aE e x (n+101)) (n+1);simp only [num];omega
 | .sum p q,e,n=>by have :=cW p e n;have :=cW q e (num p e n).2;simp only [num];omega
 | .par p q,e,n=>by have :=cW p e n;have :=cW q e (num p e n).2;simp only [num];omega
theorem AE.F0 {p:P}{u:U}{e:UInt8->Nat}{x:UInt8}{y:Nat}(he:∀c,p.Fr c->c≠x->e c≠y)(h:AE (aE e x y) p id u)(v:Nat):AE (aE e x v) p (aE id y v) u:=by
 refine(h.map λn=>if n=y then v else n).congr (λc H=>?_) λz _=>?_
 ·unfold aE;by_cases G:c=x
  ·simp [G]
  ·simp only [Jn G];rw [Jn (he c H G)]
 ·unfold aE;rfl
theorem fO:∀(p:P) (e:UInt8->Nat) (n:Nat),(∀c,p.Fr c->e c<=n+100)->AE e p id (num p e n).1
 | .nil,_,_,_=>trivial
 | .snd a b p,e,n,h=>⟨rfl,rfl,fO p e n λc z=>h c (.inr (.inr z))⟩
 | .mat a b p,e,n,h=>⟨rfl,rfl,fO p e n λc z=>h c (.inr (.inr z))⟩
 | .tau p,e,n,h=>fO p e n h
 | .rep p,e,n,h=>fO p e n h
 | .sum p q,e,n,h=>⟨fO p e n λc z=>h c (.inl z),fO q e _ λc z=>by have :=h c (.inr z);have :=cW p e n;omega⟩
 | .par p q,e,n,h=>⟨fO p e n λc z=>h c (.inl z),fO q e _ λc z=>by have :=h c (.inr z);have :=cW p e n;omega⟩
 | .rcv a x p,e,n,h=>⟨rfl,λv=>AE.F0 (λc z G=>by have :=h c (.inr ⟨G,z⟩);omega) (fO p _ _ λc z=>by
   unfold aE;split
   ·omega
   ·rename_i G;have :=h c (.inr ⟨G,z⟩);omega) v⟩
 | .res x p,e,n,h=>λv=>AE.F0 (λc z G=>by have :=h c ⟨G,z⟩;omega) (fO p _ _ λc z=>by
   unfold aE;split
   ·omega
   ·rename_i G;have :=h c ⟨G,z⟩;omega) v
theorem eH:∀(p:P) (e:UInt8->Nat) (n:Nat),(BV (num p e n).1).Nodup/\∀x∈BV (num p e n).1,n+100< x/\x<=(num p e n).2+100
 | .nil,_,_=>⟨Ky,λx h=>by cases h⟩
 | .snd _ _ p,e,n=>eH p e n
 | .mat _ _ p,e,n=>eH p e n
 | .tau p,e,n=>eH p e n
 | .rep p,e,n=>eH p e n
 | .rcv _ x p,e,n=>by
  obtain⟨H,G⟩:=eH p (aE e x (n+101)) (n+1);have :=cW p (aE e x (n+101)) (n+1);refine⟨J2.2 ⟨λh=>by have :=G _ h;omega,H⟩,λy z=>?_⟩;simp only [num];rcases Jm.1 z with rfl | z
  ·omega
  ·have :=G y z;omega
 | .res x p,e,n=>by
  obtain⟨H,G⟩:=eH p (aE e x (n+101)) (n+1);have :=cW p (aE e x (n+101)) (n+1);refine⟨J2.2 ⟨λh=>by have :=G _ h;omega,H⟩,λy z=>?_⟩;simp only [num];rcases Jm.1 z with rfl | z
  ·omega
  ·have :=G y z;omega
 | .sum p q,e,n=>by
  obtain⟨H,G⟩:=eH p e n;obtain⟨I,h4⟩:=eH q e (num p e n).2;have :=cW p e n;have :=cW q e (num p e n).2;refine⟨JG.2 ⟨H,I,λa ha b hb=>by have :=G a ha;have :=h4 b hb;omega⟩,λy z=>?_⟩;simp only [num];rcases Jf.1 z with z | z
  ·have :=G y z;omega
  ·have :=h4 y z;omega
 | .par p q,e,n=>by
  obtain⟨H,G⟩:=eH p e n;obtain⟨I,h4⟩:=eH q e (num p e n).2;have :=cW p e n;have :=cW q e (num p e n).2;refine⟨JG.2 ⟨H,I,λa ha b hb=>by have :=G a ha;have :=h4 b hb;omega⟩,λy z=>?_⟩;simp only [num];rcases Jf.1 z with z | z
  ·have :=G y z;omega
  ·have :=h4 y z;omega
theorem G1 (p:P)(e:UInt8->Nat)(n:Nat)(h:∀c,p.Fr c->e c<=n+100):Uq (num p e n).1:=by
 obtain⟨z,G⟩:=eH p e n;refine⟨z,λx H I=>?_⟩;obtain⟨c,J,V⟩:=(fO p e n h).symm.free x I;have W:=G x H;have h4:=h c J;have h5:e c=x:=V;omega
def e0 (c:UInt8):Nat:=c.toNat - 97
def σ0 (y:Nat):Nat:=y+97
def ρ0 (y:Nat):UInt8:=UInt8.ofNat (97+y)
theorem bn {c:UInt8}(h:lt c=true):97<=c.toNat/\c.toNat<=122:=by
 simp only [lt,IZ,I0]at h;exact⟨Jo.1 h.1,Jo.1 h.2⟩
theorem og {c:UInt8}(h:97<=c.toNat/\c.toNat<=122):lt c=true:=by
 simp only [lt,IZ,I0];exact⟨Jo.2 h.1,Jo.2 h.2⟩
theorem eR {y:Nat}(h:y< 26):(ρ0 y).toNat=σ0 y:=by
 unfold ρ0 σ0;rw [J4];omega
theorem rf {p:P}(h:∀c,p.Fr c->lt c=true):AE UInt8.toNat p σ0 (num p e0 0).1/\Uq (num p e0 0).1/\(∀y,(num p e0 0).1.Fr y->y< 26)/\∀x∈BV (num p e0 0).1,26<=x:=by
 have he:∀c,p.Fr c->e0 c<=0+100:=λc z=>by have :=bn (h c z);unfold e0;omega
 have ha:=fO p e0 0 he;refine⟨(ha.map (·+97)).congr (λc z=>?_) λy _=>rfl,G1 p e0 0 he,λy G=>?_,λx H=>?_⟩
 ·have :=bn (h c z);unfold e0;omega
 ·obtain⟨c,z,e⟩:=ha.symm.free y G;have :=bn (h c z);have e:e0 c=y:=e;unfold e0 at e;omega
 ·have :=(eH p e0 0).2 x H;omega
theorem iw {c:UInt8}(h:lt c=true):nm c=true:=by
 simp only [lt,nm]at*;rw [h];rfl
theorem r7 {c:UInt8}(h:lt c=true):ngr c:=by
 have :=bn h;right;omega
def cZ (s:Tx):Prop:=s.length<=300/\∃t:P,t.Al (λc=>lt c=true)/\t.text=s/\t.size<=60
def kG (l:Lv):Tk:=λc=>lt c&&l.has (e0 c)
noncomputable def zk (r:List Nat×Lv):Option Tx:=
 if(max r.1.length (ax r.2)<=5/\r.1.length+thAll r.2<=8)/\fq r.1.length r.2.isNil (thBad r.2) (kG r.2)=false/\cZ (aP r.1 (thS r.2) ρ0 (kG r.2))then some (aP r.1 (thS r.2) ρ0 (kG r.2))else none
noncomputable def jY (u:U):Option Tx:=zk (td u)
theorem ij (u:U):jY u=if(bc u<=5/\cM u<=8)/\dj u (kG (td u).2)=false/\cZ (LS u ρ0 (kG (td u).2))then some (LS u ρ0 (kG (td u).2))else none:=rfl
structure Nu (u:U):Prop where
 uq:Uq u
 fr:∀y,u.Us y->y< 26
 bv:∀x∈BV u,26<=x
theorem pZ {u:U}(h:Nu u)(c:UInt8):kG (td u).2 c=true↔lt c=true/\u.Us (e0 c):=by
 unfold kG;rw [IZ];refine and_congr_right λz=>fJ u _ λhb=>?_
 have :=h.bv _ hb;have :=bn z;unfold e0 at*;omega
theorem Nu.IN {u:U}(h:Nu u):EU u ρ0 (kG (td u).2):=by
 refine⟨λy G=>?_,λy z G V e=>?_⟩
 ·have H:=h.fr y G;have I:=eR H;have J:lt (ρ0 y)=true:=og (by rw [I];unfold σ0;omega);refine⟨(pZ h _).2 ⟨J,?_⟩,J⟩;have:e0 (ρ0 y)=y:=by unfold e0;rw [I];unfold σ0;omega
  rw [this];exact G
 ·have H:=eR (h.fr y G);have I:=eR (h.fr z V);rw [e,I]at H;unfold σ0 at H;omega
structure Hc (u:U)(s:Tx)(t:P)(v:U):Prop where
 text:t.text=s
 ls:s=LS u ρ0 (kG (td u).2)
 ae:AE UInt8.toNat t (λy=>(ρ0 y).toNat) v
 al:t.Al λc=>lt c=true
 arr:ID u v
 len:s.length<=300
 size:t.size<=60
 most:bc u<=5
 all:cM u<=8
 bad:dj u (kG (td u).2)=false
theorem T.Al.wf:∀{t:P},t.Al (λc=>lt c=true)->t.wf=true
 | .nil,_=>rfl
 | .snd a b p,⟨z,G,h⟩=>by simp [T.wf,iw z,iw G,T.Al.wf h]
 | .rcv a b p,⟨z,G,h⟩=>by simp [T.wf,iw z,iw G,T.Al.wf h]
 | .mat a b p,⟨z,G,h⟩=>by simp [T.wf,iw z,iw G,T.Al.wf h]
 | .tau p,h=>T.Al.wf (t:=p) h
 | .rep p,h=>T.Al.wf (t:=p) h
 | .sum p q,⟨z,G⟩=>by simp [T.wf,T.Al.wf z,T.Al.wf G]
 | .par p q,⟨z,G⟩=>by simp [T.wf,T.Al.wf z,T.Al.wf G]
 | .res x p,⟨z,h⟩=>by simp [T.wf,iw z,T.Al.wf h]
theorem T.Al.eb:∀{t:P} (k:Nat),t.Al (λc=>lt c=true)->Eb k t
 | .nil,_,_=>trivial
 | .snd a b p,k,⟨G,H,h⟩=>⟨np G,np H,T.Al.eb k h⟩
 | .mat a b p,k,⟨G,H,h⟩=>⟨np G,np H,T.Al.eb k h⟩
 | .rcv a b p,k,⟨G,H,h⟩=>⟨np G,⟨r7 H,λz I _=>(T.Al.eb k h).free z I⟩,T.Al.eb (k+1) h⟩
 | .tau p,k,h=>T.Al.eb (t:=p) k h
 | .rep p,k,h=>T.Al.eb (t:=p) k h
 | .sum p q,k,⟨G,H⟩=>⟨T.Al.eb k G,T.Al.eb k H⟩
 | .par p q,k,⟨G,H⟩=>⟨T.Al.eb k G,T.Al.eb k H⟩
 | .res x p,k,⟨G,h⟩=>⟨⟨r7 G,λz I _=>(T.Al.eb k h).free z I⟩,T.Al.eb (k+1) h⟩
theorem T.Al.free {D:UInt8->Prop}:∀{t:P},t.Al D->∀z,t.Fr z->D z
 | .snd a b p,⟨H,I,h⟩,z,G=>by
  rcases G with rfl | rfl | G
  ·exact H
  ·exact I
  ·exact T.Al.free h z G
 | .mat a b p,⟨H,I,h⟩,z,G=>by
  rcases G with rfl | rfl | G
  ·exact H
  ·exact I
  ·exact T.Al.free h z G
 | .rcv a b p,⟨H,I,h⟩,z,G=>by
  rcases G with rfl | G
  ·exact H
  ·exact T.Al.free h z G.2
 | .res x p,⟨H,h⟩,z,G=>T.Al.free h z G.2
 | .tau p,h,z,G=>T.Al.free (t:=p) h z G
 | .rep p,h,z,G=>T.Al.free (t:=p) h z G
 | .sum p q,⟨H,I⟩,z,G=>G.elim (T.Al.free H z) (T.Al.free I z)
 | .par p q,⟨H,I⟩,z,G=>G.elim (T.Al.free H z) (T.Al.free I z)
theorem DT {u:U}(h:Nu u){s:Tx}(z:jY u=some s):∃t v,Hc u s t v:=by
 rw [ij]at z;split at z
 ·rename_i J;obtain⟨⟨V,W⟩,G,h4,Z,h5,h6,h7⟩:=J;cases z;obtain⟨t,v,H,k2,I,k4⟩:=arr u.size u ρ0 _ (Jc _) h.uq h.IN G;have:t=Z:=ef I.wf h5.wf (H.trans h6.symm);subst this;exact⟨t,v,H,rfl,k2,I,k4,h4,h7,V,W,G⟩
 ·cases z
end Go.Proofs.YtdecokaadekjnaaGreat
namespace Go.Proofs.YtdecokaadekjnaaGreat
open Go Go.RowKit
structure Rd (w:World)(r:Nat)(s:Tx)(i:Nat)(bad:Bool):Prop where
 lt:r< w.heap.size
 le:i<=s.length
 c0:w.cell? ⟨r,0,none⟩=some (.string (ab s))
 c1:w.cell? ⟨r,1,none⟩=some (.int .i64 i)
 c2:w.cell? ⟨r,2,none⟩=some (.bool bad)
 f1:w.frozen? ⟨r,1,none⟩=false
 f2:w.frozen? ⟨r,2,none⟩=false
theorem Rd.same {w w':World}{r:Nat}{s:Tx}{i:Nat}{bad:Bool}(h:Rd w r s i bad)(J:w.heap.size<=w'.heap.size)(hb:w'.heap[r]?=w.heap[r]?):Rd w' r s i bad:=by
 obtain⟨V,z,G,h4,h5,H,I⟩:=h;refine⟨by omega,z,?_,?_,?_,?_,?_⟩
 ·rw [IX (w:=w) hb];exact G
 ·rw [IX (w:=w) hb];exact h4
 ·rw [IX (w:=w) hb];exact h5
 ·rw [Jz (w:=w) hb];exact H
 ·rw [Jz (w:=w) hb];exact I
theorem Rd.setAt {w:World}{r:Nat}{s:Tx}{i j:Nat}{bad:Bool}(h:Rd w r s i bad)(z:j<=s.length):Rd (w.setCell ⟨r,1,none⟩ (.int .i64 j)) r s j bad:=
 ⟨by rw [JI];exact h.lt,z,by rw [I4 _ _ _ _ (by simp)];exact h.c0,Jk _ _ _ h.c1,by rw [I4 _ _ _ _ (by simp)];exact h.c2,by rw [Jl];exact h.f1,by rw [Jl];exact h.f2⟩
theorem Rd.ve {w:World}{r:Nat}{s:Tx}{i:Nat}{bad:Bool}(h:Rd w r s i bad):Rd (w.setCell ⟨r,2,none⟩ (.bool true)) r s i true:=
 ⟨by rw [JI];exact h.lt,h.le,by rw [I4 _ _ _ _ (by simp)];exact h.c0,by rw [I4 _ _ _ _ (by simp)];exact h.c1,Jk _ _ _ h.c2,by rw [Jl];exact h.f1,by rw [Jl];exact h.f2⟩
abbrev Kr (r:Nat)(w w':World):Prop:=Kp w w' λg=>g=r
theorem Kr.refl (r:Nat)(w:World):Kr r w w:=Kp.ah (Ex.refl w) _
theorem Kr.trans {r:Nat}{a b c:World}(h:Kr r a b)(k:Kr r b c):Kr r a c:=Kp.trans h k λ _ _ h=>h
theorem Kr.ex {r:Nat}{w w':World}(h:Ex w w'):Kr r w w':=Kp.ah h _
theorem Kr.set {r:Nat}(w:World)(j:Nat)(v:Value):Kr r w (w.setCell ⟨r,j,none⟩ v):=Kp.set (S:=λg=>g=r) (Kr.refl r w) rfl v
theorem Gu {w:World}{r:Nat}{s:Tx}{i:Nat}{bad:Bool}(hs:s.length<=1099511627776)(h:Rd w r s i bad){R:UInt8->World->Prop}
  (hR:∀w',Kr r w w'->Rd w' r s (if i< s.length then i+1 else i) (bad||decide (s.length<=i))->R (if i< s.length then bt s i else 0) w'):Calls Tryz.prog 207 #[ptr r] w (an [.c] R):=by
 refine mK _ w R ?_;have hle:=h.le;refine⟨λw'=>Ex w w',λw1 J=>⟨J▸Ex.drew w,r,0,rfl,i,λw' G=>(h.same G.size (G.block r h.lt)).c1,r,0,rfl,s,λw' G=>(h.same G.size (G.block r h.lt)).c0,λZ=>?_,λZ=>?_⟩⟩
 ·have z:Ex w w1:=J▸Ex.drew w;have I:=h.same z.size (z.block r h.lt);have Z:=Jq Z;refine⟨r,0,rfl,⟨⟨_,I.c2⟩,I.f2⟩,λw2 H=>?_⟩;subst H;have :=hR _ (Kr.trans (Kr.ex z) (Kr.set w1 2 _)) (by
   rw [Jn (by omega),show decide (s.length<=i)=true from Ke (by omega),Bool.or_true];exact I.ve)
  rw [Jn (by omega)]at this;exact this
 ·have z:Ex w w1:=J▸Ex.drew w;have I:=h.same z.size (z.block r h.lt);have Z:=Jr Z;have α:i< s.length:=by omega
  refine⟨r,0,rfl,i,I.c1,by unfold aj;omega,r,0,rfl,⟨⟨_,I.c1⟩,I.f1⟩,λw2 H=>?_⟩;have e:((i:Int)+1)=((i+1:Nat):Int):=by omega
  rw [e]at H;have W:Rd w2 r s (i+1) bad:=H▸I.setAt (by omega);have k2:Kr r w w2:=H▸Kr.trans (Kr.ex z) (Kr.set w1 1 _);refine⟨λw'=>Ex w2 w',λw3 β=>⟨β▸Ex.drew w2,r,0,rfl,s,λw' G=>(W.same G.size (G.block r W.lt)).c0,r,0,rfl,(i+1:Nat),λw' G=>(W.same G.size (G.block r W.lt)).c1,by unfold aj;omega,⟨by omega,by omega⟩,?_⟩⟩;have V:Ex w2 w3:=β▸Ex.drew w2;have e2:Int.toNat (((i+1:Nat):Int) - 1)=i:=by omega
  rw [e2];have :=hR w3 (Kr.trans k2 (Kr.ex V)) (by
   rw [JB α,show decide (s.length<=i)=false from Kk (by omega),Lb];exact W.same V.size (V.block r W.lt))
  rw [JB α]at this;exact this
theorem tj {c:UInt8}{w:World}{R:Bool->World->Prop}(h:R (lt c) w):Calls Tryz.prog 128 #[.int .u8 c.toNat] w (an [.b] R):=by
 refine pk c w R ?_;unfold lt at h;refine⟨λz=>?_,λz=>?_⟩
 ·rw [z]at h;simpa using h
 ·rw [z]at h;simpa using h
structure Nx (s:Tx)(i:Nat)(bad:Bool)(ok:UInt8->Prop)(c:UInt8)(j:Nat)(bad':Bool):Prop where
 le:i<=j
 fine:bad'=false->bad=false/\i< s.length/\j=i+1/\c=bt s i/\ok c
 good:bad=false->i< s.length->ok (bt s i)->bad'=false
theorem oW {w:World}{r:Nat}{s:Tx}{i:Nat}{bad:Bool}(z:s.length<=1099511627776)(h:Rd w r s i bad){R:UInt8->World->Prop}
  (G:∀c j bad' w',Kr r w w'->Rd w' r s j bad'->Nx s i bad (λ _=>True) c j bad'->R c w'):Calls Tryz.prog 207 #[ptr r] w (an [.c] R):=by
 refine Gu z h λw' k H=>G _ _ _ w' k H ⟨by split<;>omega,λhb=>?_,λhb I _=>?_⟩
 ·simp only [Ko,I1]at hb;rw [JB (by omega),JB (by omega)];exact⟨hb.1,by omega,rfl,rfl,trivial⟩
 ·rw [hb,Lq];exact Kk (by omega)
theorem vd {w:World}{r:Nat}{s:Tx}{i:Nat}{bad:Bool}(Z:s.length<=1099511627776)(h:Rd w r s i bad){R:UInt8->World->Prop}
  (V:∀c j bad' w',Kr r w w'->Rd w' r s j bad'->Nx s i bad (λc=>lt c=true) c j bad'->R c w'):Calls Tryz.prog 208 #[ptr r] w (an [.c] R):=by
 refine mF _ w R ?_;refine oW Z h λc j bad' w1 W H z=>tj ⟨λG=>?_,λG=>?_⟩
 ·refine⟨r,0,rfl,⟨⟨_,H.c2⟩,H.f2⟩,λw2 I=>?_⟩;subst I;refine V c j true _ (Kr.trans W (Kr.set w1 2 _)) H.ve ⟨z.le,λhb=>(by cases hb),λhb J ho=>?_⟩;obtain⟨_,_,_,e,_⟩:=z.fine (z.good hb J trivial);rw [e]at G;rw [ho]at G;cases G
 ·refine V c j bad' w1 W H ⟨z.le,λhb=>?_,λhb J _=>z.good hb J trivial⟩;obtain⟨a,b,c,d,_⟩:=z.fine hb;exact⟨a,b,c,d,by simpa using G⟩
theorem pe {w:World}{r:Nat}{s:Tx}{i:Nat}{bad:Bool}{c:UInt8}(Z:s.length<=1099511627776)(h:Rd w r s i bad){R:World->Prop}
  (V:∀j bad' w',Kr r w w'->Rd w' r s j bad'->Nx s i bad (λd=>d=c) c j bad'->R w'):Calls Tryz.prog 209 #[ptr r,.int .u8 c.toNat] w (an [] R):=by
 refine mG _ c w R ?_;refine oW Z h λd j bad' w1 W H z=>⟨λG=>?_,λG=>?_⟩
 ·refine⟨r,0,rfl,⟨⟨_,H.c2⟩,H.f2⟩,λw2 I=>?_⟩;subst I;refine V j true _ (Kr.trans W (Kr.set w1 2 _)) H.ve ⟨z.le,λhb=>(by cases hb),λhb J ho=>?_⟩;obtain⟨_,_,_,e,_⟩:=z.fine (z.good hb J trivial);rw [e,ho]at G;simp at G
 ·have G:d=c:=by simpa using G
  subst G;refine V j bad' w1 W H ⟨z.le,λhb=>?_,λhb J _=>z.good hb J trivial⟩;obtain⟨a,b,c,d,_⟩:=z.fine hb;exact⟨a,b,c,d,rfl⟩
structure Nd (w:World)(b:Nat)(k a c:UInt8)(vs:Value):Prop where
 lt:b< w.heap.size
 c0:w.cell? ⟨b,0,none⟩=some (.int .u8 k.toNat)
 c1:w.cell? ⟨b,1,none⟩=some (.int .u8 a.toNat)
 c2:w.cell? ⟨b,2,none⟩=some (.int .u8 c.toNat)
 c3:w.cell? ⟨b,3,none⟩=some vs
 f:∀j,w.frozen? ⟨b,j,none⟩=false
theorem Nd.same {w w':World}{b:Nat}{k a c:UInt8}{vs:Value}(h:Nd w b k a c vs)(I:w.heap.size<=w'.heap.size)(hb:w'.heap[b]?=w.heap[b]?):Nd w' b k a c vs:=by
 obtain⟨J,z,G,h4,h5,H⟩:=h;refine⟨by omega,?_,?_,?_,?_,λj=>?_⟩
 ·rw [IX (w:=w) hb];exact z
 ·rw [IX (w:=w) hb];exact G
 ·rw [IX (w:=w) hb];exact h4
 ·rw [IX (w:=w) hb];exact h5
 ·rw [Jz (w:=w) hb];exact H j
structure TS (w0 w:World)(r b:Nat)(s:Tx)(i:Nat)(bad:Bool)(k a c:UInt8)(vs:Value):Prop where
 rd:Rd w r s i bad
 nd:Nd w b k a c vs
 kr:Kr r w0 w
 hr:r< w0.heap.size
 hb:w0.heap.size<=b
section
variable {w0 w w':World} {r b:Nat} {s:Tx} {i j:Nat} {bad bad':Bool} {k a c x:UInt8} {vs:Value}
theorem TS.go (h:TS w0 w r b s i bad k a c vs)(kr:Kr r w w')(hr:Rd w' r s j bad'):TS w0 w' r b s j bad' k a c vs:=by
 have :=h.hr;have :=h.hb;exact⟨hr,h.nd.same kr.size (kr.block b h.nd.lt (by omega)),Kr.trans h.kr kr,h.hr,h.hb⟩
theorem TS.ex (h:TS w0 w r b s i bad k a c vs)(z:Ex w w'):TS w0 w' r b s i bad k a c vs:=h.go (Kr.ex z) (h.rd.same z.size (z.block r h.rd.lt))
theorem TS.qU (h:TS w0 w r b s i bad k a c vs)(j:Nat)(v:Value):Rd (w.setCell ⟨b,j,none⟩ v) r s i bad/\Kr r w0 (w.setCell ⟨b,j,none⟩ v):=by
 have H:=h.hr;have I:=h.hb;refine⟨h.rd.same (by rw [JI];exact Jc _) (Li _ _ _ _ (show r≠b by omega)),⟨h.kr.os,h.kr.tape,h.kr.output,by rw [JI];exact h.kr.size,λg z G=>?_⟩⟩;rw [Li _ _ _ _ (show g≠b by omega)];exact h.kr.block g z G
theorem TS.Bc (h:TS w0 w r b s i bad k a c vs)(hw:w'=w.setCell ⟨b,0,none⟩ (.int .u8 x.toNat)):TS w0 w' r b s i bad x a c vs:=by
 subst hw;obtain⟨z,G⟩:=h.qU 0 (.int .u8 x.toNat);exact⟨z,⟨by rw [JI];exact h.nd.lt,Jk _ _ _ h.nd.c0,by rw [I4 _ _ _ _ (by simp)];exact h.nd.c1,by rw [I4 _ _ _ _ (by simp)];exact h.nd.c2,by rw [I4 _ _ _ _ (by simp)];exact h.nd.c3,λj=>by rw [Jl];exact h.nd.f j⟩,G,h.hr,h.hb⟩
theorem TS.wL (h:TS w0 w r b s i bad k a c vs)(hw:w'=w.setCell ⟨b,1,none⟩ (.int .u8 x.toNat)):TS w0 w' r b s i bad k x c vs:=by
 subst hw;obtain⟨z,G⟩:=h.qU 1 (.int .u8 x.toNat);exact⟨z,⟨by rw [JI];exact h.nd.lt,by rw [I4 _ _ _ _ (by simp)];exact h.nd.c0,Jk _ _ _ h.nd.c1,by rw [I4 _ _ _ _ (by simp)];exact h.nd.c2,by rw [I4 _ _ _ _ (by simp)];exact h.nd.c3,λj=>by rw [Jl];exact h.nd.f j⟩,G,h.hr,h.hb⟩
theorem TS.sC (h:TS w0 w r b s i bad k a c vs)(hw:w'=w.setCell ⟨b,2,none⟩ (.int .u8 x.toNat)):TS w0 w' r b s i bad k a x vs:=by
 subst hw;obtain⟨z,G⟩:=h.qU 2 (.int .u8 x.toNat);exact⟨z,⟨by rw [JI];exact h.nd.lt,by rw [I4 _ _ _ _ (by simp)];exact h.nd.c0,by rw [I4 _ _ _ _ (by simp)];exact h.nd.c1,Jk _ _ _ h.nd.c2,by rw [I4 _ _ _ _ (by simp)];exact h.nd.c3,λj=>by rw [Jl];exact h.nd.f j⟩,G,h.hr,h.hb⟩
theorem TS.BA (h:TS w0 w r b s i bad k a c vs){v:Value}(hw:w'=w.setCell ⟨b,3,none⟩ v):TS w0 w' r b s i bad k a c v:=by
 subst hw;obtain⟨z,G⟩:=h.qU 3 v;exact⟨z,⟨by rw [JI];exact h.nd.lt,by rw [I4 _ _ _ _ (by simp)];exact h.nd.c0,by rw [I4 _ _ _ _ (by simp)];exact h.nd.c1,by rw [I4 _ _ _ _ (by simp)];exact h.nd.c2,Jk _ _ _ h.nd.c3,λj=>by rw [Jl];exact h.nd.f j⟩,G,h.hr,h.hb⟩
theorem TS.CQ (h:TS w0 w r b s i bad k a c vs)(hw:w'=w.setCell ⟨r,2,none⟩ (.bool true)):TS w0 w' r b s i true k a c vs:=by
 subst hw;exact h.go (Kr.set w 2 _) h.rd.ve
theorem TS.cell (h:TS w0 w r b s i bad k a c vs):((∃u:Value,w.cell? ⟨b,0,none⟩=some u)/\w.frozen? ⟨b,0,none⟩=false)/\((∃u:Value,w.cell? ⟨b,1,none⟩=some u)/\w.frozen? ⟨b,1,none⟩=false)/\
  ((∃u:Value,w.cell? ⟨b,2,none⟩=some u)/\w.frozen? ⟨b,2,none⟩=false)/\((∃u:Value,w.cell? ⟨b,3,none⟩=some u)/\w.frozen? ⟨b,3,none⟩=false)/\((∃u:Value,w.cell? ⟨r,2,none⟩=some u)/\w.frozen? ⟨r,2,none⟩=false):=
 ⟨⟨⟨_,h.nd.c0⟩,h.nd.f 0⟩,⟨⟨_,h.nd.c1⟩,h.nd.f 1⟩,⟨⟨_,h.nd.c2⟩,h.nd.f 2⟩,⟨⟨_,h.nd.c3⟩,h.nd.f 3⟩,⟨⟨_,h.rd.c2⟩,h.rd.f2⟩⟩
end
structure Rs (D:Nat->Prop)(w:World)(s:Tx)(i j:Nat)(bad bad':Bool)(v:Value):Prop where
 le:i<=j
 ptr:∃b,v=ptr b
 fine:bad'=false->bad=false/\∃t:P,t.Al (λc=>lt c=true)/\s.drop i=t.text++s.drop j/\aG D w t v
 good:bad=false->(∃(t:P) (r':Tx),t.Al (λc=>lt c=true)/\s.drop i=t.text++r')->bad'=false
def uC (s:Tx)(n:Nat):Prop:=∀{r i:Nat} {bad:Bool} {w:World} {R:Value->World->Prop},Rd w r s i bad->(bad=false->s.length - i< n)->
 (∀v w' j bad',Kr r w w'->Rd w' r s j bad'->Rs (λg=>w.heap.size<=g) w' s i j bad bad' v->R v w')->Calls Tryz.prog 166 #[Proofs.YtdecokaadekjnaaGreat.ptr r] w (an [.v] R)
theorem C8 {s:Tx}{n:Nat}(δ:uC s n){w0 w:World}{r b i:Nat}{bad:Bool}{k a c:UInt8}{vs:Value}(h:TS w0 w r b s i bad k a c vs)(hm:bad=false->s.length - i< n){R:Value->World->Prop}
  (hR:∀w' j bad' x J,TS w0 w' r b s j bad' k a c J->dW (λg=>w0.heap.size<=g) w' J [x]->Rs (λg=>w0.heap.size<=g) w' s i j bad bad' x->R (ptr b) w'):
  Calls Tryz.prog 166 #[ptr r] w (an [.v] fun(v28:Value) (V:World)=>oneV v28=true/\∀(b30:Nat) (z:World),b30=Array.size (World.heap V)->z=World.alloc V (Obj.cells #[v28] 88)->
   oneV (Value.slice (some ⟨b30,0,none⟩) 1 1)=true/\((∃u32:Value,World.cell? z ⟨b,3,none⟩=some u32)/\World.frozen? z ⟨b,3,none⟩=false)/\∀W:World,W=World.setCell z ⟨b,3,none⟩ (Value.slice (some ⟨b30,0,none⟩) 1 1)->R (Value.pointer (some ⟨b,0,none⟩)) W):=by
 refine δ h.rd hm λv w1 j bad' k1 h1 Z=>?_
 obtain⟨bv,ε⟩:=Z.ptr;have t1:=h.go k1 h1;refine⟨by rw [ε];rfl,λb2 w2 α H=>⟨rfl,?_⟩⟩;have β:Ex w1 w2:=H▸Ex.alloc w1 _;have t2:=t1.ex β;refine⟨t2.cell.2.2.2.1,λw3 G=>?_⟩;have t3:=t2.BA G;have hb:=h.hb;have μ:=t2.nd.lt;have θ:=k1.size;have ι:=h.kr.size;have κ:=t1.nd.lt;have hK:Kp w2 w3 λg=>g=b:=G▸Kp.set (S:=λg=>g=b) (Kp.ah (Ex.refl w2) _) rfl _
 have ν:b< w.heap.size:=h.nd.lt;refine hR w3 j bad' v _ t3 (.inr ⟨b2,0,1,rfl,by omega,?_,λi x I=>?_⟩) ⟨Z.le,Z.ptr,λζ=>?_,Z.good⟩
 ·rw [G,JI,H,size_alloc,<-α];omega
 ·match i,I with
  | 0,I=>
   simp at I;subst I;rw [G,I4 _ _ _ _ (by simp),H,α];exact aa rfl
  | i+1,I=>simp at I
 ·obtain⟨e1,t,ht,e2,η⟩:=Z.fine ζ;refine⟨e1,t,ht,e2,?_⟩;have γ:aG (λg=>w.heap.size<=g) w2 t v:=aG.kp (Kp.ah β λ _=>False) (λ _ _ h=>h) η;exact aG.mono (λg hg=>by omega) (aG.kp hK (λg hg e=>by omega) γ)
theorem a6 {s:Tx}{i:Nat}(h:i< s.length):s.drop i=bt s i::s.drop (i+1):=bB h
theorem eY.of {D:Nat->Prop}{w0 w:World}{r b:Nat}{s:Tx}{i:Nat}{bad:Bool}{k a c:UInt8}{vs:Value}{l:List Value}{K:List Value->Prop}(h:TS w0 w r b s i bad k a c vs)(z:D b)(G:dW D w vs l)(H:K l):eY D w (ptr b) k a c K:=
 ⟨b,vs,l,rfl,z,h.nd.lt,h.nd.c0,h.nd.c1,h.nd.c2,h.nd.c3,G,H⟩
theorem dq {s:Tx}{i:Nat}{c:UInt8}{r:Tx}(h:s.drop i=c::r):i< s.length/\bt s i=c/\s.drop (i+1)=r:=drop_cons h
theorem Gi (s:Tx)(hs:s.length<=1099511627776):∀n,uC s n:=by
 intro n;have main:∀n,(∀m,m+1=n->uC s m)->uC s n:=by
  intro n ih r i bad w R hrd hm hR;refine mC _ w R ?_;intro b w1 hb hw1;have ς:Ex w w1:=hw1▸Ex.alloc w _;have hrl:=hrd.lt;have hsz1:w1.heap.size=w.heap.size+1:=by rw [hw1,size_alloc]
  have t1:TS w w1 r b s i bad 48 0 0 (.slice none 0 0):=by
   refine⟨hrd.same ς.size (ς.block r hrl),⟨by omega,?_,?_,?_,?_,λj=>?_⟩,Kr.ex ς,hrl,by omega⟩
   ·rw [hw1,hb];exact aa rfl
   ·rw [hw1,hb];exact aa rfl
   ·rw [hw1,hb];exact aa rfl
   ·rw [hw1,hb];exact aa rfl
   ·rw [hw1,hb];unfold World.frozen? World.alloc;simp
  have hD:w.heap.size<=b:=by omega
  refine⟨r,0,rfl,bad,t1.rd.c2,λhq=>?_,λhq=>?_⟩
  ·exact hR _ _ _ _ t1.kr t1.rd ⟨Jc _,⟨b,rfl⟩,λH=>(by rw [hq]at H;cases H),λH=>(by rw [hq]at H;cases H)⟩
  obtain⟨n,rfl⟩:∃m,n=m+1:=⟨n - 1,by have :=hm hq;omega⟩
  have iht:uC s n:=ih n rfl;have hm:=hm hq;subst hq;refine oW hs t1.rd λc7 j7 bad7 w8 k8 h8 hn=>?_
  have t8:=t1.go k8 h8;have hj7:=h8.le;have first:bad7=false->i< s.length/\j7=i+1/\c7=bt s i:=λH=>by
   obtain⟨_,a,b,c,_⟩:=hn.fine H;exact⟨a,b,c⟩
  have G:∀{c:UInt8} {x:Tx},s.drop i=c::x->bad7=false/\c7=c/\s.drop j7=x:=λh=>by
   obtain⟨a,b,c⟩:=dq h;have H:=hn.good rfl a trivial;obtain⟨_,e1,e2⟩:=first H;exact⟨H,by rw [e2,b],by rw [e1];exact c⟩
  refine⟨λJ=>?_,λJ=>?_⟩
  ·have J:=Jq J;refine hR _ _ j7 bad7 t8.kr t8.rd ⟨hn.le,⟨b,rfl⟩,λH=>?_,λ _ ⟨t,r',ht,e⟩=>?_⟩
   ·obtain⟨a1,a2,a3⟩:=first H;refine⟨rfl,.nil,trivial,?_,eY.of t8 hD (.inl ⟨rfl,rfl⟩) rfl⟩;rw [a6 a1,<-a3,J,a2];rfl
   ·cases ht':t.text with
    | nil=>have :=CW t;rw [ht']at this;simp at this
    | cons d x=>rw [ht',JZ]at e;exact(G e).1
  have hc0:c7≠48:=Jr J;refine tj ⟨λhl=>?_,λhl=>?_⟩
  ·
   refine oW hs t8.rd λV j11 W w12 k12 h12 ψ=>?_
   have t12:=t8.go k12 h12;refine⟨t12.cell.2.1,λw14 hw14=>?_⟩;have t14:=t12.wL hw14;refine⟨t14.cell.1,λw16 hw16=>?_⟩;have t16:=t14.Bc hw16;have rest:∀{wx:World} {I:Bool},TS w wx r b s j11 I V c7 0 (.slice none 0 0)->(I=false->W=false/\(V=33\/V=63))->(W=false->(V=33\/V=63)->I=false)->
     ∀{K:UInt8->World->Prop},(∀κ υ α w24,TS w w24 r b s υ α V c7 0 (.slice none 0 0)->Nx s j11 I (λc=>lt c=true) κ υ α->K κ w24)->
     Calls Tryz.prog 208 #[ptr r] wx (an [.c] K):=by
    intro wx I tx _ _ K hK;exact vd hs tx.rd λc j bad' w' k' h' hn'=>hK c j bad' w' (tx.go k' h') hn'
   have fin:∀{I:Bool} {κ:UInt8} {υ:Nat} {α:Bool} {w24 w26:World},(I=false->W=false/\(V=33\/V=63))->(W=false->(V=33\/V=63)->I=false)->Nx s j11 I (λc=>lt c=true) κ υ α->
     TS w w26 r b s υ α V c7 κ (.slice none 0 0)->Calls Tryz.prog 209 #[ptr r,.int .u8 46] w26 (an [] λw27=>Calls Tryz.prog 166 #[ptr r] w27 (an [.v] fun(v28:Value) (w29:World)=>oneV v28=true/\∀(b30:Nat) (φ:World),b30=Array.size (World.heap w29)->φ=World.alloc w29 (Obj.cells #[v28] 88)->
      oneV (Value.slice (some ⟨b30,0,none⟩) 1 1)=true/\((∃u32:Value,World.cell? φ ⟨b,3,none⟩=some u32)/\World.frozen? φ ⟨b,3,none⟩=false)/\∀w33:World,w33=World.setCell φ ⟨b,3,none⟩ (Value.slice (some ⟨b30,0,none⟩) 1 1)->R (Value.pointer (some ⟨b,0,none⟩)) w33)):=by
    intro I κ υ α w24 w26 ς hx2 δ t26;refine pe (c:=46) hs t26.rd λj27 bad27 w27 k27 h27 ω=>?_
    have t27:=t26.go k27 h27;refine C8 iht t27 (λH=>?_) λw' j bad' x vs' t' hsl hrs=>?_
    ·obtain⟨a1,a2,a3,_⟩:=ω.fine H;obtain⟨b1,b2,b3,_⟩:=δ.fine a1;obtain⟨c1,c2,c3,_⟩:=ψ.fine (ς b1).1;obtain⟨_,d2,d3⟩:=first c1;omega
    ·refine hR _ _ j bad' t'.kr t'.rd ⟨?_,⟨b,rfl⟩,λH=>?_,λ _ ⟨t,r',ht,e⟩=>?_⟩
     ·have :=hn.le;have :=ψ.le;have :=δ.le;have :=ω.le;have :=hrs.le;omega
     ·obtain⟨e1,t,ht,e2,hat⟩:=hrs.fine H;obtain⟨a1,a2,a3,a4,a5⟩:=ω.fine e1;obtain⟨b1,b2,b3,b4,b5⟩:=δ.fine a1;obtain⟨b0,hk⟩:=ς b1;obtain⟨c1,c2,c3,c4,_⟩:=ψ.fine b0;obtain⟨d1,d2,d3⟩:=first c1;have ε:s.drop i=c7::V::κ::46::(t.text++s.drop j):=by
       rw [a6 d1,<-d3,<-d2,a6 c2,<-c4,<-c3,a6 b2,<-b4,<-b3,a6 a2,<-a4,<-a3,e2]
      rcases hk with hk | hk
      ·subst hk;exact⟨rfl,.snd c7 κ t,⟨hl,b5,ht⟩,ε,eY.of t' hD hsl ⟨x,rfl,hat⟩⟩
      ·subst hk;exact⟨rfl,.rcv c7 κ t,⟨hl,b5,ht⟩,ε,eY.of t' hD hsl ⟨x,rfl,hat⟩⟩
     ·have key:∀{a d x:UInt8} {p:P},(d=33\/d=63)->lt x=true->p.Al (λc=>lt c=true)->s.drop i=a::d::x::46::(p.text++r')->bad'=false:=by
       intro a d x p hd hx hp he;obtain⟨f1,f2,f3⟩:=G he;obtain⟨g1,g2,g3⟩:=dq f3;have f4:=ψ.good f1 g1 trivial;obtain⟨_,_,h3,h4,_⟩:=ψ.fine f4;rw [<-h3]at g3;obtain⟨k1,k2,k3⟩:=dq g3;have hkd:V=33\/V=63:=by rw [h4,g2];exact hd
       have f5:=δ.good (hx2 f4 hkd) k1 (by rw [k2];exact hx);obtain⟨_,_,l3,l4,_⟩:=δ.fine f5;rw [<-l3]at k3;obtain⟨m1,m2,m3⟩:=dq k3;have f6:=ω.good f5 m1 m2;obtain⟨_,_,o3,o4,_⟩:=ω.fine f6;rw [<-o3]at m3;exact hrs.good f6 ⟨p,r',hp,m3⟩
      cases t with
      | snd a x p=>exact key (.inl rfl) ht.2.1 ht.2.2 e
      | rcv a x p=>exact key (.inr rfl) ht.2.1 ht.2.2 e
      | nil=>exact absurd (G (c:=48) e).2.1 hc0
      | tau p=>have :=(G (c:=126) e).2.1;rw [this]at hl;exact absurd hl (by decide)
      | res y p=>have :=(G (c:=35) e).2.1;rw [this]at hl;exact absurd hl (by decide)
      | mat y z p=>have :=(G (c:=91) e).2.1;rw [this]at hl;exact absurd hl (by decide)
      | rep p=>have :=(G (c:=42) e).2.1;rw [this]at hl;exact absurd hl (by decide)
      | sum p q=>have :=(G (c:=40) e).2.1;rw [this]at hl;exact absurd hl (by decide)
      | par p q=>have :=(G (c:=40) e).2.1;rw [this]at hl;exact absurd hl (by decide)
   refine⟨V,t16.nd.c0,λθ=>⟨V,t16.nd.c0,λι=>⟨r,0,rfl,t16.cell.2.2.2.2,λw22 hw22=>?_⟩,λι=>?_⟩,λθ=>?_⟩
   ·have t22:=t16.CQ hw22;have θ:¬V=33:=by simpa using θ
    have ι:¬V=63:=by simpa using ι
    have x1:true=false->W=false/\(V=33\/V=63):=λh=>by cases h
    have x2:W=false->(V=33\/V=63)->true=false:=λ _ h=>by rcases h with h | h<;>contradiction
    refine rest t22 x1 x2 λκ υ α w24 t24 δ=>⟨t24.cell.2.2.1,λw26 hw26=>fin (w24:=w24) x1 x2 δ (t24.sC hw26)⟩
   ·have ι:V=63:=by simpa using ι
    have x1:W=false->W=false/\(V=33\/V=63):=λh=>⟨h,.inr ι⟩
    have x2:W=false->(V=33\/V=63)->W=false:=λh _=>h
    refine rest t16 x1 x2 λκ υ α w24 t24 δ=>⟨t24.cell.2.2.1,λw26 hw26=>fin (w24:=w24) x1 x2 δ (t24.sC hw26)⟩
   ·have θ:V=33:=by simpa using θ
    have x1:W=false->W=false/\(V=33\/V=63):=λh=>⟨h,.inl θ⟩
    have x2:W=false->(V=33\/V=63)->W=false:=λh _=>h
    refine rest t16 x1 x2 λκ υ α w24 t24 δ=>⟨t24.cell.2.2.1,λw26 hw26=>fin (w24:=w24) x1 x2 δ (t24.sC hw26)⟩
  have Z:∀{a:UInt8} {x:Tx},lt a=true->s.drop i=a::x->False:=λha he=>by
   rw [(G he).2.1]at hl;rw [hl]at ha;cases ha
  have one:∀{wx:World} {jx:Nat} {I:Bool} {k a c:UInt8} (hd:Tx) (mk:P->P),TS w wx r b s jx I k a c (.slice none 0 0)->i<=jx->
    (I=false->i< jx/\s.drop i=hd++s.drop jx)->(I=false->∀p,(mk p).text=hd++p.text)->(I=false->∀p:P,p.Al (λc=>lt c=true)->(mk p).Al (λc=>lt c=true))->
    (∀{D:Nat->Prop} {w':World} {v:Value} {p:P},(eY D w' v k a c λl=>∃x,l=[x]/\aG D w' p x)->I=false->aG D w' (mk p) v)->
    (∀(t:P) (r':Tx),t.Al (λc=>lt c=true)->s.drop i=t.text++r'->I=false/\∃p:P,p.Al (λc=>lt c=true)/\s.drop jx=p.text++r')->
    Calls Tryz.prog 166 #[ptr r] wx (an [.v] fun(v28:Value) (w29:World)=>oneV v28=true/\∀(b30:Nat) (φ:World),b30=Array.size (World.heap w29)->φ=World.alloc w29 (Obj.cells #[v28] 88)->
     oneV (Value.slice (some ⟨b30,0,none⟩) 1 1)=true/\((∃u32:Value,World.cell? φ ⟨b,3,none⟩=some u32)/\World.frozen? φ ⟨b,3,none⟩=false)/\∀w33:World,w33=World.setCell φ ⟨b,3,none⟩ (Value.slice (some ⟨b30,0,none⟩) 1 1)->R (Value.pointer (some ⟨b,0,none⟩)) w33):=by
   intro wx jx I k a c hd mk tx hle hpos htx hal hat hgood;have hjx:=tx.rd.le;refine C8 iht tx (λH=>by have :=(hpos H).1;omega) λw' j bad' x vs' t' hsl hrs=>?_
   refine hR _ _ j bad' t'.kr t'.rd ⟨by have :=hrs.le;omega,⟨b,rfl⟩,λH=>?_,λ _ ⟨t,r',ht,e⟩=>?_⟩
   ·obtain⟨e1,p,hp,e2,hpa⟩:=hrs.fine H;refine⟨rfl,mk p,hal e1 p hp,?_,hat (eY.of t' hD hsl ⟨x,rfl,hpa⟩) e1⟩;rw [(hpos e1).2,htx e1,e2,JH]
   ·obtain⟨e1,p,hp,e2⟩:=hgood t r' ht e;exact hrs.good e1 ⟨p,r',hp,e2⟩
  refine⟨λJ=>?_,λJ=>?_⟩
  ·
   have J:c7=126:=Jq J;refine⟨t8.cell.1,λw57 μ=>?_⟩;rw [J]at μ;have t57:=t8.Bc μ;refine pe (c:=46) hs t57.rd λj58 bad58 w58 k58 h58 hn58=>?_
   have t58:=t57.go k58 h58;refine one [126,46] .tau t58 (by have :=hn.le;have :=hn58.le;omega) (λH=>?_) (λ _ p=>rfl) (λ _ p hp=>hp) (λh _=>h) λt r' ht e=>?_
   ·obtain⟨a1,a2,a3,a4,a5⟩:=hn58.fine H;obtain⟨d1,d2,d3⟩:=first a1;refine⟨by omega,?_⟩;rw [a6 d1,<-d3,<-d2,a6 a2,<-a4,<-a3,J];rfl
   ·cases t with
    | tau p=>
     obtain⟨f1,f2,f3⟩:=G (c:=126) e;obtain⟨g1,g2,g3⟩:=dq (c:=46) f3;have f4:=hn58.good f1 g1 g2;obtain⟨_,_,h3,_⟩:=hn58.fine f4;exact⟨f4,p,ht,by rw [h3];exact g3⟩
    | nil=>exact absurd (G (c:=48) e).2.1 hc0
    | snd a x p=>exact(Z ht.1 e).elim
    | rcv a x p=>exact(Z ht.1 e).elim
    | res y p=>have :=(G (c:=35) e).2.1;rw [this]at J;exact absurd J (by decide)
    | mat y z p=>have :=(G (c:=91) e).2.1;rw [this]at J;exact absurd J (by decide)
    | rep p=>have :=(G (c:=42) e).2.1;rw [this]at J;exact absurd J (by decide)
    | sum p q=>have :=(G (c:=40) e).2.1;rw [this]at J;exact absurd J (by decide)
    | par p q=>have :=(G (c:=40) e).2.1;rw [this]at J;exact absurd J (by decide)
  have hc1:c7≠126:=Jr J;refine⟨λJ=>?_,λJ=>?_⟩
  ·
   have J:c7=35:=Jq J;refine vd hs t8.rd λc65 j65 bad65 w66 k66 h66 hn66=>?_
   have t66:=t8.go k66 h66;refine⟨t66.cell.1,λw68 hw68=>?_⟩;rw [J]at hw68;have t68:=t66.Bc hw68;refine⟨t68.cell.2.2.1,λw70 hw70=>?_⟩;have t70:=t68.sC hw70;refine pe (c:=46) hs t70.rd λj71 bad71 w71 k71 h71 hn71=>?_
   have t71:=t70.go k71 h71;have fx:bad71=false->lt c65=true:=λH=>(hn66.fine (hn71.fine H).1).2.2.2.2
   refine one [35,c65,46] (.res c65) t71 (by have :=hn.le;have :=hn66.le;have :=hn71.le;omega) (λH=>?_) (λ _ p=>rfl) (λH p hp=>⟨fx H,hp⟩) (λh _=>h) λt r' ht e=>?_
   ·obtain⟨a1,a2,a3,a4,a5⟩:=hn71.fine H;obtain⟨b1,b2,b3,b4,b5⟩:=hn66.fine a1;obtain⟨d1,d2,d3⟩:=first b1;refine⟨by omega,?_⟩;rw [a6 d1,<-d3,<-d2,a6 b2,<-b4,<-b3,a6 a2,<-a4,<-a3,J];rfl
   ·cases t with
    | res y p=>
     obtain⟨f1,f2,f3⟩:=G (c:=35) e;obtain⟨g1,g2,g3⟩:=dq (c:=y) f3;have f4:=hn66.good f1 g1 (by rw [g2];exact ht.1);obtain⟨_,_,h3,h4,_⟩:=hn66.fine f4;rw [<-h3]at g3;obtain⟨m1,m2,m3⟩:=dq (c:=46) g3;have f6:=hn71.good f4 m1 m2;obtain⟨_,_,o3,_⟩:=hn71.fine f6;exact⟨f6,p,ht.2,by rw [o3];exact m3⟩
    | nil=>exact absurd (G (c:=48) e).2.1 hc0
    | snd a x p=>exact(Z ht.1 e).elim
    | rcv a x p=>exact(Z ht.1 e).elim
    | tau p=>exact absurd (G (c:=126) e).2.1 hc1
    | mat y z p=>have :=(G (c:=91) e).2.1;rw [this]at J;exact absurd J (by decide)
    | rep p=>have :=(G (c:=42) e).2.1;rw [this]at J;exact absurd J (by decide)
    | sum p q=>have :=(G (c:=40) e).2.1;rw [this]at J;exact absurd J (by decide)
    | par p q=>have :=(G (c:=40) e).2.1;rw [this]at J;exact absurd J (by decide)
  have hc2:c7≠35:=Jr J;refine⟨λJ=>?_,λJ=>?_⟩
  ·
   have J:c7=91:=Jq J;refine vd hs t8.rd λc78 j78 bad78 w79 k79 h79 hn79=>?_
   have t79:=t8.go k79 h79;refine⟨t79.cell.1,λw80 hw80=>?_⟩;have t80:=t79.Bc (x:=61) hw80;refine⟨t80.cell.2.1,λw81 hw81=>?_⟩;have t81:=t80.wL hw81;refine pe (c:=61) hs t81.rd λj82 bad82 w82 k82 h82 hn82=>?_
   have t82:=t81.go k82 h82;refine vd hs t82.rd λc83 j83 bad83 w83 k83 h83 hn83=>?_
   have t83:=t82.go k83 h83;refine⟨t83.cell.2.2.1,λw84 hw84=>?_⟩;have t84:=t83.sC hw84;refine pe (c:=93) hs t84.rd λj85 bad85 w85 k85 h85 hn85=>?_
   have t85:=t84.go k85 h85;have fx:bad85=false->lt c78=true/\lt c83=true:=λH=>by
    obtain⟨a1,_⟩:=hn85.fine H;obtain⟨b1,_,_,_,b5⟩:=hn83.fine a1;obtain⟨c1,_⟩:=hn82.fine b1;exact⟨(hn79.fine c1).2.2.2.2,b5⟩
   refine one [91,c78,61,c83,93] (.mat c78 c83) t85 (by have :=hn.le;have :=hn79.le;have :=hn82.le;have :=hn83.le;have :=hn85.le;omega) (λH=>?_) (λ _ p=>rfl) (λH p hp=>⟨(fx H).1,(fx H).2,hp⟩) (λh _=>h) λt r' ht e=>?_
   ·obtain⟨a1,a2,a3,a4,a5⟩:=hn85.fine H;obtain⟨b1,b2,b3,b4,b5⟩:=hn83.fine a1;obtain⟨c1,c2,c3,c4,c5⟩:=hn82.fine b1;obtain⟨e1,e2,e3,e4,e5⟩:=hn79.fine c1;obtain⟨d1,d2,d3⟩:=first e1;refine⟨by omega,?_⟩;rw [a6 d1,<-d3,<-d2,a6 e2,<-e4,<-e3,a6 c2,<-c4,<-c3,a6 b2,<-b4,<-b3,a6 a2,<-a4,<-a3,J];rfl
   ·cases t with
    | mat y z p=>
     obtain⟨f1,f2,f3⟩:=G (c:=91) e;obtain⟨g1,g2,g3⟩:=dq (c:=y) f3;have f4:=hn79.good f1 g1 (by rw [g2];exact ht.1);obtain⟨_,_,h3,h4,_⟩:=hn79.fine f4;rw [<-h3]at g3;obtain⟨m1,m2,m3⟩:=dq (c:=61) g3;have f6:=hn82.good f4 m1 m2;obtain⟨_,_,o3,_⟩:=hn82.fine f6;rw [<-o3]at m3;obtain⟨p1,p2,p3⟩:=dq (c:=z) m3;have f7:=hn83.good f6 p1 (by rw [p2];exact ht.2.1);obtain⟨_,_,q3,_⟩:=hn83.fine f7;rw [<-q3]at p3;obtain⟨s1,s2,s3⟩:=dq (c:=93) p3;have f8:=hn85.good f7 s1 s2;obtain⟨_,_,u3,_⟩:=hn85.fine f8;exact⟨f8,p,ht.2.2,by rw [u3];exact s3⟩
    | nil=>exact absurd (G (c:=48) e).2.1 hc0
    | snd a x p=>exact(Z ht.1 e).elim
    | rcv a x p=>exact(Z ht.1 e).elim
    | tau p=>exact absurd (G (c:=126) e).2.1 hc1
    | res y p=>exact absurd (G (c:=35) e).2.1 hc2
    | rep p=>have :=(G (c:=42) e).2.1;rw [this]at J;exact absurd J (by decide)
    | sum p q=>have :=(G (c:=40) e).2.1;rw [this]at J;exact absurd J (by decide)
    | par p q=>have :=(G (c:=40) e).2.1;rw [this]at J;exact absurd J (by decide)
  have hc3:c7≠91:=Jr J;refine⟨λJ=>?_,λJ=>?_⟩
  ·
   have J:c7=42:=Jq J;refine⟨t8.cell.1,λw57 μ=>?_⟩;rw [J]at μ;have t57:=t8.Bc μ;refine one [42] .rep t57 hn.le (λH=>?_) (λ _ p=>rfl) (λ _ p hp=>hp) (λh _=>h) λt r' ht e=>?_
   ·obtain⟨d1,d2,d3⟩:=first H;refine⟨by omega,?_⟩;rw [a6 d1,<-d3,<-d2,J];rfl
   ·cases t with
    | rep p=>
     obtain⟨f1,f2,f3⟩:=G (c:=42) e;exact⟨f1,p,ht,f3⟩
    | nil=>exact absurd (G (c:=48) e).2.1 hc0
    | snd a x p=>exact(Z ht.1 e).elim
    | rcv a x p=>exact(Z ht.1 e).elim
    | tau p=>exact absurd (G (c:=126) e).2.1 hc1
    | res y p=>exact absurd (G (c:=35) e).2.1 hc2
    | mat y z p=>exact absurd (G (c:=91) e).2.1 hc3
    | sum p q=>have :=(G (c:=40) e).2.1;rw [this]at J;exact absurd J (by decide)
    | par p q=>have :=(G (c:=40) e).2.1;rw [this]at J;exact absurd J (by decide)
  have hc4:c7≠42:=Jr J;refine⟨λJ=>?_,λJ=>?_⟩
  ·
   have J:c7=40:=Jq J;refine iht t8.rd (λH=>by have :=(first H).2.1;have :=(first H).1;omega) λv1 w105 j105 bad105 k105 h105 hs1=>?_
   obtain⟨bv1,hbv1⟩:=hs1.ptr;have t105:=t8.go k105 h105;refine oW hs t105.rd λβ j106 bad106 w107 k107 h107 ν=>?_
   have t107:=t105.go k107 h107;refine⟨t107.cell.1,λw109 hw109=>?_⟩;have t109:=t107.Bc hw109;have sz8:=t8.nd.lt;have szk:=k105.size;have hrw8:r< w8.heap.size:=h8.lt;have kK:∀{wa wb:World},Kr r wa wb->Kp wa wb λg=>g=r\/g=b:=λh=>⟨h.os,h.tape,h.output,h.size,λg hg hn=>h.block g hg λe=>hn (.inl e)⟩
   have kS:∀{wa wb:World} {j:Nat} {v:Value},wb=wa.setCell ⟨b,j,none⟩ v->Kp wa wb λg=>g=r\/g=b:=λ{wa wb j v} h=>h▸Kp.set (S:=λg=>g=r\/g=b) (Kp.ah (Ex.refl wa) _) (.inr rfl) v
   have kT:∀{wa wb wc:World},(Kp wa wb λg=>g=r\/g=b)->(Kp wb wc λg=>g=r\/g=b)->Kp wa wc λg=>g=r\/g=b:=λh k=>Kp.trans h k λ _ _ h=>h
   have q109:Kp w105 w109 λg=>g=r\/g=b:=kT (kK k107) (kS hw109)
   have rest:∀{wx:World} {I:Bool},TS w wx r b s j106 I β 0 0 (.slice none 0 0)->(Kp w105 wx λg=>g=r\/g=b)->(I=false->bad106=false/\(β=43\/β=38))->(bad106=false->(β=43\/β=38)->I=false)->
     Calls Tryz.prog 166 #[ptr r] wx (an [.v] fun(v116:Value) (ξ:World)=>oneV v1=true/\oneV v116=true/\∀(γ:Nat) (ζ:World),γ=Array.size (World.heap ξ)->ζ=World.alloc ξ (Obj.cells #[v1,v116] 88)->
      oneV (Value.slice (some ⟨γ,0,none⟩) 2 2)=true/\((∃u120:Value,World.cell? ζ ⟨b,3,none⟩=some u120)/\World.frozen? ζ ⟨b,3,none⟩=false)/\∀w121:World,w121=World.setCell ζ ⟨b,3,none⟩ (Value.slice (some ⟨γ,0,none⟩) 2 2)->
      Calls Tryz.prog 209 #[ptr r,.int .u8 41] w121 (an [] λη=>R (Value.pointer (some ⟨b,0,none⟩)) η)):=by
    intro wx I tx qx ς hx2;have szx:=qx.size;refine iht tx.rd (λH=>?_) λv2 ξ j117 bad117 k117 h117 hs2=>?_
    ·obtain⟨a1,a2,a3,_⟩:=ν.fine (ς H).1;have :=(hs1.fine a1).1;have :=(first this).2.1;have :=hs1.le;omega
    obtain⟨bv2,hbv2⟩:=hs2.ptr;have t117:=tx.go k117 h117;refine⟨by rw [hbv1];rfl,by rw [hbv2];rfl,λγ ζ hb118 χ=>⟨rfl,?_⟩⟩;have hx119:Ex ξ ζ:=χ▸Ex.alloc ξ _;have t119:=t117.ex hx119;refine⟨t119.cell.2.2.2.1,λw121 ο=>?_⟩;have t121:=t119.BA ο;refine pe (c:=41) hs t121.rd λj122 bad122 η k122 h122 hn122=>?_
    have t122:=t121.go k122 h122;have sz117:=k117.size;have q119:Kp ξ ζ λg=>g=r\/g=b:=Kp.ah hx119 _
    have q122:Kp ξ η λg=>g=r\/g=b:=kT (kT q119 (kS ο)) (kK k122)
    have qall:Kp w105 η λg=>g=r\/g=b:=kT (kT qx (kK k117)) q122
    have hbl:γ< η.heap.size:=by
     have :=k122.size;rw [ο,JI,χ,size_alloc,<-hb118]at this;omega
    have hkr:=t8.kr.size;have hsl:dW (λg=>w.heap.size<=g) η (.slice (some ⟨γ,0,none⟩) 2 2) [v1,v2]:=by
     refine .inr ⟨γ,0,2,rfl,by omega,hbl,λi x hx=>?_⟩;have hne:γ≠b:=by omega
     have hblk:η.heap[γ]?=ζ.heap[γ]?:=by
      rw [k122.block γ (by rw [ο,JI,χ,size_alloc];omega) (by omega),ο,Li _ _ _ _ (show γ≠b from hne)]
     rw [IX (w:=ζ) hblk,χ,hb118]
     match i,hx with
     | 0,hx=>simp at hx;subst hx;exact aa rfl
     | 1,hx=>simp at hx;subst hx;exact aa rfl
     | i+2,hx=>simp at hx
    refine hR _ _ j122 bad122 t122.kr t122.rd ⟨by have :=hn.le;have :=hs1.le;have :=ν.le;have :=hs2.le;have :=hn122.le;omega,⟨b,rfl⟩,λH=>?_,λ _ ⟨t,r',ht,e⟩=>?_⟩
    ·obtain⟨a1,a2,a3,a4,a5⟩:=hn122.fine H;obtain⟨b1,q,hq,b2,b3⟩:=hs2.fine a1;obtain⟨b0,hk⟩:=ς b1;obtain⟨c1,c2,c3,c4,_⟩:=ν.fine b0;obtain⟨e1,p,hp,e2,e3⟩:=hs1.fine c1;obtain⟨d1,d2,d3⟩:=first e1;have ε:s.drop i=40::(p.text++(β::(q.text++(41::s.drop j122)))):=by
      rw [a6 d1,<-d3,<-d2,e2,a6 c2,<-c4,<-c3,b2,a6 a2,<-a4,<-a3,J]
     have k1:aG (λg=>w.heap.size<=g) η p v1:=aG.mono (λg hg=>by omega) (aG.kp qall (λg hg hS=>by rcases hS with h | h<;>omega) e3);have k2:aG (λg=>w.heap.size<=g) η q v2:=aG.mono (λg hg=>by omega) (aG.kp q122 (λg hg hS=>by rcases hS with h | h<;>omega) b3);rcases hk with hk | hk
     ·subst hk;exact⟨rfl,.sum p q,⟨hp,hq⟩,by rw [ε];simp [T.text],eY.of t122 hD hsl ⟨v1,v2,rfl,k1,k2⟩⟩
     ·subst hk;exact⟨rfl,.par p q,⟨hp,hq⟩,by rw [ε];simp [T.text],eY.of t122 hD hsl ⟨v1,v2,rfl,k1,k2⟩⟩
    ·have key:∀{d:UInt8} {p q:P},(d=43\/d=38)->p.Al (λc=>lt c=true)->q.Al (λc=>lt c=true)->s.drop i=40::(p.text++(d::(q.text++(41::r'))))->bad122=false:=by
      intro d p q hd hp hq he;obtain⟨f1,f2,f3⟩:=G he;have g1:=hs1.good f1 ⟨p,_,hp,f3⟩;obtain⟨_,p',hp',g2,_⟩:=hs1.fine g1;rw [g2]at f3;obtain⟨rfl,g3⟩:=lv hp'.wf hp.wf f3;obtain⟨k1,k2,k3⟩:=dq g3;have f4:=ν.good g1 k1 trivial;obtain⟨_,_,h3,h4,_⟩:=ν.fine f4;have f5:=hx2 f4 (by rw [h4,k2];exact hd);rw [<-h3]at k3;have f6:=hs2.good f5 ⟨q,_,hq,k3⟩;obtain⟨_,q',hq',g4,_⟩:=hs2.fine f6;rw [g4]at k3;obtain⟨rfl,g5⟩:=lv hq'.wf hq.wf k3;obtain⟨l1,l2,l3⟩:=dq g5;exact hn122.good f6 l1 l2
     cases t with
     | sum p q=>exact key (.inl rfl) ht.1 ht.2 (by rw [e];simp [T.text])
     | par p q=>exact key (.inr rfl) ht.1 ht.2 (by rw [e];simp [T.text])
     | nil=>exact absurd (G (c:=48) e).2.1 hc0
     | snd a x p=>exact(Z ht.1 e).elim
     | rcv a x p=>exact(Z ht.1 e).elim
     | tau p=>exact absurd (G (c:=126) e).2.1 hc1
     | res y p=>exact absurd (G (c:=35) e).2.1 hc2
     | mat y z p=>exact absurd (G (c:=91) e).2.1 hc3
     | rep p=>exact absurd (G (c:=42) e).2.1 hc4
   refine⟨β,t109.nd.c0,λθ=>⟨β,t109.nd.c0,λι=>⟨r,0,rfl,t109.cell.2.2.2.2,λw22 hw22=>?_⟩,λι=>?_⟩,λθ=>?_⟩
   ·have θ:¬β=43:=by simpa using θ
    have ι:¬β=38:=by simpa using ι
    exact rest (t109.CQ hw22) (kT q109 (kK (hw22▸Kr.set w109 2 _))) (λh=>by cases h) (λ _ h=>by rcases h with h | h<;>contradiction)
   ·have ι:β=38:=by simpa using ι
    exact rest t109 q109 (λh=>⟨h,.inr ι⟩) (λh _=>h)
   ·have θ:β=43:=by simpa using θ
    exact rest t109 q109 (λh=>⟨h,.inl θ⟩) (λh _=>h)
  ·
   have hc5:c7≠40:=Jr J;refine⟨r,0,rfl,t8.cell.2.2.2.2,λw57 μ=>?_⟩;have t57:=t8.CQ μ;refine one [] .tau t57 hn.le (λH=>by cases H) (λH=>by cases H) (λ _ p hp=>hp) (λh H=>by cases H) λt r' ht e=>?_
   exfalso;cases t with
   | nil=>exact absurd (G (c:=48) e).2.1 hc0
   | snd a x p=>exact(Z ht.1 e).elim
   | rcv a x p=>exact(Z ht.1 e).elim
   | tau p=>exact absurd (G (c:=126) e).2.1 hc1
   | res y p=>exact absurd (G (c:=35) e).2.1 hc2
   | mat y z p=>exact absurd (G (c:=91) e).2.1 hc3
   | rep p=>exact absurd (G (c:=42) e).2.1 hc4
   | sum p q=>exact absurd (G (c:=40) e).2.1 hc5
   | par p q=>exact absurd (G (c:=40) e).2.1 hc5
 induction n with
 | zero=>exact main 0 λm hm=>by omega
 | succ n ih=>exact main (n+1) λm hm=>(show n=m by omega)▸ih
def IS:Shelf.Ren where
 f:=λx=>if x=137 then 168 else if x=217 then 210 else if x=266 then 232 else x
 t:=λx=>if x=3 then 3 else if x=5 then 5 else if x=9 then 9 else x
 g:=λx=>x
theorem G0:Lays.n137 Tryz.prog IS where
 mixed:=Eq.refl true
 f137:=KN Tryz.func168 (by kernel_rfl)
 f217:=KN Tryz.func210 (by kernel_rfl)
 f266:=KN Tryz.func232 (by kernel_rfl)
 t3:=Tryz.underlying3
 a3:=Tryz.isAgg3
 z3:=Tryz.sizeOf3
 v3:=Tryz.zeroValue3
 t5:=Tryz.underlying5
 a5:=Tryz.isAgg5
 z5:=Tryz.sizeOf5
 v5:=Tryz.zeroValue5
 t9:=Tryz.underlying9
 a9:=Tryz.isAgg9
 z9:=Tryz.sizeOf9
 v9:=Tryz.zeroValue9
theorem qn {s:Tx}{c:UInt8}{w:World}{R:Int->World->Prop}(h:R (Lib.indexByte s c) w):
  Calls Tryz.prog 168 #[.string (ab s),.int .u8 c.toNat] w (an [.i] R):=by
 refine(Any.strings_IndexByte G0 (ab s) c.toNat w).mono ?_
 rintro e w' ⟨rfl,rfl⟩
 have G:UInt8.ofNat c.toNat=c:=by simp
 have z:(Int.toNat (c.toNat:Int)).toUInt8=c:=by simp
 rw [z];exact⟨_,rfl,h⟩
abbrev Lt (t:P):Prop:=t.Al λc=>lt c=true
abbrev yQ (w:World):Nat->Prop:=λg=>w.heap.size<=g
theorem Ad {s:Tx}(hs:s.length<=1099511627776){w:World}{R:Value->Bool->World->Prop}
  (hR:∀v q w',Ex w w'->(q=true->∃t:P,Lt t/\s=t.text/\aG (yQ w) w' t v)->(q=false->∀t:P,Lt t->s≠t.text)->R v q w'):
  Calls Tryz.prog 123 #[.string (ab s)] w (an [.v,.b] R):=by
 refine tC s w R ?_;intro b w1 hb z;have Z:Ex w w1:=z▸Ex.alloc w _;have β:w1.heap.size=w.heap.size+1:=by rw [z,size_alloc]
 have h1:Rd w1 b s 0 false:=by
  refine⟨by omega,JS _,?_,?_,?_,?_,?_⟩
  ·rw [z,hb];exact aa rfl
  ·rw [z,hb];exact aa rfl
  ·rw [z,hb];exact aa rfl
  ·rw [z,hb];unfold World.frozen? World.alloc;simp
  ·rw [z,hb];unfold World.frozen? World.alloc;simp
 have hT:uC s (s.length+1):=Gi s hs (s.length+1);refine hT h1 (λ _=>by omega) λv w2 j bad k2 I hr=>?_
 refine⟨λw'=>Ex w2 w',λw3 J=>⟨J▸Ex.drew w2,bad,λw' V=>(I.same V.size (V.block b I.lt)).c2,?_⟩⟩;have W:Ex w2 w3:=J▸Ex.drew w2;have hex:Ex w w3:=by
  exact Ex.trans (Ex.below Z (Kp.below (B:=w.heap.size) k2 (by omega) (λg hg e=>by omega))) W
 refine⟨λG=>?_,λG=>?_⟩
 ·have G:bad=false:=by simpa using G
  obtain⟨_,t,ht,e,α⟩:=hr.fine G;refine⟨j,λw' V=>(I.same V.size (V.block b I.lt)).c1,hR _ _ _ hex (λhd=>?_) λhd t' H e'=>?_⟩
  ·have hd:=Jq hd;have:s.drop j=[]:=KF (by omega);rw [this,KG,JD]at e;exact⟨t,ht,e,aG.mono (λg hg=>by omega) (aG.kp (Kp.ah W λ _=>False) (λ _ _ h=>h) α)⟩
  ·have hd:=Jr hd;rw [KG]at e;have e2:t'.text++[]=t.text++s.drop j:=by rw [JD,<-e'];exact e
   obtain⟨_,e3⟩:=lv H.wf ht.wf e2;have :=List.drop_eq_nil_iff.1 e3.symm;have :=I.le;omega
 ·have G:bad=true:=by simpa using G
  refine hR _ _ _ hex (λh=>by cases h) λ _ t' H e'=>?_
  have :=hr.good rfl ⟨t',[],H,by rw [KG,JD,e']⟩;rw [G]at this;cases this
theorem mX {t:P}(H:Lt t):cZ t.text↔t.text.length<=300/\t.size<=60:=by
 constructor
 ·rintro⟨z,u,G,I,h4⟩
  have :=ef G.wf H.wf I;subst this;exact⟨z,h4⟩
 ·rintro⟨z,G⟩
  exact⟨z,t,H,rfl,G⟩
theorem zv {s:Tx}{w:World}{R:Value->Bool->World->Prop}
  (I:∀v q w',Ex w w'->(q=true->cZ s/\∃t:P,Lt t/\s=t.text/\aG (yQ w) w' t v)->(q=false->¬cZ s)->R v q w'):
  Calls Tryz.prog 79 #[.string (ab s)] w (an [.v,.b] R):=by
 refine vi s w R ?_;refine⟨λz=>?_,λz=>?_⟩
 ·have z:=Jq z;refine I _ _ _ (Ex.refl w) (λh=>by cases h) λ _ W=>?_
  have :=W.1;omega
 ·have z:=Jr z;refine Ad (by omega) λv q w' V Z h2=>⟨λJ=>?_,λJ=>?_⟩
  ·obtain⟨t,G,e,H⟩:=Z J;have hs:=bs t;refine Fu t.size (Jc _) H (by rw [<-e]at hs;omega) (I _ _ _ V (λhd=>?_) λhd=>?_)
   ·have hd:=Jq hd;exact⟨by rw [e];exact(mX G).2 ⟨by rw [<-e];omega,by omega⟩,t,G,e,H⟩
   ·have hd:=Jr hd;rw [e,mX G];omega
  ·exact I _ _ _ V (λh=>by cases h) λ _ ⟨_,t,G,e,_⟩=>h2 J t G e.symm
theorem wB {s:Tx}{w:World}{R:Bool->World->Prop}(z:∀q w',Ex w w'->(q=true↔cZ s)->R q w'):
  Calls Tryz.prog 238 #[.string (ab s)] w (an [.b] R):=by
 refine nY s w R ?_;refine zv λv q w' G H I=>z q w' G ⟨λh=>(H h).1,λh=>?_⟩
 cases q
 ·exact absurd h (I rfl)
 ·rfl
theorem EE {D:Nat->Prop}{t:P}{v:Value}{w:World}(h:aG D w t v){R:Bool->World->Prop}(z:R (decide (t.kind=63)||decide (t.kind=35)) w):
  Calls Tryz.prog 129 #[v] w (an [.b] R):=by
 refine mT v w R ?_;obtain⟨b,vs,l,rfl,I,J,H,h4,h5,V,W,Z⟩:=h.inv;refine⟨b,0,rfl,t.kind,H,λG=>⟨b,0,rfl,t.kind,H,?_⟩,λG=>?_⟩
 ·rw [G,Lq]at z;exact z
 ·rw [G,Bool.true_or]at z;exact z
def T.ev (p:P->Bool):P->Bool
 | .nil=>p .nil
 | .snd a b q=>p (.snd a b q)&&q.ev p
 | .rcv a b q=>p (.rcv a b q)&&q.ev p
 | .tau q=>p (.tau q)&&q.ev p
 | .sum q r=>p (.sum q r)&&(q.ev p&&r.ev p)
 | .par q r=>p (.par q r)&&(q.ev p&&r.ev p)
 | .res a q=>p (.res a q)&&q.ev p
 | .mat a b q=>p (.mat a b q)&&q.ev p
 | .rep q=>p (.rep q)&&q.ev p
theorem sd (p:P->Bool)(t:P):t.ev p=(p t&&t.parts.all (·.ev p)):=by cases t<;>simp [T.ev,T.parts]
def xG (f:Nat)(p:P->Bool):Prop:=dC.contains f=true/\∀{D:Nat->Prop} {t:P} {v:Value} {w:World} {R:Bool->World->Prop},aG D w t v->R (p t) w->Calls Tryz.prog f #[v] w (an [.b] R)
structure vj (w:World)(bo bh f:Nat)(q:Bool):Prop where
 lt:bo< w.heap.size
 lh:bh< w.heap.size
 ne:bh≠bo
 c:w.cell? ⟨bo,0,none⟩=some (.bool q)
 fr:w.frozen? ⟨bo,0,none⟩=false
 h:w.cell? ⟨bh,0,none⟩=some (.func (.func f) #[] #[])
theorem vj.set {w:World}{bo bh f:Nat}{q:Bool}(h:vj w bo bh f q)(x:Bool):vj (w.setCell ⟨bo,0,none⟩ (.bool x)) bo bh f x:=
 ⟨by rw [JI];exact h.lt,by rw [JI];exact h.lh,h.ne,Jk _ _ _ h.c,by rw [Jl];exact h.fr,by
  rw [I4 _ _ _ _ (by have :=h.ne;simp [this])];exact h.h⟩
theorem Hu {f:Nat}{p:P->Bool}(I:xG f p){D:Nat->Prop}{t:P}{v:Value}{w:World}{bo bh:Nat}{q:Bool}(V:aG D w t v)(z:vj w bo bh f q){R:World->Prop}
  (J:∀w',Kr bo w w'->vj w' bo bh f (q&&p t)->R w'):Calls Tryz.prog 170 #[v,ptr bo,ptr bh] w (an [] R):=by
 refine ni v _ _ w R ?_;refine⟨bo,0,rfl,q,z.c,λH=>⟨bh,0,rfl,_,z.h,f,[],rfl,I.1,I.2 V ⟨bo,0,rfl,⟨⟨_,z.c⟩,z.fr⟩,λw' G=>?_⟩⟩,λH=>⟨bo,0,rfl,⟨⟨_,z.c⟩,z.fr⟩,λw' G=>?_⟩⟩
 ·subst G;refine J _ (Kr.set w 0 _) ?_;rw [H,KO];exact z.set _
 ·subst G;refine J _ (Kr.set w 0 _) ?_;rw [H,Mi];exact z.set _
theorem Ge {f:Nat}{p:P->Bool}(hp:xG f p):∀(n:Nat) {D:Nat->Prop} {t:P} {v:Value} {w:World} {bo bh:Nat} {q:Bool},t.size<=n->aG D w t v->(∀g,D g->¬g=bo)->vj w bo bh f q->∀{R:World->Prop},
  (∀w',Kr bo w w'->vj w' bo bh f (q&&t.ev p)->R w')->Calls Tryz.prog 169 #[v,.func (.func 170) #[] #[ptr bo,ptr bh]] w (an [] R):=by
 intro n
 induction n with
 | zero=>intro D t v w _ _ _ h;have :=aZ t;omega
 | succ n ih=>
  intro D t v w bo bh q hn ht I hs R hR;refine oN v _ w R ?_;refine⟨170,[ptr bo,ptr bh],rfl,by kernel_rfl,?_⟩;refine Hu hp ht hs λw1 k1 h1=>?_
  have J:=aG.kp k1 I ht;obtain⟨b,vs,l,rfl,g1,g2,g3,g4,g5,g6,g7,g8⟩:=J.inv;obtain⟨a,cap,hv⟩:=g7.slice;have e:=rD t;refine⟨b,0,rfl,vs,g6,a,_,cap,hv,λx w'=>∃i:Nat,x=i/\i<=l.length/\Kr bo w w'/\Kr bo w1 w'/\vj w' bo bh f ((q&&p t)&&(t.parts.take i).all (·.ev p)),λx _=>(l.length - x).toNat,⟨0,rfl,by omega,k1,Kr.refl _ _,by simpa using h1⟩,λx w2 hI=>?_⟩;obtain⟨i,rfl,hi,k2,V,W⟩:=hI;refine⟨λH=>?_,λH=>?_⟩
  ·have H:=Jq H;have z:i< l.length:=by omega
   have G:i< t.parts.length:=by rw [<-g8.1];exact z
   refine(g7.kp V I).get (i:=i) (x:=l[i]) (by omega) (by simp [z]) ?_;have Z:=g8.2 i _ _ (IY z) (IY G);have Z:=aG.kp V I Z;obtain⟨α,β⟩:=ub T.size t.parts G;have γ:=dL t;refine ih (by omega) Z I W λw4 k4 h4=>⟨by unfold aj;omega,⟨i+1,by omega,by omega,Kr.trans k2 k4,Kr.trans V k4,?_⟩,by dsimp only;omega⟩
   rw [Jb G,Lm,<-Mj];simpa using h4
  ·have H:=Jr H;have:i=t.parts.length:=by rw [<-g8.1];omega
   subst this;rw [Jy,Mj,<-sd]at W;exact hR _ k2 W
theorem FT {f:Nat}{p:P->Bool}(hp:xG f p){D:Nat->Prop}{t:P}{v:Value}{w:World}(ht:aG D w t v)(hD:∀g,D g->g< w.heap.size){R:Bool->World->Prop}(hR:∀w',Ex w w'->R (t.ev p) w'):
  Calls Tryz.prog 126 #[v,.func (.func f) #[] #[]] w (an [.b] R):=by
 refine pC v _ w R ?_;refine⟨rfl,λb1 w1 J G b2 w2 H z=>?_⟩;have x1:Ex w w1:=G▸Ex.alloc w _;have V:Ex w1 w2:=z▸Ex.alloc w1 _;have s1:w1.heap.size=w.heap.size+1:=by rw [G,size_alloc]
 have s2:w2.heap.size=w1.heap.size+1:=by rw [z,size_alloc]
 have c2:w2.cell? ⟨b2,0,none⟩=some (.bool false):=by rw [z,H];exact aa rfl
 have f2:w2.frozen? ⟨b2,0,none⟩=false:=by rw [z,H];unfold World.frozen? World.alloc;simp
 have c1:w2.cell? ⟨b1,0,none⟩=some (.func (.func f) #[] #[]):=by
  rw [V.cell (show b1< _ by omega),G,J];exact aa rfl
 have hA:vj w2 b2 b1 f false:=⟨by omega,by omega,by omega,c2,f2,c1⟩
 refine⟨⟨⟨_,c2⟩,f2⟩,λw3 W=>?_⟩;subst W;have Z:aG D w2 t v:=aG.kp (Kp.ah (Ex.trans x1 V) λ _=>False) (λ _ _ h=>h) ht;have I:∀g,D g->¬g=b2:=λg hg e=>by have :=hD g hg;omega
 have α:aG D (w2.setCell ⟨b2,0,none⟩ (.bool true)) t v:=aG.kp (Kr.set w2 0 _) I Z;refine Ge hp t.size (Jc _) α I (hA.set true) λw4 k4 h4=>⟨_,h4.c,?_⟩
 rw [KO];exact hR w4 (Ex.below (Ex.trans x1 V) (Kp.below (B:=w.heap.size) (Kr.trans (Kr.set w2 0 _) k4) (by omega) λg hg e=>by omega))
def T.gd1:P->Bool
 | .sum p q=>p.gp&&q.gp
 | _=>true
def T.rp1:P->Bool
 | .rep p=>p.isR
 | _=>true
theorem dZ:∀t:P,t.smp=(t.ev T.gd1&&t.ev T.rp1)
 | .nil=>rfl
 | .snd _ _ p=>by have :=dZ p;simp [T.smp,T.ev,T.gd1,T.rp1,this]
 | .rcv _ _ p=>by have :=dZ p;simp [T.smp,T.ev,T.gd1,T.rp1,this]
 | .tau p=>by have :=dZ p;simp [T.smp,T.ev,T.gd1,T.rp1,this]
 | .res _ p=>by have :=dZ p;simp [T.smp,T.ev,T.gd1,T.rp1,this]
 | .mat _ _ p=>by have :=dZ p;simp [T.smp,T.ev,T.gd1,T.rp1,this]
 | .rep p=>by have :=dZ p;simp only [T.smp,T.ev,T.gd1,T.rp1,this,KO];cases p.isR<;>simp
 | .par p q=>by have :=dZ p;have h:=dZ q;simp only [T.smp,T.ev,T.gd1,T.rp1,this,h,KO];ac_rfl
 | .sum p q=>by have :=dZ p;have h:=dZ q;simp only [T.smp,T.ev,T.gd1,T.rp1,this,h,KO];ac_rfl
theorem Ct (t:P):decide (0<=Lib.indexByte [33,63,126,43,48] t.kind)=t.gp:=by cases t<;>rfl
theorem yT:xG 167 T.gd1:=by
 refine⟨by kernel_rfl,λ{D t v w R} I z=>?_⟩;refine jJ v w R ?_;obtain⟨b,vs,l,rfl,g1,g2,g3,g4,g5,g6,g7,g8⟩:=I.inv;refine⟨b,0,rfl,_,g3,λH=>?_,λH=>?_⟩
 ·obtain⟨p,q,rfl⟩:∃p q,t= .sum p q:=by cases t<;>simp [T.kind]at H|-
  have J:l.length=2:=g8.1;obtain⟨x,y,rfl⟩:∃x y,l=[x,y]:=by
   match l,J with
   | [x,y],_=>exact⟨x,y,rfl⟩
  have V:=g8.2 0 x p rfl rfl;have W:=g8.2 1 y q rfl rfl;obtain⟨b1,_,_,Z,_,_,i1,_⟩:=V.inv;obtain⟨b2,_,_,e2,_,_,i2,_⟩:=W.inv;refine⟨b,0,rfl,vs,g6,g7.get (i:=0) (x:=x) (by omega) rfl ⟨b1,0,Z,_,i1,qn ⟨λG=>⟨b,0,rfl,vs,g6,g7.get (i:=1) (x:=y) (by omega) rfl ⟨b2,0,e2,_,i2,qn ?_⟩⟩,λG=>?_⟩⟩⟩
  ·rw [Ct]at G|-;rw [T.gd1,G]at z;exact z
  ·rw [Ct]at G;rw [T.gd1,G]at z;exact z
 ·have:T.gd1 t=true:=by cases t<;>first | rfl | simp [T.kind]at H
  rw [this]at z;exact z
theorem A1:xG 127 T.rp1:=by
 refine⟨by kernel_rfl,λ{D t v w R} H z=>?_⟩;refine kf v w R ?_;obtain⟨b,vs,l,rfl,g1,g2,g3,g4,g5,g6,g7,g8⟩:=H.inv;refine⟨b,0,rfl,_,g3,λG=>?_,λG=>?_⟩
 ·obtain⟨p,rfl⟩:∃p,t= .rep p:=by cases t<;>simp [T.kind]at G|-
  have I:l.length=1:=g8.1;obtain⟨x,rfl⟩:∃x,l=[x]:=by
   match l,I with
   | [x],_=>exact⟨x,rfl⟩
  have J:=g8.2 0 x p rfl rfl;obtain⟨b1,_,_,V,_,_,i1,_⟩:=J.inv;refine⟨b,0,rfl,vs,g6,g7.get (i:=0) (x:=x) (by omega) rfl ⟨b1,0,V,_,i1,?_⟩⟩;have:decide (p.kind=63)=p.isR:=by cases p<;>rfl
  show R (decide (p.kind=63)) _;rw [this];exact z
 ·have:T.rp1 t=true:=by cases t<;>first | rfl | simp [T.kind]at G
  rw [this]at z;exact z
theorem xD {D:Nat->Prop}{t:P}{v:Value}{w:World}(H:aG D w t v)(I:∀g,D g->g< w.heap.size){R:Bool->World->Prop}(J:∀w',Ex w w'->R t.smp w'):
  Calls Tryz.prog 80 #[v] w (an [.b] R):=by
 refine mo v w R ?_;refine kO v w _ ?_;refine FT yT H I λw1 z=>⟨λG=>?_,λG=>?_⟩
 ·refine FT A1 (aG.kp (Kp.ah z λ _=>False) (λ _ _ h=>h) H) (λg V=>by have :=I g V;have :=z.size;omega) λw2 W=>?_
  have :=J w2 (Ex.trans z W);rw [dZ,G,KO]at this;exact this
 ·have :=J w1 z;rw [dZ,G,Mi]at this;exact this
theorem aG.bound {D:Nat->Prop}{w:World}:∀{t:P} {v:Value},aG D w t v->aG (λg=>D g/\g< w.heap.size) w t v:=by
 have key:∀{v:Value} {k a c:UInt8} {K V:List Value->Prop},eY D w v k a c K->(∀l,K l->V l)->eY (λg=>D g/\g< w.heap.size) w v k a c V:=by
  rintro v k a c K V ⟨b,vs,l,z,G,J,h4,h5,W,Z,h8,h9⟩ hK
  refine⟨b,vs,l,z,⟨G,J⟩,J,h4,h5,W,Z,?_,hK l h9⟩;rcases h8 with h | ⟨b',off,cap,i1,i2,i3,i4⟩
  ·exact .inl h
  ·exact .inr ⟨b',off,cap,i1,⟨i2,i3⟩,i3,i4⟩
 intro t
 induction t with
 | nil=>exact λh=>key h λ _ h=>h
 | snd _ _ p H=>exact λh=>key h λ _ ⟨x,z,G⟩=>⟨x,z,H G⟩
 | rcv _ _ p H=>exact λh=>key h λ _ ⟨x,z,G⟩=>⟨x,z,H G⟩
 | tau p H=>exact λh=>key h λ _ ⟨x,z,G⟩=>⟨x,z,H G⟩
 | res _ p H=>exact λh=>key h λ _ ⟨x,z,G⟩=>⟨x,z,H G⟩
 | mat _ _ p H=>exact λh=>key h λ _ ⟨x,z,G⟩=>⟨x,z,H G⟩
 | rep p H=>exact λh=>key h λ _ ⟨x,z,G⟩=>⟨x,z,H G⟩
 | sum p q H I=>exact λh=>key h λ _ ⟨x,y,z,G,J⟩=>⟨x,y,z,H G,I J⟩
 | par p q H I=>exact λh=>key h λ _ ⟨x,y,z,G,J⟩=>⟨x,y,z,H G,I J⟩
theorem uN {s:Tx}{w:World}{R:Value->Bool->World->Prop}
  (V:∀v q w',Ex w w'->(q=true->cZ s/\∃t:P,Lt t/\s=t.text/\t.smp=true/\aG (yQ w) w' t v)->(q=false->∀t:P,cZ s->Lt t->s=t.text->t.smp=false)->R v q w'):
  Calls Tryz.prog 67 #[.string (ab s)] w (an [.v,.b] R):=by
 refine mZ s w R ?_;refine zv λv q w1 W h1 h2=>⟨λH=>?_,λH=>?_⟩
 ·obtain⟨z,t,Z,e,G⟩:=h1 H;refine xD G.bound (λg z=>z.2) λw2 x2=>V _ _ _ (Ex.trans W x2) (λI=>⟨z,t,Z,e,I,?_⟩) λI t' _ J e'=>?_
  ·exact aG.kp (Kp.ah x2 λ _=>False) (λ _ _ h=>h) G
  ·have :=ef J.wf Z.wf (e'.symm.trans e);subst this;exact I
 ·exact V _ _ _ W (λh=>by cases h) λ _ t z _ _=>absurd z (h2 H)
end Go.Proofs.YtdecokaadekjnaaGreat
namespace Go.Proofs.YtdecokaadekjnaaGreat
open Go
set_option maxRecDepth 100000
theorem oC (w:World)(R:Value->World->Prop)(h:aQ w (.cells #[(.int .i64 0),(.int .i64 0),(.int .i64 0),(.int .i64 0),(.int .i64 0),(.int .i64 0),(.int .i64 0),(.int .i64 0),(.int .i64 0),(.int .i64 0),(.int .i64 0),(.int .i64 0),(.int .i64 0),(.int .i64 0),(.int .i64 0),(.int .i64 0),(.int .i64 0),(.int .i64 0),(.int .i64 0),(.int .i64 0),(.int .i64 0),(.int .i64 0),(.int .i64 0),(.int .i64 0),(.int .i64 0),(.int .i64 0)] 150) λb1 w2=>aQ w2 (.cells #[(.int .i64 0),(.int .i64 0),(.int .i64 0),(.int .i64 0),(.int .i64 0),(.int .i64 0),(.int .i64 0),(.int .i64 0),(.int .i64 0),(.int .i64 0),(.int .i64 0),(.int .i64 0),(.int .i64 0),(.int .i64 0),(.int .i64 0),(.int .i64 0),(.int .i64 0),(.int .i64 0),(.int .i64 0),(.int .i64 0),(.int .i64 0),(.int .i64 0),(.int .i64 0),(.int .i64 0),(.int .i64 0),(.int .i64 0)] 150) λb3 Z=>vf Z b3 0 26 [(.int .i64 0),(.int .i64 0),(.int .i64 0),(.int .i64 0),(.int .i64 0),(.int .i64 0),(.int .i64 0),(.int .i64 0),(.int .i64 0),(.int .i64 0),(.int .i64 0),(.int .i64 0),(.int .i64 0),(.int .i64 0),(.int .i64 0),(.int .i64 0),(.int .i64 0),(.int .i64 0),(.int .i64 0),(.int .i64 0),(.int .i64 0),(.int .i64 0),(.int .i64 0),(.int .i64 0),(.int .i64 0),(.int .i64 0)] λw5=>fY 0 w5 λI6 W z V=>ai (decide (z< 26)) ((0<=(z:Int)/\(z:Int)< (26:Nat))/\bf V b3 (0+z.toNat* 1) (.int .i64 z) λI=>aj (z+1)/\I6 (z+1) I/\W (z+1) I< W z V) (∃G:List Value,G.length=26/\(∀j,j< 26->World.cell? V ⟨b3,0+j,none⟩=G[j]?)/\vf V b1 0 26 G λJ=>∃H:List Value,H.length=26/\(∀j,j< 26->World.cell? J ⟨b1,0+j,none⟩=H[j]?)/\R ((.agg (List.toArray H))) J)):
  Calls Tryz.prog 138 #[] w (an [.v] R):=
 a7 (a8 [(3,[(4,.i)])] [] []) [.agg 0 150] [] Tryz.func138 (by kernel_rfl) h
theorem lu (z:Value)(w:World)(R:Int->World->Prop)(h:az z λb2 V=>pb w b2 (V+0) λI=>aj (I+1)/\az z λb5 W=>bf w b5 (W+0) (.int .i64 (I+1)) λJ=>az z λb9 H=>pb J b9 (H+0) λG=>aj (G+100)/\R (G+100) J):
  Calls Tryz.prog 178 #[z] w (an [.i] R):=
 a7 (a8 [] [] []) [.tmp 2 .i] [.v z] Tryz.func178 (by kernel_rfl) h
theorem kZ (z:Value)(W:Value)(w:World)(R:World->Prop)(h:bH w λG w4=>az z λb5 o6=>ck G b5 (o6+0) λv7=>az W λb8 o9=>ck G b8 (o9+0) λv10=>az z λZ α=>ck G Z (α+1) λβ=>az W λγ δ=>ck G γ (δ+1) λε=>fc 3 1 8 w4 v7 v10 λH I=>G I/\fc 156 1 8 I β ε λJ V=>G V/\az z λζ η=>oneV H=true/\bf V ζ (η+0) H λθ=>az z λι κ=>oneV J=true/\bf θ ι (κ+1) J λμ=>R μ):
  Calls Tryz.prog 179 #[z,W] w (an [] R):=
 a7 (a8 [] [] [0]) [] [.v z,.v W] Tryz.func179 (by kernel_rfl) h
theorem nM (m1:Value)(t2:Value)(e3:Value)(w:World)(R:Value->World->Prop)(h:∃c4:List Value,e3= .agg (List.toArray c4)/\aQ w (.cells (List.toArray c4) 150) λb5 w6=>az t2 λb7 o8=>fT w6 b7 (o8+0) λc9=>aQ w6 (.cells #[(.int .u8 c9.toNat),(.int .i64 0),(.int .i64 0),(.pointer none),(.slice none 0 0)] 201) λb10 J=>∃ο:World->Prop,(az t2 λb13 o14=>fT J b13 (o14+1) λc15=>ai (!decide (c15=0)) (az t2 λb16 o17=>fT J b16 (o17+1) λc18=>(0<=((UInt8.toNat (c18 - 97:UInt8):Int):Int)/\((UInt8.toNat (c18 - 97:UInt8):Int):Int)< (26:Nat))/\pb J b5 (0+Int.toNat (UInt8.toNat (c18 - 97:UInt8):Int)* 1) λn19=>bf J b10 1 (.int .i64 n19) λw21=>ο w21) (ο J))/\∀(w22:World),ο w22->∃ς:World->Prop,(bO 129 #[t2] w22 λq24 w25=>ai q24 (bH w25 λS26 w27=>az t2 λb28 o29=>Hz S26 b28 (o29+2) λc30=>eW 178 #[m1] w27 λn31 ga=>S26 ga/\(0<=((UInt8.toNat (c30 - 97:UInt8):Int):Int)/\((UInt8.toNat (c30 - 97:UInt8):Int):Int)< (26:Nat))/\bf ga b5 (0+Int.toNat (UInt8.toNat (c30 - 97:UInt8):Int)* 1) (.int .i64 n31) λw34=>ς w34) (ς w25))/\∀(I:World),ς I->∃υ:World->Prop,(az t2 λb37 o38=>fT I b37 (o38+2) λc39=>ai (!decide (c39=0)) (az t2 λb40 o41=>fT I b40 (o41+2) λφ=>(0<=((UInt8.toNat (φ - 97:UInt8):Int):Int)/\((UInt8.toNat (φ - 97:UInt8):Int):Int)< (26:Nat))/\pb I b5 (0+Int.toNat (UInt8.toNat (φ - 97:UInt8):Int)* 1) λn43=>bf I b10 2 (.int .i64 n43) λw45=>υ w45) (υ I))/\∀(w46:World),υ w46->aQ w46 (.cells #[(.slice none 0 0),(.slice none 0 0)] 155) λb47 G=>∃χ:World->Prop,(az t2 λb50 o51=>fT G b50 (o51+0) λδ=>ai (decide (δ=48)) (R ((.pointer (some ⟨b47,0,none⟩))) G) (ai (decide (δ=38)) (bH G λV w54=>az t2 λb55 o56=>ck V b55 (o56+3) λv57=>aF v57 0 λb58 o59=>ck V b58 (o59+Int.toNat 0* 1) λv62=>∃ψ:List Value,ψ.length=26/\(∀w',V w'->∀j,j< 26->World.cell? w' ⟨b5,0+j,none⟩=ψ[j]?)/\ch 137 #[m1,v62,(.agg (List.toArray ψ))] w54 λv64 w65=>V w65/\fC 179 #[(.pointer (some ⟨b47,0,none⟩)),v64] w65 λw66=>V w66/\bH w66 λW w68=>az t2 λb69 o70=>ck W b69 (o70+3) λv71=>aF v71 1 λb72 o73=>ck W b72 (o73+Int.toNat 1* 1) λv76=>∃ω:List Value,ω.length=26/\(∀w',W w'->∀j,j< 26->World.cell? w' ⟨b5,0+j,none⟩=ω[j]?)/\ch 137 #[m1,v76,(.agg (List.toArray ω))] w68 λv78 w79=>W w79/\fC 179 #[(.pointer (some ⟨b47,0,none⟩)),v78] w79 λw80=>W w80/\R ((.pointer (some ⟨b47,0,none⟩))) w80) (ai (decide (δ=35)) (pb G b10 2 λn81=>aQ G (.cells #[(.int .i64 n81)] 3) λb82 w83=>oneV (.slice (some ⟨b82,0,none⟩) 1 1)=true/\bf w83 b47 0 (.slice (some ⟨b82,0,none⟩) 1 1) λw85=>bH w85 λZ w87=>az t2 λb88 o89=>ck Z b88 (o89+3) λv90=>aF v90 0 λb91 o92=>ck Z b91 (o92+Int.toNat 0* 1) λv95=>∃c96:List Value,c96.length=26/\(∀w',Z w'->∀j,j< 26->World.cell? w' ⟨b5,0+j,none⟩=c96[j]?)/\ch 137 #[m1,v95,(.agg (List.toArray c96))] w87 λv97 w98=>Z w98/\fC 179 #[(.pointer (some ⟨b47,0,none⟩)),v97] w98 λw99=>Z w99/\R ((.pointer (some ⟨b47,0,none⟩))) w99) (ai (decide (δ=43)) (bH G λz w101=>az t2 λb102 o103=>ck z b102 (o103+3) λv104=>aF v104 0 λb105 o106=>ck z b105 (o106+Int.toNat 0* 1) λv109=>∃α:List Value,α.length=26/\(∀w',z w'->∀j,j< 26->World.cell? w' ⟨b5,0+j,none⟩=α[j]?)/\az t2 λb111 o112=>ck z b111 (o112+3) λv113=>aF v113 1 λb114 o115=>ck z b114 (o115+Int.toNat 1* 1) λv118=>∃β:List Value,β.length=26/\(∀w',z w'->∀j,j< 26->World.cell? w' ⟨b5,0+j,none⟩=β[j]?)/\ch 137 #[m1,v109,(.agg (List.toArray α))] w101 λε ζ=>z ζ/\ch 137 #[m1,v118,(.agg (List.toArray β))] ζ λη θ=>z θ/\oneV ε=true/\oneV η=true/\aQ θ (.cells #[ε,η] 146) λι κ=>z κ/\oneV (.slice (some ⟨ι,0,none⟩) 2 2)=true/\bf κ b10 4 (.slice (some ⟨ι,0,none⟩) 2 2) λw127=>χ w127) (bH G λH w129=>az t2 λb130 o131=>ck H b130 (o131+3) λv132=>aF v132 0 λb133 o134=>ck H b133 (o134+Int.toNat 0* 1) λv137=>∃γ:List Value,γ.length=26/\(∀w',H w'->∀j,j< 26->World.cell? w' ⟨b5,0+j,none⟩=γ[j]?)/\ch 137 #[m1,v137,(.agg (List.toArray γ))] w129 λv139 μ=>H μ/\oneV v139=true/\bf μ b10 3 v139 λw142=>χ w142)))))/\∀(ν:World),χ ν->aQ ν (.cells #[(.pointer (some ⟨b10,0,none⟩))] 156) λξ w145=>oneV (.slice (some ⟨ξ,0,none⟩) 1 1)=true/\bf w145 b47 1 (.slice (some ⟨ξ,0,none⟩) 1 1) λw147=>R ((.pointer (some ⟨b47,0,none⟩))) w147):
  Calls Tryz.prog 137 #[m1,t2,e3] w (an [.v] R):=
 a7 (a8 [] [(4,[]),(6,[]),(8,[]),(23,[])] [5,10,14,15,19,22]) [.tmp 6 .v] [.v m1,.v t2,.v e3] Tryz.func137 (by kernel_rfl) h
end Go.Proofs.YtdecokaadekjnaaGreat
namespace Go.Proofs.YtdecokaadekjnaaGreat
open Go Go.RowKit
abbrev iv (n:Nat):Value:= .int .i64 n
def K.byte:K->UInt8
 | .s=>33 | .r=>63 | .t=>126 | .m=>61 | .p=>42
theorem dW.sub {D E:Nat->Prop}{w:World}{v:Value}{l:List Value}(h:dW D w v l)(hd:∀g,g< w.heap.size->D g->E g):dW E w v l:=by
 rcases h with h | ⟨b,off,cap,G,H,z,h4⟩
 ·exact .inl h
 ·exact .inr ⟨b,off,cap,G,hd b z H,z,h4⟩
def fS (D:Nat->Prop)(w:World)(v:Value)(o:List Nat)(K:List Value->Prop):Prop:=
 ∃b vo vt ts,v=ptr b/\D b/\b< w.heap.size/\w.cell? ⟨b,0,none⟩=some vo/\w.cell? ⟨b,1,none⟩=some vt/\dW D w vo (o.map iv)/\dW D w vt ts/\K ts
def D3 (D:Nat->Prop)(w:World)(v:Value)(k:UInt8)(a b:Nat)(vr vp:Value):Prop:=
 ∃g,v=ptr g/\D g/\g< w.heap.size/\w.cell? ⟨g,0,none⟩=some (.int .u8 k.toNat)/\w.cell? ⟨g,1,none⟩=some (iv a)/\w.cell? ⟨g,2,none⟩=some (iv b)/\w.cell? ⟨g,3,none⟩=some vr/\w.cell? ⟨g,4,none⟩=some vp
def af (D:Nat->Prop)(w:World):Lv->List Value->Prop
 | .nil,ts=>ts=[]
 | .thr k a b o r n,ts=>∃t z a' G vr,ts=t::z/\D3 D w t k.byte a' G vr (.slice none 0 0)/\(k= .t\/k= .p\/(a'=a/\G=b))/\fS D w vr o (af D w r)/\af D w n z
 | .sum H n,ts=>∃t z a' G vp us,ts=t::z/\D3 D w t 43 a' G (.pointer none) vp/\dW D w vp us/\af D w H us/\af D w n z
 | .part o q n,ts=>∃v z,ts=v::z/\fS D w v o (af D w q)/\af D w n z
def aB (D:Nat->Prop)(w:World)(L:List Nat×Lv)(v:Value):Prop:=fS D w v L.1 (af D w L.2)
section
variable {D E S:Nat->Prop} {w w':World}
theorem fS.kp {v:Value}{o:List Nat}{K G:List Value->Prop}(h:fS D w v o K)(k:Kp w w' S)(z:∀g,D g->¬S g)(J:∀l,K l->G l):fS D w' v o G:=by
 obtain⟨b,vo,vt,ts,V,H,I,h4,h5,W,Z,h8⟩:=h;have hb:=k.block b I (z b H);refine⟨b,vo,vt,ts,V,H,Jt I k.size,?_,?_,W.kp k z,Z.kp k z,J _ h8⟩<;>rw [IX (w:=w) hb]<;>assumption
theorem fS.sub {v:Value}{o:List Nat}{K z:List Value->Prop}(h:fS D w v o K)(hd:∀g,g< w.heap.size->D g->E g)(H:∀l,K l->z l):fS E w v o z:=by
 obtain⟨b,vo,vt,ts,I,J,G,h4,h5,V,W,Z⟩:=h;exact⟨b,vo,vt,ts,I,hd b G J,G,h4,h5,V.sub hd,W.sub hd,H _ Z⟩
theorem D3.kp {v:Value}{k:UInt8}{a b:Nat}{vr vp:Value}(h:D3 D w v k a b vr vp)(kp:Kp w w' S)(H:∀g,D g->¬S g):D3 D w' v k a b vr vp:=by
 obtain⟨g,I,z,G,h4,h5,J,V,W⟩:=h;have hb:=kp.block g G (H g z);refine⟨g,I,z,Jt G kp.size,?_,?_,?_,?_,?_⟩<;>rw [IX (w:=w) hb]<;>assumption
theorem D3.sub {v:Value}{k:UInt8}{a b:Nat}{vr vp:Value}(h:D3 D w v k a b vr vp)(hd:∀g,g< w.heap.size->D g->E g):D3 E w v k a b vr vp:=by
 obtain⟨g,G,H,z,h4,h5,I,J,V⟩:=h;exact⟨g,G,hd g z H,z,h4,h5,I,J,V⟩
theorem af.kp (k:Kp w w' S)(z:∀g,D g->¬S g):∀{l:Lv} {ts:List Value},af D w l ts->af D w' l ts
 | .nil,_,h=>h
 | .thr _ _ _ _ r n,_,⟨t,G,a',V,vr,H,I,J,h4,h5⟩=>⟨t,G,a',V,vr,H,I.kp k z,J,h4.kp k z λ _ h=>af.kp k z (l:=r) h,af.kp k z (l:=n) h5⟩
 | .sum W n,_,⟨t,G,a',V,vp,us,H,I,J,h4,h5⟩=>⟨t,G,a',V,vp,us,H,I.kp k z,J.kp k z,af.kp k z (l:=W) h4,af.kp k z (l:=n) h5⟩
 | .part o q n,_,⟨v,G,H,I,J⟩=>⟨v,G,H,I.kp k z λ _ h=>af.kp k z (l:=q) h,af.kp k z (l:=n) J⟩
theorem af.sub (hd:∀g,g< w.heap.size->D g->E g):∀{l:Lv} {ts:List Value},af D w l ts->af E w l ts
 | .nil,_,h=>h
 | .thr _ _ _ _ r n,_,⟨t,z,a',J,vr,G,H,I,h4,h5⟩=>⟨t,z,a',J,vr,G,H.sub hd,I,h4.sub hd λ _ h=>af.sub hd (l:=r) h,af.sub hd (l:=n) h5⟩
 | .sum V n,_,⟨t,z,a',J,vp,us,G,H,I,h4,h5⟩=>⟨t,z,a',J,vp,us,G,H.sub hd,I.sub hd,af.sub hd (l:=V) h4,af.sub hd (l:=n) h5⟩
 | .part o q n,_,⟨v,z,G,H,I⟩=>⟨v,z,G,H.sub hd λ _ h=>af.sub hd (l:=q) h,af.sub hd (l:=n) I⟩
theorem aB.kp {L:List Nat×Lv}{v:Value}(h:aB D w L v)(k:Kp w w' S)(z:∀g,D g->¬S g):aB D w' L v:=fS.kp h k z λ _ h=>af.kp k z h
theorem aB.sub {L:List Nat×Lv}{v:Value}(h:aB D w L v)(hd:∀g,g< w.heap.size->D g->E g):aB E w L v:=fS.sub h hd λ _ h=>af.sub hd h
theorem aB.ex {L:List Nat×Lv}{v:Value}(h:aB D w L v)(x:Ex w w'):aB D w' L v:=h.kp (Kp.ah x λ _=>False) λ _ _ h=>h
theorem af.ex {l:Lv}{ts:List Value}(h:af D w l ts)(x:Ex w w'):af D w' l ts:=af.kp (Kp.ah x λ _=>False) (λ _ _ h=>h) h
theorem af.app:∀{l m:Lv} {ts us:List Value},af D w l ts->af D w m us->af D w (l.app m) (ts++us)
 | .nil,_,_,_,h,G=>by cases h;exact G
 | .thr _ _ _ _ r n,_,_,_,⟨t,z,a',V,vr,H,I,J,h4,h5⟩,G=>⟨t,z++_,a',V,vr,by rw [H];rfl,I,J,h4,af.app (l:=n) h5 G⟩
 | .sum W n,_,_,_,⟨t,z,a',V,vp,us,H,I,J,h4,h5⟩,G=>⟨t,z++_,a',V,vp,us,by rw [H];rfl,I,J,h4,af.app (l:=n) h5 G⟩
 | .part o q n,_,_,_,⟨v,z,H,I,J⟩,G=>⟨v,z++_,by rw [H];rfl,I,af.app (l:=n) J G⟩
theorem af.len:∀{l:Lv} {ts:List Value},af D w l ts->ts.length=l.len
 | .nil,_,h=>by cases h;rfl
 | .thr _ _ _ _ r n,_,⟨t,z,a',J,vr,G,I,H,h4,h5⟩=>by rw [G,IW,af.len (l:=n) h5,Lv.len]
 | .sum V n,_,⟨t,z,a',J,vp,us,G,I,H,h4,h5⟩=>by rw [G,IW,af.len (l:=n) h5,Lv.len]
 | .part o q n,_,⟨v,z,G,I,H⟩=>by rw [G,IW,af.len (l:=n) H,Lv.len]
end
def aI (e:Nat)(B:Nat)(w:World)(v:Value)(l:List Value):Prop:=w.ownsRow B e 1 v l.length l
theorem aI.nil (e B:Nat)(w:World):aI e B w (.slice none 0 0) []:=World.ownsRow_nil _ _ _ _
theorem aI.block {e B:Nat}{w:World}{v:Value}{l:List Value}(h:aI e B w v l):∀b,v.ownBlock=some b->B<=b/\b< w.heap.size:=L5 h
theorem aI.mono {e B z:Nat}{w:World}{v:Value}{l:List Value}(h:aI e B w v l)(hb:z<=B):aI e z w v l:=Me h hb
theorem aI.kp {e B:Nat}{w w':World}{S:Nat->Prop}{v:Value}{l:List Value}(h:aI e B w v l)(k:Kp w w' S)(G:∀g,v.ownBlock=some g->¬S g):aI e B w' v l:=by
 refine⟨h.1,?_⟩;rcases h.2 with H | ⟨g,cap,cur,rfl,hb,z,rest⟩
 ·exact .inl H
 ·exact .inr ⟨g,cap,cur,rfl,hb,by rw [k.block g (JM.1 z).1 (G g rfl)];exact z,rest⟩
theorem aI.Bo {e B:Nat}{w:World}{v:Value}{l:List Value}(h:aI e B w v l){D:Nat->Prop}(H:∀g,v.ownBlock=some g->D g):dW D w v l:=by
 rcases h.2 with⟨rfl,I⟩ | ⟨g,cap,cur,rfl,hb,z,V,W,Z,h4⟩
 ·exact .inl ⟨rfl,Jv I⟩
 ·refine .inr ⟨g,0,cap,rfl,H g rfl,(JM.1 z).1,λi x G=>?_⟩;unfold World.cell?;simp only [z,JC];have e:=Ka (λl=>l[i]?) h4;obtain⟨J,_⟩:=JT.1 G;simp only [JE,Lh,J,KU,G]at e;rw [<-KK];exact e
theorem aI.one {e:Nat}{w w':World}{B b:Nat}{x:Value}(hB:B<=w.heap.size)(hb:b=w.heap.size)(h:w'=w.alloc (.cells #[x] e)):aI e B w' (.slice (some ⟨b,0,none⟩) 1 1) [x]:=by
 subst hb h;refine⟨rfl,.inr ⟨_,1,#[x],rfl,hB,?_,by simp,by unfold maxLen;omega,rfl,rfl⟩⟩;unfold World.alloc;simp
theorem aI.push {e B by_:Nat}{w:World}{v:Value}{l:List Value}(h:aI e B w v l)(hB:B<=w.heap.size){D:Nat->Prop}{x:Value}{m:List Value}(G:dW D w x m)(hm:m.all oneV=true)(z:by_<=16)(H:l.length+m.length<=1099511627776){K:Value->World->Prop}
  (I:∀v' w',aI e B w' v' (l++m)->w.grownBy w' v.ownBlock->(∀b,v'.ownBlock=some b->v.ownBlock=some b\/w.heap.size<=b)->K v' w'):
  ∃(base n k:Nat) (xs news:List Value),World.ownsRow w base e 1 v n xs/\base<=Array.size (World.heap w)/\dK w x k 1 news/\(n+k<=maxLen/\(n+k)* by_<=140737488355328)/\
   ∀(v':Value) (w':World),World.ownsRow w' base e 1 v' (n+k) (xs++news)->World.grownBy w w' (Value.ownBlock v)->(∀b:Nat,Value.ownBlock v'=some b->Value.ownBlock v=some b\/Array.size (World.heap w)<=b)->K v' w':=by
 refine⟨B,l.length,m.length,l,m,h,hB,?_,⟨by unfold maxLen;omega,?_⟩,λv' w' J V hw=>I v' w' ?_ V hw⟩
 ·refine⟨by simp,hm,?_⟩;rcases G with⟨rfl,rfl⟩ | ⟨b,off,cap,rfl,_,hb,W⟩
  ·exact .inl ⟨rfl,rfl⟩
  ·exact .inr ⟨b,off,cap,rfl,W⟩
 ·have:(l.length+m.length)* by_<=1099511627776* 16:=Mh H z;omega
 ·unfold aI;rw [I'];exact J
theorem Kp.aR {w w':World}{row:Option Nat}{S:Nat->Prop}(z:w.grownBy w' row)(hr:∀g,row=some g->S g):Kp w w' S:=
 ⟨z.os,z.tape,z.output,z.size,λg G H=>z.block g G λe=>H (hr g e.symm)⟩
theorem Kp.mono {w w':World}{S T:Nat->Prop}(z:∀g,S g->T g)(h:Kp w w' S):Kp w w' T:=⟨h.os,h.tape,h.output,h.size,λg G H=>h.block g G λe=>H (z g e)⟩
structure jW (B:Nat)(w:World)(b:Nat)(o:List Nat)(ts:List Value)(M:Nat->Prop):Prop where
 lt:b< w.heap.size
 le:B<=b
 mb:M b
 mr:∀g,M g->B<=g/\g< w.heap.size
 fr:∀j,w.frozen? ⟨b,j,none⟩=false
 sl:∃vo vt,w.cell? ⟨b,0,none⟩=some vo/\w.cell? ⟨b,1,none⟩=some vt/\aI 3 B w vo (o.map iv)/\aI 156 B w vt ts/\(∀g,vo.ownBlock=some g->M g/\g≠b)/\(∀g,vt.ownBlock=some g->M g/\g≠b)/\∀g,vo.ownBlock=some g->vt.ownBlock≠some g
theorem jW.kp {B:Nat}{w w':World}{b:Nat}{o:List Nat}{ts:List Value}{M S:Nat->Prop}(h:jW B w b o ts M)(k:Kp w w' S)(G:∀g,M g->¬S g):jW B w' b o ts M:=by
 obtain⟨I,V,J,hr,h4,vo,vt,h5,h6,W,Z,h9,h10,H⟩:=h;have hb:=k.block b I (G b J);refine⟨Jt I k.size,V,J,λg z=>⟨(hr g z).1,Jt (hr g z).2 k.size⟩,λj=>by rw [Jz (w:=w) hb];exact h4 j,vo,vt,?_,?_,W.kp k λg z=>G g (h9 g z).1,Z.kp k λg z=>G g (h10 g z).1,h9,h10,H⟩<;>rw [IX (w:=w) hb]<;>assumption
theorem jW.ex {B:Nat}{w w':World}{b:Nat}{o:List Nat}{ts:List Value}{M:Nat->Prop}(h:jW B w b o ts M)(x:Ex w w'):jW B w' b o ts M:=h.kp (Kp.ah x λ _=>False) λ _ _ h=>h
theorem jW.H5 {B:Nat}{w:World}{b:Nat}{o:List Nat}{ts:List Value}{M D:Nat->Prop}(h:jW B w b o ts M)(G:∀g,g< w.heap.size->B<=g->D g){K:List Value->Prop}(V:K ts):fS D w (ptr b) o K:=by
 obtain⟨J,W,h3,hr,h4,vo,vt,h5,Z,H,I,h9,h10,α⟩:=h;exact⟨b,vo,vt,ts,rfl,G b J W,J,h5,Z,H.Bo λg z=>G g (H.block g z).2 (H.block g z).1,I.Bo λg z=>G g (I.block g z).2 (I.block g z).1,V⟩
theorem DG (o:List Nat):(o.map iv).all oneV=true:=by simp [oneV]
theorem af.all {D:Nat->Prop}{w:World}:∀{l:Lv} {ts:List Value},af D w l ts->ts.all oneV=true
 | .nil,_,h=>by cases h;rfl
 | .thr _ _ _ _ r n,_,⟨t,z,a',I,vr,G,⟨g,e,_⟩,H,h4,h5⟩=>by rw [G,Kb,af.all (l:=n) h5,e];rfl
 | .sum J n,_,⟨t,z,a',I,vp,us,G,⟨g,e,_⟩,H,h4,h5⟩=>by rw [G,Kb,af.all (l:=n) h5,e];rfl
 | .part o q n,_,⟨v,z,G,⟨g,_,_,_,e,_⟩,H⟩=>by rw [G,Kb,af.all (l:=n) H,e];rfl
theorem rQ {B:Nat}{w:World}{b:Nat}{o:List Nat}{ts:List Value}{M:Nat->Prop}(h:jW B w b o ts M)(hB:B<=w.heap.size){D:Nat->Prop}{v:Value}{o2:List Nat}{J:List Value}(h2:fS D w v o2 λl=>l=J)(ξ:J.all oneV=true)
  (hM:∀g,D g->¬M g) (hl:o.length+o2.length<=1099511627776/\ts.length+J.length<=1099511627776) {R:World->Prop}
  (hR:∀w' M',Kp w w' M->jW B w' b (o++o2) (ts++J) M'->(∀g,M' g->M g\/w.heap.size<=g)->R w'):Calls Tryz.prog 179 #[ptr b,v] w (an [] R):=by
 refine kZ _ v w R ?_;obtain⟨b2,ο,ς,ts3,rfl,g1,g2,g3,g4,g5,g6,e3⟩:=h2;subst e3;obtain⟨h1,hle,h3,hr,h4,vo,vt,h5,h6,h7,h8,h9,h10,γ⟩:=h;have V:¬M b2:=hM b2 g1;refine⟨λw'=>Kp w w' λg=>vo.ownBlock=some g\/vt.ownBlock=some g,λw1 δ=>⟨δ▸Kp.ah (Ex.drew w) _,b,0,rfl,vo,λw' k=>?_,b2,0,rfl,ο,λw' k=>?_,b,0,rfl,vt,λw' k=>?_,b2,0,rfl,ς,λw' k=>?_,?_⟩⟩
 ·rw [IX (w:=w) (k.block b h1 λh=>h.elim (λe=>(h9 b e).2 rfl) λe=>(h10 b e).2 rfl)];exact h5
 ·rw [IX (w:=w) (k.block b2 g2 λh=>h.elim (λe=>V (h9 b2 e).1) λe=>V (h10 b2 e).1)];exact g3
 ·rw [IX (w:=w) (k.block b h1 λh=>h.elim (λe=>(h9 b e).2 rfl) λe=>(h10 b e).2 rfl)];exact h6
 ·rw [IX (w:=w) (k.block b2 g2 λh=>h.elim (λe=>V (h9 b2 e).1) λe=>V (h10 b2 e).1)];exact g4
 have x1:Ex w w1:=δ▸Ex.drew w;have k1:Kp w w1 λ _=>False:=Kp.ah x1 _
 have s1:w1.heap.size=w.heap.size:=by rw [δ];rfl
 refine aI.push (h7.kp k1 λ _ _ h=>h) (by omega) (g5.kp k1 λ _ _ h=>h) (DG o2) (by omega) (by simp;exact hl.1) λH w2 W υ φ=>?_
 have k2:Kp w1 w2 λg=>vo.ownBlock=some g:=Kp.aR υ λg h=>h
 have ε:Kp w w2 λg=>vo.ownBlock=some g:=Kp.trans (Kp.ah x1 _) k2 λg _ h=>h
 refine⟨Kp.trans (Kp.ah x1 _) k2 λg _ h=> .inl h,?_⟩;have s2:=k2.size;have χ:=g6.kp ε λg z e=>hM g z (h9 g e).1
 have ψ:aI 156 B w2 vt ts:=h8.kp ε λg z e=>γ g e z
 refine aI.push ψ (by omega) χ ξ (by omega) hl.2 λI w3 ζ ω hn3=>?_
 have k3:Kp w2 w3 λg=>vt.ownBlock=some g:=Kp.aR ω λg h=>h
 have η:Kp w w3 λg=>vo.ownBlock=some g\/vt.ownBlock=some g:=Kp.trans (Kp.mono (λg h=> .inl h) ε) k3 λg _ h=> .inr h
 have s3:=k3.size;have hv1:oneV H=true:=by
  rcases W.2 with⟨rfl,_⟩ | ⟨g,cap,cur,rfl,_⟩<;>rfl
 have hv2:oneV I=true:=by
  rcases ζ.2 with⟨rfl,_⟩ | ⟨g,cap,cur,rfl,_⟩<;>rfl
 have θ:=η.block b h1 λh=>h.elim (λe=>(h9 b e).2 rfl) λe=>(h10 b e).2 rfl
 have c30:w3.cell? ⟨b,0,none⟩=some vo:=by rw [IX (w:=w) θ];exact h5
 have κ:w3.cell? ⟨b,1,none⟩=some vt:=by rw [IX (w:=w) θ];exact h6
 have f3:∀j,w3.frozen? ⟨b,j,none⟩=false:=λj=>by rw [Jz (w:=w) θ];exact h4 j
 refine⟨η,b,0,rfl,hv1,⟨⟨_,c30⟩,f3 0⟩,λw4 G=>⟨b,0,rfl,hv2,⟨⟨vt,?_⟩,?_⟩,λw5 Z=>?_⟩⟩
 ·rw [G,I4 _ _ _ _ (by simp)];exact κ
 ·rw [G,Jl];exact f3 1
 have α:Kp w3 w5 λg=>g=b:=by
  rw [Z,G];exact Kp.set (Kp.set (S:=λg=>g=b) (Kp.ah (Ex.refl w3) _) rfl _) rfl _
 have β:∀g,H.ownBlock=some g->(vo.ownBlock=some g\/w.heap.size<=g):=λg z=>(φ g z).elim .inl λh=> .inr (by omega)
 have ι:∀g,I.ownBlock=some g->(vt.ownBlock=some g\/w2.heap.size<=g):=λg z=>hn3 g z
 have μ:∀g,H.ownBlock=some g->g≠b:=λg z=>(β g z).elim (λe=>(h9 g e).2) λe=>by omega
 have ν:∀g,I.ownBlock=some g->g≠b:=λg z=>(ι g z).elim (λe=>(h10 g e).2) λe=>by omega
 have hot:∀g,H.ownBlock=some g->I.ownBlock≠some g:=λg z e=>by
  have hlt:=(W.block g z).2;rcases ι g e with e1 | e1
  ·rcases β g z with e2 | e2
   ·exact γ g e2 e1
   ·have :=(h8.block g e1).2;omega
  ·omega
 have s5:=α.size;refine hR w5 (λg=>M g\/(w.heap.size<=g/\g< w5.heap.size)) ?_ ⟨?_,hle,.inl h3,λg z=>?_,λj=>?_,H,I,?_,?_,?_,?_,λg z=>⟨?_,μ g z⟩,λg z=>⟨?_,ν g z⟩,hot⟩ λg h=>h.elim .inl λh=> .inr h.1
 ·refine Kp.trans (Kp.mono (λg h=>h.elim (λe=>(h9 g e).1) λe=>(h10 g e).1) η) α λg _ e=>?_
  rw [e];exact h3
 ·omega
 ·rcases z with z | z
  ·have :=hr g z;omega
  ·omega
 ·rw [Z,Jl,G,Jl];exact f3 j
 ·rw [Z,I4 _ _ _ _ (by simp),G];exact Jk _ _ _ c30
 ·rw [Z];refine Jk _ _ _ (u:=vt) ?_;rw [G,I4 _ _ _ _ (by simp)];exact κ
 ·rw [JY];refine(W.kp k3 λg z e=>?_).kp α μ;rcases β g z with e2 | e2
  ·exact γ g e2 e
  ·have :=(h8.block g e).2;omega
 ·exact ζ.kp α ν
 ·have :=(W.block g z).2;exact(β g z).elim (λe=> .inl (h9 g e).1) λe=> .inr ⟨e,by omega⟩
 ·have :=(ζ.block g z).2;exact(ι g z).elim (λe=> .inl (h10 g e).1) λe=> .inr ⟨by omega,by omega⟩
theorem gC {c:UInt8}(h:lt c=true):(c - 97:UInt8).toNat=c.toNat - 97:=by
 have :=bn h;rw [UInt8.toNat_sub_of_le]
 ·rfl
 ·exact Jo.2 (by simpa using this.1)
structure Mk (w:World)(m n:Nat):Prop where
 lt:m< w.heap.size
 c:w.cell? ⟨m,0,none⟩=some (iv n)
 f:w.frozen? ⟨m,0,none⟩=false
theorem Mk.kp {w w':World}{m n:Nat}{S:Nat->Prop}(h:Mk w m n)(k:Kp w w' S)(z:¬S m):Mk w' m n:=by
 have hb:=k.block m h.lt z;exact⟨Jt h.lt k.size,by rw [IX (w:=w) hb];exact h.c,by rw [Jz (w:=w) hb];exact h.f⟩
theorem Mk.ex {w w':World}{m n:Nat}(h:Mk w m n)(x:Ex w w'):Mk w' m n:=h.kp (Kp.ah x λ _=>False) λh=>h
structure Km (m:Nat)(w w':World):Prop where
 kp:Kr m w w'
 ce:∀j,j≠0->w'.cell? ⟨m,j,none⟩=w.cell? ⟨m,j,none⟩
 fz:∀j,w'.frozen? ⟨m,j,none⟩=w.frozen? ⟨m,j,none⟩
theorem Km.size {m:Nat}{w w':World}(h:Km m w w'):w.heap.size<=w'.heap.size:=h.kp.size
theorem Km.trans {m:Nat}{a b c:World}(h:Km m a b)(k:Km m b c):Km m a c:=⟨Kr.trans h.kp k.kp,λj z=>(k.ce j z).trans (h.ce j z),λj=>(k.fz j).trans (h.fz j)⟩
theorem Km.out {m:Nat}{w0 w w':World}{S:Nat->Prop}(h:Km m w0 w)(k:Kp w w' S)(G:∀g,g< w0.heap.size->¬S g)(hm:m< w0.heap.size):Km m w0 w':=by
 have e:=k.block m (Jt hm h.kp.size) (G m hm);exact⟨Kp.trans h.kp k λg H z=>absurd z (G g H),λj I=>by rw [IX (w:=w) e];exact h.ce j I,λj=>by rw [Jz (w:=w) e];exact h.fz j⟩
theorem Km.refl (m:Nat)(w:World):Km m w w:=⟨Kr.refl m w,λ _ _=>rfl,λ _=>rfl⟩
theorem Km.ex {m:Nat}{w w':World}(h:Ex w w')(hm:m< w.heap.size):Km m w w':=(Km.refl m w).out (Kp.ah h λ _=>False) (λ _ _ h=>h) hm
theorem Km.set (m:Nat)(w:World)(v:Value):Km m w (w.setCell ⟨m,0,none⟩ v):=⟨Kr.set w 0 v,λj z=>I4 _ _ _ _ (λe=>by injection e with G H;omega),λj=>Jl _ _ _ _⟩
theorem sB {w:World}{m n:Nat}(h:Mk w m n)(I:n<=1099511627776){R:Int->World->Prop}(G:∀w',Km m w w'->Mk w' m (n+1)->R ((n+101:Nat):Int) w'):Calls Tryz.prog 178 #[ptr m] w (an [.i] R):=by
 refine lu _ w R ?_;refine⟨m,0,rfl,n,h.c,by unfold aj;omega,m,0,rfl,⟨⟨_,h.c⟩,h.f⟩,λw1 z=>⟨m,0,rfl,(n:Int)+1,?_,by unfold aj;omega,?_⟩⟩
 ·rw [z];exact Jk _ _ _ h.c
 ·have e:((n:Int)+1+100)=((n+101:Nat):Int):=by omega
  have H:((n:Int)+1)=((n+1:Nat):Int):=by omega
  rw [e];rw [H]at z;refine G w1 (z▸Km.set m w _) ⟨?_,?_,?_⟩
  ·rw [z,JI];exact h.lt
  ·rw [z];exact Jk _ _ _ h.c
  ·rw [z,Jl];exact h.f
def Fj (cs:List Value)(e:UInt8->Nat):Prop:=cs.length=26/\∀c,lt c=true->cs[c.toNat - 97]?=some (iv (e c))
structure kL (w:World)(b:Nat)(e:UInt8->Nat):Prop where
 hb:b< w.heap.size
 f:∀j,w.frozen? ⟨b,j,none⟩=false
 c:∃cs,Fj cs e/\∀j,j< 26->w.cell? ⟨b,0+j,none⟩=cs[j]?
theorem kL.kp {w w':World}{b:Nat}{e:UInt8->Nat}{S:Nat->Prop}(h:kL w b e)(k:Kp w w' S)(z:¬S b):kL w' b e:=by
 have hb:=k.block b h.hb z;obtain⟨G,H,cs,I,h4⟩:=h;exact⟨Jt G k.size,λj=>by rw [Jz (w:=w) hb];exact H j,cs,I,λj J=>by rw [IX (w:=w) hb];exact h4 j J⟩
theorem kL.get {w:World}{b:Nat}{e:UInt8->Nat}(h:kL w b e){c:UInt8}(z:lt c=true):w.cell? ⟨b,0+Int.toNat ((c - 97:UInt8).toNat:Int)* 1,none⟩=some (iv (e c)):=by
 obtain⟨H,I,cs,G,h4⟩:=h;have :=bn z;rw [gC z,JE,Ja,h4 _ (by omega)];exact G.2 c z
theorem kL.set {w w':World}{b:Nat}{e:UInt8->Nat}(h:kL w b e){c:UInt8}(H:lt c=true){n:Nat}(hw:w'=w.setCell ⟨b,0+Int.toNat ((c - 97:UInt8).toNat:Int)* 1,none⟩ (iv n)):kL w' b (aE e c n):=by
 have I:=h.get H;obtain⟨V,W,cs,G,h4⟩:=h;have hl:=bn H;rw [gC H,JE,Ja]at hw I;refine⟨by rw [hw,JI];exact V,λj=>by rw [hw,Jl];exact W j,cs.set (c.toNat - 97) (iv n),⟨by rw [KD];exact G.1,λd hd=>?_⟩,λj Z=>?_⟩
 ·have α:=bn hd;rw [List.getElem?_set];by_cases z:d=c
  ·subst z;rw [JB rfl,JB (by rw [G.1];omega)];simp [aE]
  ·have J:¬c.toNat - 97=d.toNat - 97:=λJ=>z (Jw.1 (by omega))
   rw [Jn J,G.2 d hd];simp [aE,z]
 ·rw [List.getElem?_set];by_cases z:c.toNat - 97=j
  ·subst z;rw [JB rfl,JB (by rw [G.1];omega),hw];exact Jk _ _ _ I
  ·rw [Jn z,hw,I4 _ _ _ _ (by simp)];exact h4 j Z
structure ke (w:World)(g:Nat)(k:UInt8)(a b:Nat)(vr vp:Value):Prop where
 lt:g< w.heap.size
 c0:w.cell? ⟨g,0,none⟩=some (.int .u8 k.toNat)
 c1:w.cell? ⟨g,1,none⟩=some (iv a)
 c2:w.cell? ⟨g,2,none⟩=some (iv b)
 c3:w.cell? ⟨g,3,none⟩=some vr
 c4:w.cell? ⟨g,4,none⟩=some vp
 f:∀j,w.frozen? ⟨g,j,none⟩=false
section
variable {w w':World} {g a b x:Nat} {k:UInt8} {vr vp v:Value} {S:Nat->Prop}
theorem ke.kp (h:ke w g k a b vr vp)(kp:Kp w w' S)(z:¬S g):ke w' g k a b vr vp:=by
 have hb:=kp.block g h.lt z;refine⟨Jt h.lt kp.size,?_,?_,?_,?_,?_,λj=>?_⟩
 ·rw [IX (w:=w) hb];exact h.c0
 ·rw [IX (w:=w) hb];exact h.c1
 ·rw [IX (w:=w) hb];exact h.c2
 ·rw [IX (w:=w) hb];exact h.c3
 ·rw [IX (w:=w) hb];exact h.c4
 ·rw [Jz (w:=w) hb];exact h.f j
theorem ke.wL (h:ke w g k a b vr vp)(hw:w'=w.setCell ⟨g,1,none⟩ (iv x)):ke w' g k x b vr vp:=by
 subst hw;exact⟨by rw [JI];exact h.lt,by rw [I4 _ _ _ _ (by simp)];exact h.c0,Jk _ _ _ h.c1,by rw [I4 _ _ _ _ (by simp)];exact h.c2,
  by rw [I4 _ _ _ _ (by simp)];exact h.c3,by rw [I4 _ _ _ _ (by simp)];exact h.c4,λj=>by rw [Jl];exact h.f j⟩
theorem ke.sC (h:ke w g k a b vr vp)(hw:w'=w.setCell ⟨g,2,none⟩ (iv x)):ke w' g k a x vr vp:=by
 subst hw;exact⟨by rw [JI];exact h.lt,by rw [I4 _ _ _ _ (by simp)];exact h.c0,by rw [I4 _ _ _ _ (by simp)];exact h.c1,Jk _ _ _ h.c2,
  by rw [I4 _ _ _ _ (by simp)];exact h.c3,by rw [I4 _ _ _ _ (by simp)];exact h.c4,λj=>by rw [Jl];exact h.f j⟩
theorem ke.BA (h:ke w g k a b vr vp)(hw:w'=w.setCell ⟨g,3,none⟩ v):ke w' g k a b v vp:=by
 subst hw;exact⟨by rw [JI];exact h.lt,by rw [I4 _ _ _ _ (by simp)];exact h.c0,by rw [I4 _ _ _ _ (by simp)];exact h.c1,by rw [I4 _ _ _ _ (by simp)];exact h.c2,
  Jk _ _ _ h.c3,by rw [I4 _ _ _ _ (by simp)];exact h.c4,λj=>by rw [Jl];exact h.f j⟩
theorem ke.Gp (h:ke w g k a b vr vp)(hw:w'=w.setCell ⟨g,4,none⟩ v):ke w' g k a b vr v:=by
 subst hw;exact⟨by rw [JI];exact h.lt,by rw [I4 _ _ _ _ (by simp)];exact h.c0,by rw [I4 _ _ _ _ (by simp)];exact h.c1,by rw [I4 _ _ _ _ (by simp)];exact h.c2,
  by rw [I4 _ _ _ _ (by simp)];exact h.c3,Jk _ _ _ h.c4,λj=>by rw [Jl];exact h.f j⟩
theorem ke.new {e:Nat}(z:g=w.heap.size)(hw:w'=w.alloc (.cells #[.int .u8 k.toNat,iv a,iv b,vr,vp] e)):ke w' g k a b vr vp:=by
 subst z hw;refine⟨by rw [size_alloc];omega,aa rfl,aa rfl,aa rfl,aa rfl,aa rfl,λj=>?_⟩;unfold World.frozen? World.alloc;simp
theorem ke.Hw (h:ke w g k a b vr vp){D:Nat->Prop}(z:D g):D3 D w (ptr g) k a b vr vp:=⟨g,rfl,z,h.lt,h.c0,h.c1,h.c2,h.c3,h.c4⟩
end
structure RS (w0 w:World)(m n:Nat)(e:UInt8->Nat)(b5 b10:Nat)(k:UInt8)(a b:Nat):Prop where
 kp:Km m w0 w
 mc:Mk w m n
 hm:m< w0.heap.size
 env:kL w b5 e
 h5:w0.heap.size<=b5
 h10:w0.heap.size<=b10
 ne:b5≠b10
 th:ke w b10 k a b (.pointer none) (.slice none 0 0)
section
variable {w0 w w':World} {m n b5 b10 a b x:Nat} {e:UInt8->Nat} {k c:UInt8}
theorem RS.go (h:RS w0 w m n e b5 b10 k a b){n':Nat}(kr:Km m w w')(mk:Mk w' m n'):RS w0 w' m n' e b5 b10 k a b:=by
 have z:=h.hm;have G:=h.h5;have H:=h.h10;exact⟨Km.trans h.kp kr,mk,h.hm,h.env.kp kr.kp (by omega),h.h5,h.h10,h.ne,h.th.kp kr.kp (by omega)⟩
theorem RS.ex (h:RS w0 w m n e b5 b10 k a b)(z:Ex w w'):RS w0 w' m n e b5 b10 k a b:=h.go (Km.ex z h.mc.lt) (h.mc.ex z)
theorem RS.own (h:RS w0 w m n e b5 b10 k a b){S:Nat->Prop}(kp:Kp w w' S)(G:∀g,S g->w0.heap.size<=g/\g≠b5/\g≠b10):RS w0 w' m n e b5 b10 k a b:=by
 have H:=h.hm;refine⟨h.kp.out kp (λg I z=>(by have :=(G g z).1;omega)) H,h.mc.kp kp λz=>(by have :=(G m z).1;omega),h.hm,h.env.kp kp λz=>(G _ z).2.1 rfl,h.h5,h.h10,h.ne,h.th.kp kp λz=>(G _ z).2.2 rfl⟩
theorem RS.wL (h:RS w0 w m n e b5 b10 k a b)(hw:w'=w.setCell ⟨b10,1,none⟩ (iv x)):RS w0 w' m n e b5 b10 k x b:=by
 have z:=h.hm;have G:=h.h10;have kp:Kr b10 w w':=hw▸Kr.set w 1 _;exact⟨h.kp.out kp (λg H e=>(by omega)) z,h.mc.kp kp (by omega),h.hm,h.env.kp kp h.ne,h.h5,h.h10,h.ne,h.th.wL hw⟩
theorem RS.sC (h:RS w0 w m n e b5 b10 k a b)(hw:w'=w.setCell ⟨b10,2,none⟩ (iv x)):RS w0 w' m n e b5 b10 k a x:=by
 have z:=h.hm;have G:=h.h10;have kp:Kr b10 w w':=hw▸Kr.set w 2 _;exact⟨h.kp.out kp (λg H e=>(by omega)) z,h.mc.kp kp (by omega),h.hm,h.env.kp kp h.ne,h.h5,h.h10,h.ne,h.th.sC hw⟩
theorem RS.Iw (h:RS w0 w m n e b5 b10 k a b)(z:lt c=true)(hw:w'=w.setCell ⟨b5,0+Int.toNat ((c - 97:UInt8).toNat:Int)* 1,none⟩ (iv x)):RS w0 w' m n (aE e c x) b5 b10 k a b:=by
 have G:=h.hm;have H:=h.h5;have kp:Kr b5 w w':=hw▸Kr.set w _ _;exact⟨h.kp.out kp (λg I e=>(by omega)) G,h.mc.kp kp (by omega),h.hm,h.env.set z hw,h.h5,h.h10,h.ne,h.th.kp kp (L0 h.ne)⟩
end
def AL (t:P):Prop:=∀{D:Nat->Prop} {v:Value} {w:World} {m n:Nat} {cs:List Value} {e:UInt8->Nat} {R:Value->World->Prop},aG D w t v->(∀g,D g->¬g=m)->Mk w m n->Fj cs e->Lt t->n+t.size<=1099511627776->
 (∀v' w',Km m w w'->Mk w' m (num t e n).2->aB (yQ w) w' (flat (num t e n).1) v'->R v' w')->Calls Tryz.prog 137 #[ptr m,v,.agg cs.toArray] w (an [.v] R)
def T.bnd:P->Bool
 | .rcv .. =>true | .res .. =>true | _=>false
theorem xg (t:P):(decide (t.kind=63)||decide (t.kind=35))=t.bnd:=by cases t<;>rfl
theorem HD {t:P}(h:Lt t)(z:t.ca≠0):lt t.ca=true:=by
 cases t<;>first | exact h.1 | exact absurd rfl z
theorem HK {t:P}(h:Lt t)(z:t.cb≠0):lt t.cb=true:=by
 cases t<;>first | exact h.2.1 | exact h.1 | exact absurd rfl z
theorem GB {t:P}(h:Lt t)(hb:t.bnd=true):lt t.cb=true:=by
 cases t<;>first | exact h.2.1 | exact h.1 | cases hb
theorem bM:∀(t:P) (e:UInt8->Nat) (n:Nat),(num t e n).1.size=t.size/\(num t e n).2<=n+t.size
 | .nil,_,n=>⟨rfl,by simp [num,T.size]⟩
 | .snd _ _ p,e,n=>by have :=bM p e n;exact⟨by simp [num,T.size,this.1],by simp only [num,T.size];omega⟩
 | .mat _ _ p,e,n=>by have :=bM p e n;exact⟨by simp [num,T.size,this.1],by simp only [num,T.size];omega⟩
 | .tau p,e,n=>by have :=bM p e n;exact⟨by simp [num,T.size,this.1],by simp only [num,T.size];omega⟩
 | .rep p,e,n=>by have :=bM p e n;exact⟨by simp [num,T.size,this.1],by simp only [num,T.size];omega⟩
 | .rcv _ x p,e,n=>by have :=bM p (aE e x (n+101)) (n+1);exact⟨by simp [num,T.size,this.1],by simp only [num,T.size];omega⟩
 | .res x p,e,n=>by have :=bM p (aE e x (n+101)) (n+1);exact⟨by simp [num,T.size,this.1],by simp only [num,T.size];omega⟩
 | .sum p q,e,n=>by have :=bM p e n;have h:=bM q e (num p e n).2;exact⟨by simp [num,T.size,this.1,h.1],by simp only [num,T.size];omega⟩
 | .par p q,e,n=>by have :=bM p e n;have h:=bM q e (num p e n).2;exact⟨by simp [num,T.size,this.1,h.1],by simp only [num,T.size];omega⟩
theorem ja:∀u:U,(flat u).1.length<=u.size/\(flat u).2.len<=u.size
 | .nil=>by simp [flat,Lv.len]
 | .snd .. =>by simp [flat,Lv.len,T.size]
 | .rcv .. =>by simp [flat,Lv.len,T.size]
 | .tau .. =>by simp [flat,Lv.len,T.size]
 | .sum .. =>by simp [flat,Lv.len,T.size]
 | .mat .. =>by simp [flat,Lv.len,T.size]
 | .rep .. =>by simp [flat,Lv.len,T.size]
 | .res x p=>by have :=ja p;simp only [flat,T.size,IW];omega
 | .par p q=>by have :=ja p;have :=ja q;simp only [flat,T.size,I',Lv.ee];omega
theorem jW.new {w w':World}{b B e:Nat}(hB:B<=w.heap.size)(hb:b=w.heap.size)(hw:w'=w.alloc (.cells #[.slice none 0 0,.slice none 0 0] e)):jW B w' b [] [] (λg=>g=b):=by
 subst hb hw;refine⟨by rw [size_alloc];omega,hB,rfl,λg z=>⟨by omega,by rw [size_alloc];omega⟩,λj=>?_,_,_,aa rfl,aa rfl,aI.nil _ _ _,aI.nil _ _ _,λg h=>(by cases h),λg h=>(by cases h),λg h=>(by cases h)⟩;unfold World.frozen? World.alloc;simp
theorem zJ {D Q:Nat->Prop}{w1:World}{t p:P}{v:Value}{b5:Nat}{e:UInt8->Nat}(h:aG D w1 t v)(hD:∀g,D g->¬Q g)(hE:kL w1 b5 e)(h5:¬Q b5){i:Int}(h0:0<=i)(hp:t.parts[i.toNat]?=some p){K:Value->List Value->Prop}(hK:∀x cs,aG D w1 p x->Fj cs e->K x cs):
  ∃(b o:Nat),v=Value.pointer (some ⟨b,o,none⟩)/\∃J:Value,(∀w',Kp w1 w' Q->World.cell? w' ⟨b,(o+3),none⟩=some J)/\∃(V W z H:Nat),J=Value.slice (some ⟨V,W,none⟩) z H/\0<=i/\i< z/\
   ∃Z:Value,(∀w',Kp w1 w' Q->World.cell? w' ⟨V,(W+Int.toNat i* 1),none⟩=some Z)/\∃G:List Value,List.length G=26/\(∀w',Kp w1 w' Q->∀j,j< 26->World.cell? w' ⟨b5,0+j,none⟩=G[j]?)/\K Z G:=by
 obtain⟨b,vs,l,rfl,h1,h2,h3,h4,β,h6,h7,h8⟩:=h.inv;obtain⟨hi,γ⟩:=JT.1 hp;have I:i.toNat< l.length:=by rw [h8.1];exact hi
 have hx:=h8.2 i.toNat l[i.toNat] p (IY I) hp;refine⟨b,0,rfl,vs,λw' k=>?_,?_⟩
 ·rw [IX (w:=w1) (k.block b h2 (hD b h1))];exact h6
 rcases h7 with⟨_,rfl⟩ | ⟨b',off,cap,rfl,i1,i2,i3⟩
 ·simp at I
 obtain⟨cs,hc,α⟩:=hE.c;refine⟨b',off,l.length,cap,rfl,h0,by omega,l[i.toNat],λw' k=>?_,cs,hc.1,λw' k j hj=>?_,hK _ _ hx hc⟩
 ·rw [IX (w:=w1) (k.block b' i2 (hD b' i1)),JE];exact i3 _ _ (IY I)
 ·rw [IX (w:=w1) (k.block b5 hE.hb h5)];exact α j hj
theorem aB.ths {D:Nat->Prop}{w:World}{L:List Nat×Lv}{v:Value}(h:aB D w L v):∃ts,fS D w v L.1 (λl=>l=ts)/\af D w L.2 ts:=by
 obtain⟨b,vo,vt,ts,z,G,H,h4,h5,I,J,V⟩:=h;exact⟨ts,⟨b,vo,vt,ts,z,G,H,h4,h5,I,J,rfl⟩,V⟩
theorem fS.one {D:Nat->Prop}{w:World}{v:Value}{o:List Nat}{K:List Value->Prop}(h:fS D w v o K):oneV v=true:=by
 obtain⟨b,_,_,_,rfl,_⟩:=h;rfl
theorem jW.Iu {B b g n e:Nat}{w w1 w2:World}(h:jW B w b [] [] λg=>g=b)(I:g=w.heap.size)(H:w1=w.alloc (.cells #[iv n] 3))(G:w2=w1.setCell ⟨b,0,none⟩ (.slice (some ⟨g,0,none⟩) 1 1)):jW B w2 b [n] [] λx=>x=b\/x=g:=by
 have z:Ex w w1:=H▸Ex.alloc w _;have J:=h.ex z;have V:=h.lt;have hle:=h.le;have W:aI 3 B w1 (.slice (some ⟨g,0,none⟩) 1 1) [iv n]:=aI.one (by omega) I H;have s1:w1.heap.size=w.heap.size+1:=by rw [H,size_alloc]
 obtain⟨Z,h2,h3,hr,h4,vo,vt,h5,h6,h7,h8,h9,h10,α⟩:=J;have k:Kr b w1 w2:=G▸Kr.set w1 0 _;refine⟨by rw [G,JI];exact Z,h2,.inl rfl,λx z=>?_,λj=>by rw [G,Jl];exact h4 j,_,vt,?_,?_,W.kp k λx z=>?_,?_,λx z=>?_,λx z=>⟨.inl (h10 x z).1,(h10 x z).2⟩,λx z e=>?_⟩
 ·have :=k.size;rcases z with rfl | rfl<;>omega
 ·rw [G];exact Jk _ _ _ h5
 ·rw [G,I4 _ _ _ _ (by simp)];exact h6
 ·have e:g=x:=JO z;omega
 ·exact h8.kp k λx z=>(h10 x z).2
 ·have e:g=x:=JO z;exact⟨.inr e.symm,by omega⟩
 ·have :=(h10 x e)
  exact absurd this.1 this.2
theorem jW.Ir {B b g:Nat}{w w1 w2:World}{x:Value}(h:jW B w b [] [] λg=>g=b)(I:g=w.heap.size)(H:w1=w.alloc (.cells #[x] 156))(G:w2=w1.setCell ⟨b,1,none⟩ (.slice (some ⟨g,0,none⟩) 1 1)):jW B w2 b [] [x] λx=>x=b\/x=g:=by
 have z:Ex w w1:=H▸Ex.alloc w _;have J:=h.ex z;have V:=h.lt;have hle:=h.le;have W:aI 156 B w1 (.slice (some ⟨g,0,none⟩) 1 1) [x]:=aI.one (by omega) I H;have s1:w1.heap.size=w.heap.size+1:=by rw [H,size_alloc]
 obtain⟨Z,h2,h3,hr,h4,vo,vt,h5,h6,h7,h8,h9,h10,α⟩:=J;have k:Kr b w1 w2:=G▸Kr.set w1 1 _;refine⟨by rw [G,JI];exact Z,h2,.inl rfl,λx z=>?_,λj=>by rw [G,Jl];exact h4 j,vo,_,?_,?_,?_,W.kp k λx z=>?_,λx z=>⟨.inl (h9 x z).1,(h9 x z).2⟩,λx z=>?_,λx e z=>?_⟩
 ·have :=k.size;rcases z with rfl | rfl<;>omega
 ·rw [G,I4 _ _ _ _ (by simp)];exact h5
 ·rw [G];exact Jk _ _ _ h6
 ·exact h7.kp k λx z=>(h9 x z).2
 ·have e:g=x:=JO z;omega
 ·have e:g=x:=JO z;exact⟨.inr e.symm,by omega⟩
 ·have :=(h9 x e)
  exact absurd this.1 this.2
def T.eB (t:P)(e:UInt8->Nat)(n:Nat):UInt8->Nat:=if t.bnd=true then aE e t.cb (n+101)else e
def T.nB (t:P)(n:Nat):Nat:=if t.bnd=true then n+1 else n
def T.aA (t:P)(e:UInt8->Nat):Nat:=if t.ca=0 then 0 else e t.ca
def T.bA (t:P)(e:UInt8->Nat)(n:Nat):Nat:=if t.cb=0 then 0 else t.eB e n t.cb
structure RW (D:Nat->Prop)(w w':World)(m n:Nat)(e:UInt8->Nat)(b5 b10 b47:Nat)(t:P)(v:Value):Prop where
 rs:RS w w' m (t.nB n) (t.eB e n) b5 b10 t.kind (t.aA e) (t.bA e n)
 bd:jW w.heap.size w' b47 [] [] λg=>g=b47
 n5:b47≠b5
 n10:b47≠b10
 tm:aG D w' t v
 d:∀g,D g->g< w.heap.size/\¬g=m
def RJ (w w':World)(m n:Nat)(e:UInt8->Nat)(b47 b10:Nat)(t:P):Prop:=
 Km m w w'/\Mk w' m (num t e n).2/\jW w.heap.size w' b47 [] [] (λg=>g=b47)/\(flat (num t e n).1).1=[]/\af (λg=>(w.heap.size<=g/\g≠b47)/\g< w'.heap.size) w' (flat (num t e n).1).2 [ptr b10]
theorem FF {t:P}{w z:World}{m n:Nat}{e:UInt8->Nat}{b47 b10:Nat}{R:Value->World->Prop}(hm:m< w.heap.size)(hJ:RJ w z m n e b47 b10 t)(hR:∀v' w',Km m w w'->Mk w' m (num t e n).2->aB (yQ w) w' (flat (num t e n).1) v'->R v' w'):
  ∀(H:Nat) (G:World),H=Array.size (World.heap z)->G=World.alloc z (Obj.cells #[(Value.pointer (some ⟨b10,0,none⟩))] 156)->oneV (Value.slice (some ⟨H,0,none⟩) 1 1)=true/\
   ((∃J:Value,World.cell? G ⟨b47,1,none⟩=some J)/\World.frozen? G ⟨b47,1,none⟩=false)/\∀I:World,I=World.setCell G ⟨b47,1,none⟩ (Value.slice (some ⟨H,0,none⟩) 1 1)->R ((Value.pointer (some ⟨b47,0,none⟩))) I:=by
 obtain⟨k,mk,bd,ho,Z⟩:=hJ;intro g w1 hg V;have hx:Ex z w1:=V▸Ex.alloc z _;have α:=bd.ex hx;have γ:=bd.lt;have hle:=bd.le;refine⟨rfl,?_,λw2 W=>?_⟩
 ·obtain⟨h1,h2,h3,hr,h4,vo,vt,h5,h6,_⟩:=α;exact⟨⟨_,h6⟩,h4 1⟩
 ·have β:=bd.Ir hg V W;have kk:Kr b47 w1 w2:=W▸Kr.set w1 1 _;have k2:Kp z w2 λg=>g=b47:=Kp.trans (Kp.ah hx _) kk λg _ h=>h
  refine hR _ w2 (k.out k2 (λg hg e=>by omega) hm) (mk.kp k2 (by omega)) ?_;unfold aB;rw [ho];exact β.H5 (λg _ h=>h) (af.sub (λg _ h=>h.1.1) (af.kp k2 (λg h e=>h.1.2 e) Z))
section
variable {D:Nat->Prop} {w w':World} {m n b5 b10 b47:Nat} {e:UInt8->Nat} {t p:P} {v:Value}
def RQ (w:World)(m b5 b10:Nat):Nat->Prop:=λg=>g=m\/(w.heap.size<=g/\g≠b5/\g≠b10)
theorem RW.fine (h:RW D w w' m n e b5 b10 b47 t v):(∀g,D g->¬RQ w m b5 b10 g)/\¬RQ w m b5 b10 b5/\RQ w m b5 b10 b47:=by
 have H:=h.rs.hm;have I:=h.rs.h5;have z:=h.bd.le;refine⟨λg G e=>?_,λe=>?_,.inr ⟨z,h.n5,h.n10⟩⟩
 ·have :=h.d g G;rcases e with e | e<;>omega
 ·rcases e with e | e
  ·omega
  ·exact e.2.1 rfl
structure RP (D:Nat->Prop)(w w':World)(m n:Nat)(b5 b10 b47:Nat)(e:UInt8->Nat)(t:P)(v:Value)(o:List Nat)(l:Lv)(ts:List Value)(M:Nat->Prop):Prop where
 kp:Km m w w'
 mc:Mk w' m n
 hm:m< w.heap.size
 env:kL w' b5 e
 h5:w.heap.size<=b5
 h10:b10< w'.heap.size
 tm:aG D w' t v
 d:∀g,D g->g< w.heap.size/\¬g=m
 bd:jW w.heap.size w' b47 o ts M
 mq:∀g,M g->RQ w m b5 b10 g
 th:af (λg=>(w.heap.size<=g/\¬M g)/\g< w'.heap.size) w' l ts
theorem RP.step {w1:World}{o:List Nat}{l:Lv}{ts:List Value}{M:Nat->Prop}(h:RP D w w1 m n b5 b10 b47 e t v o l ts M)(hp:AL p){i:Int}(h0:0<=i)(hi:t.parts[i.toNat]?=some p)(χ:Lt p)
  (hn:n+p.size<=1099511627776) (hol:o.length+p.size<=1099511627776) (hll:l.len+p.size<=1099511627776) {R:World->Prop}
  (hR:∀w2 ψ M',RP D w w2 m (num p e n).2 b5 b10 b47 e t v (o++(flat (num p e n).1).1) (l.app (flat (num p e n).1).2) ψ M'->R w2):
  ∃G:World->Prop,∀Z:World,Z=World.drew w1->G Z/\∃(ε ζ:Nat),v=Value.pointer (some ⟨ε,ζ,none⟩)/\∃η:Value,(∀w',G w'->World.cell? w' ⟨ε,(ζ+3),none⟩=some η)/\
   ∃(θ ι H α:Nat),η=Value.slice (some ⟨θ,ι,none⟩) H α/\0<=i/\i< H/\∃κ:Value,(∀w',G w'->World.cell? w' ⟨θ,(ι+Int.toNat i* 1),none⟩=some κ)/\
   ∃I:List Value,List.length I=26/\(∀w',G w'->∀j,j< 26->World.cell? w' ⟨b5,0+j,none⟩=I[j]?)/\Calls Tryz.prog 137 #[ptr m,κ,(Value.agg (List.toArray I))] Z (an [.v] fun(ω:Value) (μ:World)=>
    G μ/\Calls Tryz.prog 179 #[(Value.pointer (some ⟨b47,0,none⟩)),ω] μ (an [] fun(ν:World)=>G ν/\R ν)):=by
 have h5:=h.h5;have hm:=h.hm;have hD:∀g,D g->¬RQ w m b5 b10 g:=λg z e=>by
  have :=h.d g z;rcases e with e | e<;>omega
 have ξ:¬RQ w m b5 b10 b5:=λe=>by
  rcases e with e | e
  ·omega
  ·exact e.2.1 rfl
 refine⟨λw'=>Kp (w1.drew) w' (RQ w m b5 b10),λw2 V=>⟨V▸Kp.ah (Ex.refl _) _,?_⟩⟩;have x2:Ex w1 w2:=V▸Ex.drew w1;have hs12:w2.heap.size=w1.heap.size:=by rw [V];rfl
 rw [<-V];have kx:Kr m w1 w2:=Kr.ex x2;have ο:¬M m:=λJ=>by
  have :=(h.bd.mr m J).1;omega
 refine zJ (aG.kp (Kp.ah x2 λ _=>False) (λ _ _ h=>h) h.tm) hD (h.env.kp (Kp.ah x2 λ _=>False) λh=>h) ξ h0 hi λx cs hx hcs=>?_
 refine hp hx (λg z=>(h.d g z).2) (h.mc.ex x2) hcs χ hn λv3 w3 k3 m3 l3=>?_
 have s3:=k3.size;have s1:=h.bd.lt;have s0:=h.kp.size;have β:Kr m w1 w3:=Kr.trans kx k3.kp;have ς:Km m w1 w3:=Km.trans (Km.ex x2 h.mc.lt) k3;refine⟨Kp.mono (λg z=> .inl z) k3.kp,?_⟩;obtain⟨ts2,hl3,γ⟩:=aB.ths (l3.sub (E:=λg=>w2.heap.size<=g/\g< w3.heap.size) λg z hd=>⟨hd,z⟩);have hfs:=ja (num p e n).1;rw [(bM p e n).1]at hfs;have bd3:jW w.heap.size w3 b47 o ts M:=h.bd.kp β λg z e=>ο (e▸z)
 refine rQ bd3 (by omega) hl3 γ.all (λg z J=>by have :=(h.bd.mr g J).2;omega) ⟨by omega,by rw [γ.len,h.th.len];omega⟩ λw4 M' k4 bd4 δ=>?_
 have υ:Kp w3 w4 (RQ w m b5 b10):=Kp.mono h.mq k4;refine⟨Kp.trans (Kp.mono (λg z=> .inl z) k3.kp) υ λg _ h=>h,?_⟩;have s4:=k4.size;have φ:Kp w1 w4 (RQ w m b5 b10):=Kp.trans (Kp.mono (λg z=> .inl z) β) υ λg _ h=>h
 have hb5:=h.env.hb;refine hR w4 (ts++ts2) M' ⟨?_,m3.kp k4 ο,hm,h.env.kp φ ξ,h5,by have :=h.h10;omega,aG.kp φ hD h.tm,h.d,bd4,λg z=>?_,?_⟩
 ·exact(Km.trans h.kp ς).out k4 (λg z J=>by have :=(h.bd.mr g J).1;omega) hm
 ·rcases δ g z with W | W
  ·exact h.mq g W
  ·exact .inr ⟨by omega,by omega,by have :=h.h10;omega⟩
 ·refine af.app ?_ ?_
  ·refine af.sub (λg _ z=>?_) (af.kp k4 (λg z e=>z.1.2 e) (af.kp β (λg z e=>?_) h.th))
   ·refine⟨⟨z.1.1,λJ=>?_⟩,by omega⟩;rcases δ g J with W | W
    ·exact z.1.2 W
    ·omega
   ·have :=z.1.1;omega
  ·refine af.sub (λg _ z=>?_) (af.kp k4 (λg z J=>?_) γ)
   ·refine⟨⟨by omega,λJ=>?_⟩,by omega⟩;rcases δ g J with W | W
    ·have :=(h.bd.mr g W).2;omega
    ·omega
   ·have :=(h.bd.mr g J).2;omega
theorem RP.done {w':World}{o:List Nat}{l:Lv}{ts:List Value}{M:Nat->Prop}(h:RP D w w' m n b5 b10 b47 e t v o l ts M):aB (yQ w) w' (o,l) (ptr b47):=
 h.bd.H5 (λg _ h=>h) (af.sub (λg _ z=>z.1.1) h.th)
end
theorem DD {t:P}(ih:∀p∈t.parts,AL p):AL t:=by
 intro D v w m n cs e R ht hD hmk θ I hn hR;obtain⟨D,ht,hD⟩:∃D',aG D' w t v/\∀g,D' g->g< w.heap.size/\¬g=m:=⟨_,ht.bound,λg G=>⟨G.2,hD g G.1⟩⟩
 refine nM _ v _ w R ?_;refine⟨cs,rfl,λb5 w6 hb5 γ=>?_⟩;have x6:Ex w w6:=γ▸Ex.alloc w _;have s6:w6.heap.size=w.heap.size+1:=by rw [γ,size_alloc]
 have t6:aG D w6 t v:=aG.kp (Kp.ah x6 λ _=>False) (λ _ _ h=>h) ht;have c0:∀{w':World},aG D w' t v->∃b,v=ptr b/\w'.cell? ⟨b,0+0,none⟩=some (.int .u8 t.kind.toNat)/\w'.cell? ⟨b,0+1,none⟩=some (.int .u8 t.ca.toNat)/\w'.cell? ⟨b,0+2,none⟩=some (.int .u8 t.cb.toNat):=λh=>by
  obtain⟨b,vs,l,h0,V,h2,h3,h4,h5,_⟩:=h.inv;exact⟨b,h0,h3,h4,h5⟩
 obtain⟨b7,hv,q0,_,_⟩:=c0 t6;refine⟨b7,0,hv,t.kind,q0,λb10 w11 hb10 μ=>?_⟩;have φ:Ex w6 w11:=μ▸Ex.alloc w6 _;have s11:w11.heap.size=w6.heap.size+1:=by rw [μ,size_alloc]
 have kt:∀{w':World},Kr m w w'->aG D w' t v:=λk=>aG.kp k (λg G=>(hD g G).2) ht
 have δ:=hmk.lt;have ι:RS w w11 m n e b5 b10 t.kind 0 0:=by
  refine⟨Km.ex (Ex.trans x6 φ) δ,hmk.ex (Ex.trans x6 φ),δ,⟨by omega,λj=>?_,cs,θ,λj hj=>?_⟩,by omega,by omega,by omega,ke.new hb10 μ⟩
  ·rw [Jz (w:=w6) (φ.block b5 (by omega)),γ,hb5];unfold World.frozen? World.alloc;simp
  ·rw [φ.cell (show b5< _ by omega),γ,hb5,JC];have :=θ.1;unfold World.cell? World.alloc;simp
 obtain⟨b13,hv13,_,q1,_⟩:=c0 (kt ι.kp.kp);refine⟨λw'=>RS w w' m n e b5 b10 t.kind (t.aA e) 0,⟨b13,0,hv13,t.ca,q1,λhc=>?_,λhc=>?_⟩,λχ W=>?_⟩
 ·have hc:t.ca≠0:=by simpa using hc
  have hl:=HD I hc;have hb:=bn hl;refine⟨b13,0,hv13,t.ca,q1,⟨by omega,by rw [gC hl];omega⟩,_,ι.env.get hl,⟨⟨_,ι.th.c1⟩,ι.th.f 1⟩,λw21 ν=>?_⟩;have:t.aA e=e t.ca:=Jn hc;rw [this];exact ι.wL ν
 ·have hc:t.ca=0:=by simpa using hc
  have:t.aA e=0:=JB hc;rw [this];exact ι
 refine⟨λw'=>RS w w' m (t.nB n) (t.eB e n) b5 b10 t.kind (t.aA e) 0,EE (kt W.kp.kp) ⟨λhq=>?_,λhq=>?_⟩,λw35 κ=>?_⟩
 ·rw [xg]at hq;have hl:=GB I hq;have hb:=bn hl;refine⟨λw'=>Kr m χ w',λw27 hw27=>⟨hw27▸Kr.ex (Ex.drew χ),?_⟩⟩;have ψ:Ex χ w27:=hw27▸Ex.drew χ;obtain⟨b28,hv28,_,_,q2⟩:=c0 (kt W.kp.kp);refine⟨b28,0,hv28,t.cb,λw' k=>?_,?_⟩
  ·obtain⟨b29,hv29,_,_,q3⟩:=c0 (kt (Kr.trans W.kp.kp k));have:b29=b28:=by
    have :=hv28.symm.trans hv29
    injection this with V
    injection V with V
    injection V with V
    exact V.symm
   rw [<-this];exact q3
  refine sB (W.mc.ex ψ) (by omega) λga k32 m32=>⟨Kr.trans (Kr.ex ψ) k32.kp,⟨by omega,by rw [gC hl];omega⟩,?_,λw34 hw34=>?_⟩
  ·have :=(W.go (Km.trans (Km.ex ψ W.mc.lt) k32) m32).env;exact⟨⟨_,this.get hl⟩,this.f _⟩
  ·have e1:t.nB n=n+1:=JB hq;have e2:t.eB e n=aE e t.cb (n+101):=JB hq;rw [e1,e2];exact(W.go (Km.trans (Km.ex ψ W.mc.lt) k32) m32).Iw hl hw34
 ·rw [xg]at hq;have e1:t.nB n=n:=Jn (by rw [hq];simp);have e2:t.eB e n=e:=Jn (by rw [hq];simp);rw [e1,e2];exact W
 obtain⟨b37,hv37,_,_,q2⟩:=c0 (kt κ.kp.kp);refine⟨λw'=>RS w w' m (t.nB n) (t.eB e n) b5 b10 t.kind (t.aA e) (t.bA e n),⟨b37,0,hv37,t.cb,q2,λhc=>?_,λhc=>?_⟩,λw46 ω b47 J hb47 hw48=>?_⟩
 ·have hc:t.cb≠0:=by simpa using hc
  have hl:=HK I hc;have hb:=bn hl;refine⟨b37,0,hv37,t.cb,q2,⟨by omega,by rw [gC hl];omega⟩,_,κ.env.get hl,⟨⟨_,κ.th.c2⟩,κ.th.f 2⟩,λw21 ν=>?_⟩;have:t.bA e n=t.eB e n t.cb:=Jn hc;rw [this];exact κ.sC ν
 ·have hc:t.cb=0:=by simpa using hc
  have:t.bA e n=0:=JB hc;rw [this];exact κ
 have x48:Ex w46 J:=hw48▸Ex.alloc w46 _;have H:=ω.ex x48;have hs46:=ω.kp.size;have bd:jW w.heap.size J b47 [] [] λg=>g=b47:=jW.new hs46 hb47 hw48
 have hn5:b47≠b5:=by have :=ω.env.hb;omega
 have hn10:b47≠b10:=by have :=ω.th.lt;omega
 have h105:=H.h5;have ξ:=H.h10;have rp:RP D w J m (t.nB n) b5 b10 b47 (t.eB e n) t v [] .nil [] (λg=>g=b47):=
  ⟨H.kp,H.mc,H.hm,H.env,H.h5,H.th.lt,kt H.kp.kp,hD,bd,λg G=> .inr ⟨by have :=bd.le;omega,by omega,by omega⟩,rfl⟩
 obtain⟨b50,hv50,q0',_,_⟩:=c0 (kt H.kp.kp);refine⟨λw'=>RJ w w' m n e b47 b10 t,⟨b50,0,hv50,t.kind,q0',?_⟩,λw143 hJ=>FF δ hJ hR⟩;have hRQ:∀g,D g->¬RQ w m b5 b10 g:=λg G e=>by
  have :=hD g G;rcases e with e | e<;>omega
 have hq5:¬RQ w m b5 b10 b5:=λe=>by
  rcases e with e | e
  ·omega
  ·exact e.2.1 rfl
 have hb47:=bd.le;have α:∀{p:P},t.parts[0]?=some p->AL p->Lt p->t.nB n+p.size<=1099511627776->(num t e n).2=(num p (t.eB e n) (t.nB n)).2->(∀a b vr (w':World),a=t.aA e->b=t.bA e n->D3 (λg=>(w.heap.size<=g/\g≠b47)/\g< w'.heap.size) w' (ptr b10) t.kind a b vr (.slice none 0 0)->
   aB (λg=>(w.heap.size<=g/\g≠b47)/\g< w'.heap.size) w' (flat (num p (t.eB e n) (t.nB n)).1) vr->(flat (num t e n).1).1=[]/\af (λg=>(w.heap.size<=g/\g≠b47)/\g< w'.heap.size) w' (flat (num t e n).1).2 [ptr b10])->
   ∃β:World->Prop,∀ο:World,ο=World.drew J->β ο/\∃(b130 o131:Nat),v=Value.pointer (some ⟨b130,o131,none⟩)/\∃v132:Value,(∀w',β w'->World.cell? w' ⟨b130,(o131+3),none⟩=some v132)/\∃(b133 o134 ζ cap136:Nat),v132=Value.slice (some ⟨b133,o134,none⟩) ζ cap136/\0<=(0:Int)/\(0:Int)< ζ/\
    ∃v137:Value,(∀w',β w'->World.cell? w' ⟨b133,(o134+Int.toNat 0* 1),none⟩=some v137)/\∃ε:List Value,List.length ε=26/\(∀w',β w'->∀j,j< 26->World.cell? w' ⟨b5,0+j,none⟩=ε[j]?)/\Calls Tryz.prog 137 #[ptr m,v137,(Value.agg (List.toArray ε))] ο (an [.v] fun(v139:Value) (η:World)=>
     β η/\oneV v139=true/\((∃u141:Value,World.cell? η ⟨b10,3,none⟩=some u141)/\World.frozen? η ⟨b10,3,none⟩=false)/\∀w142:World,w142=World.setCell η ⟨b10,3,none⟩ v139->RJ w w142 m n e b47 b10 t):=by
  intro p hi hp hlp hnp e2 hth;refine⟨λw'=>Kp J.drew w' (RQ w m b5 b10),λw2 Z=>⟨Z▸Kp.ah (Ex.refl _) _,?_⟩⟩;have x2:Ex J w2:=Z▸Ex.drew J;rw [<-Z];have hs12:w2.heap.size=J.heap.size:=by rw [Z];rfl
  have r2:=H.ex x2;refine zJ (kt r2.kp.kp) hRQ r2.env hq5 (i:=0) (by omega) hi λx cs hx θ=>?_
  refine hp hx (λg G=>(hD g G).2) r2.mc θ hlp hnp λv3 w3 k3 m3 l3=>?_
  have r3:=r2.go k3 m3;have s3:=k3.size;have l3':aB (λg=>w2.heap.size<=g/\g< w3.heap.size) w3 (flat (num p (t.eB e n) (t.nB n)).1) v3:=l3.sub λg G hd=>⟨hd,G⟩
  have hb10lt:=r2.th.lt;have hb47lt:=bd.lt;refine⟨Kp.mono (λg G=> .inl G) k3.kp,fS.one l3,⟨⟨_,r3.th.c3⟩,r3.th.f 3⟩,λw4 hw4=>?_⟩;have k4:Kr b10 w3 w4:=hw4▸Kr.set w3 3 _;have s4:=k4.size;have th4:=r3.th.BA hw4;have s2:=r2.kp.size;have hl4:aB (λg=>(w.heap.size<=g/\g≠b47)/\g< w4.heap.size) w4 (flat (num p (t.eB e n) (t.nB n)).1) v3:=aB.sub (aB.kp l3' k4 λg G e=>by omega) λg _ G=>⟨⟨by omega,by omega⟩,by omega⟩
  obtain⟨e4,h4⟩:=hth _ _ v3 w4 rfl rfl (th4.Hw ⟨⟨ξ,L0 hn10⟩,th4.lt⟩) hl4;refine⟨r3.kp.out k4 (λg G e=>by omega) δ,?_,?_,e4,h4⟩
  ·rw [e2];exact m3.kp k4 (by omega)
  ·exact((bd.ex x2).kp k3.kp λg G e=>by omega).kp k4 λg G e=>by omega
 have hn0:∀{i:Int},0<=i->i.toNat=i.toNat:=λ _=>rfl
 cases t with
 | nil=>exact cS rfl (hR _ _ H.kp H.mc rp.done)
 | par p q=>
  refine aT (by dsimp only [T.kind];decide) (cS rfl ?_);have e1:n+(1+p.size+q.size)<=1099511627776:=by simpa only [T.size,Lc,Nat.add_comm,Nat.add_left_comm]using hn
  have V:=bM p e n;have h2:=ja (num p e n).1;rw [V.1]at h2;refine rp.step (i:=0) (ih p (by simp [T.parts])) (by omega) rfl I.1 (show n+p.size<=_ by omega) (by simp only [Jh];omega) (by simp only [Lv.len];omega) λw2 ts2 M2 h=>?_
  refine h.step (i:=1) (ih q (by simp [T.parts])) (by omega) rfl I.2 (show(num p e n).2+q.size<=_ by omega) ?_ ?_ λw3 ts3 M3 h=>hR _ _ h.kp h.mc h.done
  ·show(flat (num p e n).1).1.length+q.size<=_;omega
  ·show(flat (num p e n).1).2.len+q.size<=_;omega
 | res x p=>
  refine aT (by dsimp only [T.kind];decide) (aT (by dsimp only [T.kind];decide) (cS rfl ?_));have e1:n+(1+p.size)<=1099511627776:=by simpa only [T.size,Lc,Nat.add_comm,Nat.add_left_comm]using hn
  have hx0:x≠0:=λhx=>by have :=bn I.1;rw [hx]at this;exact absurd this.1 (by decide)
  have e2:T.bA (.res x p) e n=n+101:=by simp [T.bA,T.cb,hx0,T.eB,T.bnd,aE]
  refine⟨_,H.th.c2,λb82 w83 hb82 ς=>?_⟩;have x83:Ex J w83:=ς▸Ex.alloc J _;have bd83:=bd.ex x83;obtain⟨vo,_,hvo,_⟩:=bd83.sl;refine⟨rfl,⟨⟨vo,hvo⟩,bd83.fr 0⟩,λw85 hw85=>?_⟩;rw [e2]at ς;have bd85:=bd.Iu (e:=0) hb82 ς hw85;have υ:Kr b47 J w85:=Kp.trans (Kp.ah x83 _) (hw85▸Kr.set w83 0 _) λ _ _ h=>h
  have s85:=υ.size;have hl5:=H.env.hb;have hl10:=H.th.lt;have hs48:=H.kp.size;have rp85:RP D w w85 m (n+1) b5 b10 b47 (aE e x (n+101)) (.res x p) v [n+101] .nil [] (λg=>g=b47\/g=b82):=
   ⟨H.kp.out υ (λg G e=>by omega) δ,H.mc.kp υ (by omega),δ,H.env.kp υ (by omega),h105,by omega,aG.kp υ (λg G e=>by have :=hD g G;omega) rp.tm,hD,bd85,λg G=> .inr (by
    rcases G with rfl | rfl
    ·exact⟨by omega,by omega,by omega⟩
    ·exact⟨by omega,by omega,by omega⟩),rfl⟩
  exact rp85.step (i:=0) (ih p (by simp [T.parts])) (by omega) rfl I.2 (by omega) (by simp only [IW,Jh];omega) (by simp only [Lv.len];omega) λw2 ts2 M2 h=>hR _ _ h.kp h.mc h.done
 | sum p q=>
  refine aT (by dsimp only [T.kind];decide) (aT (by dsimp only [T.kind];decide) (aT (by dsimp only [T.kind];decide) (cS rfl ?_)));have e1:n+(1+p.size+q.size)<=1099511627776:=by simpa only [T.size,Lc,Nat.add_comm,Nat.add_left_comm]using hn
  have V:=bM p e n;refine⟨λw'=>Kp J.drew w' (RQ w m b5 b10),λw2 Z=>⟨Z▸Kp.ah (Ex.refl _) _,?_⟩⟩;have x2:Ex J w2:=Z▸Ex.drew J;rw [<-Z];have hs12:w2.heap.size=J.heap.size:=by rw [Z];rfl
  have r2:=H.ex x2;refine zJ (kt r2.kp.kp) hRQ r2.env hq5 (i:=0) (by omega) rfl λx cs hx θ=>?_
  refine zJ (kt r2.kp.kp) hRQ r2.env hq5 (i:=1) (by omega) rfl λy cs' hy hcs'=>?_
  refine ih p (by simp [T.parts]) hx (λg G=>(hD g G).2) r2.mc θ I.1 (show n+p.size<=_ by omega) λv3 w3 k3 m3 l3=>?_
  have r3:=r2.go k3 m3;have s3:=k3.size;have l3':aB (λg=>w2.heap.size<=g/\g< w3.heap.size) w3 (flat (num p e n).1) v3:=l3.sub λg G hd=>⟨hd,G⟩
  refine⟨Kp.mono (λg G=> .inl G) k3.kp,?_⟩;refine ih q (by simp [T.parts]) (aG.kp k3.kp (λg G=>(hD g G).2) hy) (λg G=>(hD g G).2) m3 hcs' I.2 (show(num p e n).2+q.size<=_ by omega) λv4 w4 k4 m4 l4=>?_
  have r4:=r3.go k4 m4;have s4:=k4.size;have l4':aB (λg=>w3.heap.size<=g/\g< w4.heap.size) w4 (flat (num q e (num p e n).2).1) v4:=l4.sub λg G hd=>⟨hd,G⟩
  have k24:Kr m w2 w4:=Kr.trans k3.kp k4.kp;refine⟨Kp.mono (λg G=> .inl G) k24,fS.one l3,fS.one l4,λb124 w5 hb124 hw5=>?_⟩;have x5:Ex w4 w5:=hw5▸Ex.alloc w4 _;have s5:w5.heap.size=w4.heap.size+1:=by rw [hw5,size_alloc]
  have r5:=r4.ex x5;refine⟨Kp.trans (Kp.mono (λg G=> .inl G) k24) (Kp.ah x5 λ _=>False) λ _ _ h=>h.elim,rfl,⟨⟨_,r5.th.c4⟩,r5.th.f 4⟩,λw6 γ=>?_⟩;have k6:Kr b10 w5 w6:=γ▸Kr.set w5 4 _;have s6:=k6.size;have th6:=r5.th.Gp γ;have s2:=r2.kp.size;have hb10lt:=r2.th.lt;have hb47lt:=bd.lt;refine⟨r5.kp.out k6 (λg G e=>by omega) δ,r5.mc.kp k6 (by omega),?_,rfl,?_⟩
  ·exact(((bd.ex x2).kp k24 λg G e=>by omega).ex x5).kp k6 λg G e=>by omega
  ·have hl3:aB (λg=>(w.heap.size<=g/\g≠b47)/\g< w6.heap.size) w6 (flat (num p e n).1) v3:=aB.sub (aB.kp (aB.ex (aB.kp l3' k4.kp λg G e=>by omega) x5) k6 λg G e=>by omega) λg _ G=>⟨⟨by omega,by omega⟩,by omega⟩
   have hl4:aB (λg=>(w.heap.size<=g/\g≠b47)/\g< w6.heap.size) w6 (flat (num q e (num p e n).2).1) v4:=aB.sub (aB.kp (aB.ex l4' x5) k6 λg G e=>by omega) λg _ G=>⟨⟨by omega,by omega⟩,by omega⟩
   refine⟨_,_,_,_,_,[v3,v4],rfl,th6.Hw ⟨⟨ξ,L0 hn10⟩,th6.lt⟩,.inr ⟨b124,0,2,rfl,⟨⟨by omega,by omega⟩,by omega⟩,by omega,λi z hz=>?_⟩,⟨v3,_,rfl,hl3,⟨v4,_,rfl,hl4,rfl⟩⟩,rfl⟩;rw [IX (w:=w5) (k6.block b124 (by omega) (by omega)),hw5,hb124,JC];refine aa ?_
   match i,hz with
   | 0,hz=>simpa using hz
   | 1,hz=>simpa using hz
   | i+2,hz=>simp at hz
 | snd a b p=>
  refine aT (by dsimp only [T.kind];decide) (aT (by dsimp only [T.kind];decide) (aT (by dsimp only [T.kind];decide) (aT (by dsimp only [T.kind];decide) ?_)));refine α rfl (ih p (by simp [T.parts])) I.2.2 (show n+p.size<=_ by simp only [T.size]at hn;omega) rfl λa' b' vr w' ha hb V h2=>⟨rfl,?_⟩
  have ea:a'=e a:=by rw [ha];exact Jn λhx=>by have :=bn I.1;rw [show a=0 from hx]at this;exact absurd this.1 (by decide)
  have eb:b'=e b:=by rw [hb];exact Jn λhx=>by have :=bn I.2.1;rw [show b=0 from hx]at this;exact absurd this.1 (by decide)
  exact⟨_,_,_,_,_,rfl,V,.inr (.inr ⟨ea,eb⟩),h2,rfl⟩
 | mat a b p=>
  refine aT (by dsimp only [T.kind];decide) (aT (by dsimp only [T.kind];decide) (aT (by dsimp only [T.kind];decide) (aT (by dsimp only [T.kind];decide) ?_)));refine α rfl (ih p (by simp [T.parts])) I.2.2 (show n+p.size<=_ by simp only [T.size]at hn;omega) rfl λa' b' vr w' ha hb V h2=>⟨rfl,?_⟩
  have ea:a'=e a:=by rw [ha];exact Jn λhx=>by have :=bn I.1;rw [show a=0 from hx]at this;exact absurd this.1 (by decide)
  have eb:b'=e b:=by rw [hb];exact Jn λhx=>by have :=bn I.2.1;rw [show b=0 from hx]at this;exact absurd this.1 (by decide)
  exact⟨_,_,_,_,_,rfl,V,.inr (.inr ⟨ea,eb⟩),h2,rfl⟩
 | rcv a b p=>
  refine aT (by dsimp only [T.kind];decide) (aT (by dsimp only [T.kind];decide) (aT (by dsimp only [T.kind];decide) (aT (by dsimp only [T.kind];decide) ?_)));refine α rfl (ih p (by simp [T.parts])) I.2.2 (show n+1+p.size<=_ by simp only [T.size]at hn;omega) rfl λa' b' vr w' ha hb V h2=>⟨rfl,?_⟩
  have ea:a'=e a:=by rw [ha];exact Jn λhx=>by have :=bn I.1;rw [show a=0 from hx]at this;exact absurd this.1 (by decide)
  have eb:b'=n+101:=by
   rw [hb];refine(Jn λhx=>by have :=bn I.2.1;rw [show b=0 from hx]at this;exact absurd this.1 (by decide)).trans ?_;simp [T.eB,T.bnd,aE,T.cb]
  exact⟨_,_,_,_,_,rfl,V,.inr (.inr ⟨ea,eb⟩),h2,rfl⟩
 | tau p=>
  refine aT (by dsimp only [T.kind];decide) (aT (by dsimp only [T.kind];decide) (aT (by dsimp only [T.kind];decide) (aT (by dsimp only [T.kind];decide) ?_)));exact α rfl (ih p (by simp [T.parts])) I (show n+p.size<=_ by simp only [T.size]at hn;omega) rfl λa' b' vr w' ha hb V h2=>⟨rfl,⟨_,_,_,_,_,rfl,V,.inl rfl,h2,rfl⟩⟩
 | rep p=>
  refine aT (by dsimp only [T.kind];decide) (aT (by dsimp only [T.kind];decide) (aT (by dsimp only [T.kind];decide) (aT (by dsimp only [T.kind];decide) ?_)));exact α rfl (ih p (by simp [T.parts])) I (show n+p.size<=_ by simp only [T.size]at hn;omega) rfl λa' b' vr w' ha hb V h2=>⟨rfl,⟨_,_,_,_,_,rfl,V,.inr (.inl rfl),h2,rfl⟩⟩
theorem uO:∀{l:List Nat} {x:Nat},x∈l->x<=l.sum
 | y::l,x,h=>by
  rw [J'];rcases Jm.1 h with rfl | h
  ·omega
  ·have :=uO h;omega
theorem F8:∀t:P,AL t:=by
 have:∀(k:Nat) (t:P),t.size<=k->AL t:=by
  intro k
  induction k with
  | zero=>intro t h;have :=aZ t;omega
  | succ k z=>
   intro t h;refine DD λp G=>z p ?_
   have e:=rD t;have:p.size<=(t.parts.map T.size).sum:=uO (JL.2 ⟨p,G,rfl⟩);omega
 exact λt=>this t.size t (Jc _)
end Go.Proofs.YtdecokaadekjnaaGreat
namespace Go.Proofs.YtdecokaadekjnaaGreat
open Go
set_option maxRecDepth 100000
theorem mz (s1:Value)(w:World)(R:Value->World->Prop)(h:∃(G:Option Addr) (H c4:Nat),s1= .slice G H c4/\ai (Option.isNone G) (R (.slice none 0 0) w) (aQ w (.cells #[] 3) λb5 I=>fc 3 1 8 I (.slice (some ⟨b5,0,none⟩) 0 0) s1 λv12 z=>R v12 z)):
  Calls Tryz.prog 180 #[s1] w (an [.v] R):=
 a7 (a8 [] [] []) [.tmp 2 .v] [.v s1] Tryz.func180 (by kernel_rfl) h
theorem j4 (z:Value)(w:World)(R:Bool->World->Prop)(h:az z λb2 G=>aS w b2 (G+1) λv4=>bE v4 λH=>R ((decide ((H:Int)=0))) w):
  Calls Tryz.prog 181 #[z] w (an [.b] R):=
 a7 (a8 [] [] []) [.tmp 2 .b] [.v z] Tryz.func181 (by kernel_rfl) h
theorem mv (z:Value)(w:World)(R:Bool->World->Prop)(h:az z λb2 o3=>aS w b2 (o3+0) λv4=>bE v4 λl6=>ai (decide ((l6:Int)=0)) (az z λb8 o9=>aS w b8 (o9+1) λv10=>bE v10 λG=>ai (decide ((G:Int)=1)) (az z λH I=>aS w H (I+1) λJ=>aF J 0 λV W=>aS w V (W+Int.toNat 0* 1) λv21=>az v21 λZ α=>fT w Z (α+0) λβ=>R ((decide (β=43))) w) (R false w)) (R false w)):
  Calls Tryz.prog 182 #[z] w (an [.b] R):=
 a7 (a8 [] [] []) [.tmp 2 .b] [.v z] Tryz.func182 (by kernel_rfl) h
theorem mA (t1:Value)(c2:Value)(w:World)(R:Bool->World->Prop)(h:az c2 λb3 z=>pb w b3 z λn5=>bO 187 #[t1,(.int .i64 n5)] w λG H=>R G H):
  Calls Tryz.prog 240 #[t1,c2] w (an [.b] R):=
 a7 (a8 [] [] []) [.tmp 3 .b] [.v t1,.v c2] Tryz.func240 (by kernel_rfl) h
theorem gK (s1:Value)(f2:Value)(w:World)(R:Int->World->Prop)(h:bE s1 λl4=>fY 0 w λZ W z H=>ai (decide (z< (l4:Int))) (aF s1 z λb10 I=>aS H b10 (I+z.toNat* 1) λJ=>∃(f15:Nat) (c16:List Value),f2= .func (.func f15) #[] (List.toArray c16)/\List.contains dC f15=true/\bO f15 (List.toArray ([J]++c16)) H λV G=>ai V (R z G) (aj (z+1)/\Z (z+1) G/\W (z+1) G< W z H)) (R (-1) H)):
  Calls Tryz.prog 219 #[s1,f2] w (an [.i] R):=
 a7 (a8 [(2,[(8,.i)])] [] []) [.tmp 4 .i] [.v s1,.v f2] Tryz.func219 (by kernel_rfl) h
theorem fk (s1:Value)(f2:Value)(w:World)(R:Bool->World->Prop)(h:eW 219 #[s1,f2] w λz G=>R ((decide (0<=z))) G):
  Calls Tryz.prog 185 #[s1,f2] w (an [.b] R):=
 a7 (a8 [] [] []) [.tmp 4 .b] [.v s1,.v f2] Tryz.func185 (by kernel_rfl) h
theorem oZ (z:Value)(G:Int)(w:World)(R:Bool->World->Prop)(h:aQ w (.cells #[(.int .i64 G)] 3) λb3 H=>az z λb5 I=>aS H b5 (I+1) λJ=>bO 185 #[J,(Value.func (Fn.func 240) #[] #[(.pointer (some ⟨b3,0,none⟩))])] H λV W=>R V W):
  Calls Tryz.prog 220 #[z,(.int .i64 G)] w (an [.b] R):=
 a7 (a8 [] [] []) [.tmp 4 .b] [.v z,.i G] Tryz.func220 (by kernel_rfl) h
theorem kC (z:Value)(c2:Value)(w:World)(R:Bool->World->Prop)(h:az c2 λb3 G=>pb w b3 G λn5=>bO 220 #[z,(.int .i64 n5)] w λH I=>R H I):
  Calls Tryz.prog 222 #[z,c2] w (an [.b] R):=
 a7 (a8 [] [] []) [.tmp 3 .b] [.v z,.v c2] Tryz.func222 (by kernel_rfl) h
theorem gW (s1:Value)(f2:Value)(w:World)(R:Int->World->Prop)(h:bE s1 λl4=>fY 0 w λZ W z H=>ai (decide (z< (l4:Int))) (aF s1 z λb10 I=>aS H b10 (I+z.toNat* 1) λJ=>∃(f15:Nat) (c16:List Value),f2= .func (.func f15) #[] (List.toArray c16)/\List.contains dC f15=true/\bO f15 (List.toArray ([J]++c16)) H λV G=>ai V (R z G) (aj (z+1)/\Z (z+1) G/\W (z+1) G< W z H)) (R (-1) H)):
  Calls Tryz.prog 241 #[s1,f2] w (an [.i] R):=
 a7 (a8 [(2,[(8,.i)])] [] []) [.tmp 4 .i] [.v s1,.v f2] Tryz.func241 (by kernel_rfl) h
theorem fK (s1:Value)(f2:Value)(w:World)(R:Bool->World->Prop)(h:eW 241 #[s1,f2] w λz G=>R ((decide (0<=z))) G):
  Calls Tryz.prog 221 #[s1,f2] w (an [.b] R):=
 a7 (a8 [] [] []) [.tmp 4 .b] [.v s1,.v f2] Tryz.func221 (by kernel_rfl) h
theorem nF (t1:Value)(x2:Int)(w:World)(R:Bool->World->Prop)(h:aQ w (.cells #[(.int .i64 x2)] 3) λb3 W=>∃J5:Bool->World->Prop,(az t1 λb6 o7=>fT W b6 (o7+0) λc8=>fR (decide (c8=33)) (az t1 λb9 ζ=>fT W b9 (ζ+0) λη=>fR (decide (η=61)) (az t1 λθ ι=>fT W θ (ι+0) λκ=>J5 ((decide (κ=63))) W) (J5 true W)) (J5 true W))/\∀(Z:Bool) (α:World),J5 Z α->∃J:World->Prop,(bH α λG H=>ai Z (az t1 λμ ν=>jX G μ (ν+1) λξ=>jX G b3 0 λο=>fR (decide (ξ=ο)) (az t1 λς υ=>jX G ς (υ+2) λφ=>jX G b3 0 λχ=>ai (decide (φ=χ)) (R true H) (J H)) (R true H)) (J H))/\∀(β:World),J β->bH β λz V=>az t1 λψ ω=>ck z ψ (ω+3) λv33=>∃γ:Option Addr,v33= .pointer γ/\ai (!Option.isNone γ) (az t1 λb35 o36=>ck z b35 (o36+3) λv37=>jX z b3 0 λn38=>bO 220 #[v37,(.int .i64 n38)] V λq39 I=>z I/\fR q39 (az t1 λb41 o42=>ck z b41 (o42+4) λv43=>bO 221 #[v43,(Value.func (Fn.func 222) #[] #[(.pointer (some ⟨b3,0,none⟩))])] I λq44 δ=>z δ/\R q44 δ) (z I/\R true I)) (z V/\az t1 λb46 o47=>ck z b46 (o47+4) λv48=>bO 221 #[v48,(Value.func (Fn.func 222) #[] #[(.pointer (some ⟨b3,0,none⟩))])] V λq49 ε=>z ε/\R q49 ε)):
  Calls Tryz.prog 187 #[t1,(.int .i64 x2)] w (an [.b] R):=
 a7 (a8 [] [(2,[(5,.b)]),(4,[])] [2,4]) [.tmp 4 .b] [.v t1,.i x2] Tryz.func187 (by kernel_rfl) h
theorem iz (t1:Value)(c2:Value)(w:World)(R:Bool->World->Prop)(h:az c2 λb3 z=>pb w b3 z λn5=>bO 187 #[t1,(.int .i64 n5)] w λG H=>R G H):
  Calls Tryz.prog 186 #[t1,c2] w (an [.b] R):=
 a7 (a8 [] [] []) [.tmp 3 .b] [.v t1,.v c2] Tryz.func186 (by kernel_rfl) h
theorem jE (z:Int)(c2:Value)(w:World)(R:Bool->World->Prop)(h:aQ w (.cells #[(.int .i64 z)] 3) λb3 G=>az c2 λb5 J=>aS G b5 J λV=>az V λW Z=>aS G W (Z+1) λv10=>bO 185 #[v10,(Value.func (Fn.func 186) #[] #[(.pointer (some ⟨b3,0,none⟩))])] G λH I=>R (!H) I):
  Calls Tryz.prog 184 #[(.int .i64 z),c2] w (an [.b] R):=
 a7 (a8 [] [] []) [.tmp 3 .b] [.i z,.v c2] Tryz.func184 (by kernel_rfl) h
theorem iX (s1:Value)(f2:Value)(w:World)(R:Int->World->Prop)(h:bE s1 λl4=>fY 0 w λZ W z H=>ai (decide (z< (l4:Int))) (aF s1 z λb10 I=>pb H b10 (I+z.toNat* 1) λJ=>∃(f15:Nat) (c16:List Value),f2= .func (.func f15) #[] (List.toArray c16)/\List.contains dC f15=true/\bO f15 (List.toArray ([(.int .i64 J)]++c16)) H λV G=>ai V (R z G) (aj (z+1)/\Z (z+1) G/\W (z+1) G< W z H)) (R (-1) H)):
  Calls Tryz.prog 218 #[s1,f2] w (an [.i] R):=
 a7 (a8 [(2,[(8,.i)])] [] []) [.tmp 4 .i] [.v s1,.v f2] Tryz.func218 (by kernel_rfl) h
theorem iC (s1:Value)(d2:Value)(w:World)(R:Value->World->Prop)(h:eW 218 #[s1,d2] w λn3 w4=>ai (decide (n3=(-1))) (R s1 w4) (aj (n3+1)/\xR n3 (n3+1) w4 λI5 m6 i7 z Z=>bE s1 λζ=>ai (decide (z< (ζ:Int))) (aF s1 z λη θ=>pb Z η (θ+z.toNat* 1) λβ=>∃(f18:Nat) (γ:List Value),d2= .func (.func f18) #[] (List.toArray γ)/\List.contains dC f18=true/\bO f18 (List.toArray ([(.int .i64 β)]++γ)) Z λι α=>ai (!ι) (aF s1 i7 λκ μ=>bf α κ (μ+i7.toNat* 1) (.int .i64 β) λδ=>aj (i7+1)/\aj (z+1)/\I5 (i7+1) (z+1) δ/\m6 (i7+1) (z+1) δ< m6 i7 z Z) (aj (z+1)/\I5 i7 (z+1) α/\m6 i7 (z+1) α< m6 i7 z Z)) (∃(a28:Option Addr) (G c30:Nat),s1= .slice a28 G c30/\0<=(i7:Int)/\(i7:Int)<=(G:Int)/\(G:Int)<=(c30:Int)/\∃(a31:Option Addr) (H ν:Nat),(Value.slice (if c30=i7.toNat then a28 else Option.map (·.add (i7.toNat* 1)) a28) (Int.toNat (G:Int) - i7.toNat) (c30 - i7.toNat))= .slice a31 H ν/\((H=0/\∃(a37:Option Addr) (ξ I:Nat),s1= .slice a37 ξ I/\0<=(0:Int)/\(0:Int)<=i7/\i7<=(I:Int)/\R ((.slice (if I=Int.toNat 0 then a37 else Option.map (·.add (Int.toNat 0* 1)) a37) (i7.toNat - Int.toNat 0) (I - Int.toNat 0))) Z)\/∃(J V:Nat),a31=some ⟨J,V,none⟩/\(∀j,j< H->(∃u,World.cell? Z ⟨J,V+j,none⟩=some u)/\World.frozen? Z ⟨J,V+j,none⟩=false)/\∀ε:World,ε=World.setCells Z J V (List.replicate H (.int .i64 0))->∃(a40:Option Addr) (ο W:Nat),s1= .slice a40 ο W/\0<=(0:Int)/\(0:Int)<=i7/\i7<=(W:Int)/\R ((.slice (if W=Int.toNat 0 then a40 else Option.map (·.add (Int.toNat 0* 1)) a40) (i7.toNat - Int.toNat 0) (W - Int.toNat 0))) ε)))):
  Calls Tryz.prog 183 #[s1,d2] w (an [.v] R):=
 a7 (a8 [(5,[(5,.i),(6,.i)])] [] []) [.tmp 4 .v] [.v s1,.v d2] Tryz.func183 (by kernel_rfl) h
theorem lf (l1:Value)(w:World)(R:Value->World->Prop)(h:az l1 λb2 o3=>aS w b2 (o3+0) λv4=>ch 180 #[v4] w λv5 w6=>oneV v5=true/\aQ w6 (.cells #[v5,(.slice none 0 0)] 155) λb7 w8=>aQ w8 (.cells #[(.pointer none)] 146) λb9 w10=>bf w10 b9 0 (.pointer (some ⟨b7,0,none⟩)) λw12=>az l1 λb13 o14=>aS w12 b13 (o14+1) λv15=>bE v15 λl17=>fY 0 w12 λV G z I=>ai (decide (z< (l17:Int))) (aF v15 z λb23 o24=>aS I b23 (o24+z.toNat* 1) λW=>bH I λψ w29=>az W λb30 o31=>Hz ψ b30 (o31+0) λc32=>az W λb33 o34=>jX ψ b33 (o34+1) λn35=>az W λb36 o37=>jX ψ b36 (o37+2) λn38=>aQ w29 (.cells #[(.int .u8 c32.toNat),(.int .i64 n35),(.int .i64 n38),(.pointer none),(.slice none 0 0)] 201) λb39 κ=>ψ κ/\az W λb41 o42=>fT κ b41 (o42+0) λc43=>ai (decide (c43=43)) (az W λb44 o45=>aS κ b44 (o45+4) λv46=>bE v46 λl48=>fY 0 κ λI50 μ J Z=>ai (decide (J< (l48:Int))) (aF v46 J λb54 o55=>aS Z b54 (o55+J.toNat* 1) λv58=>ch 139 #[v58] Z λv59 w60=>bO 181 #[v59] w60 λq61 w62=>ai q61 (aj (J+1)/\I50 (J+1) w62/\μ (J+1) w62< μ J Z) (bO 182 #[v59] w62 λq63 w64=>ai q63 (bH w64 λν w66=>ck ν b39 4 λv67=>az v59 λb68 o69=>ck ν b68 (o69+1) λv70=>aF v70 0 λb71 o72=>ck ν b71 (o72+Int.toNat 0* 1) λv75=>az v75 λb76 o77=>ck ν b76 (o77+4) λv78=>fc 146 1 8 w66 v67 v78 λv84 w85=>ν w85/\oneV v84=true/\bf w85 b39 4 v84 λw87=>aj (J+1)/\I50 (J+1) w87/\μ (J+1) w87< μ J Z) (aS w64 b39 4 λv88=>oneV v59=true/\aQ w64 (.cells #[v59] 146) λb89 w90=>fc 146 1 8 w90 v88 (.slice (some ⟨b89,0,none⟩) 1 1) λv96 w97=>oneV v96=true/\bf w97 b39 4 v96 λw99=>aj (J+1)/\I50 (J+1) w99/\μ (J+1) w99< μ J Z))) (aS Z b39 4 λv100=>bE v100 λω=>ai (decide ((ω:Int)=0)) (aj (z+1)/\V (z+1) Z/\G (z+1) Z< G z I) (ai (decide ((ω:Int)=1)) (bH Z λθ w105=>ck θ b9 0 λv106=>ck θ b39 4 λv107=>aF v107 0 λb108 o109=>ck θ b108 (o109+Int.toNat 0* 1) λv112=>fC 179 #[v106,v112] w105 λξ=>θ ξ/\aj (z+1)/\V (z+1) ξ/\G (z+1) ξ< G z I) (bH Z λα w115=>ck α b9 0 λv116=>ck α b9 0 λv117=>az v117 λb118 o119=>ck α b118 (o119+1) λv120=>aQ w115 (.cells #[(.pointer (some ⟨b39,0,none⟩))] 156) λb121 w122=>α w122/\fc 156 1 8 w122 v120 (.slice (some ⟨b121,0,none⟩) 1 1) λv128 w129=>α w129/\az v116 λb130 o131=>oneV v128=true/\bf w129 b130 (o131+1) v128 λw133=>aj (z+1)/\V (z+1) w133/\G (z+1) w133< G z I)))) (az W λb134 o135=>aS κ b134 (o135+3) λv136=>ch 139 #[v136] κ λv137 w138=>oneV v137=true/\bf w138 b39 3 v137 λw140=>bH w140 λο H=>az W λb143 o144=>Hz ο b143 (o144+0) λc145=>ai (decide (c145=61)) (az W λb146 o147=>jX ο b146 (o147+1) λn148=>az W λb149 o150=>jX ο b149 (o150+2) λn151=>ai (decide (n148=n151)) (bH H λS152 w153=>ck S152 b9 0 λv154=>ck S152 b39 3 λv155=>fC 179 #[v154,v155] w153 λw156=>aj (z+1)/\V (z+1) w156/\G (z+1) w156< G z I) (az W λb157 o158=>fT H b157 (o158+0) λc159=>fR (decide (c159=61)) (az W λb160 o161=>fT H b160 (o161+0) λc162=>ai (decide (c162=42)) (aS H b39 3 λv163=>bO 181 #[v163] H λq164 ς=>ai q164 (aj (z+1)/\V (z+1) ς/\G (z+1) ς< G z I) (bH ς λβ w167=>ck β b9 0 λv168=>ck β b9 0 λv169=>az v169 λb170 o171=>ck β b170 (o171+1) λv172=>aQ w167 (.cells #[(.pointer (some ⟨b39,0,none⟩))] 156) λb173 w174=>β w174/\fc 156 1 8 w174 v172 (.slice (some ⟨b173,0,none⟩) 1 1) λv180 w181=>β w181/\az v168 λb182 o183=>oneV v180=true/\bf w181 b182 (o183+1) v180 λw185=>aj (z+1)/\V (z+1) w185/\G (z+1) w185< G z I)) (bH H λγ w187=>ck γ b9 0 λv188=>ck γ b9 0 λv189=>az v189 λb190 o191=>ck γ b190 (o191+1) λv192=>aQ w187 (.cells #[(.pointer (some ⟨b39,0,none⟩))] 156) λb193 w194=>γ w194/\fc 156 1 8 w194 v192 (.slice (some ⟨b193,0,none⟩) 1 1) λv200 w201=>γ w201/\az v188 λb202 o203=>oneV v200=true/\bf w201 b202 (o203+1) v200 λw205=>aj (z+1)/\V (z+1) w205/\G (z+1) w205< G z I)) (aS H b39 3 λv206=>bO 181 #[v206] H λq207 υ=>ai q207 (aj (z+1)/\V (z+1) υ/\G (z+1) υ< G z I) (bH υ λδ w210=>ck δ b9 0 λv211=>ck δ b9 0 λv212=>az v212 λb213 o214=>ck δ b213 (o214+1) λv215=>aQ w210 (.cells #[(.pointer (some ⟨b39,0,none⟩))] 156) λb216 w217=>δ w217/\fc 156 1 8 w217 v215 (.slice (some ⟨b216,0,none⟩) 1 1) λv223 w224=>δ w224/\az v211 λb225 o226=>oneV v223=true/\bf w224 b225 (o226+1) v223 λw228=>aj (z+1)/\V (z+1) w228/\G (z+1) w228< G z I)))) (az W λb229 o230=>fT H b229 (o230+0) λc231=>fR (decide (c231=61)) (az W λb232 o233=>fT H b232 (o233+0) λc234=>ai (decide (c234=42)) (aS H b39 3 λv235=>bO 181 #[v235] H λq236 φ=>ai q236 (aj (z+1)/\V (z+1) φ/\G (z+1) φ< G z I) (bH φ λε w239=>ck ε b9 0 λv240=>ck ε b9 0 λv241=>az v241 λb242 o243=>ck ε b242 (o243+1) λv244=>aQ w239 (.cells #[(.pointer (some ⟨b39,0,none⟩))] 156) λb245 w246=>ε w246/\fc 156 1 8 w246 v244 (.slice (some ⟨b245,0,none⟩) 1 1) λv252 w253=>ε w253/\az v240 λb254 o255=>oneV v252=true/\bf w253 b254 (o255+1) v252 λw257=>aj (z+1)/\V (z+1) w257/\G (z+1) w257< G z I)) (bH H λζ w259=>ck ζ b9 0 λv260=>ck ζ b9 0 λv261=>az v261 λb262 o263=>ck ζ b262 (o263+1) λv264=>aQ w259 (.cells #[(.pointer (some ⟨b39,0,none⟩))] 156) λb265 w266=>ζ w266/\fc 156 1 8 w266 v264 (.slice (some ⟨b265,0,none⟩) 1 1) λv272 w273=>ζ w273/\az v260 λb274 o275=>oneV v272=true/\bf w273 b274 (o275+1) v272 λw277=>aj (z+1)/\V (z+1) w277/\G (z+1) w277< G z I)) (aS H b39 3 λv278=>bO 181 #[v278] H λq279 χ=>ai q279 (aj (z+1)/\V (z+1) χ/\G (z+1) χ< G z I) (bH χ λη w282=>ck η b9 0 λv283=>ck η b9 0 λv284=>az v284 λb285 o286=>ck η b285 (o286+1) λv287=>aQ w282 (.cells #[(.pointer (some ⟨b39,0,none⟩))] 156) λb288 w289=>η w289/\fc 156 1 8 w289 v287 (.slice (some ⟨b288,0,none⟩) 1 1) λv295 w296=>η w296/\az v283 λb297 o298=>oneV v295=true/\bf w296 b297 (o298+1) v295 λw300=>aj (z+1)/\V (z+1) w300/\G (z+1) w300< G z I))))) (bH I λι w302=>ck ι b9 0 λv303=>ck ι b9 0 λv304=>az v304 λb305 o306=>ck ι b305 (o306+0) λv307=>ch 183 #[v307,(Value.func (Fn.func 184) #[] #[(.pointer (some ⟨b9,0,none⟩))])] w302 λv308 w309=>ι w309/\az v303 λb310 o311=>oneV v308=true/\bf w309 b310 (o311+0) v308 λw313=>aS w313 b9 0 λv314=>R v314 w313)):
  Calls Tryz.prog 139 #[l1] w (an [.v] R):=
 a7 (a8 [(3,[(22,.i)]),(8,[(50,.i)])] [] [5,14,17,20,22,23,24,27]) [.tmp 2 .v] [.v l1] Tryz.func139 (by kernel_rfl) h
end Go.Proofs.YtdecokaadekjnaaGreat
namespace Go.Proofs.YtdecokaadekjnaaGreat
open Go Go.RowKit
namespace Lv
def sz:Lv->Nat
 | nil=>0 | thr _ _ _ _ r n=>r.sz+n.sz+1 | sum z n=>z.sz+n.sz+1 | part _ q n=>q.sz+n.sz+1
def sh:Bool->Lv->Bool
 | _,nil=>true
 | true,thr _ _ _ _ r n=>sh true r&&sh true n
 | true,sum z n=>sh false z&&sh true n
 | false,part _ q n=>sh true q&&sh false n
 | _,_=>false
def bk:Lv->List Lv
 | nil=>[] | thr k a b o r n=>thr k a b o r nil::bk n | sum z n=>sum z nil::bk n | part o q n=>part o q nil::bk n
theorem cK:∀l:Lv,l.bk.length=l.len
 | nil=>rfl
 | thr _ _ _ _ _ n=>by simp only [bk,len,IW,cK n]
 | sum _ n=>by simp only [bk,len,IW,cK n]
 | part _ _ n=>by simp only [bk,len,IW,cK n]
theorem en:∀(l:Lv),∀e∈l.bk,e.sz<=l.sz
 | nil,_,h=>by cases h
 | thr k a b o r n,e,h=>by
  rcases Jm.1 h with rfl | h
  ·simp only [sz];omega
  ·have :=en n e h;simp only [sz];omega
 | sum z n,e,h=>by
  rcases Jm.1 h with rfl | h
  ·simp only [sz];omega
  ·have :=en n e h;simp only [sz];omega
 | part o q n,e,h=>by
  rcases Jm.1 h with rfl | h
  ·simp only [sz];omega
  ·have :=en n e h;simp only [sz];omega
theorem lU (x:Nat):∀l:Lv,l.has x=l.bk.any (·.has x)
 | nil=>rfl
 | thr k a b o r n=>by simp [bk,has,lU x n]
 | sum z n=>by simp [bk,has,lU x n]
 | part o q n=>by simp [bk,has,lU x n]
theorem jz:∀{l:Lv},l.sh true=true->∀e∈l.bk,(∃k a b o r,e=thr k a b o r nil/\r.sh true=true)\/∃G,e=sum G nil/\G.sh false=true
 | nil,_,_,h=>by cases h
 | thr k a b o r n,z,e,h=>by
  simp only [sh,IZ]at z;rcases Jm.1 h with rfl | h
  ·exact .inl ⟨k,a,b,o,r,rfl,z.1⟩
  ·exact jz z.2 e h
 | sum G n,z,e,h=>by
  simp only [sh,IZ]at z;rcases Jm.1 h with rfl | h
  ·exact .inr ⟨G,rfl,z.1⟩
  ·exact jz z.2 e h
 | part ..,z,_,_=>by cases z
theorem lL:∀{l:Lv},l.sh false=true->∀e∈l.bk,∃o q,e=part o q nil/\q.sh true=true
 | nil,_,_,h=>by cases h
 | part o q n,z,e,h=>by
  simp only [sh,IZ]at z;rcases Jm.1 h with rfl | h
  ·exact⟨o,q,rfl,z.1⟩
  ·exact lL z.2 e h
 | thr ..,z,_,_=>by cases z
 | sum ..,z,_,_=>by cases z
theorem gD {b:Bool}:∀{l m:Lv},l.sh b=true->m.sh b=true->(l.app m).sh b=true
 | nil,_,_,h=>h
 | thr _ _ _ _ r n,m,z,G=>by
  cases b
  ·cases z
  ·simp only [sh,app,IZ]at*;exact⟨z.1,gD z.2 G⟩
 | sum H n,m,z,G=>by
  cases b
  ·cases z
  ·simp only [sh,app,IZ]at*;exact⟨z.1,gD z.2 G⟩
 | part o q n,m,z,G=>by
  cases b
  ·simp only [sh,app,IZ]at*;exact⟨z.1,gD z.2 G⟩
  ·cases z
end Lv
theorem aK.cons {A B:Type}{R:A->B->Prop}{a:A}{b:B}{l:List A}{m:List B}(h:R a b)(z:aK R l m):aK R (a::l) (b::m):=(aK.one h).append z
theorem af.bk {D:Nat->Prop}{w:World}:∀{l:Lv} {ts:List Value},af D w l ts->aK (λe v=>af D w e [v]) l.bk ts
 | .nil,_,h=>by cases h;exact aK.nil
 | .thr k a b o r n,_,⟨t,z,a',J,vr,G,H,I,h4,h5⟩=>by subst G;exact aK.cons ⟨t,[],a',J,vr,rfl,H,I,h4,rfl⟩ (af.bk (l:=n) h5)
 | .sum V n,_,⟨t,z,a',J,vp,us,G,H,I,h4,h5⟩=>by subst G;exact aK.cons ⟨t,[],a',J,vp,us,rfl,H,I,h4,rfl⟩ (af.bk (l:=n) h5)
 | .part o q n,_,⟨v,z,G,H,I⟩=>by subst G;exact aK.cons ⟨v,[],rfl,H,rfl⟩ (af.bk (l:=n) I)
theorem dW.ex {D:Nat->Prop}{w w':World}{v:Value}{l:List Value}(h:dW D w v l)(x:Ex w w'):dW D w' v l:=h.kp (Kp.ah x λ _=>False) λ _ _ h=>h
def xH (w:World)(f:Nat)(ca:List Value)(ts:List Value)(p:Nat->Bool):Prop:=
 ∀(i:Nat) (x:Value) (w1:World),ts[i]?=some x->Ex w w1->∀{R:Bool->World->Prop},(∀w2,Ex w1 w2->R (p i) w2)->Calls Tryz.prog f (List.toArray ([x]++ca)) w1 (an [.b] R)
theorem iJ {n:Nat}{p:Nat->Bool}:(List.range n).any p=true↔∃i,i< n/\p i=true:=by
 simp [KY,Ku]
theorem Ce {D:Nat->Prop}{w:World}{s:Value}{ts:List Value}(V:dW D w s ts){f:Nat}{ca:List Value}(hf:dC.contains f=true){p:Nat->Bool}(hp:xH w f ca ts p)(hl:ts.length<=1099511627776){R:Bool->World->Prop}(W:∀w',Ex w w'->R ((List.range ts.length).any p) w'):
  Calls Tryz.prog 185 #[s,.func (.func f) #[] (List.toArray ca)] w (an [.b] R):=by
 refine fk _ _ w R ?_;refine gK _ _ w _ ?_;obtain⟨a,cap,e⟩:=V.slice;refine⟨a,_,cap,e,λx w'=>∃i:Nat,x=i/\i<=ts.length/\Ex w w'/\∀j< i,p j=false,λx _=>(ts.length - x).toNat,⟨0,rfl,by omega,Ex.refl w,λj h=>by omega⟩,λx w1 hI=>?_⟩;obtain⟨i,rfl,hi,G,Z⟩:=hI;refine⟨λH=>?_,λH=>?_⟩
 ·have H:=Jq H;have z:i< ts.length:=by omega
  refine(V.ex G).get (i:=i) (x:=ts[i]) (by omega) (by simp [z]) ⟨f,ca,rfl,hf,hp i _ w1 (IY z) G λw2 I=>⟨λJ=>?_,λJ=>⟨by unfold aj;omega,⟨i+1,by omega,by omega,Ex.trans G I,λj hj=>?_⟩,by dsimp only;omega⟩⟩⟩
  ·have :=W w2 (Ex.trans G I);rw [iJ.2 ⟨i,z,J⟩]at this;have e:decide ((0:Int)<=i)=true:=Ke (by omega);show R (decide ((0:Int)<=i)) w2;rw [e];exact this
  ·by_cases h:j=i
   ·subst h;exact J
   ·exact Z j (by omega)
 ·have H:=Jr H;have :=W w1 G;have e:(List.range ts.length).any p=false:=by
   rw [Bool.eq_false_iff];intro h;obtain⟨j,hj,h⟩:=iJ.1 h;rw [Z j (by omega)]at h;cases h
  rw [e]at this;exact this
theorem Cj {D:Nat->Prop}{w:World}{s:Value}{ts:List Value}(V:dW D w s ts){f:Nat}{ca:List Value}(hf:dC.contains f=true){p:Nat->Bool}(hp:xH w f ca ts p)(hl:ts.length<=1099511627776){R:Bool->World->Prop}(W:∀w',Ex w w'->R ((List.range ts.length).any p) w'):
  Calls Tryz.prog 221 #[s,.func (.func f) #[] (List.toArray ca)] w (an [.b] R):=by
 refine fK _ _ w R ?_;refine gW _ _ w _ ?_;obtain⟨a,cap,e⟩:=V.slice;refine⟨a,_,cap,e,λx w'=>∃i:Nat,x=i/\i<=ts.length/\Ex w w'/\∀j< i,p j=false,λx _=>(ts.length - x).toNat,⟨0,rfl,by omega,Ex.refl w,λj h=>by omega⟩,λx w1 hI=>?_⟩;obtain⟨i,rfl,hi,G,Z⟩:=hI;refine⟨λH=>?_,λH=>?_⟩
 ·have H:=Jq H;have z:i< ts.length:=by omega
  refine(V.ex G).get (i:=i) (x:=ts[i]) (by omega) (by simp [z]) ⟨f,ca,rfl,hf,hp i _ w1 (IY z) G λw2 I=>⟨λJ=>?_,λJ=>⟨by unfold aj;omega,⟨i+1,by omega,by omega,Ex.trans G I,λj hj=>?_⟩,by dsimp only;omega⟩⟩⟩
  ·have :=W w2 (Ex.trans G I);rw [iJ.2 ⟨i,z,J⟩]at this;have e:decide ((0:Int)<=i)=true:=Ke (by omega);show R (decide ((0:Int)<=i)) w2;rw [e];exact this
  ·by_cases h:j=i
   ·subst h;exact J
   ·exact Z j (by omega)
 ·have H:=Jr H;have :=W w1 G;have e:(List.range ts.length).any p=false:=by
   rw [Bool.eq_false_iff];intro h;obtain⟨j,hj,h⟩:=iJ.1 h;rw [Z j (by omega)]at h;cases h
  rw [e]at this;exact this
def Hy {A:Type}(l:List A)(f:A->Bool)(i:Nat):Bool:=(l[i]?.map f).getD false
theorem nU {A:Type}{l:List A}{f:A->Bool}{i:Nat}(h:i< l.length):Hy l f i=f l[i]:=by unfold Hy;rw [IY h];rfl
theorem uG {A:Type}{f:A->Bool}(l:List A):(List.range l.length).any (Hy l f)=l.any f:=by
 rw [J1,iJ,KY];constructor
 ·rintro⟨i,z,h⟩
  rw [nU z]at h;exact⟨_,Jd z,h⟩
 ·rintro⟨x,G,h⟩
  obtain⟨i,z,e⟩:=JV.1 G;exact⟨i,z,by rw [nU z,e];exact h⟩
theorem y4 {w w':World}{b n e:Nat}(hb:b=w.heap.size)(hw:w'=w.alloc (.cells #[iv n] e)):Ex w w'/\b< w'.heap.size/\w'.cell? ⟨b,0,none⟩=some (iv n):=by
 subst hb hw;exact⟨Ex.alloc w _,by rw [size_alloc];omega,aa rfl⟩
def Ae (n:Nat):Prop:=∀{D:Nat->Prop} {w:World} {v:Value} {o:List Nat} {l:Lv} {x:Nat} {R:Bool->World->Prop},l.sz<=n->l.sh true=true->fS D w v o (af D w l)->l.sz<=1099511627776->(∀w',Ex w w'->R (l.has x) w')->Calls Tryz.prog 220 #[v,iv x] w (an [.b] R)
def zP (n:Nat):Prop:=∀{D:Nat->Prop} {w:World} {v:Value} {l:Lv} {x:Nat} {R:Bool->World->Prop},l.sz<=n->((∃k a b o r,l= .thr k a b o r .nil/\r.sh true=true)\/∃z,l= .sum z .nil/\z.sh false=true)->af D w l [v]->l.sz<=1099511627776->
 (∀w',Ex w w'->R (l.has x) w')->Calls Tryz.prog 187 #[v,iv x] w (an [.b] R)
theorem nc:∀l:Lv,l.len<=l.sz
 | .nil=>Jc _
 | .thr _ _ _ _ r n=>by have :=nc n;simp only [Lv.len,Lv.sz];omega
 | .sum z n=>by have :=nc n;simp only [Lv.len,Lv.sz];omega
 | .part o q n=>by have :=nc n;simp only [Lv.len,Lv.sz];omega
theorem fS.ex {D:Nat->Prop}{w w':World}{v:Value}{o:List Nat}{l:Lv}(h:fS D w v o (af D w l))(x:Ex w w'):fS D w' v o (af D w' l):=aB.ex (L:=(o,l)) h x
theorem EL {n:Nat}(ht:zP n){D:Nat->Prop}{w:World}{l:Lv}{ts:List Value}{x b3:Nat}(hn:l.sz<=n)(I:l.sh true=true)(h:af D w l ts)(α:l.sz<=1099511627776)(hb:b3< w.heap.size)(hc:w.cell? ⟨b3,0,none⟩=some (iv x)):
  xH w 240 [ptr b3] ts (Hy l.bk (Lv.has x)):=by
 intro i v w1 V W R Z;have G:=h.bk;obtain⟨J,_⟩:=JT.1 V;have z:i< l.bk.length:=by rw [G.1];exact J
 have he:=G.2 i l.bk[i] v (IY z) V;have H:=Jd z;have hs:=Lv.en l _ H;rw [nU z]at Z;refine mA v (ptr b3) w1 R ?_;refine⟨b3,0,rfl,x,by rw [W.cell (show b3< _ from hb)];exact hc,?_⟩;exact ht (by omega) (Lv.jz I _ H) (he.ex W) (by omega) Z
theorem uo {n:Nat}(W:zP n):Ae n:=by
 intro D w v o l x R Z z h G hR;refine oZ v x w R ?_;intro b3 w4 H I;obtain⟨J,l4,c4⟩:=y4 H I;obtain⟨b,vo,vt,ts,rfl,h2,h3,h4,h5,h6,h7,V⟩:=h.ex J;refine⟨b,0,rfl,vt,h5,?_⟩;have hlen:=V.len;have :=nc l;refine Ce (ca:=[ptr b3]) h7 (by kernel_rfl) (EL W Z z V G l4 c4) (by omega) λw5 x5=>?_
 rw [hlen,<-Lv.cK,uG,<-Lv.lU];exact hR w5 (Ex.trans J x5)
theorem D7 {n:Nat}(ht:Ae n){D:Nat->Prop}{w:World}{l:Lv}{ts:List Value}{x b3:Nat}(hn:l.sz<=n)(I:l.sh false=true)(h:af D w l ts)(α:l.sz<=1099511627776)(hb:b3< w.heap.size)(hc:w.cell? ⟨b3,0,none⟩=some (iv x)):
  xH w 222 [ptr b3] ts (Hy l.bk (Lv.has x)):=by
 intro i v w1 hi hx R J;have G:=h.bk;obtain⟨V,_⟩:=JT.1 hi;have z:i< l.bk.length:=by rw [G.1];exact V
 have he:=G.2 i l.bk[i] v (IY z) hi;have H:=Jd z;have hs:=Lv.en l _ H;rw [nU z]at J;refine kC v (ptr b3) w1 R ?_;refine⟨b3,0,rfl,x,by rw [hx.cell (show b3< _ from hb)];exact hc,?_⟩;obtain⟨o,q,e,hq⟩:=Lv.lL I _ H;rw [e]at he J hs;obtain⟨v',W,h1,h2,_⟩:=he;obtain⟨rfl,rfl⟩:v=v'/\([]:List Value)=W:=by simpa using h1
 simp only [Lv.sz]at hs;refine ht (by omega) hq (fS.ex h2 hx) (by omega) λw2 Z=>?_
 have :=J w2 Z;simpa [Lv.has]using this
def Ev (k:K)(a b x:Nat):Bool:=(k== .s||k== .m||k== .r)&&(a==x||b==x)
theorem Bl {n:Nat}(ht:Ae n):zP (n+1):=by
 intro D w v l x R hn hl h μ hR;refine nF v x w R ?_;intro b3 V χ ψ;obtain⟨x4,l4,c4⟩:=y4 χ ψ;rcases hl with⟨k,a,b,o,r,rfl,hr⟩ | ⟨ps,rfl,ω⟩
 ·obtain⟨_,_,a',b',vr,e,η,hab,ν,_⟩:=h.ex x4;obtain⟨rfl,_⟩:=J3 e;simp only [Lv.sz]at hn μ;have ε:∀q w',Ex V w'->q=r.has x->Ev k a b x=false->R q w':=λq w' H hq hn=>by
   have :=hR w' (Ex.trans x4 H);simp only [Lv.has]at this;unfold Ev at hn;rw [hn,Lq,Lb,<-hq]at this;exact this
  have β:∀w',Ex V w'->Ev k a b x=true->R true w':=λw' H hn=>by
   have :=hR w' (Ex.trans x4 H);simp only [Lv.has]at this;unfold Ev at hn;rw [hn,Bool.true_or,Bool.true_or]at this;exact this
  obtain⟨g,rfl,g2,g3,g4,g5,g6,g7,g8⟩:=η;have θ:∀q:Bool,q=(k== .s||k== .m||k== .r)->∀w',Ex V w'->((k== .s||k== .m||k== .r)=true->(a'=a/\b'=b))->True:=λ _ _ _ _ _=>trivial
  have ξ:(k== .s||k== .m||k== .r)=true->a'=a/\b'=b:=by
   intro hk;rcases hab with rfl | rfl | h
   ·cases hk
   ·cases hk
   ·exact h
  refine⟨λq w'=>Ex V w'/\q=(k== .s||k== .m||k== .r),⟨g,0,rfl,_,g4,?_⟩,λq Z hJ=>?_⟩
  ·cases k
   ·exact dI rfl ⟨Ex.refl _,rfl⟩
   ·exact cC (by dsimp only [K.byte];decide) ⟨g,0,rfl,_,g4,cC (by dsimp only [K.byte];decide) ⟨g,0,rfl,_,g4,Ex.refl _,rfl⟩⟩
   ·exact cC (by dsimp only [K.byte];decide) ⟨g,0,rfl,_,g4,cC (by dsimp only [K.byte];decide) ⟨g,0,rfl,_,g4,Ex.refl _,rfl⟩⟩
   ·exact cC (by dsimp only [K.byte];decide) ⟨g,0,rfl,_,g4,dI rfl ⟨Ex.refl _,rfl⟩⟩
   ·exact cC (by dsimp only [K.byte];decide) ⟨g,0,rfl,_,g4,cC (by dsimp only [K.byte];decide) ⟨g,0,rfl,_,g4,Ex.refl _,rfl⟩⟩
  obtain⟨α,hq⟩:=hJ;have cg:∀{i:Nat} {u:Value} {w':World},Ex V w'->V.cell? ⟨g,i,none⟩=some u->w'.cell? ⟨g,i,none⟩=some u:=λH h=>by rw [H.cell (show g< _ from g3)];exact h
  have cb:∀{w':World},Ex V w'->w'.cell? ⟨b3,0,none⟩=some (iv x):=λH=>by rw [H.cell (show b3< _ from l4)];exact c4
  have dn:∀m:Nat,decide ((m:Int)=(x:Int))=(m==x):=λm=>by
   rw [J1,decide_eq_true_iff,Mn];omega
  refine⟨λw'=>Ex V w'/\Ev k a b x=false,⟨λw'=>Ex V w',λο I=>⟨I▸Ex.trans α (Ex.drew Z),λι=>?_,λς=>?_⟩⟩,λγ hJ=>?_⟩
  ·have κ:Ex V ο:=I▸Ex.trans α (Ex.drew Z);rw [ι]at hq;obtain⟨rfl,rfl⟩:=ξ hq.symm;refine⟨g,0,rfl,a',λw' H=>cg H g5,x,λw' H=>cb H,λha=>⟨g,0,rfl,b',λw' H=>cg H g6,x,λw' H=>cb H,λhb=>?_,λhb=>?_⟩,λha=>?_⟩
   ·rw [dn]at hb;exact β _ κ (by unfold Ev;rw [<-hq,hb];simp)
   ·rw [dn]at ha hb;exact⟨κ,by unfold Ev;rw [ha,hb];simp⟩
   ·rw [dn]at ha;exact β _ κ (by unfold Ev;rw [<-hq,ha];simp)
  ·rw [ς]at hq;exact⟨I▸Ex.trans α (Ex.drew Z),by unfold Ev;rw [<-hq];simp⟩
  obtain⟨δ,θ⟩:=hJ;obtain⟨br,hvr⟩:∃br,vr=ptr br:=by obtain⟨b,_,_,_,e,_⟩:=ν;exact⟨b,e⟩
  refine⟨λw'=>Ex V w',λυ J=>⟨J▸Ex.trans δ (Ex.drew γ),g,0,rfl,vr,λw' H=>cg H g7,_,hvr,λ _=>⟨g,0,rfl,vr,λw' H=>cg H g7,x,λw' H=>cb H,?_⟩,λhc=>(by cases hc)⟩⟩;have G:Ex V υ:=J▸Ex.trans δ (Ex.drew γ);refine ht (by omega) hr (fS.ex ν G) (by omega) λw40 W=>⟨Ex.trans G W,λhq=>⟨g,0,rfl,_,λw' H=>cg H g8,?_⟩,λhq=>⟨Ex.trans G W,ε _ _ (Ex.trans G W) hq.symm θ⟩⟩
  refine Cj (D:=D) (ts:=[]) (ca:=[ptr b3]) (p:=λ _=>false) (.inl ⟨rfl,rfl⟩) (by kernel_rfl) (λi z w1 hi=>by simp at hi) (by simp) λw45 ζ=>⟨Ex.trans (Ex.trans G W) ζ,ε _ _ (Ex.trans (Ex.trans G W) ζ) (by rw [hq];rfl) θ⟩
 ·obtain⟨_,_,a',b',vp,us,e,η,hsl,φ,_⟩:=h.ex x4;obtain⟨rfl,_⟩:=J3 e;simp only [Lv.sz]at hn μ;obtain⟨g,rfl,g2,g3,g4,g5,g6,g7,g8⟩:=η;have cg:∀{i:Nat} {u:Value} {w':World},Ex V w'->V.cell? ⟨g,i,none⟩=some u->w'.cell? ⟨g,i,none⟩=some u:=λH h=>by rw [H.cell (show g< _ from g3)];exact h
  refine⟨λq w'=>Ex V w'/\q=false,⟨g,0,rfl,_,g4,cC (by decide) ⟨g,0,rfl,_,g4,cC (by decide) ⟨g,0,rfl,_,g4,Ex.refl _,rfl⟩⟩⟩,λq Z hJ=>?_⟩;obtain⟨α,rfl⟩:=hJ;refine⟨λw'=>Ex V w',⟨λw'=>Ex V w',λο I=>⟨I▸Ex.trans α (Ex.drew Z),λι=>(by cases ι),λς=>I▸Ex.trans α (Ex.drew Z)⟩⟩,λγ δ=>?_⟩;have G:Ex V γ.drew:=Ex.trans δ (Ex.drew γ);refine⟨λw'=>Ex V w',λυ J=>⟨J▸G,g,0,rfl,_,λw' H=>cg H g7,_,rfl,λhc=>(by cases hc),λ _=>⟨J▸G,g,0,rfl,vp,λw' H=>cg H g8,?_⟩⟩⟩;subst J;have hlen:=φ.len;have :=nc ps;refine Cj (ca:=[ptr b3]) (hsl.ex G) (by kernel_rfl) (D7 ht (by omega) ω (φ.ex G) (by omega) (by have :=G.size;omega) (by rw [G.cell (show b3< _ from l4)];exact c4)) (by omega) λw5 x5=>⟨Ex.trans G x5,?_⟩
  rw [hlen,<-Lv.cK,uG,<-Lv.lU];have :=hR w5 (Ex.trans x4 (Ex.trans G x5));simpa [Lv.has]using this
theorem y6:∀n,zP n
 | 0=>by
  intro z G h H J;rcases G with⟨k,a,b,o,r,rfl,hr⟩ | ⟨V,rfl,I⟩<;>simp [Lv.sz]at z
 | n+1=>Bl (uo (y6 n))
theorem Hb (n:Nat):Ae n:=uo (y6 n)
namespace Lv
def tot:Lv->Nat
 | nil=>0 | thr _ _ _ o r n=>o.length+r.tot+n.tot+1 | sum z n=>z.tot+n.tot+1 | part o q n=>o.length+q.tot+n.tot+1
theorem jo:∀l:Lv,l.sz<=l.tot
 | nil=>Jc _
 | thr _ _ _ o r n=>by have :=jo r;have :=jo n;simp only [sz,tot];omega
 | sum z n=>by have :=jo z;have :=jo n;simp only [sz,tot];omega
 | part o q n=>by have :=jo q;have :=jo n;simp only [sz,tot];omega
theorem bT:∀l m:Lv,(l.app m).tot=l.tot+m.tot
 | nil,m=>by simp [app,tot]
 | thr _ _ _ o r n,m=>by simp only [app,tot,bT n m];omega
 | sum z n,m=>by simp only [app,tot,bT n m];omega
 | part o q n,m=>by simp only [app,tot,bT n m];omega
def take:Nat->Lv->Lv
 | 0,_=>nil
 | _+1,nil=>nil
 | i+1,thr k a b o r n=>thr k a b o r (n.take i)
 | i+1,sum z n=>sum z (n.take i)
 | i+1,part o q n=>part o q (n.take i)
theorem take_succ:∀(l:Lv) (i:Nat) (h:i< l.bk.length),l.take (i+1)=(l.take i).app (l.bk[i])
 | nil,_,h=>by simp [bk]at h
 | thr k a b o r n,0,_=>by simp [take,bk,app]
 | sum z n,0,_=>by simp [take,bk,app]
 | part o q n,0,_=>by simp [take,bk,app]
 | thr k a b o r n,i+1,h=>by
  simp only [bk,IW]at h;have :=take_succ n i (by omega);rw [take,this];rfl
 | sum z n,i+1,h=>by
  simp only [bk,IW]at h;have :=take_succ n i (by omega);rw [take,this];rfl
 | part o q n,i+1,h=>by
  simp only [bk,IW]at h;have :=take_succ n i (by omega);rw [take,this];rfl
theorem df:∀(l:Lv),l.take l.bk.length=l
 | nil=>rfl
 | thr k a b o r n=>by simp only [bk,IW,take,df n]
 | sum z n=>by simp only [bk,IW,take,df n]
 | part o q n=>by simp only [bk,IW,take,df n]
theorem oE {b:Bool}:∀(l:Lv) (i:Nat),l.sh b=true->(l.take i).sh b=true
 | _,0,_=>rfl
 | nil,_+1,_=>rfl
 | thr _ _ _ _ r n,i+1,h=>by
  cases b
  ·cases h
  ·simp only [sh,take,IZ]at*;exact⟨h.1,oE n i h.2⟩
 | sum z n,i+1,h=>by
  cases b
  ·cases h
  ·simp only [sh,take,IZ]at*;exact⟨h.1,oE n i h.2⟩
 | part o q n,i+1,h=>by
  cases b
  ·simp only [sh,take,IZ]at*;exact⟨h.1,oE n i h.2⟩
  ·cases h
theorem fe:∀(l:Lv) (i:Nat),(l.take i).tot<=l.tot
 | _,0=>JS _
 | nil,_+1=>Jc _
 | thr _ _ _ _ r n,i+1=>by have :=fe n i;simp only [take,tot];omega
 | sum z n,i+1=>by have :=fe n i;simp only [take,tot];omega
 | part o q n,i+1=>by have :=fe n i;simp only [take,tot];omega
theorem fU:∀(l:Lv),∀e∈l.bk,e.tot<=l.tot
 | nil,_,h=>by cases h
 | thr k a b o r n,e,h=>by
  rcases Jm.1 h with rfl | h
  ·simp only [tot];omega
  ·have :=fU n e h;simp only [tot];omega
 | sum z n,e,h=>by
  rcases Jm.1 h with rfl | h
  ·simp only [tot];omega
  ·have :=fU n e h;simp only [tot];omega
 | part o q n,e,h=>by
  rcases Jm.1 h with rfl | h
  ·simp only [tot];omega
  ·have :=fU n e h;simp only [tot];omega
theorem mg:∀{l:Lv},l.sh true=true->l.fv=true
 | nil,_=>rfl
 | thr _ _ _ _ r n,h=>by simp only [sh,IZ]at h;exact mg (l:=n) h.2
 | sum z n,h=>by simp only [sh,IZ]at h;exact mg (l:=n) h.2
 | part ..,h=>by cases h
theorem sN (o:List Nat)(r:List Nat×Lv):(kept o r).1.length+(kept o r).2.tot<=o.length+r.1.length+r.2.tot:=by
 unfold kept;have :=K2 (λx=>r.2.has x) (o++r.1);rw [I']at this;dsimp only;omega
theorem lV (o:List Nat)(q m:Lv):prt o q m=(prt o q nil).app m:=by
 unfold prt;split
 ·rfl
 ·split
  ·rw [aW]
  ·rfl
 ·rfl
theorem eh:∀(l:Lv),(tid l).1.length+(tid l).2.tot<=l.tot
 | nil=>Jc _
 | thr k a b o r n=>by
  have z:=eh r;have G:=eh n;have I:=sN o (tid r);simp only [tid,tot];split
  ·simp only [I',bT];omega
  ·split
   ·omega
   ·simp only [tot];omega
 | sum H n=>by
  have z:=eh H;have G:=eh n;simp only [tid,tot];unfold spl;split
  ·omega
  ·rename_i o q e;rw [e]at z;simp only [tot]at z;simp only [I',bT];omega
  ·simp only [tot];omega
 | part o q n=>by
  have z:=eh q;have G:=eh n;have I:=sN o (tid q);simp only [tid,tot];rw [lV,bT];have:(prt (kept o (tid q)).1 (kept o (tid q)).2 nil).tot<=(kept o (tid q)).1.length+(kept o (tid q)).2.tot+1:=by
   unfold prt;split
   ·simp [tot]
   ·rename_i H e;rw [e];split
    ·simp only [bT,tot];omega
    ·simp only [tot];omega
   ·simp only [tot];omega
  simp only [Jh];omega
theorem xV:∀{l:Lv} (m:Lv),l.sh false=true->(tid (l.app m)).2=(tid l).2.app (tid m).2
 | nil,m,_=>rfl
 | part o q n,m,h=>by
  simp only [sh,IZ]at h;simp only [app,tid,xV m h.2];rw [lV,lV _ _ (tid n).2,cB]
 | thr ..,_,h=>by cases h
 | sum ..,_,h=>by cases h
theorem dH:∀(l:Lv) (b:Bool),l.sh b=true->(tid l).2.sh b=true
 | nil,b,_=>by cases b<;>rfl
 | thr k a I o r n,b,h=>by
  cases b
  ·cases h
  ·simp only [sh,IZ]at h;simp only [tid];split
   ·exact gD (dH r true h.1) (dH n true h.2)
   ·split
    ·exact dH n true h.2
    ·simp only [sh,IZ];exact⟨dH r true h.1,dH n true h.2⟩
 | sum H n,b,h=>by
  cases b
  ·cases h
  ·simp only [sh,IZ]at h;have z:=dH H false h.1;have G:=dH n true h.2;simp only [tid];unfold spl;split
   ·exact G
   ·rename_i o q e;rw [e]at z;simp only [sh,IZ]at z;exact gD z.1 G
   ·simp only [sh,IZ];exact⟨z,G⟩
 | part o q n,b,h=>by
  cases b
  ·simp only [sh,IZ]at h;have z:=dH q true h.1;have G:=dH n false h.2;simp only [tid];rw [lV];refine gD ?_ G;unfold prt;split
   ·rfl
   ·rename_i H e;have z:(kept o (tid q)).2.sh true=true:=z;rw [e]at z;simp only [sh,IZ]at z;split
    ·rw [aW];exact z.1
    ·simp only [sh,IZ];exact⟨by rw [e];simp [sh,z.1],trivial⟩
   ·simp only [sh,IZ];exact⟨z,trivial⟩
  ·cases h
end Lv
theorem aI.fr {e B:Nat}{w:World}{v:Value}{l:List Value}(h:aI e B w v l){g:Nat}(G:v.ownBlock=some g)(j:Nat):w.frozen? ⟨g,j,none⟩=false:=by
 rcases h.2 with⟨rfl,I⟩ | ⟨H,cap,cur,rfl,hb,z,_⟩
 ·cases G
 ·have e:H=g:=JO G;subst e;unfold World.frozen?;simp only [z];simp
theorem vQ {D:Nat->Prop}{w:World}{v:Value}{o:List Nat}(h:dW D w v (o.map iv))(Z:o.length<=1099511627776){R:Value->World->Prop}(J:∀v' w',Ex w w'->aI 3 w.heap.size w' v' (o.map iv)->R v' w'):
  Calls Tryz.prog 180 #[v] w (an [.v] R):=by
 refine mz v w R ?_;rcases id h with⟨rfl,e⟩ | ⟨b,off,cap,rfl,h1,h2,h3⟩
 ·exact⟨_,_,_,rfl,λ _=>J _ _ (Ex.refl w) (e▸aI.nil _ _ _),λh=>(by cases h)⟩
 ·refine⟨_,_,_,rfl,λh=>(by cases h),λ _ b5 V H z=>?_⟩;have G:Ex w V:=z▸Ex.alloc w _;have ho:aI 3 w.heap.size V (.slice (some ⟨b5,0,none⟩) 0 0) []:=by
   subst H z;refine⟨rfl,.inr ⟨_,0,#[],rfl,Jc _,?_,by simp,by unfold maxLen;omega,rfl,rfl⟩⟩;unfold World.alloc;simp
  refine aI.push ho G.size (h.ex G) (DG o) (by omega) (by simp;exact Z) λv' w' I W hn=>J v' w' ?_ I
  refine Ex.below G (Kp.below (S:=λg=>g=b5) (Kp.aR W λg e=>(JO e).symm) G.size λg W e=>by omega)
theorem aY {b:Nat}:∀(cs:List Value) (w:World) (off:Nat),Kr b w (w.setCells b off cs)/\(∀g j,(w.setCells b off cs).frozen? ⟨g,j,none⟩=w.frozen? ⟨g,j,none⟩)/\(∀j,j< off->(w.setCells b off cs).cell? ⟨b,j,none⟩=w.cell? ⟨b,j,none⟩)/\
  ∀j,(∀i,i< cs.length->∃u,w.cell? ⟨b,off+i,none⟩=some u)->j< cs.length->(w.setCells b off cs).cell? ⟨b,off+j,none⟩=cs[j]?
 | [],w,off=>⟨Kr.refl b w,λ _ _=>rfl,λ _ _=>rfl,λ _ _ h=>by simp at h⟩
 | c::cs,w,off=>by
  obtain⟨H,I,z,h4⟩:=aY cs (w.setCell ⟨b,off,none⟩ c) (off+1);refine⟨Kr.trans (Kr.set w off c) H,λg j=>(I g j).trans (Jl _ _ _ _),λj G=>(z j (by omega)).trans (I4 _ _ _ _ λe=>by injection e with J V;omega),λj hu G=>?_⟩;cases j with
  | zero=>
   obtain⟨u,hu⟩:=hu 0 (by simp);exact(z off (by omega)).trans (Jk _ _ _ hu)
  | succ j=>
   have :=h4 j (λi W=>by
    obtain⟨u,hu⟩:=hu (i+1) (by simpa using W);refine⟨u,?_⟩;rw [I4 _ _ _ _ (λe=>by injection e with J V;omega),show off+1+i=off+(i+1) by omega];exact hu) (by simpa using G)
   rw [show off+1+j=off+(j+1) by omega]at this;exact this
theorem dW.HA {D:Nat->Prop}{w:World}{v:Value}{o:List Nat}(h:dW D w v (o.map iv)){i:Int}{x:Nat}(z:0<=i)(G:o[i.toNat]?=some x){Q:Int->Prop}(H:Q x):
  ∃(b off len cap:Nat),v=Value.slice (some ⟨b,off,none⟩) len cap/\0<=i/\i< (len:Int)/\∃n:Int,World.cell? w ⟨b,off+Int.toNat i* 1,none⟩=some (.int .i64 n)/\Q n:=by
 obtain⟨b,off,len,cap,I,J,V,s,h4,h5⟩:=h.get (i:=i) (x:=iv x) (Q:=λs=>s=iv x) z (by rw [K0,G];rfl) rfl;exact⟨b,off,len,cap,I,J,V,x,by rw [h4,h5],H⟩
def Ho (w:World)(S:Nat->Prop)(f:Nat)(ca:List Value)(p:Nat->Bool):Prop:=
 ∀(x:Nat) (w1:World),Kp w w1 S->∀{R:Bool->World->Prop},(∀w2,Ex w1 w2->R (p x) w2)->Calls Tryz.prog f (List.toArray ([iv x]++ca)) w1 (an [.b] R)
theorem Hk {D S:Nat->Prop}{w:World}{s:Value}{o:List Nat}(W:dW D w s (o.map iv)){f:Nat}{ca:List Value}(hf:dC.contains f=true){p:Nat->Bool}(hp:Ho w S f ca p)(hl:o.length<=1099511627776){R:Int->World->Prop}
  (Z:∀(n:Int) w',Ex w w'->((n= -1/\∀x∈o,p x=false)\/(∃i:Nat,n=i/\i< o.length/\(∀x∈o.take i,p x=false)/\∀x,o[i]?=some x->p x=true))->R n w'):
  Calls Tryz.prog 218 #[s,.func (.func f) #[] (List.toArray ca)] w (an [.i] R):=by
 refine iX _ _ w R ?_;obtain⟨a,cap,e⟩:=W.slice;rw [Ju]at e;refine⟨a,_,cap,e,λx w'=>∃i:Nat,x=i/\i<=o.length/\Ex w w'/\∀x∈o.take i,p x=false,λx _=>(o.length - x).toNat,⟨0,rfl,by omega,Ex.refl w,λj h=>by simp at h⟩,λx w1 hI=>?_⟩;obtain⟨i,rfl,hi,G,J⟩:=hI;refine⟨λH=>?_,λH=>?_⟩
 ·have H:=Jq H;have z:i< o.length:=by omega
  refine(W.ex G).HA (i:=i) (x:=o[i]) (by omega) (by simp [z]) ⟨f,ca,rfl,hf,hp o[i] w1 (Kp.ah G _) λw2 I=>⟨λV=>?_,λV=>⟨by unfold aj;omega,⟨i+1,by omega,by omega,Ex.trans G I,λx hj=>?_⟩,by dsimp only;omega⟩⟩⟩
  ·exact Z _ w2 (Ex.trans G I) (.inr ⟨i,rfl,z,J,λx G=>by rw [IY z]at G;cases G;exact V⟩)
  ·rw [Jb z]at hj;rcases Jf.1 hj with h | h
   ·exact J x h
   ·rw [Jg.1 h];exact V
 ·have H:=Jr H;have:i=o.length:=by omega
  subst this;rw [Jy]at J;exact Z _ w1 G (.inl ⟨rfl,J⟩)
theorem B4 {B:Nat}{w:World}{s:Value}{o:List Nat}(h:aI 3 B w s (o.map iv)){f:Nat}{ca:List Value}(hf:dC.contains f=true){p:Nat->Bool}(hp:Ho w (λg=>s.ownBlock=some g) f ca p)(hl:o.length<=1099511627776){R:Value->World->Prop}
  (hR:∀v' w',oneV v'=true->Kp w w' (λg=>s.ownBlock=some g)->dW (λg=>s.ownBlock=some g) w' v' ((o.filter λx=> !p x).map iv)->R v' w'):
  Calls Tryz.prog 183 #[s,.func (.func f) #[] (List.toArray ca)] w (an [.v] R):=by
 refine iC _ _ w R ?_;have δ:dW (λg=>s.ownBlock=some g) w s (o.map iv):=h.Bo λg hg=>hg
 have κ:oneV s=true:=by
  rcases h.2 with⟨rfl,_⟩ | ⟨g,cap,cur,rfl,_⟩<;>rfl
 refine Hk δ hf hp hl λn w1 x1 hn=>⟨λV=>?_,λV=>?_⟩
 ·have V:n= -1:=Jq V;rcases hn with⟨_,hn⟩ | ⟨i,e,_⟩
  ·refine hR _ _ κ (Kp.ah x1 _) ?_;rw [L9.2 λx Z=>by simp [hn x Z]];exact δ.ex x1
  ·omega
 have V:¬n= -1:=Jr V;obtain⟨i0,rfl,ε,hn,μ⟩:∃i:Nat,n=i/\i< o.length/\(∀x∈o.take i,p x=false)/\∀x,o[i]?=some x->p x=true:=by
  rcases hn with⟨e,_⟩ | h
  ·exact absurd e V
  ·exact h
 rcases id h.2 with⟨rfl,θ⟩ | ⟨g,cap,cur,rfl,hb,hg,hle,φ,χ,ψ⟩
 ·simp at θ;subst θ;simp at ε
 rw [Ju]at*;have ζ:∀t,t< o.length->∃x,w1.cell? ⟨g,t,none⟩=some (iv x)/\o[t]?=some x:=λt z=>by
  rcases δ.ex x1 with⟨e,_⟩ | ⟨b',off,υ,e,h1,h2,h3⟩
  ·cases e
  ·injection e with e1 e2 e3
   injection e1 with e1
   injection e1 with e1 e4
   subst e1 e4;have :=h3 t (iv o[t]) (by simp [z]);rw [JC]at this;exact⟨_,this,IY z⟩
 have ν:∀t,w1.frozen? ⟨g,t,none⟩=false:=λt=>by
  rw [Jz (w:=w) (x1.block g (JM.1 hg).1)];exact h.fr rfl t
 let q:Nat->Bool:=λx=> !p x
 refine⟨by unfold aj;omega,λi j w'=>∃(G H:Nat) (c:Nat->Nat),i=G/\j=H/\G< H/\H<=o.length/\Kp w w' (λx=>g=x)/\(∀t,t< o.length->w'.cell? ⟨g,t,none⟩=some (iv (c t)))/\(∀t,w'.frozen? ⟨g,t,none⟩=false)/\
  (List.range G).map c=(o.take H).filter q/\∀t,H<=t->t< o.length->o[t]?=some (c t),λ _ j _=>(o.length - j).toNat,?_,λi j w2 hI=>?_⟩
 ·refine⟨i0,i0+1,λt=>(o[t]?).getD 0,rfl,by omega,by omega,by omega,Kp.ah x1 _,λt z=>?_,ν,?_,λt _ z=>by simp [z]⟩
  ·obtain⟨x,h1,h2⟩:=ζ t z;show w1.cell? _=some (iv ((o[t]?).getD 0));rw [h2];exact h1
  ·have e1:(List.range i0).map (λt=>(o[t]?).getD 0)=o.take i0:=by
    refine List.ext_getElem? λt=>?_
    rw [K0,Lh];by_cases z:t< i0
    ·have ξ:t< o.length:=by omega
     rw [JB z];simp [z,ξ]
    ·rw [Jn z,List.getElem?_eq_none (by simp;omega)];rfl
   rw [e1,Jb ε,KM,L9.2 λx Z=>by simp [q,hn x Z]];have :=μ _ (IY ε);simp [q,this]
 ·obtain⟨G,H,c,rfl,rfl,ω,hj,k2,I,γ,hm,hd⟩:=hI;refine⟨_,_,_,rfl,λV=>?_,λV=>?_⟩
  ·have V:=Jq V;have J:H< o.length:=by omega
   have Z:=hd H (Jc _) J;refine⟨g,0,_,_,rfl,by omega,V,(c H:Int),?_,f,ca,rfl,hf,hp (c H) w2 (Kp.mono (λx e=>Ka some e) k2) λw3 x3=>⟨λhq=>?_,λhq=>?_⟩⟩
   ·rw [JC,JE,Ja];exact I H J
   ·have hq:q (c H)=true:=hq;have W:g< w2.heap.size:=Jt (JM.1 hg).1 k2.size;have α:=x3.block g W;refine⟨g,0,_,_,rfl,by omega,by omega,⟨⟨iv (c G),?_⟩,?_⟩,λw4 η=>⟨by unfold aj;omega,by unfold aj;omega,⟨G+1,H+1,aE c G (c H),by omega,by omega,by omega,by omega,?_,λt z=>?_,λt=>?_,?_,λt h1 h2=>?_⟩,by dsimp only;omega⟩⟩
    ·rw [JC,JE,Ja,IX (w:=w2) α];exact I G (by omega)
    ·rw [Jz (w:=w2) α];exact γ _
    ·rw [η];exact Kp.set (S:=λx=>g=x) (Kp.trans k2 (Kp.ah x3 λ _=>False) λ _ _ h=>h.elim) rfl _
    ·rw [η,JC,JE,Ja];by_cases e:t=G
     ·subst e;have:aE c t (c H) t=c H:=by simp [aE]
      rw [this];refine Jk _ _ _ (u:=iv (c t)) ?_;rw [IX (w:=w2) α];exact I t z
     ·have:aE c G (c H) t=c t:=by simp [aE,e]
      rw [this,I4 _ _ _ _ (λh=>by injection h with h1 h2;exact e h2.symm),IX (w:=w2) α];exact I t z
    ·rw [η,Jl,Jz (w:=w2) α];exact γ t
    ·rw [Ln,JY,Jb J,KM,<-hm];rw [IY J]at Z;have e0:o[H]=c H:=JO Z;rw [e0]
     congr 1
     ·refine Kg λt z=>?_
      have:t≠G:=by have :=Ku.1 z;omega
      simp [aE,this]
     ·simp [aE,hq]
    ·have:t≠G:=by omega
     rw [hd t (by omega) h2];simp [aE,this]
   ·have hq:q (c H)=false:=hq;refine⟨by unfold aj;omega,⟨G,H+1,c,rfl,by omega,by omega,by omega,Kp.trans k2 (Kp.ah x3 λ _=>False) (λ _ _ h=>h.elim),λt z=>?_,λt=>?_,?_,λt h1 h2=>hd t (by omega) h2⟩,by dsimp only;omega⟩
    ·have W:g< w2.heap.size:=Jt (JM.1 hg).1 k2.size;rw [x3.cell (show g< _ from W)];exact I t z
    ·have W:g< w2.heap.size:=Jt (JM.1 hg).1 k2.size;rw [Jz (w:=w2) (x3.block g W)];exact γ t
    ·rw [Jb J,KM,hm];rw [IY J]at Z;have e0:o[H]=c H:=JO Z;rw [e0];simp [hq]
  ·have V:=Jr V;have J:H=o.length:=by omega
   subst J;rw [Jy]at hm;have W:g< w2.heap.size:=Jt (JM.1 hg).1 k2.size;have ez:Int.toNat 0=0:=rfl;have hlen:G=(o.filter q).length:=by rw [<-hm];simp
   have fin:∀w',Kp w w' (λx=>g=x)->(∀t,t< G->w'.cell? ⟨g,t,none⟩=some (iv (c t)))->R (Value.slice (if cap=Int.toNat 0 then some (⟨g,0,none⟩:Addr)else Option.map (λa:Addr=>a.add (Int.toNat 0* 1)) (some (⟨g,0,none⟩:Addr))) (Int.toNat (G:Int) - Int.toNat 0) (cap - Int.toNat 0)) w':=by
    intro w' k ο;have e:(if cap=Int.toNat 0 then some (⟨g,0,none⟩:Addr)else Option.map (λq:Addr=>q.add (Int.toNat 0* 1)) (some (⟨g,0,none⟩:Addr)))=some ⟨g,0,none⟩:=by
     split
     ·rfl
     ·simp [Addr.add,ez]
    rw [e,ez];refine hR _ _ rfl (Kp.mono (λx e=>Ka some e) k) (.inr ⟨g,0,cap - 0,?_,rfl,Jt (JM.1 hg).1 k.size,λt x Z=>?_⟩)
    ·congr 1
     rw [Ju];show G - 0=(o.filter q).length;omega
    ·have Z:(o.filter q).map iv=(o.filter λx=> !p x).map iv:=rfl;rename_i β;rw [<-Z,<-hm,K0,K0]at β;rw [JC];by_cases z:t< G
     ·rw [List.getElem?_range z]at β;cases β;exact ο t z
     ·rw [List.getElem?_eq_none (by simp;omega)]at β;cases β
   refine⟨_,_,_,rfl,by omega,by omega,by omega,_,_,_,rfl,?_⟩;by_cases h0:o.length - G=0
   ·refine .inl ⟨by rw [Ja,Ja];exact h0,_,_,_,rfl,by omega,by omega,by omega,fin w2 k2 λt z=>I t (by omega)⟩
   ·have ς:¬cap=G:=by omega
    refine .inr ⟨g,G,?_,λt z=>⟨⟨_,I (G+t) (by rw [Ja,Ja]at z;omega)⟩,γ _⟩,λw3 ι=>⟨_,_,_,rfl,by omega,by omega,by omega,fin w3 ?_ λt z=>?_⟩⟩
    ·rw [Ja,Jn ς];simp only [KT,Addr.add];simp
     try omega
    ·rw [ι];exact Kp.trans k2 (aY _ w2 G).1 λx _ e=>e.symm
    ·rw [ι,(aY _ w2 G).2.2.1 t z];exact I t (by omega)
def Lv.isSum1:Lv->Bool
 | .sum _ .nil=>true
 | _=>false
theorem vV (o:List Nat)(q:Lv):Lv.prt o q .nil=if q.isNil=true then .nil else if(o.isEmpty&&q.isSum1)=true then(match q with | .sum z .nil=>z | q=> .part o q .nil)else .part o q .nil:=by
 cases q with
 | nil=>rfl
 | thr k a b G r n=>cases o<;>rfl
 | part G H n=>cases o<;>rfl
 | sum z n=>
  cases n with
  | nil=>cases o<;>simp [Lv.prt,Lv.isNil,Lv.isSum1,Lv.aW]
  | thr=>cases o<;>rfl
  | sum=>cases o<;>rfl
  | part=>cases o<;>rfl
section
variable {D:Nat->Prop} {w:World} {v:Value} {o:List Nat} {l:Lv}
theorem lJ (h:fS D w v o (af D w l)){R:Bool->World->Prop}(z:R l.isNil w):Calls Tryz.prog 181 #[v] w (an [.b] R):=by
 refine j4 v w R ?_;obtain⟨b,vo,vt,ts,rfl,I,J,h4,h5,V,G,H⟩:=h;obtain⟨a,cap,e⟩:=G.slice;refine⟨b,0,rfl,vt,h5,a,_,cap,e,?_⟩;have:decide ((ts.length:Int)=0)=l.isNil:=by
  rw [H.len,Lv.du,J1];simp only [I0];omega
 dsimp only;rw [this];exact z
theorem Ek (h:fS D w v o (af D w l))(hs:l.sh true=true){R:Bool->World->Prop}(G:R (o.isEmpty&&l.isSum1) w):Calls Tryz.prog 182 #[v] w (an [.b] R):=by
 refine mv v w R ?_;obtain⟨b,vo,vt,ts,rfl,h2,h3,h4,h5,h6,J,V⟩:=h;obtain⟨a,cap,e⟩:=h6.slice;obtain⟨a',I,e'⟩:=J.slice;rw [Ju]at e;have hlen:=V.len;refine⟨b,0,rfl,vo,h4,a,_,cap,e,λH=>⟨b,0,rfl,vt,h5,a',_,I,e',λz=>?_,λz=>?_⟩,λH=>?_⟩
 ·have H:=Jq H;have z:=Jq z;have ho:o.isEmpty=true:=by
   rw [L4];exact Jv (by omega)
  rw [ho,KO]at G;cases l with
  | nil=>
   have:ts.length=0:=hlen;omega
  | thr k x y o' r n=>
   have W:n= .nil:=by
    have:n.len=0:=by simp only [Lv.len]at hlen;omega
    cases n<;>first | rfl | simp [Lv.len]at this
   subst W;obtain⟨t,Z,a1,b1,vr,rfl,⟨g,rfl,g2,g3,g4,_⟩,_⟩:=V;refine⟨b,0,rfl,vt,h5,J.get (i:=0) (x:=ptr g) (by omega) rfl ⟨g,0,rfl,_,g4,?_⟩⟩;have:decide (k.byte=43)=false:=by cases k<;>rfl
   dsimp only;rw [this];exact G
  | sum ps n=>
   have W:n= .nil:=by
    have:n.len=0:=by simp only [Lv.len]at hlen;omega
    cases n<;>first | rfl | simp [Lv.len]at this
   subst W;obtain⟨t,Z,a1,b1,vp,us,rfl,⟨g,rfl,g2,g3,g4,_⟩,_⟩:=V;exact⟨b,0,rfl,vt,h5,J.get (i:=0) (x:=ptr g) (by omega) rfl ⟨g,0,rfl,_,g4,G⟩⟩
  | part o' q n=>cases hs
 ·have z:=Jr z;have:l.isSum1=false:=by
   cases l with
   | sum ps n=>
    cases n with
    | nil=>
     have:ts.length=1:=hlen;omega
    | _=>rfl
   | _=>rfl
  rw [this,Bool.and_false]at G;exact G
 ·have H:=Jr H;have:o.isEmpty=false:=by
   cases o with
   | nil=>simp at H
   | cons=>rfl
  rw [this,Mi]at G;exact G
end
structure TI (w w':World)(b7 b9:Nat)(O:List Nat)(L:Lv)(ts:List Value)(M X:Nat->Prop):Prop where
 ex:Ex w w'
 bd:jW w.heap.size w' b7 O ts M
 th:af (λg=>(w.heap.size<=g/\¬M g/\¬X g)/\g< w'.heap.size) w' L ts
 c9:w'.cell? ⟨b9,0,none⟩=some (ptr b7)
 l9:b9< w'.heap.size
 h9:w.heap.size<=b9
 x9:X b9
 mx:∀g,M g->¬X g
 xl:∀g,X g->g< w'.heap.size
section
variable {w w' w'':World} {b7 b9:Nat} {O:List Nat} {L:Lv} {ts:List Value} {M X Y:Nat->Prop}
theorem TI.H9 (h:TI w w' b7 b9 O L ts M X){S:Nat->Prop}(k:Kp w' w'' S)(H:∀g,S g->X g/\g≠b9/\w.heap.size<=g)(V:∀g,X g->Y g)(G:∀g,Y g->X g\/(w'.heap.size<=g/\g< w''.heap.size)):TI w w'' b7 b9 O L ts M Y:=by
 have J:∀g,g< w'.heap.size->¬X g->¬Y g:=λg z I W=>(G g W).elim I λh=>by omega
 refine⟨Ex.below h.ex (Kp.below k h.ex.size λg z e=>by have :=(H g e).2.2;omega),h.bd.kp k λg z e=>h.mx g z (H g e).1,?_,?_,Jt h.l9 k.size,h.h9,V b9 h.x9,λg z=>J g (h.bd.mr g z).2 (h.mx g z),λg z=>(G g z).elim (λI=>Jt (h.xl g I) k.size) λh=>h.2⟩
 ·refine af.sub (λg _ z=>⟨⟨z.1.1,z.1.2.1,J g z.2 z.1.2.2⟩,Jt z.2 k.size⟩) (af.kp k (λg z e=>z.1.2.2 (H g e).1) h.th)
 ·rw [IX (w:=w') (k.block b9 h.l9 λe=>(H b9 e).2.1 rfl)];exact h.c9
theorem TI.IB (h:TI w w' b7 b9 O L ts M X){S:Nat->Prop}(k:Kp w' w'' S)(z:∀g,S g->X g/\g≠b9/\w.heap.size<=g):TI w w'' b7 b9 O L ts M X:=h.H9 k z (λ _ h=>h) λ _ h=> .inl h
theorem TI.ext (h:TI w w' b7 b9 O L ts M X)(x:Ex w' w''):TI w w'' b7 b9 O L ts M X:=h.IB (Kp.ah x λ _=>False) λ _ h=>h.elim
theorem TI.B0 (h:TI w w' b7 b9 O L ts M X)(z:∀g,Y g->X g)(I:Y b9):TI w w' b7 b9 O L ts M Y:=
 ⟨h.ex,h.bd,af.sub (λg H hd=>⟨⟨hd.1.1,hd.1.2.1,λG=>hd.1.2.2 (z g G)⟩,hd.2⟩) h.th,h.c9,h.l9,h.h9,I,λg hm G=>h.mx g hm (z g G),λg H=>h.xl g (z g H)⟩
theorem TI.DA (h:TI w w' b7 b9 O L ts M X){D2:Nat->Prop}{v2:Value}{O2:List Nat}{L2:Lv}(hl:aB D2 w' (O2,L2) v2)(hd:∀g,g< w'.heap.size->D2 g->w.heap.size<=g/\¬M g/\¬X g)
  (hb:O.length+O2.length<=1099511627776/\ts.length+L2.len<=1099511627776) {R:World->Prop} (hR:∀w'' W V,TI w w'' b7 b9 (O++O2) (L.app L2) W V X->Kp w' w'' M->R w''):
  Calls Tryz.prog 179 #[ptr b7,v2] w' (an [] R):=by
 obtain⟨Z,α,G⟩:=aB.ths (hl.sub (E:=λg=>(w.heap.size<=g/\¬M g/\¬X g)/\g< w'.heap.size) λg z β=>⟨hd g z β,z⟩);have I:=h.ex.size;refine rQ h.bd I α G.all (λg z=>z.1.2.1) ⟨hb.1,by rw [G.len];exact hb.2⟩ λw3 V H γ J=>hR w3 (ts++Z) V ⟨?_,γ,?_,?_,Jt h.l9 H.size,h.h9,h.x9,?_,λg z=>Jt (h.xl g z) H.size⟩ H
 ·exact Ex.below h.ex (Kp.below H I λg z e=>by have :=(h.bd.mr g e).1;omega)
 ·have key:∀{l:Lv} {us:List Value},af (λg=>(w.heap.size<=g/\¬M g/\¬X g)/\g< w'.heap.size) w' l us->af (λg=>(w.heap.size<=g/\¬V g/\¬X g)/\g< w3.heap.size) w3 l us:=λht=>
   af.sub (λg _ z=>⟨⟨z.1.1,λhm=>(J g hm).elim z.1.2.1 λh=>by omega,z.1.2.2⟩,Jt z.2 H.size⟩) (af.kp H (λg z=>z.1.2.1) ht)
  exact af.app (key h.th) (key G)
 ·rw [IX (w:=w') (H.block b9 h.l9 λe=>h.mx b9 e h.x9)];exact h.c9
 ·intro g hm hx;rcases J g hm with h1 | h1
  ·exact h.mx g h1 hx
  ·have :=h.xl g hx;omega
end
section
variable {w w':World} {b7 b9:Nat} {O:List Nat} {L:Lv} {ts:List Value} {M X:Nat->Prop}
theorem TI.push (h:TI w w' b7 b9 O L ts M X){g:Nat}{e:Lv}(he:af (λg=>(w.heap.size<=g/\¬M g/\¬X g)/\g< w'.heap.size) w' e [ptr g])(hl:ts.length+1<=1099511627776){K:World->Prop}(hK:∀w'' ts' M',TI w w'' b7 b9 O (L.app e) ts' M' X->K w''):
  ∃I:World->Prop,∀W:World,W=World.drew w'->I W/\∃v168:Value,(∀w',I w'->World.cell? w' ⟨b9,0,none⟩=some v168)/\∃θ:Value,(∀w',I w'->World.cell? w' ⟨b9,0,none⟩=some θ)/\∃(ι κ:Nat),θ=Value.pointer (some ⟨ι,κ,none⟩)/\
   ∃Z:Value,(∀w',I w'->World.cell? w' ⟨ι,(κ+1),none⟩=some Z)/\∀(μ:Nat) (G:World),μ=Array.size (World.heap W)->G=World.alloc W (Obj.cells #[(Value.pointer (some ⟨g,0,none⟩))] 156)->I G/\
   ∃(H n176 α:Nat) (ζ V:List Value),World.ownsRow G H 156 1 Z n176 ζ/\H<=Array.size (World.heap G)/\dK G (Value.slice (some ⟨μ,0,none⟩) 1 1) α 1 V/\(n176+α<=maxLen/\(n176+α)* 8<=140737488355328)/\
   ∀(β:Value) (J:World),World.ownsRow J H 156 1 β (n176+α) (ζ++V)->World.grownBy G J (Value.ownBlock Z)->(∀b:Nat,Value.ownBlock β=some b->Value.ownBlock Z=some b\/Array.size (World.heap G)<=b)->I J/\
   ∃(γ δ:Nat),v168=Value.pointer (some ⟨γ,δ,none⟩)/\oneV β=true/\((∃χ:Value,World.cell? J ⟨γ,(δ+1),none⟩=some χ)/\World.frozen? J ⟨γ,(δ+1),none⟩=false)/\∀ν:World,ν=World.setCell J ⟨γ,(δ+1),none⟩ β->K ν:=by
 obtain⟨h1,hle,h3,hr,h4,vo,vt,h5,h6,h7,h8,h9,h10,ψ⟩:=h.bd;have hb7:b7< w'.heap.size:=h1;have hn9:b9≠b7:=λe=>h.mx b7 h3 (e▸h.x9)
 have ω:vt.ownBlock≠some b9:=λe=>h.mx b9 (h10 b9 e).1 h.x9
 refine⟨λw2=>Kp w' w2 λg=>vt.ownBlock=some g,λw1 ξ=>⟨ξ▸Kp.ah (Ex.drew w') _,ptr b7,λw2 k=>?_,ptr b7,λw2 k=>?_,b7,0,rfl,vt,λw2 k=>?_,λb2 w2 hb2 ο=>?_⟩⟩
 ·rw [IX (w:=w') (k.block b9 h.l9 ω)];exact h.c9
 ·rw [IX (w:=w') (k.block b9 h.l9 ω)];exact h.c9
 ·rw [IX (w:=w') (k.block b7 h1 λe=>(h10 b7 e).2 rfl)];exact h6
 have x2:Ex w' w2:=Ex.trans (ξ▸Ex.drew w') (ο▸Ex.alloc w1 _);have s1:w1.heap.size=w'.heap.size:=by rw [ξ];rfl
 have s2:w2.heap.size=w1.heap.size+1:=by rw [ο,size_alloc]
 refine⟨Kp.ah x2 _,?_⟩;have hsl:dW (λx=>x=b2) w2 (.slice (some ⟨b2,0,none⟩) 1 1) [ptr g]:=by
  refine .inr ⟨b2,0,1,rfl,rfl,by omega,λi x z=>?_⟩;rw [JC,ο,hb2];refine aa ?_
  match i,z with
  | 0,z=>simpa using z
  | i+1,z=>simp at z
 refine aI.push (h8.kp (Kp.ah x2 λ _=>False) λ _ _ h=>h) (J0 h.ex.size x2.size) hsl rfl (by omega) (by simpa using hl) λv3 w3 ς hg3 hn3=>?_
 have k23:Kp w2 w3 λg=>vt.ownBlock=some g:=Kp.aR hg3 λg h=>h
 have k3:Kp w' w3 λg=>vt.ownBlock=some g:=Kp.trans (Kp.ah x2 _) k23 λg _ h=>h
 have υ:=k3.block b7 h1 λe=>(h10 b7 e).2 rfl
 have hv3:oneV v3=true:=by rcases ς.2 with⟨rfl,_⟩ | ⟨g,cap,cur,rfl,_⟩<;>rfl
 have c31:w3.cell? ⟨b7,1,none⟩=some vt:=by rw [IX (w:=w') υ];exact h6
 have c30:w3.cell? ⟨b7,0,none⟩=some vo:=by rw [IX (w:=w') υ];exact h5
 have f3:∀j,w3.frozen? ⟨b7,j,none⟩=false:=λj=>by rw [Jz (w:=w') υ];exact h4 j
 refine⟨k3,b7,0,rfl,hv3,⟨⟨vt,c31⟩,f3 1⟩,λw4 η=>?_⟩;have k4:Kr b7 w3 w4:=η▸Kr.set w3 1 _;have ε:Kp w' w4 M:=Kp.trans (Kp.mono (λg e=>(h10 g e).1) k3) k4 λg _ e=>e▸h3
 have s3:=k3.size;have s23:=k23.size;have s4:=k4.size;have φ:∀x,v3.ownBlock=some x->vt.ownBlock=some x\/w'.heap.size<=x:=λx z=>(hn3 x z).elim .inl λh=> .inr (by omega)
 have h3b:∀x,v3.ownBlock=some x->x≠b7:=λx z=>(φ x z).elim (λe=>(h10 x e).2) λe=>by omega
 refine hK w4 (ts++[ptr g]) (λx=>M x\/(w'.heap.size<=x/\x< w4.heap.size)) ⟨?_,⟨by omega,hle,.inl h3,λx z=>?_,λj=>?_,vo,v3,?_,?_,?_,?_,λx z=>⟨.inl (h9 x z).1,(h9 x z).2⟩,λx z=>⟨?_,h3b x z⟩,λx z e=>?_⟩,?_,?_,Jt h.l9 ε.size,h.h9,h.x9,λx z hX=>?_,λx z=>Jt (h.xl x z) ε.size⟩
 ·exact Ex.below h.ex (Kp.below ε h.ex.size λx z e=>by have :=(hr x e).1;omega)
 ·have hB:=h.ex.size;rcases z with z | z
  ·have :=hr x z;omega
  ·omega
 ·rw [η,Jl];exact f3 j
 ·rw [η,I4 _ _ _ _ (by simp)];exact c30
 ·rw [η];exact Jk _ _ _ c31
 ·exact(h7.kp k3 λx z e=>ψ x z e).kp k4 λx z=>(h9 x z).2
 ·exact aI.kp ς k4 h3b
 ·have :=(ς.block x z).2;exact(φ x z).elim (λe=> .inl (h10 x e).1) λe=> .inr ⟨e,by omega⟩
 ·rcases φ x e with e1 | e1
  ·exact ψ x z e1
  ·have :=(h7.block x z).2;omega
 ·have key:∀{l:Lv} {us:List Value},af (λg=>(w.heap.size<=g/\¬M g/\¬X g)/\g< w'.heap.size) w' l us->af (λg=>(w.heap.size<=g/\¬(M g\/(w'.heap.size<=g/\g< w4.heap.size))/\¬X g)/\g< w4.heap.size) w4 l us:=λht=>
   af.sub (λg _ hg=>⟨⟨hg.1.1,λhm=>hm.elim hg.1.2.1 λh=>by omega,hg.1.2.2⟩,Jt hg.2 ε.size⟩) (af.kp ε (λg hg=>hg.1.2.1) ht)
  exact af.app (key h.th) (key he)
 ·rw [IX (w:=w') (ε.block b9 h.l9 λe=>h.mx b9 e h.x9)];exact h.c9
 ·rcases z with z | z
  ·exact h.mx x z hX
  ·have :=h.xl x hX;omega
end
structure SI (w w':World)(b7 b9 b39:Nat)(O:List Nat)(L:Lv)(ts:List Value)(M X:Nat->Prop)(a b:Nat)(Q:Lv):Prop where
 ti:TI w w' b7 b9 O L ts M X
 x39:X b39
 h39:w.heap.size<=b39
 n39:b39≠b9
 sl:∃vp us,ke w' b39 43 a b (.pointer none) vp/\aI 146 w.heap.size w' vp us/\af (λg=>(w.heap.size<=g/\¬M g/\¬X g)/\g< w'.heap.size) w' Q us/\∀g,vp.ownBlock=some g->X g/\g≠b9/\g≠b39
section
variable {w w':World} {b7 b9 b39 a b:Nat} {O:List Nat} {L Q:Lv} {ts:List Value} {M X:Nat->Prop}
theorem SI.ext {w'':World}(h:SI w w' b7 b9 b39 O L ts M X a b Q)(x:Ex w' w''):SI w w'' b7 b9 b39 O L ts M X a b Q:=by
 obtain⟨G,H,I,h4,vp,us,h5,J,V,W⟩:=h;have k:Kp w' w'' λ _=>False:=Kp.ah x _
 exact⟨G.ext x,H,I,h4,vp,us,h5.kp k λh=>h,J.kp k λ _ _ h=>h,af.sub (λg _ z=>⟨z.1,Jt z.2 k.size⟩) (af.ex V x),W⟩
theorem SI.push (h:SI w w' b7 b9 b39 O L ts M X a b Q){vx:Value}{W:List Value}{Q2:Lv}{D2:Nat->Prop}(hx:dW D2 w' vx W)(h2:af (λg=>(w.heap.size<=g/\¬M g/\¬X g)/\g< w'.heap.size) w' Q2 W)(hl:Q.len+W.length<=1099511627776){vp:Value}(ν:w'.cell? ⟨b39,4,none⟩=some vp){K:Value->World->Prop}
  (hK:∀H z,oneV H=true->Kp w' z (λg=>vp.ownBlock=some g)->((∃ξ:Value,World.cell? z ⟨b39,4,none⟩=some ξ)/\World.frozen? z ⟨b39,4,none⟩=false)->(∀θ,θ=World.setCell z ⟨b39,4,none⟩ H->∃X',SI w θ b7 b9 b39 O L ts M X' a b (Q.app Q2))->K H z):
  ∃(G Z α:Nat) (β J:List Value),World.ownsRow w' G 146 1 vp Z β/\G<=Array.size (World.heap w')/\dK w' vx α 1 J/\(Z+α<=maxLen/\(Z+α)* 8<=140737488355328)/\
   ∀(H:Value) (z:World),World.ownsRow z G 146 1 H (Z+α) (β++J)->World.grownBy w' z (Value.ownBlock vp)->(∀b:Nat,Value.ownBlock H=some b->Value.ownBlock vp=some b\/Array.size (World.heap w')<=b)->K H z:=by
 obtain⟨h1,V,h3,h4,γ,us,h5,h6,h7,h8⟩:=h;have:γ=vp:=JO (h5.c4.symm.trans ν);subst this;have ο:=h1.ex.size;have χ:=h7.len;refine aI.push h6 ο hx h2.all (by omega) (by omega) λv3 w3 δ ς ε=>?_
 have k3:Kp w' w3 λg=>γ.ownBlock=some g:=Kp.aR ς λg h=>h
 have υ:oneV v3=true:=by rcases δ.2 with⟨rfl,_⟩ | ⟨g,cap,cur,rfl,_⟩<;>rfl
 have ζ:=h5.kp k3 λe=>(h8 _ e).2.2 rfl
 refine hK v3 w3 υ k3 ⟨⟨_,ζ.c4⟩,ζ.f 4⟩ λw4 ι=>?_
 have k4:Kr b39 w3 w4:=ι▸Kr.set w3 4 _;have η:Kp w' w4 λg=>γ.ownBlock=some g\/g=b39:=Kp.trans (Kp.mono (λg e=> .inl e) k3) k4 λg _ e=> .inr e
 have s3:=k3.size;have s4:=k4.size;have κ:∀x,v3.ownBlock=some x->x≠b39:=λx φ=>(ε x φ).elim (λe=>(h8 x e).2.2) λe=>by have :=h1.xl b39 V;omega
 have μ:∀g,(X g\/(v3.ownBlock=some g))->X g\/(w'.heap.size<=g/\g< w4.heap.size):=λg I=>I.elim .inl λe=>(ε g e).elim (λe=> .inl (h8 g e).1) λh=> .inr ⟨h,by have :=(δ.block g e).2;omega⟩
 have ti:=h1.H9 (Y:=λg=>X g\/v3.ownBlock=some g) η (λg e=>e.elim (λe=>⟨(h8 g e).1,(h8 g e).2.1,(h6.block g e).1⟩) λe=>⟨e▸V,e▸h4,e▸h3⟩) (λg I=> .inl I) μ;have key:∀{l:Lv} {us:List Value},af (λg=>(w.heap.size<=g/\¬M g/\¬X g)/\g< w'.heap.size) w' l us->af (λg=>(w.heap.size<=g/\¬M g/\¬(X g\/v3.ownBlock=some g))/\g< w4.heap.size) w4 l us:=λht=>
  af.sub (λg _ I=>⟨⟨I.1.1,I.1.2.1,λhy=>(μ g hy).elim I.1.2.2 λh=>by omega⟩,Jt I.2 η.size⟩) (af.kp η (λg I e=>e.elim (λe=>I.1.2.2 (h8 g e).1) λe=>I.1.2.2 (e▸V)) ht)
 refine⟨_,ti,.inl V,h3,h4,v3,us++W,ζ.Gp ι,?_,af.app (key h7) (key h2),λg I=>⟨.inr I,?_,κ g I⟩⟩
 ·exact aI.kp δ k4 κ
 ·exact(ε g I).elim (λe=>(h8 g e).2.1) λe=>by have :=h1.l9;omega
end
theorem Fq {D:Nat->Prop}{w:World}{l:Lv}{ts:List Value}{x b3:Nat}(I:l.sh true=true)(h:af D w l ts)(α:l.sz<=1099511627776)(hb:b3< w.heap.size)(hc:w.cell? ⟨b3,0,none⟩=some (iv x)):
  xH w 186 [ptr b3] ts (Hy l.bk (Lv.has x)):=by
 intro i v w1 V W R Z;have G:=h.bk;obtain⟨J,_⟩:=JT.1 V;have z:i< l.bk.length:=by rw [G.1];exact J
 have he:=G.2 i l.bk[i] v (IY z) V;have H:=Jd z;have hs:=Lv.en l _ H;rw [nU z]at Z;refine iz v (ptr b3) w1 R ?_;refine⟨b3,0,rfl,x,by rw [W.cell (show b3< _ from hb)];exact hc,?_⟩;exact y6 _ (Jc _) (Lv.jz I _ H) (he.ex W) (by omega) Z
theorem Gl {D S:Nat->Prop}{w:World}{b7 b9:Nat}{vt:Value}{l:Lv}{ts:List Value}(h9:w.cell? ⟨b9,0,none⟩=some (ptr b7))(l9:b9< w.heap.size)(h7:w.cell? ⟨b7,1,none⟩=some vt)(l7:b7< w.heap.size)(G:dW D w vt ts)(h:af D w l ts)(H:l.sh true=true)(α:l.sz<=1099511627776)
  (I:∀g,S g->¬D g/\g≠b9/\g≠b7):Ho w S 184 [ptr b9] (λx=> !l.has x):=by
 intro x w1 k R hR;refine jE x (ptr b9) w1 R ?_;intro b3 w4 J V;obtain⟨W,l4,c4⟩:=y4 J V;have z:Kp w w4 S:=Kp.trans k (Kp.ah W λ _=>False) λ _ _ h=>h.elim
 refine⟨b9,0,rfl,ptr b7,?_,b7,0,rfl,vt,?_,?_⟩
 ·rw [IX (w:=w) (z.block b9 l9 λe=>(I _ e).2.1 rfl)];exact h9
 ·rw [IX (w:=w) (z.block b7 l7 λe=>(I _ e).2.2 rfl)];exact h7
 have hlen:=h.len;have :=nc l;have Z:∀g,D g->¬S g:=λg hd G=>(I g G).1 hd
 refine Ce (ca:=[ptr b3]) (G.kp z Z) (by kernel_rfl) (Fq H (af.kp z Z h) (by omega) l4 c4) (by omega) λw5 x5=>?_
 rw [hlen,<-Lv.cK,uG,<-Lv.lU];exact hR w5 (Ex.trans W x5)
def zF (n:Nat):Prop:=∀{D:Nat->Prop} {w:World} {v:Value} {o:List Nat} {l:Lv} {R:Value->World->Prop},l.sz<=n->l.sh true=true->fS D w v o (af D w l)->o.length+l.tot<=1099511627775->
 (∀v' w',Ex w w'->aB (yQ w) w' (Lv.tidy o l) v'->R v' w')->Calls Tryz.prog 139 #[v] w (an [.v] R)
theorem nT (o:List Nat)(l:Lv):(Lv.tidy o l).1.length+(Lv.tidy o l).2.tot<=o.length+l.tot:=by
 have :=Lv.sN o (Lv.tid l);have :=Lv.eh l;show(Lv.kept o (Lv.tid l)).1.length+(Lv.kept o (Lv.tid l)).2.tot<=_;omega
theorem bS (l:Lv):l.len<=l.tot:=J0 (nc l) (Lv.jo l)
theorem aI.j9 {e B:Nat}{w:World}{v:Value}{l:List Value}(h:aI e B w v l):oneV v=true:=by
 rcases h.2 with⟨rfl,_⟩ | ⟨g,cap,cur,rfl,_⟩<;>rfl
theorem aK.single {A B:Type}{R:A->B->Prop}{l:List A}{m:List B}(h:aK R l m){i:Nat}{b:B}(hb:m[i]?=some b):∃a,l[i]?=some a/\a∈l/\R a b:=by
 obtain⟨G,_⟩:=JT.1 hb;have z:i< l.length:=by rw [h.1];exact G
 exact⟨l[i],IY z,Jd z,h.2 i _ _ (IY z) hb⟩
theorem jG {k:K}{a b:Nat}{o:List Nat}{r:Lv}:Lv.tid (.thr k a b o r .nil)=if k= .m/\a=b then Lv.tidy o r else if(k= .m\/k= .p)/\(Lv.tidy o r).2.isNil=true then([],.nil)else([],.thr k a b (Lv.tidy o r).1 (Lv.tidy o r).2 .nil):=by
 simp only [Lv.tid,JD,Lv.aW];rfl
theorem A0 (n:Nat)(ih:∀m,m< n->zF m):zF n:=by
 intro D w v o l R hn hsh h hb hR;refine lf v w R ?_;obtain⟨b,vo,vt,ts0,rfl,h2,h3,h4,h5,h6,h7,h8⟩:=h;refine⟨b,0,rfl,vo,h4,vQ h6 (by omega) λv5 w6 x6 ho6=>⟨ho6.j9,λb7 w8 hb7 hw8 b9 w10 hb9 hw10=>?_⟩⟩;have x8:Ex w6 w8:=hw8▸Ex.alloc w6 _;have x10:Ex w8 w10:=hw10▸Ex.alloc w8 _;have s6:=x6.size;have s8:w8.heap.size=w6.heap.size+1:=by rw [hw8,size_alloc]
 have s10:w10.heap.size=w8.heap.size+1:=by rw [hw10,size_alloc]
 have c9:w10.cell? ⟨b9,0,none⟩=some (.pointer none):=by rw [hw10,hb9];exact aa rfl
 have f9:w10.frozen? ⟨b9,0,none⟩=false:=by rw [hw10,hb9];unfold World.frozen? World.alloc;simp
 have bd8:jW w.heap.size w8 b7 o [] λg=>g=b7\/v5.ownBlock=some g:=by
  refine⟨by omega,by omega,.inl rfl,λg H=>?_,λj=>?_,v5,.slice none 0 0,?_,?_,ho6.kp (Kp.ah x8 λ _=>False) (λ _ _ h=>h),aI.nil _ _ _,λg H=>⟨.inr H,?_⟩,λg H=>(by cases H),λg _ H=>(by cases H)⟩
  ·rcases H with rfl | H
   ·omega
   ·have :=ho6.block g H;omega
  ·rw [hw8,hb7];unfold World.frozen? World.alloc;simp
  ·rw [hw8,hb7];exact aa rfl
  ·rw [hw8,hb7];exact aa rfl
  ·have :=ho6.block g H;omega
 refine⟨⟨⟨_,c9⟩,f9⟩,λw12 hw12=>?_⟩;have k12:Kr b9 w10 w12:=hw12▸Kr.set w10 0 _;have x610:Ex w6 w10:=Ex.trans x8 x10;have x12:Ex w w12:=Ex.below (Ex.trans x6 x610) (Kp.below k12 (Ex.trans x6 x610).size λg H e=>by omega);have s12:=k12.size;have ti12:TI w w12 b7 b9 o .nil [] (λg=>g=b7\/v5.ownBlock=some g) (λg=>g=b9):=by
  refine⟨x12,(bd8.ex x10).kp k12 λg H e=>?_,rfl,?_,by omega,by omega,rfl,λg H e=>?_,λg e=>by omega⟩
  ·have :=(bd8.mr g H).2;omega
  ·rw [hw12];exact Jk _ _ _ c9
  ·have :=(bd8.mr g H).2;omega
 obtain⟨a0,cap0,hvt⟩:=h7.slice;have hlen:=h8.len;have hel:=Lv.cK l;have hlt:=bS l;refine⟨b,0,rfl,vt,by rw [x12.cell (show b< _ from h3)];exact h5,a0,_,cap0,hvt,λx w'=>∃(i:Nat) (ts:List Value) (M:Nat->Prop),x=i/\i<=l.bk.length/\TI w w' b7 b9 (o++(Lv.tid (l.take i)).1) (Lv.tid (l.take i)).2 ts M (λg=>g=b9),λx _=>(l.bk.length - x).toNat,⟨0,[],_,rfl,by omega,by simpa [Lv.take,Lv.tid]using ti12⟩,λx G hI=>?_⟩;obtain⟨i,ts,M,rfl,hi,β⟩:=hI;refine⟨λhc=>?_,λhc=>?_⟩
 ·have hc:=Jq hc;have hil:i< ts0.length:=by omega
  have ω:i< l.bk.length:=by omega
  have ς:=β.ex;have J:∀w' W M',TI w w' b7 b9 (o++(Lv.tid (l.take i)).1++(Lv.tid l.bk[i]).1) ((Lv.tid (l.take i)).2.app (Lv.tid l.bk[i]).2) W M' (λg=>g=b9)->aj ((i:Int)+1)/\(∃(i':Nat) (ts:List Value) (M:Nat->Prop),((i:Int)+1)=i'/\i'<=l.bk.length/\TI w w' b7 b9 (o++(Lv.tid (l.take i')).1) (Lv.tid (l.take i')).2 ts M (λg=>g=b9))/\((l.bk.length:Int) - ((i:Int)+1)).toNat< ((l.bk.length:Int) - (i:Int)).toNat:=by
   intro w' W M' ti;refine⟨by unfold aj;omega,⟨i+1,W,M',by omega,by omega,?_⟩,by omega⟩;rw [Lv.take_succ l i ω,Lv.cJ _ _ (Lv.mg (Lv.oE l i hsh)),<-JH];exact ti
  have hel22:=(af.ex h8 ς).bk;have he:=hel22.2 i l.bk[i] ts0[i] (IY ω) (IY hil);have he0:=h8.bk.2 i l.bk[i] ts0[i] (IY ω) (IY hil);have hmem:=Jd ω;have hesz:=Lv.en l _ hmem;have hetot:=Lv.fU l _ hmem;have hOt:=Lv.eh (l.take i);have hTt:=Lv.fe l i;have hTe:(l.take i).tot+l.bk[i].tot<=l.tot:=by
   have :=Lv.fe l (i+1);rw [Lv.take_succ l i ω,Lv.bT]at this;exact this
  have hOl:(o++(Lv.tid (l.take i)).1).length=o.length+(Lv.tid (l.take i)).1.length:=I';have hLl:=bS (Lv.tid (l.take i)).2;refine(h7.ex ς).get (i:=i) (x:=ts0[i]) (by omega) (by simp [hil]) ?_;generalize l.bk[i]=e at*;generalize ts0[i]=v27 at*;have hke:(∃k a b o r,e= .thr k a b o r .nil/\r.sh true=true)\/∃ps,e= .sum ps .nil/\ps.sh false=true:=Lv.jz hsh e hmem;generalize (o++(Lv.tid (l.take i)).1)=O at*;generalize (Lv.tid (l.take i)).2=L at*;have hts:ts.length=L.len:=β.th.len;have hS:∀{w1:World},Ex G w1->∀{g j:Nat} {u:Value},g< G.heap.size->G.cell? ⟨g,j,none⟩=some u->w1.cell? ⟨g,j,none⟩=some u:=by
   intro w1 V g j u H hu;rw [V.cell (show g< _ from H)];exact hu
  rcases hke with⟨k,a,b1,o',r,rfl,hr⟩ | ⟨ps,rfl,hps⟩
  ·obtain⟨_,_,a',b',vr,e,⟨g,rfl,g2,g3,g4,g5,g6,g7,g8⟩,hab,hlv,_⟩:=he;obtain⟨rfl,_⟩:=J3 e;refine⟨λw'=>Ex G w',λυ ζ=>⟨ζ▸Ex.drew G,g,0,rfl,_,λw' V=>hS V g3 g4,g,0,rfl,_,λw' V=>hS V g3 g5,g,0,rfl,_,λw' V=>hS V g3 g6,λb39 α hb39 η=>?_⟩⟩;have x29:Ex G υ:=ζ▸Ex.drew G;have s29:υ.heap.size=G.heap.size:=by rw [ζ];rfl
   have θ:Ex G α:=Ex.trans x29 (η▸Ex.alloc υ _);have s40:α.heap.size=υ.heap.size+1:=by rw [η,size_alloc]
   have th40:ke α b39 k.byte a' b' (.pointer none) (.slice none 0 0):=ke.new hb39 η;have l9:=β.l9;have n39:b39≠b9:=by omega
   have h39:w.heap.size<=b39:=by have :=ς.size;omega
   have ti40:TI w α b7 b9 O L ts M λg=>g=b9\/g=b39:=β.H9 (Kp.ah θ λ _=>False) (λ _ h=>h.elim) (λg h=> .inl h) λg h=>h.elim .inl λh=> .inr (by omega)
   simp only [Lv.sz]at hesz;simp only [Lv.tot]at hetot hTe;refine⟨θ,g,0,rfl,_,hS θ g3 g4,aT (by cases k<;>decide) ⟨g,0,rfl,_,hS θ g3 g7,?_⟩⟩;refine ih r.sz (by omega) (Jc _) hr (fS.ex hlv θ) (by omega) λι w138 ξ l137=>⟨fS.one l137,⟨⟨_,(th40.kp (Kp.ah ξ λ _=>False) λh=>h).c3⟩,(th40.kp (Kp.ah ξ λ _=>False) λh=>h).f 3⟩,λI hw140=>?_⟩
   have k140:Kr b39 w138 I:=hw140▸Kr.set w138 3 _;have φ:ke I b39 k.byte a' b' ι (.slice none 0 0):=(th40.kp (Kp.ah ξ λ _=>False) λh=>h).BA hw140;have χ:TI w I b7 b9 O L ts M λg=>g=b9\/g=b39:=(ti40.ext ξ).IB k140 λg H=>⟨.inr H,by omega,by omega⟩
   have s138:=ξ.size;have s140:=k140.size;have hrt:=nT o' r;have l140:aB (λg=>(α.heap.size<=g)/\g< I.heap.size) I (Lv.tidy o' r) ι:=aB.sub (aB.kp (l137.sub (E:=λg=>α.heap.size<=g/\g< w138.heap.size) λg H h=>⟨h,H⟩) k140 λg H e=>by omega) λg _ H=>⟨H.1,by omega⟩
   have hM40:∀g,M g->g< α.heap.size:=λg H=>(ti40.bd.mr g H).2
   have cg:∀{w1:World},Ex I w1->∀{j:Nat} {u:Value},G.cell? ⟨g,j,none⟩=some u->w1.cell? ⟨g,j,none⟩=some u:=λV j u hu=>by
    have:I.cell? ⟨g,j,none⟩=some u:=by
     rw [IX (w:=w138) (k140.block g (by omega) (by omega)),ξ.cell (show g< _ by omega)];exact hS θ g3 hu
    rw [V.cell (show g< _ by omega)];exact this
   have cb:∀{w1:World},Ex I w1->w1.cell? ⟨b39,3,none⟩=some ι:=λV=>by rw [V.cell (show b39< _ from φ.lt)];exact φ.c3
   have c9':∀{w1:World},Ex I w1->w1.cell? ⟨b9,0,none⟩=some (ptr b7):=λV=>by rw [V.cell (show b9< _ from χ.l9)];exact χ.c9
   have hth:∀{w1:World},Ex I w1->af (λg=>(w.heap.size<=g/\¬M g/\¬(g=b9))/\g< w1.heap.size) w1 (.thr k a b1 (Lv.tidy o' r).1 (Lv.tidy o' r).2 .nil) [ptr b39]:=λ{w1} V=>by
    have sx:=V.size;refine⟨ptr b39,[],a',b',ι,rfl,(φ.kp (Kp.ah V λ _=>False) λh=>h).Hw ⟨⟨h39,λhm=>χ.mx b39 hm (.inr rfl),n39⟩,by have :=φ.lt;omega⟩,hab,?_,rfl⟩;exact aB.sub (aB.ex l140 V) λg _ H=>⟨⟨by omega,λhm=>by have :=hM40 g hm;omega,by omega⟩,by omega⟩
   have ν:∀{w1:World},Ex I w1->TI w w1 b7 b9 O L ts M λg=>g=b9:=λV=>(χ.ext V).B0 (λg h=> .inl h) rfl
   have hnil:∀{w1:World},Ex I w1->Lv.tid (.thr k a b1 o' r .nil)=([],.nil)->TI w w1 b7 b9 (O++(Lv.tid (.thr k a b1 o' r .nil)).1) (L.app (Lv.tid (.thr k a b1 o' r .nil)).2) ts M λg=>g=b9:=λV e=>by
    rw [e,JD,Lv.aW];exact ν V
   have hlr:=bS (Lv.tidy o' r).2;refine⟨λw'=>Ex I w',λο hw142=>⟨hw142▸Ex.drew I,g,0,rfl,_,λw' V=>cg V g4,?_⟩⟩;have z:Ex I ο:=hw142▸Ex.drew I;have κ:∀{w1:World},Ex I w1->(Lv.tid (.thr k a b1 o' r .nil)=([],.thr k a b1 (Lv.tidy o' r).1 (Lv.tidy o' r).2 .nil))->∀w'' W M',TI w w'' b7 b9 O (L.app (.thr k a b1 (Lv.tidy o' r).1 (Lv.tidy o' r).2 .nil)) W M' (λg=>g=b9)->TI w w'' b7 b9 (O++(Lv.tid (.thr k a b1 o' r .nil)).1) (L.app (Lv.tid (.thr k a b1 o' r .nil)).2) W M' (λg=>g=b9):=λ _ e w'' W M' h=>by
    rw [e,JD];exact h
   have hkm:(Lv.tidy o' r).2.isNil=false->¬(k= .m/\a=b1)->Lv.tid (.thr k a b1 o' r .nil)=([],.thr k a b1 (Lv.tidy o' r).1 (Lv.tidy o' r).2 .nil):=λh1 h2=>by
    rw [jG,Jn h2,Jn (by rw [h1];simp)]
   cases k with
   | m=>
    have hab:a'=a/\b'=b1:=by rcases hab with h | h | h<;>first | exact h | cases h
    obtain⟨rfl,rfl⟩:=hab;refine cS rfl ⟨g,0,rfl,a',λw' V=>cg V g5,g,0,rfl,b',λw' V=>cg V g6,λhq=>?_,λhq=>?_⟩
    ·have hq:a'=b':=by have :=Jq hq;omega
     have ht:Lv.tid (.thr .m a' b' o' r .nil)=Lv.tidy o' r:=by rw [jG,JB ⟨rfl,hq⟩]
     refine⟨λw'=>Ex ο w',λw153 hw153=>⟨hw153▸Ex.drew ο,ptr b7,λw' V=>c9' (Ex.trans z V),ι,λw' V=>cb (Ex.trans z V),?_⟩⟩;have x153:Ex I w153:=Ex.trans z (hw153▸Ex.drew ο);refine(ν x153).DA (O2:=(Lv.tidy o' r).1) (L2:=(Lv.tidy o' r).2) (aB.ex l140 x153) (λg H hd=>⟨by omega,λhm=>by have :=hM40 g hm;omega,by omega⟩) ⟨by omega,by omega⟩ λw'' W M' h _=>J w'' W M' ?_
     rw [ht];exact h
    ·have hq:¬a'=b':=by have :=Jr hq;omega
     refine⟨g,0,rfl,_,cg z g4,dI rfl ⟨ι,cb z,lJ (aB.ex l140 z) ⟨λhe=>J ο ts M (hnil z (by rw [jG,Jn (λh=>hq h.2),JB ⟨.inl rfl,he⟩])),λhe=>?_⟩⟩⟩;have ht:=hkm he λh=>hq h.2
     exact(ν z).push (hth z) (by omega) λw'' W M' h=>J w'' W M' (κ z ht _ _ _ h)
   | p=>
    refine aT (by dsimp only [K.byte];decide) ⟨g,0,rfl,_,cg z g4,cC (by dsimp only [K.byte];decide) ⟨g,0,rfl,_,cg z g4,cS rfl ⟨ι,cb z,lJ (aB.ex l140 z) ⟨λhe=>J ο ts M (hnil z (by rw [jG,Jn (λh=>by cases h.1),JB ⟨.inr rfl,he⟩])),λhe=>?_⟩⟩⟩⟩;have ht:=hkm he λh=>by cases h.1
    exact(ν z).push (hth z) (by omega) λw'' W M' h=>J w'' W M' (κ z ht _ _ _ h)
   | s=>
    refine aT (by dsimp only [K.byte];decide) ⟨g,0,rfl,_,cg z g4,cC (by dsimp only [K.byte];decide) ⟨g,0,rfl,_,cg z g4,aT (by dsimp only [K.byte];decide) ?_⟩⟩;exact(ν z).push (hth z) (by omega) λw'' W M' h=>J w'' W M' (κ z (by rw [jG,Jn (λh=>by cases h.1),Jn (λh=>by rcases h.1 with h | h<;>cases h)]) _ _ _ h)
   | r=>
    refine aT (by dsimp only [K.byte];decide) ⟨g,0,rfl,_,cg z g4,cC (by dsimp only [K.byte];decide) ⟨g,0,rfl,_,cg z g4,aT (by dsimp only [K.byte];decide) ?_⟩⟩;exact(ν z).push (hth z) (by omega) λw'' W M' h=>J w'' W M' (κ z (by rw [jG,Jn (λh=>by cases h.1),Jn (λh=>by rcases h.1 with h | h<;>cases h)]) _ _ _ h)
   | t=>
    refine aT (by dsimp only [K.byte];decide) ⟨g,0,rfl,_,cg z g4,cC (by dsimp only [K.byte];decide) ⟨g,0,rfl,_,cg z g4,aT (by dsimp only [K.byte];decide) ?_⟩⟩;exact(ν z).push (hth z) (by omega) λw'' W M' h=>J w'' W M' (κ z (by rw [jG,Jn (λh=>by cases h.1),Jn (λh=>by rcases h.1 with h | h<;>cases h)]) _ _ _ h)
  ·clear he;obtain⟨_,_,a',b',vp0,us0,e,⟨g,rfl,g2,g3,g4,g5,g6,g7,g8⟩,hsl,hus,_⟩:=he0;obtain⟨rfl,_⟩:=J3 e;have hS0:∀{w1:World},Ex w w1->∀{j:Nat} {u:Value},w.cell? ⟨g,j,none⟩=some u->w1.cell? ⟨g,j,none⟩=some u:=by
    intro w1 V j u hu;rw [V.cell (show g< _ from g3)];exact hu
   refine⟨λw'=>Ex G w',λυ ζ=>⟨ζ▸Ex.drew G,g,0,rfl,43,λw' V=>hS0 (Ex.trans ς V) g4,g,0,rfl,_,λw' V=>hS0 (Ex.trans ς V) g5,g,0,rfl,_,λw' V=>hS0 (Ex.trans ς V) g6,λb39 α hb39 η=>?_⟩⟩;have x29:Ex G υ:=ζ▸Ex.drew G;have s29:υ.heap.size=G.heap.size:=by rw [ζ];rfl
   have θ:Ex G α:=Ex.trans x29 (η▸Ex.alloc υ _);have s40:α.heap.size=υ.heap.size+1:=by rw [η,size_alloc]
   have th40:ke α b39 43 a' b' (.pointer none) (.slice none 0 0):=ke.new hb39 η;have l9:=β.l9;have n39:b39≠b9:=by omega
   have h39:w.heap.size<=b39:=by have :=ς.size;omega
   have ti40:TI w α b7 b9 O L ts M λg=>g=b9\/g=b39:=β.H9 (Kp.ah θ λ _=>False) (λ _ h=>h.elim) (λg h=> .inl h) λg h=>h.elim .inl λh=> .inr (by omega)
   have si40:SI w α b7 b9 b39 O L ts M (λg=>g=b9\/g=b39) a' b' .nil:=⟨ti40,.inr rfl,h39,n39,.slice none 0 0,[],th40,aI.nil _ _ _,rfl,λg h=>by cases h⟩
   simp only [Lv.sz]at hesz;simp only [Lv.tot]at hetot hTe;obtain⟨ap,capp,hvp⟩:=hsl.slice;have hul:=hus.len;have hpel:=Lv.cK ps;have hplt:=bS ps;refine⟨θ,g,0,rfl,_,hS0 (Ex.trans ς θ) g4,cS rfl ⟨g,0,rfl,vp0,hS0 (Ex.trans ς θ) g8,ap,_,capp,hvp,λx w'=>∃(j:Nat) (X:Nat->Prop),x=j/\j<=ps.bk.length/\SI w w' b7 b9 b39 O L ts M X a' b' (Lv.tid (ps.take j)).2,λx _=>(ps.bk.length - x).toNat,⟨0,_,rfl,by omega,by simpa [Lv.take,Lv.tid]using si40⟩,λx Z hI=>?_⟩⟩;obtain⟨j,X,rfl,hj,μ⟩:=hI;have x53:=μ.ti.ex;refine⟨λhc=>?_,λhc=>?_⟩
   ·have hc:=Jq hc;have hjl:j< us0.length:=by omega
    have hjl':j< ps.bk.length:=by omega
    refine(hsl.ex x53).get (i:=j) (x:=us0[j]) (by omega) (by simp [hjl]) ?_;have hpe:=hus.bk.2 j ps.bk[j] us0[j] (IY hjl') (IY hjl);have hpm:=Jd hjl';have hpsz:=Lv.en ps _ hpm;have hptot:=Lv.fU ps _ hpm;obtain⟨o'',q,epq,hq⟩:=Lv.lL hps _ hpm;have htk:(Lv.tid (ps.take (j+1))).2=(Lv.tid (ps.take j)).2.app (Lv.prt (Lv.tidy o'' q).1 (Lv.tidy o'' q).2 .nil):=by
     rw [Lv.take_succ ps j hjl',Lv.xV _ (Lv.oE ps j hps),epq];rfl
    have hQ:=bS (Lv.tid (ps.take j)).2;have hQ1:=Lv.eh (ps.take j);have hQ2:=Lv.fe ps (j+1);rw [Lv.take_succ ps j hjl',Lv.bT,epq]at hQ2;rw [epq]at hpe hpsz hptot;generalize us0[j]=v58 at*;obtain⟨v58',_,e58,hlq,_⟩:=hpe;obtain⟨rfl,_⟩:=J3 e58;simp only [Lv.sz]at hpsz;simp only [Lv.tot]at hptot hQ2;have hfin:∀w' X',SI w w' b7 b9 b39 O L ts M X' a' b' (Lv.tid (ps.take (j+1))).2->aj ((j:Int)+1)/\(∃(j':Nat) (X:Nat->Prop),((j:Int)+1)=j'/\j'<=ps.bk.length/\SI w w' b7 b9 b39 O L ts M X a' b' (Lv.tid (ps.take j')).2)/\((ps.bk.length:Int) - ((j:Int)+1)).toNat< ((ps.bk.length:Int) - (j:Int)).toNat:=
     λw' X' h=>⟨by unfold aj;omega,⟨j+1,X',by omega,by omega,h⟩,by omega⟩
    refine ih q.sz (by omega) (Jc _) hq (fS.ex hlq x53) (by omega) λv59 ε x60 l59=>?_
    have si60:=μ.ext x60;have hrt:=nT o'' q;have hqsh:(Lv.tidy o'' q).2.sh true=true:=Lv.dH q true hq;generalize Lv.tidy o'' q=r' at*;have hM53:∀g,M g->g< Z.heap.size:=λg H=>(μ.ti.bd.mr g H).2
    have hX53:=μ.ti.xl;have hsz53:=x53.size;refine lJ l59 ⟨λhe=>?_,λhe=>Ek l59 hqsh ⟨λhs=>?_,λhs=>?_⟩⟩
    ·refine hfin ε X ?_;rw [htk,vV,JB he,Lv.aW];exact si60
    ·obtain⟨ps',ep⟩:∃ps',r'.2= .sum ps' .nil:=by
      have :=(Bool.and_eq_true_iff.1 hs).2;generalize r'.2=q' at*
      match q',this with
      | .sum ps' .nil,_=>exact⟨ps',rfl⟩
     rw [vV,Jn (by rw [he];simp),JB hs,ep]at htk;have htk:(Lv.tid (ps.take (j+1))).2=(Lv.tid (ps.take j)).2.app ps':=htk;unfold aB at l59;rw [ep]at l59 hrt;obtain⟨b59,vo59,vt59,tsq,rfl,k2,k3,k4,k5,k6,k7,k8⟩:=l59;obtain⟨_,_,aq,bq,vpq,usq,rfl,⟨gq,rfl,q2,q3,q4,q5,q6,q7,q8⟩,qsl,qus,rfl⟩:=k8;obtain⟨vp,us,γ,ho60,hu60,hob⟩:=si60.sl;have hobl:∀x,vp.ownBlock=some x->x< Z.heap.size:=λx V=>hX53 x (hob x V).1
     refine⟨λw'=>Kp ε w' λg=>vp.ownBlock=some g,λw66 hw66=>⟨hw66▸Kp.ah (Ex.drew ε) _,vp,λw' k=>?_,b59,0,rfl,vt59,λw' k=>?_,?_⟩⟩
     ·rw [IX (w:=ε) (k.block b39 γ.lt λe=>(hob _ e).2.2 rfl)];exact γ.c4
     ·rw [IX (w:=ε) (k.block b59 k3 λe=>by have :=hobl _ e;have:Z.heap.size<=b59:=k2;omega)];exact k5
     have x66:Ex ε w66:=hw66▸Ex.drew ε;rcases k7 with⟨_,e⟩ | ⟨bt,off,cp,rfl,t2,t3,t4⟩
     ·cases e
     refine⟨bt,off,1,cp,rfl,by omega,by omega,ptr gq,λw' k=>?_,gq,0,rfl,vpq,λw' k=>?_,?_⟩
     ·rw [IX (w:=ε) (k.block bt t3 λe=>by have :=hobl _ e;have:Z.heap.size<=bt:=t2;omega)];exact t4 0 _ rfl
     ·rw [IX (w:=ε) (k.block gq q3 λe=>by have :=hobl _ e;have:Z.heap.size<=gq:=q2;omega)];exact q8
     have hqd:af (λg=>(w.heap.size<=g/\¬M g/\¬X g)/\g< w66.heap.size) w66 ps' usq:=af.sub (λg H hd=>⟨⟨by have:Z.heap.size<=g:=hd;omega,λhm=>by have :=hM53 g hm;have:Z.heap.size<=g:=hd;omega,λhm=>by have :=hX53 g hm;have:Z.heap.size<=g:=hd;omega⟩,H⟩) (af.ex qus x66);have hql:=qus.len;have hql2:=bS ps';simp only [Lv.tot]at hrt;refine(si60.ext x66).push (qsl.ex x66) hqd (by omega) (by rw [x66.cell (show b39< _ from γ.lt)];exact γ.c4) λv84 w85 hv84 k85 hc85 hset=>⟨Kp.trans (Kp.ah x66 _) k85 λ _ _ h=>h,hv84,hc85,λw87 hw87=>?_⟩
     obtain⟨X',hsi⟩:=hset w87 hw87;refine hfin w87 X' ?_;rw [htk];exact hsi
    ·rw [vV,Jn (by rw [he];simp),Jn (by rw [hs];simp)]at htk;obtain⟨vp,us,γ,ho60,hu60,hob⟩:=si60.sl;refine⟨vp,γ.c4,fS.one l59,λb89 w90 hb89 hw90=>?_⟩;have x90:Ex ε w90:=hw90▸Ex.alloc ε _;have s90:w90.heap.size=ε.heap.size+1:=by rw [hw90,size_alloc]
     have hsl1:dW (λx=>x=b89) w90 (.slice (some ⟨b89,0,none⟩) 1 1) [v59]:=by
      refine .inr ⟨b89,0,1,rfl,rfl,by omega,λi x V=>?_⟩;rw [JC,hw90,hb89];refine aa ?_
      match i,V with
      | 0,V=>simpa using V
      | i+1,V=>simp at V
     have hqd:af (λg=>(w.heap.size<=g/\¬M g/\¬X g)/\g< w90.heap.size) w90 (.part r'.1 r'.2 .nil) [v59]:=⟨v59,[],rfl,aB.sub (aB.ex l59 x90) λg H hd=>⟨⟨by have:Z.heap.size<=g:=hd;omega,λhm=>by have :=hM53 g hm;have:Z.heap.size<=g:=hd;omega,λhm=>by have :=hX53 g hm;have:Z.heap.size<=g:=hd;omega⟩,H⟩,rfl⟩
     refine(si60.ext x90).push hsl1 hqd (by simp only [IW,Jh];omega) (by rw [x90.cell (show b39< _ from γ.lt)];exact γ.c4) λv84 w85 hv84 k85 hc85 hset=>⟨hv84,hc85,λw87 hw87=>?_⟩
     obtain⟨X',hsi⟩:=hset w87 hw87;refine hfin w87 X' ?_;rw [htk];exact hsi
   ·have hc:=Jr hc;have:j=ps.bk.length:=by omega
    subst this;rw [Lv.df]at μ;have hpsh:(Lv.tid ps).2.sh false=true:=Lv.dH ps false hps;have hpt:=Lv.eh ps;have hpl:=bS (Lv.tid ps).2;have htid:Lv.tid (.sum ps .nil)=Lv.spl (Lv.tid ps).2 ([],.nil):=by simp only [Lv.tid]
    rw [htid]at J;generalize (Lv.tid ps).2=Q at*;have si53':=μ;obtain⟨ti,hx39,_,_,vp,us,th,ho,hu,hob⟩:=μ;have ν:TI w Z b7 b9 O L ts M λg=>g=b9:=ti.B0 (λg h=>h▸ti.x9) rfl
    obtain⟨av,capv,hvpe⟩:=(ho.Bo (D:=λ _=>True) λ _ _=>trivial).slice;have ψ:=hu.len;refine⟨vp,th.c4,av,_,capv,hvpe,λh0=>?_,λh0=>⟨λh1=>?_,λh1=>?_⟩⟩
    ·have h0:=Jq h0;have hQ:Q= .nil:=by
      have:Q.len=0:=by omega
      cases Q<;>first | rfl | simp [Lv.len]at this
     subst hQ;refine J Z ts M ?_;simp only [Lv.spl,JD,Lv.aW];exact ν
    ·have h1:=Jq h1;obtain⟨oq,qq,rfl⟩:∃oq qq,Q= .part oq qq .nil:=by
      have:Q.len=1:=by omega
      cases Q with
      | nil=>simp [Lv.len]at this
      | thr=>cases hpsh
      | sum=>cases hpsh
      | part oq qq n=>
       have hn:n= .nil:=by
        have:n.len=0:=by simp only [Lv.len]at this;omega
        cases n<;>first | rfl | simp [Lv.len]at this
       exact⟨oq,qq,by rw [hn]⟩
     obtain⟨u,us',rfl,hlu,rfl⟩:=hu;rcases ho.Bo (D:=λg=>vp.ownBlock=some g) λ _ h=>h with⟨_,e⟩ | ⟨bt,off,cp,hvp2,t2,t3,t4⟩
     ·cases e
     have hnM:∀g,X g->¬M g:=λg V hm=>ti.mx g hm V
     refine⟨λw'=>Kp Z w' M,λw105 hw105=>⟨hw105▸Kp.ah (Ex.drew Z) _,ptr b7,λw' k=>?_,vp,λw' k=>?_,bt,off,1,cp,hvp2,by omega,by omega,u,λw' k=>?_,?_⟩⟩
     ·rw [IX (w:=Z) (k.block b9 ti.l9 (hnM _ ti.x9))];exact ti.c9
     ·rw [IX (w:=Z) (k.block b39 th.lt (hnM _ hx39))];exact th.c4
     ·rw [IX (w:=Z) (k.block bt t3 (hnM _ (hob _ t2).1))];exact t4 0 _ rfl
     have x105:Ex Z w105:=hw105▸Ex.drew Z;simp only [Lv.tot]at hpt;have :=bS qq;refine(ti.ext x105).DA (O2:=oq) (L2:=qq) (fS.ex hlu x105) (λg _ hd=>hd.1) ⟨by omega,by omega⟩ λw'' W M' h k=>⟨Kp.trans (Kp.ah x105 _) k λ _ _ h=>h,J w'' W M' ?_⟩
     simp only [Lv.spl,JD,Lv.aW];exact h.B0 (λg h=>h▸ti.x9) rfl
    ·have h0:=Jr h0;have h1:=Jr h1;have hspl:Lv.spl Q ([],.nil)=([],.sum Q .nil):=by
      unfold Lv.spl;split
      ·simp [Lv.len]at ψ;simp [ψ]at h0
      ·simp [Lv.len]at ψ;simp [ψ]at h1
      ·rfl
     refine ν.push (e:= .sum Q .nil) ⟨ptr b39,[],a',b',vp,us,rfl,th.Hw ⟨⟨h39,λhm=>ti.mx b39 hm hx39,n39⟩,th.lt⟩,?_,?_,rfl⟩ (by omega) λw'' W M' h=>J w'' W M' ?_
     ·exact ho.Bo λg H=>⟨⟨(ho.block g H).1,λhm=>ti.mx g hm (hob g H).1,(hob g H).2.1⟩,(ho.block g H).2⟩
     ·exact af.sub (λg _ hd=>⟨⟨hd.1.1,hd.1.2.1,λe=>hd.1.2.2 (e▸ti.x9)⟩,hd.2⟩) hu
     ·rw [hspl,JD];exact h
 ·have hc:=Jr hc;have:i=l.bk.length:=by omega
  subst this;rw [Lv.df]at β;have htt:=Lv.eh l;have hsz:=Lv.jo (Lv.tid l).2;have htsh:=Lv.dH l true hsh;have hfil:Lv.tidy o l=((o++(Lv.tid l).1).filter (λx=> !!(Lv.tid l).2.has x),(Lv.tid l).2):=by
   simp only [Bool.not_not];rfl
  rw [hfil]at hR;have hOl:(o++(Lv.tid l).1).length=o.length+(Lv.tid l).1.length:=I';generalize (o++(Lv.tid l).1)=O at*;generalize (Lv.tid l).2=L at*;have ti:=β;obtain⟨d1,d2,d3,dr,d4,vo1,vt1,d5,d6,d7,d8,d9,d10,d11⟩:=ti.bd;have hn9:¬M b9:=λhm=>ti.mx b9 hm rfl
  refine⟨λw'=>Kp G w' λg=>vo1.ownBlock=some g,λw302 hw302=>⟨hw302▸Kp.ah (Ex.drew G) _,ptr b7,λw' k=>?_,ptr b7,λw' k=>?_,b7,0,rfl,vo1,λw' k=>?_,?_⟩⟩
  ·rw [IX (w:=G) (k.block b9 ti.l9 λe=>hn9 (d9 _ e).1)];exact ti.c9
  ·rw [IX (w:=G) (k.block b9 ti.l9 λe=>hn9 (d9 _ e).1)];exact ti.c9
  ·rw [IX (w:=G) (k.block b7 d1 λe=>(d9 _ e).2 rfl)];exact d5
  have δ:Ex G w302:=hw302▸Ex.drew G;have kx:Kp G w302 λ _=>False:=Kp.ah δ _
  have hsvt:dW (λg=>w.heap.size<=g/\vo1.ownBlock≠some g/\g< G.heap.size) G vt1 ts:=d8.Bo λg H=>⟨(d8.block g H).1,λe=>d11 g e H,(d8.block g H).2⟩
  have hths:af (λg=>w.heap.size<=g/\vo1.ownBlock≠some g/\g< G.heap.size) G L ts:=af.sub (λg H hd=>⟨hd.1.1,λe=>hd.1.2.1 (d9 g e).1,H⟩) ti.th;refine B4 (ca:=[ptr b9]) (d7.kp kx λ _ _ h=>h) (by kernel_rfl) (Gl (b7:=b7) (vt:=vt1) (D:=λg=>w.heap.size<=g/\vo1.ownBlock≠some g/\g< G.heap.size) ?_ (by have :=ti.l9;have :=δ.size;omega) ?_ (by have :=δ.size;omega) (hsvt.ex δ) (af.ex hths δ) htsh (by omega) λg H=>⟨λhd=>hd.2.1 H,λe=>hn9 (e▸(d9 g H).1),(d9 g H).2⟩) (by omega) λv308 w309 hv k309 hsl=>?_
  ·rw [δ.cell (show b9< _ from ti.l9)];exact ti.c9
  ·rw [δ.cell (show b7< _ from d1)];exact d6
  have k9:Kp G w309 λg=>vo1.ownBlock=some g:=Kp.trans (Kp.ah δ _) k309 λ _ _ h=>h
  have hb9:=k9.block b7 d1 λe=>(d9 _ e).2 rfl
  have c0:w309.cell? ⟨b7,0,none⟩=some vo1:=by rw [IX (w:=G) hb9];exact d5
  refine⟨k9,b7,0,rfl,hv,⟨⟨_,c0⟩,by rw [Jz (w:=G) hb9];exact d4 _⟩,λw313 hw313=>?_⟩;have kset:Kr b7 w309 w313:=hw313▸Kr.set w309 0 _;have kall:Kp G w313 λg=>vo1.ownBlock=some g\/g=b7:=Kp.trans (Kp.mono (λg e=> .inl e) k9) kset λg _ e=> .inr e
  have hne79:b9≠b7:=λe=>hn9 (e▸d3)
  refine⟨ptr b7,?_,hR _ w313 ?_ ?_⟩
  ·rw [IX (w:=G) (kall.block b9 ti.l9 λe=>e.elim (λe=>hn9 (d9 _ e).1) hne79)];exact ti.c9
  ·exact Ex.below ti.ex (Kp.below kall ti.ex.size λg H e=>by
    rcases e with e | e
    ·have :=(d7.block g e).1;omega
    ·omega)
  ·refine⟨b7,v308,vt1,ts,rfl,d2,Jt d1 kall.size,?_,?_,?_,?_,?_⟩
   ·rw [hw313];exact Jk _ _ _ c0
   ·rw [hw313,I4 _ _ _ _ (by simp),IX (w:=G) hb9];exact d6
   ·exact(hsl.kp kset λg H e=>(d9 g H).2 e).sub λg _ H=>(d7.block g H).1
   ·exact((d8.Bo (D:=λg=>vt1.ownBlock=some g) λ _ h=>h).kp kall λg H e=>e.elim (λe=>d11 g e H) (d10 g H).2).sub λg _ H=>(d8.block g H).1
   ·exact af.sub (λg _ H=>H.1.1) (af.kp kall (λg H e=>e.elim (λe=>H.1.2.1 (d9 g e).1) λe=>H.1.2.1 (e▸d3)) ti.th)
theorem Dg:∀n,zF n:=by
 have:∀k n,n< k->zF n:=by
  intro k
  induction k with
  | zero=>intro n h;omega
  | succ k z=>exact λn h=>A0 n λm hm=>z m (by omega)
 exact λn=>this (n+1) n (by omega)
end Go.Proofs.YtdecokaadekjnaaGreat
namespace Go.Proofs.YtdecokaadekjnaaGreat
open Go
set_option maxRecDepth 100000
theorem ju (o1:Value)(c2:Value)(c3:Value)(w:World)(R:World->Prop)(h:HR 236 #[o1] w λJ n5 w6=>bH w6 λz G=>(az c2 λb9 ζ=>pb G b9 ζ λH=>z G/\(az c3 λη θ=>pb G η θ λV=>z G/\aj (V+n5)/\az c2 λι κ=>bf G ι κ (.int .i64 (if J> H then J else H)) λW=>z W/\az c3 λμ ν=>bf W μ ν (.int .i64 (V+n5)) λZ=>z Z/\R Z)/\(az c2 λξ ο=>bf G ξ ο (.int .i64 (if J> H then J else H)) λI=>z I/\az c3 λς υ=>pb I ς υ λα=>z I/\aj (α+n5)/\az c3 λb30 φ=>bf I b30 φ (.int .i64 (α+n5)) λβ=>z β/\R β))/\(az c3 λχ ψ=>pb G χ ψ λγ=>z G/\aj (γ+n5)/\az c2 λω o38=>pb G ω o38 λn39=>z G/\az c2 λb40 o41=>bf G b40 o41 (.int .i64 (if J> n39 then J else n39)) λδ=>z δ/\az c3 λb44 o45=>bf δ b44 o45 (.int .i64 (γ+n5)) λε=>z ε/\R ε)):
  Calls Tryz.prog 249 #[o1,c2,c3] w (an [] R):=
 a7 (a8 [] [] []) [] [.v o1,.v c2,.v c3] Tryz.func249 (by kernel_rfl) h
theorem kX (l1:Value)(w:World)(R:Int->Int->World->Prop)(h:bH w λS2 w3=>az l1 λb4 o5=>ck S2 b4 (o5+0) λv6=>bE v6 λl8=>az l1 λb10 o11=>ck S2 b10 (o11+0) λv12=>bE v12 λl14=>(aQ w3 (.cells #[(.int .i64 0)] 3) λb16 w17=>S2 w17/\aQ w17 (.cells #[(.int .i64 0)] 3) λb18 w19=>S2 w19/\bf w19 b16 0 (.int .i64 (l8:Int)) λw21=>S2 w21/\bf w21 b18 0 (.int .i64 (l14:Int)) λw23=>az l1 λb24 o25=>aS w23 b24 (o25+1) λv26=>bE v26 λl28=>fY 0 w23 λI30 ι H V=>ai (decide (H< (l28:Int))) (aF v26 H λb34 o35=>aS V b34 (o35+H.toNat* 1) λκ=>az κ λb39 o40=>aS V b39 (o40+3) λv41=>∃q42:Option Addr,v41= .pointer q42/\ai (!Option.isNone q42) (az κ λb43 o44=>aS V b43 (o44+3) λv45=>∃(f46:Nat) (c47:List Value),(Value.func (.func 249) #[] #[(.pointer (some ⟨b16,0,none⟩)),(.pointer (some ⟨b18,0,none⟩))])= .func (.func f46) #[] (List.toArray c47)/\List.contains dC f46=true/\fC f46 (List.toArray ([v45]++c47)) V λw48=>az κ λb49 o50=>aS w48 b49 (o50+4) λv51=>bE v51 λl53=>fY 0 w48 λI55 m56 α ε=>ai (decide (α< (l53:Int))) (aF v51 α λb59 o60=>aS ε b59 (o60+α.toNat* 1) λv63=>∃(f64:Nat) (c65:List Value),(Value.func (.func 249) #[] #[(.pointer (some ⟨b16,0,none⟩)),(.pointer (some ⟨b18,0,none⟩))])= .func (.func f64) #[] (List.toArray c65)/\List.contains dC f64=true/\fC f64 (List.toArray ([v63]++c65)) ε λw66=>aj (α+1)/\I55 (α+1) w66/\m56 (α+1) w66< m56 α ε) (aj (H+1)/\I30 (H+1) ε/\ι (H+1) ε< ι H V)) (az κ λb67 o68=>aS V b67 (o68+4) λv69=>bE v69 λl71=>fY 0 V λI73 m74 β ζ=>ai (decide (β< (l71:Int))) (aF v69 β λb77 o78=>aS ζ b77 (o78+β.toNat* 1) λv81=>∃(f82:Nat) (c83:List Value),(Value.func (.func 249) #[] #[(.pointer (some ⟨b16,0,none⟩)),(.pointer (some ⟨b18,0,none⟩))])= .func (.func f82) #[] (List.toArray c83)/\List.contains dC f82=true/\fC f82 (List.toArray ([v81]++c83)) ζ λw84=>aj (β+1)/\I73 (β+1) w84/\m74 (β+1) w84< m74 β ζ) (aj (H+1)/\I30 (H+1) ζ/\ι (H+1) ζ< ι H V))) (bH V λS85 w86=>jX S85 b16 0 λn87=>jX S85 b18 0 λn88=>R n87 n88 w86))/\(aQ w3 (.cells #[(.int .i64 0)] 3) λη w90=>S2 w90/\aQ w90 (.cells #[(.int .i64 0)] 3) λθ w92=>S2 w92/\bf w92 θ 0 (.int .i64 (l8:Int)) λw94=>S2 w94/\bf w94 η 0 (.int .i64 (l14:Int)) λw96=>az l1 λb97 o98=>aS w96 b97 (o98+1) λv99=>bE v99 λl101=>fY 0 w96 λμ γ z G=>ai (decide (z< (l101:Int))) (aF v99 z λb107 o108=>aS G b107 (o108+z.toNat* 1) λδ=>az δ λb112 o113=>aS G b112 (o113+3) λv114=>∃ν:Option Addr,v114= .pointer ν/\ai (!Option.isNone ν) (az δ λb116 o117=>aS G b116 (o117+3) λv118=>∃(f119:Nat) (ξ:List Value),(Value.func (.func 249) #[] #[(.pointer (some ⟨θ,0,none⟩)),(.pointer (some ⟨η,0,none⟩))])= .func (.func f119) #[] (List.toArray ξ)/\List.contains dC f119=true/\fC f119 (List.toArray ([v118]++ξ)) G λο=>az δ λb122 o123=>aS ο b122 (o123+4) λv124=>bE v124 λl126=>fY 0 ο λI128 ς I W=>ai (decide (I< (l126:Int))) (aF v124 I λb132 o133=>aS W b132 (o133+I.toNat* 1) λv136=>∃(f137:Nat) (υ:List Value),(Value.func (.func 249) #[] #[(.pointer (some ⟨θ,0,none⟩)),(.pointer (some ⟨η,0,none⟩))])= .func (.func f137) #[] (List.toArray υ)/\List.contains dC f137=true/\fC f137 (List.toArray ([v136]++υ)) W λφ=>aj (I+1)/\I128 (I+1) φ/\ς (I+1) φ< ς I W) (aj (z+1)/\μ (z+1) W/\γ (z+1) W< γ z G)) (az δ λb140 o141=>aS G b140 (o141+4) λχ=>bE χ λl144=>fY 0 G λI146 ψ J Z=>ai (decide (J< (l144:Int))) (aF χ J λb150 o151=>aS Z b150 (o151+J.toNat* 1) λv154=>∃(f155:Nat) (ω:List Value),(Value.func (.func 249) #[] #[(.pointer (some ⟨θ,0,none⟩)),(.pointer (some ⟨η,0,none⟩))])= .func (.func f155) #[] (List.toArray ω)/\List.contains dC f155=true/\fC f155 (List.toArray ([v154]++ω)) Z λw157=>aj (J+1)/\I146 (J+1) w157/\ψ (J+1) w157< ψ J Z) (aj (z+1)/\μ (z+1) Z/\γ (z+1) Z< γ z G))) (bH G λS158 w159=>jX S158 θ 0 λn160=>jX S158 η 0 λn161=>R n160 n161 w159))):
  Calls Tryz.prog 236 #[l1] w (an [.i,.i] R):=
 a7 (a8 [(4,[(27,.i)]),(9,[(47,.i)])] [] [1,14]) [.tmp 2 .i,.tmp 3 .i] [.v l1] Tryz.func236 (by kernel_rfl) h
theorem wT (c1:UInt8)(w:World)(R:UInt32->World->Prop)(h:R ((oR 1 (UInt8.toNat (c1 - 97:UInt8)))) w):
  Calls Tryz.prog 59 #[(.int .u8 c1.toNat)] w (an [.w] R):=
 a7 (a8 [] [] []) [.tmp 2 .w] [.c c1] Tryz.func59 (by kernel_rfl) h
theorem tG (s1:UInt32)(w:World)(R:UInt8->Bool->World->Prop)(h:H3 97 w λI H c4 z=>ai (decide (c4<=122)) (EI 59 #[(.int .u8 c4.toNat)] z λJ G=>ai (decide ((s1 &&& J:UInt32)=0)) (R c4 true G) (I (c4+1:UInt8) G/\H (c4+1:UInt8) G< H c4 z)) (R 0 false z)):
  Calls Tryz.prog 130 #[(.int .u32 (UInt32.toNat s1))] w (an [.c,.b] R):=
 a7 (a8 [(2,[(4,.c)])] [] []) [.tmp 2 .c,.tmp 3 .b] [.w s1] Tryz.func130 (by kernel_rfl) h
theorem mW (n1:Value)(x2:Int)(w:World)(R:UInt32->World->Prop)(h:az n1 λb3 o4=>HL w b3 (o4+1) λm5=>az n1 λb6 o7=>HL w b6 (o7+1) λm8=>Ed 130 #[(.int .u32 (UInt32.toNat m8))] w λc9 ε V=>ai (!ε) (az n1 λζ η=>bf V ζ (η+2) (.bool true) λθ=>bH θ λW ι=>az n1 λb18 κ=>H' W b18 (κ+1) λμ=>EI 59 #[(.int .u8 (UInt8.toNat 122))] ι λν Z=>W Z/\az n1 λξ ο=>bf Z ξ (ο+1) (.int .u32 (UInt32.toNat (μ ||| ν:UInt32))) λH=>az n1 λς υ=>aS H ς (υ+0) λφ=>∃(z:Nat) (α:Value->Option Value),φ= .map (some z)/\IsMap H z (.int .i64) α/\∀ga:World,IsMap ga z (.int .i64) (eo α (.int .i64 x2) (.int .u8 (UInt8.toNat 122)))->cX H ga z->R m5 ga) (bH V λβ χ=>az n1 λψ ω=>H' β ψ (ω+1) λm37=>EI 59 #[(.int .u8 c9.toNat)] χ λm38 γ=>β γ/\az n1 λb40 o41=>bf γ b40 (o41+1) (.int .u32 (UInt32.toNat (m37 ||| m38:UInt32))) λI=>az n1 λb44 o45=>aS I b44 (o45+0) λv46=>∃(G:Nat) (δ:Value->Option Value),v46= .map (some G)/\IsMap I G (.int .i64) δ/\∀J:World,IsMap J G (.int .i64) (eo δ (.int .i64 x2) (.int .u8 c9.toNat))->cX I J G->R m5 J)):
  Calls Tryz.prog 252 #[n1,(.int .i64 x2)] w (an [.w] R):=
 a7 (a8 [] [] [6]) [.tmp 4 .w] [.v n1,.i x2] Tryz.func252 (by kernel_rfl) h
theorem nv (n1:Value)(z:Int)(w:World)(R:ay->World->Prop)(h:ai (decide (z< 26)) (aj (97+z)/\(0<=(97+z)/\(97+z)< 2147483648)/\(0<=(97+z)/\(97+z)< 128)/\R ([UInt8.ofNat (Int.toNat (97+z))]) w) (az n1 λb3 J=>aS w b3 (J+0) λv5=>∃(I:Nat) (H:Value->Option Value),v5= .map (some I)/\IsMap w I (.int .i64) H/\∃G:UInt8,∃g9:Bool,((g9=true/\H (.int .i64 z)=some (.int .u8 G.toNat))\/(g9=false/\H (.int .i64 z)=none/\(Value.int .u8 G.toNat)=(.int .u8 0)))/\(0<=(UInt8.toNat G:Int)/\(UInt8.toNat G:Int)< 128)/\R ([UInt8.ofNat (Int.toNat (UInt8.toNat G:Int))]) w)):
  Calls Tryz.prog 253 #[n1,(.int .i64 z)] w (an [.s] R):=
 a7 (a8 [] [] []) [.tmp 4 .s] [.v n1,.i z] Tryz.func253 (by kernel_rfl) h
theorem vE (t1:Value)(s2:ay)(w:World)(R:ay->World->Prop)(h:fC 115 #[t1] w λw3=>bE t1 λV=>aj ((V:Int) - 1)/\aF t1 ((V:Int) - 1) λb7 o8=>ct w3 b7 (o8+Int.toNat ((V:Int) - 1)* 1) λW=>bE t1 λI=>aj ((I:Int) - 2)/\ld W (((I:Int) - 2)) w3 λZ J z i18 H=>ai (decide (0<=i18)) (aF t1 i18 λα β=>ct H α (β+i18.toNat* 1) λG=>(List.length [40]+G.length<=4611686018427387904)/\(List.length ([40]++G)+s2.length<=4611686018427387904)/\(List.length (([40]++G)++s2)+z.length<=4611686018427387904)/\(List.length ((([40]++G)++s2)++z)+List.length [41]<=4611686018427387904)/\aj (i18 - 1)/\Z ((((([40]++G)++s2)++z)++[41])) (i18 - 1) H/\J ((((([40]++G)++s2)++z)++[41])) (i18 - 1) H< J z i18 H) (R z H)):
  Calls Tryz.prog 255 #[t1,(.string (ab s2))] w (an [.s] R):=
 a7 (a8 [(4,[(5,.s),(6,.i)])] [] []) [.tmp 4 .s] [.v t1,.s s2] Tryz.func255 (by kernel_rfl) h
theorem lx (n1:Value)(t2:Value)(w:World)(R:ay->World->Prop)(h:az t2 λb3 o4=>fT w b3 (o4+0) λc5=>ai (decide (c5=43)) (aQ w (.cells #[] 9) λb6 w7=>az t2 λb8 o9=>aS w7 b8 (o9+4) λv10=>bE v10 λl12=>oO ((.slice (some ⟨b6,0,none⟩) 0 0)) 0 w7 λI14 ι t16 I α=>ai (decide (I< (l12:Int))) (aF v10 I λb19 o20=>aS α b19 (o20+I.toNat* 1) λv23=>bg 237 #[n1,v23] α λs24 w25=>aQ w25 (.cells #[(.string (ab s24))] 9) λb26 w27=>fc 9 1 16 w27 t16 (.slice (some ⟨b26,0,none⟩) 1 1) λκ μ=>aj (I+1)/\I14 κ (I+1) μ/\ι κ (I+1) μ< ι t16 I α) (bg 255 #[t16,(.string (ab [43]))] α λs35 w36=>R s35 w36)) (ai (decide (c5=42)) (az t2 λb37 o38=>aS w b37 (o38+3) λv39=>bg 237 #[n1,v39] w λν w41=>(List.length [42]+ν.length<=4611686018427387904)/\R ([42]++ν) w41) (ai (decide (c5=126)) (az t2 λb42 o43=>aS w b42 (o43+3) λv44=>bg 237 #[n1,v44] w λξ w46=>(List.length [126,46]+ξ.length<=4611686018427387904)/\R ([126,46]++ξ) w46) (ai (decide (c5=61)) (bH w λβ w48=>az t2 λb49 o50=>jX β b49 (o50+1) λn51=>az t2 λb52 o53=>jX β b52 (o53+2) λn54=>bg 253 #[n1,(.int .i64 n51)] w48 λz ο=>β ο/\bg 253 #[n1,(.int .i64 n54)] ο λG θ=>β θ/\(List.length [91]+List.length (if(Op.bytesLess z G||decide (z=G))then z else G)<=4611686018427387904)/\(List.length ([91]++(if(Op.bytesLess z G||decide (z=G))then z else G))+List.length [61]<=4611686018427387904)/\(List.length (([91]++(if(Op.bytesLess z G||decide (z=G))then z else G))++[61])+List.length (if(!Op.bytesLess z G)then z else G)<=4611686018427387904)/\(List.length ((([91]++(if(Op.bytesLess z G||decide (z=G))then z else G))++[61])++(if(!Op.bytesLess z G)then z else G))+List.length [93]<=4611686018427387904)/\az t2 λb59 o60=>aS θ b59 (o60+3) λv61=>bg 237 #[n1,v61] θ λς w63=>(List.length (((([91]++(if(Op.bytesLess z G||decide (z=G))then z else G))++[61])++(if(!Op.bytesLess z G)then z else G))++[93])+ς.length<=4611686018427387904)/\R (((((([91]++(if(Op.bytesLess z G||decide (z=G))then z else G))++[61])++(if(!Op.bytesLess z G)then z else G))++[93])++ς)) w63) (ai (decide (c5=63)) (az t2 λb64 o65=>pb w b64 (o65+2) λn66=>EI 252 #[n1,(.int .i64 n66)] w λm67 w68=>bH w68 λV w70=>az t2 λb71 o72=>jX V b71 (o72+1) λn73=>az t2 λb74 o75=>jX V b74 (o75+2) λn76=>az t2 λb77 o78=>ck V b77 (o78+3) λv79=>bg 253 #[n1,(.int .i64 n73)] w70 λZ υ=>V υ/\(Z.length+List.length [63]<=4611686018427387904)/\bg 253 #[n1,(.int .i64 n76)] υ λγ φ=>V φ/\(List.length (Z++[63])+γ.length<=4611686018427387904)/\(List.length ((Z++[63])++γ)+List.length [46]<=4611686018427387904)/\bg 237 #[n1,v79] φ λχ ψ=>V ψ/\(List.length (((Z++[63])++γ)++[46])+χ.length<=4611686018427387904)/\az n1 λb86 o87=>bf ψ b86 (o87+1) (.int .u32 (UInt32.toNat m67)) λw89=>R (((((Z++[63])++γ)++[46])++χ)) w89) (bH w λW w91=>az t2 λb92 o93=>jX W b92 (o93+1) λn94=>az t2 λb95 o96=>jX W b95 (o96+2) λn97=>az t2 λb98 o99=>ck W b98 (o99+3) λω=>bg 253 #[n1,(.int .i64 n94)] w91 λH δ=>W δ/\(H.length+List.length [33]<=4611686018427387904)/\bg 253 #[n1,(.int .i64 n97)] δ λJ ε=>W ε/\(List.length (H++[33])+J.length<=4611686018427387904)/\(List.length ((H++[33])++J)+List.length [46]<=4611686018427387904)/\bg 237 #[n1,ω] ε λζ η=>W η/\(List.length (((H++[33])++J)++[46])+ζ.length<=4611686018427387904)/\R (((((H++[33])++J)++[46])++ζ)) η)))))):
  Calls Tryz.prog 254 #[n1,t2] w (an [.s] R):=
 a7 (a8 [(5,[(5,.v),(24,.i)])] [] [15,19,22]) [.tmp 4 .s] [.v n1,.v t2] Tryz.func254 (by kernel_rfl) h
theorem ka (c1:Value)(c2:Value)(c3:Value)(c4:Value)(c5:Value)(w:World)(R:World->Prop)(h:az c1 λb6 o7=>aS w b6 o7 λv8=>bE v8 λl10=>ld ([]) 0 w λI12 δ z G J=>ai (decide (G< (l10:Int))) (aF v8 G λb17 o18=>pb J b17 (o18+G.toNat* 1) λε=>az c2 λb22 o23=>aS J b22 o23 λv24=>EI 252 #[v24,(.int .i64 ε)] J λm25 ζ=>az c2 λb27 o28=>aS ζ b27 o28 λv29=>bg 253 #[v29,(.int .i64 ε)] ζ λV η=>(List.length [35]+V.length<=4611686018427387904)/\(List.length ([35]++V)+List.length [46]<=4611686018427387904)/\(z.length+List.length (([35]++V)++[46])<=4611686018427387904)/\aj (G+1)/\I12 ((z++(([35]++V)++[46]))) (G+1) η/\δ ((z++(([35]++V)++[46]))) (G+1) η< δ z G J) (aQ J (.cells #[] 9) λb32 β=>az c3 λb34 o35=>aS β b34 o35 λv36=>az v36 λb37 o38=>aS β b37 (o38+1) λθ=>bE θ λl41=>oO ((.slice (some ⟨b32,0,none⟩) 0 0)) 0 β λI43 ι t45 H W=>ai (decide (H< (l41:Int))) (aF θ H λb48 o49=>aS W b48 (o49+H.toNat* 1) λv52=>az c2 λb53 o54=>aS W b53 o54 λv55=>bg 254 #[v55,v52] W λs56 w57=>aQ w57 (.cells #[(.string (ab s56))] 9) λb58 w59=>fc 9 1 16 w59 t45 (.slice (some ⟨b58,0,none⟩) 1 1) λκ μ=>aj (H+1)/\I43 κ (H+1) μ/\ι κ (H+1) μ< ι t45 H W) (bg 255 #[t45,(.string (ab [38]))] W λα I=>(z.length+α.length<=4611686018427387904)/\az c4 λb69 o70=>ct I b69 o70 λs71=>fR (decide (s71=[])) (az c4 λb72 o73=>ct I b72 o73 λs74=>ai (Op.bytesLess (z++α) s74) (az c4 λb75 o76=>bf I b75 o76 (.string (ab (z++α))) λγ=>az c2 λb79 o80=>aS γ b79 o80 λv81=>az c5 λb82 o83=>HL γ b82 o83 λm84=>az v81 λb85 o86=>bf γ b85 (o86+1) (.int .u32 (UInt32.toNat m84)) λw88=>R w88) (az c2 λb89 o90=>aS I b89 o90 λv91=>az c5 λb92 o93=>HL I b92 o93 λm94=>az v91 λb95 o96=>bf I b95 (o96+1) (.int .u32 (UInt32.toNat m94)) λw98=>R w98)) (az c4 λb99 ν=>bf I b99 ν (.string (ab (z++α))) λZ=>az c2 λξ ο=>aS Z ξ ο λv105=>az c5 λς υ=>HL Z ς υ λφ=>az v105 λχ ψ=>bf Z χ (ψ+1) (.int .u32 (UInt32.toNat φ)) λω=>R ω)))):
  Calls Tryz.prog 251 #[c1,c2,c3,c4,c5] w (an [] R):=
 a7 (a8 [(2,[(5,.s),(14,.i)]),(9,[(8,.v),(35,.i)])] [] []) [] [.v c1,.v c2,.v c3,.v c4,.v c5] Tryz.func251 (by kernel_rfl) h
theorem kI (z:Value)(a2:Int)(d3:Value)(w:World)(R:World->Prop)(h:bE z λl5=>ai (decide (a2=(l5:Int))) (∃(f7:Nat) (c8:List Value),d3= .func (.func f7) #[] (List.toArray c8)/\List.contains dC f7=true/\fC f7 (List.toArray ([]++c8)) w λw9=>R w9) (fY a2 w λW H i12 G=>bE z λZ=>ai (decide (i12< (Z:Int))) (bH G λI α=>aF z i12 λβ γ=>jX I β (γ+i12.toNat* 1) λδ=>aF z a2 λε ζ=>jX I ε (ζ+a2.toNat* 1) λη=>aF z a2 λθ ι=>bf α θ (ι+a2.toNat* 1) (.int .i64 δ) λκ=>aF z i12 λμ ν=>bf κ μ (ν+i12.toNat* 1) (.int .i64 η) λξ=>aj (a2+1)/\fC 250 #[z,(.int .i64 (a2+1)),d3] ξ λο=>bH ο λJ ς=>aF z i12 λυ φ=>jX J υ (φ+i12.toNat* 1) λχ=>aF z a2 λψ ω=>jX J ψ (ω+a2.toNat* 1) λn53=>aF z a2 λb54 o55=>bf ς b54 (o55+a2.toNat* 1) (.int .i64 χ) λw59=>aF z i12 λb60 o61=>bf w59 b60 (o61+i12.toNat* 1) (.int .i64 n53) λV=>aj (i12+1)/\W (i12+1) V/\H (i12+1) V< H i12 G) (R G))):
  Calls Tryz.prog 250 #[z,(.int .i64 a2),d3] w (an [] R):=
 a7 (a8 [(3,[(6,.i)])] [] [5,7]) [] [.v z,.i a2,.v d3] Tryz.func250 (by kernel_rfl) h
theorem mJ (n1:Value)(l2:Value)(w:World)(R:ay->World->Prop)(h:oneV n1=true/\aQ w (.cells #[n1] 247) λb3 w4=>oneV l2=true/\aQ w4 (.cells #[l2] 146) λb5 w6=>aS w6 b5 0 λv7=>bO 181 #[v7] w6 λq8 w9=>ai q8 (R ([48]) w9) (bH w9 λz J=>ck z b3 0 λv12=>az v12 λκ μ=>H' z κ (μ+1) λV=>(aQ J (.cells #[(.string ⟨#[]⟩)] 9) λb16 W=>z W/\aQ W (.cells #[(.int .u32 0)] 73) λb18 Z=>z Z/\bf Z b16 0 (.string (ab [])) λα=>z α/\bf α b18 0 (.int .u32 (UInt32.toNat V)) λG=>aS G b5 0 λv24=>az v24 λν ξ=>aS G ν (ξ+0) λο=>ch 180 #[ο] G λv28 ς=>aQ ς (.cells #[(.slice none 0 0)] 36) λb30 υ=>oneV v28=true/\bf υ b30 0 v28 λβ=>aS β b30 0 λφ=>fC 250 #[φ,(.int .i64 0),(Value.func (Fn.func 251) #[] #[(.pointer (some ⟨b30,0,none⟩)),(.pointer (some ⟨b3,0,none⟩)),(.pointer (some ⟨b5,0,none⟩)),(.pointer (some ⟨b16,0,none⟩)),(.pointer (some ⟨b18,0,none⟩))])] β λγ=>ct γ b16 0 λχ=>R χ γ)/\(aQ J (.cells #[(.int .u32 0)] 73) λδ ε=>z ε/\aQ ε (.cells #[(.string ⟨#[]⟩)] 9) λb39 ζ=>z ζ/\bf ζ b39 0 (.string (ab [])) λη=>z η/\bf η δ 0 (.int .u32 (UInt32.toNat V)) λH=>aS H b5 0 λψ=>az ψ λω o47=>aS H ω (o47+0) λv48=>ch 180 #[v48] H λv49 w50=>aQ w50 (.cells #[(.slice none 0 0)] 36) λI w52=>oneV v49=true/\bf w52 I 0 v49 λθ=>aS θ I 0 λv55=>fC 250 #[v55,(.int .i64 0),(Value.func (Fn.func 251) #[] #[(.pointer (some ⟨I,0,none⟩)),(.pointer (some ⟨b3,0,none⟩)),(.pointer (some ⟨b5,0,none⟩)),(.pointer (some ⟨b39,0,none⟩)),(.pointer (some ⟨δ,0,none⟩))])] θ λι=>ct ι b39 0 λs57=>R s57 ι))):
  Calls Tryz.prog 237 #[n1,l2] w (an [.s] R):=
 a7 (a8 [] [] [3]) [.tmp 4 .s] [.v n1,.v l2] Tryz.func237 (by kernel_rfl) h
theorem kA (l1:Value)(w:World)(R:ay->Bool->World->Prop)(h:ch 139 #[l1] w λv2 w3=>HR 236 #[v2] w3 λn4 n5 w6=>fR (decide (5< n4)) (ai (decide (8< n5)) (R ([]) false w6) (aQ w6 (Obj.map #[] 0) λb7 w8=>oneV (.map (some b7))=true/\aQ w8 (.cells #[(.map (some b7)),(.int .u32 (UInt32.toNat 0)),(.bool false),(.int .i64 0)] 250) λb9 β=>fY 0 β λV G z H=>ai (decide (z< 26)) (bO 220 #[v2,(.int .i64 z)] H λγ I=>ai γ (bH I λδ ε=>H' δ b9 1 λζ=>0<=(z:Int)/\bf ε b9 1 (.int .u32 (UInt32.toNat (ζ ||| (oR 1 z.toNat):UInt32))) λW=>aj (z+1)/\V (z+1) W/\G (z+1) W< G z H) (aj (z+1)/\V (z+1) I/\G (z+1) I< G z H)) (bg 237 #[(.pointer (some ⟨b9,0,none⟩)),v2] H λZ J=>Ac J b9 2 λη=>fR η (bO 238 #[(.string (ab Z))] J λθ α=>ai (!θ) (R ([]) false α) (R Z true α)) (R ([]) false J)))) (R ([]) false w6)):
  Calls Tryz.prog 216 #[l1] w (an [.s,.b] R):=
 a7 (a8 [(7,[(25,.i)])] [] [10]) [.tmp 2 .s,.tmp 3 .b] [.v l1] Tryz.func216 (by kernel_rfl) h
theorem mD (t1:Value)(w:World)(R:ay->Bool->World->Prop)(h:aQ w (.cells #[(.int .i64 0)] 145) λb2 G=>ch 138 #[] G λv4 H=>ch 137 #[(.pointer (some ⟨b2,0,none⟩)),t1,v4] H λv6 I=>jg 216 #[v6] I λJ V z=>R J V z):
  Calls Tryz.prog 175 #[t1] w (an [.s,.b] R):=
 a7 (a8 [] [] []) [.tmp 2 .s,.tmp 3 .b] [.v t1] Tryz.func175 (by kernel_rfl) h
end Go.Proofs.YtdecokaadekjnaaGreat
namespace Go.Proofs.YtdecokaadekjnaaGreat
open Go Go.RowKit
theorem di:∀l:Lv,thAll l<=l.tot
 | .nil=>Jc _
 | .thr _ _ _ o r n=>by have :=di r;have :=di n;simp only [thAll,Lv.tot];omega
 | .sum z n=>by have :=di z;have :=di n;simp only [thAll,Lv.tot];omega
 | .part o q n=>by have :=di q;have :=di n;simp only [thAll,Lv.tot];omega
def Ib (n:Nat):Prop:=∀{D:Nat->Prop} {w:World} {v:Value} {o:List Nat} {l:Lv} {R:Int->Int->World->Prop},l.sz<=n->l.sh true=true->fS D w v o (af D w l)->o.length+l.tot<=1099511627776->
 (∀w',Ex w w'->R ((max o.length (ax l):Nat):Int) ((o.length+thAll l:Nat):Int) w')->Calls Tryz.prog 236 #[v] w (an [.i,.i] R)
structure FS (w w':World)(bm ba m a:Nat):Prop where
 ex:Ex w w'
 lm:bm< w'.heap.size
 la:ba< w'.heap.size
 hm:w.heap.size<=bm
 ha:w.heap.size<=ba
 ne:bm≠ba
 cm:w'.cell? ⟨bm,0,none⟩=some (iv m)
 ca:w'.cell? ⟨ba,0,none⟩=some (iv a)
 fm:w'.frozen? ⟨bm,0,none⟩=false
 fa:w'.frozen? ⟨ba,0,none⟩=false
theorem FS.ext {w w' w'':World}{bm ba m a:Nat}(h:FS w w' bm ba m a)(x:Ex w' w''):FS w w'' bm ba m a:=
 ⟨Ex.trans h.ex x,Jt h.lm x.size,Jt h.la x.size,h.hm,h.ha,h.ne,by rw [x.cell (show bm< _ from h.lm)];exact h.cm,by rw [x.cell (show ba< _ from h.la)];exact h.ca,
  by rw [Jz (w:=w') (x.block bm h.lm)];exact h.fm,by rw [Jz (w:=w') (x.block ba h.la)];exact h.fa⟩
theorem FS.GO {w w' w'':World}{bm ba m a m':Nat}(h:FS w w' bm ba m a)(hw:w''=w'.setCell ⟨bm,0,none⟩ (iv m')):FS w w'' bm ba m' a:=by
 subst hw;exact⟨Ex.own h.ex h.hm _,by rw [JI];exact h.lm,by rw [JI];exact h.la,h.hm,h.ha,h.ne,Jk _ _ _ h.cm,by rw [I4 _ _ _ _ (λe=>by injection e with z;exact h.ne z)];exact h.ca,by rw [Jl];exact h.fm,by rw [Jl];exact h.fa⟩
theorem FS.Hq {w w' w'':World}{bm ba m a a':Nat}(h:FS w w' bm ba m a)(hw:w''=w'.setCell ⟨ba,0,none⟩ (iv a')):FS w w'' bm ba m a':=by
 subst hw;exact⟨Ex.own h.ex h.ha _,by rw [JI];exact h.lm,by rw [JI];exact h.la,h.hm,h.ha,h.ne,by rw [I4 _ _ _ _ (λe=>by injection e with z;exact h.ne z.symm)];exact h.cm,Jk _ _ _ h.ca,by rw [Jl];exact h.fm,by rw [Jl];exact h.fa⟩
theorem FW {n:Nat}(ih:Ib n){D:Nat->Prop}{w w':World}{v:Value}{o:List Nat}{l:Lv}{bm ba m a:Nat}(hs:FS w w' bm ba m a)(hn:l.sz<=n)(V:l.sh true=true)(h:fS D w' v o (af D w' l))(hb:a+o.length+l.tot<=1099511627776){R:World->Prop}
  (hR:∀w'',FS w w'' bm ba (max m (max o.length (ax l))) (a+(o.length+thAll l))->R w''):Calls Tryz.prog 249 #[v,ptr bm,ptr ba] w' (an [] R):=by
 refine ju v _ _ w' R ?_;have h1:=di l;refine ih hn V h (by omega) λw6 x6=>⟨λ _=>True,λZ W=>⟨trivial,?_⟩⟩
 have f8:FS w Z bm ba m a:=(hs.ext x6).ext (W▸Ex.drew w6);have em:(if((max o.length (ax l):Nat):Int)> (m:Int)then((max o.length (ax l):Nat):Int)else(m:Int))=((max m (max o.length (ax l)):Nat):Int):=by split<;>omega
 have ea:((a:Int)+((o.length+thAll l:Nat):Int))=((a+(o.length+thAll l):Nat):Int):=by omega
 have J:aj ((a:Int)+((o.length+thAll l:Nat):Int)):=by unfold aj;omega
 have fin:∀w1 w2,FS w w1 bm ba (max m (max o.length (ax l))) a->w2=w1.setCell ⟨ba,0,none⟩ (.int .i64 ((a:Int)+((o.length+thAll l:Nat):Int)))->True/\R w2:=λw1 w2 f1 hw=>by
  rw [ea]at hw;exact⟨trivial,hR w2 (f1.Hq hw)⟩
 have mid:∀w1,w1=Z.setCell ⟨bm,0,none⟩ (.int .i64 (if((max o.length (ax l):Nat):Int)> (m:Int)then((max o.length (ax l):Nat):Int)else(m:Int)))->FS w w1 bm ba (max m (max o.length (ax l))) a:=λw1 hw=>by
  rw [em]at hw;exact f8.GO hw
 refine⟨⟨bm,0,rfl,m,f8.cm,trivial,⟨ba,0,rfl,a,f8.ca,trivial,J,bm,0,rfl,⟨⟨_,f8.cm⟩,f8.fm⟩,λG z=>⟨trivial,ba,0,rfl,⟨⟨_,(mid G z).ca⟩,(mid G z).fa⟩,λI H=>fin G I (mid G z) H⟩⟩,
  ⟨bm,0,rfl,⟨⟨_,f8.cm⟩,f8.fm⟩,λG z=>⟨trivial,ba,0,rfl,a,(mid G z).ca,trivial,J,ba,0,rfl,⟨⟨_,(mid G z).ca⟩,(mid G z).fa⟩,λI H=>fin G I (mid G z) H⟩⟩⟩,
  ⟨ba,0,rfl,a,f8.ca,trivial,J,bm,0,rfl,m,f8.cm,trivial,bm,0,rfl,⟨⟨_,f8.cm⟩,f8.fm⟩,λG z=>⟨trivial,ba,0,rfl,⟨⟨_,(mid G z).ca⟩,(mid G z).fa⟩,λI H=>fin G I (mid G z) H⟩⟩⟩
theorem FS.swap {w w':World}{bm ba m a:Nat}(h:FS w w' bm ba m a):FS w w' ba bm a m:=⟨h.ex,h.la,h.lm,h.ha,h.hm,L0 h.ne,h.ca,h.cm,h.fa,h.fm⟩
theorem aN (w:World)(c:Array Value)(e j:Nat):(w.alloc (.cells c e)).frozen? ⟨w.heap.size,j,none⟩=false:=by unfold World.frozen? World.alloc;simp
theorem FS.new {w w1 w2 I:World}{bm ba:Nat}(x:Ex w w1)(hm:bm=w1.heap.size)(G:w2=w1.alloc (.cells #[iv 0] 3))(ha:ba=w2.heap.size)(H:I=w2.alloc (.cells #[iv 0] 3)):Ex w w2/\FS w I bm ba 0 0:=by
 have :=x.size;subst hm G ha H;have J:Ex w (w1.alloc (.cells #[iv 0] 3)):=Ex.trans x (Ex.alloc _ _);have s2:=size_alloc w1 (.cells #[iv 0] 3);have V:=size_alloc (w1.alloc (.cells #[iv 0] 3)) (.cells #[iv 0] 3);have z:w1.heap.size< (w1.alloc (.cells #[iv 0] 3)).heap.size:=by omega
 refine⟨J,Ex.trans J (Ex.alloc _ _),by omega,by omega,this,by omega,by omega,?_,aa rfl,?_,aN _ _ _ _⟩
 ·rw [(Ex.alloc _ _).cell (a:=⟨w1.heap.size,0,none⟩) z];exact aa rfl
 ·rw [Jz (w:=w1.alloc (.cells #[iv 0] 3)) ((Ex.alloc _ _).block _ z)];exact aN _ _ _ _
theorem xe (n:Nat)(ih:∀m,m< n->Ib m):Ib n:=by
 intro D w v o l R hn hsh h hb hR;refine kX v w R ?_;obtain⟨b,vo,vt,ts,rfl,h2,h3,h4,h5,h6,h7,h8⟩:=h;obtain⟨ao,κ,ξ⟩:=h6.slice;rw [Ju]at ξ;obtain⟨at_,capt,hvt⟩:=h7.slice;have hlen:=h8.len;have hel:=Lv.cK l;have hlt:=bS l;have cv:∀{w1:World},Ex w w1->∀{j:Nat} {u:Value},w.cell? ⟨b,j,none⟩=some u->w1.cell? ⟨b,j,none⟩=some u:=by
  intro w1 hx j u hu;rw [hx.cell (show b< _ from h3)];exact hu
 have fin:∀bm ba H,FS w H bm ba (max o.length (ax l)) (o.length+thAll l)->∃ο:World->Prop,∀ε:World,ε=World.drew H->ο ε/\∃n87:Int,(∀w',ο w'->World.cell? w' ⟨bm,0,none⟩=some (Value.int IntKind.i64 n87))/\∃n88:Int,(∀w',ο w'->World.cell? w' ⟨ba,0,none⟩=some (Value.int IntKind.i64 n88))/\R (n87) (n88) ε:=by
  intro bm ba H f;refine⟨λw'=>Ex H w',λε μ=>⟨μ▸Ex.drew H,((max o.length (ax l):Nat):Int),λw' x=>(f.ext x).cm,((o.length+thAll l:Nat):Int),λw' x=>(f.ext x).ca,hR _ (Ex.trans f.ex (μ▸Ex.drew H))⟩⟩
 refine⟨λw'=>Ex w w',λw3 hw3=>⟨hw3▸Ex.drew w,b,0,rfl,vo,λw' hx=>cv hx h4,ao,_,κ,ξ,b,0,rfl,vo,λw' hx=>cv hx h4,ao,_,κ,ξ,λb1 ς β G=>?A,λb1 ς β G=>?B⟩⟩
 all_goals have x3:Ex w w3:=hw3▸Ex.drew w
 case' A=>
  have υ:Ex w ς:=G▸Ex.trans x3 (Ex.alloc _ _);refine⟨υ,λb2 w19 γ I=>?_⟩;have f:=(FS.new x3 β G γ I).2;refine⟨f.ex,⟨⟨_,f.cm⟩,f.fm⟩,λw21 J=>?_⟩;have f21:=f.GO (m':=o.length) J;refine⟨f21.ex,⟨⟨_,f21.ca⟩,f21.fa⟩,λw23 V=>?_⟩;have f23:=f21.Hq (a':=o.length) V;generalize b1=bm at*;generalize b2=ba at*;clear β γ G I J V f f21
 case' B=>
  have υ:Ex w ς:=G▸Ex.trans x3 (Ex.alloc _ _);refine⟨υ,λb2 w19 γ I=>?_⟩;have f:=(FS.new x3 β G γ I).2.swap;refine⟨f.ex,⟨⟨_,f.cm⟩,f.fm⟩,λw21 J=>?_⟩;have f21:=f.GO (m':=o.length) J;refine⟨f21.ex,⟨⟨_,f21.ca⟩,f21.fa⟩,λw23 V=>?_⟩;have f23:=f21.Hq (a':=o.length) V;generalize b1=ba at*;generalize b2=bm at*;clear β γ G I J V f f21
 all_goals
  refine⟨b,0,rfl,vt,cv f23.ex h5,at_,_,capt,hvt,λx w'=>∃i:Nat,x=i/\i<=ts.length/\FS w w' bm ba (max o.length (ax (l.take i))) (o.length+thAll (l.take i)),λx _=>(ts.length - x).toNat,⟨0,rfl,JS _,by simpa [Lv.take,ax,thAll]using f23⟩,λx H hI=>?_⟩;obtain⟨i,rfl,hi,f33⟩:=hI;refine⟨λhlt'=>?_,λhge=>?_⟩;rotate_left
  ·have:i=l.bk.length:=by simp only [I1]at hge;omega
   rw [this,Lv.df]at f33;exact fin bm ba H f33
  have ζ:i< ts.length:=by simp only [I0]at hlt';omega
  have hie:i< l.bk.length:=by omega
  obtain⟨bt,ot,z,hvt',hc⟩:∃bt ot z,vt= .slice (some ⟨bt,ot,none⟩) ts.length z/\H.cell? ⟨bt,ot+i,none⟩=some ts[i]:=by
   rcases h7 with⟨_,h0⟩ | ⟨bt,ot,z,e,_,φ,Z⟩
   ·rw [h0]at ζ;simp at ζ
   ·exact⟨bt,ot,z,e,by rw [f33.ex.cell (show bt< _ from φ)];exact Z i _ (IY ζ)⟩
  obtain⟨e,he1,he2,χ⟩:=aK.single h8.bk (IY ζ);have he4:l.bk[i]=e:=by rw [IY hie]at he1;exact JO he1
  have ψ:=Lv.take_succ l i hie;rw [he4]at ψ;have ω:=Lv.fe l (i+1);rw [ψ,Lv.bT]at ω;have htt0:=di (l.take i);have hsz:=Lv.en l e he2;have he5:=χ.ex f33.ex;have step:∀W,FS w W bm ba (max (max o.length (ax (l.take i))) (ax e)) (o.length+thAll (l.take i)+thAll e)->aj ((i:Int)+1)/\(∃j:Nat,(i:Int)+1=j/\j<=ts.length/\FS w W bm ba (max o.length (ax (l.take j))) (o.length+thAll (l.take j)))/\((ts.length:Int) - ((i:Int)+1)).toNat< ((ts.length:Int) - i).toNat:=by
   intro W f58;refine⟨by unfold aj;omega,⟨i+1,by omega,by omega,?_⟩,by omega⟩;rw [ψ,cn,bX];rw [Nat.max_assoc,Lc]at f58;exact f58
  refine⟨bt,ot,_,z,hvt',by omega,by omega,ts[i],by rw [Ja,JE];exact hc,?_⟩;rcases Lv.jz hsh e he2 with⟨k,a,bb,o',r,rfl,hr⟩ | ⟨ps,rfl,hps⟩
  ·obtain⟨t,ts',a',b',vr,e1,ht,_,η,_⟩:=χ;obtain⟨rfl,rfl⟩:=J3 e1;obtain⟨g,hg,_,θ,c0,c1,c2,c3,c4⟩:=ht;have η:=η.ex f33.ex;rw [<-f33.ex.cell (show g< _ from θ)]at c3;have hvr:∃br,vr=ptr br:=by obtain⟨br,_,_,_,e,_⟩:=η;exact⟨br,e⟩
   obtain⟨br,rfl⟩:=hvr;simp only [Lv.sz]at hsz;simp only [Lv.tot]at ω;refine⟨g,0,hg,ptr br,c3,some ⟨br,0,none⟩,rfl,λ _=>⟨g,0,hg,ptr br,c3,249,[ptr bm,ptr ba],rfl,by kernel_rfl,?_⟩,λh=>by cases h⟩;refine FW (ih r.sz (by omega)) f33 (Jc _) hr η (by omega) λw48 f48=>?_
   refine⟨g,0,hg,.slice none 0 0,by rw [f48.ex.cell (show g< _ from θ)];exact c4,none,0,0,rfl,λy W=>y=0/\W=w48,λ _ _=>0,⟨rfl,rfl⟩,λy W hy=>?_⟩;obtain⟨rfl,rfl⟩:=hy;refine⟨λh=>by simp at h,λ _=>step _ ?_⟩;simpa [ax,thAll]using f48
  ·obtain⟨t,ts',a',b',vp,us,e1,ht,hus,ν,_⟩:=χ;obtain⟨rfl,rfl⟩:=J3 e1;obtain⟨g,hg,_,θ,c0,c1,c2,c3,c4⟩:=ht;obtain⟨au,cau,hvu⟩:=hus.slice;rw [<-f33.ex.cell (show g< _ from θ)]at c3 c4;simp only [Lv.sz]at hsz;simp only [Lv.tot]at ω;have hul:=ν.len;have hpl:=Lv.cK ps;have hpt:=bS ps;refine⟨g,0,hg,.pointer none,c3,none,rfl,λh=>(by cases h),λ _=>⟨g,0,hg,vp,c4,au,_,cau,hvu,λy w'=>∃j:Nat,y=j/\j<=us.length/\FS w w' bm ba (max (max o.length (ax (l.take i))) (ax (ps.take j))) (o.length+thAll (l.take i)+thAll (ps.take j)),λy _=>(us.length - y).toNat,⟨0,rfl,JS _,by simpa [Lv.take,ax,thAll]using f33⟩,λy W hJ=>?_⟩⟩;obtain⟨j,rfl,hj,f58⟩:=hJ;refine⟨λhlt2=>?_,λhge2=>?_⟩;rotate_left
   ·have:j=ps.bk.length:=by simp only [I1]at hge2;omega
    rw [this,Lv.df]at f58;exact step _ (by simpa [ax,thAll]using f58)
   have ι:j< us.length:=by simp only [I0]at hlt2;omega
   have hje:j< ps.bk.length:=by omega
   obtain⟨bu,ou,α,hvu',hcu⟩:∃bu ou α,vp= .slice (some ⟨bu,ou,none⟩) us.length α/\W.cell? ⟨bu,ou+j,none⟩=some us[j]:=by
    rcases hus with⟨_,h0⟩ | ⟨bt,ot,z,e,_,φ,Z⟩
    ·rw [h0]at ι;simp at ι
    ·exact⟨bt,ot,z,e,by rw [f58.ex.cell (show bt< _ from φ)];exact Z j _ (IY ι)⟩
   obtain⟨e,hf1,hf2,hf3⟩:=aK.single ν.bk (IY ι);have hf4:ps.bk[j]=e:=by rw [IY hje]at hf1;exact JO hf1
   have δ:=Lv.take_succ ps j hje;rw [hf4]at δ;have htu:=Lv.fe ps (j+1);rw [δ,Lv.bT]at htu;have htu0:=di (ps.take j);have hsz2:=Lv.en ps e hf2;obtain⟨o2,q,rfl,hq⟩:=Lv.lL hps e hf2;simp only [Lv.sz]at hsz2;simp only [Lv.tot]at htu;obtain⟨v2,ts2,e2,hlv2,_⟩:=hf3;obtain⟨rfl,rfl⟩:=J3 e2;refine⟨bu,ou,_,α,hvu',by omega,by omega,us[j],by rw [Ja,JE];exact hcu,249,[ptr bm,ptr ba],rfl,by kernel_rfl,?_⟩;refine FW (ih q.sz (by omega)) f58 (Jc _) hq (hlv2.ex f58.ex) (by omega) λw66 f66=>⟨by unfold aj;omega,⟨j+1,by omega,by omega,?_⟩,by show((us.length:Int) - ((j:Int)+1)).toNat< ((us.length:Int) - j).toNat;omega⟩
   rw [δ,cn,bX];simp only [ax,thAll,Nat.max_zero,Lp];rw [<-Nat.max_assoc,<-Lc];exact f66
theorem DE (n:Nat):Ib n:=by
 induction n using Nat.strongRecOn with
 | _ n z=>exact xe n z
end Go.Proofs.YtdecokaadekjnaaGreat
namespace Go.Proofs.YtdecokaadekjnaaGreat
namespace Lv
def bvs:Lv->List Nat
 | nil=>[]
 | thr k _ b o r n=>(if k= .r then [b]else [])++(o++(r.bvs++n.bvs))
 | sum z n=>z.bvs++n.bvs
 | part o q n=>o++(q.bvs++n.bvs)
theorem dh:∀l m:Lv,(l.app m).bvs=l.bvs++m.bvs
 | nil,m=>rfl
 | thr k a b o r n,m=>by simp only [app,bvs,dh n m,JH]
 | sum z n,m=>by simp only [app,bvs,dh n m,JH]
 | part o q n,m=>by simp only [app,bvs,dh n m,JH]
theorem mj:∀(l:Lv),∀e∈l.bk,e.bvs.Sublist l.bvs
 | nil,e,h=>by cases h
 | thr k a b o r n,e,h=>by
  rcases Jm.1 h with rfl | h
  ·simp only [bvs,JD];exact KJ (J8 _) (KJ (J8 _) (K6 _ _))
  ·exact(mj n e h).trans ((Kv _ _).trans ((Kv _ _).trans (Kv _ _)))
 | sum z n,e,h=>by
  rcases Jm.1 h with rfl | h
  ·simp only [bvs,JD];exact K6 _ _
  ·exact(mj n e h).trans (Kv _ _)
 | part o q n,e,h=>by
  rcases Jm.1 h with rfl | h
  ·simp only [bvs,JD];exact KJ (J8 _) (K6 _ _)
  ·exact(mj n e h).trans ((Kv _ _).trans (Kv _ _))
theorem pP {x:Nat}:∀(l:Lv),∀e∈l.bk,e.fh x->l.fh x
 | nil,e,h,_=>by cases h
 | thr k a b o r n,e,h,z=>by
  rcases Jm.1 h with rfl | h
  ·rcases z with z | z | z | z
   ·exact .inl z
   ·exact .inr (.inl z)
   ·exact .inr (.inr (.inl z))
   ·exact z.elim
  ·exact .inr (.inr (.inr (pP n e h z)))
 | sum G n,e,h,z=>by
  rcases Jm.1 h with rfl | h
  ·exact .inl (z.elim id λh=>h.elim)
  ·exact .inr (pP n e h z)
 | part o q n,e,h,z=>by
  rcases Jm.1 h with rfl | h
  ·exact .inl (z.elim id λh=>h.elim)
  ·exact .inr (pP n e h z)
theorem lB:∀(l:Lv) (i:Nat),∀x∈(l.take i).bvs,x∈l.bvs
 | _,0,x,h=>by simp [take,bvs]at h
 | nil,i+1,x,h=>h
 | thr k a b o r n,i+1,x,h=>by
  simp only [take,bvs,Jf]at h|-;exact h.imp id (Or.imp id (Or.imp id (lB n i x)))
 | sum z n,i+1,x,h=>by
  simp only [take,bvs,Jf]at h|-;exact h.imp id (lB n i x)
 | part o q n,i+1,x,h=>by
  simp only [take,bvs,Jf]at h|-;exact h.imp id (Or.imp id (lB n i x))
theorem gz:∀(l:Lv) (i:Nat),(l.take i).len<=l.len
 | _,0=>by simp [take,len]
 | nil,i+1=>by simp [take,len]
 | thr k a b o r n,i+1=>by have :=gz n i;simp only [take,len];omega
 | sum z n,i+1=>by have :=gz n i;simp only [take,len];omega
 | part o q n,i+1=>by have :=gz n i;simp only [take,len];omega
def sm:Lv->Bool
 | nil=>true
 | thr _ _ _ _ r n=>r.sm&&n.sm
 | sum z n=> !z.isNil&&(z.sm&&n.sm)
 | part _ q n=>q.sm&&n.sm
theorem po:∀{l m:Lv},(l.app m).sm=(l.sm&&m.sm)
 | nil,m=>by simp [app,sm]
 | thr k a b o r n,m=>by simp only [app,sm,po (l:=n),Mj]
 | sum z n,m=>by simp only [app,sm,po (l:=n),Mj]
 | part o q n,m=>by simp only [app,sm,po (l:=n),Mj]
theorem rK:∀{l:Lv},l.sm=true->∀e∈l.bk,e.sm=true
 | nil,_,e,h=>by cases h
 | thr k a b o r n,z,e,h=>by
  simp only [sm,IZ]at z;rcases Jm.1 h with rfl | h
  ·simp only [sm,z.1,Ks]
  ·exact rK z.2 e h
 | sum G n,z,e,h=>by
  simp only [sm,IZ]at z;rcases Jm.1 h with rfl | h
  ·simp only [sm,z.1,z.2.1,Ks]
  ·exact rK z.2.2 e h
 | part o q n,z,e,h=>by
  simp only [sm,IZ]at z;rcases Jm.1 h with rfl | h
  ·simp only [sm,z.1,Ks]
  ·exact rK z.2 e h
theorem GC {z:Lv}{n:List Nat×Lv}(h:z.sm=true)(G:n.2.sm=true):(spl z n).2.sm=true:=by
 unfold spl;split
 ·exact G
 ·simp only [sm,IZ]at h;simp only [po,h.1,G,Ks]
 ·rename_i H I;have:z.isNil=false:=by cases z<;>first | rfl | exact absurd rfl H
  simp only [sm,this,h,G,Bool.not_false,Ks]
theorem Ha {o:List Nat}{q n:Lv}(h:q.sm=true)(z:n.sm=true):(prt o q n).sm=true:=by
 unfold prt;split
 ·exact z
 ·split
  ·simp only [sm,IZ]at h;simp only [po,h.2.1,z,Ks]
  ·simp only [sm,IZ]at h|-;exact⟨h,z⟩
 ·simp only [sm,h,z,Ks]
theorem mP:∀l:Lv,(tid l).2.sm=true
 | nil=>rfl
 | thr k a b o r n=>by
  have G:=mP r;have z:=mP n;simp only [tid];have H:(kept o (tid r)).2=(tid r).2:=rfl;split
  ·simp only [po,H,G,z,Ks]
  ·split
   ·exact z
   ·simp only [sm,H,G,z,Ks]
 | sum I n=>by
  simp only [tid];exact GC (mP I) (mP n)
 | part o q n=>by
  simp only [tid,kept];exact Ha (mP q) (mP n)
end Lv
structure tr (o:List Nat)(l:Lv):Prop where
 nd:(o++l.bvs).Nodup
 nf:∀x∈l.bvs,¬l.fh x
 ge:∀x∈o++l.bvs,26<=x
theorem tr.bk {o:List Nat}{l:Lv}(h:tr o l){e:Lv}(he:e∈l.bk):tr [] e:=by
 have z:=Lv.mj l e he;refine⟨by simpa using(JG.1 h.nd).2.1.sublist z,λx G H=>h.nf x (z.subset G) (Lv.pP l e he H),λx G=>h.ge x (Jx _ (z.subset (by simpa using G)))⟩
theorem tr.thr {k:K}{a b:Nat}{o:List Nat}{r:Lv}(h:tr [] (.thr k a b o r .nil)):tr o r/\(k= .r->26<=b/\b≠a/\b∉o/\b∉r.bvs):=by
 have nd:=h.nd;have ge:=h.ge;have nf:=h.nf;simp only [Lv.bvs,JD,JW]at nd ge nf;have z:=(JG.1 nd).2.1;refine⟨⟨z,λx G J=>?_,λx G=>ge x (Jx _ G)⟩,λH=>?_⟩
 ·refine nf x (Jx _ (Jx _ G)) (.inr (.inr (.inl ⟨λI=>(JG.1 z).2.2 x I x G rfl,fun⟨H,hb⟩=>?_,J⟩)));rw [JB H]at nd;exact(JG.1 nd).2.2 b (by simp) x (Jx _ G) hb.symm
 ·rw [JB H]at nd ge nf;refine⟨ge b (by simp),λe=>nf b (by simp) (.inr (.inl ⟨H,e⟩)),λI=>(JG.1 nd).2.2 b (by simp) b (JF _ I) rfl,λhr=>(JG.1 nd).2.2 b (by simp) b (Jx _ hr) rfl⟩
theorem tr.sum {G:Lv}(h:tr [] (.sum G .nil)):tr [] G:=by
 have nd:=h.nd;have ge:=h.ge;have nf:=h.nf;simp only [Lv.bvs,JD,JW]at nd ge nf;exact⟨by simpa using nd,λx z H=>nf x z (.inl H),λx z=>ge x (by simpa using z)⟩
theorem tr.part {o:List Nat}{q:Lv}(h:tr [] (.part o q .nil)):tr o q:=by
 have nd:=h.nd;have ge:=h.ge;have nf:=h.nf;simp only [Lv.bvs,JD,JW]at nd ge nf;exact⟨nd,λx z G=>nf x (Jx _ z) (.inl ⟨λH=>(JG.1 nd).2.2 x H x z rfl,G⟩),ge⟩
def bJ (l:List Tx):Nat:=(l.map λs=>s.length+3).sum
theorem im {l m:List Tx}(h:l.Perm m):bJ l=bJ m:=iL (h.map _)
theorem yZ (l m:List Tx):bJ (l++m)=bJ l+bJ m:=by simp [bJ]
theorem gG (s:UInt8):∀l:List Tx,(joinS s l).length<=bJ l
 | []=>by simp [joinS]
 | [a]=>by simp [joinS,bJ]
 | a::b::l=>by
  have :=gG s (b::l);simp only [joinS,IW,I',Jh];simp only [bJ,JA,J']at this|-;omega
theorem tZ (s:Tx):∀l:List UInt8,(wrap l s).length=3* l.length+s.length
 | []=>by simp [wrap]
 | c::l=>by simp only [wrap,IW,tZ s l];omega
theorem ng {own:List Nat}{f:Rh->Tk->List Tx}{B:Nat}(hB:∀ρ tk,bJ (f ρ tk)<=B)(ρ:Rh)(tk:Tk):(aP own f ρ tk).length<=3* own.length+B+1:=by
 unfold aP;split
 ·simp
 ·have z:((perms own).map λπ=>joinS 38 (aX (f (asg π (lets own.length tk) ρ) (addK (lets own.length tk) tk))))≠[]:=λe=>oH own (Lu.1 e)
  obtain⟨G,_⟩:=cE z;obtain⟨π,_,e⟩:=JL.1 G;show(wrap _ (bG _)).length<=_;rw [tZ,fE,<-e];have :=gG 38 (aX (f (asg π (lets own.length tk) ρ) (addK (lets own.length tk) tk)));rw [im (aM _)]at this;have :=hB (asg π (lets own.length tk) ρ) (addK (lets own.length tk) tk);omega
theorem fV:∀(l:Lv) (ρ:Rh) (tk:Tk),bJ (thS l ρ tk)<=16* l.tot
 | .nil,_,_=>by simp [thS,bJ]
 | .thr k a b o r n,ρ,tk=>by
  have G:=fV n ρ tk;have z:∀ρ tk,(aP o (thS r) ρ tk).length<=3* o.length+16* r.tot+1:=λρ tk=>ng (λρ tk=>fV r ρ tk) ρ tk
  simp only [bJ]at G|-;cases k<;>simp only [thS,JA,J',kText,IW,Lv.tot]
  ·have :=z ρ tk;omega
  ·have :=z (aE ρ b (ir tk)) (cf tk (ir tk));omega
  ·have :=z ρ tk;omega
  ·have :=z ρ tk;omega
  ·have :=z ρ tk;omega
 | .sum H n,ρ,tk=>by
  have z:=fV H ρ tk;have G:=fV n ρ tk;have I:=gG 43 (aX (thS H ρ tk));rw [im (aM _)]at I;simp only [bJ]at z G I|-;simp only [thS,JA,J',Lv.tot];omega
 | .part o q n,ρ,tk=>by
  have G:=fV n ρ tk;have z:(aP o (thS q) ρ tk).length<=3* o.length+16* q.tot+1:=ng (λρ tk=>fV q ρ tk) ρ tk;simp only [bJ]at G|-;simp only [thS,JA,J',Lv.tot];omega
theorem pL {s:UInt8}:∀{l:List Tx},l≠[]->(∀t∈l,t≠[])->joinS s l≠[]
 | [],h,_=>absurd rfl h
 | [a],_,h=>h a (by simp)
 | a::b::l,_,_=>by simp [joinS]
theorem pV {l:List Tx}(h:l≠[]):aX l≠[]:=λe=>h (by have :=aM l;rw [e]at this;exact this.symm.eq_nil)
theorem zm {own:List Nat}{f:Rh->Tk->List Tx}(H:∀ρ tk,∀t∈f ρ tk,t≠[])(he:∀ρ ρ' tk tk',(f ρ tk).isEmpty=(f ρ' tk').isEmpty)(ρ:Rh)(tk:Tk):aP own f ρ tk≠[]:=by
 unfold aP;split
 ·simp
 ·rename_i I;have z:((perms own).map λπ=>joinS 38 (aX (f (asg π (lets own.length tk) ρ) (addK (lets own.length tk) tk))))≠[]:=λe=>oH own (Lu.1 e)
  obtain⟨J,_⟩:=cE z;obtain⟨π,_,e⟩:=JL.1 J;show wrap _ (bG _)≠[];rw [xt];refine λV=>?_
  have G:=(List.append_eq_nil_iff.1 V).2;rw [<-e]at G;refine pL (pV ?_) (λt W=>H _ _ t ((aM _).subset W)) G;intro Z;have :=he (asg π (lets own.length tk) ρ) ρ (addK (lets own.length tk) tk) tk;rw [Z]at this;exact I this.symm
theorem D0 (l:Lv)(ρ ρ':Rh)(tk tk':Tk):(thS l ρ tk).isEmpty=(thS l ρ' tk').isEmpty:=by
 rw [J1,List.isEmpty_iff_length_eq_zero,List.isEmpty_iff_length_eq_zero,bw,bw]
theorem lE:∀(l:Lv),l.sm=true->∀(ρ:Rh) (tk:Tk),∀t∈thS l ρ tk,t≠[]
 | .nil,_,_,_,t,h=>by cases h
 | .thr k a b o r n,z,ρ,tk,t,h=>by
  simp only [Lv.sm,IZ]at z;have I:t∈thS n ρ tk\/t≠[]:=by
   cases k<;>simp only [thS,Jm]at h<;>rcases h with rfl | h<;>first | exact .inl h | (right;simp [kText])
  exact I.elim (lE n z.2 ρ tk t) id
 | .sum G n,z,ρ,tk,t,h=>by
  simp only [Lv.sm,IZ]at z;rw [thS]at h;rcases Jm.1 h with rfl | h
  ·refine pL (pV λe=>?_) λt J=>lE G z.2.1 ρ tk t ((aM _).subset J)
   have H:=bw G ρ tk;rw [e]at H;have V:G.isNil=true:=by rw [Lv.du];simp at H;simp [<-H]
   rw [V]at z;simp at z
  ·exact lE n z.2.2 ρ tk t h
 | .part o q n,z,ρ,tk,t,h=>by
  simp only [Lv.sm,IZ]at z;rw [thS]at h;rcases Jm.1 h with rfl | h
  ·exact zm (λρ tk=>lE q z.1 ρ tk) (λρ ρ' tk tk'=>D0 q ρ ρ' tk tk') ρ tk
  ·exact lE n z.2 ρ tk t h
theorem Bj (x:Nat)(z:Lv)(n:List Nat×Lv):((Lv.spl z n).1++(Lv.spl z n).2.bvs).count x=z.bvs.count x+(n.1++n.2.bvs).count x:=by
 unfold Lv.spl;split
 ·simp [Lv.bvs]
 ·simp only [Lv.dh,Lv.bvs,JQ,Ml];omega
 ·simp only [Lv.bvs,JQ];omega
theorem BE (x:Nat)(o:List Nat)(q n:Lv):(Lv.prt o q n).bvs.count x<=o.count x+q.bvs.count x+n.bvs.count x:=by
 unfold Lv.prt;split
 ·omega
 ·split
  ·simp only [Lv.dh,Lv.bvs,JQ,Ml];omega
  ·simp only [Lv.bvs,JQ,Ml];omega
 ·simp only [Lv.bvs,JQ];omega
theorem nz (x:Nat)(own:List Nat)(r:List Nat×Lv):((Lv.kept own r).1).count x<=own.count x+r.1.count x:=by
 have :=(List.filter_sublist (p:=λx=>r.2.has x) (l:=own++r.1)).count_le x;rw [JQ]at this;exact this
theorem eN (x:Nat):∀l:Lv,((Lv.tid l).1++(Lv.tid l).2.bvs).count x<=l.bvs.count x
 | .nil=>by simp [Lv.tid,Lv.bvs]
 | .thr k a b o r n=>by
  have z:=eN x r;have G:=eN x n;have H:=nz x o (Lv.tid r);have h4:(Lv.kept o (Lv.tid r)).2=(Lv.tid r).2:=rfl;simp only [Lv.tid];simp only [JQ]at z G;split
  ·simp only [h4,Lv.dh,Lv.bvs,JQ];omega
  ·split
   ·simp only [Lv.bvs,JQ];omega
   ·simp only [h4,Lv.bvs,JQ];omega
 | .sum I n=>by
  have z:=eN x I;have G:=eN x n;simp only [Lv.tid,Bj,Lv.bvs];simp only [JQ]at z G|-;omega
 | .part o q n=>by
  have z:=eN x q;have G:=eN x n;have H:=nz x o (Lv.tid q);have h4:(Lv.kept o (Lv.tid q)).2=(Lv.tid q).2:=rfl;have h5:=BE x (Lv.kept o (Lv.tid q)).1 (Lv.kept o (Lv.tid q)).2 (Lv.tid n).2;simp only [Lv.tid,JW,Lv.bvs];rw [h4]at h5;simp only [JQ]at z G h5|-;rw [h4];omega
theorem bP (x:Nat):∀u:U,((flat u).1++(flat u).2.bvs).count x=(BV u).count x
 | .nil=>rfl
 | .snd a b p=>by have :=bP x p;simpa [flat,Lv.bvs,BV]using this
 | .rcv a y p=>by have :=bP x p;simp only [flat,Lv.bvs,BV,KU,JQ,List.count_cons,JW,Ml,JD]at this|-;omega
 | .tau p=>by have :=bP x p;simpa [flat,Lv.bvs,BV]using this
 | .sum p q=>by
  have :=bP x p;have :=bP x q;simp only [flat,Lv.bvs,BV,JQ,JW,JD,Ml]at*;omega
 | .par p q=>by
  have :=bP x p;have :=bP x q;simp only [flat,Lv.dh,BV,JQ]at*;omega
 | .res y p=>by have :=bP x p;simp only [flat,BV,JQ,List.count_cons]at this|-;omega
 | .mat a b p=>by have :=bP x p;simpa [flat,Lv.bvs,BV]using this
 | .rep p=>by have :=bP x p;simpa [flat,Lv.bvs,BV]using this
theorem Cm (x:Nat)(u:U):((td u).1++(td u).2.bvs).count x<=(BV u).count x:=by
 have z:=eN x (flat u).2;have G:=nz x (flat u).1 (Lv.tid (flat u).2);have H:=bP x u;have h4:(td u).2=(Lv.tid (flat u).2).2:=rfl;have h5:(td u).1=(Lv.kept (flat u).1 (Lv.tid (flat u).2)).1:=rfl;rw [h4,h5];simp only [JQ]at*;omega
theorem yn {u:U}(h:Uq u)(hb:∀x∈BV u,26<=x):tr (td u).1 (td u).2:=by
 have H:∀x,((td u).1++(td u).2.bvs).count x<=(BV u).count x:=λx=>Cm x u
 have hm:∀x∈(td u).1++(td u).2.bvs,x∈BV u:=λx z=>by
  have :=H x;have G:=List.count_pos_iff.2 z;exact List.count_pos_iff.1 (by omega)
 have nd:((td u).1++(td u).2.bvs).Nodup:=K7.2 λx=>J0 (H x) (K7.1 h.nd x)
 refine⟨nd,λx z I=>?_,λx z=>hb x (hm x z)⟩;have G:x∉(td u).1:=λG=>(JG.1 nd).2.2 x G x z rfl
 exact h.nf x (hm x (Jx _ z)) (T.bz (Cb _ u (Jc _) h x I G))
end Go.Proofs.YtdecokaadekjnaaGreat
namespace Go.Proofs.YtdecokaadekjnaaGreat
open Go Go.RowKit
def IK:Shelf.Ren where
 f:=λx=>if x=190 then 115 else if x=125 then 164 else if x=258 then 163 else if x=128 then 205 else if x=129 then 206 else if x=302 then 196 else if x=303 then 197 else if x=304 then 198 else if x=305 then 199 else if x=306 then 200 else if x=307 then 201 else if x=308 then 202 else if x=309 then 203 else if x=310 then 204 else if x=333 then 226 else if x=329 then 227 else if x=330 then 228 else if x=334 then 229 else if x=335 then 230 else if x=336 then 231 else if x=344 then 248 else x
 t:=λx=>if x=31 then 25 else if x=9 then 9 else if x=3 then 3 else if x=46 then 178 else if x=0 then 0 else if x=51 then 73 else if x=53 then 220 else if x=4 then 4 else if x=183 then 213 else if x=182 then 212 else if x=131 then 34 else if x=5 then 5 else if x=218 then 234 else if x=222 then 238 else if x=228 then 258 else if x=229 then 245 else x
 g:=λx=>x
theorem zd:Lays.n190 Tryz.prog IK where
 mixed:=Eq.refl true
 f125:=KN Tryz.func164 (by kernel_rfl)
 f128:=KN Tryz.func205 (by kernel_rfl)
 f129:=KN Tryz.func206 (by kernel_rfl)
 f190:=KN Tryz.func115 (by kernel_rfl)
 f258:=KN Tryz.func163 (by kernel_rfl)
 f302:=KN Tryz.func196 (by kernel_rfl)
 f303:=KN Tryz.func197 (by kernel_rfl)
 f304:=KN Tryz.func198 (by kernel_rfl)
 f305:=KN Tryz.func199 (by kernel_rfl)
 f306:=KN Tryz.func200 (by kernel_rfl)
 f307:=KN Tryz.func201 (by kernel_rfl)
 f308:=KN Tryz.func202 (by kernel_rfl)
 f309:=KN Tryz.func203 (by kernel_rfl)
 f310:=KN Tryz.func204 (by kernel_rfl)
 f329:=KN Tryz.func227 (by kernel_rfl)
 f330:=KN Tryz.func228 (by kernel_rfl)
 f333:=KN Tryz.func226 (by kernel_rfl)
 f334:=KN Tryz.func229 (by kernel_rfl)
 f335:=KN Tryz.func230 (by kernel_rfl)
 f336:=KN Tryz.func231 (by kernel_rfl)
 f344:=KN Tryz.func248 (by kernel_rfl)
 t0:=Tryz.underlying0
 a0:=Tryz.isAgg0
 z0:=Tryz.sizeOf0
 v0:=Tryz.zeroValue0
 t3:=Tryz.underlying3
 a3:=Tryz.isAgg3
 z3:=Tryz.sizeOf3
 v3:=Tryz.zeroValue3
 t4:=Tryz.underlying4
 a4:=Tryz.isAgg4
 z4:=Tryz.sizeOf4
 v4:=Tryz.zeroValue4
 t5:=Tryz.underlying5
 a5:=Tryz.isAgg5
 z5:=Tryz.sizeOf5
 v5:=Tryz.zeroValue5
 t9:=Tryz.underlying9
 a9:=Tryz.isAgg9
 z9:=Tryz.sizeOf9
 v9:=Tryz.zeroValue9
 t31:=Tryz.underlying25
 a31:=Tryz.isAgg25
 z31:=Tryz.sizeOf25
 v31:=Tryz.zeroValue25
 t46:=Tryz.underlying178
 a46:=Tryz.isAgg178
 z46:=Tryz.sizeOf178
 v46:=Tryz.zeroValue178
 t51:=Tryz.underlying73
 a51:=Tryz.isAgg73
 z51:=Tryz.sizeOf73
 v51:=Tryz.zeroValue73
 t53:=Tryz.underlying220
 a53:=Tryz.isAgg220
 z53:=Tryz.sizeOf220
 v53:=Tryz.zeroValue220
 t131:=Tryz.underlying34
 a131:=Tryz.isAgg34
 z131:=Tryz.sizeOf34
 v131:=Tryz.zeroValue34
 t182:=Tryz.underlying212
 a182:=Tryz.isAgg212
 z182:=Tryz.sizeOf212
 v182:=Tryz.zeroValue212
 t183:=Tryz.underlying213
 a183:=Tryz.isAgg213
 z183:=Tryz.sizeOf213
 v183:=Tryz.zeroValue213
 t218:=Tryz.underlying234
 a218:=Tryz.isAgg234
 z218:=Tryz.sizeOf234
 v218:=Tryz.zeroValue234
 t222:=Tryz.underlying238
 a222:=Tryz.isAgg238
 z222:=Tryz.sizeOf238
 v222:=Tryz.zeroValue238
 t228:=Tryz.underlying258
 a228:=Tryz.isAgg258
 z228:=Tryz.sizeOf258
 v228:=Tryz.zeroValue258
 t229:=Tryz.underlying245
 a229:=Tryz.isAgg245
 z229:=Tryz.sizeOf245
 v229:=Tryz.zeroValue245
theorem sort_k {B:Nat}{w:World}{v:Value}{l:List Tx}(h:Own B w v l)(z:l≠[])(hl:l.length<=1099511627776){R:World->Prop}
  (J:∀w',Kp w w' (λg=>v.ownBlock=some g)->Own B w' v (aX l)->R w'):Calls Tryz.prog 115 #[v] w (an [] R):=by
 rcases h.2 with⟨rfl,V⟩ | ⟨g,cap,cur,rfl,hb,G,W,Z,h3,h4⟩
 ·exact absurd (Jv V) z
 ·refine(Any.slices_Sort_string zd g 0 cap l w (holds_of_block G (by rw [JE]at h4;exact h4)) (JM.1 G).1 (by omega)).mono ?_
  rintro e w' ⟨rfl,n,os,rfl⟩
  refine⟨rfl,J _ (Kp.aR (grownBy_sorted _) λg' H=>H) ?_⟩;have I:(l.mergeSort λx y=>decide (x<=y)).length=l.length:=by simp
  have :=ownsRow_sorted (n:=n) (os:=os) I hb G W Z h3;have e2:aX l=l.mergeSort λx y=>decide (x<=y):=rfl
  unfold Own;rw [e2,I];exact this
theorem y7 (s:UInt8)(a b:Tx)(l:List Tx):joinS s (a::b::l)=[40]++a++[s]++joinS s (b::l)++[41]:=by simp [joinS]
theorem CG {B:Nat}{w:World}{v:Value}{l:List Tx}{c:UInt8}(h:Own B w v l)(G:l≠[])(hl:l.length<=1099511627776)(hs:bJ l<=1099511627776){R:ay->World->Prop}
  (hR:∀w',Kp w w' (λg=>v.ownBlock=some g)->R (joinS c (aX l)) w'):Calls Tryz.prog 255 #[v,.string (ab [c])] w (an [.s] R):=by
 refine vE v [c] w R ?_;refine sort_k h G hl λw3 k3 o3=>?_
 have hp:=aM l;have H:(aX l).length=l.length:=hp.length_eq;have α:0< l.length:=Ls.2 G;have st:=o3.strs;generalize hL:aX l=L at*;rcases st with⟨_,e⟩ | ⟨b,off,cap,rfl,hb,hc⟩
 ·rw [e]at H;simp at H;omega
 have β:bJ L=bJ l:=im hp;have I:∀j,(W:j< L.length)->w3.cell? ⟨b,off+j,none⟩=some (.string (ab L[j])):=λj W=>hc j _ (IY W)
 have z:∀j,bJ (L.drop j)<=bJ L:=λj=>by
  have:bJ L=bJ (L.take j)+bJ (L.drop j):=by rw [<-yZ,J9]
  omega
 refine⟨_,_,cap,rfl,by unfold aj;omega,b,off,_,cap,rfl,by omega,by omega,L[L.length - 1]'(by omega),?_,_,_,cap,rfl,by unfold aj;omega,λout i w'=>w'=w3/\ -1<=i/\i+2<=L.length/\out=joinS c (L.drop (i+1).toNat),λ _ i _=>(i+1).toNat,⟨rfl,by omega,by omega,?_⟩,λout i w' hI=>?_⟩
 ·rw [JE,show((L.length:Int) - 1).toNat=L.length - 1 by omega];exact I _ (by omega)
 ·rw [show((L.length:Int) - 2+1).toNat=L.length - 1 by omega,JP (by omega),show L.length - 1+1=L.length by omega,KH];rfl
 ·obtain⟨rfl,h0,h1,rfl⟩:=hI;refine⟨λZ=>?_,λZ=>?_⟩
  ·simp only [I0]at Z;have J:i.toNat< L.length:=by omega
   have V:i.toNat+1< L.length:=by omega
   have e1:(i+1).toNat=i.toNat+1:=by omega
   have e2:L.drop i.toNat=L[i.toNat]::L.drop (i.toNat+1):=JP J;have e3:L.drop (i.toNat+1)=L[i.toNat+1]::L.drop (i.toNat+1+1):=JP V;have W:=gG c (L.drop (i.toNat+1));have hd:=z i.toNat;have γ:bJ (L.drop i.toNat)=L[i.toNat].length+3+bJ (L.drop (i.toNat+1)):=by rw [e2];simp only [bJ,JA,J']
   rw [e1];refine⟨b,off,_,cap,rfl,by omega,by omega,L[i.toNat],by rw [JE];exact I _ J,?_,?_,?_,?_,by unfold aj;omega,⟨rfl,by omega,by omega,?_⟩,by show(i - 1+1).toNat< (i+1).toNat;omega⟩
   ·simp;omega
   ·simp;omega
   ·simp;omega
   ·simp;omega
   ·rw [show(i - 1+1).toNat=i.toNat by omega,e2,e3,y7]
  ·simp only [I1]at Z;have:i= -1:=by omega
   subst this;exact hR w' k3
def qO (c:UInt8):UInt32:=oR 1 (c - 97).toNat
def qu (x:UInt32)(tk:Tk):Prop:=∀c,lt c=true->decide (x &&& qO c=0)= !tk c
theorem Dn (a b c:UInt32):(a ||| b) &&& c=(a &&& c) ||| (b &&& c):=by
 apply Ma.1;simp only [UInt32.toBitVec_and,UInt32.toBitVec_or]
 ext i z
 simp [Bool.and_or_distrib_right]
theorem Fp (a b:UInt32):a ||| b=0↔a=0/\b=0:=by
 rw [<-Ma,<-Ma,<-Ma];simp only [UInt32.toBitVec_or];exact BitVec.or_eq_zero_iff
theorem C4:∀i,i< 26->∀j,j< 26->decide (oR 1 i &&& oR 1 j=0)=decide (i≠j):=by decide+kernel
theorem AN {c d:UInt8}(z:lt c=true)(hd:lt d=true):decide (qO c &&& qO d=0)= !(d==c):=by
 have G:=bn z;have H:=bn hd;unfold qO;rw [C4 _ (by rw [gC z];omega) _ (by rw [gC hd];omega),gC z,gC hd];rw [J1];simp only [I0,KR,beq_eq_false_iff_ne,ne_eq,<-Jw];omega
theorem qu.add {x:UInt32}{tk:Tk}(h:qu x tk){d:UInt8}(hd:lt d=true):qu (x ||| qO d) (cf tk d):=by
 intro c z;rw [Dn,K5.2 (Fp _ _),Bool.decide_and,h c z,AN hd z];simp [cf]
theorem xK {c:UInt8}{w:World}{R:UInt32->World->Prop}(h:R (qO c) w):Calls Tryz.prog 59 #[.int .u8 c.toNat] w (an [.w] R):=
 wT c w R h
theorem GV (tk:Tk):lt (ir tk)=true:=by
 unfold ir tH;cases h:oM.find? λc=> !tk c with
 | none=>decide
 | some c=>
  have :=KQ h;unfold oM at this;simp only [JL,Ku]at this;obtain⟨i,z,rfl⟩:=this;clear h;revert i;decide+kernel
theorem Fv {x:UInt32}{tk:Tk}(W:qu x tk){w:World}{R:UInt8->Bool->World->Prop}(Z:tH tk=none->R 0 false w)(h2:∀c,tH tk=some c->R c true w):
  Calls Tryz.prog 130 #[.int .u32 x.toNat] w (an [.c,.b] R):=by
 refine tG x w R ?_;refine⟨λc w'=>w'=w/\97<=c.toNat/\c.toNat<=123/\∀d:UInt8,97<=d->d< c->tk d=true,λc _=>123 - c.toNat,⟨rfl,by decide,by decide,λd h h'=>?_⟩,λc w' hI=>?_⟩
 ·rw [Jo]at h;rw [JN]at h';omega
 ·obtain⟨rfl,V,h4,h5⟩:=hI;refine⟨λH=>xK ?_,λH=>?_⟩
  ·simp only [I0,Jo]at H;have G:c.toNat<=122:=H;have J:lt c=true:=og ⟨V,G⟩;have :=W c J;refine⟨λhe=>?_,λhe=>?_⟩
   ·rw [he]at this;refine h2 c (sH (f:=λc=> !tk c) (by rw [Jo];exact V) (by rw [Jo];exact G) this.symm λd hd z=>by simp [h5 d hd z])
   ·rw [he]at this;have ht:tk c=true:=by simpa using this.symm
    have e1:(c+1).toNat=c.toNat+1:=by rw [LD];show(c.toNat+1) % 256=_;omega
    refine⟨⟨rfl,by omega,by omega,λd hd z=>?_⟩,by show 123 - (c+1).toNat< 123 - c.toNat;omega⟩;rw [JN,e1]at z;by_cases I:d=c
    ·rw [I];exact ht
    ·refine h5 d hd (JN.2 ?_);have:d.toNat≠c.toNat:=λe=>I (Jw.1 e)
     omega
  ·simp only [I1,Jo]at H;have G:122< c.toNat:=by have:¬c.toNat<=122:=H;omega
   refine Z (tR (f:=λc=> !tk c) λd hd z=>?_);have:tk d=true:=h5 d hd (JN.2 (by rw [Jo]at z;have:d.toNat<=122:=z;omega));simp [this]
def Ih (m:Value->Option Value)(ρ:Rh):Prop:=∀x,(ρ x).toNat< 128/\(x< 26->ρ x=UInt8.ofNat (97+x))/\(26<=x->m (iv x)=some (.int .u8 (ρ x).toNat)\/(m (iv x)=none/\ρ x=0))
structure Nm (w:World)(n r:Nat)(ρ:Rh)(tk:Tk)(bad:Bool):Prop where
 lt:n< w.heap.size
 lr:r< w.heap.size
 ne:n≠r
 c0:w.cell? ⟨n,0,none⟩=some (.map (some r))
 mp:∃m,IsMap w r (.int .i64) m/\Ih m ρ
 c1:∃x:UInt32,w.cell? ⟨n,1,none⟩=some (.int .u32 x.toNat)/\qu x tk
 c2:w.cell? ⟨n,2,none⟩=some (.bool bad)
 f:∀j,w.frozen? ⟨n,j,none⟩=false
theorem Nm.kp {w w':World}{n r:Nat}{ρ:Rh}{tk:Tk}{bad:Bool}{S:Nat->Prop}(h:Nm w n r ρ tk bad)(k:Kp w w' S)(z:¬S n)(hr:¬S r):Nm w' n r ρ tk bad:=by
 have e:=k.block n h.lt z;have G:=k.block r h.lr hr;obtain⟨m,⟨es,cl,H,I⟩,J⟩:=h.mp;obtain⟨x,h4,h5⟩:=h.c1;exact⟨Jt h.lt k.size,Jt h.lr k.size,h.ne,by rw [IX (w:=w) e];exact h.c0,⟨m,⟨es,cl,by rw [G];exact H,I⟩,J⟩,⟨x,by rw [IX (w:=w) e];exact h4,h5⟩,by rw [IX (w:=w) e];exact h.c2,λj=>by rw [Jz (w:=w) e];exact h.f j⟩
theorem Nm.ex {w w':World}{n r:Nat}{ρ:Rh}{tk:Tk}{bad:Bool}(h:Nm w n r ρ tk bad)(x:Ex w w'):Nm w' n r ρ tk bad:=h.kp (Kp.ah x λ _=>False) (λh=>h) λh=>h
abbrev Kn (n r:Nat)(w w':World):Prop:=Kp w w' λg=>g=n\/g=r
theorem Kn.trans {n r:Nat}{a b c:World}(h:Kn n r a b)(k:Kn n r b c):Kn n r a c:=Kp.trans h k λ _ _ h=>h
theorem Kn.ex {n r:Nat}{a b:World}(h:Ex a b):Kn n r a b:=Kp.ah h _
theorem Kn.set {n r:Nat}(w:World)(j:Nat)(v:Value):Kn n r w (w.setCell ⟨n,j,none⟩ v):=Kp.mono (λ _ h=> .inl h) (Kr.set w j v)
theorem Nm.set {w w':World}{n r:Nat}{ρ:Rh}{tk tk':Tk}{bad bad':Bool}(h:Nm w n r ρ tk bad){j:Nat}{v:Value}(hw:w'=w.setCell ⟨n,j,none⟩ v)(z:(j=1/\bad'=bad/\∃x:UInt32,v= .int .u32 x.toNat/\qu x tk')\/(j=2/\tk'=tk/\v= .bool bad')):Nm w' n r ρ tk' bad':=by
 subst hw;obtain⟨m,⟨es,cl,G,H⟩,I⟩:=h.mp;obtain⟨x,h4,h5⟩:=h.c1;have kr:=Kr.set (r:=n) w j v;have J:=kr.block r h.lr h.ne.symm;have ne:∀i,i≠j->(w.setCell ⟨n,j,none⟩ v).cell? ⟨n,i,none⟩=w.cell? ⟨n,i,none⟩:=λi W=>I4 _ _ _ _ (λe=>by injection e with Z e2;omega)
 have sz:=kr.size;refine⟨by have :=h.lt;omega,by have :=h.lr;omega,h.ne,by rw [ne 0 (by rcases z with⟨h,_⟩ | ⟨h,_⟩<;>omega)];exact h.c0,⟨m,⟨es,cl,by rw [J];exact G,H⟩,I⟩,?_,?_,λi=>by rw [Jl];exact h.f i⟩
 ·rcases z with⟨rfl,_,y,rfl,V⟩ | ⟨rfl,rfl,_⟩
  ·exact⟨y,Jk _ _ _ h4,V⟩
  ·exact⟨x,by rw [ne 1 (by omega)];exact h4,h5⟩
 ·rcases z with⟨rfl,rfl,_⟩ | ⟨rfl,rfl,rfl⟩
  ·rw [ne 2 (by omega)];exact h.c2
  ·exact Jk _ _ _ h.c2
theorem Nm.put {w w':World}{n r:Nat}{ρ:Rh}{tk:Tk}{bad:Bool}(h:Nm w n r ρ tk bad){m:Value->Option Value}(hm:Ih m ρ){x:Nat}(hx:26<=x){c:UInt8}(I:c.toNat< 128)(G:IsMap w' r (.int .i64) (eo m (iv x) (.int .u8 c.toNat)))(hb:cX w w' r):
  Nm w' n r (aE ρ x c) tk bad/\Kn n r w w':=by
 have e:=hb.block n h.ne;obtain⟨y,h4,h5⟩:=h.c1;refine⟨⟨by rw [hb.size];exact h.lt,by rw [hb.size];exact h.lr,h.ne,by rw [IX (w:=w) e];exact h.c0,⟨_,G,λz=>?_⟩,⟨y,by rw [IX (w:=w) e];exact h4,h5⟩,by rw [IX (w:=w) e];exact h.c2,λj=>by rw [Jz (w:=w) e];exact h.f j⟩,
  hb.os,hb.tape,hb.output,by rw [hb.size];exact Jc _,λg _ J=>hb.block g λe=>J (.inr e)⟩
 obtain⟨V,W,Z⟩:=hm z;unfold aE eo;by_cases H:z=x
 ·subst H;refine⟨by simpa using I,λh=>by omega,λ _=> .inl ?_⟩;simp
 ·have:iv z≠iv x:=λe=>H (by injection e with _ e2;omega)
  simp only [Jn H,Jn this];exact⟨V,W,Z⟩
theorem zA {ρ:Rh}{x:Nat}:[UInt8.ofNat (Int.toNat ((ρ x).toNat:Int))]=[ρ x]:=by simp
theorem js {w:World}{n r:Nat}{ρ:Rh}{tk:Tk}{bad:Bool}(h:Nm w n r ρ tk bad){x:Nat}{R:ay->World->Prop}(z:R [ρ x] w):Calls Tryz.prog 253 #[ptr n,iv x] w (an [.s] R):=by
 refine nv (ptr n) x w R ?_;obtain⟨m,hm,G⟩:=h.mp;obtain⟨Z,J,V⟩:=G x;refine⟨λH=>?_,λH=>?_⟩
 ·simp only [I0]at H;have e:[UInt8.ofNat (Int.toNat (97+(x:Int)))]=[ρ x]:=by rw [J (by omega),show(97+(x:Int)).toNat=97+x by omega]
  refine⟨by unfold aj;omega,by omega,by omega,by rw [e];exact z⟩
 ·simp only [I1]at H;refine⟨n,0,rfl,_,h.c0,r,m,rfl,hm,ρ x,?_⟩;rcases V (by omega)with I | ⟨I,W⟩
  ·exact⟨true,.inl ⟨rfl,I⟩,by omega,by rw [zA];exact z⟩
  ·exact⟨false,.inr ⟨rfl,I,by rw [W];rfl⟩,by omega,by rw [zA];exact z⟩
theorem B2 {w:World}{n r:Nat}{ρ:Rh}{tk:Tk}{bad:Bool}(h:Nm w n r ρ tk bad){x:Nat}(hx:26<=x){R:UInt32->World->Prop}
  (hR:∀y w',qu y tk->Kn n r w w'->Nm w' n r (aE ρ x (ir tk)) (cf tk (ir tk)) (bad||(tH tk).isNone)->R y w'):Calls Tryz.prog 252 #[ptr n,iv x] w (an [.w] R):=by
 refine mW (ptr n) x w R ?_;obtain⟨y,hy,μ⟩:=h.c1;have hl:=GV tk;have hl':=bn hl;have fin:∀G bad',bad'=(bad||(tH tk).isNone)->Kn n r w G->Nm G n r ρ tk bad'->∃ζ:World->Prop,∀H:World,H=World.drew G->ζ H/\∃(ν ξ:Nat),ptr n=Value.pointer (some ⟨ν,ξ,none⟩)/\∃ο:UInt32,(∀w',ζ w'->World.cell? w' ⟨ν,(ξ+1),none⟩=some (Value.int IntKind.u32 (UInt32.toNat ο)))/\Calls Tryz.prog 59 #[(Value.int IntKind.u8 (UInt8.toNat (ir tk)))] H (an [.w] fun(ω:UInt32) (V:World)=>ζ V/\∃(W Z:Nat),ptr n=Value.pointer (some ⟨W,Z,none⟩)/\((∃u42:Value,World.cell? V ⟨W,(Z+1),none⟩=some u42)/\World.frozen? V ⟨W,(Z+1),none⟩=false)/\∀I:World,I=World.setCell V ⟨W,(Z+1),none⟩ (Value.int IntKind.u32 (UInt32.toNat (ο ||| ω:UInt32)))->∃(ς υ:Nat),ptr n=Value.pointer (some ⟨ς,υ,none⟩)/\∃v46:Value,World.cell? I ⟨ς,(υ+0),none⟩=some v46/\∃(α:Nat) (β:Value->Option Value),v46=Value.map (some α)/\IsMap I α (TypeDesc.int IntKind.i64) β/\∀J:World,IsMap J α (TypeDesc.int IntKind.i64) (eo β (Value.int IntKind.i64 x) (Value.int IntKind.u8 (UInt8.toNat (ir tk))))->cX I J α->R (y) J):=by
  intro G bad' φ k11 η;obtain⟨z,hz,hzt⟩:=η.c1;refine⟨λw'=>Ex G w',λH γ=>⟨γ▸Ex.drew G,n,0,rfl,z,λw' x'=>by rw [x'.cell (show n< _ from η.lt)];exact hz,xK ?_⟩⟩;have θ:Ex G H:=γ▸Ex.drew G;have ι:=η.ex θ;obtain⟨z',hz',_⟩:=ι.c1;refine⟨θ,n,0,rfl,⟨⟨_,hz'⟩,ι.f 1⟩,λI δ=>?_⟩;have κ:=ι.set (tk':=cf tk (ir tk)) (bad':=bad') δ (.inl ⟨rfl,rfl,_,rfl,hzt.add hl⟩);obtain⟨m,hm,hρ⟩:=κ.mp;refine⟨n,0,rfl,_,κ.c0,r,m,rfl,hm,λJ χ ψ=>?_⟩;obtain⟨n49,k49⟩:=κ.put hρ hx (by omega) χ ψ;have k43:Kn n r H I:=δ▸Kn.set _ _ _;exact hR y J μ (Kn.trans (Kn.trans k11 (Kn.ex θ)) (Kn.trans k43 k49)) (φ▸n49)
 refine⟨n,0,rfl,y,hy,n,0,rfl,y,hy,Fv μ (λhf=>⟨λ _=>?_,λh=>(by cases h)⟩) λc hf=>⟨λh=>(by cases h),λ _=>?_⟩⟩
 ·refine⟨n,0,rfl,⟨⟨_,h.c2⟩,h.f 2⟩,λw15 ε=>?_⟩;have n15:=h.set (tk':=tk) (bad':=true) ε (.inr ⟨rfl,rfl,rfl⟩);have e:ir tk=122:=by unfold ir;rw [hf];rfl
  have :=fin w15 true (by rw [hf];simp) (ε▸Kn.set _ _ _) n15;rw [e]at this;exact this
 ·have e:ir tk=c:=by unfold ir;rw [hf];rfl
  have :=fin w bad (by rw [hf];simp) (Kn.ex (Ex.refl w)) h;rw [e]at this;exact this
def GD (n:Nat):Prop:=∀{D:Nat->Prop} {w:World} {v:Value} {o:List Nat} {l:Lv} {nn r:Nat} {ρ:Rh} {tk:Tk} {bad:Bool} {R:ay->World->Prop},l.sz<=n->l.sh true=true->l.sm=true->tr o l->fS D w v o (af D w l)->(∀g,D g->¬(g=nn\/g=r))->Nm w nn r ρ tk bad->o.length+l.tot<=4294967296->
 (∀w' ρ',Kn nn r w w'->Nm w' nn r ρ' tk (bad||fq o.length l.isNil (thBad l) tk)->(∀x,x∉o->x∉l.bvs->ρ' x=ρ x)->R (aP o (thS l) ρ tk) w')->Calls Tryz.prog 237 #[ptr nn,v] w (an [.s] R)
def Fs (n:Nat):Prop:=∀{D:Nat->Prop} {w:World} {v:Value} {e:Lv} {nn r:Nat} {ρ:Rh} {tk:Tk} {bad:Bool} {R:ay->World->Prop},e.sz<=n->((∃k a b o q,e= .thr k a b o q .nil/\q.sh true=true)\/∃z,e= .sum z .nil/\z.sh false=true)->e.sm=true->tr [] e->af D w e [v]->(∀g,D g->¬(g=nn\/g=r))->Nm w nn r ρ tk bad->e.tot<=4294967296->
 (∀t w' ρ',thS e ρ tk=[t]->Kn nn r w w'->Nm w' nn r ρ' tk (bad||thBad e tk)->(∀x,x∉e.bvs->ρ' x=ρ x)->R t w')->Calls Tryz.prog 254 #[ptr nn,v] w (an [.s] R)
theorem IV (a b:UInt8):Op.bytesLess [a] [b]=decide (a< b):=by
 unfold Op.bytesLess;by_cases h:a< b
 ·simp [h]
 ·by_cases z:b< a<;>simp [Op.bytesLess,h]
theorem Kp.new {w w1 w2:World}{nn r:Nat}{row:Option Nat}(k:Kn nn r w w1)(z:w1.grownBy w2 row)(hr:∀g,row=some g->w.heap.size<=g):Kn nn r w w2:=
 Kp.trans k (Kp.aR (S:=λg=>row=some g) z λ _ h=>h) λg G H=>by have :=hr g H;omega
theorem BK {n:Nat}(hl:GD n):Fs (n+1):=by
 intro D w v e nn r ρ tk bad R hn hsh ζ huq h hD hN ο hR;refine lx (ptr nn) v w R ?_;rcases hsh with⟨k,a,b,o,q,rfl,hq⟩ | ⟨J,rfl,hps⟩
 ·obtain⟨t,ts',a',W,vr,e1,ht,hk,hlv,_⟩:=h;obtain⟨rfl,rfl⟩:=J3 e1;obtain⟨g,V,hgD,hg2,c0,c1,c2,c3,c4⟩:=ht;obtain⟨u1,u2⟩:=huq.thr;simp only [Lv.sz]at hn;simp only [Lv.tot]at ο;simp only [Lv.sm,IZ]at ζ;have hgn:=hD g hgD;have cell:∀{w':World},Kn nn r w w'->∀j,w'.cell? ⟨g,j,none⟩=w.cell? ⟨g,j,none⟩:=λx j=>IX (w:=w) (x.block g hg2 hgn)
  have hlen:∀ρ tk,(aP o (thS q) ρ tk).length<=1099511627776:=λρ tk=>by
   have :=ng (λρ tk=>fV q ρ tk) ρ tk (own:=o);omega
  have ι:∀{w1:World} {Z:Rh} {μ:Tk} {ς:Bool} {R:ay->World->Prop},Kn nn r w w1->Nm w1 nn r Z μ ς->(∀w' ρ',Kn nn r w1 w'->Nm w' nn r ρ' μ (ς||fq o.length q.isNil (thBad q) μ)->(∀x,x∉o->x∉q.bvs->ρ' x=Z x)->R (aP o (thS q) Z μ) w')->Calls Tryz.prog 237 #[ptr nn,vr] w1 (an [.s] R):=λk1 n1 hR=>
   hl (by omega) hq ζ.1 u1 (hlv.kp k1 hD λl h=>h.kp k1 hD) hD n1 (by omega) hR
  cases k
  case p=>
   refine⟨g,0,V,_,c0,aT (by decide) (cS (by decide) ⟨g,0,V,vr,c3,ι (Kn.ex (Ex.refl w)) hN λw' ρ' k' n' H=>⟨by have :=hlen ρ tk;simp only [IW,Jh];omega,hR _ w' ρ' (by simp only [thS,kText];rfl) k' ?_ λx G=>?_⟩⟩)⟩
   ·simpa [thBad]using n'
   ·simp only [Lv.bvs,JD,Jf,Mp]at G;exact H x G.2.1 G.2.2
  case t=>
   refine⟨g,0,V,_,c0,aT (by decide) (aT (by decide) (cS (by decide) ⟨g,0,V,vr,c3,ι (Kn.ex (Ex.refl w)) hN λw' ρ' k' n' H=>⟨by have :=hlen ρ tk;simp only [IW,Jh];omega,hR _ w' ρ' (by simp only [thS,kText];rfl) k' ?_ λx G=>?_⟩⟩))⟩
   ·simpa [thBad]using n'
   ·simp only [Lv.bvs,JD,Jf,Mp]at G;exact H x G.2.1 G.2.2
  case m=>
   obtain⟨rfl,rfl⟩:a'=a/\W=b:=by rcases hk with h | h | h<;>first | exact h | cases h
   refine⟨g,0,V,_,c0,aT (by decide) (aT (by decide) (aT (by decide) (cS (by decide) ⟨λw'=>Kn nn r w w',λw48 α=>?_⟩)))⟩;have I:Kn nn r w w48:=Kn.ex (α▸Ex.drew w);have β:=hN.ex (α▸Ex.drew w);refine⟨I,g,0,V,a',λw' x=>by rw [cell x];exact c1,g,0,V,W,λw' x=>by rw [cell x];exact c2,js β ⟨I,js β ⟨I,?_,?_,?_,?_,g,0,V,vr,by rw [cell I];exact c3,ι I β λw' ρ' k' n' H=>⟨?_,hR _ w' ρ' ?_ (Kn.trans I k') ?_ λx G=>?_⟩⟩⟩⟩
   ·split<;>simp
   ·split<;>simp
   ·split<;>split<;>simp
   ·split<;>split<;>simp
   ·have :=hlen ρ tk;split<;>split<;>(simp only [I',IW,Jh];omega)
   ·simp only [thS,kText,IV,JU,Ly];by_cases h1:ρ a'< ρ W
    ·have h2:¬ρ W< ρ a':=λh2=>by rw [JN]at h1 h2;omega
     simp [h1,h2]
    ·by_cases h2:ρ W< ρ a'
     ·have h3:ρ a'≠ρ W:=λe=>by rw [e,JN]at h2;omega
      simp [h1,h2,h3]
     ·have h3:ρ a'=ρ W:=by
       rw [JN]at h1 h2;exact Jw.1 (by omega)
      simp [h1,h2,h3]
   ·simpa [thBad]using n'
   ·simp only [Lv.bvs,JD,Jf,Mp]at G;exact H x G.2.1 G.2.2
  case s=>
   obtain⟨rfl,rfl⟩:a'=a/\W=b:=by rcases hk with h | h | h<;>first | exact h | cases h
   refine⟨g,0,V,_,c0,aT (by decide) (aT (by decide) (aT (by decide) (aT (by decide) (aT (by decide) ⟨λw'=>Kn nn r w w',λw48 α=>?_⟩))))⟩;have I:Kn nn r w w48:=Kn.ex (α▸Ex.drew w);have β:=hN.ex (α▸Ex.drew w);refine⟨I,g,0,V,a',λw' x=>by rw [cell x];exact c1,g,0,V,W,λw' x=>by rw [cell x];exact c2,g,0,V,vr,λw' x=>by rw [cell x];exact c3,js β ⟨I,by simp,js β ⟨I,by simp,by simp,ι I β λw' ρ' k' n' H=>⟨Kn.trans I k',?_,hR _ w' ρ' ?_ (Kn.trans I k') ?_ λx G=>?_⟩⟩⟩⟩
   ·have :=hlen ρ tk;simp only [I',IW,Jh];omega
   ·simp only [thS,kText];simp
   ·simpa [thBad]using n'
   ·simp only [Lv.bvs,JD,Jf,Mp]at G;exact H x G.2.1 G.2.2
  case r=>
   obtain⟨rfl,rfl⟩:a'=a/\W=b:=by rcases hk with h | h | h<;>first | exact h | cases h
   obtain⟨u3,u4,u5,u6⟩:=u2 rfl;refine⟨g,0,V,_,c0,aT (by decide) (aT (by decide) (aT (by decide) (aT (by decide) (cS (by decide) ⟨g,0,V,W,c2,B2 hN u3 λy w68 hy k68 n68=>⟨λw'=>Kn nn r w w',λw70 υ=>?_⟩⟩))))⟩;have η:Kn nn r w w70:=Kn.trans k68 (Kn.ex (υ▸Ex.drew w68));have n70:=n68.ex (υ▸Ex.drew w68);refine⟨η,g,0,V,a',λw' x=>by rw [cell x];exact c1,g,0,V,W,λw' x=>by rw [cell x];exact c2,g,0,V,vr,λw' x=>by rw [cell x];exact c3,js n70 ⟨η,by simp,js n70 ⟨η,by simp,by simp,ι η n70 λw' ρ' k' n' H=>⟨Kn.trans η k',?_,nn,0,rfl,?_,λw89 φ=>hR _ w89 ρ' ?_ (Kn.trans (Kn.trans η k') (φ▸Kn.set _ _ _)) ?_ λx G=>?_⟩⟩⟩⟩
   ·have :=hlen (aE ρ W (ir tk)) (cf tk (ir tk));simp only [I',IW,Jh];omega
   ·obtain⟨z,hz,_⟩:=n'.c1;exact⟨⟨_,hz⟩,n'.f 1⟩
   ·simp only [thS,kText,JW,JZ,JH];rw [show aE ρ W (ir tk) a'=ρ a' from Jn (L0 u4),show aE ρ W (ir tk) W=ir tk from JB rfl]
   ·have :=n'.set (tk':=tk) (bad':=(bad||thBad (.thr .r a' W o q .nil) tk)) φ (.inl ⟨rfl,?_,y,rfl,hy⟩)
    ·exact this
    ·simp [thBad,Kz]
   ·simp only [Lv.bvs,JD,Jf,Mp,KU,Jg]at G;rw [H x G.2.1 G.2.2];exact Jn G.1
 ·obtain⟨t,ts',a',W,vp,us,e1,ht,hus,χ,_⟩:=h;obtain⟨rfl,rfl⟩:=J3 e1;obtain⟨g,V,hgD,hg2,c0,c1,c2,c3,c4⟩:=ht;have uq:=huq.sum;simp only [Lv.sz]at hn;simp only [Lv.tot]at ο;simp only [Lv.sm,IZ,KR]at ζ;obtain⟨au,cau,hvu⟩:=hus.slice;have hul:=χ.len;have hpl:=Lv.cK J;have hpt:=bS J;have hln:∀ρ tk,(thS J ρ tk).length=J.len:=λρ tk=>bw J ρ tk
  refine⟨g,0,V,_,c0,cS (by decide) λb6 w7 hb6 hw7=>?_⟩;have x7:Ex w w7:=hw7▸Ex.alloc w _;refine⟨g,0,V,vp,by rw [x7.cell (show g< _ from hg2)];exact c4,au,_,cau,hvu,λtx x w'=>∃(j:Nat) (ρ':Rh),x=j/\j<=us.length/\Kn nn r w w'/\Nm w' nn r ρ' tk (bad||thBad (J.take j) tk)/\(∀x,x∉(J.take j).bvs->ρ' x=ρ x)/\Own w.heap.size w' tx (thS (J.take j) ρ tk),λ _ x _=>(us.length - x).toNat,⟨0,ρ,rfl,JS _,Kn.ex x7,by simpa [Lv.take,thBad]using hN.ex x7,λ _ _=>rfl,Own.none (Jc _) hb6 hw7⟩,λtx x w18 hI=>?_⟩;obtain⟨j,Z,rfl,hj,κ,n18,H,ho⟩:=hI;refine⟨λhlt=>?_,λhge=>?_⟩;rotate_left
  ·have:j=J.bk.length:=by simp only [I1]at hge;omega
   rw [this,Lv.df]at n18 ho H;have hlen:=fV J ρ tk;refine CG ho (λe=>?_) (by rw [hln];omega) (by omega) λw36 k36=>hR _ w36 Z rfl ?_ ?_ λx G=>H x ?_
   ·have :=hln ρ tk;rw [e]at this;rw [Lv.du]at ζ;simp only [Jh]at this;simp [<-this]at ζ
   ·exact Kp.trans κ k36 λg' hg' h'=>by have :=(ho.block g' h').1;omega
   ·have hb:∀g',tx.ownBlock=some g'->w.heap.size<=g':=λg' h'=>(ho.block g' h').1
    have :=hN.lt;have :=hN.lr;have e:(bad||thBad (.sum J .nil) tk)=(bad||thBad J tk):=by simp [thBad]
    rw [e];exact n18.kp k36 (λh'=>by have :=hb _ h';omega) λh'=>by have :=hb _ h';omega
   ·simpa [Lv.bvs]using G
  have ν:j< us.length:=by simp only [I0]at hlt;omega
  have hje:j< J.bk.length:=by omega
  obtain⟨bu,ou,γ,hvu',hcu⟩:∃bu ou γ,vp= .slice (some ⟨bu,ou,none⟩) us.length γ/\w18.cell? ⟨bu,ou+j,none⟩=some us[j]:=by
   rcases hus with⟨_,h0⟩ | ⟨bt,ot,capt',e,hbD,hb',hcell⟩
   ·rw [h0]at ν;simp at ν
   ·exact⟨bt,ot,capt',e,by rw [IX (w:=w) (κ.block bt hb' (hD bt hbD))];exact hcell j _ (IY ν)⟩
  obtain⟨e,hf1,θ,hf3⟩:=aK.single χ.bk (IY ν);have hf4:J.bk[j]=e:=by rw [IY hje]at hf1;exact JO hf1
  have δ:=Lv.take_succ J j hje;rw [hf4]at δ;have huqe:=uq.bk θ;have ψ:=Lv.rK ζ.2.1 e θ;have hsz2:=Lv.en J e θ;have htot2:=Lv.fU J e θ;have hfe:thS e Z tk=thS e ρ tk:=sA e Z ρ tk λx G=>H x λhb=>uq.nf x (Lv.lB J j x hb) (Lv.pP J e θ G)
  obtain⟨o2,q,rfl,hq⟩:=Lv.lL hps e θ;simp only [Lv.sz]at hsz2;simp only [Lv.tot]at htot2;simp only [Lv.sm,IZ]at ψ;obtain⟨v2,ts2,e2,hlv2,_⟩:=hf3;obtain⟨rfl,rfl⟩:=J3 e2;refine⟨bu,ou,_,γ,hvu',by omega,by omega,us[j],by rw [Ja,JE];exact hcu,?_⟩;refine hl (by omega) hq ψ.1 huqe.part (hlv2.kp κ hD λl h=>h.kp κ hD) hD n18 (by omega) λw25 ρ2 k25 n25 hρ2 b26 w27 hb26 ω=>?_
  have ξ:Ex w25 w27:=ω▸Ex.alloc w25 _;have k1:Kn nn r w w25:=Kn.trans κ k25;have ε:∀g',tx.ownBlock=some g'->w.heap.size<=g'/\¬(g'=nn\/g'=r):=λg' h'=>by
   have h1:=(ho.block g' h').1;have :=hN.lt;have :=hN.lr;exact⟨h1,by omega⟩
  have ho27:Own w.heap.size w27 tx (thS (J.take j) ρ tk):=(ho.kp k25 λg' h'=>(ε g' h').2).ex ξ;have hl3:(thS (J.take j) ρ tk).length<=us.length:=by
   rw [bw];have :=Lv.gz J j;omega
  refine Own.push ho27 (by have :=k1.size;have :=ξ.size;omega) (Strs.one hb26 ω) (by simp only [IW,Jh];omega) λv33 w34 _ ho34 hg34 _=>⟨by unfold aj;omega,⟨j+1,ρ2,by omega,by omega,?_,?_,?_,?_⟩,by show((us.length:Int) - ((j:Int)+1)).toNat< ((us.length:Int) - j).toNat;omega⟩
  ·exact Kp.new (Kn.trans k1 (Kn.ex ξ)) hg34 λg' h'=>(ε g' h').1
  ·have e1:(bad||thBad (J.take (j+1)) tk)=(bad||thBad (J.take j) tk||fq o2.length q.isNil (thBad q) tk):=by rw [δ,cR];simp [thBad,Kz]
   rw [e1];refine(n25.ex ξ).kp (Kp.aR (S:=λg=>tx.ownBlock=some g) hg34 λ _ h=>h) (λh'=>(ε _ h').2 (.inl rfl)) λh'=>(ε _ h').2 (.inr rfl)
  ·intro x G;rw [δ,Lv.dh]at G;simp only [Lv.bvs,JD,Jf,Mp]at G;rw [hρ2 x G.2.1 G.2.2,H x G.1]
  ·rw [δ,gd];have e3:thS (.part o2 q .nil) ρ tk=[aP o2 (thS q) Z tk]:=by rw [<-hfe];simp only [thS]
   rw [e3];exact ho34
theorem aI.set {e B:Nat}{w w':World}{g cap n j:Nat}{l:List Value}{x:Value}(h:aI e B w (.slice (some ⟨g,0,none⟩) n cap) l)(hw:w'=w.setCell ⟨g,j,none⟩ x)(Z:j< l.length):aI e B w' (.slice (some ⟨g,0,none⟩) n cap) (l.set j x):=by
 subst hw;rcases h.2 with⟨H,_⟩ | ⟨g',z,cur,I,hb,J,V,W,G,h4⟩
 ·cases H
 ·cases I;have hl:=h.1;rw [JE]at G h4;have e:(w.setCell ⟨g,j,none⟩ x).heap[g]?=some (.cells (cur.setIfInBounds j x) e (0,0)):=by
   rw [Sort.setCell_eq];simp [Sort.mapBlock,LK,J,Sort.onCells]
  refine⟨by simp,.inr ⟨g,cap,_,by simp,hb,e,by simpa using V,W,by simpa using G,?_⟩⟩;rw [JE,KD,Array.toList_setIfInBounds,List.take_set,h4]
theorem aI.at {e B:Nat}{w:World}{g cap n j:Nat}{o:List Nat}(h:aI e B w (.slice (some ⟨g,0,none⟩) n cap) (o.map iv))(I:j< o.length):w.cell? ⟨g,0+j,none⟩=some (iv o[j])/\w.frozen? ⟨g,0+j,none⟩=false/\g< w.heap.size/\n=o.length:=by
 have fr:=h.fr (g:=g) rfl (0+j);have hb:=h.block g rfl;rcases h.2 with⟨G,_⟩ | ⟨W,z,cur,H,J,Z,h1,h2,h3,h4⟩
 ·cases G
 ·cases H;refine⟨?_,fr,hb.2,by simp⟩;rcases h.Bo (D:=λ _=>True) λ _ _=>trivial with⟨G,_⟩ | ⟨b,off,z,H,_,_,V⟩
  ·cases G
  ·cases H;exact V j _ (by simp [I])
def swp (π:List Nat)(a i:Nat)(ha:a< π.length)(z:i< π.length):List Nat:=(π.set a π[i]).set i π[a]
theorem ma (π:List Nat)(a i:Nat)(ha:a< π.length)(z:i< π.length)(H:a<=i):
  (swp π a i ha z).Perm π/\(swp π a i ha z).length=π.length/\(swp π a i ha z).take (a+1)=π.take a++[π[i]]:=by
 have G:(swp π a i ha z).Perm π:=by
  have :=List.set_set_perm z ha;unfold swp;by_cases h:a=i
  ·subst h;simp
  ·rw [List.set_comm _ _ h];exact this
 have I:(swp π a i ha z).length=π.length:=G.length_eq;refine⟨G,I,?_⟩;rw [Jb (by omega)]
 congr 1
 ·unfold swp;rw [L7 (by omega),L7 (by omega)]
 ·unfold swp;by_cases h:a=i
  ·subst h;simp
  ·simp [List.getElem_set,L0 h]
theorem EJ (π:List Nat)(a:Nat)(ha:a< π.length)(σ:List Nat):
  (∃i,∃z:i< π.length,a<=i/\∃τ:List Nat,τ.Perm ((swp π a i ha z).drop (a+1))/\σ=(swp π a i ha z).take (a+1)++τ)↔∃τ:List Nat,τ.Perm (π.drop a)/\σ=π.take a++τ:=by
 have key:∀i (z:i< π.length),a<=i->(π[i]::(swp π a i ha z).drop (a+1)).Perm (π.drop a):=λi z G=>by
  obtain⟨H,J,I⟩:=ma π a i ha z G;have h4:(π.take a++(π[i]::(swp π a i ha z).drop (a+1))).Perm (π.take a++π.drop a):=by
   rw [J9,List.append_cons,<-I,J9];exact H
  exact(List.perm_append_left_iff _).1 h4
 constructor
 ·rintro⟨i,z,G,τ,H,rfl⟩
  obtain⟨J,I,h4⟩:=ma π a i ha z G;refine⟨π[i]::τ,(H.cons _).trans (key i z G),?_⟩;rw [h4,JH];rfl
 ·rintro⟨τ,H,rfl⟩
  cases τ with
  | nil=>have :=H.length_eq;rw [Kw]at this;simp at this;omega
  | cons y τ=>
   have V:=H.subset (JK ..);obtain⟨j,W,e⟩:=JV.1 V;rw [Kw]at W;rw [List.getElem_drop]at e;have z:a+j< π.length:=by omega
   obtain⟨J,I,h4⟩:=ma π a (a+j) ha z (by omega);refine⟨a+j,z,by omega,τ,?_,?_⟩
   ·have :=key (a+j) z (by omega);rw [e]at this;exact(Mf y).1 (H.trans this.symm)
   ·rw [h4,e,JH];rfl
theorem G2 (π:List Nat)(a i:Nat)(ha:a< π.length)(z:i< π.length)(G:i< (swp π a i ha z).length)(H:a< (swp π a i ha z).length):(swp π a i ha z)[i]=π[a]/\(swp π a i ha z)[a]=π[i]:=by
 simp only [swp,List.getElem_set];refine⟨JB trivial,?_⟩;by_cases h:i=a
 ·subst h;simp
 ·simp [h]
def IU (B:Nat)(v:Value)(o:List Nat)(Inv:List (List Nat)->World->Prop)(f:Nat)(ca:List Value):Prop:=
 ∀(acc:List (List Nat)) (π:List Nat) (w:World),Inv acc w->aI 3 B w v (π.map iv)->π.Perm o->∀{R:World->Prop},(∀w',Inv (acc++[π]) w'->aI 3 B w' v (π.map iv)->R w')->Calls Tryz.prog f (List.toArray ca) w (an [] R)
theorem xI {B:Nat}{v:Value}{o:List Nat}{Inv:List (List Nat)->World->Prop}{f:Nat}{ca:List Value}(hf:dC.contains f=true)(κ:IU B v o Inv f ca)(hinv:∀acc w w',Inv acc w->Kp w w' (λg=>v.ownBlock=some g)->Inv acc w')(ho:o.length<=1099511627776):
  ∀(d:Nat) (a:Nat) (π:List Nat) (acc:List (List Nat)) (w:World),a+d=π.length->Inv acc w->aI 3 B w v (π.map iv)->π.Perm o->∀{R:World->Prop},
   (∀w' δ,Inv (acc++δ) w'->aI 3 B w' v (π.map iv)->(∀σ,σ∈δ↔∃τ:List Nat,τ.Perm (π.drop a)/\σ=π.take a++τ)->R w')->
   Calls Tryz.prog 250 #[v,iv a,.func (.func f) #[] (List.toArray ca)] w (an [] R)
 | 0,a,π,acc,w,hd,hI,hw,hp,R,hR=>by
  refine kI v a _ w R ?_;obtain⟨ad,cap,hv⟩:=(hw.Bo (D:=λ _=>True) λ _ _=>trivial).slice;rw [Ju]at hv;refine⟨ad,_,cap,hv,cS (by omega) ⟨f,ca,rfl,hf,?_⟩⟩;rw [JW];refine κ acc π w hI hw hp λw' hI' hw'=>hR w' [π] hI' hw' λσ=>?_
  rw [show a=π.length by omega,KH,Jy];simp only [Jg,List.perm_nil];constructor
  ·rintro rfl;exact⟨[],rfl,by simp⟩
  ·rintro⟨τ,rfl,rfl⟩;simp
 | d+1,a,π,acc,w,hd,hI,hw,hp,R,hR=>by
  refine kI v a _ w R ?_;have ha:a< π.length:=by omega
  have hpl:=hp.length_eq;obtain⟨g,cap,hv⟩:∃g cap,v= .slice (some ⟨g,0,none⟩) π.length cap:=by
   rcases hw.2 with⟨_,h0⟩ | ⟨g,cap,cur,hv,_⟩
   ·rw [Ju]at h0;omega
   ·rw [Ju]at hv;exact⟨g,cap,hv⟩
  subst hv;have kg:∀{w1 w2:World} {j:Nat} {x:Value},w2=w1.setCell ⟨g,j,none⟩ x->Kp w1 w2 (λb=>(Value.slice (some ⟨g,0,none⟩) π.length cap).ownBlock=some b):=λh=>h▸Kp.mono (λb hb=>by rw [hb];rfl) (Kr.set _ _ _)
  refine⟨_,_,cap,rfl,aT (by omega) ⟨λi w'=>∃(j:Nat) (z:List (List Nat)),i=j/\a<=j/\j<=π.length/\Inv (acc++z) w'/\aI 3 B w' (.slice (some ⟨g,0,none⟩) π.length cap) (π.map iv)/\∀σ,σ∈z↔∃i,∃hi:i< π.length,(a<=i/\i< j)/\∃τ:List Nat,τ.Perm ((swp π a i ha hi).drop (a+1))/\σ=(swp π a i ha hi).take (a+1)++τ,
   λi _=>(π.length - i).toNat,⟨a,[],rfl,Jc _,by omega,by rw [JD];exact hI,hw,λσ=>⟨λh=>(by cases h),fun⟨i,_,h,_⟩=>by omega⟩⟩,λi ζ hJ=>?_⟩⟩
  obtain⟨j,z,rfl,μ,hjl,ν,α,ε⟩:=hJ;refine⟨_,_,cap,rfl,λhlt=>?_,λhge=>?_⟩;rotate_left
  ·have:j=π.length:=by simp only [I1]at hge;omega
   refine hR ζ z ν α λσ=>?_
   rw [ε,<-EJ π a ha];constructor
   ·rintro⟨i,hi,⟨h1,_⟩,h2⟩;exact⟨i,hi,h1,h2⟩
   ·rintro⟨i,hi,h1,h2⟩;exact⟨i,hi,⟨h1,by omega⟩,h2⟩
  have G:j< π.length:=by simp only [I0]at hlt;omega
  obtain⟨cj,fj,hgb,_⟩:=α.at G;obtain⟨ca',fa,_,_⟩:=α.at ha;obtain⟨s1,s2,s3⟩:=ma π a j ha G μ;refine⟨λw'=>aI 3 B w' (.slice (some ⟨g,0,none⟩) π.length cap) (π.map iv),λw18 ξ=>?_⟩;have ο:Ex ζ w18:=ξ▸Ex.drew ζ;have β:=α.kp (Kp.ah ο λ _=>False) λ _ _ h=>h
  have I18:=hinv _ _ _ ν (Kp.ah ο _);refine⟨β,g,0,_,cap,rfl,by omega,by omega,π[j],λw' ho=>by rw [Ja,JE];exact(ho.at G).1,g,0,_,cap,rfl,by omega,by omega,π[a],λw' ho=>by rw [Ja,JE];exact(ho.at ha).1,g,0,_,cap,rfl,by omega,by omega,⟨⟨_,by rw [Ja,JE];exact(β.at ha).1⟩,by rw [Ja,JE];exact(β.at ha).2.1⟩,λw34 J=>?_⟩;rw [Ja,JE,JC]at J;have η:=β.set J (by simpa using ha);rw [<-Mm]at η;have ς:j< (π.set a π[j]).length:=by rw [KD];exact G
  obtain⟨c34,f34,_,_⟩:=η.at ς;refine⟨g,0,_,cap,rfl,by omega,by omega,⟨⟨_,by rw [Ja,JE];exact c34⟩,by rw [Ja,JE];exact f34⟩,λυ V=>⟨by unfold aj;omega,?_⟩⟩;rw [Ja,JE,JC]at V;have φ:=η.set V (by simpa using G);rw [<-Mm]at φ;have χ:aI 3 B υ (.slice (some ⟨g,0,none⟩) π.length cap) ((swp π a j ha G).map iv):=φ;have I40:=hinv _ _ _ (hinv _ _ _ I18 (kg J)) (kg V);refine xI hf κ hinv ho d (a+1) (swp π a j ha G) (acc++z) υ (by omega) I40 χ (s1.trans hp) λψ ω I41 o41 hm2=>?_
  have I:j< (swp π a j ha G).length:=by omega
  have H:a< (swp π a j ha G).length:=by omega
  obtain⟨ej,ea⟩:=G2 π a j ha G I H;refine⟨λw'=>aI 3 B w' (.slice (some ⟨g,0,none⟩) π.length cap) ((swp π a j ha G).map iv),λw43 hw43=>?_⟩;have x43:Ex ψ w43:=hw43▸Ex.drew ψ;have γ:=o41.kp (Kp.ah x43 λ _=>False) λ _ _ h=>h
  have I43:=hinv _ _ _ I41 (Kp.ah x43 _);refine⟨γ,g,0,_,cap,rfl,by omega,by omega,((swp π a j ha G)[j]:Nat),λw' ho=>by rw [Ja,JE];exact(ho.at I).1,g,0,_,cap,rfl,by omega,by omega,((swp π a j ha G)[a]:Nat),λw' ho=>by rw [Ja,JE];exact(ho.at H).1,g,0,_,cap,rfl,by omega,by omega,⟨⟨_,by rw [Ja,JE];exact(γ.at H).1⟩,by rw [Ja,JE];exact(γ.at H).2.1⟩,λw59 W=>?_⟩;rw [Ja,JE,JC]at W;have θ:=γ.set W (by rw [Ju];exact H);rw [<-Mm]at θ;have hj59:j< ((swp π a j ha G).set a (swp π a j ha G)[j]).length:=by rw [KD];exact I
  obtain⟨c59,f59,_,_⟩:=θ.at hj59;refine⟨g,0,_,cap,rfl,by omega,by omega,⟨⟨_,by rw [Ja,JE];exact c59⟩,by rw [Ja,JE];exact f59⟩,λw65 Z=>⟨by unfold aj;omega,⟨j+1,z++ω,by omega,by omega,by omega,?_,?_,λσ=>?_⟩,by show((π.length:Int) - ((j:Int)+1)).toNat< ((π.length:Int) - j).toNat;omega⟩⟩
  ·rw [<-JH];exact hinv _ _ _ (hinv _ _ _ I43 (kg W)) (kg Z)
  ·rw [Ja,JE,JC]at Z;have ι:=θ.set Z (by rw [Ju,KD];exact I);rw [<-Mm]at ι;have e:((swp π a j ha G).set a (swp π a j ha G)[j]).set j (swp π a j ha G)[a]=π:=by
    rw [ej,ea];unfold swp;apply Lw
    ·simp
    ·intro k h1 h2;simp only [List.getElem_set];split
     ·rename_i h;subst h;rfl
     ·split
      ·rename_i h;subst h;rfl
      ·rfl
   rw [e]at ι;exact ι
  ·rw [Jf,ε,hm2];constructor
   ·rintro(⟨i,hi,⟨h1,h2⟩,h3⟩ | ⟨τ,h1,h2⟩)
    ·exact⟨i,hi,⟨h1,by omega⟩,h3⟩
    ·exact⟨j,G,⟨μ,by omega⟩,τ,h1,h2⟩
   ·rintro⟨i,hi,⟨h1,h2⟩,h3⟩
    by_cases h:i=j
    ·subst h;right;exact h3
    ·left;exact⟨i,hi,⟨h1,by omega⟩,h3⟩
structure wu (w:World)(b30 b3 b5 b16 b18 nn:Nat)(vo vl:Value)(x:UInt32)(best:Tx):Prop where
 l:∀b,(b=b30\/b=b3\/b=b5\/b=b16\/b=b18)->b< w.heap.size
 c30:w.cell? ⟨b30,0,none⟩=some vo
 c3:w.cell? ⟨b3,0,none⟩=some (ptr nn)
 c5:w.cell? ⟨b5,0,none⟩=some vl
 c16:w.cell? ⟨b16,0,none⟩=some (.string (ab best))
 c18:w.cell? ⟨b18,0,none⟩=some (.int .u32 x.toNat)
 f16:w.frozen? ⟨b16,0,none⟩=false
 ne:b16≠b30/\b16≠b3/\b16≠b5/\b16≠b18
section
variable {w w':World} {b30 b3 b5 b16 b18 nn:Nat} {vo vl:Value} {x:UInt32} {best best':Tx} {S:Nat->Prop}
theorem wu.kp (h:wu w b30 b3 b5 b16 b18 nn vo vl x best)(k:Kp w w' S)(z:∀b,(b=b30\/b=b3\/b=b5\/b=b16\/b=b18)->¬S b):wu w' b30 b3 b5 b16 b18 nn vo vl x best:=by
 have e:∀b,(b=b30\/b=b3\/b=b5\/b=b16\/b=b18)->w'.heap[b]?=w.heap[b]?:=λb hb=>k.block b (h.l b hb) (z b hb)
 exact⟨λb hb=>Jt (h.l b hb) k.size,by rw [IX (w:=w) (e b30 (by simp))];exact h.c30,by rw [IX (w:=w) (e b3 (by simp))];exact h.c3,by rw [IX (w:=w) (e b5 (by simp))];exact h.c5,
  by rw [IX (w:=w) (e b16 (by simp))];exact h.c16,by rw [IX (w:=w) (e b18 (by simp))];exact h.c18,by rw [Jz (w:=w) (e b16 (by simp))];exact h.f16,h.ne⟩
theorem wu.ex (h:wu w b30 b3 b5 b16 b18 nn vo vl x best)(k:Ex w w'):wu w' b30 b3 b5 b16 b18 nn vo vl x best:=h.kp (Kp.ah k λ _=>False) λ _ _ h=>h
theorem wu.CQ (h:wu w b30 b3 b5 b16 b18 nn vo vl x best)(hw:w'=w.setCell ⟨b16,0,none⟩ (.string (ab best'))):wu w' b30 b3 b5 b16 b18 nn vo vl x best':=by
 subst hw;have k:=Kr.set (r:=b16) w 0 (.string (ab best'));have ne:∀b,b16≠b->(w.setCell ⟨b16,0,none⟩ (.string (ab best'))).cell? ⟨b,0,none⟩=w.cell? ⟨b,0,none⟩:=λb hb=>I4 _ _ _ _ (λe=>by injection e with I J;omega)
 obtain⟨n1,z,G,H⟩:=h.ne;exact⟨λb hb=>Jt (h.l b hb) k.size,by rw [ne _ n1];exact h.c30,by rw [ne _ z];exact h.c3,by rw [ne _ G];exact h.c5,Jk _ _ _ h.c16,by rw [ne _ H];exact h.c18,by rw [Jl];exact h.f16,h.ne⟩
end
end Go.Proofs.YtdecokaadekjnaaGreat
