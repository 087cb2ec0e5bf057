/- Part 3 of a proof of what the last text states; no condition. -/
import Derived.Test.YtdecokaadekjnaaGreatY2
namespace Go.Proofs.YtdecokaadekjnaaGreat
open Classical
theorem HO {n:Nat}(ih:∀(u:U) (ρ:Rh) (tk:Tk),u.size<=n->Uq u->ED u ρ tk->di u tk=false->∃t v,DQ u ρ tk t v){t:U}{ρ:Rh}{tk:Tk}(hn:t.size<=n+1)(hu:Uq t)(κ:DH t=true)
  (ξ:t.dt) (hl:t.dead=false) (hm:ED t ρ tk) (hb:thBad (tl [t]) tk=false):∃q w,C4 t ρ tk q w:=by
 cases t with
 | nil=>cases κ
 | par=>cases κ
 | res=>cases κ
 | snd a b p=>
  simp only [T.size]at hn;rw [iF]at hb;obtain⟨q,v,G,h2,H,h4⟩:=ih p ρ tk (by omega) hu.snd (hm.sub λy hy=> .inr (.inr hy)) hb;have α:∀x,(T.snd a b v).Us x↔(T.snd a b p).Us x:=λx=>or_congr_right (or_congr_right (h4.us x))
  refine⟨.snd (ρ a) (ρ b) q,.snd a b v,?_,⟨rfl,rfl,h2⟩,⟨(hm.ok a (.inl rfl)).2,(hm.ok b (.inr (.inl rfl))).2,H⟩,?_⟩
  ·simp only [T.text,thU,kText,G]
  ·exact⟨rfl,h4.nr,pT (t:=T.snd a b p) h4.uq.nd h4.nr h4.bv (λx=>(α x).1) hu,h4.bv,α,λρ tk=>by simp only [thU,h4.ls],λtk=>by rw [iF,iF,h4.bad],by rw [pB,pB,h4.all],by rw [eC,eC,h4.most],h4.smp,rfl⟩
 | tau p=>
  simp only [T.size]at hn;rw [iJ]at hb;obtain⟨q,v,G,h2,H,h4⟩:=ih p ρ tk (by omega) hu.tau (hm.sub λy hy=>hy) hb;refine⟨.tau q,.tau v,?_,h2,H,?_⟩
  ·simp only [T.text,thU,kText,G]
  ·exact⟨rfl,h4.nr,pT (t:=T.tau p) h4.uq.nd h4.nr h4.bv (λx=>(h4.us x).1) hu,h4.bv,h4.us,λρ tk=>by simp only [thU,h4.ls],λtk=>by rw [iJ,iJ,h4.bad],by rw [pJ,pJ,h4.all],by rw [eJ,eJ,h4.most],h4.smp,rfl⟩
 | rep p=>
  simp only [T.size]at hn;rw [iE]at hb;obtain⟨q,v,G,h2,H,h4⟩:=ih p ρ tk (by omega) hu.rep (hm.sub λy hy=>hy) hb;have hd:v.dead=false:=by rw [h4.dead];exact hl
  have nr:(T.rep v).Nr:=⟨hd,h4.nr⟩
  refine⟨.rep q,.rep v,?_,h2,H,?_⟩
  ·simp only [T.text,thU,kText,G]
  ·refine⟨rfl,nr,pT (t:=T.rep p) h4.uq.nd nr h4.bv (λx=>(h4.us x).1) hu,h4.bv,h4.us,λρ tk=>by simp only [thU,h4.ls],λtk=>by rw [iE,iE,h4.bad],by rw [pP,pP,h4.all],by rw [eN,eN,h4.most],λhs=>?_,rfl⟩;simp only [T.smp,Bool.and_eq_true]at hs|-;refine⟨?_,h4.smp hs.2⟩;have:ak p=([],[p]):=by
    have hr:=hs.1;cases p<;>first | rfl | cases hr
   rw [T.uK,h4.tg p this,<-T.uK];exact hs.1
 | mat a b p=>
  simp only [T.size]at hn;have γ:a≠b:=ξ;have hd:p.dead=false:=hl;rw [eu]at hb;obtain⟨q,v,G,h2,H,h4⟩:=ih p ρ tk (by omega) hu.mat (hm.sub λy hy=> .inr ⟨γ,hd,.inr (.inr hy)⟩) hb;have ζ:v.dead=false:=by rw [h4.dead];exact hd
  have ha:=(hm.ok a (.inr ⟨γ,hd,.inl rfl⟩)).2;have ο:=(hm.ok b (.inr ⟨γ,hd,.inr (.inl rfl)⟩)).2;have us:∀x,(T.mat a b v).Us x↔(T.mat a b p).Us x:=λx=>by simp only [T.Us,γ,hd,ζ,h4.us]
  have ς:∀x,(T.mat b a v).Us x↔(T.mat a b p).Us x:=λx=>by
   simp only [T.Us,γ,γ.symm,hd,ζ,h4.us,false_and,false_or,ne_eq,not_false_eq_true,true_and];rw [<-or_assoc,<-or_assoc,or_comm (a:=x=b)]
  by_cases υ:ρ b< ρ a
  ·have nr:(T.mat b a v).Nr:=⟨⟨γ.symm,ζ⟩,h4.nr⟩
   refine⟨.mat (ρ b) (ρ a) q,.mat b a v,?_,⟨rfl,rfl,h2⟩,⟨ο,ha,H⟩,?_⟩
   ·simp only [T.text,thU,kText,G,if_pos υ]
   ·exact⟨rfl,nr,pT (t:=T.mat a b p) h4.uq.nd nr h4.bv (λx=>(ς x).1) hu,h4.bv,ς,λρ tk=>by simp only [thU,h4.ls];exact yZ _ _ _,λtk=>by rw [eu,eu,h4.bad],by rw [iG,iG,h4.all],by rw [cZ,cZ,h4.most],h4.smp,rfl⟩
  ·have nr:(T.mat a b v).Nr:=⟨⟨γ,ζ⟩,h4.nr⟩
   refine⟨.mat (ρ a) (ρ b) q,.mat a b v,?_,⟨rfl,rfl,h2⟩,⟨ha,ο,H⟩,?_⟩
   ·simp only [T.text,thU,kText,G,if_neg υ]
   ·exact⟨rfl,nr,pT (t:=T.mat a b p) h4.uq.nd nr h4.bv (λx=>(us x).1) hu,h4.bv,us,λρ tk=>by simp only [thU,h4.ls],λtk=>by rw [eu,eu,h4.bad],by rw [iG,iG,h4.all],by rw [cZ,cZ,h4.most],h4.smp,rfl⟩
 | rcv a x p=>
  simp only [T.size]at hn;rw [iH,Bool.or_eq_false_iff]at hb;obtain⟨f1,f2⟩:=BC hb.1;have hm':ED p (aD ρ x (ic tk)) (bZ tk (ic tk)):=by
   refine⟨λy hy=>?_,λy z hy I e=>?_⟩
   ·by_cases e:y=x
    ·subst e;simp [aD,bZ,f2]
    ·obtain⟨k1,k2⟩:=hm.ok y (.inr ⟨e,hy⟩);simp [aD,e,bZ,k1,k2]
   ·by_cases g1:y=x<;>by_cases g2:z=x
    ·rw [g1,g2]
    ·simp only [aD,if_pos g1,if_neg g2]at e;have :=(hm.ok z (.inr ⟨g2,I⟩)).1;rw [<-e,f1]at this;cases this
    ·simp only [aD,if_neg g1,if_pos g2]at e;have :=(hm.ok y (.inr ⟨g1,hy⟩)).1;rw [e,f1]at this;cases this
    ·simp only [aD,if_neg g1,if_neg g2]at e;exact hm.inj y z (.inr ⟨g1,hy⟩) (.inr ⟨g2,I⟩) e
  obtain⟨q,v,G,h2,H,h4⟩:=ih p _ _ (by omega) hu.rcv hm' hb.2;have α:∀y,(T.rcv a x v).Us y↔(T.rcv a x p).Us y:=λy=>or_congr_right (and_congr_right λ _=>h4.us y)
  have nr:(T.rcv a x v).Nr:=h4.nr;have μ:(BV (T.rcv a x v)).Nodup:=List.nodup_cons.2 ⟨λhx=>hu.ld (h4.bv x hx),h4.uq.nd⟩;have ε:∀y∈BV (T.rcv a x v),y∈BV (T.rcv a x p):=λy hy=>by
   rcases List.mem_cons.1 hy with rfl | hy
   ·exact List.mem_cons_self ..
   ·exact List.mem_cons_of_mem _ (h4.bv y hy)
  refine⟨.rcv (ρ a) (ic tk) q,.rcv a x v,?_,⟨rfl,λn=>AE.Fk (λz I e=>?_) h2 n⟩,⟨(hm.ok a (.inl rfl)).2,f2,H⟩,?_⟩
  ·simp only [T.text,thU,kText,G]
  ·intro hc;have :=(hm.ok z (.inr ⟨e,(h4.us z).1 (h4.nr.gV I)⟩)).1;rw [hc,f1]at this;cases this
  ·exact⟨rfl,nr,pT μ nr ε (λx=>(α x).1) hu,ε,α,λρ tk=>by simp only [thU,h4.ls],λtk=>by rw [iH,iH,h4.bad],by rw [oM,oM,h4.all],by rw [eI,eI,h4.most],h4.smp,rfl⟩
 | sum p q=>
  simp only [T.size]at hn;obtain⟨hd1,hd2⟩:p.dead=false/\q.dead=false:=ξ;have eS:an (T.sum p q)=an p++an q:=rfl;have φ:∀u∈an (T.sum p q),u.size<=n:=λu Z=>by
   rw [eS]at Z;rcases List.mem_append.1 Z with h | h
   ·have :=lB p u h;omega
   ·have :=lB q u h;omega
  have χ:∀u∈an (T.sum p q),di u tk=false:=by
   rw [(eQ (w:=T.sum p q) rfl ρ tk).2]at hb;simp only [thBad,Bool.or_false,vH]at hb;simpa [List.any_eq_false]using hb
  obtain⟨zs,z1,z2⟩:=triples (R:=λu=>DQ u ρ tk) (l:=an (T.sum p q)) λu Z=>
   ih u ρ tk (φ u Z) (vz hu u Z) (hm.sub λy hy=>(lF _ hu y).2 ⟨u,Z,hy⟩) (χ u Z)
  obtain⟨J,y1,y2⟩:=tT zs λz=>z.2.1.text
  have W:(J.map (·.1)).Perm (an (T.sum p q)):=z1▸y1.map _;have I:∀z∈J,DQ z.1 ρ tk z.2.1 z.2.2:=λz I=>z2 z (y1.subset I)
  have V:∀z∈J,z.1∈an (T.sum p q):=λz I=>W.subset (List.mem_map_of_mem I)
  have hlen:2<=J.length:=by
   have l1:(an p).length≠0:=λe=>nL hd1 hu.dQ (List.eq_nil_of_length_eq_zero e)
   have l2:(an q).length≠0:=λe=>nL hd2 hu.dB (List.eq_nil_of_length_eq_zero e)
   have :=W.length_eq;rw [List.length_map,eS,List.length_append]at this;omega
  have η:J≠[]:=λe=>by rw [e]at hlen;simp at hlen
  have δ:(T.dq (J.map (·.2.2))).isS=true/\(T.dq (J.map (·.2.2))).th=true/\(T.dq (J.map (·.2.2))).tg=4:=by
   match J,hlen with
   | a::b::l,_=>exact⟨rfl,rfl,rfl⟩
   | [a],h=>simp at h
   | [],h=>simp at h
  have ψ:∀v∈J.map (·.2.2),v.dead=false/\v.isS=false/\v.Nr:=λv hv=>by
   obtain⟨z,G,rfl⟩:=List.mem_map.1 hv;have ha:=(I z G).2.2.2;refine⟨?_,ha.isS (Ak _ hu z.1 (V z G)),ha.nr⟩;rw [ha.dead];cases hd:z.1.dead with
   | false=>rfl
   | true=>
    have hcp:∀u:U,∀t∈an u,t.dead=false:=AH;exact absurd (hcp _ _ (V z G)) (by rw [hd];simp)
  have θ:=(T.zi (l:=J.map (·.2.2)) (by simpa using η) ψ)
  have ε:∀x∈BV (T.dq (J.map (·.2.2))),x∈BV (T.sum p q):=λx hx=>by
   rw [uT]at hx;obtain⟨v,G,h2⟩:=List.mem_flatMap.1 hx;obtain⟨z,H,rfl⟩:=List.mem_map.1 G;exact wh _ z.1 (V z H) x ((I z H).2.2.2.bv x h2)
  have α:∀x,(T.dq (J.map (·.2.2))).Us x↔(T.sum p q).Us x:=λx=>by
   rw [T.zg,lF _ hu];constructor
   ·rintro⟨v,G,h2⟩
    obtain⟨z,H,rfl⟩:=List.mem_map.1 G;exact⟨z.1,V z H,((I z H).2.2.2.us x).1 h2⟩
   ·rintro⟨u,G,h2⟩
    obtain⟨z,H,rfl⟩:=List.mem_map.1 (W.symm.subset G);exact⟨_,List.mem_map_of_mem H,((I z H).2.2.2.us x).2 h2⟩
  have μ:(BV (T.dq (J.map (·.2.2)))).Nodup:=by
   rw [uT,List.flatMap_map];refine oT (f:=λz=>BV z.1) ?_ λz h=>⟨(I z h).2.2.2.uq.nd,(I z h).2.2.2.bv⟩
   have hp:=(W.flatMap_right BV)
   rw [List.flatMap_map]at hp;exact hp.nodup_iff.2 (Dq _ hu)
  have ω:=pT μ θ.1 ε (λx=>(α x).1) hu;have ι:an (T.dq (J.map (·.2.2)))=J.map (·.2.2):=by
   rw [eg ω θ.1 θ.2,T.xN (by simpa using η) λt ht=>(ψ t ht).2.1]
  have ν:∀{β:Type} (g:U->β),(∀z∈J,g z.2.2=g z.1)->((J.map (·.2.2)).map g).Perm ((an (T.sum p q)).map g):=λg hg=>by
   have e:(J.map (·.2.2)).map g=(J.map (·.1)).map g:=by
    rw [List.map_map,List.map_map];exact List.map_congr_left hg
   rw [e];exact W.map g
  refine⟨T.dq (J.map (·.2.1)),T.dq (J.map (·.2.2)),?_,AE.dq λz h=>(I z h).2.1,zK λt ht=>?_,?_⟩
  ·rw [T.tz (by simpa using η),List.map_map,(eQ (w:=T.sum p q) rfl ρ tk).1];have e:J.map (T.text∘λz=>z.2.1)=aX (zs.map λz=>z.2.1.text):=y2;rw [e]
   congr 2
   rw [<-z1,List.map_map];exact List.map_congr_left λz h=>(z2 z h).1
  ·obtain⟨z,G,rfl⟩:=List.mem_map.1 ht;exact(I z G).2.2.1
  ·refine⟨δ.2.1,θ.1,ω,ε,α,λρ tk=>?_,λtk=>?_,?_,?_,λhs=>?_,δ.2.2⟩
   ·rw [(eQ δ.1 ρ tk).1,(eQ (w:=T.sum p q) rfl ρ tk).1,ι]
    congr 1
    exact kB (ν _ λz h=>(I z h).2.2.2.ls ρ tk)
   ·rw [(eQ δ.1 ρ tk).2,(eQ (w:=T.sum p q) rfl ρ tk).2,ι];simp only [thBad,Bool.or_false,vH];have G:=wY (f:=λb:Bool=>b) (ν (λu=>di u tk) λz h=>(I z h).2.2.2.bad tk);simpa [List.any_map,Function.comp_def]using G
   ·rw [(eQ δ.1 ρ tk).2,(eQ (w:=T.sum p q) rfl ρ tk).2,ι];simp only [thAll,Nat.add_zero,CP];exact iC (ν cE λz h=>(I z h).2.2.2.all)
   ·rw [(eQ δ.1 ρ tk).2,(eQ (w:=T.sum p q) rfl ρ tk).2,ι];refine zm λk=>?_
    simp only [aw,Nat.max_zero,ux];constructor
    ·intro h u Z;obtain⟨z,H,rfl⟩:=List.mem_map.1 (W.symm.subset Z);rw [<-(I z H).2.2.2.most];exact h _ (List.mem_map_of_mem H)
    ·intro h v hv;obtain⟨z,H,rfl⟩:=List.mem_map.1 hv;rw [(I z H).2.2.2.most];exact h _ (V z H)
   ·have hg:=vb (T.sum p q) rfl hs;refine(BY (by simpa using η) λt ht=>?_).1;obtain⟨z,G,rfl⟩:=List.mem_map.1 ht;have ha:=(I z G).2.2.2;have hgz:=hg z.1 (V z G);refine⟨ha.smp (CD _ hs z.1 (V z G)),?_⟩;rw [T.wC,ha.tg z.1 hgz.2,decide_eq_true_eq];rcases hgz.1 with h | h | h<;>omega
theorem oH {u:U}(hu:Uq u)(hd:u.dead=true):(∀ρ tk,LS u ρ tk=[48])/\(∀tk,di u tk=false)/\cE u=0/\a7 u=0:=by
 have z:=lv hd;have G:(td u).1=[]:=by
  have :=(fD u hu).2.1;rw [db u hu hd]at this;exact this.eq_nil
 refine⟨λρ tk=>?_,λtk=>?_,?_,?_⟩
 ·simp [LS,aP,z,thS]
 ·simp [di,fc,z,Lv.isNil]
 ·simp [cE,z,G,thAll]
 ·simp [a7,z,G,aw]
theorem arr:∀(n:Nat) (u:U) (ρ:Rh) (tk:Tk),u.size<=n->Uq u->ED u ρ tk->di u tk=false->∃t v,DQ u ρ tk t v:=by
 intro n
 induction n with
 | zero=>intro u ρ tk h;cases u<;>simp [T.size]at h
 | succ n ih=>
  intro u ρ tk hn hu hm hb;cases hd:u.dead with
  | true=>
   obtain⟨d1,d2,d3,d4⟩:=oH hu hd;have χ:Uq .nil:=⟨List.nodup_nil,λx h=>by cases h⟩
   obtain⟨e1,e2,e3,e4⟩:=oH χ rfl;refine⟨.nil,.nil,by rw [d1];rfl,trivial,trivial,trivial,χ,λx h=>(by cases h),λx=>⟨λh=>h.elim,λh=>absurd h (T.bC hd)⟩,λρ tk=>by rw [d1,e1],λtk=>by rw [d2,e2],by rw [d3,e3],by rw [d4,e4],hd.symm,λ _=>rfl,λt V=>?_,λ _=>rfl⟩;rw [db u hu hd]at V;cases V
  | false=>
   have ψ:=vK hd hu;obtain⟨g1,g2,_⟩:=fD u hu;have hlen:(td u).1.length=(ak u).1.length:=g2.length_eq;have ω:(td u).2.isNil=false:=by rw [dw,hd]
   simp only [di,fc,ω,Bool.not_false,Bool.true_and,Bool.or_eq_false_iff,hlen]at hb;obtain⟨hb1,δ⟩:=hb;rw [g1,se]at δ;have δ:∀t∈(ak u).2,thBad (tl [t]) (addK (lets (ak u).1.length tk) tk)=false:=by simpa [List.any_eq_false]using δ
   obtain⟨l1,l2⟩:=tC _ tk hb1;have hls:=fy (ak u).1.length tk;generalize hl:lets (ak u).1.length tk=ls at*;have hLS:LS u ρ tk=wrap ls (bF ((perms (ak u).1).map λπ=>joinS 38 (aX ((ak u).2.map λt=>thU t (asg π ls ρ) (addK ls tk))))):=by
    rw [uC hu];unfold aP;rw [if_neg (by simpa using ψ)];show wrap (lets _ tk) (bF (List.map (λπ=>joinS 38 (aX ((ak u).2.map λt=>thU t (asg π (lets _ tk) ρ) (addK (lets _ tk) tk)))) _))=_;rw [hl]
   obtain⟨hmem,_⟩:=cB (l:=(perms (ak u).1).map λπ=>joinS 38 (aX ((ak u).2.map λt=>thU t (asg π ls ρ) (addK ls tk)))) (by simpa using nV _);obtain⟨π,G,μ⟩:=List.mem_map.1 hmem;have G:=(cR _ π).1 G;have α:π.length=ls.length:=by rw [G.length_eq,hls]
   have ν:=E4 u hu;have η:π.Nodup:=G.nodup_iff.2 (List.nodup_append.1 ν).1;have hmt:∀t∈(ak u).2,ED t (asg π ls ρ) (addK ls tk):=by
    intro t V;have ξ:∀y,t.Us y->y∈π\/(y∉π/\u.Us y):=λy hy=>by
     by_cases hp:y∈π
     ·exact .inl hp
     ·exact .inr ⟨hp,(ke u hu t V y hy).resolve_right λh=>hp (G.symm.subset h)⟩
    refine⟨λy hy=>?_,λy z hy I e=>?_⟩
    ·rw [vJ];rcases ξ y hy with h | ⟨h,h'⟩
     ·have :=eW π ls ρ y h α;exact⟨by simp [this],(l2 _ this).2⟩
     ·rw [bK π ls ρ y h];exact⟨by simp [(hm.ok y h').1],(hm.ok y h').2⟩
    ·rcases ξ y hy with h | ⟨h,h'⟩<;>rcases ξ z I with k | ⟨k,k'⟩
     ·exact um π ls ρ y z h k α l1 e
     ·rw [bK π ls ρ z k]at e;have :=(l2 _ (eW π ls ρ y h α)).1;rw [e,(hm.ok z k').1]at this;cases this
     ·rw [bK π ls ρ y h]at e;have :=(l2 _ (eW π ls ρ z k α)).1;rw [<-e,(hm.ok y h').1]at this;cases this
     ·rw [bK π ls ρ y h,bK π ls ρ z k]at e;exact hm.inj y z h' k' e
   obtain⟨zs,z1,z2⟩:=triples (R:=λu=>C4 u (asg π ls ρ) (addK ls tk)) (l:=(ak u).2) λt V=>
    HO ih (by have :=yY u t V;omega) (CY hu t V) (vM u t V) (sC u t V).1 (sC u t V).2 (hmt t V) (δ t V)
   obtain⟨J,y1,y2⟩:=tT zs λz=>z.2.1.text
   have H:(J.map (·.1)).Perm (ak u).2:=z1▸y1.map _;have I:∀z∈J,C4 z.1 (asg π ls ρ) (addK ls tk) z.2.1 z.2.2:=λz I=>z2 z (y1.subset I)
   have W:∀z∈J,z.1∈(ak u).2:=λz I=>H.subset (List.mem_map_of_mem I)
   have γ:J≠[]:=λe=>ψ (by have :=H;rw [e]at this;exact this.symm.eq_nil)
   have ε:∀w∈J.map (·.2.2),w.th=true/\w.Nr:=λw hw=>by
    obtain⟨z,Z,rfl⟩:=List.mem_map.1 hw;exact⟨(I z Z).2.2.2.th,(I z Z).2.2.2.nr⟩
   have θ:∀x,(T.parL (J.map (·.2.2))).Us x↔∃t∈(ak u).2,t.Us x:=λx=>by
    rw [T.qI];constructor
    ·rintro⟨v,Z,h2⟩
     obtain⟨z,h3,rfl⟩:=List.mem_map.1 Z;exact⟨z.1,W z h3,((I z h3).2.2.2.us x).1 h2⟩
    ·rintro⟨u',Z,h2⟩
     obtain⟨z,h3,rfl⟩:=List.mem_map.1 (H.symm.subset Z);exact⟨_,List.mem_map_of_mem h3,((I z h3).2.2.2.us x).2 h2⟩
   have ι:=T.Ad ε;have ο:(T.resL π (T.parL (J.map (·.2.2)))).Nr:=T.zy ι.1 η λx hx=>(θ x).2 (wQ u hu x (G.subset hx))
   have ς:∀x,(T.resL π (T.parL (J.map (·.2.2)))).Us x↔u.Us x:=λx=>by
    rw [T.jC,θ];constructor
    ·rintro⟨Z,t,h2,h3⟩
     exact(ke u hu t h2 x h3).resolve_right λh=>Z (G.symm.subset h)
    ·intro h;exact⟨λhx=>hu.nf x (ib u x (G.subset hx)) (T.bz h),CF u x h⟩
   have hbv:∀x∈BV (T.resL π (T.parL (J.map (·.2.2)))),x∈BV u:=λx hx=>by
    rw [fV,fP]at hx;rcases List.mem_append.1 hx with hx | hx
    ·exact ib u x (G.subset hx)
    ·obtain⟨v,Z,h2⟩:=List.mem_flatMap.1 hx;obtain⟨z,h3,rfl⟩:=List.mem_map.1 Z;exact zC _ z.1 (W z h3) x ((I z h3).2.2.2.bv x h2)
   have hndv:(BV (T.resL π (T.parL (J.map (·.2.2))))).Nodup:=by
    rw [fV,fP,List.flatMap_map];have hp:=(H.flatMap_right BV)
    rw [List.flatMap_map]at hp;have hnd':(J.flatMap λz=>BV z.1).Nodup:=hp.nodup_iff.2 (List.nodup_append.1 ν).2.1;refine List.nodup_append.2 ⟨η,oT (f:=λz=>BV z.1) hnd' λz h=>⟨(I z h).2.2.2.uq.nd,(I z h).2.2.2.bv⟩,λa ha b hb=>?_⟩;obtain⟨z,Z,h2⟩:=List.mem_flatMap.1 hb;exact(List.nodup_append.1 ν).2.2 a (G.subset ha) b (List.mem_flatMap.2 ⟨z.1,W z Z,(I z Z).2.2.2.bv b h2⟩)
   have ζ:=pT hndv ο hbv (λx=>(ς x).1) hu;have κ:ak (T.resL π (T.parL (J.map (·.2.2))))=(π,J.map (·.2.2)):=by
    rw [yg ζ ο,T.wq,T.wT,T.wv λt V=>(ε t V).1,T.B9 λt V=>(ε t V).1,List.append_nil]
   have υ:∀{β:Type} (g:U->β),(∀z∈J,g z.2.2=g z.1)->((J.map (·.2.2)).map g).Perm ((ak u).2.map g):=λg hg=>by
    have e:(J.map (·.2.2)).map g=(J.map (·.1)).map g:=by
     rw [List.map_map,List.map_map];exact List.map_congr_left hg
    rw [e];exact H.map g
   obtain⟨k1,k2,_⟩:=fD _ ζ;rw [κ]at k1 k2;have hdv:(T.resL π (T.parL (J.map (·.2.2)))).dead=false:=by
    rw [kF,k1]
    match J,γ,ε with
    | z::l,_,h=>
     have :=(h z.2.2 (by simp)).1;intro hh;revert hh this;simp only [List.map_cons];cases z.2.2<;>simp [tl,Lv.len,T.th]
   have φ:(td (T.resL π (T.parL (J.map (·.2.2))))).1.length=(td u).1.length:=by rw [k2.length_eq,G.length_eq,hlen]
   refine⟨T.resL ls (T.parL (J.map (·.2.1))),T.resL π (T.parL (J.map (·.2.2))),?_,?_,?_,ο,ζ,hbv,ς,λρ tk=>?_,λtk=>?_,?_,?_,by rw [hdv,hd],λhs=>?_,λt V=>?_,λhns=>?_⟩
   ·rw [T.pD,hLS,<-μ,T.pb (by simpa using γ),List.map_map];have e:J.map (T.text∘λz=>z.2.1)=aX (zs.map λz=>z.2.1.text):=y2;rw [e,<-z1,List.map_map]
    congr 3
    exact List.map_congr_left λz h=>(z2 z h).1
   ·refine AE.Bu π ls ρ α l1 (λz hz' hzp hc=>?_) (AE.parL λz h=>(I z h).2.1);have hzu:u.Us z:=(ς z).1 (T.jC.2 ⟨hzp,ι.1.gV hz'⟩);have :=(l2 _ hc).1;rw [(hm.ok z hzu).1]at this;cases this
   ·refine Ae (zh λt V=>?_) λc hc=>(l2 c hc).2
    obtain⟨z,Z,rfl⟩:=List.mem_map.1 V;exact(I z Z).2.2.1
   ·rw [uC ζ,uC hu,κ];exact ki G (λρ tk=>υ (λt=>thU t ρ tk) λz h=>(I z h).2.2.2.tx ρ tk) ρ tk
   ·unfold di fc;rw [φ,dw,dw,hdv,hd,k1,g1]
    congr 2
    rw [se,se];have Z:=wY (f:=λb:Bool=>b) (υ (λt=>thBad (tl [t]) (addK (lets (td u).1.length tk) tk)) λz h=>(I z h).2.2.2.bad _);simpa [List.any_map,Function.comp_def]using Z
   ·unfold cE;rw [φ,k1,g1,xR,xR (ak u).2]
    congr 1
    exact iC (υ (λt=>thAll (tl [t])) λz h=>(I z h).2.2.2.all)
   ·unfold a7;rw [φ,k1,g1]
    congr 1
    refine zm λk=>?_
    rw [qG,qG];constructor
    ·intro h t V;obtain⟨z,h3,rfl⟩:=List.mem_map.1 (H.symm.subset V);rw [<-(I z h3).2.2.2.most];exact h _ (List.mem_map_of_mem h3)
    ·intro h v hv;obtain⟨z,h3,rfl⟩:=List.mem_map.1 hv;rw [(I z h3).2.2.2.most];exact h _ (W z h3)
   ·rw [ra];refine rF λt V=>?_
    obtain⟨z,Z,rfl⟩:=List.mem_map.1 V;exact(I z Z).2.2.2.smp (EX u hs z.1 (W z Z))
   ·rw [V]at G H;have e1:π=[]:=G.eq_nil;have e2:=H.length_eq;rw [List.length_map]at e2
    match J,e2,H,I with
    | [z],_,hs,I=>
     have:z.1=t:=by simpa using hs
     subst this;rw [e1];exact(I z (by simp)).2.2.2.tg
   ·cases hp:π with
    | cons x l=>rfl
    | nil=>
     rw [hp]at G;have e0:(ak u).1=[]:=G.symm.eq_nil
     match J,γ,H,I with
     | [z],_,hs,I=>
      have e1:(ak u).2=[z.1]:=by
       have :=List.perm_singleton.1 hs.symm;simpa using this
      show z.2.2.isS=false;have htg:=(I z (by simp)).2.2.2.tg;rw [T.CN,htg,<-T.CN];cases hz1:z.1<;>first | rfl | skip
      rename_i p q;exact absurd (Prod.ext e0 (by rw [e1,hz1])) (hns p q)
     | z::y::l,_,_,_=>rfl
end Go.Proofs.YtdecokaadekjnaaGreat
namespace Go.Proofs.YtdecokaadekjnaaGreat
open Go Go.RowKit
theorem tN:∀(n:Nat) (tk:Tk),lets (n+1) tk=lets n tk++[ic (addK (lets n tk) tk)]
 | 0,tk=>rfl
 | n+1,tk=>by
  rw [lets,tN n,lets];rfl
theorem oQ:∀(n:Nat) (tk:Tk),fN (n+1) tk=(fN n tk||(sV (addK (lets n tk) tk)).isNone)
 | 0,tk=>by simp [fN,lets,addK]
 | n+1,tk=>by
  rw [fN,oQ n,fN];rw [lets,addK,Bool.or_assoc]
theorem fw:∀(l:List UInt8) (s:Tx),(wrap l s).length=3* l.length+s.length
 | [],s=>by simp [wrap]
 | c::l,s=>by simp only [wrap,List.length_cons,fw l s];omega
theorem re:∀{l:List UInt8} (s:Tx),(∀c∈l,¬c=35)->(wrap l s).count 35=l.length+s.count 35
 | [],s,_=>by simp [wrap]
 | c::l,s,h=>by
  have z:=re (l:=l) s λc G=>h c (List.mem_cons_of_mem _ G)
  simp only [wrap,List.length_cons];rw [List.count_cons,bf (h c (by simp)),bf (by decide),z];simp;omega
theorem nJ:∀{l:List UInt8} {s:Tx} {c:UInt8},(c∈l\/c∈s)->c∈wrap l s
 | [],s,c,h=>by simpa [wrap]using h
 | d::l,s,c,h=>by
  simp only [wrap,List.mem_cons];rcases h with h | h
  ·rcases List.mem_cons.1 h with h | h
   ·exact .inr (.inl h)
   ·exact .inr (.inr (.inr (nJ (.inl h))))
  ·exact .inr (.inr (.inr (nJ (.inr h))))
theorem ga {k m:Nat}{Θ ls A:Tx}(h:Cy k m Θ ls A):cH A=addK ls (cH Θ):=by
 funext c
 rw [vJ,cH,cH,Bool.eq_iff_iff];simp only [decide_eq_true_eq,Bool.or_eq_true];exact h.mem c
structure Fq (k i:Nat)(Θ ls A:Tx):Prop where
 ok:Cy k i Θ ls A
 good:fN i (cH Θ)=false->ls=lets i (cH Θ)
 bad:fN i (cH Θ)=true->∃c∈ls,128<=c
theorem Fq.zero {k:Nat}{Θ:Tx}(h:jJ Θ):Fq k 0 Θ [] Θ:=
 ⟨⟨rfl,List.nodup_nil,λc z=>(by cases z),h,λc=>by simp⟩,λ _=>rfl,λh=>by simp [fN]at h⟩
theorem Fq.snoc {k i:Nat}{Θ ls A V:Tx}{c:UInt8}(h:Fq k i Θ ls A)(G:vZ (k+i) A c)(W:jJ V)(Z:∀x,x∈V↔x=c\/x∈A):Fq k (i+1) Θ (ls++[c]) V:=by
 have I:c∉ls:=λhm=>G.nin ((h.ok.mem c).2 (.inr hm))
 have J:c∉Θ:=λhm=>G.nin ((h.ok.mem c).2 (.inl hm))
 refine⟨⟨by simp [h.ok.len],?_,λd hd=>?_,W,λd=>?_⟩,λhb=>?_,λhb=>?_⟩
 ·refine List.nodup_append.2 ⟨h.ok.nd,by simp,λa ha b hb e=>?_⟩;have:b=c:=by simpa using hb
  subst this;subst e;exact I ha
 ·rcases List.mem_append.1 hd with hd | hd
  ·have :=h.ok.ok d hd;exact⟨this.1,this.2.1.mono (by omega),this.2.2⟩
  ·have:d=c:=by simpa using hd
   subst this;exact⟨J,by rw [<-Nat.add_assoc];exact G.okn,G.ngr,G.nm⟩
 ·rw [Z,h.ok.mem,List.mem_append,List.mem_singleton];constructor
  ·rintro(h | h | h)
   ·exact .inr (.inr h)
   ·exact .inl h
   ·exact .inr (.inl h)
  ·rintro(h | h | h)
   ·exact .inr (.inl h)
   ·exact .inr (.inr h)
   ·exact .inl h
 ·rw [oQ,Bool.or_eq_false_iff]at hb;have e:=h.good hb.1;rw [tN,<-e]
  congr 2
  have z:=hb.2;rw [<-e,<-ga h.ok]at z;rw [<-ga h.ok];exact G.good z
 ·rw [oQ,Bool.or_eq_true]at hb;cases H:fN i (cH Θ)with
  | true=>
   obtain⟨d,h1,h2⟩:=h.bad H;exact⟨d,by simp [h1],h2⟩
  | false=>
   rw [H]at hb;have z:=hb.resolve_left (by simp);rw [<-h.good H,<-ga h.ok]at z;exact⟨c,by simp,G.bad z⟩
theorem tw:∀n,n<=90->(gL n).Nodup
 | 0,_=>List.nodup_nil
 | n+1,h=>by
  rw [wD];refine List.nodup_append.2 ⟨tw n (by omega),by simp,λa ha b hb e=>?_⟩;have hb:b=gl n:=by simpa using hb
  obtain⟨j,G,z⟩:=gP.1 ha;have :=vL (by omega) (by omega) (z.symm.trans (e.trans hb));omega
structure zu (on:Bool)(σ:Nat->Nat)(u:U)(Lo:List Tx)(ls A best:Tx):Prop where
 mem:∃o∈Lo,vk on σ u o ls A best
 le:∀o∈Lo,∃r,vk on σ u o ls A r/\ja best r=true
theorem vk.ne {on:Bool}{σ:Nat->Nat}{u:U}{o ls A r:Tx}(h:vk on σ u o ls A r)(z:(ak u).2≠[]):r≠[]:=by
 obtain⟨rs,rfl,ha⟩:=h;have G:=aJ rs;refine xe (λs H=>?_) λe=>z (List.eq_nil_of_length_eq_zero ?_)
 ·obtain⟨t,_,I⟩:=ha.get' (G.subset H);exact I.ne
 ·rw [e]at G;rw [<-ha.1,G.symm.eq_nil];rfl
theorem vk.text {k:Nat}{σ:Nat->Nat}{u:U}{Θ o ls A r:Tx}{π:List Nat}(h:vk false σ u o ls A r)(hu:Uq u)(V:uz k Θ σ u)(W:Cy k (ak u).1.length Θ ls A)(H:π.Perm (ak u).1)
  (ho:o.map UInt8.toNat=π.map (asgN (ak u).1 0 σ)) (I:o.Perm (gL (ak u).1.length)) (hm:(ak u).1.length<=64) (J:∀t∈(ak u).2,aw (tl [t])<=5) (Z:∀t∈(ak u).2,thBad (tl [t]) (cH A)=false) {ρ:Rh} (hc:Compat ρ σ u):
  r=joinS 38 (aX ((ak u).2.map λt=>thU t (asg π ls ρ) (cH A))):=by
 obtain⟨rs,rfl,ha⟩:=h
 congr 2
 have β:∀y∈(ak u).1,∀z∈(ak u).1,asgN (ak u).1 0 σ z=asgN (ak u).1 0 σ y->z=y:=by
  intro y hy z hz e;obtain⟨i,hi,rfl⟩:=List.mem_iff_getElem.1 hy;obtain⟨j,hj,rfl⟩:=List.mem_iff_getElem.1 hz;rw [jA _ _ _ _ hi (gg u hu),jA _ _ _ _ hj (gg u hu),Nat.zero_add,Nat.zero_add]at e;have :=vL (by omega) (by omega) (UInt8.toNat_inj.1 e);subst this;rfl
 have γ:o.Nodup:=I.nodup_iff.2 (tw _ (by omega));have :=aH.map_eq (f:=λr:Tx=>r) (g:=λt=>thU t (asg π ls ρ) (cH A)) (ha.mono λr t _ ht hw=>hw.eq (J t ht) rfl (Z t ht) (asg π ls ρ) λy hy=>?_)
 ·simpa using this
 ·show(asg π ls ρ y).toNat=rnv o ls (asgN (ak u).1 0 σ y);by_cases G:y∈(ak u).1
  ·refine(zZ π o ls _ ρ y ho (by rw [H.length_eq,W.len]) (λl hl δ=>?_) (H.symm.subset G) (λz hz e=>β y G z (H.subset hz) e) γ).symm;obtain⟨j,h1,rfl⟩:=gP.1 (I.subset δ);exact ec (W.ok _ hl).2.2.1 (uR (by omega))
  ·have α:=(ke u hu t ht y hy).resolve_right G;rw [bK π ls ρ y λh=>G (H.subset h),iL _ _ _ _ G,uM,hc y α];intro o' ε e;obtain⟨c,h1,h2⟩:=V.cov y α;obtain⟨j,h3,rfl⟩:=gP.1 (I.subset ε);have:c=gl j:=UInt8.toNat_inj.1 (h2.trans e);exact ec (V.okn c h1).2 (this▸uR (by omega))
theorem qO {u:U}(hu:Uq u):a7 u<=5->(ak u).1.length<=5/\∀t∈(ak u).2,aw (tl [t])<=5:=by
 intro h;obtain⟨z,G,_⟩:=fD u hu;unfold a7 at h;rw [z,G.length_eq]at h;exact⟨by omega,(qG _ _).1 (by omega)⟩
theorem xz {u:U}(hu:Uq u):decide (5< a7 u)=(decide (5< (ak u).1.length)||(ak u).2.any λt=>decide (5< aw (tl [t]))):=by
 rw [Bool.eq_iff_iff,Bool.or_eq_true,decide_eq_true_eq,decide_eq_true_eq,List.any_eq_true];constructor
 ·intro h;rcases Nat.lt_or_ge 5 (ak u).1.length with z | z
  ·exact .inl z
  ·right;refine Classical.byContradiction λJ=>?_
   have G:∀t∈(ak u).2,aw (tl [t])<=5:=λt W=>by
    rcases Nat.lt_or_ge 5 (aw (tl [t]))with H | H
    ·exact absurd ⟨t,W,decide_eq_true H⟩ J
    ·exact H
   obtain⟨V,I,_⟩:=fD u hu;unfold a7 at h;rw [V,I.length_eq]at h;have :=(qG (ak u).2 5).2 G;omega
 ·intro h;refine Classical.byContradiction λJ=>?_
  obtain⟨V,I⟩:=qO hu (by omega);rcases h with h | ⟨t,z,G⟩
  ·omega
  ·have :=I t z;have :=of_decide_eq_true G;omega
theorem WR.DG {on:Bool}{k:Nat}{σ:Nat->Nat}{u:U}{Θ ls A best:Tx}{Lo:List Tx}(hu:Uq u)(I:(ak u).2≠[])(β:uz k Θ σ u)(hl:Fq k (ak u).1.length Θ ls A)(hm:(ak u).1.length<=64)
  (γ:∀o∈Lo,o.Perm (gL (ak u).1.length)) (δ:on=false->∀o,o.Perm (gL (ak u).1.length)->o∈Lo) (h:zu on σ u Lo ls A best):WR on u σ Θ (wrap ls best):=by
 obtain⟨o0,ε,hN⟩:=h.mem;have ζ:=hN.ne I;obtain⟨rs,z,ha⟩:=hN;have G:=hl.ok;have hp:=aJ rs;have θ:rs≠[]:=λe=>I (List.eq_nil_of_length_eq_zero (by rw [<-ha.1,e];rfl))
 have ι:aX rs≠[]:=λe=>θ (by rw [e]at hp;exact hp.symm.eq_nil)
 have κ:∀c∈ls,¬c=35:=λc hc=>ju (G.ok c hc).2.2.2
 obtain⟨g1,g2,_⟩:=fD u hu;have J:(td u).2.isNil=false:=by
  rw [dw];cases hd:u.dead with
  | false=>rfl
  | true=>rw [db u hu hd]at I;exact absurd rfl I
 refine⟨λe=>?_,?_,λhM=>?_,λhM Z hb=>?_,λhM Z hb ρ hc=>?_⟩
 ·have :=fw ls best;rw [e]at this;have V:best.length≠0:=λe=>ζ (List.eq_nil_of_length_eq_zero e)
  simp at this;omega
 ·have H:=mC 38 _ ι;have V:=lx hp;have h3:=ha.C0;have h4:=e8 u;rw [fw,G.len,z];omega
 ·obtain⟨m1,m2⟩:=qO hu hM;rw [re _ κ,G.len,z,kL (by decide),iC (hp.map _)];unfold cE;rw [g1,g2.length_eq,xR]
  congr 2
  exact aH.map_eq (ha.mono λr t _ ht hw=>hw.cnt (m2 t ht))
 ·obtain⟨m1,m2⟩:=qO hu hM;unfold di fc at hb;rw [J,g2.length_eq]at hb;simp only [Bool.not_false,Bool.true_and,Bool.or_eq_true]at hb;cases α:fN (ak u).1.length (cH Θ)with
  | true=>
   obtain⟨c,H,V⟩:=hl.bad α;exact⟨c,nJ (.inl H),V⟩
  | false=>
   rw [α]at hb;have hb:=hb.resolve_left (by simp);rw [<-hl.good α,<-ga G,g1,se,List.any_eq_true]at hb;obtain⟨t,H,V⟩:=hb;obtain⟨r,h3,h4⟩:=ha.get H;obtain⟨c,h5,h6⟩:=h4.bad (m2 t H) Z V;refine⟨c,nJ (.inr ?_),h6⟩;rw [z];exact oK (hp.symm.subset h3) h5
 ·obtain⟨m1,m2⟩:=qO hu hM;subst Z;unfold di fc at hb;rw [J,g2.length_eq]at hb;simp only [Bool.not_false,Bool.true_and,Bool.or_eq_false_iff]at hb;have e:=hl.good hb.1;have W:=hb.2;rw [<-e,<-ga G,g1,se,List.any_eq_false]at W;have W:∀t∈(ak u).2,thBad (tl [t]) (cH A)=false:=λt ht=>by simpa using W t ht
  rw [uC hu];unfold aP;rw [if_neg (by simpa using I)];show _=wrap (lets _ (cH Θ)) (bF (List.map (λπ=>joinS 38 (aX ((ak u).2.map λt=>thU t (asg π (lets _ (cH Θ)) ρ) (addK (lets _ (cH Θ)) (cH Θ))))) _));rw [<-e,<-ga G]
  congr 1
  symm
  have η:∀o:Tx,o.Perm (gL (ak u).1.length)->∃π:List Nat,π.Perm (ak u).1/\o.map UInt8.toNat=π.map (asgN (ak u).1 0 σ):=λo ho=>by
   refine jr ((ho.map UInt8.toNat).trans ?_);have:(gL (ak u).1.length).map UInt8.toNat=(ak u).1.map (asgN (ak u).1 0 σ):=by
    refine List.ext_getElem (by simp [gY]) λi H V=>?_
    simp only [List.getElem_map];have hi:i< (ak u).1.length:=by simpa using V
    rw [jA _ _ _ _ hi (gg u hu),Nat.zero_add];simp [gL]
   rw [this]
  refine fX ?_ λs hs=>?_
  ·obtain⟨π,H,V⟩:=η o0 (γ _ ε);refine List.mem_map.2 ⟨π,(cR _ _).2 H,?_⟩;exact(vk.text ⟨rs,z,ha⟩ hu β G H V (γ _ ε) hm m2 W hc).symm
  ·obtain⟨π,H,rfl⟩:=List.mem_map.1 hs;have H:=(cR _ _).1 H;have h3:(π.map (asgN (ak u).1 0 σ)).Perm ((gL (ak u).1.length).map UInt8.toNat):=by
    have:(gL (ak u).1.length).map UInt8.toNat=(ak u).1.map (asgN (ak u).1 0 σ):=by
     refine List.ext_getElem (by simp [gY]) λi H V=>?_
     simp only [List.getElem_map];have hi:i< (ak u).1.length:=by simpa using V
     rw [jA _ _ _ _ hi (gg u hu),Nat.zero_add];simp [gL]
    rw [this];exact H.map _
   obtain⟨o,h4,h5⟩:=jr h3;obtain⟨r,h6,h7⟩:=h.le o (δ rfl o h4);rw [<-h6.text hu β G H h5.symm h4 hm m2 W hc];exact h7
theorem WR.E7 {on:Bool}{u:U}{σ:Nat->Nat}{Θ:Tx}(hu:Uq u)(hd:u.dead=true):WR on u σ Θ [48]:=by
 obtain⟨z,G,H,h4⟩:=oH hu hd;exact⟨by simp,wL u,λ _=>by rw [H];rfl,λ _ _ hb=>(by rw [G]at hb;cases hb),λ _ _ _ ρ _=>by rw [z]⟩
theorem WR.AO {on:Bool}{u:U}{σ:Nat->Nat}{Θ:Tx}(h:5< a7 u):WR on u σ Θ [48]:=
 ⟨by simp,wL u,λhm=>by omega,λhm=>by omega,λhm=>by omega⟩
theorem Ex.aQ {w w':World}(h:w.grownBy w' none):Ex w w':=⟨h.os,h.tape,h.output,h.size,λg z=>h.block g z (by simp)⟩
theorem Eg:∀(u:U),∀t∈(ak u).2,t.ow+(ak u).1.length<=u.ow/\t.rd<=u.rd:=by
 intro u
 induction u with
 | nil=>intro t h;simp [ak]at h
 | snd=>intro t h;simp [ak]at h;subst h;simp [ak]
 | rcv=>intro t h;simp [ak]at h;subst h;simp [ak]
 | tau=>intro t h;simp [ak]at h;subst h;simp [ak]
 | sum p q z G=>
  intro t h;simp only [ak]at h|-;split at h
  ·rename_i e;rw [if_pos e];have :=G t h;simp only [T.ow,T.rd];omega
  ·rename_i e;rw [if_neg e];split at h
   ·rename_i H;rw [if_pos H];have :=z t h;simp only [T.ow,T.rd];omega
   ·rename_i H;rw [if_neg H];simp at h;subst h;simp
 | par p q z G=>
  intro t h;simp only [ak,List.mem_append]at h;simp only [ak,T.ow,T.rd,List.length_append];have I:=im p;have J:=im q;rcases h with h | h
  ·have :=z t h;omega
  ·have :=G t h;omega
 | res x p z=>
  intro t h;have :=z t h;simp only [ak,T.ow,T.rd];split
  ·simp only [List.length_cons];omega
  ·omega
 | mat a b p z=>
  intro t h;simp only [ak]at h|-;split at h
  ·rename_i e;rw [if_pos e];exact z t h
  ·rename_i e;rw [if_neg e];split at h
   ·simp at h
   ·rename_i H;rw [if_neg H];simp at h;subst h;simp
 | rep p z=>
  intro t h;simp only [ak]at h|-;split at h
  ·simp at h
  ·rename_i H;rw [if_neg H];simp at h;subst h;simp
theorem Fo {p:P}{u:U}{ρ:UInt8->Nat}{σ:Nat->Nat}(h:AE ρ p σ u):u.rd=p.rd:=by
 induction p generalizing u ρ σ<;>cases u<;>simp only [AE]at h<;>simp only [T.rd]
 case snd.snd z _ _ _=>exact z h.2.2
 case mat.mat z _ _ _=>exact z h.2.2
 case rcv.rcv z _ _ _=>rw [z (h.2 0)]
 case res.res z _ _=>exact z (h 0)
 case tau.tau z _=>exact z h
 case rep.rep z _=>exact z h
 case sum.sum z G _ _=>rw [z h.1,G h.2]
 case par.par z G _ _=>rw [z h.1,G h.2]
theorem uu {l:Tx}{i:Nat}(h:i< l.length):List.drop (Int.toNat (i:Int)) (List.take (Int.toNat ((i:Int)+1)) l)=[bt l i]:=by
 have e:Int.toNat ((i:Int)+1)=i+1:=by omega
 rw [e,Int.toNat_natCast,gN h];exact List.drop_left' (by rw [List.length_take];omega)
theorem z7 {l:Tx}{i:Nat}(h:i< l.length):List.drop i (List.take (Int.toNat ((i:Int)+1)) l)=[bt l i]:=by
 have :=uu h
 rwa [Int.toNat_natCast]at this
theorem pG {l:Tx}{i:Nat}(h:i< l.length)(s:Tx):wrap (l.drop i) s=35::bt l i::46::wrap (l.drop (i+1)) s:=by
 rw [qJ h];rfl
theorem zI:∀n,Dn n:=by
 intro n
 induction n with
 | zero=>intro k p σ u Θ w bm br on R h;have :=aY p;omega
 | succ n ih=>
  have iht:uP (n+1):=Di ih;intro k p σ u Θ w bm br on R hn d hgf υ hmk h;refine ku _ _ _ w R ?_;intro b4 w5 α ν;have φ:Ex w w5:=ν▸Ex.alloc w _;have hsz5:w5.heap.size=b4+1:=by rw [ν,size_alloc,<-α]
  have hbm:bm< b4:=by rw [α];exact hmk.lt
  have hle:=d.bd.le;have hGL:GL b4 w5 b4 (gL 0) (.slice none 0 0) []:=by
   refine⟨by omega,Nat.le_refl _,?_,?_,Own.nil _ _,(λe=>by cases e),?_,?_⟩
   ·rw [ν,α];exact aa rfl
   ·rw [ν,α];exact aa rfl
   ·rw [ν,α];unfold World.frozen? World.alloc;simp
   ·rw [ν,α];unfold World.frozen? World.alloc;simp
  have hl:=d.len;have hszt:=bs p;refine Bv _ hn d hgf (by omega) hGL (by simp only [List.length_nil];omega) λw6 v6 ps χ hv6 β hps=>?_
  rw [List.nil_append,Nat.zero_add]at β;have hx6:Ex w w6:=⟨χ.os.trans φ.os,χ.tape.trans φ.tape,χ.output.trans φ.output,Nat.le_trans φ.size χ.size,λg hg=>by
   rw [χ.block g (by rw [hsz5];omega) (λhS=>by
    rcases hS with H | H
    ·omega
    ·cases H)]
   exact φ.block g hg⟩
  have hpl:=hps.1;have hmlen:=im u;rw [ze d.ae]at hmlen;have hm64:(ak u).1.length<=64:=by omega
  have hgs:=fu u;have hus:=d.ae.size;obtain⟨av,cap,hv⟩:=β.own.strs.slice;rw [List.length_map]at hv;refine⟨v6,β.c1,av,_,cap,hv,λused x w'=>Ex w6 w'/\∃i:Nat,x=i/\i<=ps.length/\jJ used/\∀c,c∈used↔∃q∈ps.take i,q.Us c,λ _ x _=>(ps.length - x).toNat,⟨Ex.refl w6,0,rfl,by omega,List.Pairwise.nil,by simp⟩,λused x w7 hI=>?_⟩;obtain⟨hx7,i,rfl,hi,hsu,hmu⟩:=hI;have W:∀i (hi:i< ps.length),∃m τ,k<=m/\Den m ps[i] τ ((ak u).2[i]'(by omega))/\(∀y,((ak u).2[i]'(by omega)).Us y->τ y=asgN (ak u).1 0 σ y)/\GF (0+(ak u).1.length) ps[i]:=λi hi=>
   hps.2 i _ _ (List.getElem?_eq_getElem hi) (List.getElem?_eq_getElem (by omega))
  refine⟨λhc=>?_,λhc=>?_⟩
  ·have hc:=of_decide_eq_true hc;have hip:i< ps.length:=by omega
   refine β.own.strs.get hx7 (i:=i) (x:=(ps[i]).text) (by omega) (by simp [hip]) ?_;obtain⟨_,_,_,dp,_⟩:=W i hip;refine nG _ (Nat.le_refl _) dp.ok λs w8 ψ hss hms=>?_
   refine iD hsu (by have :=hss.bound;omega) λs' w9 ξ hs9 hm9=>?_
   refine⟨by unfold aj;omega,⟨(hx7.trans ψ).trans ξ,i+1,by omega,by omega,hs9,λc=>?_⟩,by dsimp only;omega⟩;rw [hm9,hmu,hms,List.take_succ_eq_append_getElem hip];simp only [List.mem_append,List.mem_singleton];constructor
   ·rintro(⟨q,H,h2⟩ | H)
    ·exact⟨q,.inl H,h2⟩
    ·exact⟨_,.inr rfl,H⟩
   ·rintro⟨q,H | rfl,h2⟩
    ·exact .inl ⟨q,H,h2⟩
    ·exact .inr h2
  have hc:=of_decide_eq_false hc;have e:i=ps.length:=by omega
  subst e;rw [List.take_length]at hmu;have hGL7:=β.ex hx7;have ω:∀i,i< (ak u).1.length->gl i∈used:=λi hi=>by
   obtain⟨t,ht,hty⟩:=wQ u d.uq _ (List.getElem_mem hi);obtain⟨j,hj,e⟩:=List.mem_iff_getElem.1 ht;have hjp:j< ps.length:=by omega
   obtain⟨m,τ,_,dp,hτ,_⟩:=W j hjp;subst e;obtain⟨c,H,h2⟩:=dp.ae.symm.used dp.inj (eL _) _ hty;rw [hτ _ hty,jA _ _ _ _ hi (gg u d.uq),Nat.zero_add]at h2;have:c=gl i:=UInt8.toNat_inj.1 h2;exact(hmu _).2 ⟨_,List.getElem_mem hjp,this▸H⟩
  have hglen:=gY (ak u).1.length;refine⟨λfront i w'=>Ex w7 w'/\∃j:Nat,i=j/\j<=(ak u).1.length/\front=(gL (ak u).1.length).take j,λ _ i _=>((ak u).1.length - i).toNat,⟨Ex.refl w7,0,rfl,by omega,rfl⟩,λfront i w8 hI=>?_⟩;obtain⟨ψ,j,rfl,hj,rfl⟩:=hI;have γ:=hGL7.ex ψ;refine⟨gL (ak u).1.length,γ.c0,λhc2=>?_,λhc2=>?_⟩
  ·have hc2:=of_decide_eq_true hc2;have hj':j< (ak u).1.length:=by omega
   have hbt:bt (gL (ak u).1.length) j=gl j:=by simp [bt,gL,hj']
   refine⟨λfront w'=>Ex w7 w'/\front=(gL (ak u).1.length).take (j+1),⟨gL (ak u).1.length,γ.c0,⟨by omega,by omega⟩,?_⟩,λfront w9 hJ=>?_⟩
   ·rw [Int.toNat_natCast,hbt];refine gz (by have :=hsu.bound;omega) ⟨λ _=>⟨gL (ak u).1.length,γ.c0,by unfold aj;omega,⟨by omega,by omega,by omega⟩,?_,ψ,?_⟩,λhq=>absurd (ω j hj') (of_decide_eq_false hq)⟩
    ·rw [z7 (by omega)];simp only [List.length_take,List.length_cons,List.length_nil];omega
    ·rw [z7 (by omega),gN (by omega)]
   ·obtain⟨ξ,rfl⟩:=hJ;exact⟨by unfold aj;omega,⟨ξ,j+1,by omega,by omega,rfl⟩,by dsimp only;omega⟩
  have hc2:=of_decide_eq_false hc2;have e:j=(ak u).1.length:=by omega
  subst e;rw [show(gL (ak u).1.length).take (ak u).1.length=gL (ak u).1.length from List.take_of_length_le (by omega)];have κ:Ex w w8:=(hx6.trans hx7).trans ψ;have I:=hmk.ex κ;refine⟨v6,γ.c1,av,_,cap,hv,λο=>?_,λο=>?_⟩
  ·have ο:=of_decide_eq_true ο;have hd:=E' d.uq (List.eq_nil_of_length_eq_zero (by omega));have hm0:=(oH d.uq hd).2.2.2;refine h _ w8 (Kp.ah κ _) ?_ (WR.E7 d.uq hd);rw [hm0];simpa using I
  have ο:=of_decide_eq_false ο;have hne:(ak u).2≠[]:=λe=>ο (by rw [e]at hpl;simp only [List.length_nil]at hpl;omega)
  refine⟨λhc4=>?_,λhc4=>?_⟩
  ·have hc4:=of_decide_eq_true hc4;have hlm:5< a7 u:=by
    have :=xz d.uq;have h5:decide (5< (ak u).1.length)=true:=decide_eq_true (by omega);rw [h5,Bool.true_or]at this;exact of_decide_eq_true this
   refine⟨bm,0,rfl,⟨⟨_,I.c0⟩,I.f0⟩,λw9 hw9=>?_⟩;subst hw9;refine h _ _ (Kp.set (S:=λg=>g=bm) (Kp.ah κ _) rfl _) ?_ (WR.AO hlm);have e5:decide (5< a7 u)=true:=decide_eq_true hlm;rw [e5,Bool.or_true];exact⟨by rw [World.size_setCell];exact I.lt,World.cell?_setCell_same _ _ _ I.c0,by rw [World.cell?_setCell_other _ _ _ _ (by simp)];exact I.c1,by rw [World.frozen?_setCell];exact I.f0⟩
  have hc4:=of_decide_eq_false hc4;have hm5:(ak u).1.length<=5:=by omega
  intro b9 cap9 w9 hb9 _ hg9;have ξ:Ex w8 w9:=Ex.aQ hg9;have hx69:Ex w w9:=κ.trans ξ;refine⟨_,_,cap9,rfl,λz all x w'=>Ex w9 w'/\∃i:Nat,x=i/\i<=(ak u).1.length/\Fq k i Θ z all,λ _ _ x _=>((ak u).1.length - x).toNat,⟨Ex.refl w9,0,rfl,by omega,Fq.zero υ.srt⟩,λz all x w10 hI=>?_⟩;obtain⟨hx10,i,rfl,hi,G⟩:=hI;refine⟨λhc5=>?_,λhc5=>?_⟩
  ·have hc5:=of_decide_eq_true hc5;have hi':i< (ak u).1.length:=by omega
   have ω:∀c∈all,okn (k+i) c/\ngr c:=λc hc=>by
    rcases(G.ok.mem c).1 hc with H | H
    ·exact⟨(υ.okn c H).1.mono (by omega),(υ.okn c H).2⟩
    ·exact⟨(G.ok.ok c H).2.1,(G.ok.ok c H).2.2.1⟩
   refine iY (by have :=G.ok.srt.bound;omega) λc hc=>?_
   have hfr:vZ (k+i) all c:=vZ.of (by omega) ω hc;intro b11 ς hb11 hw11;have δ:Ex w10 ς:=hw11▸Ex.alloc w10 _;refine⟨b11,0,1,1,[c],rfl,rfl,lq _ hb11 hw11,by rw [G.ok.len];simp;omega,?_⟩;refine eX G.ok.srt λs' η hx12 hs12 hm12=>?_
   exact⟨by unfold aj;omega,⟨(hx10.trans δ).trans hx12,i+1,by omega,by omega,G.snoc hfr hs12 hm12⟩,by dsimp only;omega⟩
  have hc5:=of_decide_eq_false hc5;have e:i=(ak u).1.length:=by omega
  subst e;have hx610:Ex w w10:=hx69.trans hx10;have hls:=G.ok;refine yP 5 (by omega) (Nat.le_refl _) λv11 ς L δ ε hL hmL=>?_
  have hx611:Ex w ς:=hx610.trans δ;have θ:=hmk.ex hx611;have hLne:L≠[]:=λe=>by
   have :=(hmL (gL (ak u).1.length)).2 (List.Perm.refl _);rw [e]at this;cases this
  have hLlen:L.length<=7776:=by
   have:(6:Nat)^(gL (ak u).1.length).length<=6^5:=Nat.pow_le_pow_right (by omega) (by omega);omega
  have hLpos:0< L.length:=List.length_pos_iff.2 hLne;refine⟨λv w'=>w'=ς/\∃Lo:List Tx,Strs ς v Lo/\(∀b off n c,v= .slice (some ⟨b,off,none⟩) n c->w10.heap.size<=b)/\Lo≠[]/\Lo.length<=7776/\(∀o∈Lo,o.Perm (gL (ak u).1.length))/\(on=false->∀o,o.Perm (gL (ak u).1.length)->o∈Lo),⟨bm,0,rfl,on,θ.c1,λhon=>?_,λhon=>?_⟩,λorders η hJ=>?_⟩
  ·obtain⟨g,V,cur,hvL,hbL,_⟩:∃g cap cur,v11= .slice (some ⟨g,0,none⟩) L.length cap/\w10.heap.size<=g/\ς.heap[g]?=some cur:=by
    rcases ε.2 with⟨_,hn⟩ | ⟨g,cap,cur,e,hb,hg,_⟩
    ·omega
    ·exact⟨g,cap,_,e,hb,hg⟩
   have hcap:L.length<=V:=by
    rcases ε.2 with⟨_,hn⟩ | ⟨g',cap',cur',e,hb,hg,H,h2,h3,h4⟩
    ·omega
    ·rw [hvL]at e;cases e;exact H
   refine⟨_,_,V,hvL,by omega,by omega,by omega,rfl,L.take 1,?_,λb off n c e=>?_,?_,?_,λo J=>(hmL o).1 (List.mem_of_mem_take J),λhf=>by rw [hon]at hf;cases hf⟩
   ·have hs:=ε.strs;rw [hvL]at hs;exact hs.take (k:=1) (by omega) (by omega)
   ·have ecap:¬V=Int.toNat 0:=by show ¬V=0;omega
    rw [if_neg ecap]at e;simp [Addr.add]at e;omega
   ·match L,hLne with
    | a::l,_=>simp
   ·rw [List.length_take];omega
  ·refine⟨rfl,L,ε.strs,λb off n c e=>(ε.block b (by rw [e];rfl)).1,hLne,hLlen,λo J=>(hmL o).1 J,λ _ o J=>(hmL o).2 J⟩
  obtain⟨rfl,Lo,hsL,hbL,hLo,hLol,hLop,hLoa⟩:=hJ;have hLopos:0< Lo.length:=List.length_pos_iff.2 hLo;obtain⟨aL,V,hvL⟩:=hsL.slice;have Z:GL b4 η b4 (gL (ak u).1.length) v6 (ps.map T.text):=((γ.ex ξ).ex hx10).ex δ;have hb12:=Z.lt;have hbp:∀p∈ps,k+(ak u).1.length+p.rd+p.ow<=64:=λq hq=>by
   obtain⟨i,hi,rfl⟩:=List.mem_iff_getElem.1 hq;obtain⟨_,_,_,dp,_⟩:=W i hi;have :=Eg u _ (List.getElem_mem (show i< (ak u).2.length by omega));rw [ze dp.ae,Fo dp.ae,ze d.ae,Fo d.ae]at this;omega
  have hszp:∀p∈ps,p.size<=n+1:=λq hq=>by
   obtain⟨i,hi,rfl⟩:=List.mem_iff_getElem.1 hq;obtain⟨_,_,_,dp,_⟩:=W i hi;have :=yY u _ (List.getElem_mem (show i< (ak u).2.length by omega));rw [dp.ae.size];omega
  have htl:=e8 u;rw [nT d.ae,<-T.aT]at htl;generalize hbr:(br||(ak u).2.any λt=>decide (5< aw (tl [t])))=br' at*;refine⟨aL,_,V,hvL,λbest x w'=>∃i:Nat,x=i/\i<=Lo.length/\Kp η w' (λg=>g=bm)/\MK w' bm (if i=0 then br else br') on/\(i=0->best=[])/\(0< i->zu on σ u (Lo.take i) z all best),λ _ x _=>(Lo.length - x).toNat,⟨0,rfl,by omega,Kp.ah (Ex.refl η) _,by simpa using θ,λ _=>rfl,λh=>by omega⟩,λbest x w13 hI=>?_⟩;obtain⟨i,rfl,hi,ζ,hm13,hb0,hb1⟩:=hI;refine⟨λhc6=>?_,λhc6=>?_⟩
  ·have hc6:=of_decide_eq_true hc6;have hi':i< Lo.length:=by omega
   refine⟨λbest w'=>Kp η w' (λg=>g=bm)/\MK w' bm br' on/\zu on σ u (Lo.take (i+1)) z all best,?_,λbest' w14 hJ=>?_⟩
   ·have hsL13:Strs w13 orders Lo:=hsL.kp ζ λb off n c e hS=>by have :=hbL b off n c e;have :=θ.lt;have :=δ.size;have :=(hmk.ex hx610).lt;omega
    refine hsL13.get (Ex.refl w13) (i:=i) (x:=Lo[i]) (by omega) (by simp [hi']) ?_;have α:w13.heap[b4]?=η.heap[b4]?:=ζ.block b4 hb12 (by omega);refine⟨v6,by rw [World.cell?_of_block (w:=η) α];exact Z.c1,?_⟩;have hvt:Own b4 w13 v6 (ps.map T.text):=Z.own.kp ζ λg hg e=>by have :=(Z.own.block g hg).1;omega
    refine Ez iht d.uq hne hbp hszp υ hps hls (hLop _ (List.getElem_mem hi')) hm64 hvt hbm hm13 (by omega) λr w14 hk14 μ hr=>?_
    have ι:MK w14 bm br' on:=by
     rw [<-hbr];by_cases h0:i=0
     ·rw [if_pos h0]at μ;exact μ
     ·rw [if_neg h0,<-hbr,Bool.or_assoc,Bool.or_self]at μ;exact μ
    have hk':=Kp.trans ζ hk14 λ _ _ h=>h
    have hrne:=hr.ne hne;have tk:Lo.take (i+1)=Lo.take i++[Lo[i]]:=List.take_succ_eq_append_getElem hi';have new:(∀o∈Lo.take i,∃r',vk on σ u o z all r'/\ja r r'=true)->zu on σ u (Lo.take (i+1)) z all r:=λhh=>by
     rw [tk];refine⟨⟨Lo[i],List.mem_append_right _ (List.mem_singleton.2 rfl),hr⟩,λo J=>?_⟩;rcases List.mem_append.1 J with J | J
     ·exact hh o J
     ·have:o=Lo[i]:=by simpa using J
      subst this;exact⟨r,hr,by simp [ja]⟩
    refine⟨λhq=>⟨λG=>⟨hk',ι,?_⟩,λG=>⟨hk',ι,?_⟩⟩,λhq=>⟨hk',ι,?_⟩⟩
    ·have hi0:0< i:=by
      rcases Nat.eq_zero_or_pos i with h0 | h0
      ·exact absurd (hb0 h0) (of_decide_eq_false hq)
      ·exact h0
     rw [bytesLess_eq,decide_eq_true_eq]at G;refine new λo J=>?_
     obtain⟨r',H,h2⟩:=(hb1 hi0).le o J;exact⟨r',H,gb _ _ _ (by simp only [ja,decide_eq_true_eq];exact List.le_of_lt G) h2⟩
    ·have hi0:0< i:=by
      rcases Nat.eq_zero_or_pos i with h0 | h0
      ·exact absurd (hb0 h0) (of_decide_eq_false hq)
      ·exact h0
     rw [bytesLess_eq,decide_eq_false_iff_not]at G;have hble:ja best r=true:=by simp only [ja,decide_eq_true_eq];exact List.not_lt.1 G
     obtain⟨⟨o,H,h2⟩,h3⟩:=hb1 hi0;rw [tk];refine⟨⟨o,List.mem_append_left _ H,h2⟩,λo' J=>?_⟩;rcases List.mem_append.1 J with J | J
     ·exact h3 o' J
     ·have:o'=Lo[i]:=by simpa using J
      subst this;exact⟨r,hr,hble⟩
    ·have hq:=of_decide_eq_true hq;have hi0:i=0:=by
      rcases Nat.eq_zero_or_pos i with h0 | h0
      ·exact h0
      ·obtain⟨⟨o,H,h2⟩,_⟩:=hb1 h0;exact absurd hq (h2.ne hne)
     exact new λo J=>by rw [hi0]at J;simp at J
   ·obtain⟨j1,j2,j3⟩:=hJ;exact⟨by unfold aj;omega,⟨i+1,by omega,by omega,j1,by simpa using j2,(λh=>by omega),λ _=>j3⟩,by dsimp only;omega⟩
  have hc6:=of_decide_eq_false hc6;have e:i=Lo.length:=by omega
  subst e;have hbest:=hb1 hLopos;rw [List.take_length]at hbest;rw [if_neg (by omega)]at hm13;have hW:=WR.DG d.uq hne υ G hm64 hLop hLoa hbest;have hWl:=hW.len;rw [fw,hls.len,nT d.ae,<-T.aT]at hWl;have hll:=hls.len;refine⟨by unfold aj;omega,λb i w'=>w'=w13/\∃j:Nat,i=(j:Int) - 1/\j<=(ak u).1.length/\b=wrap (z.drop j) best,λ _ i _=>(i+1).toNat,⟨rfl,(ak u).1.length,by omega,by omega,?_⟩,λb i w14 hI=>?_⟩
  ·rw [List.drop_eq_nil_of_le (by omega)];rfl
  obtain⟨rfl,j,rfl,hj,rfl⟩:=hI;refine⟨λhc7=>?_,λhc7=>?_⟩
  ·have hc7:=of_decide_eq_true hc7;obtain⟨j,rfl⟩:∃j',j=j'+1:=⟨j - 1,by omega⟩
   have ej:((j+1:Nat):Int) - 1=(j:Int):=by omega
   rw [ej];have hjl:j< z.length:=by omega
   have hdl:(z.drop (j+1)).length<=64:=by rw [List.length_drop];omega
   rw [uu hjl];refine⟨by unfold aj;omega,⟨by omega,by omega,by omega⟩,by simp,by simp,?_,by unfold aj;omega,⟨rfl,j,rfl,by omega,?_⟩,by dsimp only;omega⟩
   ·rw [fw];simp only [List.length_append,List.length_cons,List.length_nil];omega
   ·rw [pG hjl];rfl
  ·have hc7:=of_decide_eq_false hc7;have e:j=0:=by omega
   subst e;rw [List.drop_zero];refine h _ w14 ?_ ?_ hW
   ·exact Kp.trans (Kp.ah hx611 _) ζ λ _ _ h=>h
   ·rw [xz d.uq];have h5:decide (5< (ak u).1.length)=false:=decide_eq_false (by omega);rw [h5,Bool.false_or,hbr];exact hm13
end Go.Proofs.YtdecokaadekjnaaGreat
namespace Go.Proofs.YtdecokaadekjnaaGreat
open Classical
def num:P->(UInt8->Nat)->Nat->U×Nat
 | .nil,_,n=>(.nil,n)
 | .snd a b p,e,n=>(.snd (e a) (e b) (num p e n).1,(num p e n).2)
 | .rcv a x p,e,n=>(.rcv (e a) (n+101) (num p (aD e x (n+101)) (n+1)).1,(num p (aD e x (n+101)) (n+1)).2)
 | .tau p,e,n=>(.tau (num p e n).1,(num p e n).2)
 | .sum p q,e,n=>(.sum (num p e n).1 (num q e (num p e n).2).1,(num q e (num p e n).2).2)
 | .par p q,e,n=>(.par (num p e n).1 (num q e (num p e n).2).1,(num q e (num p e n).2).2)
 | .res x p,e,n=>(.res (n+101) (num p (aD e x (n+101)) (n+1)).1,(num p (aD e x (n+101)) (n+1)).2)
 | .mat a b p,e,n=>(.mat (e a) (e b) (num p e n).1,(num p e n).2)
 | .rep p,e,n=>(.rep (num p e n).1,(num p e n).2)
theorem cS:∀(p:P) (e:UInt8->Nat) (n:Nat),n<=(num p e n).2
 | .nil,_,_=>Nat.le_refl _
 | .snd _ _ p,e,n=>cS p e n
 | .mat _ _ p,e,n=>cS p e n
 | .tau p,e,n=>cS p e n
 | .rep p,e,n=>cS p e n
 | .rcv _ x p,e,n=>by have :=cS p (aD e x (n+101)) (n+1);simp only [num];omega
 | .res x p,e,n=>by have :=cS p (aD e x (n+101)) (n+1);simp only [num];omega
 | .sum p q,e,n=>by have :=cS p e n;have :=cS q e (num p e n).2;simp only [num];omega
 | .par p q,e,n=>by have :=cS p e n;have :=cS q e (num p e n).2;simp only [num];omega
theorem AE.Fw {p:P}{u:U}{e:UInt8->Nat}{x:UInt8}{y:Nat}(he:∀c,p.Fr c->c≠x->e c≠y)(h:AE (aD e x y) p id u)(v:Nat):AE (aD e x v) p (aD id y v) u:=by
 refine(h.map λn=>if n=y then v else n).congr (λc H=>?_) λz _=>?_
 ·unfold aD;by_cases G:c=x
  ·simp [G]
  ·simp only [if_neg G];rw [if_neg (he c H G)]
 ·unfold aD;rfl
theorem fH:∀(p:P) (e:UInt8->Nat) (n:Nat),(∀c,p.Fr c->e c<=n+100)->AE e p id (num p e n).1
 | .nil,_,_,_=>trivial
 | .snd a b p,e,n,h=>⟨rfl,rfl,fH p e n λc z=>h c (.inr (.inr z))⟩
 | .mat a b p,e,n,h=>⟨rfl,rfl,fH p e n λc z=>h c (.inr (.inr z))⟩
 | .tau p,e,n,h=>fH p e n h
 | .rep p,e,n,h=>fH p e n h
 | .sum p q,e,n,h=>⟨fH p e n λc z=>h c (.inl z),fH q e _ λc z=>by have :=h c (.inr z);have :=cS p e n;omega⟩
 | .par p q,e,n,h=>⟨fH p e n λc z=>h c (.inl z),fH q e _ λc z=>by have :=h c (.inr z);have :=cS p e n;omega⟩
 | .rcv a x p,e,n,h=>⟨rfl,λv=>AE.Fw (λc z G=>by have :=h c (.inr ⟨G,z⟩);omega) (fH p _ _ λc z=>by
   unfold aD;split
   ·omega
   ·rename_i G;have :=h c (.inr ⟨G,z⟩);omega) v⟩
 | .res x p,e,n,h=>λv=>AE.Fw (λc z G=>by have :=h c ⟨G,z⟩;omega) (fH p _ _ λc z=>by
   unfold aD;split
   ·omega
   ·rename_i G;have :=h c ⟨G,z⟩;omega) v
theorem eG:∀(p:P) (e:UInt8->Nat) (n:Nat),(BV (num p e n).1).Nodup/\∀x∈BV (num p e n).1,n+100< x/\x<=(num p e n).2+100
 | .nil,_,_=>⟨List.nodup_nil,λx h=>by cases h⟩
 | .snd _ _ p,e,n=>eG p e n
 | .mat _ _ p,e,n=>eG p e n
 | .tau p,e,n=>eG p e n
 | .rep p,e,n=>eG p e n
 | .rcv _ x p,e,n=>by
  obtain⟨H,G⟩:=eG p (aD e x (n+101)) (n+1);have :=cS p (aD e x (n+101)) (n+1);refine⟨List.nodup_cons.2 ⟨λh=>by have :=G _ h;omega,H⟩,λy z=>?_⟩;simp only [num];rcases List.mem_cons.1 z with rfl | z
  ·omega
  ·have :=G y z;omega
 | .res x p,e,n=>by
  obtain⟨H,G⟩:=eG p (aD e x (n+101)) (n+1);have :=cS p (aD e x (n+101)) (n+1);refine⟨List.nodup_cons.2 ⟨λh=>by have :=G _ h;omega,H⟩,λy z=>?_⟩;simp only [num];rcases List.mem_cons.1 z with rfl | z
  ·omega
  ·have :=G y z;omega
 | .sum p q,e,n=>by
  obtain⟨H,G⟩:=eG p e n;obtain⟨I,h4⟩:=eG q e (num p e n).2;have :=cS p e n;have :=cS q e (num p e n).2;refine⟨List.nodup_append.2 ⟨H,I,λa ha b hb=>by have :=G a ha;have :=h4 b hb;omega⟩,λy z=>?_⟩;simp only [num];rcases List.mem_append.1 z with z | z
  ·have :=G y z;omega
  ·have :=h4 y z;omega
 | .par p q,e,n=>by
  obtain⟨H,G⟩:=eG p e n;obtain⟨I,h4⟩:=eG q e (num p e n).2;have :=cS p e n;have :=cS q e (num p e n).2;refine⟨List.nodup_append.2 ⟨H,I,λa ha b hb=>by have :=G a ha;have :=h4 b hb;omega⟩,λy z=>?_⟩;simp only [num];rcases List.mem_append.1 z with z | z
  ·have :=G y z;omega
  ·have :=h4 y z;omega
theorem GY (p:P)(e:UInt8->Nat)(n:Nat)(h:∀c,p.Fr c->e c<=n+100):Uq (num p e n).1:=by
 obtain⟨z,G⟩:=eG p e n;refine⟨z,λx H I=>?_⟩;obtain⟨c,J,V⟩:=(fH p e n h).symm.free x I;have W:=G x H;have h4:=h c J;have h5:e c=x:=V;omega
def e0 (c:UInt8):Nat:=c.toNat - 97
def σ0 (y:Nat):Nat:=y+97
def ρ0 (y:Nat):UInt8:=UInt8.ofNat (97+y)
theorem bn {c:UInt8}(h:lt c=true):97<=c.toNat/\c.toNat<=122:=by
 simp only [lt,Bool.and_eq_true,decide_eq_true_eq]at h;exact⟨UInt8.le_iff_toNat_le.1 h.1,UInt8.le_iff_toNat_le.1 h.2⟩
theorem ox {c:UInt8}(h:97<=c.toNat/\c.toNat<=122):lt c=true:=by
 simp only [lt,Bool.and_eq_true,decide_eq_true_eq];exact⟨UInt8.le_iff_toNat_le.2 h.1,UInt8.le_iff_toNat_le.2 h.2⟩
theorem eM {y:Nat}(h:y< 26):(ρ0 y).toNat=σ0 y:=by
 unfold ρ0 σ0;rw [UInt8.toNat_ofNat'];omega
theorem qD {p:P}(h:∀c,p.Fr c->lt c=true):AE UInt8.toNat p σ0 (num p e0 0).1/\Uq (num p e0 0).1/\(∀y,(num p e0 0).1.Fr y->y< 26)/\∀x∈BV (num p e0 0).1,26<=x:=by
 have he:∀c,p.Fr c->e0 c<=0+100:=λc z=>by have :=bn (h c z);unfold e0;omega
 have ha:=fH p e0 0 he;refine⟨(ha.map (·+97)).congr (λc z=>?_) λy _=>rfl,GY p e0 0 he,λy G=>?_,λx H=>?_⟩
 ·have :=bn (h c z);unfold e0;omega
 ·obtain⟨c,z,e⟩:=ha.symm.free y G;have :=bn (h c z);have e:e0 c=y:=e;unfold e0 at e;omega
 ·have :=(eG p e0 0).2 x H;omega
theorem ik {c:UInt8}(h:lt c=true):nm c=true:=by
 simp only [lt,nm]at*;rw [h];rfl
theorem sM {c:UInt8}(h:lt c=true):ngr c:=by
 have :=bn h;right;omega
def cW (s:Tx):Prop:=s.length<=300/\∃t:P,t.Al (λc=>lt c=true)/\t.text=s/\t.size<=60
def kh (l:Lv):Tk:=λc=>lt c&&l.has (e0 c)
noncomputable def yE (r:List Nat×Lv):Option Tx:=
 if(max r.1.length (aw r.2)<=5/\r.1.length+thAll r.2<=8)/\fc r.1.length r.2.isNil (thBad r.2) (kh r.2)=false/\cW (aP r.1 (thS r.2) ρ0 (kh r.2))then some (aP r.1 (thS r.2) ρ0 (kh r.2))else none
noncomputable def jN (u:U):Option Tx:=yE (td u)
theorem gR (u:U):jN u=if(a7 u<=5/\cE u<=8)/\di u (kh (td u).2)=false/\cW (LS u ρ0 (kh (td u).2))then some (LS u ρ0 (kh (td u).2))else none:=rfl
structure Nu (u:U):Prop where
 uq:Uq u
 fr:∀y,u.Us y->y< 26
 bv:∀x∈BV u,26<=x
theorem pe {u:U}(h:Nu u)(c:UInt8):kh (td u).2 c=true↔lt c=true/\u.Us (e0 c):=by
 unfold kh;rw [Bool.and_eq_true];refine and_congr_right λz=>fF u _ λhb=>?_
 have :=h.bv _ hb;have :=bn z;unfold e0 at*;omega
theorem Nu.Ic {u:U}(h:Nu u):ED u ρ0 (kh (td u).2):=by
 refine⟨λy G=>?_,λy z G V e=>?_⟩
 ·have H:=h.fr y G;have I:=eM H;have J:lt (ρ0 y)=true:=ox (by rw [I];unfold σ0;omega);refine⟨(pe h _).2 ⟨J,?_⟩,J⟩;have:e0 (ρ0 y)=y:=by unfold e0;rw [I];unfold σ0;omega
  rw [this];exact G
 ·have H:=eM (h.fr y G);have I:=eM (h.fr z V);rw [e,I]at H;unfold σ0 at H;omega
structure GA (u:U)(s:Tx)(t:P)(v:U):Prop where
 text:t.text=s
 ls:s=LS u ρ0 (kh (td u).2)
 ae:AE UInt8.toNat t (λy=>(ρ0 y).toNat) v
 al:t.Al λc=>lt c=true
 arr:H9 u v
 len:s.length<=300
 size:t.size<=60
 most:a7 u<=5
 all:cE u<=8
 bad:di u (kh (td u).2)=false
theorem T.Al.wf:∀{t:P},t.Al (λc=>lt c=true)->t.wf=true
 | .nil,_=>rfl
 | .snd a b p,⟨z,G,h⟩=>by simp [T.wf,ik z,ik G,T.Al.wf h]
 | .rcv a b p,⟨z,G,h⟩=>by simp [T.wf,ik z,ik G,T.Al.wf h]
 | .mat a b p,⟨z,G,h⟩=>by simp [T.wf,ik z,ik G,T.Al.wf h]
 | .tau p,h=>T.Al.wf (t:=p) h
 | .rep p,h=>T.Al.wf (t:=p) h
 | .sum p q,⟨z,G⟩=>by simp [T.wf,T.Al.wf z,T.Al.wf G]
 | .par p q,⟨z,G⟩=>by simp [T.wf,T.Al.wf z,T.Al.wf G]
 | .res x p,⟨z,h⟩=>by simp [T.wf,ik z,T.Al.wf h]
theorem T.Al.eb:∀{t:P} (k:Nat),t.Al (λc=>lt c=true)->Eb k t
 | .nil,_,_=>trivial
 | .snd a b p,k,⟨G,H,h⟩=>⟨mW G,mW H,T.Al.eb k h⟩
 | .mat a b p,k,⟨G,H,h⟩=>⟨mW G,mW H,T.Al.eb k h⟩
 | .rcv a b p,k,⟨G,H,h⟩=>⟨mW G,⟨sM H,λz I _=>(T.Al.eb k h).free z I⟩,T.Al.eb (k+1) h⟩
 | .tau p,k,h=>T.Al.eb (t:=p) k h
 | .rep p,k,h=>T.Al.eb (t:=p) k h
 | .sum p q,k,⟨G,H⟩=>⟨T.Al.eb k G,T.Al.eb k H⟩
 | .par p q,k,⟨G,H⟩=>⟨T.Al.eb k G,T.Al.eb k H⟩
 | .res x p,k,⟨G,h⟩=>⟨⟨sM G,λz I _=>(T.Al.eb k h).free z I⟩,T.Al.eb (k+1) h⟩
theorem T.Al.free {D:UInt8->Prop}:∀{t:P},t.Al D->∀z,t.Fr z->D z
 | .snd a b p,⟨H,I,h⟩,z,G=>by
  rcases G with rfl | rfl | G
  ·exact H
  ·exact I
  ·exact T.Al.free h z G
 | .mat a b p,⟨H,I,h⟩,z,G=>by
  rcases G with rfl | rfl | G
  ·exact H
  ·exact I
  ·exact T.Al.free h z G
 | .rcv a b p,⟨H,I,h⟩,z,G=>by
  rcases G with rfl | G
  ·exact H
  ·exact T.Al.free h z G.2
 | .res x p,⟨H,h⟩,z,G=>T.Al.free h z G.2
 | .tau p,h,z,G=>T.Al.free (t:=p) h z G
 | .rep p,h,z,G=>T.Al.free (t:=p) h z G
 | .sum p q,⟨H,I⟩,z,G=>G.elim (T.Al.free H z) (T.Al.free I z)
 | .par p q,⟨H,I⟩,z,G=>G.elim (T.Al.free H z) (T.Al.free I z)
theorem Da {u:U}(h:Nu u){s:Tx}(z:jN u=some s):∃t v,GA u s t v:=by
 rw [gR]at z;split at z
 ·rename_i J;obtain⟨⟨V,W⟩,G,h4,Z,h5,h6,h7⟩:=J;cases z;obtain⟨t,v,H,k2,I,k4⟩:=arr u.size u ρ0 _ (Nat.le_refl _) h.uq h.Ic G;have:t=Z:=dZ I.wf h5.wf (H.trans h6.symm);subst this;exact⟨t,v,H,rfl,k2,I,k4,h4,h7,V,W,G⟩
 ·cases z
end Go.Proofs.YtdecokaadekjnaaGreat
namespace Go.Proofs.YtdecokaadekjnaaGreat
open Go Go.RowKit
theorem iB:∀{t:P},t.lw=true↔t.Al λc=>lt c=true
 | .nil=>by simp [T.lw,T.Al]
 | .snd a b p=>by simp [T.lw,T.Al,iB (t:=p),and_assoc]
 | .rcv a b p=>by simp [T.lw,T.Al,iB (t:=p),and_assoc]
 | .mat a b p=>by simp [T.lw,T.Al,iB (t:=p),and_assoc]
 | .tau p=>by simp [T.lw,T.Al,iB (t:=p)]
 | .rep p=>by simp [T.lw,T.Al,iB (t:=p)]
 | .res x p=>by simp [T.lw,T.Al,iB (t:=p)]
 | .sum p q=>by simp [T.lw,T.Al,iB (t:=p),iB (t:=q)]
 | .par p q=>by simp [T.lw,T.Al,iB (t:=p),iB (t:=q)]
theorem kY {s:Tx}:(∃t:P,Good t/\t.text=s)↔cW s:=by
 constructor
 ·rintro⟨t,h,rfl⟩
  exact⟨h.len,t,iB.1 h.lw,rfl,h.size⟩
 ·rintro⟨h,t,z,rfl,G⟩
  exact⟨t,⟨iB.2 z,h,G⟩,rfl⟩
theorem yO {s:Tx}(h:cW s):∀c∈s,¬128<=c:=by
 obtain⟨t,z,rfl⟩:=kY.2 h;intro c G;have :=List.all_eq_true.1 (iZ z.lw).2 c G;simp only [dF,Bool.not_eq_true',Bool.or_eq_false_iff,decide_eq_false_iff_not]at this;exact this.2
theorem GH {p:Tx}(H:p.length<=1099511627776){w:World}{R:ay->Bool->World->Prop}(h:∀w',Ex w w'->(cW p->R p true w')/\(¬cW p->R [] false w')):Calls Tryz.prog 190 #[.string (ab p)] w (ax [.s,.b] R):=by
 refine vA p w R ?_;refine De H λb w' G hb=>⟨λz=>(h w' G).2 λI=>?_,λz=>(h w' G).1 (kY.1 (hb.1 (by simpa using z)))⟩
 have :=hb.2 (kY.2 I);rw [this]at z;cases z
structure oC (k:Nat)(p:P)(σ:Nat->Nat)(u:U):Prop where
 den:Den k p σ u
 gf:GF 0 p
 nu:Nu u
 σ:∀y,u.Us y->σ y=σ0 y
theorem oC.lt {k:Nat}{p:P}{σ:Nat->Nat}{u:U}(d:oC k p σ u):(∀c,p.Us c->lt c=true/\u.Us (e0 c))/\∀y,u.Us y->p.Us (ρ0 y):=by
 constructor
 ·intro c I;obtain⟨y,z,G⟩:=d.den.ae.used (eL p) d.den.inj c I;have J:=d.nu.fr y z;rw [d.σ y z]at G;unfold σ0 at G;have:e0 c=y:=by unfold e0;omega
  exact⟨ox (by omega),this▸z⟩
 ·intro y H;obtain⟨c,z,G⟩:=d.den.ae.symm.used d.den.inj (eL p) y H;have:c=ρ0 y:=UInt8.toNat_inj.1 (by rw [eM (d.nu.fr y H),G,d.σ y H]);exact this▸z
theorem oC.tk {k:Nat}{p:P}{σ:Nat->Nat}{u:U}(d:oC k p σ u){s:Tx}(hm:∀c,c∈s↔p.Us c):cH s=kh (td u).2:=by
 funext c
 rw [Bool.eq_iff_iff,pe d.nu];unfold cH;rw [decide_eq_true_eq,hm];refine⟨d.lt.1 c,fun⟨z,G⟩=>?_⟩;have :=d.lt.2 _ G;have e:ρ0 (e0 c)=c:=by
  have :=bn z;apply UInt8.toNat_inj.1;unfold ρ0 e0;rw [UInt8.toNat_ofNat'];omega
 rwa [e]at this
theorem oC.Hj {k:Nat}{p:P}{σ:Nat->Nat}{u:U}(d:oC k p σ u){s:Tx}(H:jJ s)(hm:∀c,c∈s↔p.Us c):uz k s σ u:=by
 refine⟨H,λc G=>⟨d.den.bd.eb.free c (T.bz ((hm c).1 G)),?_⟩,λy z=>?_⟩
 ·have :=bn (d.lt.1 c ((hm c).1 G)).1;right;omega
 ·refine⟨ρ0 y,(hm _).2 (d.lt.2 y z),?_⟩;rw [eM (d.nu.fr y z),d.σ y z]
theorem Gz {k:Nat}{p:P}{σ:Nat->Nat}{u:U}(d:oC k p σ u){w:World}{R:ay->Bool->World->Prop}
  (h:∀w',Ex w w'->(¬(a7 u<=5/\cE u<=8)->R [] false w')/\∀s out,(a7 u<=5/\cE u<=8)->cH s=kh (td u).2->WR false u σ s out->R out true w'):
  Calls Tryz.prog 189 #[.string (ab p.text)] w (ax [.s,.b] R):=by
 refine uv _ w R ?_;intro b2 w3 hb2 ξ;have hx3:Ex w w3:=ξ▸Ex.alloc w _;have mk:∀{wx wy:World} {b:Nat} (x:Bool),b=wx.heap.size->wy=wx.alloc (.cells #[.bool false,.bool x] 233)->MK wy b false x:=by
  rintro wx wy b x rfl rfl
  refine⟨by rw [size_alloc];omega,aa rfl,aa rfl,?_⟩;unfold World.frozen? World.alloc;simp
 have hm3:=mk true hb2 ξ;refine nG _ (Nat.le_refl _) d.den.ok λs w5 ο hss hms=>?_
 refine zI _ (Nat.le_refl _) d.den d.gf (d.Hj hss hms) (hm3.ex ο) λr w7 V hm7 hr=>?_
 have G:Ex w w5:=hx3.trans ο;have hx7:Ex w w7:=⟨V.os.trans G.os,V.tape.trans G.tape,V.output.trans G.output,Nat.le_trans G.size V.size,λg hg=>by
  rw [V.block g (Nat.lt_of_lt_of_le hg G.size) (by omega)];exact G.block g hg⟩
 intro b8 γ ς hb8 hbr δ;have I:Ex w ς:=hx7.trans (Ex.aQ δ);have hrl:=hr.le d.den;have hlen:=d.den.len;obtain⟨cur,lo,hi,υ,ν,hle,_⟩:=hbr;refine⟨_,_,γ,rfl,λown x w'=>w'=ς/\∃i:Nat,x=i/\i<=r.length/\own=((r.take i).count 35:Nat),λ _ x _=>(r.length - x).toNat,⟨rfl,0,rfl,by omega,by simp⟩,λown x α hI=>?_⟩;obtain⟨rfl,i,rfl,hi,rfl⟩:=hI;refine⟨λhc=>?_,λhc=>?_⟩
 ·have hc:=of_decide_eq_true hc;have W:i< r.length:=by omega
  have ε:(r.take i).count 35<=i:=Nat.le_trans (List.count_le_length ..) (by rw [List.length_take];omega);refine⟨b8,0,_,γ,rfl,by omega,by omega,bt r i,?_,λJ=>?_,λJ=>?_⟩
  ·unfold World.cell?;simp only [υ,Int.toNat_natCast,Nat.zero_add,Nat.mul_one];have e:=congrArg (λl=>l[i]?) ν;simp only [dz,List.getElem?_map]at e;rw [List.getElem?_take,if_pos W]at e;simp only [List.getElem?_eq_getElem W,Option.map_some]at e;simpa [bt,W]using e
  ·have J:=of_decide_eq_true J;have e:(r.take (i+1)).count 35=(r.take i).count 35+1:=by
    rw [gN W,List.count_append,J];simp
   exact⟨by unfold aj;omega,by unfold aj;omega,⟨rfl,i+1,by omega,by omega,by rw [e];omega⟩,by dsimp only;omega⟩
  ·have J:=of_decide_eq_false J;have e:(r.take (i+1)).count 35=(r.take i).count 35:=by
    rw [gN W,List.count_append,bf J];simp
   exact⟨by unfold aj;omega,⟨rfl,i+1,by omega,by omega,by rw [e]⟩,by dsimp only;omega⟩
 have hc:=of_decide_eq_false hc;have e:i=r.length:=by omega
 subst e;rw [List.take_length];have ζ:=hm7.ex (Ex.aQ δ);rw [Bool.false_or]at ζ;refine⟨decide (5< a7 u),ζ.c0,λJ=>?_,λJ=>?_⟩
 ·have J:=of_decide_eq_false J;have ε:=hr.cnt (by omega);rw [ε];refine⟨λZ=>?_,λZ=>?_⟩
  ·have Z:=of_decide_eq_true Z;exact(h α I).1 (by omega)
  ·have Z:=of_decide_eq_false Z;intro b25 w26 φ η;have χ:Ex α w26:=η▸Ex.alloc α _;have ψ:=mk false φ η;refine nG _ (Nat.le_refl _) d.den.ok λs' w28 θ ω ι=>?_
   refine zI _ (Nat.le_refl _) d.den d.gf (d.Hj ω ι) (ψ.ex θ) λr' β H κ hr'=>?_
   have z:Ex w w28:=(I.trans χ).trans θ;have hsz:=I.size;have hx30:Ex w β:=⟨H.os.trans z.os,H.tape.trans z.tape,H.output.trans z.output,Nat.le_trans z.size H.size,λg hg=>by
    rw [H.block g (Nat.lt_of_lt_of_le hg z.size) (by omega)];exact z.block g hg⟩
   have hb:decide (5< a7 u)=false:=decide_eq_false (by omega);rw [hb,Bool.or_self]at κ;refine⟨λw'=>Ex β w',λjV μ=>⟨μ▸Ex.drew β,false,λw' hw'=>(κ.ex hw').c0,?_⟩⟩;exact(h jV (hx30.trans (μ▸Ex.drew β))).2 s' r' ⟨by omega,by omega⟩ (d.tk ι) hr'
 ·have J:=of_decide_eq_true J;exact(h α I).1 (by omega)
theorem yV {k:Nat}{p:P}{σ:Nat->Nat}{u:U}(d:oC k p σ u){w:World}{R:ay->Bool->World->Prop}
  (h:∀w',Ex w w'->(∀s,jN u=some s->R s true w')/\(jN u=none->R [] false w')):
  Calls Tryz.prog 150 #[.string (ab p.text)] w (ax [.s,.b] R):=by
 refine vw _ w R ?_;refine Gz d λw' hx=>⟨λhn=>⟨λ _=>(h w' hx).2 ?_,λV=>by cases V⟩,λs out hb G hr=>⟨λV=>(by cases V),λ _=>?_⟩⟩
 ·rw [gR,if_neg λJ=>hn J.1]
 ·have hlen:=d.den.len;have β:=hr.le d.den;refine GH (by omega) λw2 W=>?_
  have Z:Compat ρ0 σ u:=λy hy=>by rw [eM (d.nu.fr y hy),d.σ y hy]
  have H:=h w2 (hx.trans W);cases z:di u (kh (td u).2)with
  | true=>
   obtain⟨c,h1,h2⟩:=hr.bad hb.1 rfl (by rw [G];exact z);have α:¬cW out:=λI=>yO I c h1 h2
   refine⟨λI=>absurd I α,λ _=>H.2 ?_⟩;rw [gR,if_neg λJ=>by rw [z]at J;cases J.2.1]
  | false=>
   have e:=hr.eq hb.1 rfl (by rw [G];exact z) ρ0 Z;rw [G]at e;subst e;refine⟨λI=>H.1 _ ?_,λI=>H.2 ?_⟩
   ·rw [gR,if_pos ⟨hb,z,I⟩]
   ·rw [gR,if_neg λJ=>I J.2.2]
end Go.Proofs.YtdecokaadekjnaaGreat
namespace Go.Proofs.YtdecokaadekjnaaGreat
open Go
set_option maxRecDepth 100000
theorem lW (z:Value)(w:World)(R:UInt8->World->Prop)(h:bJ w λS2 V=>az z λb4 o5=>jQ S2 b4 (o5+1) λn6=>az z λb7 o8=>jO S2 b7 (o8+0) λs9=>ai (decide ((s9.length:Int)<=n6)) (az z λb10 W=>bj V b10 (W+2) (.bool true) λZ=>R 0 Z) (az z λα β=>oI V α (β+1) λH=>aj (H+1)/\az z λγ δ=>bj V γ (δ+1) (.int .i64 (H+1)) λε=>bJ ε λI ζ=>az z λη θ=>jO I η (θ+0) λJ=>az z λι κ=>jQ I ι (κ+1) λG=>aj (G - 1)/\(0<=((G - 1):Int)/\((G - 1):Int)< J.length)/\R ((bt J (Int.toNat (G - 1)))) ζ)):
  Calls Tryz.prog 207 #[z] w (ax [.c] R):=
 bc (a8 [] [] [1,5]) [.tmp 2 .c] [.v z] Tryz.func207 (by kernel_rfl) h
theorem pA (c1:UInt8)(w:World)(R:Bool->World->Prop)(h:ai (decide (97<=c1)) (R ((decide (c1<=122))) w) (R false w)):
  Calls Tryz.prog 128 #[(.int .u8 c1.toNat)] w (ax [.b] R):=
 bc (a8 [] [] []) [.tmp 2 .b] [.c c1] Tryz.func128 (by kernel_rfl) h
theorem ma (z:Value)(w:World)(R:UInt8->World->Prop)(h:gJ 207 #[z] w λc2 H=>bT 128 #[(.int .u8 c2.toNat)] H λI G=>ai (!I) (az z λb6 J=>bj G b6 (J+2) (.bool true) λV=>R c2 V) (R c2 G)):
  Calls Tryz.prog 208 #[z] w (ax [.c] R):=
 bc (a8 [] [] []) [.tmp 2 .c] [.v z] Tryz.func208 (by kernel_rfl) h
theorem mg (z:Value)(c2:UInt8)(w:World)(R:World->Prop)(h:gJ 207 #[z] w λc3 G=>ai (!decide (c3=c2)) (az z λb5 H=>bj G b5 (H+2) (.bool true) λI=>R I) (R G)):
  Calls Tryz.prog 209 #[z,(.int .u8 c2.toNat)] w (ax [] R):=
 bc (a8 [] [] []) [] [.v z,.c c2] Tryz.func209 (by kernel_rfl) h
theorem mv (z:Value)(w:World)(R:Value->World->Prop)(h:aR w (.cells #[(.int .u8 (UInt8.toNat 48)),(.int .u8 (UInt8.toNat 0)),(.int .u8 (UInt8.toNat 0)),(.slice none 0 0)] 136) λb2 w3=>az z λb4 o5=>AN w3 b4 (o5+2) λq6=>ai q6 (R ((.pointer (some ⟨b2,0,none⟩))) w3) (gJ 207 #[z] w3 λJ w8=>ai (decide (J=48)) (R ((.pointer (some ⟨b2,0,none⟩))) w8) (bT 128 #[(.int .u8 J.toNat)] w8 λq9 I=>ai q9 (gJ 207 #[z] I λc11 w12=>bj w12 b2 1 (.int .u8 J.toNat) λw14=>bj w14 b2 0 (.int .u8 c11.toNat) λV=>fK V b2 0 λc17=>ai (!decide (c17=33)) (fK V b2 0 λc18=>ai (!decide (c18=63)) (az z λb19 o20=>bj V b19 (o20+2) (.bool true) λw22=>gJ 208 #[z] w22 λc23 w24=>bj w24 b2 2 (.int .u8 c23.toNat) λw26=>fC 209 #[z,(.int .u8 (UInt8.toNat 46))] w26 λw27=>cd 166 #[z] w27 λv28 w29=>oneV v28=true/\aR w29 (.cells #[v28] 88) λb30 w31=>oneV (.slice (some ⟨b30,0,none⟩) 1 1)=true/\bj w31 b2 3 (.slice (some ⟨b30,0,none⟩) 1 1) λw33=>R ((.pointer (some ⟨b2,0,none⟩))) w33) (gJ 208 #[z] V λc34 w35=>bj w35 b2 2 (.int .u8 c34.toNat) λw37=>fC 209 #[z,(.int .u8 (UInt8.toNat 46))] w37 λw38=>cd 166 #[z] w38 λζ w40=>oneV ζ=true/\aR w40 (.cells #[ζ] 88) λη w42=>oneV (.slice (some ⟨η,0,none⟩) 1 1)=true/\bj w42 b2 3 (.slice (some ⟨η,0,none⟩) 1 1) λw44=>R ((.pointer (some ⟨b2,0,none⟩))) w44)) (gJ 208 #[z] V λc45 w46=>bj w46 b2 2 (.int .u8 c45.toNat) λw48=>fC 209 #[z,(.int .u8 (UInt8.toNat 46))] w48 λw49=>cd 166 #[z] w49 λθ w51=>oneV θ=true/\aR w51 (.cells #[θ] 88) λι w53=>oneV (.slice (some ⟨ι,0,none⟩) 1 1)=true/\bj w53 b2 3 (.slice (some ⟨ι,0,none⟩) 1 1) λw55=>R ((.pointer (some ⟨b2,0,none⟩))) w55)) (ai (decide (J=126)) (bj I b2 0 (.int .u8 J.toNat) λw57=>fC 209 #[z,(.int .u8 (UInt8.toNat 46))] w57 λw58=>cd 166 #[z] w58 λv59 w60=>oneV v59=true/\aR w60 (.cells #[v59] 88) λκ w62=>oneV (.slice (some ⟨κ,0,none⟩) 1 1)=true/\bj w62 b2 3 (.slice (some ⟨κ,0,none⟩) 1 1) λw64=>R ((.pointer (some ⟨b2,0,none⟩))) w64) (ai (decide (J=35)) (gJ 208 #[z] I λc65 w66=>bj w66 b2 0 (.int .u8 J.toNat) λw68=>bj w68 b2 2 (.int .u8 c65.toNat) λw70=>fC 209 #[z,(.int .u8 (UInt8.toNat 46))] w70 λw71=>cd 166 #[z] w71 λv72 w73=>oneV v72=true/\aR w73 (.cells #[v72] 88) λμ w75=>oneV (.slice (some ⟨μ,0,none⟩) 1 1)=true/\bj w75 b2 3 (.slice (some ⟨μ,0,none⟩) 1 1) λw77=>R ((.pointer (some ⟨b2,0,none⟩))) w77) (ai (decide (J=91)) (gJ 208 #[z] I λc78 w79=>bj w79 b2 0 (.int .u8 (UInt8.toNat 61)) λw81=>bj w81 b2 1 (.int .u8 c78.toNat) λw83=>fC 209 #[z,(.int .u8 (UInt8.toNat 61))] w83 λw84=>gJ 208 #[z] w84 λc85 w86=>bj w86 b2 2 (.int .u8 c85.toNat) λw88=>fC 209 #[z,(.int .u8 (UInt8.toNat 93))] w88 λw89=>cd 166 #[z] w89 λν w91=>oneV ν=true/\aR w91 (.cells #[ν] 88) λξ w93=>oneV (.slice (some ⟨ξ,0,none⟩) 1 1)=true/\bj w93 b2 3 (.slice (some ⟨ξ,0,none⟩) 1 1) λw95=>R ((.pointer (some ⟨b2,0,none⟩))) w95) (ai (decide (J=42)) (bj I b2 0 (.int .u8 J.toNat) λw97=>cd 166 #[z] w97 λο w99=>oneV ο=true/\aR w99 (.cells #[ο] 88) λW ς=>oneV (.slice (some ⟨W,0,none⟩) 1 1)=true/\bj ς b2 3 (.slice (some ⟨W,0,none⟩) 1 1) λυ=>R ((.pointer (some ⟨b2,0,none⟩))) υ) (ai (decide (J=40)) (cd 166 #[z] I λG φ=>gJ 207 #[z] φ λχ ψ=>bj ψ b2 0 (.int .u8 χ.toNat) λH=>fK H b2 0 λω=>ai (!decide (ω=43)) (fK H b2 0 λc111=>ai (!decide (c111=38)) (az z λb112 o113=>bj H b112 (o113+2) (.bool true) λw115=>cd 166 #[z] w115 λZ w117=>oneV G=true/\oneV Z=true/\aR w117 (.cells #[G,Z] 88) λα w119=>oneV (.slice (some ⟨α,0,none⟩) 2 2)=true/\bj w119 b2 3 (.slice (some ⟨α,0,none⟩) 2 2) λw121=>fC 209 #[z,(.int .u8 (UInt8.toNat 41))] w121 λw122=>R ((.pointer (some ⟨b2,0,none⟩))) w122) (cd 166 #[z] H λβ w124=>oneV G=true/\oneV β=true/\aR w124 (.cells #[G,β] 88) λγ w126=>oneV (.slice (some ⟨γ,0,none⟩) 2 2)=true/\bj w126 b2 3 (.slice (some ⟨γ,0,none⟩) 2 2) λw128=>fC 209 #[z,(.int .u8 (UInt8.toNat 41))] w128 λw129=>R ((.pointer (some ⟨b2,0,none⟩))) w129)) (cd 166 #[z] H λv130 w131=>oneV G=true/\oneV v130=true/\aR w131 (.cells #[G,v130] 88) λδ w133=>oneV (.slice (some ⟨δ,0,none⟩) 2 2)=true/\bj w133 b2 3 (.slice (some ⟨δ,0,none⟩) 2 2) λw135=>fC 209 #[z,(.int .u8 (UInt8.toNat 41))] w135 λw136=>R ((.pointer (some ⟨b2,0,none⟩))) w136)) (az z λb137 o138=>bj I b137 (o138+2) (.bool true) λw140=>cd 166 #[z] w140 λv141 w142=>oneV v141=true/\aR w142 (.cells #[v141] 88) λε w144=>oneV (.slice (some ⟨ε,0,none⟩) 1 1)=true/\bj w144 b2 3 (.slice (some ⟨ε,0,none⟩) 1 1) λw146=>R ((.pointer (some ⟨b2,0,none⟩))) w146))))))))):
  Calls Tryz.prog 166 #[z] w (ax [.v] R):=
 bc (a8 [] [] []) [.tmp 2 .v] [.v z] Tryz.func166 (by kernel_rfl) h
theorem ta (s1:ay)(w:World)(R:Value->Bool->World->Prop)(h:aR w (.cells #[(.string (ab s1)),(.int .i64 0),(.bool false)] 181) λb2 H=>cd 166 #[(.pointer (some ⟨b2,0,none⟩))] H λv4 I=>bJ I λz G=>H4 z b2 2 λJ=>ai (!J) (jQ z b2 1 λV=>R v4 ((decide (V=(s1.length:Int)))) G) (R v4 false G)):
  Calls Tryz.prog 123 #[(.string (ab s1))] w (ax [.v,.b] R):=
 bc (a8 [] [] [3]) [.tmp 2 .v,.tmp 3 .b] [.s s1] Tryz.func123 (by kernel_rfl) h
theorem nN (t1:Value)(w:World)(R:Int->World->Prop)(h:az t1 λb2 o3=>aU w b2 (o3+3) λv4=>bL v4 λl6=>BX 1 0 w λI8 Z n10 z G=>ai (decide (z< (l6:Int))) (aK v4 z λJ V=>aU G J (V+z.toNat* 1) λW=>iw 124 #[W] G λH I=>aj (n10+H)/\aj (z+1)/\I8 (n10+H) (z+1) I/\Z (n10+H) (z+1) I< Z n10 z G) (R n10 G)):
  Calls Tryz.prog 124 #[t1] w (ax [.i] R):=
 bc (a8 [(3,[(3,.i),(11,.i)])] [] []) [.tmp 2 .i] [.v t1] Tryz.func124 (by kernel_rfl) h
theorem uG (z:ay)(w:World)(R:Value->Bool->World->Prop)(h:ai (decide (300< (z.length:Int))) (R (.pointer none) false w) (mw 123 #[(.string (ab z))] w λv2 H G=>ai H (iw 124 #[v2] G λn5 I=>R v2 ((decide (n5<=60))) I) (R v2 false G))):
  Calls Tryz.prog 79 #[(.string (ab z))] w (ax [.v,.b] R):=
 bc (a8 [] [] []) [.tmp 2 .v,.tmp 3 .b] [.s z] Tryz.func79 (by kernel_rfl) h
theorem nW (z:ay)(w:World)(R:Bool->World->Prop)(h:mw 79 #[(.string (ab z))] w λv2 G H=>R G H):
  Calls Tryz.prog 238 #[(.string (ab z))] w (ax [.b] R):=
 bc (a8 [] [] []) [.tmp 2 .b] [.s z] Tryz.func238 (by kernel_rfl) h
theorem nk (t1:Value)(w:World)(R:Bool->World->Prop)(h:az t1 λb2 z=>fK w b2 (z+0) λc4=>gF (decide (c4=63)) (az t1 λb5 G=>fK w b5 (G+0) λH=>R ((decide (H=35))) w) (R true w)):
  Calls Tryz.prog 129 #[t1] w (ax [.b] R):=
 bc (a8 [] [] []) [.tmp 2 .b] [.v t1] Tryz.func129 (by kernel_rfl) h
theorem ng (G:Value)(c2:Value)(c3:Value)(w:World)(R:World->Prop)(h:az c2 λb4 o5=>AN w b4 o5 λq6=>ai q6 (az c3 λb7 o8=>aU w b7 o8 λv9=>∃(f10:Nat) (z:List Value),v9= .func (.func f10) #[] (List.toArray z)/\List.contains dy f10=true/\bT f10 (List.toArray ([G]++z)) w λH I=>az c2 λJ V=>bj I J V (.bool H) λW=>R W) (az c2 λb18 Z=>bj w b18 Z (.bool false) λα=>R α)):
  Calls Tryz.prog 170 #[G,c2,c3] w (ax [] R):=
 bc (a8 [] [] []) [] [.v G,.v c2,.v c3] Tryz.func170 (by kernel_rfl) h
theorem nz (t1:Value)(d2:Value)(w:World)(R:World->Prop)(h:∃(f3:Nat) (c4:List Value),d2= .func (.func f3) #[] (List.toArray c4)/\List.contains dy f3=true/\fC f3 (List.toArray ([t1]++c4)) w λZ=>az t1 λb6 o7=>aU Z b6 (o7+3) λv8=>bL v8 λJ=>fZ 0 Z λV H z G=>ai (decide (z< (J:Int))) (aK v8 z λb16 W=>aU G b16 (W+z.toNat* 1) λv20=>fC 169 #[v20,d2] G λI=>aj (z+1)/\V (z+1) I/\H (z+1) I< H z G) (R G)):
  Calls Tryz.prog 169 #[t1,d2] w (ax [] R):=
 bc (a8 [(2,[(14,.i)])] [] []) [] [.v t1,.v d2] Tryz.func169 (by kernel_rfl) h
theorem pq (t1:Value)(z:Value)(w:World)(R:Bool->World->Prop)(h:oneV z=true/\aR w (.cells #[z] 137) λb3 I=>aR I (.cells #[(.bool false)] 4) λb5 J=>bj J b5 0 (.bool true) λV=>fC 169 #[t1,(Value.func (Fn.func 170) #[] #[(.pointer (some ⟨b5,0,none⟩)),(.pointer (some ⟨b3,0,none⟩))])] V λH=>AN H b5 0 λG=>R G H):
  Calls Tryz.prog 126 #[t1,z] w (ax [.b] R):=
 bc (a8 [] [] []) [.tmp 4 .b] [.v t1,.v z] Tryz.func126 (by kernel_rfl) h
theorem jF (G:Value)(w:World)(R:Bool->World->Prop)(h:az G λb2 o3=>fK w b2 (o3+0) λc4=>gF (!decide (c4=43)) (az G λb5 o6=>aU w b5 (o6+3) λv7=>aK v7 0 λb8 o9=>aU w b8 (o9+Int.toNat 0* 1) λv12=>az v12 λH I=>fK w H (I+0) λJ=>iw 168 #[(.string (ab [33,63,126,43,48])),(.int .u8 J.toNat)] w λV z=>ai (decide (0<=V)) (az G λb18 W=>aU z b18 (W+3) λv20=>aK v20 1 λZ α=>aU z Z (α+Int.toNat 1* 1) λβ=>az β λγ δ=>fK z γ (δ+0) λε=>iw 168 #[(.string (ab [33,63,126,43,48])),(.int .u8 ε.toNat)] z λζ η=>R ((decide (0<=ζ))) η) (R false z)) (R true w)):
  Calls Tryz.prog 167 #[G] w (ax [.b] R):=
 bc (a8 [] [] []) [.tmp 2 .b] [.v G] Tryz.func167 (by kernel_rfl) h
theorem kV (t1:Value)(w:World)(R:Bool->World->Prop)(h:bT 126 #[t1,(Value.func (Fn.func 167) #[] #[])] w λz G=>R z G):
  Calls Tryz.prog 125 #[t1] w (ax [.b] R):=
 bc (a8 [] [] []) [.tmp 2 .b] [.v t1] Tryz.func125 (by kernel_rfl) h
theorem jR (z:Value)(w:World)(R:Bool->World->Prop)(h:az z λb2 J=>fK w b2 (J+0) λc4=>gF (!decide (c4=42)) (az z λb5 V=>aU w b5 (V+3) λW=>aK W 0 λZ o9=>aU w Z (o9+Int.toNat 0* 1) λv12=>az v12 λG H=>fK w G (H+0) λI=>R ((decide (I=63))) w) (R true w)):
  Calls Tryz.prog 127 #[z] w (ax [.b] R):=
 bc (a8 [] [] []) [.tmp 2 .b] [.v z] Tryz.func127 (by kernel_rfl) h
theorem my (t1:Value)(w:World)(R:Bool->World->Prop)(h:bT 125 #[t1] w λG z=>ai G (bT 126 #[t1,(Value.func (Fn.func 127) #[] #[])] z λH I=>R H I) (R false z)):
  Calls Tryz.prog 80 #[t1] w (ax [.b] R):=
 bc (a8 [] [] []) [.tmp 2 .b] [.v t1] Tryz.func80 (by kernel_rfl) h
theorem mQ (z:ay)(w:World)(R:Value->Bool->World->Prop)(h:mw 79 #[(.string (ab z))] w λv2 H G=>ai H (bT 80 #[v2] G λI J=>R v2 I J) (R v2 false G)):
  Calls Tryz.prog 67 #[(.string (ab z))] w (ax [.v,.b] R):=
 bc (a8 [] [] []) [.tmp 2 .v,.tmp 3 .b] [.s z] Tryz.func67 (by kernel_rfl) h
end Go.Proofs.YtdecokaadekjnaaGreat
namespace Go.Proofs.YtdecokaadekjnaaGreat
open Go Go.RowKit
abbrev ptr (b:Nat):Value:= .pointer (some ⟨b,0,none⟩)
def ee (D:Nat->Prop)(w:World)(v:Value)(l:List Value):Prop:=
 (v= .slice none 0 0/\l=[])\/∃b off cap,v= .slice (some ⟨b,off,none⟩) l.length cap/\D b/\b< w.heap.size/\∀i x,l[i]?=some x->w.cell? ⟨b,off+i,none⟩=some x
theorem ee.kp {D S:Nat->Prop}{w w':World}{v:Value}{l:List Value}(h:ee D w v l)(k:Kp w w' S)(H:∀g,D g->¬S g):ee D w' v l:=by
 rcases h with h | ⟨b,off,cap,I,z,G,h4⟩
 ·exact .inl h
 ·refine .inr ⟨b,off,cap,I,z,Nat.lt_of_lt_of_le G k.size,λi x J=>?_⟩;rw [World.cell?_of_block (w:=w) (k.block b G (H b z))];exact h4 i x J
theorem ee.mono {D E:Nat->Prop}{w:World}{v:Value}{l:List Value}(h:ee D w v l)(hd:∀g,D g->E g):ee E w v l:=by
 rcases h with h | ⟨b,off,cap,z,G,H,h4⟩
 ·exact .inl h
 ·exact .inr ⟨b,off,cap,z,hd b G,H,h4⟩
theorem ee.slice {D:Nat->Prop}{w:World}{v:Value}{l:List Value}(h:ee D w v l):∃a cap,v= .slice a l.length cap:=by
 rcases h with⟨h,rfl⟩ | ⟨b,off,cap,z,_⟩
 ·exact⟨_,_,h⟩
 ·exact⟨_,_,z⟩
theorem ee.get {D:Nat->Prop}{w:World}{v:Value}{l:List Value}(h:ee D w v l){i:Int}{x:Value}(G:0<=i)(z:l[i.toNat]?=some x){Q:Value->Prop}(H:Q x):
  ∃(b o len cap:Nat),v=Value.slice (some ⟨b,o,none⟩) len cap/\0<=i/\i< (len:Int)/\∃s:Value,World.cell? w ⟨b,o+Int.toNat i* 1,none⟩=some s/\Q s:=by
 obtain⟨I,e⟩:=List.getElem?_eq_some_iff.1 z;rcases h with⟨h,rfl⟩ | ⟨b,off,cap,J,V,W,h4⟩
 ·simp at I
 ·exact⟨b,off,l.length,cap,J,G,by omega,x,by rw [Nat.mul_one];exact h4 _ _ z,H⟩
def eU (D:Nat->Prop)(w:World)(v:Value)(k a c:UInt8)(K:List Value->Prop):Prop:=
 ∃b vs l,v=ptr b/\D b/\b< w.heap.size/\w.cell? ⟨b,0,none⟩=some (.int .u8 k.toNat)/\w.cell? ⟨b,1,none⟩=some (.int .u8 a.toNat)/\w.cell? ⟨b,2,none⟩=some (.int .u8 c.toNat)/\
  w.cell? ⟨b,3,none⟩=some vs/\ee D w vs l/\K l
def aF (D:Nat->Prop)(w:World):P->Value->Prop
 | .nil,v=>eU D w v 48 0 0 λl=>l=[]
 | .snd a b p,v=>eU D w v 33 a b λl=>∃x,l=[x]/\aF D w p x
 | .rcv a b p,v=>eU D w v 63 a b λl=>∃x,l=[x]/\aF D w p x
 | .tau p,v=>eU D w v 126 0 0 λl=>∃x,l=[x]/\aF D w p x
 | .sum p q,v=>eU D w v 43 0 0 λl=>∃x y,l=[x,y]/\aF D w p x/\aF D w q y
 | .par p q,v=>eU D w v 38 0 0 λl=>∃x y,l=[x,y]/\aF D w p x/\aF D w q y
 | .res b p,v=>eU D w v 35 0 b λl=>∃x,l=[x]/\aF D w p x
 | .mat a b p,v=>eU D w v 61 a b λl=>∃x,l=[x]/\aF D w p x
 | .rep p,v=>eU D w v 42 0 0 λl=>∃x,l=[x]/\aF D w p x
def T.ca:P->UInt8
 | .snd a _ _=>a | .rcv a _ _=>a | .mat a _ _=>a | _=>0
def T.cb:P->UInt8
 | .snd _ b _=>b | .rcv _ b _=>b | .mat _ b _=>b | .res b _=>b | _=>0
theorem eU.kp {D S:Nat->Prop}{w w':World}{v:Value}{k a c:UInt8}{K z:List Value->Prop}(h:eU D w v k a c K)(kp:Kp w w' S)(G:∀g,D g->¬S g)(J:∀l,K l->z l):eU D w' v k a c z:=by
 obtain⟨b,vs,l,V,H,I,h4,h5,Z,h7,W,h9⟩:=h;have hb:=kp.block b I (G b H);refine⟨b,vs,l,V,H,Nat.lt_of_lt_of_le I kp.size,?_,?_,?_,?_,W.kp kp G,J l h9⟩<;>rw [World.cell?_of_block (w:=w) hb]<;>assumption
theorem eU.mono {D E:Nat->Prop}{w:World}{v:Value}{k a c:UInt8}{K z:List Value->Prop}(h:eU D w v k a c K)(hd:∀g,D g->E g)(G:∀l,K l->z l):eU E w v k a c z:=by
 obtain⟨b,vs,l,H,I,J,h4,h5,V,W,Z,h9⟩:=h;exact⟨b,vs,l,H,hd b I,J,h4,h5,V,W,Z.mono hd,G l h9⟩
theorem aF.kp {D S:Nat->Prop}{w w':World}(kp:Kp w w' S)(z:∀g,D g->¬S g):∀{t:P} {v:Value},aF D w t v->aF D w' t v
 | .nil,_,h=>eU.kp h kp z λ _ h=>h
 | .snd _ _ p,_,h=>eU.kp h kp z λ _ ⟨x,G,H⟩=>⟨x,G,aF.kp kp z (t:=p) H⟩
 | .rcv _ _ p,_,h=>eU.kp h kp z λ _ ⟨x,G,H⟩=>⟨x,G,aF.kp kp z (t:=p) H⟩
 | .tau p,_,h=>eU.kp h kp z λ _ ⟨x,G,H⟩=>⟨x,G,aF.kp kp z (t:=p) H⟩
 | .res _ p,_,h=>eU.kp h kp z λ _ ⟨x,G,H⟩=>⟨x,G,aF.kp kp z (t:=p) H⟩
 | .mat _ _ p,_,h=>eU.kp h kp z λ _ ⟨x,G,H⟩=>⟨x,G,aF.kp kp z (t:=p) H⟩
 | .rep p,_,h=>eU.kp h kp z λ _ ⟨x,G,H⟩=>⟨x,G,aF.kp kp z (t:=p) H⟩
 | .sum p q,_,h=>eU.kp h kp z λ _ ⟨x,y,G,H,I⟩=>⟨x,y,G,aF.kp kp z (t:=p) H,aF.kp kp z (t:=q) I⟩
 | .par p q,_,h=>eU.kp h kp z λ _ ⟨x,y,G,H,I⟩=>⟨x,y,G,aF.kp kp z (t:=p) H,aF.kp kp z (t:=q) I⟩
theorem aF.mono {D E:Nat->Prop}{w:World}(hd:∀g,D g->E g):∀{t:P} {v:Value},aF D w t v->aF E w t v
 | .nil,_,h=>eU.mono h hd λ _ h=>h
 | .snd _ _ p,_,h=>eU.mono h hd λ _ ⟨x,z,G⟩=>⟨x,z,aF.mono hd (t:=p) G⟩
 | .rcv _ _ p,_,h=>eU.mono h hd λ _ ⟨x,z,G⟩=>⟨x,z,aF.mono hd (t:=p) G⟩
 | .tau p,_,h=>eU.mono h hd λ _ ⟨x,z,G⟩=>⟨x,z,aF.mono hd (t:=p) G⟩
 | .res _ p,_,h=>eU.mono h hd λ _ ⟨x,z,G⟩=>⟨x,z,aF.mono hd (t:=p) G⟩
 | .mat _ _ p,_,h=>eU.mono h hd λ _ ⟨x,z,G⟩=>⟨x,z,aF.mono hd (t:=p) G⟩
 | .rep p,_,h=>eU.mono h hd λ _ ⟨x,z,G⟩=>⟨x,z,aF.mono hd (t:=p) G⟩
 | .sum p q,_,h=>eU.mono h hd λ _ ⟨x,y,z,G,H⟩=>⟨x,y,z,aF.mono hd (t:=p) G,aF.mono hd (t:=q) H⟩
 | .par p q,_,h=>eU.mono h hd λ _ ⟨x,y,z,G,H⟩=>⟨x,y,z,aF.mono hd (t:=p) G,aF.mono hd (t:=q) H⟩
theorem aH.two {A B:Type}{R:A->B->Prop}{a a':A}{b z:B}(h:R a b)(G:R a' z):aH R [a,a'] [b,z]:=(aH.one h).append (aH.one G)
theorem aF.inv {D:Nat->Prop}{w:World}{t:P}{v:Value}(h:aF D w t v):eU D w v t.kind t.ca t.cb λl=>aH (λx p=>aF D w p x) l t.parts:=by
 cases t with
 | nil=>exact eU.mono h (λ _ h=>h) λl (e:l=[])=>by subst e;exact aH.nil
 | sum p q=>exact eU.mono h (λ _ h=>h) λl ⟨x,y,e,z,G⟩=>by subst e;exact aH.two z G
 | par p q=>exact eU.mono h (λ _ h=>h) λl ⟨x,y,e,z,G⟩=>by subst e;exact aH.two z G
 | snd a b p=>exact eU.mono h (λ _ h=>h) λl ⟨x,e,z⟩=>by subst e;exact aH.one z
 | rcv a b p=>exact eU.mono h (λ _ h=>h) λl ⟨x,e,z⟩=>by subst e;exact aH.one z
 | mat a b p=>exact eU.mono h (λ _ h=>h) λl ⟨x,e,z⟩=>by subst e;exact aH.one z
 | tau p=>exact eU.mono h (λ _ h=>h) λl ⟨x,e,z⟩=>by subst e;exact aH.one z
 | rep p=>exact eU.mono h (λ _ h=>h) λl ⟨x,e,z⟩=>by subst e;exact aH.one z
 | res b p=>exact eU.mono h (λ _ h=>h) λl ⟨x,e,z⟩=>by subst e;exact aH.one z
theorem r9 (t:P):t.size=1+(t.parts.map T.size).sum:=by cases t<;>simp [T.size,T.parts]<;>omega
theorem ui {A:Type}(f:A->Nat)(l:List A){i:Nat}(h:i< l.length):(l.map f).sum=((l.take i).map f).sum+(f l[i]+((l.drop (i+1)).map f).sum)/\((l.take (i+1)).map f).sum=((l.take i).map f).sum+f l[i]:=by
 constructor
 ·have e:l=l.take i++(l[i]::l.drop (i+1)):=by rw [<-List.drop_eq_getElem_cons h,List.take_append_drop]
  conv=>lhs;rw [e,List.map_append,List.sum_append,List.map_cons,List.sum_cons]
 ·rw [List.take_succ_eq_append_getElem h,List.map_append,List.sum_append];simp
theorem EB:∀(n:Nat) {D:Nat->Prop} {t:P} {v:Value} {w:World},t.size<=n->aF D w t v->t.size<=1099511627776->∀{R:Int->World->Prop},R (t.size:Int) w->Calls Tryz.prog 124 #[v] w (ax [.i] R):=by
 intro n
 induction n with
 | zero=>intro D t v w h;have :=aY t;omega
 | succ n V=>
  intro D t v w hn W hl R h;refine nN v w R ?_;obtain⟨b,vs,l,rfl,h1,h2,h3,h4,h5,Z,J,I⟩:=W.inv;obtain⟨a,cap,hv⟩:=J.slice;have e:=r9 t;refine⟨b,0,rfl,vs,Z,a,_,cap,hv,λm x w'=>w'=w/\∃i:Nat,x=i/\i<=l.length/\m=(1+((t.parts.take i).map T.size).sum:Nat),λ _ x _=>(l.length - x).toNat,⟨rfl,0,rfl,by omega,by simp⟩,λm x w1 hI=>?_⟩;obtain⟨rfl,i,rfl,hi,rfl⟩:=hI;refine⟨λG=>?_,λG=>?_⟩
  ·have G:=of_decide_eq_true G;have z:i< l.length:=by omega
   have H:i< t.parts.length:=by rw [<-I.1];exact z
   refine J.get (i:=i) (x:=l[i]) (by omega) (by simp [z]) ?_;have hk:=I.2 i _ _ (List.getElem?_eq_getElem z) (List.getElem?_eq_getElem H);obtain⟨hs,α⟩:=ui T.size t.parts H;have β:=dI t;refine V (by omega) hk (by omega) ⟨by unfold aj;omega,by unfold aj;omega,⟨rfl,i+1,by omega,by omega,?_⟩,by dsimp only;omega⟩;omega
  ·have G:=of_decide_eq_false G;have:i=t.parts.length:=by rw [<-I.1];omega
   subst this;rw [List.take_length,<-e];exact h
structure Rd (w:World)(r:Nat)(s:Tx)(i:Nat)(bad:Bool):Prop where
 lt:r< w.heap.size
 le:i<=s.length
 c0:w.cell? ⟨r,0,none⟩=some (.string (ab s))
 c1:w.cell? ⟨r,1,none⟩=some (.int .i64 i)
 c2:w.cell? ⟨r,2,none⟩=some (.bool bad)
 f1:w.frozen? ⟨r,1,none⟩=false
 f2:w.frozen? ⟨r,2,none⟩=false
theorem Rd.same {w w':World}{r:Nat}{s:Tx}{i:Nat}{bad:Bool}(h:Rd w r s i bad)(J:w.heap.size<=w'.heap.size)(hb:w'.heap[r]?=w.heap[r]?):Rd w' r s i bad:=by
 obtain⟨V,z,G,h4,h5,H,I⟩:=h;refine⟨by omega,z,?_,?_,?_,?_,?_⟩
 ·rw [World.cell?_of_block (w:=w) hb];exact G
 ·rw [World.cell?_of_block (w:=w) hb];exact h4
 ·rw [World.cell?_of_block (w:=w) hb];exact h5
 ·rw [World.frozen?_of_block (w:=w) hb];exact H
 ·rw [World.frozen?_of_block (w:=w) hb];exact I
theorem Rd.setAt {w:World}{r:Nat}{s:Tx}{i j:Nat}{bad:Bool}(h:Rd w r s i bad)(z:j<=s.length):Rd (w.setCell ⟨r,1,none⟩ (.int .i64 j)) r s j bad:=
 ⟨by rw [World.size_setCell];exact h.lt,z,by rw [World.cell?_setCell_other _ _ _ _ (by simp)];exact h.c0,World.cell?_setCell_same _ _ _ h.c1,by rw [World.cell?_setCell_other _ _ _ _ (by simp)];exact h.c2,by rw [World.frozen?_setCell];exact h.f1,by rw [World.frozen?_setCell];exact h.f2⟩
theorem Rd.uN {w:World}{r:Nat}{s:Tx}{i:Nat}{bad:Bool}(h:Rd w r s i bad):Rd (w.setCell ⟨r,2,none⟩ (.bool true)) r s i true:=
 ⟨by rw [World.size_setCell];exact h.lt,h.le,by rw [World.cell?_setCell_other _ _ _ _ (by simp)];exact h.c0,by rw [World.cell?_setCell_other _ _ _ _ (by simp)];exact h.c1,World.cell?_setCell_same _ _ _ h.c2,by rw [World.frozen?_setCell];exact h.f1,by rw [World.frozen?_setCell];exact h.f2⟩
abbrev Kr (r:Nat)(w w':World):Prop:=Kp w w' λg=>g=r
theorem Kr.refl (r:Nat)(w:World):Kr r w w:=Kp.ah (Ex.refl w) _
theorem Kr.trans {r:Nat}{a b c:World}(h:Kr r a b)(k:Kr r b c):Kr r a c:=Kp.trans h k λ _ _ h=>h
theorem Kr.ex {r:Nat}{w w':World}(h:Ex w w'):Kr r w w':=Kp.ah h _
theorem Kr.set {r:Nat}(w:World)(j:Nat)(v:Value):Kr r w (w.setCell ⟨r,j,none⟩ v):=Kp.set (S:=λg=>g=r) (Kr.refl r w) rfl v
theorem GM {w:World}{r:Nat}{s:Tx}{i:Nat}{bad:Bool}(hs:s.length<=1099511627776)(h:Rd w r s i bad){R:UInt8->World->Prop}
  (hR:∀w',Kr r w w'->Rd w' r s (if i< s.length then i+1 else i) (bad||decide (s.length<=i))->R (if i< s.length then bt s i else 0) w'):Calls Tryz.prog 207 #[ptr r] w (ax [.c] R):=by
 refine lW _ w R ?_;have hle:=h.le;refine⟨λw'=>Ex w w',λw1 J=>⟨J▸Ex.drew w,r,0,rfl,i,λw' G=>(h.same G.size (G.block r h.lt)).c1,r,0,rfl,s,λw' G=>(h.same G.size (G.block r h.lt)).c0,λZ=>?_,λZ=>?_⟩⟩
 ·have z:Ex w w1:=J▸Ex.drew w;have I:=h.same z.size (z.block r h.lt);have Z:=of_decide_eq_true Z;refine⟨r,0,rfl,⟨⟨_,I.c2⟩,I.f2⟩,λw2 H=>?_⟩;subst H;have :=hR _ (Kr.trans (Kr.ex z) (Kr.set w1 2 _)) (by
   rw [if_neg (by omega),show decide (s.length<=i)=true from decide_eq_true (by omega),Bool.or_true];exact I.uN)
  rw [if_neg (by omega)]at this;exact this
 ·have z:Ex w w1:=J▸Ex.drew w;have I:=h.same z.size (z.block r h.lt);have Z:=of_decide_eq_false Z;have α:i< s.length:=by omega
  refine⟨r,0,rfl,i,I.c1,by unfold aj;omega,r,0,rfl,⟨⟨_,I.c1⟩,I.f1⟩,λw2 H=>?_⟩;have e:((i:Int)+1)=((i+1:Nat):Int):=by omega
  rw [e]at H;have W:Rd w2 r s (i+1) bad:=H▸I.setAt (by omega);have k2:Kr r w w2:=H▸Kr.trans (Kr.ex z) (Kr.set w1 1 _);refine⟨λw'=>Ex w2 w',λw3 β=>⟨β▸Ex.drew w2,r,0,rfl,s,λw' G=>(W.same G.size (G.block r W.lt)).c0,r,0,rfl,(i+1:Nat),λw' G=>(W.same G.size (G.block r W.lt)).c1,by unfold aj;omega,⟨by omega,by omega⟩,?_⟩⟩;have V:Ex w2 w3:=β▸Ex.drew w2;have e2:Int.toNat (((i+1:Nat):Int) - 1)=i:=by omega
  rw [e2];have :=hR w3 (Kr.trans k2 (Kr.ex V)) (by
   rw [if_pos α,show decide (s.length<=i)=false from decide_eq_false (by omega),Bool.or_false];exact W.same V.size (V.block r W.lt))
  rw [if_pos α]at this;exact this
theorem qR {c:UInt8}{w:World}{R:Bool->World->Prop}(h:R (lt c) w):Calls Tryz.prog 128 #[.int .u8 c.toNat] w (ax [.b] R):=by
 refine pA c w R ?_;unfold lt at h;refine⟨λz=>?_,λz=>?_⟩
 ·rw [z]at h;simpa using h
 ·rw [z]at h;simpa using h
structure Nx (s:Tx)(i:Nat)(bad:Bool)(ok:UInt8->Prop)(c:UInt8)(j:Nat)(bad':Bool):Prop where
 le:i<=j
 fine:bad'=false->bad=false/\i< s.length/\j=i+1/\c=bt s i/\ok c
 good:bad=false->i< s.length->ok (bt s i)->bad'=false
theorem oE {w:World}{r:Nat}{s:Tx}{i:Nat}{bad:Bool}(z:s.length<=1099511627776)(h:Rd w r s i bad){R:UInt8->World->Prop}
  (G:∀c j bad' w',Kr r w w'->Rd w' r s j bad'->Nx s i bad (λ _=>True) c j bad'->R c w'):Calls Tryz.prog 207 #[ptr r] w (ax [.c] R):=by
 refine GM z h λw' k H=>G _ _ _ w' k H ⟨by split<;>omega,λhb=>?_,λhb I _=>?_⟩
 ·simp only [Bool.or_eq_false_iff,decide_eq_false_iff_not]at hb;rw [if_pos (by omega),if_pos (by omega)];exact⟨hb.1,by omega,rfl,rfl,trivial⟩
 ·rw [hb,Bool.false_or];exact decide_eq_false (by omega)
theorem uY {w:World}{r:Nat}{s:Tx}{i:Nat}{bad:Bool}(Z:s.length<=1099511627776)(h:Rd w r s i bad){R:UInt8->World->Prop}
  (V:∀c j bad' w',Kr r w w'->Rd w' r s j bad'->Nx s i bad (λc=>lt c=true) c j bad'->R c w'):Calls Tryz.prog 208 #[ptr r] w (ax [.c] R):=by
 refine ma _ w R ?_;refine oE Z h λc j bad' w1 W H z=>qR ⟨λG=>?_,λG=>?_⟩
 ·refine⟨r,0,rfl,⟨⟨_,H.c2⟩,H.f2⟩,λw2 I=>?_⟩;subst I;refine V c j true _ (Kr.trans W (Kr.set w1 2 _)) H.uN ⟨z.le,λhb=>(by cases hb),λhb J ho=>?_⟩;obtain⟨_,_,_,e,_⟩:=z.fine (z.good hb J trivial);rw [e]at G;rw [ho]at G;cases G
 ·refine V c j bad' w1 W H ⟨z.le,λhb=>?_,λhb J _=>z.good hb J trivial⟩;obtain⟨a,b,c,d,_⟩:=z.fine hb;exact⟨a,b,c,d,by simpa using G⟩
theorem pa {w:World}{r:Nat}{s:Tx}{i:Nat}{bad:Bool}{c:UInt8}(Z:s.length<=1099511627776)(h:Rd w r s i bad){R:World->Prop}
  (V:∀j bad' w',Kr r w w'->Rd w' r s j bad'->Nx s i bad (λd=>d=c) c j bad'->R w'):Calls Tryz.prog 209 #[ptr r,.int .u8 c.toNat] w (ax [] R):=by
 refine mg _ c w R ?_;refine oE Z h λd j bad' w1 W H z=>⟨λG=>?_,λG=>?_⟩
 ·refine⟨r,0,rfl,⟨⟨_,H.c2⟩,H.f2⟩,λw2 I=>?_⟩;subst I;refine V j true _ (Kr.trans W (Kr.set w1 2 _)) H.uN ⟨z.le,λhb=>(by cases hb),λhb J ho=>?_⟩;obtain⟨_,_,_,e,_⟩:=z.fine (z.good hb J trivial);rw [e,ho]at G;simp at G
 ·have G:d=c:=by simpa using G
  subst G;refine V j bad' w1 W H ⟨z.le,λhb=>?_,λhb J _=>z.good hb J trivial⟩;obtain⟨a,b,c,d,_⟩:=z.fine hb;exact⟨a,b,c,d,rfl⟩
structure Nd (w:World)(b:Nat)(k a c:UInt8)(vs:Value):Prop where
 lt:b< w.heap.size
 c0:w.cell? ⟨b,0,none⟩=some (.int .u8 k.toNat)
 c1:w.cell? ⟨b,1,none⟩=some (.int .u8 a.toNat)
 c2:w.cell? ⟨b,2,none⟩=some (.int .u8 c.toNat)
 c3:w.cell? ⟨b,3,none⟩=some vs
 f:∀j,w.frozen? ⟨b,j,none⟩=false
theorem Nd.same {w w':World}{b:Nat}{k a c:UInt8}{vs:Value}(h:Nd w b k a c vs)(I:w.heap.size<=w'.heap.size)(hb:w'.heap[b]?=w.heap[b]?):Nd w' b k a c vs:=by
 obtain⟨J,z,G,h4,h5,H⟩:=h;refine⟨by omega,?_,?_,?_,?_,λj=>?_⟩
 ·rw [World.cell?_of_block (w:=w) hb];exact z
 ·rw [World.cell?_of_block (w:=w) hb];exact G
 ·rw [World.cell?_of_block (w:=w) hb];exact h4
 ·rw [World.cell?_of_block (w:=w) hb];exact h5
 ·rw [World.frozen?_of_block (w:=w) hb];exact H j
structure TS (w0 w:World)(r b:Nat)(s:Tx)(i:Nat)(bad:Bool)(k a c:UInt8)(vs:Value):Prop where
 rd:Rd w r s i bad
 nd:Nd w b k a c vs
 kr:Kr r w0 w
 hr:r< w0.heap.size
 hb:w0.heap.size<=b
section
variable {w0 w w':World} {r b:Nat} {s:Tx} {i j:Nat} {bad bad':Bool} {k a c x:UInt8} {vs:Value}
theorem TS.go (h:TS w0 w r b s i bad k a c vs)(kr:Kr r w w')(hr:Rd w' r s j bad'):TS w0 w' r b s j bad' k a c vs:=by
 have :=h.hr;have :=h.hb;exact⟨hr,h.nd.same kr.size (kr.block b h.nd.lt (by omega)),Kr.trans h.kr kr,h.hr,h.hb⟩
theorem TS.ex (h:TS w0 w r b s i bad k a c vs)(z:Ex w w'):TS w0 w' r b s i bad k a c vs:=h.go (Kr.ex z) (h.rd.same z.size (z.block r h.rd.lt))
theorem TS.qF (h:TS w0 w r b s i bad k a c vs)(j:Nat)(v:Value):Rd (w.setCell ⟨b,j,none⟩ v) r s i bad/\Kr r w0 (w.setCell ⟨b,j,none⟩ v):=by
 have H:=h.hr;have I:=h.hb;refine⟨h.rd.same (by rw [World.size_setCell];exact Nat.le_refl _) (Below.heap_setCell _ _ _ _ (show r≠b by omega)),⟨h.kr.os,h.kr.tape,h.kr.output,by rw [World.size_setCell];exact h.kr.size,λg z G=>?_⟩⟩;rw [Below.heap_setCell _ _ _ _ (show g≠b by omega)];exact h.kr.block g z G
theorem TS.AA (h:TS w0 w r b s i bad k a c vs)(hw:w'=w.setCell ⟨b,0,none⟩ (.int .u8 x.toNat)):TS w0 w' r b s i bad x a c vs:=by
 subst hw;obtain⟨z,G⟩:=h.qF 0 (.int .u8 x.toNat);exact⟨z,⟨by rw [World.size_setCell];exact h.nd.lt,World.cell?_setCell_same _ _ _ h.nd.c0,by rw [World.cell?_setCell_other _ _ _ _ (by simp)];exact h.nd.c1,by rw [World.cell?_setCell_other _ _ _ _ (by simp)];exact h.nd.c2,by rw [World.cell?_setCell_other _ _ _ _ (by simp)];exact h.nd.c3,λj=>by rw [World.frozen?_setCell];exact h.nd.f j⟩,G,h.hr,h.hb⟩
theorem TS.xt (h:TS w0 w r b s i bad k a c vs)(hw:w'=w.setCell ⟨b,1,none⟩ (.int .u8 x.toNat)):TS w0 w' r b s i bad k x c vs:=by
 subst hw;obtain⟨z,G⟩:=h.qF 1 (.int .u8 x.toNat);exact⟨z,⟨by rw [World.size_setCell];exact h.nd.lt,by rw [World.cell?_setCell_other _ _ _ _ (by simp)];exact h.nd.c0,World.cell?_setCell_same _ _ _ h.nd.c1,by rw [World.cell?_setCell_other _ _ _ _ (by simp)];exact h.nd.c2,by rw [World.cell?_setCell_other _ _ _ _ (by simp)];exact h.nd.c3,λj=>by rw [World.frozen?_setCell];exact h.nd.f j⟩,G,h.hr,h.hb⟩
theorem TS.qS (h:TS w0 w r b s i bad k a c vs)(hw:w'=w.setCell ⟨b,2,none⟩ (.int .u8 x.toNat)):TS w0 w' r b s i bad k a x vs:=by
 subst hw;obtain⟨z,G⟩:=h.qF 2 (.int .u8 x.toNat);exact⟨z,⟨by rw [World.size_setCell];exact h.nd.lt,by rw [World.cell?_setCell_other _ _ _ _ (by simp)];exact h.nd.c0,by rw [World.cell?_setCell_other _ _ _ _ (by simp)];exact h.nd.c1,World.cell?_setCell_same _ _ _ h.nd.c2,by rw [World.cell?_setCell_other _ _ _ _ (by simp)];exact h.nd.c3,λj=>by rw [World.frozen?_setCell];exact h.nd.f j⟩,G,h.hr,h.hb⟩
theorem TS.AW (h:TS w0 w r b s i bad k a c vs){v:Value}(hw:w'=w.setCell ⟨b,3,none⟩ v):TS w0 w' r b s i bad k a c v:=by
 subst hw;obtain⟨z,G⟩:=h.qF 3 v;exact⟨z,⟨by rw [World.size_setCell];exact h.nd.lt,by rw [World.cell?_setCell_other _ _ _ _ (by simp)];exact h.nd.c0,by rw [World.cell?_setCell_other _ _ _ _ (by simp)];exact h.nd.c1,by rw [World.cell?_setCell_other _ _ _ _ (by simp)];exact h.nd.c2,World.cell?_setCell_same _ _ _ h.nd.c3,λj=>by rw [World.frozen?_setCell];exact h.nd.f j⟩,G,h.hr,h.hb⟩
theorem TS.CA (h:TS w0 w r b s i bad k a c vs)(hw:w'=w.setCell ⟨r,2,none⟩ (.bool true)):TS w0 w' r b s i true k a c vs:=by
 subst hw;exact h.go (Kr.set w 2 _) h.rd.uN
theorem TS.cell (h:TS w0 w r b s i bad k a c vs):((∃u:Value,w.cell? ⟨b,0,none⟩=some u)/\w.frozen? ⟨b,0,none⟩=false)/\((∃u:Value,w.cell? ⟨b,1,none⟩=some u)/\w.frozen? ⟨b,1,none⟩=false)/\
  ((∃u:Value,w.cell? ⟨b,2,none⟩=some u)/\w.frozen? ⟨b,2,none⟩=false)/\((∃u:Value,w.cell? ⟨b,3,none⟩=some u)/\w.frozen? ⟨b,3,none⟩=false)/\((∃u:Value,w.cell? ⟨r,2,none⟩=some u)/\w.frozen? ⟨r,2,none⟩=false):=
 ⟨⟨⟨_,h.nd.c0⟩,h.nd.f 0⟩,⟨⟨_,h.nd.c1⟩,h.nd.f 1⟩,⟨⟨_,h.nd.c2⟩,h.nd.f 2⟩,⟨⟨_,h.nd.c3⟩,h.nd.f 3⟩,⟨⟨_,h.rd.c2⟩,h.rd.f2⟩⟩
end
structure Rs (D:Nat->Prop)(w:World)(s:Tx)(i j:Nat)(bad bad':Bool)(v:Value):Prop where
 le:i<=j
 ptr:∃b,v=ptr b
 fine:bad'=false->bad=false/\∃t:P,t.Al (λc=>lt c=true)/\s.drop i=t.text++s.drop j/\aF D w t v
 good:bad=false->(∃(t:P) (r':Tx),t.Al (λc=>lt c=true)/\s.drop i=t.text++r')->bad'=false
def tD (s:Tx)(n:Nat):Prop:=∀{r i:Nat} {bad:Bool} {w:World} {R:Value->World->Prop},Rd w r s i bad->(bad=false->s.length - i< n)->
 (∀v w' j bad',Kr r w w'->Rd w' r s j bad'->Rs (λg=>w.heap.size<=g) w' s i j bad bad' v->R v w')->Calls Tryz.prog 166 #[Proofs.YtdecokaadekjnaaGreat.ptr r] w (ax [.v] R)
theorem BZ {s:Tx}{n:Nat}(δ:tD s n){w0 w:World}{r b i:Nat}{bad:Bool}{k a c:UInt8}{vs:Value}(h:TS w0 w r b s i bad k a c vs)(hm:bad=false->s.length - i< n){R:Value->World->Prop}
  (hR:∀w' j bad' x J,TS w0 w' r b s j bad' k a c J->ee (λg=>w0.heap.size<=g) w' J [x]->Rs (λg=>w0.heap.size<=g) w' s i j bad bad' x->R (ptr b) w'):
  Calls Tryz.prog 166 #[ptr r] w (ax [.v] fun(v28:Value) (V:World)=>oneV v28=true/\∀(b30:Nat) (z:World),b30=Array.size (World.heap V)->z=World.alloc V (Obj.cells #[v28] 88)->
   oneV (Value.slice (some ⟨b30,0,none⟩) 1 1)=true/\((∃u32:Value,World.cell? z ⟨b,3,none⟩=some u32)/\World.frozen? z ⟨b,3,none⟩=false)/\∀W:World,W=World.setCell z ⟨b,3,none⟩ (Value.slice (some ⟨b30,0,none⟩) 1 1)->R (Value.pointer (some ⟨b,0,none⟩)) W):=by
 refine δ h.rd hm λv w1 j bad' k1 h1 Z=>?_
 obtain⟨bv,ε⟩:=Z.ptr;have t1:=h.go k1 h1;refine⟨by rw [ε];rfl,λb2 w2 α H=>⟨rfl,?_⟩⟩;have β:Ex w1 w2:=H▸Ex.alloc w1 _;have t2:=t1.ex β;refine⟨t2.cell.2.2.2.1,λw3 G=>?_⟩;have t3:=t2.AW G;have hb:=h.hb;have μ:=t2.nd.lt;have θ:=k1.size;have ι:=h.kr.size;have κ:=t1.nd.lt;have hK:Kp w2 w3 λg=>g=b:=G▸Kp.set (S:=λg=>g=b) (Kp.ah (Ex.refl w2) _) rfl _
 have ν:b< w.heap.size:=h.nd.lt;refine hR w3 j bad' v _ t3 (.inr ⟨b2,0,1,rfl,by omega,?_,λi x I=>?_⟩) ⟨Z.le,Z.ptr,λζ=>?_,Z.good⟩
 ·rw [G,World.size_setCell,H,size_alloc,<-α];omega
 ·match i,I with
  | 0,I=>
   simp at I;subst I;rw [G,World.cell?_setCell_other _ _ _ _ (by simp),H,α];exact aa rfl
  | i+1,I=>simp at I
 ·obtain⟨e1,t,ht,e2,η⟩:=Z.fine ζ;refine⟨e1,t,ht,e2,?_⟩;have γ:aF (λg=>w.heap.size<=g) w2 t v:=aF.kp (Kp.ah β λ _=>False) (λ _ _ h=>h) η;exact aF.mono (λg hg=>by omega) (aF.kp hK (λg hg e=>by omega) γ)
theorem a6 {s:Tx}{i:Nat}(h:i< s.length):s.drop i=bt s i::s.drop (i+1):=bB h
theorem eU.of {D:Nat->Prop}{w0 w:World}{r b:Nat}{s:Tx}{i:Nat}{bad:Bool}{k a c:UInt8}{vs:Value}{l:List Value}{K:List Value->Prop}(h:TS w0 w r b s i bad k a c vs)(z:D b)(G:ee D w vs l)(H:K l):eU D w (ptr b) k a c K:=
 ⟨b,vs,l,rfl,z,h.nd.lt,h.nd.c0,h.nd.c1,h.nd.c2,h.nd.c3,G,H⟩
theorem df {s:Tx}{i:Nat}{c:UInt8}{r:Tx}(h:s.drop i=c::r):i< s.length/\bt s i=c/\s.drop (i+1)=r:=drop_cons h
theorem GX (s:Tx)(hs:s.length<=1099511627776):∀n,tD s n:=by
 intro n;have main:∀n,(∀m,m+1=n->tD s m)->tD s n:=by
  intro n ih r i bad w R hrd hm hR;refine mv _ w R ?_;intro b w1 hb hw1;have ς:Ex w w1:=hw1▸Ex.alloc w _;have hrl:=hrd.lt;have hsz1:w1.heap.size=w.heap.size+1:=by rw [hw1,size_alloc]
  have t1:TS w w1 r b s i bad 48 0 0 (.slice none 0 0):=by
   refine⟨hrd.same ς.size (ς.block r hrl),⟨by omega,?_,?_,?_,?_,λj=>?_⟩,Kr.ex ς,hrl,by omega⟩
   ·rw [hw1,hb];exact aa rfl
   ·rw [hw1,hb];exact aa rfl
   ·rw [hw1,hb];exact aa rfl
   ·rw [hw1,hb];exact aa rfl
   ·rw [hw1,hb];unfold World.frozen? World.alloc;simp
  have hD:w.heap.size<=b:=by omega
  refine⟨r,0,rfl,bad,t1.rd.c2,λhq=>?_,λhq=>?_⟩
  ·exact hR _ _ _ _ t1.kr t1.rd ⟨Nat.le_refl _,⟨b,rfl⟩,λH=>(by rw [hq]at H;cases H),λH=>(by rw [hq]at H;cases H)⟩
  obtain⟨n,rfl⟩:∃m,n=m+1:=⟨n - 1,by have :=hm hq;omega⟩
  have iht:tD s n:=ih n rfl;have hm:=hm hq;subst hq;refine oE hs t1.rd λc7 j7 bad7 w8 k8 h8 hn=>?_
  have t8:=t1.go k8 h8;have hj7:=h8.le;have first:bad7=false->i< s.length/\j7=i+1/\c7=bt s i:=λH=>by
   obtain⟨_,a,b,c,_⟩:=hn.fine H;exact⟨a,b,c⟩
  have G:∀{c:UInt8} {x:Tx},s.drop i=c::x->bad7=false/\c7=c/\s.drop j7=x:=λh=>by
   obtain⟨a,b,c⟩:=df h;have H:=hn.good rfl a trivial;obtain⟨_,e1,e2⟩:=first H;exact⟨H,by rw [e2,b],by rw [e1];exact c⟩
  refine⟨λJ=>?_,λJ=>?_⟩
  ·have J:=of_decide_eq_true J;refine hR _ _ j7 bad7 t8.kr t8.rd ⟨hn.le,⟨b,rfl⟩,λH=>?_,λ _ ⟨t,r',ht,e⟩=>?_⟩
   ·obtain⟨a1,a2,a3⟩:=first H;refine⟨rfl,.nil,trivial,?_,eU.of t8 hD (.inl ⟨rfl,rfl⟩) rfl⟩;rw [a6 a1,<-a3,J,a2];rfl
   ·cases ht':t.text with
    | nil=>have :=Bw t;rw [ht']at this;simp at this
    | cons d x=>rw [ht',List.cons_append]at e;exact(G e).1
  have hc0:c7≠48:=of_decide_eq_false J;refine qR ⟨λhl=>?_,λhl=>?_⟩
  ·
   refine oE hs t8.rd λV j11 W w12 k12 h12 ψ=>?_
   have t12:=t8.go k12 h12;refine⟨t12.cell.2.1,λw14 hw14=>?_⟩;have t14:=t12.xt hw14;refine⟨t14.cell.1,λw16 hw16=>?_⟩;have t16:=t14.AA hw16;have rest:∀{wx:World} {I:Bool},TS w wx r b s j11 I V c7 0 (.slice none 0 0)->(I=false->W=false/\(V=33\/V=63))->(W=false->(V=33\/V=63)->I=false)->
     ∀{K:UInt8->World->Prop},(∀κ υ α w24,TS w w24 r b s υ α V c7 0 (.slice none 0 0)->Nx s j11 I (λc=>lt c=true) κ υ α->K κ w24)->
     Calls Tryz.prog 208 #[ptr r] wx (ax [.c] K):=by
    intro wx I tx _ _ K hK;exact uY hs tx.rd λc j bad' w' k' h' hn'=>hK c j bad' w' (tx.go k' h') hn'
   have fin:∀{I:Bool} {κ:UInt8} {υ:Nat} {α:Bool} {w24 w26:World},(I=false->W=false/\(V=33\/V=63))->(W=false->(V=33\/V=63)->I=false)->Nx s j11 I (λc=>lt c=true) κ υ α->
     TS w w26 r b s υ α V c7 κ (.slice none 0 0)->Calls Tryz.prog 209 #[ptr r,.int .u8 46] w26 (ax [] λw27=>Calls Tryz.prog 166 #[ptr r] w27 (ax [.v] fun(v28:Value) (w29:World)=>oneV v28=true/\∀(b30:Nat) (φ:World),b30=Array.size (World.heap w29)->φ=World.alloc w29 (Obj.cells #[v28] 88)->
      oneV (Value.slice (some ⟨b30,0,none⟩) 1 1)=true/\((∃u32:Value,World.cell? φ ⟨b,3,none⟩=some u32)/\World.frozen? φ ⟨b,3,none⟩=false)/\∀w33:World,w33=World.setCell φ ⟨b,3,none⟩ (Value.slice (some ⟨b30,0,none⟩) 1 1)->R (Value.pointer (some ⟨b,0,none⟩)) w33)):=by
    intro I κ υ α w24 w26 ς hx2 δ t26;refine pa (c:=46) hs t26.rd λj27 bad27 w27 k27 h27 ω=>?_
    have t27:=t26.go k27 h27;refine BZ iht t27 (λH=>?_) λw' j bad' x vs' t' hsl hrs=>?_
    ·obtain⟨a1,a2,a3,_⟩:=ω.fine H;obtain⟨b1,b2,b3,_⟩:=δ.fine a1;obtain⟨c1,c2,c3,_⟩:=ψ.fine (ς b1).1;obtain⟨_,d2,d3⟩:=first c1;omega
    ·refine hR _ _ j bad' t'.kr t'.rd ⟨?_,⟨b,rfl⟩,λH=>?_,λ _ ⟨t,r',ht,e⟩=>?_⟩
     ·have :=hn.le;have :=ψ.le;have :=δ.le;have :=ω.le;have :=hrs.le;omega
     ·obtain⟨e1,t,ht,e2,hat⟩:=hrs.fine H;obtain⟨a1,a2,a3,a4,a5⟩:=ω.fine e1;obtain⟨b1,b2,b3,b4,b5⟩:=δ.fine a1;obtain⟨b0,hk⟩:=ς b1;obtain⟨c1,c2,c3,c4,_⟩:=ψ.fine b0;obtain⟨d1,d2,d3⟩:=first c1;have ε:s.drop i=c7::V::κ::46::(t.text++s.drop j):=by
       rw [a6 d1,<-d3,<-d2,a6 c2,<-c4,<-c3,a6 b2,<-b4,<-b3,a6 a2,<-a4,<-a3,e2]
      rcases hk with hk | hk
      ·subst hk;exact⟨rfl,.snd c7 κ t,⟨hl,b5,ht⟩,ε,eU.of t' hD hsl ⟨x,rfl,hat⟩⟩
      ·subst hk;exact⟨rfl,.rcv c7 κ t,⟨hl,b5,ht⟩,ε,eU.of t' hD hsl ⟨x,rfl,hat⟩⟩
     ·have key:∀{a d x:UInt8} {p:P},(d=33\/d=63)->lt x=true->p.Al (λc=>lt c=true)->s.drop i=a::d::x::46::(p.text++r')->bad'=false:=by
       intro a d x p hd hx hp he;obtain⟨f1,f2,f3⟩:=G he;obtain⟨g1,g2,g3⟩:=df f3;have f4:=ψ.good f1 g1 trivial;obtain⟨_,_,h3,h4,_⟩:=ψ.fine f4;rw [<-h3]at g3;obtain⟨k1,k2,k3⟩:=df g3;have hkd:V=33\/V=63:=by rw [h4,g2];exact hd
       have f5:=δ.good (hx2 f4 hkd) k1 (by rw [k2];exact hx);obtain⟨_,_,l3,l4,_⟩:=δ.fine f5;rw [<-l3]at k3;obtain⟨m1,m2,m3⟩:=df k3;have f6:=ω.good f5 m1 m2;obtain⟨_,_,o3,o4,_⟩:=ω.fine f6;rw [<-o3]at m3;exact hrs.good f6 ⟨p,r',hp,m3⟩
      cases t with
      | snd a x p=>exact key (.inl rfl) ht.2.1 ht.2.2 e
      | rcv a x p=>exact key (.inr rfl) ht.2.1 ht.2.2 e
      | nil=>exact absurd (G (c:=48) e).2.1 hc0
      | tau p=>have :=(G (c:=126) e).2.1;rw [this]at hl;exact absurd hl (by decide)
      | res y p=>have :=(G (c:=35) e).2.1;rw [this]at hl;exact absurd hl (by decide)
      | mat y z p=>have :=(G (c:=91) e).2.1;rw [this]at hl;exact absurd hl (by decide)
      | rep p=>have :=(G (c:=42) e).2.1;rw [this]at hl;exact absurd hl (by decide)
      | sum p q=>have :=(G (c:=40) e).2.1;rw [this]at hl;exact absurd hl (by decide)
      | par p q=>have :=(G (c:=40) e).2.1;rw [this]at hl;exact absurd hl (by decide)
   refine⟨V,t16.nd.c0,λθ=>⟨V,t16.nd.c0,λι=>⟨r,0,rfl,t16.cell.2.2.2.2,λw22 hw22=>?_⟩,λι=>?_⟩,λθ=>?_⟩
   ·have t22:=t16.CA hw22;have θ:¬V=33:=by simpa using θ
    have ι:¬V=63:=by simpa using ι
    have x1:true=false->W=false/\(V=33\/V=63):=λh=>by cases h
    have x2:W=false->(V=33\/V=63)->true=false:=λ _ h=>by rcases h with h | h<;>contradiction
    refine rest t22 x1 x2 λκ υ α w24 t24 δ=>⟨t24.cell.2.2.1,λw26 hw26=>fin (w24:=w24) x1 x2 δ (t24.qS hw26)⟩
   ·have ι:V=63:=by simpa using ι
    have x1:W=false->W=false/\(V=33\/V=63):=λh=>⟨h,.inr ι⟩
    have x2:W=false->(V=33\/V=63)->W=false:=λh _=>h
    refine rest t16 x1 x2 λκ υ α w24 t24 δ=>⟨t24.cell.2.2.1,λw26 hw26=>fin (w24:=w24) x1 x2 δ (t24.qS hw26)⟩
   ·have θ:V=33:=by simpa using θ
    have x1:W=false->W=false/\(V=33\/V=63):=λh=>⟨h,.inl θ⟩
    have x2:W=false->(V=33\/V=63)->W=false:=λh _=>h
    refine rest t16 x1 x2 λκ υ α w24 t24 δ=>⟨t24.cell.2.2.1,λw26 hw26=>fin (w24:=w24) x1 x2 δ (t24.qS hw26)⟩
  have Z:∀{a:UInt8} {x:Tx},lt a=true->s.drop i=a::x->False:=λha he=>by
   rw [(G he).2.1]at hl;rw [hl]at ha;cases ha
  have one:∀{wx:World} {jx:Nat} {I:Bool} {k a c:UInt8} (hd:Tx) (mk:P->P),TS w wx r b s jx I k a c (.slice none 0 0)->i<=jx->
    (I=false->i< jx/\s.drop i=hd++s.drop jx)->(I=false->∀p,(mk p).text=hd++p.text)->(I=false->∀p:P,p.Al (λc=>lt c=true)->(mk p).Al (λc=>lt c=true))->
    (∀{D:Nat->Prop} {w':World} {v:Value} {p:P},(eU D w' v k a c λl=>∃x,l=[x]/\aF D w' p x)->I=false->aF D w' (mk p) v)->
    (∀(t:P) (r':Tx),t.Al (λc=>lt c=true)->s.drop i=t.text++r'->I=false/\∃p:P,p.Al (λc=>lt c=true)/\s.drop jx=p.text++r')->
    Calls Tryz.prog 166 #[ptr r] wx (ax [.v] fun(v28:Value) (w29:World)=>oneV v28=true/\∀(b30:Nat) (φ:World),b30=Array.size (World.heap w29)->φ=World.alloc w29 (Obj.cells #[v28] 88)->
     oneV (Value.slice (some ⟨b30,0,none⟩) 1 1)=true/\((∃u32:Value,World.cell? φ ⟨b,3,none⟩=some u32)/\World.frozen? φ ⟨b,3,none⟩=false)/\∀w33:World,w33=World.setCell φ ⟨b,3,none⟩ (Value.slice (some ⟨b30,0,none⟩) 1 1)->R (Value.pointer (some ⟨b,0,none⟩)) w33):=by
   intro wx jx I k a c hd mk tx hle hpos htx hal hat hgood;have hjx:=tx.rd.le;refine BZ iht tx (λH=>by have :=(hpos H).1;omega) λw' j bad' x vs' t' hsl hrs=>?_
   refine hR _ _ j bad' t'.kr t'.rd ⟨by have :=hrs.le;omega,⟨b,rfl⟩,λH=>?_,λ _ ⟨t,r',ht,e⟩=>?_⟩
   ·obtain⟨e1,p,hp,e2,hpa⟩:=hrs.fine H;refine⟨rfl,mk p,hal e1 p hp,?_,hat (eU.of t' hD hsl ⟨x,rfl,hpa⟩) e1⟩;rw [(hpos e1).2,htx e1,e2,List.append_assoc]
   ·obtain⟨e1,p,hp,e2⟩:=hgood t r' ht e;exact hrs.good e1 ⟨p,r',hp,e2⟩
  refine⟨λJ=>?_,λJ=>?_⟩
  ·
   have J:c7=126:=of_decide_eq_true J;refine⟨t8.cell.1,λw57 μ=>?_⟩;rw [J]at μ;have t57:=t8.AA μ;refine pa (c:=46) hs t57.rd λj58 bad58 w58 k58 h58 hn58=>?_
   have t58:=t57.go k58 h58;refine one [126,46] .tau t58 (by have :=hn.le;have :=hn58.le;omega) (λH=>?_) (λ _ p=>rfl) (λ _ p hp=>hp) (λh _=>h) λt r' ht e=>?_
   ·obtain⟨a1,a2,a3,a4,a5⟩:=hn58.fine H;obtain⟨d1,d2,d3⟩:=first a1;refine⟨by omega,?_⟩;rw [a6 d1,<-d3,<-d2,a6 a2,<-a4,<-a3,J];rfl
   ·cases t with
    | tau p=>
     obtain⟨f1,f2,f3⟩:=G (c:=126) e;obtain⟨g1,g2,g3⟩:=df (c:=46) f3;have f4:=hn58.good f1 g1 g2;obtain⟨_,_,h3,_⟩:=hn58.fine f4;exact⟨f4,p,ht,by rw [h3];exact g3⟩
    | nil=>exact absurd (G (c:=48) e).2.1 hc0
    | snd a x p=>exact(Z ht.1 e).elim
    | rcv a x p=>exact(Z ht.1 e).elim
    | res y p=>have :=(G (c:=35) e).2.1;rw [this]at J;exact absurd J (by decide)
    | mat y z p=>have :=(G (c:=91) e).2.1;rw [this]at J;exact absurd J (by decide)
    | rep p=>have :=(G (c:=42) e).2.1;rw [this]at J;exact absurd J (by decide)
    | sum p q=>have :=(G (c:=40) e).2.1;rw [this]at J;exact absurd J (by decide)
    | par p q=>have :=(G (c:=40) e).2.1;rw [this]at J;exact absurd J (by decide)
  have hc1:c7≠126:=of_decide_eq_false J;refine⟨λJ=>?_,λJ=>?_⟩
  ·
   have J:c7=35:=of_decide_eq_true J;refine uY hs t8.rd λc65 j65 bad65 w66 k66 h66 hn66=>?_
   have t66:=t8.go k66 h66;refine⟨t66.cell.1,λw68 hw68=>?_⟩;rw [J]at hw68;have t68:=t66.AA hw68;refine⟨t68.cell.2.2.1,λw70 hw70=>?_⟩;have t70:=t68.qS hw70;refine pa (c:=46) hs t70.rd λj71 bad71 w71 k71 h71 hn71=>?_
   have t71:=t70.go k71 h71;have fx:bad71=false->lt c65=true:=λH=>(hn66.fine (hn71.fine H).1).2.2.2.2
   refine one [35,c65,46] (.res c65) t71 (by have :=hn.le;have :=hn66.le;have :=hn71.le;omega) (λH=>?_) (λ _ p=>rfl) (λH p hp=>⟨fx H,hp⟩) (λh _=>h) λt r' ht e=>?_
   ·obtain⟨a1,a2,a3,a4,a5⟩:=hn71.fine H;obtain⟨b1,b2,b3,b4,b5⟩:=hn66.fine a1;obtain⟨d1,d2,d3⟩:=first b1;refine⟨by omega,?_⟩;rw [a6 d1,<-d3,<-d2,a6 b2,<-b4,<-b3,a6 a2,<-a4,<-a3,J];rfl
   ·cases t with
    | res y p=>
     obtain⟨f1,f2,f3⟩:=G (c:=35) e;obtain⟨g1,g2,g3⟩:=df (c:=y) f3;have f4:=hn66.good f1 g1 (by rw [g2];exact ht.1);obtain⟨_,_,h3,h4,_⟩:=hn66.fine f4;rw [<-h3]at g3;obtain⟨m1,m2,m3⟩:=df (c:=46) g3;have f6:=hn71.good f4 m1 m2;obtain⟨_,_,o3,_⟩:=hn71.fine f6;exact⟨f6,p,ht.2,by rw [o3];exact m3⟩
    | nil=>exact absurd (G (c:=48) e).2.1 hc0
    | snd a x p=>exact(Z ht.1 e).elim
    | rcv a x p=>exact(Z ht.1 e).elim
    | tau p=>exact absurd (G (c:=126) e).2.1 hc1
    | mat y z p=>have :=(G (c:=91) e).2.1;rw [this]at J;exact absurd J (by decide)
    | rep p=>have :=(G (c:=42) e).2.1;rw [this]at J;exact absurd J (by decide)
    | sum p q=>have :=(G (c:=40) e).2.1;rw [this]at J;exact absurd J (by decide)
    | par p q=>have :=(G (c:=40) e).2.1;rw [this]at J;exact absurd J (by decide)
  have hc2:c7≠35:=of_decide_eq_false J;refine⟨λJ=>?_,λJ=>?_⟩
  ·
   have J:c7=91:=of_decide_eq_true J;refine uY hs t8.rd λc78 j78 bad78 w79 k79 h79 hn79=>?_
   have t79:=t8.go k79 h79;refine⟨t79.cell.1,λw80 hw80=>?_⟩;have t80:=t79.AA (x:=61) hw80;refine⟨t80.cell.2.1,λw81 hw81=>?_⟩;have t81:=t80.xt hw81;refine pa (c:=61) hs t81.rd λj82 bad82 w82 k82 h82 hn82=>?_
   have t82:=t81.go k82 h82;refine uY hs t82.rd λc83 j83 bad83 w83 k83 h83 hn83=>?_
   have t83:=t82.go k83 h83;refine⟨t83.cell.2.2.1,λw84 hw84=>?_⟩;have t84:=t83.qS hw84;refine pa (c:=93) hs t84.rd λj85 bad85 w85 k85 h85 hn85=>?_
   have t85:=t84.go k85 h85;have fx:bad85=false->lt c78=true/\lt c83=true:=λH=>by
    obtain⟨a1,_⟩:=hn85.fine H;obtain⟨b1,_,_,_,b5⟩:=hn83.fine a1;obtain⟨c1,_⟩:=hn82.fine b1;exact⟨(hn79.fine c1).2.2.2.2,b5⟩
   refine one [91,c78,61,c83,93] (.mat c78 c83) t85 (by have :=hn.le;have :=hn79.le;have :=hn82.le;have :=hn83.le;have :=hn85.le;omega) (λH=>?_) (λ _ p=>rfl) (λH p hp=>⟨(fx H).1,(fx H).2,hp⟩) (λh _=>h) λt r' ht e=>?_
   ·obtain⟨a1,a2,a3,a4,a5⟩:=hn85.fine H;obtain⟨b1,b2,b3,b4,b5⟩:=hn83.fine a1;obtain⟨c1,c2,c3,c4,c5⟩:=hn82.fine b1;obtain⟨e1,e2,e3,e4,e5⟩:=hn79.fine c1;obtain⟨d1,d2,d3⟩:=first e1;refine⟨by omega,?_⟩;rw [a6 d1,<-d3,<-d2,a6 e2,<-e4,<-e3,a6 c2,<-c4,<-c3,a6 b2,<-b4,<-b3,a6 a2,<-a4,<-a3,J];rfl
   ·cases t with
    | mat y z p=>
     obtain⟨f1,f2,f3⟩:=G (c:=91) e;obtain⟨g1,g2,g3⟩:=df (c:=y) f3;have f4:=hn79.good f1 g1 (by rw [g2];exact ht.1);obtain⟨_,_,h3,h4,_⟩:=hn79.fine f4;rw [<-h3]at g3;obtain⟨m1,m2,m3⟩:=df (c:=61) g3;have f6:=hn82.good f4 m1 m2;obtain⟨_,_,o3,_⟩:=hn82.fine f6;rw [<-o3]at m3;obtain⟨p1,p2,p3⟩:=df (c:=z) m3;have f7:=hn83.good f6 p1 (by rw [p2];exact ht.2.1);obtain⟨_,_,q3,_⟩:=hn83.fine f7;rw [<-q3]at p3;obtain⟨s1,s2,s3⟩:=df (c:=93) p3;have f8:=hn85.good f7 s1 s2;obtain⟨_,_,u3,_⟩:=hn85.fine f8;exact⟨f8,p,ht.2.2,by rw [u3];exact s3⟩
    | nil=>exact absurd (G (c:=48) e).2.1 hc0
    | snd a x p=>exact(Z ht.1 e).elim
    | rcv a x p=>exact(Z ht.1 e).elim
    | tau p=>exact absurd (G (c:=126) e).2.1 hc1
    | res y p=>exact absurd (G (c:=35) e).2.1 hc2
    | rep p=>have :=(G (c:=42) e).2.1;rw [this]at J;exact absurd J (by decide)
    | sum p q=>have :=(G (c:=40) e).2.1;rw [this]at J;exact absurd J (by decide)
    | par p q=>have :=(G (c:=40) e).2.1;rw [this]at J;exact absurd J (by decide)
  have hc3:c7≠91:=of_decide_eq_false J;refine⟨λJ=>?_,λJ=>?_⟩
  ·
   have J:c7=42:=of_decide_eq_true J;refine⟨t8.cell.1,λw57 μ=>?_⟩;rw [J]at μ;have t57:=t8.AA μ;refine one [42] .rep t57 hn.le (λH=>?_) (λ _ p=>rfl) (λ _ p hp=>hp) (λh _=>h) λt r' ht e=>?_
   ·obtain⟨d1,d2,d3⟩:=first H;refine⟨by omega,?_⟩;rw [a6 d1,<-d3,<-d2,J];rfl
   ·cases t with
    | rep p=>
     obtain⟨f1,f2,f3⟩:=G (c:=42) e;exact⟨f1,p,ht,f3⟩
    | nil=>exact absurd (G (c:=48) e).2.1 hc0
    | snd a x p=>exact(Z ht.1 e).elim
    | rcv a x p=>exact(Z ht.1 e).elim
    | tau p=>exact absurd (G (c:=126) e).2.1 hc1
    | res y p=>exact absurd (G (c:=35) e).2.1 hc2
    | mat y z p=>exact absurd (G (c:=91) e).2.1 hc3
    | sum p q=>have :=(G (c:=40) e).2.1;rw [this]at J;exact absurd J (by decide)
    | par p q=>have :=(G (c:=40) e).2.1;rw [this]at J;exact absurd J (by decide)
  have hc4:c7≠42:=of_decide_eq_false J;refine⟨λJ=>?_,λJ=>?_⟩
  ·
   have J:c7=40:=of_decide_eq_true J;refine iht t8.rd (λH=>by have :=(first H).2.1;have :=(first H).1;omega) λv1 w105 j105 bad105 k105 h105 hs1=>?_
   obtain⟨bv1,hbv1⟩:=hs1.ptr;have t105:=t8.go k105 h105;refine oE hs t105.rd λβ j106 bad106 w107 k107 h107 ν=>?_
   have t107:=t105.go k107 h107;refine⟨t107.cell.1,λw109 hw109=>?_⟩;have t109:=t107.AA hw109;have sz8:=t8.nd.lt;have szk:=k105.size;have hrw8:r< w8.heap.size:=h8.lt;have kK:∀{wa wb:World},Kr r wa wb->Kp wa wb λg=>g=r\/g=b:=λh=>⟨h.os,h.tape,h.output,h.size,λg hg hn=>h.block g hg λe=>hn (.inl e)⟩
   have kS:∀{wa wb:World} {j:Nat} {v:Value},wb=wa.setCell ⟨b,j,none⟩ v->Kp wa wb λg=>g=r\/g=b:=λ{wa wb j v} h=>h▸Kp.set (S:=λg=>g=r\/g=b) (Kp.ah (Ex.refl wa) _) (.inr rfl) v
   have kT:∀{wa wb wc:World},(Kp wa wb λg=>g=r\/g=b)->(Kp wb wc λg=>g=r\/g=b)->Kp wa wc λg=>g=r\/g=b:=λh k=>Kp.trans h k λ _ _ h=>h
   have q109:Kp w105 w109 λg=>g=r\/g=b:=kT (kK k107) (kS hw109)
   have rest:∀{wx:World} {I:Bool},TS w wx r b s j106 I β 0 0 (.slice none 0 0)->(Kp w105 wx λg=>g=r\/g=b)->(I=false->bad106=false/\(β=43\/β=38))->(bad106=false->(β=43\/β=38)->I=false)->
     Calls Tryz.prog 166 #[ptr r] wx (ax [.v] fun(v116:Value) (ξ:World)=>oneV v1=true/\oneV v116=true/\∀(γ:Nat) (ζ:World),γ=Array.size (World.heap ξ)->ζ=World.alloc ξ (Obj.cells #[v1,v116] 88)->
      oneV (Value.slice (some ⟨γ,0,none⟩) 2 2)=true/\((∃u120:Value,World.cell? ζ ⟨b,3,none⟩=some u120)/\World.frozen? ζ ⟨b,3,none⟩=false)/\∀w121:World,w121=World.setCell ζ ⟨b,3,none⟩ (Value.slice (some ⟨γ,0,none⟩) 2 2)->
      Calls Tryz.prog 209 #[ptr r,.int .u8 41] w121 (ax [] λη=>R (Value.pointer (some ⟨b,0,none⟩)) η)):=by
    intro wx I tx qx ς hx2;have szx:=qx.size;refine iht tx.rd (λH=>?_) λv2 ξ j117 bad117 k117 h117 hs2=>?_
    ·obtain⟨a1,a2,a3,_⟩:=ν.fine (ς H).1;have :=(hs1.fine a1).1;have :=(first this).2.1;have :=hs1.le;omega
    obtain⟨bv2,hbv2⟩:=hs2.ptr;have t117:=tx.go k117 h117;refine⟨by rw [hbv1];rfl,by rw [hbv2];rfl,λγ ζ hb118 χ=>⟨rfl,?_⟩⟩;have hx119:Ex ξ ζ:=χ▸Ex.alloc ξ _;have t119:=t117.ex hx119;refine⟨t119.cell.2.2.2.1,λw121 ο=>?_⟩;have t121:=t119.AW ο;refine pa (c:=41) hs t121.rd λj122 bad122 η k122 h122 hn122=>?_
    have t122:=t121.go k122 h122;have sz117:=k117.size;have q119:Kp ξ ζ λg=>g=r\/g=b:=Kp.ah hx119 _
    have q122:Kp ξ η λg=>g=r\/g=b:=kT (kT q119 (kS ο)) (kK k122)
    have qall:Kp w105 η λg=>g=r\/g=b:=kT (kT qx (kK k117)) q122
    have hbl:γ< η.heap.size:=by
     have :=k122.size;rw [ο,World.size_setCell,χ,size_alloc,<-hb118]at this;omega
    have hkr:=t8.kr.size;have hsl:ee (λg=>w.heap.size<=g) η (.slice (some ⟨γ,0,none⟩) 2 2) [v1,v2]:=by
     refine .inr ⟨γ,0,2,rfl,by omega,hbl,λi x hx=>?_⟩;have hne:γ≠b:=by omega
     have hblk:η.heap[γ]?=ζ.heap[γ]?:=by
      rw [k122.block γ (by rw [ο,World.size_setCell,χ,size_alloc];omega) (by omega),ο,Below.heap_setCell _ _ _ _ (show γ≠b from hne)]
     rw [World.cell?_of_block (w:=ζ) hblk,χ,hb118]
     match i,hx with
     | 0,hx=>simp at hx;subst hx;exact aa rfl
     | 1,hx=>simp at hx;subst hx;exact aa rfl
     | i+2,hx=>simp at hx
    refine hR _ _ j122 bad122 t122.kr t122.rd ⟨by have :=hn.le;have :=hs1.le;have :=ν.le;have :=hs2.le;have :=hn122.le;omega,⟨b,rfl⟩,λH=>?_,λ _ ⟨t,r',ht,e⟩=>?_⟩
    ·obtain⟨a1,a2,a3,a4,a5⟩:=hn122.fine H;obtain⟨b1,q,hq,b2,b3⟩:=hs2.fine a1;obtain⟨b0,hk⟩:=ς b1;obtain⟨c1,c2,c3,c4,_⟩:=ν.fine b0;obtain⟨e1,p,hp,e2,e3⟩:=hs1.fine c1;obtain⟨d1,d2,d3⟩:=first e1;have ε:s.drop i=40::(p.text++(β::(q.text++(41::s.drop j122)))):=by
      rw [a6 d1,<-d3,<-d2,e2,a6 c2,<-c4,<-c3,b2,a6 a2,<-a4,<-a3,J]
     have k1:aF (λg=>w.heap.size<=g) η p v1:=aF.mono (λg hg=>by omega) (aF.kp qall (λg hg hS=>by rcases hS with h | h<;>omega) e3);have k2:aF (λg=>w.heap.size<=g) η q v2:=aF.mono (λg hg=>by omega) (aF.kp q122 (λg hg hS=>by rcases hS with h | h<;>omega) b3);rcases hk with hk | hk
     ·subst hk;exact⟨rfl,.sum p q,⟨hp,hq⟩,by rw [ε];simp [T.text],eU.of t122 hD hsl ⟨v1,v2,rfl,k1,k2⟩⟩
     ·subst hk;exact⟨rfl,.par p q,⟨hp,hq⟩,by rw [ε];simp [T.text],eU.of t122 hD hsl ⟨v1,v2,rfl,k1,k2⟩⟩
    ·have key:∀{d:UInt8} {p q:P},(d=43\/d=38)->p.Al (λc=>lt c=true)->q.Al (λc=>lt c=true)->s.drop i=40::(p.text++(d::(q.text++(41::r'))))->bad122=false:=by
      intro d p q hd hp hq he;obtain⟨f1,f2,f3⟩:=G he;have g1:=hs1.good f1 ⟨p,_,hp,f3⟩;obtain⟨_,p',hp',g2,_⟩:=hs1.fine g1;rw [g2]at f3;obtain⟨rfl,g3⟩:=kQ hp'.wf hp.wf f3;obtain⟨k1,k2,k3⟩:=df g3;have f4:=ν.good g1 k1 trivial;obtain⟨_,_,h3,h4,_⟩:=ν.fine f4;have f5:=hx2 f4 (by rw [h4,k2];exact hd);rw [<-h3]at k3;have f6:=hs2.good f5 ⟨q,_,hq,k3⟩;obtain⟨_,q',hq',g4,_⟩:=hs2.fine f6;rw [g4]at k3;obtain⟨rfl,g5⟩:=kQ hq'.wf hq.wf k3;obtain⟨l1,l2,l3⟩:=df g5;exact hn122.good f6 l1 l2
     cases t with
     | sum p q=>exact key (.inl rfl) ht.1 ht.2 (by rw [e];simp [T.text])
     | par p q=>exact key (.inr rfl) ht.1 ht.2 (by rw [e];simp [T.text])
     | nil=>exact absurd (G (c:=48) e).2.1 hc0
     | snd a x p=>exact(Z ht.1 e).elim
     | rcv a x p=>exact(Z ht.1 e).elim
     | tau p=>exact absurd (G (c:=126) e).2.1 hc1
     | res y p=>exact absurd (G (c:=35) e).2.1 hc2
     | mat y z p=>exact absurd (G (c:=91) e).2.1 hc3
     | rep p=>exact absurd (G (c:=42) e).2.1 hc4
   refine⟨β,t109.nd.c0,λθ=>⟨β,t109.nd.c0,λι=>⟨r,0,rfl,t109.cell.2.2.2.2,λw22 hw22=>?_⟩,λι=>?_⟩,λθ=>?_⟩
   ·have θ:¬β=43:=by simpa using θ
    have ι:¬β=38:=by simpa using ι
    exact rest (t109.CA hw22) (kT q109 (kK (hw22▸Kr.set w109 2 _))) (λh=>by cases h) (λ _ h=>by rcases h with h | h<;>contradiction)
   ·have ι:β=38:=by simpa using ι
    exact rest t109 q109 (λh=>⟨h,.inr ι⟩) (λh _=>h)
   ·have θ:β=43:=by simpa using θ
    exact rest t109 q109 (λh=>⟨h,.inl θ⟩) (λh _=>h)
  ·
   have hc5:c7≠40:=of_decide_eq_false J;refine⟨r,0,rfl,t8.cell.2.2.2.2,λw57 μ=>?_⟩;have t57:=t8.CA μ;refine one [] .tau t57 hn.le (λH=>by cases H) (λH=>by cases H) (λ _ p hp=>hp) (λh H=>by cases H) λt r' ht e=>?_
   exfalso;cases t with
   | nil=>exact absurd (G (c:=48) e).2.1 hc0
   | snd a x p=>exact(Z ht.1 e).elim
   | rcv a x p=>exact(Z ht.1 e).elim
   | tau p=>exact absurd (G (c:=126) e).2.1 hc1
   | res y p=>exact absurd (G (c:=35) e).2.1 hc2
   | mat y z p=>exact absurd (G (c:=91) e).2.1 hc3
   | rep p=>exact absurd (G (c:=42) e).2.1 hc4
   | sum p q=>exact absurd (G (c:=40) e).2.1 hc5
   | par p q=>exact absurd (G (c:=40) e).2.1 hc5
 induction n with
 | zero=>exact main 0 λm hm=>by omega
 | succ n ih=>exact main (n+1) λm hm=>(show n=m by omega)▸ih
def Il:Shelf.Ren where
 f:=λx=>if x=137 then 168 else if x=217 then 210 else if x=266 then 232 else x
 t:=λx=>if x=3 then 3 else if x=5 then 5 else if x=9 then 9 else x
 g:=λx=>x
theorem FI:Lays.n137 Tryz.prog Il where
 mixed:=Eq.refl true
 f137:=Eq.trans Tryz.func168 (by kernel_rfl)
 f217:=Eq.trans Tryz.func210 (by kernel_rfl)
 f266:=Eq.trans Tryz.func232 (by kernel_rfl)
 t3:=Tryz.underlying3
 a3:=Tryz.isAgg3
 z3:=Tryz.sizeOf3
 v3:=Tryz.zeroValue3
 t5:=Tryz.underlying5
 a5:=Tryz.isAgg5
 z5:=Tryz.sizeOf5
 v5:=Tryz.zeroValue5
 t9:=Tryz.underlying9
 a9:=Tryz.isAgg9
 z9:=Tryz.sizeOf9
 v9:=Tryz.zeroValue9
theorem qa {s:Tx}{c:UInt8}{w:World}{R:Int->World->Prop}(h:R (Lib.indexByte s c) w):
  Calls Tryz.prog 168 #[.string (ab s),.int .u8 c.toNat] w (ax [.i] R):=by
 refine(Any.strings_IndexByte FI (ab s) c.toNat w).mono ?_
 rintro e w' ⟨rfl,rfl⟩
 have G:UInt8.ofNat c.toNat=c:=by simp
 have z:(Int.toNat (c.toNat:Int)).toUInt8=c:=by simp
 rw [z];exact⟨_,rfl,h⟩
abbrev Lt (t:P):Prop:=t.Al λc=>lt c=true
abbrev xU (w:World):Nat->Prop:=λg=>w.heap.size<=g
theorem zX {s:Tx}(hs:s.length<=1099511627776){w:World}{R:Value->Bool->World->Prop}
  (hR:∀v q w',Ex w w'->(q=true->∃t:P,Lt t/\s=t.text/\aF (xU w) w' t v)->(q=false->∀t:P,Lt t->s≠t.text)->R v q w'):
  Calls Tryz.prog 123 #[.string (ab s)] w (ax [.v,.b] R):=by
 refine ta s w R ?_;intro b w1 hb z;have Z:Ex w w1:=z▸Ex.alloc w _;have β:w1.heap.size=w.heap.size+1:=by rw [z,size_alloc]
 have h1:Rd w1 b s 0 false:=by
  refine⟨by omega,Nat.zero_le _,?_,?_,?_,?_,?_⟩
  ·rw [z,hb];exact aa rfl
  ·rw [z,hb];exact aa rfl
  ·rw [z,hb];exact aa rfl
  ·rw [z,hb];unfold World.frozen? World.alloc;simp
  ·rw [z,hb];unfold World.frozen? World.alloc;simp
 have hT:tD s (s.length+1):=GX s hs (s.length+1);refine hT h1 (λ _=>by omega) λv w2 j bad k2 I hr=>?_
 refine⟨λw'=>Ex w2 w',λw3 J=>⟨J▸Ex.drew w2,bad,λw' V=>(I.same V.size (V.block b I.lt)).c2,?_⟩⟩;have W:Ex w2 w3:=J▸Ex.drew w2;have hex:Ex w w3:=by
  exact Ex.trans (Ex.below Z (Kp.below (B:=w.heap.size) k2 (by omega) (λg hg e=>by omega))) W
 refine⟨λG=>?_,λG=>?_⟩
 ·have G:bad=false:=by simpa using G
  obtain⟨_,t,ht,e,α⟩:=hr.fine G;refine⟨j,λw' V=>(I.same V.size (V.block b I.lt)).c1,hR _ _ _ hex (λhd=>?_) λhd t' H e'=>?_⟩
  ·have hd:=of_decide_eq_true hd;have:s.drop j=[]:=List.drop_eq_nil_of_le (by omega);rw [this,List.drop_zero,List.append_nil]at e;exact⟨t,ht,e,aF.mono (λg hg=>by omega) (aF.kp (Kp.ah W λ _=>False) (λ _ _ h=>h) α)⟩
  ·have hd:=of_decide_eq_false hd;rw [List.drop_zero]at e;have e2:t'.text++[]=t.text++s.drop j:=by rw [List.append_nil,<-e'];exact e
   obtain⟨_,e3⟩:=kQ H.wf ht.wf e2;have :=List.drop_eq_nil_iff.1 e3.symm;have :=I.le;omega
 ·have G:bad=true:=by simpa using G
  refine hR _ _ _ hex (λh=>by cases h) λ _ t' H e'=>?_
  have :=hr.good rfl ⟨t',[],H,by rw [List.drop_zero,List.append_nil,e']⟩;rw [G]at this;cases this
theorem ni {t:P}(H:Lt t):cW t.text↔t.text.length<=300/\t.size<=60:=by
 constructor
 ·rintro⟨z,u,G,I,h4⟩
  have :=dZ G.wf H.wf I;subst this;exact⟨z,h4⟩
 ·rintro⟨z,G⟩
  exact⟨z,t,H,rfl,G⟩
theorem yf {s:Tx}{w:World}{R:Value->Bool->World->Prop}
  (I:∀v q w',Ex w w'->(q=true->cW s/\∃t:P,Lt t/\s=t.text/\aF (xU w) w' t v)->(q=false->¬cW s)->R v q w'):
  Calls Tryz.prog 79 #[.string (ab s)] w (ax [.v,.b] R):=by
 refine uG s w R ?_;refine⟨λz=>?_,λz=>?_⟩
 ·have z:=of_decide_eq_true z;refine I _ _ _ (Ex.refl w) (λh=>by cases h) λ _ W=>?_
  have :=W.1;omega
 ·have z:=of_decide_eq_false z;refine zX (by omega) λv q w' V Z h2=>⟨λJ=>?_,λJ=>?_⟩
  ·obtain⟨t,G,e,H⟩:=Z J;have hs:=bs t;refine EB t.size (Nat.le_refl _) H (by rw [<-e]at hs;omega) (I _ _ _ V (λhd=>?_) λhd=>?_)
   ·have hd:=of_decide_eq_true hd;exact⟨by rw [e];exact(ni G).2 ⟨by rw [<-e];omega,by omega⟩,t,G,e,H⟩
   ·have hd:=of_decide_eq_false hd;rw [e,ni G];omega
  ·exact I _ _ _ V (λh=>by cases h) λ _ ⟨_,t,G,e,_⟩=>h2 J t G e.symm
theorem xO {s:Tx}{w:World}{R:Bool->World->Prop}(z:∀q w',Ex w w'->(q=true↔cW s)->R q w'):
  Calls Tryz.prog 238 #[.string (ab s)] w (ax [.b] R):=by
 refine nW s w R ?_;refine yf λv q w' G H I=>z q w' G ⟨λh=>(H h).1,λh=>?_⟩
 cases q
 ·exact absurd h (I rfl)
 ·rfl
theorem E8 {D:Nat->Prop}{t:P}{v:Value}{w:World}(h:aF D w t v){R:Bool->World->Prop}(z:R (decide (t.kind=63)||decide (t.kind=35)) w):
  Calls Tryz.prog 129 #[v] w (ax [.b] R):=by
 refine nk v w R ?_;obtain⟨b,vs,l,rfl,I,J,H,h4,h5,V,W,Z⟩:=h.inv;refine⟨b,0,rfl,t.kind,H,λG=>⟨b,0,rfl,t.kind,H,?_⟩,λG=>?_⟩
 ·rw [G,Bool.false_or]at z;exact z
 ·rw [G,Bool.true_or]at z;exact z
def T.ev (p:P->Bool):P->Bool
 | .nil=>p .nil
 | .snd a b q=>p (.snd a b q)&&q.ev p
 | .rcv a b q=>p (.rcv a b q)&&q.ev p
 | .tau q=>p (.tau q)&&q.ev p
 | .sum q r=>p (.sum q r)&&(q.ev p&&r.ev p)
 | .par q r=>p (.par q r)&&(q.ev p&&r.ev p)
 | .res a q=>p (.res a q)&&q.ev p
 | .mat a b q=>p (.mat a b q)&&q.ev p
 | .rep q=>p (.rep q)&&q.ev p
theorem qU (p:P->Bool)(t:P):t.ev p=(p t&&t.parts.all (·.ev p)):=by cases t<;>simp [T.ev,T.parts]
def wM (f:Nat)(p:P->Bool):Prop:=dy.contains f=true/\∀{D:Nat->Prop} {t:P} {v:Value} {w:World} {R:Bool->World->Prop},aF D w t v->R (p t) w->Calls Tryz.prog f #[v] w (ax [.b] R)
structure uy (w:World)(bo bh f:Nat)(q:Bool):Prop where
 lt:bo< w.heap.size
 lh:bh< w.heap.size
 ne:bh≠bo
 c:w.cell? ⟨bo,0,none⟩=some (.bool q)
 fr:w.frozen? ⟨bo,0,none⟩=false
 h:w.cell? ⟨bh,0,none⟩=some (.func (.func f) #[] #[])
theorem uy.set {w:World}{bo bh f:Nat}{q:Bool}(h:uy w bo bh f q)(x:Bool):uy (w.setCell ⟨bo,0,none⟩ (.bool x)) bo bh f x:=
 ⟨by rw [World.size_setCell];exact h.lt,by rw [World.size_setCell];exact h.lh,h.ne,World.cell?_setCell_same _ _ _ h.c,by rw [World.frozen?_setCell];exact h.fr,by
  rw [World.cell?_setCell_other _ _ _ _ (by have :=h.ne;simp [this])];exact h.h⟩
theorem FH {f:Nat}{p:P->Bool}(I:wM f p){D:Nat->Prop}{t:P}{v:Value}{w:World}{bo bh:Nat}{q:Bool}(V:aF D w t v)(z:uy w bo bh f q){R:World->Prop}
  (J:∀w',Kr bo w w'->uy w' bo bh f (q&&p t)->R w'):Calls Tryz.prog 170 #[v,ptr bo,ptr bh] w (ax [] R):=by
 refine ng v _ _ w R ?_;refine⟨bo,0,rfl,q,z.c,λH=>⟨bh,0,rfl,_,z.h,f,[],rfl,I.1,I.2 V ⟨bo,0,rfl,⟨⟨_,z.c⟩,z.fr⟩,λw' G=>?_⟩⟩,λH=>⟨bo,0,rfl,⟨⟨_,z.c⟩,z.fr⟩,λw' G=>?_⟩⟩
 ·subst G;refine J _ (Kr.set w 0 _) ?_;rw [H,Bool.true_and];exact z.set _
 ·subst G;refine J _ (Kr.set w 0 _) ?_;rw [H,Bool.false_and];exact z.set _
theorem GO {f:Nat}{p:P->Bool}(hp:wM f p):∀(n:Nat) {D:Nat->Prop} {t:P} {v:Value} {w:World} {bo bh:Nat} {q:Bool},t.size<=n->aF D w t v->(∀g,D g->¬g=bo)->uy w bo bh f q->∀{R:World->Prop},
  (∀w',Kr bo w w'->uy w' bo bh f (q&&t.ev p)->R w')->Calls Tryz.prog 169 #[v,.func (.func 170) #[] #[ptr bo,ptr bh]] w (ax [] R):=by
 intro n
 induction n with
 | zero=>intro D t v w _ _ _ h;have :=aY t;omega
 | succ n ih=>
  intro D t v w bo bh q hn ht I hs R hR;refine nz v _ w R ?_;refine⟨170,[ptr bo,ptr bh],rfl,by kernel_rfl,?_⟩;refine FH hp ht hs λw1 k1 h1=>?_
  have J:=aF.kp k1 I ht;obtain⟨b,vs,l,rfl,g1,g2,g3,g4,g5,g6,g7,g8⟩:=J.inv;obtain⟨a,cap,hv⟩:=g7.slice;have e:=r9 t;refine⟨b,0,rfl,vs,g6,a,_,cap,hv,λx w'=>∃i:Nat,x=i/\i<=l.length/\Kr bo w w'/\Kr bo w1 w'/\uy w' bo bh f ((q&&p t)&&(t.parts.take i).all (·.ev p)),λx _=>(l.length - x).toNat,⟨0,rfl,by omega,k1,Kr.refl _ _,by simpa using h1⟩,λx w2 hI=>?_⟩;obtain⟨i,rfl,hi,k2,V,W⟩:=hI;refine⟨λH=>?_,λH=>?_⟩
  ·have H:=of_decide_eq_true H;have z:i< l.length:=by omega
   have G:i< t.parts.length:=by rw [<-g8.1];exact z
   refine(g7.kp V I).get (i:=i) (x:=l[i]) (by omega) (by simp [z]) ?_;have Z:=g8.2 i _ _ (List.getElem?_eq_getElem z) (List.getElem?_eq_getElem G);have Z:=aF.kp V I Z;obtain⟨α,β⟩:=ui T.size t.parts G;have γ:=dI t;refine ih (by omega) Z I W λw4 k4 h4=>⟨by unfold aj;omega,⟨i+1,by omega,by omega,Kr.trans k2 k4,Kr.trans V k4,?_⟩,by dsimp only;omega⟩
   rw [List.take_succ_eq_append_getElem G,List.all_append,<-Bool.and_assoc];simpa using h4
  ·have H:=of_decide_eq_false H;have:i=t.parts.length:=by rw [<-g8.1];omega
   subst this;rw [List.take_length,Bool.and_assoc,<-qU]at W;exact hR _ k2 W
theorem Fh {f:Nat}{p:P->Bool}(hp:wM f p){D:Nat->Prop}{t:P}{v:Value}{w:World}(ht:aF D w t v)(hD:∀g,D g->g< w.heap.size){R:Bool->World->Prop}(hR:∀w',Ex w w'->R (t.ev p) w'):
  Calls Tryz.prog 126 #[v,.func (.func f) #[] #[]] w (ax [.b] R):=by
 refine pq v _ w R ?_;refine⟨rfl,λb1 w1 J G b2 w2 H z=>?_⟩;have x1:Ex w w1:=G▸Ex.alloc w _;have V:Ex w1 w2:=z▸Ex.alloc w1 _;have s1:w1.heap.size=w.heap.size+1:=by rw [G,size_alloc]
 have s2:w2.heap.size=w1.heap.size+1:=by rw [z,size_alloc]
 have c2:w2.cell? ⟨b2,0,none⟩=some (.bool false):=by rw [z,H];exact aa rfl
 have f2:w2.frozen? ⟨b2,0,none⟩=false:=by rw [z,H];unfold World.frozen? World.alloc;simp
 have c1:w2.cell? ⟨b1,0,none⟩=some (.func (.func f) #[] #[]):=by
  rw [V.cell (show b1< _ by omega),G,J];exact aa rfl
 have hA:uy w2 b2 b1 f false:=⟨by omega,by omega,by omega,c2,f2,c1⟩
 refine⟨⟨⟨_,c2⟩,f2⟩,λw3 W=>?_⟩;subst W;have Z:aF D w2 t v:=aF.kp (Kp.ah (Ex.trans x1 V) λ _=>False) (λ _ _ h=>h) ht;have I:∀g,D g->¬g=b2:=λg hg e=>by have :=hD g hg;omega
 have α:aF D (w2.setCell ⟨b2,0,none⟩ (.bool true)) t v:=aF.kp (Kr.set w2 0 _) I Z;refine GO hp t.size (Nat.le_refl _) α I (hA.set true) λw4 k4 h4=>⟨_,h4.c,?_⟩
 rw [Bool.true_and];exact hR w4 (Ex.below (Ex.trans x1 V) (Kp.below (B:=w.heap.size) (Kr.trans (Kr.set w2 0 _) k4) (by omega) λg hg e=>by omega))
def T.gd1:P->Bool
 | .sum p q=>p.gp&&q.gp
 | _=>true
def T.rp1:P->Bool
 | .rep p=>p.isR
 | _=>true
theorem dT:∀t:P,t.smp=(t.ev T.gd1&&t.ev T.rp1)
 | .nil=>rfl
 | .snd _ _ p=>by have :=dT p;simp [T.smp,T.ev,T.gd1,T.rp1,this]
 | .rcv _ _ p=>by have :=dT p;simp [T.smp,T.ev,T.gd1,T.rp1,this]
 | .tau p=>by have :=dT p;simp [T.smp,T.ev,T.gd1,T.rp1,this]
 | .res _ p=>by have :=dT p;simp [T.smp,T.ev,T.gd1,T.rp1,this]
 | .mat _ _ p=>by have :=dT p;simp [T.smp,T.ev,T.gd1,T.rp1,this]
 | .rep p=>by have :=dT p;simp only [T.smp,T.ev,T.gd1,T.rp1,this,Bool.true_and];cases p.isR<;>simp
 | .par p q=>by have :=dT p;have h:=dT q;simp only [T.smp,T.ev,T.gd1,T.rp1,this,h,Bool.true_and];ac_rfl
 | .sum p q=>by have :=dT p;have h:=dT q;simp only [T.smp,T.ev,T.gd1,T.rp1,this,h,Bool.true_and];ac_rfl
theorem BR (t:P):decide (0<=Lib.indexByte [33,63,126,43,48] t.kind)=t.gp:=by cases t<;>rfl
theorem yh:wM 167 T.gd1:=by
 refine⟨by kernel_rfl,λ{D t v w R} I z=>?_⟩;refine jF v w R ?_;obtain⟨b,vs,l,rfl,g1,g2,g3,g4,g5,g6,g7,g8⟩:=I.inv;refine⟨b,0,rfl,_,g3,λH=>?_,λH=>?_⟩
 ·obtain⟨p,q,rfl⟩:∃p q,t= .sum p q:=by cases t<;>simp [T.kind]at H|-
  have J:l.length=2:=g8.1;obtain⟨x,y,rfl⟩:∃x y,l=[x,y]:=by
   match l,J with
   | [x,y],_=>exact⟨x,y,rfl⟩
  have V:=g8.2 0 x p rfl rfl;have W:=g8.2 1 y q rfl rfl;obtain⟨b1,_,_,Z,_,_,i1,_⟩:=V.inv;obtain⟨b2,_,_,e2,_,_,i2,_⟩:=W.inv;refine⟨b,0,rfl,vs,g6,g7.get (i:=0) (x:=x) (by omega) rfl ⟨b1,0,Z,_,i1,qa ⟨λG=>⟨b,0,rfl,vs,g6,g7.get (i:=1) (x:=y) (by omega) rfl ⟨b2,0,e2,_,i2,qa ?_⟩⟩,λG=>?_⟩⟩⟩
  ·rw [BR]at G|-;rw [T.gd1,G]at z;exact z
  ·rw [BR]at G;rw [T.gd1,G]at z;exact z
 ·have:T.gd1 t=true:=by cases t<;>first | rfl | simp [T.kind]at H
  rw [this]at z;exact z
theorem AM:wM 127 T.rp1:=by
 refine⟨by kernel_rfl,λ{D t v w R} H z=>?_⟩;refine jR v w R ?_;obtain⟨b,vs,l,rfl,g1,g2,g3,g4,g5,g6,g7,g8⟩:=H.inv;refine⟨b,0,rfl,_,g3,λG=>?_,λG=>?_⟩
 ·obtain⟨p,rfl⟩:∃p,t= .rep p:=by cases t<;>simp [T.kind]at G|-
  have I:l.length=1:=g8.1;obtain⟨x,rfl⟩:∃x,l=[x]:=by
   match l,I with
   | [x],_=>exact⟨x,rfl⟩
  have J:=g8.2 0 x p rfl rfl;obtain⟨b1,_,_,V,_,_,i1,_⟩:=J.inv;refine⟨b,0,rfl,vs,g6,g7.get (i:=0) (x:=x) (by omega) rfl ⟨b1,0,V,_,i1,?_⟩⟩;have:decide (p.kind=63)=p.isR:=by cases p<;>rfl
  show R (decide (p.kind=63)) _;rw [this];exact z
 ·have:T.rp1 t=true:=by cases t<;>first | rfl | simp [T.kind]at G
  rw [this]at z;exact z
theorem xi {D:Nat->Prop}{t:P}{v:Value}{w:World}(H:aF D w t v)(I:∀g,D g->g< w.heap.size){R:Bool->World->Prop}(J:∀w',Ex w w'->R t.smp w'):
  Calls Tryz.prog 80 #[v] w (ax [.b] R):=by
 refine my v w R ?_;refine kV v w _ ?_;refine Fh yh H I λw1 z=>⟨λG=>?_,λG=>?_⟩
 ·refine Fh AM (aF.kp (Kp.ah z λ _=>False) (λ _ _ h=>h) H) (λg V=>by have :=I g V;have :=z.size;omega) λw2 W=>?_
  have :=J w2 (Ex.trans z W);rw [dT,G,Bool.true_and]at this;exact this
 ·have :=J w1 z;rw [dT,G,Bool.false_and]at this;exact this
theorem aF.bound {D:Nat->Prop}{w:World}:∀{t:P} {v:Value},aF D w t v->aF (λg=>D g/\g< w.heap.size) w t v:=by
 have key:∀{v:Value} {k a c:UInt8} {K V:List Value->Prop},eU D w v k a c K->(∀l,K l->V l)->eU (λg=>D g/\g< w.heap.size) w v k a c V:=by
  rintro v k a c K V ⟨b,vs,l,z,G,J,h4,h5,W,Z,h8,h9⟩ hK
  refine⟨b,vs,l,z,⟨G,J⟩,J,h4,h5,W,Z,?_,hK l h9⟩;rcases h8 with h | ⟨b',off,cap,i1,i2,i3,i4⟩
  ·exact .inl h
  ·exact .inr ⟨b',off,cap,i1,⟨i2,i3⟩,i3,i4⟩
 intro t
 induction t with
 | nil=>exact λh=>key h λ _ h=>h
 | snd _ _ p H=>exact λh=>key h λ _ ⟨x,z,G⟩=>⟨x,z,H G⟩
 | rcv _ _ p H=>exact λh=>key h λ _ ⟨x,z,G⟩=>⟨x,z,H G⟩
 | tau p H=>exact λh=>key h λ _ ⟨x,z,G⟩=>⟨x,z,H G⟩
 | res _ p H=>exact λh=>key h λ _ ⟨x,z,G⟩=>⟨x,z,H G⟩
 | mat _ _ p H=>exact λh=>key h λ _ ⟨x,z,G⟩=>⟨x,z,H G⟩
 | rep p H=>exact λh=>key h λ _ ⟨x,z,G⟩=>⟨x,z,H G⟩
 | sum p q H I=>exact λh=>key h λ _ ⟨x,y,z,G,J⟩=>⟨x,y,z,H G,I J⟩
 | par p q H I=>exact λh=>key h λ _ ⟨x,y,z,G,J⟩=>⟨x,y,z,H G,I J⟩
theorem uU {s:Tx}{w:World}{R:Value->Bool->World->Prop}
  (V:∀v q w',Ex w w'->(q=true->cW s/\∃t:P,Lt t/\s=t.text/\t.smp=true/\aF (xU w) w' t v)->(q=false->∀t:P,cW s->Lt t->s=t.text->t.smp=false)->R v q w'):
  Calls Tryz.prog 67 #[.string (ab s)] w (ax [.v,.b] R):=by
 refine mQ s w R ?_;refine yf λv q w1 W h1 h2=>⟨λH=>?_,λH=>?_⟩
 ·obtain⟨z,t,Z,e,G⟩:=h1 H;refine xi G.bound (λg z=>z.2) λw2 x2=>V _ _ _ (Ex.trans W x2) (λI=>⟨z,t,Z,e,I,?_⟩) λI t' _ J e'=>?_
  ·exact aF.kp (Kp.ah x2 λ _=>False) (λ _ _ h=>h) G
  ·have :=dZ J.wf Z.wf (e'.symm.trans e);subst this;exact I
 ·exact V _ _ _ W (λh=>by cases h) λ _ t z _ _=>absurd z (h2 H)
end Go.Proofs.YtdecokaadekjnaaGreat
namespace Go.Proofs.YtdecokaadekjnaaGreat
open Go
set_option maxRecDepth 100000
theorem nY (w:World)(R:Value->World->Prop)(h:aR w (.cells #[(.int .i64 0),(.int .i64 0),(.int .i64 0),(.int .i64 0),(.int .i64 0),(.int .i64 0),(.int .i64 0),(.int .i64 0),(.int .i64 0),(.int .i64 0),(.int .i64 0),(.int .i64 0),(.int .i64 0),(.int .i64 0),(.int .i64 0),(.int .i64 0),(.int .i64 0),(.int .i64 0),(.int .i64 0),(.int .i64 0),(.int .i64 0),(.int .i64 0),(.int .i64 0),(.int .i64 0),(.int .i64 0),(.int .i64 0)] 150) λb1 w2=>aR w2 (.cells #[(.int .i64 0),(.int .i64 0),(.int .i64 0),(.int .i64 0),(.int .i64 0),(.int .i64 0),(.int .i64 0),(.int .i64 0),(.int .i64 0),(.int .i64 0),(.int .i64 0),(.int .i64 0),(.int .i64 0),(.int .i64 0),(.int .i64 0),(.int .i64 0),(.int .i64 0),(.int .i64 0),(.int .i64 0),(.int .i64 0),(.int .i64 0),(.int .i64 0),(.int .i64 0),(.int .i64 0),(.int .i64 0),(.int .i64 0)] 150) λb3 Z=>uH Z b3 0 26 [(.int .i64 0),(.int .i64 0),(.int .i64 0),(.int .i64 0),(.int .i64 0),(.int .i64 0),(.int .i64 0),(.int .i64 0),(.int .i64 0),(.int .i64 0),(.int .i64 0),(.int .i64 0),(.int .i64 0),(.int .i64 0),(.int .i64 0),(.int .i64 0),(.int .i64 0),(.int .i64 0),(.int .i64 0),(.int .i64 0),(.int .i64 0),(.int .i64 0),(.int .i64 0),(.int .i64 0),(.int .i64 0),(.int .i64 0)] λw5=>fZ 0 w5 λI6 W z V=>ai (decide (z< 26)) ((0<=(z:Int)/\(z:Int)< (26:Nat))/\bj V b3 (0+z.toNat* 1) (.int .i64 z) λI=>aj (z+1)/\I6 (z+1) I/\W (z+1) I< W z V) (∃G:List Value,G.length=26/\(∀j,j< 26->World.cell? V ⟨b3,0+j,none⟩=G[j]?)/\uH V b1 0 26 G λJ=>∃H:List Value,H.length=26/\(∀j,j< 26->World.cell? J ⟨b1,0+j,none⟩=H[j]?)/\R ((.agg (List.toArray H))) J)):
  Calls Tryz.prog 138 #[] w (ax [.v] R):=
 bc (a8 [(3,[(4,.i)])] [] []) [.agg 0 150] [] Tryz.func138 (by kernel_rfl) h
theorem kC (z:Value)(w:World)(R:Int->World->Prop)(h:az z λb2 V=>oI w b2 (V+0) λI=>aj (I+1)/\az z λb5 W=>bj w b5 (W+0) (.int .i64 (I+1)) λJ=>az z λb9 H=>oI J b9 (H+0) λG=>aj (G+100)/\R (G+100) J):
  Calls Tryz.prog 178 #[z] w (ax [.i] R):=
 bc (a8 [] [] []) [.tmp 2 .i] [.v z] Tryz.func178 (by kernel_rfl) h
theorem kf (z:Value)(W:Value)(w:World)(R:World->Prop)(h:bJ w λG w4=>az z λb5 o6=>cA G b5 (o6+0) λv7=>az W λb8 o9=>cA G b8 (o9+0) λv10=>az z λZ α=>cA G Z (α+1) λβ=>az W λγ δ=>cA G γ (δ+1) λε=>fB 3 1 8 w4 v7 v10 λH I=>G I/\fB 156 1 8 I β ε λJ V=>G V/\az z λζ η=>oneV H=true/\bj V ζ (η+0) H λθ=>az z λι κ=>oneV J=true/\bj θ ι (κ+1) J λμ=>R μ):
  Calls Tryz.prog 179 #[z,W] w (ax [] R):=
 bc (a8 [] [] [0]) [] [.v z,.v W] Tryz.func179 (by kernel_rfl) h
theorem nF (m1:Value)(t2:Value)(e3:Value)(w:World)(R:Value->World->Prop)(h:∃c4:List Value,e3= .agg (List.toArray c4)/\aR w (.cells (List.toArray c4) 150) λb5 w6=>az t2 λb7 o8=>fK w6 b7 (o8+0) λc9=>aR w6 (.cells #[(.int .u8 c9.toNat),(.int .i64 0),(.int .i64 0),(.pointer none),(.slice none 0 0)] 201) λb10 J=>∃ο:World->Prop,(az t2 λb13 o14=>fK J b13 (o14+1) λc15=>ai (!decide (c15=0)) (az t2 λb16 o17=>fK J b16 (o17+1) λc18=>(0<=((UInt8.toNat (c18 - 97:UInt8):Int):Int)/\((UInt8.toNat (c18 - 97:UInt8):Int):Int)< (26:Nat))/\oI J b5 (0+Int.toNat (UInt8.toNat (c18 - 97:UInt8):Int)* 1) λn19=>bj J b10 1 (.int .i64 n19) λw21=>ο w21) (ο J))/\∀(w22:World),ο w22->∃ς:World->Prop,(bT 129 #[t2] w22 λq24 w25=>ai q24 (bJ w25 λS26 w27=>az t2 λb28 o29=>G3 S26 b28 (o29+2) λc30=>iw 178 #[m1] w27 λn31 jV=>S26 jV/\(0<=((UInt8.toNat (c30 - 97:UInt8):Int):Int)/\((UInt8.toNat (c30 - 97:UInt8):Int):Int)< (26:Nat))/\bj jV b5 (0+Int.toNat (UInt8.toNat (c30 - 97:UInt8):Int)* 1) (.int .i64 n31) λw34=>ς w34) (ς w25))/\∀(I:World),ς I->∃υ:World->Prop,(az t2 λb37 o38=>fK I b37 (o38+2) λc39=>ai (!decide (c39=0)) (az t2 λb40 o41=>fK I b40 (o41+2) λφ=>(0<=((UInt8.toNat (φ - 97:UInt8):Int):Int)/\((UInt8.toNat (φ - 97:UInt8):Int):Int)< (26:Nat))/\oI I b5 (0+Int.toNat (UInt8.toNat (φ - 97:UInt8):Int)* 1) λn43=>bj I b10 2 (.int .i64 n43) λw45=>υ w45) (υ I))/\∀(w46:World),υ w46->aR w46 (.cells #[(.slice none 0 0),(.slice none 0 0)] 155) λb47 G=>∃χ:World->Prop,(az t2 λb50 o51=>fK G b50 (o51+0) λδ=>ai (decide (δ=48)) (R ((.pointer (some ⟨b47,0,none⟩))) G) (ai (decide (δ=38)) (bJ G λV w54=>az t2 λb55 o56=>cA V b55 (o56+3) λv57=>aK v57 0 λb58 o59=>cA V b58 (o59+Int.toNat 0* 1) λv62=>∃ψ:List Value,ψ.length=26/\(∀w',V w'->∀j,j< 26->World.cell? w' ⟨b5,0+j,none⟩=ψ[j]?)/\cd 137 #[m1,v62,(.agg (List.toArray ψ))] w54 λv64 w65=>V w65/\fC 179 #[(.pointer (some ⟨b47,0,none⟩)),v64] w65 λw66=>V w66/\bJ w66 λW w68=>az t2 λb69 o70=>cA W b69 (o70+3) λv71=>aK v71 1 λb72 o73=>cA W b72 (o73+Int.toNat 1* 1) λv76=>∃ω:List Value,ω.length=26/\(∀w',W w'->∀j,j< 26->World.cell? w' ⟨b5,0+j,none⟩=ω[j]?)/\cd 137 #[m1,v76,(.agg (List.toArray ω))] w68 λv78 w79=>W w79/\fC 179 #[(.pointer (some ⟨b47,0,none⟩)),v78] w79 λw80=>W w80/\R ((.pointer (some ⟨b47,0,none⟩))) w80) (ai (decide (δ=35)) (oI G b10 2 λn81=>aR G (.cells #[(.int .i64 n81)] 3) λb82 w83=>oneV (.slice (some ⟨b82,0,none⟩) 1 1)=true/\bj w83 b47 0 (.slice (some ⟨b82,0,none⟩) 1 1) λw85=>bJ w85 λZ w87=>az t2 λb88 o89=>cA Z b88 (o89+3) λv90=>aK v90 0 λb91 o92=>cA Z b91 (o92+Int.toNat 0* 1) λv95=>∃c96:List Value,c96.length=26/\(∀w',Z w'->∀j,j< 26->World.cell? w' ⟨b5,0+j,none⟩=c96[j]?)/\cd 137 #[m1,v95,(.agg (List.toArray c96))] w87 λv97 w98=>Z w98/\fC 179 #[(.pointer (some ⟨b47,0,none⟩)),v97] w98 λw99=>Z w99/\R ((.pointer (some ⟨b47,0,none⟩))) w99) (ai (decide (δ=43)) (bJ G λz w101=>az t2 λb102 o103=>cA z b102 (o103+3) λv104=>aK v104 0 λb105 o106=>cA z b105 (o106+Int.toNat 0* 1) λv109=>∃α:List Value,α.length=26/\(∀w',z w'->∀j,j< 26->World.cell? w' ⟨b5,0+j,none⟩=α[j]?)/\az t2 λb111 o112=>cA z b111 (o112+3) λv113=>aK v113 1 λb114 o115=>cA z b114 (o115+Int.toNat 1* 1) λv118=>∃β:List Value,β.length=26/\(∀w',z w'->∀j,j< 26->World.cell? w' ⟨b5,0+j,none⟩=β[j]?)/\cd 137 #[m1,v109,(.agg (List.toArray α))] w101 λε ζ=>z ζ/\cd 137 #[m1,v118,(.agg (List.toArray β))] ζ λη θ=>z θ/\oneV ε=true/\oneV η=true/\aR θ (.cells #[ε,η] 146) λι κ=>z κ/\oneV (.slice (some ⟨ι,0,none⟩) 2 2)=true/\bj κ b10 4 (.slice (some ⟨ι,0,none⟩) 2 2) λw127=>χ w127) (bJ G λH w129=>az t2 λb130 o131=>cA H b130 (o131+3) λv132=>aK v132 0 λb133 o134=>cA H b133 (o134+Int.toNat 0* 1) λv137=>∃γ:List Value,γ.length=26/\(∀w',H w'->∀j,j< 26->World.cell? w' ⟨b5,0+j,none⟩=γ[j]?)/\cd 137 #[m1,v137,(.agg (List.toArray γ))] w129 λv139 μ=>H μ/\oneV v139=true/\bj μ b10 3 v139 λw142=>χ w142)))))/\∀(ν:World),χ ν->aR ν (.cells #[(.pointer (some ⟨b10,0,none⟩))] 156) λξ w145=>oneV (.slice (some ⟨ξ,0,none⟩) 1 1)=true/\bj w145 b47 1 (.slice (some ⟨ξ,0,none⟩) 1 1) λw147=>R ((.pointer (some ⟨b47,0,none⟩))) w147):
  Calls Tryz.prog 137 #[m1,t2,e3] w (ax [.v] R):=
 bc (a8 [] [(4,[]),(6,[]),(8,[]),(23,[])] [5,10,14,15,19,22]) [.tmp 6 .v] [.v m1,.v t2,.v e3] Tryz.func137 (by kernel_rfl) h
end Go.Proofs.YtdecokaadekjnaaGreat
namespace Go.Proofs.YtdecokaadekjnaaGreat
open Go Go.RowKit
abbrev iv (n:Nat):Value:= .int .i64 n
def K.byte:K->UInt8
 | .s=>33 | .r=>63 | .t=>126 | .m=>61 | .p=>42
theorem ee.sub {D E:Nat->Prop}{w:World}{v:Value}{l:List Value}(h:ee D w v l)(hd:∀g,g< w.heap.size->D g->E g):ee E w v l:=by
 rcases h with h | ⟨b,off,cap,G,H,z,h4⟩
 ·exact .inl h
 ·exact .inr ⟨b,off,cap,G,hd b z H,z,h4⟩
def fL (D:Nat->Prop)(w:World)(v:Value)(o:List Nat)(K:List Value->Prop):Prop:=
 ∃b vo vt ts,v=ptr b/\D b/\b< w.heap.size/\w.cell? ⟨b,0,none⟩=some vo/\w.cell? ⟨b,1,none⟩=some vt/\ee D w vo (o.map iv)/\ee D w vt ts/\K ts
def DA (D:Nat->Prop)(w:World)(v:Value)(k:UInt8)(a b:Nat)(vr vp:Value):Prop:=
 ∃g,v=ptr g/\D g/\g< w.heap.size/\w.cell? ⟨g,0,none⟩=some (.int .u8 k.toNat)/\w.cell? ⟨g,1,none⟩=some (iv a)/\w.cell? ⟨g,2,none⟩=some (iv b)/\w.cell? ⟨g,3,none⟩=some vr/\w.cell? ⟨g,4,none⟩=some vp
def af (D:Nat->Prop)(w:World):Lv->List Value->Prop
 | .nil,ts=>ts=[]
 | .thr k a b o r n,ts=>∃t z a' G vr,ts=t::z/\DA D w t k.byte a' G vr (.slice none 0 0)/\(k= .t\/k= .p\/(a'=a/\G=b))/\fL D w vr o (af D w r)/\af D w n z
 | .sum H n,ts=>∃t z a' G vp us,ts=t::z/\DA D w t 43 a' G (.pointer none) vp/\ee D w vp us/\af D w H us/\af D w n z
 | .part o q n,ts=>∃v z,ts=v::z/\fL D w v o (af D w q)/\af D w n z
def aB (D:Nat->Prop)(w:World)(L:List Nat×Lv)(v:Value):Prop:=fL D w v L.1 (af D w L.2)
section
variable {D E S:Nat->Prop} {w w':World}
theorem fL.kp {v:Value}{o:List Nat}{K G:List Value->Prop}(h:fL D w v o K)(k:Kp w w' S)(z:∀g,D g->¬S g)(J:∀l,K l->G l):fL D w' v o G:=by
 obtain⟨b,vo,vt,ts,V,H,I,h4,h5,W,Z,h8⟩:=h;have hb:=k.block b I (z b H);refine⟨b,vo,vt,ts,V,H,Nat.lt_of_lt_of_le I k.size,?_,?_,W.kp k z,Z.kp k z,J _ h8⟩<;>rw [World.cell?_of_block (w:=w) hb]<;>assumption
theorem fL.sub {v:Value}{o:List Nat}{K z:List Value->Prop}(h:fL D w v o K)(hd:∀g,g< w.heap.size->D g->E g)(H:∀l,K l->z l):fL E w v o z:=by
 obtain⟨b,vo,vt,ts,I,J,G,h4,h5,V,W,Z⟩:=h;exact⟨b,vo,vt,ts,I,hd b G J,G,h4,h5,V.sub hd,W.sub hd,H _ Z⟩
theorem DA.kp {v:Value}{k:UInt8}{a b:Nat}{vr vp:Value}(h:DA D w v k a b vr vp)(kp:Kp w w' S)(H:∀g,D g->¬S g):DA D w' v k a b vr vp:=by
 obtain⟨g,I,z,G,h4,h5,J,V,W⟩:=h;have hb:=kp.block g G (H g z);refine⟨g,I,z,Nat.lt_of_lt_of_le G kp.size,?_,?_,?_,?_,?_⟩<;>rw [World.cell?_of_block (w:=w) hb]<;>assumption
theorem DA.sub {v:Value}{k:UInt8}{a b:Nat}{vr vp:Value}(h:DA D w v k a b vr vp)(hd:∀g,g< w.heap.size->D g->E g):DA E w v k a b vr vp:=by
 obtain⟨g,G,H,z,h4,h5,I,J,V⟩:=h;exact⟨g,G,hd g z H,z,h4,h5,I,J,V⟩
theorem af.kp (k:Kp w w' S)(z:∀g,D g->¬S g):∀{l:Lv} {ts:List Value},af D w l ts->af D w' l ts
 | .nil,_,h=>h
 | .thr _ _ _ _ r n,_,⟨t,G,a',V,vr,H,I,J,h4,h5⟩=>⟨t,G,a',V,vr,H,I.kp k z,J,h4.kp k z λ _ h=>af.kp k z (l:=r) h,af.kp k z (l:=n) h5⟩
 | .sum W n,_,⟨t,G,a',V,vp,us,H,I,J,h4,h5⟩=>⟨t,G,a',V,vp,us,H,I.kp k z,J.kp k z,af.kp k z (l:=W) h4,af.kp k z (l:=n) h5⟩
 | .part o q n,_,⟨v,G,H,I,J⟩=>⟨v,G,H,I.kp k z λ _ h=>af.kp k z (l:=q) h,af.kp k z (l:=n) J⟩
theorem af.sub (hd:∀g,g< w.heap.size->D g->E g):∀{l:Lv} {ts:List Value},af D w l ts->af E w l ts
 | .nil,_,h=>h
 | .thr _ _ _ _ r n,_,⟨t,z,a',J,vr,G,H,I,h4,h5⟩=>⟨t,z,a',J,vr,G,H.sub hd,I,h4.sub hd λ _ h=>af.sub hd (l:=r) h,af.sub hd (l:=n) h5⟩
 | .sum V n,_,⟨t,z,a',J,vp,us,G,H,I,h4,h5⟩=>⟨t,z,a',J,vp,us,G,H.sub hd,I.sub hd,af.sub hd (l:=V) h4,af.sub hd (l:=n) h5⟩
 | .part o q n,_,⟨v,z,G,H,I⟩=>⟨v,z,G,H.sub hd λ _ h=>af.sub hd (l:=q) h,af.sub hd (l:=n) I⟩
theorem aB.kp {L:List Nat×Lv}{v:Value}(h:aB D w L v)(k:Kp w w' S)(z:∀g,D g->¬S g):aB D w' L v:=fL.kp h k z λ _ h=>af.kp k z h
theorem aB.sub {L:List Nat×Lv}{v:Value}(h:aB D w L v)(hd:∀g,g< w.heap.size->D g->E g):aB E w L v:=fL.sub h hd λ _ h=>af.sub hd h
theorem aB.ex {L:List Nat×Lv}{v:Value}(h:aB D w L v)(x:Ex w w'):aB D w' L v:=h.kp (Kp.ah x λ _=>False) λ _ _ h=>h
theorem af.ex {l:Lv}{ts:List Value}(h:af D w l ts)(x:Ex w w'):af D w' l ts:=af.kp (Kp.ah x λ _=>False) (λ _ _ h=>h) h
theorem af.app:∀{l m:Lv} {ts us:List Value},af D w l ts->af D w m us->af D w (l.app m) (ts++us)
 | .nil,_,_,_,h,G=>by cases h;exact G
 | .thr _ _ _ _ r n,_,_,_,⟨t,z,a',V,vr,H,I,J,h4,h5⟩,G=>⟨t,z++_,a',V,vr,by rw [H];rfl,I,J,h4,af.app (l:=n) h5 G⟩
 | .sum W n,_,_,_,⟨t,z,a',V,vp,us,H,I,J,h4,h5⟩,G=>⟨t,z++_,a',V,vp,us,by rw [H];rfl,I,J,h4,af.app (l:=n) h5 G⟩
 | .part o q n,_,_,_,⟨v,z,H,I,J⟩,G=>⟨v,z++_,by rw [H];rfl,I,af.app (l:=n) J G⟩
theorem af.len:∀{l:Lv} {ts:List Value},af D w l ts->ts.length=l.len
 | .nil,_,h=>by cases h;rfl
 | .thr _ _ _ _ r n,_,⟨t,z,a',J,vr,G,I,H,h4,h5⟩=>by rw [G,List.length_cons,af.len (l:=n) h5,Lv.len]
 | .sum V n,_,⟨t,z,a',J,vp,us,G,I,H,h4,h5⟩=>by rw [G,List.length_cons,af.len (l:=n) h5,Lv.len]
 | .part o q n,_,⟨v,z,G,I,H⟩=>by rw [G,List.length_cons,af.len (l:=n) H,Lv.len]
end
def aM (e:Nat)(B:Nat)(w:World)(v:Value)(l:List Value):Prop:=w.ownsRow B e 1 v l.length l
theorem aM.nil (e B:Nat)(w:World):aM e B w (.slice none 0 0) []:=World.ownsRow_nil _ _ _ _
theorem aM.block {e B:Nat}{w:World}{v:Value}{l:List Value}(h:aM e B w v l):∀b,v.ownBlock=some b->B<=b/\b< w.heap.size:=World.ownsRow.lt h
theorem aM.mono {e B z:Nat}{w:World}{v:Value}{l:List Value}(h:aM e B w v l)(hb:z<=B):aM e z w v l:=World.ownsRow.mono h hb
theorem aM.kp {e B:Nat}{w w':World}{S:Nat->Prop}{v:Value}{l:List Value}(h:aM e B w v l)(k:Kp w w' S)(G:∀g,v.ownBlock=some g->¬S g):aM e B w' v l:=by
 refine⟨h.1,?_⟩;rcases h.2 with H | ⟨g,cap,cur,rfl,hb,z,rest⟩
 ·exact .inl H
 ·exact .inr ⟨g,cap,cur,rfl,hb,by rw [k.block g (Array.getElem?_eq_some_iff.1 z).1 (G g rfl)];exact z,rest⟩
theorem aM.AY {e B:Nat}{w:World}{v:Value}{l:List Value}(h:aM e B w v l){D:Nat->Prop}(H:∀g,v.ownBlock=some g->D g):ee D w v l:=by
 rcases h.2 with⟨rfl,I⟩ | ⟨g,cap,cur,rfl,hb,z,V,W,Z,h4⟩
 ·exact .inl ⟨rfl,List.eq_nil_of_length_eq_zero I⟩
 ·refine .inr ⟨g,0,cap,rfl,H g rfl,(Array.getElem?_eq_some_iff.1 z).1,λi x G=>?_⟩;unfold World.cell?;simp only [z,Nat.zero_add];have e:=congrArg (λl=>l[i]?) h4;obtain⟨J,_⟩:=List.getElem?_eq_some_iff.1 G;simp only [Nat.mul_one,List.getElem?_take,J,if_true,G]at e;rw [<-Array.getElem?_toList];exact e
theorem aM.one {e:Nat}{w w':World}{B b:Nat}{x:Value}(hB:B<=w.heap.size)(hb:b=w.heap.size)(h:w'=w.alloc (.cells #[x] e)):aM e B w' (.slice (some ⟨b,0,none⟩) 1 1) [x]:=by
 subst hb h;refine⟨rfl,.inr ⟨_,1,#[x],rfl,hB,?_,by simp,by unfold maxLen;omega,rfl,rfl⟩⟩;unfold World.alloc;simp
theorem aM.push {e B by_:Nat}{w:World}{v:Value}{l:List Value}(h:aM e B w v l)(hB:B<=w.heap.size){D:Nat->Prop}{x:Value}{m:List Value}(G:ee D w x m)(hm:m.all oneV=true)(z:by_<=16)(H:l.length+m.length<=1099511627776){K:Value->World->Prop}
  (I:∀v' w',aM e B w' v' (l++m)->w.grownBy w' v.ownBlock->(∀b,v'.ownBlock=some b->v.ownBlock=some b\/w.heap.size<=b)->K v' w'):
  ∃(base n k:Nat) (xs news:List Value),World.ownsRow w base e 1 v n xs/\base<=Array.size (World.heap w)/\dN w x k 1 news/\(n+k<=maxLen/\(n+k)* by_<=140737488355328)/\
   ∀(v':Value) (w':World),World.ownsRow w' base e 1 v' (n+k) (xs++news)->World.grownBy w w' (Value.ownBlock v)->(∀b:Nat,Value.ownBlock v'=some b->Value.ownBlock v=some b\/Array.size (World.heap w)<=b)->K v' w':=by
 refine⟨B,l.length,m.length,l,m,h,hB,?_,⟨by unfold maxLen;omega,?_⟩,λv' w' J V hw=>I v' w' ?_ V hw⟩
 ·refine⟨by simp,hm,?_⟩;rcases G with⟨rfl,rfl⟩ | ⟨b,off,cap,rfl,_,hb,W⟩
  ·exact .inl ⟨rfl,rfl⟩
  ·exact .inr ⟨b,off,cap,rfl,W⟩
 ·have:(l.length+m.length)* by_<=1099511627776* 16:=Nat.mul_le_mul H z;omega
 ·unfold aM;rw [List.length_append];exact J
theorem Kp.aQ {w w':World}{row:Option Nat}{S:Nat->Prop}(z:w.grownBy w' row)(hr:∀g,row=some g->S g):Kp w w' S:=
 ⟨z.os,z.tape,z.output,z.size,λg G H=>z.block g G λe=>H (hr g e.symm)⟩
theorem Kp.mono {w w':World}{S T:Nat->Prop}(z:∀g,S g->T g)(h:Kp w w' S):Kp w w' T:=⟨h.os,h.tape,h.output,h.size,λg G H=>h.block g G λe=>H (z g e)⟩
structure jM (B:Nat)(w:World)(b:Nat)(o:List Nat)(ts:List Value)(M:Nat->Prop):Prop where
 lt:b< w.heap.size
 le:B<=b
 mb:M b
 mr:∀g,M g->B<=g/\g< w.heap.size
 fr:∀j,w.frozen? ⟨b,j,none⟩=false
 sl:∃vo vt,w.cell? ⟨b,0,none⟩=some vo/\w.cell? ⟨b,1,none⟩=some vt/\aM 3 B w vo (o.map iv)/\aM 156 B w vt ts/\(∀g,vo.ownBlock=some g->M g/\g≠b)/\(∀g,vt.ownBlock=some g->M g/\g≠b)/\∀g,vo.ownBlock=some g->vt.ownBlock≠some g
theorem jM.kp {B:Nat}{w w':World}{b:Nat}{o:List Nat}{ts:List Value}{M S:Nat->Prop}(h:jM B w b o ts M)(k:Kp w w' S)(G:∀g,M g->¬S g):jM B w' b o ts M:=by
 obtain⟨I,V,J,hr,h4,vo,vt,h5,h6,W,Z,h9,h10,H⟩:=h;have hb:=k.block b I (G b J);refine⟨Nat.lt_of_lt_of_le I k.size,V,J,λg z=>⟨(hr g z).1,Nat.lt_of_lt_of_le (hr g z).2 k.size⟩,λj=>by rw [World.frozen?_of_block (w:=w) hb];exact h4 j,vo,vt,?_,?_,W.kp k λg z=>G g (h9 g z).1,Z.kp k λg z=>G g (h10 g z).1,h9,h10,H⟩<;>rw [World.cell?_of_block (w:=w) hb]<;>assumption
theorem jM.ex {B:Nat}{w w':World}{b:Nat}{o:List Nat}{ts:List Value}{M:Nat->Prop}(h:jM B w b o ts M)(x:Ex w w'):jM B w' b o ts M:=h.kp (Kp.ah x λ _=>False) λ _ _ h=>h
theorem jM.HF {B:Nat}{w:World}{b:Nat}{o:List Nat}{ts:List Value}{M D:Nat->Prop}(h:jM B w b o ts M)(G:∀g,g< w.heap.size->B<=g->D g){K:List Value->Prop}(V:K ts):fL D w (ptr b) o K:=by
 obtain⟨J,W,h3,hr,h4,vo,vt,h5,Z,H,I,h9,h10,α⟩:=h;exact⟨b,vo,vt,ts,rfl,G b J W,J,h5,Z,H.AY λg z=>G g (H.block g z).2 (H.block g z).1,I.AY λg z=>G g (I.block g z).2 (I.block g z).1,V⟩
theorem Dd (o:List Nat):(o.map iv).all oneV=true:=by simp [oneV]
theorem af.all {D:Nat->Prop}{w:World}:∀{l:Lv} {ts:List Value},af D w l ts->ts.all oneV=true
 | .nil,_,h=>by cases h;rfl
 | .thr _ _ _ _ r n,_,⟨t,z,a',I,vr,G,⟨g,e,_⟩,H,h4,h5⟩=>by rw [G,List.all_cons,af.all (l:=n) h5,e];rfl
 | .sum J n,_,⟨t,z,a',I,vp,us,G,⟨g,e,_⟩,H,h4,h5⟩=>by rw [G,List.all_cons,af.all (l:=n) h5,e];rfl
 | .part o q n,_,⟨v,z,G,⟨g,_,_,_,e,_⟩,H⟩=>by rw [G,List.all_cons,af.all (l:=n) H,e];rfl
theorem sR {B:Nat}{w:World}{b:Nat}{o:List Nat}{ts:List Value}{M:Nat->Prop}(h:jM B w b o ts M)(hB:B<=w.heap.size){D:Nat->Prop}{v:Value}{o2:List Nat}{J:List Value}(h2:fL D w v o2 λl=>l=J)(ξ:J.all oneV=true)
  (hM:∀g,D g->¬M g) (hl:o.length+o2.length<=1099511627776/\ts.length+J.length<=1099511627776) {R:World->Prop}
  (hR:∀w' M',Kp w w' M->jM B w' b (o++o2) (ts++J) M'->(∀g,M' g->M g\/w.heap.size<=g)->R w'):Calls Tryz.prog 179 #[ptr b,v] w (ax [] R):=by
 refine kf _ v w R ?_;obtain⟨b2,ο,ς,ts3,rfl,g1,g2,g3,g4,g5,g6,e3⟩:=h2;subst e3;obtain⟨h1,hle,h3,hr,h4,vo,vt,h5,h6,h7,h8,h9,h10,γ⟩:=h;have V:¬M b2:=hM b2 g1;refine⟨λw'=>Kp w w' λg=>vo.ownBlock=some g\/vt.ownBlock=some g,λw1 δ=>⟨δ▸Kp.ah (Ex.drew w) _,b,0,rfl,vo,λw' k=>?_,b2,0,rfl,ο,λw' k=>?_,b,0,rfl,vt,λw' k=>?_,b2,0,rfl,ς,λw' k=>?_,?_⟩⟩
 ·rw [World.cell?_of_block (w:=w) (k.block b h1 λh=>h.elim (λe=>(h9 b e).2 rfl) λe=>(h10 b e).2 rfl)];exact h5
 ·rw [World.cell?_of_block (w:=w) (k.block b2 g2 λh=>h.elim (λe=>V (h9 b2 e).1) λe=>V (h10 b2 e).1)];exact g3
 ·rw [World.cell?_of_block (w:=w) (k.block b h1 λh=>h.elim (λe=>(h9 b e).2 rfl) λe=>(h10 b e).2 rfl)];exact h6
 ·rw [World.cell?_of_block (w:=w) (k.block b2 g2 λh=>h.elim (λe=>V (h9 b2 e).1) λe=>V (h10 b2 e).1)];exact g4
 have x1:Ex w w1:=δ▸Ex.drew w;have k1:Kp w w1 λ _=>False:=Kp.ah x1 _
 have s1:w1.heap.size=w.heap.size:=by rw [δ];rfl
 refine aM.push (h7.kp k1 λ _ _ h=>h) (by omega) (g5.kp k1 λ _ _ h=>h) (Dd o2) (by omega) (by simp;exact hl.1) λH w2 W υ φ=>?_
 have k2:Kp w1 w2 λg=>vo.ownBlock=some g:=Kp.aQ υ λg h=>h
 have ε:Kp w w2 λg=>vo.ownBlock=some g:=Kp.trans (Kp.ah x1 _) k2 λg _ h=>h
 refine⟨Kp.trans (Kp.ah x1 _) k2 λg _ h=> .inl h,?_⟩;have s2:=k2.size;have χ:=g6.kp ε λg z e=>hM g z (h9 g e).1
 have ψ:aM 156 B w2 vt ts:=h8.kp ε λg z e=>γ g e z
 refine aM.push ψ (by omega) χ ξ (by omega) hl.2 λI w3 ζ ω hn3=>?_
 have k3:Kp w2 w3 λg=>vt.ownBlock=some g:=Kp.aQ ω λg h=>h
 have η:Kp w w3 λg=>vo.ownBlock=some g\/vt.ownBlock=some g:=Kp.trans (Kp.mono (λg h=> .inl h) ε) k3 λg _ h=> .inr h
 have s3:=k3.size;have hv1:oneV H=true:=by
  rcases W.2 with⟨rfl,_⟩ | ⟨g,cap,cur,rfl,_⟩<;>rfl
 have hv2:oneV I=true:=by
  rcases ζ.2 with⟨rfl,_⟩ | ⟨g,cap,cur,rfl,_⟩<;>rfl
 have θ:=η.block b h1 λh=>h.elim (λe=>(h9 b e).2 rfl) λe=>(h10 b e).2 rfl
 have c30:w3.cell? ⟨b,0,none⟩=some vo:=by rw [World.cell?_of_block (w:=w) θ];exact h5
 have κ:w3.cell? ⟨b,1,none⟩=some vt:=by rw [World.cell?_of_block (w:=w) θ];exact h6
 have f3:∀j,w3.frozen? ⟨b,j,none⟩=false:=λj=>by rw [World.frozen?_of_block (w:=w) θ];exact h4 j
 refine⟨η,b,0,rfl,hv1,⟨⟨_,c30⟩,f3 0⟩,λw4 G=>⟨b,0,rfl,hv2,⟨⟨vt,?_⟩,?_⟩,λw5 Z=>?_⟩⟩
 ·rw [G,World.cell?_setCell_other _ _ _ _ (by simp)];exact κ
 ·rw [G,World.frozen?_setCell];exact f3 1
 have α:Kp w3 w5 λg=>g=b:=by
  rw [Z,G];exact Kp.set (Kp.set (S:=λg=>g=b) (Kp.ah (Ex.refl w3) _) rfl _) rfl _
 have β:∀g,H.ownBlock=some g->(vo.ownBlock=some g\/w.heap.size<=g):=λg z=>(φ g z).elim .inl λh=> .inr (by omega)
 have ι:∀g,I.ownBlock=some g->(vt.ownBlock=some g\/w2.heap.size<=g):=λg z=>hn3 g z
 have μ:∀g,H.ownBlock=some g->g≠b:=λg z=>(β g z).elim (λe=>(h9 g e).2) λe=>by omega
 have ν:∀g,I.ownBlock=some g->g≠b:=λg z=>(ι g z).elim (λe=>(h10 g e).2) λe=>by omega
 have hot:∀g,H.ownBlock=some g->I.ownBlock≠some g:=λg z e=>by
  have hlt:=(W.block g z).2;rcases ι g e with e1 | e1
  ·rcases β g z with e2 | e2
   ·exact γ g e2 e1
   ·have :=(h8.block g e1).2;omega
  ·omega
 have s5:=α.size;refine hR w5 (λg=>M g\/(w.heap.size<=g/\g< w5.heap.size)) ?_ ⟨?_,hle,.inl h3,λg z=>?_,λj=>?_,H,I,?_,?_,?_,?_,λg z=>⟨?_,μ g z⟩,λg z=>⟨?_,ν g z⟩,hot⟩ λg h=>h.elim .inl λh=> .inr h.1
 ·refine Kp.trans (Kp.mono (λg h=>h.elim (λe=>(h9 g e).1) λe=>(h10 g e).1) η) α λg _ e=>?_
  rw [e];exact h3
 ·omega
 ·rcases z with z | z
  ·have :=hr g z;omega
  ·omega
 ·rw [Z,World.frozen?_setCell,G,World.frozen?_setCell];exact f3 j
 ·rw [Z,World.cell?_setCell_other _ _ _ _ (by simp),G];exact World.cell?_setCell_same _ _ _ c30
 ·rw [Z];refine World.cell?_setCell_same _ _ _ (u:=vt) ?_;rw [G,World.cell?_setCell_other _ _ _ _ (by simp)];exact κ
 ·rw [List.map_append];refine(W.kp k3 λg z e=>?_).kp α μ;rcases β g z with e2 | e2
  ·exact γ g e2 e
  ·have :=(h8.block g e).2;omega
 ·exact ζ.kp α ν
 ·have :=(W.block g z).2;exact(β g z).elim (λe=> .inl (h9 g e).1) λe=> .inr ⟨e,by omega⟩
 ·have :=(ζ.block g z).2;exact(ι g z).elim (λe=> .inl (h10 g e).1) λe=> .inr ⟨by omega,by omega⟩
theorem gk {c:UInt8}(h:lt c=true):(c - 97:UInt8).toNat=c.toNat - 97:=by
 have :=bn h;rw [UInt8.toNat_sub_of_le]
 ·rfl
 ·exact UInt8.le_iff_toNat_le.2 (by simpa using this.1)
structure Mk (w:World)(m n:Nat):Prop where
 lt:m< w.heap.size
 c:w.cell? ⟨m,0,none⟩=some (iv n)
 f:w.frozen? ⟨m,0,none⟩=false
theorem Mk.kp {w w':World}{m n:Nat}{S:Nat->Prop}(h:Mk w m n)(k:Kp w w' S)(z:¬S m):Mk w' m n:=by
 have hb:=k.block m h.lt z;exact⟨Nat.lt_of_lt_of_le h.lt k.size,by rw [World.cell?_of_block (w:=w) hb];exact h.c,by rw [World.frozen?_of_block (w:=w) hb];exact h.f⟩
theorem Mk.ex {w w':World}{m n:Nat}(h:Mk w m n)(x:Ex w w'):Mk w' m n:=h.kp (Kp.ah x λ _=>False) λh=>h
structure Km (m:Nat)(w w':World):Prop where
 kp:Kr m w w'
 ce:∀j,j≠0->w'.cell? ⟨m,j,none⟩=w.cell? ⟨m,j,none⟩
 fz:∀j,w'.frozen? ⟨m,j,none⟩=w.frozen? ⟨m,j,none⟩
theorem Km.size {m:Nat}{w w':World}(h:Km m w w'):w.heap.size<=w'.heap.size:=h.kp.size
theorem Km.trans {m:Nat}{a b c:World}(h:Km m a b)(k:Km m b c):Km m a c:=⟨Kr.trans h.kp k.kp,λj z=>(k.ce j z).trans (h.ce j z),λj=>(k.fz j).trans (h.fz j)⟩
theorem Km.out {m:Nat}{w0 w w':World}{S:Nat->Prop}(h:Km m w0 w)(k:Kp w w' S)(G:∀g,g< w0.heap.size->¬S g)(hm:m< w0.heap.size):Km m w0 w':=by
 have e:=k.block m (Nat.lt_of_lt_of_le hm h.kp.size) (G m hm);exact⟨Kp.trans h.kp k λg H z=>absurd z (G g H),λj I=>by rw [World.cell?_of_block (w:=w) e];exact h.ce j I,λj=>by rw [World.frozen?_of_block (w:=w) e];exact h.fz j⟩
theorem Km.refl (m:Nat)(w:World):Km m w w:=⟨Kr.refl m w,λ _ _=>rfl,λ _=>rfl⟩
theorem Km.ex {m:Nat}{w w':World}(h:Ex w w')(hm:m< w.heap.size):Km m w w':=(Km.refl m w).out (Kp.ah h λ _=>False) (λ _ _ h=>h) hm
theorem Km.set (m:Nat)(w:World)(v:Value):Km m w (w.setCell ⟨m,0,none⟩ v):=⟨Kr.set w 0 v,λj z=>World.cell?_setCell_other _ _ _ _ (λe=>by injection e with G H;omega),λj=>World.frozen?_setCell _ _ _ _⟩
theorem qY {w:World}{m n:Nat}(h:Mk w m n)(I:n<=1099511627776){R:Int->World->Prop}(G:∀w',Km m w w'->Mk w' m (n+1)->R ((n+101:Nat):Int) w'):Calls Tryz.prog 178 #[ptr m] w (ax [.i] R):=by
 refine kC _ w R ?_;refine⟨m,0,rfl,n,h.c,by unfold aj;omega,m,0,rfl,⟨⟨_,h.c⟩,h.f⟩,λw1 z=>⟨m,0,rfl,(n:Int)+1,?_,by unfold aj;omega,?_⟩⟩
 ·rw [z];exact World.cell?_setCell_same _ _ _ h.c
 ·have e:((n:Int)+1+100)=((n+101:Nat):Int):=by omega
  have H:((n:Int)+1)=((n+1:Nat):Int):=by omega
  rw [e];rw [H]at z;refine G w1 (z▸Km.set m w _) ⟨?_,?_,?_⟩
  ·rw [z,World.size_setCell];exact h.lt
  ·rw [z];exact World.cell?_setCell_same _ _ _ h.c
  ·rw [z,World.frozen?_setCell];exact h.f
def DR (cs:List Value)(e:UInt8->Nat):Prop:=cs.length=26/\∀c,lt c=true->cs[c.toNat - 97]?=some (iv (e c))
structure ka (w:World)(b:Nat)(e:UInt8->Nat):Prop where
 hb:b< w.heap.size
 f:∀j,w.frozen? ⟨b,j,none⟩=false
 c:∃cs,DR cs e/\∀j,j< 26->w.cell? ⟨b,0+j,none⟩=cs[j]?
theorem ka.kp {w w':World}{b:Nat}{e:UInt8->Nat}{S:Nat->Prop}(h:ka w b e)(k:Kp w w' S)(z:¬S b):ka w' b e:=by
 have hb:=k.block b h.hb z;obtain⟨G,H,cs,I,h4⟩:=h;exact⟨Nat.lt_of_lt_of_le G k.size,λj=>by rw [World.frozen?_of_block (w:=w) hb];exact H j,cs,I,λj J=>by rw [World.cell?_of_block (w:=w) hb];exact h4 j J⟩
theorem ka.get {w:World}{b:Nat}{e:UInt8->Nat}(h:ka w b e){c:UInt8}(z:lt c=true):w.cell? ⟨b,0+Int.toNat ((c - 97:UInt8).toNat:Int)* 1,none⟩=some (iv (e c)):=by
 obtain⟨H,I,cs,G,h4⟩:=h;have :=bn z;rw [gk z,Nat.mul_one,Int.toNat_natCast,h4 _ (by omega)];exact G.2 c z
theorem ka.set {w w':World}{b:Nat}{e:UInt8->Nat}(h:ka w b e){c:UInt8}(H:lt c=true){n:Nat}(hw:w'=w.setCell ⟨b,0+Int.toNat ((c - 97:UInt8).toNat:Int)* 1,none⟩ (iv n)):ka w' b (aD e c n):=by
 have I:=h.get H;obtain⟨V,W,cs,G,h4⟩:=h;have hl:=bn H;rw [gk H,Nat.mul_one,Int.toNat_natCast]at hw I;refine⟨by rw [hw,World.size_setCell];exact V,λj=>by rw [hw,World.frozen?_setCell];exact W j,cs.set (c.toNat - 97) (iv n),⟨by rw [List.length_set];exact G.1,λd hd=>?_⟩,λj Z=>?_⟩
 ·have α:=bn hd;rw [List.getElem?_set];by_cases z:d=c
  ·subst z;rw [if_pos rfl,if_pos (by rw [G.1];omega)];simp [aD]
  ·have J:¬c.toNat - 97=d.toNat - 97:=λJ=>z (UInt8.toNat_inj.1 (by omega))
   rw [if_neg J,G.2 d hd];simp [aD,z]
 ·rw [List.getElem?_set];by_cases z:c.toNat - 97=j
  ·subst z;rw [if_pos rfl,if_pos (by rw [G.1];omega),hw];exact World.cell?_setCell_same _ _ _ I
  ·rw [if_neg z,hw,World.cell?_setCell_other _ _ _ _ (by simp)];exact h4 j Z
structure jU (w:World)(g:Nat)(k:UInt8)(a b:Nat)(vr vp:Value):Prop where
 lt:g< w.heap.size
 c0:w.cell? ⟨g,0,none⟩=some (.int .u8 k.toNat)
 c1:w.cell? ⟨g,1,none⟩=some (iv a)
 c2:w.cell? ⟨g,2,none⟩=some (iv b)
 c3:w.cell? ⟨g,3,none⟩=some vr
 c4:w.cell? ⟨g,4,none⟩=some vp
 f:∀j,w.frozen? ⟨g,j,none⟩=false
section
variable {w w':World} {g a b x:Nat} {k:UInt8} {vr vp v:Value} {S:Nat->Prop}
theorem jU.kp (h:jU w g k a b vr vp)(kp:Kp w w' S)(z:¬S g):jU w' g k a b vr vp:=by
 have hb:=kp.block g h.lt z;refine⟨Nat.lt_of_lt_of_le h.lt kp.size,?_,?_,?_,?_,?_,λj=>?_⟩
 ·rw [World.cell?_of_block (w:=w) hb];exact h.c0
 ·rw [World.cell?_of_block (w:=w) hb];exact h.c1
 ·rw [World.cell?_of_block (w:=w) hb];exact h.c2
 ·rw [World.cell?_of_block (w:=w) hb];exact h.c3
 ·rw [World.cell?_of_block (w:=w) hb];exact h.c4
 ·rw [World.frozen?_of_block (w:=w) hb];exact h.f j
theorem jU.xt (h:jU w g k a b vr vp)(hw:w'=w.setCell ⟨g,1,none⟩ (iv x)):jU w' g k x b vr vp:=by
 subst hw;exact⟨by rw [World.size_setCell];exact h.lt,by rw [World.cell?_setCell_other _ _ _ _ (by simp)];exact h.c0,World.cell?_setCell_same _ _ _ h.c1,by rw [World.cell?_setCell_other _ _ _ _ (by simp)];exact h.c2,
  by rw [World.cell?_setCell_other _ _ _ _ (by simp)];exact h.c3,by rw [World.cell?_setCell_other _ _ _ _ (by simp)];exact h.c4,λj=>by rw [World.frozen?_setCell];exact h.f j⟩
theorem jU.qS (h:jU w g k a b vr vp)(hw:w'=w.setCell ⟨g,2,none⟩ (iv x)):jU w' g k a x vr vp:=by
 subst hw;exact⟨by rw [World.size_setCell];exact h.lt,by rw [World.cell?_setCell_other _ _ _ _ (by simp)];exact h.c0,by rw [World.cell?_setCell_other _ _ _ _ (by simp)];exact h.c1,World.cell?_setCell_same _ _ _ h.c2,
  by rw [World.cell?_setCell_other _ _ _ _ (by simp)];exact h.c3,by rw [World.cell?_setCell_other _ _ _ _ (by simp)];exact h.c4,λj=>by rw [World.frozen?_setCell];exact h.f j⟩
theorem jU.AW (h:jU w g k a b vr vp)(hw:w'=w.setCell ⟨g,3,none⟩ v):jU w' g k a b v vp:=by
 subst hw;exact⟨by rw [World.size_setCell];exact h.lt,by rw [World.cell?_setCell_other _ _ _ _ (by simp)];exact h.c0,by rw [World.cell?_setCell_other _ _ _ _ (by simp)];exact h.c1,by rw [World.cell?_setCell_other _ _ _ _ (by simp)];exact h.c2,
  World.cell?_setCell_same _ _ _ h.c3,by rw [World.cell?_setCell_other _ _ _ _ (by simp)];exact h.c4,λj=>by rw [World.frozen?_setCell];exact h.f j⟩
theorem jU.Gd (h:jU w g k a b vr vp)(hw:w'=w.setCell ⟨g,4,none⟩ v):jU w' g k a b vr v:=by
 subst hw;exact⟨by rw [World.size_setCell];exact h.lt,by rw [World.cell?_setCell_other _ _ _ _ (by simp)];exact h.c0,by rw [World.cell?_setCell_other _ _ _ _ (by simp)];exact h.c1,by rw [World.cell?_setCell_other _ _ _ _ (by simp)];exact h.c2,
  by rw [World.cell?_setCell_other _ _ _ _ (by simp)];exact h.c3,World.cell?_setCell_same _ _ _ h.c4,λj=>by rw [World.frozen?_setCell];exact h.f j⟩
theorem jU.new {e:Nat}(z:g=w.heap.size)(hw:w'=w.alloc (.cells #[.int .u8 k.toNat,iv a,iv b,vr,vp] e)):jU w' g k a b vr vp:=by
 subst z hw;refine⟨by rw [size_alloc];omega,aa rfl,aa rfl,aa rfl,aa rfl,aa rfl,λj=>?_⟩;unfold World.frozen? World.alloc;simp
theorem jU.G1 (h:jU w g k a b vr vp){D:Nat->Prop}(z:D g):DA D w (ptr g) k a b vr vp:=⟨g,rfl,z,h.lt,h.c0,h.c1,h.c2,h.c3,h.c4⟩
end
structure RS (w0 w:World)(m n:Nat)(e:UInt8->Nat)(b5 b10:Nat)(k:UInt8)(a b:Nat):Prop where
 kp:Km m w0 w
 mc:Mk w m n
 hm:m< w0.heap.size
 env:ka w b5 e
 h5:w0.heap.size<=b5
 h10:w0.heap.size<=b10
 ne:b5≠b10
 th:jU w b10 k a b (.pointer none) (.slice none 0 0)
section
variable {w0 w w':World} {m n b5 b10 a b x:Nat} {e:UInt8->Nat} {k c:UInt8}
theorem RS.go (h:RS w0 w m n e b5 b10 k a b){n':Nat}(kr:Km m w w')(mk:Mk w' m n'):RS w0 w' m n' e b5 b10 k a b:=by
 have z:=h.hm;have G:=h.h5;have H:=h.h10;exact⟨Km.trans h.kp kr,mk,h.hm,h.env.kp kr.kp (by omega),h.h5,h.h10,h.ne,h.th.kp kr.kp (by omega)⟩
theorem RS.ex (h:RS w0 w m n e b5 b10 k a b)(z:Ex w w'):RS w0 w' m n e b5 b10 k a b:=h.go (Km.ex z h.mc.lt) (h.mc.ex z)
theorem RS.own (h:RS w0 w m n e b5 b10 k a b){S:Nat->Prop}(kp:Kp w w' S)(G:∀g,S g->w0.heap.size<=g/\g≠b5/\g≠b10):RS w0 w' m n e b5 b10 k a b:=by
 have H:=h.hm;refine⟨h.kp.out kp (λg I z=>(by have :=(G g z).1;omega)) H,h.mc.kp kp λz=>(by have :=(G m z).1;omega),h.hm,h.env.kp kp λz=>(G _ z).2.1 rfl,h.h5,h.h10,h.ne,h.th.kp kp λz=>(G _ z).2.2 rfl⟩
theorem RS.xt (h:RS w0 w m n e b5 b10 k a b)(hw:w'=w.setCell ⟨b10,1,none⟩ (iv x)):RS w0 w' m n e b5 b10 k x b:=by
 have z:=h.hm;have G:=h.h10;have kp:Kr b10 w w':=hw▸Kr.set w 1 _;exact⟨h.kp.out kp (λg H e=>(by omega)) z,h.mc.kp kp (by omega),h.hm,h.env.kp kp h.ne,h.h5,h.h10,h.ne,h.th.xt hw⟩
theorem RS.qS (h:RS w0 w m n e b5 b10 k a b)(hw:w'=w.setCell ⟨b10,2,none⟩ (iv x)):RS w0 w' m n e b5 b10 k a x:=by
 have z:=h.hm;have G:=h.h10;have kp:Kr b10 w w':=hw▸Kr.set w 2 _;exact⟨h.kp.out kp (λg H e=>(by omega)) z,h.mc.kp kp (by omega),h.hm,h.env.kp kp h.ne,h.h5,h.h10,h.ne,h.th.qS hw⟩
theorem RS.HN (h:RS w0 w m n e b5 b10 k a b)(z:lt c=true)(hw:w'=w.setCell ⟨b5,0+Int.toNat ((c - 97:UInt8).toNat:Int)* 1,none⟩ (iv x)):RS w0 w' m n (aD e c x) b5 b10 k a b:=by
 have G:=h.hm;have H:=h.h5;have kp:Kr b5 w w':=hw▸Kr.set w _ _;exact⟨h.kp.out kp (λg I e=>(by omega)) G,h.mc.kp kp (by omega),h.hm,h.env.set z hw,h.h5,h.h10,h.ne,h.th.kp kp (Ne.symm h.ne)⟩
end
def A9 (t:P):Prop:=∀{D:Nat->Prop} {v:Value} {w:World} {m n:Nat} {cs:List Value} {e:UInt8->Nat} {R:Value->World->Prop},aF D w t v->(∀g,D g->¬g=m)->Mk w m n->DR cs e->Lt t->n+t.size<=1099511627776->
 (∀v' w',Km m w w'->Mk w' m (num t e n).2->aB (xU w) w' (flat (num t e n).1) v'->R v' w')->Calls Tryz.prog 137 #[ptr m,v,.agg cs.toArray] w (ax [.v] R)
def T.bnd:P->Bool
 | .rcv .. =>true | .res .. =>true | _=>false
theorem wV (t:P):(decide (t.kind=63)||decide (t.kind=35))=t.bnd:=by cases t<;>rfl
theorem G8 {t:P}(h:Lt t)(z:t.ca≠0):lt t.ca=true:=by
 cases t<;>first | exact h.1 | exact absurd rfl z
theorem Hp {t:P}(h:Lt t)(z:t.cb≠0):lt t.cb=true:=by
 cases t<;>first | exact h.2.1 | exact h.1 | exact absurd rfl z
theorem Gm {t:P}(h:Lt t)(hb:t.bnd=true):lt t.cb=true:=by
 cases t<;>first | exact h.2.1 | exact h.1 | cases hb
theorem bM:∀(t:P) (e:UInt8->Nat) (n:Nat),(num t e n).1.size=t.size/\(num t e n).2<=n+t.size
 | .nil,_,n=>⟨rfl,by simp [num,T.size]⟩
 | .snd _ _ p,e,n=>by have :=bM p e n;exact⟨by simp [num,T.size,this.1],by simp only [num,T.size];omega⟩
 | .mat _ _ p,e,n=>by have :=bM p e n;exact⟨by simp [num,T.size,this.1],by simp only [num,T.size];omega⟩
 | .tau p,e,n=>by have :=bM p e n;exact⟨by simp [num,T.size,this.1],by simp only [num,T.size];omega⟩
 | .rep p,e,n=>by have :=bM p e n;exact⟨by simp [num,T.size,this.1],by simp only [num,T.size];omega⟩
 | .rcv _ x p,e,n=>by have :=bM p (aD e x (n+101)) (n+1);exact⟨by simp [num,T.size,this.1],by simp only [num,T.size];omega⟩
 | .res x p,e,n=>by have :=bM p (aD e x (n+101)) (n+1);exact⟨by simp [num,T.size,this.1],by simp only [num,T.size];omega⟩
 | .sum p q,e,n=>by have :=bM p e n;have h:=bM q e (num p e n).2;exact⟨by simp [num,T.size,this.1,h.1],by simp only [num,T.size];omega⟩
 | .par p q,e,n=>by have :=bM p e n;have h:=bM q e (num p e n).2;exact⟨by simp [num,T.size,this.1,h.1],by simp only [num,T.size];omega⟩
theorem iT:∀u:U,(flat u).1.length<=u.size/\(flat u).2.len<=u.size
 | .nil=>by simp [flat,Lv.len]
 | .snd .. =>by simp [flat,Lv.len,T.size]
 | .rcv .. =>by simp [flat,Lv.len,T.size]
 | .tau .. =>by simp [flat,Lv.len,T.size]
 | .sum .. =>by simp [flat,Lv.len,T.size]
 | .mat .. =>by simp [flat,Lv.len,T.size]
 | .rep .. =>by simp [flat,Lv.len,T.size]
 | .res x p=>by have :=iT p;simp only [flat,T.size,List.length_cons];omega
 | .par p q=>by have :=iT p;have :=iT q;simp only [flat,T.size,List.length_append,Lv.dX];omega
theorem jM.new {w w':World}{b B e:Nat}(hB:B<=w.heap.size)(hb:b=w.heap.size)(hw:w'=w.alloc (.cells #[.slice none 0 0,.slice none 0 0] e)):jM B w' b [] [] (λg=>g=b):=by
 subst hb hw;refine⟨by rw [size_alloc];omega,hB,rfl,λg z=>⟨by omega,by rw [size_alloc];omega⟩,λj=>?_,_,_,aa rfl,aa rfl,aM.nil _ _ _,aM.nil _ _ _,λg h=>(by cases h),λg h=>(by cases h),λg h=>(by cases h)⟩;unfold World.frozen? World.alloc;simp
theorem zS {D Q:Nat->Prop}{w1:World}{t p:P}{v:Value}{b5:Nat}{e:UInt8->Nat}(h:aF D w1 t v)(hD:∀g,D g->¬Q g)(hE:ka w1 b5 e)(h5:¬Q b5){i:Int}(h0:0<=i)(hp:t.parts[i.toNat]?=some p){K:Value->List Value->Prop}(hK:∀x cs,aF D w1 p x->DR cs e->K x cs):
  ∃(b o:Nat),v=Value.pointer (some ⟨b,o,none⟩)/\∃J:Value,(∀w',Kp w1 w' Q->World.cell? w' ⟨b,(o+3),none⟩=some J)/\∃(V W z H:Nat),J=Value.slice (some ⟨V,W,none⟩) z H/\0<=i/\i< z/\
   ∃Z:Value,(∀w',Kp w1 w' Q->World.cell? w' ⟨V,(W+Int.toNat i* 1),none⟩=some Z)/\∃G:List Value,List.length G=26/\(∀w',Kp w1 w' Q->∀j,j< 26->World.cell? w' ⟨b5,0+j,none⟩=G[j]?)/\K Z G:=by
 obtain⟨b,vs,l,rfl,h1,h2,h3,h4,β,h6,h7,h8⟩:=h.inv;obtain⟨hi,γ⟩:=List.getElem?_eq_some_iff.1 hp;have I:i.toNat< l.length:=by rw [h8.1];exact hi
 have hx:=h8.2 i.toNat l[i.toNat] p (List.getElem?_eq_getElem I) hp;refine⟨b,0,rfl,vs,λw' k=>?_,?_⟩
 ·rw [World.cell?_of_block (w:=w1) (k.block b h2 (hD b h1))];exact h6
 rcases h7 with⟨_,rfl⟩ | ⟨b',off,cap,rfl,i1,i2,i3⟩
 ·simp at I
 obtain⟨cs,hc,α⟩:=hE.c;refine⟨b',off,l.length,cap,rfl,h0,by omega,l[i.toNat],λw' k=>?_,cs,hc.1,λw' k j hj=>?_,hK _ _ hx hc⟩
 ·rw [World.cell?_of_block (w:=w1) (k.block b' i2 (hD b' i1)),Nat.mul_one];exact i3 _ _ (List.getElem?_eq_getElem I)
 ·rw [World.cell?_of_block (w:=w1) (k.block b5 hE.hb h5)];exact α j hj
theorem aB.ths {D:Nat->Prop}{w:World}{L:List Nat×Lv}{v:Value}(h:aB D w L v):∃ts,fL D w v L.1 (λl=>l=ts)/\af D w L.2 ts:=by
 obtain⟨b,vo,vt,ts,z,G,H,h4,h5,I,J,V⟩:=h;exact⟨ts,⟨b,vo,vt,ts,z,G,H,h4,h5,I,J,rfl⟩,V⟩
theorem fL.one {D:Nat->Prop}{w:World}{v:Value}{o:List Nat}{K:List Value->Prop}(h:fL D w v o K):oneV v=true:=by
 obtain⟨b,_,_,_,rfl,_⟩:=h;rfl
theorem jM.HR {B b g n e:Nat}{w w1 w2:World}(h:jM B w b [] [] λg=>g=b)(I:g=w.heap.size)(H:w1=w.alloc (.cells #[iv n] 3))(G:w2=w1.setCell ⟨b,0,none⟩ (.slice (some ⟨g,0,none⟩) 1 1)):jM B w2 b [n] [] λx=>x=b\/x=g:=by
 have z:Ex w w1:=H▸Ex.alloc w _;have J:=h.ex z;have V:=h.lt;have hle:=h.le;have W:aM 3 B w1 (.slice (some ⟨g,0,none⟩) 1 1) [iv n]:=aM.one (by omega) I H;have s1:w1.heap.size=w.heap.size+1:=by rw [H,size_alloc]
 obtain⟨Z,h2,h3,hr,h4,vo,vt,h5,h6,h7,h8,h9,h10,α⟩:=J;have k:Kr b w1 w2:=G▸Kr.set w1 0 _;refine⟨by rw [G,World.size_setCell];exact Z,h2,.inl rfl,λx z=>?_,λj=>by rw [G,World.frozen?_setCell];exact h4 j,_,vt,?_,?_,W.kp k λx z=>?_,?_,λx z=>?_,λx z=>⟨.inl (h10 x z).1,(h10 x z).2⟩,λx z e=>?_⟩
 ·have :=k.size;rcases z with rfl | rfl<;>omega
 ·rw [G];exact World.cell?_setCell_same _ _ _ h5
 ·rw [G,World.cell?_setCell_other _ _ _ _ (by simp)];exact h6
 ·have e:g=x:=Option.some.inj z;omega
 ·exact h8.kp k λx z=>(h10 x z).2
 ·have e:g=x:=Option.some.inj z;exact⟨.inr e.symm,by omega⟩
 ·have :=(h10 x e)
  exact absurd this.1 this.2
theorem jM.HY {B b g:Nat}{w w1 w2:World}{x:Value}(h:jM B w b [] [] λg=>g=b)(I:g=w.heap.size)(H:w1=w.alloc (.cells #[x] 156))(G:w2=w1.setCell ⟨b,1,none⟩ (.slice (some ⟨g,0,none⟩) 1 1)):jM B w2 b [] [x] λx=>x=b\/x=g:=by
 have z:Ex w w1:=H▸Ex.alloc w _;have J:=h.ex z;have V:=h.lt;have hle:=h.le;have W:aM 156 B w1 (.slice (some ⟨g,0,none⟩) 1 1) [x]:=aM.one (by omega) I H;have s1:w1.heap.size=w.heap.size+1:=by rw [H,size_alloc]
 obtain⟨Z,h2,h3,hr,h4,vo,vt,h5,h6,h7,h8,h9,h10,α⟩:=J;have k:Kr b w1 w2:=G▸Kr.set w1 1 _;refine⟨by rw [G,World.size_setCell];exact Z,h2,.inl rfl,λx z=>?_,λj=>by rw [G,World.frozen?_setCell];exact h4 j,vo,_,?_,?_,?_,W.kp k λx z=>?_,λx z=>⟨.inl (h9 x z).1,(h9 x z).2⟩,λx z=>?_,λx e z=>?_⟩
 ·have :=k.size;rcases z with rfl | rfl<;>omega
 ·rw [G,World.cell?_setCell_other _ _ _ _ (by simp)];exact h5
 ·rw [G];exact World.cell?_setCell_same _ _ _ h6
 ·exact h7.kp k λx z=>(h9 x z).2
 ·have e:g=x:=Option.some.inj z;omega
 ·have e:g=x:=Option.some.inj z;exact⟨.inr e.symm,by omega⟩
 ·have :=(h9 x e)
  exact absurd this.1 this.2
def T.eB (t:P)(e:UInt8->Nat)(n:Nat):UInt8->Nat:=if t.bnd=true then aD e t.cb (n+101)else e
def T.nB (t:P)(n:Nat):Nat:=if t.bnd=true then n+1 else n
def T.aA (t:P)(e:UInt8->Nat):Nat:=if t.ca=0 then 0 else e t.ca
def T.bA (t:P)(e:UInt8->Nat)(n:Nat):Nat:=if t.cb=0 then 0 else t.eB e n t.cb
structure RW (D:Nat->Prop)(w w':World)(m n:Nat)(e:UInt8->Nat)(b5 b10 b47:Nat)(t:P)(v:Value):Prop where
 rs:RS w w' m (t.nB n) (t.eB e n) b5 b10 t.kind (t.aA e) (t.bA e n)
 bd:jM w.heap.size w' b47 [] [] λg=>g=b47
 n5:b47≠b5
 n10:b47≠b10
 tm:aF D w' t v
 d:∀g,D g->g< w.heap.size/\¬g=m
def RJ (w w':World)(m n:Nat)(e:UInt8->Nat)(b47 b10:Nat)(t:P):Prop:=
 Km m w w'/\Mk w' m (num t e n).2/\jM w.heap.size w' b47 [] [] (λg=>g=b47)/\(flat (num t e n).1).1=[]/\af (λg=>(w.heap.size<=g/\g≠b47)/\g< w'.heap.size) w' (flat (num t e n).1).2 [ptr b10]
theorem DF {t:P}{w z:World}{m n:Nat}{e:UInt8->Nat}{b47 b10:Nat}{R:Value->World->Prop}(hm:m< w.heap.size)(hJ:RJ w z m n e b47 b10 t)(hR:∀v' w',Km m w w'->Mk w' m (num t e n).2->aB (xU w) w' (flat (num t e n).1) v'->R v' w'):
  ∀(H:Nat) (G:World),H=Array.size (World.heap z)->G=World.alloc z (Obj.cells #[(Value.pointer (some ⟨b10,0,none⟩))] 156)->oneV (Value.slice (some ⟨H,0,none⟩) 1 1)=true/\
   ((∃J:Value,World.cell? G ⟨b47,1,none⟩=some J)/\World.frozen? G ⟨b47,1,none⟩=false)/\∀I:World,I=World.setCell G ⟨b47,1,none⟩ (Value.slice (some ⟨H,0,none⟩) 1 1)->R ((Value.pointer (some ⟨b47,0,none⟩))) I:=by
 obtain⟨k,mk,bd,ho,Z⟩:=hJ;intro g w1 hg V;have hx:Ex z w1:=V▸Ex.alloc z _;have α:=bd.ex hx;have γ:=bd.lt;have hle:=bd.le;refine⟨rfl,?_,λw2 W=>?_⟩
 ·obtain⟨h1,h2,h3,hr,h4,vo,vt,h5,h6,_⟩:=α;exact⟨⟨_,h6⟩,h4 1⟩
 ·have β:=bd.HY hg V W;have kk:Kr b47 w1 w2:=W▸Kr.set w1 1 _;have k2:Kp z w2 λg=>g=b47:=Kp.trans (Kp.ah hx _) kk λg _ h=>h
  refine hR _ w2 (k.out k2 (λg hg e=>by omega) hm) (mk.kp k2 (by omega)) ?_;unfold aB;rw [ho];exact β.HF (λg _ h=>h) (af.sub (λg _ h=>h.1.1) (af.kp k2 (λg h e=>h.1.2 e) Z))
section
variable {D:Nat->Prop} {w w':World} {m n b5 b10 b47:Nat} {e:UInt8->Nat} {t p:P} {v:Value}
def RQ (w:World)(m b5 b10:Nat):Nat->Prop:=λg=>g=m\/(w.heap.size<=g/\g≠b5/\g≠b10)
theorem RW.fine (h:RW D w w' m n e b5 b10 b47 t v):(∀g,D g->¬RQ w m b5 b10 g)/\¬RQ w m b5 b10 b5/\RQ w m b5 b10 b47:=by
 have H:=h.rs.hm;have I:=h.rs.h5;have z:=h.bd.le;refine⟨λg G e=>?_,λe=>?_,.inr ⟨z,h.n5,h.n10⟩⟩
 ·have :=h.d g G;rcases e with e | e<;>omega
 ·rcases e with e | e
  ·omega
  ·exact e.2.1 rfl
structure RP (D:Nat->Prop)(w w':World)(m n:Nat)(b5 b10 b47:Nat)(e:UInt8->Nat)(t:P)(v:Value)(o:List Nat)(l:Lv)(ts:List Value)(M:Nat->Prop):Prop where
 kp:Km m w w'
 mc:Mk w' m n
 hm:m< w.heap.size
 env:ka w' b5 e
 h5:w.heap.size<=b5
 h10:b10< w'.heap.size
 tm:aF D w' t v
 d:∀g,D g->g< w.heap.size/\¬g=m
 bd:jM w.heap.size w' b47 o ts M
 mq:∀g,M g->RQ w m b5 b10 g
 th:af (λg=>(w.heap.size<=g/\¬M g)/\g< w'.heap.size) w' l ts
theorem RP.step {w1:World}{o:List Nat}{l:Lv}{ts:List Value}{M:Nat->Prop}(h:RP D w w1 m n b5 b10 b47 e t v o l ts M)(hp:A9 p){i:Int}(h0:0<=i)(hi:t.parts[i.toNat]?=some p)(χ:Lt p)
  (hn:n+p.size<=1099511627776) (hol:o.length+p.size<=1099511627776) (hll:l.len+p.size<=1099511627776) {R:World->Prop}
  (hR:∀w2 ψ M',RP D w w2 m (num p e n).2 b5 b10 b47 e t v (o++(flat (num p e n).1).1) (l.app (flat (num p e n).1).2) ψ M'->R w2):
  ∃G:World->Prop,∀Z:World,Z=World.drew w1->G Z/\∃(ε ζ:Nat),v=Value.pointer (some ⟨ε,ζ,none⟩)/\∃η:Value,(∀w',G w'->World.cell? w' ⟨ε,(ζ+3),none⟩=some η)/\
   ∃(θ ι H α:Nat),η=Value.slice (some ⟨θ,ι,none⟩) H α/\0<=i/\i< H/\∃κ:Value,(∀w',G w'->World.cell? w' ⟨θ,(ι+Int.toNat i* 1),none⟩=some κ)/\
   ∃I:List Value,List.length I=26/\(∀w',G w'->∀j,j< 26->World.cell? w' ⟨b5,0+j,none⟩=I[j]?)/\Calls Tryz.prog 137 #[ptr m,κ,(Value.agg (List.toArray I))] Z (ax [.v] fun(ω:Value) (μ:World)=>
    G μ/\Calls Tryz.prog 179 #[(Value.pointer (some ⟨b47,0,none⟩)),ω] μ (ax [] fun(ν:World)=>G ν/\R ν)):=by
 have h5:=h.h5;have hm:=h.hm;have hD:∀g,D g->¬RQ w m b5 b10 g:=λg z e=>by
  have :=h.d g z;rcases e with e | e<;>omega
 have ξ:¬RQ w m b5 b10 b5:=λe=>by
  rcases e with e | e
  ·omega
  ·exact e.2.1 rfl
 refine⟨λw'=>Kp (w1.drew) w' (RQ w m b5 b10),λw2 V=>⟨V▸Kp.ah (Ex.refl _) _,?_⟩⟩;have x2:Ex w1 w2:=V▸Ex.drew w1;have hs12:w2.heap.size=w1.heap.size:=by rw [V];rfl
 rw [<-V];have kx:Kr m w1 w2:=Kr.ex x2;have ο:¬M m:=λJ=>by
  have :=(h.bd.mr m J).1;omega
 refine zS (aF.kp (Kp.ah x2 λ _=>False) (λ _ _ h=>h) h.tm) hD (h.env.kp (Kp.ah x2 λ _=>False) λh=>h) ξ h0 hi λx cs hx hcs=>?_
 refine hp hx (λg z=>(h.d g z).2) (h.mc.ex x2) hcs χ hn λv3 w3 k3 m3 l3=>?_
 have s3:=k3.size;have s1:=h.bd.lt;have s0:=h.kp.size;have β:Kr m w1 w3:=Kr.trans kx k3.kp;have ς:Km m w1 w3:=Km.trans (Km.ex x2 h.mc.lt) k3;refine⟨Kp.mono (λg z=> .inl z) k3.kp,?_⟩;obtain⟨ts2,hl3,γ⟩:=aB.ths (l3.sub (E:=λg=>w2.heap.size<=g/\g< w3.heap.size) λg z hd=>⟨hd,z⟩);have hfs:=iT (num p e n).1;rw [(bM p e n).1]at hfs;have bd3:jM w.heap.size w3 b47 o ts M:=h.bd.kp β λg z e=>ο (e▸z)
 refine sR bd3 (by omega) hl3 γ.all (λg z J=>by have :=(h.bd.mr g J).2;omega) ⟨by omega,by rw [γ.len,h.th.len];omega⟩ λw4 M' k4 bd4 δ=>?_
 have υ:Kp w3 w4 (RQ w m b5 b10):=Kp.mono h.mq k4;refine⟨Kp.trans (Kp.mono (λg z=> .inl z) k3.kp) υ λg _ h=>h,?_⟩;have s4:=k4.size;have φ:Kp w1 w4 (RQ w m b5 b10):=Kp.trans (Kp.mono (λg z=> .inl z) β) υ λg _ h=>h
 have hb5:=h.env.hb;refine hR w4 (ts++ts2) M' ⟨?_,m3.kp k4 ο,hm,h.env.kp φ ξ,h5,by have :=h.h10;omega,aF.kp φ hD h.tm,h.d,bd4,λg z=>?_,?_⟩
 ·exact(Km.trans h.kp ς).out k4 (λg z J=>by have :=(h.bd.mr g J).1;omega) hm
 ·rcases δ g z with W | W
  ·exact h.mq g W
  ·exact .inr ⟨by omega,by omega,by have :=h.h10;omega⟩
 ·refine af.app ?_ ?_
  ·refine af.sub (λg _ z=>?_) (af.kp k4 (λg z e=>z.1.2 e) (af.kp β (λg z e=>?_) h.th))
   ·refine⟨⟨z.1.1,λJ=>?_⟩,by omega⟩;rcases δ g J with W | W
    ·exact z.1.2 W
    ·omega
   ·have :=z.1.1;omega
  ·refine af.sub (λg _ z=>?_) (af.kp k4 (λg z J=>?_) γ)
   ·refine⟨⟨by omega,λJ=>?_⟩,by omega⟩;rcases δ g J with W | W
    ·have :=(h.bd.mr g W).2;omega
    ·omega
   ·have :=(h.bd.mr g J).2;omega
theorem RP.done {w':World}{o:List Nat}{l:Lv}{ts:List Value}{M:Nat->Prop}(h:RP D w w' m n b5 b10 b47 e t v o l ts M):aB (xU w) w' (o,l) (ptr b47):=
 h.bd.HF (λg _ h=>h) (af.sub (λg _ z=>z.1.1) h.th)
end
theorem CJ {t:P}(ih:∀p∈t.parts,A9 p):A9 t:=by
 intro D v w m n cs e R ht hD hmk θ I hn hR;obtain⟨D,ht,hD⟩:∃D',aF D' w t v/\∀g,D' g->g< w.heap.size/\¬g=m:=⟨_,ht.bound,λg G=>⟨G.2,hD g G.1⟩⟩
 refine nF _ v _ w R ?_;refine⟨cs,rfl,λb5 w6 hb5 γ=>?_⟩;have x6:Ex w w6:=γ▸Ex.alloc w _;have s6:w6.heap.size=w.heap.size+1:=by rw [γ,size_alloc]
 have t6:aF D w6 t v:=aF.kp (Kp.ah x6 λ _=>False) (λ _ _ h=>h) ht;have c0:∀{w':World},aF D w' t v->∃b,v=ptr b/\w'.cell? ⟨b,0+0,none⟩=some (.int .u8 t.kind.toNat)/\w'.cell? ⟨b,0+1,none⟩=some (.int .u8 t.ca.toNat)/\w'.cell? ⟨b,0+2,none⟩=some (.int .u8 t.cb.toNat):=λh=>by
  obtain⟨b,vs,l,h0,V,h2,h3,h4,h5,_⟩:=h.inv;exact⟨b,h0,h3,h4,h5⟩
 obtain⟨b7,hv,q0,_,_⟩:=c0 t6;refine⟨b7,0,hv,t.kind,q0,λb10 w11 hb10 μ=>?_⟩;have φ:Ex w6 w11:=μ▸Ex.alloc w6 _;have s11:w11.heap.size=w6.heap.size+1:=by rw [μ,size_alloc]
 have kt:∀{w':World},Kr m w w'->aF D w' t v:=λk=>aF.kp k (λg G=>(hD g G).2) ht
 have δ:=hmk.lt;have ι:RS w w11 m n e b5 b10 t.kind 0 0:=by
  refine⟨Km.ex (Ex.trans x6 φ) δ,hmk.ex (Ex.trans x6 φ),δ,⟨by omega,λj=>?_,cs,θ,λj hj=>?_⟩,by omega,by omega,by omega,jU.new hb10 μ⟩
  ·rw [World.frozen?_of_block (w:=w6) (φ.block b5 (by omega)),γ,hb5];unfold World.frozen? World.alloc;simp
  ·rw [φ.cell (show b5< _ by omega),γ,hb5,Nat.zero_add];have :=θ.1;unfold World.cell? World.alloc;simp
 obtain⟨b13,hv13,_,q1,_⟩:=c0 (kt ι.kp.kp);refine⟨λw'=>RS w w' m n e b5 b10 t.kind (t.aA e) 0,⟨b13,0,hv13,t.ca,q1,λhc=>?_,λhc=>?_⟩,λχ W=>?_⟩
 ·have hc:t.ca≠0:=by simpa using hc
  have hl:=G8 I hc;have hb:=bn hl;refine⟨b13,0,hv13,t.ca,q1,⟨by omega,by rw [gk hl];omega⟩,_,ι.env.get hl,⟨⟨_,ι.th.c1⟩,ι.th.f 1⟩,λw21 ν=>?_⟩;have:t.aA e=e t.ca:=if_neg hc;rw [this];exact ι.xt ν
 ·have hc:t.ca=0:=by simpa using hc
  have:t.aA e=0:=if_pos hc;rw [this];exact ι
 refine⟨λw'=>RS w w' m (t.nB n) (t.eB e n) b5 b10 t.kind (t.aA e) 0,E8 (kt W.kp.kp) ⟨λhq=>?_,λhq=>?_⟩,λw35 κ=>?_⟩
 ·rw [wV]at hq;have hl:=Gm I hq;have hb:=bn hl;refine⟨λw'=>Kr m χ w',λw27 hw27=>⟨hw27▸Kr.ex (Ex.drew χ),?_⟩⟩;have ψ:Ex χ w27:=hw27▸Ex.drew χ;obtain⟨b28,hv28,_,_,q2⟩:=c0 (kt W.kp.kp);refine⟨b28,0,hv28,t.cb,λw' k=>?_,?_⟩
  ·obtain⟨b29,hv29,_,_,q3⟩:=c0 (kt (Kr.trans W.kp.kp k));have:b29=b28:=by
    have :=hv28.symm.trans hv29
    injection this with V
    injection V with V
    injection V with V
    exact V.symm
   rw [<-this];exact q3
  refine qY (W.mc.ex ψ) (by omega) λjV k32 m32=>⟨Kr.trans (Kr.ex ψ) k32.kp,⟨by omega,by rw [gk hl];omega⟩,?_,λw34 hw34=>?_⟩
  ·have :=(W.go (Km.trans (Km.ex ψ W.mc.lt) k32) m32).env;exact⟨⟨_,this.get hl⟩,this.f _⟩
  ·have e1:t.nB n=n+1:=if_pos hq;have e2:t.eB e n=aD e t.cb (n+101):=if_pos hq;rw [e1,e2];exact(W.go (Km.trans (Km.ex ψ W.mc.lt) k32) m32).HN hl hw34
 ·rw [wV]at hq;have e1:t.nB n=n:=if_neg (by rw [hq];simp);have e2:t.eB e n=e:=if_neg (by rw [hq];simp);rw [e1,e2];exact W
 obtain⟨b37,hv37,_,_,q2⟩:=c0 (kt κ.kp.kp);refine⟨λw'=>RS w w' m (t.nB n) (t.eB e n) b5 b10 t.kind (t.aA e) (t.bA e n),⟨b37,0,hv37,t.cb,q2,λhc=>?_,λhc=>?_⟩,λw46 ω b47 J hb47 hw48=>?_⟩
 ·have hc:t.cb≠0:=by simpa using hc
  have hl:=Hp I hc;have hb:=bn hl;refine⟨b37,0,hv37,t.cb,q2,⟨by omega,by rw [gk hl];omega⟩,_,κ.env.get hl,⟨⟨_,κ.th.c2⟩,κ.th.f 2⟩,λw21 ν=>?_⟩;have:t.bA e n=t.eB e n t.cb:=if_neg hc;rw [this];exact κ.qS ν
 ·have hc:t.cb=0:=by simpa using hc
  have:t.bA e n=0:=if_pos hc;rw [this];exact κ
 have x48:Ex w46 J:=hw48▸Ex.alloc w46 _;have H:=ω.ex x48;have hs46:=ω.kp.size;have bd:jM w.heap.size J b47 [] [] λg=>g=b47:=jM.new hs46 hb47 hw48
 have hn5:b47≠b5:=by have :=ω.env.hb;omega
 have hn10:b47≠b10:=by have :=ω.th.lt;omega
 have h105:=H.h5;have ξ:=H.h10;have rp:RP D w J m (t.nB n) b5 b10 b47 (t.eB e n) t v [] .nil [] (λg=>g=b47):=
  ⟨H.kp,H.mc,H.hm,H.env,H.h5,H.th.lt,kt H.kp.kp,hD,bd,λg G=> .inr ⟨by have :=bd.le;omega,by omega,by omega⟩,rfl⟩
 obtain⟨b50,hv50,q0',_,_⟩:=c0 (kt H.kp.kp);refine⟨λw'=>RJ w w' m n e b47 b10 t,⟨b50,0,hv50,t.kind,q0',?_⟩,λw143 hJ=>DF δ hJ hR⟩;have hRQ:∀g,D g->¬RQ w m b5 b10 g:=λg G e=>by
  have :=hD g G;rcases e with e | e<;>omega
 have hq5:¬RQ w m b5 b10 b5:=λe=>by
  rcases e with e | e
  ·omega
  ·exact e.2.1 rfl
 have hb47:=bd.le;have α:∀{p:P},t.parts[0]?=some p->A9 p->Lt p->t.nB n+p.size<=1099511627776->(num t e n).2=(num p (t.eB e n) (t.nB n)).2->(∀a b vr (w':World),a=t.aA e->b=t.bA e n->DA (λg=>(w.heap.size<=g/\g≠b47)/\g< w'.heap.size) w' (ptr b10) t.kind a b vr (.slice none 0 0)->
   aB (λg=>(w.heap.size<=g/\g≠b47)/\g< w'.heap.size) w' (flat (num p (t.eB e n) (t.nB n)).1) vr->(flat (num t e n).1).1=[]/\af (λg=>(w.heap.size<=g/\g≠b47)/\g< w'.heap.size) w' (flat (num t e n).1).2 [ptr b10])->
   ∃β:World->Prop,∀ο:World,ο=World.drew J->β ο/\∃(b130 o131:Nat),v=Value.pointer (some ⟨b130,o131,none⟩)/\∃v132:Value,(∀w',β w'->World.cell? w' ⟨b130,(o131+3),none⟩=some v132)/\∃(b133 o134 ζ cap136:Nat),v132=Value.slice (some ⟨b133,o134,none⟩) ζ cap136/\0<=(0:Int)/\(0:Int)< ζ/\
    ∃v137:Value,(∀w',β w'->World.cell? w' ⟨b133,(o134+Int.toNat 0* 1),none⟩=some v137)/\∃ε:List Value,List.length ε=26/\(∀w',β w'->∀j,j< 26->World.cell? w' ⟨b5,0+j,none⟩=ε[j]?)/\Calls Tryz.prog 137 #[ptr m,v137,(Value.agg (List.toArray ε))] ο (ax [.v] fun(v139:Value) (η:World)=>
     β η/\oneV v139=true/\((∃u141:Value,World.cell? η ⟨b10,3,none⟩=some u141)/\World.frozen? η ⟨b10,3,none⟩=false)/\∀w142:World,w142=World.setCell η ⟨b10,3,none⟩ v139->RJ w w142 m n e b47 b10 t):=by
  intro p hi hp hlp hnp e2 hth;refine⟨λw'=>Kp J.drew w' (RQ w m b5 b10),λw2 Z=>⟨Z▸Kp.ah (Ex.refl _) _,?_⟩⟩;have x2:Ex J w2:=Z▸Ex.drew J;rw [<-Z];have hs12:w2.heap.size=J.heap.size:=by rw [Z];rfl
  have r2:=H.ex x2;refine zS (kt r2.kp.kp) hRQ r2.env hq5 (i:=0) (by omega) hi λx cs hx θ=>?_
  refine hp hx (λg G=>(hD g G).2) r2.mc θ hlp hnp λv3 w3 k3 m3 l3=>?_
  have r3:=r2.go k3 m3;have s3:=k3.size;have l3':aB (λg=>w2.heap.size<=g/\g< w3.heap.size) w3 (flat (num p (t.eB e n) (t.nB n)).1) v3:=l3.sub λg G hd=>⟨hd,G⟩
  have hb10lt:=r2.th.lt;have hb47lt:=bd.lt;refine⟨Kp.mono (λg G=> .inl G) k3.kp,fL.one l3,⟨⟨_,r3.th.c3⟩,r3.th.f 3⟩,λw4 hw4=>?_⟩;have k4:Kr b10 w3 w4:=hw4▸Kr.set w3 3 _;have s4:=k4.size;have th4:=r3.th.AW hw4;have s2:=r2.kp.size;have hl4:aB (λg=>(w.heap.size<=g/\g≠b47)/\g< w4.heap.size) w4 (flat (num p (t.eB e n) (t.nB n)).1) v3:=aB.sub (aB.kp l3' k4 λg G e=>by omega) λg _ G=>⟨⟨by omega,by omega⟩,by omega⟩
  obtain⟨e4,h4⟩:=hth _ _ v3 w4 rfl rfl (th4.G1 ⟨⟨ξ,Ne.symm hn10⟩,th4.lt⟩) hl4;refine⟨r3.kp.out k4 (λg G e=>by omega) δ,?_,?_,e4,h4⟩
  ·rw [e2];exact m3.kp k4 (by omega)
  ·exact((bd.ex x2).kp k3.kp λg G e=>by omega).kp k4 λg G e=>by omega
 have hn0:∀{i:Int},0<=i->i.toNat=i.toNat:=λ _=>rfl
 cases t with
 | nil=>exact cQ rfl (hR _ _ H.kp H.mc rp.done)
 | par p q=>
  refine aS (by dsimp only [T.kind];decide) (cQ rfl ?_);have e1:n+(1+p.size+q.size)<=1099511627776:=by simpa only [T.size,Nat.add_assoc,Nat.add_comm,Nat.add_left_comm]using hn
  have V:=bM p e n;have h2:=iT (num p e n).1;rw [V.1]at h2;refine rp.step (i:=0) (ih p (by simp [T.parts])) (by omega) rfl I.1 (show n+p.size<=_ by omega) (by simp only [List.length_nil];omega) (by simp only [Lv.len];omega) λw2 ts2 M2 h=>?_
  refine h.step (i:=1) (ih q (by simp [T.parts])) (by omega) rfl I.2 (show(num p e n).2+q.size<=_ by omega) ?_ ?_ λw3 ts3 M3 h=>hR _ _ h.kp h.mc h.done
  ·show(flat (num p e n).1).1.length+q.size<=_;omega
  ·show(flat (num p e n).1).2.len+q.size<=_;omega
 | res x p=>
  refine aS (by dsimp only [T.kind];decide) (aS (by dsimp only [T.kind];decide) (cQ rfl ?_));have e1:n+(1+p.size)<=1099511627776:=by simpa only [T.size,Nat.add_assoc,Nat.add_comm,Nat.add_left_comm]using hn
  have hx0:x≠0:=λhx=>by have :=bn I.1;rw [hx]at this;exact absurd this.1 (by decide)
  have e2:T.bA (.res x p) e n=n+101:=by simp [T.bA,T.cb,hx0,T.eB,T.bnd,aD]
  refine⟨_,H.th.c2,λb82 w83 hb82 ς=>?_⟩;have x83:Ex J w83:=ς▸Ex.alloc J _;have bd83:=bd.ex x83;obtain⟨vo,_,hvo,_⟩:=bd83.sl;refine⟨rfl,⟨⟨vo,hvo⟩,bd83.fr 0⟩,λw85 hw85=>?_⟩;rw [e2]at ς;have bd85:=bd.HR (e:=0) hb82 ς hw85;have υ:Kr b47 J w85:=Kp.trans (Kp.ah x83 _) (hw85▸Kr.set w83 0 _) λ _ _ h=>h
  have s85:=υ.size;have hl5:=H.env.hb;have hl10:=H.th.lt;have hs48:=H.kp.size;have rp85:RP D w w85 m (n+1) b5 b10 b47 (aD e x (n+101)) (.res x p) v [n+101] .nil [] (λg=>g=b47\/g=b82):=
   ⟨H.kp.out υ (λg G e=>by omega) δ,H.mc.kp υ (by omega),δ,H.env.kp υ (by omega),h105,by omega,aF.kp υ (λg G e=>by have :=hD g G;omega) rp.tm,hD,bd85,λg G=> .inr (by
    rcases G with rfl | rfl
    ·exact⟨by omega,by omega,by omega⟩
    ·exact⟨by omega,by omega,by omega⟩),rfl⟩
  exact rp85.step (i:=0) (ih p (by simp [T.parts])) (by omega) rfl I.2 (by omega) (by simp only [List.length_cons,List.length_nil];omega) (by simp only [Lv.len];omega) λw2 ts2 M2 h=>hR _ _ h.kp h.mc h.done
 | sum p q=>
  refine aS (by dsimp only [T.kind];decide) (aS (by dsimp only [T.kind];decide) (aS (by dsimp only [T.kind];decide) (cQ rfl ?_)));have e1:n+(1+p.size+q.size)<=1099511627776:=by simpa only [T.size,Nat.add_assoc,Nat.add_comm,Nat.add_left_comm]using hn
  have V:=bM p e n;refine⟨λw'=>Kp J.drew w' (RQ w m b5 b10),λw2 Z=>⟨Z▸Kp.ah (Ex.refl _) _,?_⟩⟩;have x2:Ex J w2:=Z▸Ex.drew J;rw [<-Z];have hs12:w2.heap.size=J.heap.size:=by rw [Z];rfl
  have r2:=H.ex x2;refine zS (kt r2.kp.kp) hRQ r2.env hq5 (i:=0) (by omega) rfl λx cs hx θ=>?_
  refine zS (kt r2.kp.kp) hRQ r2.env hq5 (i:=1) (by omega) rfl λy cs' hy hcs'=>?_
  refine ih p (by simp [T.parts]) hx (λg G=>(hD g G).2) r2.mc θ I.1 (show n+p.size<=_ by omega) λv3 w3 k3 m3 l3=>?_
  have r3:=r2.go k3 m3;have s3:=k3.size;have l3':aB (λg=>w2.heap.size<=g/\g< w3.heap.size) w3 (flat (num p e n).1) v3:=l3.sub λg G hd=>⟨hd,G⟩
  refine⟨Kp.mono (λg G=> .inl G) k3.kp,?_⟩;refine ih q (by simp [T.parts]) (aF.kp k3.kp (λg G=>(hD g G).2) hy) (λg G=>(hD g G).2) m3 hcs' I.2 (show(num p e n).2+q.size<=_ by omega) λv4 w4 k4 m4 l4=>?_
  have r4:=r3.go k4 m4;have s4:=k4.size;have l4':aB (λg=>w3.heap.size<=g/\g< w4.heap.size) w4 (flat (num q e (num p e n).2).1) v4:=l4.sub λg G hd=>⟨hd,G⟩
  have k24:Kr m w2 w4:=Kr.trans k3.kp k4.kp;refine⟨Kp.mono (λg G=> .inl G) k24,fL.one l3,fL.one l4,λb124 w5 hb124 hw5=>?_⟩;have x5:Ex w4 w5:=hw5▸Ex.alloc w4 _;have s5:w5.heap.size=w4.heap.size+1:=by rw [hw5,size_alloc]
  have r5:=r4.ex x5;refine⟨Kp.trans (Kp.mono (λg G=> .inl G) k24) (Kp.ah x5 λ _=>False) λ _ _ h=>h.elim,rfl,⟨⟨_,r5.th.c4⟩,r5.th.f 4⟩,λw6 γ=>?_⟩;have k6:Kr b10 w5 w6:=γ▸Kr.set w5 4 _;have s6:=k6.size;have th6:=r5.th.Gd γ;have s2:=r2.kp.size;have hb10lt:=r2.th.lt;have hb47lt:=bd.lt;refine⟨r5.kp.out k6 (λg G e=>by omega) δ,r5.mc.kp k6 (by omega),?_,rfl,?_⟩
  ·exact(((bd.ex x2).kp k24 λg G e=>by omega).ex x5).kp k6 λg G e=>by omega
  ·have hl3:aB (λg=>(w.heap.size<=g/\g≠b47)/\g< w6.heap.size) w6 (flat (num p e n).1) v3:=aB.sub (aB.kp (aB.ex (aB.kp l3' k4.kp λg G e=>by omega) x5) k6 λg G e=>by omega) λg _ G=>⟨⟨by omega,by omega⟩,by omega⟩
   have hl4:aB (λg=>(w.heap.size<=g/\g≠b47)/\g< w6.heap.size) w6 (flat (num q e (num p e n).2).1) v4:=aB.sub (aB.kp (aB.ex l4' x5) k6 λg G e=>by omega) λg _ G=>⟨⟨by omega,by omega⟩,by omega⟩
   refine⟨_,_,_,_,_,[v3,v4],rfl,th6.G1 ⟨⟨ξ,Ne.symm hn10⟩,th6.lt⟩,.inr ⟨b124,0,2,rfl,⟨⟨by omega,by omega⟩,by omega⟩,by omega,λi z hz=>?_⟩,⟨v3,_,rfl,hl3,⟨v4,_,rfl,hl4,rfl⟩⟩,rfl⟩;rw [World.cell?_of_block (w:=w5) (k6.block b124 (by omega) (by omega)),hw5,hb124,Nat.zero_add];refine aa ?_
   match i,hz with
   | 0,hz=>simpa using hz
   | 1,hz=>simpa using hz
   | i+2,hz=>simp at hz
 | snd a b p=>
  refine aS (by dsimp only [T.kind];decide) (aS (by dsimp only [T.kind];decide) (aS (by dsimp only [T.kind];decide) (aS (by dsimp only [T.kind];decide) ?_)));refine α rfl (ih p (by simp [T.parts])) I.2.2 (show n+p.size<=_ by simp only [T.size]at hn;omega) rfl λa' b' vr w' ha hb V h2=>⟨rfl,?_⟩
  have ea:a'=e a:=by rw [ha];exact if_neg λhx=>by have :=bn I.1;rw [show a=0 from hx]at this;exact absurd this.1 (by decide)
  have eb:b'=e b:=by rw [hb];exact if_neg λhx=>by have :=bn I.2.1;rw [show b=0 from hx]at this;exact absurd this.1 (by decide)
  exact⟨_,_,_,_,_,rfl,V,.inr (.inr ⟨ea,eb⟩),h2,rfl⟩
 | mat a b p=>
  refine aS (by dsimp only [T.kind];decide) (aS (by dsimp only [T.kind];decide) (aS (by dsimp only [T.kind];decide) (aS (by dsimp only [T.kind];decide) ?_)));refine α rfl (ih p (by simp [T.parts])) I.2.2 (show n+p.size<=_ by simp only [T.size]at hn;omega) rfl λa' b' vr w' ha hb V h2=>⟨rfl,?_⟩
  have ea:a'=e a:=by rw [ha];exact if_neg λhx=>by have :=bn I.1;rw [show a=0 from hx]at this;exact absurd this.1 (by decide)
  have eb:b'=e b:=by rw [hb];exact if_neg λhx=>by have :=bn I.2.1;rw [show b=0 from hx]at this;exact absurd this.1 (by decide)
  exact⟨_,_,_,_,_,rfl,V,.inr (.inr ⟨ea,eb⟩),h2,rfl⟩
 | rcv a b p=>
  refine aS (by dsimp only [T.kind];decide) (aS (by dsimp only [T.kind];decide) (aS (by dsimp only [T.kind];decide) (aS (by dsimp only [T.kind];decide) ?_)));refine α rfl (ih p (by simp [T.parts])) I.2.2 (show n+1+p.size<=_ by simp only [T.size]at hn;omega) rfl λa' b' vr w' ha hb V h2=>⟨rfl,?_⟩
  have ea:a'=e a:=by rw [ha];exact if_neg λhx=>by have :=bn I.1;rw [show a=0 from hx]at this;exact absurd this.1 (by decide)
  have eb:b'=n+101:=by
   rw [hb];refine(if_neg λhx=>by have :=bn I.2.1;rw [show b=0 from hx]at this;exact absurd this.1 (by decide)).trans ?_;simp [T.eB,T.bnd,aD,T.cb]
  exact⟨_,_,_,_,_,rfl,V,.inr (.inr ⟨ea,eb⟩),h2,rfl⟩
 | tau p=>
  refine aS (by dsimp only [T.kind];decide) (aS (by dsimp only [T.kind];decide) (aS (by dsimp only [T.kind];decide) (aS (by dsimp only [T.kind];decide) ?_)));exact α rfl (ih p (by simp [T.parts])) I (show n+p.size<=_ by simp only [T.size]at hn;omega) rfl λa' b' vr w' ha hb V h2=>⟨rfl,⟨_,_,_,_,_,rfl,V,.inl rfl,h2,rfl⟩⟩
 | rep p=>
  refine aS (by dsimp only [T.kind];decide) (aS (by dsimp only [T.kind];decide) (aS (by dsimp only [T.kind];decide) (aS (by dsimp only [T.kind];decide) ?_)));exact α rfl (ih p (by simp [T.parts])) I (show n+p.size<=_ by simp only [T.size]at hn;omega) rfl λa' b' vr w' ha hb V h2=>⟨rfl,⟨_,_,_,_,_,rfl,V,.inr (.inl rfl),h2,rfl⟩⟩
theorem uI:∀{l:List Nat} {x:Nat},x∈l->x<=l.sum
 | y::l,x,h=>by
  rw [List.sum_cons];rcases List.mem_cons.1 h with rfl | h
  ·omega
  ·have :=uI h;omega
theorem Fu:∀t:P,A9 t:=by
 have:∀(k:Nat) (t:P),t.size<=k->A9 t:=by
  intro k
  induction k with
  | zero=>intro t h;have :=aY t;omega
  | succ k z=>
   intro t h;refine CJ λp G=>z p ?_
   have e:=r9 t;have:p.size<=(t.parts.map T.size).sum:=uI (List.mem_map.2 ⟨p,G,rfl⟩);omega
 exact λt=>this t.size t (Nat.le_refl _)
end Go.Proofs.YtdecokaadekjnaaGreat
namespace Go.Proofs.YtdecokaadekjnaaGreat
open Go
set_option maxRecDepth 100000
theorem lZ (s1:Value)(w:World)(R:Value->World->Prop)(h:∃(G:Option Addr) (H c4:Nat),s1= .slice G H c4/\ai (Option.isNone G) (R (.slice none 0 0) w) (aR w (.cells #[] 3) λb5 I=>fB 3 1 8 I (.slice (some ⟨b5,0,none⟩) 0 0) s1 λv12 z=>R v12 z)):
  Calls Tryz.prog 180 #[s1] w (ax [.v] R):=
 bc (a8 [] [] []) [.tmp 2 .v] [.v s1] Tryz.func180 (by kernel_rfl) h
theorem jY (z:Value)(w:World)(R:Bool->World->Prop)(h:az z λb2 G=>aU w b2 (G+1) λv4=>bL v4 λH=>R ((decide ((H:Int)=0))) w):
  Calls Tryz.prog 181 #[z] w (ax [.b] R):=
 bc (a8 [] [] []) [.tmp 2 .b] [.v z] Tryz.func181 (by kernel_rfl) h
theorem mh (z:Value)(w:World)(R:Bool->World->Prop)(h:az z λb2 o3=>aU w b2 (o3+0) λv4=>bL v4 λl6=>ai (decide ((l6:Int)=0)) (az z λb8 o9=>aU w b8 (o9+1) λv10=>bL v10 λG=>ai (decide ((G:Int)=1)) (az z λH I=>aU w H (I+1) λJ=>aK J 0 λV W=>aU w V (W+Int.toNat 0* 1) λv21=>az v21 λZ α=>fK w Z (α+0) λβ=>R ((decide (β=43))) w) (R false w)) (R false w)):
  Calls Tryz.prog 182 #[z] w (ax [.b] R):=
 bc (a8 [] [] []) [.tmp 2 .b] [.v z] Tryz.func182 (by kernel_rfl) h
theorem mo (t1:Value)(c2:Value)(w:World)(R:Bool->World->Prop)(h:az c2 λb3 z=>oI w b3 z λn5=>bT 187 #[t1,(.int .i64 n5)] w λG H=>R G H):
  Calls Tryz.prog 240 #[t1,c2] w (ax [.b] R):=
 bc (a8 [] [] []) [.tmp 3 .b] [.v t1,.v c2] Tryz.func240 (by kernel_rfl) h
theorem gn (s1:Value)(f2:Value)(w:World)(R:Int->World->Prop)(h:bL s1 λl4=>fZ 0 w λZ W z H=>ai (decide (z< (l4:Int))) (aK s1 z λb10 I=>aU H b10 (I+z.toNat* 1) λJ=>∃(f15:Nat) (c16:List Value),f2= .func (.func f15) #[] (List.toArray c16)/\List.contains dy f15=true/\bT f15 (List.toArray ([J]++c16)) H λV G=>ai V (R z G) (aj (z+1)/\Z (z+1) G/\W (z+1) G< W z H)) (R (-1) H)):
  Calls Tryz.prog 219 #[s1,f2] w (ax [.i] R):=
 bc (a8 [(2,[(8,.i)])] [] []) [.tmp 4 .i] [.v s1,.v f2] Tryz.func219 (by kernel_rfl) h
theorem fg (s1:Value)(f2:Value)(w:World)(R:Bool->World->Prop)(h:iw 219 #[s1,f2] w λz G=>R ((decide (0<=z))) G):
  Calls Tryz.prog 185 #[s1,f2] w (ax [.b] R):=
 bc (a8 [] [] []) [.tmp 4 .b] [.v s1,.v f2] Tryz.func185 (by kernel_rfl) h
theorem nA (z:Value)(G:Int)(w:World)(R:Bool->World->Prop)(h:aR w (.cells #[(.int .i64 G)] 3) λb3 H=>az z λb5 I=>aU H b5 (I+1) λJ=>bT 185 #[J,(Value.func (Fn.func 240) #[] #[(.pointer (some ⟨b3,0,none⟩))])] H λV W=>R V W):
  Calls Tryz.prog 220 #[z,(.int .i64 G)] w (ax [.b] R):=
 bc (a8 [] [] []) [.tmp 4 .b] [.v z,.i G] Tryz.func220 (by kernel_rfl) h
theorem lk (z:Value)(c2:Value)(w:World)(R:Bool->World->Prop)(h:az c2 λb3 G=>oI w b3 G λn5=>bT 220 #[z,(.int .i64 n5)] w λH I=>R H I):
  Calls Tryz.prog 222 #[z,c2] w (ax [.b] R):=
 bc (a8 [] [] []) [.tmp 3 .b] [.v z,.v c2] Tryz.func222 (by kernel_rfl) h
theorem gM (s1:Value)(f2:Value)(w:World)(R:Int->World->Prop)(h:bL s1 λl4=>fZ 0 w λZ W z H=>ai (decide (z< (l4:Int))) (aK s1 z λb10 I=>aU H b10 (I+z.toNat* 1) λJ=>∃(f15:Nat) (c16:List Value),f2= .func (.func f15) #[] (List.toArray c16)/\List.contains dy f15=true/\bT f15 (List.toArray ([J]++c16)) H λV G=>ai V (R z G) (aj (z+1)/\Z (z+1) G/\W (z+1) G< W z H)) (R (-1) H)):
  Calls Tryz.prog 241 #[s1,f2] w (ax [.i] R):=
 bc (a8 [(2,[(8,.i)])] [] []) [.tmp 4 .i] [.v s1,.v f2] Tryz.func241 (by kernel_rfl) h
theorem fG (s1:Value)(f2:Value)(w:World)(R:Bool->World->Prop)(h:iw 241 #[s1,f2] w λz G=>R ((decide (0<=z))) G):
  Calls Tryz.prog 221 #[s1,f2] w (ax [.b] R):=
 bc (a8 [] [] []) [.tmp 4 .b] [.v s1,.v f2] Tryz.func221 (by kernel_rfl) h
theorem mP (t1:Value)(x2:Int)(w:World)(R:Bool->World->Prop)(h:aR w (.cells #[(.int .i64 x2)] 3) λb3 W=>∃J5:Bool->World->Prop,(az t1 λb6 o7=>fK W b6 (o7+0) λc8=>gF (decide (c8=33)) (az t1 λb9 ζ=>fK W b9 (ζ+0) λη=>gF (decide (η=61)) (az t1 λθ ι=>fK W θ (ι+0) λκ=>J5 ((decide (κ=63))) W) (J5 true W)) (J5 true W))/\∀(Z:Bool) (α:World),J5 Z α->∃J:World->Prop,(bJ α λG H=>ai Z (az t1 λμ ν=>jQ G μ (ν+1) λξ=>jQ G b3 0 λο=>gF (decide (ξ=ο)) (az t1 λς υ=>jQ G ς (υ+2) λφ=>jQ G b3 0 λχ=>ai (decide (φ=χ)) (R true H) (J H)) (R true H)) (J H))/\∀(β:World),J β->bJ β λz V=>az t1 λψ ω=>cA z ψ (ω+3) λv33=>∃γ:Option Addr,v33= .pointer γ/\ai (!Option.isNone γ) (az t1 λb35 o36=>cA z b35 (o36+3) λv37=>jQ z b3 0 λn38=>bT 220 #[v37,(.int .i64 n38)] V λq39 I=>z I/\gF q39 (az t1 λb41 o42=>cA z b41 (o42+4) λv43=>bT 221 #[v43,(Value.func (Fn.func 222) #[] #[(.pointer (some ⟨b3,0,none⟩))])] I λq44 δ=>z δ/\R q44 δ) (z I/\R true I)) (z V/\az t1 λb46 o47=>cA z b46 (o47+4) λv48=>bT 221 #[v48,(Value.func (Fn.func 222) #[] #[(.pointer (some ⟨b3,0,none⟩))])] V λq49 ε=>z ε/\R q49 ε)):
  Calls Tryz.prog 187 #[t1,(.int .i64 x2)] w (ax [.b] R):=
 bc (a8 [] [(2,[(5,.b)]),(4,[])] [2,4]) [.tmp 4 .b] [.v t1,.i x2] Tryz.func187 (by kernel_rfl) h
theorem ie (t1:Value)(c2:Value)(w:World)(R:Bool->World->Prop)(h:az c2 λb3 z=>oI w b3 z λn5=>bT 187 #[t1,(.int .i64 n5)] w λG H=>R G H):
  Calls Tryz.prog 186 #[t1,c2] w (ax [.b] R):=
 bc (a8 [] [] []) [.tmp 3 .b] [.v t1,.v c2] Tryz.func186 (by kernel_rfl) h
theorem jw (z:Int)(c2:Value)(w:World)(R:Bool->World->Prop)(h:aR w (.cells #[(.int .i64 z)] 3) λb3 G=>az c2 λb5 J=>aU G b5 J λV=>az V λW Z=>aU G W (Z+1) λv10=>bT 185 #[v10,(Value.func (Fn.func 186) #[] #[(.pointer (some ⟨b3,0,none⟩))])] G λH I=>R (!H) I):
  Calls Tryz.prog 184 #[(.int .i64 z),c2] w (ax [.b] R):=
 bc (a8 [] [] []) [.tmp 3 .b] [.i z,.v c2] Tryz.func184 (by kernel_rfl) h
theorem iR (s1:Value)(f2:Value)(w:World)(R:Int->World->Prop)(h:bL s1 λl4=>fZ 0 w λZ W z H=>ai (decide (z< (l4:Int))) (aK s1 z λb10 I=>oI H b10 (I+z.toNat* 1) λJ=>∃(f15:Nat) (c16:List Value),f2= .func (.func f15) #[] (List.toArray c16)/\List.contains dy f15=true/\bT f15 (List.toArray ([(.int .i64 J)]++c16)) H λV G=>ai V (R z G) (aj (z+1)/\Z (z+1) G/\W (z+1) G< W z H)) (R (-1) H)):
  Calls Tryz.prog 218 #[s1,f2] w (ax [.i] R):=
 bc (a8 [(2,[(8,.i)])] [] []) [.tmp 4 .i] [.v s1,.v f2] Tryz.func218 (by kernel_rfl) h
theorem ia (s1:Value)(d2:Value)(w:World)(R:Value->World->Prop)(h:iw 218 #[s1,d2] w λn3 w4=>ai (decide (n3=(-1))) (R s1 w4) (aj (n3+1)/\BX n3 (n3+1) w4 λI5 m6 i7 z Z=>bL s1 λζ=>ai (decide (z< (ζ:Int))) (aK s1 z λη θ=>oI Z η (θ+z.toNat* 1) λβ=>∃(f18:Nat) (γ:List Value),d2= .func (.func f18) #[] (List.toArray γ)/\List.contains dy f18=true/\bT f18 (List.toArray ([(.int .i64 β)]++γ)) Z λι α=>ai (!ι) (aK s1 i7 λκ μ=>bj α κ (μ+i7.toNat* 1) (.int .i64 β) λδ=>aj (i7+1)/\aj (z+1)/\I5 (i7+1) (z+1) δ/\m6 (i7+1) (z+1) δ< m6 i7 z Z) (aj (z+1)/\I5 i7 (z+1) α/\m6 i7 (z+1) α< m6 i7 z Z)) (∃(a28:Option Addr) (G c30:Nat),s1= .slice a28 G c30/\0<=(i7:Int)/\(i7:Int)<=(G:Int)/\(G:Int)<=(c30:Int)/\∃(a31:Option Addr) (H ν:Nat),(Value.slice (if c30=i7.toNat then a28 else Option.map (·.add (i7.toNat* 1)) a28) (Int.toNat (G:Int) - i7.toNat) (c30 - i7.toNat))= .slice a31 H ν/\((H=0/\∃(a37:Option Addr) (ξ I:Nat),s1= .slice a37 ξ I/\0<=(0:Int)/\(0:Int)<=i7/\i7<=(I:Int)/\R ((.slice (if I=Int.toNat 0 then a37 else Option.map (·.add (Int.toNat 0* 1)) a37) (i7.toNat - Int.toNat 0) (I - Int.toNat 0))) Z)\/∃(J V:Nat),a31=some ⟨J,V,none⟩/\(∀j,j< H->(∃u,World.cell? Z ⟨J,V+j,none⟩=some u)/\World.frozen? Z ⟨J,V+j,none⟩=false)/\∀ε:World,ε=World.setCells Z J V (List.replicate H (.int .i64 0))->∃(a40:Option Addr) (ο W:Nat),s1= .slice a40 ο W/\0<=(0:Int)/\(0:Int)<=i7/\i7<=(W:Int)/\R ((.slice (if W=Int.toNat 0 then a40 else Option.map (·.add (Int.toNat 0* 1)) a40) (i7.toNat - Int.toNat 0) (W - Int.toNat 0))) ε)))):
  Calls Tryz.prog 183 #[s1,d2] w (ax [.v] R):=
 bc (a8 [(5,[(5,.i),(6,.i)])] [] []) [.tmp 4 .v] [.v s1,.v d2] Tryz.func183 (by kernel_rfl) h
theorem kz (l1:Value)(w:World)(R:Value->World->Prop)(h:az l1 λb2 o3=>aU w b2 (o3+0) λv4=>cd 180 #[v4] w λv5 w6=>oneV v5=true/\aR w6 (.cells #[v5,(.slice none 0 0)] 155) λb7 w8=>aR w8 (.cells #[(.pointer none)] 146) λb9 w10=>bj w10 b9 0 (.pointer (some ⟨b7,0,none⟩)) λw12=>az l1 λb13 o14=>aU w12 b13 (o14+1) λv15=>bL v15 λl17=>fZ 0 w12 λV G z I=>ai (decide (z< (l17:Int))) (aK v15 z λb23 o24=>aU I b23 (o24+z.toNat* 1) λW=>bJ I λψ w29=>az W λb30 o31=>G3 ψ b30 (o31+0) λc32=>az W λb33 o34=>jQ ψ b33 (o34+1) λn35=>az W λb36 o37=>jQ ψ b36 (o37+2) λn38=>aR w29 (.cells #[(.int .u8 c32.toNat),(.int .i64 n35),(.int .i64 n38),(.pointer none),(.slice none 0 0)] 201) λb39 κ=>ψ κ/\az W λb41 o42=>fK κ b41 (o42+0) λc43=>ai (decide (c43=43)) (az W λb44 o45=>aU κ b44 (o45+4) λv46=>bL v46 λl48=>fZ 0 κ λI50 μ J Z=>ai (decide (J< (l48:Int))) (aK v46 J λb54 o55=>aU Z b54 (o55+J.toNat* 1) λv58=>cd 139 #[v58] Z λv59 w60=>bT 181 #[v59] w60 λq61 w62=>ai q61 (aj (J+1)/\I50 (J+1) w62/\μ (J+1) w62< μ J Z) (bT 182 #[v59] w62 λq63 w64=>ai q63 (bJ w64 λν w66=>cA ν b39 4 λv67=>az v59 λb68 o69=>cA ν b68 (o69+1) λv70=>aK v70 0 λb71 o72=>cA ν b71 (o72+Int.toNat 0* 1) λv75=>az v75 λb76 o77=>cA ν b76 (o77+4) λv78=>fB 146 1 8 w66 v67 v78 λv84 w85=>ν w85/\oneV v84=true/\bj w85 b39 4 v84 λw87=>aj (J+1)/\I50 (J+1) w87/\μ (J+1) w87< μ J Z) (aU w64 b39 4 λv88=>oneV v59=true/\aR w64 (.cells #[v59] 146) λb89 w90=>fB 146 1 8 w90 v88 (.slice (some ⟨b89,0,none⟩) 1 1) λv96 w97=>oneV v96=true/\bj w97 b39 4 v96 λw99=>aj (J+1)/\I50 (J+1) w99/\μ (J+1) w99< μ J Z))) (aU Z b39 4 λv100=>bL v100 λω=>ai (decide ((ω:Int)=0)) (aj (z+1)/\V (z+1) Z/\G (z+1) Z< G z I) (ai (decide ((ω:Int)=1)) (bJ Z λθ w105=>cA θ b9 0 λv106=>cA θ b39 4 λv107=>aK v107 0 λb108 o109=>cA θ b108 (o109+Int.toNat 0* 1) λv112=>fC 179 #[v106,v112] w105 λξ=>θ ξ/\aj (z+1)/\V (z+1) ξ/\G (z+1) ξ< G z I) (bJ Z λα w115=>cA α b9 0 λv116=>cA α b9 0 λv117=>az v117 λb118 o119=>cA α b118 (o119+1) λv120=>aR w115 (.cells #[(.pointer (some ⟨b39,0,none⟩))] 156) λb121 w122=>α w122/\fB 156 1 8 w122 v120 (.slice (some ⟨b121,0,none⟩) 1 1) λv128 w129=>α w129/\az v116 λb130 o131=>oneV v128=true/\bj w129 b130 (o131+1) v128 λw133=>aj (z+1)/\V (z+1) w133/\G (z+1) w133< G z I)))) (az W λb134 o135=>aU κ b134 (o135+3) λv136=>cd 139 #[v136] κ λv137 w138=>oneV v137=true/\bj w138 b39 3 v137 λw140=>bJ w140 λο H=>az W λb143 o144=>G3 ο b143 (o144+0) λc145=>ai (decide (c145=61)) (az W λb146 o147=>jQ ο b146 (o147+1) λn148=>az W λb149 o150=>jQ ο b149 (o150+2) λn151=>ai (decide (n148=n151)) (bJ H λS152 w153=>cA S152 b9 0 λv154=>cA S152 b39 3 λv155=>fC 179 #[v154,v155] w153 λw156=>aj (z+1)/\V (z+1) w156/\G (z+1) w156< G z I) (az W λb157 o158=>fK H b157 (o158+0) λc159=>gF (decide (c159=61)) (az W λb160 o161=>fK H b160 (o161+0) λc162=>ai (decide (c162=42)) (aU H b39 3 λv163=>bT 181 #[v163] H λq164 ς=>ai q164 (aj (z+1)/\V (z+1) ς/\G (z+1) ς< G z I) (bJ ς λβ w167=>cA β b9 0 λv168=>cA β b9 0 λv169=>az v169 λb170 o171=>cA β b170 (o171+1) λv172=>aR w167 (.cells #[(.pointer (some ⟨b39,0,none⟩))] 156) λb173 w174=>β w174/\fB 156 1 8 w174 v172 (.slice (some ⟨b173,0,none⟩) 1 1) λv180 w181=>β w181/\az v168 λb182 o183=>oneV v180=true/\bj w181 b182 (o183+1) v180 λw185=>aj (z+1)/\V (z+1) w185/\G (z+1) w185< G z I)) (bJ H λγ w187=>cA γ b9 0 λv188=>cA γ b9 0 λv189=>az v189 λb190 o191=>cA γ b190 (o191+1) λv192=>aR w187 (.cells #[(.pointer (some ⟨b39,0,none⟩))] 156) λb193 w194=>γ w194/\fB 156 1 8 w194 v192 (.slice (some ⟨b193,0,none⟩) 1 1) λv200 w201=>γ w201/\az v188 λb202 o203=>oneV v200=true/\bj w201 b202 (o203+1) v200 λw205=>aj (z+1)/\V (z+1) w205/\G (z+1) w205< G z I)) (aU H b39 3 λv206=>bT 181 #[v206] H λq207 υ=>ai q207 (aj (z+1)/\V (z+1) υ/\G (z+1) υ< G z I) (bJ υ λδ w210=>cA δ b9 0 λv211=>cA δ b9 0 λv212=>az v212 λb213 o214=>cA δ b213 (o214+1) λv215=>aR w210 (.cells #[(.pointer (some ⟨b39,0,none⟩))] 156) λb216 w217=>δ w217/\fB 156 1 8 w217 v215 (.slice (some ⟨b216,0,none⟩) 1 1) λv223 w224=>δ w224/\az v211 λb225 o226=>oneV v223=true/\bj w224 b225 (o226+1) v223 λw228=>aj (z+1)/\V (z+1) w228/\G (z+1) w228< G z I)))) (az W λb229 o230=>fK H b229 (o230+0) λc231=>gF (decide (c231=61)) (az W λb232 o233=>fK H b232 (o233+0) λc234=>ai (decide (c234=42)) (aU H b39 3 λv235=>bT 181 #[v235] H λq236 φ=>ai q236 (aj (z+1)/\V (z+1) φ/\G (z+1) φ< G z I) (bJ φ λε w239=>cA ε b9 0 λv240=>cA ε b9 0 λv241=>az v241 λb242 o243=>cA ε b242 (o243+1) λv244=>aR w239 (.cells #[(.pointer (some ⟨b39,0,none⟩))] 156) λb245 w246=>ε w246/\fB 156 1 8 w246 v244 (.slice (some ⟨b245,0,none⟩) 1 1) λv252 w253=>ε w253/\az v240 λb254 o255=>oneV v252=true/\bj w253 b254 (o255+1) v252 λw257=>aj (z+1)/\V (z+1) w257/\G (z+1) w257< G z I)) (bJ H λζ w259=>cA ζ b9 0 λv260=>cA ζ b9 0 λv261=>az v261 λb262 o263=>cA ζ b262 (o263+1) λv264=>aR w259 (.cells #[(.pointer (some ⟨b39,0,none⟩))] 156) λb265 w266=>ζ w266/\fB 156 1 8 w266 v264 (.slice (some ⟨b265,0,none⟩) 1 1) λv272 w273=>ζ w273/\az v260 λb274 o275=>oneV v272=true/\bj w273 b274 (o275+1) v272 λw277=>aj (z+1)/\V (z+1) w277/\G (z+1) w277< G z I)) (aU H b39 3 λv278=>bT 181 #[v278] H λq279 χ=>ai q279 (aj (z+1)/\V (z+1) χ/\G (z+1) χ< G z I) (bJ χ λη w282=>cA η b9 0 λv283=>cA η b9 0 λv284=>az v284 λb285 o286=>cA η b285 (o286+1) λv287=>aR w282 (.cells #[(.pointer (some ⟨b39,0,none⟩))] 156) λb288 w289=>η w289/\fB 156 1 8 w289 v287 (.slice (some ⟨b288,0,none⟩) 1 1) λv295 w296=>η w296/\az v283 λb297 o298=>oneV v295=true/\bj w296 b297 (o298+1) v295 λw300=>aj (z+1)/\V (z+1) w300/\G (z+1) w300< G z I))))) (bJ I λι w302=>cA ι b9 0 λv303=>cA ι b9 0 λv304=>az v304 λb305 o306=>cA ι b305 (o306+0) λv307=>cd 183 #[v307,(Value.func (Fn.func 184) #[] #[(.pointer (some ⟨b9,0,none⟩))])] w302 λv308 w309=>ι w309/\az v303 λb310 o311=>oneV v308=true/\bj w309 b310 (o311+0) v308 λw313=>aU w313 b9 0 λv314=>R v314 w313)):
  Calls Tryz.prog 139 #[l1] w (ax [.v] R):=
 bc (a8 [(3,[(22,.i)]),(8,[(50,.i)])] [] [5,14,17,20,22,23,24,27]) [.tmp 2 .v] [.v l1] Tryz.func139 (by kernel_rfl) h
end Go.Proofs.YtdecokaadekjnaaGreat
namespace Go.Proofs.YtdecokaadekjnaaGreat
open Go Go.RowKit
namespace Lv
def sz:Lv->Nat
 | nil=>0 | thr _ _ _ _ r n=>r.sz+n.sz+1 | sum z n=>z.sz+n.sz+1 | part _ q n=>q.sz+n.sz+1
def sh:Bool->Lv->Bool
 | _,nil=>true
 | true,thr _ _ _ _ r n=>sh true r&&sh true n
 | true,sum z n=>sh false z&&sh true n
 | false,part _ q n=>sh true q&&sh false n
 | _,_=>false
def bk:Lv->List Lv
 | nil=>[] | thr k a b o r n=>thr k a b o r nil::bk n | sum z n=>sum z nil::bk n | part o q n=>part o q nil::bk n
theorem cJ:∀l:Lv,l.bk.length=l.len
 | nil=>rfl
 | thr _ _ _ _ _ n=>by simp only [bk,len,List.length_cons,cJ n]
 | sum _ n=>by simp only [bk,len,List.length_cons,cJ n]
 | part _ _ n=>by simp only [bk,len,List.length_cons,cJ n]
theorem dU:∀(l:Lv),∀e∈l.bk,e.sz<=l.sz
 | nil,_,h=>by cases h
 | thr k a b o r n,e,h=>by
  rcases List.mem_cons.1 h with rfl | h
  ·simp only [sz];omega
  ·have :=dU n e h;simp only [sz];omega
 | sum z n,e,h=>by
  rcases List.mem_cons.1 h with rfl | h
  ·simp only [sz];omega
  ·have :=dU n e h;simp only [sz];omega
 | part o q n,e,h=>by
  rcases List.mem_cons.1 h with rfl | h
  ·simp only [sz];omega
  ·have :=dU n e h;simp only [sz];omega
theorem lT (x:Nat):∀l:Lv,l.has x=l.bk.any (·.has x)
 | nil=>rfl
 | thr k a b o r n=>by simp [bk,has,lT x n]
 | sum z n=>by simp [bk,has,lT x n]
 | part o q n=>by simp [bk,has,lT x n]
theorem jf:∀{l:Lv},l.sh true=true->∀e∈l.bk,(∃k a b o r,e=thr k a b o r nil/\r.sh true=true)\/∃G,e=sum G nil/\G.sh false=true
 | nil,_,_,h=>by cases h
 | thr k a b o r n,z,e,h=>by
  simp only [sh,Bool.and_eq_true]at z;rcases List.mem_cons.1 h with rfl | h
  ·exact .inl ⟨k,a,b,o,r,rfl,z.1⟩
  ·exact jf z.2 e h
 | sum G n,z,e,h=>by
  simp only [sh,Bool.and_eq_true]at z;rcases List.mem_cons.1 h with rfl | h
  ·exact .inr ⟨G,rfl,z.1⟩
  ·exact jf z.2 e h
 | part ..,z,_,_=>by cases z
theorem lz:∀{l:Lv},l.sh false=true->∀e∈l.bk,∃o q,e=part o q nil/\q.sh true=true
 | nil,_,_,h=>by cases h
 | part o q n,z,e,h=>by
  simp only [sh,Bool.and_eq_true]at z;rcases List.mem_cons.1 h with rfl | h
  ·exact⟨o,q,rfl,z.1⟩
  ·exact lz z.2 e h
 | thr ..,z,_,_=>by cases z
 | sum ..,z,_,_=>by cases z
theorem gA {b:Bool}:∀{l m:Lv},l.sh b=true->m.sh b=true->(l.app m).sh b=true
 | nil,_,_,h=>h
 | thr _ _ _ _ r n,m,z,G=>by
  cases b
  ·cases z
  ·simp only [sh,app,Bool.and_eq_true]at*;exact⟨z.1,gA z.2 G⟩
 | sum H n,m,z,G=>by
  cases b
  ·cases z
  ·simp only [sh,app,Bool.and_eq_true]at*;exact⟨z.1,gA z.2 G⟩
 | part o q n,m,z,G=>by
  cases b
  ·simp only [sh,app,Bool.and_eq_true]at*;exact⟨z.1,gA z.2 G⟩
  ·cases z
end Lv
theorem aH.cons {A B:Type}{R:A->B->Prop}{a:A}{b:B}{l:List A}{m:List B}(h:R a b)(z:aH R l m):aH R (a::l) (b::m):=(aH.one h).append z
theorem af.bk {D:Nat->Prop}{w:World}:∀{l:Lv} {ts:List Value},af D w l ts->aH (λe v=>af D w e [v]) l.bk ts
 | .nil,_,h=>by cases h;exact aH.nil
 | .thr k a b o r n,_,⟨t,z,a',J,vr,G,H,I,h4,h5⟩=>by subst G;exact aH.cons ⟨t,[],a',J,vr,rfl,H,I,h4,rfl⟩ (af.bk (l:=n) h5)
 | .sum V n,_,⟨t,z,a',J,vp,us,G,H,I,h4,h5⟩=>by subst G;exact aH.cons ⟨t,[],a',J,vp,us,rfl,H,I,h4,rfl⟩ (af.bk (l:=n) h5)
 | .part o q n,_,⟨v,z,G,H,I⟩=>by subst G;exact aH.cons ⟨v,[],rfl,H,rfl⟩ (af.bk (l:=n) I)
theorem ee.ex {D:Nat->Prop}{w w':World}{v:Value}{l:List Value}(h:ee D w v l)(x:Ex w w'):ee D w' v l:=h.kp (Kp.ah x λ _=>False) λ _ _ h=>h
def wz (w:World)(f:Nat)(ca:List Value)(ts:List Value)(p:Nat->Bool):Prop:=
 ∀(i:Nat) (x:Value) (w1:World),ts[i]?=some x->Ex w w1->∀{R:Bool->World->Prop},(∀w2,Ex w1 w2->R (p i) w2)->Calls Tryz.prog f (List.toArray ([x]++ca)) w1 (ax [.b] R)
theorem iU {n:Nat}{p:Nat->Bool}:(List.range n).any p=true↔∃i,i< n/\p i=true:=by
 simp [List.any_eq_true,List.mem_range]
theorem BD {D:Nat->Prop}{w:World}{s:Value}{ts:List Value}(V:ee D w s ts){f:Nat}{ca:List Value}(hf:dy.contains f=true){p:Nat->Bool}(hp:wz w f ca ts p)(hl:ts.length<=1099511627776){R:Bool->World->Prop}(W:∀w',Ex w w'->R ((List.range ts.length).any p) w'):
  Calls Tryz.prog 185 #[s,.func (.func f) #[] (List.toArray ca)] w (ax [.b] R):=by
 refine fg _ _ w R ?_;refine gn _ _ w _ ?_;obtain⟨a,cap,e⟩:=V.slice;refine⟨a,_,cap,e,λx w'=>∃i:Nat,x=i/\i<=ts.length/\Ex w w'/\∀j< i,p j=false,λx _=>(ts.length - x).toNat,⟨0,rfl,by omega,Ex.refl w,λj h=>by omega⟩,λx w1 hI=>?_⟩;obtain⟨i,rfl,hi,G,Z⟩:=hI;refine⟨λH=>?_,λH=>?_⟩
 ·have H:=of_decide_eq_true H;have z:i< ts.length:=by omega
  refine(V.ex G).get (i:=i) (x:=ts[i]) (by omega) (by simp [z]) ⟨f,ca,rfl,hf,hp i _ w1 (List.getElem?_eq_getElem z) G λw2 I=>⟨λJ=>?_,λJ=>⟨by unfold aj;omega,⟨i+1,by omega,by omega,Ex.trans G I,λj hj=>?_⟩,by dsimp only;omega⟩⟩⟩
  ·have :=W w2 (Ex.trans G I);rw [iU.2 ⟨i,z,J⟩]at this;have e:decide ((0:Int)<=i)=true:=decide_eq_true (by omega);show R (decide ((0:Int)<=i)) w2;rw [e];exact this
  ·by_cases h:j=i
   ·subst h;exact J
   ·exact Z j (by omega)
 ·have H:=of_decide_eq_false H;have :=W w1 G;have e:(List.range ts.length).any p=false:=by
   rw [Bool.eq_false_iff];intro h;obtain⟨j,hj,h⟩:=iU.1 h;rw [Z j (by omega)]at h;cases h
  rw [e]at this;exact this
theorem C5 {D:Nat->Prop}{w:World}{s:Value}{ts:List Value}(V:ee D w s ts){f:Nat}{ca:List Value}(hf:dy.contains f=true){p:Nat->Bool}(hp:wz w f ca ts p)(hl:ts.length<=1099511627776){R:Bool->World->Prop}(W:∀w',Ex w w'->R ((List.range ts.length).any p) w'):
  Calls Tryz.prog 221 #[s,.func (.func f) #[] (List.toArray ca)] w (ax [.b] R):=by
 refine fG _ _ w R ?_;refine gM _ _ w _ ?_;obtain⟨a,cap,e⟩:=V.slice;refine⟨a,_,cap,e,λx w'=>∃i:Nat,x=i/\i<=ts.length/\Ex w w'/\∀j< i,p j=false,λx _=>(ts.length - x).toNat,⟨0,rfl,by omega,Ex.refl w,λj h=>by omega⟩,λx w1 hI=>?_⟩;obtain⟨i,rfl,hi,G,Z⟩:=hI;refine⟨λH=>?_,λH=>?_⟩
 ·have H:=of_decide_eq_true H;have z:i< ts.length:=by omega
  refine(V.ex G).get (i:=i) (x:=ts[i]) (by omega) (by simp [z]) ⟨f,ca,rfl,hf,hp i _ w1 (List.getElem?_eq_getElem z) G λw2 I=>⟨λJ=>?_,λJ=>⟨by unfold aj;omega,⟨i+1,by omega,by omega,Ex.trans G I,λj hj=>?_⟩,by dsimp only;omega⟩⟩⟩
  ·have :=W w2 (Ex.trans G I);rw [iU.2 ⟨i,z,J⟩]at this;have e:decide ((0:Int)<=i)=true:=decide_eq_true (by omega);show R (decide ((0:Int)<=i)) w2;rw [e];exact this
  ·by_cases h:j=i
   ·subst h;exact J
   ·exact Z j (by omega)
 ·have H:=of_decide_eq_false H;have :=W w1 G;have e:(List.range ts.length).any p=false:=by
   rw [Bool.eq_false_iff];intro h;obtain⟨j,hj,h⟩:=iU.1 h;rw [Z j (by omega)]at h;cases h
  rw [e]at this;exact this
def G6 {A:Type}(l:List A)(f:A->Bool)(i:Nat):Bool:=(l[i]?.map f).getD false
theorem nM {A:Type}{l:List A}{f:A->Bool}{i:Nat}(h:i< l.length):G6 l f i=f l[i]:=by unfold G6;rw [List.getElem?_eq_getElem h];rfl
theorem uO {A:Type}{f:A->Bool}(l:List A):(List.range l.length).any (G6 l f)=l.any f:=by
 rw [Bool.eq_iff_iff,iU,List.any_eq_true];constructor
 ·rintro⟨i,z,h⟩
  rw [nM z]at h;exact⟨_,List.getElem_mem z,h⟩
 ·rintro⟨x,G,h⟩
  obtain⟨i,z,e⟩:=List.mem_iff_getElem.1 G;exact⟨i,z,by rw [nM z,e];exact h⟩
theorem yM {w w':World}{b n e:Nat}(hb:b=w.heap.size)(hw:w'=w.alloc (.cells #[iv n] e)):Ex w w'/\b< w'.heap.size/\w'.cell? ⟨b,0,none⟩=some (iv n):=by
 subst hb hw;exact⟨Ex.alloc w _,by rw [size_alloc];omega,aa rfl⟩
def zf (n:Nat):Prop:=∀{D:Nat->Prop} {w:World} {v:Value} {o:List Nat} {l:Lv} {x:Nat} {R:Bool->World->Prop},l.sz<=n->l.sh true=true->fL D w v o (af D w l)->l.sz<=1099511627776->(∀w',Ex w w'->R (l.has x) w')->Calls Tryz.prog 220 #[v,iv x] w (ax [.b] R)
def zw (n:Nat):Prop:=∀{D:Nat->Prop} {w:World} {v:Value} {l:Lv} {x:Nat} {R:Bool->World->Prop},l.sz<=n->((∃k a b o r,l= .thr k a b o r .nil/\r.sh true=true)\/∃z,l= .sum z .nil/\z.sh false=true)->af D w l [v]->l.sz<=1099511627776->
 (∀w',Ex w w'->R (l.has x) w')->Calls Tryz.prog 187 #[v,iv x] w (ax [.b] R)
theorem mI:∀l:Lv,l.len<=l.sz
 | .nil=>Nat.le_refl _
 | .thr _ _ _ _ r n=>by have :=mI n;simp only [Lv.len,Lv.sz];omega
 | .sum z n=>by have :=mI n;simp only [Lv.len,Lv.sz];omega
 | .part o q n=>by have :=mI n;simp only [Lv.len,Lv.sz];omega
theorem fL.ex {D:Nat->Prop}{w w':World}{v:Value}{o:List Nat}{l:Lv}(h:fL D w v o (af D w l))(x:Ex w w'):fL D w' v o (af D w' l):=aB.ex (L:=(o,l)) h x
theorem DN {n:Nat}(ht:zw n){D:Nat->Prop}{w:World}{l:Lv}{ts:List Value}{x b3:Nat}(hn:l.sz<=n)(I:l.sh true=true)(h:af D w l ts)(α:l.sz<=1099511627776)(hb:b3< w.heap.size)(hc:w.cell? ⟨b3,0,none⟩=some (iv x)):
  wz w 240 [ptr b3] ts (G6 l.bk (Lv.has x)):=by
 intro i v w1 V W R Z;have G:=h.bk;obtain⟨J,_⟩:=List.getElem?_eq_some_iff.1 V;have z:i< l.bk.length:=by rw [G.1];exact J
 have he:=G.2 i l.bk[i] v (List.getElem?_eq_getElem z) V;have H:=List.getElem_mem z;have hs:=Lv.dU l _ H;rw [nM z]at Z;refine mo v (ptr b3) w1 R ?_;refine⟨b3,0,rfl,x,by rw [W.cell (show b3< _ from hb)];exact hc,?_⟩;exact ht (by omega) (Lv.jf I _ H) (he.ex W) (by omega) Z
theorem tJ {n:Nat}(W:zw n):zf n:=by
 intro D w v o l x R Z z h G hR;refine nA v x w R ?_;intro b3 w4 H I;obtain⟨J,l4,c4⟩:=yM H I;obtain⟨b,vo,vt,ts,rfl,h2,h3,h4,h5,h6,h7,V⟩:=h.ex J;refine⟨b,0,rfl,vt,h5,?_⟩;have hlen:=V.len;have :=mI l;refine BD (ca:=[ptr b3]) h7 (by kernel_rfl) (DN W Z z V G l4 c4) (by omega) λw5 x5=>?_
 rw [hlen,<-Lv.cJ,uO,<-Lv.lT];exact hR w5 (Ex.trans J x5)
theorem DT {n:Nat}(ht:zf n){D:Nat->Prop}{w:World}{l:Lv}{ts:List Value}{x b3:Nat}(hn:l.sz<=n)(I:l.sh false=true)(h:af D w l ts)(α:l.sz<=1099511627776)(hb:b3< w.heap.size)(hc:w.cell? ⟨b3,0,none⟩=some (iv x)):
  wz w 222 [ptr b3] ts (G6 l.bk (Lv.has x)):=by
 intro i v w1 hi hx R J;have G:=h.bk;obtain⟨V,_⟩:=List.getElem?_eq_some_iff.1 hi;have z:i< l.bk.length:=by rw [G.1];exact V
 have he:=G.2 i l.bk[i] v (List.getElem?_eq_getElem z) hi;have H:=List.getElem_mem z;have hs:=Lv.dU l _ H;rw [nM z]at J;refine lk v (ptr b3) w1 R ?_;refine⟨b3,0,rfl,x,by rw [hx.cell (show b3< _ from hb)];exact hc,?_⟩;obtain⟨o,q,e,hq⟩:=Lv.lz I _ H;rw [e]at he J hs;obtain⟨v',W,h1,h2,_⟩:=he;obtain⟨rfl,rfl⟩:v=v'/\([]:List Value)=W:=by simpa using h1
 simp only [Lv.sz]at hs;refine ht (by omega) hq (fL.ex h2 hx) (by omega) λw2 Z=>?_
 have :=J w2 Z;simpa [Lv.has]using this
def Ek (k:K)(a b x:Nat):Bool:=(k== .s||k== .m||k== .r)&&(a==x||b==x)
theorem Bi {n:Nat}(ht:zf n):zw (n+1):=by
 intro D w v l x R hn hl h μ hR;refine mP v x w R ?_;intro b3 V χ ψ;obtain⟨x4,l4,c4⟩:=yM χ ψ;rcases hl with⟨k,a,b,o,r,rfl,hr⟩ | ⟨ps,rfl,ω⟩
 ·obtain⟨_,_,a',b',vr,e,η,hab,ν,_⟩:=h.ex x4;obtain⟨rfl,_⟩:=List.cons.inj e;simp only [Lv.sz]at hn μ;have ε:∀q w',Ex V w'->q=r.has x->Ek k a b x=false->R q w':=λq w' H hq hn=>by
   have :=hR w' (Ex.trans x4 H);simp only [Lv.has]at this;unfold Ek at hn;rw [hn,Bool.false_or,Bool.or_false,<-hq]at this;exact this
  have β:∀w',Ex V w'->Ek k a b x=true->R true w':=λw' H hn=>by
   have :=hR w' (Ex.trans x4 H);simp only [Lv.has]at this;unfold Ek at hn;rw [hn,Bool.true_or,Bool.true_or]at this;exact this
  obtain⟨g,rfl,g2,g3,g4,g5,g6,g7,g8⟩:=η;have θ:∀q:Bool,q=(k== .s||k== .m||k== .r)->∀w',Ex V w'->((k== .s||k== .m||k== .r)=true->(a'=a/\b'=b))->True:=λ _ _ _ _ _=>trivial
  have ξ:(k== .s||k== .m||k== .r)=true->a'=a/\b'=b:=by
   intro hk;rcases hab with rfl | rfl | h
   ·cases hk
   ·cases hk
   ·exact h
  refine⟨λq w'=>Ex V w'/\q=(k== .s||k== .m||k== .r),⟨g,0,rfl,_,g4,?_⟩,λq Z hJ=>?_⟩
  ·cases k
   ·exact dD rfl ⟨Ex.refl _,rfl⟩
   ·exact ck (by dsimp only [K.byte];decide) ⟨g,0,rfl,_,g4,ck (by dsimp only [K.byte];decide) ⟨g,0,rfl,_,g4,Ex.refl _,rfl⟩⟩
   ·exact ck (by dsimp only [K.byte];decide) ⟨g,0,rfl,_,g4,ck (by dsimp only [K.byte];decide) ⟨g,0,rfl,_,g4,Ex.refl _,rfl⟩⟩
   ·exact ck (by dsimp only [K.byte];decide) ⟨g,0,rfl,_,g4,dD rfl ⟨Ex.refl _,rfl⟩⟩
   ·exact ck (by dsimp only [K.byte];decide) ⟨g,0,rfl,_,g4,ck (by dsimp only [K.byte];decide) ⟨g,0,rfl,_,g4,Ex.refl _,rfl⟩⟩
  obtain⟨α,hq⟩:=hJ;have cg:∀{i:Nat} {u:Value} {w':World},Ex V w'->V.cell? ⟨g,i,none⟩=some u->w'.cell? ⟨g,i,none⟩=some u:=λH h=>by rw [H.cell (show g< _ from g3)];exact h
  have cb:∀{w':World},Ex V w'->w'.cell? ⟨b3,0,none⟩=some (iv x):=λH=>by rw [H.cell (show b3< _ from l4)];exact c4
  have dn:∀m:Nat,decide ((m:Int)=(x:Int))=(m==x):=λm=>by
   rw [Bool.eq_iff_iff,decide_eq_true_iff,beq_iff_eq];omega
  refine⟨λw'=>Ex V w'/\Ek k a b x=false,⟨λw'=>Ex V w',λο I=>⟨I▸Ex.trans α (Ex.drew Z),λι=>?_,λς=>?_⟩⟩,λγ hJ=>?_⟩
  ·have κ:Ex V ο:=I▸Ex.trans α (Ex.drew Z);rw [ι]at hq;obtain⟨rfl,rfl⟩:=ξ hq.symm;refine⟨g,0,rfl,a',λw' H=>cg H g5,x,λw' H=>cb H,λha=>⟨g,0,rfl,b',λw' H=>cg H g6,x,λw' H=>cb H,λhb=>?_,λhb=>?_⟩,λha=>?_⟩
   ·rw [dn]at hb;exact β _ κ (by unfold Ek;rw [<-hq,hb];simp)
   ·rw [dn]at ha hb;exact⟨κ,by unfold Ek;rw [ha,hb];simp⟩
   ·rw [dn]at ha;exact β _ κ (by unfold Ek;rw [<-hq,ha];simp)
  ·rw [ς]at hq;exact⟨I▸Ex.trans α (Ex.drew Z),by unfold Ek;rw [<-hq];simp⟩
  obtain⟨δ,θ⟩:=hJ;obtain⟨br,hvr⟩:∃br,vr=ptr br:=by obtain⟨b,_,_,_,e,_⟩:=ν;exact⟨b,e⟩
  refine⟨λw'=>Ex V w',λυ J=>⟨J▸Ex.trans δ (Ex.drew γ),g,0,rfl,vr,λw' H=>cg H g7,_,hvr,λ _=>⟨g,0,rfl,vr,λw' H=>cg H g7,x,λw' H=>cb H,?_⟩,λhc=>(by cases hc)⟩⟩;have G:Ex V υ:=J▸Ex.trans δ (Ex.drew γ);refine ht (by omega) hr (fL.ex ν G) (by omega) λw40 W=>⟨Ex.trans G W,λhq=>⟨g,0,rfl,_,λw' H=>cg H g8,?_⟩,λhq=>⟨Ex.trans G W,ε _ _ (Ex.trans G W) hq.symm θ⟩⟩
  refine C5 (D:=D) (ts:=[]) (ca:=[ptr b3]) (p:=λ _=>false) (.inl ⟨rfl,rfl⟩) (by kernel_rfl) (λi z w1 hi=>by simp at hi) (by simp) λw45 ζ=>⟨Ex.trans (Ex.trans G W) ζ,ε _ _ (Ex.trans (Ex.trans G W) ζ) (by rw [hq];rfl) θ⟩
 ·obtain⟨_,_,a',b',vp,us,e,η,hsl,φ,_⟩:=h.ex x4;obtain⟨rfl,_⟩:=List.cons.inj e;simp only [Lv.sz]at hn μ;obtain⟨g,rfl,g2,g3,g4,g5,g6,g7,g8⟩:=η;have cg:∀{i:Nat} {u:Value} {w':World},Ex V w'->V.cell? ⟨g,i,none⟩=some u->w'.cell? ⟨g,i,none⟩=some u:=λH h=>by rw [H.cell (show g< _ from g3)];exact h
  refine⟨λq w'=>Ex V w'/\q=false,⟨g,0,rfl,_,g4,ck (by decide) ⟨g,0,rfl,_,g4,ck (by decide) ⟨g,0,rfl,_,g4,Ex.refl _,rfl⟩⟩⟩,λq Z hJ=>?_⟩;obtain⟨α,rfl⟩:=hJ;refine⟨λw'=>Ex V w',⟨λw'=>Ex V w',λο I=>⟨I▸Ex.trans α (Ex.drew Z),λι=>(by cases ι),λς=>I▸Ex.trans α (Ex.drew Z)⟩⟩,λγ δ=>?_⟩;have G:Ex V γ.drew:=Ex.trans δ (Ex.drew γ);refine⟨λw'=>Ex V w',λυ J=>⟨J▸G,g,0,rfl,_,λw' H=>cg H g7,_,rfl,λhc=>(by cases hc),λ _=>⟨J▸G,g,0,rfl,vp,λw' H=>cg H g8,?_⟩⟩⟩;subst J;have hlen:=φ.len;have :=mI ps;refine C5 (ca:=[ptr b3]) (hsl.ex G) (by kernel_rfl) (DT ht (by omega) ω (φ.ex G) (by omega) (by have :=G.size;omega) (by rw [G.cell (show b3< _ from l4)];exact c4)) (by omega) λw5 x5=>⟨Ex.trans G x5,?_⟩
  rw [hlen,<-Lv.cJ,uO,<-Lv.lT];have :=hR w5 (Ex.trans x4 (Ex.trans G x5));simpa [Lv.has]using this
theorem y3:∀n,zw n
 | 0=>by
  intro z G h H J;rcases G with⟨k,a,b,o,r,rfl,hr⟩ | ⟨V,rfl,I⟩<;>simp [Lv.sz]at z
 | n+1=>Bi (tJ (y3 n))
theorem FP (n:Nat):zf n:=tJ (y3 n)
namespace Lv
def tot:Lv->Nat
 | nil=>0 | thr _ _ _ o r n=>o.length+r.tot+n.tot+1 | sum z n=>z.tot+n.tot+1 | part o q n=>o.length+q.tot+n.tot+1
theorem jy:∀l:Lv,l.sz<=l.tot
 | nil=>Nat.le_refl _
 | thr _ _ _ o r n=>by have :=jy r;have :=jy n;simp only [sz,tot];omega
 | sum z n=>by have :=jy z;have :=jy n;simp only [sz,tot];omega
 | part o q n=>by have :=jy q;have :=jy n;simp only [sz,tot];omega
theorem bR:∀l m:Lv,(l.app m).tot=l.tot+m.tot
 | nil,m=>by simp [app,tot]
 | thr _ _ _ o r n,m=>by simp only [app,tot,bR n m];omega
 | sum z n,m=>by simp only [app,tot,bR n m];omega
 | part o q n,m=>by simp only [app,tot,bR n m];omega
def take:Nat->Lv->Lv
 | 0,_=>nil
 | _+1,nil=>nil
 | i+1,thr k a b o r n=>thr k a b o r (n.take i)
 | i+1,sum z n=>sum z (n.take i)
 | i+1,part o q n=>part o q (n.take i)
theorem take_succ:∀(l:Lv) (i:Nat) (h:i< l.bk.length),l.take (i+1)=(l.take i).app (l.bk[i])
 | nil,_,h=>by simp [bk]at h
 | thr k a b o r n,0,_=>by simp [take,bk,app]
 | sum z n,0,_=>by simp [take,bk,app]
 | part o q n,0,_=>by simp [take,bk,app]
 | thr k a b o r n,i+1,h=>by
  simp only [bk,List.length_cons]at h;have :=take_succ n i (by omega);rw [take,this];rfl
 | sum z n,i+1,h=>by
  simp only [bk,List.length_cons]at h;have :=take_succ n i (by omega);rw [take,this];rfl
 | part o q n,i+1,h=>by
  simp only [bk,List.length_cons]at h;have :=take_succ n i (by omega);rw [take,this];rfl
theorem dc:∀(l:Lv),l.take l.bk.length=l
 | nil=>rfl
 | thr k a b o r n=>by simp only [bk,List.length_cons,take,dc n]
 | sum z n=>by simp only [bk,List.length_cons,take,dc n]
 | part o q n=>by simp only [bk,List.length_cons,take,dc n]
theorem nH {b:Bool}:∀(l:Lv) (i:Nat),l.sh b=true->(l.take i).sh b=true
 | _,0,_=>rfl
 | nil,_+1,_=>rfl
 | thr _ _ _ _ r n,i+1,h=>by
  cases b
  ·cases h
  ·simp only [sh,take,Bool.and_eq_true]at*;exact⟨h.1,nH n i h.2⟩
 | sum z n,i+1,h=>by
  cases b
  ·cases h
  ·simp only [sh,take,Bool.and_eq_true]at*;exact⟨h.1,nH n i h.2⟩
 | part o q n,i+1,h=>by
  cases b
  ·simp only [sh,take,Bool.and_eq_true]at*;exact⟨h.1,nH n i h.2⟩
  ·cases h
theorem fk:∀(l:Lv) (i:Nat),(l.take i).tot<=l.tot
 | _,0=>Nat.zero_le _
 | nil,_+1=>Nat.le_refl _
 | thr _ _ _ _ r n,i+1=>by have :=fk n i;simp only [take,tot];omega
 | sum z n,i+1=>by have :=fk n i;simp only [take,tot];omega
 | part o q n,i+1=>by have :=fk n i;simp only [take,tot];omega
theorem fS:∀(l:Lv),∀e∈l.bk,e.tot<=l.tot
 | nil,_,h=>by cases h
 | thr k a b o r n,e,h=>by
  rcases List.mem_cons.1 h with rfl | h
  ·simp only [tot];omega
  ·have :=fS n e h;simp only [tot];omega
 | sum z n,e,h=>by
  rcases List.mem_cons.1 h with rfl | h
  ·simp only [tot];omega
  ·have :=fS n e h;simp only [tot];omega
 | part o q n,e,h=>by
  rcases List.mem_cons.1 h with rfl | h
  ·simp only [tot];omega
  ·have :=fS n e h;simp only [tot];omega
theorem lR:∀{l:Lv},l.sh true=true->l.fe=true
 | nil,_=>rfl
 | thr _ _ _ _ r n,h=>by simp only [sh,Bool.and_eq_true]at h;exact lR (l:=n) h.2
 | sum z n,h=>by simp only [sh,Bool.and_eq_true]at h;exact lR (l:=n) h.2
 | part ..,h=>by cases h
theorem rW (o:List Nat)(r:List Nat×Lv):(kept o r).1.length+(kept o r).2.tot<=o.length+r.1.length+r.2.tot:=by
 unfold kept;have :=List.length_filter_le (λx=>r.2.has x) (o++r.1);rw [List.length_append]at this;dsimp only;omega
theorem lS (o:List Nat)(q m:Lv):prt o q m=(prt o q nil).app m:=by
 unfold prt;split
 ·rfl
 ·split
  ·rw [aV]
  ·rfl
 ·rfl
theorem dV:∀(l:Lv),(tid l).1.length+(tid l).2.tot<=l.tot
 | nil=>Nat.le_refl _
 | thr k a b o r n=>by
  have z:=dV r;have G:=dV n;have I:=rW o (tid r);simp only [tid,tot];split
  ·simp only [List.length_append,bR];omega
  ·split
   ·omega
   ·simp only [tot];omega
 | sum H n=>by
  have z:=dV H;have G:=dV n;simp only [tid,tot];unfold spl;split
  ·omega
  ·rename_i o q e;rw [e]at z;simp only [tot]at z;simp only [List.length_append,bR];omega
  ·simp only [tot];omega
 | part o q n=>by
  have z:=dV q;have G:=dV n;have I:=rW o (tid q);simp only [tid,tot];rw [lS,bR];have:(prt (kept o (tid q)).1 (kept o (tid q)).2 nil).tot<=(kept o (tid q)).1.length+(kept o (tid q)).2.tot+1:=by
   unfold prt;split
   ·simp [tot]
   ·rename_i H e;rw [e];split
    ·simp only [bR,tot];omega
    ·simp only [tot];omega
   ·simp only [tot];omega
  simp only [List.length_nil];omega
theorem xL:∀{l:Lv} (m:Lv),l.sh false=true->(tid (l.app m)).2=(tid l).2.app (tid m).2
 | nil,m,_=>rfl
 | part o q n,m,h=>by
  simp only [sh,Bool.and_eq_true]at h;simp only [app,tid,xL m h.2];rw [lS,lS _ _ (tid n).2,cn]
 | thr ..,_,h=>by cases h
 | sum ..,_,h=>by cases h
theorem dC:∀(l:Lv) (b:Bool),l.sh b=true->(tid l).2.sh b=true
 | nil,b,_=>by cases b<;>rfl
 | thr k a I o r n,b,h=>by
  cases b
  ·cases h
  ·simp only [sh,Bool.and_eq_true]at h;simp only [tid];split
   ·exact gA (dC r true h.1) (dC n true h.2)
   ·split
    ·exact dC n true h.2
    ·simp only [sh,Bool.and_eq_true];exact⟨dC r true h.1,dC n true h.2⟩
 | sum H n,b,h=>by
  cases b
  ·cases h
  ·simp only [sh,Bool.and_eq_true]at h;have z:=dC H false h.1;have G:=dC n true h.2;simp only [tid];unfold spl;split
   ·exact G
   ·rename_i o q e;rw [e]at z;simp only [sh,Bool.and_eq_true]at z;exact gA z.1 G
   ·simp only [sh,Bool.and_eq_true];exact⟨z,G⟩
 | part o q n,b,h=>by
  cases b
  ·simp only [sh,Bool.and_eq_true]at h;have z:=dC q true h.1;have G:=dC n false h.2;simp only [tid];rw [lS];refine gA ?_ G;unfold prt;split
   ·rfl
   ·rename_i H e;have z:(kept o (tid q)).2.sh true=true:=z;rw [e]at z;simp only [sh,Bool.and_eq_true]at z;split
    ·rw [aV];exact z.1
    ·simp only [sh,Bool.and_eq_true];exact⟨by rw [e];simp [sh,z.1],trivial⟩
   ·simp only [sh,Bool.and_eq_true];exact⟨z,trivial⟩
  ·cases h
end Lv
theorem aM.fr {e B:Nat}{w:World}{v:Value}{l:List Value}(h:aM e B w v l){g:Nat}(G:v.ownBlock=some g)(j:Nat):w.frozen? ⟨g,j,none⟩=false:=by
 rcases h.2 with⟨rfl,I⟩ | ⟨H,cap,cur,rfl,hb,z,_⟩
 ·cases G
 ·have e:H=g:=Option.some.inj G;subst e;unfold World.frozen?;simp only [z];simp
theorem vO {D:Nat->Prop}{w:World}{v:Value}{o:List Nat}(h:ee D w v (o.map iv))(Z:o.length<=1099511627776){R:Value->World->Prop}(J:∀v' w',Ex w w'->aM 3 w.heap.size w' v' (o.map iv)->R v' w'):
  Calls Tryz.prog 180 #[v] w (ax [.v] R):=by
 refine lZ v w R ?_;rcases id h with⟨rfl,e⟩ | ⟨b,off,cap,rfl,h1,h2,h3⟩
 ·exact⟨_,_,_,rfl,λ _=>J _ _ (Ex.refl w) (e▸aM.nil _ _ _),λh=>(by cases h)⟩
 ·refine⟨_,_,_,rfl,λh=>(by cases h),λ _ b5 V H z=>?_⟩;have G:Ex w V:=z▸Ex.alloc w _;have ho:aM 3 w.heap.size V (.slice (some ⟨b5,0,none⟩) 0 0) []:=by
   subst H z;refine⟨rfl,.inr ⟨_,0,#[],rfl,Nat.le_refl _,?_,by simp,by unfold maxLen;omega,rfl,rfl⟩⟩;unfold World.alloc;simp
  refine aM.push ho G.size (h.ex G) (Dd o) (by omega) (by simp;exact Z) λv' w' I W hn=>J v' w' ?_ I
  refine Ex.below G (Kp.below (S:=λg=>g=b5) (Kp.aQ W λg e=>(Option.some.inj e).symm) G.size λg W e=>by omega)
theorem aZ {b:Nat}:∀(cs:List Value) (w:World) (off:Nat),Kr b w (w.setCells b off cs)/\(∀g j,(w.setCells b off cs).frozen? ⟨g,j,none⟩=w.frozen? ⟨g,j,none⟩)/\(∀j,j< off->(w.setCells b off cs).cell? ⟨b,j,none⟩=w.cell? ⟨b,j,none⟩)/\
  ∀j,(∀i,i< cs.length->∃u,w.cell? ⟨b,off+i,none⟩=some u)->j< cs.length->(w.setCells b off cs).cell? ⟨b,off+j,none⟩=cs[j]?
 | [],w,off=>⟨Kr.refl b w,λ _ _=>rfl,λ _ _=>rfl,λ _ _ h=>by simp at h⟩
 | c::cs,w,off=>by
  obtain⟨H,I,z,h4⟩:=aZ cs (w.setCell ⟨b,off,none⟩ c) (off+1);refine⟨Kr.trans (Kr.set w off c) H,λg j=>(I g j).trans (World.frozen?_setCell _ _ _ _),λj G=>(z j (by omega)).trans (World.cell?_setCell_other _ _ _ _ λe=>by injection e with J V;omega),λj hu G=>?_⟩;cases j with
  | zero=>
   obtain⟨u,hu⟩:=hu 0 (by simp);exact(z off (by omega)).trans (World.cell?_setCell_same _ _ _ hu)
  | succ j=>
   have :=h4 j (λi W=>by
    obtain⟨u,hu⟩:=hu (i+1) (by simpa using W);refine⟨u,?_⟩;rw [World.cell?_setCell_other _ _ _ _ (λe=>by injection e with J V;omega),show off+1+i=off+(i+1) by omega];exact hu) (by simpa using G)
   rw [show off+1+j=off+(j+1) by omega]at this;exact this
theorem ee.G9 {D:Nat->Prop}{w:World}{v:Value}{o:List Nat}(h:ee D w v (o.map iv)){i:Int}{x:Nat}(z:0<=i)(G:o[i.toNat]?=some x){Q:Int->Prop}(H:Q x):
  ∃(b off len cap:Nat),v=Value.slice (some ⟨b,off,none⟩) len cap/\0<=i/\i< (len:Int)/\∃n:Int,World.cell? w ⟨b,off+Int.toNat i* 1,none⟩=some (.int .i64 n)/\Q n:=by
 obtain⟨b,off,len,cap,I,J,V,s,h4,h5⟩:=h.get (i:=i) (x:=iv x) (Q:=λs=>s=iv x) z (by rw [List.getElem?_map,G];rfl) rfl;exact⟨b,off,len,cap,I,J,V,x,by rw [h4,h5],H⟩
def FF (w:World)(S:Nat->Prop)(f:Nat)(ca:List Value)(p:Nat->Bool):Prop:=
 ∀(x:Nat) (w1:World),Kp w w1 S->∀{R:Bool->World->Prop},(∀w2,Ex w1 w2->R (p x) w2)->Calls Tryz.prog f (List.toArray ([iv x]++ca)) w1 (ax [.b] R)
theorem GN {D S:Nat->Prop}{w:World}{s:Value}{o:List Nat}(W:ee D w s (o.map iv)){f:Nat}{ca:List Value}(hf:dy.contains f=true){p:Nat->Bool}(hp:FF w S f ca p)(hl:o.length<=1099511627776){R:Int->World->Prop}
  (Z:∀(n:Int) w',Ex w w'->((n= -1/\∀x∈o,p x=false)\/(∃i:Nat,n=i/\i< o.length/\(∀x∈o.take i,p x=false)/\∀x,o[i]?=some x->p x=true))->R n w'):
  Calls Tryz.prog 218 #[s,.func (.func f) #[] (List.toArray ca)] w (ax [.i] R):=by
 refine iR _ _ w R ?_;obtain⟨a,cap,e⟩:=W.slice;rw [List.length_map]at e;refine⟨a,_,cap,e,λx w'=>∃i:Nat,x=i/\i<=o.length/\Ex w w'/\∀x∈o.take i,p x=false,λx _=>(o.length - x).toNat,⟨0,rfl,by omega,Ex.refl w,λj h=>by simp at h⟩,λx w1 hI=>?_⟩;obtain⟨i,rfl,hi,G,J⟩:=hI;refine⟨λH=>?_,λH=>?_⟩
 ·have H:=of_decide_eq_true H;have z:i< o.length:=by omega
  refine(W.ex G).G9 (i:=i) (x:=o[i]) (by omega) (by simp [z]) ⟨f,ca,rfl,hf,hp o[i] w1 (Kp.ah G _) λw2 I=>⟨λV=>?_,λV=>⟨by unfold aj;omega,⟨i+1,by omega,by omega,Ex.trans G I,λx hj=>?_⟩,by dsimp only;omega⟩⟩⟩
  ·exact Z _ w2 (Ex.trans G I) (.inr ⟨i,rfl,z,J,λx G=>by rw [List.getElem?_eq_getElem z]at G;cases G;exact V⟩)
  ·rw [List.take_succ_eq_append_getElem z]at hj;rcases List.mem_append.1 hj with h | h
   ·exact J x h
   ·rw [List.mem_singleton.1 h];exact V
 ·have H:=of_decide_eq_false H;have:i=o.length:=by omega
  subst this;rw [List.take_length]at J;exact Z _ w1 G (.inl ⟨rfl,J⟩)
theorem C3 {B:Nat}{w:World}{s:Value}{o:List Nat}(h:aM 3 B w s (o.map iv)){f:Nat}{ca:List Value}(hf:dy.contains f=true){p:Nat->Bool}(hp:FF w (λg=>s.ownBlock=some g) f ca p)(hl:o.length<=1099511627776){R:Value->World->Prop}
  (hR:∀v' w',oneV v'=true->Kp w w' (λg=>s.ownBlock=some g)->ee (λg=>s.ownBlock=some g) w' v' ((o.filter λx=> !p x).map iv)->R v' w'):
  Calls Tryz.prog 183 #[s,.func (.func f) #[] (List.toArray ca)] w (ax [.v] R):=by
 refine ia _ _ w R ?_;have δ:ee (λg=>s.ownBlock=some g) w s (o.map iv):=h.AY λg hg=>hg
 have κ:oneV s=true:=by
  rcases h.2 with⟨rfl,_⟩ | ⟨g,cap,cur,rfl,_⟩<;>rfl
 refine GN δ hf hp hl λn w1 x1 hn=>⟨λV=>?_,λV=>?_⟩
 ·have V:n= -1:=of_decide_eq_true V;rcases hn with⟨_,hn⟩ | ⟨i,e,_⟩
  ·refine hR _ _ κ (Kp.ah x1 _) ?_;rw [List.filter_eq_self.2 λx Z=>by simp [hn x Z]];exact δ.ex x1
  ·omega
 have V:¬n= -1:=of_decide_eq_false V;obtain⟨i0,rfl,ε,hn,μ⟩:∃i:Nat,n=i/\i< o.length/\(∀x∈o.take i,p x=false)/\∀x,o[i]?=some x->p x=true:=by
  rcases hn with⟨e,_⟩ | h
  ·exact absurd e V
  ·exact h
 rcases id h.2 with⟨rfl,θ⟩ | ⟨g,cap,cur,rfl,hb,hg,hle,φ,χ,ψ⟩
 ·simp at θ;subst θ;simp at ε
 rw [List.length_map]at*;have ζ:∀t,t< o.length->∃x,w1.cell? ⟨g,t,none⟩=some (iv x)/\o[t]?=some x:=λt z=>by
  rcases δ.ex x1 with⟨e,_⟩ | ⟨b',off,υ,e,h1,h2,h3⟩
  ·cases e
  ·injection e with e1 e2 e3
   injection e1 with e1
   injection e1 with e1 e4
   subst e1 e4;have :=h3 t (iv o[t]) (by simp [z]);rw [Nat.zero_add]at this;exact⟨_,this,List.getElem?_eq_getElem z⟩
 have ν:∀t,w1.frozen? ⟨g,t,none⟩=false:=λt=>by
  rw [World.frozen?_of_block (w:=w) (x1.block g (Array.getElem?_eq_some_iff.1 hg).1)];exact h.fr rfl t
 let q:Nat->Bool:=λx=> !p x
 refine⟨by unfold aj;omega,λi j w'=>∃(G H:Nat) (c:Nat->Nat),i=G/\j=H/\G< H/\H<=o.length/\Kp w w' (λx=>g=x)/\(∀t,t< o.length->w'.cell? ⟨g,t,none⟩=some (iv (c t)))/\(∀t,w'.frozen? ⟨g,t,none⟩=false)/\
  (List.range G).map c=(o.take H).filter q/\∀t,H<=t->t< o.length->o[t]?=some (c t),λ _ j _=>(o.length - j).toNat,?_,λi j w2 hI=>?_⟩
 ·refine⟨i0,i0+1,λt=>(o[t]?).getD 0,rfl,by omega,by omega,by omega,Kp.ah x1 _,λt z=>?_,ν,?_,λt _ z=>by simp [z]⟩
  ·obtain⟨x,h1,h2⟩:=ζ t z;show w1.cell? _=some (iv ((o[t]?).getD 0));rw [h2];exact h1
  ·have e1:(List.range i0).map (λt=>(o[t]?).getD 0)=o.take i0:=by
    refine List.ext_getElem? λt=>?_
    rw [List.getElem?_map,List.getElem?_take];by_cases z:t< i0
    ·have ξ:t< o.length:=by omega
     rw [if_pos z];simp [z,ξ]
    ·rw [if_neg z,List.getElem?_eq_none (by simp;omega)];rfl
   rw [e1,List.take_succ_eq_append_getElem ε,List.filter_append,List.filter_eq_self.2 λx Z=>by simp [q,hn x Z]];have :=μ _ (List.getElem?_eq_getElem ε);simp [q,this]
 ·obtain⟨G,H,c,rfl,rfl,ω,hj,k2,I,γ,hm,hd⟩:=hI;refine⟨_,_,_,rfl,λV=>?_,λV=>?_⟩
  ·have V:=of_decide_eq_true V;have J:H< o.length:=by omega
   have Z:=hd H (Nat.le_refl _) J;refine⟨g,0,_,_,rfl,by omega,V,(c H:Int),?_,f,ca,rfl,hf,hp (c H) w2 (Kp.mono (λx e=>congrArg some e) k2) λw3 x3=>⟨λhq=>?_,λhq=>?_⟩⟩
   ·rw [Nat.zero_add,Nat.mul_one,Int.toNat_natCast];exact I H J
   ·have hq:q (c H)=true:=hq;have W:g< w2.heap.size:=Nat.lt_of_lt_of_le (Array.getElem?_eq_some_iff.1 hg).1 k2.size;have α:=x3.block g W;refine⟨g,0,_,_,rfl,by omega,by omega,⟨⟨iv (c G),?_⟩,?_⟩,λw4 η=>⟨by unfold aj;omega,by unfold aj;omega,⟨G+1,H+1,aD c G (c H),by omega,by omega,by omega,by omega,?_,λt z=>?_,λt=>?_,?_,λt h1 h2=>?_⟩,by dsimp only;omega⟩⟩
    ·rw [Nat.zero_add,Nat.mul_one,Int.toNat_natCast,World.cell?_of_block (w:=w2) α];exact I G (by omega)
    ·rw [World.frozen?_of_block (w:=w2) α];exact γ _
    ·rw [η];exact Kp.set (S:=λx=>g=x) (Kp.trans k2 (Kp.ah x3 λ _=>False) λ _ _ h=>h.elim) rfl _
    ·rw [η,Nat.zero_add,Nat.mul_one,Int.toNat_natCast];by_cases e:t=G
     ·subst e;have:aD c t (c H) t=c H:=by simp [aD]
      rw [this];refine World.cell?_setCell_same _ _ _ (u:=iv (c t)) ?_;rw [World.cell?_of_block (w:=w2) α];exact I t z
     ·have:aD c G (c H) t=c t:=by simp [aD,e]
      rw [this,World.cell?_setCell_other _ _ _ _ (λh=>by injection h with h1 h2;exact e h2.symm),World.cell?_of_block (w:=w2) α];exact I t z
    ·rw [η,World.frozen?_setCell,World.frozen?_of_block (w:=w2) α];exact γ t
    ·rw [List.range_succ,List.map_append,List.take_succ_eq_append_getElem J,List.filter_append,<-hm];rw [List.getElem?_eq_getElem J]at Z;have e0:o[H]=c H:=Option.some.inj Z;rw [e0]
     congr 1
     ·refine List.map_congr_left λt z=>?_
      have:t≠G:=by have :=List.mem_range.1 z;omega
      simp [aD,this]
     ·simp [aD,hq]
    ·have:t≠G:=by omega
     rw [hd t (by omega) h2];simp [aD,this]
   ·have hq:q (c H)=false:=hq;refine⟨by unfold aj;omega,⟨G,H+1,c,rfl,by omega,by omega,by omega,Kp.trans k2 (Kp.ah x3 λ _=>False) (λ _ _ h=>h.elim),λt z=>?_,λt=>?_,?_,λt h1 h2=>hd t (by omega) h2⟩,by dsimp only;omega⟩
    ·have W:g< w2.heap.size:=Nat.lt_of_lt_of_le (Array.getElem?_eq_some_iff.1 hg).1 k2.size;rw [x3.cell (show g< _ from W)];exact I t z
    ·have W:g< w2.heap.size:=Nat.lt_of_lt_of_le (Array.getElem?_eq_some_iff.1 hg).1 k2.size;rw [World.frozen?_of_block (w:=w2) (x3.block g W)];exact γ t
    ·rw [List.take_succ_eq_append_getElem J,List.filter_append,hm];rw [List.getElem?_eq_getElem J]at Z;have e0:o[H]=c H:=Option.some.inj Z;rw [e0];simp [hq]
  ·have V:=of_decide_eq_false V;have J:H=o.length:=by omega
   subst J;rw [List.take_length]at hm;have W:g< w2.heap.size:=Nat.lt_of_lt_of_le (Array.getElem?_eq_some_iff.1 hg).1 k2.size;have ez:Int.toNat 0=0:=rfl;have hlen:G=(o.filter q).length:=by rw [<-hm];simp
   have fin:∀w',Kp w w' (λx=>g=x)->(∀t,t< G->w'.cell? ⟨g,t,none⟩=some (iv (c t)))->R (Value.slice (if cap=Int.toNat 0 then some (⟨g,0,none⟩:Addr)else Option.map (λa:Addr=>a.add (Int.toNat 0* 1)) (some (⟨g,0,none⟩:Addr))) (Int.toNat (G:Int) - Int.toNat 0) (cap - Int.toNat 0)) w':=by
    intro w' k ο;have e:(if cap=Int.toNat 0 then some (⟨g,0,none⟩:Addr)else Option.map (λq:Addr=>q.add (Int.toNat 0* 1)) (some (⟨g,0,none⟩:Addr)))=some ⟨g,0,none⟩:=by
     split
     ·rfl
     ·simp [Addr.add,ez]
    rw [e,ez];refine hR _ _ rfl (Kp.mono (λx e=>congrArg some e) k) (.inr ⟨g,0,cap - 0,?_,rfl,Nat.lt_of_lt_of_le (Array.getElem?_eq_some_iff.1 hg).1 k.size,λt x Z=>?_⟩)
    ·congr 1
     rw [List.length_map];show G - 0=(o.filter q).length;omega
    ·have Z:(o.filter q).map iv=(o.filter λx=> !p x).map iv:=rfl;rename_i β;rw [<-Z,<-hm,List.getElem?_map,List.getElem?_map]at β;rw [Nat.zero_add];by_cases z:t< G
     ·rw [List.getElem?_range z]at β;cases β;exact ο t z
     ·rw [List.getElem?_eq_none (by simp;omega)]at β;cases β
   refine⟨_,_,_,rfl,by omega,by omega,by omega,_,_,_,rfl,?_⟩;by_cases h0:o.length - G=0
   ·refine .inl ⟨by rw [Int.toNat_natCast,Int.toNat_natCast];exact h0,_,_,_,rfl,by omega,by omega,by omega,fin w2 k2 λt z=>I t (by omega)⟩
   ·have ς:¬cap=G:=by omega
    refine .inr ⟨g,G,?_,λt z=>⟨⟨_,I (G+t) (by rw [Int.toNat_natCast,Int.toNat_natCast]at z;omega)⟩,γ _⟩,λw3 ι=>⟨_,_,_,rfl,by omega,by omega,by omega,fin w3 ?_ λt z=>?_⟩⟩
    ·rw [Int.toNat_natCast,if_neg ς];simp only [Option.map_some,Addr.add];simp
     try omega
    ·rw [ι];exact Kp.trans k2 (aZ _ w2 G).1 λx _ e=>e.symm
    ·rw [ι,(aZ _ w2 G).2.2.1 t z];exact I t (by omega)
def Lv.isSum1:Lv->Bool
 | .sum _ .nil=>true
 | _=>false
theorem uX (o:List Nat)(q:Lv):Lv.prt o q .nil=if q.isNil=true then .nil else if(o.isEmpty&&q.isSum1)=true then(match q with | .sum z .nil=>z | q=> .part o q .nil)else .part o q .nil:=by
 cases q with
 | nil=>rfl
 | thr k a b G r n=>cases o<;>rfl
 | part G H n=>cases o<;>rfl
 | sum z n=>
  cases n with
  | nil=>cases o<;>simp [Lv.prt,Lv.isNil,Lv.isSum1,Lv.aV]
  | thr=>cases o<;>rfl
  | sum=>cases o<;>rfl
  | part=>cases o<;>rfl
section
variable {D:Nat->Prop} {w:World} {v:Value} {o:List Nat} {l:Lv}
theorem lM (h:fL D w v o (af D w l)){R:Bool->World->Prop}(z:R l.isNil w):Calls Tryz.prog 181 #[v] w (ax [.b] R):=by
 refine jY v w R ?_;obtain⟨b,vo,vt,ts,rfl,I,J,h4,h5,V,G,H⟩:=h;obtain⟨a,cap,e⟩:=G.slice;refine⟨b,0,rfl,vt,h5,a,_,cap,e,?_⟩;have:decide ((ts.length:Int)=0)=l.isNil:=by
  rw [H.len,Lv.dk,Bool.eq_iff_iff];simp only [decide_eq_true_eq];omega
 dsimp only;rw [this];exact z
theorem ES (h:fL D w v o (af D w l))(hs:l.sh true=true){R:Bool->World->Prop}(G:R (o.isEmpty&&l.isSum1) w):Calls Tryz.prog 182 #[v] w (ax [.b] R):=by
 refine mh v w R ?_;obtain⟨b,vo,vt,ts,rfl,h2,h3,h4,h5,h6,J,V⟩:=h;obtain⟨a,cap,e⟩:=h6.slice;obtain⟨a',I,e'⟩:=J.slice;rw [List.length_map]at e;have hlen:=V.len;refine⟨b,0,rfl,vo,h4,a,_,cap,e,λH=>⟨b,0,rfl,vt,h5,a',_,I,e',λz=>?_,λz=>?_⟩,λH=>?_⟩
 ·have H:=of_decide_eq_true H;have z:=of_decide_eq_true z;have ho:o.isEmpty=true:=by
   rw [List.isEmpty_iff];exact List.eq_nil_of_length_eq_zero (by omega)
  rw [ho,Bool.true_and]at G;cases l with
  | nil=>
   have:ts.length=0:=hlen;omega
  | thr k x y o' r n=>
   have W:n= .nil:=by
    have:n.len=0:=by simp only [Lv.len]at hlen;omega
    cases n<;>first | rfl | simp [Lv.len]at this
   subst W;obtain⟨t,Z,a1,b1,vr,rfl,⟨g,rfl,g2,g3,g4,_⟩,_⟩:=V;refine⟨b,0,rfl,vt,h5,J.get (i:=0) (x:=ptr g) (by omega) rfl ⟨g,0,rfl,_,g4,?_⟩⟩;have:decide (k.byte=43)=false:=by cases k<;>rfl
   dsimp only;rw [this];exact G
  | sum ps n=>
   have W:n= .nil:=by
    have:n.len=0:=by simp only [Lv.len]at hlen;omega
    cases n<;>first | rfl | simp [Lv.len]at this
   subst W;obtain⟨t,Z,a1,b1,vp,us,rfl,⟨g,rfl,g2,g3,g4,_⟩,_⟩:=V;exact⟨b,0,rfl,vt,h5,J.get (i:=0) (x:=ptr g) (by omega) rfl ⟨g,0,rfl,_,g4,G⟩⟩
  | part o' q n=>cases hs
 ·have z:=of_decide_eq_false z;have:l.isSum1=false:=by
   cases l with
   | sum ps n=>
    cases n with
    | nil=>
     have:ts.length=1:=hlen;omega
    | _=>rfl
   | _=>rfl
  rw [this,Bool.and_false]at G;exact G
 ·have H:=of_decide_eq_false H;have:o.isEmpty=false:=by
   cases o with
   | nil=>simp at H
   | cons=>rfl
  rw [this,Bool.false_and]at G;exact G
end
structure TI (w w':World)(b7 b9:Nat)(O:List Nat)(L:Lv)(ts:List Value)(M X:Nat->Prop):Prop where
 ex:Ex w w'
 bd:jM w.heap.size w' b7 O ts M
 th:af (λg=>(w.heap.size<=g/\¬M g/\¬X g)/\g< w'.heap.size) w' L ts
 c9:w'.cell? ⟨b9,0,none⟩=some (ptr b7)
 l9:b9< w'.heap.size
 h9:w.heap.size<=b9
 x9:X b9
 mx:∀g,M g->¬X g
 xl:∀g,X g->g< w'.heap.size
section
variable {w w' w'':World} {b7 b9:Nat} {O:List Nat} {L:Lv} {ts:List Value} {M X Y:Nat->Prop}
theorem TI.HC (h:TI w w' b7 b9 O L ts M X){S:Nat->Prop}(k:Kp w' w'' S)(H:∀g,S g->X g/\g≠b9/\w.heap.size<=g)(V:∀g,X g->Y g)(G:∀g,Y g->X g\/(w'.heap.size<=g/\g< w''.heap.size)):TI w w'' b7 b9 O L ts M Y:=by
 have J:∀g,g< w'.heap.size->¬X g->¬Y g:=λg z I W=>(G g W).elim I λh=>by omega
 refine⟨Ex.below h.ex (Kp.below k h.ex.size λg z e=>by have :=(H g e).2.2;omega),h.bd.kp k λg z e=>h.mx g z (H g e).1,?_,?_,Nat.lt_of_lt_of_le h.l9 k.size,h.h9,V b9 h.x9,λg z=>J g (h.bd.mr g z).2 (h.mx g z),λg z=>(G g z).elim (λI=>Nat.lt_of_lt_of_le (h.xl g I) k.size) λh=>h.2⟩
 ·refine af.sub (λg _ z=>⟨⟨z.1.1,z.1.2.1,J g z.2 z.1.2.2⟩,Nat.lt_of_lt_of_le z.2 k.size⟩) (af.kp k (λg z e=>z.1.2.2 (H g e).1) h.th)
 ·rw [World.cell?_of_block (w:=w') (k.block b9 h.l9 λe=>(H b9 e).2.1 rfl)];exact h.c9
theorem TI.H8 (h:TI w w' b7 b9 O L ts M X){S:Nat->Prop}(k:Kp w' w'' S)(z:∀g,S g->X g/\g≠b9/\w.heap.size<=g):TI w w'' b7 b9 O L ts M X:=h.HC k z (λ _ h=>h) λ _ h=> .inl h
theorem TI.ext (h:TI w w' b7 b9 O L ts M X)(x:Ex w' w''):TI w w'' b7 b9 O L ts M X:=h.H8 (Kp.ah x λ _=>False) λ _ h=>h.elim
theorem TI.CH (h:TI w w' b7 b9 O L ts M X)(z:∀g,Y g->X g)(I:Y b9):TI w w' b7 b9 O L ts M Y:=
 ⟨h.ex,h.bd,af.sub (λg H hd=>⟨⟨hd.1.1,hd.1.2.1,λG=>hd.1.2.2 (z g G)⟩,hd.2⟩) h.th,h.c9,h.l9,h.h9,I,λg hm G=>h.mx g hm (z g G),λg H=>h.xl g (z g H)⟩
theorem TI.CO (h:TI w w' b7 b9 O L ts M X){D2:Nat->Prop}{v2:Value}{O2:List Nat}{L2:Lv}(hl:aB D2 w' (O2,L2) v2)(hd:∀g,g< w'.heap.size->D2 g->w.heap.size<=g/\¬M g/\¬X g)
  (hb:O.length+O2.length<=1099511627776/\ts.length+L2.len<=1099511627776) {R:World->Prop} (hR:∀w'' W V,TI w w'' b7 b9 (O++O2) (L.app L2) W V X->Kp w' w'' M->R w''):
  Calls Tryz.prog 179 #[ptr b7,v2] w' (ax [] R):=by
 obtain⟨Z,α,G⟩:=aB.ths (hl.sub (E:=λg=>(w.heap.size<=g/\¬M g/\¬X g)/\g< w'.heap.size) λg z β=>⟨hd g z β,z⟩);have I:=h.ex.size;refine sR h.bd I α G.all (λg z=>z.1.2.1) ⟨hb.1,by rw [G.len];exact hb.2⟩ λw3 V H γ J=>hR w3 (ts++Z) V ⟨?_,γ,?_,?_,Nat.lt_of_lt_of_le h.l9 H.size,h.h9,h.x9,?_,λg z=>Nat.lt_of_lt_of_le (h.xl g z) H.size⟩ H
 ·exact Ex.below h.ex (Kp.below H I λg z e=>by have :=(h.bd.mr g e).1;omega)
 ·have key:∀{l:Lv} {us:List Value},af (λg=>(w.heap.size<=g/\¬M g/\¬X g)/\g< w'.heap.size) w' l us->af (λg=>(w.heap.size<=g/\¬V g/\¬X g)/\g< w3.heap.size) w3 l us:=λht=>
   af.sub (λg _ z=>⟨⟨z.1.1,λhm=>(J g hm).elim z.1.2.1 λh=>by omega,z.1.2.2⟩,Nat.lt_of_lt_of_le z.2 H.size⟩) (af.kp H (λg z=>z.1.2.1) ht)
  exact af.app (key h.th) (key G)
 ·rw [World.cell?_of_block (w:=w') (H.block b9 h.l9 λe=>h.mx b9 e h.x9)];exact h.c9
 ·intro g hm hx;rcases J g hm with h1 | h1
  ·exact h.mx g h1 hx
  ·have :=h.xl g hx;omega
end
section
variable {w w':World} {b7 b9:Nat} {O:List Nat} {L:Lv} {ts:List Value} {M X:Nat->Prop}
theorem TI.push (h:TI w w' b7 b9 O L ts M X){g:Nat}{e:Lv}(he:af (λg=>(w.heap.size<=g/\¬M g/\¬X g)/\g< w'.heap.size) w' e [ptr g])(hl:ts.length+1<=1099511627776){K:World->Prop}(hK:∀w'' ts' M',TI w w'' b7 b9 O (L.app e) ts' M' X->K w''):
  ∃I:World->Prop,∀W:World,W=World.drew w'->I W/\∃v168:Value,(∀w',I w'->World.cell? w' ⟨b9,0,none⟩=some v168)/\∃θ:Value,(∀w',I w'->World.cell? w' ⟨b9,0,none⟩=some θ)/\∃(ι κ:Nat),θ=Value.pointer (some ⟨ι,κ,none⟩)/\
   ∃Z:Value,(∀w',I w'->World.cell? w' ⟨ι,(κ+1),none⟩=some Z)/\∀(μ:Nat) (G:World),μ=Array.size (World.heap W)->G=World.alloc W (Obj.cells #[(Value.pointer (some ⟨g,0,none⟩))] 156)->I G/\
   ∃(H n176 α:Nat) (ζ V:List Value),World.ownsRow G H 156 1 Z n176 ζ/\H<=Array.size (World.heap G)/\dN G (Value.slice (some ⟨μ,0,none⟩) 1 1) α 1 V/\(n176+α<=maxLen/\(n176+α)* 8<=140737488355328)/\
   ∀(β:Value) (J:World),World.ownsRow J H 156 1 β (n176+α) (ζ++V)->World.grownBy G J (Value.ownBlock Z)->(∀b:Nat,Value.ownBlock β=some b->Value.ownBlock Z=some b\/Array.size (World.heap G)<=b)->I J/\
   ∃(γ δ:Nat),v168=Value.pointer (some ⟨γ,δ,none⟩)/\oneV β=true/\((∃χ:Value,World.cell? J ⟨γ,(δ+1),none⟩=some χ)/\World.frozen? J ⟨γ,(δ+1),none⟩=false)/\∀ν:World,ν=World.setCell J ⟨γ,(δ+1),none⟩ β->K ν:=by
 obtain⟨h1,hle,h3,hr,h4,vo,vt,h5,h6,h7,h8,h9,h10,ψ⟩:=h.bd;have hb7:b7< w'.heap.size:=h1;have hn9:b9≠b7:=λe=>h.mx b7 h3 (e▸h.x9)
 have ω:vt.ownBlock≠some b9:=λe=>h.mx b9 (h10 b9 e).1 h.x9
 refine⟨λw2=>Kp w' w2 λg=>vt.ownBlock=some g,λw1 ξ=>⟨ξ▸Kp.ah (Ex.drew w') _,ptr b7,λw2 k=>?_,ptr b7,λw2 k=>?_,b7,0,rfl,vt,λw2 k=>?_,λb2 w2 hb2 ο=>?_⟩⟩
 ·rw [World.cell?_of_block (w:=w') (k.block b9 h.l9 ω)];exact h.c9
 ·rw [World.cell?_of_block (w:=w') (k.block b9 h.l9 ω)];exact h.c9
 ·rw [World.cell?_of_block (w:=w') (k.block b7 h1 λe=>(h10 b7 e).2 rfl)];exact h6
 have x2:Ex w' w2:=Ex.trans (ξ▸Ex.drew w') (ο▸Ex.alloc w1 _);have s1:w1.heap.size=w'.heap.size:=by rw [ξ];rfl
 have s2:w2.heap.size=w1.heap.size+1:=by rw [ο,size_alloc]
 refine⟨Kp.ah x2 _,?_⟩;have hsl:ee (λx=>x=b2) w2 (.slice (some ⟨b2,0,none⟩) 1 1) [ptr g]:=by
  refine .inr ⟨b2,0,1,rfl,rfl,by omega,λi x z=>?_⟩;rw [Nat.zero_add,ο,hb2];refine aa ?_
  match i,z with
  | 0,z=>simpa using z
  | i+1,z=>simp at z
 refine aM.push (h8.kp (Kp.ah x2 λ _=>False) λ _ _ h=>h) (Nat.le_trans h.ex.size x2.size) hsl rfl (by omega) (by simpa using hl) λv3 w3 ς hg3 hn3=>?_
 have k23:Kp w2 w3 λg=>vt.ownBlock=some g:=Kp.aQ hg3 λg h=>h
 have k3:Kp w' w3 λg=>vt.ownBlock=some g:=Kp.trans (Kp.ah x2 _) k23 λg _ h=>h
 have υ:=k3.block b7 h1 λe=>(h10 b7 e).2 rfl
 have hv3:oneV v3=true:=by rcases ς.2 with⟨rfl,_⟩ | ⟨g,cap,cur,rfl,_⟩<;>rfl
 have c31:w3.cell? ⟨b7,1,none⟩=some vt:=by rw [World.cell?_of_block (w:=w') υ];exact h6
 have c30:w3.cell? ⟨b7,0,none⟩=some vo:=by rw [World.cell?_of_block (w:=w') υ];exact h5
 have f3:∀j,w3.frozen? ⟨b7,j,none⟩=false:=λj=>by rw [World.frozen?_of_block (w:=w') υ];exact h4 j
 refine⟨k3,b7,0,rfl,hv3,⟨⟨vt,c31⟩,f3 1⟩,λw4 η=>?_⟩;have k4:Kr b7 w3 w4:=η▸Kr.set w3 1 _;have ε:Kp w' w4 M:=Kp.trans (Kp.mono (λg e=>(h10 g e).1) k3) k4 λg _ e=>e▸h3
 have s3:=k3.size;have s23:=k23.size;have s4:=k4.size;have φ:∀x,v3.ownBlock=some x->vt.ownBlock=some x\/w'.heap.size<=x:=λx z=>(hn3 x z).elim .inl λh=> .inr (by omega)
 have h3b:∀x,v3.ownBlock=some x->x≠b7:=λx z=>(φ x z).elim (λe=>(h10 x e).2) λe=>by omega
 refine hK w4 (ts++[ptr g]) (λx=>M x\/(w'.heap.size<=x/\x< w4.heap.size)) ⟨?_,⟨by omega,hle,.inl h3,λx z=>?_,λj=>?_,vo,v3,?_,?_,?_,?_,λx z=>⟨.inl (h9 x z).1,(h9 x z).2⟩,λx z=>⟨?_,h3b x z⟩,λx z e=>?_⟩,?_,?_,Nat.lt_of_lt_of_le h.l9 ε.size,h.h9,h.x9,λx z hX=>?_,λx z=>Nat.lt_of_lt_of_le (h.xl x z) ε.size⟩
 ·exact Ex.below h.ex (Kp.below ε h.ex.size λx z e=>by have :=(hr x e).1;omega)
 ·have hB:=h.ex.size;rcases z with z | z
  ·have :=hr x z;omega
  ·omega
 ·rw [η,World.frozen?_setCell];exact f3 j
 ·rw [η,World.cell?_setCell_other _ _ _ _ (by simp)];exact c30
 ·rw [η];exact World.cell?_setCell_same _ _ _ c31
 ·exact(h7.kp k3 λx z e=>ψ x z e).kp k4 λx z=>(h9 x z).2
 ·exact aM.kp ς k4 h3b
 ·have :=(ς.block x z).2;exact(φ x z).elim (λe=> .inl (h10 x e).1) λe=> .inr ⟨e,by omega⟩
 ·rcases φ x e with e1 | e1
  ·exact ψ x z e1
  ·have :=(h7.block x z).2;omega
 ·have key:∀{l:Lv} {us:List Value},af (λg=>(w.heap.size<=g/\¬M g/\¬X g)/\g< w'.heap.size) w' l us->af (λg=>(w.heap.size<=g/\¬(M g\/(w'.heap.size<=g/\g< w4.heap.size))/\¬X g)/\g< w4.heap.size) w4 l us:=λht=>
   af.sub (λg _ hg=>⟨⟨hg.1.1,λhm=>hm.elim hg.1.2.1 λh=>by omega,hg.1.2.2⟩,Nat.lt_of_lt_of_le hg.2 ε.size⟩) (af.kp ε (λg hg=>hg.1.2.1) ht)
  exact af.app (key h.th) (key he)
 ·rw [World.cell?_of_block (w:=w') (ε.block b9 h.l9 λe=>h.mx b9 e h.x9)];exact h.c9
 ·rcases z with z | z
  ·exact h.mx x z hX
  ·have :=h.xl x hX;omega
end
structure SI (w w':World)(b7 b9 b39:Nat)(O:List Nat)(L:Lv)(ts:List Value)(M X:Nat->Prop)(a b:Nat)(Q:Lv):Prop where
 ti:TI w w' b7 b9 O L ts M X
 x39:X b39
 h39:w.heap.size<=b39
 n39:b39≠b9
 sl:∃vp us,jU w' b39 43 a b (.pointer none) vp/\aM 146 w.heap.size w' vp us/\af (λg=>(w.heap.size<=g/\¬M g/\¬X g)/\g< w'.heap.size) w' Q us/\∀g,vp.ownBlock=some g->X g/\g≠b9/\g≠b39
section
variable {w w':World} {b7 b9 b39 a b:Nat} {O:List Nat} {L Q:Lv} {ts:List Value} {M X:Nat->Prop}
theorem SI.ext {w'':World}(h:SI w w' b7 b9 b39 O L ts M X a b Q)(x:Ex w' w''):SI w w'' b7 b9 b39 O L ts M X a b Q:=by
 obtain⟨G,H,I,h4,vp,us,h5,J,V,W⟩:=h;have k:Kp w' w'' λ _=>False:=Kp.ah x _
 exact⟨G.ext x,H,I,h4,vp,us,h5.kp k λh=>h,J.kp k λ _ _ h=>h,af.sub (λg _ z=>⟨z.1,Nat.lt_of_lt_of_le z.2 k.size⟩) (af.ex V x),W⟩
theorem SI.push (h:SI w w' b7 b9 b39 O L ts M X a b Q){vx:Value}{W:List Value}{Q2:Lv}{D2:Nat->Prop}(hx:ee D2 w' vx W)(h2:af (λg=>(w.heap.size<=g/\¬M g/\¬X g)/\g< w'.heap.size) w' Q2 W)(hl:Q.len+W.length<=1099511627776){vp:Value}(ν:w'.cell? ⟨b39,4,none⟩=some vp){K:Value->World->Prop}
  (hK:∀H z,oneV H=true->Kp w' z (λg=>vp.ownBlock=some g)->((∃ξ:Value,World.cell? z ⟨b39,4,none⟩=some ξ)/\World.frozen? z ⟨b39,4,none⟩=false)->(∀θ,θ=World.setCell z ⟨b39,4,none⟩ H->∃X',SI w θ b7 b9 b39 O L ts M X' a b (Q.app Q2))->K H z):
  ∃(G Z α:Nat) (β J:List Value),World.ownsRow w' G 146 1 vp Z β/\G<=Array.size (World.heap w')/\dN w' vx α 1 J/\(Z+α<=maxLen/\(Z+α)* 8<=140737488355328)/\
   ∀(H:Value) (z:World),World.ownsRow z G 146 1 H (Z+α) (β++J)->World.grownBy w' z (Value.ownBlock vp)->(∀b:Nat,Value.ownBlock H=some b->Value.ownBlock vp=some b\/Array.size (World.heap w')<=b)->K H z:=by
 obtain⟨h1,V,h3,h4,γ,us,h5,h6,h7,h8⟩:=h;have:γ=vp:=Option.some.inj (h5.c4.symm.trans ν);subst this;have ο:=h1.ex.size;have χ:=h7.len;refine aM.push h6 ο hx h2.all (by omega) (by omega) λv3 w3 δ ς ε=>?_
 have k3:Kp w' w3 λg=>γ.ownBlock=some g:=Kp.aQ ς λg h=>h
 have υ:oneV v3=true:=by rcases δ.2 with⟨rfl,_⟩ | ⟨g,cap,cur,rfl,_⟩<;>rfl
 have ζ:=h5.kp k3 λe=>(h8 _ e).2.2 rfl
 refine hK v3 w3 υ k3 ⟨⟨_,ζ.c4⟩,ζ.f 4⟩ λw4 ι=>?_
 have k4:Kr b39 w3 w4:=ι▸Kr.set w3 4 _;have η:Kp w' w4 λg=>γ.ownBlock=some g\/g=b39:=Kp.trans (Kp.mono (λg e=> .inl e) k3) k4 λg _ e=> .inr e
 have s3:=k3.size;have s4:=k4.size;have κ:∀x,v3.ownBlock=some x->x≠b39:=λx φ=>(ε x φ).elim (λe=>(h8 x e).2.2) λe=>by have :=h1.xl b39 V;omega
 have μ:∀g,(X g\/(v3.ownBlock=some g))->X g\/(w'.heap.size<=g/\g< w4.heap.size):=λg I=>I.elim .inl λe=>(ε g e).elim (λe=> .inl (h8 g e).1) λh=> .inr ⟨h,by have :=(δ.block g e).2;omega⟩
 have ti:=h1.HC (Y:=λg=>X g\/v3.ownBlock=some g) η (λg e=>e.elim (λe=>⟨(h8 g e).1,(h8 g e).2.1,(h6.block g e).1⟩) λe=>⟨e▸V,e▸h4,e▸h3⟩) (λg I=> .inl I) μ;have key:∀{l:Lv} {us:List Value},af (λg=>(w.heap.size<=g/\¬M g/\¬X g)/\g< w'.heap.size) w' l us->af (λg=>(w.heap.size<=g/\¬M g/\¬(X g\/v3.ownBlock=some g))/\g< w4.heap.size) w4 l us:=λht=>
  af.sub (λg _ I=>⟨⟨I.1.1,I.1.2.1,λhy=>(μ g hy).elim I.1.2.2 λh=>by omega⟩,Nat.lt_of_lt_of_le I.2 η.size⟩) (af.kp η (λg I e=>e.elim (λe=>I.1.2.2 (h8 g e).1) λe=>I.1.2.2 (e▸V)) ht)
 refine⟨_,ti,.inl V,h3,h4,v3,us++W,ζ.Gd ι,?_,af.app (key h7) (key h2),λg I=>⟨.inr I,?_,κ g I⟩⟩
 ·exact aM.kp δ k4 κ
 ·exact(ε g I).elim (λe=>(h8 g e).2.1) λe=>by have :=h1.l9;omega
end
theorem Fb {D:Nat->Prop}{w:World}{l:Lv}{ts:List Value}{x b3:Nat}(I:l.sh true=true)(h:af D w l ts)(α:l.sz<=1099511627776)(hb:b3< w.heap.size)(hc:w.cell? ⟨b3,0,none⟩=some (iv x)):
  wz w 186 [ptr b3] ts (G6 l.bk (Lv.has x)):=by
 intro i v w1 V W R Z;have G:=h.bk;obtain⟨J,_⟩:=List.getElem?_eq_some_iff.1 V;have z:i< l.bk.length:=by rw [G.1];exact J
 have he:=G.2 i l.bk[i] v (List.getElem?_eq_getElem z) V;have H:=List.getElem_mem z;have hs:=Lv.dU l _ H;rw [nM z]at Z;refine ie v (ptr b3) w1 R ?_;refine⟨b3,0,rfl,x,by rw [W.cell (show b3< _ from hb)];exact hc,?_⟩;exact y3 _ (Nat.le_refl _) (Lv.jf I _ H) (he.ex W) (by omega) Z
theorem FC {D S:Nat->Prop}{w:World}{b7 b9:Nat}{vt:Value}{l:Lv}{ts:List Value}(h9:w.cell? ⟨b9,0,none⟩=some (ptr b7))(l9:b9< w.heap.size)(h7:w.cell? ⟨b7,1,none⟩=some vt)(l7:b7< w.heap.size)(G:ee D w vt ts)(h:af D w l ts)(H:l.sh true=true)(α:l.sz<=1099511627776)
  (I:∀g,S g->¬D g/\g≠b9/\g≠b7):FF w S 184 [ptr b9] (λx=> !l.has x):=by
 intro x w1 k R hR;refine jw x (ptr b9) w1 R ?_;intro b3 w4 J V;obtain⟨W,l4,c4⟩:=yM J V;have z:Kp w w4 S:=Kp.trans k (Kp.ah W λ _=>False) λ _ _ h=>h.elim
 refine⟨b9,0,rfl,ptr b7,?_,b7,0,rfl,vt,?_,?_⟩
 ·rw [World.cell?_of_block (w:=w) (z.block b9 l9 λe=>(I _ e).2.1 rfl)];exact h9
 ·rw [World.cell?_of_block (w:=w) (z.block b7 l7 λe=>(I _ e).2.2 rfl)];exact h7
 have hlen:=h.len;have :=mI l;have Z:∀g,D g->¬S g:=λg hd G=>(I g G).1 hd
 refine BD (ca:=[ptr b3]) (G.kp z Z) (by kernel_rfl) (Fb H (af.kp z Z h) (by omega) l4 c4) (by omega) λw5 x5=>?_
 rw [hlen,<-Lv.cJ,uO,<-Lv.lT];exact hR w5 (Ex.trans W x5)
def zW (n:Nat):Prop:=∀{D:Nat->Prop} {w:World} {v:Value} {o:List Nat} {l:Lv} {R:Value->World->Prop},l.sz<=n->l.sh true=true->fL D w v o (af D w l)->o.length+l.tot<=1099511627775->
 (∀v' w',Ex w w'->aB (xU w) w' (Lv.tidy o l) v'->R v' w')->Calls Tryz.prog 139 #[v] w (ax [.v] R)
theorem nQ (o:List Nat)(l:Lv):(Lv.tidy o l).1.length+(Lv.tidy o l).2.tot<=o.length+l.tot:=by
 have :=Lv.rW o (Lv.tid l);have :=Lv.dV l;show(Lv.kept o (Lv.tid l)).1.length+(Lv.kept o (Lv.tid l)).2.tot<=_;omega
theorem bS (l:Lv):l.len<=l.tot:=Nat.le_trans (mI l) (Lv.jy l)
theorem aM.jZ {e B:Nat}{w:World}{v:Value}{l:List Value}(h:aM e B w v l):oneV v=true:=by
 rcases h.2 with⟨rfl,_⟩ | ⟨g,cap,cur,rfl,_⟩<;>rfl
theorem aH.single {A B:Type}{R:A->B->Prop}{l:List A}{m:List B}(h:aH R l m){i:Nat}{b:B}(hb:m[i]?=some b):∃a,l[i]?=some a/\a∈l/\R a b:=by
 obtain⟨G,_⟩:=List.getElem?_eq_some_iff.1 hb;have z:i< l.length:=by rw [h.1];exact G
 exact⟨l[i],List.getElem?_eq_getElem z,List.getElem_mem z,h.2 i _ _ (List.getElem?_eq_getElem z) hb⟩
theorem js {k:K}{a b:Nat}{o:List Nat}{r:Lv}:Lv.tid (.thr k a b o r .nil)=if k= .m/\a=b then Lv.tidy o r else if(k= .m\/k= .p)/\(Lv.tidy o r).2.isNil=true then([],.nil)else([],.thr k a b (Lv.tidy o r).1 (Lv.tidy o r).2 .nil):=by
 simp only [Lv.tid,List.append_nil,Lv.aV];rfl
theorem AB (n:Nat)(ih:∀m,m< n->zW m):zW n:=by
 intro D w v o l R hn hsh h hb hR;refine kz v w R ?_;obtain⟨b,vo,vt,ts0,rfl,h2,h3,h4,h5,h6,h7,h8⟩:=h;refine⟨b,0,rfl,vo,h4,vO h6 (by omega) λv5 w6 x6 ho6=>⟨ho6.jZ,λb7 w8 hb7 hw8 b9 w10 hb9 hw10=>?_⟩⟩;have x8:Ex w6 w8:=hw8▸Ex.alloc w6 _;have x10:Ex w8 w10:=hw10▸Ex.alloc w8 _;have s6:=x6.size;have s8:w8.heap.size=w6.heap.size+1:=by rw [hw8,size_alloc]
 have s10:w10.heap.size=w8.heap.size+1:=by rw [hw10,size_alloc]
 have c9:w10.cell? ⟨b9,0,none⟩=some (.pointer none):=by rw [hw10,hb9];exact aa rfl
 have f9:w10.frozen? ⟨b9,0,none⟩=false:=by rw [hw10,hb9];unfold World.frozen? World.alloc;simp
 have bd8:jM w.heap.size w8 b7 o [] λg=>g=b7\/v5.ownBlock=some g:=by
  refine⟨by omega,by omega,.inl rfl,λg H=>?_,λj=>?_,v5,.slice none 0 0,?_,?_,ho6.kp (Kp.ah x8 λ _=>False) (λ _ _ h=>h),aM.nil _ _ _,λg H=>⟨.inr H,?_⟩,λg H=>(by cases H),λg _ H=>(by cases H)⟩
  ·rcases H with rfl | H
   ·omega
   ·have :=ho6.block g H;omega
  ·rw [hw8,hb7];unfold World.frozen? World.alloc;simp
  ·rw [hw8,hb7];exact aa rfl
  ·rw [hw8,hb7];exact aa rfl
  ·have :=ho6.block g H;omega
 refine⟨⟨⟨_,c9⟩,f9⟩,λw12 hw12=>?_⟩;have k12:Kr b9 w10 w12:=hw12▸Kr.set w10 0 _;have x610:Ex w6 w10:=Ex.trans x8 x10;have x12:Ex w w12:=Ex.below (Ex.trans x6 x610) (Kp.below k12 (Ex.trans x6 x610).size λg H e=>by omega);have s12:=k12.size;have ti12:TI w w12 b7 b9 o .nil [] (λg=>g=b7\/v5.ownBlock=some g) (λg=>g=b9):=by
  refine⟨x12,(bd8.ex x10).kp k12 λg H e=>?_,rfl,?_,by omega,by omega,rfl,λg H e=>?_,λg e=>by omega⟩
  ·have :=(bd8.mr g H).2;omega
  ·rw [hw12];exact World.cell?_setCell_same _ _ _ c9
  ·have :=(bd8.mr g H).2;omega
 obtain⟨a0,cap0,hvt⟩:=h7.slice;have hlen:=h8.len;have hel:=Lv.cJ l;have hlt:=bS l;refine⟨b,0,rfl,vt,by rw [x12.cell (show b< _ from h3)];exact h5,a0,_,cap0,hvt,λx w'=>∃(i:Nat) (ts:List Value) (M:Nat->Prop),x=i/\i<=l.bk.length/\TI w w' b7 b9 (o++(Lv.tid (l.take i)).1) (Lv.tid (l.take i)).2 ts M (λg=>g=b9),λx _=>(l.bk.length - x).toNat,⟨0,[],_,rfl,by omega,by simpa [Lv.take,Lv.tid]using ti12⟩,λx G hI=>?_⟩;obtain⟨i,ts,M,rfl,hi,β⟩:=hI;refine⟨λhc=>?_,λhc=>?_⟩
 ·have hc:=of_decide_eq_true hc;have hil:i< ts0.length:=by omega
  have ω:i< l.bk.length:=by omega
  have ς:=β.ex;have J:∀w' W M',TI w w' b7 b9 (o++(Lv.tid (l.take i)).1++(Lv.tid l.bk[i]).1) ((Lv.tid (l.take i)).2.app (Lv.tid l.bk[i]).2) W M' (λg=>g=b9)->aj ((i:Int)+1)/\(∃(i':Nat) (ts:List Value) (M:Nat->Prop),((i:Int)+1)=i'/\i'<=l.bk.length/\TI w w' b7 b9 (o++(Lv.tid (l.take i')).1) (Lv.tid (l.take i')).2 ts M (λg=>g=b9))/\((l.bk.length:Int) - ((i:Int)+1)).toNat< ((l.bk.length:Int) - (i:Int)).toNat:=by
   intro w' W M' ti;refine⟨by unfold aj;omega,⟨i+1,W,M',by omega,by omega,?_⟩,by omega⟩;rw [Lv.take_succ l i ω,Lv.cK _ _ (Lv.lR (Lv.nH l i hsh)),<-List.append_assoc];exact ti
  have hel22:=(af.ex h8 ς).bk;have he:=hel22.2 i l.bk[i] ts0[i] (List.getElem?_eq_getElem ω) (List.getElem?_eq_getElem hil);have he0:=h8.bk.2 i l.bk[i] ts0[i] (List.getElem?_eq_getElem ω) (List.getElem?_eq_getElem hil);have hmem:=List.getElem_mem ω;have hesz:=Lv.dU l _ hmem;have hetot:=Lv.fS l _ hmem;have hOt:=Lv.dV (l.take i);have hTt:=Lv.fk l i;have hTe:(l.take i).tot+l.bk[i].tot<=l.tot:=by
   have :=Lv.fk l (i+1);rw [Lv.take_succ l i ω,Lv.bR]at this;exact this
  have hOl:(o++(Lv.tid (l.take i)).1).length=o.length+(Lv.tid (l.take i)).1.length:=List.length_append;have hLl:=bS (Lv.tid (l.take i)).2;refine(h7.ex ς).get (i:=i) (x:=ts0[i]) (by omega) (by simp [hil]) ?_;generalize l.bk[i]=e at*;generalize ts0[i]=v27 at*;have hke:(∃k a b o r,e= .thr k a b o r .nil/\r.sh true=true)\/∃ps,e= .sum ps .nil/\ps.sh false=true:=Lv.jf hsh e hmem;generalize (o++(Lv.tid (l.take i)).1)=O at*;generalize (Lv.tid (l.take i)).2=L at*;have hts:ts.length=L.len:=β.th.len;have hS:∀{w1:World},Ex G w1->∀{g j:Nat} {u:Value},g< G.heap.size->G.cell? ⟨g,j,none⟩=some u->w1.cell? ⟨g,j,none⟩=some u:=by
   intro w1 V g j u H hu;rw [V.cell (show g< _ from H)];exact hu
  rcases hke with⟨k,a,b1,o',r,rfl,hr⟩ | ⟨ps,rfl,hps⟩
  ·obtain⟨_,_,a',b',vr,e,⟨g,rfl,g2,g3,g4,g5,g6,g7,g8⟩,hab,hlv,_⟩:=he;obtain⟨rfl,_⟩:=List.cons.inj e;refine⟨λw'=>Ex G w',λυ ζ=>⟨ζ▸Ex.drew G,g,0,rfl,_,λw' V=>hS V g3 g4,g,0,rfl,_,λw' V=>hS V g3 g5,g,0,rfl,_,λw' V=>hS V g3 g6,λb39 α hb39 η=>?_⟩⟩;have x29:Ex G υ:=ζ▸Ex.drew G;have s29:υ.heap.size=G.heap.size:=by rw [ζ];rfl
   have θ:Ex G α:=Ex.trans x29 (η▸Ex.alloc υ _);have s40:α.heap.size=υ.heap.size+1:=by rw [η,size_alloc]
   have th40:jU α b39 k.byte a' b' (.pointer none) (.slice none 0 0):=jU.new hb39 η;have l9:=β.l9;have n39:b39≠b9:=by omega
   have h39:w.heap.size<=b39:=by have :=ς.size;omega
   have ti40:TI w α b7 b9 O L ts M λg=>g=b9\/g=b39:=β.HC (Kp.ah θ λ _=>False) (λ _ h=>h.elim) (λg h=> .inl h) λg h=>h.elim .inl λh=> .inr (by omega)
   simp only [Lv.sz]at hesz;simp only [Lv.tot]at hetot hTe;refine⟨θ,g,0,rfl,_,hS θ g3 g4,aS (by cases k<;>decide) ⟨g,0,rfl,_,hS θ g3 g7,?_⟩⟩;refine ih r.sz (by omega) (Nat.le_refl _) hr (fL.ex hlv θ) (by omega) λι w138 ξ l137=>⟨fL.one l137,⟨⟨_,(th40.kp (Kp.ah ξ λ _=>False) λh=>h).c3⟩,(th40.kp (Kp.ah ξ λ _=>False) λh=>h).f 3⟩,λI hw140=>?_⟩
   have k140:Kr b39 w138 I:=hw140▸Kr.set w138 3 _;have φ:jU I b39 k.byte a' b' ι (.slice none 0 0):=(th40.kp (Kp.ah ξ λ _=>False) λh=>h).AW hw140;have χ:TI w I b7 b9 O L ts M λg=>g=b9\/g=b39:=(ti40.ext ξ).H8 k140 λg H=>⟨.inr H,by omega,by omega⟩
   have s138:=ξ.size;have s140:=k140.size;have hrt:=nQ o' r;have l140:aB (λg=>(α.heap.size<=g)/\g< I.heap.size) I (Lv.tidy o' r) ι:=aB.sub (aB.kp (l137.sub (E:=λg=>α.heap.size<=g/\g< w138.heap.size) λg H h=>⟨h,H⟩) k140 λg H e=>by omega) λg _ H=>⟨H.1,by omega⟩
   have hM40:∀g,M g->g< α.heap.size:=λg H=>(ti40.bd.mr g H).2
   have cg:∀{w1:World},Ex I w1->∀{j:Nat} {u:Value},G.cell? ⟨g,j,none⟩=some u->w1.cell? ⟨g,j,none⟩=some u:=λV j u hu=>by
    have:I.cell? ⟨g,j,none⟩=some u:=by
     rw [World.cell?_of_block (w:=w138) (k140.block g (by omega) (by omega)),ξ.cell (show g< _ by omega)];exact hS θ g3 hu
    rw [V.cell (show g< _ by omega)];exact this
   have cb:∀{w1:World},Ex I w1->w1.cell? ⟨b39,3,none⟩=some ι:=λV=>by rw [V.cell (show b39< _ from φ.lt)];exact φ.c3
   have c9':∀{w1:World},Ex I w1->w1.cell? ⟨b9,0,none⟩=some (ptr b7):=λV=>by rw [V.cell (show b9< _ from χ.l9)];exact χ.c9
   have hth:∀{w1:World},Ex I w1->af (λg=>(w.heap.size<=g/\¬M g/\¬(g=b9))/\g< w1.heap.size) w1 (.thr k a b1 (Lv.tidy o' r).1 (Lv.tidy o' r).2 .nil) [ptr b39]:=λ{w1} V=>by
    have sx:=V.size;refine⟨ptr b39,[],a',b',ι,rfl,(φ.kp (Kp.ah V λ _=>False) λh=>h).G1 ⟨⟨h39,λhm=>χ.mx b39 hm (.inr rfl),n39⟩,by have :=φ.lt;omega⟩,hab,?_,rfl⟩;exact aB.sub (aB.ex l140 V) λg _ H=>⟨⟨by omega,λhm=>by have :=hM40 g hm;omega,by omega⟩,by omega⟩
   have ν:∀{w1:World},Ex I w1->TI w w1 b7 b9 O L ts M λg=>g=b9:=λV=>(χ.ext V).CH (λg h=> .inl h) rfl
   have hnil:∀{w1:World},Ex I w1->Lv.tid (.thr k a b1 o' r .nil)=([],.nil)->TI w w1 b7 b9 (O++(Lv.tid (.thr k a b1 o' r .nil)).1) (L.app (Lv.tid (.thr k a b1 o' r .nil)).2) ts M λg=>g=b9:=λV e=>by
    rw [e,List.append_nil,Lv.aV];exact ν V
   have hlr:=bS (Lv.tidy o' r).2;refine⟨λw'=>Ex I w',λο hw142=>⟨hw142▸Ex.drew I,g,0,rfl,_,λw' V=>cg V g4,?_⟩⟩;have z:Ex I ο:=hw142▸Ex.drew I;have κ:∀{w1:World},Ex I w1->(Lv.tid (.thr k a b1 o' r .nil)=([],.thr k a b1 (Lv.tidy o' r).1 (Lv.tidy o' r).2 .nil))->∀w'' W M',TI w w'' b7 b9 O (L.app (.thr k a b1 (Lv.tidy o' r).1 (Lv.tidy o' r).2 .nil)) W M' (λg=>g=b9)->TI w w'' b7 b9 (O++(Lv.tid (.thr k a b1 o' r .nil)).1) (L.app (Lv.tid (.thr k a b1 o' r .nil)).2) W M' (λg=>g=b9):=λ _ e w'' W M' h=>by
    rw [e,List.append_nil];exact h
   have hkm:(Lv.tidy o' r).2.isNil=false->¬(k= .m/\a=b1)->Lv.tid (.thr k a b1 o' r .nil)=([],.thr k a b1 (Lv.tidy o' r).1 (Lv.tidy o' r).2 .nil):=λh1 h2=>by
    rw [js,if_neg h2,if_neg (by rw [h1];simp)]
   cases k with
   | m=>
    have hab:a'=a/\b'=b1:=by rcases hab with h | h | h<;>first | exact h | cases h
    obtain⟨rfl,rfl⟩:=hab;refine cQ rfl ⟨g,0,rfl,a',λw' V=>cg V g5,g,0,rfl,b',λw' V=>cg V g6,λhq=>?_,λhq=>?_⟩
    ·have hq:a'=b':=by have :=of_decide_eq_true hq;omega
     have ht:Lv.tid (.thr .m a' b' o' r .nil)=Lv.tidy o' r:=by rw [js,if_pos ⟨rfl,hq⟩]
     refine⟨λw'=>Ex ο w',λw153 hw153=>⟨hw153▸Ex.drew ο,ptr b7,λw' V=>c9' (Ex.trans z V),ι,λw' V=>cb (Ex.trans z V),?_⟩⟩;have x153:Ex I w153:=Ex.trans z (hw153▸Ex.drew ο);refine(ν x153).CO (O2:=(Lv.tidy o' r).1) (L2:=(Lv.tidy o' r).2) (aB.ex l140 x153) (λg H hd=>⟨by omega,λhm=>by have :=hM40 g hm;omega,by omega⟩) ⟨by omega,by omega⟩ λw'' W M' h _=>J w'' W M' ?_
     rw [ht];exact h
    ·have hq:¬a'=b':=by have :=of_decide_eq_false hq;omega
     refine⟨g,0,rfl,_,cg z g4,dD rfl ⟨ι,cb z,lM (aB.ex l140 z) ⟨λhe=>J ο ts M (hnil z (by rw [js,if_neg (λh=>hq h.2),if_pos ⟨.inl rfl,he⟩])),λhe=>?_⟩⟩⟩;have ht:=hkm he λh=>hq h.2
     exact(ν z).push (hth z) (by omega) λw'' W M' h=>J w'' W M' (κ z ht _ _ _ h)
   | p=>
    refine aS (by dsimp only [K.byte];decide) ⟨g,0,rfl,_,cg z g4,ck (by dsimp only [K.byte];decide) ⟨g,0,rfl,_,cg z g4,cQ rfl ⟨ι,cb z,lM (aB.ex l140 z) ⟨λhe=>J ο ts M (hnil z (by rw [js,if_neg (λh=>by cases h.1),if_pos ⟨.inr rfl,he⟩])),λhe=>?_⟩⟩⟩⟩;have ht:=hkm he λh=>by cases h.1
    exact(ν z).push (hth z) (by omega) λw'' W M' h=>J w'' W M' (κ z ht _ _ _ h)
   | s=>
    refine aS (by dsimp only [K.byte];decide) ⟨g,0,rfl,_,cg z g4,ck (by dsimp only [K.byte];decide) ⟨g,0,rfl,_,cg z g4,aS (by dsimp only [K.byte];decide) ?_⟩⟩;exact(ν z).push (hth z) (by omega) λw'' W M' h=>J w'' W M' (κ z (by rw [js,if_neg (λh=>by cases h.1),if_neg (λh=>by rcases h.1 with h | h<;>cases h)]) _ _ _ h)
   | r=>
    refine aS (by dsimp only [K.byte];decide) ⟨g,0,rfl,_,cg z g4,ck (by dsimp only [K.byte];decide) ⟨g,0,rfl,_,cg z g4,aS (by dsimp only [K.byte];decide) ?_⟩⟩;exact(ν z).push (hth z) (by omega) λw'' W M' h=>J w'' W M' (κ z (by rw [js,if_neg (λh=>by cases h.1),if_neg (λh=>by rcases h.1 with h | h<;>cases h)]) _ _ _ h)
   | t=>
    refine aS (by dsimp only [K.byte];decide) ⟨g,0,rfl,_,cg z g4,ck (by dsimp only [K.byte];decide) ⟨g,0,rfl,_,cg z g4,aS (by dsimp only [K.byte];decide) ?_⟩⟩;exact(ν z).push (hth z) (by omega) λw'' W M' h=>J w'' W M' (κ z (by rw [js,if_neg (λh=>by cases h.1),if_neg (λh=>by rcases h.1 with h | h<;>cases h)]) _ _ _ h)
  ·clear he;obtain⟨_,_,a',b',vp0,us0,e,⟨g,rfl,g2,g3,g4,g5,g6,g7,g8⟩,hsl,hus,_⟩:=he0;obtain⟨rfl,_⟩:=List.cons.inj e;have hS0:∀{w1:World},Ex w w1->∀{j:Nat} {u:Value},w.cell? ⟨g,j,none⟩=some u->w1.cell? ⟨g,j,none⟩=some u:=by
    intro w1 V j u hu;rw [V.cell (show g< _ from g3)];exact hu
   refine⟨λw'=>Ex G w',λυ ζ=>⟨ζ▸Ex.drew G,g,0,rfl,43,λw' V=>hS0 (Ex.trans ς V) g4,g,0,rfl,_,λw' V=>hS0 (Ex.trans ς V) g5,g,0,rfl,_,λw' V=>hS0 (Ex.trans ς V) g6,λb39 α hb39 η=>?_⟩⟩;have x29:Ex G υ:=ζ▸Ex.drew G;have s29:υ.heap.size=G.heap.size:=by rw [ζ];rfl
   have θ:Ex G α:=Ex.trans x29 (η▸Ex.alloc υ _);have s40:α.heap.size=υ.heap.size+1:=by rw [η,size_alloc]
   have th40:jU α b39 43 a' b' (.pointer none) (.slice none 0 0):=jU.new hb39 η;have l9:=β.l9;have n39:b39≠b9:=by omega
   have h39:w.heap.size<=b39:=by have :=ς.size;omega
   have ti40:TI w α b7 b9 O L ts M λg=>g=b9\/g=b39:=β.HC (Kp.ah θ λ _=>False) (λ _ h=>h.elim) (λg h=> .inl h) λg h=>h.elim .inl λh=> .inr (by omega)
   have si40:SI w α b7 b9 b39 O L ts M (λg=>g=b9\/g=b39) a' b' .nil:=⟨ti40,.inr rfl,h39,n39,.slice none 0 0,[],th40,aM.nil _ _ _,rfl,λg h=>by cases h⟩
   simp only [Lv.sz]at hesz;simp only [Lv.tot]at hetot hTe;obtain⟨ap,capp,hvp⟩:=hsl.slice;have hul:=hus.len;have hpel:=Lv.cJ ps;have hplt:=bS ps;refine⟨θ,g,0,rfl,_,hS0 (Ex.trans ς θ) g4,cQ rfl ⟨g,0,rfl,vp0,hS0 (Ex.trans ς θ) g8,ap,_,capp,hvp,λx w'=>∃(j:Nat) (X:Nat->Prop),x=j/\j<=ps.bk.length/\SI w w' b7 b9 b39 O L ts M X a' b' (Lv.tid (ps.take j)).2,λx _=>(ps.bk.length - x).toNat,⟨0,_,rfl,by omega,by simpa [Lv.take,Lv.tid]using si40⟩,λx Z hI=>?_⟩⟩;obtain⟨j,X,rfl,hj,μ⟩:=hI;have x53:=μ.ti.ex;refine⟨λhc=>?_,λhc=>?_⟩
   ·have hc:=of_decide_eq_true hc;have hjl:j< us0.length:=by omega
    have hjl':j< ps.bk.length:=by omega
    refine(hsl.ex x53).get (i:=j) (x:=us0[j]) (by omega) (by simp [hjl]) ?_;have hpe:=hus.bk.2 j ps.bk[j] us0[j] (List.getElem?_eq_getElem hjl') (List.getElem?_eq_getElem hjl);have hpm:=List.getElem_mem hjl';have hpsz:=Lv.dU ps _ hpm;have hptot:=Lv.fS ps _ hpm;obtain⟨o'',q,epq,hq⟩:=Lv.lz hps _ hpm;have htk:(Lv.tid (ps.take (j+1))).2=(Lv.tid (ps.take j)).2.app (Lv.prt (Lv.tidy o'' q).1 (Lv.tidy o'' q).2 .nil):=by
     rw [Lv.take_succ ps j hjl',Lv.xL _ (Lv.nH ps j hps),epq];rfl
    have hQ:=bS (Lv.tid (ps.take j)).2;have hQ1:=Lv.dV (ps.take j);have hQ2:=Lv.fk ps (j+1);rw [Lv.take_succ ps j hjl',Lv.bR,epq]at hQ2;rw [epq]at hpe hpsz hptot;generalize us0[j]=v58 at*;obtain⟨v58',_,e58,hlq,_⟩:=hpe;obtain⟨rfl,_⟩:=List.cons.inj e58;simp only [Lv.sz]at hpsz;simp only [Lv.tot]at hptot hQ2;have hfin:∀w' X',SI w w' b7 b9 b39 O L ts M X' a' b' (Lv.tid (ps.take (j+1))).2->aj ((j:Int)+1)/\(∃(j':Nat) (X:Nat->Prop),((j:Int)+1)=j'/\j'<=ps.bk.length/\SI w w' b7 b9 b39 O L ts M X a' b' (Lv.tid (ps.take j')).2)/\((ps.bk.length:Int) - ((j:Int)+1)).toNat< ((ps.bk.length:Int) - (j:Int)).toNat:=
     λw' X' h=>⟨by unfold aj;omega,⟨j+1,X',by omega,by omega,h⟩,by omega⟩
    refine ih q.sz (by omega) (Nat.le_refl _) hq (fL.ex hlq x53) (by omega) λv59 ε x60 l59=>?_
    have si60:=μ.ext x60;have hrt:=nQ o'' q;have hqsh:(Lv.tidy o'' q).2.sh true=true:=Lv.dC q true hq;generalize Lv.tidy o'' q=r' at*;have hM53:∀g,M g->g< Z.heap.size:=λg H=>(μ.ti.bd.mr g H).2
    have hX53:=μ.ti.xl;have hsz53:=x53.size;refine lM l59 ⟨λhe=>?_,λhe=>ES l59 hqsh ⟨λhs=>?_,λhs=>?_⟩⟩
    ·refine hfin ε X ?_;rw [htk,uX,if_pos he,Lv.aV];exact si60
    ·obtain⟨ps',ep⟩:∃ps',r'.2= .sum ps' .nil:=by
      have :=(Bool.and_eq_true_iff.1 hs).2;generalize r'.2=q' at*
      match q',this with
      | .sum ps' .nil,_=>exact⟨ps',rfl⟩
     rw [uX,if_neg (by rw [he];simp),if_pos hs,ep]at htk;have htk:(Lv.tid (ps.take (j+1))).2=(Lv.tid (ps.take j)).2.app ps':=htk;unfold aB at l59;rw [ep]at l59 hrt;obtain⟨b59,vo59,vt59,tsq,rfl,k2,k3,k4,k5,k6,k7,k8⟩:=l59;obtain⟨_,_,aq,bq,vpq,usq,rfl,⟨gq,rfl,q2,q3,q4,q5,q6,q7,q8⟩,qsl,qus,rfl⟩:=k8;obtain⟨vp,us,γ,ho60,hu60,hob⟩:=si60.sl;have hobl:∀x,vp.ownBlock=some x->x< Z.heap.size:=λx V=>hX53 x (hob x V).1
     refine⟨λw'=>Kp ε w' λg=>vp.ownBlock=some g,λw66 hw66=>⟨hw66▸Kp.ah (Ex.drew ε) _,vp,λw' k=>?_,b59,0,rfl,vt59,λw' k=>?_,?_⟩⟩
     ·rw [World.cell?_of_block (w:=ε) (k.block b39 γ.lt λe=>(hob _ e).2.2 rfl)];exact γ.c4
     ·rw [World.cell?_of_block (w:=ε) (k.block b59 k3 λe=>by have :=hobl _ e;have:Z.heap.size<=b59:=k2;omega)];exact k5
     have x66:Ex ε w66:=hw66▸Ex.drew ε;rcases k7 with⟨_,e⟩ | ⟨bt,off,cp,rfl,t2,t3,t4⟩
     ·cases e
     refine⟨bt,off,1,cp,rfl,by omega,by omega,ptr gq,λw' k=>?_,gq,0,rfl,vpq,λw' k=>?_,?_⟩
     ·rw [World.cell?_of_block (w:=ε) (k.block bt t3 λe=>by have :=hobl _ e;have:Z.heap.size<=bt:=t2;omega)];exact t4 0 _ rfl
     ·rw [World.cell?_of_block (w:=ε) (k.block gq q3 λe=>by have :=hobl _ e;have:Z.heap.size<=gq:=q2;omega)];exact q8
     have hqd:af (λg=>(w.heap.size<=g/\¬M g/\¬X g)/\g< w66.heap.size) w66 ps' usq:=af.sub (λg H hd=>⟨⟨by have:Z.heap.size<=g:=hd;omega,λhm=>by have :=hM53 g hm;have:Z.heap.size<=g:=hd;omega,λhm=>by have :=hX53 g hm;have:Z.heap.size<=g:=hd;omega⟩,H⟩) (af.ex qus x66);have hql:=qus.len;have hql2:=bS ps';simp only [Lv.tot]at hrt;refine(si60.ext x66).push (qsl.ex x66) hqd (by omega) (by rw [x66.cell (show b39< _ from γ.lt)];exact γ.c4) λv84 w85 hv84 k85 hc85 hset=>⟨Kp.trans (Kp.ah x66 _) k85 λ _ _ h=>h,hv84,hc85,λw87 hw87=>?_⟩
     obtain⟨X',hsi⟩:=hset w87 hw87;refine hfin w87 X' ?_;rw [htk];exact hsi
    ·rw [uX,if_neg (by rw [he];simp),if_neg (by rw [hs];simp)]at htk;obtain⟨vp,us,γ,ho60,hu60,hob⟩:=si60.sl;refine⟨vp,γ.c4,fL.one l59,λb89 w90 hb89 hw90=>?_⟩;have x90:Ex ε w90:=hw90▸Ex.alloc ε _;have s90:w90.heap.size=ε.heap.size+1:=by rw [hw90,size_alloc]
     have hsl1:ee (λx=>x=b89) w90 (.slice (some ⟨b89,0,none⟩) 1 1) [v59]:=by
      refine .inr ⟨b89,0,1,rfl,rfl,by omega,λi x V=>?_⟩;rw [Nat.zero_add,hw90,hb89];refine aa ?_
      match i,V with
      | 0,V=>simpa using V
      | i+1,V=>simp at V
     have hqd:af (λg=>(w.heap.size<=g/\¬M g/\¬X g)/\g< w90.heap.size) w90 (.part r'.1 r'.2 .nil) [v59]:=⟨v59,[],rfl,aB.sub (aB.ex l59 x90) λg H hd=>⟨⟨by have:Z.heap.size<=g:=hd;omega,λhm=>by have :=hM53 g hm;have:Z.heap.size<=g:=hd;omega,λhm=>by have :=hX53 g hm;have:Z.heap.size<=g:=hd;omega⟩,H⟩,rfl⟩
     refine(si60.ext x90).push hsl1 hqd (by simp only [List.length_cons,List.length_nil];omega) (by rw [x90.cell (show b39< _ from γ.lt)];exact γ.c4) λv84 w85 hv84 k85 hc85 hset=>⟨hv84,hc85,λw87 hw87=>?_⟩
     obtain⟨X',hsi⟩:=hset w87 hw87;refine hfin w87 X' ?_;rw [htk];exact hsi
   ·have hc:=of_decide_eq_false hc;have:j=ps.bk.length:=by omega
    subst this;rw [Lv.dc]at μ;have hpsh:(Lv.tid ps).2.sh false=true:=Lv.dC ps false hps;have hpt:=Lv.dV ps;have hpl:=bS (Lv.tid ps).2;have htid:Lv.tid (.sum ps .nil)=Lv.spl (Lv.tid ps).2 ([],.nil):=by simp only [Lv.tid]
    rw [htid]at J;generalize (Lv.tid ps).2=Q at*;have si53':=μ;obtain⟨ti,hx39,_,_,vp,us,th,ho,hu,hob⟩:=μ;have ν:TI w Z b7 b9 O L ts M λg=>g=b9:=ti.CH (λg h=>h▸ti.x9) rfl
    obtain⟨av,capv,hvpe⟩:=(ho.AY (D:=λ _=>True) λ _ _=>trivial).slice;have ψ:=hu.len;refine⟨vp,th.c4,av,_,capv,hvpe,λh0=>?_,λh0=>⟨λh1=>?_,λh1=>?_⟩⟩
    ·have h0:=of_decide_eq_true h0;have hQ:Q= .nil:=by
      have:Q.len=0:=by omega
      cases Q<;>first | rfl | simp [Lv.len]at this
     subst hQ;refine J Z ts M ?_;simp only [Lv.spl,List.append_nil,Lv.aV];exact ν
    ·have h1:=of_decide_eq_true h1;obtain⟨oq,qq,rfl⟩:∃oq qq,Q= .part oq qq .nil:=by
      have:Q.len=1:=by omega
      cases Q with
      | nil=>simp [Lv.len]at this
      | thr=>cases hpsh
      | sum=>cases hpsh
      | part oq qq n=>
       have hn:n= .nil:=by
        have:n.len=0:=by simp only [Lv.len]at this;omega
        cases n<;>first | rfl | simp [Lv.len]at this
       exact⟨oq,qq,by rw [hn]⟩
     obtain⟨u,us',rfl,hlu,rfl⟩:=hu;rcases ho.AY (D:=λg=>vp.ownBlock=some g) λ _ h=>h with⟨_,e⟩ | ⟨bt,off,cp,hvp2,t2,t3,t4⟩
     ·cases e
     have hnM:∀g,X g->¬M g:=λg V hm=>ti.mx g hm V
     refine⟨λw'=>Kp Z w' M,λw105 hw105=>⟨hw105▸Kp.ah (Ex.drew Z) _,ptr b7,λw' k=>?_,vp,λw' k=>?_,bt,off,1,cp,hvp2,by omega,by omega,u,λw' k=>?_,?_⟩⟩
     ·rw [World.cell?_of_block (w:=Z) (k.block b9 ti.l9 (hnM _ ti.x9))];exact ti.c9
     ·rw [World.cell?_of_block (w:=Z) (k.block b39 th.lt (hnM _ hx39))];exact th.c4
     ·rw [World.cell?_of_block (w:=Z) (k.block bt t3 (hnM _ (hob _ t2).1))];exact t4 0 _ rfl
     have x105:Ex Z w105:=hw105▸Ex.drew Z;simp only [Lv.tot]at hpt;have :=bS qq;refine(ti.ext x105).CO (O2:=oq) (L2:=qq) (fL.ex hlu x105) (λg _ hd=>hd.1) ⟨by omega,by omega⟩ λw'' W M' h k=>⟨Kp.trans (Kp.ah x105 _) k λ _ _ h=>h,J w'' W M' ?_⟩
     simp only [Lv.spl,List.append_nil,Lv.aV];exact h.CH (λg h=>h▸ti.x9) rfl
    ·have h0:=of_decide_eq_false h0;have h1:=of_decide_eq_false h1;have hspl:Lv.spl Q ([],.nil)=([],.sum Q .nil):=by
      unfold Lv.spl;split
      ·simp [Lv.len]at ψ;simp [ψ]at h0
      ·simp [Lv.len]at ψ;simp [ψ]at h1
      ·rfl
     refine ν.push (e:= .sum Q .nil) ⟨ptr b39,[],a',b',vp,us,rfl,th.G1 ⟨⟨h39,λhm=>ti.mx b39 hm hx39,n39⟩,th.lt⟩,?_,?_,rfl⟩ (by omega) λw'' W M' h=>J w'' W M' ?_
     ·exact ho.AY λg H=>⟨⟨(ho.block g H).1,λhm=>ti.mx g hm (hob g H).1,(hob g H).2.1⟩,(ho.block g H).2⟩
     ·exact af.sub (λg _ hd=>⟨⟨hd.1.1,hd.1.2.1,λe=>hd.1.2.2 (e▸ti.x9)⟩,hd.2⟩) hu
     ·rw [hspl,List.append_nil];exact h
 ·have hc:=of_decide_eq_false hc;have:i=l.bk.length:=by omega
  subst this;rw [Lv.dc]at β;have htt:=Lv.dV l;have hsz:=Lv.jy (Lv.tid l).2;have htsh:=Lv.dC l true hsh;have hfil:Lv.tidy o l=((o++(Lv.tid l).1).filter (λx=> !!(Lv.tid l).2.has x),(Lv.tid l).2):=by
   simp only [Bool.not_not];rfl
  rw [hfil]at hR;have hOl:(o++(Lv.tid l).1).length=o.length+(Lv.tid l).1.length:=List.length_append;generalize (o++(Lv.tid l).1)=O at*;generalize (Lv.tid l).2=L at*;have ti:=β;obtain⟨d1,d2,d3,dr,d4,vo1,vt1,d5,d6,d7,d8,d9,d10,d11⟩:=ti.bd;have hn9:¬M b9:=λhm=>ti.mx b9 hm rfl
  refine⟨λw'=>Kp G w' λg=>vo1.ownBlock=some g,λw302 hw302=>⟨hw302▸Kp.ah (Ex.drew G) _,ptr b7,λw' k=>?_,ptr b7,λw' k=>?_,b7,0,rfl,vo1,λw' k=>?_,?_⟩⟩
  ·rw [World.cell?_of_block (w:=G) (k.block b9 ti.l9 λe=>hn9 (d9 _ e).1)];exact ti.c9
  ·rw [World.cell?_of_block (w:=G) (k.block b9 ti.l9 λe=>hn9 (d9 _ e).1)];exact ti.c9
  ·rw [World.cell?_of_block (w:=G) (k.block b7 d1 λe=>(d9 _ e).2 rfl)];exact d5
  have δ:Ex G w302:=hw302▸Ex.drew G;have kx:Kp G w302 λ _=>False:=Kp.ah δ _
  have hsvt:ee (λg=>w.heap.size<=g/\vo1.ownBlock≠some g/\g< G.heap.size) G vt1 ts:=d8.AY λg H=>⟨(d8.block g H).1,λe=>d11 g e H,(d8.block g H).2⟩
  have hths:af (λg=>w.heap.size<=g/\vo1.ownBlock≠some g/\g< G.heap.size) G L ts:=af.sub (λg H hd=>⟨hd.1.1,λe=>hd.1.2.1 (d9 g e).1,H⟩) ti.th;refine C3 (ca:=[ptr b9]) (d7.kp kx λ _ _ h=>h) (by kernel_rfl) (FC (b7:=b7) (vt:=vt1) (D:=λg=>w.heap.size<=g/\vo1.ownBlock≠some g/\g< G.heap.size) ?_ (by have :=ti.l9;have :=δ.size;omega) ?_ (by have :=δ.size;omega) (hsvt.ex δ) (af.ex hths δ) htsh (by omega) λg H=>⟨λhd=>hd.2.1 H,λe=>hn9 (e▸(d9 g H).1),(d9 g H).2⟩) (by omega) λv308 w309 hv k309 hsl=>?_
  ·rw [δ.cell (show b9< _ from ti.l9)];exact ti.c9
  ·rw [δ.cell (show b7< _ from d1)];exact d6
  have k9:Kp G w309 λg=>vo1.ownBlock=some g:=Kp.trans (Kp.ah δ _) k309 λ _ _ h=>h
  have hb9:=k9.block b7 d1 λe=>(d9 _ e).2 rfl
  have c0:w309.cell? ⟨b7,0,none⟩=some vo1:=by rw [World.cell?_of_block (w:=G) hb9];exact d5
  refine⟨k9,b7,0,rfl,hv,⟨⟨_,c0⟩,by rw [World.frozen?_of_block (w:=G) hb9];exact d4 _⟩,λw313 hw313=>?_⟩;have kset:Kr b7 w309 w313:=hw313▸Kr.set w309 0 _;have kall:Kp G w313 λg=>vo1.ownBlock=some g\/g=b7:=Kp.trans (Kp.mono (λg e=> .inl e) k9) kset λg _ e=> .inr e
  have hne79:b9≠b7:=λe=>hn9 (e▸d3)
  refine⟨ptr b7,?_,hR _ w313 ?_ ?_⟩
  ·rw [World.cell?_of_block (w:=G) (kall.block b9 ti.l9 λe=>e.elim (λe=>hn9 (d9 _ e).1) hne79)];exact ti.c9
  ·exact Ex.below ti.ex (Kp.below kall ti.ex.size λg H e=>by
    rcases e with e | e
    ·have :=(d7.block g e).1;omega
    ·omega)
  ·refine⟨b7,v308,vt1,ts,rfl,d2,Nat.lt_of_lt_of_le d1 kall.size,?_,?_,?_,?_,?_⟩
   ·rw [hw313];exact World.cell?_setCell_same _ _ _ c0
   ·rw [hw313,World.cell?_setCell_other _ _ _ _ (by simp),World.cell?_of_block (w:=G) hb9];exact d6
   ·exact(hsl.kp kset λg H e=>(d9 g H).2 e).sub λg _ H=>(d7.block g H).1
   ·exact((d8.AY (D:=λg=>vt1.ownBlock=some g) λ _ h=>h).kp kall λg H e=>e.elim (λe=>d11 g e H) (d10 g H).2).sub λg _ H=>(d8.block g H).1
   ·exact af.sub (λg _ H=>H.1.1) (af.kp kall (λg H e=>e.elim (λe=>H.1.2.1 (d9 g e).1) λe=>H.1.2.1 (e▸d3)) ti.th)
theorem Dp:∀n,zW n:=by
 have:∀k n,n< k->zW n:=by
  intro k
  induction k with
  | zero=>intro n h;omega
  | succ k z=>exact λn h=>AB n λm hm=>z m (by omega)
 exact λn=>this (n+1) n (by omega)
end Go.Proofs.YtdecokaadekjnaaGreat
namespace Go.Proofs.YtdecokaadekjnaaGreat
open Go
set_option maxRecDepth 100000
theorem jh (o1:Value)(c2:Value)(c3:Value)(w:World)(R:World->Prop)(h:G' 236 #[o1] w λJ n5 w6=>bJ w6 λz G=>(az c2 λb9 ζ=>oI G b9 ζ λH=>z G/\(az c3 λη θ=>oI G η θ λV=>z G/\aj (V+n5)/\az c2 λι κ=>bj G ι κ (.int .i64 (if J> H then J else H)) λW=>z W/\az c3 λμ ν=>bj W μ ν (.int .i64 (V+n5)) λZ=>z Z/\R Z)/\(az c2 λξ ο=>bj G ξ ο (.int .i64 (if J> H then J else H)) λI=>z I/\az c3 λς υ=>oI I ς υ λα=>z I/\aj (α+n5)/\az c3 λb30 φ=>bj I b30 φ (.int .i64 (α+n5)) λβ=>z β/\R β))/\(az c3 λχ ψ=>oI G χ ψ λγ=>z G/\aj (γ+n5)/\az c2 λω o38=>oI G ω o38 λn39=>z G/\az c2 λb40 o41=>bj G b40 o41 (.int .i64 (if J> n39 then J else n39)) λδ=>z δ/\az c3 λb44 o45=>bj δ b44 o45 (.int .i64 (γ+n5)) λε=>z ε/\R ε)):
  Calls Tryz.prog 249 #[o1,c2,c3] w (ax [] R):=
 bc (a8 [] [] []) [] [.v o1,.v c2,.v c3] Tryz.func249 (by kernel_rfl) h
theorem ky (l1:Value)(w:World)(R:Int->Int->World->Prop)(h:bJ w λS2 w3=>az l1 λb4 o5=>cA S2 b4 (o5+0) λv6=>bL v6 λl8=>az l1 λb10 o11=>cA S2 b10 (o11+0) λv12=>bL v12 λl14=>(aR w3 (.cells #[(.int .i64 0)] 3) λb16 w17=>S2 w17/\aR w17 (.cells #[(.int .i64 0)] 3) λb18 w19=>S2 w19/\bj w19 b16 0 (.int .i64 (l8:Int)) λw21=>S2 w21/\bj w21 b18 0 (.int .i64 (l14:Int)) λw23=>az l1 λb24 o25=>aU w23 b24 (o25+1) λv26=>bL v26 λl28=>fZ 0 w23 λI30 ι H V=>ai (decide (H< (l28:Int))) (aK v26 H λb34 o35=>aU V b34 (o35+H.toNat* 1) λκ=>az κ λb39 o40=>aU V b39 (o40+3) λv41=>∃q42:Option Addr,v41= .pointer q42/\ai (!Option.isNone q42) (az κ λb43 o44=>aU V b43 (o44+3) λv45=>∃(f46:Nat) (c47:List Value),(Value.func (.func 249) #[] #[(.pointer (some ⟨b16,0,none⟩)),(.pointer (some ⟨b18,0,none⟩))])= .func (.func f46) #[] (List.toArray c47)/\List.contains dy f46=true/\fC f46 (List.toArray ([v45]++c47)) V λw48=>az κ λb49 o50=>aU w48 b49 (o50+4) λv51=>bL v51 λl53=>fZ 0 w48 λI55 m56 α ε=>ai (decide (α< (l53:Int))) (aK v51 α λb59 o60=>aU ε b59 (o60+α.toNat* 1) λv63=>∃(f64:Nat) (c65:List Value),(Value.func (.func 249) #[] #[(.pointer (some ⟨b16,0,none⟩)),(.pointer (some ⟨b18,0,none⟩))])= .func (.func f64) #[] (List.toArray c65)/\List.contains dy f64=true/\fC f64 (List.toArray ([v63]++c65)) ε λw66=>aj (α+1)/\I55 (α+1) w66/\m56 (α+1) w66< m56 α ε) (aj (H+1)/\I30 (H+1) ε/\ι (H+1) ε< ι H V)) (az κ λb67 o68=>aU V b67 (o68+4) λv69=>bL v69 λl71=>fZ 0 V λI73 m74 β ζ=>ai (decide (β< (l71:Int))) (aK v69 β λb77 o78=>aU ζ b77 (o78+β.toNat* 1) λv81=>∃(f82:Nat) (c83:List Value),(Value.func (.func 249) #[] #[(.pointer (some ⟨b16,0,none⟩)),(.pointer (some ⟨b18,0,none⟩))])= .func (.func f82) #[] (List.toArray c83)/\List.contains dy f82=true/\fC f82 (List.toArray ([v81]++c83)) ζ λw84=>aj (β+1)/\I73 (β+1) w84/\m74 (β+1) w84< m74 β ζ) (aj (H+1)/\I30 (H+1) ζ/\ι (H+1) ζ< ι H V))) (bJ V λS85 w86=>jQ S85 b16 0 λn87=>jQ S85 b18 0 λn88=>R n87 n88 w86))/\(aR w3 (.cells #[(.int .i64 0)] 3) λη w90=>S2 w90/\aR w90 (.cells #[(.int .i64 0)] 3) λθ w92=>S2 w92/\bj w92 θ 0 (.int .i64 (l8:Int)) λw94=>S2 w94/\bj w94 η 0 (.int .i64 (l14:Int)) λw96=>az l1 λb97 o98=>aU w96 b97 (o98+1) λv99=>bL v99 λl101=>fZ 0 w96 λμ γ z G=>ai (decide (z< (l101:Int))) (aK v99 z λb107 o108=>aU G b107 (o108+z.toNat* 1) λδ=>az δ λb112 o113=>aU G b112 (o113+3) λv114=>∃ν:Option Addr,v114= .pointer ν/\ai (!Option.isNone ν) (az δ λb116 o117=>aU G b116 (o117+3) λv118=>∃(f119:Nat) (ξ:List Value),(Value.func (.func 249) #[] #[(.pointer (some ⟨θ,0,none⟩)),(.pointer (some ⟨η,0,none⟩))])= .func (.func f119) #[] (List.toArray ξ)/\List.contains dy f119=true/\fC f119 (List.toArray ([v118]++ξ)) G λο=>az δ λb122 o123=>aU ο b122 (o123+4) λv124=>bL v124 λl126=>fZ 0 ο λI128 ς I W=>ai (decide (I< (l126:Int))) (aK v124 I λb132 o133=>aU W b132 (o133+I.toNat* 1) λv136=>∃(f137:Nat) (υ:List Value),(Value.func (.func 249) #[] #[(.pointer (some ⟨θ,0,none⟩)),(.pointer (some ⟨η,0,none⟩))])= .func (.func f137) #[] (List.toArray υ)/\List.contains dy f137=true/\fC f137 (List.toArray ([v136]++υ)) W λφ=>aj (I+1)/\I128 (I+1) φ/\ς (I+1) φ< ς I W) (aj (z+1)/\μ (z+1) W/\γ (z+1) W< γ z G)) (az δ λb140 o141=>aU G b140 (o141+4) λχ=>bL χ λl144=>fZ 0 G λI146 ψ J Z=>ai (decide (J< (l144:Int))) (aK χ J λb150 o151=>aU Z b150 (o151+J.toNat* 1) λv154=>∃(f155:Nat) (ω:List Value),(Value.func (.func 249) #[] #[(.pointer (some ⟨θ,0,none⟩)),(.pointer (some ⟨η,0,none⟩))])= .func (.func f155) #[] (List.toArray ω)/\List.contains dy f155=true/\fC f155 (List.toArray ([v154]++ω)) Z λw157=>aj (J+1)/\I146 (J+1) w157/\ψ (J+1) w157< ψ J Z) (aj (z+1)/\μ (z+1) Z/\γ (z+1) Z< γ z G))) (bJ G λS158 w159=>jQ S158 θ 0 λn160=>jQ S158 η 0 λn161=>R n160 n161 w159))):
  Calls Tryz.prog 236 #[l1] w (ax [.i,.i] R):=
 bc (a8 [(4,[(27,.i)]),(9,[(47,.i)])] [] [1,14]) [.tmp 2 .i,.tmp 3 .i] [.v l1] Tryz.func236 (by kernel_rfl) h
theorem wH (c1:UInt8)(w:World)(R:UInt32->World->Prop)(h:R ((nD 1 (UInt8.toNat (c1 - 97:UInt8)))) w):
  Calls Tryz.prog 59 #[(.int .u8 c1.toNat)] w (ax [.w] R):=
 bc (a8 [] [] []) [.tmp 2 .w] [.c c1] Tryz.func59 (by kernel_rfl) h
theorem tj (s1:UInt32)(w:World)(R:UInt8->Bool->World->Prop)(h:HH 97 w λI H c4 z=>ai (decide (c4<=122)) (EW 59 #[(.int .u8 c4.toNat)] z λJ G=>ai (decide ((s1 &&& J:UInt32)=0)) (R c4 true G) (I (c4+1:UInt8) G/\H (c4+1:UInt8) G< H c4 z)) (R 0 false z)):
  Calls Tryz.prog 130 #[(.int .u32 (UInt32.toNat s1))] w (ax [.c,.b] R):=
 bc (a8 [(2,[(4,.c)])] [] []) [.tmp 2 .c,.tmp 3 .b] [.w s1] Tryz.func130 (by kernel_rfl) h
theorem mF (n1:Value)(x2:Int)(w:World)(R:UInt32->World->Prop)(h:az n1 λb3 o4=>Hu w b3 (o4+1) λm5=>az n1 λb6 o7=>Hu w b6 (o7+1) λm8=>DM 130 #[(.int .u32 (UInt32.toNat m8))] w λc9 ε V=>ai (!ε) (az n1 λζ η=>bj V ζ (η+2) (.bool true) λθ=>bJ θ λW ι=>az n1 λb18 κ=>HD W b18 (κ+1) λμ=>EW 59 #[(.int .u8 (UInt8.toNat 122))] ι λν Z=>W Z/\az n1 λξ ο=>bj Z ξ (ο+1) (.int .u32 (UInt32.toNat (μ ||| ν:UInt32))) λH=>az n1 λς υ=>aU H ς (υ+0) λφ=>∃(z:Nat) (α:Value->Option Value),φ= .map (some z)/\IsMap H z (.int .i64) α/\∀jV:World,IsMap jV z (.int .i64) (eh α (.int .i64 x2) (.int .u8 (UInt8.toNat 122)))->cT H jV z->R m5 jV) (bJ V λβ χ=>az n1 λψ ω=>HD β ψ (ω+1) λm37=>EW 59 #[(.int .u8 c9.toNat)] χ λm38 γ=>β γ/\az n1 λb40 o41=>bj γ b40 (o41+1) (.int .u32 (UInt32.toNat (m37 ||| m38:UInt32))) λI=>az n1 λb44 o45=>aU I b44 (o45+0) λv46=>∃(G:Nat) (δ:Value->Option Value),v46= .map (some G)/\IsMap I G (.int .i64) δ/\∀J:World,IsMap J G (.int .i64) (eh δ (.int .i64 x2) (.int .u8 c9.toNat))->cT I J G->R m5 J)):
  Calls Tryz.prog 252 #[n1,(.int .i64 x2)] w (ax [.w] R):=
 bc (a8 [] [] [6]) [.tmp 4 .w] [.v n1,.i x2] Tryz.func252 (by kernel_rfl) h
theorem mL (n1:Value)(z:Int)(w:World)(R:ay->World->Prop)(h:ai (decide (z< 26)) (aj (97+z)/\(0<=(97+z)/\(97+z)< 2147483648)/\(0<=(97+z)/\(97+z)< 128)/\R ([UInt8.ofNat (Int.toNat (97+z))]) w) (az n1 λb3 J=>aU w b3 (J+0) λv5=>∃(I:Nat) (H:Value->Option Value),v5= .map (some I)/\IsMap w I (.int .i64) H/\∃G:UInt8,∃g9:Bool,((g9=true/\H (.int .i64 z)=some (.int .u8 G.toNat))\/(g9=false/\H (.int .i64 z)=none/\(Value.int .u8 G.toNat)=(.int .u8 0)))/\(0<=(UInt8.toNat G:Int)/\(UInt8.toNat G:Int)< 128)/\R ([UInt8.ofNat (Int.toNat (UInt8.toNat G:Int))]) w)):
  Calls Tryz.prog 253 #[n1,(.int .i64 z)] w (ax [.s] R):=
 bc (a8 [] [] []) [.tmp 4 .s] [.v n1,.i z] Tryz.func253 (by kernel_rfl) h
theorem uV (t1:Value)(s2:ay)(w:World)(R:ay->World->Prop)(h:fC 115 #[t1] w λw3=>bL t1 λV=>aj ((V:Int) - 1)/\aK t1 ((V:Int) - 1) λb7 o8=>cD w3 b7 (o8+Int.toNat ((V:Int) - 1)* 1) λW=>bL t1 λI=>aj ((I:Int) - 2)/\lf W (((I:Int) - 2)) w3 λZ J z i18 H=>ai (decide (0<=i18)) (aK t1 i18 λα β=>cD H α (β+i18.toNat* 1) λG=>(List.length [40]+G.length<=4611686018427387904)/\(List.length ([40]++G)+s2.length<=4611686018427387904)/\(List.length (([40]++G)++s2)+z.length<=4611686018427387904)/\(List.length ((([40]++G)++s2)++z)+List.length [41]<=4611686018427387904)/\aj (i18 - 1)/\Z ((((([40]++G)++s2)++z)++[41])) (i18 - 1) H/\J ((((([40]++G)++s2)++z)++[41])) (i18 - 1) H< J z i18 H) (R z H)):
  Calls Tryz.prog 255 #[t1,(.string (ab s2))] w (ax [.s] R):=
 bc (a8 [(4,[(5,.s),(6,.i)])] [] []) [.tmp 4 .s] [.v t1,.s s2] Tryz.func255 (by kernel_rfl) h
end Go.Proofs.YtdecokaadekjnaaGreat
