/- Part 3 of a proof of what the last text states; no condition. -/
import Derived.Test.YtdecokaadekjnaaGreatU2
namespace Go.Proofs.YtdecokaadekjnaaGreat
open Classical
theorem Jp {n:Nat}(ih:∀(u:U) (ρ:Rh) (tk:Tk),u.size<=n->Uq u->FP u ρ tk->dt u tk=false->∃t v,Gi u ρ tk t v){t:U}{ρ:Rh}{tk:Tk}(hn:t.size<=n+1)(hu:Uq t)(κ:FW t=true)
  (ξ:t.dC) (hl:t.dead=false) (hm:FP t ρ tk) (hb:thBad (tl [t]) tk=false):∃q w,CX t ρ tk q w:=by
 cases t with
 | nil=>cases κ
 | par=>cases κ
 | res=>cases κ
 | snd a b p=>
  simp only [T.size]at hn;rw [jC]at hb;obtain⟨q,v,G,h2,H,h4⟩:=ih p ρ tk (by omega) hu.snd (hm.sub λy hy=> .inr (.inr hy)) hb;have α:∀x,(T.snd a b v).Us x↔(T.snd a b p).Us x:=λx=>or_congr_right (or_congr_right (h4.us x))
  refine⟨.snd (ρ a) (ρ b) q,.snd a b v,?_,⟨rfl,rfl,h2⟩,⟨(hm.ok a (.inl rfl)).2,(hm.ok b (.inr (.inl rfl))).2,H⟩,?_⟩
  ·simp only [T.text,thU,kText,G]
  ·exact⟨rfl,h4.nr,qH (t:=T.snd a b p) h4.uq.nd h4.nr h4.bv (λx=>(α x).1) hu,h4.bv,α,λρ tk=>by simp only [thU,h4.ls],λtk=>by rw [jC,jC,h4.bad],by rw [pO,pO,h4.all],by rw [e8,e8,h4.most],h4.smp,rfl⟩
 | tau p=>
  simp only [T.size]at hn;rw [iV]at hb;obtain⟨q,v,G,h2,H,h4⟩:=ih p ρ tk (by omega) hu.tau (hm.sub λy hy=>hy) hb;refine⟨.tau q,.tau v,?_,h2,H,?_⟩
  ·simp only [T.text,thU,kText,G]
  ·exact⟨rfl,h4.nr,qH (t:=T.tau p) h4.uq.nd h4.nr h4.bv (λx=>(h4.us x).1) hu,h4.bv,h4.us,λρ tk=>by simp only [thU,h4.ls],λtk=>by rw [iV,iV,h4.bad],by rw [qd,qd,h4.all],by rw [eR,eR,h4.most],h4.smp,rfl⟩
 | rep p=>
  simp only [T.size]at hn;rw [jf]at hb;obtain⟨q,v,G,h2,H,h4⟩:=ih p ρ tk (by omega) hu.rep (hm.sub λy hy=>hy) hb;have hd:v.dead=false:=by rw [h4.dead];exact hl
  have nr:(T.rep v).Nr:=⟨hd,h4.nr⟩
  refine⟨.rep q,.rep v,?_,h2,H,?_⟩
  ·simp only [T.text,thU,kText,G]
  ·refine⟨rfl,nr,qH (t:=T.rep p) h4.uq.nd nr h4.bv (λx=>(h4.us x).1) hu,h4.bv,h4.us,λρ tk=>by simp only [thU,h4.ls],λtk=>by rw [jf,jf,h4.bad],by rw [qb,qb,h4.all],by rw [eP,eP,h4.most],λhs=>?_,rfl⟩;simp only [T.smp,J3]at hs|-;refine⟨?_,h4.smp hs.2⟩;have:ak p=([],[p]):=by
    have hr:=hs.1;cases p<;>first | rfl | cases hr
   rw [T.wP,h4.tg p this,<-T.wP];exact hs.1
 | mat a b p=>
  simp only [T.size]at hn;have γ:a≠b:=ξ;have hd:p.dead=false:=hl;rw [eV]at hb;obtain⟨q,v,G,h2,H,h4⟩:=ih p ρ tk (by omega) hu.mat (hm.sub λy hy=> .inr ⟨γ,hd,.inr (.inr hy)⟩) hb;have ζ:v.dead=false:=by rw [h4.dead];exact hd
  have ha:=(hm.ok a (.inr ⟨γ,hd,.inl rfl⟩)).2;have ο:=(hm.ok b (.inr ⟨γ,hd,.inr (.inl rfl)⟩)).2;have us:∀x,(T.mat a b v).Us x↔(T.mat a b p).Us x:=λx=>by simp only [T.Us,γ,hd,ζ,h4.us]
  have ς:∀x,(T.mat b a v).Us x↔(T.mat a b p).Us x:=λx=>by
   simp only [T.Us,γ,γ.symm,hd,ζ,h4.us,false_and,NJ,ne_eq,M6,Mc];rw [<-MU,<-MU,or_comm (a:=x=b)]
  by_cases υ:ρ b< ρ a
  ·have nr:(T.mat b a v).Nr:=⟨⟨γ.symm,ζ⟩,h4.nr⟩
   refine⟨.mat (ρ b) (ρ a) q,.mat b a v,?_,⟨rfl,rfl,h2⟩,⟨ο,ha,H⟩,?_⟩
   ·simp only [T.text,thU,kText,G,KG υ]
   ·exact⟨rfl,nr,qH (t:=T.mat a b p) h4.uq.nd nr h4.bv (λx=>(ς x).1) hu,h4.bv,ς,λρ tk=>by simp only [thU,h4.ls];exact zK _ _ _,λtk=>by rw [eV,eV,h4.bad],by rw [jy,jy,h4.all],by rw [dk,dk,h4.most],h4.smp,rfl⟩
  ·have nr:(T.mat a b v).Nr:=⟨⟨γ,ζ⟩,h4.nr⟩
   refine⟨.mat (ρ a) (ρ b) q,.mat a b v,?_,⟨rfl,rfl,h2⟩,⟨ha,ο,H⟩,?_⟩
   ·simp only [T.text,thU,kText,G,Ko υ]
   ·exact⟨rfl,nr,qH (t:=T.mat a b p) h4.uq.nd nr h4.bv (λx=>(us x).1) hu,h4.bv,us,λρ tk=>by simp only [thU,h4.ls],λtk=>by rw [eV,eV,h4.bad],by rw [jy,jy,h4.all],by rw [dk,dk,h4.most],h4.smp,rfl⟩
 | rcv a x p=>
  simp only [T.size]at hn;rw [jA,Ls]at hb;obtain⟨f1,f2⟩:=D9 hb.1;have hm':FP p (aF ρ x (iK tk)) (cA tk (iK tk)):=by
   refine⟨λy hy=>?_,λy z hy I e=>?_⟩
   ·by_cases e:y=x
    ·subst e;simp [aF,cA,f2]
    ·obtain⟨k1,k2⟩:=hm.ok y (.inr ⟨e,hy⟩);simp [aF,e,cA,k1,k2]
   ·by_cases g1:y=x<;>by_cases g2:z=x
    ·rw [g1,g2]
    ·simp only [aF,KG g1,Ko g2]at e;have :=(hm.ok z (.inr ⟨g2,I⟩)).1;rw [<-e,f1]at this;cases this
    ·simp only [aF,Ko g1,KG g2]at e;have :=(hm.ok y (.inr ⟨g1,hy⟩)).1;rw [e,f1]at this;cases this
    ·simp only [aF,Ko g1,Ko g2]at e;exact hm.inj y z (.inr ⟨g1,hy⟩) (.inr ⟨g2,I⟩) e
  obtain⟨q,v,G,h2,H,h4⟩:=ih p _ _ (by omega) hu.rcv hm' hb.2;have α:∀y,(T.rcv a x v).Us y↔(T.rcv a x p).Us y:=λy=>or_congr_right (and_congr_right λ _=>h4.us y)
  have nr:(T.rcv a x v).Nr:=h4.nr;have μ:(BV (T.rcv a x v)).Nodup:=K7.2 ⟨λhx=>hu.lL (h4.bv x hx),h4.uq.nd⟩;have ε:∀y∈BV (T.rcv a x v),y∈BV (T.rcv a x p):=λy hy=>by
   rcases Ks.1 hy with rfl | hy
   ·exact KR ..
   ·exact Ki _ (h4.bv y hy)
  refine⟨.rcv (ρ a) (iK tk) q,.rcv a x v,?_,⟨rfl,λn=>AE.GU (λz I e=>?_) h2 n⟩,⟨(hm.ok a (.inl rfl)).2,f2,H⟩,?_⟩
  ·simp only [T.text,thU,kText,G]
  ·intro hc;have :=(hm.ok z (.inr ⟨e,(h4.us z).1 (h4.nr.il I)⟩)).1;rw [hc,f1]at this;cases this
  ·exact⟨rfl,nr,qH μ nr ε (λx=>(α x).1) hu,ε,α,λρ tk=>by simp only [thU,h4.ls],λtk=>by rw [jA,jA,h4.bad],by rw [pT,pT,h4.all],by rw [eN,eN,h4.most],h4.smp,rfl⟩
 | sum p q=>
  simp only [T.size]at hn;obtain⟨hd1,hd2⟩:p.dead=false/\q.dead=false:=ξ;have eS:an (T.sum p q)=an p++an q:=rfl;have φ:∀u∈an (T.sum p q),u.size<=n:=λu Z=>by
   rw [eS]at Z;rcases Ke.1 Z with h | h
   ·have :=mJ p u h;omega
   ·have :=mJ q u h;omega
  have χ:∀u∈an (T.sum p q),dt u tk=false:=by
   rw [(fv (w:=T.sum p q) rfl ρ tk).2]at hb;simp only [thBad,Ms,vG]at hb;simpa [List.any_eq_false]using hb
  obtain⟨zs,z1,z2⟩:=triples (R:=λu=>Gi u ρ tk) (l:=an (T.sum p q)) λu Z=>
   ih u ρ tk (φ u Z) (xd hu u Z) (hm.sub λy hy=>(lZ _ hu y).2 ⟨u,Z,hy⟩) (χ u Z)
  obtain⟨J,y1,y2⟩:=vf zs λz=>z.2.1.text
  have W:(J.map (·.1)).Perm (an (T.sum p q)):=z1▸y1.map _;have I:∀z∈J,Gi z.1 ρ tk z.2.1 z.2.2:=λz I=>z2 z (y1.subset I)
  have V:∀z∈J,z.1∈an (T.sum p q):=λz I=>W.subset (LG I)
  have hlen:2<=J.length:=by
   have l1:(an p).length≠0:=λe=>oV hd1 hu.ec (KD e)
   have l2:(an q).length≠0:=λe=>oV hd2 hu.dL (KD e)
   have :=W.length_eq;rw [Kz,eS,J']at this;omega
  have η:J≠[]:=λe=>by rw [e]at hlen;simp at hlen
  have δ:(T.dD (J.map (·.2.2))).isS=true/\(T.dD (J.map (·.2.2))).th=true/\(T.dD (J.map (·.2.2))).tg=4:=by
   match J,hlen with
   | a::b::l,_=>exact⟨rfl,rfl,rfl⟩
   | [a],h=>simp at h
   | [],h=>simp at h
  have ψ:∀v∈J.map (·.2.2),v.dead=false/\v.isS=false/\v.Nr:=λv hv=>by
   obtain⟨z,G,rfl⟩:=KQ.1 hv;have ha:=(I z G).2.2.2;refine⟨?_,ha.isS (B5 _ hu z.1 (V z G)),ha.nr⟩;rw [ha.dead];cases hd:z.1.dead with
   | false=>rfl
   | true=>
    have hcp:∀u:U,∀t∈an u,t.dead=false:=B2;exact absurd (hcp _ _ (V z G)) (by rw [hd];simp)
  have θ:=(T.Ah (l:=J.map (·.2.2)) (by simpa using η) ψ)
  have ε:∀x∈BV (T.dD (J.map (·.2.2))),x∈BV (T.sum p q):=λx hx=>by
   rw [wU]at hx;obtain⟨v,G,h2⟩:=KU.1 hx;obtain⟨z,H,rfl⟩:=KQ.1 G;exact xF _ z.1 (V z H) x ((I z H).2.2.2.bv x h2)
  have α:∀x,(T.dD (J.map (·.2.2))).Us x↔(T.sum p q).Us x:=λx=>by
   rw [T.A0,lZ _ hu];constructor
   ·rintro⟨v,G,h2⟩
    obtain⟨z,H,rfl⟩:=KQ.1 G;exact⟨z.1,V z H,((I z H).2.2.2.us x).1 h2⟩
   ·rintro⟨u,G,h2⟩
    obtain⟨z,H,rfl⟩:=KQ.1 (W.symm.subset G);exact⟨_,LG H,((I z H).2.2.2.us x).2 h2⟩
  have μ:(BV (T.dD (J.map (·.2.2)))).Nodup:=by
   rw [wU,Nn];refine pW (f:=λz=>BV z.1) ?_ λz h=>⟨(I z h).2.2.2.uq.nd,(I z h).2.2.2.bv⟩
   have hp:=(W.flatMap_right BV)
   rw [Nn]at hp;exact hp.nodup_iff.2 (Eo _ hu)
  have ω:=qH μ θ.1 ε (λx=>(α x).1) hu;have ι:an (T.dD (J.map (·.2.2)))=J.map (·.2.2):=by
   rw [eo ω θ.1 θ.2,T.yx (by simpa using η) λt ht=>(ψ t ht).2.1]
  have ν:∀{β:Type} (g:U->β),(∀z∈J,g z.2.2=g z.1)->((J.map (·.2.2)).map g).Perm ((an (T.sum p q)).map g):=λg hg=>by
   have e:(J.map (·.2.2)).map g=(J.map (·.1)).map g:=by
    rw [LM,LM];exact Lk hg
   rw [e];exact W.map g
  refine⟨T.dD (J.map (·.2.1)),T.dD (J.map (·.2.2)),?_,AE.dD λz h=>(I z h).2.1,AL λt ht=>?_,?_⟩
  ·rw [T.vw (by simpa using η),LM,(fv (w:=T.sum p q) rfl ρ tk).1];have e:J.map (T.text∘λz=>z.2.1)=a7 (zs.map λz=>z.2.1.text):=y2;rw [e]
   congr 2
   rw [<-z1,LM];exact Lk λz h=>(z2 z h).1
  ·obtain⟨z,G,rfl⟩:=KQ.1 ht;exact(I z G).2.2.1
  ·refine⟨δ.2.1,θ.1,ω,ε,α,λρ tk=>?_,λtk=>?_,?_,?_,λhs=>?_,δ.2.2⟩
   ·rw [(fv δ.1 ρ tk).1,(fv (w:=T.sum p q) rfl ρ tk).1,ι]
    congr 1
    exact kP (ν _ λz h=>(I z h).2.2.2.ls ρ tk)
   ·rw [(fv δ.1 ρ tk).2,(fv (w:=T.sum p q) rfl ρ tk).2,ι];simp only [thBad,Ms,vG];have G:=yW (f:=λb:Bool=>b) (ν (λu=>dt u tk) λz h=>(I z h).2.2.2.bad tk);simpa [List.any_map,Function.comp_def]using G
   ·rw [(fv δ.1 ρ tk).2,(fv (w:=T.sum p q) rfl ρ tk).2,ι];simp only [thAll,MF,Ek];exact jt (ν cO λz h=>(I z h).2.2.2.all)
   ·rw [(fv δ.1 ρ tk).2,(fv (w:=T.sum p q) rfl ρ tk).2,ι];refine AU λk=>?_
    simp only [aw,Nat.max_zero,vH];constructor
    ·intro h u Z;obtain⟨z,H,rfl⟩:=KQ.1 (W.symm.subset Z);rw [<-(I z H).2.2.2.most];exact h _ (LG H)
    ·intro h v hv;obtain⟨z,H,rfl⟩:=KQ.1 hv;rw [(I z H).2.2.2.most];exact h _ (V z H)
   ·have hg:=wB (T.sum p q) rfl hs;refine(C6 (by simpa using η) λt ht=>?_).1;obtain⟨z,G,rfl⟩:=KQ.1 ht;have ha:=(I z G).2.2.2;have hgz:=hg z.1 (V z G);refine⟨ha.smp (DP _ hs z.1 (V z G)),?_⟩;rw [T.xG,ha.tg z.1 hgz.2,J4];rcases hgz.1 with h | h | h<;>omega
theorem pa {u:U}(hu:Uq u)(hd:u.dead=true):(∀ρ tk,LS u ρ tk=[48])/\(∀tk,dt u tk=false)/\cO u=0/\bj u=0:=by
 have z:=mM hd;have h2:(td u).1=[]:=by
  have :=(fX u hu).2.1;rw [dj u hu hd]at this;exact this.eq_nil
 refine⟨λρ tk=>?_,λtk=>?_,?_,?_⟩
 ·simp [LS,aR,z,thS]
 ·simp [dt,fQ,z,Lv.isNil]
 ·simp [cO,z,h2,thAll]
 ·simp [bj,z,h2,aw]
theorem arr:∀(n:Nat) (u:U) (ρ:Rh) (tk:Tk),u.size<=n->Uq u->FP u ρ tk->dt u tk=false->∃t v,Gi u ρ tk t v:=by
 intro n
 induction n with
 | zero=>intro u ρ tk h;cases u<;>simp [T.size]at h
 | succ n ih=>
  intro u ρ tk hn hu hm hb;cases hd:u.dead with
  | true=>
   obtain⟨d1,d2,d3,d4⟩:=pa hu hd;have χ:Uq .nil:=⟨LB,λx h=>by cases h⟩
   obtain⟨e1,e2,e3,e4⟩:=pa χ rfl;refine⟨.nil,.nil,by rw [d1];rfl,trivial,trivial,trivial,χ,λx h=>(by cases h),λx=>⟨λh=>h.elim,λh=>absurd h (T.bI hd)⟩,λρ tk=>by rw [d1,e1],λtk=>by rw [d2,e2],by rw [d3,e3],by rw [d4,e4],hd.symm,λ _=>rfl,λt V=>?_,λ _=>rfl⟩;rw [dj u hu hd]at V;cases V
  | false=>
   have ψ:=wi hd hu;obtain⟨g1,g2,_⟩:=fX u hu;have hlen:(td u).1.length=(ak u).1.length:=g2.length_eq;have ω:(td u).2.isNil=false:=by rw [dH,hd]
   simp only [dt,fQ,ω,Bool.not_false,LU,Ls,hlen]at hb;obtain⟨hb1,δ⟩:=hb;rw [g1,tK]at δ;have δ:∀t∈(ak u).2,thBad (tl [t]) (addK (lets (ak u).1.length tk) tk)=false:=by simpa [List.any_eq_false]using δ
   obtain⟨l1,l2⟩:=uC _ tk hb1;have hls:=fB (ak u).1.length tk;generalize hl:lets (ak u).1.length tk=ls at*;have hLS:LS u ρ tk=wrap ls (bP ((perms (ak u).1).map λπ=>joinS 38 (a7 ((ak u).2.map λt=>thU t (asg π ls ρ) (addK ls tk))))):=by
    rw [we hu];unfold aR;rw [Ko (by simpa using ψ)];show wrap (lets _ tk) (bP (List.map (λπ=>joinS 38 (a7 ((ak u).2.map λt=>thU t (asg π (lets _ tk) ρ) (addK (lets _ tk) tk)))) _))=_;rw [hl]
   obtain⟨hmem,_⟩:=cM (l:=(perms (ak u).1).map λπ=>joinS 38 (a7 ((ak u).2.map λt=>thU t (asg π ls ρ) (addK ls tk)))) (by simpa using pe _);obtain⟨π,G,μ⟩:=KQ.1 hmem;have G:=(cZ _ π).1 G;have α:π.length=ls.length:=by rw [G.length_eq,hls]
   have ν:=Ft u hu;have η:π.Nodup:=G.nodup_iff.2 (KL.1 ν).1;have hmt:∀t∈(ak u).2,FP t (asg π ls ρ) (addK ls tk):=by
    intro t V;have ξ:∀y,t.Us y->y∈π\/(y∉π/\u.Us y):=λy hy=>by
     by_cases hp:y∈π
     ·exact .inl hp
     ·exact .inr ⟨hp,(kZ u hu t V y hy).resolve_right λh=>hp (G.symm.subset h)⟩
    refine⟨λy hy=>?_,λy z hy I e=>?_⟩
    ·rw [wE];rcases ξ y hy with h | ⟨h,h'⟩
     ·have :=ft π ls ρ y h α;exact⟨by simp [this],(l2 _ this).2⟩
     ·rw [bV π ls ρ y h];exact⟨by simp [(hm.ok y h').1],(hm.ok y h').2⟩
    ·rcases ξ y hy with h | ⟨h,h'⟩<;>rcases ξ z I with k | ⟨k,k'⟩
     ·exact wF π ls ρ y z h k α l1 e
     ·rw [bV π ls ρ z k]at e;have :=(l2 _ (ft π ls ρ y h α)).1;rw [e,(hm.ok z k').1]at this;cases this
     ·rw [bV π ls ρ y h]at e;have :=(l2 _ (ft π ls ρ z k α)).1;rw [<-e,(hm.ok y h').1]at this;cases this
     ·rw [bV π ls ρ y h,bV π ls ρ z k]at e;exact hm.inj y z h' k' e
   obtain⟨zs,z1,z2⟩:=triples (R:=λu=>CX u (asg π ls ρ) (addK ls tk)) (l:=(ak u).2) λt V=>
    Jp ih (by have :=zR u t V;omega) (Ez hu t V) (vU u t V) (ud u t V).1 (ud u t V).2 (hmt t V) (δ t V)
   obtain⟨J,y1,y2⟩:=vf zs λz=>z.2.1.text
   have H:(J.map (·.1)).Perm (ak u).2:=z1▸y1.map _;have I:∀z∈J,CX z.1 (asg π ls ρ) (addK ls tk) z.2.1 z.2.2:=λz I=>z2 z (y1.subset I)
   have W:∀z∈J,z.1∈(ak u).2:=λz I=>H.subset (LG I)
   have γ:J≠[]:=λe=>ψ (by have :=H;rw [e]at this;exact this.symm.eq_nil)
   have ε:∀w∈J.map (·.2.2),w.th=true/\w.Nr:=λw hw=>by
    obtain⟨z,Z,rfl⟩:=KQ.1 hw;exact⟨(I z Z).2.2.2.th,(I z Z).2.2.2.nr⟩
   have θ:∀x,(T.parL (J.map (·.2.2))).Us x↔∃t∈(ak u).2,t.Us x:=λx=>by
    rw [T.rQ];constructor
    ·rintro⟨v,Z,h2⟩
     obtain⟨z,h3,rfl⟩:=KQ.1 Z;exact⟨z.1,W z h3,((I z h3).2.2.2.us x).1 h2⟩
    ·rintro⟨u',Z,h2⟩
     obtain⟨z,h3,rfl⟩:=KQ.1 (H.symm.subset Z);exact⟨_,LG h3,((I z h3).2.2.2.us x).2 h2⟩
   have ι:=T.As ε;have ο:(T.resL π (T.parL (J.map (·.2.2)))).Nr:=T.Af ι.1 η λx hx=>(θ x).2 (ym u hu x (G.subset hx))
   have ς:∀x,(T.resL π (T.parL (J.map (·.2.2)))).Us x↔u.Us x:=λx=>by
    rw [T.ka,θ];constructor
    ·rintro⟨Z,t,h2,h3⟩
     exact(kZ u hu t h2 x h3).resolve_right λh=>Z (G.symm.subset h)
    ·intro h;exact⟨λhx=>hu.nf x (iP u x (G.subset hx)) (T.bG h),El u x h⟩
   have hbv:∀x∈BV (T.resL π (T.parL (J.map (·.2.2)))),x∈BV u:=λx hx=>by
    rw [gw,gm]at hx;rcases Ke.1 hx with hx | hx
    ·exact iP u x (G.subset hx)
    ·obtain⟨v,Z,h2⟩:=KU.1 hx;obtain⟨z,h3,rfl⟩:=KQ.1 Z;exact AW _ z.1 (W z h3) x ((I z h3).2.2.2.bv x h2)
   have hndv:(BV (T.resL π (T.parL (J.map (·.2.2))))).Nodup:=by
    rw [gw,gm,Nn];have hp:=(H.flatMap_right BV)
    rw [Nn]at hp;have hnd':(J.flatMap λz=>BV z.1).Nodup:=hp.nodup_iff.2 (KL.1 ν).2.1;refine KL.2 ⟨η,pW (f:=λz=>BV z.1) hnd' λz h=>⟨(I z h).2.2.2.uq.nd,(I z h).2.2.2.bv⟩,λa ha b hb=>?_⟩;obtain⟨z,Z,h2⟩:=KU.1 hb;exact(KL.1 ν).2.2 a (G.subset ha) b (KU.2 ⟨z.1,W z Z,(I z Z).2.2.2.bv b h2⟩)
   have ζ:=qH hndv ο hbv (λx=>(ς x).1) hu;have κ:ak (T.resL π (T.parL (J.map (·.2.2))))=(π,J.map (·.2.2)):=by
    rw [zE ζ ο,T.xq,T.yL,T.yF λt V=>(ε t V).1,T.Dq λt V=>(ε t V).1,KJ]
   have υ:∀{β:Type} (g:U->β),(∀z∈J,g z.2.2=g z.1)->((J.map (·.2.2)).map g).Perm ((ak u).2.map g):=λg hg=>by
    have e:(J.map (·.2.2)).map g=(J.map (·.1)).map g:=by
     rw [LM,LM];exact Lk hg
    rw [e];exact H.map g
   obtain⟨k1,k2,_⟩:=fX _ ζ;rw [κ]at k1 k2;have hdv:(T.resL π (T.parL (J.map (·.2.2)))).dead=false:=by
    rw [lK,k1]
    match J,γ,ε with
    | z::l,_,h=>
     have :=(h z.2.2 (by simp)).1;intro hh;revert hh this;simp only [KE];cases z.2.2<;>simp [tl,Lv.len,T.th]
   have φ:(td (T.resL π (T.parL (J.map (·.2.2))))).1.length=(td u).1.length:=by rw [k2.length_eq,G.length_eq,hlen]
   refine⟨T.resL ls (T.parL (J.map (·.2.1))),T.resL π (T.parL (J.map (·.2.2))),?_,?_,?_,ο,ζ,hbv,ς,λρ tk=>?_,λtk=>?_,?_,?_,by rw [hdv,hd],λhs=>?_,λt V=>?_,λhns=>?_⟩
   ·rw [T.qt,hLS,<-μ,T.qf (by simpa using γ),LM];have e:J.map (T.text∘λz=>z.2.1)=a7 (zs.map λz=>z.2.1.text):=y2;rw [e,<-z1,LM]
    congr 3
    exact Lk λz h=>(z2 z h).1
   ·refine AE.Dm π ls ρ α l1 (λz hz' hzp hc=>?_) (AE.parL λz h=>(I z h).2.1);have hzu:u.Us z:=(ς z).1 (T.ka.2 ⟨hzp,ι.1.il hz'⟩);have :=(l2 _ hc).1;rw [(hm.ok z hzu).1]at this;cases this
   ·refine Bo (An λt V=>?_) λc hc=>(l2 c hc).2
    obtain⟨z,Z,rfl⟩:=KQ.1 V;exact(I z Z).2.2.1
   ·rw [we ζ,we hu,κ];exact lI G (λρ tk=>υ (λt=>thU t ρ tk) λz h=>(I z h).2.2.2.tx ρ tk) ρ tk
   ·unfold dt fQ;rw [φ,dH,dH,hdv,hd,k1,g1]
    congr 2
    rw [tK,tK];have Z:=yW (f:=λb:Bool=>b) (υ (λt=>thBad (tl [t]) (addK (lets (td u).1.length tk) tk)) λz h=>(I z h).2.2.2.bad _);simpa [List.any_map,Function.comp_def]using Z
   ·unfold cO;rw [φ,k1,g1,Ab,Ab (ak u).2]
    congr 1
    exact jt (υ (λt=>thAll (tl [t])) λz h=>(I z h).2.2.2.all)
   ·unfold bj;rw [φ,k1,g1]
    congr 1
    refine AU λk=>?_
    rw [rF,rF];constructor
    ·intro h t V;obtain⟨z,h3,rfl⟩:=KQ.1 (H.symm.subset V);rw [<-(I z h3).2.2.2.most];exact h _ (LG h3)
    ·intro h v hv;obtain⟨z,h3,rfl⟩:=KQ.1 hv;rw [(I z h3).2.2.2.most];exact h _ (W z h3)
   ·rw [rX];refine sM λt V=>?_
    obtain⟨z,Z,rfl⟩:=KQ.1 V;exact(I z Z).2.2.2.smp (Fp u hs z.1 (W z Z))
   ·rw [V]at G H;have e1:π=[]:=G.eq_nil;have e2:=H.length_eq;rw [Kz]at e2
    match J,e2,H,I with
    | [z],_,hs,I=>
     have:z.1=t:=by simpa using hs
     subst this;rw [e1];exact(I z (by simp)).2.2.2.tg
   ·cases hp:π with
    | cons x l=>rfl
    | nil=>
     rw [hp]at G;have e0:(ak u).1=[]:=G.symm.eq_nil
     match J,γ,H,I with
     | [z],_,hs,I=>
      have e1:(ak u).2=[z.1]:=by
       have :=List.perm_singleton.1 hs.symm;simpa using this
      show z.2.2.isS=false;have htg:=(I z (by simp)).2.2.2.tg;rw [T.Dz,htg,<-T.Dz];cases hz1:z.1<;>first | rfl | skip
      rename_i p q;exact absurd (Prod.ext e0 (by rw [e1,hz1])) (hns p q)
     | z::y::l,_,_,_=>rfl
end Go.Proofs.YtdecokaadekjnaaGreat
namespace Go.Proofs.YtdecokaadekjnaaGreat
open Go Go.RowKit
theorem uV:∀(n:Nat) (tk:Tk),lets (n+1) tk=lets n tk++[iK (addK (lets n tk) tk)]
 | 0,tk=>rfl
 | n+1,tk=>by
  rw [lets,uV n,lets];rfl
theorem qa:∀(n:Nat) (tk:Tk),gu (n+1) tk=(gu n tk||(uj (addK (lets n tk) tk)).isNone)
 | 0,tk=>by simp [gu,lets,addK]
 | n+1,tk=>by
  rw [gu,qa n,gu];rw [lets,addK,LC]
theorem fN:∀(l:List UInt8) (s:Tx),(wrap l s).length=3* l.length+s.length
 | [],s=>by simp [wrap]
 | c::l,s=>by simp only [wrap,J0,fN l s];omega
theorem sB:∀{l:List UInt8} (s:Tx),(∀c∈l,¬c=35)->(wrap l s).count 35=l.length+s.count 35
 | [],s,_=>by simp [wrap]
 | c::l,s,h=>by
  have z:=sB (l:=l) s λc hc=>h c (Ki _ hc)
  simp only [wrap,J0];rw [List.count_cons,bz (h c (by simp)),bz (by decide),z];simp;omega
theorem pz:∀{l:List UInt8} {s:Tx} {c:UInt8},(c∈l\/c∈s)->c∈wrap l s
 | [],s,c,h=>by simpa [wrap]using h
 | d::l,s,c,h=>by
  simp only [wrap,Ks];rcases h with h | h
  ·rcases Ks.1 h with h | h
   ·exact .inr (.inl h)
   ·exact .inr (.inr (.inr (pz (.inl h))))
  ·exact .inr (.inr (.inr (pz (.inr h))))
theorem gA {k m:Nat}{Θ ls A:Tx}(h:EU k m Θ ls A):cR A=addK ls (cR Θ):=by
 funext c
 rw [wE,cR,cR,K6];simp only [J4,Lm];exact h.mem c
structure G5 (k i:Nat)(Θ ls A:Tx):Prop where
 ok:EU k i Θ ls A
 good:gu i (cR Θ)=false->ls=lets i (cR Θ)
 bad:gu i (cR Θ)=true->∃c∈ls,128<=c
theorem G5.zero {k:Nat}{Θ:Tx}(h:ib Θ):G5 k 0 Θ [] Θ:=
 ⟨⟨rfl,LB,λc hc=>(by cases hc),h,λc=>by simp⟩,λ _=>rfl,λh=>by simp [gu]at h⟩
theorem G5.snoc {k i:Nat}{Θ ls A J:Tx}{c:UInt8}(h:G5 k i Θ ls A)(hc:xY (k+i) A c)(V:ib J)(W:∀x,x∈J↔x=c\/x∈A):G5 k (i+1) Θ (ls++[c]) J:=by
 have H:c∉ls:=λhm=>hc.nin ((h.ok.mem c).2 (.inr hm))
 have I:c∉Θ:=λhm=>hc.nin ((h.ok.mem c).2 (.inl hm))
 refine⟨⟨by simp [h.ok.len],?_,λd hd=>?_,V,λd=>?_⟩,λhb=>?_,λhb=>?_⟩
 ·refine KL.2 ⟨h.ok.nd,by simp,λa ha b hb e=>?_⟩;have:b=c:=by simpa using hb
  subst this;subst e;exact H ha
 ·rcases Ke.1 hd with hd | hd
  ·have :=h.ok.ok d hd;exact⟨this.1,this.2.1.mono (by omega),this.2.2⟩
  ·have:d=c:=by simpa using hd
   subst this;exact⟨I,by rw [<-Mt];exact hc.okn,hc.ngr,hc.nm⟩
 ·rw [W,h.ok.mem,Ke,Kf];constructor
  ·rintro(h | h | h)
   ·exact .inr (.inr h)
   ·exact .inl h
   ·exact .inr (.inl h)
  ·rintro(h | h | h)
   ·exact .inr (.inl h)
   ·exact .inr (.inr h)
   ·exact .inl h
 ·rw [qa,Ls]at hb;have e:=h.good hb.1;rw [uV,<-e]
  congr 2
  have z:=hb.2;rw [<-e,<-gA h.ok]at z;rw [<-gA h.ok];exact hc.good z
 ·rw [qa,Lm]at hb;cases G:gu i (cR Θ)with
  | true=>
   obtain⟨d,Z,h2⟩:=h.bad G;exact⟨d,by simp [Z],h2⟩
  | false=>
   rw [G]at hb;have z:=hb.resolve_left (by simp);rw [<-h.good G,<-gA h.ok]at z;exact⟨c,by simp,hc.bad z⟩
theorem u7:∀n,n<=90->(ic n).Nodup
 | 0,_=>LB
 | n+1,h=>by
  rw [yu];refine KL.2 ⟨u7 n (by omega),by simp,λa ha b hb e=>?_⟩;have hb:b=gl n:=by simpa using hb
  obtain⟨j,G,z⟩:=iD.1 ha;have :=wO (by omega) (by omega) (z.symm.trans (e.trans hb));omega
structure AO (on:Bool)(σ:Nat->Nat)(u:U)(Lo:List Tx)(ls A best:Tx):Prop where
 mem:∃o∈Lo,vS on σ u o ls A best
 le:∀o∈Lo,∃r,vS on σ u o ls A r/\jD best r=true
theorem vS.ne {on:Bool}{σ:Nat->Nat}{u:U}{o ls A r:Tx}(h:vS on σ u o ls A r)(z:(ak u).2≠[]):r≠[]:=by
 obtain⟨rs,rfl,ha⟩:=h;have G:=aO rs;refine yT (λs H=>?_) λe=>z (KD ?_)
 ·obtain⟨t,_,I⟩:=ha.get' (G.subset H);exact I.ne
 ·rw [e]at G;rw [<-ha.1,G.symm.eq_nil];rfl
theorem vS.text {k:Nat}{σ:Nat->Nat}{u:U}{Θ o ls A r:Tx}{π:List Nat}(h:vS false σ u o ls A r)(hu:Uq u)(V:xa k Θ σ u)(W:EU k (ak u).1.length Θ ls A)(H:π.Perm (ak u).1)
  (ho:o.map UInt8.toNat=π.map (asgN (ak u).1 0 σ)) (I:o.Perm (ic (ak u).1.length)) (hm:(ak u).1.length<=64) (J:∀t∈(ak u).2,aw (tl [t])<=5) (Z:∀t∈(ak u).2,thBad (tl [t]) (cR A)=false) {ρ:Rh} (hc:Compat ρ σ u):
  r=joinS 38 (a7 ((ak u).2.map λt=>thU t (asg π ls ρ) (cR A))):=by
 obtain⟨rs,rfl,ha⟩:=h
 congr 2
 have β:∀y∈(ak u).1,∀z∈(ak u).1,asgN (ak u).1 0 σ z=asgN (ak u).1 0 σ y->z=y:=by
  intro y hy z hz e;obtain⟨i,hi,rfl⟩:=KY.1 hy;obtain⟨j,hj,rfl⟩:=KY.1 hz;rw [ki _ _ _ _ hi (gE u hu),ki _ _ _ _ hj (gE u hu),KF,KF]at e;have :=wO (by omega) (by omega) (Ky.1 e);subst this;rfl
 have γ:o.Nodup:=I.nodup_iff.2 (u7 _ (by omega));have :=aM.map_eq (f:=λr:Tx=>r) (g:=λt=>thU t (asg π ls ρ) (cR A)) (ha.mono λr t _ ht hw=>hw.eq (J t ht) rfl (Z t ht) (asg π ls ρ) λy hy=>?_)
 ·simpa using this
 ·show(asg π ls ρ y).toNat=rnv o ls (asgN (ak u).1 0 σ y);by_cases G:y∈(ak u).1
  ·refine(Ag π o ls _ ρ y ho (by rw [H.length_eq,W.len]) (λl hl δ=>?_) (H.symm.subset G) (λz hz e=>β y G z (H.subset hz) e) γ).symm;obtain⟨j,h1,rfl⟩:=iD.1 (I.subset δ);exact eA (W.ok _ hl).2.2.1 (wq (by omega))
  ·have α:=(kZ u hu t ht y hy).resolve_right G;rw [bV π ls ρ y λh=>G (H.subset h),jh _ _ _ _ G,vC,hc y α];intro o' ε e;obtain⟨c,h1,h2⟩:=V.cov y α;obtain⟨j,h3,rfl⟩:=iD.1 (I.subset ε);have:c=gl j:=Ky.1 (h2.trans e);exact eA (V.okn c h1).2 (this▸wq (by omega))
theorem rE {u:U}(hu:Uq u):bj u<=5->(ak u).1.length<=5/\∀t∈(ak u).2,aw (tl [t])<=5:=by
 intro h;obtain⟨z,h2,_⟩:=fX u hu;unfold bj at h;rw [z,h2.length_eq]at h;exact⟨by omega,(rF _ _).1 (by omega)⟩
theorem xE {u:U}(hu:Uq u):decide (5< bj u)=(decide (5< (ak u).1.length)||(ak u).2.any λt=>decide (5< aw (tl [t]))):=by
 rw [K6,Lm,J4,J4,Ma];constructor
 ·intro h;rcases LF 5 (ak u).1.length with z | z
  ·exact .inl z
  ·right;refine K1 λI=>?_
   have h2:∀t∈(ak u).2,aw (tl [t])<=5:=λt V=>by
    rcases LF 5 (aw (tl [t]))with G | G
    ·exact absurd ⟨t,V,Lc G⟩ I
    ·exact G
   obtain⟨J,H,_⟩:=fX u hu;unfold bj at h;rw [J,H.length_eq]at h;have :=(rF (ak u).2 5).2 h2;omega
 ·intro h;refine K1 λI=>?_
  obtain⟨J,H⟩:=rE hu (by omega);rcases h with h | ⟨t,z,h2⟩
  ·omega
  ·have :=H t z;have :=Kv h2;omega
theorem WR.Gb {on:Bool}{k:Nat}{σ:Nat->Nat}{u:U}{Θ ls A best:Tx}{Lo:List Tx}(hu:Uq u)(I:(ak u).2≠[])(α:xa k Θ σ u)(hl:G5 k (ak u).1.length Θ ls A)(hm:(ak u).1.length<=64)
  (β:∀o∈Lo,o.Perm (ic (ak u).1.length)) (γ:on=false->∀o,o.Perm (ic (ak u).1.length)->o∈Lo) (h:AO on σ u Lo ls A best):WR on u σ Θ (wrap ls best):=by
 obtain⟨o0,δ,hN⟩:=h.mem;have ε:=hN.ne I;obtain⟨rs,z,ha⟩:=hN;have G:=hl.ok;have hp:=aO rs;have η:rs≠[]:=λe=>I (KD (by rw [<-ha.1,e];rfl))
 have θ:a7 rs≠[]:=λe=>η (by rw [e]at hp;exact hp.symm.eq_nil)
 have ι:∀c∈ls,¬c=35:=λc hc=>ky (G.ok c hc).2.2.2
 obtain⟨g1,g2,_⟩:=fX u hu;have J:(td u).2.isNil=false:=by
  rw [dH];cases hd:u.dead with
  | false=>rfl
  | true=>rw [dj u hu hd]at I;exact absurd rfl I
 refine⟨λe=>?_,?_,λhM=>?_,λhM W hb=>?_,λhM W hb ρ hc=>?_⟩
 ·have :=fN ls best;rw [e]at this;have h2:best.length≠0:=λe=>ε (KD e)
  simp at this;omega
 ·have H:=nC 38 _ θ;have h2:=mi hp;have h3:=ha.Dp;have h4:=fI u;rw [fN,G.len,z];omega
 ·obtain⟨m1,m2⟩:=rE hu hM;rw [sB _ ι,G.len,z,lU (by decide),jt (hp.map _)];unfold cO;rw [g1,g2.length_eq,Ab]
  congr 2
  exact aM.map_eq (ha.mono λr t _ ht hw=>hw.cnt (m2 t ht))
 ·obtain⟨m1,m2⟩:=rE hu hM;unfold dt fQ at hb;rw [J,g2.length_eq]at hb;simp only [Bool.not_false,LU,Lm]at hb;cases Z:gu (ak u).1.length (cR Θ)with
  | true=>
   obtain⟨c,H,h2⟩:=hl.bad Z;exact⟨c,pz (.inl H),h2⟩
  | false=>
   rw [Z]at hb;have hb:=hb.resolve_left (by simp);rw [<-hl.good Z,<-gA G,g1,tK,Ma]at hb;obtain⟨t,H,h2⟩:=hb;obtain⟨r,h3,h4⟩:=ha.get H;obtain⟨c,h5,h6⟩:=h4.bad (m2 t H) W h2;refine⟨c,pz (.inr ?_),h6⟩;rw [z];exact qA (hp.symm.subset h3) h5
 ·obtain⟨m1,m2⟩:=rE hu hM;subst W;unfold dt fQ at hb;rw [J,g2.length_eq]at hb;simp only [Bool.not_false,LU,Ls]at hb;have e:=hl.good hb.1;have V:=hb.2;rw [<-e,<-gA G,g1,tK,List.any_eq_false]at V;have V:∀t∈(ak u).2,thBad (tl [t]) (cR A)=false:=λt ht=>by simpa using V t ht
  rw [we hu];unfold aR;rw [Ko (by simpa using I)];show _=wrap (lets _ (cR Θ)) (bP (List.map (λπ=>joinS 38 (a7 ((ak u).2.map λt=>thU t (asg π (lets _ (cR Θ)) ρ) (addK (lets _ (cR Θ)) (cR Θ))))) _));rw [<-e,<-gA G]
  congr 1
  symm
  have ζ:∀o:Tx,o.Perm (ic (ak u).1.length)->∃π:List Nat,π.Perm (ak u).1/\o.map UInt8.toNat=π.map (asgN (ak u).1 0 σ):=λo ho=>by
   refine kh ((ho.map UInt8.toNat).trans ?_);have:(ic (ak u).1.length).map UInt8.toNat=(ak u).1.map (asgN (ak u).1 0 σ):=by
    refine MM (by simp [iB]) λi H h2=>?_
    simp only [Nf];have hi:i< (ak u).1.length:=by simpa using h2
    rw [ki _ _ _ _ hi (gE u hu),KF];simp [ic]
   rw [this]
  refine gC ?_ λs hs=>?_
  ·obtain⟨π,H,h2⟩:=ζ o0 (β _ δ);refine KQ.2 ⟨π,(cZ _ _).2 H,?_⟩;exact(vS.text ⟨rs,z,ha⟩ hu α G H h2 (β _ δ) hm m2 V hc).symm
  ·obtain⟨π,H,rfl⟩:=KQ.1 hs;have H:=(cZ _ _).1 H;have h3:(π.map (asgN (ak u).1 0 σ)).Perm ((ic (ak u).1.length).map UInt8.toNat):=by
    have:(ic (ak u).1.length).map UInt8.toNat=(ak u).1.map (asgN (ak u).1 0 σ):=by
     refine MM (by simp [iB]) λi H h2=>?_
     simp only [Nf];have hi:i< (ak u).1.length:=by simpa using h2
     rw [ki _ _ _ _ hi (gE u hu),KF];simp [ic]
    rw [this];exact H.map _
   obtain⟨o,h4,h5⟩:=kh h3;obtain⟨r,h6,h7⟩:=h.le o (γ rfl o h4);rw [<-h6.text hu α G H h5.symm h4 hm m2 V hc];exact h7
theorem WR.Gf {on:Bool}{u:U}{σ:Nat->Nat}{Θ:Tx}(hu:Uq u)(hd:u.dead=true):WR on u σ Θ [48]:=by
 obtain⟨z,h2,G,h4⟩:=pa hu hd;exact⟨by simp,yw u,λ _=>by rw [G];rfl,λ _ _ hb=>(by rw [h2]at hb;cases hb),λ _ _ _ ρ _=>by rw [z]⟩
theorem WR.Ck {on:Bool}{u:U}{σ:Nat->Nat}{Θ:Tx}(h:5< bj u):WR on u σ Θ [48]:=
 ⟨by simp,yw u,λhm=>by omega,λhm=>by omega,λhm=>by omega⟩
theorem Ex.aQ {w w':World}(h:w.grownBy w' none):Ex w w':=⟨h.os,h.tape,h.output,h.size,λg z=>h.block g z (by simp)⟩
theorem F6:∀(u:U),∀t∈(ak u).2,t.ow+(ak u).1.length<=u.ow/\t.rd<=u.rd:=by
 intro u
 induction u with
 | nil=>intro t h;simp [ak]at h
 | snd=>intro t h;simp [ak]at h;subst h;simp [ak]
 | rcv=>intro t h;simp [ak]at h;subst h;simp [ak]
 | tau=>intro t h;simp [ak]at h;subst h;simp [ak]
 | sum p q z G=>
  intro t h;simp only [ak]at h|-;split at h
  ·rename_i e;rw [KG e];have :=G t h;simp only [T.ow,T.rd];omega
  ·rename_i e;rw [Ko e];split at h
   ·rename_i H;rw [KG H];have :=z t h;simp only [T.ow,T.rd];omega
   ·rename_i H;rw [Ko H];simp at h;subst h;simp
 | par p q z G=>
  intro t h;simp only [ak,Ke]at h;simp only [ak,T.ow,T.rd,J'];have I:=iJ p;have J:=iJ q;rcases h with h | h
  ·have :=z t h;omega
  ·have :=G t h;omega
 | res x p z=>
  intro t h;have :=z t h;simp only [ak,T.ow,T.rd];split
  ·simp only [J0];omega
  ·omega
 | mat a b p z=>
  intro t h;simp only [ak]at h|-;split at h
  ·rename_i e;rw [KG e];exact z t h
  ·rename_i e;rw [Ko e];split at h
   ·simp at h
   ·rename_i H;rw [Ko H];simp at h;subst h;simp
 | rep p z=>
  intro t h;simp only [ak]at h|-;split at h
  ·simp at h
  ·rename_i H;rw [Ko H];simp at h;subst h;simp
theorem G4 {p:P}{u:U}{ρ:UInt8->Nat}{σ:Nat->Nat}(h:AE ρ p σ u):u.rd=p.rd:=by
 induction p generalizing u ρ σ<;>cases u<;>simp only [AE]at h<;>simp only [T.rd]
 case snd.snd z _ _ _=>exact z h.2.2
 case mat.mat z _ _ _=>exact z h.2.2
 case rcv.rcv z _ _ _=>rw [z (h.2 0)]
 case res.res z _ _=>exact z (h 0)
 case tau.tau z _=>exact z h
 case rep.rep z _=>exact z h
 case sum.sum z G _ _=>rw [z h.1,G h.2]
 case par.par z G _ _=>rw [z h.1,G h.2]
theorem vW {l:Tx}{i:Nat}(h:i< l.length):List.drop (Int.toNat (i:Int)) (List.take (Int.toNat ((i:Int)+1)) l)=[bt l i]:=by
 have e:Int.toNat ((i:Int)+1)=i+1:=by omega
 rw [e,J9,iA h];exact List.drop_left' (by rw [KP];omega)
theorem Au {l:Tx}{i:Nat}(h:i< l.length):List.drop i (List.take (Int.toNat ((i:Int)+1)) l)=[bt l i]:=by
 have :=vW h
 rwa [J9]at this
theorem qc {l:Tx}{i:Nat}(h:i< l.length)(s:Tx):wrap (l.drop i) s=35::bt l i::46::wrap (l.drop (i+1)) s:=by
 rw [rN h];rfl
theorem A8:∀n,En n:=by
 intro n
 induction n with
 | zero=>intro k p σ u Θ w bm br on R h;have :=a8 p;omega
 | succ n ih=>
  have iht:wR (n+1):=Dr ih;intro k p σ u Θ w bm br on R hn d hgf υ hmk h;refine kU _ _ _ w R ?_;intro b4 w5 α ν;have φ:Ex w w5:=ν▸Ex.alloc w _;have hsz5:w5.heap.size=b4+1:=by rw [ν,size_alloc,<-α]
  have hbm:bm< b4:=by rw [α];exact hmk.lt
  have hle:=d.bd.le;have hGL:GL b4 w5 b4 (ic 0) (.slice none 0 0) []:=by
   refine⟨by omega,Kb _,?_,?_,Own.nil _ _,(λe=>by cases e),?_,?_⟩
   ·rw [ν,α];exact aa rfl
   ·rw [ν,α];exact aa rfl
   ·rw [ν,α];unfold World.frozen? World.alloc;simp
   ·rw [ν,α];unfold World.frozen? World.alloc;simp
  have hl:=d.len;have hszt:=bD p;refine Ed _ hn d hgf (by omega) hGL (by simp only [Kh];omega) λw6 v6 ps χ hv6 β hps=>?_
  rw [KZ,KF]at β;have hx6:Ex w w6:=⟨χ.os.trans φ.os,χ.tape.trans φ.tape,χ.output.trans φ.output,K5 φ.size χ.size,λg hg=>by
   rw [χ.block g (by rw [hsz5];omega) (λhS=>by
    rcases hS with H | H
    ·omega
    ·cases H)]
   exact φ.block g hg⟩
  have hpl:=hps.1;have hmlen:=iJ u;rw [AF d.ae]at hmlen;have hm64:(ak u).1.length<=64:=by omega
  have hgs:=fF u;have hus:=d.ae.size;obtain⟨av,cap,hv⟩:=β.own.strs.slice;rw [Kz]at hv;refine⟨v6,β.c1,av,_,cap,hv,λused x w'=>Ex w6 w'/\∃i:Nat,x=i/\i<=ps.length/\ib used/\∀c,c∈used↔∃q∈ps.take i,q.Us c,λ _ x _=>(ps.length - x).toNat,⟨Ex.refl w6,0,rfl,by omega,List.Pairwise.nil,by simp⟩,λused x w7 hI=>?_⟩;obtain⟨hx7,i,rfl,hi,hsu,hmu⟩:=hI;have W:∀i (hi:i< ps.length),∃m τ,k<=m/\Den m ps[i] τ ((ak u).2[i]'(by omega))/\(∀y,((ak u).2[i]'(by omega)).Us y->τ y=asgN (ak u).1 0 σ y)/\GF (0+(ak u).1.length) ps[i]:=λi hi=>
   hps.2 i _ _ (J2 hi) (J2 (by omega))
  refine⟨λhc=>?_,λhc=>?_⟩
  ·have hc:=Kv hc;have hip:i< ps.length:=by omega
   refine β.own.strs.get hx7 (i:=i) (x:=(ps[i]).text) (by omega) (by simp [hip]) ?_;obtain⟨_,_,_,dp,_⟩:=W i hip;refine pw _ (Kb _) dp.ok λs w8 ψ hss hms=>?_
   refine fy hsu (by have :=hss.bound;omega) λs' w9 ξ hs9 hm9=>?_
   refine⟨by unfold aj;omega,⟨(hx7.trans ψ).trans ξ,i+1,by omega,by omega,hs9,λc=>?_⟩,by dsimp only;omega⟩;rw [hm9,hmu,hms,List.take_succ_eq_append_getElem hip];simp only [Ke,Kf];constructor
   ·rintro(⟨q,H,h2⟩ | H)
    ·exact⟨q,.inl H,h2⟩
    ·exact⟨_,.inr rfl,H⟩
   ·rintro⟨q,H | rfl,h2⟩
    ·exact .inl ⟨q,H,h2⟩
    ·exact .inr h2
  have hc:=Kw hc;have e:i=ps.length:=by omega
  subst e;rw [KA]at hmu;have hGL7:=β.ex hx7;have ω:∀i,i< (ak u).1.length->gl i∈used:=λi hi=>by
   obtain⟨t,ht,hty⟩:=ym u d.uq _ (Kg hi);obtain⟨j,hj,e⟩:=KY.1 ht;have hjp:j< ps.length:=by omega
   obtain⟨m,τ,_,dp,hτ,_⟩:=W j hjp;subst e;obtain⟨c,H,h2⟩:=dp.ae.symm.used dp.inj (eX _) _ hty;rw [hτ _ hty,ki _ _ _ _ hi (gE u d.uq),KF]at h2;have:c=gl i:=Ky.1 h2;exact(hmu _).2 ⟨_,Kg hjp,this▸H⟩
  have hglen:=iB (ak u).1.length;refine⟨λfront i w'=>Ex w7 w'/\∃j:Nat,i=j/\j<=(ak u).1.length/\front=(ic (ak u).1.length).take j,λ _ i _=>((ak u).1.length - i).toNat,⟨Ex.refl w7,0,rfl,by omega,rfl⟩,λfront i w8 hI=>?_⟩;obtain⟨ψ,j,rfl,hj,rfl⟩:=hI;have γ:=hGL7.ex ψ;refine⟨ic (ak u).1.length,γ.c0,λhc2=>?_,λhc2=>?_⟩
  ·have hc2:=Kv hc2;have hj':j< (ak u).1.length:=by omega
   have hbt:bt (ic (ak u).1.length) j=gl j:=by simp [bt,ic,hj']
   refine⟨λfront w'=>Ex w7 w'/\front=(ic (ak u).1.length).take (j+1),⟨ic (ak u).1.length,γ.c0,⟨by omega,by omega⟩,?_⟩,λfront w9 hJ=>?_⟩
   ·rw [J9,hbt];refine eH (by have :=hsu.bound;omega) ⟨λ _=>⟨ic (ak u).1.length,γ.c0,by unfold aj;omega,⟨by omega,by omega,by omega⟩,?_,ψ,?_⟩,λhq=>absurd (ω j hj') (Kw hq)⟩
    ·rw [Au (by omega)];simp only [KP,J0,Kh];omega
    ·rw [Au (by omega),iA (by omega)]
   ·obtain⟨ξ,rfl⟩:=hJ;exact⟨by unfold aj;omega,⟨ξ,j+1,by omega,by omega,rfl⟩,by dsimp only;omega⟩
  have hc2:=Kw hc2;have e:j=(ak u).1.length:=by omega
  subst e;rw [show(ic (ak u).1.length).take (ak u).1.length=ic (ak u).1.length from MS (by omega)];have κ:Ex w w8:=(hx6.trans hx7).trans ψ;have I:=hmk.ex κ;refine⟨v6,γ.c1,av,_,cap,hv,λο=>?_,λο=>?_⟩
  ·have ο:=Kv ο;have hd:=FB d.uq (KD (by omega));have hm0:=(pa d.uq hd).2.2.2;refine h _ w8 (Kp.ah κ _) ?_ (WR.Gf d.uq hd);rw [hm0];simpa using I
  have ο:=Kw ο;have hne:(ak u).2≠[]:=λe=>ο (by rw [e]at hpl;simp only [Kh]at hpl;omega)
  refine⟨λhc4=>?_,λhc4=>?_⟩
  ·have hc4:=Kv hc4;have hlm:5< bj u:=by
    have :=xE d.uq;have h5:decide (5< (ak u).1.length)=true:=Lc (by omega);rw [h5,Bool.true_or]at this;exact Kv this
   refine⟨bm,0,rfl,⟨⟨_,I.c0⟩,I.f0⟩,λw9 hw9=>?_⟩;subst hw9;refine h _ _ (Kp.set (S:=λg=>g=bm) (Kp.ah κ _) rfl _) ?_ (WR.Ck hlm);have e5:decide (5< bj u)=true:=Lc hlm;rw [e5,Bool.or_true];exact⟨by rw [KM];exact I.lt,Kj _ _ _ I.c0,by rw [J7 _ _ _ _ (by simp)];exact I.c1,by rw [Kt];exact I.f0⟩
  have hc4:=Kw hc4;have hm5:(ak u).1.length<=5:=by omega
  intro b9 cap9 w9 hb9 _ hg9;have ξ:Ex w8 w9:=Ex.aQ hg9;have hx69:Ex w w9:=κ.trans ξ;refine⟨_,_,cap9,rfl,λz all x w'=>Ex w9 w'/\∃i:Nat,x=i/\i<=(ak u).1.length/\G5 k i Θ z all,λ _ _ x _=>((ak u).1.length - x).toNat,⟨Ex.refl w9,0,rfl,by omega,G5.zero υ.srt⟩,λz all x w10 hI=>?_⟩;obtain⟨hx10,i,rfl,hi,G⟩:=hI;refine⟨λhc5=>?_,λhc5=>?_⟩
  ·have hc5:=Kv hc5;have hi':i< (ak u).1.length:=by omega
   have ω:∀c∈all,okn (k+i) c/\ngr c:=λc hc=>by
    rcases(G.ok.mem c).1 hc with H | H
    ·exact⟨(υ.okn c H).1.mono (by omega),(υ.okn c H).2⟩
    ·exact⟨(G.ok.ok c H).2.1,(G.ok.ok c H).2.2.1⟩
   refine jr (by have :=G.ok.srt.bound;omega) λc hc=>?_
   have hfr:xY (k+i) all c:=xY.of (by omega) ω hc;intro b11 ς hb11 hw11;have δ:Ex w10 ς:=hw11▸Ex.alloc w10 _;refine⟨b11,0,1,1,[c],rfl,rfl,lx _ hb11 hw11,by rw [G.ok.len];simp;omega,?_⟩;refine fu G.ok.srt λs' η hx12 hs12 hm12=>?_
   exact⟨by unfold aj;omega,⟨(hx10.trans δ).trans hx12,i+1,by omega,by omega,G.snoc hfr hs12 hm12⟩,by dsimp only;omega⟩
  have hc5:=Kw hc5;have e:i=(ak u).1.length:=by omega
  subst e;have hx610:Ex w w10:=hx69.trans hx10;have hls:=G.ok;refine z8 5 (by omega) (Kb _) λv11 ς L δ ε hL hmL=>?_
  have hx611:Ex w ς:=hx610.trans δ;have θ:=hmk.ex hx611;have hLne:L≠[]:=λe=>by
   have :=(hmL (ic (ak u).1.length)).2 (K9 _);rw [e]at this;cases this
  have hLlen:L.length<=7776:=by
   have:(6:Nat)^(ic (ak u).1.length).length<=6^5:=Nat.pow_le_pow_right (by omega) (by omega);omega
  have hLpos:0< L.length:=MJ.2 hLne;refine⟨λv w'=>w'=ς/\∃Lo:List Tx,Strs ς v Lo/\(∀b off n c,v= .slice (some ⟨b,off,none⟩) n c->w10.heap.size<=b)/\Lo≠[]/\Lo.length<=7776/\(∀o∈Lo,o.Perm (ic (ak u).1.length))/\(on=false->∀o,o.Perm (ic (ak u).1.length)->o∈Lo),⟨bm,0,rfl,on,θ.c1,λhon=>?_,λhon=>?_⟩,λorders η hJ=>?_⟩
  ·obtain⟨g,V,cur,hvL,hbL,_⟩:∃g cap cur,v11= .slice (some ⟨g,0,none⟩) L.length cap/\w10.heap.size<=g/\ς.heap[g]?=some cur:=by
    rcases ε.2 with⟨_,hn⟩ | ⟨g,cap,cur,e,hb,hg,_⟩
    ·omega
    ·exact⟨g,cap,_,e,hb,hg⟩
   have hcap:L.length<=V:=by
    rcases ε.2 with⟨_,hn⟩ | ⟨g',cap',cur',e,hb,hg,H,h2,h3,h4⟩
    ·omega
    ·rw [hvL]at e;cases e;exact H
   refine⟨_,_,V,hvL,by omega,by omega,by omega,rfl,L.take 1,?_,λb off n c e=>?_,?_,?_,λo J=>(hmL o).1 (List.mem_of_mem_take J),λhf=>by rw [hon]at hf;cases hf⟩
   ·have hs:=ε.strs;rw [hvL]at hs;exact hs.take (k:=1) (by omega) (by omega)
   ·have ecap:¬V=Int.toNat 0:=by show ¬V=0;omega
    rw [Ko ecap]at e;simp [Addr.add]at e;omega
   ·match L,hLne with
    | a::l,_=>simp
   ·rw [KP];omega
  ·refine⟨rfl,L,ε.strs,λb off n c e=>(ε.block b (by rw [e];rfl)).1,hLne,hLlen,λo J=>(hmL o).1 J,λ _ o J=>(hmL o).2 J⟩
  obtain⟨rfl,Lo,hsL,hbL,hLo,hLol,hLop,hLoa⟩:=hJ;have hLopos:0< Lo.length:=MJ.2 hLo;obtain⟨aL,V,hvL⟩:=hsL.slice;have Z:GL b4 η b4 (ic (ak u).1.length) v6 (ps.map T.text):=((γ.ex ξ).ex hx10).ex δ;have hb12:=Z.lt;have hbp:∀p∈ps,k+(ak u).1.length+p.rd+p.ow<=64:=λq hq=>by
   obtain⟨i,hi,rfl⟩:=KY.1 hq;obtain⟨_,_,_,dp,_⟩:=W i hi;have :=F6 u _ (Kg (show i< (ak u).2.length by omega));rw [AF dp.ae,G4 dp.ae,AF d.ae,G4 d.ae]at this;omega
  have hszp:∀p∈ps,p.size<=n+1:=λq hq=>by
   obtain⟨i,hi,rfl⟩:=KY.1 hq;obtain⟨_,_,_,dp,_⟩:=W i hi;have :=zR u _ (Kg (show i< (ak u).2.length by omega));rw [dp.ae.size];omega
  have htl:=fI u;rw [pb d.ae,<-T.aY]at htl;generalize hbr:(br||(ak u).2.any λt=>decide (5< aw (tl [t])))=br' at*;refine⟨aL,_,V,hvL,λbest x w'=>∃i:Nat,x=i/\i<=Lo.length/\Kp η w' (λg=>g=bm)/\MK w' bm (if i=0 then br else br') on/\(i=0->best=[])/\(0< i->AO on σ u (Lo.take i) z all best),λ _ x _=>(Lo.length - x).toNat,⟨0,rfl,by omega,Kp.ah (Ex.refl η) _,by simpa using θ,λ _=>rfl,λh=>by omega⟩,λbest x w13 hI=>?_⟩;obtain⟨i,rfl,hi,ζ,hm13,hb0,hb1⟩:=hI;refine⟨λhc6=>?_,λhc6=>?_⟩
  ·have hc6:=Kv hc6;have hi':i< Lo.length:=by omega
   refine⟨λbest w'=>Kp η w' (λg=>g=bm)/\MK w' bm br' on/\AO on σ u (Lo.take (i+1)) z all best,?_,λbest' w14 hJ=>?_⟩
   ·have hsL13:Strs w13 orders Lo:=hsL.kp ζ λb off n c e hS=>by have :=hbL b off n c e;have :=θ.lt;have :=δ.size;have :=(hmk.ex hx610).lt;omega
    refine hsL13.get (Ex.refl w13) (i:=i) (x:=Lo[i]) (by omega) (by simp [hi']) ?_;have α:w13.heap[b4]?=η.heap[b4]?:=ζ.block b4 hb12 (by omega);refine⟨v6,by rw [J1 (w:=η) α];exact Z.c1,?_⟩;have hvt:Own b4 w13 v6 (ps.map T.text):=Z.own.kp ζ λg hg e=>by have :=(Z.own.block g hg).1;omega
    refine FJ iht d.uq hne hbp hszp υ hps hls (hLop _ (Kg hi')) hm64 hvt hbm hm13 (by omega) λr w14 hk14 μ hr=>?_
    have ι:MK w14 bm br' on:=by
     rw [<-hbr];by_cases h0:i=0
     ·rw [KG h0]at μ;exact μ
     ·rw [Ko h0,<-hbr,LC,Bool.or_self]at μ;exact μ
    have hk':=Kp.trans ζ hk14 λ _ _ h=>h
    have hrne:=hr.ne hne;have tk:Lo.take (i+1)=Lo.take i++[Lo[i]]:=J8 hi';have new:(∀o∈Lo.take i,∃r',vS on σ u o z all r'/\jD r r'=true)->AO on σ u (Lo.take (i+1)) z all r:=λhh=>by
     rw [tk];refine⟨⟨Lo[i],KB _ (Kf.2 rfl),hr⟩,λo J=>?_⟩;rcases Ke.1 J with J | J
     ·exact hh o J
     ·have:o=Lo[i]:=by simpa using J
      subst this;exact⟨r,hr,by simp [jD]⟩
    refine⟨λhq=>⟨λG=>⟨hk',ι,?_⟩,λG=>⟨hk',ι,?_⟩⟩,λhq=>⟨hk',ι,?_⟩⟩
    ·have hi0:0< i:=by
      rcases Mw i with h0 | h0
      ·exact absurd (hb0 h0) (Kw hq)
      ·exact h0
     rw [NB,J4]at G;refine new λo J=>?_
     obtain⟨r',H,h2⟩:=(hb1 hi0).le o J;exact⟨r',H,gB _ _ _ (by simp only [jD,J4];exact List.le_of_lt G) h2⟩
    ·have hi0:0< i:=by
      rcases Mw i with h0 | h0
      ·exact absurd (hb0 h0) (Kw hq)
      ·exact h0
     rw [NB,J6]at G;have hble:jD best r=true:=by simp only [jD,J4];exact List.not_lt.1 G
     obtain⟨⟨o,H,h2⟩,h3⟩:=hb1 hi0;rw [tk];refine⟨⟨o,KH _ H,h2⟩,λo' J=>?_⟩;rcases Ke.1 J with J | J
     ·exact h3 o' J
     ·have:o'=Lo[i]:=by simpa using J
      subst this;exact⟨r,hr,hble⟩
    ·have hq:=Kv hq;have hi0:i=0:=by
      rcases Mw i with h0 | h0
      ·exact h0
      ·obtain⟨⟨o,H,h2⟩,_⟩:=hb1 h0;exact absurd hq (h2.ne hne)
     exact new λo J=>by rw [hi0]at J;simp at J
   ·obtain⟨j1,j2,j3⟩:=hJ;exact⟨by unfold aj;omega,⟨i+1,by omega,by omega,j1,by simpa using j2,(λh=>by omega),λ _=>j3⟩,by dsimp only;omega⟩
  have hc6:=Kw hc6;have e:i=Lo.length:=by omega
  subst e;have hbest:=hb1 hLopos;rw [KA]at hbest;rw [Ko (by omega)]at hm13;have hW:=WR.Gb d.uq hne υ G hm64 hLop hLoa hbest;have hWl:=hW.len;rw [fN,hls.len,pb d.ae,<-T.aY]at hWl;have hll:=hls.len;refine⟨by unfold aj;omega,λb i w'=>w'=w13/\∃j:Nat,i=(j:Int) - 1/\j<=(ak u).1.length/\b=wrap (z.drop j) best,λ _ i _=>(i+1).toNat,⟨rfl,(ak u).1.length,by omega,by omega,?_⟩,λb i w14 hI=>?_⟩
  ·rw [LI (by omega)];rfl
  obtain⟨rfl,j,rfl,hj,rfl⟩:=hI;refine⟨λhc7=>?_,λhc7=>?_⟩
  ·have hc7:=Kv hc7;obtain⟨j,rfl⟩:∃j',j=j'+1:=⟨j - 1,by omega⟩
   have ej:((j+1:Nat):Int) - 1=(j:Int):=by omega
   rw [ej];have hjl:j< z.length:=by omega
   have hdl:(z.drop (j+1)).length<=64:=by rw [LH];omega
   rw [vW hjl];refine⟨by unfold aj;omega,⟨by omega,by omega,by omega⟩,by simp,by simp,?_,by unfold aj;omega,⟨rfl,j,rfl,by omega,?_⟩,by dsimp only;omega⟩
   ·rw [fN];simp only [J',J0,Kh];omega
   ·rw [qc hjl];rfl
  ·have hc7:=Kw hc7;have e:j=0:=by omega
   subst e;rw [LP];refine h _ w14 ?_ ?_ hW
   ·exact Kp.trans (Kp.ah hx611 _) ζ λ _ _ h=>h
   ·rw [xE d.uq];have h5:decide (5< (ak u).1.length)=false:=Lj (by omega);rw [h5,MH,hbr];exact hm13
end Go.Proofs.YtdecokaadekjnaaGreat
namespace Go.Proofs.YtdecokaadekjnaaGreat
open Classical
def num:P->(UInt8->Nat)->Nat->U×Nat
 | .nil,_,n=>(.nil,n)
 | .snd a b p,e,n=>(.snd (e a) (e b) (num p e n).1,(num p e n).2)
 | .rcv a x p,e,n=>(.rcv (e a) (n+101) (num p (aF e x (n+101)) (n+1)).1,(num p (aF e x (n+101)) (n+1)).2)
 | .tau p,e,n=>(.tau (num p e n).1,(num p e n).2)
 | .sum p q,e,n=>(.sum (num p e n).1 (num q e (num p e n).2).1,(num q e (num p e n).2).2)
 | .par p q,e,n=>(.par (num p e n).1 (num q e (num p e n).2).1,(num q e (num p e n).2).2)
 | .res x p,e,n=>(.res (n+101) (num p (aF e x (n+101)) (n+1)).1,(num p (aF e x (n+101)) (n+1)).2)
 | .mat a b p,e,n=>(.mat (e a) (e b) (num p e n).1,(num p e n).2)
 | .rep p,e,n=>(.rep (num p e n).1,(num p e n).2)
theorem de:∀(p:P) (e:UInt8->Nat) (n:Nat),n<=(num p e n).2
 | .nil,_,_=>Kb _
 | .snd _ _ p,e,n=>de p e n
 | .mat _ _ p,e,n=>de p e n
 | .tau p,e,n=>de p e n
 | .rep p,e,n=>de p e n
 | .rcv _ x p,e,n=>by have :=de p (aF e x (n+101)) (n+1);simp only [num];omega
 | .res x p,e,n=>by have :=de p (aF e x (n+101)) (n+1);simp only [num];omega
 | .sum p q,e,n=>by have :=de p e n;have :=de q e (num p e n).2;simp only [num];omega
 | .par p q,e,n=>by have :=de p e n;have :=de q e (num p e n).2;simp only [num];omega
theorem AE.G7 {p:P}{u:U}{e:UInt8->Nat}{x:UInt8}{y:Nat}(he:∀c,p.Fr c->c≠x->e c≠y)(h:AE (aF e x y) p id u)(v:Nat):AE (aF e x v) p (aF id y v) u:=by
 refine(h.map λn=>if n=y then v else n).congr (λc hc=>?_) λz _=>?_
 ·unfold aF;by_cases G:c=x
  ·simp [G]
  ·simp only [Ko G];rw [Ko (he c hc G)]
 ·unfold aF;rfl
theorem fR:∀(p:P) (e:UInt8->Nat) (n:Nat),(∀c,p.Fr c->e c<=n+100)->AE e p id (num p e n).1
 | .nil,_,_,_=>trivial
 | .snd a b p,e,n,h=>⟨rfl,rfl,fR p e n λc hc=>h c (.inr (.inr hc))⟩
 | .mat a b p,e,n,h=>⟨rfl,rfl,fR p e n λc hc=>h c (.inr (.inr hc))⟩
 | .tau p,e,n,h=>fR p e n h
 | .rep p,e,n,h=>fR p e n h
 | .sum p q,e,n,h=>⟨fR p e n λc hc=>h c (.inl hc),fR q e _ λc hc=>by have :=h c (.inr hc);have :=de p e n;omega⟩
 | .par p q,e,n,h=>⟨fR p e n λc hc=>h c (.inl hc),fR q e _ λc hc=>by have :=h c (.inr hc);have :=de p e n;omega⟩
 | .rcv a x p,e,n,h=>⟨rfl,λv=>AE.G7 (λc hc z=>by have :=h c (.inr ⟨z,hc⟩);omega) (fR p _ _ λc hc=>by
   unfold aF;split
   ·omega
   ·rename_i z;have :=h c (.inr ⟨z,hc⟩);omega) v⟩
 | .res x p,e,n,h=>λv=>AE.G7 (λc hc z=>by have :=h c ⟨z,hc⟩;omega) (fR p _ _ λc hc=>by
   unfold aF;split
   ·omega
   ·rename_i z;have :=h c ⟨z,hc⟩;omega) v
theorem fe:∀(p:P) (e:UInt8->Nat) (n:Nat),(BV (num p e n).1).Nodup/\∀x∈BV (num p e n).1,n+100< x/\x<=(num p e n).2+100
 | .nil,_,_=>⟨LB,λx h=>by cases h⟩
 | .snd _ _ p,e,n=>fe p e n
 | .mat _ _ p,e,n=>fe p e n
 | .tau p,e,n=>fe p e n
 | .rep p,e,n=>fe p e n
 | .rcv _ x p,e,n=>by
  obtain⟨G,h2⟩:=fe p (aF e x (n+101)) (n+1);have :=de p (aF e x (n+101)) (n+1);refine⟨K7.2 ⟨λh=>by have :=h2 _ h;omega,G⟩,λy z=>?_⟩;simp only [num];rcases Ks.1 z with rfl | z
  ·omega
  ·have :=h2 y z;omega
 | .res x p,e,n=>by
  obtain⟨G,h2⟩:=fe p (aF e x (n+101)) (n+1);have :=de p (aF e x (n+101)) (n+1);refine⟨K7.2 ⟨λh=>by have :=h2 _ h;omega,G⟩,λy z=>?_⟩;simp only [num];rcases Ks.1 z with rfl | z
  ·omega
  ·have :=h2 y z;omega
 | .sum p q,e,n=>by
  obtain⟨G,h2⟩:=fe p e n;obtain⟨H,h4⟩:=fe q e (num p e n).2;have :=de p e n;have :=de q e (num p e n).2;refine⟨KL.2 ⟨G,H,λa ha b hb=>by have :=h2 a ha;have :=h4 b hb;omega⟩,λy z=>?_⟩;simp only [num];rcases Ke.1 z with z | z
  ·have :=h2 y z;omega
  ·have :=h4 y z;omega
 | .par p q,e,n=>by
  obtain⟨G,h2⟩:=fe p e n;obtain⟨H,h4⟩:=fe q e (num p e n).2;have :=de p e n;have :=de q e (num p e n).2;refine⟨KL.2 ⟨G,H,λa ha b hb=>by have :=h2 a ha;have :=h4 b hb;omega⟩,λy z=>?_⟩;simp only [num];rcases Ke.1 z with z | z
  ·have :=h2 y z;omega
  ·have :=h4 y z;omega
theorem He (p:P)(e:UInt8->Nat)(n:Nat)(h:∀c,p.Fr c->e c<=n+100):Uq (num p e n).1:=by
 obtain⟨z,h2⟩:=fe p e n;refine⟨z,λx G H=>?_⟩;obtain⟨c,hc,I⟩:=(fR p e n h).symm.free x H;have J:=h2 x G;have h4:=h c hc;have h5:e c=x:=I;omega
def e0 (c:UInt8):Nat:=c.toNat - 97
def σ0 (y:Nat):Nat:=y+97
def ρ0 (y:Nat):UInt8:=UInt8.ofNat (97+y)
theorem aW {c:UInt8}(h:lt c=true):97<=c.toNat/\c.toNat<=122:=by
 simp only [lt,J3,J4]at h;exact⟨Kl.1 h.1,Kl.1 h.2⟩
theorem iy {c:UInt8}(h:97<=c.toNat/\c.toNat<=122):lt c=true:=by
 simp only [lt,J3,J4];exact⟨Kl.2 h.1,Kl.2 h.2⟩
theorem eO {y:Nat}(h:y< 26):(ρ0 y).toNat=σ0 y:=by
 unfold ρ0 σ0;rw [K2];omega
theorem rO {p:P}(h:∀c,p.Fr c->lt c=true):AE UInt8.toNat p σ0 (num p e0 0).1/\Uq (num p e0 0).1/\(∀y,(num p e0 0).1.Fr y->y< 26)/\∀x∈BV (num p e0 0).1,26<=x:=by
 have he:∀c,p.Fr c->e0 c<=0+100:=λc hc=>by have :=aW (h c hc);unfold e0;omega
 have ha:=fR p e0 0 he;refine⟨(ha.map (·+97)).congr (λc hc=>?_) λy _=>rfl,He p e0 0 he,λy z=>?_,λx G=>?_⟩
 ·have :=aW (h c hc);unfold e0;omega
 ·obtain⟨c,hc,e⟩:=ha.symm.free y z;have :=aW (h c hc);have e:e0 c=y:=e;unfold e0 at e;omega
 ·have :=(fe p e0 0).2 x G;omega
theorem iQ {c:UInt8}(h:lt c=true):nm c=true:=by
 simp only [lt,nm]at*;rw [h];rfl
theorem tv {c:UInt8}(h:lt c=true):ngr c:=by
 have :=aW h;right;omega
def dB (s:Tx):Prop:=s.length<=300/\∃t:P,t.Al (λc=>lt c=true)/\t.text=s/\t.size<=60
def lf (l:Lv):Tk:=λc=>lt c&&l.has (e0 c)
noncomputable def zv (r:List Nat×Lv):Option Tx:=
 if(max r.1.length (aw r.2)<=5/\r.1.length+thAll r.2<=8)/\fQ r.1.length r.2.isNil (thBad r.2) (lf r.2)=false/\dB (aR r.1 (thS r.2) ρ0 (lf r.2))then some (aR r.1 (thS r.2) ρ0 (lf r.2))else none
noncomputable def kC (u:U):Option Tx:=zv (td u)
theorem ij (u:U):kC u=if(bj u<=5/\cO u<=8)/\dt u (lf (td u).2)=false/\dB (LS u ρ0 (lf (td u).2))then some (LS u ρ0 (lf (td u).2))else none:=rfl
structure Nu (u:U):Prop where
 uq:Uq u
 fr:∀y,u.Us y->y< 26
 bv:∀x∈BV u,26<=x
theorem p6 {u:U}(h:Nu u)(c:UInt8):lf (td u).2 c=true↔lt c=true/\u.Us (e0 c):=by
 unfold lf;rw [J3];refine and_congr_right λhc=>fS u _ λhb=>?_
 have :=h.bv _ hb;have :=aW hc;unfold e0 at*;omega
theorem Nu.JS {u:U}(h:Nu u):FP u ρ0 (lf (td u).2):=by
 refine⟨λy G=>?_,λy z G J e=>?_⟩
 ·have H:=h.fr y G;have h2:=eO H;have I:lt (ρ0 y)=true:=iy (by rw [h2];unfold σ0;omega);refine⟨(p6 h _).2 ⟨I,?_⟩,I⟩;have:e0 (ρ0 y)=y:=by unfold e0;rw [h2];unfold σ0;omega
  rw [this];exact G
 ·have H:=eO (h.fr y G);have h2:=eO (h.fr z J);rw [e,h2]at H;unfold σ0 at H;omega
structure Ht (u:U)(s:Tx)(t:P)(v:U):Prop where
 text:t.text=s
 ls:s=LS u ρ0 (lf (td u).2)
 ae:AE UInt8.toNat t (λy=>(ρ0 y).toNat) v
 al:t.Al λc=>lt c=true
 arr:JF u v
 len:s.length<=300
 size:t.size<=60
 most:bj u<=5
 all:cO u<=8
 bad:dt u (lf (td u).2)=false
theorem T.Al.wf:∀{t:P},t.Al (λc=>lt c=true)->t.wf=true
 | .nil,_=>rfl
 | .snd a b p,⟨z,h2,h⟩=>by simp [T.wf,iQ z,iQ h2,T.Al.wf h]
 | .rcv a b p,⟨z,h2,h⟩=>by simp [T.wf,iQ z,iQ h2,T.Al.wf h]
 | .mat a b p,⟨z,h2,h⟩=>by simp [T.wf,iQ z,iQ h2,T.Al.wf h]
 | .tau p,h=>T.Al.wf (t:=p) h
 | .rep p,h=>T.Al.wf (t:=p) h
 | .sum p q,⟨z,h2⟩=>by simp [T.wf,T.Al.wf z,T.Al.wf h2]
 | .par p q,⟨z,h2⟩=>by simp [T.wf,T.Al.wf z,T.Al.wf h2]
 | .res x p,⟨z,h⟩=>by simp [T.wf,iQ z,T.Al.wf h]
theorem T.Al.eb:∀{t:P} (k:Nat),t.Al (λc=>lt c=true)->Eb k t
 | .nil,_,_=>trivial
 | .snd a b p,k,⟨G,h2,h⟩=>⟨nJ G,nJ h2,T.Al.eb k h⟩
 | .mat a b p,k,⟨G,h2,h⟩=>⟨nJ G,nJ h2,T.Al.eb k h⟩
 | .rcv a b p,k,⟨G,h2,h⟩=>⟨nJ G,⟨tv h2,λz H _=>(T.Al.eb k h).free z H⟩,T.Al.eb (k+1) h⟩
 | .tau p,k,h=>T.Al.eb (t:=p) k h
 | .rep p,k,h=>T.Al.eb (t:=p) k h
 | .sum p q,k,⟨G,h2⟩=>⟨T.Al.eb k G,T.Al.eb k h2⟩
 | .par p q,k,⟨G,h2⟩=>⟨T.Al.eb k G,T.Al.eb k h2⟩
 | .res x p,k,⟨G,h⟩=>⟨⟨tv G,λz H _=>(T.Al.eb k h).free z H⟩,T.Al.eb (k+1) h⟩
theorem T.Al.free {D:UInt8->Prop}:∀{t:P},t.Al D->∀z,t.Fr z->D z
 | .snd a b p,⟨H,h2,h⟩,z,G=>by
  rcases G with rfl | rfl | G
  ·exact H
  ·exact h2
  ·exact T.Al.free h z G
 | .mat a b p,⟨H,h2,h⟩,z,G=>by
  rcases G with rfl | rfl | G
  ·exact H
  ·exact h2
  ·exact T.Al.free h z G
 | .rcv a b p,⟨H,h2,h⟩,z,G=>by
  rcases G with rfl | G
  ·exact H
  ·exact T.Al.free h z G.2
 | .res x p,⟨H,h⟩,z,G=>T.Al.free h z G.2
 | .tau p,h,z,G=>T.Al.free (t:=p) h z G
 | .rep p,h,z,G=>T.Al.free (t:=p) h z G
 | .sum p q,⟨H,h2⟩,z,G=>G.elim (T.Al.free H z) (T.Al.free h2 z)
 | .par p q,⟨H,h2⟩,z,G=>G.elim (T.Al.free H z) (T.Al.free h2 z)
theorem DU {u:U}(h:Nu u){s:Tx}(z:kC u=some s):∃t v,Ht u s t v:=by
 rw [ij]at z;split at z
 ·rename_i hc;obtain⟨⟨J,h2⟩,G,h4,V,h5,W,Z⟩:=hc;cases z;obtain⟨t,v,H,k2,I,k4⟩:=arr u.size u ρ0 _ (Kb _) h.uq h.JS G;have:t=V:=fH I.wf h5.wf (H.trans W.symm);subst this;exact⟨t,v,H,rfl,k2,I,k4,h4,Z,J,h2,G⟩
 ·cases z
end Go.Proofs.YtdecokaadekjnaaGreat
namespace Go.Proofs.YtdecokaadekjnaaGreat
open Go Go.RowKit
theorem jq:∀{t:P},t.lw=true↔t.Al λc=>lt c=true
 | .nil=>by simp [T.lw,T.Al]
 | .snd a b p=>by simp [T.lw,T.Al,jq (t:=p),Mo]
 | .rcv a b p=>by simp [T.lw,T.Al,jq (t:=p),Mo]
 | .mat a b p=>by simp [T.lw,T.Al,jq (t:=p),Mo]
 | .tau p=>by simp [T.lw,T.Al,jq (t:=p)]
 | .rep p=>by simp [T.lw,T.Al,jq (t:=p)]
 | .res x p=>by simp [T.lw,T.Al,jq (t:=p)]
 | .sum p q=>by simp [T.lw,T.Al,jq (t:=p),jq (t:=q)]
 | .par p q=>by simp [T.lw,T.Al,jq (t:=p),jq (t:=q)]
theorem lC {s:Tx}:(∃t:P,Good t/\t.text=s)↔dB s:=by
 constructor
 ·rintro⟨t,h,rfl⟩
  exact⟨h.len,t,jq.1 h.lw,rfl,h.size⟩
 ·rintro⟨h,t,z,rfl,h2⟩
  exact⟨t,⟨jq.2 z,h,h2⟩,rfl⟩
theorem zr {s:Tx}(h:dB s):∀c∈s,¬128<=c:=by
 obtain⟨t,z,rfl⟩:=lC.2 h;intro c hc;have :=LW.1 (iY z.lw).2 c hc;simp only [dK,L0,Ls,J6]at this;exact this.2
theorem H5 {p:Tx}(G:p.length<=1099511627776){w:World}{R:ay->Bool->World->Prop}(h:∀w',Ex w w'->(dB p->R p true w')/\(¬dB p->R [] false w')):Calls Tryz.prog 190 #[.string (ab p)] w (ax [.s,.b] R):=by
 refine vK p w R ?_;refine DG G λb w' z hb=>⟨λhc=>(h w' z).2 λH=>?_,λhc=>(h w' z).1 (lC.1 (hb.1 (by simpa using hc)))⟩
 have :=hb.2 (lC.2 H);rw [this]at hc;cases hc
structure ph (k:Nat)(p:P)(σ:Nat->Nat)(u:U):Prop where
 den:Den k p σ u
 gf:GF 0 p
 nu:Nu u
 σ:∀y,u.Us y->σ y=σ0 y
theorem ph.lt {k:Nat}{p:P}{σ:Nat->Nat}{u:U}(d:ph k p σ u):(∀c,p.Us c->lt c=true/\u.Us (e0 c))/\∀y,u.Us y->p.Us (ρ0 y):=by
 constructor
 ·intro c hc;obtain⟨y,z,h2⟩:=d.den.ae.used (eX p) d.den.inj c hc;have H:=d.nu.fr y z;rw [d.σ y z]at h2;unfold σ0 at h2;have:e0 c=y:=by unfold e0;omega
  exact⟨iy (by omega),this▸z⟩
 ·intro y G;obtain⟨c,z,h2⟩:=d.den.ae.symm.used d.den.inj (eX p) y G;have:c=ρ0 y:=Ky.1 (by rw [eO (d.nu.fr y G),h2,d.σ y G]);exact this▸z
theorem ph.tk {k:Nat}{p:P}{σ:Nat->Nat}{u:U}(d:ph k p σ u){s:Tx}(hm:∀c,c∈s↔p.Us c):cR s=lf (td u).2:=by
 funext c
 rw [K6,p6 d.nu];unfold cR;rw [J4,hm];refine⟨d.lt.1 c,fun⟨z,h2⟩=>?_⟩;have :=d.lt.2 _ h2;have e:ρ0 (e0 c)=c:=by
  have :=aW z;apply Ky.1;unfold ρ0 e0;rw [K2];omega
 rwa [e]at this
theorem ph.IL {k:Nat}{p:P}{σ:Nat->Nat}{u:U}(d:ph k p σ u){s:Tx}(G:ib s)(hm:∀c,c∈s↔p.Us c):xa k s σ u:=by
 refine⟨G,λc hc=>⟨d.den.bd.eb.free c (T.bG ((hm c).1 hc)),?_⟩,λy z=>?_⟩
 ·have :=aW (d.lt.1 c ((hm c).1 hc)).1;right;omega
 ·refine⟨ρ0 y,(hm _).2 (d.lt.2 y z),?_⟩;rw [eO (d.nu.fr y z),d.σ y z]
theorem HH {k:Nat}{p:P}{σ:Nat->Nat}{u:U}(d:ph k p σ u){w:World}{R:ay->Bool->World->Prop}
  (h:∀w',Ex w w'->(¬(bj u<=5/\cO u<=8)->R [] false w')/\∀s out,(bj u<=5/\cO u<=8)->cR s=lf (td u).2->WR false u σ s out->R out true w'):
  Calls Tryz.prog 189 #[.string (ab p.text)] w (ax [.s,.b] R):=by
 refine wu _ w R ?_;intro b2 w3 hb2 ξ;have hx3:Ex w w3:=ξ▸Ex.alloc w _;have mk:∀{wx wy:World} {b:Nat} (x:Bool),b=wx.heap.size->wy=wx.alloc (.cells #[.bool false,.bool x] 233)->MK wy b false x:=by
  rintro wx wy b x rfl rfl
  refine⟨by rw [size_alloc];omega,aa rfl,aa rfl,?_⟩;unfold World.frozen? World.alloc;simp
 have hm3:=mk true hb2 ξ;refine pw _ (Kb _) d.den.ok λs w5 ο hss hms=>?_
 refine A8 _ (Kb _) d.den d.gf (d.IL hss hms) (hm3.ex ο) λr w7 V hm7 hr=>?_
 have G:Ex w w5:=hx3.trans ο;have hx7:Ex w w7:=⟨V.os.trans G.os,V.tape.trans G.tape,V.output.trans G.output,K5 G.size V.size,λg hg=>by
  rw [V.block g (Kx hg G.size) (by omega)];exact G.block g hg⟩
 intro b8 γ ς hb8 hbr δ;have I:Ex w ς:=hx7.trans (Ex.aQ δ);have hrl:=hr.le d.den;have hlen:=d.den.len;obtain⟨cur,lo,hi,υ,ν,hle,_⟩:=hbr;refine⟨_,_,γ,rfl,λown x w'=>w'=ς/\∃i:Nat,x=i/\i<=r.length/\own=((r.take i).count 35:Nat),λ _ x _=>(r.length - x).toNat,⟨rfl,0,rfl,by omega,by simp⟩,λown x α hI=>?_⟩;obtain⟨rfl,i,rfl,hi,rfl⟩:=hI;refine⟨λhc=>?_,λhc=>?_⟩
 ·have hc:=Kv hc;have W:i< r.length:=by omega
  have ε:(r.take i).count 35<=i:=K5 (List.count_le_length ..) (by rw [KP];omega);refine⟨b8,0,_,γ,rfl,by omega,by omega,bt r i,?_,λJ=>?_,λJ=>?_⟩
  ·unfold World.cell?;simp only [υ,J9,KF,KK];have e:=Lb (λl=>l[i]?) ν;simp only [dI,Md]at e;rw [My,KG W]at e;simp only [J2 W,LR]at e;simpa [bt,W]using e
  ·have J:=Kv J;have e:(r.take (i+1)).count 35=(r.take i).count 35+1:=by
    rw [iA W,KV,J];simp
   exact⟨by unfold aj;omega,by unfold aj;omega,⟨rfl,i+1,by omega,by omega,by rw [e];omega⟩,by dsimp only;omega⟩
  ·have J:=Kw J;have e:(r.take (i+1)).count 35=(r.take i).count 35:=by
    rw [iA W,KV,bz J];simp
   exact⟨by unfold aj;omega,⟨rfl,i+1,by omega,by omega,by rw [e]⟩,by dsimp only;omega⟩
 have hc:=Kw hc;have e:i=r.length:=by omega
 subst e;rw [KA];have ζ:=hm7.ex (Ex.aQ δ);rw [MH]at ζ;refine⟨decide (5< bj u),ζ.c0,λJ=>?_,λJ=>?_⟩
 ·have J:=Kw J;have ε:=hr.cnt (by omega);rw [ε];refine⟨λZ=>?_,λZ=>?_⟩
  ·have Z:=Kv Z;exact(h α I).1 (by omega)
  ·have Z:=Kw Z;intro b25 w26 φ η;have χ:Ex α w26:=η▸Ex.alloc α _;have ψ:=mk false φ η;refine pw _ (Kb _) d.den.ok λs' w28 θ ω ι=>?_
   refine A8 _ (Kb _) d.den d.gf (d.IL ω ι) (ψ.ex θ) λr' β H κ hr'=>?_
   have z:Ex w w28:=(I.trans χ).trans θ;have hsz:=I.size;have hx30:Ex w β:=⟨H.os.trans z.os,H.tape.trans z.tape,H.output.trans z.output,K5 z.size H.size,λg hg=>by
    rw [H.block g (Kx hg z.size) (by omega)];exact z.block g hg⟩
   have hb:decide (5< bj u)=false:=Lj (by omega);rw [hb,Bool.or_self]at κ;refine⟨λw'=>Ex β w',λjm μ=>⟨μ▸Ex.drew β,false,λw' hw'=>(κ.ex hw').c0,?_⟩⟩;exact(h jm (hx30.trans (μ▸Ex.drew β))).2 s' r' ⟨by omega,by omega⟩ (d.tk ι) hr'
 ·have J:=Kv J;exact(h α I).1 (by omega)
theorem zM {k:Nat}{p:P}{σ:Nat->Nat}{u:U}(d:ph k p σ u){w:World}{R:ay->Bool->World->Prop}
  (h:∀w',Ex w w'->(∀s,kC u=some s->R s true w')/\(kC u=none->R [] false w')):
  Calls Tryz.prog 150 #[.string (ab p.text)] w (ax [.s,.b] R):=by
 refine vP _ w R ?_;refine HH d λw' hx=>⟨λhn=>⟨λ _=>(h w' hx).2 ?_,λhc=>by cases hc⟩,λs out hb G hr=>⟨λhc=>(by cases hc),λ _=>?_⟩⟩
 ·rw [ij,Ko λJ=>hn J.1]
 ·have hlen:=d.den.len;have α:=hr.le d.den;refine H5 (by omega) λw2 V=>?_
  have W:Compat ρ0 σ u:=λy hy=>by rw [eO (d.nu.fr y hy),d.σ y hy]
  have H:=h w2 (hx.trans V);cases z:dt u (lf (td u).2)with
  | true=>
   obtain⟨c,h1,h2⟩:=hr.bad hb.1 rfl (by rw [G];exact z);have Z:¬dB out:=λI=>zr I c h1 h2
   refine⟨λI=>absurd I Z,λ _=>H.2 ?_⟩;rw [ij,Ko λJ=>by rw [z]at J;cases J.2.1]
  | false=>
   have e:=hr.eq hb.1 rfl (by rw [G];exact z) ρ0 W;rw [G]at e;subst e;refine⟨λI=>H.1 _ ?_,λI=>H.2 ?_⟩
   ·rw [ij,KG ⟨hb,z,I⟩]
   ·rw [ij,Ko λJ=>I J.2.2]
end Go.Proofs.YtdecokaadekjnaaGreat
namespace Go.Proofs.YtdecokaadekjnaaGreat
open Go
set_option maxRecDepth 100000
theorem mO (r1:Value)(w:World)(R:UInt8->World->Prop)(h:bO w λS2 J=>az r1 λb4 o5=>kA S2 b4 (o5+1) λn6=>az r1 λb7 o8=>iq S2 b7 (o8+0) λs9=>ai (decide ((s9.length:Int)<=n6)) (az r1 λb10 V=>bg J b10 (V+2) (.bool true) λW=>R 0 W) (az r1 λZ α=>pB J Z (α+1) λG=>aj (G+1)/\az r1 λβ γ=>bg J β (γ+1) (.int .i64 (G+1)) λδ=>bO δ λH ε=>az r1 λζ η=>iq H ζ (η+0) λI=>az r1 λθ ι=>kA H θ (ι+1) λz=>aj (z - 1)/\(0<=((z - 1):Int)/\((z - 1):Int)< I.length)/\R ((bt I (Int.toNat (z - 1)))) ε)):
  Calls Tryz.prog 207 #[r1] w (ax [.c] R):=
 bs (bn [] [] [1,5]) [.tmp 2 .c] [.v r1] Tryz.func207 (by kernel_rfl) h
theorem pN (c1:UInt8)(w:World)(R:Bool->World->Prop)(h:ai (decide (97<=c1)) (R ((decide (c1<=122))) w) (R false w)):
  Calls Tryz.prog 128 #[(.int .u8 c1.toNat)] w (ax [.b] R):=
 bs (bn [] [] []) [.tmp 2 .b] [.c c1] Tryz.func128 (by kernel_rfl) h
theorem mT (r1:Value)(w:World)(R:UInt8->World->Prop)(h:gY 207 #[r1] w λc2 G=>ck 128 #[(.int .u8 c2.toNat)] G λH z=>ai (!H) (az r1 λb6 I=>bg z b6 (I+2) (.bool true) λJ=>R c2 J) (R c2 z)):
  Calls Tryz.prog 208 #[r1] w (ax [.c] R):=
 bs (bn [] [] []) [.tmp 2 .c] [.v r1] Tryz.func208 (by kernel_rfl) h
theorem mU (r1:Value)(c2:UInt8)(w:World)(R:World->Prop)(h:gY 207 #[r1] w λc3 z=>ai (!decide (c3=c2)) (az r1 λb5 G=>bg z b5 (G+2) (.bool true) λw8=>R w8) (R z)):
  Calls Tryz.prog 209 #[r1,(.int .u8 c2.toNat)] w (ax [] R):=
 bs (bn [] [] []) [] [.v r1,.c c2] Tryz.func209 (by kernel_rfl) h
theorem nj (r1:Value)(w:World)(R:Value->World->Prop)(h:aN w (.cells #[(.int .u8 (UInt8.toNat 48)),(.int .u8 (UInt8.toNat 0)),(.int .u8 (UInt8.toNat 0)),(.slice none 0 0)] 136) λb2 w3=>az r1 λb4 o5=>EW w3 b4 (o5+2) λq6=>ai q6 (R ((.pointer (some ⟨b2,0,none⟩))) w3) (gY 207 #[r1] w3 λI w8=>ai (decide (I=48)) (R ((.pointer (some ⟨b2,0,none⟩))) w8) (ck 128 #[(.int .u8 I.toNat)] w8 λq9 H=>ai q9 (gY 207 #[r1] H λc11 w12=>bg w12 b2 1 (.int .u8 I.toNat) λw14=>bg w14 b2 0 (.int .u8 c11.toNat) λJ=>gg J b2 0 λc17=>ai (!decide (c17=33)) (gg J b2 0 λc18=>ai (!decide (c18=63)) (az r1 λb19 o20=>bg J b19 (o20+2) (.bool true) λw22=>gY 208 #[r1] w22 λc23 w24=>bg w24 b2 2 (.int .u8 c23.toNat) λw26=>fC 209 #[r1,(.int .u8 (UInt8.toNat 46))] w26 λw27=>cB 166 #[r1] w27 λv28 w29=>oneV v28=true/\aN w29 (.cells #[v28] 88) λb30 w31=>oneV (.slice (some ⟨b30,0,none⟩) 1 1)=true/\bg w31 b2 3 (.slice (some ⟨b30,0,none⟩) 1 1) λw33=>R ((.pointer (some ⟨b2,0,none⟩))) w33) (gY 208 #[r1] J λc34 w35=>bg w35 b2 2 (.int .u8 c34.toNat) λw37=>fC 209 #[r1,(.int .u8 (UInt8.toNat 46))] w37 λw38=>cB 166 #[r1] w38 λε w40=>oneV ε=true/\aN w40 (.cells #[ε] 88) λζ w42=>oneV (.slice (some ⟨ζ,0,none⟩) 1 1)=true/\bg w42 b2 3 (.slice (some ⟨ζ,0,none⟩) 1 1) λw44=>R ((.pointer (some ⟨b2,0,none⟩))) w44)) (gY 208 #[r1] J λc45 w46=>bg w46 b2 2 (.int .u8 c45.toNat) λw48=>fC 209 #[r1,(.int .u8 (UInt8.toNat 46))] w48 λw49=>cB 166 #[r1] w49 λη w51=>oneV η=true/\aN w51 (.cells #[η] 88) λθ w53=>oneV (.slice (some ⟨θ,0,none⟩) 1 1)=true/\bg w53 b2 3 (.slice (some ⟨θ,0,none⟩) 1 1) λw55=>R ((.pointer (some ⟨b2,0,none⟩))) w55)) (ai (decide (I=126)) (bg H b2 0 (.int .u8 I.toNat) λw57=>fC 209 #[r1,(.int .u8 (UInt8.toNat 46))] w57 λw58=>cB 166 #[r1] w58 λv59 w60=>oneV v59=true/\aN w60 (.cells #[v59] 88) λι w62=>oneV (.slice (some ⟨ι,0,none⟩) 1 1)=true/\bg w62 b2 3 (.slice (some ⟨ι,0,none⟩) 1 1) λw64=>R ((.pointer (some ⟨b2,0,none⟩))) w64) (ai (decide (I=35)) (gY 208 #[r1] H λc65 w66=>bg w66 b2 0 (.int .u8 I.toNat) λw68=>bg w68 b2 2 (.int .u8 c65.toNat) λw70=>fC 209 #[r1,(.int .u8 (UInt8.toNat 46))] w70 λw71=>cB 166 #[r1] w71 λv72 w73=>oneV v72=true/\aN w73 (.cells #[v72] 88) λκ w75=>oneV (.slice (some ⟨κ,0,none⟩) 1 1)=true/\bg w75 b2 3 (.slice (some ⟨κ,0,none⟩) 1 1) λw77=>R ((.pointer (some ⟨b2,0,none⟩))) w77) (ai (decide (I=91)) (gY 208 #[r1] H λc78 w79=>bg w79 b2 0 (.int .u8 (UInt8.toNat 61)) λw81=>bg w81 b2 1 (.int .u8 c78.toNat) λw83=>fC 209 #[r1,(.int .u8 (UInt8.toNat 61))] w83 λw84=>gY 208 #[r1] w84 λc85 w86=>bg w86 b2 2 (.int .u8 c85.toNat) λw88=>fC 209 #[r1,(.int .u8 (UInt8.toNat 93))] w88 λw89=>cB 166 #[r1] w89 λμ w91=>oneV μ=true/\aN w91 (.cells #[μ] 88) λν w93=>oneV (.slice (some ⟨ν,0,none⟩) 1 1)=true/\bg w93 b2 3 (.slice (some ⟨ν,0,none⟩) 1 1) λw95=>R ((.pointer (some ⟨b2,0,none⟩))) w95) (ai (decide (I=42)) (bg H b2 0 (.int .u8 I.toNat) λw97=>cB 166 #[r1] w97 λξ w99=>oneV ξ=true/\aN w99 (.cells #[ξ] 88) λV ο=>oneV (.slice (some ⟨V,0,none⟩) 1 1)=true/\bg ο b2 3 (.slice (some ⟨V,0,none⟩) 1 1) λς=>R ((.pointer (some ⟨b2,0,none⟩))) ς) (ai (decide (I=40)) (cB 166 #[r1] H λz υ=>gY 207 #[r1] υ λφ χ=>bg χ b2 0 (.int .u8 φ.toNat) λG=>gg G b2 0 λψ=>ai (!decide (ψ=43)) (gg G b2 0 λω=>ai (!decide (ω=38)) (az r1 λb112 o113=>bg G b112 (o113+2) (.bool true) λw115=>cB 166 #[r1] w115 λW w117=>oneV z=true/\oneV W=true/\aN w117 (.cells #[z,W] 88) λZ w119=>oneV (.slice (some ⟨Z,0,none⟩) 2 2)=true/\bg w119 b2 3 (.slice (some ⟨Z,0,none⟩) 2 2) λw121=>fC 209 #[r1,(.int .u8 (UInt8.toNat 41))] w121 λw122=>R ((.pointer (some ⟨b2,0,none⟩))) w122) (cB 166 #[r1] G λα w124=>oneV z=true/\oneV α=true/\aN w124 (.cells #[z,α] 88) λβ w126=>oneV (.slice (some ⟨β,0,none⟩) 2 2)=true/\bg w126 b2 3 (.slice (some ⟨β,0,none⟩) 2 2) λw128=>fC 209 #[r1,(.int .u8 (UInt8.toNat 41))] w128 λw129=>R ((.pointer (some ⟨b2,0,none⟩))) w129)) (cB 166 #[r1] G λv130 w131=>oneV z=true/\oneV v130=true/\aN w131 (.cells #[z,v130] 88) λγ w133=>oneV (.slice (some ⟨γ,0,none⟩) 2 2)=true/\bg w133 b2 3 (.slice (some ⟨γ,0,none⟩) 2 2) λw135=>fC 209 #[r1,(.int .u8 (UInt8.toNat 41))] w135 λw136=>R ((.pointer (some ⟨b2,0,none⟩))) w136)) (az r1 λb137 o138=>bg H b137 (o138+2) (.bool true) λw140=>cB 166 #[r1] w140 λv141 w142=>oneV v141=true/\aN w142 (.cells #[v141] 88) λδ w144=>oneV (.slice (some ⟨δ,0,none⟩) 1 1)=true/\bg w144 b2 3 (.slice (some ⟨δ,0,none⟩) 1 1) λw146=>R ((.pointer (some ⟨b2,0,none⟩))) w146))))))))):
  Calls Tryz.prog 166 #[r1] w (ax [.v] R):=
 bs (bn [] [] []) [.tmp 2 .v] [.v r1] Tryz.func166 (by kernel_rfl) h
theorem uw (s1:ay)(w:World)(R:Value->Bool->World->Prop)(h:aN w (.cells #[(.string (ab s1)),(.int .i64 0),(.bool false)] 181) λb2 H=>cB 166 #[(.pointer (some ⟨b2,0,none⟩))] H λv4 I=>bO I λz G=>JJ z b2 2 λJ=>ai (!J) (kA z b2 1 λV=>R v4 ((decide (V=(s1.length:Int)))) G) (R v4 false G)):
  Calls Tryz.prog 123 #[(.string (ab s1))] w (ax [.v,.b] R):=
 bs (bn [] [] [3]) [.tmp 2 .v,.tmp 3 .b] [.s s1] Tryz.func123 (by kernel_rfl) h
theorem oL (t1:Value)(w:World)(R:Int->World->Prop)(h:az t1 λb2 o3=>aS w b2 (o3+3) λv4=>bM v4 λl6=>CQ 1 0 w λI8 Z n10 z G=>ai (decide (z< (l6:Int))) (aJ v4 z λJ V=>aS G J (V+z.toNat* 1) λW=>iU 124 #[W] G λH I=>aj (n10+H)/\aj (z+1)/\I8 (n10+H) (z+1) I/\Z (n10+H) (z+1) I< Z n10 z G) (R n10 G)):
  Calls Tryz.prog 124 #[t1] w (ax [.i] R):=
 bs (bn [(3,[(3,.i),(11,.i)])] [] []) [.tmp 2 .i] [.v t1] Tryz.func124 (by kernel_rfl) h
theorem xf (z:ay)(w:World)(R:Value->Bool->World->Prop)(h:ai (decide (300< (z.length:Int))) (R (.pointer none) false w) (oA 123 #[(.string (ab z))] w λv2 H G=>ai H (iU 124 #[v2] G λn5 I=>R v2 ((decide (n5<=60))) I) (R v2 false G))):
  Calls Tryz.prog 79 #[(.string (ab z))] w (ax [.v,.b] R):=
 bs (bn [] [] []) [.tmp 2 .v,.tmp 3 .b] [.s z] Tryz.func79 (by kernel_rfl) h
theorem pk (z:ay)(w:World)(R:Bool->World->Prop)(h:oA 79 #[(.string (ab z))] w λv2 G H=>R G H):
  Calls Tryz.prog 238 #[(.string (ab z))] w (ax [.b] R):=
 bs (bn [] [] []) [.tmp 2 .b] [.s z] Tryz.func238 (by kernel_rfl) h
theorem nX (t1:Value)(w:World)(R:Bool->World->Prop)(h:az t1 λb2 z=>gg w b2 (z+0) λc4=>iz (decide (c4=63)) (az t1 λb5 G=>gg w b5 (G+0) λH=>R ((decide (H=35))) w) (R true w)):
  Calls Tryz.prog 129 #[t1] w (ax [.b] R):=
 bs (bn [] [] []) [.tmp 2 .b] [.v t1] Tryz.func129 (by kernel_rfl) h
theorem ny (G:Value)(c2:Value)(c3:Value)(w:World)(R:World->Prop)(h:az c2 λb4 o5=>EW w b4 o5 λq6=>ai q6 (az c3 λb7 o8=>aS w b7 o8 λv9=>∃(f10:Nat) (z:List Value),v9= .func (.func f10) #[] (List.toArray z)/\List.contains dh f10=true/\ck f10 (List.toArray ([G]++z)) w λH I=>az c2 λJ V=>bg I J V (.bool H) λW=>R W) (az c2 λb18 Z=>bg w b18 Z (.bool false) λα=>R α)):
  Calls Tryz.prog 170 #[G,c2,c3] w (ax [] R):=
 bs (bn [] [] []) [] [.v G,.v c2,.v c3] Tryz.func170 (by kernel_rfl) h
theorem oY (t1:Value)(d2:Value)(w:World)(R:World->Prop)(h:∃(f3:Nat) (c4:List Value),d2= .func (.func f3) #[] (List.toArray c4)/\List.contains dh f3=true/\fC f3 (List.toArray ([t1]++c4)) w λZ=>az t1 λb6 o7=>aS Z b6 (o7+3) λv8=>bM v8 λJ=>eM 0 Z λV H z G=>ai (decide (z< (J:Int))) (aJ v8 z λb16 W=>aS G b16 (W+z.toNat* 1) λv20=>fC 169 #[v20,d2] G λI=>aj (z+1)/\V (z+1) I/\H (z+1) I< H z G) (R G)):
  Calls Tryz.prog 169 #[t1,d2] w (ax [] R):=
 bs (bn [(2,[(14,.i)])] [] []) [] [.v t1,.v d2] Tryz.func169 (by kernel_rfl) h
theorem pF (t1:Value)(h2:Value)(w:World)(R:Bool->World->Prop)(h:oneV h2=true/\aN w (.cells #[h2] 137) λb3 H=>aN H (.cells #[(.bool false)] 4) λb5 I=>bg I b5 0 (.bool true) λw8=>fC 169 #[t1,(Value.func (Fn.func 170) #[] #[(.pointer (some ⟨b5,0,none⟩)),(.pointer (some ⟨b3,0,none⟩))])] w8 λG=>EW G b5 0 λz=>R z G):
  Calls Tryz.prog 126 #[t1,h2] w (ax [.b] R):=
 bs (bn [] [] []) [.tmp 4 .b] [.v t1,.v h2] Tryz.func126 (by kernel_rfl) h
theorem kf (G:Value)(w:World)(R:Bool->World->Prop)(h:az G λb2 o3=>gg w b2 (o3+0) λc4=>iz (!decide (c4=43)) (az G λb5 o6=>aS w b5 (o6+3) λv7=>aJ v7 0 λb8 o9=>aS w b8 (o9+Int.toNat 0* 1) λv12=>az v12 λH I=>gg w H (I+0) λJ=>iU 168 #[(.string (ab [33,63,126,43,48])),(.int .u8 J.toNat)] w λV z=>ai (decide (0<=V)) (az G λb18 W=>aS z b18 (W+3) λv20=>aJ v20 1 λZ α=>aS z Z (α+Int.toNat 1* 1) λβ=>az β λγ δ=>gg z γ (δ+0) λε=>iU 168 #[(.string (ab [33,63,126,43,48])),(.int .u8 ε.toNat)] z λζ η=>R ((decide (0<=ζ))) η) (R false z)) (R true w)):
  Calls Tryz.prog 167 #[G] w (ax [.b] R):=
 bs (bn [] [] []) [.tmp 2 .b] [.v G] Tryz.func167 (by kernel_rfl) h
theorem lX (t1:Value)(w:World)(R:Bool->World->Prop)(h:ck 126 #[t1,(Value.func (Fn.func 167) #[] #[])] w λz G=>R z G):
  Calls Tryz.prog 125 #[t1] w (ax [.b] R):=
 bs (bn [] [] []) [.tmp 2 .b] [.v t1] Tryz.func125 (by kernel_rfl) h
theorem kL (z:Value)(w:World)(R:Bool->World->Prop)(h:az z λb2 J=>gg w b2 (J+0) λc4=>iz (!decide (c4=42)) (az z λb5 V=>aS w b5 (V+3) λW=>aJ W 0 λb8 Z=>aS w b8 (Z+Int.toNat 0* 1) λv12=>az v12 λG H=>gg w G (H+0) λI=>R ((decide (I=63))) w) (R true w)):
  Calls Tryz.prog 127 #[z] w (ax [.b] R):=
 bs (bn [] [] []) [.tmp 2 .b] [.v z] Tryz.func127 (by kernel_rfl) h
theorem mZ (t1:Value)(w:World)(R:Bool->World->Prop)(h:ck 125 #[t1] w λG z=>ai G (ck 126 #[t1,(Value.func (Fn.func 127) #[] #[])] z λH I=>R H I) (R false z)):
  Calls Tryz.prog 80 #[t1] w (ax [.b] R):=
 bs (bn [] [] []) [.tmp 2 .b] [.v t1] Tryz.func80 (by kernel_rfl) h
end Go.Proofs.YtdecokaadekjnaaGreat
namespace Go.Proofs.YtdecokaadekjnaaGreat
open Go Go.RowKit
abbrev ptr (b:Nat):Value:= .pointer (some ⟨b,0,none⟩)
def eF (D:Nat->Prop)(w:World)(v:Value)(l:List Value):Prop:=
 (v= .slice none 0 0/\l=[])\/∃b off cap,v= .slice (some ⟨b,off,none⟩) l.length cap/\D b/\b< w.heap.size/\∀i x,l[i]?=some x->w.cell? ⟨b,off+i,none⟩=some x
theorem eF.kp {D S:Nat->Prop}{w w':World}{v:Value}{l:List Value}(h:eF D w v l)(k:Kp w w' S)(G:∀g,D g->¬S g):eF D w' v l:=by
 rcases h with h | ⟨b,off,cap,H,h2,z,h4⟩
 ·exact .inl h
 ·refine .inr ⟨b,off,cap,H,h2,Kx z k.size,λi x I=>?_⟩;rw [J1 (w:=w) (k.block b z (G b h2))];exact h4 i x I
theorem eF.mono {D E:Nat->Prop}{w:World}{v:Value}{l:List Value}(h:eF D w v l)(hd:∀g,D g->E g):eF E w v l:=by
 rcases h with h | ⟨b,off,cap,z,h2,G,h4⟩
 ·exact .inl h
 ·exact .inr ⟨b,off,cap,z,hd b h2,G,h4⟩
theorem eF.slice {D:Nat->Prop}{w:World}{v:Value}{l:List Value}(h:eF D w v l):∃a cap,v= .slice a l.length cap:=by
 rcases h with⟨h,rfl⟩ | ⟨b,off,cap,z,_⟩
 ·exact⟨_,_,h⟩
 ·exact⟨_,_,z⟩
theorem eF.get {D:Nat->Prop}{w:World}{v:Value}{l:List Value}(h:eF D w v l){i:Int}{x:Value}(G:0<=i)(z:l[i.toNat]?=some x){Q:Value->Prop}(H:Q x):
  ∃(b o len cap:Nat),v=Value.slice (some ⟨b,o,none⟩) len cap/\0<=i/\i< (len:Int)/\∃s:Value,World.cell? w ⟨b,o+Int.toNat i* 1,none⟩=some s/\Q s:=by
 obtain⟨I,e⟩:=KX.1 z;rcases h with⟨h,rfl⟩ | ⟨b,off,cap,J,h2,V,h4⟩
 ·simp at I
 ·exact⟨b,off,l.length,cap,J,G,by omega,x,by rw [KK];exact h4 _ _ z,H⟩
def fk (D:Nat->Prop)(w:World)(v:Value)(k a c:UInt8)(K:List Value->Prop):Prop:=
 ∃b vs l,v=ptr b/\D b/\b< w.heap.size/\w.cell? ⟨b,0,none⟩=some (.int .u8 k.toNat)/\w.cell? ⟨b,1,none⟩=some (.int .u8 a.toNat)/\w.cell? ⟨b,2,none⟩=some (.int .u8 c.toNat)/\
  w.cell? ⟨b,3,none⟩=some vs/\eF D w vs l/\K l
def aI (D:Nat->Prop)(w:World):P->Value->Prop
 | .nil,v=>fk D w v 48 0 0 λl=>l=[]
 | .snd a b p,v=>fk D w v 33 a b λl=>∃x,l=[x]/\aI D w p x
 | .rcv a b p,v=>fk D w v 63 a b λl=>∃x,l=[x]/\aI D w p x
 | .tau p,v=>fk D w v 126 0 0 λl=>∃x,l=[x]/\aI D w p x
 | .sum p q,v=>fk D w v 43 0 0 λl=>∃x y,l=[x,y]/\aI D w p x/\aI D w q y
 | .par p q,v=>fk D w v 38 0 0 λl=>∃x y,l=[x,y]/\aI D w p x/\aI D w q y
 | .res b p,v=>fk D w v 35 0 b λl=>∃x,l=[x]/\aI D w p x
 | .mat a b p,v=>fk D w v 61 a b λl=>∃x,l=[x]/\aI D w p x
 | .rep p,v=>fk D w v 42 0 0 λl=>∃x,l=[x]/\aI D w p x
def T.ca:P->UInt8
 | .snd a _ _=>a | .rcv a _ _=>a | .mat a _ _=>a | _=>0
def T.cb:P->UInt8
 | .snd _ b _=>b | .rcv _ b _=>b | .mat _ b _=>b | .res b _=>b | _=>0
theorem fk.kp {D S:Nat->Prop}{w w':World}{v:Value}{k a c:UInt8}{K z:List Value->Prop}(h:fk D w v k a c K)(kp:Kp w w' S)(G:∀g,D g->¬S g)(I:∀l,K l->z l):fk D w' v k a c z:=by
 obtain⟨b,vs,l,J,h2,H,h4,h5,V,W,h8,h9⟩:=h;have hb:=kp.block b H (G b h2);refine⟨b,vs,l,J,h2,Kx H kp.size,?_,?_,?_,?_,h8.kp kp G,I l h9⟩<;>rw [J1 (w:=w) hb]<;>assumption
theorem fk.mono {D E:Nat->Prop}{w:World}{v:Value}{k a c:UInt8}{K z:List Value->Prop}(h:fk D w v k a c K)(hd:∀g,D g->E g)(G:∀l,K l->z l):fk E w v k a c z:=by
 obtain⟨b,vs,l,H,h2,I,h4,h5,J,V,h8,h9⟩:=h;exact⟨b,vs,l,H,hd b h2,I,h4,h5,J,V,h8.mono hd,G l h9⟩
theorem aI.kp {D S:Nat->Prop}{w w':World}(kp:Kp w w' S)(z:∀g,D g->¬S g):∀{t:P} {v:Value},aI D w t v->aI D w' t v
 | .nil,_,h=>fk.kp h kp z λ _ h=>h
 | .snd _ _ p,_,h=>fk.kp h kp z λ _ ⟨x,G,h2⟩=>⟨x,G,aI.kp kp z (t:=p) h2⟩
 | .rcv _ _ p,_,h=>fk.kp h kp z λ _ ⟨x,G,h2⟩=>⟨x,G,aI.kp kp z (t:=p) h2⟩
 | .tau p,_,h=>fk.kp h kp z λ _ ⟨x,G,h2⟩=>⟨x,G,aI.kp kp z (t:=p) h2⟩
 | .res _ p,_,h=>fk.kp h kp z λ _ ⟨x,G,h2⟩=>⟨x,G,aI.kp kp z (t:=p) h2⟩
 | .mat _ _ p,_,h=>fk.kp h kp z λ _ ⟨x,G,h2⟩=>⟨x,G,aI.kp kp z (t:=p) h2⟩
 | .rep p,_,h=>fk.kp h kp z λ _ ⟨x,G,h2⟩=>⟨x,G,aI.kp kp z (t:=p) h2⟩
 | .sum p q,_,h=>fk.kp h kp z λ _ ⟨x,y,G,h2,H⟩=>⟨x,y,G,aI.kp kp z (t:=p) h2,aI.kp kp z (t:=q) H⟩
 | .par p q,_,h=>fk.kp h kp z λ _ ⟨x,y,G,h2,H⟩=>⟨x,y,G,aI.kp kp z (t:=p) h2,aI.kp kp z (t:=q) H⟩
theorem aI.mono {D E:Nat->Prop}{w:World}(hd:∀g,D g->E g):∀{t:P} {v:Value},aI D w t v->aI E w t v
 | .nil,_,h=>fk.mono h hd λ _ h=>h
 | .snd _ _ p,_,h=>fk.mono h hd λ _ ⟨x,z,h2⟩=>⟨x,z,aI.mono hd (t:=p) h2⟩
 | .rcv _ _ p,_,h=>fk.mono h hd λ _ ⟨x,z,h2⟩=>⟨x,z,aI.mono hd (t:=p) h2⟩
 | .tau p,_,h=>fk.mono h hd λ _ ⟨x,z,h2⟩=>⟨x,z,aI.mono hd (t:=p) h2⟩
 | .res _ p,_,h=>fk.mono h hd λ _ ⟨x,z,h2⟩=>⟨x,z,aI.mono hd (t:=p) h2⟩
 | .mat _ _ p,_,h=>fk.mono h hd λ _ ⟨x,z,h2⟩=>⟨x,z,aI.mono hd (t:=p) h2⟩
 | .rep p,_,h=>fk.mono h hd λ _ ⟨x,z,h2⟩=>⟨x,z,aI.mono hd (t:=p) h2⟩
 | .sum p q,_,h=>fk.mono h hd λ _ ⟨x,y,z,h2,G⟩=>⟨x,y,z,aI.mono hd (t:=p) h2,aI.mono hd (t:=q) G⟩
 | .par p q,_,h=>fk.mono h hd λ _ ⟨x,y,z,h2,G⟩=>⟨x,y,z,aI.mono hd (t:=p) h2,aI.mono hd (t:=q) G⟩
theorem aM.two {A B:Type}{R:A->B->Prop}{a a':A}{b z:B}(h:R a b)(G:R a' z):aM R [a,a'] [b,z]:=(aM.one h).append (aM.one G)
theorem aI.inv {D:Nat->Prop}{w:World}{t:P}{v:Value}(h:aI D w t v):fk D w v t.kind t.ca t.cb λl=>aM (λx p=>aI D w p x) l t.parts:=by
 cases t with
 | nil=>exact fk.mono h (λ _ h=>h) λl (e:l=[])=>by subst e;exact aM.nil
 | sum p q=>exact fk.mono h (λ _ h=>h) λl ⟨x,y,e,z,h2⟩=>by subst e;exact aM.two z h2
 | par p q=>exact fk.mono h (λ _ h=>h) λl ⟨x,y,e,z,h2⟩=>by subst e;exact aM.two z h2
 | snd a b p=>exact fk.mono h (λ _ h=>h) λl ⟨x,e,z⟩=>by subst e;exact aM.one z
 | rcv a b p=>exact fk.mono h (λ _ h=>h) λl ⟨x,e,z⟩=>by subst e;exact aM.one z
 | mat a b p=>exact fk.mono h (λ _ h=>h) λl ⟨x,e,z⟩=>by subst e;exact aM.one z
 | tau p=>exact fk.mono h (λ _ h=>h) λl ⟨x,e,z⟩=>by subst e;exact aM.one z
 | rep p=>exact fk.mono h (λ _ h=>h) λl ⟨x,e,z⟩=>by subst e;exact aM.one z
 | res b p=>exact fk.mono h (λ _ h=>h) λl ⟨x,e,z⟩=>by subst e;exact aM.one z
theorem tV (t:P):t.size=1+(t.parts.map T.size).sum:=by cases t<;>simp [T.size,T.parts]<;>omega
theorem vd {A:Type}(f:A->Nat)(l:List A){i:Nat}(h:i< l.length):(l.map f).sum=((l.take i).map f).sum+(f l[i]+((l.drop (i+1)).map f).sum)/\((l.take (i+1)).map f).sum=((l.take i).map f).sum+f l[i]:=by
 constructor
 ·have e:l=l.take i++(l[i]::l.drop (i+1)):=by rw [<-K0 h,Li]
  conv=>lhs;rw [e,K3,Nw,KE,Ld]
 ·rw [J8 h,K3,Nw];simp
theorem FG:∀(n:Nat) {D:Nat->Prop} {t:P} {v:Value} {w:World},t.size<=n->aI D w t v->t.size<=1099511627776->∀{R:Int->World->Prop},R (t.size:Int) w->Calls Tryz.prog 124 #[v] w (ax [.i] R):=by
 intro n
 induction n with
 | zero=>intro D t v w h;have :=a8 t;omega
 | succ n I=>
  intro D t v w hn J hl R h;refine oL v w R ?_;obtain⟨b,vs,l,rfl,h1,h2,h3,h4,h5,V,H,h8⟩:=J.inv;obtain⟨a,cap,W⟩:=H.slice;have e:=tV t;refine⟨b,0,rfl,vs,V,a,_,cap,W,λm x w'=>w'=w/\∃i:Nat,x=i/\i<=l.length/\m=(1+((t.parts.take i).map T.size).sum:Nat),λ _ x _=>(l.length - x).toNat,⟨rfl,0,rfl,by omega,by simp⟩,λm x w1 Z=>?_⟩;obtain⟨rfl,i,rfl,hi,rfl⟩:=Z;refine⟨λhc=>?_,λhc=>?_⟩
  ·have hc:=Kv hc;have z:i< l.length:=by omega
   have G:i< t.parts.length:=by rw [<-h8.1];exact z
   refine H.get (i:=i) (x:=l[i]) (by omega) (by simp [z]) ?_;have hk:=h8.2 i _ _ (J2 z) (J2 G);obtain⟨hs,α⟩:=vd T.size t.parts G;have β:=dX t;refine I (by omega) hk (by omega) ⟨by unfold aj;omega,by unfold aj;omega,⟨rfl,i+1,by omega,by omega,?_⟩,by dsimp only;omega⟩;omega
  ·have hc:=Kw hc;have:i=t.parts.length:=by rw [<-h8.1];omega
   subst this;rw [KA,<-e];exact h
structure Rd (w:World)(r:Nat)(s:Tx)(i:Nat)(bad:Bool):Prop where
 lt:r< w.heap.size
 le:i<=s.length
 c0:w.cell? ⟨r,0,none⟩=some (.string (ab s))
 c1:w.cell? ⟨r,1,none⟩=some (.int .i64 i)
 c2:w.cell? ⟨r,2,none⟩=some (.bool bad)
 f1:w.frozen? ⟨r,1,none⟩=false
 f2:w.frozen? ⟨r,2,none⟩=false
theorem Rd.same {w w':World}{r:Nat}{s:Tx}{i:Nat}{bad:Bool}(h:Rd w r s i bad)(I:w.heap.size<=w'.heap.size)(hb:w'.heap[r]?=w.heap[r]?):Rd w' r s i bad:=by
 obtain⟨J,h2,z,h4,h5,G,H⟩:=h;refine⟨by omega,h2,?_,?_,?_,?_,?_⟩
 ·rw [J1 (w:=w) hb];exact z
 ·rw [J1 (w:=w) hb];exact h4
 ·rw [J1 (w:=w) hb];exact h5
 ·rw [KC (w:=w) hb];exact G
 ·rw [KC (w:=w) hb];exact H
theorem Rd.setAt {w:World}{r:Nat}{s:Tx}{i j:Nat}{bad:Bool}(h:Rd w r s i bad)(z:j<=s.length):Rd (w.setCell ⟨r,1,none⟩ (.int .i64 j)) r s j bad:=
 ⟨by rw [KM];exact h.lt,z,by rw [J7 _ _ _ _ (by simp)];exact h.c0,Kj _ _ _ h.c1,by rw [J7 _ _ _ _ (by simp)];exact h.c2,by rw [Kt];exact h.f1,by rw [Kt];exact h.f2⟩
theorem Rd.wj {w:World}{r:Nat}{s:Tx}{i:Nat}{bad:Bool}(h:Rd w r s i bad):Rd (w.setCell ⟨r,2,none⟩ (.bool true)) r s i true:=
 ⟨by rw [KM];exact h.lt,h.le,by rw [J7 _ _ _ _ (by simp)];exact h.c0,by rw [J7 _ _ _ _ (by simp)];exact h.c1,Kj _ _ _ h.c2,by rw [Kt];exact h.f1,by rw [Kt];exact h.f2⟩
abbrev Kr (r:Nat)(w w':World):Prop:=Kp w w' λg=>g=r
theorem Kr.refl (r:Nat)(w:World):Kr r w w:=Kp.ah (Ex.refl w) _
theorem Kr.trans {r:Nat}{a b c:World}(h:Kr r a b)(k:Kr r b c):Kr r a c:=Kp.trans h k λ _ _ h=>h
theorem Kr.ex {r:Nat}{w w':World}(h:Ex w w'):Kr r w w':=Kp.ah h _
theorem Kr.set {r:Nat}(w:World)(j:Nat)(v:Value):Kr r w (w.setCell ⟨r,j,none⟩ v):=Kp.set (S:=λg=>g=r) (Kr.refl r w) rfl v
theorem Ij {w:World}{r:Nat}{s:Tx}{i:Nat}{bad:Bool}(hs:s.length<=1099511627776)(h:Rd w r s i bad){R:UInt8->World->Prop}
  (hR:∀w',Kr r w w'->Rd w' r s (if i< s.length then i+1 else i) (bad||decide (s.length<=i))->R (if i< s.length then bt s i else 0) w'):Calls Tryz.prog 207 #[ptr r] w (ax [.c] R):=by
 refine mO _ w R ?_;have hle:=h.le;refine⟨λw'=>Ex w w',λw1 J=>⟨J▸Ex.drew w,r,0,rfl,i,λw' G=>(h.same G.size (G.block r h.lt)).c1,r,0,rfl,s,λw' G=>(h.same G.size (G.block r h.lt)).c0,λhc=>?_,λhc=>?_⟩⟩
 ·have z:Ex w w1:=J▸Ex.drew w;have I:=h.same z.size (z.block r h.lt);have hc:=Kv hc;refine⟨r,0,rfl,⟨⟨_,I.c2⟩,I.f2⟩,λw2 H=>?_⟩;subst H;have :=hR _ (Kr.trans (Kr.ex z) (Kr.set w1 2 _)) (by
   rw [Ko (by omega),show decide (s.length<=i)=true from Lc (by omega),Bool.or_true];exact I.wj)
  rw [Ko (by omega)]at this;exact this
 ·have z:Ex w w1:=J▸Ex.drew w;have I:=h.same z.size (z.block r h.lt);have hc:=Kw hc;have W:i< s.length:=by omega
  refine⟨r,0,rfl,i,I.c1,by unfold aj;omega,r,0,rfl,⟨⟨_,I.c1⟩,I.f1⟩,λw2 H=>?_⟩;have e:((i:Int)+1)=((i+1:Nat):Int):=by omega
  rw [e]at H;have h2:Rd w2 r s (i+1) bad:=H▸I.setAt (by omega);have k2:Kr r w w2:=H▸Kr.trans (Kr.ex z) (Kr.set w1 1 _);refine⟨λw'=>Ex w2 w',λw3 Z=>⟨Z▸Ex.drew w2,r,0,rfl,s,λw' G=>(h2.same G.size (G.block r h2.lt)).c0,r,0,rfl,(i+1:Nat),λw' G=>(h2.same G.size (G.block r h2.lt)).c1,by unfold aj;omega,⟨by omega,by omega⟩,?_⟩⟩;have V:Ex w2 w3:=Z▸Ex.drew w2;have e2:Int.toNat (((i+1:Nat):Int) - 1)=i:=by omega
  rw [e2];have :=hR w3 (Kr.trans k2 (Kr.ex V)) (by
   rw [KG W,show decide (s.length<=i)=false from Lj (by omega),Ms];exact h2.same V.size (V.block r h2.lt))
  rw [KG W]at this;exact this
theorem sZ {c:UInt8}{w:World}{R:Bool->World->Prop}(h:R (lt c) w):Calls Tryz.prog 128 #[.int .u8 c.toNat] w (ax [.b] R):=by
 refine pN c w R ?_;unfold lt at h;refine⟨λhc=>?_,λhc=>?_⟩
 ·rw [hc]at h;simpa using h
 ·rw [hc]at h;simpa using h
structure Nx (s:Tx)(i:Nat)(bad:Bool)(ok:UInt8->Prop)(c:UInt8)(j:Nat)(bad':Bool):Prop where
 le:i<=j
 fine:bad'=false->bad=false/\i< s.length/\j=i+1/\c=bt s i/\ok c
 good:bad=false->i< s.length->ok (bt s i)->bad'=false
theorem pn {w:World}{r:Nat}{s:Tx}{i:Nat}{bad:Bool}(z:s.length<=1099511627776)(h:Rd w r s i bad){R:UInt8->World->Prop}
  (G:∀c j bad' w',Kr r w w'->Rd w' r s j bad'->Nx s i bad (λ _=>True) c j bad'->R c w'):Calls Tryz.prog 207 #[ptr r] w (ax [.c] R):=by
 refine Ij z h λw' k H=>G _ _ _ w' k H ⟨by split<;>omega,λhb=>?_,λhb I _=>?_⟩
 ·simp only [Ls,J6]at hb;rw [KG (by omega),KG (by omega)];exact⟨hb.1,by omega,rfl,rfl,trivial⟩
 ·rw [hb,MH];exact Lj (by omega)
theorem wk {w:World}{r:Nat}{s:Tx}{i:Nat}{bad:Bool}(W:s.length<=1099511627776)(h:Rd w r s i bad){R:UInt8->World->Prop}
  (J:∀c j bad' w',Kr r w w'->Rd w' r s j bad'->Nx s i bad (λc=>lt c=true) c j bad'->R c w'):Calls Tryz.prog 208 #[ptr r] w (ax [.c] R):=by
 refine mT _ w R ?_;refine pn W h λc j bad' w1 V G z=>sZ ⟨λhc=>?_,λhc=>?_⟩
 ·refine⟨r,0,rfl,⟨⟨_,G.c2⟩,G.f2⟩,λw2 H=>?_⟩;subst H;refine J c j true _ (Kr.trans V (Kr.set w1 2 _)) G.wj ⟨z.le,λhb=>(by cases hb),λhb I Z=>?_⟩;obtain⟨_,_,_,e,_⟩:=z.fine (z.good hb I trivial);rw [e]at hc;rw [Z]at hc;cases hc
 ·refine J c j bad' w1 V G ⟨z.le,λhb=>?_,λhb I _=>z.good hb I trivial⟩;obtain⟨a,b,c,d,_⟩:=z.fine hb;exact⟨a,b,c,d,by simpa using hc⟩
theorem pR {w:World}{r:Nat}{s:Tx}{i:Nat}{bad:Bool}{c:UInt8}(W:s.length<=1099511627776)(h:Rd w r s i bad){R:World->Prop}
  (J:∀j bad' w',Kr r w w'->Rd w' r s j bad'->Nx s i bad (λd=>d=c) c j bad'->R w'):Calls Tryz.prog 209 #[ptr r,.int .u8 c.toNat] w (ax [] R):=by
 refine mU _ c w R ?_;refine pn W h λd j bad' w1 V G z=>⟨λhc=>?_,λhc=>?_⟩
 ·refine⟨r,0,rfl,⟨⟨_,G.c2⟩,G.f2⟩,λw2 H=>?_⟩;subst H;refine J j true _ (Kr.trans V (Kr.set w1 2 _)) G.wj ⟨z.le,λhb=>(by cases hb),λhb I Z=>?_⟩;obtain⟨_,_,_,e,_⟩:=z.fine (z.good hb I trivial);rw [e,Z]at hc;simp at hc
 ·have hc:d=c:=by simpa using hc
  subst hc;refine J j bad' w1 V G ⟨z.le,λhb=>?_,λhb I _=>z.good hb I trivial⟩;obtain⟨a,b,c,d,_⟩:=z.fine hb;exact⟨a,b,c,d,rfl⟩
structure Nd (w:World)(b:Nat)(k a c:UInt8)(vs:Value):Prop where
 lt:b< w.heap.size
 c0:w.cell? ⟨b,0,none⟩=some (.int .u8 k.toNat)
 c1:w.cell? ⟨b,1,none⟩=some (.int .u8 a.toNat)
 c2:w.cell? ⟨b,2,none⟩=some (.int .u8 c.toNat)
 c3:w.cell? ⟨b,3,none⟩=some vs
 f:∀j,w.frozen? ⟨b,j,none⟩=false
theorem Nd.same {w w':World}{b:Nat}{k a c:UInt8}{vs:Value}(h:Nd w b k a c vs)(H:w.heap.size<=w'.heap.size)(hb:w'.heap[b]?=w.heap[b]?):Nd w' b k a c vs:=by
 obtain⟨I,h2,z,h4,h5,G⟩:=h;refine⟨by omega,?_,?_,?_,?_,λj=>?_⟩
 ·rw [J1 (w:=w) hb];exact h2
 ·rw [J1 (w:=w) hb];exact z
 ·rw [J1 (w:=w) hb];exact h4
 ·rw [J1 (w:=w) hb];exact h5
 ·rw [KC (w:=w) hb];exact G j
structure TS (w0 w:World)(r b:Nat)(s:Tx)(i:Nat)(bad:Bool)(k a c:UInt8)(vs:Value):Prop where
 rd:Rd w r s i bad
 nd:Nd w b k a c vs
 kr:Kr r w0 w
 hr:r< w0.heap.size
 hb:w0.heap.size<=b
section
variable {w0 w w':World} {r b:Nat} {s:Tx} {i j:Nat} {bad bad':Bool} {k a c x:UInt8} {vs:Value}
theorem TS.go (h:TS w0 w r b s i bad k a c vs)(kr:Kr r w w')(hr:Rd w' r s j bad'):TS w0 w' r b s j bad' k a c vs:=by
 have :=h.hr;have :=h.hb;exact⟨hr,h.nd.same kr.size (kr.block b h.nd.lt (by omega)),Kr.trans h.kr kr,h.hr,h.hb⟩
theorem TS.ex (h:TS w0 w r b s i bad k a c vs)(z:Ex w w'):TS w0 w' r b s i bad k a c vs:=h.go (Kr.ex z) (h.rd.same z.size (z.block r h.rd.lt))
theorem TS.rD (h:TS w0 w r b s i bad k a c vs)(j:Nat)(v:Value):Rd (w.setCell ⟨b,j,none⟩ v) r s i bad/\Kr r w0 (w.setCell ⟨b,j,none⟩ v):=by
 have H:=h.hr;have h2:=h.hb;refine⟨h.rd.same (by rw [KM];exact Kb _) (Mz _ _ _ _ (show r≠b by omega)),⟨h.kr.os,h.kr.tape,h.kr.output,by rw [KM];exact h.kr.size,λg z G=>?_⟩⟩;rw [Mz _ _ _ _ (show g≠b by omega)];exact h.kr.block g z G
theorem TS.Bv (h:TS w0 w r b s i bad k a c vs)(hw:w'=w.setCell ⟨b,0,none⟩ (.int .u8 x.toNat)):TS w0 w' r b s i bad x a c vs:=by
 subst hw;obtain⟨z,h2⟩:=h.rD 0 (.int .u8 x.toNat);exact⟨z,⟨by rw [KM];exact h.nd.lt,Kj _ _ _ h.nd.c0,by rw [J7 _ _ _ _ (by simp)];exact h.nd.c1,by rw [J7 _ _ _ _ (by simp)];exact h.nd.c2,by rw [J7 _ _ _ _ (by simp)];exact h.nd.c3,λj=>by rw [Kt];exact h.nd.f j⟩,h2,h.hr,h.hb⟩
theorem TS.yn (h:TS w0 w r b s i bad k a c vs)(hw:w'=w.setCell ⟨b,1,none⟩ (.int .u8 x.toNat)):TS w0 w' r b s i bad k x c vs:=by
 subst hw;obtain⟨z,h2⟩:=h.rD 1 (.int .u8 x.toNat);exact⟨z,⟨by rw [KM];exact h.nd.lt,by rw [J7 _ _ _ _ (by simp)];exact h.nd.c0,Kj _ _ _ h.nd.c1,by rw [J7 _ _ _ _ (by simp)];exact h.nd.c2,by rw [J7 _ _ _ _ (by simp)];exact h.nd.c3,λj=>by rw [Kt];exact h.nd.f j⟩,h2,h.hr,h.hb⟩
theorem TS.tU (h:TS w0 w r b s i bad k a c vs)(hw:w'=w.setCell ⟨b,2,none⟩ (.int .u8 x.toNat)):TS w0 w' r b s i bad k a x vs:=by
 subst hw;obtain⟨z,h2⟩:=h.rD 2 (.int .u8 x.toNat);exact⟨z,⟨by rw [KM];exact h.nd.lt,by rw [J7 _ _ _ _ (by simp)];exact h.nd.c0,by rw [J7 _ _ _ _ (by simp)];exact h.nd.c1,Kj _ _ _ h.nd.c2,by rw [J7 _ _ _ _ (by simp)];exact h.nd.c3,λj=>by rw [Kt];exact h.nd.f j⟩,h2,h.hr,h.hb⟩
theorem TS.BQ (h:TS w0 w r b s i bad k a c vs){v:Value}(hw:w'=w.setCell ⟨b,3,none⟩ v):TS w0 w' r b s i bad k a c v:=by
 subst hw;obtain⟨z,h2⟩:=h.rD 3 v;exact⟨z,⟨by rw [KM];exact h.nd.lt,by rw [J7 _ _ _ _ (by simp)];exact h.nd.c0,by rw [J7 _ _ _ _ (by simp)];exact h.nd.c1,by rw [J7 _ _ _ _ (by simp)];exact h.nd.c2,Kj _ _ _ h.nd.c3,λj=>by rw [Kt];exact h.nd.f j⟩,h2,h.hr,h.hb⟩
theorem TS.EE (h:TS w0 w r b s i bad k a c vs)(hw:w'=w.setCell ⟨r,2,none⟩ (.bool true)):TS w0 w' r b s i true k a c vs:=by
 subst hw;exact h.go (Kr.set w 2 _) h.rd.wj
theorem TS.cell (h:TS w0 w r b s i bad k a c vs):((∃u:Value,w.cell? ⟨b,0,none⟩=some u)/\w.frozen? ⟨b,0,none⟩=false)/\((∃u:Value,w.cell? ⟨b,1,none⟩=some u)/\w.frozen? ⟨b,1,none⟩=false)/\
  ((∃u:Value,w.cell? ⟨b,2,none⟩=some u)/\w.frozen? ⟨b,2,none⟩=false)/\((∃u:Value,w.cell? ⟨b,3,none⟩=some u)/\w.frozen? ⟨b,3,none⟩=false)/\((∃u:Value,w.cell? ⟨r,2,none⟩=some u)/\w.frozen? ⟨r,2,none⟩=false):=
 ⟨⟨⟨_,h.nd.c0⟩,h.nd.f 0⟩,⟨⟨_,h.nd.c1⟩,h.nd.f 1⟩,⟨⟨_,h.nd.c2⟩,h.nd.f 2⟩,⟨⟨_,h.nd.c3⟩,h.nd.f 3⟩,⟨⟨_,h.rd.c2⟩,h.rd.f2⟩⟩
end
structure Rs (D:Nat->Prop)(w:World)(s:Tx)(i j:Nat)(bad bad':Bool)(v:Value):Prop where
 le:i<=j
 ptr:∃b,v=ptr b
 fine:bad'=false->bad=false/\∃t:P,t.Al (λc=>lt c=true)/\s.drop i=t.text++s.drop j/\aI D w t v
 good:bad=false->(∃(t:P) (r':Tx),t.Al (λc=>lt c=true)/\s.drop i=t.text++r')->bad'=false
def uK (s:Tx)(n:Nat):Prop:=∀{r i:Nat} {bad:Bool} {w:World} {R:Value->World->Prop},Rd w r s i bad->(bad=false->s.length - i< n)->
 (∀v w' j bad',Kr r w w'->Rd w' r s j bad'->Rs (λg=>w.heap.size<=g) w' s i j bad bad' v->R v w')->Calls Tryz.prog 166 #[Proofs.YtdecokaadekjnaaGreat.ptr r] w (ax [.v] R)
theorem D4 {s:Tx}{n:Nat}(δ:uK s n){w0 w:World}{r b i:Nat}{bad:Bool}{k a c:UInt8}{vs:Value}(h:TS w0 w r b s i bad k a c vs)(hm:bad=false->s.length - i< n){R:Value->World->Prop}
  (hR:∀w' j bad' x J,TS w0 w' r b s j bad' k a c J->eF (λg=>w0.heap.size<=g) w' J [x]->Rs (λg=>w0.heap.size<=g) w' s i j bad bad' x->R (ptr b) w'):
  Calls Tryz.prog 166 #[ptr r] w (ax [.v] fun(v28:Value) (V:World)=>oneV v28=true/\∀(b30:Nat) (z:World),b30=Array.size (World.heap V)->z=World.alloc V (Obj.cells #[v28] 88)->
   oneV (Value.slice (some ⟨b30,0,none⟩) 1 1)=true/\((∃u32:Value,World.cell? z ⟨b,3,none⟩=some u32)/\World.frozen? z ⟨b,3,none⟩=false)/\∀W:World,W=World.setCell z ⟨b,3,none⟩ (Value.slice (some ⟨b30,0,none⟩) 1 1)->R (Value.pointer (some ⟨b,0,none⟩)) W):=by
 refine δ h.rd hm λv w1 j bad' k1 h1 Z=>?_
 obtain⟨bv,ε⟩:=Z.ptr;have t1:=h.go k1 h1;refine⟨by rw [ε];rfl,λb2 w2 α H=>⟨rfl,?_⟩⟩;have β:Ex w1 w2:=H▸Ex.alloc w1 _;have t2:=t1.ex β;refine⟨t2.cell.2.2.2.1,λw3 G=>?_⟩;have t3:=t2.BQ G;have hb:=h.hb;have μ:=t2.nd.lt;have θ:=k1.size;have ι:=h.kr.size;have κ:=t1.nd.lt;have hK:Kp w2 w3 λg=>g=b:=G▸Kp.set (S:=λg=>g=b) (Kp.ah (Ex.refl w2) _) rfl _
 have ν:b< w.heap.size:=h.nd.lt;refine hR w3 j bad' v _ t3 (.inr ⟨b2,0,1,rfl,by omega,?_,λi x I=>?_⟩) ⟨Z.le,Z.ptr,λζ=>?_,Z.good⟩
 ·rw [G,KM,H,size_alloc,<-α];omega
 ·match i,I with
  | 0,I=>
   simp at I;subst I;rw [G,J7 _ _ _ _ (by simp),H,α];exact aa rfl
  | i+1,I=>simp at I
 ·obtain⟨e1,t,ht,e2,η⟩:=Z.fine ζ;refine⟨e1,t,ht,e2,?_⟩;have γ:aI (λg=>w.heap.size<=g) w2 t v:=aI.kp (Kp.ah β λ _=>False) (λ _ _ h=>h) η;exact aI.mono (λg hg=>by omega) (aI.kp hK (λg hg e=>by omega) γ)
theorem bf {s:Tx}{i:Nat}(h:i< s.length):s.drop i=bt s i::s.drop (i+1):=bJ h
theorem fk.of {D:Nat->Prop}{w0 w:World}{r b:Nat}{s:Tx}{i:Nat}{bad:Bool}{k a c:UInt8}{vs:Value}{l:List Value}{K:List Value->Prop}(h:TS w0 w r b s i bad k a c vs)(z:D b)(G:eF D w vs l)(H:K l):fk D w (ptr b) k a c K:=
 ⟨b,vs,l,rfl,z,h.nd.lt,h.nd.c0,h.nd.c1,h.nd.c2,h.nd.c3,G,H⟩
theorem dw {s:Tx}{i:Nat}{c:UInt8}{r:Tx}(h:s.drop i=c::r):i< s.length/\bt s i=c/\s.drop (i+1)=r:=drop_cons h
theorem Ic (s:Tx)(hs:s.length<=1099511627776):∀n,uK s n:=by
 intro n;have main:∀n,(∀m,m+1=n->uK s m)->uK s n:=by
  intro n ih r i bad w R hrd hm hR;refine nj _ w R ?_;intro b w1 hb hw1;have ς:Ex w w1:=hw1▸Ex.alloc w _;have hrl:=hrd.lt;have hsz1:w1.heap.size=w.heap.size+1:=by rw [hw1,size_alloc]
  have t1:TS w w1 r b s i bad 48 0 0 (.slice none 0 0):=by
   refine⟨hrd.same ς.size (ς.block r hrl),⟨by omega,?_,?_,?_,?_,λj=>?_⟩,Kr.ex ς,hrl,by omega⟩
   ·rw [hw1,hb];exact aa rfl
   ·rw [hw1,hb];exact aa rfl
   ·rw [hw1,hb];exact aa rfl
   ·rw [hw1,hb];exact aa rfl
   ·rw [hw1,hb];unfold World.frozen? World.alloc;simp
  have hD:w.heap.size<=b:=by omega
  refine⟨r,0,rfl,bad,t1.rd.c2,λhq=>?_,λhq=>?_⟩
  ·exact hR _ _ _ _ t1.kr t1.rd ⟨Kb _,⟨b,rfl⟩,λH=>(by rw [hq]at H;cases H),λH=>(by rw [hq]at H;cases H)⟩
  obtain⟨n,rfl⟩:∃m,n=m+1:=⟨n - 1,by have :=hm hq;omega⟩
  have iht:uK s n:=ih n rfl;have hm:=hm hq;subst hq;refine pn hs t1.rd λc7 j7 bad7 w8 k8 h8 hn=>?_
  have t8:=t1.go k8 h8;have hj7:=h8.le;have first:bad7=false->i< s.length/\j7=i+1/\c7=bt s i:=λH=>by
   obtain⟨_,a,b,c,_⟩:=hn.fine H;exact⟨a,b,c⟩
  have G:∀{c:UInt8} {x:Tx},s.drop i=c::x->bad7=false/\c7=c/\s.drop j7=x:=λh=>by
   obtain⟨a,b,c⟩:=dw h;have H:=hn.good rfl a trivial;obtain⟨_,e1,e2⟩:=first H;exact⟨H,by rw [e2,b],by rw [e1];exact c⟩
  refine⟨λhc=>?_,λhc=>?_⟩
  ·have hc:=Kv hc;refine hR _ _ j7 bad7 t8.kr t8.rd ⟨hn.le,⟨b,rfl⟩,λH=>?_,λ _ ⟨t,r',Z,e⟩=>?_⟩
   ·obtain⟨a1,a2,a3⟩:=first H;refine⟨rfl,.nil,trivial,?_,fk.of t8 hD (.inl ⟨rfl,rfl⟩) rfl⟩;rw [bf a1,<-a3,hc,a2];rfl
   ·cases ht':t.text with
    | nil=>have :=EG t;rw [ht']at this;simp at this
    | cons d x=>rw [ht',K4]at e;exact(G e).1
  have hc0:c7≠48:=Kw hc;refine sZ ⟨λhl=>?_,λhl=>?_⟩
  ·
   refine pn hs t8.rd λJ j11 V w12 k12 h12 ψ=>?_
   have t12:=t8.go k12 h12;refine⟨t12.cell.2.1,λw14 hw14=>?_⟩;have t14:=t12.yn hw14;refine⟨t14.cell.1,λw16 hw16=>?_⟩;have t16:=t14.Bv hw16;have rest:∀{wx:World} {I:Bool},TS w wx r b s j11 I J c7 0 (.slice none 0 0)->(I=false->V=false/\(J=33\/J=63))->(V=false->(J=33\/J=63)->I=false)->
     ∀{K:UInt8->World->Prop},(∀κ υ α w24,TS w w24 r b s υ α J c7 0 (.slice none 0 0)->Nx s j11 I (λc=>lt c=true) κ υ α->K κ w24)->
     Calls Tryz.prog 208 #[ptr r] wx (ax [.c] K):=by
    intro wx I tx _ _ K hK;exact wk hs tx.rd λc j bad' w' k' h' hn'=>hK c j bad' w' (tx.go k' h') hn'
   have fin:∀{I:Bool} {κ:UInt8} {υ:Nat} {α:Bool} {w24 w26:World},(I=false->V=false/\(J=33\/J=63))->(V=false->(J=33\/J=63)->I=false)->Nx s j11 I (λc=>lt c=true) κ υ α->
     TS w w26 r b s υ α J c7 κ (.slice none 0 0)->Calls Tryz.prog 209 #[ptr r,.int .u8 46] w26 (ax [] λw27=>Calls Tryz.prog 166 #[ptr r] w27 (ax [.v] fun(v28:Value) (w29:World)=>oneV v28=true/\∀(b30:Nat) (φ:World),b30=Array.size (World.heap w29)->φ=World.alloc w29 (Obj.cells #[v28] 88)->
      oneV (Value.slice (some ⟨b30,0,none⟩) 1 1)=true/\((∃u32:Value,World.cell? φ ⟨b,3,none⟩=some u32)/\World.frozen? φ ⟨b,3,none⟩=false)/\∀w33:World,w33=World.setCell φ ⟨b,3,none⟩ (Value.slice (some ⟨b30,0,none⟩) 1 1)->R (Value.pointer (some ⟨b,0,none⟩)) w33)):=by
    intro I κ υ α w24 w26 ς hx2 δ t26;refine pR (c:=46) hs t26.rd λj27 bad27 w27 k27 h27 ω=>?_
    have t27:=t26.go k27 h27;refine D4 iht t27 (λH=>?_) λw' j bad' x vs' t' hsl hrs=>?_
    ·obtain⟨a1,a2,a3,_⟩:=ω.fine H;obtain⟨b1,b2,b3,_⟩:=δ.fine a1;obtain⟨c1,c2,c3,_⟩:=ψ.fine (ς b1).1;obtain⟨_,d2,d3⟩:=first c1;omega
    ·refine hR _ _ j bad' t'.kr t'.rd ⟨?_,⟨b,rfl⟩,λH=>?_,λ _ ⟨t,r',Z,e⟩=>?_⟩
     ·have :=hn.le;have :=ψ.le;have :=δ.le;have :=ω.le;have :=hrs.le;omega
     ·obtain⟨e1,t,Z,e2,hat⟩:=hrs.fine H;obtain⟨a1,a2,a3,a4,a5⟩:=ω.fine e1;obtain⟨b1,b2,b3,b4,b5⟩:=δ.fine a1;obtain⟨b0,hk⟩:=ς b1;obtain⟨c1,c2,c3,c4,_⟩:=ψ.fine b0;obtain⟨d1,d2,d3⟩:=first c1;have ε:s.drop i=c7::J::κ::46::(t.text++s.drop j):=by
       rw [bf d1,<-d3,<-d2,bf c2,<-c4,<-c3,bf b2,<-b4,<-b3,bf a2,<-a4,<-a3,e2]
      rcases hk with hk | hk
      ·subst hk;exact⟨rfl,.snd c7 κ t,⟨hl,b5,Z⟩,ε,fk.of t' hD hsl ⟨x,rfl,hat⟩⟩
      ·subst hk;exact⟨rfl,.rcv c7 κ t,⟨hl,b5,Z⟩,ε,fk.of t' hD hsl ⟨x,rfl,hat⟩⟩
     ·have key:∀{a d x:UInt8} {p:P},(d=33\/d=63)->lt x=true->p.Al (λc=>lt c=true)->s.drop i=a::d::x::46::(p.text++r')->bad'=false:=by
       intro a d x p hd hx hp he;obtain⟨f1,f2,f3⟩:=G he;obtain⟨g1,g2,g3⟩:=dw f3;have f4:=ψ.good f1 g1 trivial;obtain⟨_,_,h3,h4,_⟩:=ψ.fine f4;rw [<-h3]at g3;obtain⟨k1,k2,k3⟩:=dw g3;have hkd:J=33\/J=63:=by rw [h4,g2];exact hd
       have f5:=δ.good (hx2 f4 hkd) k1 (by rw [k2];exact hx);obtain⟨_,_,l3,l4,_⟩:=δ.fine f5;rw [<-l3]at k3;obtain⟨m1,m2,m3⟩:=dw k3;have f6:=ω.good f5 m1 m2;obtain⟨_,_,o3,o4,_⟩:=ω.fine f6;rw [<-o3]at m3;exact hrs.good f6 ⟨p,r',hp,m3⟩
      cases t with
      | snd a x p=>exact key (.inl rfl) Z.2.1 Z.2.2 e
      | rcv a x p=>exact key (.inr rfl) Z.2.1 Z.2.2 e
      | nil=>exact absurd (G (c:=48) e).2.1 hc0
      | tau p=>have :=(G (c:=126) e).2.1;rw [this]at hl;exact absurd hl (by decide)
      | res y p=>have :=(G (c:=35) e).2.1;rw [this]at hl;exact absurd hl (by decide)
      | mat y z p=>have :=(G (c:=91) e).2.1;rw [this]at hl;exact absurd hl (by decide)
      | rep p=>have :=(G (c:=42) e).2.1;rw [this]at hl;exact absurd hl (by decide)
      | sum p q=>have :=(G (c:=40) e).2.1;rw [this]at hl;exact absurd hl (by decide)
      | par p q=>have :=(G (c:=40) e).2.1;rw [this]at hl;exact absurd hl (by decide)
   refine⟨J,t16.nd.c0,λθ=>⟨J,t16.nd.c0,λι=>⟨r,0,rfl,t16.cell.2.2.2.2,λw22 hw22=>?_⟩,λι=>?_⟩,λθ=>?_⟩
   ·have t22:=t16.EE hw22;have θ:¬J=33:=by simpa using θ
    have ι:¬J=63:=by simpa using ι
    have x1:true=false->V=false/\(J=33\/J=63):=λh=>by cases h
    have x2:V=false->(J=33\/J=63)->true=false:=λ _ h=>by rcases h with h | h<;>contradiction
    refine rest t22 x1 x2 λκ υ α w24 t24 δ=>⟨t24.cell.2.2.1,λw26 hw26=>fin (w24:=w24) x1 x2 δ (t24.tU hw26)⟩
   ·have ι:J=63:=by simpa using ι
    have x1:V=false->V=false/\(J=33\/J=63):=λh=>⟨h,.inr ι⟩
    have x2:V=false->(J=33\/J=63)->V=false:=λh _=>h
    refine rest t16 x1 x2 λκ υ α w24 t24 δ=>⟨t24.cell.2.2.1,λw26 hw26=>fin (w24:=w24) x1 x2 δ (t24.tU hw26)⟩
   ·have θ:J=33:=by simpa using θ
    have x1:V=false->V=false/\(J=33\/J=63):=λh=>⟨h,.inl θ⟩
    have x2:V=false->(J=33\/J=63)->V=false:=λh _=>h
    refine rest t16 x1 x2 λκ υ α w24 t24 δ=>⟨t24.cell.2.2.1,λw26 hw26=>fin (w24:=w24) x1 x2 δ (t24.tU hw26)⟩
  have W:∀{a:UInt8} {x:Tx},lt a=true->s.drop i=a::x->False:=λha he=>by
   rw [(G he).2.1]at hl;rw [hl]at ha;cases ha
  have one:∀{wx:World} {jx:Nat} {I:Bool} {k a c:UInt8} (hd:Tx) (mk:P->P),TS w wx r b s jx I k a c (.slice none 0 0)->i<=jx->
    (I=false->i< jx/\s.drop i=hd++s.drop jx)->(I=false->∀p,(mk p).text=hd++p.text)->(I=false->∀p:P,p.Al (λc=>lt c=true)->(mk p).Al (λc=>lt c=true))->
    (∀{D:Nat->Prop} {w':World} {v:Value} {p:P},(fk D w' v k a c λl=>∃x,l=[x]/\aI D w' p x)->I=false->aI D w' (mk p) v)->
    (∀(t:P) (r':Tx),t.Al (λc=>lt c=true)->s.drop i=t.text++r'->I=false/\∃p:P,p.Al (λc=>lt c=true)/\s.drop jx=p.text++r')->
    Calls Tryz.prog 166 #[ptr r] wx (ax [.v] fun(v28:Value) (w29:World)=>oneV v28=true/\∀(b30:Nat) (φ:World),b30=Array.size (World.heap w29)->φ=World.alloc w29 (Obj.cells #[v28] 88)->
     oneV (Value.slice (some ⟨b30,0,none⟩) 1 1)=true/\((∃u32:Value,World.cell? φ ⟨b,3,none⟩=some u32)/\World.frozen? φ ⟨b,3,none⟩=false)/\∀w33:World,w33=World.setCell φ ⟨b,3,none⟩ (Value.slice (some ⟨b30,0,none⟩) 1 1)->R (Value.pointer (some ⟨b,0,none⟩)) w33):=by
   intro wx jx I k a c hd mk tx hle hpos htx hal hat hgood;have hjx:=tx.rd.le;refine D4 iht tx (λH=>by have :=(hpos H).1;omega) λw' j bad' x vs' t' hsl hrs=>?_
   refine hR _ _ j bad' t'.kr t'.rd ⟨by have :=hrs.le;omega,⟨b,rfl⟩,λH=>?_,λ _ ⟨t,r',Z,e⟩=>?_⟩
   ·obtain⟨e1,p,hp,e2,hpa⟩:=hrs.fine H;refine⟨rfl,mk p,hal e1 p hp,?_,hat (fk.of t' hD hsl ⟨x,rfl,hpa⟩) e1⟩;rw [(hpos e1).2,htx e1,e2,KN]
   ·obtain⟨e1,p,hp,e2⟩:=hgood t r' Z e;exact hrs.good e1 ⟨p,r',hp,e2⟩
  refine⟨λhc=>?_,λhc=>?_⟩
  ·
   have hc:c7=126:=Kv hc;refine⟨t8.cell.1,λw57 μ=>?_⟩;rw [hc]at μ;have t57:=t8.Bv μ;refine pR (c:=46) hs t57.rd λj58 bad58 w58 k58 h58 hn58=>?_
   have t58:=t57.go k58 h58;refine one [126,46] .tau t58 (by have :=hn.le;have :=hn58.le;omega) (λH=>?_) (λ _ p=>rfl) (λ _ p hp=>hp) (λh _=>h) λt r' Z e=>?_
   ·obtain⟨a1,a2,a3,a4,a5⟩:=hn58.fine H;obtain⟨d1,d2,d3⟩:=first a1;refine⟨by omega,?_⟩;rw [bf d1,<-d3,<-d2,bf a2,<-a4,<-a3,hc];rfl
   ·cases t with
    | tau p=>
     obtain⟨f1,f2,f3⟩:=G (c:=126) e;obtain⟨g1,g2,g3⟩:=dw (c:=46) f3;have f4:=hn58.good f1 g1 g2;obtain⟨_,_,h3,_⟩:=hn58.fine f4;exact⟨f4,p,Z,by rw [h3];exact g3⟩
    | nil=>exact absurd (G (c:=48) e).2.1 hc0
    | snd a x p=>exact(W Z.1 e).elim
    | rcv a x p=>exact(W Z.1 e).elim
    | res y p=>have :=(G (c:=35) e).2.1;rw [this]at hc;exact absurd hc (by decide)
    | mat y z p=>have :=(G (c:=91) e).2.1;rw [this]at hc;exact absurd hc (by decide)
    | rep p=>have :=(G (c:=42) e).2.1;rw [this]at hc;exact absurd hc (by decide)
    | sum p q=>have :=(G (c:=40) e).2.1;rw [this]at hc;exact absurd hc (by decide)
    | par p q=>have :=(G (c:=40) e).2.1;rw [this]at hc;exact absurd hc (by decide)
  have hc1:c7≠126:=Kw hc;refine⟨λhc=>?_,λhc=>?_⟩
  ·
   have hc:c7=35:=Kv hc;refine wk hs t8.rd λc65 j65 bad65 w66 k66 h66 hn66=>?_
   have t66:=t8.go k66 h66;refine⟨t66.cell.1,λw68 hw68=>?_⟩;rw [hc]at hw68;have t68:=t66.Bv hw68;refine⟨t68.cell.2.2.1,λw70 hw70=>?_⟩;have t70:=t68.tU hw70;refine pR (c:=46) hs t70.rd λj71 bad71 w71 k71 h71 hn71=>?_
   have t71:=t70.go k71 h71;have fx:bad71=false->lt c65=true:=λH=>(hn66.fine (hn71.fine H).1).2.2.2.2
   refine one [35,c65,46] (.res c65) t71 (by have :=hn.le;have :=hn66.le;have :=hn71.le;omega) (λH=>?_) (λ _ p=>rfl) (λH p hp=>⟨fx H,hp⟩) (λh _=>h) λt r' Z e=>?_
   ·obtain⟨a1,a2,a3,a4,a5⟩:=hn71.fine H;obtain⟨b1,b2,b3,b4,b5⟩:=hn66.fine a1;obtain⟨d1,d2,d3⟩:=first b1;refine⟨by omega,?_⟩;rw [bf d1,<-d3,<-d2,bf b2,<-b4,<-b3,bf a2,<-a4,<-a3,hc];rfl
   ·cases t with
    | res y p=>
     obtain⟨f1,f2,f3⟩:=G (c:=35) e;obtain⟨g1,g2,g3⟩:=dw (c:=y) f3;have f4:=hn66.good f1 g1 (by rw [g2];exact Z.1);obtain⟨_,_,h3,h4,_⟩:=hn66.fine f4;rw [<-h3]at g3;obtain⟨m1,m2,m3⟩:=dw (c:=46) g3;have f6:=hn71.good f4 m1 m2;obtain⟨_,_,o3,_⟩:=hn71.fine f6;exact⟨f6,p,Z.2,by rw [o3];exact m3⟩
    | nil=>exact absurd (G (c:=48) e).2.1 hc0
    | snd a x p=>exact(W Z.1 e).elim
    | rcv a x p=>exact(W Z.1 e).elim
    | tau p=>exact absurd (G (c:=126) e).2.1 hc1
    | mat y z p=>have :=(G (c:=91) e).2.1;rw [this]at hc;exact absurd hc (by decide)
    | rep p=>have :=(G (c:=42) e).2.1;rw [this]at hc;exact absurd hc (by decide)
    | sum p q=>have :=(G (c:=40) e).2.1;rw [this]at hc;exact absurd hc (by decide)
    | par p q=>have :=(G (c:=40) e).2.1;rw [this]at hc;exact absurd hc (by decide)
  have hc2:c7≠35:=Kw hc;refine⟨λhc=>?_,λhc=>?_⟩
  ·
   have hc:c7=91:=Kv hc;refine wk hs t8.rd λc78 j78 bad78 w79 k79 h79 hn79=>?_
   have t79:=t8.go k79 h79;refine⟨t79.cell.1,λw80 hw80=>?_⟩;have t80:=t79.Bv (x:=61) hw80;refine⟨t80.cell.2.1,λw81 hw81=>?_⟩;have t81:=t80.yn hw81;refine pR (c:=61) hs t81.rd λj82 bad82 w82 k82 h82 hn82=>?_
   have t82:=t81.go k82 h82;refine wk hs t82.rd λc83 j83 bad83 w83 k83 h83 hn83=>?_
   have t83:=t82.go k83 h83;refine⟨t83.cell.2.2.1,λw84 hw84=>?_⟩;have t84:=t83.tU hw84;refine pR (c:=93) hs t84.rd λj85 bad85 w85 k85 h85 hn85=>?_
   have t85:=t84.go k85 h85;have fx:bad85=false->lt c78=true/\lt c83=true:=λH=>by
    obtain⟨a1,_⟩:=hn85.fine H;obtain⟨b1,_,_,_,b5⟩:=hn83.fine a1;obtain⟨c1,_⟩:=hn82.fine b1;exact⟨(hn79.fine c1).2.2.2.2,b5⟩
   refine one [91,c78,61,c83,93] (.mat c78 c83) t85 (by have :=hn.le;have :=hn79.le;have :=hn82.le;have :=hn83.le;have :=hn85.le;omega) (λH=>?_) (λ _ p=>rfl) (λH p hp=>⟨(fx H).1,(fx H).2,hp⟩) (λh _=>h) λt r' Z e=>?_
   ·obtain⟨a1,a2,a3,a4,a5⟩:=hn85.fine H;obtain⟨b1,b2,b3,b4,b5⟩:=hn83.fine a1;obtain⟨c1,c2,c3,c4,c5⟩:=hn82.fine b1;obtain⟨e1,e2,e3,e4,e5⟩:=hn79.fine c1;obtain⟨d1,d2,d3⟩:=first e1;refine⟨by omega,?_⟩;rw [bf d1,<-d3,<-d2,bf e2,<-e4,<-e3,bf c2,<-c4,<-c3,bf b2,<-b4,<-b3,bf a2,<-a4,<-a3,hc];rfl
   ·cases t with
    | mat y z p=>
     obtain⟨f1,f2,f3⟩:=G (c:=91) e;obtain⟨g1,g2,g3⟩:=dw (c:=y) f3;have f4:=hn79.good f1 g1 (by rw [g2];exact Z.1);obtain⟨_,_,h3,h4,_⟩:=hn79.fine f4;rw [<-h3]at g3;obtain⟨m1,m2,m3⟩:=dw (c:=61) g3;have f6:=hn82.good f4 m1 m2;obtain⟨_,_,o3,_⟩:=hn82.fine f6;rw [<-o3]at m3;obtain⟨p1,p2,p3⟩:=dw (c:=z) m3;have f7:=hn83.good f6 p1 (by rw [p2];exact Z.2.1);obtain⟨_,_,q3,_⟩:=hn83.fine f7;rw [<-q3]at p3;obtain⟨s1,s2,s3⟩:=dw (c:=93) p3;have f8:=hn85.good f7 s1 s2;obtain⟨_,_,u3,_⟩:=hn85.fine f8;exact⟨f8,p,Z.2.2,by rw [u3];exact s3⟩
    | nil=>exact absurd (G (c:=48) e).2.1 hc0
    | snd a x p=>exact(W Z.1 e).elim
    | rcv a x p=>exact(W Z.1 e).elim
    | tau p=>exact absurd (G (c:=126) e).2.1 hc1
    | res y p=>exact absurd (G (c:=35) e).2.1 hc2
    | rep p=>have :=(G (c:=42) e).2.1;rw [this]at hc;exact absurd hc (by decide)
    | sum p q=>have :=(G (c:=40) e).2.1;rw [this]at hc;exact absurd hc (by decide)
    | par p q=>have :=(G (c:=40) e).2.1;rw [this]at hc;exact absurd hc (by decide)
  have hc3:c7≠91:=Kw hc;refine⟨λhc=>?_,λhc=>?_⟩
  ·
   have hc:c7=42:=Kv hc;refine⟨t8.cell.1,λw57 μ=>?_⟩;rw [hc]at μ;have t57:=t8.Bv μ;refine one [42] .rep t57 hn.le (λH=>?_) (λ _ p=>rfl) (λ _ p hp=>hp) (λh _=>h) λt r' Z e=>?_
   ·obtain⟨d1,d2,d3⟩:=first H;refine⟨by omega,?_⟩;rw [bf d1,<-d3,<-d2,hc];rfl
   ·cases t with
    | rep p=>
     obtain⟨f1,f2,f3⟩:=G (c:=42) e;exact⟨f1,p,Z,f3⟩
    | nil=>exact absurd (G (c:=48) e).2.1 hc0
    | snd a x p=>exact(W Z.1 e).elim
    | rcv a x p=>exact(W Z.1 e).elim
    | tau p=>exact absurd (G (c:=126) e).2.1 hc1
    | res y p=>exact absurd (G (c:=35) e).2.1 hc2
    | mat y z p=>exact absurd (G (c:=91) e).2.1 hc3
    | sum p q=>have :=(G (c:=40) e).2.1;rw [this]at hc;exact absurd hc (by decide)
    | par p q=>have :=(G (c:=40) e).2.1;rw [this]at hc;exact absurd hc (by decide)
  have hc4:c7≠42:=Kw hc;refine⟨λhc=>?_,λhc=>?_⟩
  ·
   have hc:c7=40:=Kv hc;refine iht t8.rd (λH=>by have :=(first H).2.1;have :=(first H).1;omega) λv1 w105 j105 bad105 k105 h105 hs1=>?_
   obtain⟨bv1,hbv1⟩:=hs1.ptr;have t105:=t8.go k105 h105;refine pn hs t105.rd λβ j106 bad106 w107 k107 h107 ν=>?_
   have t107:=t105.go k107 h107;refine⟨t107.cell.1,λw109 hw109=>?_⟩;have t109:=t107.Bv hw109;have sz8:=t8.nd.lt;have szk:=k105.size;have hrw8:r< w8.heap.size:=h8.lt;have kK:∀{wa wb:World},Kr r wa wb->Kp wa wb λg=>g=r\/g=b:=λh=>⟨h.os,h.tape,h.output,h.size,λg hg hn=>h.block g hg λe=>hn (.inl e)⟩
   have kS:∀{wa wb:World} {j:Nat} {v:Value},wb=wa.setCell ⟨b,j,none⟩ v->Kp wa wb λg=>g=r\/g=b:=λ{wa wb j v} h=>h▸Kp.set (S:=λg=>g=r\/g=b) (Kp.ah (Ex.refl wa) _) (.inr rfl) v
   have kT:∀{wa wb wc:World},(Kp wa wb λg=>g=r\/g=b)->(Kp wb wc λg=>g=r\/g=b)->Kp wa wc λg=>g=r\/g=b:=λh k=>Kp.trans h k λ _ _ h=>h
   have q109:Kp w105 w109 λg=>g=r\/g=b:=kT (kK k107) (kS hw109)
   have rest:∀{wx:World} {I:Bool},TS w wx r b s j106 I β 0 0 (.slice none 0 0)->(Kp w105 wx λg=>g=r\/g=b)->(I=false->bad106=false/\(β=43\/β=38))->(bad106=false->(β=43\/β=38)->I=false)->
     Calls Tryz.prog 166 #[ptr r] wx (ax [.v] fun(v116:Value) (ξ:World)=>oneV v1=true/\oneV v116=true/\∀(γ:Nat) (ζ:World),γ=Array.size (World.heap ξ)->ζ=World.alloc ξ (Obj.cells #[v1,v116] 88)->
      oneV (Value.slice (some ⟨γ,0,none⟩) 2 2)=true/\((∃u120:Value,World.cell? ζ ⟨b,3,none⟩=some u120)/\World.frozen? ζ ⟨b,3,none⟩=false)/\∀w121:World,w121=World.setCell ζ ⟨b,3,none⟩ (Value.slice (some ⟨γ,0,none⟩) 2 2)->
      Calls Tryz.prog 209 #[ptr r,.int .u8 41] w121 (ax [] λη=>R (Value.pointer (some ⟨b,0,none⟩)) η)):=by
    intro wx I tx qx ς hx2;have szx:=qx.size;refine iht tx.rd (λH=>?_) λv2 ξ j117 bad117 k117 h117 hs2=>?_
    ·obtain⟨a1,a2,a3,_⟩:=ν.fine (ς H).1;have :=(hs1.fine a1).1;have :=(first this).2.1;have :=hs1.le;omega
    obtain⟨bv2,hbv2⟩:=hs2.ptr;have t117:=tx.go k117 h117;refine⟨by rw [hbv1];rfl,by rw [hbv2];rfl,λγ ζ hb118 χ=>⟨rfl,?_⟩⟩;have hx119:Ex ξ ζ:=χ▸Ex.alloc ξ _;have t119:=t117.ex hx119;refine⟨t119.cell.2.2.2.1,λw121 ο=>?_⟩;have t121:=t119.BQ ο;refine pR (c:=41) hs t121.rd λj122 bad122 η k122 h122 hn122=>?_
    have t122:=t121.go k122 h122;have sz117:=k117.size;have q119:Kp ξ ζ λg=>g=r\/g=b:=Kp.ah hx119 _
    have q122:Kp ξ η λg=>g=r\/g=b:=kT (kT q119 (kS ο)) (kK k122)
    have qall:Kp w105 η λg=>g=r\/g=b:=kT (kT qx (kK k117)) q122
    have hbl:γ< η.heap.size:=by
     have :=k122.size;rw [ο,KM,χ,size_alloc,<-hb118]at this;omega
    have hkr:=t8.kr.size;have hsl:eF (λg=>w.heap.size<=g) η (.slice (some ⟨γ,0,none⟩) 2 2) [v1,v2]:=by
     refine .inr ⟨γ,0,2,rfl,by omega,hbl,λi x hx=>?_⟩;have hne:γ≠b:=by omega
     have hblk:η.heap[γ]?=ζ.heap[γ]?:=by
      rw [k122.block γ (by rw [ο,KM,χ,size_alloc];omega) (by omega),ο,Mz _ _ _ _ (show γ≠b from hne)]
     rw [J1 (w:=ζ) hblk,χ,hb118]
     match i,hx with
     | 0,hx=>simp at hx;subst hx;exact aa rfl
     | 1,hx=>simp at hx;subst hx;exact aa rfl
     | i+2,hx=>simp at hx
    refine hR _ _ j122 bad122 t122.kr t122.rd ⟨by have :=hn.le;have :=hs1.le;have :=ν.le;have :=hs2.le;have :=hn122.le;omega,⟨b,rfl⟩,λH=>?_,λ _ ⟨t,r',Z,e⟩=>?_⟩
    ·obtain⟨a1,a2,a3,a4,a5⟩:=hn122.fine H;obtain⟨b1,q,hq,b2,b3⟩:=hs2.fine a1;obtain⟨b0,hk⟩:=ς b1;obtain⟨c1,c2,c3,c4,_⟩:=ν.fine b0;obtain⟨e1,p,hp,e2,e3⟩:=hs1.fine c1;obtain⟨d1,d2,d3⟩:=first e1;have ε:s.drop i=40::(p.text++(β::(q.text++(41::s.drop j122)))):=by
      rw [bf d1,<-d3,<-d2,e2,bf c2,<-c4,<-c3,b2,bf a2,<-a4,<-a3,hc]
     have k1:aI (λg=>w.heap.size<=g) η p v1:=aI.mono (λg hg=>by omega) (aI.kp qall (λg hg hS=>by rcases hS with h | h<;>omega) e3);have k2:aI (λg=>w.heap.size<=g) η q v2:=aI.mono (λg hg=>by omega) (aI.kp q122 (λg hg hS=>by rcases hS with h | h<;>omega) b3);rcases hk with hk | hk
     ·subst hk;exact⟨rfl,.sum p q,⟨hp,hq⟩,by rw [ε];simp [T.text],fk.of t122 hD hsl ⟨v1,v2,rfl,k1,k2⟩⟩
     ·subst hk;exact⟨rfl,.par p q,⟨hp,hq⟩,by rw [ε];simp [T.text],fk.of t122 hD hsl ⟨v1,v2,rfl,k1,k2⟩⟩
    ·have key:∀{d:UInt8} {p q:P},(d=43\/d=38)->p.Al (λc=>lt c=true)->q.Al (λc=>lt c=true)->s.drop i=40::(p.text++(d::(q.text++(41::r'))))->bad122=false:=by
      intro d p q hd hp hq he;obtain⟨f1,f2,f3⟩:=G he;have g1:=hs1.good f1 ⟨p,_,hp,f3⟩;obtain⟨_,p',hp',g2,_⟩:=hs1.fine g1;rw [g2]at f3;obtain⟨rfl,g3⟩:=lS hp'.wf hp.wf f3;obtain⟨k1,k2,k3⟩:=dw g3;have f4:=ν.good g1 k1 trivial;obtain⟨_,_,h3,h4,_⟩:=ν.fine f4;have f5:=hx2 f4 (by rw [h4,k2];exact hd);rw [<-h3]at k3;have f6:=hs2.good f5 ⟨q,_,hq,k3⟩;obtain⟨_,q',hq',g4,_⟩:=hs2.fine f6;rw [g4]at k3;obtain⟨rfl,g5⟩:=lS hq'.wf hq.wf k3;obtain⟨l1,l2,l3⟩:=dw g5;exact hn122.good f6 l1 l2
     cases t with
     | sum p q=>exact key (.inl rfl) Z.1 Z.2 (by rw [e];simp [T.text])
     | par p q=>exact key (.inr rfl) Z.1 Z.2 (by rw [e];simp [T.text])
     | nil=>exact absurd (G (c:=48) e).2.1 hc0
     | snd a x p=>exact(W Z.1 e).elim
     | rcv a x p=>exact(W Z.1 e).elim
     | tau p=>exact absurd (G (c:=126) e).2.1 hc1
     | res y p=>exact absurd (G (c:=35) e).2.1 hc2
     | mat y z p=>exact absurd (G (c:=91) e).2.1 hc3
     | rep p=>exact absurd (G (c:=42) e).2.1 hc4
   refine⟨β,t109.nd.c0,λθ=>⟨β,t109.nd.c0,λι=>⟨r,0,rfl,t109.cell.2.2.2.2,λw22 hw22=>?_⟩,λι=>?_⟩,λθ=>?_⟩
   ·have θ:¬β=43:=by simpa using θ
    have ι:¬β=38:=by simpa using ι
    exact rest (t109.EE hw22) (kT q109 (kK (hw22▸Kr.set w109 2 _))) (λh=>by cases h) (λ _ h=>by rcases h with h | h<;>contradiction)
   ·have ι:β=38:=by simpa using ι
    exact rest t109 q109 (λh=>⟨h,.inr ι⟩) (λh _=>h)
   ·have θ:β=43:=by simpa using θ
    exact rest t109 q109 (λh=>⟨h,.inl θ⟩) (λh _=>h)
  ·
   have hc5:c7≠40:=Kw hc;refine⟨r,0,rfl,t8.cell.2.2.2.2,λw57 μ=>?_⟩;have t57:=t8.EE μ;refine one [] .tau t57 hn.le (λH=>by cases H) (λH=>by cases H) (λ _ p hp=>hp) (λh H=>by cases H) λt r' Z e=>?_
   exfalso;cases t with
   | nil=>exact absurd (G (c:=48) e).2.1 hc0
   | snd a x p=>exact(W Z.1 e).elim
   | rcv a x p=>exact(W Z.1 e).elim
   | tau p=>exact absurd (G (c:=126) e).2.1 hc1
   | res y p=>exact absurd (G (c:=35) e).2.1 hc2
   | mat y z p=>exact absurd (G (c:=91) e).2.1 hc3
   | rep p=>exact absurd (G (c:=42) e).2.1 hc4
   | sum p q=>exact absurd (G (c:=40) e).2.1 hc5
   | par p q=>exact absurd (G (c:=40) e).2.1 hc5
 induction n with
 | zero=>exact main 0 λm hm=>by omega
 | succ n ih=>exact main (n+1) λm hm=>(show n=m by omega)▸ih
def JV:Shelf.Ren where
 f:=λx=>if x=137 then 168 else if x=217 then 210 else if x=266 then 232 else x
 t:=λx=>if x=3 then 3 else if x=5 then 5 else if x=9 then 9 else x
 g:=λx=>x
theorem HB:Lays.n137 Tryz.prog JV where
 mixed:=Eq.refl true
 f137:=LQ Tryz.func168 (by kernel_rfl)
 f217:=LQ Tryz.func210 (by kernel_rfl)
 f266:=LQ Tryz.func232 (by kernel_rfl)
 t3:=Tryz.underlying3
 a3:=Tryz.isAgg3
 z3:=Tryz.sizeOf3
 v3:=Tryz.zeroValue3
 t5:=Tryz.underlying5
 a5:=Tryz.isAgg5
 z5:=Tryz.sizeOf5
 v5:=Tryz.zeroValue5
 t9:=Tryz.underlying9
 a9:=Tryz.isAgg9
 z9:=Tryz.sizeOf9
 v9:=Tryz.zeroValue9
theorem qF {s:Tx}{c:UInt8}{w:World}{R:Int->World->Prop}(h:R (Lib.indexByte s c) w):
  Calls Tryz.prog 168 #[.string (ab s),.int .u8 c.toNat] w (ax [.i] R):=by
 refine(Any.strings_IndexByte HB (ab s) c.toNat w).mono ?_
 rintro e w' ⟨rfl,rfl⟩
 have G:UInt8.ofNat c.toNat=c:=by simp
 have z:(Int.toNat (c.toNat:Int)).toUInt8=c:=by simp
 rw [z];exact⟨_,rfl,h⟩
abbrev Lt (t:P):Prop:=t.Al λc=>lt c=true
abbrev Be (w:World):Nat->Prop:=λg=>w.heap.size<=g
theorem Ap {s:Tx}(hs:s.length<=1099511627776){w:World}{R:Value->Bool->World->Prop}
  (hR:∀v q w',Ex w w'->(q=true->∃t:P,Lt t/\s=t.text/\aI (Be w) w' t v)->(q=false->∀t:P,Lt t->s≠t.text)->R v q w'):
  Calls Tryz.prog 123 #[.string (ab s)] w (ax [.v,.b] R):=by
 refine uw s w R ?_;intro b w1 hb z;have W:Ex w w1:=z▸Ex.alloc w _;have α:w1.heap.size=w.heap.size+1:=by rw [z,size_alloc]
 have h1:Rd w1 b s 0 false:=by
  refine⟨by omega,KT _,?_,?_,?_,?_,?_⟩
  ·rw [z,hb];exact aa rfl
  ·rw [z,hb];exact aa rfl
  ·rw [z,hb];exact aa rfl
  ·rw [z,hb];unfold World.frozen? World.alloc;simp
  ·rw [z,hb];unfold World.frozen? World.alloc;simp
 have hT:uK s (s.length+1):=Ic s hs (s.length+1);refine hT h1 (λ _=>by omega) λv w2 j bad k2 h2 hr=>?_
 refine⟨λw'=>Ex w2 w',λw3 I=>⟨I▸Ex.drew w2,bad,λw' J=>(h2.same J.size (J.block b h2.lt)).c2,?_⟩⟩;have V:Ex w2 w3:=I▸Ex.drew w2;have hex:Ex w w3:=by
  exact Ex.trans (Ex.below W (Kp.below (B:=w.heap.size) k2 (by omega) (λg hg e=>by omega))) V
 refine⟨λG=>?_,λG=>?_⟩
 ·have G:bad=false:=by simpa using G
  obtain⟨_,t,ht,e,Z⟩:=hr.fine G;refine⟨j,λw' J=>(h2.same J.size (J.block b h2.lt)).c1,hR _ _ _ hex (λhd=>?_) λhd t' H e'=>?_⟩
  ·have hd:=Kv hd;have:s.drop j=[]:=LI (by omega);rw [this,LP,KJ]at e;exact⟨t,ht,e,aI.mono (λg hg=>by omega) (aI.kp (Kp.ah V λ _=>False) (λ _ _ h=>h) Z)⟩
  ·have hd:=Kw hd;rw [LP]at e;have e2:t'.text++[]=t.text++s.drop j:=by rw [KJ,<-e'];exact e
   obtain⟨_,e3⟩:=lS H.wf ht.wf e2;have :=List.drop_eq_nil_iff.1 e3.symm;have :=h2.le;omega
 ·have G:bad=true:=by simpa using G
  refine hR _ _ _ hex (λh=>by cases h) λ _ t' H e'=>?_
  have :=hr.good rfl ⟨t',[],H,by rw [LP,KJ,e']⟩;rw [G]at this;cases this
theorem nG {t:P}(G:Lt t):dB t.text↔t.text.length<=300/\t.size<=60:=by
 constructor
 ·rintro⟨z,u,h2,H,h4⟩
  have :=fH h2.wf G.wf H;subst this;exact⟨z,h4⟩
 ·rintro⟨z,h2⟩
  exact⟨z,t,G,rfl,h2⟩
theorem CH {s:Tx}{w:World}{R:Value->Bool->World->Prop}
  (H:∀v q w',Ex w w'->(q=true->dB s/\∃t:P,Lt t/\s=t.text/\aI (Be w) w' t v)->(q=false->¬dB s)->R v q w'):
  Calls Tryz.prog 79 #[.string (ab s)] w (ax [.v,.b] R):=by
 refine xf s w R ?_;refine⟨λhc=>?_,λhc=>?_⟩
 ·have hc:=Kv hc;refine H _ _ _ (Ex.refl w) (λh=>by cases h) λ _ V=>?_
  have :=V.1;omega
 ·have hc:=Kw hc;refine Ap (by omega) λv q w' J W h2=>⟨λI=>?_,λI=>?_⟩
  ·obtain⟨t,z,e,G⟩:=W I;have Z:=bD t;refine FG t.size (Kb _) G (by rw [<-e]at Z;omega) (H _ _ _ J (λhd=>?_) λhd=>?_)
   ·have hd:=Kv hd;exact⟨by rw [e];exact(nG z).2 ⟨by rw [<-e];omega,by omega⟩,t,z,e,G⟩
   ·have hd:=Kw hd;rw [e,nG z];omega
  ·exact H _ _ _ J (λh=>by cases h) λ _ ⟨_,t,z,e,_⟩=>h2 I t z e.symm
theorem xU {s:Tx}{w:World}{R:Bool->World->Prop}(z:∀q w',Ex w w'->(q=true↔dB s)->R q w'):
  Calls Tryz.prog 238 #[.string (ab s)] w (ax [.b] R):=by
 refine pk s w R ?_;refine CH λv q w' G H h2=>z q w' G ⟨λh=>(H h).1,λh=>?_⟩
 cases q
 ·exact absurd h (h2 rfl)
 ·rfl
theorem Gj {D:Nat->Prop}{t:P}{v:Value}{w:World}(h:aI D w t v){R:Bool->World->Prop}(z:R (decide (t.kind=63)||decide (t.kind=35)) w):
  Calls Tryz.prog 129 #[v] w (ax [.b] R):=by
 refine nX v w R ?_;obtain⟨b,vs,l,rfl,H,h2,G,h4,h5,I,J,h8⟩:=h.inv;refine⟨b,0,rfl,t.kind,G,λhc=>⟨b,0,rfl,t.kind,G,?_⟩,λhc=>?_⟩
 ·rw [hc,MH]at z;exact z
 ·rw [hc,Bool.true_or]at z;exact z
def T.ev (p:P->Bool):P->Bool
 | .nil=>p .nil
 | .snd a b q=>p (.snd a b q)&&q.ev p
 | .rcv a b q=>p (.rcv a b q)&&q.ev p
 | .tau q=>p (.tau q)&&q.ev p
 | .sum q r=>p (.sum q r)&&(q.ev p&&r.ev p)
 | .par q r=>p (.par q r)&&(q.ev p&&r.ev p)
 | .res a q=>p (.res a q)&&q.ev p
 | .mat a b q=>p (.mat a b q)&&q.ev p
 | .rep q=>p (.rep q)&&q.ev p
theorem sT (p:P->Bool)(t:P):t.ev p=(p t&&t.parts.all (·.ev p)):=by cases t<;>simp [T.ev,T.parts]
def xR (f:Nat)(p:P->Bool):Prop:=dh.contains f=true/\∀{D:Nat->Prop} {t:P} {v:Value} {w:World} {R:Bool->World->Prop},aI D w t v->R (p t) w->Calls Tryz.prog f #[v] w (ax [.b] R)
structure wh (w:World)(bo bh f:Nat)(q:Bool):Prop where
 lt:bo< w.heap.size
 lh:bh< w.heap.size
 ne:bh≠bo
 c:w.cell? ⟨bo,0,none⟩=some (.bool q)
 fr:w.frozen? ⟨bo,0,none⟩=false
 h:w.cell? ⟨bh,0,none⟩=some (.func (.func f) #[] #[])
theorem wh.set {w:World}{bo bh f:Nat}{q:Bool}(h:wh w bo bh f q)(x:Bool):wh (w.setCell ⟨bo,0,none⟩ (.bool x)) bo bh f x:=
 ⟨by rw [KM];exact h.lt,by rw [KM];exact h.lh,h.ne,Kj _ _ _ h.c,by rw [Kt];exact h.fr,by
  rw [J7 _ _ _ _ (by have :=h.ne;simp [this])];exact h.h⟩
theorem Ho {f:Nat}{p:P->Bool}(I:xR f p){D:Nat->Prop}{t:P}{v:Value}{w:World}{bo bh:Nat}{q:Bool}(V:aI D w t v)(z:wh w bo bh f q){R:World->Prop}
  (J:∀w',Kr bo w w'->wh w' bo bh f (q&&p t)->R w'):Calls Tryz.prog 170 #[v,ptr bo,ptr bh] w (ax [] R):=by
 refine ny v _ _ w R ?_;refine⟨bo,0,rfl,q,z.c,λH=>⟨bh,0,rfl,_,z.h,f,[],rfl,I.1,I.2 V ⟨bo,0,rfl,⟨⟨_,z.c⟩,z.fr⟩,λw' G=>?_⟩⟩,λH=>⟨bo,0,rfl,⟨⟨_,z.c⟩,z.fr⟩,λw' G=>?_⟩⟩
 ·subst G;refine J _ (Kr.set w 0 _) ?_;rw [H,LU];exact z.set _
 ·subst G;refine J _ (Kr.set w 0 _) ?_;rw [H,NC];exact z.set _
theorem HC {f:Nat}{p:P->Bool}(hp:xR f p):∀(n:Nat) {D:Nat->Prop} {t:P} {v:Value} {w:World} {bo bh:Nat} {q:Bool},t.size<=n->aI D w t v->(∀g,D g->¬g=bo)->wh w bo bh f q->∀{R:World->Prop},
  (∀w',Kr bo w w'->wh w' bo bh f (q&&t.ev p)->R w')->Calls Tryz.prog 169 #[v,.func (.func 170) #[] #[ptr bo,ptr bh]] w (ax [] R):=by
 intro n
 induction n with
 | zero=>intro D t v w _ _ _ h;have :=a8 t;omega
 | succ n ih=>
  intro D t v w bo bh q hn W H hs R hR;refine oY v _ w R ?_;refine⟨170,[ptr bo,ptr bh],rfl,by kernel_rfl,?_⟩;refine Ho hp W hs λw1 Z h1=>?_
  have I:=aI.kp Z H W;obtain⟨b,vs,l,rfl,g1,g2,g3,g4,g5,g6,g7,g8⟩:=I.inv;obtain⟨a,cap,hv⟩:=g7.slice;have e:=tV t;refine⟨b,0,rfl,vs,g6,a,_,cap,hv,λx w'=>∃i:Nat,x=i/\i<=l.length/\Kr bo w w'/\Kr bo w1 w'/\wh w' bo bh f ((q&&p t)&&(t.parts.take i).all (·.ev p)),λx _=>(l.length - x).toNat,⟨0,rfl,by omega,Z,Kr.refl _ _,by simpa using h1⟩,λx w2 hI=>?_⟩;obtain⟨i,rfl,hi,k2,J,h2⟩:=hI;refine⟨λhc=>?_,λhc=>?_⟩
  ·have hc:=Kv hc;have z:i< l.length:=by omega
   have G:i< t.parts.length:=by rw [<-g8.1];exact z
   refine(g7.kp J H).get (i:=i) (x:=l[i]) (by omega) (by simp [z]) ?_;have V:=g8.2 i _ _ (J2 z) (J2 G);have V:=aI.kp J H V;obtain⟨α,β⟩:=vd T.size t.parts G;have γ:=dX t;refine ih (by omega) V H h2 λw4 k4 h4=>⟨by unfold aj;omega,⟨i+1,by omega,by omega,Kr.trans k2 k4,Kr.trans J k4,?_⟩,by dsimp only;omega⟩
   rw [J8 G,MC,<-ND];simpa using h4
  ·have hc:=Kw hc;have:i=t.parts.length:=by rw [<-g8.1];omega
   subst this;rw [KA,ND,<-sT]at h2;exact hR _ k2 h2
theorem G2 {f:Nat}{p:P->Bool}(hp:xR f p){D:Nat->Prop}{t:P}{v:Value}{w:World}(ht:aI D w t v)(hD:∀g,D g->g< w.heap.size){R:Bool->World->Prop}(hR:∀w',Ex w w'->R (t.ev p) w'):
  Calls Tryz.prog 126 #[v,.func (.func f) #[] #[]] w (ax [.b] R):=by
 refine pF v _ w R ?_;refine⟨rfl,λb1 w1 J G b2 w2 H z=>?_⟩;have x1:Ex w w1:=G▸Ex.alloc w _;have V:Ex w1 w2:=z▸Ex.alloc w1 _;have s1:w1.heap.size=w.heap.size+1:=by rw [G,size_alloc]
 have s2:w2.heap.size=w1.heap.size+1:=by rw [z,size_alloc]
 have c2:w2.cell? ⟨b2,0,none⟩=some (.bool false):=by rw [z,H];exact aa rfl
 have f2:w2.frozen? ⟨b2,0,none⟩=false:=by rw [z,H];unfold World.frozen? World.alloc;simp
 have c1:w2.cell? ⟨b1,0,none⟩=some (.func (.func f) #[] #[]):=by
  rw [V.cell (show b1< _ by omega),G,J];exact aa rfl
 have hA:wh w2 b2 b1 f false:=⟨by omega,by omega,by omega,c2,f2,c1⟩
 refine⟨⟨⟨_,c2⟩,f2⟩,λw3 W=>?_⟩;subst W;have Z:aI D w2 t v:=aI.kp (Kp.ah (Ex.trans x1 V) λ _=>False) (λ _ _ h=>h) ht;have I:∀g,D g->¬g=b2:=λg hg e=>by have :=hD g hg;omega
 have α:aI D (w2.setCell ⟨b2,0,none⟩ (.bool true)) t v:=aI.kp (Kr.set w2 0 _) I Z;refine HC hp t.size (Kb _) α I (hA.set true) λw4 k4 h4=>⟨_,h4.c,?_⟩
 rw [LU];exact hR w4 (Ex.below (Ex.trans x1 V) (Kp.below (B:=w.heap.size) (Kr.trans (Kr.set w2 0 _) k4) (by omega) λg hg e=>by omega))
def T.gd1:P->Bool
 | .sum p q=>p.gp&&q.gp
 | _=>true
def T.rp1:P->Bool
 | .rep p=>p.isR
 | _=>true
theorem eC:∀t:P,t.smp=(t.ev T.gd1&&t.ev T.rp1)
 | .nil=>rfl
 | .snd _ _ p=>by have :=eC p;simp [T.smp,T.ev,T.gd1,T.rp1,this]
 | .rcv _ _ p=>by have :=eC p;simp [T.smp,T.ev,T.gd1,T.rp1,this]
 | .tau p=>by have :=eC p;simp [T.smp,T.ev,T.gd1,T.rp1,this]
 | .res _ p=>by have :=eC p;simp [T.smp,T.ev,T.gd1,T.rp1,this]
 | .mat _ _ p=>by have :=eC p;simp [T.smp,T.ev,T.gd1,T.rp1,this]
 | .rep p=>by have :=eC p;simp only [T.smp,T.ev,T.gd1,T.rp1,this,LU];cases p.isR<;>simp
 | .par p q=>by have :=eC p;have h:=eC q;simp only [T.smp,T.ev,T.gd1,T.rp1,this,h,LU];ac_rfl
 | .sum p q=>by have :=eC p;have h:=eC q;simp only [T.smp,T.ev,T.gd1,T.rp1,this,h,LU];ac_rfl
theorem CP (t:P):decide (0<=Lib.indexByte [33,63,126,43,48] t.kind)=t.gp:=by cases t<;>rfl
theorem zy:xR 167 T.gd1:=by
 refine⟨by kernel_rfl,λ{D t v w R} H z=>?_⟩;refine kf v w R ?_;obtain⟨b,vs,l,rfl,g1,g2,g3,g4,g5,g6,g7,g8⟩:=H.inv;refine⟨b,0,rfl,_,g3,λhc=>?_,λhc=>?_⟩
 ·obtain⟨p,q,rfl⟩:∃p q,t= .sum p q:=by cases t<;>simp [T.kind]at hc|-
  have I:l.length=2:=g8.1;obtain⟨x,y,rfl⟩:∃x y,l=[x,y]:=by
   match l,I with
   | [x,y],_=>exact⟨x,y,rfl⟩
  have J:=g8.2 0 x p rfl rfl;have V:=g8.2 1 y q rfl rfl;obtain⟨b1,_,_,W,_,_,i1,_⟩:=J.inv;obtain⟨b2,_,_,Z,_,_,i2,_⟩:=V.inv;refine⟨b,0,rfl,vs,g6,g7.get (i:=0) (x:=x) (by omega) rfl ⟨b1,0,W,_,i1,qF ⟨λG=>⟨b,0,rfl,vs,g6,g7.get (i:=1) (x:=y) (by omega) rfl ⟨b2,0,Z,_,i2,qF ?_⟩⟩,λG=>?_⟩⟩⟩
  ·rw [CP]at G|-;rw [T.gd1,G]at z;exact z
  ·rw [CP]at G;rw [T.gd1,G]at z;exact z
 ·have:T.gd1 t=true:=by cases t<;>first | rfl | simp [T.kind]at hc
  rw [this]at z;exact z
theorem B7:xR 127 T.rp1:=by
 refine⟨by kernel_rfl,λ{D t v w R} G z=>?_⟩;refine kL v w R ?_;obtain⟨b,vs,l,rfl,g1,g2,g3,g4,g5,g6,g7,g8⟩:=G.inv;refine⟨b,0,rfl,_,g3,λhc=>?_,λhc=>?_⟩
 ·obtain⟨p,rfl⟩:∃p,t= .rep p:=by cases t<;>simp [T.kind]at hc|-
  have H:l.length=1:=g8.1;obtain⟨x,rfl⟩:∃x,l=[x]:=by
   match l,H with
   | [x],_=>exact⟨x,rfl⟩
  have I:=g8.2 0 x p rfl rfl;obtain⟨b1,_,_,J,_,_,i1,_⟩:=I.inv;refine⟨b,0,rfl,vs,g6,g7.get (i:=0) (x:=x) (by omega) rfl ⟨b1,0,J,_,i1,?_⟩⟩;have:decide (p.kind=63)=p.isR:=by cases p<;>rfl
  show R (decide (p.kind=63)) _;rw [this];exact z
 ·have:T.rp1 t=true:=by cases t<;>first | rfl | simp [T.kind]at hc
  rw [this]at z;exact z
theorem Dt {D:Nat->Prop}{t:P}{v:Value}{w:World}(H:aI D w t v)(I:∀g,D g->g< w.heap.size){R:Bool->World->Prop}(J:∀w',Ex w w'->R t.smp w'):
  Calls Tryz.prog 80 #[v] w (ax [.b] R):=by
 refine mZ v w R ?_;refine lX v w _ ?_;refine G2 zy H I λw1 z=>⟨λG=>?_,λG=>?_⟩
 ·refine G2 B7 (aI.kp (Kp.ah z λ _=>False) (λ _ _ h=>h) H) (λg V=>by have :=I g V;have :=z.size;omega) λw2 W=>?_
  have :=J w2 (Ex.trans z W);rw [eC,G,LU]at this;exact this
 ·have :=J w1 z;rw [eC,G,NC]at this;exact this
theorem aI.bound {D:Nat->Prop}{w:World}:∀{t:P} {v:Value},aI D w t v->aI (λg=>D g/\g< w.heap.size) w t v:=by
 have key:∀{v:Value} {k a c:UInt8} {K J:List Value->Prop},fk D w v k a c K->(∀l,K l->J l)->fk (λg=>D g/\g< w.heap.size) w v k a c J:=by
  rintro v k a c K J ⟨b,vs,l,z,h2,I,h4,h5,V,W,h8,h9⟩ Z
  refine⟨b,vs,l,z,⟨h2,I⟩,I,h4,h5,V,W,?_,Z l h9⟩;rcases h8 with h | ⟨b',off,cap,i1,i2,i3,i4⟩
  ·exact .inl h
  ·exact .inr ⟨b',off,cap,i1,⟨i2,i3⟩,i3,i4⟩
 intro t
 induction t with
 | nil=>exact λh=>key h λ _ h=>h
 | snd _ _ p G=>exact λh=>key h λ _ ⟨x,z,h2⟩=>⟨x,z,G h2⟩
 | rcv _ _ p G=>exact λh=>key h λ _ ⟨x,z,h2⟩=>⟨x,z,G h2⟩
 | tau p G=>exact λh=>key h λ _ ⟨x,z,h2⟩=>⟨x,z,G h2⟩
 | res _ p G=>exact λh=>key h λ _ ⟨x,z,h2⟩=>⟨x,z,G h2⟩
 | mat _ _ p G=>exact λh=>key h λ _ ⟨x,z,h2⟩=>⟨x,z,G h2⟩
 | rep p G=>exact λh=>key h λ _ ⟨x,z,h2⟩=>⟨x,z,G h2⟩
 | sum p q G H=>exact λh=>key h λ _ ⟨x,y,z,h2,I⟩=>⟨x,y,z,G h2,H I⟩
 | par p q G H=>exact λh=>key h λ _ ⟨x,y,z,h2,I⟩=>⟨x,y,z,G h2,H I⟩
end Go.Proofs.YtdecokaadekjnaaGreat
namespace Go.Proofs.YtdecokaadekjnaaGreat
open Go
set_option maxRecDepth 100000
theorem oQ (w:World)(R:Value->World->Prop)(h:aN w (.cells #[(.int .i64 0),(.int .i64 0),(.int .i64 0),(.int .i64 0),(.int .i64 0),(.int .i64 0),(.int .i64 0),(.int .i64 0),(.int .i64 0),(.int .i64 0),(.int .i64 0),(.int .i64 0),(.int .i64 0),(.int .i64 0),(.int .i64 0),(.int .i64 0),(.int .i64 0),(.int .i64 0),(.int .i64 0),(.int .i64 0),(.int .i64 0),(.int .i64 0),(.int .i64 0),(.int .i64 0),(.int .i64 0),(.int .i64 0)] 150) λb1 w2=>aN w2 (.cells #[(.int .i64 0),(.int .i64 0),(.int .i64 0),(.int .i64 0),(.int .i64 0),(.int .i64 0),(.int .i64 0),(.int .i64 0),(.int .i64 0),(.int .i64 0),(.int .i64 0),(.int .i64 0),(.int .i64 0),(.int .i64 0),(.int .i64 0),(.int .i64 0),(.int .i64 0),(.int .i64 0),(.int .i64 0),(.int .i64 0),(.int .i64 0),(.int .i64 0),(.int .i64 0),(.int .i64 0),(.int .i64 0),(.int .i64 0)] 150) λb3 Z=>xh Z b3 0 26 [(.int .i64 0),(.int .i64 0),(.int .i64 0),(.int .i64 0),(.int .i64 0),(.int .i64 0),(.int .i64 0),(.int .i64 0),(.int .i64 0),(.int .i64 0),(.int .i64 0),(.int .i64 0),(.int .i64 0),(.int .i64 0),(.int .i64 0),(.int .i64 0),(.int .i64 0),(.int .i64 0),(.int .i64 0),(.int .i64 0),(.int .i64 0),(.int .i64 0),(.int .i64 0),(.int .i64 0),(.int .i64 0),(.int .i64 0)] λw5=>eM 0 w5 λI6 W z V=>ai (decide (z< 26)) ((0<=(z:Int)/\(z:Int)< (26:Nat))/\bg V b3 (0+z.toNat* 1) (.int .i64 z) λI=>aj (z+1)/\I6 (z+1) I/\W (z+1) I< W z V) (∃G:List Value,G.length=26/\(∀j,j< 26->World.cell? V ⟨b3,0+j,none⟩=G[j]?)/\xh V b1 0 26 G λJ=>∃H:List Value,H.length=26/\(∀j,j< 26->World.cell? J ⟨b1,0+j,none⟩=H[j]?)/\R ((.agg (List.toArray H))) J)):
  Calls Tryz.prog 138 #[] w (ax [.v] R):=
 bs (bn [(3,[(4,.i)])] [] []) [.agg 0 150] [] Tryz.func138 (by kernel_rfl) h
theorem lO (z:Value)(w:World)(R:Int->World->Prop)(h:az z λb2 J=>pB w b2 (J+0) λI=>aj (I+1)/\az z λb5 V=>bg w b5 (V+0) (.int .i64 (I+1)) λw8=>az z λb9 H=>pB w8 b9 (H+0) λG=>aj (G+100)/\R (G+100) w8):
  Calls Tryz.prog 178 #[z] w (ax [.i] R):=
 bs (bn [] [] []) [.tmp 2 .i] [.v z] Tryz.func178 (by kernel_rfl) h
theorem lF (z:Value)(W:Value)(w:World)(R:World->Prop)(h:bO w λG w4=>az z λb5 o6=>ct G b5 (o6+0) λv7=>az W λb8 o9=>ct G b8 (o9+0) λv10=>az z λZ α=>ct G Z (α+1) λβ=>az W λγ δ=>ct G γ (δ+1) λε=>eu 3 1 8 w4 v7 v10 λH I=>G I/\eu 156 1 8 I β ε λJ V=>G V/\az z λζ η=>oneV H=true/\bg V ζ (η+0) H λθ=>az z λι κ=>oneV J=true/\bg θ ι (κ+1) J λμ=>R μ):
  Calls Tryz.prog 179 #[z,W] w (ax [] R):=
 bs (bn [] [] [0]) [] [.v z,.v W] Tryz.func179 (by kernel_rfl) h
theorem oG (m1:Value)(t2:Value)(e3:Value)(w:World)(R:Value->World->Prop)(h:∃c4:List Value,e3= .agg (List.toArray c4)/\aN w (.cells (List.toArray c4) 150) λb5 w6=>az t2 λb7 o8=>gg w6 b7 (o8+0) λc9=>aN w6 (.cells #[(.int .u8 c9.toNat),(.int .i64 0),(.int .i64 0),(.pointer none),(.slice none 0 0)] 201) λb10 J=>∃ο:World->Prop,(az t2 λb13 o14=>gg J b13 (o14+1) λc15=>ai (!decide (c15=0)) (az t2 λb16 o17=>gg J b16 (o17+1) λc18=>(0<=((UInt8.toNat (c18 - 97:UInt8):Int):Int)/\((UInt8.toNat (c18 - 97:UInt8):Int):Int)< (26:Nat))/\pB J b5 (0+Int.toNat (UInt8.toNat (c18 - 97:UInt8):Int)* 1) λn19=>bg J b10 1 (.int .i64 n19) λw21=>ο w21) (ο J))/\∀(w22:World),ο w22->∃ς:World->Prop,(ck 129 #[t2] w22 λq24 w25=>ai q24 (bO w25 λS26 w27=>az t2 λb28 o29=>Iu S26 b28 (o29+2) λc30=>iU 178 #[m1] w27 λn31 jm=>S26 jm/\(0<=((UInt8.toNat (c30 - 97:UInt8):Int):Int)/\((UInt8.toNat (c30 - 97:UInt8):Int):Int)< (26:Nat))/\bg jm b5 (0+Int.toNat (UInt8.toNat (c30 - 97:UInt8):Int)* 1) (.int .i64 n31) λw34=>ς w34) (ς w25))/\∀(I:World),ς I->∃υ:World->Prop,(az t2 λb37 o38=>gg I b37 (o38+2) λc39=>ai (!decide (c39=0)) (az t2 λb40 o41=>gg I b40 (o41+2) λφ=>(0<=((UInt8.toNat (φ - 97:UInt8):Int):Int)/\((UInt8.toNat (φ - 97:UInt8):Int):Int)< (26:Nat))/\pB I b5 (0+Int.toNat (UInt8.toNat (φ - 97:UInt8):Int)* 1) λn43=>bg I b10 2 (.int .i64 n43) λw45=>υ w45) (υ I))/\∀(w46:World),υ w46->aN w46 (.cells #[(.slice none 0 0),(.slice none 0 0)] 155) λb47 G=>∃χ:World->Prop,(az t2 λb50 o51=>gg G b50 (o51+0) λδ=>ai (decide (δ=48)) (R ((.pointer (some ⟨b47,0,none⟩))) G) (ai (decide (δ=38)) (bO G λV w54=>az t2 λb55 o56=>ct V b55 (o56+3) λv57=>aJ v57 0 λb58 o59=>ct V b58 (o59+Int.toNat 0* 1) λv62=>∃ψ:List Value,ψ.length=26/\(∀w',V w'->∀j,j< 26->World.cell? w' ⟨b5,0+j,none⟩=ψ[j]?)/\cB 137 #[m1,v62,(.agg (List.toArray ψ))] w54 λv64 w65=>V w65/\fC 179 #[(.pointer (some ⟨b47,0,none⟩)),v64] w65 λw66=>V w66/\bO w66 λW w68=>az t2 λb69 o70=>ct W b69 (o70+3) λv71=>aJ v71 1 λb72 o73=>ct W b72 (o73+Int.toNat 1* 1) λv76=>∃ω:List Value,ω.length=26/\(∀w',W w'->∀j,j< 26->World.cell? w' ⟨b5,0+j,none⟩=ω[j]?)/\cB 137 #[m1,v76,(.agg (List.toArray ω))] w68 λv78 w79=>W w79/\fC 179 #[(.pointer (some ⟨b47,0,none⟩)),v78] w79 λw80=>W w80/\R ((.pointer (some ⟨b47,0,none⟩))) w80) (ai (decide (δ=35)) (pB G b10 2 λn81=>aN G (.cells #[(.int .i64 n81)] 3) λb82 w83=>oneV (.slice (some ⟨b82,0,none⟩) 1 1)=true/\bg w83 b47 0 (.slice (some ⟨b82,0,none⟩) 1 1) λw85=>bO w85 λZ w87=>az t2 λb88 o89=>ct Z b88 (o89+3) λv90=>aJ v90 0 λb91 o92=>ct Z b91 (o92+Int.toNat 0* 1) λv95=>∃c96:List Value,c96.length=26/\(∀w',Z w'->∀j,j< 26->World.cell? w' ⟨b5,0+j,none⟩=c96[j]?)/\cB 137 #[m1,v95,(.agg (List.toArray c96))] w87 λv97 w98=>Z w98/\fC 179 #[(.pointer (some ⟨b47,0,none⟩)),v97] w98 λw99=>Z w99/\R ((.pointer (some ⟨b47,0,none⟩))) w99) (ai (decide (δ=43)) (bO G λz w101=>az t2 λb102 o103=>ct z b102 (o103+3) λv104=>aJ v104 0 λb105 o106=>ct z b105 (o106+Int.toNat 0* 1) λv109=>∃α:List Value,α.length=26/\(∀w',z w'->∀j,j< 26->World.cell? w' ⟨b5,0+j,none⟩=α[j]?)/\az t2 λb111 o112=>ct z b111 (o112+3) λv113=>aJ v113 1 λb114 o115=>ct z b114 (o115+Int.toNat 1* 1) λv118=>∃β:List Value,β.length=26/\(∀w',z w'->∀j,j< 26->World.cell? w' ⟨b5,0+j,none⟩=β[j]?)/\cB 137 #[m1,v109,(.agg (List.toArray α))] w101 λε ζ=>z ζ/\cB 137 #[m1,v118,(.agg (List.toArray β))] ζ λη θ=>z θ/\oneV ε=true/\oneV η=true/\aN θ (.cells #[ε,η] 146) λι κ=>z κ/\oneV (.slice (some ⟨ι,0,none⟩) 2 2)=true/\bg κ b10 4 (.slice (some ⟨ι,0,none⟩) 2 2) λw127=>χ w127) (bO G λH w129=>az t2 λb130 o131=>ct H b130 (o131+3) λv132=>aJ v132 0 λb133 o134=>ct H b133 (o134+Int.toNat 0* 1) λv137=>∃γ:List Value,γ.length=26/\(∀w',H w'->∀j,j< 26->World.cell? w' ⟨b5,0+j,none⟩=γ[j]?)/\cB 137 #[m1,v137,(.agg (List.toArray γ))] w129 λv139 μ=>H μ/\oneV v139=true/\bg μ b10 3 v139 λw142=>χ w142)))))/\∀(ν:World),χ ν->aN ν (.cells #[(.pointer (some ⟨b10,0,none⟩))] 156) λξ w145=>oneV (.slice (some ⟨ξ,0,none⟩) 1 1)=true/\bg w145 b47 1 (.slice (some ⟨ξ,0,none⟩) 1 1) λw147=>R ((.pointer (some ⟨b47,0,none⟩))) w147):
  Calls Tryz.prog 137 #[m1,t2,e3] w (ax [.v] R):=
 bs (bn [] [(4,[]),(6,[]),(8,[]),(23,[])] [5,10,14,15,19,22]) [.tmp 6 .v] [.v m1,.v t2,.v e3] Tryz.func137 (by kernel_rfl) h
end Go.Proofs.YtdecokaadekjnaaGreat
namespace Go.Proofs.YtdecokaadekjnaaGreat
open Go Go.RowKit
abbrev iv (n:Nat):Value:= .int .i64 n
def K.byte:K->UInt8
 | .s=>33 | .r=>63 | .t=>126 | .m=>61 | .p=>42
theorem eF.sub {D E:Nat->Prop}{w:World}{v:Value}{l:List Value}(h:eF D w v l)(hd:∀g,g< w.heap.size->D g->E g):eF E w v l:=by
 rcases h with h | ⟨b,off,cap,G,h2,z,h4⟩
 ·exact .inl h
 ·exact .inr ⟨b,off,cap,G,hd b z h2,z,h4⟩
def gd (D:Nat->Prop)(w:World)(v:Value)(o:List Nat)(K:List Value->Prop):Prop:=
 ∃b vo vt ts,v=ptr b/\D b/\b< w.heap.size/\w.cell? ⟨b,0,none⟩=some vo/\w.cell? ⟨b,1,none⟩=some vt/\eF D w vo (o.map iv)/\eF D w vt ts/\K ts
def EY (D:Nat->Prop)(w:World)(v:Value)(k:UInt8)(a b:Nat)(vr vp:Value):Prop:=
 ∃g,v=ptr g/\D g/\g< w.heap.size/\w.cell? ⟨g,0,none⟩=some (.int .u8 k.toNat)/\w.cell? ⟨g,1,none⟩=some (iv a)/\w.cell? ⟨g,2,none⟩=some (iv b)/\w.cell? ⟨g,3,none⟩=some vr/\w.cell? ⟨g,4,none⟩=some vp
def af (D:Nat->Prop)(w:World):Lv->List Value->Prop
 | .nil,ts=>ts=[]
 | .thr k a b o r n,ts=>∃t z a' G vr,ts=t::z/\EY D w t k.byte a' G vr (.slice none 0 0)/\(k= .t\/k= .p\/(a'=a/\G=b))/\gd D w vr o (af D w r)/\af D w n z
 | .sum H n,ts=>∃t z a' G vp us,ts=t::z/\EY D w t 43 a' G (.pointer none) vp/\eF D w vp us/\af D w H us/\af D w n z
 | .part o q n,ts=>∃v z,ts=v::z/\gd D w v o (af D w q)/\af D w n z
def aB (D:Nat->Prop)(w:World)(L:List Nat×Lv)(v:Value):Prop:=gd D w v L.1 (af D w L.2)
section
variable {D E S:Nat->Prop} {w w':World}
theorem gd.kp {v:Value}{o:List Nat}{K G:List Value->Prop}(h:gd D w v o K)(k:Kp w w' S)(z:∀g,D g->¬S g)(I:∀l,K l->G l):gd D w' v o G:=by
 obtain⟨b,vo,vt,ts,J,h2,H,h4,h5,V,W,h8⟩:=h;have hb:=k.block b H (z b h2);refine⟨b,vo,vt,ts,J,h2,Kx H k.size,?_,?_,V.kp k z,W.kp k z,I _ h8⟩<;>rw [J1 (w:=w) hb]<;>assumption
theorem gd.sub {v:Value}{o:List Nat}{K z:List Value->Prop}(h:gd D w v o K)(hd:∀g,g< w.heap.size->D g->E g)(H:∀l,K l->z l):gd E w v o z:=by
 obtain⟨b,vo,vt,ts,I,h2,G,h4,h5,J,V,h8⟩:=h;exact⟨b,vo,vt,ts,I,hd b G h2,G,h4,h5,J.sub hd,V.sub hd,H _ h8⟩
theorem EY.kp {v:Value}{k:UInt8}{a b:Nat}{vr vp:Value}(h:EY D w v k a b vr vp)(kp:Kp w w' S)(G:∀g,D g->¬S g):EY D w' v k a b vr vp:=by
 obtain⟨g,H,h2,z,h4,h5,I,J,h8⟩:=h;have hb:=kp.block g z (G g h2);refine⟨g,H,h2,Kx z kp.size,?_,?_,?_,?_,?_⟩<;>rw [J1 (w:=w) hb]<;>assumption
theorem EY.sub {v:Value}{k:UInt8}{a b:Nat}{vr vp:Value}(h:EY D w v k a b vr vp)(hd:∀g,g< w.heap.size->D g->E g):EY E w v k a b vr vp:=by
 obtain⟨g,G,h2,z,h4,h5,H,I,h8⟩:=h;exact⟨g,G,hd g z h2,z,h4,h5,H,I,h8⟩
theorem af.kp (k:Kp w w' S)(z:∀g,D g->¬S g):∀{l:Lv} {ts:List Value},af D w l ts->af D w' l ts
 | .nil,_,h=>h
 | .thr _ _ _ _ r n,_,⟨t,G,a',J,vr,H,h2,I,h4,h5⟩=>⟨t,G,a',J,vr,H,h2.kp k z,I,h4.kp k z λ _ h=>af.kp k z (l:=r) h,af.kp k z (l:=n) h5⟩
 | .sum V n,_,⟨t,G,a',J,vp,us,H,h2,I,h4,h5⟩=>⟨t,G,a',J,vp,us,H,h2.kp k z,I.kp k z,af.kp k z (l:=V) h4,af.kp k z (l:=n) h5⟩
 | .part o q n,_,⟨v,G,H,h2,I⟩=>⟨v,G,H,h2.kp k z λ _ h=>af.kp k z (l:=q) h,af.kp k z (l:=n) I⟩
theorem af.sub (hd:∀g,g< w.heap.size->D g->E g):∀{l:Lv} {ts:List Value},af D w l ts->af E w l ts
 | .nil,_,h=>h
 | .thr _ _ _ _ r n,_,⟨t,z,a',I,vr,G,h2,H,h4,h5⟩=>⟨t,z,a',I,vr,G,h2.sub hd,H,h4.sub hd λ _ h=>af.sub hd (l:=r) h,af.sub hd (l:=n) h5⟩
 | .sum J n,_,⟨t,z,a',I,vp,us,G,h2,H,h4,h5⟩=>⟨t,z,a',I,vp,us,G,h2.sub hd,H.sub hd,af.sub hd (l:=J) h4,af.sub hd (l:=n) h5⟩
 | .part o q n,_,⟨v,z,G,h2,H⟩=>⟨v,z,G,h2.sub hd λ _ h=>af.sub hd (l:=q) h,af.sub hd (l:=n) H⟩
theorem aB.kp {L:List Nat×Lv}{v:Value}(h:aB D w L v)(k:Kp w w' S)(z:∀g,D g->¬S g):aB D w' L v:=gd.kp h k z λ _ h=>af.kp k z h
theorem aB.sub {L:List Nat×Lv}{v:Value}(h:aB D w L v)(hd:∀g,g< w.heap.size->D g->E g):aB E w L v:=gd.sub h hd λ _ h=>af.sub hd h
theorem aB.ex {L:List Nat×Lv}{v:Value}(h:aB D w L v)(x:Ex w w'):aB D w' L v:=h.kp (Kp.ah x λ _=>False) λ _ _ h=>h
theorem af.ex {l:Lv}{ts:List Value}(h:af D w l ts)(x:Ex w w'):af D w' l ts:=af.kp (Kp.ah x λ _=>False) (λ _ _ h=>h) h
theorem af.app:∀{l m:Lv} {ts us:List Value},af D w l ts->af D w m us->af D w (l.app m) (ts++us)
 | .nil,_,_,_,h,G=>by cases h;exact G
 | .thr _ _ _ _ r n,_,_,_,⟨t,z,a',J,vr,H,h2,I,h4,h5⟩,G=>⟨t,z++_,a',J,vr,by rw [H];rfl,h2,I,h4,af.app (l:=n) h5 G⟩
 | .sum V n,_,_,_,⟨t,z,a',J,vp,us,H,h2,I,h4,h5⟩,G=>⟨t,z++_,a',J,vp,us,by rw [H];rfl,h2,I,h4,af.app (l:=n) h5 G⟩
 | .part o q n,_,_,_,⟨v,z,H,h2,I⟩,G=>⟨v,z++_,by rw [H];rfl,h2,af.app (l:=n) I G⟩
theorem af.len:∀{l:Lv} {ts:List Value},af D w l ts->ts.length=l.len
 | .nil,_,h=>by cases h;rfl
 | .thr _ _ _ _ r n,_,⟨t,z,a',I,vr,G,h2,H,h4,h5⟩=>by rw [G,J0,af.len (l:=n) h5,Lv.len]
 | .sum J n,_,⟨t,z,a',I,vp,us,G,h2,H,h4,h5⟩=>by rw [G,J0,af.len (l:=n) h5,Lv.len]
 | .part o q n,_,⟨v,z,G,h2,H⟩=>by rw [G,J0,af.len (l:=n) H,Lv.len]
end
def aP (e:Nat)(B:Nat)(w:World)(v:Value)(l:List Value):Prop:=w.ownsRow B e 1 v l.length l
theorem aP.nil (e B:Nat)(w:World):aP e B w (.slice none 0 0) []:=World.ownsRow_nil _ _ _ _
theorem aP.block {e B:Nat}{w:World}{v:Value}{l:List Value}(h:aP e B w v l):∀b,v.ownBlock=some b->B<=b/\b< w.heap.size:=MP h
theorem aP.mono {e B z:Nat}{w:World}{v:Value}{l:List Value}(h:aP e B w v l)(hb:z<=B):aP e z w v l:=Nz h hb
theorem aP.kp {e B:Nat}{w w':World}{S:Nat->Prop}{v:Value}{l:List Value}(h:aP e B w v l)(k:Kp w w' S)(G:∀g,v.ownBlock=some g->¬S g):aP e B w' v l:=by
 refine⟨h.1,?_⟩;rcases h.2 with H | ⟨g,cap,cur,rfl,hb,z,rest⟩
 ·exact .inl H
 ·exact .inr ⟨g,cap,cur,rfl,hb,by rw [k.block g (KO.1 z).1 (G g rfl)];exact z,rest⟩
theorem aP.BN {e B:Nat}{w:World}{v:Value}{l:List Value}(h:aP e B w v l){D:Nat->Prop}(H:∀g,v.ownBlock=some g->D g):eF D w v l:=by
 rcases h.2 with⟨rfl,I⟩ | ⟨g,cap,cur,rfl,hb,z,V,h2,W,h4⟩
 ·exact .inl ⟨rfl,KD I⟩
 ·refine .inr ⟨g,0,cap,rfl,H g rfl,(KO.1 z).1,λi x G=>?_⟩;unfold World.cell?;simp only [z,KF];have e:=Lb (λl=>l[i]?) h4;obtain⟨J,_⟩:=KX.1 G;simp only [KK,My,J,LN,G]at e;rw [<-LL];exact e
theorem aP.one {e:Nat}{w w':World}{B b:Nat}{x:Value}(hB:B<=w.heap.size)(hb:b=w.heap.size)(h:w'=w.alloc (.cells #[x] e)):aP e B w' (.slice (some ⟨b,0,none⟩) 1 1) [x]:=by
 subst hb h;refine⟨rfl,.inr ⟨_,1,#[x],rfl,hB,?_,by simp,by unfold maxLen;omega,rfl,rfl⟩⟩;unfold World.alloc;simp
theorem aP.push {e B by_:Nat}{w:World}{v:Value}{l:List Value}(h:aP e B w v l)(hB:B<=w.heap.size){D:Nat->Prop}{x:Value}{m:List Value}(G:eF D w x m)(hm:m.all oneV=true)(z:by_<=16)(H:l.length+m.length<=1099511627776){K:Value->World->Prop}
  (I:∀v' w',aP e B w' v' (l++m)->w.grownBy w' v.ownBlock->(∀b,v'.ownBlock=some b->v.ownBlock=some b\/w.heap.size<=b)->K v' w'):
  ∃(base n k:Nat) (xs news:List Value),World.ownsRow w base e 1 v n xs/\base<=Array.size (World.heap w)/\dW w x k 1 news/\(n+k<=maxLen/\(n+k)* by_<=140737488355328)/\
   ∀(v':Value) (w':World),World.ownsRow w' base e 1 v' (n+k) (xs++news)->World.grownBy w w' (Value.ownBlock v)->(∀b:Nat,Value.ownBlock v'=some b->Value.ownBlock v=some b\/Array.size (World.heap w)<=b)->K v' w':=by
 refine⟨B,l.length,m.length,l,m,h,hB,?_,⟨by unfold maxLen;omega,?_⟩,λv' w' J V hw=>I v' w' ?_ V hw⟩
 ·refine⟨by simp,hm,?_⟩;rcases G with⟨rfl,rfl⟩ | ⟨b,off,cap,rfl,_,hb,hc⟩
  ·exact .inl ⟨rfl,rfl⟩
  ·exact .inr ⟨b,off,cap,rfl,hc⟩
 ·have:(l.length+m.length)* by_<=1099511627776* 16:=Nb H z;omega
 ·unfold aP;rw [J'];exact J
theorem Kp.aQ {w w':World}{row:Option Nat}{S:Nat->Prop}(z:w.grownBy w' row)(hr:∀g,row=some g->S g):Kp w w' S:=
 ⟨z.os,z.tape,z.output,z.size,λg G H=>z.block g G λe=>H (hr g e.symm)⟩
theorem Kp.mono {w w':World}{S T:Nat->Prop}(z:∀g,S g->T g)(h:Kp w w' S):Kp w w' T:=⟨h.os,h.tape,h.output,h.size,λg G H=>h.block g G λe=>H (z g e)⟩
structure kB (B:Nat)(w:World)(b:Nat)(o:List Nat)(ts:List Value)(M:Nat->Prop):Prop where
 lt:b< w.heap.size
 le:B<=b
 mb:M b
 mr:∀g,M g->B<=g/\g< w.heap.size
 fr:∀j,w.frozen? ⟨b,j,none⟩=false
 sl:∃vo vt,w.cell? ⟨b,0,none⟩=some vo/\w.cell? ⟨b,1,none⟩=some vt/\aP 3 B w vo (o.map iv)/\aP 156 B w vt ts/\(∀g,vo.ownBlock=some g->M g/\g≠b)/\(∀g,vt.ownBlock=some g->M g/\g≠b)/\∀g,vo.ownBlock=some g->vt.ownBlock≠some g
theorem kB.kp {B:Nat}{w w':World}{b:Nat}{o:List Nat}{ts:List Value}{M S:Nat->Prop}(h:kB B w b o ts M)(k:Kp w w' S)(G:∀g,M g->¬S g):kB B w' b o ts M:=by
 obtain⟨I,h2,J,hr,h4,vo,vt,h5,W,V,h8,h9,h10,H⟩:=h;have hb:=k.block b I (G b J);refine⟨Kx I k.size,h2,J,λg z=>⟨(hr g z).1,Kx (hr g z).2 k.size⟩,λj=>by rw [KC (w:=w) hb];exact h4 j,vo,vt,?_,?_,V.kp k λg z=>G g (h9 g z).1,h8.kp k λg z=>G g (h10 g z).1,h9,h10,H⟩<;>rw [J1 (w:=w) hb]<;>assumption
theorem kB.ex {B:Nat}{w w':World}{b:Nat}{o:List Nat}{ts:List Value}{M:Nat->Prop}(h:kB B w b o ts M)(x:Ex w w'):kB B w' b o ts M:=h.kp (Kp.ah x λ _=>False) λ _ _ h=>h
theorem kB.Jc {B:Nat}{w:World}{b:Nat}{o:List Nat}{ts:List Value}{M D:Nat->Prop}(h:kB B w b o ts M)(G:∀g,g< w.heap.size->B<=g->D g){K:List Value->Prop}(J:K ts):gd D w (ptr b) o K:=by
 obtain⟨I,h2,Z,hr,h4,vo,vt,h5,V,H,h8,h9,h10,W⟩:=h;exact⟨b,vo,vt,ts,rfl,G b I h2,I,h5,V,H.BN λg z=>G g (H.block g z).2 (H.block g z).1,h8.BN λg z=>G g (h8.block g z).2 (h8.block g z).1,J⟩
theorem DQ (o:List Nat):(o.map iv).all oneV=true:=by simp [oneV]
theorem af.all {D:Nat->Prop}{w:World}:∀{l:Lv} {ts:List Value},af D w l ts->ts.all oneV=true
 | .nil,_,h=>by cases h;rfl
 | .thr _ _ _ _ r n,_,⟨t,z,a',I,vr,G,⟨g,e,_⟩,H,h4,h5⟩=>by rw [G,Lg,af.all (l:=n) h5,e];rfl
 | .sum J n,_,⟨t,z,a',I,vp,us,G,⟨g,e,_⟩,H,h4,h5⟩=>by rw [G,Lg,af.all (l:=n) h5,e];rfl
 | .part o q n,_,⟨v,z,G,⟨g,_,_,_,e,_⟩,H⟩=>by rw [G,Lg,af.all (l:=n) H,e];rfl
theorem uc {B:Nat}{w:World}{b:Nat}{o:List Nat}{ts:List Value}{M:Nat->Prop}(h:kB B w b o ts M)(hB:B<=w.heap.size){D:Nat->Prop}{v:Value}{o2:List Nat}{J:List Value}(h2:gd D w v o2 λl=>l=J)(ξ:J.all oneV=true)
  (hM:∀g,D g->¬M g) (hl:o.length+o2.length<=1099511627776/\ts.length+J.length<=1099511627776) {R:World->Prop}
  (hR:∀w' M',Kp w w' M->kB B w' b (o++o2) (ts++J) M'->(∀g,M' g->M g\/w.heap.size<=g)->R w'):Calls Tryz.prog 179 #[ptr b,v] w (ax [] R):=by
 refine lF _ v w R ?_;obtain⟨b2,ο,ς,ts3,rfl,g1,g2,g3,g4,g5,g6,e3⟩:=h2;subst e3;obtain⟨h1,hle,h3,hr,h4,vo,vt,h5,h6,h7,h8,h9,h10,γ⟩:=h;have V:¬M b2:=hM b2 g1;refine⟨λw'=>Kp w w' λg=>vo.ownBlock=some g\/vt.ownBlock=some g,λw1 δ=>⟨δ▸Kp.ah (Ex.drew w) _,b,0,rfl,vo,λw' k=>?_,b2,0,rfl,ο,λw' k=>?_,b,0,rfl,vt,λw' k=>?_,b2,0,rfl,ς,λw' k=>?_,?_⟩⟩
 ·rw [J1 (w:=w) (k.block b h1 λh=>h.elim (λe=>(h9 b e).2 rfl) λe=>(h10 b e).2 rfl)];exact h5
 ·rw [J1 (w:=w) (k.block b2 g2 λh=>h.elim (λe=>V (h9 b2 e).1) λe=>V (h10 b2 e).1)];exact g3
 ·rw [J1 (w:=w) (k.block b h1 λh=>h.elim (λe=>(h9 b e).2 rfl) λe=>(h10 b e).2 rfl)];exact h6
 ·rw [J1 (w:=w) (k.block b2 g2 λh=>h.elim (λe=>V (h9 b2 e).1) λe=>V (h10 b2 e).1)];exact g4
 have x1:Ex w w1:=δ▸Ex.drew w;have k1:Kp w w1 λ _=>False:=Kp.ah x1 _
 have s1:w1.heap.size=w.heap.size:=by rw [δ];rfl
 refine aP.push (h7.kp k1 λ _ _ h=>h) (by omega) (g5.kp k1 λ _ _ h=>h) (DQ o2) (by omega) (by simp;exact hl.1) λH w2 W υ φ=>?_
 have k2:Kp w1 w2 λg=>vo.ownBlock=some g:=Kp.aQ υ λg h=>h
 have ε:Kp w w2 λg=>vo.ownBlock=some g:=Kp.trans (Kp.ah x1 _) k2 λg _ h=>h
 refine⟨Kp.trans (Kp.ah x1 _) k2 λg _ h=> .inl h,?_⟩;have s2:=k2.size;have χ:=g6.kp ε λg z e=>hM g z (h9 g e).1
 have ψ:aP 156 B w2 vt ts:=h8.kp ε λg z e=>γ g e z
 refine aP.push ψ (by omega) χ ξ (by omega) hl.2 λI w3 ζ ω hn3=>?_
 have k3:Kp w2 w3 λg=>vt.ownBlock=some g:=Kp.aQ ω λg h=>h
 have η:Kp w w3 λg=>vo.ownBlock=some g\/vt.ownBlock=some g:=Kp.trans (Kp.mono (λg h=> .inl h) ε) k3 λg _ h=> .inr h
 have s3:=k3.size;have hv1:oneV H=true:=by
  rcases W.2 with⟨rfl,_⟩ | ⟨g,cap,cur,rfl,_⟩<;>rfl
 have hv2:oneV I=true:=by
  rcases ζ.2 with⟨rfl,_⟩ | ⟨g,cap,cur,rfl,_⟩<;>rfl
 have θ:=η.block b h1 λh=>h.elim (λe=>(h9 b e).2 rfl) λe=>(h10 b e).2 rfl
 have c30:w3.cell? ⟨b,0,none⟩=some vo:=by rw [J1 (w:=w) θ];exact h5
 have κ:w3.cell? ⟨b,1,none⟩=some vt:=by rw [J1 (w:=w) θ];exact h6
 have f3:∀j,w3.frozen? ⟨b,j,none⟩=false:=λj=>by rw [KC (w:=w) θ];exact h4 j
 refine⟨η,b,0,rfl,hv1,⟨⟨_,c30⟩,f3 0⟩,λw4 G=>⟨b,0,rfl,hv2,⟨⟨vt,?_⟩,?_⟩,λw5 Z=>?_⟩⟩
 ·rw [G,J7 _ _ _ _ (by simp)];exact κ
 ·rw [G,Kt];exact f3 1
 have α:Kp w3 w5 λg=>g=b:=by
  rw [Z,G];exact Kp.set (Kp.set (S:=λg=>g=b) (Kp.ah (Ex.refl w3) _) rfl _) rfl _
 have β:∀g,H.ownBlock=some g->(vo.ownBlock=some g\/w.heap.size<=g):=λg z=>(φ g z).elim .inl λh=> .inr (by omega)
 have ι:∀g,I.ownBlock=some g->(vt.ownBlock=some g\/w2.heap.size<=g):=λg z=>hn3 g z
 have μ:∀g,H.ownBlock=some g->g≠b:=λg z=>(β g z).elim (λe=>(h9 g e).2) λe=>by omega
 have ν:∀g,I.ownBlock=some g->g≠b:=λg z=>(ι g z).elim (λe=>(h10 g e).2) λe=>by omega
 have hot:∀g,H.ownBlock=some g->I.ownBlock≠some g:=λg z e=>by
  have hlt:=(W.block g z).2;rcases ι g e with e1 | e1
  ·rcases β g z with e2 | e2
   ·exact γ g e2 e1
   ·have :=(h8.block g e1).2;omega
  ·omega
 have s5:=α.size;refine hR w5 (λg=>M g\/(w.heap.size<=g/\g< w5.heap.size)) ?_ ⟨?_,hle,.inl h3,λg z=>?_,λj=>?_,H,I,?_,?_,?_,?_,λg z=>⟨?_,μ g z⟩,λg z=>⟨?_,ν g z⟩,hot⟩ λg h=>h.elim .inl λh=> .inr h.1
 ·refine Kp.trans (Kp.mono (λg h=>h.elim (λe=>(h9 g e).1) λe=>(h10 g e).1) η) α λg _ e=>?_
  rw [e];exact h3
 ·omega
 ·rcases z with z | z
  ·have :=hr g z;omega
  ·omega
 ·rw [Z,Kt,G,Kt];exact f3 j
 ·rw [Z,J7 _ _ _ _ (by simp),G];exact Kj _ _ _ c30
 ·rw [Z];refine Kj _ _ _ (u:=vt) ?_;rw [G,J7 _ _ _ _ (by simp)];exact κ
 ·rw [K3];refine(W.kp k3 λg z e=>?_).kp α μ;rcases β g z with e2 | e2
  ·exact γ g e2 e
  ·have :=(h8.block g e).2;omega
 ·exact ζ.kp α ν
 ·have :=(W.block g z).2;exact(β g z).elim (λe=> .inl (h9 g e).1) λe=> .inr ⟨e,by omega⟩
 ·have :=(ζ.block g z).2;exact(ι g z).elim (λe=> .inl (h10 g e).1) λe=> .inr ⟨by omega,by omega⟩
theorem gH {c:UInt8}(h:lt c=true):(c - 97:UInt8).toNat=c.toNat - 97:=by
 have :=aW h;rw [UInt8.toNat_sub_of_le]
 ·rfl
 ·exact Kl.2 (by simpa using this.1)
structure Mk (w:World)(m n:Nat):Prop where
 lt:m< w.heap.size
 c:w.cell? ⟨m,0,none⟩=some (iv n)
 f:w.frozen? ⟨m,0,none⟩=false
theorem Mk.kp {w w':World}{m n:Nat}{S:Nat->Prop}(h:Mk w m n)(k:Kp w w' S)(z:¬S m):Mk w' m n:=by
 have hb:=k.block m h.lt z;exact⟨Kx h.lt k.size,by rw [J1 (w:=w) hb];exact h.c,by rw [KC (w:=w) hb];exact h.f⟩
theorem Mk.ex {w w':World}{m n:Nat}(h:Mk w m n)(x:Ex w w'):Mk w' m n:=h.kp (Kp.ah x λ _=>False) λh=>h
structure Km (m:Nat)(w w':World):Prop where
 kp:Kr m w w'
 ce:∀j,j≠0->w'.cell? ⟨m,j,none⟩=w.cell? ⟨m,j,none⟩
 fz:∀j,w'.frozen? ⟨m,j,none⟩=w.frozen? ⟨m,j,none⟩
theorem Km.size {m:Nat}{w w':World}(h:Km m w w'):w.heap.size<=w'.heap.size:=h.kp.size
theorem Km.trans {m:Nat}{a b c:World}(h:Km m a b)(k:Km m b c):Km m a c:=⟨Kr.trans h.kp k.kp,λj z=>(k.ce j z).trans (h.ce j z),λj=>(k.fz j).trans (h.fz j)⟩
theorem Km.out {m:Nat}{w0 w w':World}{S:Nat->Prop}(h:Km m w0 w)(k:Kp w w' S)(G:∀g,g< w0.heap.size->¬S g)(hm:m< w0.heap.size):Km m w0 w':=by
 have e:=k.block m (Kx hm h.kp.size) (G m hm);exact⟨Kp.trans h.kp k λg H z=>absurd z (G g H),λj I=>by rw [J1 (w:=w) e];exact h.ce j I,λj=>by rw [KC (w:=w) e];exact h.fz j⟩
theorem Km.refl (m:Nat)(w:World):Km m w w:=⟨Kr.refl m w,λ _ _=>rfl,λ _=>rfl⟩
theorem Km.ex {m:Nat}{w w':World}(h:Ex w w')(hm:m< w.heap.size):Km m w w':=(Km.refl m w).out (Kp.ah h λ _=>False) (λ _ _ h=>h) hm
theorem Km.set (m:Nat)(w:World)(v:Value):Km m w (w.setCell ⟨m,0,none⟩ v):=⟨Kr.set w 0 v,λj z=>J7 _ _ _ _ (λe=>by injection e with G H;omega),λj=>Kt _ _ _ _⟩
theorem r7 {w:World}{m n:Nat}(h:Mk w m n)(I:n<=1099511627776){R:Int->World->Prop}(G:∀w',Km m w w'->Mk w' m (n+1)->R ((n+101:Nat):Int) w'):Calls Tryz.prog 178 #[ptr m] w (ax [.i] R):=by
 refine lO _ w R ?_;refine⟨m,0,rfl,n,h.c,by unfold aj;omega,m,0,rfl,⟨⟨_,h.c⟩,h.f⟩,λw1 z=>⟨m,0,rfl,(n:Int)+1,?_,by unfold aj;omega,?_⟩⟩
 ·rw [z];exact Kj _ _ _ h.c
 ·have e:((n:Int)+1+100)=((n+101:Nat):Int):=by omega
  have H:((n:Int)+1)=((n+1:Nat):Int):=by omega
  rw [e];rw [H]at z;refine G w1 (z▸Km.set m w _) ⟨?_,?_,?_⟩
  ·rw [z,KM];exact h.lt
  ·rw [z];exact Kj _ _ _ h.c
  ·rw [z,Kt];exact h.f
def FE (cs:List Value)(e:UInt8->Nat):Prop:=cs.length=26/\∀c,lt c=true->cs[c.toNat - 97]?=some (iv (e c))
structure lu (w:World)(b:Nat)(e:UInt8->Nat):Prop where
 hb:b< w.heap.size
 f:∀j,w.frozen? ⟨b,j,none⟩=false
 c:∃cs,FE cs e/\∀j,j< 26->w.cell? ⟨b,0+j,none⟩=cs[j]?
theorem lu.kp {w w':World}{b:Nat}{e:UInt8->Nat}{S:Nat->Prop}(h:lu w b e)(k:Kp w w' S)(z:¬S b):lu w' b e:=by
 have hb:=k.block b h.hb z;obtain⟨G,h2,cs,H,h4⟩:=h;exact⟨Kx G k.size,λj=>by rw [KC (w:=w) hb];exact h2 j,cs,H,λj I=>by rw [J1 (w:=w) hb];exact h4 j I⟩
theorem lu.get {w:World}{b:Nat}{e:UInt8->Nat}(h:lu w b e){c:UInt8}(hc:lt c=true):w.cell? ⟨b,0+Int.toNat ((c - 97:UInt8).toNat:Int)* 1,none⟩=some (iv (e c)):=by
 obtain⟨G,h2,cs,z,h4⟩:=h;have :=aW hc;rw [gH hc,KK,J9,h4 _ (by omega)];exact z.2 c hc
theorem lu.set {w w':World}{b:Nat}{e:UInt8->Nat}(h:lu w b e){c:UInt8}(hc:lt c=true){n:Nat}(hw:w'=w.setCell ⟨b,0+Int.toNat ((c - 97:UInt8).toNat:Int)* 1,none⟩ (iv n)):lu w' b (aF e c n):=by
 have H:=h.get hc;obtain⟨J,h2,cs,G,h4⟩:=h;have Z:=aW hc;rw [gH hc,KK,J9]at hw H;refine⟨by rw [hw,KM];exact J,λj=>by rw [hw,Kt];exact h2 j,cs.set (c.toNat - 97) (iv n),⟨by rw [LV];exact G.1,λd hd=>?_⟩,λj V=>?_⟩
 ·have W:=aW hd;rw [List.getElem?_set];by_cases z:d=c
  ·subst z;rw [KG rfl,KG (by rw [G.1];omega)];simp [aF]
  ·have I:¬c.toNat - 97=d.toNat - 97:=λI=>z (Ky.1 (by omega))
   rw [Ko I,G.2 d hd];simp [aF,z]
 ·rw [List.getElem?_set];by_cases z:c.toNat - 97=j
  ·subst z;rw [KG rfl,KG (by rw [G.1];omega),hw];exact Kj _ _ _ H
  ·rw [Ko z,hw,J7 _ _ _ _ (by simp)];exact h4 j V
structure kH (w:World)(g:Nat)(k:UInt8)(a b:Nat)(vr vp:Value):Prop where
 lt:g< w.heap.size
 c0:w.cell? ⟨g,0,none⟩=some (.int .u8 k.toNat)
 c1:w.cell? ⟨g,1,none⟩=some (iv a)
 c2:w.cell? ⟨g,2,none⟩=some (iv b)
 c3:w.cell? ⟨g,3,none⟩=some vr
 c4:w.cell? ⟨g,4,none⟩=some vp
 f:∀j,w.frozen? ⟨g,j,none⟩=false
section
variable {w w':World} {g a b x:Nat} {k:UInt8} {vr vp v:Value} {S:Nat->Prop}
theorem kH.kp (h:kH w g k a b vr vp)(kp:Kp w w' S)(z:¬S g):kH w' g k a b vr vp:=by
 have hb:=kp.block g h.lt z;refine⟨Kx h.lt kp.size,?_,?_,?_,?_,?_,λj=>?_⟩
 ·rw [J1 (w:=w) hb];exact h.c0
 ·rw [J1 (w:=w) hb];exact h.c1
 ·rw [J1 (w:=w) hb];exact h.c2
 ·rw [J1 (w:=w) hb];exact h.c3
 ·rw [J1 (w:=w) hb];exact h.c4
 ·rw [KC (w:=w) hb];exact h.f j
theorem kH.yn (h:kH w g k a b vr vp)(hw:w'=w.setCell ⟨g,1,none⟩ (iv x)):kH w' g k x b vr vp:=by
 subst hw;exact⟨by rw [KM];exact h.lt,by rw [J7 _ _ _ _ (by simp)];exact h.c0,Kj _ _ _ h.c1,by rw [J7 _ _ _ _ (by simp)];exact h.c2,
  by rw [J7 _ _ _ _ (by simp)];exact h.c3,by rw [J7 _ _ _ _ (by simp)];exact h.c4,λj=>by rw [Kt];exact h.f j⟩
theorem kH.tU (h:kH w g k a b vr vp)(hw:w'=w.setCell ⟨g,2,none⟩ (iv x)):kH w' g k a x vr vp:=by
 subst hw;exact⟨by rw [KM];exact h.lt,by rw [J7 _ _ _ _ (by simp)];exact h.c0,by rw [J7 _ _ _ _ (by simp)];exact h.c1,Kj _ _ _ h.c2,
  by rw [J7 _ _ _ _ (by simp)];exact h.c3,by rw [J7 _ _ _ _ (by simp)];exact h.c4,λj=>by rw [Kt];exact h.f j⟩
theorem kH.BQ (h:kH w g k a b vr vp)(hw:w'=w.setCell ⟨g,3,none⟩ v):kH w' g k a b v vp:=by
 subst hw;exact⟨by rw [KM];exact h.lt,by rw [J7 _ _ _ _ (by simp)];exact h.c0,by rw [J7 _ _ _ _ (by simp)];exact h.c1,by rw [J7 _ _ _ _ (by simp)];exact h.c2,
  Kj _ _ _ h.c3,by rw [J7 _ _ _ _ (by simp)];exact h.c4,λj=>by rw [Kt];exact h.f j⟩
theorem kH.HS (h:kH w g k a b vr vp)(hw:w'=w.setCell ⟨g,4,none⟩ v):kH w' g k a b vr v:=by
 subst hw;exact⟨by rw [KM];exact h.lt,by rw [J7 _ _ _ _ (by simp)];exact h.c0,by rw [J7 _ _ _ _ (by simp)];exact h.c1,by rw [J7 _ _ _ _ (by simp)];exact h.c2,
  by rw [J7 _ _ _ _ (by simp)];exact h.c3,Kj _ _ _ h.c4,λj=>by rw [Kt];exact h.f j⟩
theorem kH.new {e:Nat}(z:g=w.heap.size)(hw:w'=w.alloc (.cells #[.int .u8 k.toNat,iv a,iv b,vr,vp] e)):kH w' g k a b vr vp:=by
 subst z hw;refine⟨by rw [size_alloc];omega,aa rfl,aa rfl,aa rfl,aa rfl,aa rfl,λj=>?_⟩;unfold World.frozen? World.alloc;simp
theorem kH.Ix (h:kH w g k a b vr vp){D:Nat->Prop}(z:D g):EY D w (ptr g) k a b vr vp:=⟨g,rfl,z,h.lt,h.c0,h.c1,h.c2,h.c3,h.c4⟩
end
structure RS (w0 w:World)(m n:Nat)(e:UInt8->Nat)(b5 b10:Nat)(k:UInt8)(a b:Nat):Prop where
 kp:Km m w0 w
 mc:Mk w m n
 hm:m< w0.heap.size
 env:lu w b5 e
 h5:w0.heap.size<=b5
 h10:w0.heap.size<=b10
 ne:b5≠b10
 th:kH w b10 k a b (.pointer none) (.slice none 0 0)
section
variable {w0 w w':World} {m n b5 b10 a b x:Nat} {e:UInt8->Nat} {k c:UInt8}
theorem RS.go (h:RS w0 w m n e b5 b10 k a b){n':Nat}(kr:Km m w w')(mk:Mk w' m n'):RS w0 w' m n' e b5 b10 k a b:=by
 have z:=h.hm;have h2:=h.h5;have G:=h.h10;exact⟨Km.trans h.kp kr,mk,h.hm,h.env.kp kr.kp (by omega),h.h5,h.h10,h.ne,h.th.kp kr.kp (by omega)⟩
theorem RS.ex (h:RS w0 w m n e b5 b10 k a b)(z:Ex w w'):RS w0 w' m n e b5 b10 k a b:=h.go (Km.ex z h.mc.lt) (h.mc.ex z)
theorem RS.own (h:RS w0 w m n e b5 b10 k a b){S:Nat->Prop}(kp:Kp w w' S)(G:∀g,S g->w0.heap.size<=g/\g≠b5/\g≠b10):RS w0 w' m n e b5 b10 k a b:=by
 have H:=h.hm;refine⟨h.kp.out kp (λg I z=>(by have :=(G g z).1;omega)) H,h.mc.kp kp λz=>(by have :=(G m z).1;omega),h.hm,h.env.kp kp λz=>(G _ z).2.1 rfl,h.h5,h.h10,h.ne,h.th.kp kp λz=>(G _ z).2.2 rfl⟩
theorem RS.yn (h:RS w0 w m n e b5 b10 k a b)(hw:w'=w.setCell ⟨b10,1,none⟩ (iv x)):RS w0 w' m n e b5 b10 k x b:=by
 have z:=h.hm;have G:=h.h10;have kp:Kr b10 w w':=hw▸Kr.set w 1 _;exact⟨h.kp.out kp (λg H e=>(by omega)) z,h.mc.kp kp (by omega),h.hm,h.env.kp kp h.ne,h.h5,h.h10,h.ne,h.th.yn hw⟩
theorem RS.tU (h:RS w0 w m n e b5 b10 k a b)(hw:w'=w.setCell ⟨b10,2,none⟩ (iv x)):RS w0 w' m n e b5 b10 k a x:=by
 have z:=h.hm;have G:=h.h10;have kp:Kr b10 w w':=hw▸Kr.set w 2 _;exact⟨h.kp.out kp (λg H e=>(by omega)) z,h.mc.kp kp (by omega),h.hm,h.env.kp kp h.ne,h.h5,h.h10,h.ne,h.th.tU hw⟩
theorem RS.Jy (h:RS w0 w m n e b5 b10 k a b)(hc:lt c=true)(hw:w'=w.setCell ⟨b5,0+Int.toNat ((c - 97:UInt8).toNat:Int)* 1,none⟩ (iv x)):RS w0 w' m n (aF e c x) b5 b10 k a b:=by
 have z:=h.hm;have G:=h.h5;have kp:Kr b5 w w':=hw▸Kr.set w _ _;exact⟨h.kp.out kp (λg H e=>(by omega)) z,h.mc.kp kp (by omega),h.hm,h.env.set hc hw,h.h5,h.h10,h.ne,h.th.kp kp (Ni h.ne)⟩
end
def BZ (t:P):Prop:=∀{D:Nat->Prop} {v:Value} {w:World} {m n:Nat} {cs:List Value} {e:UInt8->Nat} {R:Value->World->Prop},aI D w t v->(∀g,D g->¬g=m)->Mk w m n->FE cs e->Lt t->n+t.size<=1099511627776->
 (∀v' w',Km m w w'->Mk w' m (num t e n).2->aB (Be w) w' (flat (num t e n).1) v'->R v' w')->Calls Tryz.prog 137 #[ptr m,v,.agg cs.toArray] w (ax [.v] R)
def T.bnd:P->Bool
 | .rcv .. =>true | .res .. =>true | _=>false
theorem xp (t:P):(decide (t.kind=63)||decide (t.kind=35))=t.bnd:=by cases t<;>rfl
theorem IX {t:P}(h:Lt t)(hc:t.ca≠0):lt t.ca=true:=by
 cases t<;>first | exact h.1 | exact absurd rfl hc
theorem II {t:P}(h:Lt t)(hc:t.cb≠0):lt t.cb=true:=by
 cases t<;>first | exact h.2.1 | exact h.1 | exact absurd rfl hc
theorem HN {t:P}(h:Lt t)(hb:t.bnd=true):lt t.cb=true:=by
 cases t<;>first | exact h.2.1 | exact h.1 | cases hb
theorem bW:∀(t:P) (e:UInt8->Nat) (n:Nat),(num t e n).1.size=t.size/\(num t e n).2<=n+t.size
 | .nil,_,n=>⟨rfl,by simp [num,T.size]⟩
 | .snd _ _ p,e,n=>by have :=bW p e n;exact⟨by simp [num,T.size,this.1],by simp only [num,T.size];omega⟩
 | .mat _ _ p,e,n=>by have :=bW p e n;exact⟨by simp [num,T.size,this.1],by simp only [num,T.size];omega⟩
 | .tau p,e,n=>by have :=bW p e n;exact⟨by simp [num,T.size,this.1],by simp only [num,T.size];omega⟩
 | .rep p,e,n=>by have :=bW p e n;exact⟨by simp [num,T.size,this.1],by simp only [num,T.size];omega⟩
 | .rcv _ x p,e,n=>by have :=bW p (aF e x (n+101)) (n+1);exact⟨by simp [num,T.size,this.1],by simp only [num,T.size];omega⟩
 | .res x p,e,n=>by have :=bW p (aF e x (n+101)) (n+1);exact⟨by simp [num,T.size,this.1],by simp only [num,T.size];omega⟩
 | .sum p q,e,n=>by have :=bW p e n;have h:=bW q e (num p e n).2;exact⟨by simp [num,T.size,this.1,h.1],by simp only [num,T.size];omega⟩
 | .par p q,e,n=>by have :=bW p e n;have h:=bW q e (num p e n).2;exact⟨by simp [num,T.size,this.1,h.1],by simp only [num,T.size];omega⟩
theorem jo:∀u:U,(flat u).1.length<=u.size/\(flat u).2.len<=u.size
 | .nil=>by simp [flat,Lv.len]
 | .snd .. =>by simp [flat,Lv.len,T.size]
 | .rcv .. =>by simp [flat,Lv.len,T.size]
 | .tau .. =>by simp [flat,Lv.len,T.size]
 | .sum .. =>by simp [flat,Lv.len,T.size]
 | .mat .. =>by simp [flat,Lv.len,T.size]
 | .rep .. =>by simp [flat,Lv.len,T.size]
 | .res x p=>by have :=jo p;simp only [flat,T.size,J0];omega
 | .par p q=>by have :=jo p;have :=jo q;simp only [flat,T.size,J',Lv.eh];omega
theorem kB.new {w w':World}{b B e:Nat}(hB:B<=w.heap.size)(hb:b=w.heap.size)(hw:w'=w.alloc (.cells #[.slice none 0 0,.slice none 0 0] e)):kB B w' b [] [] (λg=>g=b):=by
 subst hb hw;refine⟨by rw [size_alloc];omega,hB,rfl,λg z=>⟨by omega,by rw [size_alloc];omega⟩,λj=>?_,_,_,aa rfl,aa rfl,aP.nil _ _ _,aP.nil _ _ _,λg h=>(by cases h),λg h=>(by cases h),λg h=>(by cases h)⟩;unfold World.frozen? World.alloc;simp
theorem Ar {D Q:Nat->Prop}{w1:World}{t p:P}{v:Value}{b5:Nat}{e:UInt8->Nat}(h:aI D w1 t v)(hD:∀g,D g->¬Q g)(hE:lu w1 b5 e)(h5:¬Q b5){i:Int}(h0:0<=i)(hp:t.parts[i.toNat]?=some p){K:Value->List Value->Prop}(hK:∀x cs,aI D w1 p x->FE cs e->K x cs):
  ∃(b o:Nat),v=Value.pointer (some ⟨b,o,none⟩)/\∃J:Value,(∀w',Kp w1 w' Q->World.cell? w' ⟨b,(o+3),none⟩=some J)/\∃(V W z H:Nat),J=Value.slice (some ⟨V,W,none⟩) z H/\0<=i/\i< z/\
   ∃Z:Value,(∀w',Kp w1 w' Q->World.cell? w' ⟨V,(W+Int.toNat i* 1),none⟩=some Z)/\∃G:List Value,List.length G=26/\(∀w',Kp w1 w' Q->∀j,j< 26->World.cell? w' ⟨b5,0+j,none⟩=G[j]?)/\K Z G:=by
 obtain⟨b,vs,l,rfl,h1,h2,h3,h4,β,h6,h7,h8⟩:=h.inv;obtain⟨hi,γ⟩:=KX.1 hp;have I:i.toNat< l.length:=by rw [h8.1];exact hi
 have hx:=h8.2 i.toNat l[i.toNat] p (J2 I) hp;refine⟨b,0,rfl,vs,λw' k=>?_,?_⟩
 ·rw [J1 (w:=w1) (k.block b h2 (hD b h1))];exact h6
 rcases h7 with⟨_,rfl⟩ | ⟨b',off,cap,rfl,i1,i2,i3⟩
 ·simp at I
 obtain⟨cs,hc,α⟩:=hE.c;refine⟨b',off,l.length,cap,rfl,h0,by omega,l[i.toNat],λw' k=>?_,cs,hc.1,λw' k j hj=>?_,hK _ _ hx hc⟩
 ·rw [J1 (w:=w1) (k.block b' i2 (hD b' i1)),KK];exact i3 _ _ (J2 I)
 ·rw [J1 (w:=w1) (k.block b5 hE.hb h5)];exact α j hj
theorem aB.ths {D:Nat->Prop}{w:World}{L:List Nat×Lv}{v:Value}(h:aB D w L v):∃ts,gd D w v L.1 (λl=>l=ts)/\af D w L.2 ts:=by
 obtain⟨b,vo,vt,ts,z,h2,G,h4,h5,H,I,h8⟩:=h;exact⟨ts,⟨b,vo,vt,ts,z,h2,G,h4,h5,H,I,rfl⟩,h8⟩
theorem gd.one {D:Nat->Prop}{w:World}{v:Value}{o:List Nat}{K:List Value->Prop}(h:gd D w v o K):oneV v=true:=by
 obtain⟨b,_,_,_,rfl,_⟩:=h;rfl
theorem kB.Jx {B b g n e:Nat}{w w1 w2:World}(h:kB B w b [] [] λg=>g=b)(I:g=w.heap.size)(H:w1=w.alloc (.cells #[iv n] 3))(G:w2=w1.setCell ⟨b,0,none⟩ (.slice (some ⟨g,0,none⟩) 1 1)):kB B w2 b [n] [] λx=>x=b\/x=g:=by
 have z:Ex w w1:=H▸Ex.alloc w _;have J:=h.ex z;have V:=h.lt;have hle:=h.le;have W:aP 3 B w1 (.slice (some ⟨g,0,none⟩) 1 1) [iv n]:=aP.one (by omega) I H;have s1:w1.heap.size=w.heap.size+1:=by rw [H,size_alloc]
 obtain⟨Z,h2,h3,hr,h4,vo,vt,h5,h6,h7,h8,h9,h10,α⟩:=J;have k:Kr b w1 w2:=G▸Kr.set w1 0 _;refine⟨by rw [G,KM];exact Z,h2,.inl rfl,λx z=>?_,λj=>by rw [G,Kt];exact h4 j,_,vt,?_,?_,W.kp k λx z=>?_,?_,λx z=>?_,λx z=>⟨.inl (h10 x z).1,(h10 x z).2⟩,λx z e=>?_⟩
 ·have :=k.size;rcases z with rfl | rfl<;>omega
 ·rw [G];exact Kj _ _ _ h5
 ·rw [G,J7 _ _ _ _ (by simp)];exact h6
 ·have e:g=x:=KS z;omega
 ·exact h8.kp k λx z=>(h10 x z).2
 ·have e:g=x:=KS z;exact⟨.inr e.symm,by omega⟩
 ·have :=(h10 x e)
  exact absurd this.1 this.2
theorem kB.JD {B b g:Nat}{w w1 w2:World}{x:Value}(h:kB B w b [] [] λg=>g=b)(I:g=w.heap.size)(H:w1=w.alloc (.cells #[x] 156))(G:w2=w1.setCell ⟨b,1,none⟩ (.slice (some ⟨g,0,none⟩) 1 1)):kB B w2 b [] [x] λx=>x=b\/x=g:=by
 have z:Ex w w1:=H▸Ex.alloc w _;have J:=h.ex z;have V:=h.lt;have hle:=h.le;have W:aP 156 B w1 (.slice (some ⟨g,0,none⟩) 1 1) [x]:=aP.one (by omega) I H;have s1:w1.heap.size=w.heap.size+1:=by rw [H,size_alloc]
 obtain⟨Z,h2,h3,hr,h4,vo,vt,h5,h6,h7,h8,h9,h10,α⟩:=J;have k:Kr b w1 w2:=G▸Kr.set w1 1 _;refine⟨by rw [G,KM];exact Z,h2,.inl rfl,λx z=>?_,λj=>by rw [G,Kt];exact h4 j,vo,_,?_,?_,?_,W.kp k λx z=>?_,λx z=>⟨.inl (h9 x z).1,(h9 x z).2⟩,λx z=>?_,λx e z=>?_⟩
 ·have :=k.size;rcases z with rfl | rfl<;>omega
 ·rw [G,J7 _ _ _ _ (by simp)];exact h5
 ·rw [G];exact Kj _ _ _ h6
 ·exact h7.kp k λx z=>(h9 x z).2
 ·have e:g=x:=KS z;omega
 ·have e:g=x:=KS z;exact⟨.inr e.symm,by omega⟩
 ·have :=(h9 x e)
  exact absurd this.1 this.2
def T.eB (t:P)(e:UInt8->Nat)(n:Nat):UInt8->Nat:=if t.bnd=true then aF e t.cb (n+101)else e
def T.nB (t:P)(n:Nat):Nat:=if t.bnd=true then n+1 else n
def T.aA (t:P)(e:UInt8->Nat):Nat:=if t.ca=0 then 0 else e t.ca
def T.bA (t:P)(e:UInt8->Nat)(n:Nat):Nat:=if t.cb=0 then 0 else t.eB e n t.cb
structure RW (D:Nat->Prop)(w w':World)(m n:Nat)(e:UInt8->Nat)(b5 b10 b47:Nat)(t:P)(v:Value):Prop where
 rs:RS w w' m (t.nB n) (t.eB e n) b5 b10 t.kind (t.aA e) (t.bA e n)
 bd:kB w.heap.size w' b47 [] [] λg=>g=b47
 n5:b47≠b5
 n10:b47≠b10
 tm:aI D w' t v
 d:∀g,D g->g< w.heap.size/\¬g=m
def RJ (w w':World)(m n:Nat)(e:UInt8->Nat)(b47 b10:Nat)(t:P):Prop:=
 Km m w w'/\Mk w' m (num t e n).2/\kB w.heap.size w' b47 [] [] (λg=>g=b47)/\(flat (num t e n).1).1=[]/\af (λg=>(w.heap.size<=g/\g≠b47)/\g< w'.heap.size) w' (flat (num t e n).1).2 [ptr b10]
theorem E6 {t:P}{w z:World}{m n:Nat}{e:UInt8->Nat}{b47 b10:Nat}{R:Value->World->Prop}(hm:m< w.heap.size)(hJ:RJ w z m n e b47 b10 t)(hR:∀v' w',Km m w w'->Mk w' m (num t e n).2->aB (Be w) w' (flat (num t e n).1) v'->R v' w'):
  ∀(H:Nat) (G:World),H=Array.size (World.heap z)->G=World.alloc z (Obj.cells #[(Value.pointer (some ⟨b10,0,none⟩))] 156)->oneV (Value.slice (some ⟨H,0,none⟩) 1 1)=true/\
   ((∃J:Value,World.cell? G ⟨b47,1,none⟩=some J)/\World.frozen? G ⟨b47,1,none⟩=false)/\∀I:World,I=World.setCell G ⟨b47,1,none⟩ (Value.slice (some ⟨H,0,none⟩) 1 1)->R ((Value.pointer (some ⟨b47,0,none⟩))) I:=by
 obtain⟨k,mk,bd,ho,Z⟩:=hJ;intro g w1 hg V;have hx:Ex z w1:=V▸Ex.alloc z _;have α:=bd.ex hx;have γ:=bd.lt;have hle:=bd.le;refine⟨rfl,?_,λw2 W=>?_⟩
 ·obtain⟨h1,h2,h3,hr,h4,vo,vt,h5,h6,_⟩:=α;exact⟨⟨_,h6⟩,h4 1⟩
 ·have β:=bd.JD hg V W;have kk:Kr b47 w1 w2:=W▸Kr.set w1 1 _;have k2:Kp z w2 λg=>g=b47:=Kp.trans (Kp.ah hx _) kk λg _ h=>h
  refine hR _ w2 (k.out k2 (λg hg e=>by omega) hm) (mk.kp k2 (by omega)) ?_;unfold aB;rw [ho];exact β.Jc (λg _ h=>h) (af.sub (λg _ h=>h.1.1) (af.kp k2 (λg h e=>h.1.2 e) Z))
section
variable {D:Nat->Prop} {w w':World} {m n b5 b10 b47:Nat} {e:UInt8->Nat} {t p:P} {v:Value}
def RQ (w:World)(m b5 b10:Nat):Nat->Prop:=λg=>g=m\/(w.heap.size<=g/\g≠b5/\g≠b10)
theorem RW.fine (h:RW D w w' m n e b5 b10 b47 t v):(∀g,D g->¬RQ w m b5 b10 g)/\¬RQ w m b5 b10 b5/\RQ w m b5 b10 b47:=by
 have H:=h.rs.hm;have h2:=h.rs.h5;have z:=h.bd.le;refine⟨λg G e=>?_,λe=>?_,.inr ⟨z,h.n5,h.n10⟩⟩
 ·have :=h.d g G;rcases e with e | e<;>omega
 ·rcases e with e | e
  ·omega
  ·exact e.2.1 rfl
structure RP (D:Nat->Prop)(w w':World)(m n:Nat)(b5 b10 b47:Nat)(e:UInt8->Nat)(t:P)(v:Value)(o:List Nat)(l:Lv)(ts:List Value)(M:Nat->Prop):Prop where
 kp:Km m w w'
 mc:Mk w' m n
 hm:m< w.heap.size
 env:lu w' b5 e
 h5:w.heap.size<=b5
 h10:b10< w'.heap.size
 tm:aI D w' t v
 d:∀g,D g->g< w.heap.size/\¬g=m
 bd:kB w.heap.size w' b47 o ts M
 mq:∀g,M g->RQ w m b5 b10 g
 th:af (λg=>(w.heap.size<=g/\¬M g)/\g< w'.heap.size) w' l ts
theorem RP.step {w1:World}{o:List Nat}{l:Lv}{ts:List Value}{M:Nat->Prop}(h:RP D w w1 m n b5 b10 b47 e t v o l ts M)(hp:BZ p){i:Int}(h0:0<=i)(hi:t.parts[i.toNat]?=some p)(χ:Lt p)
  (hn:n+p.size<=1099511627776) (hol:o.length+p.size<=1099511627776) (hll:l.len+p.size<=1099511627776) {R:World->Prop}
  (hR:∀w2 ψ M',RP D w w2 m (num p e n).2 b5 b10 b47 e t v (o++(flat (num p e n).1).1) (l.app (flat (num p e n).1).2) ψ M'->R w2):
  ∃G:World->Prop,∀Z:World,Z=World.drew w1->G Z/\∃(ε ζ:Nat),v=Value.pointer (some ⟨ε,ζ,none⟩)/\∃η:Value,(∀w',G w'->World.cell? w' ⟨ε,(ζ+3),none⟩=some η)/\
   ∃(θ ι H α:Nat),η=Value.slice (some ⟨θ,ι,none⟩) H α/\0<=i/\i< H/\∃κ:Value,(∀w',G w'->World.cell? w' ⟨θ,(ι+Int.toNat i* 1),none⟩=some κ)/\
   ∃I:List Value,List.length I=26/\(∀w',G w'->∀j,j< 26->World.cell? w' ⟨b5,0+j,none⟩=I[j]?)/\Calls Tryz.prog 137 #[ptr m,κ,(Value.agg (List.toArray I))] Z (ax [.v] fun(ω:Value) (μ:World)=>
    G μ/\Calls Tryz.prog 179 #[(Value.pointer (some ⟨b47,0,none⟩)),ω] μ (ax [] fun(ν:World)=>G ν/\R ν)):=by
 have h5:=h.h5;have hm:=h.hm;have hD:∀g,D g->¬RQ w m b5 b10 g:=λg z e=>by
  have :=h.d g z;rcases e with e | e<;>omega
 have ξ:¬RQ w m b5 b10 b5:=λe=>by
  rcases e with e | e
  ·omega
  ·exact e.2.1 rfl
 refine⟨λw'=>Kp (w1.drew) w' (RQ w m b5 b10),λw2 V=>⟨V▸Kp.ah (Ex.refl _) _,?_⟩⟩;have x2:Ex w1 w2:=V▸Ex.drew w1;have hs12:w2.heap.size=w1.heap.size:=by rw [V];rfl
 rw [<-V];have kx:Kr m w1 w2:=Kr.ex x2;have ο:¬M m:=λJ=>by
  have :=(h.bd.mr m J).1;omega
 refine Ar (aI.kp (Kp.ah x2 λ _=>False) (λ _ _ h=>h) h.tm) hD (h.env.kp (Kp.ah x2 λ _=>False) λh=>h) ξ h0 hi λx cs hx hcs=>?_
 refine hp hx (λg z=>(h.d g z).2) (h.mc.ex x2) hcs χ hn λv3 w3 k3 m3 l3=>?_
 have s3:=k3.size;have s1:=h.bd.lt;have s0:=h.kp.size;have β:Kr m w1 w3:=Kr.trans kx k3.kp;have ς:Km m w1 w3:=Km.trans (Km.ex x2 h.mc.lt) k3;refine⟨Kp.mono (λg z=> .inl z) k3.kp,?_⟩;obtain⟨ts2,hl3,γ⟩:=aB.ths (l3.sub (E:=λg=>w2.heap.size<=g/\g< w3.heap.size) λg z hd=>⟨hd,z⟩);have hfs:=jo (num p e n).1;rw [(bW p e n).1]at hfs;have bd3:kB w.heap.size w3 b47 o ts M:=h.bd.kp β λg z e=>ο (e▸z)
 refine uc bd3 (by omega) hl3 γ.all (λg z J=>by have :=(h.bd.mr g J).2;omega) ⟨by omega,by rw [γ.len,h.th.len];omega⟩ λw4 M' k4 bd4 δ=>?_
 have υ:Kp w3 w4 (RQ w m b5 b10):=Kp.mono h.mq k4;refine⟨Kp.trans (Kp.mono (λg z=> .inl z) k3.kp) υ λg _ h=>h,?_⟩;have s4:=k4.size;have φ:Kp w1 w4 (RQ w m b5 b10):=Kp.trans (Kp.mono (λg z=> .inl z) β) υ λg _ h=>h
 have hb5:=h.env.hb;refine hR w4 (ts++ts2) M' ⟨?_,m3.kp k4 ο,hm,h.env.kp φ ξ,h5,by have :=h.h10;omega,aI.kp φ hD h.tm,h.d,bd4,λg z=>?_,?_⟩
 ·exact(Km.trans h.kp ς).out k4 (λg z J=>by have :=(h.bd.mr g J).1;omega) hm
 ·rcases δ g z with W | W
  ·exact h.mq g W
  ·exact .inr ⟨by omega,by omega,by have :=h.h10;omega⟩
 ·refine af.app ?_ ?_
  ·refine af.sub (λg _ z=>?_) (af.kp k4 (λg z e=>z.1.2 e) (af.kp β (λg z e=>?_) h.th))
   ·refine⟨⟨z.1.1,λJ=>?_⟩,by omega⟩;rcases δ g J with W | W
    ·exact z.1.2 W
    ·omega
   ·have :=z.1.1;omega
  ·refine af.sub (λg _ z=>?_) (af.kp k4 (λg z J=>?_) γ)
   ·refine⟨⟨by omega,λJ=>?_⟩,by omega⟩;rcases δ g J with W | W
    ·have :=(h.bd.mr g W).2;omega
    ·omega
   ·have :=(h.bd.mr g J).2;omega
theorem RP.done {w':World}{o:List Nat}{l:Lv}{ts:List Value}{M:Nat->Prop}(h:RP D w w' m n b5 b10 b47 e t v o l ts M):aB (Be w) w' (o,l) (ptr b47):=
 h.bd.Jc (λg _ h=>h) (af.sub (λg _ z=>z.1.1) h.th)
end
theorem C8 {t:P}(ih:∀p∈t.parts,BZ p):BZ t:=by
 intro D v w m n cs e R ht hD hmk θ I hn hR;obtain⟨D,ht,hD⟩:∃D',aI D' w t v/\∀g,D' g->g< w.heap.size/\¬g=m:=⟨_,ht.bound,λg G=>⟨G.2,hD g G.1⟩⟩
 refine oG _ v _ w R ?_;refine⟨cs,rfl,λb5 w6 hb5 γ=>?_⟩;have x6:Ex w w6:=γ▸Ex.alloc w _;have s6:w6.heap.size=w.heap.size+1:=by rw [γ,size_alloc]
 have t6:aI D w6 t v:=aI.kp (Kp.ah x6 λ _=>False) (λ _ _ h=>h) ht;have c0:∀{w':World},aI D w' t v->∃b,v=ptr b/\w'.cell? ⟨b,0+0,none⟩=some (.int .u8 t.kind.toNat)/\w'.cell? ⟨b,0+1,none⟩=some (.int .u8 t.ca.toNat)/\w'.cell? ⟨b,0+2,none⟩=some (.int .u8 t.cb.toNat):=λh=>by
  obtain⟨b,vs,l,h0,V,h2,h3,h4,h5,_⟩:=h.inv;exact⟨b,h0,h3,h4,h5⟩
 obtain⟨b7,hv,q0,_,_⟩:=c0 t6;refine⟨b7,0,hv,t.kind,q0,λb10 w11 hb10 μ=>?_⟩;have φ:Ex w6 w11:=μ▸Ex.alloc w6 _;have s11:w11.heap.size=w6.heap.size+1:=by rw [μ,size_alloc]
 have kt:∀{w':World},Kr m w w'->aI D w' t v:=λk=>aI.kp k (λg G=>(hD g G).2) ht
 have δ:=hmk.lt;have ι:RS w w11 m n e b5 b10 t.kind 0 0:=by
  refine⟨Km.ex (Ex.trans x6 φ) δ,hmk.ex (Ex.trans x6 φ),δ,⟨by omega,λj=>?_,cs,θ,λj hj=>?_⟩,by omega,by omega,by omega,kH.new hb10 μ⟩
  ·rw [KC (w:=w6) (φ.block b5 (by omega)),γ,hb5];unfold World.frozen? World.alloc;simp
  ·rw [φ.cell (show b5< _ by omega),γ,hb5,KF];have :=θ.1;unfold World.cell? World.alloc;simp
 obtain⟨b13,hv13,_,q1,_⟩:=c0 (kt ι.kp.kp);refine⟨λw'=>RS w w' m n e b5 b10 t.kind (t.aA e) 0,⟨b13,0,hv13,t.ca,q1,λhc=>?_,λhc=>?_⟩,λχ W=>?_⟩
 ·have hc:t.ca≠0:=by simpa using hc
  have hl:=IX I hc;have hb:=aW hl;refine⟨b13,0,hv13,t.ca,q1,⟨by omega,by rw [gH hl];omega⟩,_,ι.env.get hl,⟨⟨_,ι.th.c1⟩,ι.th.f 1⟩,λw21 ν=>?_⟩;have:t.aA e=e t.ca:=Ko hc;rw [this];exact ι.yn ν
 ·have hc:t.ca=0:=by simpa using hc
  have:t.aA e=0:=KG hc;rw [this];exact ι
 refine⟨λw'=>RS w w' m (t.nB n) (t.eB e n) b5 b10 t.kind (t.aA e) 0,Gj (kt W.kp.kp) ⟨λhq=>?_,λhq=>?_⟩,λw35 κ=>?_⟩
 ·rw [xp]at hq;have hl:=HN I hq;have hb:=aW hl;refine⟨λw'=>Kr m χ w',λw27 hw27=>⟨hw27▸Kr.ex (Ex.drew χ),?_⟩⟩;have ψ:Ex χ w27:=hw27▸Ex.drew χ;obtain⟨b28,hv28,_,_,q2⟩:=c0 (kt W.kp.kp);refine⟨b28,0,hv28,t.cb,λw' k=>?_,?_⟩
  ·obtain⟨b29,hv29,_,_,q3⟩:=c0 (kt (Kr.trans W.kp.kp k));have:b29=b28:=by
    have :=hv28.symm.trans hv29
    injection this with V
    injection V with V
    injection V with V
    exact V.symm
   rw [<-this];exact q3
  refine r7 (W.mc.ex ψ) (by omega) λjm k32 m32=>⟨Kr.trans (Kr.ex ψ) k32.kp,⟨by omega,by rw [gH hl];omega⟩,?_,λw34 hw34=>?_⟩
  ·have :=(W.go (Km.trans (Km.ex ψ W.mc.lt) k32) m32).env;exact⟨⟨_,this.get hl⟩,this.f _⟩
  ·have e1:t.nB n=n+1:=KG hq;have e2:t.eB e n=aF e t.cb (n+101):=KG hq;rw [e1,e2];exact(W.go (Km.trans (Km.ex ψ W.mc.lt) k32) m32).Jy hl hw34
 ·rw [xp]at hq;have e1:t.nB n=n:=Ko (by rw [hq];simp);have e2:t.eB e n=e:=Ko (by rw [hq];simp);rw [e1,e2];exact W
 obtain⟨b37,hv37,_,_,q2⟩:=c0 (kt κ.kp.kp);refine⟨λw'=>RS w w' m (t.nB n) (t.eB e n) b5 b10 t.kind (t.aA e) (t.bA e n),⟨b37,0,hv37,t.cb,q2,λhc=>?_,λhc=>?_⟩,λw46 ω b47 J hb47 hw48=>?_⟩
 ·have hc:t.cb≠0:=by simpa using hc
  have hl:=II I hc;have hb:=aW hl;refine⟨b37,0,hv37,t.cb,q2,⟨by omega,by rw [gH hl];omega⟩,_,κ.env.get hl,⟨⟨_,κ.th.c2⟩,κ.th.f 2⟩,λw21 ν=>?_⟩;have:t.bA e n=t.eB e n t.cb:=Ko hc;rw [this];exact κ.tU ν
 ·have hc:t.cb=0:=by simpa using hc
  have:t.bA e n=0:=KG hc;rw [this];exact κ
 have x48:Ex w46 J:=hw48▸Ex.alloc w46 _;have H:=ω.ex x48;have hs46:=ω.kp.size;have bd:kB w.heap.size J b47 [] [] λg=>g=b47:=kB.new hs46 hb47 hw48
 have hn5:b47≠b5:=by have :=ω.env.hb;omega
 have hn10:b47≠b10:=by have :=ω.th.lt;omega
 have h105:=H.h5;have ξ:=H.h10;have rp:RP D w J m (t.nB n) b5 b10 b47 (t.eB e n) t v [] .nil [] (λg=>g=b47):=
  ⟨H.kp,H.mc,H.hm,H.env,H.h5,H.th.lt,kt H.kp.kp,hD,bd,λg G=> .inr ⟨by have :=bd.le;omega,by omega,by omega⟩,rfl⟩
 obtain⟨b50,hv50,q0',_,_⟩:=c0 (kt H.kp.kp);refine⟨λw'=>RJ w w' m n e b47 b10 t,⟨b50,0,hv50,t.kind,q0',?_⟩,λw143 hJ=>E6 δ hJ hR⟩;have hRQ:∀g,D g->¬RQ w m b5 b10 g:=λg G e=>by
  have :=hD g G;rcases e with e | e<;>omega
 have hq5:¬RQ w m b5 b10 b5:=λe=>by
  rcases e with e | e
  ·omega
  ·exact e.2.1 rfl
 have hb47:=bd.le;have α:∀{p:P},t.parts[0]?=some p->BZ p->Lt p->t.nB n+p.size<=1099511627776->(num t e n).2=(num p (t.eB e n) (t.nB n)).2->(∀a b vr (w':World),a=t.aA e->b=t.bA e n->EY (λg=>(w.heap.size<=g/\g≠b47)/\g< w'.heap.size) w' (ptr b10) t.kind a b vr (.slice none 0 0)->
   aB (λg=>(w.heap.size<=g/\g≠b47)/\g< w'.heap.size) w' (flat (num p (t.eB e n) (t.nB n)).1) vr->(flat (num t e n).1).1=[]/\af (λg=>(w.heap.size<=g/\g≠b47)/\g< w'.heap.size) w' (flat (num t e n).1).2 [ptr b10])->
   ∃β:World->Prop,∀ο:World,ο=World.drew J->β ο/\∃(b130 o131:Nat),v=Value.pointer (some ⟨b130,o131,none⟩)/\∃v132:Value,(∀w',β w'->World.cell? w' ⟨b130,(o131+3),none⟩=some v132)/\∃(b133 o134 ζ cap136:Nat),v132=Value.slice (some ⟨b133,o134,none⟩) ζ cap136/\0<=(0:Int)/\(0:Int)< ζ/\
    ∃v137:Value,(∀w',β w'->World.cell? w' ⟨b133,(o134+Int.toNat 0* 1),none⟩=some v137)/\∃ε:List Value,List.length ε=26/\(∀w',β w'->∀j,j< 26->World.cell? w' ⟨b5,0+j,none⟩=ε[j]?)/\Calls Tryz.prog 137 #[ptr m,v137,(Value.agg (List.toArray ε))] ο (ax [.v] fun(v139:Value) (η:World)=>
     β η/\oneV v139=true/\((∃u141:Value,World.cell? η ⟨b10,3,none⟩=some u141)/\World.frozen? η ⟨b10,3,none⟩=false)/\∀w142:World,w142=World.setCell η ⟨b10,3,none⟩ v139->RJ w w142 m n e b47 b10 t):=by
  intro p hi hp hlp hnp e2 hth;refine⟨λw'=>Kp J.drew w' (RQ w m b5 b10),λw2 Z=>⟨Z▸Kp.ah (Ex.refl _) _,?_⟩⟩;have x2:Ex J w2:=Z▸Ex.drew J;rw [<-Z];have hs12:w2.heap.size=J.heap.size:=by rw [Z];rfl
  have r2:=H.ex x2;refine Ar (kt r2.kp.kp) hRQ r2.env hq5 (i:=0) (by omega) hi λx cs hx θ=>?_
  refine hp hx (λg G=>(hD g G).2) r2.mc θ hlp hnp λv3 w3 k3 m3 l3=>?_
  have r3:=r2.go k3 m3;have s3:=k3.size;have l3':aB (λg=>w2.heap.size<=g/\g< w3.heap.size) w3 (flat (num p (t.eB e n) (t.nB n)).1) v3:=l3.sub λg G hd=>⟨hd,G⟩
  have hb10lt:=r2.th.lt;have hb47lt:=bd.lt;refine⟨Kp.mono (λg G=> .inl G) k3.kp,gd.one l3,⟨⟨_,r3.th.c3⟩,r3.th.f 3⟩,λw4 hw4=>?_⟩;have k4:Kr b10 w3 w4:=hw4▸Kr.set w3 3 _;have s4:=k4.size;have th4:=r3.th.BQ hw4;have s2:=r2.kp.size;have hl4:aB (λg=>(w.heap.size<=g/\g≠b47)/\g< w4.heap.size) w4 (flat (num p (t.eB e n) (t.nB n)).1) v3:=aB.sub (aB.kp l3' k4 λg G e=>by omega) λg _ G=>⟨⟨by omega,by omega⟩,by omega⟩
  obtain⟨e4,h4⟩:=hth _ _ v3 w4 rfl rfl (th4.Ix ⟨⟨ξ,Ni hn10⟩,th4.lt⟩) hl4;refine⟨r3.kp.out k4 (λg G e=>by omega) δ,?_,?_,e4,h4⟩
  ·rw [e2];exact m3.kp k4 (by omega)
  ·exact((bd.ex x2).kp k3.kp λg G e=>by omega).kp k4 λg G e=>by omega
 have hn0:∀{i:Int},0<=i->i.toNat=i.toNat:=λ _=>rfl
 cases t with
 | nil=>exact dc rfl (hR _ _ H.kp H.mc rp.done)
 | par p q=>
  refine aV (by dsimp only [T.kind];decide) (dc rfl ?_);have e1:n+(1+p.size+q.size)<=1099511627776:=by simpa only [T.size,Mt,Nl,Nat.add_left_comm]using hn
  have V:=bW p e n;have h2:=jo (num p e n).1;rw [V.1]at h2;refine rp.step (i:=0) (ih p (by simp [T.parts])) (by omega) rfl I.1 (show n+p.size<=_ by omega) (by simp only [Kh];omega) (by simp only [Lv.len];omega) λw2 ts2 M2 h=>?_
  refine h.step (i:=1) (ih q (by simp [T.parts])) (by omega) rfl I.2 (show(num p e n).2+q.size<=_ by omega) ?_ ?_ λw3 ts3 M3 h=>hR _ _ h.kp h.mc h.done
  ·show(flat (num p e n).1).1.length+q.size<=_;omega
  ·show(flat (num p e n).1).2.len+q.size<=_;omega
 | res x p=>
  refine aV (by dsimp only [T.kind];decide) (aV (by dsimp only [T.kind];decide) (dc rfl ?_));have e1:n+(1+p.size)<=1099511627776:=by simpa only [T.size,Mt,Nl,Nat.add_left_comm]using hn
  have hx0:x≠0:=λhx=>by have :=aW I.1;rw [hx]at this;exact absurd this.1 (by decide)
  have e2:T.bA (.res x p) e n=n+101:=by simp [T.bA,T.cb,hx0,T.eB,T.bnd,aF]
  refine⟨_,H.th.c2,λb82 w83 hb82 ς=>?_⟩;have x83:Ex J w83:=ς▸Ex.alloc J _;have bd83:=bd.ex x83;obtain⟨vo,_,hvo,_⟩:=bd83.sl;refine⟨rfl,⟨⟨vo,hvo⟩,bd83.fr 0⟩,λw85 hw85=>?_⟩;rw [e2]at ς;have bd85:=bd.Jx (e:=0) hb82 ς hw85;have υ:Kr b47 J w85:=Kp.trans (Kp.ah x83 _) (hw85▸Kr.set w83 0 _) λ _ _ h=>h
  have s85:=υ.size;have hl5:=H.env.hb;have hl10:=H.th.lt;have hs48:=H.kp.size;have rp85:RP D w w85 m (n+1) b5 b10 b47 (aF e x (n+101)) (.res x p) v [n+101] .nil [] (λg=>g=b47\/g=b82):=
   ⟨H.kp.out υ (λg G e=>by omega) δ,H.mc.kp υ (by omega),δ,H.env.kp υ (by omega),h105,by omega,aI.kp υ (λg G e=>by have :=hD g G;omega) rp.tm,hD,bd85,λg G=> .inr (by
    rcases G with rfl | rfl
    ·exact⟨by omega,by omega,by omega⟩
    ·exact⟨by omega,by omega,by omega⟩),rfl⟩
  exact rp85.step (i:=0) (ih p (by simp [T.parts])) (by omega) rfl I.2 (by omega) (by simp only [J0,Kh];omega) (by simp only [Lv.len];omega) λw2 ts2 M2 h=>hR _ _ h.kp h.mc h.done
 | sum p q=>
  refine aV (by dsimp only [T.kind];decide) (aV (by dsimp only [T.kind];decide) (aV (by dsimp only [T.kind];decide) (dc rfl ?_)));have e1:n+(1+p.size+q.size)<=1099511627776:=by simpa only [T.size,Mt,Nl,Nat.add_left_comm]using hn
  have V:=bW p e n;refine⟨λw'=>Kp J.drew w' (RQ w m b5 b10),λw2 Z=>⟨Z▸Kp.ah (Ex.refl _) _,?_⟩⟩;have x2:Ex J w2:=Z▸Ex.drew J;rw [<-Z];have hs12:w2.heap.size=J.heap.size:=by rw [Z];rfl
  have r2:=H.ex x2;refine Ar (kt r2.kp.kp) hRQ r2.env hq5 (i:=0) (by omega) rfl λx cs hx θ=>?_
  refine Ar (kt r2.kp.kp) hRQ r2.env hq5 (i:=1) (by omega) rfl λy cs' hy hcs'=>?_
  refine ih p (by simp [T.parts]) hx (λg G=>(hD g G).2) r2.mc θ I.1 (show n+p.size<=_ by omega) λv3 w3 k3 m3 l3=>?_
  have r3:=r2.go k3 m3;have s3:=k3.size;have l3':aB (λg=>w2.heap.size<=g/\g< w3.heap.size) w3 (flat (num p e n).1) v3:=l3.sub λg G hd=>⟨hd,G⟩
  refine⟨Kp.mono (λg G=> .inl G) k3.kp,?_⟩;refine ih q (by simp [T.parts]) (aI.kp k3.kp (λg G=>(hD g G).2) hy) (λg G=>(hD g G).2) m3 hcs' I.2 (show(num p e n).2+q.size<=_ by omega) λv4 w4 k4 m4 l4=>?_
  have r4:=r3.go k4 m4;have s4:=k4.size;have l4':aB (λg=>w3.heap.size<=g/\g< w4.heap.size) w4 (flat (num q e (num p e n).2).1) v4:=l4.sub λg G hd=>⟨hd,G⟩
  have k24:Kr m w2 w4:=Kr.trans k3.kp k4.kp;refine⟨Kp.mono (λg G=> .inl G) k24,gd.one l3,gd.one l4,λb124 w5 hb124 hw5=>?_⟩;have x5:Ex w4 w5:=hw5▸Ex.alloc w4 _;have s5:w5.heap.size=w4.heap.size+1:=by rw [hw5,size_alloc]
  have r5:=r4.ex x5;refine⟨Kp.trans (Kp.mono (λg G=> .inl G) k24) (Kp.ah x5 λ _=>False) λ _ _ h=>h.elim,rfl,⟨⟨_,r5.th.c4⟩,r5.th.f 4⟩,λw6 γ=>?_⟩;have k6:Kr b10 w5 w6:=γ▸Kr.set w5 4 _;have s6:=k6.size;have th6:=r5.th.HS γ;have s2:=r2.kp.size;have hb10lt:=r2.th.lt;have hb47lt:=bd.lt;refine⟨r5.kp.out k6 (λg G e=>by omega) δ,r5.mc.kp k6 (by omega),?_,rfl,?_⟩
  ·exact(((bd.ex x2).kp k24 λg G e=>by omega).ex x5).kp k6 λg G e=>by omega
  ·have hl3:aB (λg=>(w.heap.size<=g/\g≠b47)/\g< w6.heap.size) w6 (flat (num p e n).1) v3:=aB.sub (aB.kp (aB.ex (aB.kp l3' k4.kp λg G e=>by omega) x5) k6 λg G e=>by omega) λg _ G=>⟨⟨by omega,by omega⟩,by omega⟩
   have hl4:aB (λg=>(w.heap.size<=g/\g≠b47)/\g< w6.heap.size) w6 (flat (num q e (num p e n).2).1) v4:=aB.sub (aB.kp (aB.ex l4' x5) k6 λg G e=>by omega) λg _ G=>⟨⟨by omega,by omega⟩,by omega⟩
   refine⟨_,_,_,_,_,[v3,v4],rfl,th6.Ix ⟨⟨ξ,Ni hn10⟩,th6.lt⟩,.inr ⟨b124,0,2,rfl,⟨⟨by omega,by omega⟩,by omega⟩,by omega,λi z hz=>?_⟩,⟨v3,_,rfl,hl3,⟨v4,_,rfl,hl4,rfl⟩⟩,rfl⟩;rw [J1 (w:=w5) (k6.block b124 (by omega) (by omega)),hw5,hb124,KF];refine aa ?_
   match i,hz with
   | 0,hz=>simpa using hz
   | 1,hz=>simpa using hz
   | i+2,hz=>simp at hz
 | snd a b p=>
  refine aV (by dsimp only [T.kind];decide) (aV (by dsimp only [T.kind];decide) (aV (by dsimp only [T.kind];decide) (aV (by dsimp only [T.kind];decide) ?_)));refine α rfl (ih p (by simp [T.parts])) I.2.2 (show n+p.size<=_ by simp only [T.size]at hn;omega) rfl λa' b' vr w' ha hb V h2=>⟨rfl,?_⟩
  have ea:a'=e a:=by rw [ha];exact Ko λhx=>by have :=aW I.1;rw [show a=0 from hx]at this;exact absurd this.1 (by decide)
  have eb:b'=e b:=by rw [hb];exact Ko λhx=>by have :=aW I.2.1;rw [show b=0 from hx]at this;exact absurd this.1 (by decide)
  exact⟨_,_,_,_,_,rfl,V,.inr (.inr ⟨ea,eb⟩),h2,rfl⟩
 | mat a b p=>
  refine aV (by dsimp only [T.kind];decide) (aV (by dsimp only [T.kind];decide) (aV (by dsimp only [T.kind];decide) (aV (by dsimp only [T.kind];decide) ?_)));refine α rfl (ih p (by simp [T.parts])) I.2.2 (show n+p.size<=_ by simp only [T.size]at hn;omega) rfl λa' b' vr w' ha hb V h2=>⟨rfl,?_⟩
  have ea:a'=e a:=by rw [ha];exact Ko λhx=>by have :=aW I.1;rw [show a=0 from hx]at this;exact absurd this.1 (by decide)
  have eb:b'=e b:=by rw [hb];exact Ko λhx=>by have :=aW I.2.1;rw [show b=0 from hx]at this;exact absurd this.1 (by decide)
  exact⟨_,_,_,_,_,rfl,V,.inr (.inr ⟨ea,eb⟩),h2,rfl⟩
 | rcv a b p=>
  refine aV (by dsimp only [T.kind];decide) (aV (by dsimp only [T.kind];decide) (aV (by dsimp only [T.kind];decide) (aV (by dsimp only [T.kind];decide) ?_)));refine α rfl (ih p (by simp [T.parts])) I.2.2 (show n+1+p.size<=_ by simp only [T.size]at hn;omega) rfl λa' b' vr w' ha hb V h2=>⟨rfl,?_⟩
  have ea:a'=e a:=by rw [ha];exact Ko λhx=>by have :=aW I.1;rw [show a=0 from hx]at this;exact absurd this.1 (by decide)
  have eb:b'=n+101:=by
   rw [hb];refine(Ko λhx=>by have :=aW I.2.1;rw [show b=0 from hx]at this;exact absurd this.1 (by decide)).trans ?_;simp [T.eB,T.bnd,aF,T.cb]
  exact⟨_,_,_,_,_,rfl,V,.inr (.inr ⟨ea,eb⟩),h2,rfl⟩
 | tau p=>
  refine aV (by dsimp only [T.kind];decide) (aV (by dsimp only [T.kind];decide) (aV (by dsimp only [T.kind];decide) (aV (by dsimp only [T.kind];decide) ?_)));exact α rfl (ih p (by simp [T.parts])) I (show n+p.size<=_ by simp only [T.size]at hn;omega) rfl λa' b' vr w' ha hb V h2=>⟨rfl,⟨_,_,_,_,_,rfl,V,.inl rfl,h2,rfl⟩⟩
 | rep p=>
  refine aV (by dsimp only [T.kind];decide) (aV (by dsimp only [T.kind];decide) (aV (by dsimp only [T.kind];decide) (aV (by dsimp only [T.kind];decide) ?_)));exact α rfl (ih p (by simp [T.parts])) I (show n+p.size<=_ by simp only [T.size]at hn;omega) rfl λa' b' vr w' ha hb V h2=>⟨rfl,⟨_,_,_,_,_,rfl,V,.inr (.inl rfl),h2,rfl⟩⟩
theorem wL:∀{l:List Nat} {x:Nat},x∈l->x<=l.sum
 | y::l,x,h=>by
  rw [Ld];rcases Ks.1 h with rfl | h
  ·omega
  ·have :=wL h;omega
theorem GV:∀t:P,BZ t:=by
 have:∀(k:Nat) (t:P),t.size<=k->BZ t:=by
  intro k
  induction k with
  | zero=>intro t h;have :=a8 t;omega
  | succ k z=>
   intro t h;refine C8 λp G=>z p ?_
   have e:=tV t;have:p.size<=(t.parts.map T.size).sum:=wL (KQ.2 ⟨p,G,rfl⟩);omega
 exact λt=>this t.size t (Kb _)
end Go.Proofs.YtdecokaadekjnaaGreat
namespace Go.Proofs.YtdecokaadekjnaaGreat
open Go
set_option maxRecDepth 100000
theorem mP (s1:Value)(w:World)(R:Value->World->Prop)(h:∃(G:Option Addr) (H c4:Nat),s1= .slice G H c4/\ai (Option.isNone G) (R (.slice none 0 0) w) (aN w (.cells #[] 3) λb5 I=>eu 3 1 8 I (.slice (some ⟨b5,0,none⟩) 0 0) s1 λv12 z=>R v12 z)):
  Calls Tryz.prog 180 #[s1] w (ax [.v] R):=
 bs (bn [] [] []) [.tmp 2 .v] [.v s1] Tryz.func180 (by kernel_rfl) h
theorem kD (z:Value)(w:World)(R:Bool->World->Prop)(h:az z λb2 G=>aS w b2 (G+1) λv4=>bM v4 λl6=>R ((decide ((l6:Int)=0))) w):
  Calls Tryz.prog 181 #[z] w (ax [.b] R):=
 bs (bn [] [] []) [.tmp 2 .b] [.v z] Tryz.func181 (by kernel_rfl) h
theorem nh (z:Value)(w:World)(R:Bool->World->Prop)(h:az z λb2 o3=>aS w b2 (o3+0) λv4=>bM v4 λl6=>ai (decide ((l6:Int)=0)) (az z λb8 o9=>aS w b8 (o9+1) λv10=>bM v10 λG=>ai (decide ((G:Int)=1)) (az z λH I=>aS w H (I+1) λJ=>aJ J 0 λV W=>aS w V (W+Int.toNat 0* 1) λv21=>az v21 λZ α=>gg w Z (α+0) λβ=>R ((decide (β=43))) w) (R false w)) (R false w)):
  Calls Tryz.prog 182 #[z] w (ax [.b] R):=
 bs (bn [] [] []) [.tmp 2 .b] [.v z] Tryz.func182 (by kernel_rfl) h
theorem mW (t1:Value)(c2:Value)(w:World)(R:Bool->World->Prop)(h:az c2 λb3 z=>pB w b3 z λn5=>ck 187 #[t1,(.int .i64 n5)] w λG H=>R G H):
  Calls Tryz.prog 240 #[t1,c2] w (ax [.b] R):=
 bs (bn [] [] []) [.tmp 3 .b] [.v t1,.v c2] Tryz.func240 (by kernel_rfl) h
theorem gP (s1:Value)(f2:Value)(w:World)(R:Int->World->Prop)(h:bM s1 λl4=>eM 0 w λZ W z H=>ai (decide (z< (l4:Int))) (aJ s1 z λb10 I=>aS H b10 (I+z.toNat* 1) λJ=>∃(f15:Nat) (c16:List Value),f2= .func (.func f15) #[] (List.toArray c16)/\List.contains dh f15=true/\ck f15 (List.toArray ([J]++c16)) H λV G=>ai V (R z G) (aj (z+1)/\Z (z+1) G/\W (z+1) G< W z H)) (R (-1) H)):
  Calls Tryz.prog 219 #[s1,f2] w (ax [.i] R):=
 bs (bn [(2,[(8,.i)])] [] []) [.tmp 4 .i] [.v s1,.v f2] Tryz.func219 (by kernel_rfl) h
theorem fw (s1:Value)(f2:Value)(w:World)(R:Bool->World->Prop)(h:iU 219 #[s1,f2] w λz G=>R ((decide (0<=z))) G):
  Calls Tryz.prog 185 #[s1,f2] w (ax [.b] R):=
 bs (bn [] [] []) [.tmp 4 .b] [.v s1,.v f2] Tryz.func185 (by kernel_rfl) h
theorem oJ (z:Value)(G:Int)(w:World)(R:Bool->World->Prop)(h:aN w (.cells #[(.int .i64 G)] 3) λb3 H=>az z λb5 I=>aS H b5 (I+1) λJ=>ck 185 #[J,(Value.func (Fn.func 240) #[] #[(.pointer (some ⟨b3,0,none⟩))])] H λV W=>R V W):
  Calls Tryz.prog 220 #[z,(.int .i64 G)] w (ax [.b] R):=
 bs (bn [] [] []) [.tmp 4 .b] [.v z,.i G] Tryz.func220 (by kernel_rfl) h
theorem kR (z:Value)(c2:Value)(w:World)(R:Bool->World->Prop)(h:az c2 λb3 G=>pB w b3 G λn5=>ck 220 #[z,(.int .i64 n5)] w λH I=>R H I):
  Calls Tryz.prog 222 #[z,c2] w (ax [.b] R):=
 bs (bn [] [] []) [.tmp 3 .b] [.v z,.v c2] Tryz.func222 (by kernel_rfl) h
theorem gZ (s1:Value)(f2:Value)(w:World)(R:Int->World->Prop)(h:bM s1 λl4=>eM 0 w λZ W z H=>ai (decide (z< (l4:Int))) (aJ s1 z λb10 I=>aS H b10 (I+z.toNat* 1) λJ=>∃(f15:Nat) (c16:List Value),f2= .func (.func f15) #[] (List.toArray c16)/\List.contains dh f15=true/\ck f15 (List.toArray ([J]++c16)) H λV G=>ai V (R z G) (aj (z+1)/\Z (z+1) G/\W (z+1) G< W z H)) (R (-1) H)):
  Calls Tryz.prog 241 #[s1,f2] w (ax [.i] R):=
 bs (bn [(2,[(8,.i)])] [] []) [.tmp 4 .i] [.v s1,.v f2] Tryz.func241 (by kernel_rfl) h
theorem fV (s1:Value)(f2:Value)(w:World)(R:Bool->World->Prop)(h:iU 241 #[s1,f2] w λz G=>R ((decide (0<=z))) G):
  Calls Tryz.prog 221 #[s1,f2] w (ax [.b] R):=
 bs (bn [] [] []) [.tmp 4 .b] [.v s1,.v f2] Tryz.func221 (by kernel_rfl) h
theorem nR (t1:Value)(x2:Int)(w:World)(R:Bool->World->Prop)(h:aN w (.cells #[(.int .i64 x2)] 3) λb3 W=>∃J5:Bool->World->Prop,(az t1 λb6 o7=>gg W b6 (o7+0) λc8=>iz (decide (c8=33)) (az t1 λb9 ζ=>gg W b9 (ζ+0) λη=>iz (decide (η=61)) (az t1 λθ ι=>gg W θ (ι+0) λκ=>J5 ((decide (κ=63))) W) (J5 true W)) (J5 true W))/\∀(Z:Bool) (α:World),J5 Z α->∃J:World->Prop,(bO α λG H=>ai Z (az t1 λμ ν=>kA G μ (ν+1) λξ=>kA G b3 0 λο=>iz (decide (ξ=ο)) (az t1 λς υ=>kA G ς (υ+2) λn26=>kA G b3 0 λφ=>ai (decide (n26=φ)) (R true H) (J H)) (R true H)) (J H))/\∀(β:World),J β->bO β λz V=>az t1 λχ ψ=>ct z χ (ψ+3) λω=>∃γ:Option Addr,ω= .pointer γ/\ai (!Option.isNone γ) (az t1 λb35 o36=>ct z b35 (o36+3) λv37=>kA z b3 0 λn38=>ck 220 #[v37,(.int .i64 n38)] V λq39 I=>z I/\iz q39 (az t1 λb41 o42=>ct z b41 (o42+4) λv43=>ck 221 #[v43,(Value.func (Fn.func 222) #[] #[(.pointer (some ⟨b3,0,none⟩))])] I λq44 δ=>z δ/\R q44 δ) (z I/\R true I)) (z V/\az t1 λb46 o47=>ct z b46 (o47+4) λv48=>ck 221 #[v48,(Value.func (Fn.func 222) #[] #[(.pointer (some ⟨b3,0,none⟩))])] V λq49 ε=>z ε/\R q49 ε)):
  Calls Tryz.prog 187 #[t1,(.int .i64 x2)] w (ax [.b] R):=
 bs (bn [] [(2,[(5,.b)]),(4,[])] [2,4]) [.tmp 4 .b] [.v t1,.i x2] Tryz.func187 (by kernel_rfl) h
theorem iM (t1:Value)(c2:Value)(w:World)(R:Bool->World->Prop)(h:az c2 λb3 z=>pB w b3 z λn5=>ck 187 #[t1,(.int .i64 n5)] w λG H=>R G H):
  Calls Tryz.prog 186 #[t1,c2] w (ax [.b] R):=
 bs (bn [] [] []) [.tmp 3 .b] [.v t1,.v c2] Tryz.func186 (by kernel_rfl) h
theorem jE (z:Int)(c2:Value)(w:World)(R:Bool->World->Prop)(h:aN w (.cells #[(.int .i64 z)] 3) λb3 G=>az c2 λb5 J=>aS G b5 J λV=>az V λb8 W=>aS G b8 (W+1) λv10=>ck 185 #[v10,(Value.func (Fn.func 186) #[] #[(.pointer (some ⟨b3,0,none⟩))])] G λH I=>R (!H) I):
  Calls Tryz.prog 184 #[(.int .i64 z),c2] w (ax [.b] R):=
 bs (bn [] [] []) [.tmp 3 .b] [.i z,.v c2] Tryz.func184 (by kernel_rfl) h
theorem iW (s1:Value)(f2:Value)(w:World)(R:Int->World->Prop)(h:bM s1 λl4=>eM 0 w λZ W z H=>ai (decide (z< (l4:Int))) (aJ s1 z λb10 I=>pB H b10 (I+z.toNat* 1) λJ=>∃(f15:Nat) (c16:List Value),f2= .func (.func f15) #[] (List.toArray c16)/\List.contains dh f15=true/\ck f15 (List.toArray ([(.int .i64 J)]++c16)) H λV G=>ai V (R z G) (aj (z+1)/\Z (z+1) G/\W (z+1) G< W z H)) (R (-1) H)):
  Calls Tryz.prog 218 #[s1,f2] w (ax [.i] R):=
 bs (bn [(2,[(8,.i)])] [] []) [.tmp 4 .i] [.v s1,.v f2] Tryz.func218 (by kernel_rfl) h
theorem iR (s1:Value)(d2:Value)(w:World)(R:Value->World->Prop)(h:iU 218 #[s1,d2] w λn3 w4=>ai (decide (n3=(-1))) (R s1 w4) (aj (n3+1)/\CQ n3 (n3+1) w4 λI5 m6 i7 z Z=>bM s1 λζ=>ai (decide (z< (ζ:Int))) (aJ s1 z λη θ=>pB Z η (θ+z.toNat* 1) λβ=>∃(f18:Nat) (γ:List Value),d2= .func (.func f18) #[] (List.toArray γ)/\List.contains dh f18=true/\ck f18 (List.toArray ([(.int .i64 β)]++γ)) Z λι α=>ai (!ι) (aJ s1 i7 λκ μ=>bg α κ (μ+i7.toNat* 1) (.int .i64 β) λδ=>aj (i7+1)/\aj (z+1)/\I5 (i7+1) (z+1) δ/\m6 (i7+1) (z+1) δ< m6 i7 z Z) (aj (z+1)/\I5 i7 (z+1) α/\m6 i7 (z+1) α< m6 i7 z Z)) (∃(a28:Option Addr) (G c30:Nat),s1= .slice a28 G c30/\0<=(i7:Int)/\(i7:Int)<=(G:Int)/\(G:Int)<=(c30:Int)/\∃(a31:Option Addr) (H ν:Nat),(Value.slice (if c30=i7.toNat then a28 else Option.map (·.add (i7.toNat* 1)) a28) (Int.toNat (G:Int) - i7.toNat) (c30 - i7.toNat))= .slice a31 H ν/\((H=0/\∃(a37:Option Addr) (ξ I:Nat),s1= .slice a37 ξ I/\0<=(0:Int)/\(0:Int)<=i7/\i7<=(I:Int)/\R ((.slice (if I=Int.toNat 0 then a37 else Option.map (·.add (Int.toNat 0* 1)) a37) (i7.toNat - Int.toNat 0) (I - Int.toNat 0))) Z)\/∃(J V:Nat),a31=some ⟨J,V,none⟩/\(∀j,j< H->(∃u,World.cell? Z ⟨J,V+j,none⟩=some u)/\World.frozen? Z ⟨J,V+j,none⟩=false)/\∀ε:World,ε=World.setCells Z J V (List.replicate H (.int .i64 0))->∃(a40:Option Addr) (ο W:Nat),s1= .slice a40 ο W/\0<=(0:Int)/\(0:Int)<=i7/\i7<=(W:Int)/\R ((.slice (if W=Int.toNat 0 then a40 else Option.map (·.add (Int.toNat 0* 1)) a40) (i7.toNat - Int.toNat 0) (W - Int.toNat 0))) ε)))):
  Calls Tryz.prog 183 #[s1,d2] w (ax [.v] R):=
 bs (bn [(5,[(5,.i),(6,.i)])] [] []) [.tmp 4 .v] [.v s1,.v d2] Tryz.func183 (by kernel_rfl) h
theorem kQ (l1:Value)(w:World)(R:Value->World->Prop)(h:az l1 λb2 o3=>aS w b2 (o3+0) λv4=>cB 180 #[v4] w λv5 w6=>oneV v5=true/\aN w6 (.cells #[v5,(.slice none 0 0)] 155) λb7 w8=>aN w8 (.cells #[(.pointer none)] 146) λb9 w10=>bg w10 b9 0 (.pointer (some ⟨b7,0,none⟩)) λw12=>az l1 λb13 o14=>aS w12 b13 (o14+1) λv15=>bM v15 λl17=>eM 0 w12 λV G z I=>ai (decide (z< (l17:Int))) (aJ v15 z λb23 o24=>aS I b23 (o24+z.toNat* 1) λW=>bO I λψ w29=>az W λb30 o31=>Iu ψ b30 (o31+0) λc32=>az W λb33 o34=>kA ψ b33 (o34+1) λn35=>az W λb36 o37=>kA ψ b36 (o37+2) λn38=>aN w29 (.cells #[(.int .u8 c32.toNat),(.int .i64 n35),(.int .i64 n38),(.pointer none),(.slice none 0 0)] 201) λb39 κ=>ψ κ/\az W λb41 o42=>gg κ b41 (o42+0) λc43=>ai (decide (c43=43)) (az W λb44 o45=>aS κ b44 (o45+4) λv46=>bM v46 λl48=>eM 0 κ λI50 μ J Z=>ai (decide (J< (l48:Int))) (aJ v46 J λb54 o55=>aS Z b54 (o55+J.toNat* 1) λv58=>cB 139 #[v58] Z λv59 w60=>ck 181 #[v59] w60 λq61 w62=>ai q61 (aj (J+1)/\I50 (J+1) w62/\μ (J+1) w62< μ J Z) (ck 182 #[v59] w62 λq63 w64=>ai q63 (bO w64 λν w66=>ct ν b39 4 λv67=>az v59 λb68 o69=>ct ν b68 (o69+1) λv70=>aJ v70 0 λb71 o72=>ct ν b71 (o72+Int.toNat 0* 1) λv75=>az v75 λb76 o77=>ct ν b76 (o77+4) λv78=>eu 146 1 8 w66 v67 v78 λv84 w85=>ν w85/\oneV v84=true/\bg w85 b39 4 v84 λw87=>aj (J+1)/\I50 (J+1) w87/\μ (J+1) w87< μ J Z) (aS w64 b39 4 λv88=>oneV v59=true/\aN w64 (.cells #[v59] 146) λb89 w90=>eu 146 1 8 w90 v88 (.slice (some ⟨b89,0,none⟩) 1 1) λv96 w97=>oneV v96=true/\bg w97 b39 4 v96 λw99=>aj (J+1)/\I50 (J+1) w99/\μ (J+1) w99< μ J Z))) (aS Z b39 4 λv100=>bM v100 λω=>ai (decide ((ω:Int)=0)) (aj (z+1)/\V (z+1) Z/\G (z+1) Z< G z I) (ai (decide ((ω:Int)=1)) (bO Z λθ w105=>ct θ b9 0 λv106=>ct θ b39 4 λv107=>aJ v107 0 λb108 o109=>ct θ b108 (o109+Int.toNat 0* 1) λv112=>fC 179 #[v106,v112] w105 λξ=>θ ξ/\aj (z+1)/\V (z+1) ξ/\G (z+1) ξ< G z I) (bO Z λα w115=>ct α b9 0 λv116=>ct α b9 0 λv117=>az v117 λb118 o119=>ct α b118 (o119+1) λv120=>aN w115 (.cells #[(.pointer (some ⟨b39,0,none⟩))] 156) λb121 w122=>α w122/\eu 156 1 8 w122 v120 (.slice (some ⟨b121,0,none⟩) 1 1) λv128 w129=>α w129/\az v116 λb130 o131=>oneV v128=true/\bg w129 b130 (o131+1) v128 λw133=>aj (z+1)/\V (z+1) w133/\G (z+1) w133< G z I)))) (az W λb134 o135=>aS κ b134 (o135+3) λv136=>cB 139 #[v136] κ λv137 w138=>oneV v137=true/\bg w138 b39 3 v137 λw140=>bO w140 λο H=>az W λb143 o144=>Iu ο b143 (o144+0) λc145=>ai (decide (c145=61)) (az W λb146 o147=>kA ο b146 (o147+1) λn148=>az W λb149 o150=>kA ο b149 (o150+2) λn151=>ai (decide (n148=n151)) (bO H λS152 w153=>ct S152 b9 0 λv154=>ct S152 b39 3 λv155=>fC 179 #[v154,v155] w153 λw156=>aj (z+1)/\V (z+1) w156/\G (z+1) w156< G z I) (az W λb157 o158=>gg H b157 (o158+0) λc159=>iz (decide (c159=61)) (az W λb160 o161=>gg H b160 (o161+0) λc162=>ai (decide (c162=42)) (aS H b39 3 λv163=>ck 181 #[v163] H λq164 ς=>ai q164 (aj (z+1)/\V (z+1) ς/\G (z+1) ς< G z I) (bO ς λβ w167=>ct β b9 0 λv168=>ct β b9 0 λv169=>az v169 λb170 o171=>ct β b170 (o171+1) λv172=>aN w167 (.cells #[(.pointer (some ⟨b39,0,none⟩))] 156) λb173 w174=>β w174/\eu 156 1 8 w174 v172 (.slice (some ⟨b173,0,none⟩) 1 1) λv180 w181=>β w181/\az v168 λb182 o183=>oneV v180=true/\bg w181 b182 (o183+1) v180 λw185=>aj (z+1)/\V (z+1) w185/\G (z+1) w185< G z I)) (bO H λγ w187=>ct γ b9 0 λv188=>ct γ b9 0 λv189=>az v189 λb190 o191=>ct γ b190 (o191+1) λv192=>aN w187 (.cells #[(.pointer (some ⟨b39,0,none⟩))] 156) λb193 w194=>γ w194/\eu 156 1 8 w194 v192 (.slice (some ⟨b193,0,none⟩) 1 1) λv200 w201=>γ w201/\az v188 λb202 o203=>oneV v200=true/\bg w201 b202 (o203+1) v200 λw205=>aj (z+1)/\V (z+1) w205/\G (z+1) w205< G z I)) (aS H b39 3 λv206=>ck 181 #[v206] H λq207 υ=>ai q207 (aj (z+1)/\V (z+1) υ/\G (z+1) υ< G z I) (bO υ λδ w210=>ct δ b9 0 λv211=>ct δ b9 0 λv212=>az v212 λb213 o214=>ct δ b213 (o214+1) λv215=>aN w210 (.cells #[(.pointer (some ⟨b39,0,none⟩))] 156) λb216 w217=>δ w217/\eu 156 1 8 w217 v215 (.slice (some ⟨b216,0,none⟩) 1 1) λv223 w224=>δ w224/\az v211 λb225 o226=>oneV v223=true/\bg w224 b225 (o226+1) v223 λw228=>aj (z+1)/\V (z+1) w228/\G (z+1) w228< G z I)))) (az W λb229 o230=>gg H b229 (o230+0) λc231=>iz (decide (c231=61)) (az W λb232 o233=>gg H b232 (o233+0) λc234=>ai (decide (c234=42)) (aS H b39 3 λv235=>ck 181 #[v235] H λq236 φ=>ai q236 (aj (z+1)/\V (z+1) φ/\G (z+1) φ< G z I) (bO φ λε w239=>ct ε b9 0 λv240=>ct ε b9 0 λv241=>az v241 λb242 o243=>ct ε b242 (o243+1) λv244=>aN w239 (.cells #[(.pointer (some ⟨b39,0,none⟩))] 156) λb245 w246=>ε w246/\eu 156 1 8 w246 v244 (.slice (some ⟨b245,0,none⟩) 1 1) λv252 w253=>ε w253/\az v240 λb254 o255=>oneV v252=true/\bg w253 b254 (o255+1) v252 λw257=>aj (z+1)/\V (z+1) w257/\G (z+1) w257< G z I)) (bO H λζ w259=>ct ζ b9 0 λv260=>ct ζ b9 0 λv261=>az v261 λb262 o263=>ct ζ b262 (o263+1) λv264=>aN w259 (.cells #[(.pointer (some ⟨b39,0,none⟩))] 156) λb265 w266=>ζ w266/\eu 156 1 8 w266 v264 (.slice (some ⟨b265,0,none⟩) 1 1) λv272 w273=>ζ w273/\az v260 λb274 o275=>oneV v272=true/\bg w273 b274 (o275+1) v272 λw277=>aj (z+1)/\V (z+1) w277/\G (z+1) w277< G z I)) (aS H b39 3 λv278=>ck 181 #[v278] H λq279 χ=>ai q279 (aj (z+1)/\V (z+1) χ/\G (z+1) χ< G z I) (bO χ λη w282=>ct η b9 0 λv283=>ct η b9 0 λv284=>az v284 λb285 o286=>ct η b285 (o286+1) λv287=>aN w282 (.cells #[(.pointer (some ⟨b39,0,none⟩))] 156) λb288 w289=>η w289/\eu 156 1 8 w289 v287 (.slice (some ⟨b288,0,none⟩) 1 1) λv295 w296=>η w296/\az v283 λb297 o298=>oneV v295=true/\bg w296 b297 (o298+1) v295 λw300=>aj (z+1)/\V (z+1) w300/\G (z+1) w300< G z I))))) (bO I λι w302=>ct ι b9 0 λv303=>ct ι b9 0 λv304=>az v304 λb305 o306=>ct ι b305 (o306+0) λv307=>cB 183 #[v307,(Value.func (Fn.func 184) #[] #[(.pointer (some ⟨b9,0,none⟩))])] w302 λv308 w309=>ι w309/\az v303 λb310 o311=>oneV v308=true/\bg w309 b310 (o311+0) v308 λw313=>aS w313 b9 0 λv314=>R v314 w313)):
  Calls Tryz.prog 139 #[l1] w (ax [.v] R):=
 bs (bn [(3,[(22,.i)]),(8,[(50,.i)])] [] [5,14,17,20,22,23,24,27]) [.tmp 2 .v] [.v l1] Tryz.func139 (by kernel_rfl) h
end Go.Proofs.YtdecokaadekjnaaGreat
namespace Go.Proofs.YtdecokaadekjnaaGreat
open Go Go.RowKit
namespace Lv
def sz:Lv->Nat
 | nil=>0 | thr _ _ _ _ r n=>r.sz+n.sz+1 | sum z n=>z.sz+n.sz+1 | part _ q n=>q.sz+n.sz+1
def sh:Bool->Lv->Bool
 | _,nil=>true
 | true,thr _ _ _ _ r n=>sh true r&&sh true n
 | true,sum z n=>sh false z&&sh true n
 | false,part _ q n=>sh true q&&sh false n
 | _,_=>false
def bB:Lv->List Lv
 | nil=>[] | thr k a b o r n=>thr k a b o r nil::bB n | sum z n=>sum z nil::bB n | part o q n=>part o q nil::bB n
theorem cT:∀l:Lv,l.bB.length=l.len
 | nil=>rfl
 | thr _ _ _ _ _ n=>by simp only [bB,len,J0,cT n]
 | sum _ n=>by simp only [bB,len,J0,cT n]
 | part _ _ n=>by simp only [bB,len,J0,cT n]
theorem eD:∀(l:Lv),∀e∈l.bB,e.sz<=l.sz
 | nil,_,h=>by cases h
 | thr k a b o r n,e,h=>by
  rcases Ks.1 h with rfl | h
  ·simp only [sz];omega
  ·have :=eD n e h;simp only [sz];omega
 | sum z n,e,h=>by
  rcases Ks.1 h with rfl | h
  ·simp only [sz];omega
  ·have :=eD n e h;simp only [sz];omega
 | part o q n,e,h=>by
  rcases Ks.1 h with rfl | h
  ·simp only [sz];omega
  ·have :=eD n e h;simp only [sz];omega
theorem mz (x:Nat):∀l:Lv,l.has x=l.bB.any (·.has x)
 | nil=>rfl
 | thr k a b o r n=>by simp [bB,has,mz x n]
 | sum z n=>by simp [bB,has,mz x n]
 | part o q n=>by simp [bB,has,mz x n]
theorem jJ:∀{l:Lv},l.sh true=true->∀e∈l.bB,(∃k a b o r,e=thr k a b o r nil/\r.sh true=true)\/∃G,e=sum G nil/\G.sh false=true
 | nil,_,_,h=>by cases h
 | thr k a b o r n,z,e,h=>by
  simp only [sh,J3]at z;rcases Ks.1 h with rfl | h
  ·exact .inl ⟨k,a,b,o,r,rfl,z.1⟩
  ·exact jJ z.2 e h
 | sum G n,z,e,h=>by
  simp only [sh,J3]at z;rcases Ks.1 h with rfl | h
  ·exact .inr ⟨G,rfl,z.1⟩
  ·exact jJ z.2 e h
 | part ..,z,_,_=>by cases z
theorem mD:∀{l:Lv},l.sh false=true->∀e∈l.bB,∃o q,e=part o q nil/\q.sh true=true
 | nil,_,_,h=>by cases h
 | part o q n,z,e,h=>by
  simp only [sh,J3]at z;rcases Ks.1 h with rfl | h
  ·exact⟨o,q,rfl,z.1⟩
  ·exact mD z.2 e h
 | thr ..,z,_,_=>by cases z
 | sum ..,z,_,_=>by cases z
theorem gM {b:Bool}:∀{l m:Lv},l.sh b=true->m.sh b=true->(l.app m).sh b=true
 | nil,_,_,h=>h
 | thr _ _ _ _ r n,m,z,h2=>by
  cases b
  ·cases z
  ·simp only [sh,app,J3]at*;exact⟨z.1,gM z.2 h2⟩
 | sum G n,m,z,h2=>by
  cases b
  ·cases z
  ·simp only [sh,app,J3]at*;exact⟨z.1,gM z.2 h2⟩
 | part o q n,m,z,h2=>by
  cases b
  ·simp only [sh,app,J3]at*;exact⟨z.1,gM z.2 h2⟩
  ·cases z
end Lv
theorem aM.cons {A B:Type}{R:A->B->Prop}{a:A}{b:B}{l:List A}{m:List B}(h:R a b)(z:aM R l m):aM R (a::l) (b::m):=(aM.one h).append z
theorem af.bB {D:Nat->Prop}{w:World}:∀{l:Lv} {ts:List Value},af D w l ts->aM (λe v=>af D w e [v]) l.bB ts
 | .nil,_,h=>by cases h;exact aM.nil
 | .thr k a b o r n,_,⟨t,z,a',I,vr,G,h2,H,h4,h5⟩=>by subst G;exact aM.cons ⟨t,[],a',I,vr,rfl,h2,H,h4,rfl⟩ (af.bB (l:=n) h5)
 | .sum J n,_,⟨t,z,a',I,vp,us,G,h2,H,h4,h5⟩=>by subst G;exact aM.cons ⟨t,[],a',I,vp,us,rfl,h2,H,h4,rfl⟩ (af.bB (l:=n) h5)
 | .part o q n,_,⟨v,z,G,h2,H⟩=>by subst G;exact aM.cons ⟨v,[],rfl,h2,rfl⟩ (af.bB (l:=n) H)
theorem eF.ex {D:Nat->Prop}{w w':World}{v:Value}{l:List Value}(h:eF D w v l)(x:Ex w w'):eF D w' v l:=h.kp (Kp.ah x λ _=>False) λ _ _ h=>h
def yO (w:World)(f:Nat)(ca:List Value)(ts:List Value)(p:Nat->Bool):Prop:=
 ∀(i:Nat) (x:Value) (w1:World),ts[i]?=some x->Ex w w1->∀{R:Bool->World->Prop},(∀w2,Ex w1 w2->R (p i) w2)->Calls Tryz.prog f (List.toArray ([x]++ca)) w1 (ax [.b] R)
theorem jl {n:Nat}{p:Nat->Bool}:(List.range n).any p=true↔∃i,i< n/\p i=true:=by
 simp [Ma,Lz]
theorem De {D:Nat->Prop}{w:World}{s:Value}{ts:List Value}(J:eF D w s ts){f:Nat}{ca:List Value}(Z:dh.contains f=true){p:Nat->Bool}(hp:yO w f ca ts p)(hl:ts.length<=1099511627776){R:Bool->World->Prop}(V:∀w',Ex w w'->R ((List.range ts.length).any p) w'):
  Calls Tryz.prog 185 #[s,.func (.func f) #[] (List.toArray ca)] w (ax [.b] R):=by
 refine fw _ _ w R ?_;refine gP _ _ w _ ?_;obtain⟨a,cap,e⟩:=J.slice;refine⟨a,_,cap,e,λx w'=>∃i:Nat,x=i/\i<=ts.length/\Ex w w'/\∀j< i,p j=false,λx _=>(ts.length - x).toNat,⟨0,rfl,by omega,Ex.refl w,λj h=>by omega⟩,λx w1 hI=>?_⟩;obtain⟨i,rfl,hi,G,W⟩:=hI;refine⟨λhc=>?_,λhc=>?_⟩
 ·have hc:=Kv hc;have z:i< ts.length:=by omega
  refine(J.ex G).get (i:=i) (x:=ts[i]) (by omega) (by simp [z]) ⟨f,ca,rfl,Z,hp i _ w1 (J2 z) G λw2 H=>⟨λI=>?_,λI=>⟨by unfold aj;omega,⟨i+1,by omega,by omega,Ex.trans G H,λj hj=>?_⟩,by dsimp only;omega⟩⟩⟩
  ·have :=V w2 (Ex.trans G H);rw [jl.2 ⟨i,z,I⟩]at this;have e:decide ((0:Int)<=i)=true:=Lc (by omega);show R (decide ((0:Int)<=i)) w2;rw [e];exact this
  ·by_cases h:j=i
   ·subst h;exact I
   ·exact W j (by omega)
 ·have hc:=Kw hc;have :=V w1 G;have e:(List.range ts.length).any p=false:=by
   rw [Bool.eq_false_iff];intro h;obtain⟨j,hj,h⟩:=jl.1 h;rw [W j (by omega)]at h;cases h
  rw [e]at this;exact this
theorem Eg {D:Nat->Prop}{w:World}{s:Value}{ts:List Value}(J:eF D w s ts){f:Nat}{ca:List Value}(Z:dh.contains f=true){p:Nat->Bool}(hp:yO w f ca ts p)(hl:ts.length<=1099511627776){R:Bool->World->Prop}(V:∀w',Ex w w'->R ((List.range ts.length).any p) w'):
  Calls Tryz.prog 221 #[s,.func (.func f) #[] (List.toArray ca)] w (ax [.b] R):=by
 refine fV _ _ w R ?_;refine gZ _ _ w _ ?_;obtain⟨a,cap,e⟩:=J.slice;refine⟨a,_,cap,e,λx w'=>∃i:Nat,x=i/\i<=ts.length/\Ex w w'/\∀j< i,p j=false,λx _=>(ts.length - x).toNat,⟨0,rfl,by omega,Ex.refl w,λj h=>by omega⟩,λx w1 hI=>?_⟩;obtain⟨i,rfl,hi,G,W⟩:=hI;refine⟨λhc=>?_,λhc=>?_⟩
 ·have hc:=Kv hc;have z:i< ts.length:=by omega
  refine(J.ex G).get (i:=i) (x:=ts[i]) (by omega) (by simp [z]) ⟨f,ca,rfl,Z,hp i _ w1 (J2 z) G λw2 H=>⟨λI=>?_,λI=>⟨by unfold aj;omega,⟨i+1,by omega,by omega,Ex.trans G H,λj hj=>?_⟩,by dsimp only;omega⟩⟩⟩
  ·have :=V w2 (Ex.trans G H);rw [jl.2 ⟨i,z,I⟩]at this;have e:decide ((0:Int)<=i)=true:=Lc (by omega);show R (decide ((0:Int)<=i)) w2;rw [e];exact this
  ·by_cases h:j=i
   ·subst h;exact I
   ·exact W j (by omega)
 ·have hc:=Kw hc;have :=V w1 G;have e:(List.range ts.length).any p=false:=by
   rw [Bool.eq_false_iff];intro h;obtain⟨j,hj,h⟩:=jl.1 h;rw [W j (by omega)]at h;cases h
  rw [e]at this;exact this
def Ip {A:Type}(l:List A)(f:A->Bool)(i:Nat):Bool:=(l[i]?.map f).getD false
theorem oF {A:Type}{l:List A}{f:A->Bool}{i:Nat}(h:i< l.length):Ip l f i=f l[i]:=by unfold Ip;rw [J2 h];rfl
theorem wI {A:Type}{f:A->Bool}(l:List A):(List.range l.length).any (Ip l f)=l.any f:=by
 rw [K6,jl,Ma];constructor
 ·rintro⟨i,z,h⟩
  rw [oF z]at h;exact⟨_,Kg z,h⟩
 ·rintro⟨x,G,h⟩
  obtain⟨i,z,e⟩:=KY.1 G;exact⟨i,z,by rw [oF z,e];exact h⟩
theorem zw {w w':World}{b n e:Nat}(hb:b=w.heap.size)(hw:w'=w.alloc (.cells #[iv n] e)):Ex w w'/\b< w'.heap.size/\w'.cell? ⟨b,0,none⟩=some (iv n):=by
 subst hb hw;exact⟨Ex.alloc w _,by rw [size_alloc];omega,aa rfl⟩
def Ba (n:Nat):Prop:=∀{D:Nat->Prop} {w:World} {v:Value} {o:List Nat} {l:Lv} {x:Nat} {R:Bool->World->Prop},l.sz<=n->l.sh true=true->gd D w v o (af D w l)->l.sz<=1099511627776->(∀w',Ex w w'->R (l.has x) w')->Calls Tryz.prog 220 #[v,iv x] w (ax [.b] R)
def AT (n:Nat):Prop:=∀{D:Nat->Prop} {w:World} {v:Value} {l:Lv} {x:Nat} {R:Bool->World->Prop},l.sz<=n->((∃k a b o r,l= .thr k a b o r .nil/\r.sh true=true)\/∃z,l= .sum z .nil/\z.sh false=true)->af D w l [v]->l.sz<=1099511627776->
 (∀w',Ex w w'->R (l.has x) w')->Calls Tryz.prog 187 #[v,iv x] w (ax [.b] R)
theorem nZ:∀l:Lv,l.len<=l.sz
 | .nil=>Kb _
 | .thr _ _ _ _ r n=>by have :=nZ n;simp only [Lv.len,Lv.sz];omega
 | .sum z n=>by have :=nZ n;simp only [Lv.len,Lv.sz];omega
 | .part o q n=>by have :=nZ n;simp only [Lv.len,Lv.sz];omega
theorem gd.ex {D:Nat->Prop}{w w':World}{v:Value}{o:List Nat}{l:Lv}(h:gd D w v o (af D w l))(x:Ex w w'):gd D w' v o (af D w' l):=aB.ex (L:=(o,l)) h x
theorem Fa {n:Nat}(ht:AT n){D:Nat->Prop}{w:World}{l:Lv}{ts:List Value}{x b3:Nat}(hn:l.sz<=n)(I:l.sh true=true)(h:af D w l ts)(α:l.sz<=1099511627776)(hb:b3< w.heap.size)(hc:w.cell? ⟨b3,0,none⟩=some (iv x)):
  yO w 240 [ptr b3] ts (Ip l.bB (Lv.has x)):=by
 intro i v w1 V W R Z;have G:=h.bB;obtain⟨J,_⟩:=KX.1 V;have z:i< l.bB.length:=by rw [G.1];exact J
 have he:=G.2 i l.bB[i] v (J2 z) V;have H:=Kg z;have hs:=Lv.eD l _ H;rw [oF z]at Z;refine mW v (ptr b3) w1 R ?_;refine⟨b3,0,rfl,x,by rw [W.cell (show b3< _ from hb)];exact hc,?_⟩;exact ht (by omega) (Lv.jJ I _ H) (he.ex W) (by omega) Z
theorem uR {n:Nat}(V:AT n):Ba n:=by
 intro D w v o l x R W z h G Z;refine oJ v x w R ?_;intro b3 w4 H I;obtain⟨J,l4,c4⟩:=zw H I;obtain⟨b,vo,vt,ts,rfl,h2,h3,h4,h5,h6,h7,h8⟩:=h.ex J;refine⟨b,0,rfl,vt,h5,?_⟩;have hlen:=h8.len;have :=nZ l;refine De (ca:=[ptr b3]) h7 (by kernel_rfl) (Fa V W z h8 G l4 c4) (by omega) λw5 x5=>?_
 rw [hlen,<-Lv.cT,wI,<-Lv.mz];exact Z w5 (Ex.trans J x5)
theorem FN {n:Nat}(ht:Ba n){D:Nat->Prop}{w:World}{l:Lv}{ts:List Value}{x b3:Nat}(hn:l.sz<=n)(I:l.sh false=true)(h:af D w l ts)(α:l.sz<=1099511627776)(hb:b3< w.heap.size)(hc:w.cell? ⟨b3,0,none⟩=some (iv x)):
  yO w 222 [ptr b3] ts (Ip l.bB (Lv.has x)):=by
 intro i v w1 hi hx R J;have G:=h.bB;obtain⟨V,_⟩:=KX.1 hi;have z:i< l.bB.length:=by rw [G.1];exact V
 have he:=G.2 i l.bB[i] v (J2 z) hi;have H:=Kg z;have hs:=Lv.eD l _ H;rw [oF z]at J;refine kR v (ptr b3) w1 R ?_;refine⟨b3,0,rfl,x,by rw [hx.cell (show b3< _ from hb)];exact hc,?_⟩;obtain⟨o,q,e,hq⟩:=Lv.mD I _ H;rw [e]at he J hs;obtain⟨v',W,h1,h2,_⟩:=he;obtain⟨rfl,rfl⟩:v=v'/\([]:List Value)=W:=by simpa using h1
 simp only [Lv.sz]at hs;refine ht (by omega) hq (gd.ex h2 hx) (by omega) λw2 Z=>?_
 have :=J w2 Z;simpa [Lv.has]using this
def Gp (k:K)(a b x:Nat):Bool:=(k== .s||k== .m||k== .r)&&(a==x||b==x)
theorem B6 {n:Nat}(ht:Ba n):AT (n+1):=by
 intro D w v l x R hn hl h μ hR;refine nR v x w R ?_;intro b3 V χ ψ;obtain⟨x4,l4,c4⟩:=zw χ ψ;rcases hl with⟨k,a,b,o,r,rfl,hr⟩ | ⟨ps,rfl,ω⟩
 ·obtain⟨_,_,a',b',vr,e,η,hab,ν,_⟩:=h.ex x4;obtain⟨rfl,_⟩:=K8 e;simp only [Lv.sz]at hn μ;have ε:∀q w',Ex V w'->q=r.has x->Gp k a b x=false->R q w':=λq w' H hq hn=>by
   have :=hR w' (Ex.trans x4 H);simp only [Lv.has]at this;unfold Gp at hn;rw [hn,MH,Ms,<-hq]at this;exact this
  have β:∀w',Ex V w'->Gp k a b x=true->R true w':=λw' H hn=>by
   have :=hR w' (Ex.trans x4 H);simp only [Lv.has]at this;unfold Gp at hn;rw [hn,Bool.true_or,Bool.true_or]at this;exact this
  obtain⟨g,rfl,g2,g3,g4,g5,g6,g7,g8⟩:=η;have θ:∀q:Bool,q=(k== .s||k== .m||k== .r)->∀w',Ex V w'->((k== .s||k== .m||k== .r)=true->(a'=a/\b'=b))->True:=λ _ _ _ _ _=>trivial
  have ξ:(k== .s||k== .m||k== .r)=true->a'=a/\b'=b:=by
   intro hk;rcases hab with rfl | rfl | h
   ·cases hk
   ·cases hk
   ·exact h
  refine⟨λq w'=>Ex V w'/\q=(k== .s||k== .m||k== .r),⟨g,0,rfl,_,g4,?_⟩,λq Z hJ=>?_⟩
  ·cases k
   ·exact dN rfl ⟨Ex.refl _,rfl⟩
   ·exact cE (by dsimp only [K.byte];decide) ⟨g,0,rfl,_,g4,cE (by dsimp only [K.byte];decide) ⟨g,0,rfl,_,g4,Ex.refl _,rfl⟩⟩
   ·exact cE (by dsimp only [K.byte];decide) ⟨g,0,rfl,_,g4,cE (by dsimp only [K.byte];decide) ⟨g,0,rfl,_,g4,Ex.refl _,rfl⟩⟩
   ·exact cE (by dsimp only [K.byte];decide) ⟨g,0,rfl,_,g4,dN rfl ⟨Ex.refl _,rfl⟩⟩
   ·exact cE (by dsimp only [K.byte];decide) ⟨g,0,rfl,_,g4,cE (by dsimp only [K.byte];decide) ⟨g,0,rfl,_,g4,Ex.refl _,rfl⟩⟩
  obtain⟨α,hq⟩:=hJ;have cg:∀{i:Nat} {u:Value} {w':World},Ex V w'->V.cell? ⟨g,i,none⟩=some u->w'.cell? ⟨g,i,none⟩=some u:=λH h=>by rw [H.cell (show g< _ from g3)];exact h
  have cb:∀{w':World},Ex V w'->w'.cell? ⟨b3,0,none⟩=some (iv x):=λH=>by rw [H.cell (show b3< _ from l4)];exact c4
  have dn:∀m:Nat,decide ((m:Int)=(x:Int))=(m==x):=λm=>by
   rw [K6,decide_eq_true_iff,NG];omega
  refine⟨λw'=>Ex V w'/\Gp k a b x=false,⟨λw'=>Ex V w',λο I=>⟨I▸Ex.trans α (Ex.drew Z),λι=>?_,λς=>?_⟩⟩,λγ hJ=>?_⟩
  ·have κ:Ex V ο:=I▸Ex.trans α (Ex.drew Z);rw [ι]at hq;obtain⟨rfl,rfl⟩:=ξ hq.symm;refine⟨g,0,rfl,a',λw' H=>cg H g5,x,λw' H=>cb H,λha=>⟨g,0,rfl,b',λw' H=>cg H g6,x,λw' H=>cb H,λhb=>?_,λhb=>?_⟩,λha=>?_⟩
   ·rw [dn]at hb;exact β _ κ (by unfold Gp;rw [<-hq,hb];simp)
   ·rw [dn]at ha hb;exact⟨κ,by unfold Gp;rw [ha,hb];simp⟩
   ·rw [dn]at ha;exact β _ κ (by unfold Gp;rw [<-hq,ha];simp)
  ·rw [ς]at hq;exact⟨I▸Ex.trans α (Ex.drew Z),by unfold Gp;rw [<-hq];simp⟩
  obtain⟨δ,θ⟩:=hJ;obtain⟨br,hvr⟩:∃br,vr=ptr br:=by obtain⟨b,_,_,_,e,_⟩:=ν;exact⟨b,e⟩
  refine⟨λw'=>Ex V w',λυ J=>⟨J▸Ex.trans δ (Ex.drew γ),g,0,rfl,vr,λw' H=>cg H g7,_,hvr,λ _=>⟨g,0,rfl,vr,λw' H=>cg H g7,x,λw' H=>cb H,?_⟩,λhc=>(by cases hc)⟩⟩;have G:Ex V υ:=J▸Ex.trans δ (Ex.drew γ);refine ht (by omega) hr (gd.ex ν G) (by omega) λw40 W=>⟨Ex.trans G W,λhq=>⟨g,0,rfl,_,λw' H=>cg H g8,?_⟩,λhq=>⟨Ex.trans G W,ε _ _ (Ex.trans G W) hq.symm θ⟩⟩
  refine Eg (D:=D) (ts:=[]) (ca:=[ptr b3]) (p:=λ _=>false) (.inl ⟨rfl,rfl⟩) (by kernel_rfl) (λi z w1 hi=>by simp at hi) (by simp) λw45 ζ=>⟨Ex.trans (Ex.trans G W) ζ,ε _ _ (Ex.trans (Ex.trans G W) ζ) (by rw [hq];rfl) θ⟩
 ·obtain⟨_,_,a',b',vp,us,e,η,hsl,φ,_⟩:=h.ex x4;obtain⟨rfl,_⟩:=K8 e;simp only [Lv.sz]at hn μ;obtain⟨g,rfl,g2,g3,g4,g5,g6,g7,g8⟩:=η;have cg:∀{i:Nat} {u:Value} {w':World},Ex V w'->V.cell? ⟨g,i,none⟩=some u->w'.cell? ⟨g,i,none⟩=some u:=λH h=>by rw [H.cell (show g< _ from g3)];exact h
  refine⟨λq w'=>Ex V w'/\q=false,⟨g,0,rfl,_,g4,cE (by decide) ⟨g,0,rfl,_,g4,cE (by decide) ⟨g,0,rfl,_,g4,Ex.refl _,rfl⟩⟩⟩,λq Z hJ=>?_⟩;obtain⟨α,rfl⟩:=hJ;refine⟨λw'=>Ex V w',⟨λw'=>Ex V w',λο I=>⟨I▸Ex.trans α (Ex.drew Z),λι=>(by cases ι),λς=>I▸Ex.trans α (Ex.drew Z)⟩⟩,λγ δ=>?_⟩;have G:Ex V γ.drew:=Ex.trans δ (Ex.drew γ);refine⟨λw'=>Ex V w',λυ J=>⟨J▸G,g,0,rfl,_,λw' H=>cg H g7,_,rfl,λhc=>(by cases hc),λ _=>⟨J▸G,g,0,rfl,vp,λw' H=>cg H g8,?_⟩⟩⟩;subst J;have hlen:=φ.len;have :=nZ ps;refine Eg (ca:=[ptr b3]) (hsl.ex G) (by kernel_rfl) (FN ht (by omega) ω (φ.ex G) (by omega) (by have :=G.size;omega) (by rw [G.cell (show b3< _ from l4)];exact c4)) (by omega) λw5 x5=>⟨Ex.trans G x5,?_⟩
  rw [hlen,<-Lv.cT,wI,<-Lv.mz];have :=hR w5 (Ex.trans x4 (Ex.trans G x5));simpa [Lv.has]using this
theorem zI:∀n,AT n
 | 0=>by
  intro z G h H J;rcases G with⟨k,a,b,o,r,rfl,hr⟩ | ⟨V,rfl,I⟩<;>simp [Lv.sz]at z
 | n+1=>B6 (uR (zI n))
theorem Hn (n:Nat):Ba n:=uR (zI n)
namespace Lv
def tot:Lv->Nat
 | nil=>0 | thr _ _ _ o r n=>o.length+r.tot+n.tot+1 | sum z n=>z.tot+n.tot+1 | part o q n=>o.length+q.tot+n.tot+1
theorem jZ:∀l:Lv,l.sz<=l.tot
 | nil=>Kb _
 | thr _ _ _ o r n=>by have :=jZ r;have :=jZ n;simp only [sz,tot];omega
 | sum z n=>by have :=jZ z;have :=jZ n;simp only [sz,tot];omega
 | part o q n=>by have :=jZ q;have :=jZ n;simp only [sz,tot];omega
theorem ch:∀l m:Lv,(l.app m).tot=l.tot+m.tot
 | nil,m=>by simp [app,tot]
 | thr _ _ _ o r n,m=>by simp only [app,tot,ch n m];omega
 | sum z n,m=>by simp only [app,tot,ch n m];omega
 | part o q n,m=>by simp only [app,tot,ch n m];omega
def take:Nat->Lv->Lv
 | 0,_=>nil
 | _+1,nil=>nil
 | i+1,thr k a b o r n=>thr k a b o r (n.take i)
 | i+1,sum z n=>sum z (n.take i)
 | i+1,part o q n=>part o q (n.take i)
theorem take_succ:∀(l:Lv) (i:Nat) (h:i< l.bB.length),l.take (i+1)=(l.take i).app (l.bB[i])
 | nil,_,h=>by simp [bB]at h
 | thr k a b o r n,0,_=>by simp [take,bB,app]
 | sum z n,0,_=>by simp [take,bB,app]
 | part o q n,0,_=>by simp [take,bB,app]
 | thr k a b o r n,i+1,h=>by
  simp only [bB,J0]at h;have :=take_succ n i (by omega);rw [take,this];rfl
 | sum z n,i+1,h=>by
  simp only [bB,J0]at h;have :=take_succ n i (by omega);rw [take,this];rfl
 | part o q n,i+1,h=>by
  simp only [bB,J0]at h;have :=take_succ n i (by omega);rw [take,this];rfl
theorem di:∀(l:Lv),l.take l.bB.length=l
 | nil=>rfl
 | thr k a b o r n=>by simp only [bB,J0,take,di n]
 | sum z n=>by simp only [bB,J0,take,di n]
 | part o q n=>by simp only [bB,J0,take,di n]
theorem pq {b:Bool}:∀(l:Lv) (i:Nat),l.sh b=true->(l.take i).sh b=true
 | _,0,_=>rfl
 | nil,_+1,_=>rfl
 | thr _ _ _ _ r n,i+1,h=>by
  cases b
  ·cases h
  ·simp only [sh,take,J3]at*;exact⟨h.1,pq n i h.2⟩
 | sum z n,i+1,h=>by
  cases b
  ·cases h
  ·simp only [sh,take,J3]at*;exact⟨h.1,pq n i h.2⟩
 | part o q n,i+1,h=>by
  cases b
  ·simp only [sh,take,J3]at*;exact⟨h.1,pq n i h.2⟩
  ·cases h
theorem fG:∀(l:Lv) (i:Nat),(l.take i).tot<=l.tot
 | _,0=>KT _
 | nil,_+1=>Kb _
 | thr _ _ _ _ r n,i+1=>by have :=fG n i;simp only [take,tot];omega
 | sum z n,i+1=>by have :=fG n i;simp only [take,tot];omega
 | part o q n,i+1=>by have :=fG n i;simp only [take,tot];omega
theorem gv:∀(l:Lv),∀e∈l.bB,e.tot<=l.tot
 | nil,_,h=>by cases h
 | thr k a b o r n,e,h=>by
  rcases Ks.1 h with rfl | h
  ·simp only [tot];omega
  ·have :=gv n e h;simp only [tot];omega
 | sum z n,e,h=>by
  rcases Ks.1 h with rfl | h
  ·simp only [tot];omega
  ·have :=gv n e h;simp only [tot];omega
 | part o q n,e,h=>by
  rcases Ks.1 h with rfl | h
  ·simp only [tot];omega
  ·have :=gv n e h;simp only [tot];omega
theorem mj:∀{l:Lv},l.sh true=true->l.fL=true
 | nil,_=>rfl
 | thr _ _ _ _ r n,h=>by simp only [sh,J3]at h;exact mj (l:=n) h.2
 | sum z n,h=>by simp only [sh,J3]at h;exact mj (l:=n) h.2
 | part ..,h=>by cases h
theorem tq (o:List Nat)(r:List Nat×Lv):(kept o r).1.length+(kept o r).2.tot<=o.length+r.1.length+r.2.tot:=by
 unfold kept;have :=Mf (λx=>r.2.has x) (o++r.1);rw [J']at this;dsimp only;omega
theorem lY (o:List Nat)(q m:Lv):prt o q m=(prt o q nil).app m:=by
 unfold prt;split
 ·rfl
 ·split
  ·rw [a6]
  ·rfl
 ·rfl
theorem eG:∀(l:Lv),(tid l).1.length+(tid l).2.tot<=l.tot
 | nil=>Kb _
 | thr k a b o r n=>by
  have z:=eG r;have h2:=eG n;have H:=tq o (tid r);simp only [tid,tot];split
  ·simp only [J',ch];omega
  ·split
   ·omega
   ·simp only [tot];omega
 | sum G n=>by
  have z:=eG G;have h2:=eG n;simp only [tid,tot];unfold spl;split
  ·omega
  ·rename_i o q e;rw [e]at z;simp only [tot]at z;simp only [J',ch];omega
  ·simp only [tot];omega
 | part o q n=>by
  have z:=eG q;have h2:=eG n;have H:=tq o (tid q);simp only [tid,tot];rw [lY,ch];have:(prt (kept o (tid q)).1 (kept o (tid q)).2 nil).tot<=(kept o (tid q)).1.length+(kept o (tid q)).2.tot+1:=by
   unfold prt;split
   ·simp [tot]
   ·rename_i G e;rw [e];split
    ·simp only [ch,tot];omega
    ·simp only [tot];omega
   ·simp only [tot];omega
  simp only [Kh];omega
theorem xn:∀{l:Lv} (m:Lv),l.sh false=true->(tid (l.app m)).2=(tid l).2.app (tid m).2
 | nil,m,_=>rfl
 | part o q n,m,h=>by
  simp only [sh,J3]at h;simp only [app,tid,xn m h.2];rw [lY,lY _ _ (tid n).2,cD]
 | thr ..,_,h=>by cases h
 | sum ..,_,h=>by cases h
theorem dJ:∀(l:Lv) (b:Bool),l.sh b=true->(tid l).2.sh b=true
 | nil,b,_=>by cases b<;>rfl
 | thr k a H o r n,b,h=>by
  cases b
  ·cases h
  ·simp only [sh,J3]at h;simp only [tid];split
   ·exact gM (dJ r true h.1) (dJ n true h.2)
   ·split
    ·exact dJ n true h.2
    ·simp only [sh,J3];exact⟨dJ r true h.1,dJ n true h.2⟩
 | sum G n,b,h=>by
  cases b
  ·cases h
  ·simp only [sh,J3]at h;have z:=dJ G false h.1;have h2:=dJ n true h.2;simp only [tid];unfold spl;split
   ·exact h2
   ·rename_i o q e;rw [e]at z;simp only [sh,J3]at z;exact gM z.1 h2
   ·simp only [sh,J3];exact⟨z,h2⟩
 | part o q n,b,h=>by
  cases b
  ·simp only [sh,J3]at h;have z:=dJ q true h.1;have h2:=dJ n false h.2;simp only [tid];rw [lY];refine gM ?_ h2;unfold prt;split
   ·rfl
   ·rename_i G e;have z:(kept o (tid q)).2.sh true=true:=z;rw [e]at z;simp only [sh,J3]at z;split
    ·rw [a6];exact z.1
    ·simp only [sh,J3];exact⟨by rw [e];simp [sh,z.1],trivial⟩
   ·simp only [sh,J3];exact⟨z,trivial⟩
  ·cases h
end Lv
theorem aP.fr {e B:Nat}{w:World}{v:Value}{l:List Value}(h:aP e B w v l){g:Nat}(G:v.ownBlock=some g)(j:Nat):w.frozen? ⟨g,j,none⟩=false:=by
 rcases h.2 with⟨rfl,I⟩ | ⟨H,cap,cur,rfl,hb,z,_⟩
 ·cases G
 ·have e:H=g:=KS G;subst e;unfold World.frozen?;simp only [z];simp
theorem wG {D:Nat->Prop}{w:World}{v:Value}{o:List Nat}(h:eF D w v (o.map iv))(Z:o.length<=1099511627776){R:Value->World->Prop}(J:∀v' w',Ex w w'->aP 3 w.heap.size w' v' (o.map iv)->R v' w'):
  Calls Tryz.prog 180 #[v] w (ax [.v] R):=by
 refine mP v w R ?_;rcases id h with⟨rfl,e⟩ | ⟨b,off,cap,rfl,h1,h2,h3⟩
 ·exact⟨_,_,_,rfl,λ _=>J _ _ (Ex.refl w) (e▸aP.nil _ _ _),λh=>(by cases h)⟩
 ·refine⟨_,_,_,rfl,λh=>(by cases h),λ _ b5 V H z=>?_⟩;have G:Ex w V:=z▸Ex.alloc w _;have ho:aP 3 w.heap.size V (.slice (some ⟨b5,0,none⟩) 0 0) []:=by
   subst H z;refine⟨rfl,.inr ⟨_,0,#[],rfl,Kb _,?_,by simp,by unfold maxLen;omega,rfl,rfl⟩⟩;unfold World.alloc;simp
  refine aP.push ho G.size (h.ex G) (DQ o) (by omega) (by simp;exact Z) λv' w' I W hn=>J v' w' ?_ I
  refine Ex.below G (Kp.below (S:=λg=>g=b5) (Kp.aQ W λg e=>(KS e).symm) G.size λg W e=>by omega)
theorem aX {b:Nat}:∀(cs:List Value) (w:World) (off:Nat),Kr b w (w.setCells b off cs)/\(∀g j,(w.setCells b off cs).frozen? ⟨g,j,none⟩=w.frozen? ⟨g,j,none⟩)/\(∀j,j< off->(w.setCells b off cs).cell? ⟨b,j,none⟩=w.cell? ⟨b,j,none⟩)/\
  ∀j,(∀i,i< cs.length->∃u,w.cell? ⟨b,off+i,none⟩=some u)->j< cs.length->(w.setCells b off cs).cell? ⟨b,off+j,none⟩=cs[j]?
 | [],w,off=>⟨Kr.refl b w,λ _ _=>rfl,λ _ _=>rfl,λ _ _ h=>by simp at h⟩
 | c::cs,w,off=>by
  obtain⟨H,h2,z,h4⟩:=aX cs (w.setCell ⟨b,off,none⟩ c) (off+1);refine⟨Kr.trans (Kr.set w off c) H,λg j=>(h2 g j).trans (Kt _ _ _ _),λj G=>(z j (by omega)).trans (J7 _ _ _ _ λe=>by injection e with I J;omega),λj hu G=>?_⟩;cases j with
  | zero=>
   obtain⟨u,hu⟩:=hu 0 (by simp);exact(z off (by omega)).trans (Kj _ _ _ hu)
  | succ j=>
   have :=h4 j (λi V=>by
    obtain⟨u,hu⟩:=hu (i+1) (by simpa using V);refine⟨u,?_⟩;rw [J7 _ _ _ _ (λe=>by injection e with I J;omega),show off+1+i=off+(i+1) by omega];exact hu) (by simpa using G)
   rw [show off+1+j=off+(j+1) by omega]at this;exact this
theorem eF.ID {D:Nat->Prop}{w:World}{v:Value}{o:List Nat}(h:eF D w v (o.map iv)){i:Int}{x:Nat}(z:0<=i)(G:o[i.toNat]?=some x){Q:Int->Prop}(H:Q x):
  ∃(b off len cap:Nat),v=Value.slice (some ⟨b,off,none⟩) len cap/\0<=i/\i< (len:Int)/\∃n:Int,World.cell? w ⟨b,off+Int.toNat i* 1,none⟩=some (.int .i64 n)/\Q n:=by
 obtain⟨b,off,len,cap,I,h2,J,s,h4,h5⟩:=h.get (i:=i) (x:=iv x) (Q:=λs=>s=iv x) z (by rw [Md,G];rfl) rfl;exact⟨b,off,len,cap,I,h2,J,x,by rw [h4,h5],H⟩
def H' (w:World)(S:Nat->Prop)(f:Nat)(ca:List Value)(p:Nat->Bool):Prop:=
 ∀(x:Nat) (w1:World),Kp w w1 S->∀{R:Bool->World->Prop},(∀w2,Ex w1 w2->R (p x) w2)->Calls Tryz.prog f (List.toArray ([iv x]++ca)) w1 (ax [.b] R)
theorem H9 {D S:Nat->Prop}{w:World}{s:Value}{o:List Nat}(V:eF D w s (o.map iv)){f:Nat}{ca:List Value}(hf:dh.contains f=true){p:Nat->Bool}(hp:H' w S f ca p)(hl:o.length<=1099511627776){R:Int->World->Prop}
  (W:∀(n:Int) w',Ex w w'->((n= -1/\∀x∈o,p x=false)\/(∃i:Nat,n=i/\i< o.length/\(∀x∈o.take i,p x=false)/\∀x,o[i]?=some x->p x=true))->R n w'):
  Calls Tryz.prog 218 #[s,.func (.func f) #[] (List.toArray ca)] w (ax [.i] R):=by
 refine iW _ _ w R ?_;obtain⟨a,cap,e⟩:=V.slice;rw [Kz]at e;refine⟨a,_,cap,e,λx w'=>∃i:Nat,x=i/\i<=o.length/\Ex w w'/\∀x∈o.take i,p x=false,λx _=>(o.length - x).toNat,⟨0,rfl,by omega,Ex.refl w,λj h=>by simp at h⟩,λx w1 hI=>?_⟩;obtain⟨i,rfl,hi,G,I⟩:=hI;refine⟨λhc=>?_,λhc=>?_⟩
 ·have hc:=Kv hc;have z:i< o.length:=by omega
  refine(V.ex G).ID (i:=i) (x:=o[i]) (by omega) (by simp [z]) ⟨f,ca,rfl,hf,hp o[i] w1 (Kp.ah G _) λw2 H=>⟨λJ=>?_,λJ=>⟨by unfold aj;omega,⟨i+1,by omega,by omega,Ex.trans G H,λx Z=>?_⟩,by dsimp only;omega⟩⟩⟩
  ·exact W _ w2 (Ex.trans G H) (.inr ⟨i,rfl,z,I,λx G=>by rw [J2 z]at G;cases G;exact J⟩)
  ·rw [J8 z]at Z;rcases Ke.1 Z with h | h
   ·exact I x h
   ·rw [Kf.1 h];exact J
 ·have hc:=Kw hc;have:i=o.length:=by omega
  subst this;rw [KA]at I;exact W _ w1 G (.inl ⟨rfl,I⟩)
theorem EO {B:Nat}{w:World}{s:Value}{o:List Nat}(h:aP 3 B w s (o.map iv)){f:Nat}{ca:List Value}(hf:dh.contains f=true){p:Nat->Bool}(hp:H' w (λg=>s.ownBlock=some g) f ca p)(hl:o.length<=1099511627776){R:Value->World->Prop}
  (hR:∀v' w',oneV v'=true->Kp w w' (λg=>s.ownBlock=some g)->eF (λg=>s.ownBlock=some g) w' v' ((o.filter λx=> !p x).map iv)->R v' w'):
  Calls Tryz.prog 183 #[s,.func (.func f) #[] (List.toArray ca)] w (ax [.v] R):=by
 refine iR _ _ w R ?_;have γ:eF (λg=>s.ownBlock=some g) w s (o.map iv):=h.BN λg hg=>hg
 have ι:oneV s=true:=by
  rcases h.2 with⟨rfl,_⟩ | ⟨g,cap,cur,rfl,_⟩<;>rfl
 refine H9 γ hf hp hl λn w1 x1 hn=>⟨λhc=>?_,λhc=>?_⟩
 ·have hc:n= -1:=Kv hc;rcases hn with⟨_,hn⟩ | ⟨i,e,_⟩
  ·refine hR _ _ ι (Kp.ah x1 _) ?_;rw [Ns.2 λx W=>by simp [hn x W]];exact γ.ex x1
  ·omega
 have hc:¬n= -1:=Kw hc;obtain⟨i0,rfl,δ,hn,κ⟩:∃i:Nat,n=i/\i< o.length/\(∀x∈o.take i,p x=false)/\∀x,o[i]?=some x->p x=true:=by
  rcases hn with⟨e,_⟩ | h
  ·exact absurd e hc
  ·exact h
 rcases id h.2 with⟨rfl,η⟩ | ⟨g,cap,cur,rfl,hb,hg,hle,υ,φ,χ⟩
 ·simp at η;subst η;simp at δ
 rw [Kz]at*;have ε:∀t,t< o.length->∃x,w1.cell? ⟨g,t,none⟩=some (iv x)/\o[t]?=some x:=λt z=>by
  rcases γ.ex x1 with⟨e,_⟩ | ⟨b',off,ς,e,h1,h2,h3⟩
  ·cases e
  ·injection e with e1 e2 e3
   injection e1 with e1
   injection e1 with e1 e4
   subst e1 e4;have :=h3 t (iv o[t]) (by simp [z]);rw [KF]at this;exact⟨_,this,J2 z⟩
 have μ:∀t,w1.frozen? ⟨g,t,none⟩=false:=λt=>by
  rw [KC (w:=w) (x1.block g (KO.1 hg).1)];exact h.fr rfl t
 let q:Nat->Bool:=λx=> !p x
 refine⟨by unfold aj;omega,λi j w'=>∃(G H:Nat) (c:Nat->Nat),i=G/\j=H/\G< H/\H<=o.length/\Kp w w' (λx=>g=x)/\(∀t,t< o.length->w'.cell? ⟨g,t,none⟩=some (iv (c t)))/\(∀t,w'.frozen? ⟨g,t,none⟩=false)/\
  (List.range G).map c=(o.take H).filter q/\∀t,H<=t->t< o.length->o[t]?=some (c t),λ _ j _=>(o.length - j).toNat,?_,λi j w2 hI=>?_⟩
 ·refine⟨i0,i0+1,λt=>(o[t]?).getD 0,rfl,by omega,by omega,by omega,Kp.ah x1 _,λt z=>?_,μ,?_,λt _ z=>by simp [z]⟩
  ·obtain⟨x,h1,h2⟩:=ε t z;show w1.cell? _=some (iv ((o[t]?).getD 0));rw [h2];exact h1
  ·have e1:(List.range i0).map (λt=>(o[t]?).getD 0)=o.take i0:=by
    refine List.ext_getElem? λt=>?_
    rw [Md,My];by_cases z:t< i0
    ·have ν:t< o.length:=by omega
     rw [KG z];simp [z,ν]
    ·rw [Ko z,List.getElem?_eq_none (by simp;omega)];rfl
   rw [e1,J8 δ,LO,Ns.2 λx W=>by simp [q,hn x W]];have :=κ _ (J2 δ);simp [q,this]
 ·obtain⟨G,H,c,rfl,rfl,ψ,hj,k2,I,β,hm,hd⟩:=hI;refine⟨_,_,_,rfl,λhc=>?_,λhc=>?_⟩
  ·have hc:=Kv hc;have J:H< o.length:=by omega
   have W:=hd H (Kb _) J;refine⟨g,0,_,_,rfl,by omega,hc,(c H:Int),?_,f,ca,rfl,hf,hp (c H) w2 (Kp.mono (λx e=>Lb some e) k2) λw3 x3=>⟨λhq=>?_,λhq=>?_⟩⟩
   ·rw [KF,KK,J9];exact I H J
   ·have hq:q (c H)=true:=hq;have V:g< w2.heap.size:=Kx (KO.1 hg).1 k2.size;have Z:=x3.block g V;refine⟨g,0,_,_,rfl,by omega,by omega,⟨⟨iv (c G),?_⟩,?_⟩,λw4 ζ=>⟨by unfold aj;omega,by unfold aj;omega,⟨G+1,H+1,aF c G (c H),by omega,by omega,by omega,by omega,?_,λt z=>?_,λt=>?_,?_,λt h1 h2=>?_⟩,by dsimp only;omega⟩⟩
    ·rw [KF,KK,J9,J1 (w:=w2) Z];exact I G (by omega)
    ·rw [KC (w:=w2) Z];exact β _
    ·rw [ζ];exact Kp.set (S:=λx=>g=x) (Kp.trans k2 (Kp.ah x3 λ _=>False) λ _ _ h=>h.elim) rfl _
    ·rw [ζ,KF,KK,J9];by_cases e:t=G
     ·subst e;have:aF c t (c H) t=c H:=by simp [aF]
      rw [this];refine Kj _ _ _ (u:=iv (c t)) ?_;rw [J1 (w:=w2) Z];exact I t z
     ·have:aF c G (c H) t=c t:=by simp [aF,e]
      rw [this,J7 _ _ _ _ (λh=>by injection h with h1 h2;exact e h2.symm),J1 (w:=w2) Z];exact I t z
    ·rw [ζ,Kt,KC (w:=w2) Z];exact β t
    ·rw [MW,K3,J8 J,LO,<-hm];rw [J2 J]at W;have e0:o[H]=c H:=KS W;rw [e0]
     congr 1
     ·refine Lk λt z=>?_
      have:t≠G:=by have :=Lz.1 z;omega
      simp [aF,this]
     ·simp [aF,hq]
    ·have:t≠G:=by omega
     rw [hd t (by omega) h2];simp [aF,this]
   ·have hq:q (c H)=false:=hq;refine⟨by unfold aj;omega,⟨G,H+1,c,rfl,by omega,by omega,by omega,Kp.trans k2 (Kp.ah x3 λ _=>False) (λ _ _ h=>h.elim),λt z=>?_,λt=>?_,?_,λt h1 h2=>hd t (by omega) h2⟩,by dsimp only;omega⟩
    ·have V:g< w2.heap.size:=Kx (KO.1 hg).1 k2.size;rw [x3.cell (show g< _ from V)];exact I t z
    ·have V:g< w2.heap.size:=Kx (KO.1 hg).1 k2.size;rw [KC (w:=w2) (x3.block g V)];exact β t
    ·rw [J8 J,LO,hm];rw [J2 J]at W;have e0:o[H]=c H:=KS W;rw [e0];simp [hq]
  ·have hc:=Kw hc;have J:H=o.length:=by omega
   subst J;rw [KA]at hm;have V:g< w2.heap.size:=Kx (KO.1 hg).1 k2.size;have ez:Int.toNat 0=0:=rfl;have hlen:G=(o.filter q).length:=by rw [<-hm];simp
   have fin:∀w',Kp w w' (λx=>g=x)->(∀t,t< G->w'.cell? ⟨g,t,none⟩=some (iv (c t)))->R (Value.slice (if cap=Int.toNat 0 then some (⟨g,0,none⟩:Addr)else Option.map (λa:Addr=>a.add (Int.toNat 0* 1)) (some (⟨g,0,none⟩:Addr))) (Int.toNat (G:Int) - Int.toNat 0) (cap - Int.toNat 0)) w':=by
    intro w' k ξ;have e:(if cap=Int.toNat 0 then some (⟨g,0,none⟩:Addr)else Option.map (λq:Addr=>q.add (Int.toNat 0* 1)) (some (⟨g,0,none⟩:Addr)))=some ⟨g,0,none⟩:=by
     split
     ·rfl
     ·simp [Addr.add,ez]
    rw [e,ez];refine hR _ _ rfl (Kp.mono (λx e=>Lb some e) k) (.inr ⟨g,0,cap - 0,?_,rfl,Kx (KO.1 hg).1 k.size,λt x W=>?_⟩)
    ·congr 1
     rw [Kz];show G - 0=(o.filter q).length;omega
    ·have W:(o.filter q).map iv=(o.filter λx=> !p x).map iv:=rfl;rename_i α;rw [<-W,<-hm,Md,Md]at α;rw [KF];by_cases z:t< G
     ·rw [List.getElem?_range z]at α;cases α;exact ξ t z
     ·rw [List.getElem?_eq_none (by simp;omega)]at α;cases α
   refine⟨_,_,_,rfl,by omega,by omega,by omega,_,_,_,rfl,?_⟩;by_cases h0:o.length - G=0
   ·refine .inl ⟨by rw [J9,J9];exact h0,_,_,_,rfl,by omega,by omega,by omega,fin w2 k2 λt z=>I t (by omega)⟩
   ·have ο:¬cap=G:=by omega
    refine .inr ⟨g,G,?_,λt z=>⟨⟨_,I (G+t) (by rw [J9,J9]at z;omega)⟩,β _⟩,λw3 θ=>⟨_,_,_,rfl,by omega,by omega,by omega,fin w3 ?_ λt z=>?_⟩⟩
    ·rw [J9,Ko ο];simp only [LR,Addr.add];simp
     try omega
    ·rw [θ];exact Kp.trans k2 (aX _ w2 G).1 λx _ e=>e.symm
    ·rw [θ,(aX _ w2 G).2.2.1 t z];exact I t (by omega)
def Lv.isSum1:Lv->Bool
 | .sum _ .nil=>true
 | _=>false
theorem wJ (o:List Nat)(q:Lv):Lv.prt o q .nil=if q.isNil=true then .nil else if(o.isEmpty&&q.isSum1)=true then(match q with | .sum z .nil=>z | q=> .part o q .nil)else .part o q .nil:=by
 cases q with
 | nil=>rfl
 | thr k a b G r n=>cases o<;>rfl
 | part G H n=>cases o<;>rfl
 | sum z n=>
  cases n with
  | nil=>cases o<;>simp [Lv.prt,Lv.isNil,Lv.isSum1,Lv.a6]
  | thr=>cases o<;>rfl
  | sum=>cases o<;>rfl
  | part=>cases o<;>rfl
section
variable {D:Nat->Prop} {w:World} {v:Value} {o:List Nat} {l:Lv}
theorem mo (h:gd D w v o (af D w l)){R:Bool->World->Prop}(z:R l.isNil w):Calls Tryz.prog 181 #[v] w (ax [.b] R):=by
 refine kD v w R ?_;obtain⟨b,vo,vt,ts,rfl,h2,H,h4,h5,I,G,h8⟩:=h;obtain⟨a,cap,e⟩:=G.slice;refine⟨b,0,rfl,vt,h5,a,_,cap,e,?_⟩;have:decide ((ts.length:Int)=0)=l.isNil:=by
  rw [h8.len,Lv.du,K6];simp only [J4];omega
 dsimp only;rw [this];exact z
theorem Fe (h:gd D w v o (af D w l))(W:l.sh true=true){R:Bool->World->Prop}(G:R (o.isEmpty&&l.isSum1) w):Calls Tryz.prog 182 #[v] w (ax [.b] R):=by
 refine nh v w R ?_;obtain⟨b,vo,vt,ts,rfl,h2,h3,h4,h5,Z,I,h8⟩:=h;obtain⟨a,cap,e⟩:=Z.slice;obtain⟨a',H,e'⟩:=I.slice;rw [Kz]at e;have hlen:=h8.len;refine⟨b,0,rfl,vo,h4,a,_,cap,e,λhc=>⟨b,0,rfl,vt,h5,a',_,H,e',λz=>?_,λz=>?_⟩,λhc=>?_⟩
 ·have hc:=Kv hc;have z:=Kv z;have ho:o.isEmpty=true:=by
   rw [Nk];exact KD (by omega)
  rw [ho,LU]at G;cases l with
  | nil=>
   have:ts.length=0:=hlen;omega
  | thr k x y o' r n=>
   have J:n= .nil:=by
    have:n.len=0:=by simp only [Lv.len]at hlen;omega
    cases n<;>first | rfl | simp [Lv.len]at this
   subst J;obtain⟨t,V,a1,b1,vr,rfl,⟨g,rfl,g2,g3,g4,_⟩,_⟩:=h8;refine⟨b,0,rfl,vt,h5,I.get (i:=0) (x:=ptr g) (by omega) rfl ⟨g,0,rfl,_,g4,?_⟩⟩;have:decide (k.byte=43)=false:=by cases k<;>rfl
   dsimp only;rw [this];exact G
  | sum ps n=>
   have J:n= .nil:=by
    have:n.len=0:=by simp only [Lv.len]at hlen;omega
    cases n<;>first | rfl | simp [Lv.len]at this
   subst J;obtain⟨t,V,a1,b1,vp,us,rfl,⟨g,rfl,g2,g3,g4,_⟩,_⟩:=h8;exact⟨b,0,rfl,vt,h5,I.get (i:=0) (x:=ptr g) (by omega) rfl ⟨g,0,rfl,_,g4,G⟩⟩
  | part o' q n=>cases W
 ·have z:=Kw z;have:l.isSum1=false:=by
   cases l with
   | sum ps n=>
    cases n with
    | nil=>
     have:ts.length=1:=hlen;omega
    | _=>rfl
   | _=>rfl
  rw [this,Bool.and_false]at G;exact G
 ·have hc:=Kw hc;have:o.isEmpty=false:=by
   cases o with
   | nil=>simp at hc
   | cons=>rfl
  rw [this,NC]at G;exact G
end
structure TI (w w':World)(b7 b9:Nat)(O:List Nat)(L:Lv)(ts:List Value)(M X:Nat->Prop):Prop where
 ex:Ex w w'
 bd:kB w.heap.size w' b7 O ts M
 th:af (λg=>(w.heap.size<=g/\¬M g/\¬X g)/\g< w'.heap.size) w' L ts
 c9:w'.cell? ⟨b9,0,none⟩=some (ptr b7)
 l9:b9< w'.heap.size
 h9:w.heap.size<=b9
 x9:X b9
 mx:∀g,M g->¬X g
 xl:∀g,X g->g< w'.heap.size
section
variable {w w' w'':World} {b7 b9:Nat} {O:List Nat} {L:Lv} {ts:List Value} {M X Y:Nat->Prop}
theorem TI.Jb (h:TI w w' b7 b9 O L ts M X){S:Nat->Prop}(k:Kp w' w'' S)(H:∀g,S g->X g/\g≠b9/\w.heap.size<=g)(V:∀g,X g->Y g)(G:∀g,Y g->X g\/(w'.heap.size<=g/\g< w''.heap.size)):TI w w'' b7 b9 O L ts M Y:=by
 have J:∀g,g< w'.heap.size->¬X g->¬Y g:=λg z I W=>(G g W).elim I λh=>by omega
 refine⟨Ex.below h.ex (Kp.below k h.ex.size λg z e=>by have :=(H g e).2.2;omega),h.bd.kp k λg z e=>h.mx g z (H g e).1,?_,?_,Kx h.l9 k.size,h.h9,V b9 h.x9,λg z=>J g (h.bd.mr g z).2 (h.mx g z),λg z=>(G g z).elim (λI=>Kx (h.xl g I) k.size) λh=>h.2⟩
 ·refine af.sub (λg _ z=>⟨⟨z.1.1,z.1.2.1,J g z.2 z.1.2.2⟩,Kx z.2 k.size⟩) (af.kp k (λg z e=>z.1.2.2 (H g e).1) h.th)
 ·rw [J1 (w:=w') (k.block b9 h.l9 λe=>(H b9 e).2.1 rfl)];exact h.c9
theorem TI.JG (h:TI w w' b7 b9 O L ts M X){S:Nat->Prop}(k:Kp w' w'' S)(z:∀g,S g->X g/\g≠b9/\w.heap.size<=g):TI w w'' b7 b9 O L ts M X:=h.Jb k z (λ _ h=>h) λ _ h=> .inl h
theorem TI.ext (h:TI w w' b7 b9 O L ts M X)(x:Ex w' w''):TI w w'' b7 b9 O L ts M X:=h.JG (Kp.ah x λ _=>False) λ _ h=>h.elim
theorem TI.D5 (h:TI w w' b7 b9 O L ts M X)(z:∀g,Y g->X g)(I:Y b9):TI w w' b7 b9 O L ts M Y:=
 ⟨h.ex,h.bd,af.sub (λg H hd=>⟨⟨hd.1.1,hd.1.2.1,λG=>hd.1.2.2 (z g G)⟩,hd.2⟩) h.th,h.c9,h.l9,h.h9,I,λg hm G=>h.mx g hm (z g G),λg H=>h.xl g (z g H)⟩
theorem TI.DO (h:TI w w' b7 b9 O L ts M X){D2:Nat->Prop}{v2:Value}{O2:List Nat}{L2:Lv}(hl:aB D2 w' (O2,L2) v2)(hd:∀g,g< w'.heap.size->D2 g->w.heap.size<=g/\¬M g/\¬X g)
  (hb:O.length+O2.length<=1099511627776/\ts.length+L2.len<=1099511627776) {R:World->Prop} (hR:∀w'' W V,TI w w'' b7 b9 (O++O2) (L.app L2) W V X->Kp w' w'' M->R w''):
  Calls Tryz.prog 179 #[ptr b7,v2] w' (ax [] R):=by
 obtain⟨Z,α,G⟩:=aB.ths (hl.sub (E:=λg=>(w.heap.size<=g/\¬M g/\¬X g)/\g< w'.heap.size) λg z β=>⟨hd g z β,z⟩);have I:=h.ex.size;refine uc h.bd I α G.all (λg z=>z.1.2.1) ⟨hb.1,by rw [G.len];exact hb.2⟩ λw3 V H γ J=>hR w3 (ts++Z) V ⟨?_,γ,?_,?_,Kx h.l9 H.size,h.h9,h.x9,?_,λg z=>Kx (h.xl g z) H.size⟩ H
 ·exact Ex.below h.ex (Kp.below H I λg z e=>by have :=(h.bd.mr g e).1;omega)
 ·have key:∀{l:Lv} {us:List Value},af (λg=>(w.heap.size<=g/\¬M g/\¬X g)/\g< w'.heap.size) w' l us->af (λg=>(w.heap.size<=g/\¬V g/\¬X g)/\g< w3.heap.size) w3 l us:=λht=>
   af.sub (λg _ z=>⟨⟨z.1.1,λhm=>(J g hm).elim z.1.2.1 λh=>by omega,z.1.2.2⟩,Kx z.2 H.size⟩) (af.kp H (λg z=>z.1.2.1) ht)
  exact af.app (key h.th) (key G)
 ·rw [J1 (w:=w') (H.block b9 h.l9 λe=>h.mx b9 e h.x9)];exact h.c9
 ·intro g hm hx;rcases J g hm with h1 | h1
  ·exact h.mx g h1 hx
  ·have :=h.xl g hx;omega
end
section
variable {w w':World} {b7 b9:Nat} {O:List Nat} {L:Lv} {ts:List Value} {M X:Nat->Prop}
theorem TI.push (h:TI w w' b7 b9 O L ts M X){g:Nat}{e:Lv}(he:af (λg=>(w.heap.size<=g/\¬M g/\¬X g)/\g< w'.heap.size) w' e [ptr g])(hl:ts.length+1<=1099511627776){K:World->Prop}(hK:∀w'' ts' M',TI w w'' b7 b9 O (L.app e) ts' M' X->K w''):
  ∃I:World->Prop,∀W:World,W=World.drew w'->I W/\∃v168:Value,(∀w',I w'->World.cell? w' ⟨b9,0,none⟩=some v168)/\∃θ:Value,(∀w',I w'->World.cell? w' ⟨b9,0,none⟩=some θ)/\∃(ι κ:Nat),θ=Value.pointer (some ⟨ι,κ,none⟩)/\
   ∃Z:Value,(∀w',I w'->World.cell? w' ⟨ι,(κ+1),none⟩=some Z)/\∀(μ:Nat) (G:World),μ=Array.size (World.heap W)->G=World.alloc W (Obj.cells #[(Value.pointer (some ⟨g,0,none⟩))] 156)->I G/\
   ∃(H n176 α:Nat) (ζ V:List Value),World.ownsRow G H 156 1 Z n176 ζ/\H<=Array.size (World.heap G)/\dW G (Value.slice (some ⟨μ,0,none⟩) 1 1) α 1 V/\(n176+α<=maxLen/\(n176+α)* 8<=140737488355328)/\
   ∀(β:Value) (J:World),World.ownsRow J H 156 1 β (n176+α) (ζ++V)->World.grownBy G J (Value.ownBlock Z)->(∀b:Nat,Value.ownBlock β=some b->Value.ownBlock Z=some b\/Array.size (World.heap G)<=b)->I J/\
   ∃(γ δ:Nat),v168=Value.pointer (some ⟨γ,δ,none⟩)/\oneV β=true/\((∃χ:Value,World.cell? J ⟨γ,(δ+1),none⟩=some χ)/\World.frozen? J ⟨γ,(δ+1),none⟩=false)/\∀ν:World,ν=World.setCell J ⟨γ,(δ+1),none⟩ β->K ν:=by
 obtain⟨h1,hle,h3,hr,h4,vo,vt,h5,h6,h7,h8,h9,h10,ψ⟩:=h.bd;have hb7:b7< w'.heap.size:=h1;have hn9:b9≠b7:=λe=>h.mx b7 h3 (e▸h.x9)
 have ω:vt.ownBlock≠some b9:=λe=>h.mx b9 (h10 b9 e).1 h.x9
 refine⟨λw2=>Kp w' w2 λg=>vt.ownBlock=some g,λw1 ξ=>⟨ξ▸Kp.ah (Ex.drew w') _,ptr b7,λw2 k=>?_,ptr b7,λw2 k=>?_,b7,0,rfl,vt,λw2 k=>?_,λb2 w2 hb2 ο=>?_⟩⟩
 ·rw [J1 (w:=w') (k.block b9 h.l9 ω)];exact h.c9
 ·rw [J1 (w:=w') (k.block b9 h.l9 ω)];exact h.c9
 ·rw [J1 (w:=w') (k.block b7 h1 λe=>(h10 b7 e).2 rfl)];exact h6
 have x2:Ex w' w2:=Ex.trans (ξ▸Ex.drew w') (ο▸Ex.alloc w1 _);have s1:w1.heap.size=w'.heap.size:=by rw [ξ];rfl
 have s2:w2.heap.size=w1.heap.size+1:=by rw [ο,size_alloc]
 refine⟨Kp.ah x2 _,?_⟩;have hsl:eF (λx=>x=b2) w2 (.slice (some ⟨b2,0,none⟩) 1 1) [ptr g]:=by
  refine .inr ⟨b2,0,1,rfl,rfl,by omega,λi x z=>?_⟩;rw [KF,ο,hb2];refine aa ?_
  match i,z with
  | 0,z=>simpa using z
  | i+1,z=>simp at z
 refine aP.push (h8.kp (Kp.ah x2 λ _=>False) λ _ _ h=>h) (K5 h.ex.size x2.size) hsl rfl (by omega) (by simpa using hl) λv3 w3 ς hg3 hn3=>?_
 have k23:Kp w2 w3 λg=>vt.ownBlock=some g:=Kp.aQ hg3 λg h=>h
 have k3:Kp w' w3 λg=>vt.ownBlock=some g:=Kp.trans (Kp.ah x2 _) k23 λg _ h=>h
 have υ:=k3.block b7 h1 λe=>(h10 b7 e).2 rfl
 have hv3:oneV v3=true:=by rcases ς.2 with⟨rfl,_⟩ | ⟨g,cap,cur,rfl,_⟩<;>rfl
 have c31:w3.cell? ⟨b7,1,none⟩=some vt:=by rw [J1 (w:=w') υ];exact h6
 have c30:w3.cell? ⟨b7,0,none⟩=some vo:=by rw [J1 (w:=w') υ];exact h5
 have f3:∀j,w3.frozen? ⟨b7,j,none⟩=false:=λj=>by rw [KC (w:=w') υ];exact h4 j
 refine⟨k3,b7,0,rfl,hv3,⟨⟨vt,c31⟩,f3 1⟩,λw4 η=>?_⟩;have k4:Kr b7 w3 w4:=η▸Kr.set w3 1 _;have ε:Kp w' w4 M:=Kp.trans (Kp.mono (λg e=>(h10 g e).1) k3) k4 λg _ e=>e▸h3
 have s3:=k3.size;have s23:=k23.size;have s4:=k4.size;have φ:∀x,v3.ownBlock=some x->vt.ownBlock=some x\/w'.heap.size<=x:=λx z=>(hn3 x z).elim .inl λh=> .inr (by omega)
 have h3b:∀x,v3.ownBlock=some x->x≠b7:=λx z=>(φ x z).elim (λe=>(h10 x e).2) λe=>by omega
 refine hK w4 (ts++[ptr g]) (λx=>M x\/(w'.heap.size<=x/\x< w4.heap.size)) ⟨?_,⟨by omega,hle,.inl h3,λx z=>?_,λj=>?_,vo,v3,?_,?_,?_,?_,λx z=>⟨.inl (h9 x z).1,(h9 x z).2⟩,λx z=>⟨?_,h3b x z⟩,λx z e=>?_⟩,?_,?_,Kx h.l9 ε.size,h.h9,h.x9,λx z hX=>?_,λx z=>Kx (h.xl x z) ε.size⟩
 ·exact Ex.below h.ex (Kp.below ε h.ex.size λx z e=>by have :=(hr x e).1;omega)
 ·have hB:=h.ex.size;rcases z with z | z
  ·have :=hr x z;omega
  ·omega
 ·rw [η,Kt];exact f3 j
 ·rw [η,J7 _ _ _ _ (by simp)];exact c30
 ·rw [η];exact Kj _ _ _ c31
 ·exact(h7.kp k3 λx z e=>ψ x z e).kp k4 λx z=>(h9 x z).2
 ·exact aP.kp ς k4 h3b
 ·have :=(ς.block x z).2;exact(φ x z).elim (λe=> .inl (h10 x e).1) λe=> .inr ⟨e,by omega⟩
 ·rcases φ x e with e1 | e1
  ·exact ψ x z e1
  ·have :=(h7.block x z).2;omega
 ·have key:∀{l:Lv} {us:List Value},af (λg=>(w.heap.size<=g/\¬M g/\¬X g)/\g< w'.heap.size) w' l us->af (λg=>(w.heap.size<=g/\¬(M g\/(w'.heap.size<=g/\g< w4.heap.size))/\¬X g)/\g< w4.heap.size) w4 l us:=λht=>
   af.sub (λg _ hg=>⟨⟨hg.1.1,λhm=>hm.elim hg.1.2.1 λh=>by omega,hg.1.2.2⟩,Kx hg.2 ε.size⟩) (af.kp ε (λg hg=>hg.1.2.1) ht)
  exact af.app (key h.th) (key he)
 ·rw [J1 (w:=w') (ε.block b9 h.l9 λe=>h.mx b9 e h.x9)];exact h.c9
 ·rcases z with z | z
  ·exact h.mx x z hX
  ·have :=h.xl x hX;omega
end
structure SI (w w':World)(b7 b9 b39:Nat)(O:List Nat)(L:Lv)(ts:List Value)(M X:Nat->Prop)(a b:Nat)(Q:Lv):Prop where
 ti:TI w w' b7 b9 O L ts M X
 x39:X b39
 h39:w.heap.size<=b39
 n39:b39≠b9
 sl:∃vp us,kH w' b39 43 a b (.pointer none) vp/\aP 146 w.heap.size w' vp us/\af (λg=>(w.heap.size<=g/\¬M g/\¬X g)/\g< w'.heap.size) w' Q us/\∀g,vp.ownBlock=some g->X g/\g≠b9/\g≠b39
section
variable {w w':World} {b7 b9 b39 a b:Nat} {O:List Nat} {L Q:Lv} {ts:List Value} {M X:Nat->Prop}
theorem SI.ext {w'':World}(h:SI w w' b7 b9 b39 O L ts M X a b Q)(x:Ex w' w''):SI w w'' b7 b9 b39 O L ts M X a b Q:=by
 obtain⟨G,h2,H,h4,vp,us,h5,I,J,h8⟩:=h;have k:Kp w' w'' λ _=>False:=Kp.ah x _
 exact⟨G.ext x,h2,H,h4,vp,us,h5.kp k λh=>h,I.kp k λ _ _ h=>h,af.sub (λg _ z=>⟨z.1,Kx z.2 k.size⟩) (af.ex J x),h8⟩
theorem SI.push (h:SI w w' b7 b9 b39 O L ts M X a b Q){vx:Value}{W:List Value}{Q2:Lv}{D2:Nat->Prop}(hx:eF D2 w' vx W)(h2:af (λg=>(w.heap.size<=g/\¬M g/\¬X g)/\g< w'.heap.size) w' Q2 W)(hl:Q.len+W.length<=1099511627776){vp:Value}(ν:w'.cell? ⟨b39,4,none⟩=some vp){K:Value->World->Prop}
  (hK:∀H z,oneV H=true->Kp w' z (λg=>vp.ownBlock=some g)->((∃ξ:Value,World.cell? z ⟨b39,4,none⟩=some ξ)/\World.frozen? z ⟨b39,4,none⟩=false)->(∀θ,θ=World.setCell z ⟨b39,4,none⟩ H->∃X',SI w θ b7 b9 b39 O L ts M X' a b (Q.app Q2))->K H z):
  ∃(G Z α:Nat) (β J:List Value),World.ownsRow w' G 146 1 vp Z β/\G<=Array.size (World.heap w')/\dW w' vx α 1 J/\(Z+α<=maxLen/\(Z+α)* 8<=140737488355328)/\
   ∀(H:Value) (z:World),World.ownsRow z G 146 1 H (Z+α) (β++J)->World.grownBy w' z (Value.ownBlock vp)->(∀b:Nat,Value.ownBlock H=some b->Value.ownBlock vp=some b\/Array.size (World.heap w')<=b)->K H z:=by
 obtain⟨h1,V,h3,h4,γ,us,h5,h6,h7,h8⟩:=h;have:γ=vp:=KS (h5.c4.symm.trans ν);subst this;have ο:=h1.ex.size;have χ:=h7.len;refine aP.push h6 ο hx h2.all (by omega) (by omega) λv3 w3 δ ς ε=>?_
 have k3:Kp w' w3 λg=>γ.ownBlock=some g:=Kp.aQ ς λg h=>h
 have υ:oneV v3=true:=by rcases δ.2 with⟨rfl,_⟩ | ⟨g,cap,cur,rfl,_⟩<;>rfl
 have ζ:=h5.kp k3 λe=>(h8 _ e).2.2 rfl
 refine hK v3 w3 υ k3 ⟨⟨_,ζ.c4⟩,ζ.f 4⟩ λw4 ι=>?_
 have k4:Kr b39 w3 w4:=ι▸Kr.set w3 4 _;have η:Kp w' w4 λg=>γ.ownBlock=some g\/g=b39:=Kp.trans (Kp.mono (λg e=> .inl e) k3) k4 λg _ e=> .inr e
 have s3:=k3.size;have s4:=k4.size;have κ:∀x,v3.ownBlock=some x->x≠b39:=λx φ=>(ε x φ).elim (λe=>(h8 x e).2.2) λe=>by have :=h1.xl b39 V;omega
 have μ:∀g,(X g\/(v3.ownBlock=some g))->X g\/(w'.heap.size<=g/\g< w4.heap.size):=λg I=>I.elim .inl λe=>(ε g e).elim (λe=> .inl (h8 g e).1) λh=> .inr ⟨h,by have :=(δ.block g e).2;omega⟩
 have ti:=h1.Jb (Y:=λg=>X g\/v3.ownBlock=some g) η (λg e=>e.elim (λe=>⟨(h8 g e).1,(h8 g e).2.1,(h6.block g e).1⟩) λe=>⟨e▸V,e▸h4,e▸h3⟩) (λg I=> .inl I) μ;have key:∀{l:Lv} {us:List Value},af (λg=>(w.heap.size<=g/\¬M g/\¬X g)/\g< w'.heap.size) w' l us->af (λg=>(w.heap.size<=g/\¬M g/\¬(X g\/v3.ownBlock=some g))/\g< w4.heap.size) w4 l us:=λht=>
  af.sub (λg _ I=>⟨⟨I.1.1,I.1.2.1,λhy=>(μ g hy).elim I.1.2.2 λh=>by omega⟩,Kx I.2 η.size⟩) (af.kp η (λg I e=>e.elim (λe=>I.1.2.2 (h8 g e).1) λe=>I.1.2.2 (e▸V)) ht)
 refine⟨_,ti,.inl V,h3,h4,v3,us++W,ζ.HS ι,?_,af.app (key h7) (key h2),λg I=>⟨.inr I,?_,κ g I⟩⟩
 ·exact aP.kp δ k4 κ
 ·exact(ε g I).elim (λe=>(h8 g e).2.1) λe=>by have :=h1.l9;omega
end
theorem Gh {D:Nat->Prop}{w:World}{l:Lv}{ts:List Value}{x b3:Nat}(I:l.sh true=true)(h:af D w l ts)(α:l.sz<=1099511627776)(hb:b3< w.heap.size)(hc:w.cell? ⟨b3,0,none⟩=some (iv x)):
  yO w 186 [ptr b3] ts (Ip l.bB (Lv.has x)):=by
 intro i v w1 V W R Z;have G:=h.bB;obtain⟨J,_⟩:=KX.1 V;have z:i< l.bB.length:=by rw [G.1];exact J
 have he:=G.2 i l.bB[i] v (J2 z) V;have H:=Kg z;have hs:=Lv.eD l _ H;rw [oF z]at Z;refine iM v (ptr b3) w1 R ?_;refine⟨b3,0,rfl,x,by rw [W.cell (show b3< _ from hb)];exact hc,?_⟩;exact zI _ (Kb _) (Lv.jJ I _ H) (he.ex W) (by omega) Z
theorem HU {D S:Nat->Prop}{w:World}{b7 b9:Nat}{vt:Value}{l:Lv}{ts:List Value}(h9:w.cell? ⟨b9,0,none⟩=some (ptr b7))(l9:b9< w.heap.size)(h7:w.cell? ⟨b7,1,none⟩=some vt)(l7:b7< w.heap.size)(G:eF D w vt ts)(h:af D w l ts)(H:l.sh true=true)(α:l.sz<=1099511627776)
  (I:∀g,S g->¬D g/\g≠b9/\g≠b7):H' w S 184 [ptr b9] (λx=> !l.has x):=by
 intro x w1 k R hR;refine jE x (ptr b9) w1 R ?_;intro b3 w4 J V;obtain⟨W,l4,c4⟩:=zw J V;have z:Kp w w4 S:=Kp.trans k (Kp.ah W λ _=>False) λ _ _ h=>h.elim
 refine⟨b9,0,rfl,ptr b7,?_,b7,0,rfl,vt,?_,?_⟩
 ·rw [J1 (w:=w) (z.block b9 l9 λe=>(I _ e).2.1 rfl)];exact h9
 ·rw [J1 (w:=w) (z.block b7 l7 λe=>(I _ e).2.2 rfl)];exact h7
 have hlen:=h.len;have :=nZ l;have Z:∀g,D g->¬S g:=λg hd G=>(I g G).1 hd
 refine De (ca:=[ptr b3]) (G.kp z Z) (by kernel_rfl) (Gh H (af.kp z Z h) (by omega) l4 c4) (by omega) λw5 x5=>?_
 rw [hlen,<-Lv.cT,wI,<-Lv.mz];exact hR w5 (Ex.trans W x5)
def AQ (n:Nat):Prop:=∀{D:Nat->Prop} {w:World} {v:Value} {o:List Nat} {l:Lv} {R:Value->World->Prop},l.sz<=n->l.sh true=true->gd D w v o (af D w l)->o.length+l.tot<=1099511627775->
 (∀v' w',Ex w w'->aB (Be w) w' (Lv.tidy o l) v'->R v' w')->Calls Tryz.prog 139 #[v] w (ax [.v] R)
theorem oZ (o:List Nat)(l:Lv):(Lv.tidy o l).1.length+(Lv.tidy o l).2.tot<=o.length+l.tot:=by
 have :=Lv.tq o (Lv.tid l);have :=Lv.eG l;show(Lv.kept o (Lv.tid l)).1.length+(Lv.kept o (Lv.tid l)).2.tot<=_;omega
theorem cn (l:Lv):l.len<=l.tot:=K5 (nZ l) (Lv.jZ l)
theorem aP.iL {e B:Nat}{w:World}{v:Value}{l:List Value}(h:aP e B w v l):oneV v=true:=by
 rcases h.2 with⟨rfl,_⟩ | ⟨g,cap,cur,rfl,_⟩<;>rfl
theorem aM.single {A B:Type}{R:A->B->Prop}{l:List A}{m:List B}(h:aM R l m){i:Nat}{b:B}(hb:m[i]?=some b):∃a,l[i]?=some a/\a∈l/\R a b:=by
 obtain⟨G,_⟩:=KX.1 hb;have z:i< l.length:=by rw [h.1];exact G
 exact⟨l[i],J2 z,Kg z,h.2 i _ _ (J2 z) hb⟩
theorem jR {k:K}{a b:Nat}{o:List Nat}{r:Lv}:Lv.tid (.thr k a b o r .nil)=if k= .m/\a=b then Lv.tidy o r else if(k= .m\/k= .p)/\(Lv.tidy o r).2.isNil=true then([],.nil)else([],.thr k a b (Lv.tidy o r).1 (Lv.tidy o r).2 .nil):=by
 simp only [Lv.tid,KJ,Lv.a6];rfl
theorem BM (n:Nat)(ih:∀m,m< n->AQ m):AQ n:=by
 intro D w v o l R hn hsh h hb hR;refine kQ v w R ?_;obtain⟨b,vo,vt,ts0,rfl,h2,h3,h4,h5,h6,h7,h8⟩:=h;refine⟨b,0,rfl,vo,h4,wG h6 (by omega) λv5 w6 x6 ho6=>⟨ho6.iL,λb7 w8 hb7 hw8 b9 w10 hb9 hw10=>?_⟩⟩;have x8:Ex w6 w8:=hw8▸Ex.alloc w6 _;have x10:Ex w8 w10:=hw10▸Ex.alloc w8 _;have s6:=x6.size;have s8:w8.heap.size=w6.heap.size+1:=by rw [hw8,size_alloc]
 have s10:w10.heap.size=w8.heap.size+1:=by rw [hw10,size_alloc]
 have c9:w10.cell? ⟨b9,0,none⟩=some (.pointer none):=by rw [hw10,hb9];exact aa rfl
 have f9:w10.frozen? ⟨b9,0,none⟩=false:=by rw [hw10,hb9];unfold World.frozen? World.alloc;simp
 have bd8:kB w.heap.size w8 b7 o [] λg=>g=b7\/v5.ownBlock=some g:=by
  refine⟨by omega,by omega,.inl rfl,λg H=>?_,λj=>?_,v5,.slice none 0 0,?_,?_,ho6.kp (Kp.ah x8 λ _=>False) (λ _ _ h=>h),aP.nil _ _ _,λg H=>⟨.inr H,?_⟩,λg H=>(by cases H),λg _ H=>(by cases H)⟩
  ·rcases H with rfl | H
   ·omega
   ·have :=ho6.block g H;omega
  ·rw [hw8,hb7];unfold World.frozen? World.alloc;simp
  ·rw [hw8,hb7];exact aa rfl
  ·rw [hw8,hb7];exact aa rfl
  ·have :=ho6.block g H;omega
 refine⟨⟨⟨_,c9⟩,f9⟩,λw12 hw12=>?_⟩;have k12:Kr b9 w10 w12:=hw12▸Kr.set w10 0 _;have x610:Ex w6 w10:=Ex.trans x8 x10;have x12:Ex w w12:=Ex.below (Ex.trans x6 x610) (Kp.below k12 (Ex.trans x6 x610).size λg H e=>by omega);have s12:=k12.size;have ti12:TI w w12 b7 b9 o .nil [] (λg=>g=b7\/v5.ownBlock=some g) (λg=>g=b9):=by
  refine⟨x12,(bd8.ex x10).kp k12 λg H e=>?_,rfl,?_,by omega,by omega,rfl,λg H e=>?_,λg e=>by omega⟩
  ·have :=(bd8.mr g H).2;omega
  ·rw [hw12];exact Kj _ _ _ c9
  ·have :=(bd8.mr g H).2;omega
 obtain⟨a0,cap0,hvt⟩:=h7.slice;have hlen:=h8.len;have hel:=Lv.cT l;have hlt:=cn l;refine⟨b,0,rfl,vt,by rw [x12.cell (show b< _ from h3)];exact h5,a0,_,cap0,hvt,λx w'=>∃(i:Nat) (ts:List Value) (M:Nat->Prop),x=i/\i<=l.bB.length/\TI w w' b7 b9 (o++(Lv.tid (l.take i)).1) (Lv.tid (l.take i)).2 ts M (λg=>g=b9),λx _=>(l.bB.length - x).toNat,⟨0,[],_,rfl,by omega,by simpa [Lv.take,Lv.tid]using ti12⟩,λx G hI=>?_⟩;obtain⟨i,ts,M,rfl,hi,β⟩:=hI;refine⟨λhc=>?_,λhc=>?_⟩
 ·have hc:=Kv hc;have hil:i< ts0.length:=by omega
  have ω:i< l.bB.length:=by omega
  have ς:=β.ex;have J:∀w' W M',TI w w' b7 b9 (o++(Lv.tid (l.take i)).1++(Lv.tid l.bB[i]).1) ((Lv.tid (l.take i)).2.app (Lv.tid l.bB[i]).2) W M' (λg=>g=b9)->aj ((i:Int)+1)/\(∃(i':Nat) (ts:List Value) (M:Nat->Prop),((i:Int)+1)=i'/\i'<=l.bB.length/\TI w w' b7 b9 (o++(Lv.tid (l.take i')).1) (Lv.tid (l.take i')).2 ts M (λg=>g=b9))/\((l.bB.length:Int) - ((i:Int)+1)).toNat< ((l.bB.length:Int) - (i:Int)).toNat:=by
   intro w' W M' ti;refine⟨by unfold aj;omega,⟨i+1,W,M',by omega,by omega,?_⟩,by omega⟩;rw [Lv.take_succ l i ω,Lv.cQ _ _ (Lv.mj (Lv.pq l i hsh)),<-KN];exact ti
  have hel22:=(af.ex h8 ς).bB;have he:=hel22.2 i l.bB[i] ts0[i] (J2 ω) (J2 hil);have he0:=h8.bB.2 i l.bB[i] ts0[i] (J2 ω) (J2 hil);have hmem:=Kg ω;have hesz:=Lv.eD l _ hmem;have hetot:=Lv.gv l _ hmem;have hOt:=Lv.eG (l.take i);have hTt:=Lv.fG l i;have hTe:(l.take i).tot+l.bB[i].tot<=l.tot:=by
   have :=Lv.fG l (i+1);rw [Lv.take_succ l i ω,Lv.ch]at this;exact this
  have hOl:(o++(Lv.tid (l.take i)).1).length=o.length+(Lv.tid (l.take i)).1.length:=J';have hLl:=cn (Lv.tid (l.take i)).2;refine(h7.ex ς).get (i:=i) (x:=ts0[i]) (by omega) (by simp [hil]) ?_;generalize l.bB[i]=e at*;generalize ts0[i]=v27 at*;have hke:(∃k a b o r,e= .thr k a b o r .nil/\r.sh true=true)\/∃ps,e= .sum ps .nil/\ps.sh false=true:=Lv.jJ hsh e hmem;generalize (o++(Lv.tid (l.take i)).1)=O at*;generalize (Lv.tid (l.take i)).2=L at*;have hts:ts.length=L.len:=β.th.len;have hS:∀{w1:World},Ex G w1->∀{g j:Nat} {u:Value},g< G.heap.size->G.cell? ⟨g,j,none⟩=some u->w1.cell? ⟨g,j,none⟩=some u:=by
   intro w1 V g j u H hu;rw [V.cell (show g< _ from H)];exact hu
  rcases hke with⟨k,a,b1,o',r,rfl,hr⟩ | ⟨ps,rfl,hps⟩
  ·obtain⟨_,_,a',b',vr,e,⟨g,rfl,g2,g3,g4,g5,g6,g7,g8⟩,hab,hlv,_⟩:=he;obtain⟨rfl,_⟩:=K8 e;refine⟨λw'=>Ex G w',λυ ζ=>⟨ζ▸Ex.drew G,g,0,rfl,_,λw' V=>hS V g3 g4,g,0,rfl,_,λw' V=>hS V g3 g5,g,0,rfl,_,λw' V=>hS V g3 g6,λb39 α hb39 η=>?_⟩⟩;have x29:Ex G υ:=ζ▸Ex.drew G;have s29:υ.heap.size=G.heap.size:=by rw [ζ];rfl
   have θ:Ex G α:=Ex.trans x29 (η▸Ex.alloc υ _);have s40:α.heap.size=υ.heap.size+1:=by rw [η,size_alloc]
   have th40:kH α b39 k.byte a' b' (.pointer none) (.slice none 0 0):=kH.new hb39 η;have l9:=β.l9;have n39:b39≠b9:=by omega
   have h39:w.heap.size<=b39:=by have :=ς.size;omega
   have ti40:TI w α b7 b9 O L ts M λg=>g=b9\/g=b39:=β.Jb (Kp.ah θ λ _=>False) (λ _ h=>h.elim) (λg h=> .inl h) λg h=>h.elim .inl λh=> .inr (by omega)
   simp only [Lv.sz]at hesz;simp only [Lv.tot]at hetot hTe;refine⟨θ,g,0,rfl,_,hS θ g3 g4,aV (by cases k<;>decide) ⟨g,0,rfl,_,hS θ g3 g7,?_⟩⟩;refine ih r.sz (by omega) (Kb _) hr (gd.ex hlv θ) (by omega) λι w138 ξ l137=>⟨gd.one l137,⟨⟨_,(th40.kp (Kp.ah ξ λ _=>False) λh=>h).c3⟩,(th40.kp (Kp.ah ξ λ _=>False) λh=>h).f 3⟩,λI hw140=>?_⟩
   have k140:Kr b39 w138 I:=hw140▸Kr.set w138 3 _;have φ:kH I b39 k.byte a' b' ι (.slice none 0 0):=(th40.kp (Kp.ah ξ λ _=>False) λh=>h).BQ hw140;have χ:TI w I b7 b9 O L ts M λg=>g=b9\/g=b39:=(ti40.ext ξ).JG k140 λg H=>⟨.inr H,by omega,by omega⟩
   have s138:=ξ.size;have s140:=k140.size;have hrt:=oZ o' r;have l140:aB (λg=>(α.heap.size<=g)/\g< I.heap.size) I (Lv.tidy o' r) ι:=aB.sub (aB.kp (l137.sub (E:=λg=>α.heap.size<=g/\g< w138.heap.size) λg H h=>⟨h,H⟩) k140 λg H e=>by omega) λg _ H=>⟨H.1,by omega⟩
   have hM40:∀g,M g->g< α.heap.size:=λg H=>(ti40.bd.mr g H).2
   have cg:∀{w1:World},Ex I w1->∀{j:Nat} {u:Value},G.cell? ⟨g,j,none⟩=some u->w1.cell? ⟨g,j,none⟩=some u:=λV j u hu=>by
    have:I.cell? ⟨g,j,none⟩=some u:=by
     rw [J1 (w:=w138) (k140.block g (by omega) (by omega)),ξ.cell (show g< _ by omega)];exact hS θ g3 hu
    rw [V.cell (show g< _ by omega)];exact this
   have cb:∀{w1:World},Ex I w1->w1.cell? ⟨b39,3,none⟩=some ι:=λV=>by rw [V.cell (show b39< _ from φ.lt)];exact φ.c3
   have c9':∀{w1:World},Ex I w1->w1.cell? ⟨b9,0,none⟩=some (ptr b7):=λV=>by rw [V.cell (show b9< _ from χ.l9)];exact χ.c9
   have hth:∀{w1:World},Ex I w1->af (λg=>(w.heap.size<=g/\¬M g/\¬(g=b9))/\g< w1.heap.size) w1 (.thr k a b1 (Lv.tidy o' r).1 (Lv.tidy o' r).2 .nil) [ptr b39]:=λ{w1} V=>by
    have sx:=V.size;refine⟨ptr b39,[],a',b',ι,rfl,(φ.kp (Kp.ah V λ _=>False) λh=>h).Ix ⟨⟨h39,λhm=>χ.mx b39 hm (.inr rfl),n39⟩,by have :=φ.lt;omega⟩,hab,?_,rfl⟩;exact aB.sub (aB.ex l140 V) λg _ H=>⟨⟨by omega,λhm=>by have :=hM40 g hm;omega,by omega⟩,by omega⟩
   have ν:∀{w1:World},Ex I w1->TI w w1 b7 b9 O L ts M λg=>g=b9:=λV=>(χ.ext V).D5 (λg h=> .inl h) rfl
   have hnil:∀{w1:World},Ex I w1->Lv.tid (.thr k a b1 o' r .nil)=([],.nil)->TI w w1 b7 b9 (O++(Lv.tid (.thr k a b1 o' r .nil)).1) (L.app (Lv.tid (.thr k a b1 o' r .nil)).2) ts M λg=>g=b9:=λV e=>by
    rw [e,KJ,Lv.a6];exact ν V
   have hlr:=cn (Lv.tidy o' r).2;refine⟨λw'=>Ex I w',λο hw142=>⟨hw142▸Ex.drew I,g,0,rfl,_,λw' V=>cg V g4,?_⟩⟩;have z:Ex I ο:=hw142▸Ex.drew I;have κ:∀{w1:World},Ex I w1->(Lv.tid (.thr k a b1 o' r .nil)=([],.thr k a b1 (Lv.tidy o' r).1 (Lv.tidy o' r).2 .nil))->∀w'' W M',TI w w'' b7 b9 O (L.app (.thr k a b1 (Lv.tidy o' r).1 (Lv.tidy o' r).2 .nil)) W M' (λg=>g=b9)->TI w w'' b7 b9 (O++(Lv.tid (.thr k a b1 o' r .nil)).1) (L.app (Lv.tid (.thr k a b1 o' r .nil)).2) W M' (λg=>g=b9):=λ _ e w'' W M' h=>by
    rw [e,KJ];exact h
   have hkm:(Lv.tidy o' r).2.isNil=false->¬(k= .m/\a=b1)->Lv.tid (.thr k a b1 o' r .nil)=([],.thr k a b1 (Lv.tidy o' r).1 (Lv.tidy o' r).2 .nil):=λh1 h2=>by
    rw [jR,Ko h2,Ko (by rw [h1];simp)]
   cases k with
   | m=>
    have hab:a'=a/\b'=b1:=by rcases hab with h | h | h<;>first | exact h | cases h
    obtain⟨rfl,rfl⟩:=hab;refine dc rfl ⟨g,0,rfl,a',λw' V=>cg V g5,g,0,rfl,b',λw' V=>cg V g6,λhq=>?_,λhq=>?_⟩
    ·have hq:a'=b':=by have :=Kv hq;omega
     have ht:Lv.tid (.thr .m a' b' o' r .nil)=Lv.tidy o' r:=by rw [jR,KG ⟨rfl,hq⟩]
     refine⟨λw'=>Ex ο w',λw153 hw153=>⟨hw153▸Ex.drew ο,ptr b7,λw' V=>c9' (Ex.trans z V),ι,λw' V=>cb (Ex.trans z V),?_⟩⟩;have x153:Ex I w153:=Ex.trans z (hw153▸Ex.drew ο);refine(ν x153).DO (O2:=(Lv.tidy o' r).1) (L2:=(Lv.tidy o' r).2) (aB.ex l140 x153) (λg H hd=>⟨by omega,λhm=>by have :=hM40 g hm;omega,by omega⟩) ⟨by omega,by omega⟩ λw'' W M' h _=>J w'' W M' ?_
     rw [ht];exact h
    ·have hq:¬a'=b':=by have :=Kw hq;omega
     refine⟨g,0,rfl,_,cg z g4,dN rfl ⟨ι,cb z,mo (aB.ex l140 z) ⟨λhe=>J ο ts M (hnil z (by rw [jR,Ko (λh=>hq h.2),KG ⟨.inl rfl,he⟩])),λhe=>?_⟩⟩⟩;have ht:=hkm he λh=>hq h.2
     exact(ν z).push (hth z) (by omega) λw'' W M' h=>J w'' W M' (κ z ht _ _ _ h)
   | p=>
    refine aV (by dsimp only [K.byte];decide) ⟨g,0,rfl,_,cg z g4,cE (by dsimp only [K.byte];decide) ⟨g,0,rfl,_,cg z g4,dc rfl ⟨ι,cb z,mo (aB.ex l140 z) ⟨λhe=>J ο ts M (hnil z (by rw [jR,Ko (λh=>by cases h.1),KG ⟨.inr rfl,he⟩])),λhe=>?_⟩⟩⟩⟩;have ht:=hkm he λh=>by cases h.1
    exact(ν z).push (hth z) (by omega) λw'' W M' h=>J w'' W M' (κ z ht _ _ _ h)
   | s=>
    refine aV (by dsimp only [K.byte];decide) ⟨g,0,rfl,_,cg z g4,cE (by dsimp only [K.byte];decide) ⟨g,0,rfl,_,cg z g4,aV (by dsimp only [K.byte];decide) ?_⟩⟩;exact(ν z).push (hth z) (by omega) λw'' W M' h=>J w'' W M' (κ z (by rw [jR,Ko (λh=>by cases h.1),Ko (λh=>by rcases h.1 with h | h<;>cases h)]) _ _ _ h)
   | r=>
    refine aV (by dsimp only [K.byte];decide) ⟨g,0,rfl,_,cg z g4,cE (by dsimp only [K.byte];decide) ⟨g,0,rfl,_,cg z g4,aV (by dsimp only [K.byte];decide) ?_⟩⟩;exact(ν z).push (hth z) (by omega) λw'' W M' h=>J w'' W M' (κ z (by rw [jR,Ko (λh=>by cases h.1),Ko (λh=>by rcases h.1 with h | h<;>cases h)]) _ _ _ h)
   | t=>
    refine aV (by dsimp only [K.byte];decide) ⟨g,0,rfl,_,cg z g4,cE (by dsimp only [K.byte];decide) ⟨g,0,rfl,_,cg z g4,aV (by dsimp only [K.byte];decide) ?_⟩⟩;exact(ν z).push (hth z) (by omega) λw'' W M' h=>J w'' W M' (κ z (by rw [jR,Ko (λh=>by cases h.1),Ko (λh=>by rcases h.1 with h | h<;>cases h)]) _ _ _ h)
  ·clear he;obtain⟨_,_,a',b',vp0,us0,e,⟨g,rfl,g2,g3,g4,g5,g6,g7,g8⟩,hsl,hus,_⟩:=he0;obtain⟨rfl,_⟩:=K8 e;have hS0:∀{w1:World},Ex w w1->∀{j:Nat} {u:Value},w.cell? ⟨g,j,none⟩=some u->w1.cell? ⟨g,j,none⟩=some u:=by
    intro w1 V j u hu;rw [V.cell (show g< _ from g3)];exact hu
   refine⟨λw'=>Ex G w',λυ ζ=>⟨ζ▸Ex.drew G,g,0,rfl,43,λw' V=>hS0 (Ex.trans ς V) g4,g,0,rfl,_,λw' V=>hS0 (Ex.trans ς V) g5,g,0,rfl,_,λw' V=>hS0 (Ex.trans ς V) g6,λb39 α hb39 η=>?_⟩⟩;have x29:Ex G υ:=ζ▸Ex.drew G;have s29:υ.heap.size=G.heap.size:=by rw [ζ];rfl
   have θ:Ex G α:=Ex.trans x29 (η▸Ex.alloc υ _);have s40:α.heap.size=υ.heap.size+1:=by rw [η,size_alloc]
   have th40:kH α b39 43 a' b' (.pointer none) (.slice none 0 0):=kH.new hb39 η;have l9:=β.l9;have n39:b39≠b9:=by omega
   have h39:w.heap.size<=b39:=by have :=ς.size;omega
   have ti40:TI w α b7 b9 O L ts M λg=>g=b9\/g=b39:=β.Jb (Kp.ah θ λ _=>False) (λ _ h=>h.elim) (λg h=> .inl h) λg h=>h.elim .inl λh=> .inr (by omega)
   have si40:SI w α b7 b9 b39 O L ts M (λg=>g=b9\/g=b39) a' b' .nil:=⟨ti40,.inr rfl,h39,n39,.slice none 0 0,[],th40,aP.nil _ _ _,rfl,λg h=>by cases h⟩
   simp only [Lv.sz]at hesz;simp only [Lv.tot]at hetot hTe;obtain⟨ap,capp,hvp⟩:=hsl.slice;have hul:=hus.len;have hpel:=Lv.cT ps;have hplt:=cn ps;refine⟨θ,g,0,rfl,_,hS0 (Ex.trans ς θ) g4,dc rfl ⟨g,0,rfl,vp0,hS0 (Ex.trans ς θ) g8,ap,_,capp,hvp,λx w'=>∃(j:Nat) (X:Nat->Prop),x=j/\j<=ps.bB.length/\SI w w' b7 b9 b39 O L ts M X a' b' (Lv.tid (ps.take j)).2,λx _=>(ps.bB.length - x).toNat,⟨0,_,rfl,by omega,by simpa [Lv.take,Lv.tid]using si40⟩,λx Z hI=>?_⟩⟩;obtain⟨j,X,rfl,hj,μ⟩:=hI;have x53:=μ.ti.ex;refine⟨λhc=>?_,λhc=>?_⟩
   ·have hc:=Kv hc;have hjl:j< us0.length:=by omega
    have hjl':j< ps.bB.length:=by omega
    refine(hsl.ex x53).get (i:=j) (x:=us0[j]) (by omega) (by simp [hjl]) ?_;have hpe:=hus.bB.2 j ps.bB[j] us0[j] (J2 hjl') (J2 hjl);have hpm:=Kg hjl';have hpsz:=Lv.eD ps _ hpm;have hptot:=Lv.gv ps _ hpm;obtain⟨o'',q,epq,hq⟩:=Lv.mD hps _ hpm;have htk:(Lv.tid (ps.take (j+1))).2=(Lv.tid (ps.take j)).2.app (Lv.prt (Lv.tidy o'' q).1 (Lv.tidy o'' q).2 .nil):=by
     rw [Lv.take_succ ps j hjl',Lv.xn _ (Lv.pq ps j hps),epq];rfl
    have hQ:=cn (Lv.tid (ps.take j)).2;have hQ1:=Lv.eG (ps.take j);have hQ2:=Lv.fG ps (j+1);rw [Lv.take_succ ps j hjl',Lv.ch,epq]at hQ2;rw [epq]at hpe hpsz hptot;generalize us0[j]=v58 at*;obtain⟨v58',_,e58,hlq,_⟩:=hpe;obtain⟨rfl,_⟩:=K8 e58;simp only [Lv.sz]at hpsz;simp only [Lv.tot]at hptot hQ2;have hfin:∀w' X',SI w w' b7 b9 b39 O L ts M X' a' b' (Lv.tid (ps.take (j+1))).2->aj ((j:Int)+1)/\(∃(j':Nat) (X:Nat->Prop),((j:Int)+1)=j'/\j'<=ps.bB.length/\SI w w' b7 b9 b39 O L ts M X a' b' (Lv.tid (ps.take j')).2)/\((ps.bB.length:Int) - ((j:Int)+1)).toNat< ((ps.bB.length:Int) - (j:Int)).toNat:=
     λw' X' h=>⟨by unfold aj;omega,⟨j+1,X',by omega,by omega,h⟩,by omega⟩
    refine ih q.sz (by omega) (Kb _) hq (gd.ex hlq x53) (by omega) λv59 ε x60 l59=>?_
    have si60:=μ.ext x60;have hrt:=oZ o'' q;have hqsh:(Lv.tidy o'' q).2.sh true=true:=Lv.dJ q true hq;generalize Lv.tidy o'' q=r' at*;have hM53:∀g,M g->g< Z.heap.size:=λg H=>(μ.ti.bd.mr g H).2
    have hX53:=μ.ti.xl;have hsz53:=x53.size;refine mo l59 ⟨λhe=>?_,λhe=>Fe l59 hqsh ⟨λhs=>?_,λhs=>?_⟩⟩
    ·refine hfin ε X ?_;rw [htk,wJ,KG he,Lv.a6];exact si60
    ·obtain⟨ps',ep⟩:∃ps',r'.2= .sum ps' .nil:=by
      have :=(Bool.and_eq_true_iff.1 hs).2;generalize r'.2=q' at*
      match q',this with
      | .sum ps' .nil,_=>exact⟨ps',rfl⟩
     rw [wJ,Ko (by rw [he];simp),KG hs,ep]at htk;have htk:(Lv.tid (ps.take (j+1))).2=(Lv.tid (ps.take j)).2.app ps':=htk;unfold aB at l59;rw [ep]at l59 hrt;obtain⟨b59,vo59,vt59,tsq,rfl,k2,k3,k4,k5,k6,k7,k8⟩:=l59;obtain⟨_,_,aq,bq,vpq,usq,rfl,⟨gq,rfl,q2,q3,q4,q5,q6,q7,q8⟩,qsl,qus,rfl⟩:=k8;obtain⟨vp,us,γ,ho60,hu60,hob⟩:=si60.sl;have hobl:∀x,vp.ownBlock=some x->x< Z.heap.size:=λx V=>hX53 x (hob x V).1
     refine⟨λw'=>Kp ε w' λg=>vp.ownBlock=some g,λw66 hw66=>⟨hw66▸Kp.ah (Ex.drew ε) _,vp,λw' k=>?_,b59,0,rfl,vt59,λw' k=>?_,?_⟩⟩
     ·rw [J1 (w:=ε) (k.block b39 γ.lt λe=>(hob _ e).2.2 rfl)];exact γ.c4
     ·rw [J1 (w:=ε) (k.block b59 k3 λe=>by have :=hobl _ e;have:Z.heap.size<=b59:=k2;omega)];exact k5
     have x66:Ex ε w66:=hw66▸Ex.drew ε;rcases k7 with⟨_,e⟩ | ⟨bt,off,cp,rfl,t2,t3,t4⟩
     ·cases e
     refine⟨bt,off,1,cp,rfl,by omega,by omega,ptr gq,λw' k=>?_,gq,0,rfl,vpq,λw' k=>?_,?_⟩
     ·rw [J1 (w:=ε) (k.block bt t3 λe=>by have :=hobl _ e;have:Z.heap.size<=bt:=t2;omega)];exact t4 0 _ rfl
     ·rw [J1 (w:=ε) (k.block gq q3 λe=>by have :=hobl _ e;have:Z.heap.size<=gq:=q2;omega)];exact q8
     have hqd:af (λg=>(w.heap.size<=g/\¬M g/\¬X g)/\g< w66.heap.size) w66 ps' usq:=af.sub (λg H hd=>⟨⟨by have:Z.heap.size<=g:=hd;omega,λhm=>by have :=hM53 g hm;have:Z.heap.size<=g:=hd;omega,λhm=>by have :=hX53 g hm;have:Z.heap.size<=g:=hd;omega⟩,H⟩) (af.ex qus x66);have hql:=qus.len;have hql2:=cn ps';simp only [Lv.tot]at hrt;refine(si60.ext x66).push (qsl.ex x66) hqd (by omega) (by rw [x66.cell (show b39< _ from γ.lt)];exact γ.c4) λv84 w85 hv84 k85 hc85 hset=>⟨Kp.trans (Kp.ah x66 _) k85 λ _ _ h=>h,hv84,hc85,λw87 hw87=>?_⟩
     obtain⟨X',hsi⟩:=hset w87 hw87;refine hfin w87 X' ?_;rw [htk];exact hsi
    ·rw [wJ,Ko (by rw [he];simp),Ko (by rw [hs];simp)]at htk;obtain⟨vp,us,γ,ho60,hu60,hob⟩:=si60.sl;refine⟨vp,γ.c4,gd.one l59,λb89 w90 hb89 hw90=>?_⟩;have x90:Ex ε w90:=hw90▸Ex.alloc ε _;have s90:w90.heap.size=ε.heap.size+1:=by rw [hw90,size_alloc]
     have hsl1:eF (λx=>x=b89) w90 (.slice (some ⟨b89,0,none⟩) 1 1) [v59]:=by
      refine .inr ⟨b89,0,1,rfl,rfl,by omega,λi x V=>?_⟩;rw [KF,hw90,hb89];refine aa ?_
      match i,V with
      | 0,V=>simpa using V
      | i+1,V=>simp at V
     have hqd:af (λg=>(w.heap.size<=g/\¬M g/\¬X g)/\g< w90.heap.size) w90 (.part r'.1 r'.2 .nil) [v59]:=⟨v59,[],rfl,aB.sub (aB.ex l59 x90) λg H hd=>⟨⟨by have:Z.heap.size<=g:=hd;omega,λhm=>by have :=hM53 g hm;have:Z.heap.size<=g:=hd;omega,λhm=>by have :=hX53 g hm;have:Z.heap.size<=g:=hd;omega⟩,H⟩,rfl⟩
     refine(si60.ext x90).push hsl1 hqd (by simp only [J0,Kh];omega) (by rw [x90.cell (show b39< _ from γ.lt)];exact γ.c4) λv84 w85 hv84 k85 hc85 hset=>⟨hv84,hc85,λw87 hw87=>?_⟩
     obtain⟨X',hsi⟩:=hset w87 hw87;refine hfin w87 X' ?_;rw [htk];exact hsi
   ·have hc:=Kw hc;have:j=ps.bB.length:=by omega
    subst this;rw [Lv.di]at μ;have hpsh:(Lv.tid ps).2.sh false=true:=Lv.dJ ps false hps;have hpt:=Lv.eG ps;have hpl:=cn (Lv.tid ps).2;have htid:Lv.tid (.sum ps .nil)=Lv.spl (Lv.tid ps).2 ([],.nil):=by simp only [Lv.tid]
    rw [htid]at J;generalize (Lv.tid ps).2=Q at*;have si53':=μ;obtain⟨ti,hx39,_,_,vp,us,th,ho,hu,hob⟩:=μ;have ν:TI w Z b7 b9 O L ts M λg=>g=b9:=ti.D5 (λg h=>h▸ti.x9) rfl
    obtain⟨av,capv,hvpe⟩:=(ho.BN (D:=λ _=>True) λ _ _=>trivial).slice;have ψ:=hu.len;refine⟨vp,th.c4,av,_,capv,hvpe,λh0=>?_,λh0=>⟨λh1=>?_,λh1=>?_⟩⟩
    ·have h0:=Kv h0;have hQ:Q= .nil:=by
      have:Q.len=0:=by omega
      cases Q<;>first | rfl | simp [Lv.len]at this
     subst hQ;refine J Z ts M ?_;simp only [Lv.spl,KJ,Lv.a6];exact ν
    ·have h1:=Kv h1;obtain⟨oq,qq,rfl⟩:∃oq qq,Q= .part oq qq .nil:=by
      have:Q.len=1:=by omega
      cases Q with
      | nil=>simp [Lv.len]at this
      | thr=>cases hpsh
      | sum=>cases hpsh
      | part oq qq n=>
       have hn:n= .nil:=by
        have:n.len=0:=by simp only [Lv.len]at this;omega
        cases n<;>first | rfl | simp [Lv.len]at this
       exact⟨oq,qq,by rw [hn]⟩
     obtain⟨u,us',rfl,hlu,rfl⟩:=hu;rcases ho.BN (D:=λg=>vp.ownBlock=some g) λ _ h=>h with⟨_,e⟩ | ⟨bt,off,cp,hvp2,t2,t3,t4⟩
     ·cases e
     have hnM:∀g,X g->¬M g:=λg V hm=>ti.mx g hm V
     refine⟨λw'=>Kp Z w' M,λw105 hw105=>⟨hw105▸Kp.ah (Ex.drew Z) _,ptr b7,λw' k=>?_,vp,λw' k=>?_,bt,off,1,cp,hvp2,by omega,by omega,u,λw' k=>?_,?_⟩⟩
     ·rw [J1 (w:=Z) (k.block b9 ti.l9 (hnM _ ti.x9))];exact ti.c9
     ·rw [J1 (w:=Z) (k.block b39 th.lt (hnM _ hx39))];exact th.c4
     ·rw [J1 (w:=Z) (k.block bt t3 (hnM _ (hob _ t2).1))];exact t4 0 _ rfl
     have x105:Ex Z w105:=hw105▸Ex.drew Z;simp only [Lv.tot]at hpt;have :=cn qq;refine(ti.ext x105).DO (O2:=oq) (L2:=qq) (gd.ex hlu x105) (λg _ hd=>hd.1) ⟨by omega,by omega⟩ λw'' W M' h k=>⟨Kp.trans (Kp.ah x105 _) k λ _ _ h=>h,J w'' W M' ?_⟩
     simp only [Lv.spl,KJ,Lv.a6];exact h.D5 (λg h=>h▸ti.x9) rfl
    ·have h0:=Kw h0;have h1:=Kw h1;have hspl:Lv.spl Q ([],.nil)=([],.sum Q .nil):=by
      unfold Lv.spl;split
      ·simp [Lv.len]at ψ;simp [ψ]at h0
      ·simp [Lv.len]at ψ;simp [ψ]at h1
      ·rfl
     refine ν.push (e:= .sum Q .nil) ⟨ptr b39,[],a',b',vp,us,rfl,th.Ix ⟨⟨h39,λhm=>ti.mx b39 hm hx39,n39⟩,th.lt⟩,?_,?_,rfl⟩ (by omega) λw'' W M' h=>J w'' W M' ?_
     ·exact ho.BN λg H=>⟨⟨(ho.block g H).1,λhm=>ti.mx g hm (hob g H).1,(hob g H).2.1⟩,(ho.block g H).2⟩
     ·exact af.sub (λg _ hd=>⟨⟨hd.1.1,hd.1.2.1,λe=>hd.1.2.2 (e▸ti.x9)⟩,hd.2⟩) hu
     ·rw [hspl,KJ];exact h
 ·have hc:=Kw hc;have:i=l.bB.length:=by omega
  subst this;rw [Lv.di]at β;have htt:=Lv.eG l;have hsz:=Lv.jZ (Lv.tid l).2;have htsh:=Lv.dJ l true hsh;have hfil:Lv.tidy o l=((o++(Lv.tid l).1).filter (λx=> !!(Lv.tid l).2.has x),(Lv.tid l).2):=by
   simp only [Bool.not_not];rfl
  rw [hfil]at hR;have hOl:(o++(Lv.tid l).1).length=o.length+(Lv.tid l).1.length:=J';generalize (o++(Lv.tid l).1)=O at*;generalize (Lv.tid l).2=L at*;have ti:=β;obtain⟨d1,d2,d3,dr,d4,vo1,vt1,d5,d6,d7,d8,d9,d10,d11⟩:=ti.bd;have hn9:¬M b9:=λhm=>ti.mx b9 hm rfl
  refine⟨λw'=>Kp G w' λg=>vo1.ownBlock=some g,λw302 hw302=>⟨hw302▸Kp.ah (Ex.drew G) _,ptr b7,λw' k=>?_,ptr b7,λw' k=>?_,b7,0,rfl,vo1,λw' k=>?_,?_⟩⟩
  ·rw [J1 (w:=G) (k.block b9 ti.l9 λe=>hn9 (d9 _ e).1)];exact ti.c9
  ·rw [J1 (w:=G) (k.block b9 ti.l9 λe=>hn9 (d9 _ e).1)];exact ti.c9
  ·rw [J1 (w:=G) (k.block b7 d1 λe=>(d9 _ e).2 rfl)];exact d5
  have δ:Ex G w302:=hw302▸Ex.drew G;have kx:Kp G w302 λ _=>False:=Kp.ah δ _
  have hsvt:eF (λg=>w.heap.size<=g/\vo1.ownBlock≠some g/\g< G.heap.size) G vt1 ts:=d8.BN λg H=>⟨(d8.block g H).1,λe=>d11 g e H,(d8.block g H).2⟩
  have hths:af (λg=>w.heap.size<=g/\vo1.ownBlock≠some g/\g< G.heap.size) G L ts:=af.sub (λg H hd=>⟨hd.1.1,λe=>hd.1.2.1 (d9 g e).1,H⟩) ti.th;refine EO (ca:=[ptr b9]) (d7.kp kx λ _ _ h=>h) (by kernel_rfl) (HU (b7:=b7) (vt:=vt1) (D:=λg=>w.heap.size<=g/\vo1.ownBlock≠some g/\g< G.heap.size) ?_ (by have :=ti.l9;have :=δ.size;omega) ?_ (by have :=δ.size;omega) (hsvt.ex δ) (af.ex hths δ) htsh (by omega) λg H=>⟨λhd=>hd.2.1 H,λe=>hn9 (e▸(d9 g H).1),(d9 g H).2⟩) (by omega) λv308 w309 hv k309 hsl=>?_
  ·rw [δ.cell (show b9< _ from ti.l9)];exact ti.c9
  ·rw [δ.cell (show b7< _ from d1)];exact d6
  have k9:Kp G w309 λg=>vo1.ownBlock=some g:=Kp.trans (Kp.ah δ _) k309 λ _ _ h=>h
  have hb9:=k9.block b7 d1 λe=>(d9 _ e).2 rfl
  have c0:w309.cell? ⟨b7,0,none⟩=some vo1:=by rw [J1 (w:=G) hb9];exact d5
  refine⟨k9,b7,0,rfl,hv,⟨⟨_,c0⟩,by rw [KC (w:=G) hb9];exact d4 _⟩,λw313 hw313=>?_⟩;have kset:Kr b7 w309 w313:=hw313▸Kr.set w309 0 _;have kall:Kp G w313 λg=>vo1.ownBlock=some g\/g=b7:=Kp.trans (Kp.mono (λg e=> .inl e) k9) kset λg _ e=> .inr e
  have hne79:b9≠b7:=λe=>hn9 (e▸d3)
  refine⟨ptr b7,?_,hR _ w313 ?_ ?_⟩
  ·rw [J1 (w:=G) (kall.block b9 ti.l9 λe=>e.elim (λe=>hn9 (d9 _ e).1) hne79)];exact ti.c9
  ·exact Ex.below ti.ex (Kp.below kall ti.ex.size λg H e=>by
    rcases e with e | e
    ·have :=(d7.block g e).1;omega
    ·omega)
  ·refine⟨b7,v308,vt1,ts,rfl,d2,Kx d1 kall.size,?_,?_,?_,?_,?_⟩
   ·rw [hw313];exact Kj _ _ _ c0
   ·rw [hw313,J7 _ _ _ _ (by simp),J1 (w:=G) hb9];exact d6
   ·exact(hsl.kp kset λg H e=>(d9 g H).2 e).sub λg _ H=>(d7.block g H).1
   ·exact((d8.BN (D:=λg=>vt1.ownBlock=some g) λ _ h=>h).kp kall λg H e=>e.elim (λe=>d11 g e H) (d10 g H).2).sub λg _ H=>(d8.block g H).1
   ·exact af.sub (λg _ H=>H.1.1) (af.kp kall (λg H e=>e.elim (λe=>H.1.2.1 (d9 g e).1) λe=>H.1.2.1 (e▸d3)) ti.th)
theorem Da:∀n,AQ n:=by
 have:∀k n,n< k->AQ n:=by
  intro k
  induction k with
  | zero=>intro n h;omega
  | succ k z=>exact λn h=>BM n λm hm=>z m (by omega)
 exact λn=>this (n+1) n (by omega)
end Go.Proofs.YtdecokaadekjnaaGreat
namespace Go.Proofs.YtdecokaadekjnaaGreat
open Go
set_option maxRecDepth 100000
theorem j0 (o1:Value)(c2:Value)(c3:Value)(w:World)(R:World->Prop)(h:IT 236 #[o1] w λI n5 w6=>bO w6 λz w8=>(az c2 λb9 ε=>pB w8 b9 ε λG=>z w8/\(az c3 λζ η=>pB w8 ζ η λJ=>z w8/\aj (J+n5)/\az c2 λθ ι=>bg w8 θ ι (.int .i64 (if I> G then I else G)) λV=>z V/\az c3 λκ μ=>bg V κ μ (.int .i64 (J+n5)) λW=>z W/\R W)/\(az c2 λν ξ=>bg w8 ν ξ (.int .i64 (if I> G then I else G)) λH=>z H/\az c3 λο ς=>pB H ο ς λZ=>z H/\aj (Z+n5)/\az c3 λb30 υ=>bg H b30 υ (.int .i64 (Z+n5)) λα=>z α/\R α))/\(az c3 λφ χ=>pB w8 φ χ λβ=>z w8/\aj (β+n5)/\az c2 λψ ω=>pB w8 ψ ω λn39=>z w8/\az c2 λb40 o41=>bg w8 b40 o41 (.int .i64 (if I> n39 then I else n39)) λγ=>z γ/\az c3 λb44 o45=>bg γ b44 o45 (.int .i64 (β+n5)) λδ=>z δ/\R δ)):
  Calls Tryz.prog 249 #[o1,c2,c3] w (ax [] R):=
 bs (bn [] [] []) [] [.v o1,.v c2,.v c3] Tryz.func249 (by kernel_rfl) h
theorem lk (l1:Value)(w:World)(R:Int->Int->World->Prop)(h:bO w λS2 w3=>az l1 λb4 o5=>ct S2 b4 (o5+0) λv6=>bM v6 λl8=>az l1 λb10 o11=>ct S2 b10 (o11+0) λv12=>bM v12 λl14=>(aN w3 (.cells #[(.int .i64 0)] 3) λb16 w17=>S2 w17/\aN w17 (.cells #[(.int .i64 0)] 3) λb18 w19=>S2 w19/\bg w19 b16 0 (.int .i64 (l8:Int)) λw21=>S2 w21/\bg w21 b18 0 (.int .i64 (l14:Int)) λw23=>az l1 λb24 o25=>aS w23 b24 (o25+1) λv26=>bM v26 λl28=>eM 0 w23 λI30 ι H V=>ai (decide (H< (l28:Int))) (aJ v26 H λb34 o35=>aS V b34 (o35+H.toNat* 1) λκ=>az κ λb39 o40=>aS V b39 (o40+3) λv41=>∃q42:Option Addr,v41= .pointer q42/\ai (!Option.isNone q42) (az κ λb43 o44=>aS V b43 (o44+3) λv45=>∃(f46:Nat) (c47:List Value),(Value.func (.func 249) #[] #[(.pointer (some ⟨b16,0,none⟩)),(.pointer (some ⟨b18,0,none⟩))])= .func (.func f46) #[] (List.toArray c47)/\List.contains dh f46=true/\fC f46 (List.toArray ([v45]++c47)) V λw48=>az κ λb49 o50=>aS w48 b49 (o50+4) λv51=>bM v51 λl53=>eM 0 w48 λI55 m56 α ε=>ai (decide (α< (l53:Int))) (aJ v51 α λb59 o60=>aS ε b59 (o60+α.toNat* 1) λv63=>∃(f64:Nat) (c65:List Value),(Value.func (.func 249) #[] #[(.pointer (some ⟨b16,0,none⟩)),(.pointer (some ⟨b18,0,none⟩))])= .func (.func f64) #[] (List.toArray c65)/\List.contains dh f64=true/\fC f64 (List.toArray ([v63]++c65)) ε λw66=>aj (α+1)/\I55 (α+1) w66/\m56 (α+1) w66< m56 α ε) (aj (H+1)/\I30 (H+1) ε/\ι (H+1) ε< ι H V)) (az κ λb67 o68=>aS V b67 (o68+4) λv69=>bM v69 λl71=>eM 0 V λI73 m74 β ζ=>ai (decide (β< (l71:Int))) (aJ v69 β λb77 o78=>aS ζ b77 (o78+β.toNat* 1) λv81=>∃(f82:Nat) (c83:List Value),(Value.func (.func 249) #[] #[(.pointer (some ⟨b16,0,none⟩)),(.pointer (some ⟨b18,0,none⟩))])= .func (.func f82) #[] (List.toArray c83)/\List.contains dh f82=true/\fC f82 (List.toArray ([v81]++c83)) ζ λw84=>aj (β+1)/\I73 (β+1) w84/\m74 (β+1) w84< m74 β ζ) (aj (H+1)/\I30 (H+1) ζ/\ι (H+1) ζ< ι H V))) (bO V λS85 w86=>kA S85 b16 0 λn87=>kA S85 b18 0 λn88=>R n87 n88 w86))/\(aN w3 (.cells #[(.int .i64 0)] 3) λη w90=>S2 w90/\aN w90 (.cells #[(.int .i64 0)] 3) λθ w92=>S2 w92/\bg w92 θ 0 (.int .i64 (l8:Int)) λw94=>S2 w94/\bg w94 η 0 (.int .i64 (l14:Int)) λw96=>az l1 λb97 o98=>aS w96 b97 (o98+1) λv99=>bM v99 λl101=>eM 0 w96 λμ γ z G=>ai (decide (z< (l101:Int))) (aJ v99 z λb107 o108=>aS G b107 (o108+z.toNat* 1) λδ=>az δ λb112 o113=>aS G b112 (o113+3) λv114=>∃ν:Option Addr,v114= .pointer ν/\ai (!Option.isNone ν) (az δ λb116 o117=>aS G b116 (o117+3) λv118=>∃(f119:Nat) (ξ:List Value),(Value.func (.func 249) #[] #[(.pointer (some ⟨θ,0,none⟩)),(.pointer (some ⟨η,0,none⟩))])= .func (.func f119) #[] (List.toArray ξ)/\List.contains dh f119=true/\fC f119 (List.toArray ([v118]++ξ)) G λο=>az δ λb122 o123=>aS ο b122 (o123+4) λv124=>bM v124 λl126=>eM 0 ο λI128 ς I W=>ai (decide (I< (l126:Int))) (aJ v124 I λb132 o133=>aS W b132 (o133+I.toNat* 1) λv136=>∃(f137:Nat) (υ:List Value),(Value.func (.func 249) #[] #[(.pointer (some ⟨θ,0,none⟩)),(.pointer (some ⟨η,0,none⟩))])= .func (.func f137) #[] (List.toArray υ)/\List.contains dh f137=true/\fC f137 (List.toArray ([v136]++υ)) W λφ=>aj (I+1)/\I128 (I+1) φ/\ς (I+1) φ< ς I W) (aj (z+1)/\μ (z+1) W/\γ (z+1) W< γ z G)) (az δ λb140 o141=>aS G b140 (o141+4) λχ=>bM χ λl144=>eM 0 G λI146 ψ J Z=>ai (decide (J< (l144:Int))) (aJ χ J λb150 o151=>aS Z b150 (o151+J.toNat* 1) λv154=>∃(f155:Nat) (ω:List Value),(Value.func (.func 249) #[] #[(.pointer (some ⟨θ,0,none⟩)),(.pointer (some ⟨η,0,none⟩))])= .func (.func f155) #[] (List.toArray ω)/\List.contains dh f155=true/\fC f155 (List.toArray ([v154]++ω)) Z λw157=>aj (J+1)/\I146 (J+1) w157/\ψ (J+1) w157< ψ J Z) (aj (z+1)/\μ (z+1) Z/\γ (z+1) Z< γ z G))) (bO G λS158 w159=>kA S158 θ 0 λn160=>kA S158 η 0 λn161=>R n160 n161 w159))):
  Calls Tryz.prog 236 #[l1] w (ax [.i,.i] R):=
 bs (bn [(4,[(27,.i)]),(9,[(47,.i)])] [] [1,14]) [.tmp 2 .i,.tmp 3 .i] [.v l1] Tryz.func236 (by kernel_rfl) h
theorem xL (c1:UInt8)(w:World)(R:UInt32->World->Prop)(h:R ((nE 1 (UInt8.toNat (c1 - 97:UInt8)))) w):
  Calls Tryz.prog 59 #[(.int .u8 c1.toNat)] w (ax [.w] R):=
 bs (bn [] [] []) [.tmp 2 .w] [.c c1] Tryz.func59 (by kernel_rfl) h
theorem ur (s1:UInt32)(w:World)(R:UInt8->Bool->World->Prop)(h:Ir 97 w λI H c4 z=>ai (decide (c4<=122)) (y3 59 #[(.int .u8 c4.toNat)] z λJ G=>ai (decide ((s1 &&& J:UInt32)=0)) (R c4 true G) (I (c4+1:UInt8) G/\H (c4+1:UInt8) G< H c4 z)) (R 0 false z)):
  Calls Tryz.prog 130 #[(.int .u32 (UInt32.toNat s1))] w (ax [.c,.b] R):=
 bs (bn [(2,[(4,.c)])] [] []) [.tmp 2 .c,.tmp 3 .b] [.w s1] Tryz.func130 (by kernel_rfl) h
theorem nU (n1:Value)(x2:Int)(w:World)(R:UInt32->World->Prop)(h:az n1 λb3 o4=>IM w b3 (o4+1) λm5=>az n1 λb6 o7=>IM w b6 (o7+1) λm8=>Fu 130 #[(.int .u32 (UInt32.toNat m8))] w λc9 ε V=>ai (!ε) (az n1 λζ η=>bg V ζ (η+2) (.bool true) λθ=>bO θ λW ι=>az n1 λb18 κ=>Ja W b18 (κ+1) λμ=>y3 59 #[(.int .u8 (UInt8.toNat 122))] ι λν Z=>W Z/\az n1 λξ ο=>bg Z ξ (ο+1) (.int .u32 (UInt32.toNat (μ ||| ν:UInt32))) λH=>az n1 λς υ=>aS H ς (υ+0) λφ=>∃(z:Nat) (α:Value->Option Value),φ= .map (some z)/\IsMap H z (.int .i64) α/\∀jm:World,IsMap jm z (.int .i64) (bK α (.int .i64 x2) (.int .u8 (UInt8.toNat 122)))->bc H jm z->R m5 jm) (bO V λβ χ=>az n1 λψ ω=>Ja β ψ (ω+1) λm37=>y3 59 #[(.int .u8 c9.toNat)] χ λm38 γ=>β γ/\az n1 λb40 o41=>bg γ b40 (o41+1) (.int .u32 (UInt32.toNat (m37 ||| m38:UInt32))) λI=>az n1 λb44 o45=>aS I b44 (o45+0) λv46=>∃(G:Nat) (δ:Value->Option Value),v46= .map (some G)/\IsMap I G (.int .i64) δ/\∀J:World,IsMap J G (.int .i64) (bK δ (.int .i64 x2) (.int .u8 c9.toNat))->bc I J G->R m5 J)):
  Calls Tryz.prog 252 #[n1,(.int .i64 x2)] w (ax [.w] R):=
 bs (bn [] [] [6]) [.tmp 4 .w] [.v n1,.i x2] Tryz.func252 (by kernel_rfl) h
theorem nS (n1:Value)(z:Int)(w:World)(R:ay->World->Prop)(h:ai (decide (z< 26)) (aj (97+z)/\(0<=(97+z)/\(97+z)< 2147483648)/\(0<=(97+z)/\(97+z)< 128)/\R ([UInt8.ofNat (Int.toNat (97+z))]) w) (az n1 λb3 J=>aS w b3 (J+0) λv5=>∃(I:Nat) (H:Value->Option Value),v5= .map (some I)/\IsMap w I (.int .i64) H/\∃G:UInt8,∃g9:Bool,((g9=true/\H (.int .i64 z)=some (.int .u8 G.toNat))\/(g9=false/\H (.int .i64 z)=none/\(Value.int .u8 G.toNat)=(.int .u8 0)))/\(0<=(UInt8.toNat G:Int)/\(UInt8.toNat G:Int)< 128)/\R ([UInt8.ofNat (Int.toNat (UInt8.toNat G:Int))]) w)):
  Calls Tryz.prog 253 #[n1,(.int .i64 z)] w (ax [.s] R):=
 bs (bn [] [] []) [.tmp 4 .s] [.v n1,.i z] Tryz.func253 (by kernel_rfl) h
theorem vZ (t1:Value)(s2:ay)(w:World)(R:ay->World->Prop)(h:fC 115 #[t1] w λw3=>bM t1 λV=>aj ((V:Int) - 1)/\aJ t1 ((V:Int) - 1) λb7 o8=>bZ w3 b7 (o8+Int.toNat ((V:Int) - 1)* 1) λW=>bM t1 λI=>aj ((I:Int) - 2)/\kY W (((I:Int) - 2)) w3 λZ J z i18 H=>ai (decide (0<=i18)) (aJ t1 i18 λα β=>bZ H α (β+i18.toNat* 1) λG=>(List.length [40]+G.length<=4611686018427387904)/\(List.length ([40]++G)+s2.length<=4611686018427387904)/\(List.length (([40]++G)++s2)+z.length<=4611686018427387904)/\(List.length ((([40]++G)++s2)++z)+List.length [41]<=4611686018427387904)/\aj (i18 - 1)/\Z ((((([40]++G)++s2)++z)++[41])) (i18 - 1) H/\J ((((([40]++G)++s2)++z)++[41])) (i18 - 1) H< J z i18 H) (R z H)):
  Calls Tryz.prog 255 #[t1,(.string (ab s2))] w (ax [.s] R):=
 bs (bn [(4,[(5,.s),(6,.i)])] [] []) [.tmp 4 .s] [.v t1,.s s2] Tryz.func255 (by kernel_rfl) h
theorem lQ (n1:Value)(t2:Value)(w:World)(R:ay->World->Prop)(h:az t2 λb3 o4=>gg w b3 (o4+0) λc5=>ai (decide (c5=43)) (aN w (.cells #[] 9) λb6 w7=>az t2 λb8 o9=>aS w7 b8 (o9+4) λv10=>bM v10 λl12=>jX ((.slice (some ⟨b6,0,none⟩) 0 0)) 0 w7 λI14 ι t16 I α=>ai (decide (I< (l12:Int))) (aJ v10 I λb19 o20=>aS α b19 (o20+I.toNat* 1) λv23=>bw 237 #[n1,v23] α λs24 w25=>aN w25 (.cells #[(.string (ab s24))] 9) λb26 w27=>eu 9 1 16 w27 t16 (.slice (some ⟨b26,0,none⟩) 1 1) λκ μ=>aj (I+1)/\I14 κ (I+1) μ/\ι κ (I+1) μ< ι t16 I α) (bw 255 #[t16,(.string (ab [43]))] α λs35 w36=>R s35 w36)) (ai (decide (c5=42)) (az t2 λb37 o38=>aS w b37 (o38+3) λv39=>bw 237 #[n1,v39] w λν w41=>(List.length [42]+ν.length<=4611686018427387904)/\R ([42]++ν) w41) (ai (decide (c5=126)) (az t2 λb42 o43=>aS w b42 (o43+3) λv44=>bw 237 #[n1,v44] w λξ w46=>(List.length [126,46]+ξ.length<=4611686018427387904)/\R ([126,46]++ξ) w46) (ai (decide (c5=61)) (bO w λβ w48=>az t2 λb49 o50=>kA β b49 (o50+1) λn51=>az t2 λb52 o53=>kA β b52 (o53+2) λn54=>bw 253 #[n1,(.int .i64 n51)] w48 λz ο=>β ο/\bw 253 #[n1,(.int .i64 n54)] ο λG θ=>β θ/\(List.length [91]+List.length (if(Op.bytesLess z G||decide (z=G))then z else G)<=4611686018427387904)/\(List.length ([91]++(if(Op.bytesLess z G||decide (z=G))then z else G))+List.length [61]<=4611686018427387904)/\(List.length (([91]++(if(Op.bytesLess z G||decide (z=G))then z else G))++[61])+List.length (if(!Op.bytesLess z G)then z else G)<=4611686018427387904)/\(List.length ((([91]++(if(Op.bytesLess z G||decide (z=G))then z else G))++[61])++(if(!Op.bytesLess z G)then z else G))+List.length [93]<=4611686018427387904)/\az t2 λb59 o60=>aS θ b59 (o60+3) λv61=>bw 237 #[n1,v61] θ λς w63=>(List.length (((([91]++(if(Op.bytesLess z G||decide (z=G))then z else G))++[61])++(if(!Op.bytesLess z G)then z else G))++[93])+ς.length<=4611686018427387904)/\R (((((([91]++(if(Op.bytesLess z G||decide (z=G))then z else G))++[61])++(if(!Op.bytesLess z G)then z else G))++[93])++ς)) w63) (ai (decide (c5=63)) (az t2 λb64 o65=>pB w b64 (o65+2) λn66=>y3 252 #[n1,(.int .i64 n66)] w λm67 w68=>bO w68 λV w70=>az t2 λb71 o72=>kA V b71 (o72+1) λn73=>az t2 λb74 o75=>kA V b74 (o75+2) λn76=>az t2 λb77 o78=>ct V b77 (o78+3) λv79=>bw 253 #[n1,(.int .i64 n73)] w70 λZ υ=>V υ/\(Z.length+List.length [63]<=4611686018427387904)/\bw 253 #[n1,(.int .i64 n76)] υ λγ φ=>V φ/\(List.length (Z++[63])+γ.length<=4611686018427387904)/\(List.length ((Z++[63])++γ)+List.length [46]<=4611686018427387904)/\bw 237 #[n1,v79] φ λχ ψ=>V ψ/\(List.length (((Z++[63])++γ)++[46])+χ.length<=4611686018427387904)/\az n1 λb86 o87=>bg ψ b86 (o87+1) (.int .u32 (UInt32.toNat m67)) λw89=>R (((((Z++[63])++γ)++[46])++χ)) w89) (bO w λW w91=>az t2 λb92 o93=>kA W b92 (o93+1) λn94=>az t2 λb95 o96=>kA W b95 (o96+2) λn97=>az t2 λb98 o99=>ct W b98 (o99+3) λω=>bw 253 #[n1,(.int .i64 n94)] w91 λH δ=>W δ/\(H.length+List.length [33]<=4611686018427387904)/\bw 253 #[n1,(.int .i64 n97)] δ λJ ε=>W ε/\(List.length (H++[33])+J.length<=4611686018427387904)/\(List.length ((H++[33])++J)+List.length [46]<=4611686018427387904)/\bw 237 #[n1,ω] ε λζ η=>W η/\(List.length (((H++[33])++J)++[46])+ζ.length<=4611686018427387904)/\R (((((H++[33])++J)++[46])++ζ)) η)))))):
  Calls Tryz.prog 254 #[n1,t2] w (ax [.s] R):=
 bs (bn [(5,[(5,.v),(24,.i)])] [] [15,19,22]) [.tmp 4 .s] [.v n1,.v t2] Tryz.func254 (by kernel_rfl) h
theorem kI (c1:Value)(c2:Value)(c3:Value)(c4:Value)(c5:Value)(w:World)(R:World->Prop)(h:az c1 λb6 o7=>aS w b6 o7 λv8=>bM v8 λl10=>kY ([]) 0 w λI12 δ z G J=>ai (decide (G< (l10:Int))) (aJ v8 G λb17 o18=>pB J b17 (o18+G.toNat* 1) λε=>az c2 λb22 o23=>aS J b22 o23 λv24=>y3 252 #[v24,(.int .i64 ε)] J λm25 ζ=>az c2 λb27 o28=>aS ζ b27 o28 λv29=>bw 253 #[v29,(.int .i64 ε)] ζ λV η=>(List.length [35]+V.length<=4611686018427387904)/\(List.length ([35]++V)+List.length [46]<=4611686018427387904)/\(z.length+List.length (([35]++V)++[46])<=4611686018427387904)/\aj (G+1)/\I12 ((z++(([35]++V)++[46]))) (G+1) η/\δ ((z++(([35]++V)++[46]))) (G+1) η< δ z G J) (aN J (.cells #[] 9) λb32 β=>az c3 λb34 o35=>aS β b34 o35 λv36=>az v36 λb37 o38=>aS β b37 (o38+1) λθ=>bM θ λl41=>jX ((.slice (some ⟨b32,0,none⟩) 0 0)) 0 β λI43 ι t45 H W=>ai (decide (H< (l41:Int))) (aJ θ H λb48 o49=>aS W b48 (o49+H.toNat* 1) λv52=>az c2 λb53 o54=>aS W b53 o54 λv55=>bw 254 #[v55,v52] W λs56 w57=>aN w57 (.cells #[(.string (ab s56))] 9) λb58 w59=>eu 9 1 16 w59 t45 (.slice (some ⟨b58,0,none⟩) 1 1) λκ μ=>aj (H+1)/\I43 κ (H+1) μ/\ι κ (H+1) μ< ι t45 H W) (bw 255 #[t45,(.string (ab [38]))] W λα I=>(z.length+α.length<=4611686018427387904)/\az c4 λb69 o70=>bZ I b69 o70 λs71=>iz (decide (s71=[])) (az c4 λb72 o73=>bZ I b72 o73 λs74=>ai (Op.bytesLess (z++α) s74) (az c4 λb75 o76=>bg I b75 o76 (.string (ab (z++α))) λγ=>az c2 λb79 o80=>aS γ b79 o80 λv81=>az c5 λb82 o83=>IM γ b82 o83 λm84=>az v81 λb85 o86=>bg γ b85 (o86+1) (.int .u32 (UInt32.toNat m84)) λw88=>R w88) (az c2 λb89 o90=>aS I b89 o90 λv91=>az c5 λb92 o93=>IM I b92 o93 λm94=>az v91 λb95 o96=>bg I b95 (o96+1) (.int .u32 (UInt32.toNat m94)) λw98=>R w98)) (az c4 λb99 ν=>bg I b99 ν (.string (ab (z++α))) λZ=>az c2 λξ ο=>aS Z ξ ο λv105=>az c5 λς υ=>IM Z ς υ λφ=>az v105 λχ ψ=>bg Z χ (ψ+1) (.int .u32 (UInt32.toNat φ)) λω=>R ω)))):
  Calls Tryz.prog 251 #[c1,c2,c3,c4,c5] w (ax [] R):=
 bs (bn [(2,[(5,.s),(14,.i)]),(9,[(8,.v),(35,.i)])] [] []) [] [.v c1,.v c2,.v c3,.v c4,.v c5] Tryz.func251 (by kernel_rfl) h
theorem lg (z:Value)(a2:Int)(d3:Value)(w:World)(R:World->Prop)(h:bM z λl5=>ai (decide (a2=(l5:Int))) (∃(f7:Nat) (c8:List Value),d3= .func (.func f7) #[] (List.toArray c8)/\List.contains dh f7=true/\fC f7 (List.toArray ([]++c8)) w λw9=>R w9) (eM a2 w λW H i12 G=>bM z λZ=>ai (decide (i12< (Z:Int))) (bO G λI α=>aJ z i12 λβ γ=>kA I β (γ+i12.toNat* 1) λδ=>aJ z a2 λε ζ=>kA I ε (ζ+a2.toNat* 1) λη=>aJ z a2 λθ ι=>bg α θ (ι+a2.toNat* 1) (.int .i64 δ) λκ=>aJ z i12 λμ ν=>bg κ μ (ν+i12.toNat* 1) (.int .i64 η) λξ=>aj (a2+1)/\fC 250 #[z,(.int .i64 (a2+1)),d3] ξ λο=>bO ο λJ ς=>aJ z i12 λυ φ=>kA J υ (φ+i12.toNat* 1) λχ=>aJ z a2 λψ ω=>kA J ψ (ω+a2.toNat* 1) λn53=>aJ z a2 λb54 o55=>bg ς b54 (o55+a2.toNat* 1) (.int .i64 χ) λw59=>aJ z i12 λb60 o61=>bg w59 b60 (o61+i12.toNat* 1) (.int .i64 n53) λV=>aj (i12+1)/\W (i12+1) V/\H (i12+1) V< H i12 G) (R G))):
  Calls Tryz.prog 250 #[z,(.int .i64 a2),d3] w (ax [] R):=
 bs (bn [(3,[(6,.i)])] [] [5,7]) [] [.v z,.i a2,.v d3] Tryz.func250 (by kernel_rfl) h
theorem mY (n1:Value)(l2:Value)(w:World)(R:ay->World->Prop)(h:oneV n1=true/\aN w (.cells #[n1] 247) λb3 w4=>oneV l2=true/\aN w4 (.cells #[l2] 146) λb5 w6=>aS w6 b5 0 λv7=>ck 181 #[v7] w6 λq8 w9=>ai q8 (R ([48]) w9) (bO w9 λz J=>ct z b3 0 λv12=>az v12 λκ μ=>Ja z κ (μ+1) λV=>(aN J (.cells #[(.string ⟨#[]⟩)] 9) λb16 W=>z W/\aN W (.cells #[(.int .u32 0)] 73) λb18 Z=>z Z/\bg Z b16 0 (.string (ab [])) λα=>z α/\bg α b18 0 (.int .u32 (UInt32.toNat V)) λG=>aS G b5 0 λv24=>az v24 λν ξ=>aS G ν (ξ+0) λο=>cB 180 #[ο] G λv28 ς=>aN ς (.cells #[(.slice none 0 0)] 36) λb30 υ=>oneV v28=true/\bg υ b30 0 v28 λβ=>aS β b30 0 λφ=>fC 250 #[φ,(.int .i64 0),(Value.func (Fn.func 251) #[] #[(.pointer (some ⟨b30,0,none⟩)),(.pointer (some ⟨b3,0,none⟩)),(.pointer (some ⟨b5,0,none⟩)),(.pointer (some ⟨b16,0,none⟩)),(.pointer (some ⟨b18,0,none⟩))])] β λγ=>bZ γ b16 0 λχ=>R χ γ)/\(aN J (.cells #[(.int .u32 0)] 73) λδ ε=>z ε/\aN ε (.cells #[(.string ⟨#[]⟩)] 9) λb39 ζ=>z ζ/\bg ζ b39 0 (.string (ab [])) λη=>z η/\bg η δ 0 (.int .u32 (UInt32.toNat V)) λH=>aS H b5 0 λψ=>az ψ λω o47=>aS H ω (o47+0) λv48=>cB 180 #[v48] H λv49 w50=>aN w50 (.cells #[(.slice none 0 0)] 36) λI w52=>oneV v49=true/\bg w52 I 0 v49 λθ=>aS θ I 0 λv55=>fC 250 #[v55,(.int .i64 0),(Value.func (Fn.func 251) #[] #[(.pointer (some ⟨I,0,none⟩)),(.pointer (some ⟨b3,0,none⟩)),(.pointer (some ⟨b5,0,none⟩)),(.pointer (some ⟨b39,0,none⟩)),(.pointer (some ⟨δ,0,none⟩))])] θ λι=>bZ ι b39 0 λs57=>R s57 ι))):
  Calls Tryz.prog 237 #[n1,l2] w (ax [.s] R):=
 bs (bn [] [] [3]) [.tmp 4 .s] [.v n1,.v l2] Tryz.func237 (by kernel_rfl) h
theorem kX (l1:Value)(w:World)(R:ay->Bool->World->Prop)(h:cB 139 #[l1] w λv2 w3=>IT 236 #[v2] w3 λn4 n5 w6=>iz (decide (5< n4)) (ai (decide (8< n5)) (R ([]) false w6) (aN w6 (Obj.map #[] 0) λb7 w8=>oneV (.map (some b7))=true/\aN w8 (.cells #[(.map (some b7)),(.int .u32 (UInt32.toNat 0)),(.bool false),(.int .i64 0)] 250) λb9 β=>eM 0 β λV G z H=>ai (decide (z< 26)) (ck 220 #[v2,(.int .i64 z)] H λγ I=>ai γ (bO I λδ ε=>Ja δ b9 1 λζ=>0<=(z:Int)/\bg ε b9 1 (.int .u32 (UInt32.toNat (ζ ||| (nE 1 z.toNat):UInt32))) λW=>aj (z+1)/\V (z+1) W/\G (z+1) W< G z H) (aj (z+1)/\V (z+1) I/\G (z+1) I< G z H)) (bw 237 #[(.pointer (some ⟨b9,0,none⟩)),v2] H λZ J=>EW J b9 2 λη=>iz η (ck 238 #[(.string (ab Z))] J λθ α=>ai (!θ) (R ([]) false α) (R Z true α)) (R ([]) false J)))) (R ([]) false w6)):
  Calls Tryz.prog 216 #[l1] w (ax [.s,.b] R):=
 bs (bn [(7,[(25,.i)])] [] [10]) [.tmp 2 .s,.tmp 3 .b] [.v l1] Tryz.func216 (by kernel_rfl) h
theorem ng (t1:Value)(w:World)(R:ay->Bool->World->Prop)(h:aN w (.cells #[(.int .i64 0)] 145) λb2 G=>cB 138 #[] G λv4 H=>cB 137 #[(.pointer (some ⟨b2,0,none⟩)),t1,v4] H λv6 I=>hZ 216 #[v6] I λJ V z=>R J V z):
  Calls Tryz.prog 175 #[t1] w (ax [.s,.b] R):=
 bs (bn [] [] []) [.tmp 2 .s,.tmp 3 .b] [.v t1] Tryz.func175 (by kernel_rfl) h
end Go.Proofs.YtdecokaadekjnaaGreat
namespace Go.Proofs.YtdecokaadekjnaaGreat
open Go Go.RowKit
theorem dy:∀l:Lv,thAll l<=l.tot
 | .nil=>Kb _
 | .thr _ _ _ o r n=>by have :=dy r;have :=dy n;simp only [thAll,Lv.tot];omega
 | .sum z n=>by have :=dy z;have :=dy n;simp only [thAll,Lv.tot];omega
 | .part o q n=>by have :=dy q;have :=dy n;simp only [thAll,Lv.tot];omega
def Jf (n:Nat):Prop:=∀{D:Nat->Prop} {w:World} {v:Value} {o:List Nat} {l:Lv} {R:Int->Int->World->Prop},l.sz<=n->l.sh true=true->gd D w v o (af D w l)->o.length+l.tot<=1099511627776->
 (∀w',Ex w w'->R ((max o.length (aw l):Nat):Int) ((o.length+thAll l:Nat):Int) w')->Calls Tryz.prog 236 #[v] w (ax [.i,.i] R)
structure FS (w w':World)(bm ba m a:Nat):Prop where
 ex:Ex w w'
 lm:bm< w'.heap.size
 la:ba< w'.heap.size
 hm:w.heap.size<=bm
 ha:w.heap.size<=ba
 ne:bm≠ba
 cm:w'.cell? ⟨bm,0,none⟩=some (iv m)
 ca:w'.cell? ⟨ba,0,none⟩=some (iv a)
 fm:w'.frozen? ⟨bm,0,none⟩=false
 fa:w'.frozen? ⟨ba,0,none⟩=false
end Go.Proofs.YtdecokaadekjnaaGreat
