/- Part 3 of a proof of what the last text states; no condition. -/
import Derived.Test.YtdecokaadekjnaaGreatW2
namespace Go.Proofs.YtdecokaadekjnaaGreat
open Go Go.RowKit
theorem aI.kp {D S:Nat->Prop}{w w':World}(kp:Kp w w' S)(z:∀g,D g->¬S g):∀{t:P} {v:Value},aI D w t v->aI D w' t v
 | .nil,_,h=>fe.kp h kp z λ _ h=>h
 | .snd _ _ p,_,h=>fe.kp h kp z λ _ ⟨x,G,H⟩=>⟨x,G,aI.kp kp z (t:=p) H⟩
 | .rcv _ _ p,_,h=>fe.kp h kp z λ _ ⟨x,G,H⟩=>⟨x,G,aI.kp kp z (t:=p) H⟩
 | .tau p,_,h=>fe.kp h kp z λ _ ⟨x,G,H⟩=>⟨x,G,aI.kp kp z (t:=p) H⟩
 | .res _ p,_,h=>fe.kp h kp z λ _ ⟨x,G,H⟩=>⟨x,G,aI.kp kp z (t:=p) H⟩
 | .mat _ _ p,_,h=>fe.kp h kp z λ _ ⟨x,G,H⟩=>⟨x,G,aI.kp kp z (t:=p) H⟩
 | .rep p,_,h=>fe.kp h kp z λ _ ⟨x,G,H⟩=>⟨x,G,aI.kp kp z (t:=p) H⟩
 | .sum p q,_,h=>fe.kp h kp z λ _ ⟨x,y,G,H,I⟩=>⟨x,y,G,aI.kp kp z (t:=p) H,aI.kp kp z (t:=q) I⟩
 | .par p q,_,h=>fe.kp h kp z λ _ ⟨x,y,G,H,I⟩=>⟨x,y,G,aI.kp kp z (t:=p) H,aI.kp kp z (t:=q) I⟩
theorem aI.mono {D E:Nat->Prop}{w:World}(hd:∀g,D g->E g):∀{t:P} {v:Value},aI D w t v->aI E w t v
 | .nil,_,h=>fe.mono h hd λ _ h=>h
 | .snd _ _ p,_,h=>fe.mono h hd λ _ ⟨x,z,G⟩=>⟨x,z,aI.mono hd (t:=p) G⟩
 | .rcv _ _ p,_,h=>fe.mono h hd λ _ ⟨x,z,G⟩=>⟨x,z,aI.mono hd (t:=p) G⟩
 | .tau p,_,h=>fe.mono h hd λ _ ⟨x,z,G⟩=>⟨x,z,aI.mono hd (t:=p) G⟩
 | .res _ p,_,h=>fe.mono h hd λ _ ⟨x,z,G⟩=>⟨x,z,aI.mono hd (t:=p) G⟩
 | .mat _ _ p,_,h=>fe.mono h hd λ _ ⟨x,z,G⟩=>⟨x,z,aI.mono hd (t:=p) G⟩
 | .rep p,_,h=>fe.mono h hd λ _ ⟨x,z,G⟩=>⟨x,z,aI.mono hd (t:=p) G⟩
 | .sum p q,_,h=>fe.mono h hd λ _ ⟨x,y,z,G,H⟩=>⟨x,y,z,aI.mono hd (t:=p) G,aI.mono hd (t:=q) H⟩
 | .par p q,_,h=>fe.mono h hd λ _ ⟨x,y,z,G,H⟩=>⟨x,y,z,aI.mono hd (t:=p) G,aI.mono hd (t:=q) H⟩
theorem aK.two {A B:Type}{R:A->B->Prop}{a a':A}{b z:B}(h:R a b)(G:R a' z):aK R [a,a'] [b,z]:=(aK.one h).append (aK.one G)
theorem aI.inv {D:Nat->Prop}{w:World}{t:P}{v:Value}(h:aI D w t v):fe D w v t.kind t.ca t.cb λl=>aK (λx p=>aI D w p x) l t.parts:=by
 cases t with
 | nil=>exact fe.mono h (λ _ h=>h) λl (e:l=[])=>by subst e;exact aK.nil
 | sum p q=>exact fe.mono h (λ _ h=>h) λl ⟨x,y,e,z,G⟩=>by subst e;exact aK.two z G
 | par p q=>exact fe.mono h (λ _ h=>h) λl ⟨x,y,e,z,G⟩=>by subst e;exact aK.two z G
 | snd a b p=>exact fe.mono h (λ _ h=>h) λl ⟨x,e,z⟩=>by subst e;exact aK.one z
 | rcv a b p=>exact fe.mono h (λ _ h=>h) λl ⟨x,e,z⟩=>by subst e;exact aK.one z
 | mat a b p=>exact fe.mono h (λ _ h=>h) λl ⟨x,e,z⟩=>by subst e;exact aK.one z
 | tau p=>exact fe.mono h (λ _ h=>h) λl ⟨x,e,z⟩=>by subst e;exact aK.one z
 | rep p=>exact fe.mono h (λ _ h=>h) λl ⟨x,e,z⟩=>by subst e;exact aK.one z
 | res b p=>exact fe.mono h (λ _ h=>h) λl ⟨x,e,z⟩=>by subst e;exact aK.one z
theorem rW (t:P):t.size=1+(t.parts.map T.size).sum:=by cases t<;>simp [T.size,T.parts]<;>omega
theorem uv {A:Type}(f:A->Nat)(l:List A){i:Nat}(h:i< l.length):(l.map f).sum=((l.take i).map f).sum+(f l[i]+((l.drop (i+1)).map f).sum)/\((l.take (i+1)).map f).sum=((l.take i).map f).sum+f l[i]:=by
 constructor
 ·have e:l=l.take i++(l[i]::l.drop (i+1)):=by rw [<-Kx h,KT]
  conv=>lhs;rw [e,Kz,MQ,J9,KN]
 ·rw [JG h,Kz,MQ];simp
theorem Gi:∀(n:Nat) {D:Nat->Prop} {t:P} {v:Value} {w:World},t.size<=n->aI D w t v->t.size<=1099511627776->∀{R:Int->World->Prop},R (t.size:Int) w->Calls Tryz.prog 124 #[v] w (an [.i] R):=by
 intro n
 induction n with
 | zero=>intro D t v w h;have :=a6 t;omega
 | succ n V=>
  intro D t v w hn W hl R h;refine oL v w R ?_;obtain⟨b,vs,l,rfl,h1,h2,h3,h4,h5,Z,J,I⟩:=W.inv;obtain⟨a,cap,hv⟩:=J.slice;have e:=rW t;refine⟨b,0,rfl,vs,Z,a,_,cap,hv,λm x w'=>w'=w/\∃i:Nat,x=i/\i<=l.length/\m=(1+((t.parts.take i).map T.size).sum:Nat),λ _ x _=>(l.length - x).toNat,⟨rfl,0,rfl,by omega,by simp⟩,λm x w1 hI=>?_⟩;obtain⟨rfl,i,rfl,hi,rfl⟩:=hI;refine⟨λG=>?_,λG=>?_⟩
  ·have G:=J0 G;have z:i< l.length:=by omega
   have H:i< t.parts.length:=by rw [<-I.1];exact z
   refine J.get (i:=i) (x:=l[i]) (by omega) (by simp [z]) ?_;have hk:=I.2 i _ _ (JC z) (JC H);obtain⟨hs,α⟩:=uv T.size t.parts H;have β:=dS t;refine V (by omega) hk (by omega) ⟨by unfold aj;omega,by unfold aj;omega,⟨rfl,i+1,by omega,by omega,?_⟩,by dsimp only;omega⟩;omega
  ·have G:=J1 G;have:i=t.parts.length:=by rw [<-I.1];omega
   subst this;rw [J3,<-e];exact h
end Go.Proofs.YtdecokaadekjnaaGreat
namespace Go.Proofs.YtdecokaadekjnaaGreat
open Classical
structure FR (u:U)(ρ:Rh)(tk:Tk):Prop where
 ok:∀y,u.Us y->tk (ρ y)=true/\lt (ρ y)=true
 inj:∀y z,u.Us y->u.Us z->ρ y=ρ z->y=z
theorem FR.sub {u v:U}{ρ:Rh}{tk:Tk}(h:FR u ρ tk)(G:∀y,v.Us y->u.Us y):FR v ρ tk:=
 ⟨λy H=>h.ok y (G y H),λy z H I=>h.inj y z (G y H) (G z I)⟩
def EN (u:U)(ρ:Rh)(tk:Tk)(t:P)(v:U):Prop:=
 t.text=LS u ρ tk/\AE UInt8.toNat t (λy=>(ρ y).toNat) v/\t.Al (λc=>lt c=true)/\Jm u v
def Cu (u:U)(ρ:Rh)(tk:Tk)(t:P)(v:U):Prop:=
 t.text=thU u ρ tk/\AE UInt8.toNat t (λy=>(ρ y).toNat) v/\t.Al (λc=>lt c=true)/\IZ u v
theorem Jd {n:Nat}(ih:∀(u:U) (ρ:Rh) (tk:Tk),u.size<=n->Uq u->FR u ρ tk->dk u tk=false->∃t v,EN u ρ tk t v){t:U}{ρ:Rh}{tk:Tk}(hn:t.size<=n+1)(hu:Uq t)(κ:EV t=true)
  (ξ:t.dA) (hl:t.dead=false) (hm:FR t ρ tk) (hb:thBad (tl [t]) tk=false):∃q w,Cu t ρ tk q w:=by
 cases t with
 | nil=>cases κ
 | par=>cases κ
 | res=>cases κ
 | snd a b p=>
  simp only [T.size]at hn;rw [iS]at hb;obtain⟨q,v,G,h2,H,h4⟩:=ih p ρ tk (by omega) hu.snd (hm.sub λy hy=> .inr (.inr hy)) hb;have α:∀x,(T.snd a b v).Us x↔(T.snd a b p).Us x:=λx=>or_congr_right (or_congr_right (h4.us x))
  refine⟨.snd (ρ a) (ρ b) q,.snd a b v,?_,⟨rfl,rfl,h2⟩,⟨(hm.ok a (.inl rfl)).2,(hm.ok b (.inr (.inl rfl))).2,H⟩,?_⟩
  ·simp only [T.text,thU,kText,G]
  ·exact⟨rfl,h4.nr,qu (t:=T.snd a b p) h4.uq.nd h4.nr h4.bv (λx=>(α x).1) hu,h4.bv,α,λρ tk=>by simp only [thU,h4.ls],λtk=>by rw [iS,iS,h4.bad],by rw [pZ,pZ,h4.all],by rw [eW,eW,h4.most],h4.smp,rfl⟩
 | tau p=>
  simp only [T.size]at hn;rw [iQ]at hb;obtain⟨q,v,G,h2,H,h4⟩:=ih p ρ tk (by omega) hu.tau (hm.sub λy hy=>hy) hb;refine⟨.tau q,.tau v,?_,h2,H,?_⟩
  ·simp only [T.text,thU,kText,G]
  ·exact⟨rfl,h4.nr,qu (t:=T.tau p) h4.uq.nd h4.nr h4.bv (λx=>(h4.us x).1) hu,h4.bv,h4.us,λρ tk=>by simp only [thU,h4.ls],λtk=>by rw [iQ,iQ,h4.bad],by rw [pG,pG,h4.all],by rw [eU,eU,h4.most],h4.smp,rfl⟩
 | rep p=>
  simp only [T.size]at hn;rw [iZ]at hb;obtain⟨q,v,G,h2,H,h4⟩:=ih p ρ tk (by omega) hu.rep (hm.sub λy hy=>hy) hb;have hd:v.dead=false:=by rw [h4.dead];exact hl
  have nr:(T.rep v).Nr:=⟨hd,h4.nr⟩
  refine⟨.rep q,.rep v,?_,h2,H,?_⟩
  ·simp only [T.text,thU,kText,G]
  ·refine⟨rfl,nr,qu (t:=T.rep p) h4.uq.nd nr h4.bv (λx=>(h4.us x).1) hu,h4.bv,h4.us,λρ tk=>by simp only [thU,h4.ls],λtk=>by rw [iZ,iZ,h4.bad],by rw [pO,pO,h4.all],by rw [eX,eX,h4.most],λhs=>?_,rfl⟩;simp only [T.smp,JF]at hs|-;refine⟨?_,h4.smp hs.2⟩;have:ak p=([],[p]):=by
    have hr:=hs.1;cases p<;>first | rfl | cases hr
   rw [T.vJ,h4.tg p this,<-T.vJ];exact hs.1
 | mat a b p=>
  simp only [T.size]at hn;have γ:a≠b:=ξ;have hd:p.dead=false:=hl;rw [eH]at hb;obtain⟨q,v,G,h2,H,h4⟩:=ih p ρ tk (by omega) hu.mat (hm.sub λy hy=> .inr ⟨γ,hd,.inr (.inr hy)⟩) hb;have ζ:v.dead=false:=by rw [h4.dead];exact hd
  have ha:=(hm.ok a (.inr ⟨γ,hd,.inl rfl⟩)).2;have ο:=(hm.ok b (.inr ⟨γ,hd,.inr (.inl rfl)⟩)).2;have us:∀x,(T.mat a b v).Us x↔(T.mat a b p).Us x:=λx=>by simp only [T.Us,γ,hd,ζ,h4.us]
  have ς:∀x,(T.mat b a v).Us x↔(T.mat a b p).Us x:=λx=>by
   simp only [T.Us,γ,γ.symm,hd,ζ,h4.us,false_and,M6,ne_eq,Mv,LD];rw [<-Mp,<-Mp,or_comm (a:=x=b)]
  by_cases υ:ρ b< ρ a
  ·have nr:(T.mat b a v).Nr:=⟨⟨γ.symm,ζ⟩,h4.nr⟩
   refine⟨.mat (ρ b) (ρ a) q,.mat b a v,?_,⟨rfl,rfl,h2⟩,⟨ο,ha,H⟩,?_⟩
   ·simp only [T.text,thU,kText,G,Ka υ]
   ·exact⟨rfl,nr,qu (t:=T.mat a b p) h4.uq.nd nr h4.bv (λx=>(ς x).1) hu,h4.bv,ς,λρ tk=>by simp only [thU,h4.ls];exact zE _ _ _,λtk=>by rw [eH,eH,h4.bad],by rw [iO,iO,h4.all],by rw [di,di,h4.most],h4.smp,rfl⟩
  ·have nr:(T.mat a b v).Nr:=⟨⟨γ,ζ⟩,h4.nr⟩
   refine⟨.mat (ρ a) (ρ b) q,.mat a b v,?_,⟨rfl,rfl,h2⟩,⟨ha,ο,H⟩,?_⟩
   ·simp only [T.text,thU,kText,G,JV υ]
   ·exact⟨rfl,nr,qu (t:=T.mat a b p) h4.uq.nd nr h4.bv (λx=>(us x).1) hu,h4.bv,us,λρ tk=>by simp only [thU,h4.ls],λtk=>by rw [eH,eH,h4.bad],by rw [iO,iO,h4.all],by rw [di,di,h4.most],h4.smp,rfl⟩
 | rcv a x p=>
  simp only [T.size]at hn;rw [iV,KZ]at hb;obtain⟨f1,f2⟩:=D3 hb.1;have hm':FR p (aF ρ x (iC tk)) (ch tk (iC tk)):=by
   refine⟨λy hy=>?_,λy z hy I e=>?_⟩
   ·by_cases e:y=x
    ·subst e;simp [aF,ch,f2]
    ·obtain⟨k1,k2⟩:=hm.ok y (.inr ⟨e,hy⟩);simp [aF,e,ch,k1,k2]
   ·by_cases g1:y=x<;>by_cases g2:z=x
    ·rw [g1,g2]
    ·simp only [aF,Ka g1,JV g2]at e;have :=(hm.ok z (.inr ⟨g2,I⟩)).1;rw [<-e,f1]at this;cases this
    ·simp only [aF,JV g1,Ka g2]at e;have :=(hm.ok y (.inr ⟨g1,hy⟩)).1;rw [e,f1]at this;cases this
    ·simp only [aF,JV g1,JV g2]at e;exact hm.inj y z (.inr ⟨g1,hy⟩) (.inr ⟨g2,I⟩) e
  obtain⟨q,v,G,h2,H,h4⟩:=ih p _ _ (by omega) hu.rcv hm' hb.2;have α:∀y,(T.rcv a x v).Us y↔(T.rcv a x p).Us y:=λy=>or_congr_right (and_congr_right λ _=>h4.us y)
  have nr:(T.rcv a x v).Nr:=h4.nr;have μ:(BV (T.rcv a x v)).Nodup:=KF.2 ⟨λhx=>hu.kV (h4.bv x hx),h4.uq.nd⟩;have ε:∀y∈BV (T.rcv a x v),y∈BV (T.rcv a x p):=λy hy=>by
   rcases JX.1 hy with rfl | hy
   ·exact Kl ..
   ·exact JR _ (h4.bv y hy)
  refine⟨.rcv (ρ a) (iC tk) q,.rcv a x v,?_,⟨rfl,λn=>AE.GO (λz I e=>?_) h2 n⟩,⟨(hm.ok a (.inl rfl)).2,f2,H⟩,?_⟩
  ·simp only [T.text,thU,kText,G]
  ·intro hc;have :=(hm.ok z (.inr ⟨e,(h4.us z).1 (h4.nr.ig I)⟩)).1;rw [hc,f1]at this;cases this
  ·exact⟨rfl,nr,qu μ nr ε (λx=>(α x).1) hu,ε,α,λρ tk=>by simp only [thU,h4.ls],λtk=>by rw [iV,iV,h4.bad],by rw [pt,pt,h4.all],by rw [eJ,eJ,h4.most],h4.smp,rfl⟩
 | sum p q=>
  simp only [T.size]at hn;obtain⟨hd1,hd2⟩:p.dead=false/\q.dead=false:=ξ;have eS:aw (T.sum p q)=aw p++aw q:=rfl;have φ:∀u∈aw (T.sum p q),u.size<=n:=λu Z=>by
   rw [eS]at Z;rcases JN.1 Z with h | h
   ·have :=lY p u h;omega
   ·have :=lY q u h;omega
  have χ:∀u∈aw (T.sum p q),dk u tk=false:=by
   rw [(e8 (w:=T.sum p q) rfl ρ tk).2]at hb;simp only [thBad,LW,wF]at hb;simpa [List.any_eq_false]using hb
  obtain⟨zs,z1,z2⟩:=triples (R:=λu=>EN u ρ tk) (l:=aw (T.sum p q)) λu Z=>
   ih u ρ tk (φ u Z) (vQ hu u Z) (hm.sub λy hy=>(lU _ hu y).2 ⟨u,Z,hy⟩) (χ u Z)
  obtain⟨J,y1,y2⟩:=uK zs λz=>z.2.1.text
  have W:(J.map (·.1)).Perm (aw (T.sum p q)):=z1▸y1.map _;have I:∀z∈J,EN z.1 ρ tk z.2.1 z.2.2:=λz I=>z2 z (y1.subset I)
  have V:∀z∈J,z.1∈aw (T.sum p q):=λz I=>W.subset (K9 I)
  have hlen:2<=J.length:=by
   have l1:(aw p).length≠0:=λe=>od hd1 hu.dX (J6 e)
   have l2:(aw q).length≠0:=λe=>od hd2 hu.dJ (J6 e)
   have :=W.length_eq;rw [JY,eS,JJ]at this;omega
  have η:J≠[]:=λe=>by rw [e]at hlen;simp at hlen
  have δ:(T.dC (J.map (·.2.2))).isS=true/\(T.dC (J.map (·.2.2))).th=true/\(T.dC (J.map (·.2.2))).tg=4:=by
   match J,hlen with
   | a::b::l,_=>exact⟨rfl,rfl,rfl⟩
   | [a],h=>simp at h
   | [],h=>simp at h
  have ψ:∀v∈J.map (·.2.2),v.dead=false/\v.isS=false/\v.Nr:=λv hv=>by
   obtain⟨z,G,rfl⟩:=Kk.1 hv;have ha:=(I z G).2.2.2;refine⟨?_,ha.isS (Bn _ hu z.1 (V z G)),ha.nr⟩;rw [ha.dead];cases hd:z.1.dead with
   | false=>rfl
   | true=>
    have hcp:∀u:U,∀t∈aw u,t.dead=false:=Cd;exact absurd (hcp _ _ (V z G)) (by rw [hd];simp)
  have θ:=(T.Ab (l:=J.map (·.2.2)) (by simpa using η) ψ)
  have ε:∀x∈BV (T.dC (J.map (·.2.2))),x∈BV (T.sum p q):=λx hx=>by
   rw [vy]at hx;obtain⟨v,G,h2⟩:=Kv.1 hx;obtain⟨z,H,rfl⟩:=Kk.1 G;exact wZ _ z.1 (V z H) x ((I z H).2.2.2.bv x h2)
  have α:∀x,(T.dC (J.map (·.2.2))).Us x↔(T.sum p q).Us x:=λx=>by
   rw [T.Am,lU _ hu];constructor
   ·rintro⟨v,G,h2⟩
    obtain⟨z,H,rfl⟩:=Kk.1 G;exact⟨z.1,V z H,((I z H).2.2.2.us x).1 h2⟩
   ·rintro⟨u,G,h2⟩
    obtain⟨z,H,rfl⟩:=Kk.1 (W.symm.subset G);exact⟨_,K9 H,((I z H).2.2.2.us x).2 h2⟩
  have μ:(BV (T.dC (J.map (·.2.2)))).Nodup:=by
   rw [vy,MI];refine qe (f:=λz=>BV z.1) ?_ λz h=>⟨(I z h).2.2.2.uq.nd,(I z h).2.2.2.bv⟩
   have hp:=(W.flatMap_right BV)
   rw [MI]at hp;exact hp.nodup_iff.2 (Dh _ hu)
  have ω:=qu μ θ.1 ε (λx=>(α x).1) hu;have ι:aw (T.dC (J.map (·.2.2)))=J.map (·.2.2):=by
   rw [en ω θ.1 θ.2,T.yB (by simpa using η) λt ht=>(ψ t ht).2.1]
  have ν:∀{β:Type} (g:U->β),(∀z∈J,g z.2.2=g z.1)->((J.map (·.2.2)).map g).Perm ((aw (T.sum p q)).map g):=λg hg=>by
   have e:(J.map (·.2.2)).map g=(J.map (·.1)).map g:=by
    rw [Li,Li];exact KU hg
   rw [e];exact W.map g
  refine⟨T.dC (J.map (·.2.1)),T.dC (J.map (·.2.2)),?_,AE.dC λz h=>(I z h).2.1,Ad λt ht=>?_,?_⟩
  ·rw [T.uR (by simpa using η),Li,(e8 (w:=T.sum p q) rfl ρ tk).1];have e:J.map (T.text∘λz=>z.2.1)=aX (zs.map λz=>z.2.1.text):=y2;rw [e]
   congr 2
   rw [<-z1,Li];exact KU λz h=>(z2 z h).1
  ·obtain⟨z,G,rfl⟩:=Kk.1 ht;exact(I z G).2.2.1
  ·refine⟨δ.2.1,θ.1,ω,ε,α,λρ tk=>?_,λtk=>?_,?_,?_,λhs=>?_,δ.2.2⟩
   ·rw [(e8 δ.1 ρ tk).1,(e8 (w:=T.sum p q) rfl ρ tk).1,ι]
    congr 1
    exact kP (ν _ λz h=>(I z h).2.2.2.ls ρ tk)
   ·rw [(e8 δ.1 ρ tk).2,(e8 (w:=T.sum p q) rfl ρ tk).2,ι];simp only [thBad,LW,wF];have G:=xk (f:=λb:Bool=>b) (ν (λu=>dk u tk) λz h=>(I z h).2.2.2.bad tk);simpa [List.any_map,Function.comp_def]using G
   ·rw [(e8 δ.1 ρ tk).2,(e8 (w:=T.sum p q) rfl ρ tk).2,ι];simp only [thAll,Ma,CR];exact iN (ν cL λz h=>(I z h).2.2.2.all)
   ·rw [(e8 δ.1 ρ tk).2,(e8 (w:=T.sum p q) rfl ρ tk).2,ι];refine A0 λk=>?_
    simp only [ax,Nat.max_zero,wN];constructor
    ·intro h u Z;obtain⟨z,H,rfl⟩:=Kk.1 (W.symm.subset Z);rw [<-(I z H).2.2.2.most];exact h _ (K9 H)
    ·intro h v hv;obtain⟨z,H,rfl⟩:=Kk.1 hv;rw [(I z H).2.2.2.most];exact h _ (V z H)
   ·have hg:=wI (T.sum p q) rfl hs;refine(C8 (by simpa using η) λt ht=>?_).1;obtain⟨z,G,rfl⟩:=Kk.1 ht;have ha:=(I z G).2.2.2;have hgz:=hg z.1 (V z G);refine⟨ha.smp (Dl _ hs z.1 (V z G)),?_⟩;rw [T.xU,ha.tg z.1 hgz.2,JD];rcases hgz.1 with h | h | h<;>omega
theorem oM {u:U}(hu:Uq u)(hd:u.dead=true):(∀ρ tk,LS u ρ tk=[48])/\(∀tk,dk u tk=false)/\cL u=0/\bg u=0:=by
 have z:=mg hd;have G:(td u).1=[]:=by
  have :=(fL u hu).2.1;rw [dh u hu hd]at this;exact this.eq_nil
 refine⟨λρ tk=>?_,λtk=>?_,?_,?_⟩
 ·simp [LS,aR,z,thS]
 ·simp [dk,fv,z,Lv.isNil]
 ·simp [cL,z,G,thAll]
 ·simp [bg,z,G,ax]
theorem arr:∀(n:Nat) (u:U) (ρ:Rh) (tk:Tk),u.size<=n->Uq u->FR u ρ tk->dk u tk=false->∃t v,EN u ρ tk t v:=by
 intro n
 induction n with
 | zero=>intro u ρ tk h;cases u<;>simp [T.size]at h
 | succ n ih=>
  intro u ρ tk hn hu hm hb;cases hd:u.dead with
  | true=>
   obtain⟨d1,d2,d3,d4⟩:=oM hu hd;have χ:Uq .nil:=⟨K5,λx h=>by cases h⟩
   obtain⟨e1,e2,e3,e4⟩:=oM χ rfl;refine⟨.nil,.nil,by rw [d1];rfl,trivial,trivial,trivial,χ,λx h=>(by cases h),λx=>⟨λh=>h.elim,λh=>absurd h (T.bF hd)⟩,λρ tk=>by rw [d1,e1],λtk=>by rw [d2,e2],by rw [d3,e3],by rw [d4,e4],hd.symm,λ _=>rfl,λt V=>?_,λ _=>rfl⟩;rw [dh u hu hd]at V;cases V
  | false=>
   have ψ:=vz hd hu;obtain⟨g1,g2,_⟩:=fL u hu;have hlen:(td u).1.length=(ak u).1.length:=g2.length_eq;have ω:(td u).2.isNil=false:=by rw [dF,hd]
   simp only [dk,fv,ω,Bool.not_false,Ln,KZ,hlen]at hb;obtain⟨hb1,δ⟩:=hb;rw [g1,tr]at δ;have δ:∀t∈(ak u).2,thBad (tl [t]) (addK (lets (ak u).1.length tk) tk)=false:=by simpa [List.any_eq_false]using δ
   obtain⟨l1,l2⟩:=uW _ tk hb1;have hls:=fy (ak u).1.length tk;generalize hl:lets (ak u).1.length tk=ls at*;have hLS:LS u ρ tk=wrap ls (bH ((perms (ak u).1).map λπ=>joinS 38 (aX ((ak u).2.map λt=>thU t (asg π ls ρ) (addK ls tk))))):=by
    rw [wM hu];unfold aR;rw [JV (by simpa using ψ)];show wrap (lets _ tk) (bH (List.map (λπ=>joinS 38 (aX ((ak u).2.map λt=>thU t (asg π (lets _ tk) ρ) (addK (lets _ tk) tk)))) _))=_;rw [hl]
   obtain⟨hmem,_⟩:=cG (l:=(perms (ak u).1).map λπ=>joinS 38 (aX ((ak u).2.map λt=>thU t (asg π ls ρ) (addK ls tk)))) (by simpa using oO _);obtain⟨π,G,μ⟩:=Kk.1 hmem;have G:=(cW _ π).1 G;have α:π.length=ls.length:=by rw [G.length_eq,hls]
   have ν:=FX u hu;have η:π.Nodup:=G.nodup_iff.2 (Kh.1 ν).1;have hmt:∀t∈(ak u).2,FR t (asg π ls ρ) (addK ls tk):=by
    intro t V;have ξ:∀y,t.Us y->y∈π\/(y∉π/\u.Us y):=λy hy=>by
     by_cases hp:y∈π
     ·exact .inl hp
     ·exact .inr ⟨hp,(kN u hu t V y hy).resolve_right λh=>hp (G.symm.subset h)⟩
    refine⟨λy hy=>?_,λy z hy I e=>?_⟩
    ·rw [vh];rcases ξ y hy with h | ⟨h,h'⟩
     ·have :=e9 π ls ρ y h α;exact⟨by simp [this],(l2 _ this).2⟩
     ·rw [bN π ls ρ y h];exact⟨by simp [(hm.ok y h').1],(hm.ok y h').2⟩
    ·rcases ξ y hy with h | ⟨h,h'⟩<;>rcases ξ z I with k | ⟨k,k'⟩
     ·exact wj π ls ρ y z h k α l1 e
     ·rw [bN π ls ρ z k]at e;have :=(l2 _ (e9 π ls ρ y h α)).1;rw [e,(hm.ok z k').1]at this;cases this
     ·rw [bN π ls ρ y h]at e;have :=(l2 _ (e9 π ls ρ z k α)).1;rw [<-e,(hm.ok y h').1]at this;cases this
     ·rw [bN π ls ρ y h,bN π ls ρ z k]at e;exact hm.inj y z h' k' e
   obtain⟨zs,z1,z2⟩:=triples (R:=λu=>Cu u (asg π ls ρ) (addK ls tk)) (l:=(ak u).2) λt V=>
    Jd ih (by have :=zd u t V;omega) (D9 hu t V) (vA u t V) (tj u t V).1 (tj u t V).2 (hmt t V) (δ t V)
   obtain⟨J,y1,y2⟩:=uK zs λz=>z.2.1.text
   have H:(J.map (·.1)).Perm (ak u).2:=z1▸y1.map _;have I:∀z∈J,Cu z.1 (asg π ls ρ) (addK ls tk) z.2.1 z.2.2:=λz I=>z2 z (y1.subset I)
   have W:∀z∈J,z.1∈(ak u).2:=λz I=>H.subset (K9 I)
   have γ:J≠[]:=λe=>ψ (by have :=H;rw [e]at this;exact this.symm.eq_nil)
   have ε:∀w∈J.map (·.2.2),w.th=true/\w.Nr:=λw hw=>by
    obtain⟨z,Z,rfl⟩:=Kk.1 hw;exact⟨(I z Z).2.2.2.th,(I z Z).2.2.2.nr⟩
   have θ:∀x,(T.parL (J.map (·.2.2))).Us x↔∃t∈(ak u).2,t.Us x:=λx=>by
    rw [T.rm];constructor
    ·rintro⟨v,Z,h2⟩
     obtain⟨z,h3,rfl⟩:=Kk.1 Z;exact⟨z.1,W z h3,((I z h3).2.2.2.us x).1 h2⟩
    ·rintro⟨u',Z,h2⟩
     obtain⟨z,h3,rfl⟩:=Kk.1 (H.symm.subset Z);exact⟨_,K9 h3,((I z h3).2.2.2.us x).2 h2⟩
   have ι:=T.AO ε;have ο:(T.resL π (T.parL (J.map (·.2.2)))).Nr:=T.AZ ι.1 η λx hx=>(θ x).2 (xK u hu x (G.subset hx))
   have ς:∀x,(T.resL π (T.parL (J.map (·.2.2)))).Us x↔u.Us x:=λx=>by
    rw [T.jV,θ];constructor
    ·rintro⟨Z,t,h2,h3⟩
     exact(kN u hu t h2 x h3).resolve_right λh=>Z (G.symm.subset h)
    ·intro h;exact⟨λhx=>hu.nf x (iz u x (G.subset hx)) (T.bC h),Dw u x h⟩
   have hbv:∀x∈BV (T.resL π (T.parL (J.map (·.2.2)))),x∈BV u:=λx hx=>by
    rw [gb,fX]at hx;rcases JN.1 hx with hx | hx
    ·exact iz u x (G.subset hx)
    ·obtain⟨v,Z,h2⟩:=Kv.1 hx;obtain⟨z,h3,rfl⟩:=Kk.1 Z;exact AW _ z.1 (W z h3) x ((I z h3).2.2.2.bv x h2)
   have hndv:(BV (T.resL π (T.parL (J.map (·.2.2))))).Nodup:=by
    rw [gb,fX,MI];have hp:=(H.flatMap_right BV)
    rw [MI]at hp;have hnd':(J.flatMap λz=>BV z.1).Nodup:=hp.nodup_iff.2 (Kh.1 ν).2.1;refine Kh.2 ⟨η,qe (f:=λz=>BV z.1) hnd' λz h=>⟨(I z h).2.2.2.uq.nd,(I z h).2.2.2.bv⟩,λa ha b hb=>?_⟩;obtain⟨z,Z,h2⟩:=Kv.1 hb;exact(Kh.1 ν).2.2 a (G.subset ha) b (Kv.2 ⟨z.1,W z Z,(I z Z).2.2.2.bv b h2⟩)
   have ζ:=qu hndv ο hbv (λx=>(ς x).1) hu;have κ:ak (T.resL π (T.parL (J.map (·.2.2))))=(π,J.map (·.2.2)):=by
    rw [zF ζ ο,T.xf,T.xD,T.yC λt V=>(ε t V).1,T.Eu λt V=>(ε t V).1,Kb]
   have υ:∀{β:Type} (g:U->β),(∀z∈J,g z.2.2=g z.1)->((J.map (·.2.2)).map g).Perm ((ak u).2.map g):=λg hg=>by
    have e:(J.map (·.2.2)).map g=(J.map (·.1)).map g:=by
     rw [Li,Li];exact KU hg
    rw [e];exact H.map g
   obtain⟨k1,k2,_⟩:=fL _ ζ;rw [κ]at k1 k2;have hdv:(T.resL π (T.parL (J.map (·.2.2)))).dead=false:=by
    rw [ky,k1]
    match J,γ,ε with
    | z::l,_,h=>
     have :=(h z.2.2 (by simp)).1;intro hh;revert hh this;simp only [J9];cases z.2.2<;>simp [tl,Lv.len,T.th]
   have φ:(td (T.resL π (T.parL (J.map (·.2.2))))).1.length=(td u).1.length:=by rw [k2.length_eq,G.length_eq,hlen]
   refine⟨T.resL ls (T.parL (J.map (·.2.1))),T.resL π (T.parL (J.map (·.2.2))),?_,?_,?_,ο,ζ,hbv,ς,λρ tk=>?_,λtk=>?_,?_,?_,by rw [hdv,hd],λhs=>?_,λt V=>?_,λhns=>?_⟩
   ·rw [T.px,hLS,<-μ,T.pj (by simpa using γ),Li];have e:J.map (T.text∘λz=>z.2.1)=aX (zs.map λz=>z.2.1.text):=y2;rw [e,<-z1,Li]
    congr 3
    exact KU λz h=>(z2 z h).1
   ·refine AE.CM π ls ρ α l1 (λz hz' hzp hc=>?_) (AE.parL λz h=>(I z h).2.1);have hzu:u.Us z:=(ς z).1 (T.jV.2 ⟨hzp,ι.1.ig hz'⟩);have :=(l2 _ hc).1;rw [(hm.ok z hzu).1]at this;cases this
   ·refine AM (AV λt V=>?_) λc hc=>(l2 c hc).2
    obtain⟨z,Z,rfl⟩:=Kk.1 V;exact(I z Z).2.2.1
   ·rw [wM ζ,wM hu,κ];exact kO G (λρ tk=>υ (λt=>thU t ρ tk) λz h=>(I z h).2.2.2.tx ρ tk) ρ tk
   ·unfold dk fv;rw [φ,dF,dF,hdv,hd,k1,g1]
    congr 2
    rw [tr,tr];have Z:=xk (f:=λb:Bool=>b) (υ (λt=>thBad (tl [t]) (addK (lets (td u).1.length tk) tk)) λz h=>(I z h).2.2.2.bad _);simpa [List.any_map,Function.comp_def]using Z
   ·unfold cL;rw [φ,k1,g1,yR,yR (ak u).2]
    congr 1
    exact iN (υ (λt=>thAll (tl [t])) λz h=>(I z h).2.2.2.all)
   ·unfold bg;rw [φ,k1,g1]
    congr 1
    refine A0 λk=>?_
    rw [rb,rb];constructor
    ·intro h t V;obtain⟨z,h3,rfl⟩:=Kk.1 (H.symm.subset V);rw [<-(I z h3).2.2.2.most];exact h _ (K9 h3)
    ·intro h v hv;obtain⟨z,h3,rfl⟩:=Kk.1 hv;rw [(I z h3).2.2.2.most];exact h _ (W z h3)
   ·rw [sf];refine sD λt V=>?_
    obtain⟨z,Z,rfl⟩:=Kk.1 V;exact(I z Z).2.2.2.smp (FB u hs z.1 (W z Z))
   ·rw [V]at G H;have e1:π=[]:=G.eq_nil;have e2:=H.length_eq;rw [JY]at e2
    match J,e2,H,I with
    | [z],_,hs,I=>
     have:z.1=t:=by simpa using hs
     subst this;rw [e1];exact(I z (by simp)).2.2.2.tg
   ·cases hp:π with
    | cons x l=>rfl
    | nil=>
     rw [hp]at G;have e0:(ak u).1=[]:=G.symm.eq_nil
     match J,γ,H,I with
     | [z],_,hs,I=>
      have e1:(ak u).2=[z.1]:=by
       have :=List.perm_singleton.1 hs.symm;simpa using this
      show z.2.2.isS=false;have htg:=(I z (by simp)).2.2.2.tg;rw [T.C6,htg,<-T.C6];cases hz1:z.1<;>first | rfl | skip
      rename_i p q;exact absurd (Prod.ext e0 (by rw [e1,hz1])) (hns p q)
     | z::y::l,_,_,_=>rfl
def num:P->(UInt8->Nat)->Nat->U×Nat
 | .nil,_,n=>(.nil,n)
 | .snd a b p,e,n=>(.snd (e a) (e b) (num p e n).1,(num p e n).2)
 | .rcv a x p,e,n=>(.rcv (e a) (n+101) (num p (aF e x (n+101)) (n+1)).1,(num p (aF e x (n+101)) (n+1)).2)
 | .tau p,e,n=>(.tau (num p e n).1,(num p e n).2)
 | .sum p q,e,n=>(.sum (num p e n).1 (num q e (num p e n).2).1,(num q e (num p e n).2).2)
 | .par p q,e,n=>(.par (num p e n).1 (num q e (num p e n).2).1,(num q e (num p e n).2).2)
 | .res x p,e,n=>(.res (n+101) (num p (aF e x (n+101)) (n+1)).1,(num p (aF e x (n+101)) (n+1)).2)
 | .mat a b p,e,n=>(.mat (e a) (e b) (num p e n).1,(num p e n).2)
 | .rep p,e,n=>(.rep (num p e n).1,(num p e n).2)
theorem cX:∀(p:P) (e:UInt8->Nat) (n:Nat),n<=(num p e n).2
 | .nil,_,_=>JL _
 | .snd _ _ p,e,n=>cX p e n
 | .mat _ _ p,e,n=>cX p e n
 | .tau p,e,n=>cX p e n
 | .rep p,e,n=>cX p e n
 | .rcv _ x p,e,n=>by have :=cX p (aF e x (n+101)) (n+1);simp only [num];omega
 | .res x p,e,n=>by have :=cX p (aF e x (n+101)) (n+1);simp only [num];omega
 | .sum p q,e,n=>by have :=cX p e n;have :=cX q e (num p e n).2;simp only [num];omega
 | .par p q,e,n=>by have :=cX p e n;have :=cX q e (num p e n).2;simp only [num];omega
theorem AE.GJ {p:P}{u:U}{e:UInt8->Nat}{x:UInt8}{y:Nat}(he:∀c,p.Fr c->c≠x->e c≠y)(h:AE (aF e x y) p id u)(v:Nat):AE (aF e x v) p (aF id y v) u:=by
 refine(h.map λn=>if n=y then v else n).congr (λc H=>?_) λz _=>?_
 ·unfold aF;by_cases G:c=x
  ·simp [G]
  ·simp only [JV G];rw [JV (he c H G)]
 ·unfold aF;rfl
theorem fK:∀(p:P) (e:UInt8->Nat) (n:Nat),(∀c,p.Fr c->e c<=n+100)->AE e p id (num p e n).1
 | .nil,_,_,_=>trivial
 | .snd a b p,e,n,h=>⟨rfl,rfl,fK p e n λc z=>h c (.inr (.inr z))⟩
 | .mat a b p,e,n,h=>⟨rfl,rfl,fK p e n λc z=>h c (.inr (.inr z))⟩
 | .tau p,e,n,h=>fK p e n h
 | .rep p,e,n,h=>fK p e n h
 | .sum p q,e,n,h=>⟨fK p e n λc z=>h c (.inl z),fK q e _ λc z=>by have :=h c (.inr z);have :=cX p e n;omega⟩
 | .par p q,e,n,h=>⟨fK p e n λc z=>h c (.inl z),fK q e _ λc z=>by have :=h c (.inr z);have :=cX p e n;omega⟩
 | .rcv a x p,e,n,h=>⟨rfl,λv=>AE.GJ (λc z G=>by have :=h c (.inr ⟨G,z⟩);omega) (fK p _ _ λc z=>by
   unfold aF;split
   ·omega
   ·rename_i G;have :=h c (.inr ⟨G,z⟩);omega) v⟩
 | .res x p,e,n,h=>λv=>AE.GJ (λc z G=>by have :=h c ⟨G,z⟩;omega) (fK p _ _ λc z=>by
   unfold aF;split
   ·omega
   ·rename_i G;have :=h c ⟨G,z⟩;omega) v
theorem eO:∀(p:P) (e:UInt8->Nat) (n:Nat),(BV (num p e n).1).Nodup/\∀x∈BV (num p e n).1,n+100< x/\x<=(num p e n).2+100
 | .nil,_,_=>⟨K5,λx h=>by cases h⟩
 | .snd _ _ p,e,n=>eO p e n
 | .mat _ _ p,e,n=>eO p e n
 | .tau p,e,n=>eO p e n
 | .rep p,e,n=>eO p e n
 | .rcv _ x p,e,n=>by
  obtain⟨H,G⟩:=eO p (aF e x (n+101)) (n+1);have :=cX p (aF e x (n+101)) (n+1);refine⟨KF.2 ⟨λh=>by have :=G _ h;omega,H⟩,λy z=>?_⟩;simp only [num];rcases JX.1 z with rfl | z
  ·omega
  ·have :=G y z;omega
 | .res x p,e,n=>by
  obtain⟨H,G⟩:=eO p (aF e x (n+101)) (n+1);have :=cX p (aF e x (n+101)) (n+1);refine⟨KF.2 ⟨λh=>by have :=G _ h;omega,H⟩,λy z=>?_⟩;simp only [num];rcases JX.1 z with rfl | z
  ·omega
  ·have :=G y z;omega
 | .sum p q,e,n=>by
  obtain⟨H,G⟩:=eO p e n;obtain⟨I,h4⟩:=eO q e (num p e n).2;have :=cX p e n;have :=cX q e (num p e n).2;refine⟨Kh.2 ⟨H,I,λa ha b hb=>by have :=G a ha;have :=h4 b hb;omega⟩,λy z=>?_⟩;simp only [num];rcases JN.1 z with z | z
  ·have :=G y z;omega
  ·have :=h4 y z;omega
 | .par p q,e,n=>by
  obtain⟨H,G⟩:=eO p e n;obtain⟨I,h4⟩:=eO q e (num p e n).2;have :=cX p e n;have :=cX q e (num p e n).2;refine⟨Kh.2 ⟨H,I,λa ha b hb=>by have :=G a ha;have :=h4 b hb;omega⟩,λy z=>?_⟩;simp only [num];rcases JN.1 z with z | z
  ·have :=G y z;omega
  ·have :=h4 y z;omega
theorem HA (p:P)(e:UInt8->Nat)(n:Nat)(h:∀c,p.Fr c->e c<=n+100):Uq (num p e n).1:=by
 obtain⟨z,G⟩:=eO p e n;refine⟨z,λx H I=>?_⟩;obtain⟨c,J,V⟩:=(fK p e n h).symm.free x I;have W:=G x H;have h4:=h c J;have h5:e c=x:=V;omega
def e0 (c:UInt8):Nat:=c.toNat - 97
def σ0 (y:Nat):Nat:=y+97
def ρ0 (y:Nat):UInt8:=UInt8.ofNat (97+y)
theorem bc {c:UInt8}(h:lt c=true):97<=c.toNat/\c.toNat<=122:=by
 simp only [lt,JF,JD]at h;exact⟨JZ.1 h.1,JZ.1 h.2⟩
theorem nU {c:UInt8}(h:97<=c.toNat/\c.toNat<=122):lt c=true:=by
 simp only [lt,JF,JD];exact⟨JZ.2 h.1,JZ.2 h.2⟩
theorem eV {y:Nat}(h:y< 26):(ρ0 y).toNat=σ0 y:=by
 unfold ρ0 σ0;rw [KJ];omega
theorem rB {p:P}(h:∀c,p.Fr c->lt c=true):AE UInt8.toNat p σ0 (num p e0 0).1/\Uq (num p e0 0).1/\(∀y,(num p e0 0).1.Fr y->y< 26)/\∀x∈BV (num p e0 0).1,26<=x:=by
 have he:∀c,p.Fr c->e0 c<=0+100:=λc z=>by have :=bc (h c z);unfold e0;omega
 have ha:=fK p e0 0 he;refine⟨(ha.map (·+97)).congr (λc z=>?_) λy _=>rfl,HA p e0 0 he,λy G=>?_,λx H=>?_⟩
 ·have :=bc (h c z);unfold e0;omega
 ·obtain⟨c,z,e⟩:=ha.symm.free y G;have :=bc (h c z);have e:e0 c=y:=e;unfold e0 at e;omega
 ·have :=(eO p e0 0).2 x H;omega
theorem im {c:UInt8}(h:lt c=true):nm c=true:=by
 simp only [lt,nm]at*;rw [h];rfl
theorem sS {c:UInt8}(h:lt c=true):ngr c:=by
 have :=bc h;right;omega
def cZ (s:Tx):Prop:=s.length<=300/\∃t:P,t.Al (λc=>lt c=true)/\t.text=s/\t.size<=60
def kv (l:Lv):Tk:=λc=>lt c&&l.has (e0 c)
noncomputable def zm (r:List Nat×Lv):Option Tx:=
 if(max r.1.length (ax r.2)<=5/\r.1.length+thAll r.2<=8)/\fv r.1.length r.2.isNil (thBad r.2) (kv r.2)=false/\cZ (aR r.1 (thS r.2) ρ0 (kv r.2))then some (aR r.1 (thS r.2) ρ0 (kv r.2))else none
noncomputable def jY (u:U):Option Tx:=zm (td u)
theorem ic (u:U):jY u=if(bg u<=5/\cL u<=8)/\dk u (kv (td u).2)=false/\cZ (LS u ρ0 (kv (td u).2))then some (LS u ρ0 (kv (td u).2))else none:=rfl
structure Nu (u:U):Prop where
 uq:Uq u
 fr:∀y,u.Us y->y< 26
 bv:∀x∈BV u,26<=x
theorem pH {u:U}(h:Nu u)(c:UInt8):kv (td u).2 c=true↔lt c=true/\u.Us (e0 c):=by
 unfold kv;rw [JF];refine and_congr_right λz=>fM u _ λhb=>?_
 have :=h.bv _ hb;have :=bc z;unfold e0 at*;omega
theorem Nu.Jq {u:U}(h:Nu u):FR u ρ0 (kv (td u).2):=by
 refine⟨λy G=>?_,λy z G V e=>?_⟩
 ·have H:=h.fr y G;have I:=eV H;have J:lt (ρ0 y)=true:=nU (by rw [I];unfold σ0;omega);refine⟨(pH h _).2 ⟨J,?_⟩,J⟩;have:e0 (ρ0 y)=y:=by unfold e0;rw [I];unfold σ0;omega
  rw [this];exact G
 ·have H:=eV (h.fr y G);have I:=eV (h.fr z V);rw [e,I]at H;unfold σ0 at H;omega
structure HF (u:U)(s:Tx)(t:P)(v:U):Prop where
 text:t.text=s
 ls:s=LS u ρ0 (kv (td u).2)
 ae:AE UInt8.toNat t (λy=>(ρ0 y).toNat) v
 al:t.Al λc=>lt c=true
 arr:Jm u v
 len:s.length<=300
 size:t.size<=60
 most:bg u<=5
 all:cL u<=8
 bad:dk u (kv (td u).2)=false
theorem T.Al.wf:∀{t:P},t.Al (λc=>lt c=true)->t.wf=true
 | .nil,_=>rfl
 | .snd a b p,⟨z,G,h⟩=>by simp [T.wf,im z,im G,T.Al.wf h]
 | .rcv a b p,⟨z,G,h⟩=>by simp [T.wf,im z,im G,T.Al.wf h]
 | .mat a b p,⟨z,G,h⟩=>by simp [T.wf,im z,im G,T.Al.wf h]
 | .tau p,h=>T.Al.wf (t:=p) h
 | .rep p,h=>T.Al.wf (t:=p) h
 | .sum p q,⟨z,G⟩=>by simp [T.wf,T.Al.wf z,T.Al.wf G]
 | .par p q,⟨z,G⟩=>by simp [T.wf,T.Al.wf z,T.Al.wf G]
 | .res x p,⟨z,h⟩=>by simp [T.wf,im z,T.Al.wf h]
theorem T.Al.eb:∀{t:P} (k:Nat),t.Al (λc=>lt c=true)->Eb k t
 | .nil,_,_=>trivial
 | .snd a b p,k,⟨G,H,h⟩=>⟨nM G,nM H,T.Al.eb k h⟩
 | .mat a b p,k,⟨G,H,h⟩=>⟨nM G,nM H,T.Al.eb k h⟩
 | .rcv a b p,k,⟨G,H,h⟩=>⟨nM G,⟨sS H,λz I _=>(T.Al.eb k h).free z I⟩,T.Al.eb (k+1) h⟩
 | .tau p,k,h=>T.Al.eb (t:=p) k h
 | .rep p,k,h=>T.Al.eb (t:=p) k h
 | .sum p q,k,⟨G,H⟩=>⟨T.Al.eb k G,T.Al.eb k H⟩
 | .par p q,k,⟨G,H⟩=>⟨T.Al.eb k G,T.Al.eb k H⟩
 | .res x p,k,⟨G,h⟩=>⟨⟨sS G,λz I _=>(T.Al.eb k h).free z I⟩,T.Al.eb (k+1) h⟩
theorem T.Al.free {D:UInt8->Prop}:∀{t:P},t.Al D->∀z,t.Fr z->D z
 | .snd a b p,⟨H,I,h⟩,z,G=>by
  rcases G with rfl | rfl | G
  ·exact H
  ·exact I
  ·exact T.Al.free h z G
 | .mat a b p,⟨H,I,h⟩,z,G=>by
  rcases G with rfl | rfl | G
  ·exact H
  ·exact I
  ·exact T.Al.free h z G
 | .rcv a b p,⟨H,I,h⟩,z,G=>by
  rcases G with rfl | G
  ·exact H
  ·exact T.Al.free h z G.2
 | .res x p,⟨H,h⟩,z,G=>T.Al.free h z G.2
 | .tau p,h,z,G=>T.Al.free (t:=p) h z G
 | .rep p,h,z,G=>T.Al.free (t:=p) h z G
 | .sum p q,⟨H,I⟩,z,G=>G.elim (T.Al.free H z) (T.Al.free I z)
 | .par p q,⟨H,I⟩,z,G=>G.elim (T.Al.free H z) (T.Al.free I z)
theorem Cw {u:U}(h:Nu u){s:Tx}(z:jY u=some s):∃t v,HF u s t v:=by
 rw [ic]at z;split at z
 ·rename_i J;obtain⟨⟨V,W⟩,G,h4,Z,h5,h6,h7⟩:=J;cases z;obtain⟨t,v,H,k2,I,k4⟩:=arr u.size u ρ0 _ (JL _) h.uq h.Jq G;have:t=Z:=eu I.wf h5.wf (H.trans h6.symm);subst this;exact⟨t,v,H,rfl,k2,I,k4,h4,h7,V,W,G⟩
 ·cases z
end Go.Proofs.YtdecokaadekjnaaGreat
namespace Go.Proofs.YtdecokaadekjnaaGreat
open Go Go.RowKit
structure Rd (w:World)(r:Nat)(s:Tx)(i:Nat)(bad:Bool):Prop where
 lt:r< w.heap.size
 le:i<=s.length
 c0:w.cell? ⟨r,0,none⟩=some (.string (ab s))
 c1:w.cell? ⟨r,1,none⟩=some (.int .i64 i)
 c2:w.cell? ⟨r,2,none⟩=some (.bool bad)
 f1:w.frozen? ⟨r,1,none⟩=false
 f2:w.frozen? ⟨r,2,none⟩=false
theorem Rd.same {w w':World}{r:Nat}{s:Tx}{i:Nat}{bad:Bool}(h:Rd w r s i bad)(J:w.heap.size<=w'.heap.size)(hb:w'.heap[r]?=w.heap[r]?):Rd w' r s i bad:=by
 obtain⟨V,z,G,h4,h5,H,I⟩:=h;refine⟨by omega,z,?_,?_,?_,?_,?_⟩
 ·rw [JB (w:=w) hb];exact G
 ·rw [JB (w:=w) hb];exact h4
 ·rw [JB (w:=w) hb];exact h5
 ·rw [J8 (w:=w) hb];exact H
 ·rw [J8 (w:=w) hb];exact I
theorem Rd.setAt {w:World}{r:Nat}{s:Tx}{i j:Nat}{bad:Bool}(h:Rd w r s i bad)(z:j<=s.length):Rd (w.setCell ⟨r,1,none⟩ (.int .i64 j)) r s j bad:=
 ⟨by rw [Ki];exact h.lt,z,by rw [JH _ _ _ _ (by simp)];exact h.c0,JT _ _ _ h.c1,by rw [JH _ _ _ _ (by simp)];exact h.c2,by rw [JU];exact h.f1,by rw [JU];exact h.f2⟩
theorem Rd.wm {w:World}{r:Nat}{s:Tx}{i:Nat}{bad:Bool}(h:Rd w r s i bad):Rd (w.setCell ⟨r,2,none⟩ (.bool true)) r s i true:=
 ⟨by rw [Ki];exact h.lt,h.le,by rw [JH _ _ _ _ (by simp)];exact h.c0,by rw [JH _ _ _ _ (by simp)];exact h.c1,JT _ _ _ h.c2,by rw [JU];exact h.f1,by rw [JU];exact h.f2⟩
abbrev Kr (r:Nat)(w w':World):Prop:=Kp w w' λg=>g=r
theorem Kr.refl (r:Nat)(w:World):Kr r w w:=Kp.ah (Ex.refl w) _
theorem Kr.trans {r:Nat}{a b c:World}(h:Kr r a b)(k:Kr r b c):Kr r a c:=Kp.trans h k λ _ _ h=>h
theorem Kr.ex {r:Nat}{w w':World}(h:Ex w w'):Kr r w w':=Kp.ah h _
theorem Kr.set {r:Nat}(w:World)(j:Nat)(v:Value):Kr r w (w.setCell ⟨r,j,none⟩ v):=Kp.set (S:=λg=>g=r) (Kr.refl r w) rfl v
theorem G8 {w:World}{r:Nat}{s:Tx}{i:Nat}{bad:Bool}(hs:s.length<=1099511627776)(h:Rd w r s i bad){R:UInt8->World->Prop}
  (hR:∀w',Kr r w w'->Rd w' r s (if i< s.length then i+1 else i) (bad||decide (s.length<=i))->R (if i< s.length then bt s i else 0) w'):Calls Tryz.prog 207 #[ptr r] w (an [.c] R):=by
 refine mH _ w R ?_;have hle:=h.le;refine⟨λw'=>Ex w w',λw1 J=>⟨J▸Ex.drew w,r,0,rfl,i,λw' G=>(h.same G.size (G.block r h.lt)).c1,r,0,rfl,s,λw' G=>(h.same G.size (G.block r h.lt)).c0,λZ=>?_,λZ=>?_⟩⟩
 ·have z:Ex w w1:=J▸Ex.drew w;have I:=h.same z.size (z.block r h.lt);have Z:=J0 Z;refine⟨r,0,rfl,⟨⟨_,I.c2⟩,I.f2⟩,λw2 H=>?_⟩;subst H;have :=hR _ (Kr.trans (Kr.ex z) (Kr.set w1 2 _)) (by
   rw [JV (by omega),show decide (s.length<=i)=true from KH (by omega),Bool.or_true];exact I.wm)
  rw [JV (by omega)]at this;exact this
 ·have z:Ex w w1:=J▸Ex.drew w;have I:=h.same z.size (z.block r h.lt);have Z:=J1 Z;have α:i< s.length:=by omega
  refine⟨r,0,rfl,i,I.c1,by unfold aj;omega,r,0,rfl,⟨⟨_,I.c1⟩,I.f1⟩,λw2 H=>?_⟩;have e:((i:Int)+1)=((i+1:Nat):Int):=by omega
  rw [e]at H;have W:Rd w2 r s (i+1) bad:=H▸I.setAt (by omega);have k2:Kr r w w2:=H▸Kr.trans (Kr.ex z) (Kr.set w1 1 _);refine⟨λw'=>Ex w2 w',λw3 β=>⟨β▸Ex.drew w2,r,0,rfl,s,λw' G=>(W.same G.size (G.block r W.lt)).c0,r,0,rfl,(i+1:Nat),λw' G=>(W.same G.size (G.block r W.lt)).c1,by unfold aj;omega,⟨by omega,by omega⟩,?_⟩⟩;have V:Ex w2 w3:=β▸Ex.drew w2;have e2:Int.toNat (((i+1:Nat):Int) - 1)=i:=by omega
  rw [e2];have :=hR w3 (Kr.trans k2 (Kr.ex V)) (by
   rw [Ka α,show decide (s.length<=i)=false from KI (by omega),LW];exact W.same V.size (V.block r W.lt))
  rw [Ka α]at this;exact this
theorem sG {c:UInt8}{w:World}{R:Bool->World->Prop}(h:R (lt c) w):Calls Tryz.prog 128 #[.int .u8 c.toNat] w (an [.b] R):=by
 refine pC c w R ?_;unfold lt at h;refine⟨λz=>?_,λz=>?_⟩
 ·rw [z]at h;simpa using h
 ·rw [z]at h;simpa using h
structure Nx (s:Tx)(i:Nat)(bad:Bool)(ok:UInt8->Prop)(c:UInt8)(j:Nat)(bad':Bool):Prop where
 le:i<=j
 fine:bad'=false->bad=false/\i< s.length/\j=i+1/\c=bt s i/\ok c
 good:bad=false->i< s.length->ok (bt s i)->bad'=false
theorem oV {w:World}{r:Nat}{s:Tx}{i:Nat}{bad:Bool}(z:s.length<=1099511627776)(h:Rd w r s i bad){R:UInt8->World->Prop}
  (G:∀c j bad' w',Kr r w w'->Rd w' r s j bad'->Nx s i bad (λ _=>True) c j bad'->R c w'):Calls Tryz.prog 207 #[ptr r] w (an [.c] R):=by
 refine G8 z h λw' k H=>G _ _ _ w' k H ⟨by split<;>omega,λhb=>?_,λhb I _=>?_⟩
 ·simp only [KZ,JE]at hb;rw [Ka (by omega),Ka (by omega)];exact⟨hb.1,by omega,rfl,rfl,trivial⟩
 ·rw [hb,Mc];exact KI (by omega)
theorem wS {w:World}{r:Nat}{s:Tx}{i:Nat}{bad:Bool}(Z:s.length<=1099511627776)(h:Rd w r s i bad){R:UInt8->World->Prop}
  (V:∀c j bad' w',Kr r w w'->Rd w' r s j bad'->Nx s i bad (λc=>lt c=true) c j bad'->R c w'):Calls Tryz.prog 208 #[ptr r] w (an [.c] R):=by
 refine mE _ w R ?_;refine oV Z h λc j bad' w1 W H z=>sG ⟨λG=>?_,λG=>?_⟩
 ·refine⟨r,0,rfl,⟨⟨_,H.c2⟩,H.f2⟩,λw2 I=>?_⟩;subst I;refine V c j true _ (Kr.trans W (Kr.set w1 2 _)) H.wm ⟨z.le,λhb=>(by cases hb),λhb J ho=>?_⟩;obtain⟨_,_,_,e,_⟩:=z.fine (z.good hb J trivial);rw [e]at G;rw [ho]at G;cases G
 ·refine V c j bad' w1 W H ⟨z.le,λhb=>?_,λhb J _=>z.good hb J trivial⟩;obtain⟨a,b,c,d,_⟩:=z.fine hb;exact⟨a,b,c,d,by simpa using G⟩
theorem pU {w:World}{r:Nat}{s:Tx}{i:Nat}{bad:Bool}{c:UInt8}(Z:s.length<=1099511627776)(h:Rd w r s i bad){R:World->Prop}
  (V:∀j bad' w',Kr r w w'->Rd w' r s j bad'->Nx s i bad (λd=>d=c) c j bad'->R w'):Calls Tryz.prog 209 #[ptr r,.int .u8 c.toNat] w (an [] R):=by
 refine mG _ c w R ?_;refine oV Z h λd j bad' w1 W H z=>⟨λG=>?_,λG=>?_⟩
 ·refine⟨r,0,rfl,⟨⟨_,H.c2⟩,H.f2⟩,λw2 I=>?_⟩;subst I;refine V j true _ (Kr.trans W (Kr.set w1 2 _)) H.wm ⟨z.le,λhb=>(by cases hb),λhb J ho=>?_⟩;obtain⟨_,_,_,e,_⟩:=z.fine (z.good hb J trivial);rw [e,ho]at G;simp at G
 ·have G:d=c:=by simpa using G
  subst G;refine V j bad' w1 W H ⟨z.le,λhb=>?_,λhb J _=>z.good hb J trivial⟩;obtain⟨a,b,c,d,_⟩:=z.fine hb;exact⟨a,b,c,d,rfl⟩
structure Nd (w:World)(b:Nat)(k a c:UInt8)(vs:Value):Prop where
 lt:b< w.heap.size
 c0:w.cell? ⟨b,0,none⟩=some (.int .u8 k.toNat)
 c1:w.cell? ⟨b,1,none⟩=some (.int .u8 a.toNat)
 c2:w.cell? ⟨b,2,none⟩=some (.int .u8 c.toNat)
 c3:w.cell? ⟨b,3,none⟩=some vs
 f:∀j,w.frozen? ⟨b,j,none⟩=false
theorem Nd.same {w w':World}{b:Nat}{k a c:UInt8}{vs:Value}(h:Nd w b k a c vs)(I:w.heap.size<=w'.heap.size)(hb:w'.heap[b]?=w.heap[b]?):Nd w' b k a c vs:=by
 obtain⟨J,z,G,h4,h5,H⟩:=h;refine⟨by omega,?_,?_,?_,?_,λj=>?_⟩
 ·rw [JB (w:=w) hb];exact z
 ·rw [JB (w:=w) hb];exact G
 ·rw [JB (w:=w) hb];exact h4
 ·rw [JB (w:=w) hb];exact h5
 ·rw [J8 (w:=w) hb];exact H j
structure TS (w0 w:World)(r b:Nat)(s:Tx)(i:Nat)(bad:Bool)(k a c:UInt8)(vs:Value):Prop where
 rd:Rd w r s i bad
 nd:Nd w b k a c vs
 kr:Kr r w0 w
 hr:r< w0.heap.size
 hb:w0.heap.size<=b
section
variable {w0 w w':World} {r b:Nat} {s:Tx} {i j:Nat} {bad bad':Bool} {k a c x:UInt8} {vs:Value}
theorem TS.go (h:TS w0 w r b s i bad k a c vs)(kr:Kr r w w')(hr:Rd w' r s j bad'):TS w0 w' r b s j bad' k a c vs:=by
 have :=h.hr;have :=h.hb;exact⟨hr,h.nd.same kr.size (kr.block b h.nd.lt (by omega)),Kr.trans h.kr kr,h.hr,h.hb⟩
theorem TS.ex (h:TS w0 w r b s i bad k a c vs)(z:Ex w w'):TS w0 w' r b s i bad k a c vs:=h.go (Kr.ex z) (h.rd.same z.size (z.block r h.rd.lt))
theorem TS.rC (h:TS w0 w r b s i bad k a c vs)(j:Nat)(v:Value):Rd (w.setCell ⟨b,j,none⟩ v) r s i bad/\Kr r w0 (w.setCell ⟨b,j,none⟩ v):=by
 have H:=h.hr;have I:=h.hb;refine⟨h.rd.same (by rw [Ki];exact JL _) (L6 _ _ _ _ (show r≠b by omega)),⟨h.kr.os,h.kr.tape,h.kr.output,by rw [Ki];exact h.kr.size,λg z G=>?_⟩⟩;rw [L6 _ _ _ _ (show g≠b by omega)];exact h.kr.block g z G
theorem TS.BD (h:TS w0 w r b s i bad k a c vs)(hw:w'=w.setCell ⟨b,0,none⟩ (.int .u8 x.toNat)):TS w0 w' r b s i bad x a c vs:=by
 subst hw;obtain⟨z,G⟩:=h.rC 0 (.int .u8 x.toNat);exact⟨z,⟨by rw [Ki];exact h.nd.lt,JT _ _ _ h.nd.c0,by rw [JH _ _ _ _ (by simp)];exact h.nd.c1,by rw [JH _ _ _ _ (by simp)];exact h.nd.c2,by rw [JH _ _ _ _ (by simp)];exact h.nd.c3,λj=>by rw [JU];exact h.nd.f j⟩,G,h.hr,h.hb⟩
theorem TS.xG (h:TS w0 w r b s i bad k a c vs)(hw:w'=w.setCell ⟨b,1,none⟩ (.int .u8 x.toNat)):TS w0 w' r b s i bad k x c vs:=by
 subst hw;obtain⟨z,G⟩:=h.rC 1 (.int .u8 x.toNat);exact⟨z,⟨by rw [Ki];exact h.nd.lt,by rw [JH _ _ _ _ (by simp)];exact h.nd.c0,JT _ _ _ h.nd.c1,by rw [JH _ _ _ _ (by simp)];exact h.nd.c2,by rw [JH _ _ _ _ (by simp)];exact h.nd.c3,λj=>by rw [JU];exact h.nd.f j⟩,G,h.hr,h.hb⟩
theorem TS.rI (h:TS w0 w r b s i bad k a c vs)(hw:w'=w.setCell ⟨b,2,none⟩ (.int .u8 x.toNat)):TS w0 w' r b s i bad k a x vs:=by
 subst hw;obtain⟨z,G⟩:=h.rC 2 (.int .u8 x.toNat);exact⟨z,⟨by rw [Ki];exact h.nd.lt,by rw [JH _ _ _ _ (by simp)];exact h.nd.c0,by rw [JH _ _ _ _ (by simp)];exact h.nd.c1,JT _ _ _ h.nd.c2,by rw [JH _ _ _ _ (by simp)];exact h.nd.c3,λj=>by rw [JU];exact h.nd.f j⟩,G,h.hr,h.hb⟩
theorem TS.Bw (h:TS w0 w r b s i bad k a c vs){v:Value}(hw:w'=w.setCell ⟨b,3,none⟩ v):TS w0 w' r b s i bad k a c v:=by
 subst hw;obtain⟨z,G⟩:=h.rC 3 v;exact⟨z,⟨by rw [Ki];exact h.nd.lt,by rw [JH _ _ _ _ (by simp)];exact h.nd.c0,by rw [JH _ _ _ _ (by simp)];exact h.nd.c1,by rw [JH _ _ _ _ (by simp)];exact h.nd.c2,JT _ _ _ h.nd.c3,λj=>by rw [JU];exact h.nd.f j⟩,G,h.hr,h.hb⟩
theorem TS.C' (h:TS w0 w r b s i bad k a c vs)(hw:w'=w.setCell ⟨r,2,none⟩ (.bool true)):TS w0 w' r b s i true k a c vs:=by
 subst hw;exact h.go (Kr.set w 2 _) h.rd.wm
theorem TS.cell (h:TS w0 w r b s i bad k a c vs):((∃u:Value,w.cell? ⟨b,0,none⟩=some u)/\w.frozen? ⟨b,0,none⟩=false)/\((∃u:Value,w.cell? ⟨b,1,none⟩=some u)/\w.frozen? ⟨b,1,none⟩=false)/\
  ((∃u:Value,w.cell? ⟨b,2,none⟩=some u)/\w.frozen? ⟨b,2,none⟩=false)/\((∃u:Value,w.cell? ⟨b,3,none⟩=some u)/\w.frozen? ⟨b,3,none⟩=false)/\((∃u:Value,w.cell? ⟨r,2,none⟩=some u)/\w.frozen? ⟨r,2,none⟩=false):=
 ⟨⟨⟨_,h.nd.c0⟩,h.nd.f 0⟩,⟨⟨_,h.nd.c1⟩,h.nd.f 1⟩,⟨⟨_,h.nd.c2⟩,h.nd.f 2⟩,⟨⟨_,h.nd.c3⟩,h.nd.f 3⟩,⟨⟨_,h.rd.c2⟩,h.rd.f2⟩⟩
end
structure Rs (D:Nat->Prop)(w:World)(s:Tx)(i j:Nat)(bad bad':Bool)(v:Value):Prop where
 le:i<=j
 ptr:∃b,v=ptr b
 fine:bad'=false->bad=false/\∃t:P,t.Al (λc=>lt c=true)/\s.drop i=t.text++s.drop j/\aI D w t v
 good:bad=false->(∃(t:P) (r':Tx),t.Al (λc=>lt c=true)/\s.drop i=t.text++r')->bad'=false
def uQ (s:Tx)(n:Nat):Prop:=∀{r i:Nat} {bad:Bool} {w:World} {R:Value->World->Prop},Rd w r s i bad->(bad=false->s.length - i< n)->
 (∀v w' j bad',Kr r w w'->Rd w' r s j bad'->Rs (λg=>w.heap.size<=g) w' s i j bad bad' v->R v w')->Calls Tryz.prog 166 #[Proofs.YtdecokaadekjnaaGreat.ptr r] w (an [.v] R)
theorem D4 {s:Tx}{n:Nat}(δ:uQ s n){w0 w:World}{r b i:Nat}{bad:Bool}{k a c:UInt8}{vs:Value}(h:TS w0 w r b s i bad k a c vs)(hm:bad=false->s.length - i< n){R:Value->World->Prop}
  (hR:∀w' j bad' x J,TS w0 w' r b s j bad' k a c J->ec (λg=>w0.heap.size<=g) w' J [x]->Rs (λg=>w0.heap.size<=g) w' s i j bad bad' x->R (ptr b) w'):
  Calls Tryz.prog 166 #[ptr r] w (an [.v] fun(v28:Value) (V:World)=>oneV v28=true/\∀(b30:Nat) (z:World),b30=Array.size (World.heap V)->z=World.alloc V (Obj.cells #[v28] 88)->
   oneV (Value.slice (some ⟨b30,0,none⟩) 1 1)=true/\((∃u32:Value,World.cell? z ⟨b,3,none⟩=some u32)/\World.frozen? z ⟨b,3,none⟩=false)/\∀W:World,W=World.setCell z ⟨b,3,none⟩ (Value.slice (some ⟨b30,0,none⟩) 1 1)->R (Value.pointer (some ⟨b,0,none⟩)) W):=by
 refine δ h.rd hm λv w1 j bad' k1 h1 Z=>?_
 obtain⟨bv,ε⟩:=Z.ptr;have t1:=h.go k1 h1;refine⟨by rw [ε];rfl,λb2 w2 α H=>⟨rfl,?_⟩⟩;have β:Ex w1 w2:=H▸Ex.alloc w1 _;have t2:=t1.ex β;refine⟨t2.cell.2.2.2.1,λw3 G=>?_⟩;have t3:=t2.Bw G;have hb:=h.hb;have μ:=t2.nd.lt;have θ:=k1.size;have ι:=h.kr.size;have κ:=t1.nd.lt;have hK:Kp w2 w3 λg=>g=b:=G▸Kp.set (S:=λg=>g=b) (Kp.ah (Ex.refl w2) _) rfl _
 have ν:b< w.heap.size:=h.nd.lt;refine hR w3 j bad' v _ t3 (.inr ⟨b2,0,1,rfl,by omega,?_,λi x I=>?_⟩) ⟨Z.le,Z.ptr,λζ=>?_,Z.good⟩
 ·rw [G,Ki,H,size_alloc,<-α];omega
 ·match i,I with
  | 0,I=>
   simp at I;subst I;rw [G,JH _ _ _ _ (by simp),H,α];exact aa rfl
  | i+1,I=>simp at I
 ·obtain⟨e1,t,ht,e2,η⟩:=Z.fine ζ;refine⟨e1,t,ht,e2,?_⟩;have γ:aI (λg=>w.heap.size<=g) w2 t v:=aI.kp (Kp.ah β λ _=>False) (λ _ _ h=>h) η;exact aI.mono (λg hg=>by omega) (aI.kp hK (λg hg e=>by omega) γ)
theorem a8 {s:Tx}{i:Nat}(h:i< s.length):s.drop i=bt s i::s.drop (i+1):=bE h
theorem fe.of {D:Nat->Prop}{w0 w:World}{r b:Nat}{s:Tx}{i:Nat}{bad:Bool}{k a c:UInt8}{vs:Value}{l:List Value}{K:List Value->Prop}(h:TS w0 w r b s i bad k a c vs)(z:D b)(G:ec D w vs l)(H:K l):fe D w (ptr b) k a c K:=
 ⟨b,vs,l,rfl,z,h.nd.lt,h.nd.c0,h.nd.c1,h.nd.c2,h.nd.c3,G,H⟩
theorem dt {s:Tx}{i:Nat}{c:UInt8}{r:Tx}(h:s.drop i=c::r):i< s.length/\bt s i=c/\s.drop (i+1)=r:=drop_cons h
theorem G' (s:Tx)(hs:s.length<=1099511627776):∀n,uQ s n:=by
 intro n;have main:∀n,(∀m,m+1=n->uQ s m)->uQ s n:=by
  intro n ih r i bad w R hrd hm hR;refine mL _ w R ?_;intro b w1 hb hw1;have ς:Ex w w1:=hw1▸Ex.alloc w _;have hrl:=hrd.lt;have hsz1:w1.heap.size=w.heap.size+1:=by rw [hw1,size_alloc]
  have t1:TS w w1 r b s i bad 48 0 0 (.slice none 0 0):=by
   refine⟨hrd.same ς.size (ς.block r hrl),⟨by omega,?_,?_,?_,?_,λj=>?_⟩,Kr.ex ς,hrl,by omega⟩
   ·rw [hw1,hb];exact aa rfl
   ·rw [hw1,hb];exact aa rfl
   ·rw [hw1,hb];exact aa rfl
   ·rw [hw1,hb];exact aa rfl
   ·rw [hw1,hb];unfold World.frozen? World.alloc;simp
  have hD:w.heap.size<=b:=by omega
  refine⟨r,0,rfl,bad,t1.rd.c2,λhq=>?_,λhq=>?_⟩
  ·exact hR _ _ _ _ t1.kr t1.rd ⟨JL _,⟨b,rfl⟩,λH=>(by rw [hq]at H;cases H),λH=>(by rw [hq]at H;cases H)⟩
  obtain⟨n,rfl⟩:∃m,n=m+1:=⟨n - 1,by have :=hm hq;omega⟩
  have iht:uQ s n:=ih n rfl;have hm:=hm hq;subst hq;refine oV hs t1.rd λc7 j7 bad7 w8 k8 h8 hn=>?_
  have t8:=t1.go k8 h8;have hj7:=h8.le;have first:bad7=false->i< s.length/\j7=i+1/\c7=bt s i:=λH=>by
   obtain⟨_,a,b,c,_⟩:=hn.fine H;exact⟨a,b,c⟩
  have G:∀{c:UInt8} {x:Tx},s.drop i=c::x->bad7=false/\c7=c/\s.drop j7=x:=λh=>by
   obtain⟨a,b,c⟩:=dt h;have H:=hn.good rfl a trivial;obtain⟨_,e1,e2⟩:=first H;exact⟨H,by rw [e2,b],by rw [e1];exact c⟩
  refine⟨λJ=>?_,λJ=>?_⟩
  ·have J:=J0 J;refine hR _ _ j7 bad7 t8.kr t8.rd ⟨hn.le,⟨b,rfl⟩,λH=>?_,λ _ ⟨t,r',ht,e⟩=>?_⟩
   ·obtain⟨a1,a2,a3⟩:=first H;refine⟨rfl,.nil,trivial,?_,fe.of t8 hD (.inl ⟨rfl,rfl⟩) rfl⟩;rw [a8 a1,<-a3,J,a2];rfl
   ·cases ht':t.text with
    | nil=>have :=C0 t;rw [ht']at this;simp at this
    | cons d x=>rw [ht',KC]at e;exact(G e).1
  have hc0:c7≠48:=J1 J;refine sG ⟨λhl=>?_,λhl=>?_⟩
  ·
   refine oV hs t8.rd λV j11 W w12 k12 h12 ψ=>?_
   have t12:=t8.go k12 h12;refine⟨t12.cell.2.1,λw14 hw14=>?_⟩;have t14:=t12.xG hw14;refine⟨t14.cell.1,λw16 hw16=>?_⟩;have t16:=t14.BD hw16;have rest:∀{wx:World} {I:Bool},TS w wx r b s j11 I V c7 0 (.slice none 0 0)->(I=false->W=false/\(V=33\/V=63))->(W=false->(V=33\/V=63)->I=false)->
     ∀{K:UInt8->World->Prop},(∀κ υ α w24,TS w w24 r b s υ α V c7 0 (.slice none 0 0)->Nx s j11 I (λc=>lt c=true) κ υ α->K κ w24)->
     Calls Tryz.prog 208 #[ptr r] wx (an [.c] K):=by
    intro wx I tx _ _ K hK;exact wS hs tx.rd λc j bad' w' k' h' hn'=>hK c j bad' w' (tx.go k' h') hn'
   have fin:∀{I:Bool} {κ:UInt8} {υ:Nat} {α:Bool} {w24 w26:World},(I=false->W=false/\(V=33\/V=63))->(W=false->(V=33\/V=63)->I=false)->Nx s j11 I (λc=>lt c=true) κ υ α->
     TS w w26 r b s υ α V c7 κ (.slice none 0 0)->Calls Tryz.prog 209 #[ptr r,.int .u8 46] w26 (an [] λw27=>Calls Tryz.prog 166 #[ptr r] w27 (an [.v] fun(v28:Value) (w29:World)=>oneV v28=true/\∀(b30:Nat) (φ:World),b30=Array.size (World.heap w29)->φ=World.alloc w29 (Obj.cells #[v28] 88)->
      oneV (Value.slice (some ⟨b30,0,none⟩) 1 1)=true/\((∃u32:Value,World.cell? φ ⟨b,3,none⟩=some u32)/\World.frozen? φ ⟨b,3,none⟩=false)/\∀w33:World,w33=World.setCell φ ⟨b,3,none⟩ (Value.slice (some ⟨b30,0,none⟩) 1 1)->R (Value.pointer (some ⟨b,0,none⟩)) w33)):=by
    intro I κ υ α w24 w26 ς hx2 δ t26;refine pU (c:=46) hs t26.rd λj27 bad27 w27 k27 h27 ω=>?_
    have t27:=t26.go k27 h27;refine D4 iht t27 (λH=>?_) λw' j bad' x vs' t' hsl hrs=>?_
    ·obtain⟨a1,a2,a3,_⟩:=ω.fine H;obtain⟨b1,b2,b3,_⟩:=δ.fine a1;obtain⟨c1,c2,c3,_⟩:=ψ.fine (ς b1).1;obtain⟨_,d2,d3⟩:=first c1;omega
    ·refine hR _ _ j bad' t'.kr t'.rd ⟨?_,⟨b,rfl⟩,λH=>?_,λ _ ⟨t,r',ht,e⟩=>?_⟩
     ·have :=hn.le;have :=ψ.le;have :=δ.le;have :=ω.le;have :=hrs.le;omega
     ·obtain⟨e1,t,ht,e2,hat⟩:=hrs.fine H;obtain⟨a1,a2,a3,a4,a5⟩:=ω.fine e1;obtain⟨b1,b2,b3,b4,b5⟩:=δ.fine a1;obtain⟨b0,hk⟩:=ς b1;obtain⟨c1,c2,c3,c4,_⟩:=ψ.fine b0;obtain⟨d1,d2,d3⟩:=first c1;have ε:s.drop i=c7::V::κ::46::(t.text++s.drop j):=by
       rw [a8 d1,<-d3,<-d2,a8 c2,<-c4,<-c3,a8 b2,<-b4,<-b3,a8 a2,<-a4,<-a3,e2]
      rcases hk with hk | hk
      ·subst hk;exact⟨rfl,.snd c7 κ t,⟨hl,b5,ht⟩,ε,fe.of t' hD hsl ⟨x,rfl,hat⟩⟩
      ·subst hk;exact⟨rfl,.rcv c7 κ t,⟨hl,b5,ht⟩,ε,fe.of t' hD hsl ⟨x,rfl,hat⟩⟩
     ·have key:∀{a d x:UInt8} {p:P},(d=33\/d=63)->lt x=true->p.Al (λc=>lt c=true)->s.drop i=a::d::x::46::(p.text++r')->bad'=false:=by
       intro a d x p hd hx hp he;obtain⟨f1,f2,f3⟩:=G he;obtain⟨g1,g2,g3⟩:=dt f3;have f4:=ψ.good f1 g1 trivial;obtain⟨_,_,h3,h4,_⟩:=ψ.fine f4;rw [<-h3]at g3;obtain⟨k1,k2,k3⟩:=dt g3;have hkd:V=33\/V=63:=by rw [h4,g2];exact hd
       have f5:=δ.good (hx2 f4 hkd) k1 (by rw [k2];exact hx);obtain⟨_,_,l3,l4,_⟩:=δ.fine f5;rw [<-l3]at k3;obtain⟨m1,m2,m3⟩:=dt k3;have f6:=ω.good f5 m1 m2;obtain⟨_,_,o3,o4,_⟩:=ω.fine f6;rw [<-o3]at m3;exact hrs.good f6 ⟨p,r',hp,m3⟩
      cases t with
      | snd a x p=>exact key (.inl rfl) ht.2.1 ht.2.2 e
      | rcv a x p=>exact key (.inr rfl) ht.2.1 ht.2.2 e
      | nil=>exact absurd (G (c:=48) e).2.1 hc0
      | tau p=>have :=(G (c:=126) e).2.1;rw [this]at hl;exact absurd hl (by decide)
      | res y p=>have :=(G (c:=35) e).2.1;rw [this]at hl;exact absurd hl (by decide)
      | mat y z p=>have :=(G (c:=91) e).2.1;rw [this]at hl;exact absurd hl (by decide)
      | rep p=>have :=(G (c:=42) e).2.1;rw [this]at hl;exact absurd hl (by decide)
      | sum p q=>have :=(G (c:=40) e).2.1;rw [this]at hl;exact absurd hl (by decide)
      | par p q=>have :=(G (c:=40) e).2.1;rw [this]at hl;exact absurd hl (by decide)
   refine⟨V,t16.nd.c0,λθ=>⟨V,t16.nd.c0,λι=>⟨r,0,rfl,t16.cell.2.2.2.2,λw22 hw22=>?_⟩,λι=>?_⟩,λθ=>?_⟩
   ·have t22:=t16.C' hw22;have θ:¬V=33:=by simpa using θ
    have ι:¬V=63:=by simpa using ι
    have x1:true=false->W=false/\(V=33\/V=63):=λh=>by cases h
    have x2:W=false->(V=33\/V=63)->true=false:=λ _ h=>by rcases h with h | h<;>contradiction
    refine rest t22 x1 x2 λκ υ α w24 t24 δ=>⟨t24.cell.2.2.1,λw26 hw26=>fin (w24:=w24) x1 x2 δ (t24.rI hw26)⟩
   ·have ι:V=63:=by simpa using ι
    have x1:W=false->W=false/\(V=33\/V=63):=λh=>⟨h,.inr ι⟩
    have x2:W=false->(V=33\/V=63)->W=false:=λh _=>h
    refine rest t16 x1 x2 λκ υ α w24 t24 δ=>⟨t24.cell.2.2.1,λw26 hw26=>fin (w24:=w24) x1 x2 δ (t24.rI hw26)⟩
   ·have θ:V=33:=by simpa using θ
    have x1:W=false->W=false/\(V=33\/V=63):=λh=>⟨h,.inl θ⟩
    have x2:W=false->(V=33\/V=63)->W=false:=λh _=>h
    refine rest t16 x1 x2 λκ υ α w24 t24 δ=>⟨t24.cell.2.2.1,λw26 hw26=>fin (w24:=w24) x1 x2 δ (t24.rI hw26)⟩
  have Z:∀{a:UInt8} {x:Tx},lt a=true->s.drop i=a::x->False:=λha he=>by
   rw [(G he).2.1]at hl;rw [hl]at ha;cases ha
  have one:∀{wx:World} {jx:Nat} {I:Bool} {k a c:UInt8} (hd:Tx) (mk:P->P),TS w wx r b s jx I k a c (.slice none 0 0)->i<=jx->
    (I=false->i< jx/\s.drop i=hd++s.drop jx)->(I=false->∀p,(mk p).text=hd++p.text)->(I=false->∀p:P,p.Al (λc=>lt c=true)->(mk p).Al (λc=>lt c=true))->
    (∀{D:Nat->Prop} {w':World} {v:Value} {p:P},(fe D w' v k a c λl=>∃x,l=[x]/\aI D w' p x)->I=false->aI D w' (mk p) v)->
    (∀(t:P) (r':Tx),t.Al (λc=>lt c=true)->s.drop i=t.text++r'->I=false/\∃p:P,p.Al (λc=>lt c=true)/\s.drop jx=p.text++r')->
    Calls Tryz.prog 166 #[ptr r] wx (an [.v] fun(v28:Value) (w29:World)=>oneV v28=true/\∀(b30:Nat) (φ:World),b30=Array.size (World.heap w29)->φ=World.alloc w29 (Obj.cells #[v28] 88)->
     oneV (Value.slice (some ⟨b30,0,none⟩) 1 1)=true/\((∃u32:Value,World.cell? φ ⟨b,3,none⟩=some u32)/\World.frozen? φ ⟨b,3,none⟩=false)/\∀w33:World,w33=World.setCell φ ⟨b,3,none⟩ (Value.slice (some ⟨b30,0,none⟩) 1 1)->R (Value.pointer (some ⟨b,0,none⟩)) w33):=by
   intro wx jx I k a c hd mk tx hle hpos htx hal hat hgood;have hjx:=tx.rd.le;refine D4 iht tx (λH=>by have :=(hpos H).1;omega) λw' j bad' x vs' t' hsl hrs=>?_
   refine hR _ _ j bad' t'.kr t'.rd ⟨by have :=hrs.le;omega,⟨b,rfl⟩,λH=>?_,λ _ ⟨t,r',ht,e⟩=>?_⟩
   ·obtain⟨e1,p,hp,e2,hpa⟩:=hrs.fine H;refine⟨rfl,mk p,hal e1 p hp,?_,hat (fe.of t' hD hsl ⟨x,rfl,hpa⟩) e1⟩;rw [(hpos e1).2,htx e1,e2,Kg]
   ·obtain⟨e1,p,hp,e2⟩:=hgood t r' ht e;exact hrs.good e1 ⟨p,r',hp,e2⟩
  refine⟨λJ=>?_,λJ=>?_⟩
  ·
   have J:c7=126:=J0 J;refine⟨t8.cell.1,λw57 μ=>?_⟩;rw [J]at μ;have t57:=t8.BD μ;refine pU (c:=46) hs t57.rd λj58 bad58 w58 k58 h58 hn58=>?_
   have t58:=t57.go k58 h58;refine one [126,46] .tau t58 (by have :=hn.le;have :=hn58.le;omega) (λH=>?_) (λ _ p=>rfl) (λ _ p hp=>hp) (λh _=>h) λt r' ht e=>?_
   ·obtain⟨a1,a2,a3,a4,a5⟩:=hn58.fine H;obtain⟨d1,d2,d3⟩:=first a1;refine⟨by omega,?_⟩;rw [a8 d1,<-d3,<-d2,a8 a2,<-a4,<-a3,J];rfl
   ·cases t with
    | tau p=>
     obtain⟨f1,f2,f3⟩:=G (c:=126) e;obtain⟨g1,g2,g3⟩:=dt (c:=46) f3;have f4:=hn58.good f1 g1 g2;obtain⟨_,_,h3,_⟩:=hn58.fine f4;exact⟨f4,p,ht,by rw [h3];exact g3⟩
    | nil=>exact absurd (G (c:=48) e).2.1 hc0
    | snd a x p=>exact(Z ht.1 e).elim
    | rcv a x p=>exact(Z ht.1 e).elim
    | res y p=>have :=(G (c:=35) e).2.1;rw [this]at J;exact absurd J (by decide)
    | mat y z p=>have :=(G (c:=91) e).2.1;rw [this]at J;exact absurd J (by decide)
    | rep p=>have :=(G (c:=42) e).2.1;rw [this]at J;exact absurd J (by decide)
    | sum p q=>have :=(G (c:=40) e).2.1;rw [this]at J;exact absurd J (by decide)
    | par p q=>have :=(G (c:=40) e).2.1;rw [this]at J;exact absurd J (by decide)
  have hc1:c7≠126:=J1 J;refine⟨λJ=>?_,λJ=>?_⟩
  ·
   have J:c7=35:=J0 J;refine wS hs t8.rd λc65 j65 bad65 w66 k66 h66 hn66=>?_
   have t66:=t8.go k66 h66;refine⟨t66.cell.1,λw68 hw68=>?_⟩;rw [J]at hw68;have t68:=t66.BD hw68;refine⟨t68.cell.2.2.1,λw70 hw70=>?_⟩;have t70:=t68.rI hw70;refine pU (c:=46) hs t70.rd λj71 bad71 w71 k71 h71 hn71=>?_
   have t71:=t70.go k71 h71;have fx:bad71=false->lt c65=true:=λH=>(hn66.fine (hn71.fine H).1).2.2.2.2
   refine one [35,c65,46] (.res c65) t71 (by have :=hn.le;have :=hn66.le;have :=hn71.le;omega) (λH=>?_) (λ _ p=>rfl) (λH p hp=>⟨fx H,hp⟩) (λh _=>h) λt r' ht e=>?_
   ·obtain⟨a1,a2,a3,a4,a5⟩:=hn71.fine H;obtain⟨b1,b2,b3,b4,b5⟩:=hn66.fine a1;obtain⟨d1,d2,d3⟩:=first b1;refine⟨by omega,?_⟩;rw [a8 d1,<-d3,<-d2,a8 b2,<-b4,<-b3,a8 a2,<-a4,<-a3,J];rfl
   ·cases t with
    | res y p=>
     obtain⟨f1,f2,f3⟩:=G (c:=35) e;obtain⟨g1,g2,g3⟩:=dt (c:=y) f3;have f4:=hn66.good f1 g1 (by rw [g2];exact ht.1);obtain⟨_,_,h3,h4,_⟩:=hn66.fine f4;rw [<-h3]at g3;obtain⟨m1,m2,m3⟩:=dt (c:=46) g3;have f6:=hn71.good f4 m1 m2;obtain⟨_,_,o3,_⟩:=hn71.fine f6;exact⟨f6,p,ht.2,by rw [o3];exact m3⟩
    | nil=>exact absurd (G (c:=48) e).2.1 hc0
    | snd a x p=>exact(Z ht.1 e).elim
    | rcv a x p=>exact(Z ht.1 e).elim
    | tau p=>exact absurd (G (c:=126) e).2.1 hc1
    | mat y z p=>have :=(G (c:=91) e).2.1;rw [this]at J;exact absurd J (by decide)
    | rep p=>have :=(G (c:=42) e).2.1;rw [this]at J;exact absurd J (by decide)
    | sum p q=>have :=(G (c:=40) e).2.1;rw [this]at J;exact absurd J (by decide)
    | par p q=>have :=(G (c:=40) e).2.1;rw [this]at J;exact absurd J (by decide)
  have hc2:c7≠35:=J1 J;refine⟨λJ=>?_,λJ=>?_⟩
  ·
   have J:c7=91:=J0 J;refine wS hs t8.rd λc78 j78 bad78 w79 k79 h79 hn79=>?_
   have t79:=t8.go k79 h79;refine⟨t79.cell.1,λw80 hw80=>?_⟩;have t80:=t79.BD (x:=61) hw80;refine⟨t80.cell.2.1,λw81 hw81=>?_⟩;have t81:=t80.xG hw81;refine pU (c:=61) hs t81.rd λj82 bad82 w82 k82 h82 hn82=>?_
   have t82:=t81.go k82 h82;refine wS hs t82.rd λc83 j83 bad83 w83 k83 h83 hn83=>?_
   have t83:=t82.go k83 h83;refine⟨t83.cell.2.2.1,λw84 hw84=>?_⟩;have t84:=t83.rI hw84;refine pU (c:=93) hs t84.rd λj85 bad85 w85 k85 h85 hn85=>?_
   have t85:=t84.go k85 h85;have fx:bad85=false->lt c78=true/\lt c83=true:=λH=>by
    obtain⟨a1,_⟩:=hn85.fine H;obtain⟨b1,_,_,_,b5⟩:=hn83.fine a1;obtain⟨c1,_⟩:=hn82.fine b1;exact⟨(hn79.fine c1).2.2.2.2,b5⟩
   refine one [91,c78,61,c83,93] (.mat c78 c83) t85 (by have :=hn.le;have :=hn79.le;have :=hn82.le;have :=hn83.le;have :=hn85.le;omega) (λH=>?_) (λ _ p=>rfl) (λH p hp=>⟨(fx H).1,(fx H).2,hp⟩) (λh _=>h) λt r' ht e=>?_
   ·obtain⟨a1,a2,a3,a4,a5⟩:=hn85.fine H;obtain⟨b1,b2,b3,b4,b5⟩:=hn83.fine a1;obtain⟨c1,c2,c3,c4,c5⟩:=hn82.fine b1;obtain⟨e1,e2,e3,e4,e5⟩:=hn79.fine c1;obtain⟨d1,d2,d3⟩:=first e1;refine⟨by omega,?_⟩;rw [a8 d1,<-d3,<-d2,a8 e2,<-e4,<-e3,a8 c2,<-c4,<-c3,a8 b2,<-b4,<-b3,a8 a2,<-a4,<-a3,J];rfl
   ·cases t with
    | mat y z p=>
     obtain⟨f1,f2,f3⟩:=G (c:=91) e;obtain⟨g1,g2,g3⟩:=dt (c:=y) f3;have f4:=hn79.good f1 g1 (by rw [g2];exact ht.1);obtain⟨_,_,h3,h4,_⟩:=hn79.fine f4;rw [<-h3]at g3;obtain⟨m1,m2,m3⟩:=dt (c:=61) g3;have f6:=hn82.good f4 m1 m2;obtain⟨_,_,o3,_⟩:=hn82.fine f6;rw [<-o3]at m3;obtain⟨p1,p2,p3⟩:=dt (c:=z) m3;have f7:=hn83.good f6 p1 (by rw [p2];exact ht.2.1);obtain⟨_,_,q3,_⟩:=hn83.fine f7;rw [<-q3]at p3;obtain⟨s1,s2,s3⟩:=dt (c:=93) p3;have f8:=hn85.good f7 s1 s2;obtain⟨_,_,u3,_⟩:=hn85.fine f8;exact⟨f8,p,ht.2.2,by rw [u3];exact s3⟩
    | nil=>exact absurd (G (c:=48) e).2.1 hc0
    | snd a x p=>exact(Z ht.1 e).elim
    | rcv a x p=>exact(Z ht.1 e).elim
    | tau p=>exact absurd (G (c:=126) e).2.1 hc1
    | res y p=>exact absurd (G (c:=35) e).2.1 hc2
    | rep p=>have :=(G (c:=42) e).2.1;rw [this]at J;exact absurd J (by decide)
    | sum p q=>have :=(G (c:=40) e).2.1;rw [this]at J;exact absurd J (by decide)
    | par p q=>have :=(G (c:=40) e).2.1;rw [this]at J;exact absurd J (by decide)
  have hc3:c7≠91:=J1 J;refine⟨λJ=>?_,λJ=>?_⟩
  ·
   have J:c7=42:=J0 J;refine⟨t8.cell.1,λw57 μ=>?_⟩;rw [J]at μ;have t57:=t8.BD μ;refine one [42] .rep t57 hn.le (λH=>?_) (λ _ p=>rfl) (λ _ p hp=>hp) (λh _=>h) λt r' ht e=>?_
   ·obtain⟨d1,d2,d3⟩:=first H;refine⟨by omega,?_⟩;rw [a8 d1,<-d3,<-d2,J];rfl
   ·cases t with
    | rep p=>
     obtain⟨f1,f2,f3⟩:=G (c:=42) e;exact⟨f1,p,ht,f3⟩
    | nil=>exact absurd (G (c:=48) e).2.1 hc0
    | snd a x p=>exact(Z ht.1 e).elim
    | rcv a x p=>exact(Z ht.1 e).elim
    | tau p=>exact absurd (G (c:=126) e).2.1 hc1
    | res y p=>exact absurd (G (c:=35) e).2.1 hc2
    | mat y z p=>exact absurd (G (c:=91) e).2.1 hc3
    | sum p q=>have :=(G (c:=40) e).2.1;rw [this]at J;exact absurd J (by decide)
    | par p q=>have :=(G (c:=40) e).2.1;rw [this]at J;exact absurd J (by decide)
  have hc4:c7≠42:=J1 J;refine⟨λJ=>?_,λJ=>?_⟩
  ·
   have J:c7=40:=J0 J;refine iht t8.rd (λH=>by have :=(first H).2.1;have :=(first H).1;omega) λv1 w105 j105 bad105 k105 h105 hs1=>?_
   obtain⟨bv1,hbv1⟩:=hs1.ptr;have t105:=t8.go k105 h105;refine oV hs t105.rd λβ j106 bad106 w107 k107 h107 ν=>?_
   have t107:=t105.go k107 h107;refine⟨t107.cell.1,λw109 hw109=>?_⟩;have t109:=t107.BD hw109;have sz8:=t8.nd.lt;have szk:=k105.size;have hrw8:r< w8.heap.size:=h8.lt;have kK:∀{wa wb:World},Kr r wa wb->Kp wa wb λg=>g=r\/g=b:=λh=>⟨h.os,h.tape,h.output,h.size,λg hg hn=>h.block g hg λe=>hn (.inl e)⟩
   have kS:∀{wa wb:World} {j:Nat} {v:Value},wb=wa.setCell ⟨b,j,none⟩ v->Kp wa wb λg=>g=r\/g=b:=λ{wa wb j v} h=>h▸Kp.set (S:=λg=>g=r\/g=b) (Kp.ah (Ex.refl wa) _) (.inr rfl) v
   have kT:∀{wa wb wc:World},(Kp wa wb λg=>g=r\/g=b)->(Kp wb wc λg=>g=r\/g=b)->Kp wa wc λg=>g=r\/g=b:=λh k=>Kp.trans h k λ _ _ h=>h
   have q109:Kp w105 w109 λg=>g=r\/g=b:=kT (kK k107) (kS hw109)
   have rest:∀{wx:World} {I:Bool},TS w wx r b s j106 I β 0 0 (.slice none 0 0)->(Kp w105 wx λg=>g=r\/g=b)->(I=false->bad106=false/\(β=43\/β=38))->(bad106=false->(β=43\/β=38)->I=false)->
     Calls Tryz.prog 166 #[ptr r] wx (an [.v] fun(v116:Value) (ξ:World)=>oneV v1=true/\oneV v116=true/\∀(γ:Nat) (ζ:World),γ=Array.size (World.heap ξ)->ζ=World.alloc ξ (Obj.cells #[v1,v116] 88)->
      oneV (Value.slice (some ⟨γ,0,none⟩) 2 2)=true/\((∃u120:Value,World.cell? ζ ⟨b,3,none⟩=some u120)/\World.frozen? ζ ⟨b,3,none⟩=false)/\∀w121:World,w121=World.setCell ζ ⟨b,3,none⟩ (Value.slice (some ⟨γ,0,none⟩) 2 2)->
      Calls Tryz.prog 209 #[ptr r,.int .u8 41] w121 (an [] λη=>R (Value.pointer (some ⟨b,0,none⟩)) η)):=by
    intro wx I tx qx ς hx2;have szx:=qx.size;refine iht tx.rd (λH=>?_) λv2 ξ j117 bad117 k117 h117 hs2=>?_
    ·obtain⟨a1,a2,a3,_⟩:=ν.fine (ς H).1;have :=(hs1.fine a1).1;have :=(first this).2.1;have :=hs1.le;omega
    obtain⟨bv2,hbv2⟩:=hs2.ptr;have t117:=tx.go k117 h117;refine⟨by rw [hbv1];rfl,by rw [hbv2];rfl,λγ ζ hb118 χ=>⟨rfl,?_⟩⟩;have hx119:Ex ξ ζ:=χ▸Ex.alloc ξ _;have t119:=t117.ex hx119;refine⟨t119.cell.2.2.2.1,λw121 ο=>?_⟩;have t121:=t119.Bw ο;refine pU (c:=41) hs t121.rd λj122 bad122 η k122 h122 hn122=>?_
    have t122:=t121.go k122 h122;have sz117:=k117.size;have q119:Kp ξ ζ λg=>g=r\/g=b:=Kp.ah hx119 _
    have q122:Kp ξ η λg=>g=r\/g=b:=kT (kT q119 (kS ο)) (kK k122)
    have qall:Kp w105 η λg=>g=r\/g=b:=kT (kT qx (kK k117)) q122
    have hbl:γ< η.heap.size:=by
     have :=k122.size;rw [ο,Ki,χ,size_alloc,<-hb118]at this;omega
    have hkr:=t8.kr.size;have hsl:ec (λg=>w.heap.size<=g) η (.slice (some ⟨γ,0,none⟩) 2 2) [v1,v2]:=by
     refine .inr ⟨γ,0,2,rfl,by omega,hbl,λi x hx=>?_⟩;have hne:γ≠b:=by omega
     have hblk:η.heap[γ]?=ζ.heap[γ]?:=by
      rw [k122.block γ (by rw [ο,Ki,χ,size_alloc];omega) (by omega),ο,L6 _ _ _ _ (show γ≠b from hne)]
     rw [JB (w:=ζ) hblk,χ,hb118]
     match i,hx with
     | 0,hx=>simp at hx;subst hx;exact aa rfl
     | 1,hx=>simp at hx;subst hx;exact aa rfl
     | i+2,hx=>simp at hx
    refine hR _ _ j122 bad122 t122.kr t122.rd ⟨by have :=hn.le;have :=hs1.le;have :=ν.le;have :=hs2.le;have :=hn122.le;omega,⟨b,rfl⟩,λH=>?_,λ _ ⟨t,r',ht,e⟩=>?_⟩
    ·obtain⟨a1,a2,a3,a4,a5⟩:=hn122.fine H;obtain⟨b1,q,hq,b2,b3⟩:=hs2.fine a1;obtain⟨b0,hk⟩:=ς b1;obtain⟨c1,c2,c3,c4,_⟩:=ν.fine b0;obtain⟨e1,p,hp,e2,e3⟩:=hs1.fine c1;obtain⟨d1,d2,d3⟩:=first e1;have ε:s.drop i=40::(p.text++(β::(q.text++(41::s.drop j122)))):=by
      rw [a8 d1,<-d3,<-d2,e2,a8 c2,<-c4,<-c3,b2,a8 a2,<-a4,<-a3,J]
     have k1:aI (λg=>w.heap.size<=g) η p v1:=aI.mono (λg hg=>by omega) (aI.kp qall (λg hg hS=>by rcases hS with h | h<;>omega) e3);have k2:aI (λg=>w.heap.size<=g) η q v2:=aI.mono (λg hg=>by omega) (aI.kp q122 (λg hg hS=>by rcases hS with h | h<;>omega) b3);rcases hk with hk | hk
     ·subst hk;exact⟨rfl,.sum p q,⟨hp,hq⟩,by rw [ε];simp [T.text],fe.of t122 hD hsl ⟨v1,v2,rfl,k1,k2⟩⟩
     ·subst hk;exact⟨rfl,.par p q,⟨hp,hq⟩,by rw [ε];simp [T.text],fe.of t122 hD hsl ⟨v1,v2,rfl,k1,k2⟩⟩
    ·have key:∀{d:UInt8} {p q:P},(d=43\/d=38)->p.Al (λc=>lt c=true)->q.Al (λc=>lt c=true)->s.drop i=40::(p.text++(d::(q.text++(41::r'))))->bad122=false:=by
      intro d p q hd hp hq he;obtain⟨f1,f2,f3⟩:=G he;have g1:=hs1.good f1 ⟨p,_,hp,f3⟩;obtain⟨_,p',hp',g2,_⟩:=hs1.fine g1;rw [g2]at f3;obtain⟨rfl,g3⟩:=kZ hp'.wf hp.wf f3;obtain⟨k1,k2,k3⟩:=dt g3;have f4:=ν.good g1 k1 trivial;obtain⟨_,_,h3,h4,_⟩:=ν.fine f4;have f5:=hx2 f4 (by rw [h4,k2];exact hd);rw [<-h3]at k3;have f6:=hs2.good f5 ⟨q,_,hq,k3⟩;obtain⟨_,q',hq',g4,_⟩:=hs2.fine f6;rw [g4]at k3;obtain⟨rfl,g5⟩:=kZ hq'.wf hq.wf k3;obtain⟨l1,l2,l3⟩:=dt g5;exact hn122.good f6 l1 l2
     cases t with
     | sum p q=>exact key (.inl rfl) ht.1 ht.2 (by rw [e];simp [T.text])
     | par p q=>exact key (.inr rfl) ht.1 ht.2 (by rw [e];simp [T.text])
     | nil=>exact absurd (G (c:=48) e).2.1 hc0
     | snd a x p=>exact(Z ht.1 e).elim
     | rcv a x p=>exact(Z ht.1 e).elim
     | tau p=>exact absurd (G (c:=126) e).2.1 hc1
     | res y p=>exact absurd (G (c:=35) e).2.1 hc2
     | mat y z p=>exact absurd (G (c:=91) e).2.1 hc3
     | rep p=>exact absurd (G (c:=42) e).2.1 hc4
   refine⟨β,t109.nd.c0,λθ=>⟨β,t109.nd.c0,λι=>⟨r,0,rfl,t109.cell.2.2.2.2,λw22 hw22=>?_⟩,λι=>?_⟩,λθ=>?_⟩
   ·have θ:¬β=43:=by simpa using θ
    have ι:¬β=38:=by simpa using ι
    exact rest (t109.C' hw22) (kT q109 (kK (hw22▸Kr.set w109 2 _))) (λh=>by cases h) (λ _ h=>by rcases h with h | h<;>contradiction)
   ·have ι:β=38:=by simpa using ι
    exact rest t109 q109 (λh=>⟨h,.inr ι⟩) (λh _=>h)
   ·have θ:β=43:=by simpa using θ
    exact rest t109 q109 (λh=>⟨h,.inl θ⟩) (λh _=>h)
  ·
   have hc5:c7≠40:=J1 J;refine⟨r,0,rfl,t8.cell.2.2.2.2,λw57 μ=>?_⟩;have t57:=t8.C' μ;refine one [] .tau t57 hn.le (λH=>by cases H) (λH=>by cases H) (λ _ p hp=>hp) (λh H=>by cases H) λt r' ht e=>?_
   exfalso;cases t with
   | nil=>exact absurd (G (c:=48) e).2.1 hc0
   | snd a x p=>exact(Z ht.1 e).elim
   | rcv a x p=>exact(Z ht.1 e).elim
   | tau p=>exact absurd (G (c:=126) e).2.1 hc1
   | res y p=>exact absurd (G (c:=35) e).2.1 hc2
   | mat y z p=>exact absurd (G (c:=91) e).2.1 hc3
   | rep p=>exact absurd (G (c:=42) e).2.1 hc4
   | sum p q=>exact absurd (G (c:=40) e).2.1 hc5
   | par p q=>exact absurd (G (c:=40) e).2.1 hc5
 induction n with
 | zero=>exact main 0 λm hm=>by omega
 | succ n ih=>exact main (n+1) λm hm=>(show n=m by omega)▸ih
def Ju:Shelf.Ren where
 f:=λx=>if x=137 then 168 else if x=217 then 210 else if x=266 then 232 else x
 t:=λx=>if x=3 then 3 else if x=5 then 5 else if x=9 then 9 else x
 g:=λx=>x
theorem HW:Lays.n137 Tryz.prog Ju where
 mixed:=Eq.refl true
 f137:=Lm Tryz.func168 (by kernel_rfl)
 f217:=Lm Tryz.func210 (by kernel_rfl)
 f266:=Lm Tryz.func232 (by kernel_rfl)
 t3:=Tryz.underlying3
 a3:=Tryz.isAgg3
 z3:=Tryz.sizeOf3
 v3:=Tryz.zeroValue3
 t5:=Tryz.underlying5
 a5:=Tryz.isAgg5
 z5:=Tryz.sizeOf5
 v5:=Tryz.zeroValue5
 t9:=Tryz.underlying9
 a9:=Tryz.isAgg9
 z9:=Tryz.sizeOf9
 v9:=Tryz.zeroValue9
theorem qs {s:Tx}{c:UInt8}{w:World}{R:Int->World->Prop}(h:R (Lib.indexByte s c) w):
  Calls Tryz.prog 168 #[.string (ab s),.int .u8 c.toNat] w (an [.i] R):=by
 refine(Any.strings_IndexByte HW (ab s) c.toNat w).mono ?_
 rintro e w' ⟨rfl,rfl⟩
 have G:UInt8.ofNat c.toNat=c:=by simp
 have z:(Int.toNat (c.toNat:Int)).toUInt8=c:=by simp
 rw [z];exact⟨_,rfl,h⟩
abbrev Lt (t:P):Prop:=t.Al λc=>lt c=true
abbrev yP (w:World):Nat->Prop:=λg=>w.heap.size<=g
theorem AN {s:Tx}(hs:s.length<=1099511627776){w:World}{R:Value->Bool->World->Prop}
  (hR:∀v q w',Ex w w'->(q=true->∃t:P,Lt t/\s=t.text/\aI (yP w) w' t v)->(q=false->∀t:P,Lt t->s≠t.text)->R v q w'):
  Calls Tryz.prog 123 #[.string (ab s)] w (an [.v,.b] R):=by
 refine uc s w R ?_;intro b w1 hb z;have Z:Ex w w1:=z▸Ex.alloc w _;have β:w1.heap.size=w.heap.size+1:=by rw [z,size_alloc]
 have h1:Rd w1 b s 0 false:=by
  refine⟨by omega,Ks _,?_,?_,?_,?_,?_⟩
  ·rw [z,hb];exact aa rfl
  ·rw [z,hb];exact aa rfl
  ·rw [z,hb];exact aa rfl
  ·rw [z,hb];unfold World.frozen? World.alloc;simp
  ·rw [z,hb];unfold World.frozen? World.alloc;simp
 have hT:uQ s (s.length+1):=G' s hs (s.length+1);refine hT h1 (λ _=>by omega) λv w2 j bad k2 I hr=>?_
 refine⟨λw'=>Ex w2 w',λw3 J=>⟨J▸Ex.drew w2,bad,λw' V=>(I.same V.size (V.block b I.lt)).c2,?_⟩⟩;have W:Ex w2 w3:=J▸Ex.drew w2;have hex:Ex w w3:=by
  exact Ex.trans (Ex.below Z (Kp.below (B:=w.heap.size) k2 (by omega) (λg hg e=>by omega))) W
 refine⟨λG=>?_,λG=>?_⟩
 ·have G:bad=false:=by simpa using G
  obtain⟨_,t,ht,e,α⟩:=hr.fine G;refine⟨j,λw' V=>(I.same V.size (V.block b I.lt)).c1,hR _ _ _ hex (λhd=>?_) λhd t' H e'=>?_⟩
  ·have hd:=J0 hd;have:s.drop j=[]:=Lc (by omega);rw [this,Ll,Kb]at e;exact⟨t,ht,e,aI.mono (λg hg=>by omega) (aI.kp (Kp.ah W λ _=>False) (λ _ _ h=>h) α)⟩
  ·have hd:=J1 hd;rw [Ll]at e;have e2:t'.text++[]=t.text++s.drop j:=by rw [Kb,<-e'];exact e
   obtain⟨_,e3⟩:=kZ H.wf ht.wf e2;have :=List.drop_eq_nil_iff.1 e3.symm;have :=I.le;omega
 ·have G:bad=true:=by simpa using G
  refine hR _ _ _ hex (λh=>by cases h) λ _ t' H e'=>?_
  have :=hr.good rfl ⟨t',[],H,by rw [Ll,Kb,e']⟩;rw [G]at this;cases this
theorem nD {t:P}(H:Lt t):cZ t.text↔t.text.length<=300/\t.size<=60:=by
 constructor
 ·rintro⟨z,u,G,I,h4⟩
  have :=eu G.wf H.wf I;subst this;exact⟨z,h4⟩
 ·rintro⟨z,G⟩
  exact⟨z,t,H,rfl,G⟩
theorem zq {s:Tx}{w:World}{R:Value->Bool->World->Prop}
  (I:∀v q w',Ex w w'->(q=true->cZ s/\∃t:P,Lt t/\s=t.text/\aI (yP w) w' t v)->(q=false->¬cZ s)->R v q w'):
  Calls Tryz.prog 79 #[.string (ab s)] w (an [.v,.b] R):=by
 refine vi s w R ?_;refine⟨λz=>?_,λz=>?_⟩
 ·have z:=J0 z;refine I _ _ _ (Ex.refl w) (λh=>by cases h) λ _ W=>?_
  have :=W.1;omega
 ·have z:=J1 z;refine AN (by omega) λv q w' V Z h2=>⟨λJ=>?_,λJ=>?_⟩
  ·obtain⟨t,G,e,H⟩:=Z J;have hs:=bs t;refine Gi t.size (JL _) H (by rw [<-e]at hs;omega) (I _ _ _ V (λhd=>?_) λhd=>?_)
   ·have hd:=J0 hd;exact⟨by rw [e];exact(nD G).2 ⟨by rw [<-e];omega,by omega⟩,t,G,e,H⟩
   ·have hd:=J1 hd;rw [e,nD G];omega
  ·exact I _ _ _ V (λh=>by cases h) λ _ ⟨_,t,G,e,_⟩=>h2 J t G e.symm
theorem xO {s:Tx}{w:World}{R:Bool->World->Prop}(z:∀q w',Ex w w'->(q=true↔cZ s)->R q w'):
  Calls Tryz.prog 238 #[.string (ab s)] w (an [.b] R):=by
 refine oY s w R ?_;refine zq λv q w' G H I=>z q w' G ⟨λh=>(H h).1,λh=>?_⟩
 cases q
 ·exact absurd h (I rfl)
 ·rfl
theorem EW {D:Nat->Prop}{t:P}{v:Value}{w:World}(h:aI D w t v){R:Bool->World->Prop}(z:R (decide (t.kind=63)||decide (t.kind=35)) w):
  Calls Tryz.prog 129 #[v] w (an [.b] R):=by
 refine mW v w R ?_;obtain⟨b,vs,l,rfl,I,J,H,h4,h5,V,W,Z⟩:=h.inv;refine⟨b,0,rfl,t.kind,H,λG=>⟨b,0,rfl,t.kind,H,?_⟩,λG=>?_⟩
 ·rw [G,Mc]at z;exact z
 ·rw [G,Bool.true_or]at z;exact z
def T.ev (p:P->Bool):P->Bool
 | .nil=>p .nil
 | .snd a b q=>p (.snd a b q)&&q.ev p
 | .rcv a b q=>p (.rcv a b q)&&q.ev p
 | .tau q=>p (.tau q)&&q.ev p
 | .sum q r=>p (.sum q r)&&(q.ev p&&r.ev p)
 | .par q r=>p (.par q r)&&(q.ev p&&r.ev p)
 | .res a q=>p (.res a q)&&q.ev p
 | .mat a b q=>p (.mat a b q)&&q.ev p
 | .rep q=>p (.rep q)&&q.ev p
theorem sN (p:P->Bool)(t:P):t.ev p=(p t&&t.parts.all (·.ev p)):=by cases t<;>simp [T.ev,T.parts]
def xV (f:Nat)(p:P->Bool):Prop:=dD.contains f=true/\∀{D:Nat->Prop} {t:P} {v:Value} {w:World} {R:Bool->World->Prop},aI D w t v->R (p t) w->Calls Tryz.prog f #[v] w (an [.b] R)
structure vN (w:World)(bo bh f:Nat)(q:Bool):Prop where
 lt:bo< w.heap.size
 lh:bh< w.heap.size
 ne:bh≠bo
 c:w.cell? ⟨bo,0,none⟩=some (.bool q)
 fr:w.frozen? ⟨bo,0,none⟩=false
 h:w.cell? ⟨bh,0,none⟩=some (.func (.func f) #[] #[])
theorem vN.set {w:World}{bo bh f:Nat}{q:Bool}(h:vN w bo bh f q)(x:Bool):vN (w.setCell ⟨bo,0,none⟩ (.bool x)) bo bh f x:=
 ⟨by rw [Ki];exact h.lt,by rw [Ki];exact h.lh,h.ne,JT _ _ _ h.c,by rw [JU];exact h.fr,by
  rw [JH _ _ _ _ (by have :=h.ne;simp [this])];exact h.h⟩
theorem GZ {f:Nat}{p:P->Bool}(I:xV f p){D:Nat->Prop}{t:P}{v:Value}{w:World}{bo bh:Nat}{q:Bool}(V:aI D w t v)(z:vN w bo bh f q){R:World->Prop}
  (J:∀w',Kr bo w w'->vN w' bo bh f (q&&p t)->R w'):Calls Tryz.prog 170 #[v,ptr bo,ptr bh] w (an [] R):=by
 refine nH v _ _ w R ?_;refine⟨bo,0,rfl,q,z.c,λH=>⟨bh,0,rfl,_,z.h,f,[],rfl,I.1,I.2 V ⟨bo,0,rfl,⟨⟨_,z.c⟩,z.fr⟩,λw' G=>?_⟩⟩,λH=>⟨bo,0,rfl,⟨⟨_,z.c⟩,z.fr⟩,λw' G=>?_⟩⟩
 ·subst G;refine J _ (Kr.set w 0 _) ?_;rw [H,Ln];exact z.set _
 ·subst G;refine J _ (Kr.set w 0 _) ?_;rw [H,MV];exact z.set _
theorem He {f:Nat}{p:P->Bool}(hp:xV f p):∀(n:Nat) {D:Nat->Prop} {t:P} {v:Value} {w:World} {bo bh:Nat} {q:Bool},t.size<=n->aI D w t v->(∀g,D g->¬g=bo)->vN w bo bh f q->∀{R:World->Prop},
  (∀w',Kr bo w w'->vN w' bo bh f (q&&t.ev p)->R w')->Calls Tryz.prog 169 #[v,.func (.func 170) #[] #[ptr bo,ptr bh]] w (an [] R):=by
 intro n
 induction n with
 | zero=>intro D t v w _ _ _ h;have :=a6 t;omega
 | succ n ih=>
  intro D t v w bo bh q hn ht I hs R hR;refine oT v _ w R ?_;refine⟨170,[ptr bo,ptr bh],rfl,by kernel_rfl,?_⟩;refine GZ hp ht hs λw1 k1 h1=>?_
  have J:=aI.kp k1 I ht;obtain⟨b,vs,l,rfl,g1,g2,g3,g4,g5,g6,g7,g8⟩:=J.inv;obtain⟨a,cap,hv⟩:=g7.slice;have e:=rW t;refine⟨b,0,rfl,vs,g6,a,_,cap,hv,λx w'=>∃i:Nat,x=i/\i<=l.length/\Kr bo w w'/\Kr bo w1 w'/\vN w' bo bh f ((q&&p t)&&(t.parts.take i).all (·.ev p)),λx _=>(l.length - x).toNat,⟨0,rfl,by omega,k1,Kr.refl _ _,by simpa using h1⟩,λx w2 hI=>?_⟩;obtain⟨i,rfl,hi,k2,V,W⟩:=hI;refine⟨λH=>?_,λH=>?_⟩
  ·have H:=J0 H;have z:i< l.length:=by omega
   have G:i< t.parts.length:=by rw [<-g8.1];exact z
   refine(g7.kp V I).get (i:=i) (x:=l[i]) (by omega) (by simp [z]) ?_;have Z:=g8.2 i _ _ (JC z) (JC G);have Z:=aI.kp V I Z;obtain⟨α,β⟩:=uv T.size t.parts G;have γ:=dS t;refine ih (by omega) Z I W λw4 k4 h4=>⟨by unfold aj;omega,⟨i+1,by omega,by omega,Kr.trans k2 k4,Kr.trans V k4,?_⟩,by dsimp only;omega⟩
   rw [JG G,L9,<-MW];simpa using h4
  ·have H:=J1 H;have:i=t.parts.length:=by rw [<-g8.1];omega
   subst this;rw [J3,MW,<-sN]at W;exact hR _ k2 W
theorem GG {f:Nat}{p:P->Bool}(hp:xV f p){D:Nat->Prop}{t:P}{v:Value}{w:World}(ht:aI D w t v)(hD:∀g,D g->g< w.heap.size){R:Bool->World->Prop}(hR:∀w',Ex w w'->R (t.ev p) w'):
  Calls Tryz.prog 126 #[v,.func (.func f) #[] #[]] w (an [.b] R):=by
 refine pv v _ w R ?_;refine⟨rfl,λb1 w1 J G b2 w2 H z=>?_⟩;have x1:Ex w w1:=G▸Ex.alloc w _;have V:Ex w1 w2:=z▸Ex.alloc w1 _;have s1:w1.heap.size=w.heap.size+1:=by rw [G,size_alloc]
 have s2:w2.heap.size=w1.heap.size+1:=by rw [z,size_alloc]
 have c2:w2.cell? ⟨b2,0,none⟩=some (.bool false):=by rw [z,H];exact aa rfl
 have f2:w2.frozen? ⟨b2,0,none⟩=false:=by rw [z,H];unfold World.frozen? World.alloc;simp
 have c1:w2.cell? ⟨b1,0,none⟩=some (.func (.func f) #[] #[]):=by
  rw [V.cell (show b1< _ by omega),G,J];exact aa rfl
 have hA:vN w2 b2 b1 f false:=⟨by omega,by omega,by omega,c2,f2,c1⟩
 refine⟨⟨⟨_,c2⟩,f2⟩,λw3 W=>?_⟩;subst W;have Z:aI D w2 t v:=aI.kp (Kp.ah (Ex.trans x1 V) λ _=>False) (λ _ _ h=>h) ht;have I:∀g,D g->¬g=b2:=λg hg e=>by have :=hD g hg;omega
 have α:aI D (w2.setCell ⟨b2,0,none⟩ (.bool true)) t v:=aI.kp (Kr.set w2 0 _) I Z;refine He hp t.size (JL _) α I (hA.set true) λw4 k4 h4=>⟨_,h4.c,?_⟩
 rw [Ln];exact hR w4 (Ex.below (Ex.trans x1 V) (Kp.below (B:=w.heap.size) (Kr.trans (Kr.set w2 0 _) k4) (by omega) λg hg e=>by omega))
def T.gd1:P->Bool
 | .sum p q=>p.gp&&q.gp
 | _=>true
def T.rp1:P->Bool
 | .rep p=>p.isR
 | _=>true
theorem eA:∀t:P,t.smp=(t.ev T.gd1&&t.ev T.rp1)
 | .nil=>rfl
 | .snd _ _ p=>by have :=eA p;simp [T.smp,T.ev,T.gd1,T.rp1,this]
 | .rcv _ _ p=>by have :=eA p;simp [T.smp,T.ev,T.gd1,T.rp1,this]
 | .tau p=>by have :=eA p;simp [T.smp,T.ev,T.gd1,T.rp1,this]
 | .res _ p=>by have :=eA p;simp [T.smp,T.ev,T.gd1,T.rp1,this]
 | .mat _ _ p=>by have :=eA p;simp [T.smp,T.ev,T.gd1,T.rp1,this]
 | .rep p=>by have :=eA p;simp only [T.smp,T.ev,T.gd1,T.rp1,this,Ln];cases p.isR<;>simp
 | .par p q=>by have :=eA p;have h:=eA q;simp only [T.smp,T.ev,T.gd1,T.rp1,this,h,Ln];ac_rfl
 | .sum p q=>by have :=eA p;have h:=eA q;simp only [T.smp,T.ev,T.gd1,T.rp1,this,h,Ln];ac_rfl
theorem Ek (t:P):decide (0<=Lib.indexByte [33,63,126,43,48] t.kind)=t.gp:=by cases t<;>rfl
theorem y5:xV 167 T.gd1:=by
 refine⟨by kernel_rfl,λ{D t v w R} I z=>?_⟩;refine jT v w R ?_;obtain⟨b,vs,l,rfl,g1,g2,g3,g4,g5,g6,g7,g8⟩:=I.inv;refine⟨b,0,rfl,_,g3,λH=>?_,λH=>?_⟩
 ·obtain⟨p,q,rfl⟩:∃p q,t= .sum p q:=by cases t<;>simp [T.kind]at H|-
  have J:l.length=2:=g8.1;obtain⟨x,y,rfl⟩:∃x y,l=[x,y]:=by
   match l,J with
   | [x,y],_=>exact⟨x,y,rfl⟩
  have V:=g8.2 0 x p rfl rfl;have W:=g8.2 1 y q rfl rfl;obtain⟨b1,_,_,Z,_,_,i1,_⟩:=V.inv;obtain⟨b2,_,_,e2,_,_,i2,_⟩:=W.inv;refine⟨b,0,rfl,vs,g6,g7.get (i:=0) (x:=x) (by omega) rfl ⟨b1,0,Z,_,i1,qs ⟨λG=>⟨b,0,rfl,vs,g6,g7.get (i:=1) (x:=y) (by omega) rfl ⟨b2,0,e2,_,i2,qs ?_⟩⟩,λG=>?_⟩⟩⟩
  ·rw [Ek]at G|-;rw [T.gd1,G]at z;exact z
  ·rw [Ek]at G;rw [T.gd1,G]at z;exact z
 ·have:T.gd1 t=true:=by cases t<;>first | rfl | simp [T.kind]at H
  rw [this]at z;exact z
theorem BI:xV 127 T.rp1:=by
 refine⟨by kernel_rfl,λ{D t v w R} H z=>?_⟩;refine j0 v w R ?_;obtain⟨b,vs,l,rfl,g1,g2,g3,g4,g5,g6,g7,g8⟩:=H.inv;refine⟨b,0,rfl,_,g3,λG=>?_,λG=>?_⟩
 ·obtain⟨p,rfl⟩:∃p,t= .rep p:=by cases t<;>simp [T.kind]at G|-
  have I:l.length=1:=g8.1;obtain⟨x,rfl⟩:∃x,l=[x]:=by
   match l,I with
   | [x],_=>exact⟨x,rfl⟩
  have J:=g8.2 0 x p rfl rfl;obtain⟨b1,_,_,V,_,_,i1,_⟩:=J.inv;refine⟨b,0,rfl,vs,g6,g7.get (i:=0) (x:=x) (by omega) rfl ⟨b1,0,V,_,i1,?_⟩⟩;have:decide (p.kind=63)=p.isR:=by cases p<;>rfl
  show R (decide (p.kind=63)) _;rw [this];exact z
 ·have:T.rp1 t=true:=by cases t<;>first | rfl | simp [T.kind]at G
  rw [this]at z;exact z
theorem ye {D:Nat->Prop}{t:P}{v:Value}{w:World}(H:aI D w t v)(I:∀g,D g->g< w.heap.size){R:Bool->World->Prop}(J:∀w',Ex w w'->R t.smp w'):
  Calls Tryz.prog 80 #[v] w (an [.b] R):=by
 refine mv v w R ?_;refine kU v w _ ?_;refine GG y5 H I λw1 z=>⟨λG=>?_,λG=>?_⟩
 ·refine GG BI (aI.kp (Kp.ah z λ _=>False) (λ _ _ h=>h) H) (λg V=>by have :=I g V;have :=z.size;omega) λw2 W=>?_
  have :=J w2 (Ex.trans z W);rw [eA,G,Ln]at this;exact this
 ·have :=J w1 z;rw [eA,G,MV]at this;exact this
theorem aI.bound {D:Nat->Prop}{w:World}:∀{t:P} {v:Value},aI D w t v->aI (λg=>D g/\g< w.heap.size) w t v:=by
 have key:∀{v:Value} {k a c:UInt8} {K V:List Value->Prop},fe D w v k a c K->(∀l,K l->V l)->fe (λg=>D g/\g< w.heap.size) w v k a c V:=by
  rintro v k a c K V ⟨b,vs,l,z,G,J,h4,h5,W,Z,h8,h9⟩ hK
  refine⟨b,vs,l,z,⟨G,J⟩,J,h4,h5,W,Z,?_,hK l h9⟩;rcases h8 with h | ⟨b',off,cap,i1,i2,i3,i4⟩
  ·exact .inl h
  ·exact .inr ⟨b',off,cap,i1,⟨i2,i3⟩,i3,i4⟩
 intro t
 induction t with
 | nil=>exact λh=>key h λ _ h=>h
 | snd _ _ p H=>exact λh=>key h λ _ ⟨x,z,G⟩=>⟨x,z,H G⟩
 | rcv _ _ p H=>exact λh=>key h λ _ ⟨x,z,G⟩=>⟨x,z,H G⟩
 | tau p H=>exact λh=>key h λ _ ⟨x,z,G⟩=>⟨x,z,H G⟩
 | res _ p H=>exact λh=>key h λ _ ⟨x,z,G⟩=>⟨x,z,H G⟩
 | mat _ _ p H=>exact λh=>key h λ _ ⟨x,z,G⟩=>⟨x,z,H G⟩
 | rep p H=>exact λh=>key h λ _ ⟨x,z,G⟩=>⟨x,z,H G⟩
 | sum p q H I=>exact λh=>key h λ _ ⟨x,y,z,G,J⟩=>⟨x,y,z,H G,I J⟩
 | par p q H I=>exact λh=>key h λ _ ⟨x,y,z,G,J⟩=>⟨x,y,z,H G,I J⟩
theorem vY {s:Tx}{w:World}{R:Value->Bool->World->Prop}
  (V:∀v q w',Ex w w'->(q=true->cZ s/\∃t:P,Lt t/\s=t.text/\t.smp=true/\aI (yP w) w' t v)->(q=false->∀t:P,cZ s->Lt t->s=t.text->t.smp=false)->R v q w'):
  Calls Tryz.prog 67 #[.string (ab s)] w (an [.v,.b] R):=by
 refine nA s w R ?_;refine zq λv q w1 W h1 h2=>⟨λH=>?_,λH=>?_⟩
 ·obtain⟨z,t,Z,e,G⟩:=h1 H;refine ye G.bound (λg z=>z.2) λw2 x2=>V _ _ _ (Ex.trans W x2) (λI=>⟨z,t,Z,e,I,?_⟩) λI t' _ J e'=>?_
  ·exact aI.kp (Kp.ah x2 λ _=>False) (λ _ _ h=>h) G
  ·have :=eu J.wf Z.wf (e'.symm.trans e);subst this;exact I
 ·exact V _ _ _ W (λh=>by cases h) λ _ t z _ _=>absurd z (h2 H)
end Go.Proofs.YtdecokaadekjnaaGreat
namespace Go.Proofs.YtdecokaadekjnaaGreat
open Go
set_option maxRecDepth 100000
theorem oJ (w:World)(R:Value->World->Prop)(h:aQ w (.cells #[(.int .i64 0),(.int .i64 0),(.int .i64 0),(.int .i64 0),(.int .i64 0),(.int .i64 0),(.int .i64 0),(.int .i64 0),(.int .i64 0),(.int .i64 0),(.int .i64 0),(.int .i64 0),(.int .i64 0),(.int .i64 0),(.int .i64 0),(.int .i64 0),(.int .i64 0),(.int .i64 0),(.int .i64 0),(.int .i64 0),(.int .i64 0),(.int .i64 0),(.int .i64 0),(.int .i64 0),(.int .i64 0),(.int .i64 0)] 150) λb1 w2=>aQ w2 (.cells #[(.int .i64 0),(.int .i64 0),(.int .i64 0),(.int .i64 0),(.int .i64 0),(.int .i64 0),(.int .i64 0),(.int .i64 0),(.int .i64 0),(.int .i64 0),(.int .i64 0),(.int .i64 0),(.int .i64 0),(.int .i64 0),(.int .i64 0),(.int .i64 0),(.int .i64 0),(.int .i64 0),(.int .i64 0),(.int .i64 0),(.int .i64 0),(.int .i64 0),(.int .i64 0),(.int .i64 0),(.int .i64 0),(.int .i64 0)] 150) λb3 Z=>vE Z b3 0 26 [(.int .i64 0),(.int .i64 0),(.int .i64 0),(.int .i64 0),(.int .i64 0),(.int .i64 0),(.int .i64 0),(.int .i64 0),(.int .i64 0),(.int .i64 0),(.int .i64 0),(.int .i64 0),(.int .i64 0),(.int .i64 0),(.int .i64 0),(.int .i64 0),(.int .i64 0),(.int .i64 0),(.int .i64 0),(.int .i64 0),(.int .i64 0),(.int .i64 0),(.int .i64 0),(.int .i64 0),(.int .i64 0),(.int .i64 0)] λw5=>fJ 0 w5 λI6 W z V=>ai (decide (z< 26)) ((0<=(z:Int)/\(z:Int)< (26:Nat))/\bf V b3 (0+z.toNat* 1) (.int .i64 z) λI=>aj (z+1)/\I6 (z+1) I/\W (z+1) I< W z V) (∃G:List Value,G.length=26/\(∀j,j< 26->World.cell? V ⟨b3,0+j,none⟩=G[j]?)/\vE V b1 0 26 G λJ=>∃H:List Value,H.length=26/\(∀j,j< 26->World.cell? J ⟨b1,0+j,none⟩=H[j]?)/\R ((.agg (List.toArray H))) J)):
  Calls Tryz.prog 138 #[] w (an [.v] R):=
 aY (aZ [(3,[(4,.i)])] [] []) [.agg 0 150] [] Tryz.func138 (by kernel_rfl) h
theorem kz (z:Value)(w:World)(R:Int->World->Prop)(h:az z λb2 V=>oH w b2 (V+0) λI=>aj (I+1)/\az z λb5 W=>bf w b5 (W+0) (.int .i64 (I+1)) λJ=>az z λb9 H=>oH J b9 (H+0) λG=>aj (G+100)/\R (G+100) J):
  Calls Tryz.prog 178 #[z] w (an [.i] R):=
 aY (aZ [] [] []) [.tmp 2 .i] [.v z] Tryz.func178 (by kernel_rfl) h
theorem kF (z:Value)(W:Value)(w:World)(R:World->Prop)(h:bL w λG w4=>az z λb5 o6=>cC G b5 (o6+0) λv7=>az W λb8 o9=>cC G b8 (o9+0) λv10=>az z λZ α=>cC G Z (α+1) λβ=>az W λγ δ=>cC G γ (δ+1) λε=>eE 3 1 8 w4 v7 v10 λH I=>G I/\eE 156 1 8 I β ε λJ V=>G V/\az z λζ η=>oneV H=true/\bf V ζ (η+0) H λθ=>az z λι κ=>oneV J=true/\bf θ ι (κ+1) J λμ=>R μ):
  Calls Tryz.prog 179 #[z,W] w (an [] R):=
 aY (aZ [] [] [0]) [] [.v z,.v W] Tryz.func179 (by kernel_rfl) h
theorem nV (m1:Value)(t2:Value)(e3:Value)(w:World)(R:Value->World->Prop)(h:∃c4:List Value,e3= .agg (List.toArray c4)/\aQ w (.cells (List.toArray c4) 150) λb5 w6=>az t2 λb7 o8=>fR w6 b7 (o8+0) λc9=>aQ w6 (.cells #[(.int .u8 c9.toNat),(.int .i64 0),(.int .i64 0),(.pointer none),(.slice none 0 0)] 201) λb10 J=>∃ο:World->Prop,(az t2 λb13 o14=>fR J b13 (o14+1) λc15=>ai (!decide (c15=0)) (az t2 λb16 o17=>fR J b16 (o17+1) λc18=>(0<=((UInt8.toNat (c18 - 97:UInt8):Int):Int)/\((UInt8.toNat (c18 - 97:UInt8):Int):Int)< (26:Nat))/\oH J b5 (0+Int.toNat (UInt8.toNat (c18 - 97:UInt8):Int)* 1) λn19=>bf J b10 1 (.int .i64 n19) λw21=>ο w21) (ο J))/\∀(w22:World),ο w22->∃ς:World->Prop,(bO 129 #[t2] w22 λq24 w25=>ai q24 (bL w25 λS26 w27=>az t2 λb28 o29=>H8 S26 b28 (o29+2) λc30=>gn 178 #[m1] w27 λn31 kf=>S26 kf/\(0<=((UInt8.toNat (c30 - 97:UInt8):Int):Int)/\((UInt8.toNat (c30 - 97:UInt8):Int):Int)< (26:Nat))/\bf kf b5 (0+Int.toNat (UInt8.toNat (c30 - 97:UInt8):Int)* 1) (.int .i64 n31) λw34=>ς w34) (ς w25))/\∀(I:World),ς I->∃υ:World->Prop,(az t2 λb37 o38=>fR I b37 (o38+2) λc39=>ai (!decide (c39=0)) (az t2 λb40 o41=>fR I b40 (o41+2) λφ=>(0<=((UInt8.toNat (φ - 97:UInt8):Int):Int)/\((UInt8.toNat (φ - 97:UInt8):Int):Int)< (26:Nat))/\oH I b5 (0+Int.toNat (UInt8.toNat (φ - 97:UInt8):Int)* 1) λn43=>bf I b10 2 (.int .i64 n43) λw45=>υ w45) (υ I))/\∀(w46:World),υ w46->aQ w46 (.cells #[(.slice none 0 0),(.slice none 0 0)] 155) λb47 G=>∃χ:World->Prop,(az t2 λb50 o51=>fR G b50 (o51+0) λδ=>ai (decide (δ=48)) (R ((.pointer (some ⟨b47,0,none⟩))) G) (ai (decide (δ=38)) (bL G λV w54=>az t2 λb55 o56=>cC V b55 (o56+3) λv57=>aH v57 0 λb58 o59=>cC V b58 (o59+Int.toNat 0* 1) λv62=>∃ψ:List Value,ψ.length=26/\(∀w',V w'->∀j,j< 26->World.cell? w' ⟨b5,0+j,none⟩=ψ[j]?)/\bW 137 #[m1,v62,(.agg (List.toArray ψ))] w54 λv64 w65=>V w65/\fC 179 #[(.pointer (some ⟨b47,0,none⟩)),v64] w65 λw66=>V w66/\bL w66 λW w68=>az t2 λb69 o70=>cC W b69 (o70+3) λv71=>aH v71 1 λb72 o73=>cC W b72 (o73+Int.toNat 1* 1) λv76=>∃ω:List Value,ω.length=26/\(∀w',W w'->∀j,j< 26->World.cell? w' ⟨b5,0+j,none⟩=ω[j]?)/\bW 137 #[m1,v76,(.agg (List.toArray ω))] w68 λv78 w79=>W w79/\fC 179 #[(.pointer (some ⟨b47,0,none⟩)),v78] w79 λw80=>W w80/\R ((.pointer (some ⟨b47,0,none⟩))) w80) (ai (decide (δ=35)) (oH G b10 2 λn81=>aQ G (.cells #[(.int .i64 n81)] 3) λb82 w83=>oneV (.slice (some ⟨b82,0,none⟩) 1 1)=true/\bf w83 b47 0 (.slice (some ⟨b82,0,none⟩) 1 1) λw85=>bL w85 λZ w87=>az t2 λb88 o89=>cC Z b88 (o89+3) λv90=>aH v90 0 λb91 o92=>cC Z b91 (o92+Int.toNat 0* 1) λv95=>∃c96:List Value,c96.length=26/\(∀w',Z w'->∀j,j< 26->World.cell? w' ⟨b5,0+j,none⟩=c96[j]?)/\bW 137 #[m1,v95,(.agg (List.toArray c96))] w87 λv97 w98=>Z w98/\fC 179 #[(.pointer (some ⟨b47,0,none⟩)),v97] w98 λw99=>Z w99/\R ((.pointer (some ⟨b47,0,none⟩))) w99) (ai (decide (δ=43)) (bL G λz w101=>az t2 λb102 o103=>cC z b102 (o103+3) λv104=>aH v104 0 λb105 o106=>cC z b105 (o106+Int.toNat 0* 1) λv109=>∃α:List Value,α.length=26/\(∀w',z w'->∀j,j< 26->World.cell? w' ⟨b5,0+j,none⟩=α[j]?)/\az t2 λb111 o112=>cC z b111 (o112+3) λv113=>aH v113 1 λb114 o115=>cC z b114 (o115+Int.toNat 1* 1) λv118=>∃β:List Value,β.length=26/\(∀w',z w'->∀j,j< 26->World.cell? w' ⟨b5,0+j,none⟩=β[j]?)/\bW 137 #[m1,v109,(.agg (List.toArray α))] w101 λε ζ=>z ζ/\bW 137 #[m1,v118,(.agg (List.toArray β))] ζ λη θ=>z θ/\oneV ε=true/\oneV η=true/\aQ θ (.cells #[ε,η] 146) λι κ=>z κ/\oneV (.slice (some ⟨ι,0,none⟩) 2 2)=true/\bf κ b10 4 (.slice (some ⟨ι,0,none⟩) 2 2) λw127=>χ w127) (bL G λH w129=>az t2 λb130 o131=>cC H b130 (o131+3) λv132=>aH v132 0 λb133 o134=>cC H b133 (o134+Int.toNat 0* 1) λv137=>∃γ:List Value,γ.length=26/\(∀w',H w'->∀j,j< 26->World.cell? w' ⟨b5,0+j,none⟩=γ[j]?)/\bW 137 #[m1,v137,(.agg (List.toArray γ))] w129 λv139 μ=>H μ/\oneV v139=true/\bf μ b10 3 v139 λw142=>χ w142)))))/\∀(ν:World),χ ν->aQ ν (.cells #[(.pointer (some ⟨b10,0,none⟩))] 156) λξ w145=>oneV (.slice (some ⟨ξ,0,none⟩) 1 1)=true/\bf w145 b47 1 (.slice (some ⟨ξ,0,none⟩) 1 1) λw147=>R ((.pointer (some ⟨b47,0,none⟩))) w147):
  Calls Tryz.prog 137 #[m1,t2,e3] w (an [.v] R):=
 aY (aZ [] [(4,[]),(6,[]),(8,[]),(23,[])] [5,10,14,15,19,22]) [.tmp 6 .v] [.v m1,.v t2,.v e3] Tryz.func137 (by kernel_rfl) h
end Go.Proofs.YtdecokaadekjnaaGreat
namespace Go.Proofs.YtdecokaadekjnaaGreat
open Go Go.RowKit
abbrev iv (n:Nat):Value:= .int .i64 n
def K.byte:K->UInt8
 | .s=>33 | .r=>63 | .t=>126 | .m=>61 | .p=>42
theorem ec.sub {D E:Nat->Prop}{w:World}{v:Value}{l:List Value}(h:ec D w v l)(hd:∀g,g< w.heap.size->D g->E g):ec E w v l:=by
 rcases h with h | ⟨b,off,cap,G,H,z,h4⟩
 ·exact .inl h
 ·exact .inr ⟨b,off,cap,G,hd b z H,z,h4⟩
def fS (D:Nat->Prop)(w:World)(v:Value)(o:List Nat)(K:List Value->Prop):Prop:=
 ∃b vo vt ts,v=ptr b/\D b/\b< w.heap.size/\w.cell? ⟨b,0,none⟩=some vo/\w.cell? ⟨b,1,none⟩=some vt/\ec D w vo (o.map iv)/\ec D w vt ts/\K ts
def ED (D:Nat->Prop)(w:World)(v:Value)(k:UInt8)(a b:Nat)(vr vp:Value):Prop:=
 ∃g,v=ptr g/\D g/\g< w.heap.size/\w.cell? ⟨g,0,none⟩=some (.int .u8 k.toNat)/\w.cell? ⟨g,1,none⟩=some (iv a)/\w.cell? ⟨g,2,none⟩=some (iv b)/\w.cell? ⟨g,3,none⟩=some vr/\w.cell? ⟨g,4,none⟩=some vp
def af (D:Nat->Prop)(w:World):Lv->List Value->Prop
 | .nil,ts=>ts=[]
 | .thr k a b o r n,ts=>∃t z a' G vr,ts=t::z/\ED D w t k.byte a' G vr (.slice none 0 0)/\(k= .t\/k= .p\/(a'=a/\G=b))/\fS D w vr o (af D w r)/\af D w n z
 | .sum H n,ts=>∃t z a' G vp us,ts=t::z/\ED D w t 43 a' G (.pointer none) vp/\ec D w vp us/\af D w H us/\af D w n z
 | .part o q n,ts=>∃v z,ts=v::z/\fS D w v o (af D w q)/\af D w n z
def aB (D:Nat->Prop)(w:World)(L:List Nat×Lv)(v:Value):Prop:=fS D w v L.1 (af D w L.2)
section
variable {D E S:Nat->Prop} {w w':World}
theorem fS.kp {v:Value}{o:List Nat}{K G:List Value->Prop}(h:fS D w v o K)(k:Kp w w' S)(z:∀g,D g->¬S g)(J:∀l,K l->G l):fS D w' v o G:=by
 obtain⟨b,vo,vt,ts,V,H,I,h4,h5,W,Z,h8⟩:=h;have hb:=k.block b I (z b H);refine⟨b,vo,vt,ts,V,H,J2 I k.size,?_,?_,W.kp k z,Z.kp k z,J _ h8⟩<;>rw [JB (w:=w) hb]<;>assumption
theorem fS.sub {v:Value}{o:List Nat}{K z:List Value->Prop}(h:fS D w v o K)(hd:∀g,g< w.heap.size->D g->E g)(H:∀l,K l->z l):fS E w v o z:=by
 obtain⟨b,vo,vt,ts,I,J,G,h4,h5,V,W,Z⟩:=h;exact⟨b,vo,vt,ts,I,hd b G J,G,h4,h5,V.sub hd,W.sub hd,H _ Z⟩
theorem ED.kp {v:Value}{k:UInt8}{a b:Nat}{vr vp:Value}(h:ED D w v k a b vr vp)(kp:Kp w w' S)(H:∀g,D g->¬S g):ED D w' v k a b vr vp:=by
 obtain⟨g,I,z,G,h4,h5,J,V,W⟩:=h;have hb:=kp.block g G (H g z);refine⟨g,I,z,J2 G kp.size,?_,?_,?_,?_,?_⟩<;>rw [JB (w:=w) hb]<;>assumption
theorem ED.sub {v:Value}{k:UInt8}{a b:Nat}{vr vp:Value}(h:ED D w v k a b vr vp)(hd:∀g,g< w.heap.size->D g->E g):ED E w v k a b vr vp:=by
 obtain⟨g,G,H,z,h4,h5,I,J,V⟩:=h;exact⟨g,G,hd g z H,z,h4,h5,I,J,V⟩
theorem af.kp (k:Kp w w' S)(z:∀g,D g->¬S g):∀{l:Lv} {ts:List Value},af D w l ts->af D w' l ts
 | .nil,_,h=>h
 | .thr _ _ _ _ r n,_,⟨t,G,a',V,vr,H,I,J,h4,h5⟩=>⟨t,G,a',V,vr,H,I.kp k z,J,h4.kp k z λ _ h=>af.kp k z (l:=r) h,af.kp k z (l:=n) h5⟩
 | .sum W n,_,⟨t,G,a',V,vp,us,H,I,J,h4,h5⟩=>⟨t,G,a',V,vp,us,H,I.kp k z,J.kp k z,af.kp k z (l:=W) h4,af.kp k z (l:=n) h5⟩
 | .part o q n,_,⟨v,G,H,I,J⟩=>⟨v,G,H,I.kp k z λ _ h=>af.kp k z (l:=q) h,af.kp k z (l:=n) J⟩
theorem af.sub (hd:∀g,g< w.heap.size->D g->E g):∀{l:Lv} {ts:List Value},af D w l ts->af E w l ts
 | .nil,_,h=>h
 | .thr _ _ _ _ r n,_,⟨t,z,a',J,vr,G,H,I,h4,h5⟩=>⟨t,z,a',J,vr,G,H.sub hd,I,h4.sub hd λ _ h=>af.sub hd (l:=r) h,af.sub hd (l:=n) h5⟩
 | .sum V n,_,⟨t,z,a',J,vp,us,G,H,I,h4,h5⟩=>⟨t,z,a',J,vp,us,G,H.sub hd,I.sub hd,af.sub hd (l:=V) h4,af.sub hd (l:=n) h5⟩
 | .part o q n,_,⟨v,z,G,H,I⟩=>⟨v,z,G,H.sub hd λ _ h=>af.sub hd (l:=q) h,af.sub hd (l:=n) I⟩
theorem aB.kp {L:List Nat×Lv}{v:Value}(h:aB D w L v)(k:Kp w w' S)(z:∀g,D g->¬S g):aB D w' L v:=fS.kp h k z λ _ h=>af.kp k z h
theorem aB.sub {L:List Nat×Lv}{v:Value}(h:aB D w L v)(hd:∀g,g< w.heap.size->D g->E g):aB E w L v:=fS.sub h hd λ _ h=>af.sub hd h
theorem aB.ex {L:List Nat×Lv}{v:Value}(h:aB D w L v)(x:Ex w w'):aB D w' L v:=h.kp (Kp.ah x λ _=>False) λ _ _ h=>h
theorem af.ex {l:Lv}{ts:List Value}(h:af D w l ts)(x:Ex w w'):af D w' l ts:=af.kp (Kp.ah x λ _=>False) (λ _ _ h=>h) h
theorem af.app:∀{l m:Lv} {ts us:List Value},af D w l ts->af D w m us->af D w (l.app m) (ts++us)
 | .nil,_,_,_,h,G=>by cases h;exact G
 | .thr _ _ _ _ r n,_,_,_,⟨t,z,a',V,vr,H,I,J,h4,h5⟩,G=>⟨t,z++_,a',V,vr,by rw [H];rfl,I,J,h4,af.app (l:=n) h5 G⟩
 | .sum W n,_,_,_,⟨t,z,a',V,vp,us,H,I,J,h4,h5⟩,G=>⟨t,z++_,a',V,vp,us,by rw [H];rfl,I,J,h4,af.app (l:=n) h5 G⟩
 | .part o q n,_,_,_,⟨v,z,H,I,J⟩,G=>⟨v,z++_,by rw [H];rfl,I,af.app (l:=n) J G⟩
theorem af.len:∀{l:Lv} {ts:List Value},af D w l ts->ts.length=l.len
 | .nil,_,h=>by cases h;rfl
 | .thr _ _ _ _ r n,_,⟨t,z,a',J,vr,G,I,H,h4,h5⟩=>by rw [G,JA,af.len (l:=n) h5,Lv.len]
 | .sum V n,_,⟨t,z,a',J,vp,us,G,I,H,h4,h5⟩=>by rw [G,JA,af.len (l:=n) h5,Lv.len]
 | .part o q n,_,⟨v,z,G,I,H⟩=>by rw [G,JA,af.len (l:=n) H,Lv.len]
end
def aD (e:Nat)(B:Nat)(w:World)(v:Value)(l:List Value):Prop:=w.ownsRow B e 1 v l.length l
theorem aD.nil (e B:Nat)(w:World):aD e B w (.slice none 0 0) []:=World.ownsRow_nil _ _ _ _
theorem aD.block {e B:Nat}{w:World}{v:Value}{l:List Value}(h:aD e B w v l):∀b,v.ownBlock=some b->B<=b/\b< w.heap.size:=MH h
theorem aD.mono {e B z:Nat}{w:World}{v:Value}{l:List Value}(h:aD e B w v l)(hb:z<=B):aD e z w v l:=MR h hb
theorem aD.kp {e B:Nat}{w w':World}{S:Nat->Prop}{v:Value}{l:List Value}(h:aD e B w v l)(k:Kp w w' S)(G:∀g,v.ownBlock=some g->¬S g):aD e B w' v l:=by
 refine⟨h.1,?_⟩;rcases h.2 with H | ⟨g,cap,cur,rfl,hb,z,rest⟩
 ·exact .inl H
 ·exact .inr ⟨g,cap,cur,rfl,hb,by rw [k.block g (Kj.1 z).1 (G g rfl)];exact z,rest⟩
theorem aD.Cg {e B:Nat}{w:World}{v:Value}{l:List Value}(h:aD e B w v l){D:Nat->Prop}(H:∀g,v.ownBlock=some g->D g):ec D w v l:=by
 rcases h.2 with⟨rfl,I⟩ | ⟨g,cap,cur,rfl,hb,z,V,W,Z,h4⟩
 ·exact .inl ⟨rfl,J6 I⟩
 ·refine .inr ⟨g,0,cap,rfl,H g rfl,(Kj.1 z).1,λi x G=>?_⟩;unfold World.cell?;simp only [z,J'];have e:=KO (λl=>l[i]?) h4;obtain⟨J,_⟩:=Ky.1 G;simp only [Kc,L5,J,Ls,G]at e;rw [<-Lg];exact e
theorem aD.one {e:Nat}{w w':World}{B b:Nat}{x:Value}(hB:B<=w.heap.size)(hb:b=w.heap.size)(h:w'=w.alloc (.cells #[x] e)):aD e B w' (.slice (some ⟨b,0,none⟩) 1 1) [x]:=by
 subst hb h;refine⟨rfl,.inr ⟨_,1,#[x],rfl,hB,?_,by simp,by unfold maxLen;omega,rfl,rfl⟩⟩;unfold World.alloc;simp
theorem aD.push {e B by_:Nat}{w:World}{v:Value}{l:List Value}(h:aD e B w v l)(hB:B<=w.heap.size){D:Nat->Prop}{x:Value}{m:List Value}(G:ec D w x m)(hm:m.all oneV=true)(z:by_<=16)(H:l.length+m.length<=1099511627776){K:Value->World->Prop}
  (I:∀v' w',aD e B w' v' (l++m)->w.grownBy w' v.ownBlock->(∀b,v'.ownBlock=some b->v.ownBlock=some b\/w.heap.size<=b)->K v' w'):
  ∃(base n k:Nat) (xs news:List Value),World.ownsRow w base e 1 v n xs/\base<=Array.size (World.heap w)/\dN w x k 1 news/\(n+k<=maxLen/\(n+k)* by_<=140737488355328)/\
   ∀(v':Value) (w':World),World.ownsRow w' base e 1 v' (n+k) (xs++news)->World.grownBy w w' (Value.ownBlock v)->(∀b:Nat,Value.ownBlock v'=some b->Value.ownBlock v=some b\/Array.size (World.heap w)<=b)->K v' w':=by
 refine⟨B,l.length,m.length,l,m,h,hB,?_,⟨by unfold maxLen;omega,?_⟩,λv' w' J V hw=>I v' w' ?_ V hw⟩
 ·refine⟨by simp,hm,?_⟩;rcases G with⟨rfl,rfl⟩ | ⟨b,off,cap,rfl,_,hb,W⟩
  ·exact .inl ⟨rfl,rfl⟩
  ·exact .inr ⟨b,off,cap,rfl,W⟩
 ·have:(l.length+m.length)* by_<=1099511627776* 16:=MU H z;omega
 ·unfold aD;rw [JJ];exact J
theorem Kp.aP {w w':World}{row:Option Nat}{S:Nat->Prop}(z:w.grownBy w' row)(hr:∀g,row=some g->S g):Kp w w' S:=
 ⟨z.os,z.tape,z.output,z.size,λg G H=>z.block g G λe=>H (hr g e.symm)⟩
theorem Kp.mono {w w':World}{S T:Nat->Prop}(z:∀g,S g->T g)(h:Kp w w' S):Kp w w' T:=⟨h.os,h.tape,h.output,h.size,λg G H=>h.block g G λe=>H (z g e)⟩
structure jZ (B:Nat)(w:World)(b:Nat)(o:List Nat)(ts:List Value)(M:Nat->Prop):Prop where
 lt:b< w.heap.size
 le:B<=b
 mb:M b
 mr:∀g,M g->B<=g/\g< w.heap.size
 fr:∀j,w.frozen? ⟨b,j,none⟩=false
 sl:∃vo vt,w.cell? ⟨b,0,none⟩=some vo/\w.cell? ⟨b,1,none⟩=some vt/\aD 3 B w vo (o.map iv)/\aD 156 B w vt ts/\(∀g,vo.ownBlock=some g->M g/\g≠b)/\(∀g,vt.ownBlock=some g->M g/\g≠b)/\∀g,vo.ownBlock=some g->vt.ownBlock≠some g
theorem jZ.kp {B:Nat}{w w':World}{b:Nat}{o:List Nat}{ts:List Value}{M S:Nat->Prop}(h:jZ B w b o ts M)(k:Kp w w' S)(G:∀g,M g->¬S g):jZ B w' b o ts M:=by
 obtain⟨I,V,J,hr,h4,vo,vt,h5,h6,W,Z,h9,h10,H⟩:=h;have hb:=k.block b I (G b J);refine⟨J2 I k.size,V,J,λg z=>⟨(hr g z).1,J2 (hr g z).2 k.size⟩,λj=>by rw [J8 (w:=w) hb];exact h4 j,vo,vt,?_,?_,W.kp k λg z=>G g (h9 g z).1,Z.kp k λg z=>G g (h10 g z).1,h9,h10,H⟩<;>rw [JB (w:=w) hb]<;>assumption
theorem jZ.ex {B:Nat}{w w':World}{b:Nat}{o:List Nat}{ts:List Value}{M:Nat->Prop}(h:jZ B w b o ts M)(x:Ex w w'):jZ B w' b o ts M:=h.kp (Kp.ah x λ _=>False) λ _ _ h=>h
theorem jZ.IL {B:Nat}{w:World}{b:Nat}{o:List Nat}{ts:List Value}{M D:Nat->Prop}(h:jZ B w b o ts M)(G:∀g,g< w.heap.size->B<=g->D g){K:List Value->Prop}(V:K ts):fS D w (ptr b) o K:=by
 obtain⟨J,W,h3,hr,h4,vo,vt,h5,Z,H,I,h9,h10,α⟩:=h;exact⟨b,vo,vt,ts,rfl,G b J W,J,h5,Z,H.Cg λg z=>G g (H.block g z).2 (H.block g z).1,I.Cg λg z=>G g (I.block g z).2 (I.block g z).1,V⟩
theorem DB (o:List Nat):(o.map iv).all oneV=true:=by simp [oneV]
theorem af.all {D:Nat->Prop}{w:World}:∀{l:Lv} {ts:List Value},af D w l ts->ts.all oneV=true
 | .nil,_,h=>by cases h;rfl
 | .thr _ _ _ _ r n,_,⟨t,z,a',I,vr,G,⟨g,e,_⟩,H,h4,h5⟩=>by rw [G,KR,af.all (l:=n) h5,e];rfl
 | .sum J n,_,⟨t,z,a',I,vp,us,G,⟨g,e,_⟩,H,h4,h5⟩=>by rw [G,KR,af.all (l:=n) h5,e];rfl
 | .part o q n,_,⟨v,z,G,⟨g,_,_,_,e,_⟩,H⟩=>by rw [G,KR,af.all (l:=n) H,e];rfl
theorem tL {B:Nat}{w:World}{b:Nat}{o:List Nat}{ts:List Value}{M:Nat->Prop}(h:jZ B w b o ts M)(hB:B<=w.heap.size){D:Nat->Prop}{v:Value}{o2:List Nat}{J:List Value}(h2:fS D w v o2 λl=>l=J)(ξ:J.all oneV=true)
  (hM:∀g,D g->¬M g) (hl:o.length+o2.length<=1099511627776/\ts.length+J.length<=1099511627776) {R:World->Prop}
  (hR:∀w' M',Kp w w' M->jZ B w' b (o++o2) (ts++J) M'->(∀g,M' g->M g\/w.heap.size<=g)->R w'):Calls Tryz.prog 179 #[ptr b,v] w (an [] R):=by
 refine kF _ v w R ?_;obtain⟨b2,ο,ς,ts3,rfl,g1,g2,g3,g4,g5,g6,e3⟩:=h2;subst e3;obtain⟨h1,hle,h3,hr,h4,vo,vt,h5,h6,h7,h8,h9,h10,γ⟩:=h;have V:¬M b2:=hM b2 g1;refine⟨λw'=>Kp w w' λg=>vo.ownBlock=some g\/vt.ownBlock=some g,λw1 δ=>⟨δ▸Kp.ah (Ex.drew w) _,b,0,rfl,vo,λw' k=>?_,b2,0,rfl,ο,λw' k=>?_,b,0,rfl,vt,λw' k=>?_,b2,0,rfl,ς,λw' k=>?_,?_⟩⟩
 ·rw [JB (w:=w) (k.block b h1 λh=>h.elim (λe=>(h9 b e).2 rfl) λe=>(h10 b e).2 rfl)];exact h5
 ·rw [JB (w:=w) (k.block b2 g2 λh=>h.elim (λe=>V (h9 b2 e).1) λe=>V (h10 b2 e).1)];exact g3
 ·rw [JB (w:=w) (k.block b h1 λh=>h.elim (λe=>(h9 b e).2 rfl) λe=>(h10 b e).2 rfl)];exact h6
 ·rw [JB (w:=w) (k.block b2 g2 λh=>h.elim (λe=>V (h9 b2 e).1) λe=>V (h10 b2 e).1)];exact g4
 have x1:Ex w w1:=δ▸Ex.drew w;have k1:Kp w w1 λ _=>False:=Kp.ah x1 _
 have s1:w1.heap.size=w.heap.size:=by rw [δ];rfl
 refine aD.push (h7.kp k1 λ _ _ h=>h) (by omega) (g5.kp k1 λ _ _ h=>h) (DB o2) (by omega) (by simp;exact hl.1) λH w2 W υ φ=>?_
 have k2:Kp w1 w2 λg=>vo.ownBlock=some g:=Kp.aP υ λg h=>h
 have ε:Kp w w2 λg=>vo.ownBlock=some g:=Kp.trans (Kp.ah x1 _) k2 λg _ h=>h
 refine⟨Kp.trans (Kp.ah x1 _) k2 λg _ h=> .inl h,?_⟩;have s2:=k2.size;have χ:=g6.kp ε λg z e=>hM g z (h9 g e).1
 have ψ:aD 156 B w2 vt ts:=h8.kp ε λg z e=>γ g e z
 refine aD.push ψ (by omega) χ ξ (by omega) hl.2 λI w3 ζ ω hn3=>?_
 have k3:Kp w2 w3 λg=>vt.ownBlock=some g:=Kp.aP ω λg h=>h
 have η:Kp w w3 λg=>vo.ownBlock=some g\/vt.ownBlock=some g:=Kp.trans (Kp.mono (λg h=> .inl h) ε) k3 λg _ h=> .inr h
 have s3:=k3.size;have hv1:oneV H=true:=by
  rcases W.2 with⟨rfl,_⟩ | ⟨g,cap,cur,rfl,_⟩<;>rfl
 have hv2:oneV I=true:=by
  rcases ζ.2 with⟨rfl,_⟩ | ⟨g,cap,cur,rfl,_⟩<;>rfl
 have θ:=η.block b h1 λh=>h.elim (λe=>(h9 b e).2 rfl) λe=>(h10 b e).2 rfl
 have c30:w3.cell? ⟨b,0,none⟩=some vo:=by rw [JB (w:=w) θ];exact h5
 have κ:w3.cell? ⟨b,1,none⟩=some vt:=by rw [JB (w:=w) θ];exact h6
 have f3:∀j,w3.frozen? ⟨b,j,none⟩=false:=λj=>by rw [J8 (w:=w) θ];exact h4 j
 refine⟨η,b,0,rfl,hv1,⟨⟨_,c30⟩,f3 0⟩,λw4 G=>⟨b,0,rfl,hv2,⟨⟨vt,?_⟩,?_⟩,λw5 Z=>?_⟩⟩
 ·rw [G,JH _ _ _ _ (by simp)];exact κ
 ·rw [G,JU];exact f3 1
 have α:Kp w3 w5 λg=>g=b:=by
  rw [Z,G];exact Kp.set (Kp.set (S:=λg=>g=b) (Kp.ah (Ex.refl w3) _) rfl _) rfl _
 have β:∀g,H.ownBlock=some g->(vo.ownBlock=some g\/w.heap.size<=g):=λg z=>(φ g z).elim .inl λh=> .inr (by omega)
 have ι:∀g,I.ownBlock=some g->(vt.ownBlock=some g\/w2.heap.size<=g):=λg z=>hn3 g z
 have μ:∀g,H.ownBlock=some g->g≠b:=λg z=>(β g z).elim (λe=>(h9 g e).2) λe=>by omega
 have ν:∀g,I.ownBlock=some g->g≠b:=λg z=>(ι g z).elim (λe=>(h10 g e).2) λe=>by omega
 have hot:∀g,H.ownBlock=some g->I.ownBlock≠some g:=λg z e=>by
  have hlt:=(W.block g z).2;rcases ι g e with e1 | e1
  ·rcases β g z with e2 | e2
   ·exact γ g e2 e1
   ·have :=(h8.block g e1).2;omega
  ·omega
 have s5:=α.size;refine hR w5 (λg=>M g\/(w.heap.size<=g/\g< w5.heap.size)) ?_ ⟨?_,hle,.inl h3,λg z=>?_,λj=>?_,H,I,?_,?_,?_,?_,λg z=>⟨?_,μ g z⟩,λg z=>⟨?_,ν g z⟩,hot⟩ λg h=>h.elim .inl λh=> .inr h.1
 ·refine Kp.trans (Kp.mono (λg h=>h.elim (λe=>(h9 g e).1) λe=>(h10 g e).1) η) α λg _ e=>?_
  rw [e];exact h3
 ·omega
 ·rcases z with z | z
  ·have :=hr g z;omega
  ·omega
 ·rw [Z,JU,G,JU];exact f3 j
 ·rw [Z,JH _ _ _ _ (by simp),G];exact JT _ _ _ c30
 ·rw [Z];refine JT _ _ _ (u:=vt) ?_;rw [G,JH _ _ _ _ (by simp)];exact κ
 ·rw [Kz];refine(W.kp k3 λg z e=>?_).kp α μ;rcases β g z with e2 | e2
  ·exact γ g e2 e
  ·have :=(h8.block g e).2;omega
 ·exact ζ.kp α ν
 ·have :=(W.block g z).2;exact(β g z).elim (λe=> .inl (h9 g e).1) λe=> .inr ⟨e,by omega⟩
 ·have :=(ζ.block g z).2;exact(ι g z).elim (λe=> .inl (h10 g e).1) λe=> .inr ⟨by omega,by omega⟩
theorem gz {c:UInt8}(h:lt c=true):(c - 97:UInt8).toNat=c.toNat - 97:=by
 have :=bc h;rw [UInt8.toNat_sub_of_le]
 ·rfl
 ·exact JZ.2 (by simpa using this.1)
structure Mk (w:World)(m n:Nat):Prop where
 lt:m< w.heap.size
 c:w.cell? ⟨m,0,none⟩=some (iv n)
 f:w.frozen? ⟨m,0,none⟩=false
theorem Mk.kp {w w':World}{m n:Nat}{S:Nat->Prop}(h:Mk w m n)(k:Kp w w' S)(z:¬S m):Mk w' m n:=by
 have hb:=k.block m h.lt z;exact⟨J2 h.lt k.size,by rw [JB (w:=w) hb];exact h.c,by rw [J8 (w:=w) hb];exact h.f⟩
theorem Mk.ex {w w':World}{m n:Nat}(h:Mk w m n)(x:Ex w w'):Mk w' m n:=h.kp (Kp.ah x λ _=>False) λh=>h
structure Km (m:Nat)(w w':World):Prop where
 kp:Kr m w w'
 ce:∀j,j≠0->w'.cell? ⟨m,j,none⟩=w.cell? ⟨m,j,none⟩
 fz:∀j,w'.frozen? ⟨m,j,none⟩=w.frozen? ⟨m,j,none⟩
theorem Km.size {m:Nat}{w w':World}(h:Km m w w'):w.heap.size<=w'.heap.size:=h.kp.size
theorem Km.trans {m:Nat}{a b c:World}(h:Km m a b)(k:Km m b c):Km m a c:=⟨Kr.trans h.kp k.kp,λj z=>(k.ce j z).trans (h.ce j z),λj=>(k.fz j).trans (h.fz j)⟩
theorem Km.out {m:Nat}{w0 w w':World}{S:Nat->Prop}(h:Km m w0 w)(k:Kp w w' S)(G:∀g,g< w0.heap.size->¬S g)(hm:m< w0.heap.size):Km m w0 w':=by
 have e:=k.block m (J2 hm h.kp.size) (G m hm);exact⟨Kp.trans h.kp k λg H z=>absurd z (G g H),λj I=>by rw [JB (w:=w) e];exact h.ce j I,λj=>by rw [J8 (w:=w) e];exact h.fz j⟩
theorem Km.refl (m:Nat)(w:World):Km m w w:=⟨Kr.refl m w,λ _ _=>rfl,λ _=>rfl⟩
theorem Km.ex {m:Nat}{w w':World}(h:Ex w w')(hm:m< w.heap.size):Km m w w':=(Km.refl m w).out (Kp.ah h λ _=>False) (λ _ _ h=>h) hm
theorem Km.set (m:Nat)(w:World)(v:Value):Km m w (w.setCell ⟨m,0,none⟩ v):=⟨Kr.set w 0 v,λj z=>JH _ _ _ _ (λe=>by injection e with G H;omega),λj=>JU _ _ _ _⟩
theorem tD {w:World}{m n:Nat}(h:Mk w m n)(I:n<=1099511627776){R:Int->World->Prop}(G:∀w',Km m w w'->Mk w' m (n+1)->R ((n+101:Nat):Int) w'):Calls Tryz.prog 178 #[ptr m] w (an [.i] R):=by
 refine kz _ w R ?_;refine⟨m,0,rfl,n,h.c,by unfold aj;omega,m,0,rfl,⟨⟨_,h.c⟩,h.f⟩,λw1 z=>⟨m,0,rfl,(n:Int)+1,?_,by unfold aj;omega,?_⟩⟩
 ·rw [z];exact JT _ _ _ h.c
 ·have e:((n:Int)+1+100)=((n+101:Nat):Int):=by omega
  have H:((n:Int)+1)=((n+1:Nat):Int):=by omega
  rw [e];rw [H]at z;refine G w1 (z▸Km.set m w _) ⟨?_,?_,?_⟩
  ·rw [z,Ki];exact h.lt
  ·rw [z];exact JT _ _ _ h.c
  ·rw [z,JU];exact h.f
def Gg (cs:List Value)(e:UInt8->Nat):Prop:=cs.length=26/\∀c,lt c=true->cs[c.toNat - 97]?=some (iv (e c))
structure lz (w:World)(b:Nat)(e:UInt8->Nat):Prop where
 hb:b< w.heap.size
 f:∀j,w.frozen? ⟨b,j,none⟩=false
 c:∃cs,Gg cs e/\∀j,j< 26->w.cell? ⟨b,0+j,none⟩=cs[j]?
theorem lz.kp {w w':World}{b:Nat}{e:UInt8->Nat}{S:Nat->Prop}(h:lz w b e)(k:Kp w w' S)(z:¬S b):lz w' b e:=by
 have hb:=k.block b h.hb z;obtain⟨G,H,cs,I,h4⟩:=h;exact⟨J2 G k.size,λj=>by rw [J8 (w:=w) hb];exact H j,cs,I,λj J=>by rw [JB (w:=w) hb];exact h4 j J⟩
theorem lz.get {w:World}{b:Nat}{e:UInt8->Nat}(h:lz w b e){c:UInt8}(z:lt c=true):w.cell? ⟨b,0+Int.toNat ((c - 97:UInt8).toNat:Int)* 1,none⟩=some (iv (e c)):=by
 obtain⟨H,I,cs,G,h4⟩:=h;have :=bc z;rw [gz z,Kc,JI,h4 _ (by omega)];exact G.2 c z
theorem lz.set {w w':World}{b:Nat}{e:UInt8->Nat}(h:lz w b e){c:UInt8}(H:lt c=true){n:Nat}(hw:w'=w.setCell ⟨b,0+Int.toNat ((c - 97:UInt8).toNat:Int)* 1,none⟩ (iv n)):lz w' b (aF e c n):=by
 have I:=h.get H;obtain⟨V,W,cs,G,h4⟩:=h;have hl:=bc H;rw [gz H,Kc,JI]at hw I;refine⟨by rw [hw,Ki];exact V,λj=>by rw [hw,JU];exact W j,cs.set (c.toNat - 97) (iv n),⟨by rw [La];exact G.1,λd hd=>?_⟩,λj Z=>?_⟩
 ·have α:=bc hd;rw [List.getElem?_set];by_cases z:d=c
  ·subst z;rw [Ka rfl,Ka (by rw [G.1];omega)];simp [aF]
  ·have J:¬c.toNat - 97=d.toNat - 97:=λJ=>z (J4.1 (by omega))
   rw [JV J,G.2 d hd];simp [aF,z]
 ·rw [List.getElem?_set];by_cases z:c.toNat - 97=j
  ·subst z;rw [Ka rfl,Ka (by rw [G.1];omega),hw];exact JT _ _ _ I
  ·rw [JV z,hw,JH _ _ _ _ (by simp)];exact h4 j Z
structure kh (w:World)(g:Nat)(k:UInt8)(a b:Nat)(vr vp:Value):Prop where
 lt:g< w.heap.size
 c0:w.cell? ⟨g,0,none⟩=some (.int .u8 k.toNat)
 c1:w.cell? ⟨g,1,none⟩=some (iv a)
 c2:w.cell? ⟨g,2,none⟩=some (iv b)
 c3:w.cell? ⟨g,3,none⟩=some vr
 c4:w.cell? ⟨g,4,none⟩=some vp
 f:∀j,w.frozen? ⟨g,j,none⟩=false
section
variable {w w':World} {g a b x:Nat} {k:UInt8} {vr vp v:Value} {S:Nat->Prop}
theorem kh.kp (h:kh w g k a b vr vp)(kp:Kp w w' S)(z:¬S g):kh w' g k a b vr vp:=by
 have hb:=kp.block g h.lt z;refine⟨J2 h.lt kp.size,?_,?_,?_,?_,?_,λj=>?_⟩
 ·rw [JB (w:=w) hb];exact h.c0
 ·rw [JB (w:=w) hb];exact h.c1
 ·rw [JB (w:=w) hb];exact h.c2
 ·rw [JB (w:=w) hb];exact h.c3
 ·rw [JB (w:=w) hb];exact h.c4
 ·rw [J8 (w:=w) hb];exact h.f j
theorem kh.xG (h:kh w g k a b vr vp)(hw:w'=w.setCell ⟨g,1,none⟩ (iv x)):kh w' g k x b vr vp:=by
 subst hw;exact⟨by rw [Ki];exact h.lt,by rw [JH _ _ _ _ (by simp)];exact h.c0,JT _ _ _ h.c1,by rw [JH _ _ _ _ (by simp)];exact h.c2,
  by rw [JH _ _ _ _ (by simp)];exact h.c3,by rw [JH _ _ _ _ (by simp)];exact h.c4,λj=>by rw [JU];exact h.f j⟩
theorem kh.rI (h:kh w g k a b vr vp)(hw:w'=w.setCell ⟨g,2,none⟩ (iv x)):kh w' g k a x vr vp:=by
 subst hw;exact⟨by rw [Ki];exact h.lt,by rw [JH _ _ _ _ (by simp)];exact h.c0,by rw [JH _ _ _ _ (by simp)];exact h.c1,JT _ _ _ h.c2,
  by rw [JH _ _ _ _ (by simp)];exact h.c3,by rw [JH _ _ _ _ (by simp)];exact h.c4,λj=>by rw [JU];exact h.f j⟩
theorem kh.Bw (h:kh w g k a b vr vp)(hw:w'=w.setCell ⟨g,3,none⟩ v):kh w' g k a b v vp:=by
 subst hw;exact⟨by rw [Ki];exact h.lt,by rw [JH _ _ _ _ (by simp)];exact h.c0,by rw [JH _ _ _ _ (by simp)];exact h.c1,by rw [JH _ _ _ _ (by simp)];exact h.c2,
  JT _ _ _ h.c3,by rw [JH _ _ _ _ (by simp)];exact h.c4,λj=>by rw [JU];exact h.f j⟩
theorem kh.Hn (h:kh w g k a b vr vp)(hw:w'=w.setCell ⟨g,4,none⟩ v):kh w' g k a b vr v:=by
 subst hw;exact⟨by rw [Ki];exact h.lt,by rw [JH _ _ _ _ (by simp)];exact h.c0,by rw [JH _ _ _ _ (by simp)];exact h.c1,by rw [JH _ _ _ _ (by simp)];exact h.c2,
  by rw [JH _ _ _ _ (by simp)];exact h.c3,JT _ _ _ h.c4,λj=>by rw [JU];exact h.f j⟩
theorem kh.new {e:Nat}(z:g=w.heap.size)(hw:w'=w.alloc (.cells #[.int .u8 k.toNat,iv a,iv b,vr,vp] e)):kh w' g k a b vr vp:=by
 subst z hw;refine⟨by rw [size_alloc];omega,aa rfl,aa rfl,aa rfl,aa rfl,aa rfl,λj=>?_⟩;unfold World.frozen? World.alloc;simp
theorem kh.H2 (h:kh w g k a b vr vp){D:Nat->Prop}(z:D g):ED D w (ptr g) k a b vr vp:=⟨g,rfl,z,h.lt,h.c0,h.c1,h.c2,h.c3,h.c4⟩
end
structure RS (w0 w:World)(m n:Nat)(e:UInt8->Nat)(b5 b10:Nat)(k:UInt8)(a b:Nat):Prop where
 kp:Km m w0 w
 mc:Mk w m n
 hm:m< w0.heap.size
 env:lz w b5 e
 h5:w0.heap.size<=b5
 h10:w0.heap.size<=b10
 ne:b5≠b10
 th:kh w b10 k a b (.pointer none) (.slice none 0 0)
section
variable {w0 w w':World} {m n b5 b10 a b x:Nat} {e:UInt8->Nat} {k c:UInt8}
theorem RS.go (h:RS w0 w m n e b5 b10 k a b){n':Nat}(kr:Km m w w')(mk:Mk w' m n'):RS w0 w' m n' e b5 b10 k a b:=by
 have z:=h.hm;have G:=h.h5;have H:=h.h10;exact⟨Km.trans h.kp kr,mk,h.hm,h.env.kp kr.kp (by omega),h.h5,h.h10,h.ne,h.th.kp kr.kp (by omega)⟩
theorem RS.ex (h:RS w0 w m n e b5 b10 k a b)(z:Ex w w'):RS w0 w' m n e b5 b10 k a b:=h.go (Km.ex z h.mc.lt) (h.mc.ex z)
theorem RS.own (h:RS w0 w m n e b5 b10 k a b){S:Nat->Prop}(kp:Kp w w' S)(G:∀g,S g->w0.heap.size<=g/\g≠b5/\g≠b10):RS w0 w' m n e b5 b10 k a b:=by
 have H:=h.hm;refine⟨h.kp.out kp (λg I z=>(by have :=(G g z).1;omega)) H,h.mc.kp kp λz=>(by have :=(G m z).1;omega),h.hm,h.env.kp kp λz=>(G _ z).2.1 rfl,h.h5,h.h10,h.ne,h.th.kp kp λz=>(G _ z).2.2 rfl⟩
theorem RS.xG (h:RS w0 w m n e b5 b10 k a b)(hw:w'=w.setCell ⟨b10,1,none⟩ (iv x)):RS w0 w' m n e b5 b10 k x b:=by
 have z:=h.hm;have G:=h.h10;have kp:Kr b10 w w':=hw▸Kr.set w 1 _;exact⟨h.kp.out kp (λg H e=>(by omega)) z,h.mc.kp kp (by omega),h.hm,h.env.kp kp h.ne,h.h5,h.h10,h.ne,h.th.xG hw⟩
theorem RS.rI (h:RS w0 w m n e b5 b10 k a b)(hw:w'=w.setCell ⟨b10,2,none⟩ (iv x)):RS w0 w' m n e b5 b10 k a x:=by
 have z:=h.hm;have G:=h.h10;have kp:Kr b10 w w':=hw▸Kr.set w 2 _;exact⟨h.kp.out kp (λg H e=>(by omega)) z,h.mc.kp kp (by omega),h.hm,h.env.kp kp h.ne,h.h5,h.h10,h.ne,h.th.rI hw⟩
theorem RS.Jb (h:RS w0 w m n e b5 b10 k a b)(z:lt c=true)(hw:w'=w.setCell ⟨b5,0+Int.toNat ((c - 97:UInt8).toNat:Int)* 1,none⟩ (iv x)):RS w0 w' m n (aF e c x) b5 b10 k a b:=by
 have G:=h.hm;have H:=h.h5;have kp:Kr b5 w w':=hw▸Kr.set w _ _;exact⟨h.kp.out kp (λg I e=>(by omega)) G,h.mc.kp kp (by omega),h.hm,h.env.set z hw,h.h5,h.h10,h.ne,h.th.kp kp (ME h.ne)⟩
end
def Bq (t:P):Prop:=∀{D:Nat->Prop} {v:Value} {w:World} {m n:Nat} {cs:List Value} {e:UInt8->Nat} {R:Value->World->Prop},aI D w t v->(∀g,D g->¬g=m)->Mk w m n->Gg cs e->Lt t->n+t.size<=1099511627776->
 (∀v' w',Km m w w'->Mk w' m (num t e n).2->aB (yP w) w' (flat (num t e n).1) v'->R v' w')->Calls Tryz.prog 137 #[ptr m,v,.agg cs.toArray] w (an [.v] R)
def T.bnd:P->Bool
 | .rcv .. =>true | .res .. =>true | _=>false
theorem xn (t:P):(decide (t.kind=63)||decide (t.kind=35))=t.bnd:=by cases t<;>rfl
theorem IA {t:P}(h:Lt t)(z:t.ca≠0):lt t.ca=true:=by
 cases t<;>first | exact h.1 | exact absurd rfl z
theorem Iq {t:P}(h:Lt t)(z:t.cb≠0):lt t.cb=true:=by
 cases t<;>first | exact h.2.1 | exact h.1 | exact absurd rfl z
theorem Ho {t:P}(h:Lt t)(hb:t.bnd=true):lt t.cb=true:=by
 cases t<;>first | exact h.2.1 | exact h.1 | cases hb
theorem bP:∀(t:P) (e:UInt8->Nat) (n:Nat),(num t e n).1.size=t.size/\(num t e n).2<=n+t.size
 | .nil,_,n=>⟨rfl,by simp [num,T.size]⟩
 | .snd _ _ p,e,n=>by have :=bP p e n;exact⟨by simp [num,T.size,this.1],by simp only [num,T.size];omega⟩
 | .mat _ _ p,e,n=>by have :=bP p e n;exact⟨by simp [num,T.size,this.1],by simp only [num,T.size];omega⟩
 | .tau p,e,n=>by have :=bP p e n;exact⟨by simp [num,T.size,this.1],by simp only [num,T.size];omega⟩
 | .rep p,e,n=>by have :=bP p e n;exact⟨by simp [num,T.size,this.1],by simp only [num,T.size];omega⟩
 | .rcv _ x p,e,n=>by have :=bP p (aF e x (n+101)) (n+1);exact⟨by simp [num,T.size,this.1],by simp only [num,T.size];omega⟩
 | .res x p,e,n=>by have :=bP p (aF e x (n+101)) (n+1);exact⟨by simp [num,T.size,this.1],by simp only [num,T.size];omega⟩
 | .sum p q,e,n=>by have :=bP p e n;have h:=bP q e (num p e n).2;exact⟨by simp [num,T.size,this.1,h.1],by simp only [num,T.size];omega⟩
 | .par p q,e,n=>by have :=bP p e n;have h:=bP q e (num p e n).2;exact⟨by simp [num,T.size,this.1,h.1],by simp only [num,T.size];omega⟩
theorem jc:∀u:U,(flat u).1.length<=u.size/\(flat u).2.len<=u.size
 | .nil=>by simp [flat,Lv.len]
 | .snd .. =>by simp [flat,Lv.len,T.size]
 | .rcv .. =>by simp [flat,Lv.len,T.size]
 | .tau .. =>by simp [flat,Lv.len,T.size]
 | .sum .. =>by simp [flat,Lv.len,T.size]
 | .mat .. =>by simp [flat,Lv.len,T.size]
 | .rep .. =>by simp [flat,Lv.len,T.size]
 | .res x p=>by have :=jc p;simp only [flat,T.size,JA];omega
 | .par p q=>by have :=jc p;have :=jc q;simp only [flat,T.size,JJ,Lv.eD];omega
theorem jZ.new {w w':World}{b B e:Nat}(hB:B<=w.heap.size)(hb:b=w.heap.size)(hw:w'=w.alloc (.cells #[.slice none 0 0,.slice none 0 0] e)):jZ B w' b [] [] (λg=>g=b):=by
 subst hb hw;refine⟨by rw [size_alloc];omega,hB,rfl,λg z=>⟨by omega,by rw [size_alloc];omega⟩,λj=>?_,_,_,aa rfl,aa rfl,aD.nil _ _ _,aD.nil _ _ _,λg h=>(by cases h),λg h=>(by cases h),λg h=>(by cases h)⟩;unfold World.frozen? World.alloc;simp
theorem Bc {D Q:Nat->Prop}{w1:World}{t p:P}{v:Value}{b5:Nat}{e:UInt8->Nat}(h:aI D w1 t v)(hD:∀g,D g->¬Q g)(hE:lz w1 b5 e)(h5:¬Q b5){i:Int}(h0:0<=i)(hp:t.parts[i.toNat]?=some p){K:Value->List Value->Prop}(hK:∀x cs,aI D w1 p x->Gg cs e->K x cs):
  ∃(b o:Nat),v=Value.pointer (some ⟨b,o,none⟩)/\∃J:Value,(∀w',Kp w1 w' Q->World.cell? w' ⟨b,(o+3),none⟩=some J)/\∃(V W z H:Nat),J=Value.slice (some ⟨V,W,none⟩) z H/\0<=i/\i< z/\
   ∃Z:Value,(∀w',Kp w1 w' Q->World.cell? w' ⟨V,(W+Int.toNat i* 1),none⟩=some Z)/\∃G:List Value,List.length G=26/\(∀w',Kp w1 w' Q->∀j,j< 26->World.cell? w' ⟨b5,0+j,none⟩=G[j]?)/\K Z G:=by
 obtain⟨b,vs,l,rfl,h1,h2,h3,h4,β,h6,h7,h8⟩:=h.inv;obtain⟨hi,γ⟩:=Ky.1 hp;have I:i.toNat< l.length:=by rw [h8.1];exact hi
 have hx:=h8.2 i.toNat l[i.toNat] p (JC I) hp;refine⟨b,0,rfl,vs,λw' k=>?_,?_⟩
 ·rw [JB (w:=w1) (k.block b h2 (hD b h1))];exact h6
 rcases h7 with⟨_,rfl⟩ | ⟨b',off,cap,rfl,i1,i2,i3⟩
 ·simp at I
 obtain⟨cs,hc,α⟩:=hE.c;refine⟨b',off,l.length,cap,rfl,h0,by omega,l[i.toNat],λw' k=>?_,cs,hc.1,λw' k j hj=>?_,hK _ _ hx hc⟩
 ·rw [JB (w:=w1) (k.block b' i2 (hD b' i1)),Kc];exact i3 _ _ (JC I)
 ·rw [JB (w:=w1) (k.block b5 hE.hb h5)];exact α j hj
theorem aB.ths {D:Nat->Prop}{w:World}{L:List Nat×Lv}{v:Value}(h:aB D w L v):∃ts,fS D w v L.1 (λl=>l=ts)/\af D w L.2 ts:=by
 obtain⟨b,vo,vt,ts,z,G,H,h4,h5,I,J,V⟩:=h;exact⟨ts,⟨b,vo,vt,ts,z,G,H,h4,h5,I,J,rfl⟩,V⟩
theorem fS.one {D:Nat->Prop}{w:World}{v:Value}{o:List Nat}{K:List Value->Prop}(h:fS D w v o K):oneV v=true:=by
 obtain⟨b,_,_,_,rfl,_⟩:=h;rfl
theorem jZ.IP {B b g n e:Nat}{w w1 w2:World}(h:jZ B w b [] [] λg=>g=b)(I:g=w.heap.size)(H:w1=w.alloc (.cells #[iv n] 3))(G:w2=w1.setCell ⟨b,0,none⟩ (.slice (some ⟨g,0,none⟩) 1 1)):jZ B w2 b [n] [] λx=>x=b\/x=g:=by
 have z:Ex w w1:=H▸Ex.alloc w _;have J:=h.ex z;have V:=h.lt;have hle:=h.le;have W:aD 3 B w1 (.slice (some ⟨g,0,none⟩) 1 1) [iv n]:=aD.one (by omega) I H;have s1:w1.heap.size=w.heap.size+1:=by rw [H,size_alloc]
 obtain⟨Z,h2,h3,hr,h4,vo,vt,h5,h6,h7,h8,h9,h10,α⟩:=J;have k:Kr b w1 w2:=G▸Kr.set w1 0 _;refine⟨by rw [G,Ki];exact Z,h2,.inl rfl,λx z=>?_,λj=>by rw [G,JU];exact h4 j,_,vt,?_,?_,W.kp k λx z=>?_,?_,λx z=>?_,λx z=>⟨.inl (h10 x z).1,(h10 x z).2⟩,λx z e=>?_⟩
 ·have :=k.size;rcases z with rfl | rfl<;>omega
 ·rw [G];exact JT _ _ _ h5
 ·rw [G,JH _ _ _ _ (by simp)];exact h6
 ·have e:g=x:=Kt z;omega
 ·exact h8.kp k λx z=>(h10 x z).2
 ·have e:g=x:=Kt z;exact⟨.inr e.symm,by omega⟩
 ·have :=(h10 x e)
  exact absurd this.1 this.2
theorem jZ.Je {B b g:Nat}{w w1 w2:World}{x:Value}(h:jZ B w b [] [] λg=>g=b)(I:g=w.heap.size)(H:w1=w.alloc (.cells #[x] 156))(G:w2=w1.setCell ⟨b,1,none⟩ (.slice (some ⟨g,0,none⟩) 1 1)):jZ B w2 b [] [x] λx=>x=b\/x=g:=by
 have z:Ex w w1:=H▸Ex.alloc w _;have J:=h.ex z;have V:=h.lt;have hle:=h.le;have W:aD 156 B w1 (.slice (some ⟨g,0,none⟩) 1 1) [x]:=aD.one (by omega) I H;have s1:w1.heap.size=w.heap.size+1:=by rw [H,size_alloc]
 obtain⟨Z,h2,h3,hr,h4,vo,vt,h5,h6,h7,h8,h9,h10,α⟩:=J;have k:Kr b w1 w2:=G▸Kr.set w1 1 _;refine⟨by rw [G,Ki];exact Z,h2,.inl rfl,λx z=>?_,λj=>by rw [G,JU];exact h4 j,vo,_,?_,?_,?_,W.kp k λx z=>?_,λx z=>⟨.inl (h9 x z).1,(h9 x z).2⟩,λx z=>?_,λx e z=>?_⟩
 ·have :=k.size;rcases z with rfl | rfl<;>omega
 ·rw [G,JH _ _ _ _ (by simp)];exact h5
 ·rw [G];exact JT _ _ _ h6
 ·exact h7.kp k λx z=>(h9 x z).2
 ·have e:g=x:=Kt z;omega
 ·have e:g=x:=Kt z;exact⟨.inr e.symm,by omega⟩
 ·have :=(h9 x e)
  exact absurd this.1 this.2
def T.eB (t:P)(e:UInt8->Nat)(n:Nat):UInt8->Nat:=if t.bnd=true then aF e t.cb (n+101)else e
def T.nB (t:P)(n:Nat):Nat:=if t.bnd=true then n+1 else n
def T.aA (t:P)(e:UInt8->Nat):Nat:=if t.ca=0 then 0 else e t.ca
def T.bA (t:P)(e:UInt8->Nat)(n:Nat):Nat:=if t.cb=0 then 0 else t.eB e n t.cb
structure RW (D:Nat->Prop)(w w':World)(m n:Nat)(e:UInt8->Nat)(b5 b10 b47:Nat)(t:P)(v:Value):Prop where
 rs:RS w w' m (t.nB n) (t.eB e n) b5 b10 t.kind (t.aA e) (t.bA e n)
 bd:jZ w.heap.size w' b47 [] [] λg=>g=b47
 n5:b47≠b5
 n10:b47≠b10
 tm:aI D w' t v
 d:∀g,D g->g< w.heap.size/\¬g=m
def RJ (w w':World)(m n:Nat)(e:UInt8->Nat)(b47 b10:Nat)(t:P):Prop:=
 Km m w w'/\Mk w' m (num t e n).2/\jZ w.heap.size w' b47 [] [] (λg=>g=b47)/\(flat (num t e n).1).1=[]/\af (λg=>(w.heap.size<=g/\g≠b47)/\g< w'.heap.size) w' (flat (num t e n).1).2 [ptr b10]
theorem EY {t:P}{w z:World}{m n:Nat}{e:UInt8->Nat}{b47 b10:Nat}{R:Value->World->Prop}(hm:m< w.heap.size)(hJ:RJ w z m n e b47 b10 t)(hR:∀v' w',Km m w w'->Mk w' m (num t e n).2->aB (yP w) w' (flat (num t e n).1) v'->R v' w'):
  ∀(H:Nat) (G:World),H=Array.size (World.heap z)->G=World.alloc z (Obj.cells #[(Value.pointer (some ⟨b10,0,none⟩))] 156)->oneV (Value.slice (some ⟨H,0,none⟩) 1 1)=true/\
   ((∃J:Value,World.cell? G ⟨b47,1,none⟩=some J)/\World.frozen? G ⟨b47,1,none⟩=false)/\∀I:World,I=World.setCell G ⟨b47,1,none⟩ (Value.slice (some ⟨H,0,none⟩) 1 1)->R ((Value.pointer (some ⟨b47,0,none⟩))) I:=by
 obtain⟨k,mk,bd,ho,Z⟩:=hJ;intro g w1 hg V;have hx:Ex z w1:=V▸Ex.alloc z _;have α:=bd.ex hx;have γ:=bd.lt;have hle:=bd.le;refine⟨rfl,?_,λw2 W=>?_⟩
 ·obtain⟨h1,h2,h3,hr,h4,vo,vt,h5,h6,_⟩:=α;exact⟨⟨_,h6⟩,h4 1⟩
 ·have β:=bd.Je hg V W;have kk:Kr b47 w1 w2:=W▸Kr.set w1 1 _;have k2:Kp z w2 λg=>g=b47:=Kp.trans (Kp.ah hx _) kk λg _ h=>h
  refine hR _ w2 (k.out k2 (λg hg e=>by omega) hm) (mk.kp k2 (by omega)) ?_;unfold aB;rw [ho];exact β.IL (λg _ h=>h) (af.sub (λg _ h=>h.1.1) (af.kp k2 (λg h e=>h.1.2 e) Z))
section
variable {D:Nat->Prop} {w w':World} {m n b5 b10 b47:Nat} {e:UInt8->Nat} {t p:P} {v:Value}
def RQ (w:World)(m b5 b10:Nat):Nat->Prop:=λg=>g=m\/(w.heap.size<=g/\g≠b5/\g≠b10)
theorem RW.fine (h:RW D w w' m n e b5 b10 b47 t v):(∀g,D g->¬RQ w m b5 b10 g)/\¬RQ w m b5 b10 b5/\RQ w m b5 b10 b47:=by
 have H:=h.rs.hm;have I:=h.rs.h5;have z:=h.bd.le;refine⟨λg G e=>?_,λe=>?_,.inr ⟨z,h.n5,h.n10⟩⟩
 ·have :=h.d g G;rcases e with e | e<;>omega
 ·rcases e with e | e
  ·omega
  ·exact e.2.1 rfl
structure RP (D:Nat->Prop)(w w':World)(m n:Nat)(b5 b10 b47:Nat)(e:UInt8->Nat)(t:P)(v:Value)(o:List Nat)(l:Lv)(ts:List Value)(M:Nat->Prop):Prop where
 kp:Km m w w'
 mc:Mk w' m n
 hm:m< w.heap.size
 env:lz w' b5 e
 h5:w.heap.size<=b5
 h10:b10< w'.heap.size
 tm:aI D w' t v
 d:∀g,D g->g< w.heap.size/\¬g=m
 bd:jZ w.heap.size w' b47 o ts M
 mq:∀g,M g->RQ w m b5 b10 g
 th:af (λg=>(w.heap.size<=g/\¬M g)/\g< w'.heap.size) w' l ts
theorem RP.step {w1:World}{o:List Nat}{l:Lv}{ts:List Value}{M:Nat->Prop}(h:RP D w w1 m n b5 b10 b47 e t v o l ts M)(hp:Bq p){i:Int}(h0:0<=i)(hi:t.parts[i.toNat]?=some p)(χ:Lt p)
  (hn:n+p.size<=1099511627776) (hol:o.length+p.size<=1099511627776) (hll:l.len+p.size<=1099511627776) {R:World->Prop}
  (hR:∀w2 ψ M',RP D w w2 m (num p e n).2 b5 b10 b47 e t v (o++(flat (num p e n).1).1) (l.app (flat (num p e n).1).2) ψ M'->R w2):
  ∃G:World->Prop,∀Z:World,Z=World.drew w1->G Z/\∃(ε ζ:Nat),v=Value.pointer (some ⟨ε,ζ,none⟩)/\∃η:Value,(∀w',G w'->World.cell? w' ⟨ε,(ζ+3),none⟩=some η)/\
   ∃(θ ι H α:Nat),η=Value.slice (some ⟨θ,ι,none⟩) H α/\0<=i/\i< H/\∃κ:Value,(∀w',G w'->World.cell? w' ⟨θ,(ι+Int.toNat i* 1),none⟩=some κ)/\
   ∃I:List Value,List.length I=26/\(∀w',G w'->∀j,j< 26->World.cell? w' ⟨b5,0+j,none⟩=I[j]?)/\Calls Tryz.prog 137 #[ptr m,κ,(Value.agg (List.toArray I))] Z (an [.v] fun(ω:Value) (μ:World)=>
    G μ/\Calls Tryz.prog 179 #[(Value.pointer (some ⟨b47,0,none⟩)),ω] μ (an [] fun(ν:World)=>G ν/\R ν)):=by
 have h5:=h.h5;have hm:=h.hm;have hD:∀g,D g->¬RQ w m b5 b10 g:=λg z e=>by
  have :=h.d g z;rcases e with e | e<;>omega
 have ξ:¬RQ w m b5 b10 b5:=λe=>by
  rcases e with e | e
  ·omega
  ·exact e.2.1 rfl
 refine⟨λw'=>Kp (w1.drew) w' (RQ w m b5 b10),λw2 V=>⟨V▸Kp.ah (Ex.refl _) _,?_⟩⟩;have x2:Ex w1 w2:=V▸Ex.drew w1;have hs12:w2.heap.size=w1.heap.size:=by rw [V];rfl
 rw [<-V];have kx:Kr m w1 w2:=Kr.ex x2;have ο:¬M m:=λJ=>by
  have :=(h.bd.mr m J).1;omega
 refine Bc (aI.kp (Kp.ah x2 λ _=>False) (λ _ _ h=>h) h.tm) hD (h.env.kp (Kp.ah x2 λ _=>False) λh=>h) ξ h0 hi λx cs hx hcs=>?_
 refine hp hx (λg z=>(h.d g z).2) (h.mc.ex x2) hcs χ hn λv3 w3 k3 m3 l3=>?_
 have s3:=k3.size;have s1:=h.bd.lt;have s0:=h.kp.size;have β:Kr m w1 w3:=Kr.trans kx k3.kp;have ς:Km m w1 w3:=Km.trans (Km.ex x2 h.mc.lt) k3;refine⟨Kp.mono (λg z=> .inl z) k3.kp,?_⟩;obtain⟨ts2,hl3,γ⟩:=aB.ths (l3.sub (E:=λg=>w2.heap.size<=g/\g< w3.heap.size) λg z hd=>⟨hd,z⟩);have hfs:=jc (num p e n).1;rw [(bP p e n).1]at hfs;have bd3:jZ w.heap.size w3 b47 o ts M:=h.bd.kp β λg z e=>ο (e▸z)
 refine tL bd3 (by omega) hl3 γ.all (λg z J=>by have :=(h.bd.mr g J).2;omega) ⟨by omega,by rw [γ.len,h.th.len];omega⟩ λw4 M' k4 bd4 δ=>?_
 have υ:Kp w3 w4 (RQ w m b5 b10):=Kp.mono h.mq k4;refine⟨Kp.trans (Kp.mono (λg z=> .inl z) k3.kp) υ λg _ h=>h,?_⟩;have s4:=k4.size;have φ:Kp w1 w4 (RQ w m b5 b10):=Kp.trans (Kp.mono (λg z=> .inl z) β) υ λg _ h=>h
 have hb5:=h.env.hb;refine hR w4 (ts++ts2) M' ⟨?_,m3.kp k4 ο,hm,h.env.kp φ ξ,h5,by have :=h.h10;omega,aI.kp φ hD h.tm,h.d,bd4,λg z=>?_,?_⟩
 ·exact(Km.trans h.kp ς).out k4 (λg z J=>by have :=(h.bd.mr g J).1;omega) hm
 ·rcases δ g z with W | W
  ·exact h.mq g W
  ·exact .inr ⟨by omega,by omega,by have :=h.h10;omega⟩
 ·refine af.app ?_ ?_
  ·refine af.sub (λg _ z=>?_) (af.kp k4 (λg z e=>z.1.2 e) (af.kp β (λg z e=>?_) h.th))
   ·refine⟨⟨z.1.1,λJ=>?_⟩,by omega⟩;rcases δ g J with W | W
    ·exact z.1.2 W
    ·omega
   ·have :=z.1.1;omega
  ·refine af.sub (λg _ z=>?_) (af.kp k4 (λg z J=>?_) γ)
   ·refine⟨⟨by omega,λJ=>?_⟩,by omega⟩;rcases δ g J with W | W
    ·have :=(h.bd.mr g W).2;omega
    ·omega
   ·have :=(h.bd.mr g J).2;omega
theorem RP.done {w':World}{o:List Nat}{l:Lv}{ts:List Value}{M:Nat->Prop}(h:RP D w w' m n b5 b10 b47 e t v o l ts M):aB (yP w) w' (o,l) (ptr b47):=
 h.bd.IL (λg _ h=>h) (af.sub (λg _ z=>z.1.1) h.th)
end
theorem DR {t:P}(ih:∀p∈t.parts,Bq p):Bq t:=by
 intro D v w m n cs e R ht hD hmk θ I hn hR;obtain⟨D,ht,hD⟩:∃D',aI D' w t v/\∀g,D' g->g< w.heap.size/\¬g=m:=⟨_,ht.bound,λg G=>⟨G.2,hD g G.1⟩⟩
 refine nV _ v _ w R ?_;refine⟨cs,rfl,λb5 w6 hb5 γ=>?_⟩;have x6:Ex w w6:=γ▸Ex.alloc w _;have s6:w6.heap.size=w.heap.size+1:=by rw [γ,size_alloc]
 have t6:aI D w6 t v:=aI.kp (Kp.ah x6 λ _=>False) (λ _ _ h=>h) ht;have c0:∀{w':World},aI D w' t v->∃b,v=ptr b/\w'.cell? ⟨b,0+0,none⟩=some (.int .u8 t.kind.toNat)/\w'.cell? ⟨b,0+1,none⟩=some (.int .u8 t.ca.toNat)/\w'.cell? ⟨b,0+2,none⟩=some (.int .u8 t.cb.toNat):=λh=>by
  obtain⟨b,vs,l,h0,V,h2,h3,h4,h5,_⟩:=h.inv;exact⟨b,h0,h3,h4,h5⟩
 obtain⟨b7,hv,q0,_,_⟩:=c0 t6;refine⟨b7,0,hv,t.kind,q0,λb10 w11 hb10 μ=>?_⟩;have φ:Ex w6 w11:=μ▸Ex.alloc w6 _;have s11:w11.heap.size=w6.heap.size+1:=by rw [μ,size_alloc]
 have kt:∀{w':World},Kr m w w'->aI D w' t v:=λk=>aI.kp k (λg G=>(hD g G).2) ht
 have δ:=hmk.lt;have ι:RS w w11 m n e b5 b10 t.kind 0 0:=by
  refine⟨Km.ex (Ex.trans x6 φ) δ,hmk.ex (Ex.trans x6 φ),δ,⟨by omega,λj=>?_,cs,θ,λj hj=>?_⟩,by omega,by omega,by omega,kh.new hb10 μ⟩
  ·rw [J8 (w:=w6) (φ.block b5 (by omega)),γ,hb5];unfold World.frozen? World.alloc;simp
  ·rw [φ.cell (show b5< _ by omega),γ,hb5,J'];have :=θ.1;unfold World.cell? World.alloc;simp
 obtain⟨b13,hv13,_,q1,_⟩:=c0 (kt ι.kp.kp);refine⟨λw'=>RS w w' m n e b5 b10 t.kind (t.aA e) 0,⟨b13,0,hv13,t.ca,q1,λhc=>?_,λhc=>?_⟩,λχ W=>?_⟩
 ·have hc:t.ca≠0:=by simpa using hc
  have hl:=IA I hc;have hb:=bc hl;refine⟨b13,0,hv13,t.ca,q1,⟨by omega,by rw [gz hl];omega⟩,_,ι.env.get hl,⟨⟨_,ι.th.c1⟩,ι.th.f 1⟩,λw21 ν=>?_⟩;have:t.aA e=e t.ca:=JV hc;rw [this];exact ι.xG ν
 ·have hc:t.ca=0:=by simpa using hc
  have:t.aA e=0:=Ka hc;rw [this];exact ι
 refine⟨λw'=>RS w w' m (t.nB n) (t.eB e n) b5 b10 t.kind (t.aA e) 0,EW (kt W.kp.kp) ⟨λhq=>?_,λhq=>?_⟩,λw35 κ=>?_⟩
 ·rw [xn]at hq;have hl:=Ho I hq;have hb:=bc hl;refine⟨λw'=>Kr m χ w',λw27 hw27=>⟨hw27▸Kr.ex (Ex.drew χ),?_⟩⟩;have ψ:Ex χ w27:=hw27▸Ex.drew χ;obtain⟨b28,hv28,_,_,q2⟩:=c0 (kt W.kp.kp);refine⟨b28,0,hv28,t.cb,λw' k=>?_,?_⟩
  ·obtain⟨b29,hv29,_,_,q3⟩:=c0 (kt (Kr.trans W.kp.kp k));have:b29=b28:=by
    have :=hv28.symm.trans hv29
    injection this with V
    injection V with V
    injection V with V
    exact V.symm
   rw [<-this];exact q3
  refine tD (W.mc.ex ψ) (by omega) λkf k32 m32=>⟨Kr.trans (Kr.ex ψ) k32.kp,⟨by omega,by rw [gz hl];omega⟩,?_,λw34 hw34=>?_⟩
  ·have :=(W.go (Km.trans (Km.ex ψ W.mc.lt) k32) m32).env;exact⟨⟨_,this.get hl⟩,this.f _⟩
  ·have e1:t.nB n=n+1:=Ka hq;have e2:t.eB e n=aF e t.cb (n+101):=Ka hq;rw [e1,e2];exact(W.go (Km.trans (Km.ex ψ W.mc.lt) k32) m32).Jb hl hw34
 ·rw [xn]at hq;have e1:t.nB n=n:=JV (by rw [hq];simp);have e2:t.eB e n=e:=JV (by rw [hq];simp);rw [e1,e2];exact W
 obtain⟨b37,hv37,_,_,q2⟩:=c0 (kt κ.kp.kp);refine⟨λw'=>RS w w' m (t.nB n) (t.eB e n) b5 b10 t.kind (t.aA e) (t.bA e n),⟨b37,0,hv37,t.cb,q2,λhc=>?_,λhc=>?_⟩,λw46 ω b47 J hb47 hw48=>?_⟩
 ·have hc:t.cb≠0:=by simpa using hc
  have hl:=Iq I hc;have hb:=bc hl;refine⟨b37,0,hv37,t.cb,q2,⟨by omega,by rw [gz hl];omega⟩,_,κ.env.get hl,⟨⟨_,κ.th.c2⟩,κ.th.f 2⟩,λw21 ν=>?_⟩;have:t.bA e n=t.eB e n t.cb:=JV hc;rw [this];exact κ.rI ν
 ·have hc:t.cb=0:=by simpa using hc
  have:t.bA e n=0:=Ka hc;rw [this];exact κ
 have x48:Ex w46 J:=hw48▸Ex.alloc w46 _;have H:=ω.ex x48;have hs46:=ω.kp.size;have bd:jZ w.heap.size J b47 [] [] λg=>g=b47:=jZ.new hs46 hb47 hw48
 have hn5:b47≠b5:=by have :=ω.env.hb;omega
 have hn10:b47≠b10:=by have :=ω.th.lt;omega
 have h105:=H.h5;have ξ:=H.h10;have rp:RP D w J m (t.nB n) b5 b10 b47 (t.eB e n) t v [] .nil [] (λg=>g=b47):=
  ⟨H.kp,H.mc,H.hm,H.env,H.h5,H.th.lt,kt H.kp.kp,hD,bd,λg G=> .inr ⟨by have :=bd.le;omega,by omega,by omega⟩,rfl⟩
 obtain⟨b50,hv50,q0',_,_⟩:=c0 (kt H.kp.kp);refine⟨λw'=>RJ w w' m n e b47 b10 t,⟨b50,0,hv50,t.kind,q0',?_⟩,λw143 hJ=>EY δ hJ hR⟩;have hRQ:∀g,D g->¬RQ w m b5 b10 g:=λg G e=>by
  have :=hD g G;rcases e with e | e<;>omega
 have hq5:¬RQ w m b5 b10 b5:=λe=>by
  rcases e with e | e
  ·omega
  ·exact e.2.1 rfl
 have hb47:=bd.le;have α:∀{p:P},t.parts[0]?=some p->Bq p->Lt p->t.nB n+p.size<=1099511627776->(num t e n).2=(num p (t.eB e n) (t.nB n)).2->(∀a b vr (w':World),a=t.aA e->b=t.bA e n->ED (λg=>(w.heap.size<=g/\g≠b47)/\g< w'.heap.size) w' (ptr b10) t.kind a b vr (.slice none 0 0)->
   aB (λg=>(w.heap.size<=g/\g≠b47)/\g< w'.heap.size) w' (flat (num p (t.eB e n) (t.nB n)).1) vr->(flat (num t e n).1).1=[]/\af (λg=>(w.heap.size<=g/\g≠b47)/\g< w'.heap.size) w' (flat (num t e n).1).2 [ptr b10])->
   ∃β:World->Prop,∀ο:World,ο=World.drew J->β ο/\∃(b130 o131:Nat),v=Value.pointer (some ⟨b130,o131,none⟩)/\∃v132:Value,(∀w',β w'->World.cell? w' ⟨b130,(o131+3),none⟩=some v132)/\∃(b133 o134 ζ cap136:Nat),v132=Value.slice (some ⟨b133,o134,none⟩) ζ cap136/\0<=(0:Int)/\(0:Int)< ζ/\
    ∃v137:Value,(∀w',β w'->World.cell? w' ⟨b133,(o134+Int.toNat 0* 1),none⟩=some v137)/\∃ε:List Value,List.length ε=26/\(∀w',β w'->∀j,j< 26->World.cell? w' ⟨b5,0+j,none⟩=ε[j]?)/\Calls Tryz.prog 137 #[ptr m,v137,(Value.agg (List.toArray ε))] ο (an [.v] fun(v139:Value) (η:World)=>
     β η/\oneV v139=true/\((∃u141:Value,World.cell? η ⟨b10,3,none⟩=some u141)/\World.frozen? η ⟨b10,3,none⟩=false)/\∀w142:World,w142=World.setCell η ⟨b10,3,none⟩ v139->RJ w w142 m n e b47 b10 t):=by
  intro p hi hp hlp hnp e2 hth;refine⟨λw'=>Kp J.drew w' (RQ w m b5 b10),λw2 Z=>⟨Z▸Kp.ah (Ex.refl _) _,?_⟩⟩;have x2:Ex J w2:=Z▸Ex.drew J;rw [<-Z];have hs12:w2.heap.size=J.heap.size:=by rw [Z];rfl
  have r2:=H.ex x2;refine Bc (kt r2.kp.kp) hRQ r2.env hq5 (i:=0) (by omega) hi λx cs hx θ=>?_
  refine hp hx (λg G=>(hD g G).2) r2.mc θ hlp hnp λv3 w3 k3 m3 l3=>?_
  have r3:=r2.go k3 m3;have s3:=k3.size;have l3':aB (λg=>w2.heap.size<=g/\g< w3.heap.size) w3 (flat (num p (t.eB e n) (t.nB n)).1) v3:=l3.sub λg G hd=>⟨hd,G⟩
  have hb10lt:=r2.th.lt;have hb47lt:=bd.lt;refine⟨Kp.mono (λg G=> .inl G) k3.kp,fS.one l3,⟨⟨_,r3.th.c3⟩,r3.th.f 3⟩,λw4 hw4=>?_⟩;have k4:Kr b10 w3 w4:=hw4▸Kr.set w3 3 _;have s4:=k4.size;have th4:=r3.th.Bw hw4;have s2:=r2.kp.size;have hl4:aB (λg=>(w.heap.size<=g/\g≠b47)/\g< w4.heap.size) w4 (flat (num p (t.eB e n) (t.nB n)).1) v3:=aB.sub (aB.kp l3' k4 λg G e=>by omega) λg _ G=>⟨⟨by omega,by omega⟩,by omega⟩
  obtain⟨e4,h4⟩:=hth _ _ v3 w4 rfl rfl (th4.H2 ⟨⟨ξ,ME hn10⟩,th4.lt⟩) hl4;refine⟨r3.kp.out k4 (λg G e=>by omega) δ,?_,?_,e4,h4⟩
  ·rw [e2];exact m3.kp k4 (by omega)
  ·exact((bd.ex x2).kp k3.kp λg G e=>by omega).kp k4 λg G e=>by omega
 have hn0:∀{i:Int},0<=i->i.toNat=i.toNat:=λ _=>rfl
 cases t with
 | nil=>exact cS rfl (hR _ _ H.kp H.mc rp.done)
 | par p q=>
  refine aS (by dsimp only [T.kind];decide) (cS rfl ?_);have e1:n+(1+p.size+q.size)<=1099511627776:=by simpa only [T.size,LX,Nat.add_comm,Nat.add_left_comm]using hn
  have V:=bP p e n;have h2:=jc (num p e n).1;rw [V.1]at h2;refine rp.step (i:=0) (ih p (by simp [T.parts])) (by omega) rfl I.1 (show n+p.size<=_ by omega) (by simp only [JQ];omega) (by simp only [Lv.len];omega) λw2 ts2 M2 h=>?_
  refine h.step (i:=1) (ih q (by simp [T.parts])) (by omega) rfl I.2 (show(num p e n).2+q.size<=_ by omega) ?_ ?_ λw3 ts3 M3 h=>hR _ _ h.kp h.mc h.done
  ·show(flat (num p e n).1).1.length+q.size<=_;omega
  ·show(flat (num p e n).1).2.len+q.size<=_;omega
 | res x p=>
  refine aS (by dsimp only [T.kind];decide) (aS (by dsimp only [T.kind];decide) (cS rfl ?_));have e1:n+(1+p.size)<=1099511627776:=by simpa only [T.size,LX,Nat.add_comm,Nat.add_left_comm]using hn
  have hx0:x≠0:=λhx=>by have :=bc I.1;rw [hx]at this;exact absurd this.1 (by decide)
  have e2:T.bA (.res x p) e n=n+101:=by simp [T.bA,T.cb,hx0,T.eB,T.bnd,aF]
  refine⟨_,H.th.c2,λb82 w83 hb82 ς=>?_⟩;have x83:Ex J w83:=ς▸Ex.alloc J _;have bd83:=bd.ex x83;obtain⟨vo,_,hvo,_⟩:=bd83.sl;refine⟨rfl,⟨⟨vo,hvo⟩,bd83.fr 0⟩,λw85 hw85=>?_⟩;rw [e2]at ς;have bd85:=bd.IP (e:=0) hb82 ς hw85;have υ:Kr b47 J w85:=Kp.trans (Kp.ah x83 _) (hw85▸Kr.set w83 0 _) λ _ _ h=>h
  have s85:=υ.size;have hl5:=H.env.hb;have hl10:=H.th.lt;have hs48:=H.kp.size;have rp85:RP D w w85 m (n+1) b5 b10 b47 (aF e x (n+101)) (.res x p) v [n+101] .nil [] (λg=>g=b47\/g=b82):=
   ⟨H.kp.out υ (λg G e=>by omega) δ,H.mc.kp υ (by omega),δ,H.env.kp υ (by omega),h105,by omega,aI.kp υ (λg G e=>by have :=hD g G;omega) rp.tm,hD,bd85,λg G=> .inr (by
    rcases G with rfl | rfl
    ·exact⟨by omega,by omega,by omega⟩
    ·exact⟨by omega,by omega,by omega⟩),rfl⟩
  exact rp85.step (i:=0) (ih p (by simp [T.parts])) (by omega) rfl I.2 (by omega) (by simp only [JA,JQ];omega) (by simp only [Lv.len];omega) λw2 ts2 M2 h=>hR _ _ h.kp h.mc h.done
 | sum p q=>
  refine aS (by dsimp only [T.kind];decide) (aS (by dsimp only [T.kind];decide) (aS (by dsimp only [T.kind];decide) (cS rfl ?_)));have e1:n+(1+p.size+q.size)<=1099511627776:=by simpa only [T.size,LX,Nat.add_comm,Nat.add_left_comm]using hn
  have V:=bP p e n;refine⟨λw'=>Kp J.drew w' (RQ w m b5 b10),λw2 Z=>⟨Z▸Kp.ah (Ex.refl _) _,?_⟩⟩;have x2:Ex J w2:=Z▸Ex.drew J;rw [<-Z];have hs12:w2.heap.size=J.heap.size:=by rw [Z];rfl
  have r2:=H.ex x2;refine Bc (kt r2.kp.kp) hRQ r2.env hq5 (i:=0) (by omega) rfl λx cs hx θ=>?_
  refine Bc (kt r2.kp.kp) hRQ r2.env hq5 (i:=1) (by omega) rfl λy cs' hy hcs'=>?_
  refine ih p (by simp [T.parts]) hx (λg G=>(hD g G).2) r2.mc θ I.1 (show n+p.size<=_ by omega) λv3 w3 k3 m3 l3=>?_
  have r3:=r2.go k3 m3;have s3:=k3.size;have l3':aB (λg=>w2.heap.size<=g/\g< w3.heap.size) w3 (flat (num p e n).1) v3:=l3.sub λg G hd=>⟨hd,G⟩
  refine⟨Kp.mono (λg G=> .inl G) k3.kp,?_⟩;refine ih q (by simp [T.parts]) (aI.kp k3.kp (λg G=>(hD g G).2) hy) (λg G=>(hD g G).2) m3 hcs' I.2 (show(num p e n).2+q.size<=_ by omega) λv4 w4 k4 m4 l4=>?_
  have r4:=r3.go k4 m4;have s4:=k4.size;have l4':aB (λg=>w3.heap.size<=g/\g< w4.heap.size) w4 (flat (num q e (num p e n).2).1) v4:=l4.sub λg G hd=>⟨hd,G⟩
  have k24:Kr m w2 w4:=Kr.trans k3.kp k4.kp;refine⟨Kp.mono (λg G=> .inl G) k24,fS.one l3,fS.one l4,λb124 w5 hb124 hw5=>?_⟩;have x5:Ex w4 w5:=hw5▸Ex.alloc w4 _;have s5:w5.heap.size=w4.heap.size+1:=by rw [hw5,size_alloc]
  have r5:=r4.ex x5;refine⟨Kp.trans (Kp.mono (λg G=> .inl G) k24) (Kp.ah x5 λ _=>False) λ _ _ h=>h.elim,rfl,⟨⟨_,r5.th.c4⟩,r5.th.f 4⟩,λw6 γ=>?_⟩;have k6:Kr b10 w5 w6:=γ▸Kr.set w5 4 _;have s6:=k6.size;have th6:=r5.th.Hn γ;have s2:=r2.kp.size;have hb10lt:=r2.th.lt;have hb47lt:=bd.lt;refine⟨r5.kp.out k6 (λg G e=>by omega) δ,r5.mc.kp k6 (by omega),?_,rfl,?_⟩
  ·exact(((bd.ex x2).kp k24 λg G e=>by omega).ex x5).kp k6 λg G e=>by omega
  ·have hl3:aB (λg=>(w.heap.size<=g/\g≠b47)/\g< w6.heap.size) w6 (flat (num p e n).1) v3:=aB.sub (aB.kp (aB.ex (aB.kp l3' k4.kp λg G e=>by omega) x5) k6 λg G e=>by omega) λg _ G=>⟨⟨by omega,by omega⟩,by omega⟩
   have hl4:aB (λg=>(w.heap.size<=g/\g≠b47)/\g< w6.heap.size) w6 (flat (num q e (num p e n).2).1) v4:=aB.sub (aB.kp (aB.ex l4' x5) k6 λg G e=>by omega) λg _ G=>⟨⟨by omega,by omega⟩,by omega⟩
   refine⟨_,_,_,_,_,[v3,v4],rfl,th6.H2 ⟨⟨ξ,ME hn10⟩,th6.lt⟩,.inr ⟨b124,0,2,rfl,⟨⟨by omega,by omega⟩,by omega⟩,by omega,λi z hz=>?_⟩,⟨v3,_,rfl,hl3,⟨v4,_,rfl,hl4,rfl⟩⟩,rfl⟩;rw [JB (w:=w5) (k6.block b124 (by omega) (by omega)),hw5,hb124,J'];refine aa ?_
   match i,hz with
   | 0,hz=>simpa using hz
   | 1,hz=>simpa using hz
   | i+2,hz=>simp at hz
 | snd a b p=>
  refine aS (by dsimp only [T.kind];decide) (aS (by dsimp only [T.kind];decide) (aS (by dsimp only [T.kind];decide) (aS (by dsimp only [T.kind];decide) ?_)));refine α rfl (ih p (by simp [T.parts])) I.2.2 (show n+p.size<=_ by simp only [T.size]at hn;omega) rfl λa' b' vr w' ha hb V h2=>⟨rfl,?_⟩
  have ea:a'=e a:=by rw [ha];exact JV λhx=>by have :=bc I.1;rw [show a=0 from hx]at this;exact absurd this.1 (by decide)
  have eb:b'=e b:=by rw [hb];exact JV λhx=>by have :=bc I.2.1;rw [show b=0 from hx]at this;exact absurd this.1 (by decide)
  exact⟨_,_,_,_,_,rfl,V,.inr (.inr ⟨ea,eb⟩),h2,rfl⟩
 | mat a b p=>
  refine aS (by dsimp only [T.kind];decide) (aS (by dsimp only [T.kind];decide) (aS (by dsimp only [T.kind];decide) (aS (by dsimp only [T.kind];decide) ?_)));refine α rfl (ih p (by simp [T.parts])) I.2.2 (show n+p.size<=_ by simp only [T.size]at hn;omega) rfl λa' b' vr w' ha hb V h2=>⟨rfl,?_⟩
  have ea:a'=e a:=by rw [ha];exact JV λhx=>by have :=bc I.1;rw [show a=0 from hx]at this;exact absurd this.1 (by decide)
  have eb:b'=e b:=by rw [hb];exact JV λhx=>by have :=bc I.2.1;rw [show b=0 from hx]at this;exact absurd this.1 (by decide)
  exact⟨_,_,_,_,_,rfl,V,.inr (.inr ⟨ea,eb⟩),h2,rfl⟩
 | rcv a b p=>
  refine aS (by dsimp only [T.kind];decide) (aS (by dsimp only [T.kind];decide) (aS (by dsimp only [T.kind];decide) (aS (by dsimp only [T.kind];decide) ?_)));refine α rfl (ih p (by simp [T.parts])) I.2.2 (show n+1+p.size<=_ by simp only [T.size]at hn;omega) rfl λa' b' vr w' ha hb V h2=>⟨rfl,?_⟩
  have ea:a'=e a:=by rw [ha];exact JV λhx=>by have :=bc I.1;rw [show a=0 from hx]at this;exact absurd this.1 (by decide)
  have eb:b'=n+101:=by
   rw [hb];refine(JV λhx=>by have :=bc I.2.1;rw [show b=0 from hx]at this;exact absurd this.1 (by decide)).trans ?_;simp [T.eB,T.bnd,aF,T.cb]
  exact⟨_,_,_,_,_,rfl,V,.inr (.inr ⟨ea,eb⟩),h2,rfl⟩
 | tau p=>
  refine aS (by dsimp only [T.kind];decide) (aS (by dsimp only [T.kind];decide) (aS (by dsimp only [T.kind];decide) (aS (by dsimp only [T.kind];decide) ?_)));exact α rfl (ih p (by simp [T.parts])) I (show n+p.size<=_ by simp only [T.size]at hn;omega) rfl λa' b' vr w' ha hb V h2=>⟨rfl,⟨_,_,_,_,_,rfl,V,.inl rfl,h2,rfl⟩⟩
 | rep p=>
  refine aS (by dsimp only [T.kind];decide) (aS (by dsimp only [T.kind];decide) (aS (by dsimp only [T.kind];decide) (aS (by dsimp only [T.kind];decide) ?_)));exact α rfl (ih p (by simp [T.parts])) I (show n+p.size<=_ by simp only [T.size]at hn;omega) rfl λa' b' vr w' ha hb V h2=>⟨rfl,⟨_,_,_,_,_,rfl,V,.inr (.inl rfl),h2,rfl⟩⟩
theorem wJ:∀{l:List Nat} {x:Nat},x∈l->x<=l.sum
 | y::l,x,h=>by
  rw [KN];rcases JX.1 h with rfl | h
  ·omega
  ·have :=wJ h;omega
theorem GK:∀t:P,Bq t:=by
 have:∀(k:Nat) (t:P),t.size<=k->Bq t:=by
  intro k
  induction k with
  | zero=>intro t h;have :=a6 t;omega
  | succ k z=>
   intro t h;refine DR λp G=>z p ?_
   have e:=rW t;have:p.size<=(t.parts.map T.size).sum:=wJ (Kk.2 ⟨p,G,rfl⟩);omega
 exact λt=>this t.size t (JL _)
end Go.Proofs.YtdecokaadekjnaaGreat
namespace Go.Proofs.YtdecokaadekjnaaGreat
open Go
set_option maxRecDepth 100000
theorem mI (s1:Value)(w:World)(R:Value->World->Prop)(h:∃(G:Option Addr) (H c4:Nat),s1= .slice G H c4/\ai (Option.isNone G) (R (.slice none 0 0) w) (aQ w (.cells #[] 3) λb5 I=>eE 3 1 8 I (.slice (some ⟨b5,0,none⟩) 0 0) s1 λv12 z=>R v12 z)):
  Calls Tryz.prog 180 #[s1] w (an [.v] R):=
 aY (aZ [] [] []) [.tmp 2 .v] [.v s1] Tryz.func180 (by kernel_rfl) h
theorem j5 (z:Value)(w:World)(R:Bool->World->Prop)(h:az z λb2 G=>aU w b2 (G+1) λv4=>bz v4 λH=>R ((decide ((H:Int)=0))) w):
  Calls Tryz.prog 181 #[z] w (an [.b] R):=
 aY (aZ [] [] []) [.tmp 2 .b] [.v z] Tryz.func181 (by kernel_rfl) h
theorem mA (z:Value)(w:World)(R:Bool->World->Prop)(h:az z λb2 o3=>aU w b2 (o3+0) λv4=>bz v4 λl6=>ai (decide ((l6:Int)=0)) (az z λb8 o9=>aU w b8 (o9+1) λv10=>bz v10 λG=>ai (decide ((G:Int)=1)) (az z λH I=>aU w H (I+1) λJ=>aH J 0 λV W=>aU w V (W+Int.toNat 0* 1) λv21=>az v21 λZ α=>fR w Z (α+0) λβ=>R ((decide (β=43))) w) (R false w)) (R false w)):
  Calls Tryz.prog 182 #[z] w (an [.b] R):=
 aY (aZ [] [] []) [.tmp 2 .b] [.v z] Tryz.func182 (by kernel_rfl) h
theorem mM (t1:Value)(c2:Value)(w:World)(R:Bool->World->Prop)(h:az c2 λb3 z=>oH w b3 z λn5=>bO 187 #[t1,(.int .i64 n5)] w λG H=>R G H):
  Calls Tryz.prog 240 #[t1,c2] w (an [.b] R):=
 aY (aZ [] [] []) [.tmp 3 .b] [.v t1,.v c2] Tryz.func240 (by kernel_rfl) h
theorem gO (s1:Value)(f2:Value)(w:World)(R:Int->World->Prop)(h:bz s1 λl4=>fJ 0 w λZ W z H=>ai (decide (z< (l4:Int))) (aH s1 z λb10 I=>aU H b10 (I+z.toNat* 1) λJ=>∃(f15:Nat) (c16:List Value),f2= .func (.func f15) #[] (List.toArray c16)/\List.contains dD f15=true/\bO f15 (List.toArray ([J]++c16)) H λV G=>ai V (R z G) (aj (z+1)/\Z (z+1) G/\W (z+1) G< W z H)) (R (-1) H)):
  Calls Tryz.prog 219 #[s1,f2] w (an [.i] R):=
 aY (aZ [(2,[(8,.i)])] [] []) [.tmp 4 .i] [.v s1,.v f2] Tryz.func219 (by kernel_rfl) h
theorem fp (s1:Value)(f2:Value)(w:World)(R:Bool->World->Prop)(h:gn 219 #[s1,f2] w λz G=>R ((decide (0<=z))) G):
  Calls Tryz.prog 185 #[s1,f2] w (an [.b] R):=
 aY (aZ [] [] []) [.tmp 4 .b] [.v s1,.v f2] Tryz.func185 (by kernel_rfl) h
theorem oN (z:Value)(G:Int)(w:World)(R:Bool->World->Prop)(h:aQ w (.cells #[(.int .i64 G)] 3) λb3 H=>az z λb5 I=>aU H b5 (I+1) λJ=>bO 185 #[J,(Value.func (Fn.func 240) #[] #[(.pointer (some ⟨b3,0,none⟩))])] H λV W=>R V W):
  Calls Tryz.prog 220 #[z,(.int .i64 G)] w (an [.b] R):=
 aY (aZ [] [] []) [.tmp 4 .b] [.v z,.i G] Tryz.func220 (by kernel_rfl) h
theorem kQ (z:Value)(c2:Value)(w:World)(R:Bool->World->Prop)(h:az c2 λb3 G=>oH w b3 G λn5=>bO 220 #[z,(.int .i64 n5)] w λH I=>R H I):
  Calls Tryz.prog 222 #[z,c2] w (an [.b] R):=
 aY (aZ [] [] []) [.tmp 3 .b] [.v z,.v c2] Tryz.func222 (by kernel_rfl) h
theorem gU (s1:Value)(f2:Value)(w:World)(R:Int->World->Prop)(h:bz s1 λl4=>fJ 0 w λZ W z H=>ai (decide (z< (l4:Int))) (aH s1 z λb10 I=>aU H b10 (I+z.toNat* 1) λJ=>∃(f15:Nat) (c16:List Value),f2= .func (.func f15) #[] (List.toArray c16)/\List.contains dD f15=true/\bO f15 (List.toArray ([J]++c16)) H λV G=>ai V (R z G) (aj (z+1)/\Z (z+1) G/\W (z+1) G< W z H)) (R (-1) H)):
  Calls Tryz.prog 241 #[s1,f2] w (an [.i] R):=
 aY (aZ [(2,[(8,.i)])] [] []) [.tmp 4 .i] [.v s1,.v f2] Tryz.func241 (by kernel_rfl) h
theorem fN (s1:Value)(f2:Value)(w:World)(R:Bool->World->Prop)(h:gn 241 #[s1,f2] w λz G=>R ((decide (0<=z))) G):
  Calls Tryz.prog 221 #[s1,f2] w (an [.b] R):=
 aY (aZ [] [] []) [.tmp 4 .b] [.v s1,.v f2] Tryz.func221 (by kernel_rfl) h
theorem nC (t1:Value)(x2:Int)(w:World)(R:Bool->World->Prop)(h:aQ w (.cells #[(.int .i64 x2)] 3) λb3 W=>∃J5:Bool->World->Prop,(az t1 λb6 o7=>fR W b6 (o7+0) λc8=>fE (decide (c8=33)) (az t1 λb9 ζ=>fR W b9 (ζ+0) λη=>fE (decide (η=61)) (az t1 λθ ι=>fR W θ (ι+0) λκ=>J5 ((decide (κ=63))) W) (J5 true W)) (J5 true W))/\∀(Z:Bool) (α:World),J5 Z α->∃J:World->Prop,(bL α λG H=>ai Z (az t1 λμ ν=>ji G μ (ν+1) λξ=>ji G b3 0 λο=>fE (decide (ξ=ο)) (az t1 λς υ=>ji G ς (υ+2) λφ=>ji G b3 0 λχ=>ai (decide (φ=χ)) (R true H) (J H)) (R true H)) (J H))/\∀(β:World),J β->bL β λz V=>az t1 λψ ω=>cC z ψ (ω+3) λv33=>∃γ:Option Addr,v33= .pointer γ/\ai (!Option.isNone γ) (az t1 λb35 o36=>cC z b35 (o36+3) λv37=>ji z b3 0 λn38=>bO 220 #[v37,(.int .i64 n38)] V λq39 I=>z I/\fE q39 (az t1 λb41 o42=>cC z b41 (o42+4) λv43=>bO 221 #[v43,(Value.func (Fn.func 222) #[] #[(.pointer (some ⟨b3,0,none⟩))])] I λq44 δ=>z δ/\R q44 δ) (z I/\R true I)) (z V/\az t1 λb46 o47=>cC z b46 (o47+4) λv48=>bO 221 #[v48,(Value.func (Fn.func 222) #[] #[(.pointer (some ⟨b3,0,none⟩))])] V λq49 ε=>z ε/\R q49 ε)):
  Calls Tryz.prog 187 #[t1,(.int .i64 x2)] w (an [.b] R):=
 aY (aZ [] [(2,[(5,.b)]),(4,[])] [2,4]) [.tmp 4 .b] [.v t1,.i x2] Tryz.func187 (by kernel_rfl) h
theorem iB (t1:Value)(c2:Value)(w:World)(R:Bool->World->Prop)(h:az c2 λb3 z=>oH w b3 z λn5=>bO 187 #[t1,(.int .i64 n5)] w λG H=>R G H):
  Calls Tryz.prog 186 #[t1,c2] w (an [.b] R):=
 aY (aZ [] [] []) [.tmp 3 .b] [.v t1,.v c2] Tryz.func186 (by kernel_rfl) h
theorem jS (z:Int)(c2:Value)(w:World)(R:Bool->World->Prop)(h:aQ w (.cells #[(.int .i64 z)] 3) λb3 G=>az c2 λb5 J=>aU G b5 J λV=>az V λW Z=>aU G W (Z+1) λv10=>bO 185 #[v10,(Value.func (Fn.func 186) #[] #[(.pointer (some ⟨b3,0,none⟩))])] G λH I=>R (!H) I):
  Calls Tryz.prog 184 #[(.int .i64 z),c2] w (an [.b] R):=
 aY (aZ [] [] []) [.tmp 3 .b] [.i z,.v c2] Tryz.func184 (by kernel_rfl) h
theorem iP (s1:Value)(f2:Value)(w:World)(R:Int->World->Prop)(h:bz s1 λl4=>fJ 0 w λZ W z H=>ai (decide (z< (l4:Int))) (aH s1 z λb10 I=>oH H b10 (I+z.toNat* 1) λJ=>∃(f15:Nat) (c16:List Value),f2= .func (.func f15) #[] (List.toArray c16)/\List.contains dD f15=true/\bO f15 (List.toArray ([(.int .i64 J)]++c16)) H λV G=>ai V (R z G) (aj (z+1)/\Z (z+1) G/\W (z+1) G< W z H)) (R (-1) H)):
  Calls Tryz.prog 218 #[s1,f2] w (an [.i] R):=
 aY (aZ [(2,[(8,.i)])] [] []) [.tmp 4 .i] [.v s1,.v f2] Tryz.func218 (by kernel_rfl) h
theorem iq (s1:Value)(d2:Value)(w:World)(R:Value->World->Prop)(h:gn 218 #[s1,d2] w λn3 w4=>ai (decide (n3=(-1))) (R s1 w4) (aj (n3+1)/\ve n3 (n3+1) w4 λI5 m6 i7 z Z=>bz s1 λζ=>ai (decide (z< (ζ:Int))) (aH s1 z λη θ=>oH Z η (θ+z.toNat* 1) λβ=>∃(f18:Nat) (γ:List Value),d2= .func (.func f18) #[] (List.toArray γ)/\List.contains dD f18=true/\bO f18 (List.toArray ([(.int .i64 β)]++γ)) Z λι α=>ai (!ι) (aH s1 i7 λκ μ=>bf α κ (μ+i7.toNat* 1) (.int .i64 β) λδ=>aj (i7+1)/\aj (z+1)/\I5 (i7+1) (z+1) δ/\m6 (i7+1) (z+1) δ< m6 i7 z Z) (aj (z+1)/\I5 i7 (z+1) α/\m6 i7 (z+1) α< m6 i7 z Z)) (∃(a28:Option Addr) (G c30:Nat),s1= .slice a28 G c30/\0<=(i7:Int)/\(i7:Int)<=(G:Int)/\(G:Int)<=(c30:Int)/\∃(a31:Option Addr) (H ν:Nat),(Value.slice (if c30=i7.toNat then a28 else Option.map (·.add (i7.toNat* 1)) a28) (Int.toNat (G:Int) - i7.toNat) (c30 - i7.toNat))= .slice a31 H ν/\((H=0/\∃(a37:Option Addr) (ξ I:Nat),s1= .slice a37 ξ I/\0<=(0:Int)/\(0:Int)<=i7/\i7<=(I:Int)/\R ((.slice (if I=Int.toNat 0 then a37 else Option.map (·.add (Int.toNat 0* 1)) a37) (i7.toNat - Int.toNat 0) (I - Int.toNat 0))) Z)\/∃(J V:Nat),a31=some ⟨J,V,none⟩/\(∀j,j< H->(∃u,World.cell? Z ⟨J,V+j,none⟩=some u)/\World.frozen? Z ⟨J,V+j,none⟩=false)/\∀ε:World,ε=World.setCells Z J V (List.replicate H (.int .i64 0))->∃(a40:Option Addr) (ο W:Nat),s1= .slice a40 ο W/\0<=(0:Int)/\(0:Int)<=i7/\i7<=(W:Int)/\R ((.slice (if W=Int.toNat 0 then a40 else Option.map (·.add (Int.toNat 0* 1)) a40) (i7.toNat - Int.toNat 0) (W - Int.toNat 0))) ε)))):
  Calls Tryz.prog 183 #[s1,d2] w (an [.v] R):=
 aY (aZ [(5,[(5,.i),(6,.i)])] [] []) [.tmp 4 .v] [.v s1,.v d2] Tryz.func183 (by kernel_rfl) h
theorem ld (l1:Value)(w:World)(R:Value->World->Prop)(h:az l1 λb2 o3=>aU w b2 (o3+0) λv4=>bW 180 #[v4] w λv5 w6=>oneV v5=true/\aQ w6 (.cells #[v5,(.slice none 0 0)] 155) λb7 w8=>aQ w8 (.cells #[(.pointer none)] 146) λb9 w10=>bf w10 b9 0 (.pointer (some ⟨b7,0,none⟩)) λw12=>az l1 λb13 o14=>aU w12 b13 (o14+1) λv15=>bz v15 λl17=>fJ 0 w12 λV G z I=>ai (decide (z< (l17:Int))) (aH v15 z λb23 o24=>aU I b23 (o24+z.toNat* 1) λW=>bL I λψ w29=>az W λb30 o31=>H8 ψ b30 (o31+0) λc32=>az W λb33 o34=>ji ψ b33 (o34+1) λn35=>az W λb36 o37=>ji ψ b36 (o37+2) λn38=>aQ w29 (.cells #[(.int .u8 c32.toNat),(.int .i64 n35),(.int .i64 n38),(.pointer none),(.slice none 0 0)] 201) λb39 κ=>ψ κ/\az W λb41 o42=>fR κ b41 (o42+0) λc43=>ai (decide (c43=43)) (az W λb44 o45=>aU κ b44 (o45+4) λv46=>bz v46 λl48=>fJ 0 κ λI50 μ J Z=>ai (decide (J< (l48:Int))) (aH v46 J λb54 o55=>aU Z b54 (o55+J.toNat* 1) λv58=>bW 139 #[v58] Z λv59 w60=>bO 181 #[v59] w60 λq61 w62=>ai q61 (aj (J+1)/\I50 (J+1) w62/\μ (J+1) w62< μ J Z) (bO 182 #[v59] w62 λq63 w64=>ai q63 (bL w64 λν w66=>cC ν b39 4 λv67=>az v59 λb68 o69=>cC ν b68 (o69+1) λv70=>aH v70 0 λb71 o72=>cC ν b71 (o72+Int.toNat 0* 1) λv75=>az v75 λb76 o77=>cC ν b76 (o77+4) λv78=>eE 146 1 8 w66 v67 v78 λv84 w85=>ν w85/\oneV v84=true/\bf w85 b39 4 v84 λw87=>aj (J+1)/\I50 (J+1) w87/\μ (J+1) w87< μ J Z) (aU w64 b39 4 λv88=>oneV v59=true/\aQ w64 (.cells #[v59] 146) λb89 w90=>eE 146 1 8 w90 v88 (.slice (some ⟨b89,0,none⟩) 1 1) λv96 w97=>oneV v96=true/\bf w97 b39 4 v96 λw99=>aj (J+1)/\I50 (J+1) w99/\μ (J+1) w99< μ J Z))) (aU Z b39 4 λv100=>bz v100 λω=>ai (decide ((ω:Int)=0)) (aj (z+1)/\V (z+1) Z/\G (z+1) Z< G z I) (ai (decide ((ω:Int)=1)) (bL Z λθ w105=>cC θ b9 0 λv106=>cC θ b39 4 λv107=>aH v107 0 λb108 o109=>cC θ b108 (o109+Int.toNat 0* 1) λv112=>fC 179 #[v106,v112] w105 λξ=>θ ξ/\aj (z+1)/\V (z+1) ξ/\G (z+1) ξ< G z I) (bL Z λα w115=>cC α b9 0 λv116=>cC α b9 0 λv117=>az v117 λb118 o119=>cC α b118 (o119+1) λv120=>aQ w115 (.cells #[(.pointer (some ⟨b39,0,none⟩))] 156) λb121 w122=>α w122/\eE 156 1 8 w122 v120 (.slice (some ⟨b121,0,none⟩) 1 1) λv128 w129=>α w129/\az v116 λb130 o131=>oneV v128=true/\bf w129 b130 (o131+1) v128 λw133=>aj (z+1)/\V (z+1) w133/\G (z+1) w133< G z I)))) (az W λb134 o135=>aU κ b134 (o135+3) λv136=>bW 139 #[v136] κ λv137 w138=>oneV v137=true/\bf w138 b39 3 v137 λw140=>bL w140 λο H=>az W λb143 o144=>H8 ο b143 (o144+0) λc145=>ai (decide (c145=61)) (az W λb146 o147=>ji ο b146 (o147+1) λn148=>az W λb149 o150=>ji ο b149 (o150+2) λn151=>ai (decide (n148=n151)) (bL H λS152 w153=>cC S152 b9 0 λv154=>cC S152 b39 3 λv155=>fC 179 #[v154,v155] w153 λw156=>aj (z+1)/\V (z+1) w156/\G (z+1) w156< G z I) (az W λb157 o158=>fR H b157 (o158+0) λc159=>fE (decide (c159=61)) (az W λb160 o161=>fR H b160 (o161+0) λc162=>ai (decide (c162=42)) (aU H b39 3 λv163=>bO 181 #[v163] H λq164 ς=>ai q164 (aj (z+1)/\V (z+1) ς/\G (z+1) ς< G z I) (bL ς λβ w167=>cC β b9 0 λv168=>cC β b9 0 λv169=>az v169 λb170 o171=>cC β b170 (o171+1) λv172=>aQ w167 (.cells #[(.pointer (some ⟨b39,0,none⟩))] 156) λb173 w174=>β w174/\eE 156 1 8 w174 v172 (.slice (some ⟨b173,0,none⟩) 1 1) λv180 w181=>β w181/\az v168 λb182 o183=>oneV v180=true/\bf w181 b182 (o183+1) v180 λw185=>aj (z+1)/\V (z+1) w185/\G (z+1) w185< G z I)) (bL H λγ w187=>cC γ b9 0 λv188=>cC γ b9 0 λv189=>az v189 λb190 o191=>cC γ b190 (o191+1) λv192=>aQ w187 (.cells #[(.pointer (some ⟨b39,0,none⟩))] 156) λb193 w194=>γ w194/\eE 156 1 8 w194 v192 (.slice (some ⟨b193,0,none⟩) 1 1) λv200 w201=>γ w201/\az v188 λb202 o203=>oneV v200=true/\bf w201 b202 (o203+1) v200 λw205=>aj (z+1)/\V (z+1) w205/\G (z+1) w205< G z I)) (aU H b39 3 λv206=>bO 181 #[v206] H λq207 υ=>ai q207 (aj (z+1)/\V (z+1) υ/\G (z+1) υ< G z I) (bL υ λδ w210=>cC δ b9 0 λv211=>cC δ b9 0 λv212=>az v212 λb213 o214=>cC δ b213 (o214+1) λv215=>aQ w210 (.cells #[(.pointer (some ⟨b39,0,none⟩))] 156) λb216 w217=>δ w217/\eE 156 1 8 w217 v215 (.slice (some ⟨b216,0,none⟩) 1 1) λv223 w224=>δ w224/\az v211 λb225 o226=>oneV v223=true/\bf w224 b225 (o226+1) v223 λw228=>aj (z+1)/\V (z+1) w228/\G (z+1) w228< G z I)))) (az W λb229 o230=>fR H b229 (o230+0) λc231=>fE (decide (c231=61)) (az W λb232 o233=>fR H b232 (o233+0) λc234=>ai (decide (c234=42)) (aU H b39 3 λv235=>bO 181 #[v235] H λq236 φ=>ai q236 (aj (z+1)/\V (z+1) φ/\G (z+1) φ< G z I) (bL φ λε w239=>cC ε b9 0 λv240=>cC ε b9 0 λv241=>az v241 λb242 o243=>cC ε b242 (o243+1) λv244=>aQ w239 (.cells #[(.pointer (some ⟨b39,0,none⟩))] 156) λb245 w246=>ε w246/\eE 156 1 8 w246 v244 (.slice (some ⟨b245,0,none⟩) 1 1) λv252 w253=>ε w253/\az v240 λb254 o255=>oneV v252=true/\bf w253 b254 (o255+1) v252 λw257=>aj (z+1)/\V (z+1) w257/\G (z+1) w257< G z I)) (bL H λζ w259=>cC ζ b9 0 λv260=>cC ζ b9 0 λv261=>az v261 λb262 o263=>cC ζ b262 (o263+1) λv264=>aQ w259 (.cells #[(.pointer (some ⟨b39,0,none⟩))] 156) λb265 w266=>ζ w266/\eE 156 1 8 w266 v264 (.slice (some ⟨b265,0,none⟩) 1 1) λv272 w273=>ζ w273/\az v260 λb274 o275=>oneV v272=true/\bf w273 b274 (o275+1) v272 λw277=>aj (z+1)/\V (z+1) w277/\G (z+1) w277< G z I)) (aU H b39 3 λv278=>bO 181 #[v278] H λq279 χ=>ai q279 (aj (z+1)/\V (z+1) χ/\G (z+1) χ< G z I) (bL χ λη w282=>cC η b9 0 λv283=>cC η b9 0 λv284=>az v284 λb285 o286=>cC η b285 (o286+1) λv287=>aQ w282 (.cells #[(.pointer (some ⟨b39,0,none⟩))] 156) λb288 w289=>η w289/\eE 156 1 8 w289 v287 (.slice (some ⟨b288,0,none⟩) 1 1) λv295 w296=>η w296/\az v283 λb297 o298=>oneV v295=true/\bf w296 b297 (o298+1) v295 λw300=>aj (z+1)/\V (z+1) w300/\G (z+1) w300< G z I))))) (bL I λι w302=>cC ι b9 0 λv303=>cC ι b9 0 λv304=>az v304 λb305 o306=>cC ι b305 (o306+0) λv307=>bW 183 #[v307,(Value.func (Fn.func 184) #[] #[(.pointer (some ⟨b9,0,none⟩))])] w302 λv308 w309=>ι w309/\az v303 λb310 o311=>oneV v308=true/\bf w309 b310 (o311+0) v308 λw313=>aU w313 b9 0 λv314=>R v314 w313)):
  Calls Tryz.prog 139 #[l1] w (an [.v] R):=
 aY (aZ [(3,[(22,.i)]),(8,[(50,.i)])] [] [5,14,17,20,22,23,24,27]) [.tmp 2 .v] [.v l1] Tryz.func139 (by kernel_rfl) h
end Go.Proofs.YtdecokaadekjnaaGreat
namespace Go.Proofs.YtdecokaadekjnaaGreat
open Go Go.RowKit
namespace Lv
def sz:Lv->Nat
 | nil=>0 | thr _ _ _ _ r n=>r.sz+n.sz+1 | sum z n=>z.sz+n.sz+1 | part _ q n=>q.sz+n.sz+1
def sh:Bool->Lv->Bool
 | _,nil=>true
 | true,thr _ _ _ _ r n=>sh true r&&sh true n
 | true,sum z n=>sh false z&&sh true n
 | false,part _ q n=>sh true q&&sh false n
 | _,_=>false
def bn:Lv->List Lv
 | nil=>[] | thr k a b o r n=>thr k a b o r nil::bn n | sum z n=>sum z nil::bn n | part o q n=>part o q nil::bn n
theorem cK:∀l:Lv,l.bn.length=l.len
 | nil=>rfl
 | thr _ _ _ _ _ n=>by simp only [bn,len,JA,cK n]
 | sum _ n=>by simp only [bn,len,JA,cK n]
 | part _ _ n=>by simp only [bn,len,JA,cK n]
theorem ee:∀(l:Lv),∀e∈l.bn,e.sz<=l.sz
 | nil,_,h=>by cases h
 | thr k a b o r n,e,h=>by
  rcases JX.1 h with rfl | h
  ·simp only [sz];omega
  ·have :=ee n e h;simp only [sz];omega
 | sum z n,e,h=>by
  rcases JX.1 h with rfl | h
  ·simp only [sz];omega
  ·have :=ee n e h;simp only [sz];omega
 | part o q n,e,h=>by
  rcases JX.1 h with rfl | h
  ·simp only [sz];omega
  ·have :=ee n e h;simp only [sz];omega
theorem ma (x:Nat):∀l:Lv,l.has x=l.bn.any (·.has x)
 | nil=>rfl
 | thr k a b o r n=>by simp [bn,has,ma x n]
 | sum z n=>by simp [bn,has,ma x n]
 | part o q n=>by simp [bn,has,ma x n]
theorem jE:∀{l:Lv},l.sh true=true->∀e∈l.bn,(∃k a b o r,e=thr k a b o r nil/\r.sh true=true)\/∃G,e=sum G nil/\G.sh false=true
 | nil,_,_,h=>by cases h
 | thr k a b o r n,z,e,h=>by
  simp only [sh,JF]at z;rcases JX.1 h with rfl | h
  ·exact .inl ⟨k,a,b,o,r,rfl,z.1⟩
  ·exact jE z.2 e h
 | sum G n,z,e,h=>by
  simp only [sh,JF]at z;rcases JX.1 h with rfl | h
  ·exact .inr ⟨G,rfl,z.1⟩
  ·exact jE z.2 e h
 | part ..,z,_,_=>by cases z
theorem lX:∀{l:Lv},l.sh false=true->∀e∈l.bn,∃o q,e=part o q nil/\q.sh true=true
 | nil,_,_,h=>by cases h
 | part o q n,z,e,h=>by
  simp only [sh,JF]at z;rcases JX.1 h with rfl | h
  ·exact⟨o,q,rfl,z.1⟩
  ·exact lX z.2 e h
 | thr ..,z,_,_=>by cases z
 | sum ..,z,_,_=>by cases z
theorem gH {b:Bool}:∀{l m:Lv},l.sh b=true->m.sh b=true->(l.app m).sh b=true
 | nil,_,_,h=>h
 | thr _ _ _ _ r n,m,z,G=>by
  cases b
  ·cases z
  ·simp only [sh,app,JF]at*;exact⟨z.1,gH z.2 G⟩
 | sum H n,m,z,G=>by
  cases b
  ·cases z
  ·simp only [sh,app,JF]at*;exact⟨z.1,gH z.2 G⟩
 | part o q n,m,z,G=>by
  cases b
  ·simp only [sh,app,JF]at*;exact⟨z.1,gH z.2 G⟩
  ·cases z
end Lv
theorem aK.cons {A B:Type}{R:A->B->Prop}{a:A}{b:B}{l:List A}{m:List B}(h:R a b)(z:aK R l m):aK R (a::l) (b::m):=(aK.one h).append z
theorem af.bn {D:Nat->Prop}{w:World}:∀{l:Lv} {ts:List Value},af D w l ts->aK (λe v=>af D w e [v]) l.bn ts
 | .nil,_,h=>by cases h;exact aK.nil
 | .thr k a b o r n,_,⟨t,z,a',J,vr,G,H,I,h4,h5⟩=>by subst G;exact aK.cons ⟨t,[],a',J,vr,rfl,H,I,h4,rfl⟩ (af.bn (l:=n) h5)
 | .sum V n,_,⟨t,z,a',J,vp,us,G,H,I,h4,h5⟩=>by subst G;exact aK.cons ⟨t,[],a',J,vp,us,rfl,H,I,h4,rfl⟩ (af.bn (l:=n) h5)
 | .part o q n,_,⟨v,z,G,H,I⟩=>by subst G;exact aK.cons ⟨v,[],rfl,H,rfl⟩ (af.bn (l:=n) I)
theorem ec.ex {D:Nat->Prop}{w w':World}{v:Value}{l:List Value}(h:ec D w v l)(x:Ex w w'):ec D w' v l:=h.kp (Kp.ah x λ _=>False) λ _ _ h=>h
def yj (w:World)(f:Nat)(ca:List Value)(ts:List Value)(p:Nat->Bool):Prop:=
 ∀(i:Nat) (x:Value) (w1:World),ts[i]?=some x->Ex w w1->∀{R:Bool->World->Prop},(∀w2,Ex w1 w2->R (p i) w2)->Calls Tryz.prog f (List.toArray ([x]++ca)) w1 (an [.b] R)
theorem iU {n:Nat}{p:Nat->Bool}:(List.range n).any p=true↔∃i,i< n/\p i=true:=by
 simp [LC,K2]
theorem C7 {D:Nat->Prop}{w:World}{s:Value}{ts:List Value}(V:ec D w s ts){f:Nat}{ca:List Value}(hf:dD.contains f=true){p:Nat->Bool}(hp:yj w f ca ts p)(hl:ts.length<=1099511627776){R:Bool->World->Prop}(W:∀w',Ex w w'->R ((List.range ts.length).any p) w'):
  Calls Tryz.prog 185 #[s,.func (.func f) #[] (List.toArray ca)] w (an [.b] R):=by
 refine fp _ _ w R ?_;refine gO _ _ w _ ?_;obtain⟨a,cap,e⟩:=V.slice;refine⟨a,_,cap,e,λx w'=>∃i:Nat,x=i/\i<=ts.length/\Ex w w'/\∀j< i,p j=false,λx _=>(ts.length - x).toNat,⟨0,rfl,by omega,Ex.refl w,λj h=>by omega⟩,λx w1 hI=>?_⟩;obtain⟨i,rfl,hi,G,Z⟩:=hI;refine⟨λH=>?_,λH=>?_⟩
 ·have H:=J0 H;have z:i< ts.length:=by omega
  refine(V.ex G).get (i:=i) (x:=ts[i]) (by omega) (by simp [z]) ⟨f,ca,rfl,hf,hp i _ w1 (JC z) G λw2 I=>⟨λJ=>?_,λJ=>⟨by unfold aj;omega,⟨i+1,by omega,by omega,Ex.trans G I,λj hj=>?_⟩,by dsimp only;omega⟩⟩⟩
  ·have :=W w2 (Ex.trans G I);rw [iU.2 ⟨i,z,J⟩]at this;have e:decide ((0:Int)<=i)=true:=KH (by omega);show R (decide ((0:Int)<=i)) w2;rw [e];exact this
  ·by_cases h:j=i
   ·subst h;exact J
   ·exact Z j (by omega)
 ·have H:=J1 H;have :=W w1 G;have e:(List.range ts.length).any p=false:=by
   rw [Bool.eq_false_iff];intro h;obtain⟨j,hj,h⟩:=iU.1 h;rw [Z j (by omega)]at h;cases h
  rw [e]at this;exact this
theorem D1 {D:Nat->Prop}{w:World}{s:Value}{ts:List Value}(V:ec D w s ts){f:Nat}{ca:List Value}(hf:dD.contains f=true){p:Nat->Bool}(hp:yj w f ca ts p)(hl:ts.length<=1099511627776){R:Bool->World->Prop}(W:∀w',Ex w w'->R ((List.range ts.length).any p) w'):
  Calls Tryz.prog 221 #[s,.func (.func f) #[] (List.toArray ca)] w (an [.b] R):=by
 refine fN _ _ w R ?_;refine gU _ _ w _ ?_;obtain⟨a,cap,e⟩:=V.slice;refine⟨a,_,cap,e,λx w'=>∃i:Nat,x=i/\i<=ts.length/\Ex w w'/\∀j< i,p j=false,λx _=>(ts.length - x).toNat,⟨0,rfl,by omega,Ex.refl w,λj h=>by omega⟩,λx w1 hI=>?_⟩;obtain⟨i,rfl,hi,G,Z⟩:=hI;refine⟨λH=>?_,λH=>?_⟩
 ·have H:=J0 H;have z:i< ts.length:=by omega
  refine(V.ex G).get (i:=i) (x:=ts[i]) (by omega) (by simp [z]) ⟨f,ca,rfl,hf,hp i _ w1 (JC z) G λw2 I=>⟨λJ=>?_,λJ=>⟨by unfold aj;omega,⟨i+1,by omega,by omega,Ex.trans G I,λj hj=>?_⟩,by dsimp only;omega⟩⟩⟩
  ·have :=W w2 (Ex.trans G I);rw [iU.2 ⟨i,z,J⟩]at this;have e:decide ((0:Int)<=i)=true:=KH (by omega);show R (decide ((0:Int)<=i)) w2;rw [e];exact this
  ·by_cases h:j=i
   ·subst h;exact J
   ·exact Z j (by omega)
 ·have H:=J1 H;have :=W w1 G;have e:(List.range ts.length).any p=false:=by
   rw [Bool.eq_false_iff];intro h;obtain⟨j,hj,h⟩:=iU.1 h;rw [Z j (by omega)]at h;cases h
  rw [e]at this;exact this
def H7 {A:Type}(l:List A)(f:A->Bool)(i:Nat):Bool:=(l[i]?.map f).getD false
theorem pg {A:Type}{l:List A}{f:A->Bool}{i:Nat}(h:i< l.length):H7 l f i=f l[i]:=by unfold H7;rw [JC h];rfl
theorem wB {A:Type}{f:A->Bool}(l:List A):(List.range l.length).any (H7 l f)=l.any f:=by
 rw [KE,iU,LC];constructor
 ·rintro⟨i,z,h⟩
  rw [pg z]at h;exact⟨_,JM z,h⟩
 ·rintro⟨x,G,h⟩
  obtain⟨i,z,e⟩:=KA.1 G;exact⟨i,z,by rw [pg z,e];exact h⟩
theorem zT {w w':World}{b n e:Nat}(hb:b=w.heap.size)(hw:w'=w.alloc (.cells #[iv n] e)):Ex w w'/\b< w'.heap.size/\w'.cell? ⟨b,0,none⟩=some (iv n):=by
 subst hb hw;exact⟨Ex.alloc w _,by rw [size_alloc];omega,aa rfl⟩
def Ah (n:Nat):Prop:=∀{D:Nat->Prop} {w:World} {v:Value} {o:List Nat} {l:Lv} {x:Nat} {R:Bool->World->Prop},l.sz<=n->l.sh true=true->fS D w v o (af D w l)->l.sz<=1099511627776->(∀w',Ex w w'->R (l.has x) w')->Calls Tryz.prog 220 #[v,iv x] w (an [.b] R)
def Aq (n:Nat):Prop:=∀{D:Nat->Prop} {w:World} {v:Value} {l:Lv} {x:Nat} {R:Bool->World->Prop},l.sz<=n->((∃k a b o r,l= .thr k a b o r .nil/\r.sh true=true)\/∃z,l= .sum z .nil/\z.sh false=true)->af D w l [v]->l.sz<=1099511627776->
 (∀w',Ex w w'->R (l.has x) w')->Calls Tryz.prog 187 #[v,iv x] w (an [.b] R)
theorem nP:∀l:Lv,l.len<=l.sz
 | .nil=>JL _
 | .thr _ _ _ _ r n=>by have :=nP n;simp only [Lv.len,Lv.sz];omega
 | .sum z n=>by have :=nP n;simp only [Lv.len,Lv.sz];omega
 | .part o q n=>by have :=nP n;simp only [Lv.len,Lv.sz];omega
theorem fS.ex {D:Nat->Prop}{w w':World}{v:Value}{o:List Nat}{l:Lv}(h:fS D w v o (af D w l))(x:Ex w w'):fS D w' v o (af D w' l):=aB.ex (L:=(o,l)) h x
theorem FK {n:Nat}(ht:Aq n){D:Nat->Prop}{w:World}{l:Lv}{ts:List Value}{x b3:Nat}(hn:l.sz<=n)(I:l.sh true=true)(h:af D w l ts)(α:l.sz<=1099511627776)(hb:b3< w.heap.size)(hc:w.cell? ⟨b3,0,none⟩=some (iv x)):
  yj w 240 [ptr b3] ts (H7 l.bn (Lv.has x)):=by
 intro i v w1 V W R Z;have G:=h.bn;obtain⟨J,_⟩:=Ky.1 V;have z:i< l.bn.length:=by rw [G.1];exact J
 have he:=G.2 i l.bn[i] v (JC z) V;have H:=JM z;have hs:=Lv.ee l _ H;rw [pg z]at Z;refine mM v (ptr b3) w1 R ?_;refine⟨b3,0,rfl,x,by rw [W.cell (show b3< _ from hb)];exact hc,?_⟩;exact ht (by omega) (Lv.jE I _ H) (he.ex W) (by omega) Z
theorem uN {n:Nat}(W:Aq n):Ah n:=by
 intro D w v o l x R Z z h G hR;refine oN v x w R ?_;intro b3 w4 H I;obtain⟨J,l4,c4⟩:=zT H I;obtain⟨b,vo,vt,ts,rfl,h2,h3,h4,h5,h6,h7,V⟩:=h.ex J;refine⟨b,0,rfl,vt,h5,?_⟩;have hlen:=V.len;have :=nP l;refine C7 (ca:=[ptr b3]) h7 (by kernel_rfl) (FK W Z z V G l4 c4) (by omega) λw5 x5=>?_
 rw [hlen,<-Lv.cK,wB,<-Lv.ma];exact hR w5 (Ex.trans J x5)
theorem EK {n:Nat}(ht:Ah n){D:Nat->Prop}{w:World}{l:Lv}{ts:List Value}{x b3:Nat}(hn:l.sz<=n)(I:l.sh false=true)(h:af D w l ts)(α:l.sz<=1099511627776)(hb:b3< w.heap.size)(hc:w.cell? ⟨b3,0,none⟩=some (iv x)):
  yj w 222 [ptr b3] ts (H7 l.bn (Lv.has x)):=by
 intro i v w1 hi hx R J;have G:=h.bn;obtain⟨V,_⟩:=Ky.1 hi;have z:i< l.bn.length:=by rw [G.1];exact V
 have he:=G.2 i l.bn[i] v (JC z) hi;have H:=JM z;have hs:=Lv.ee l _ H;rw [pg z]at J;refine kQ v (ptr b3) w1 R ?_;refine⟨b3,0,rfl,x,by rw [hx.cell (show b3< _ from hb)];exact hc,?_⟩;obtain⟨o,q,e,hq⟩:=Lv.lX I _ H;rw [e]at he J hs;obtain⟨v',W,h1,h2,_⟩:=he;obtain⟨rfl,rfl⟩:v=v'/\([]:List Value)=W:=by simpa using h1
 simp only [Lv.sz]at hs;refine ht (by omega) hq (fS.ex h2 hx) (by omega) λw2 Z=>?_
 have :=J w2 Z;simpa [Lv.has]using this
def Fp (k:K)(a b x:Nat):Bool:=(k== .s||k== .m||k== .r)&&(a==x||b==x)
theorem BH {n:Nat}(ht:Ah n):Aq (n+1):=by
 intro D w v l x R hn hl h μ hR;refine nC v x w R ?_;intro b3 V χ ψ;obtain⟨x4,l4,c4⟩:=zT χ ψ;rcases hl with⟨k,a,b,o,r,rfl,hr⟩ | ⟨ps,rfl,ω⟩
 ·obtain⟨_,_,a',b',vr,e,η,hab,ν,_⟩:=h.ex x4;obtain⟨rfl,_⟩:=KG e;simp only [Lv.sz]at hn μ;have ε:∀q w',Ex V w'->q=r.has x->Fp k a b x=false->R q w':=λq w' H hq hn=>by
   have :=hR w' (Ex.trans x4 H);simp only [Lv.has]at this;unfold Fp at hn;rw [hn,Mc,LW,<-hq]at this;exact this
  have β:∀w',Ex V w'->Fp k a b x=true->R true w':=λw' H hn=>by
   have :=hR w' (Ex.trans x4 H);simp only [Lv.has]at this;unfold Fp at hn;rw [hn,Bool.true_or,Bool.true_or]at this;exact this
  obtain⟨g,rfl,g2,g3,g4,g5,g6,g7,g8⟩:=η;have θ:∀q:Bool,q=(k== .s||k== .m||k== .r)->∀w',Ex V w'->((k== .s||k== .m||k== .r)=true->(a'=a/\b'=b))->True:=λ _ _ _ _ _=>trivial
  have ξ:(k== .s||k== .m||k== .r)=true->a'=a/\b'=b:=by
   intro hk;rcases hab with rfl | rfl | h
   ·cases hk
   ·cases hk
   ·exact h
  refine⟨λq w'=>Ex V w'/\q=(k== .s||k== .m||k== .r),⟨g,0,rfl,_,g4,?_⟩,λq Z hJ=>?_⟩
  ·cases k
   ·exact dK rfl ⟨Ex.refl _,rfl⟩
   ·exact cu (by dsimp only [K.byte];decide) ⟨g,0,rfl,_,g4,cu (by dsimp only [K.byte];decide) ⟨g,0,rfl,_,g4,Ex.refl _,rfl⟩⟩
   ·exact cu (by dsimp only [K.byte];decide) ⟨g,0,rfl,_,g4,cu (by dsimp only [K.byte];decide) ⟨g,0,rfl,_,g4,Ex.refl _,rfl⟩⟩
   ·exact cu (by dsimp only [K.byte];decide) ⟨g,0,rfl,_,g4,dK rfl ⟨Ex.refl _,rfl⟩⟩
   ·exact cu (by dsimp only [K.byte];decide) ⟨g,0,rfl,_,g4,cu (by dsimp only [K.byte];decide) ⟨g,0,rfl,_,g4,Ex.refl _,rfl⟩⟩
  obtain⟨α,hq⟩:=hJ;have cg:∀{i:Nat} {u:Value} {w':World},Ex V w'->V.cell? ⟨g,i,none⟩=some u->w'.cell? ⟨g,i,none⟩=some u:=λH h=>by rw [H.cell (show g< _ from g3)];exact h
  have cb:∀{w':World},Ex V w'->w'.cell? ⟨b3,0,none⟩=some (iv x):=λH=>by rw [H.cell (show b3< _ from l4)];exact c4
  have dn:∀m:Nat,decide ((m:Int)=(x:Int))=(m==x):=λm=>by
   rw [KE,decide_eq_true_iff,MZ];omega
  refine⟨λw'=>Ex V w'/\Fp k a b x=false,⟨λw'=>Ex V w',λο I=>⟨I▸Ex.trans α (Ex.drew Z),λι=>?_,λς=>?_⟩⟩,λγ hJ=>?_⟩
  ·have κ:Ex V ο:=I▸Ex.trans α (Ex.drew Z);rw [ι]at hq;obtain⟨rfl,rfl⟩:=ξ hq.symm;refine⟨g,0,rfl,a',λw' H=>cg H g5,x,λw' H=>cb H,λha=>⟨g,0,rfl,b',λw' H=>cg H g6,x,λw' H=>cb H,λhb=>?_,λhb=>?_⟩,λha=>?_⟩
   ·rw [dn]at hb;exact β _ κ (by unfold Fp;rw [<-hq,hb];simp)
   ·rw [dn]at ha hb;exact⟨κ,by unfold Fp;rw [ha,hb];simp⟩
   ·rw [dn]at ha;exact β _ κ (by unfold Fp;rw [<-hq,ha];simp)
  ·rw [ς]at hq;exact⟨I▸Ex.trans α (Ex.drew Z),by unfold Fp;rw [<-hq];simp⟩
  obtain⟨δ,θ⟩:=hJ;obtain⟨br,hvr⟩:∃br,vr=ptr br:=by obtain⟨b,_,_,_,e,_⟩:=ν;exact⟨b,e⟩
  refine⟨λw'=>Ex V w',λυ J=>⟨J▸Ex.trans δ (Ex.drew γ),g,0,rfl,vr,λw' H=>cg H g7,_,hvr,λ _=>⟨g,0,rfl,vr,λw' H=>cg H g7,x,λw' H=>cb H,?_⟩,λhc=>(by cases hc)⟩⟩;have G:Ex V υ:=J▸Ex.trans δ (Ex.drew γ);refine ht (by omega) hr (fS.ex ν G) (by omega) λw40 W=>⟨Ex.trans G W,λhq=>⟨g,0,rfl,_,λw' H=>cg H g8,?_⟩,λhq=>⟨Ex.trans G W,ε _ _ (Ex.trans G W) hq.symm θ⟩⟩
  refine D1 (D:=D) (ts:=[]) (ca:=[ptr b3]) (p:=λ _=>false) (.inl ⟨rfl,rfl⟩) (by kernel_rfl) (λi z w1 hi=>by simp at hi) (by simp) λw45 ζ=>⟨Ex.trans (Ex.trans G W) ζ,ε _ _ (Ex.trans (Ex.trans G W) ζ) (by rw [hq];rfl) θ⟩
 ·obtain⟨_,_,a',b',vp,us,e,η,hsl,φ,_⟩:=h.ex x4;obtain⟨rfl,_⟩:=KG e;simp only [Lv.sz]at hn μ;obtain⟨g,rfl,g2,g3,g4,g5,g6,g7,g8⟩:=η;have cg:∀{i:Nat} {u:Value} {w':World},Ex V w'->V.cell? ⟨g,i,none⟩=some u->w'.cell? ⟨g,i,none⟩=some u:=λH h=>by rw [H.cell (show g< _ from g3)];exact h
  refine⟨λq w'=>Ex V w'/\q=false,⟨g,0,rfl,_,g4,cu (by decide) ⟨g,0,rfl,_,g4,cu (by decide) ⟨g,0,rfl,_,g4,Ex.refl _,rfl⟩⟩⟩,λq Z hJ=>?_⟩;obtain⟨α,rfl⟩:=hJ;refine⟨λw'=>Ex V w',⟨λw'=>Ex V w',λο I=>⟨I▸Ex.trans α (Ex.drew Z),λι=>(by cases ι),λς=>I▸Ex.trans α (Ex.drew Z)⟩⟩,λγ δ=>?_⟩;have G:Ex V γ.drew:=Ex.trans δ (Ex.drew γ);refine⟨λw'=>Ex V w',λυ J=>⟨J▸G,g,0,rfl,_,λw' H=>cg H g7,_,rfl,λhc=>(by cases hc),λ _=>⟨J▸G,g,0,rfl,vp,λw' H=>cg H g8,?_⟩⟩⟩;subst J;have hlen:=φ.len;have :=nP ps;refine D1 (ca:=[ptr b3]) (hsl.ex G) (by kernel_rfl) (EK ht (by omega) ω (φ.ex G) (by omega) (by have :=G.size;omega) (by rw [G.cell (show b3< _ from l4)];exact c4)) (by omega) λw5 x5=>⟨Ex.trans G x5,?_⟩
  rw [hlen,<-Lv.cK,wB,<-Lv.ma];have :=hR w5 (Ex.trans x4 (Ex.trans G x5));simpa [Lv.has]using this
theorem zo:∀n,Aq n
 | 0=>by
  intro z G h H J;rcases G with⟨k,a,b,o,r,rfl,hr⟩ | ⟨V,rfl,I⟩<;>simp [Lv.sz]at z
 | n+1=>BH (uN (zo n))
theorem Hg (n:Nat):Ah n:=uN (zo n)
namespace Lv
def tot:Lv->Nat
 | nil=>0 | thr _ _ _ o r n=>o.length+r.tot+n.tot+1 | sum z n=>z.tot+n.tot+1 | part o q n=>o.length+q.tot+n.tot+1
theorem jP:∀l:Lv,l.sz<=l.tot
 | nil=>JL _
 | thr _ _ _ o r n=>by have :=jP r;have :=jP n;simp only [sz,tot];omega
 | sum z n=>by have :=jP z;have :=jP n;simp only [sz,tot];omega
 | part o q n=>by have :=jP q;have :=jP n;simp only [sz,tot];omega
theorem bV:∀l m:Lv,(l.app m).tot=l.tot+m.tot
 | nil,m=>by simp [app,tot]
 | thr _ _ _ o r n,m=>by simp only [app,tot,bV n m];omega
 | sum z n,m=>by simp only [app,tot,bV n m];omega
 | part o q n,m=>by simp only [app,tot,bV n m];omega
def take:Nat->Lv->Lv
 | 0,_=>nil
 | _+1,nil=>nil
 | i+1,thr k a b o r n=>thr k a b o r (n.take i)
 | i+1,sum z n=>sum z (n.take i)
 | i+1,part o q n=>part o q (n.take i)
theorem take_succ:∀(l:Lv) (i:Nat) (h:i< l.bn.length),l.take (i+1)=(l.take i).app (l.bn[i])
 | nil,_,h=>by simp [bn]at h
 | thr k a b o r n,0,_=>by simp [take,bn,app]
 | sum z n,0,_=>by simp [take,bn,app]
 | part o q n,0,_=>by simp [take,bn,app]
 | thr k a b o r n,i+1,h=>by
  simp only [bn,JA]at h;have :=take_succ n i (by omega);rw [take,this];rfl
 | sum z n,i+1,h=>by
  simp only [bn,JA]at h;have :=take_succ n i (by omega);rw [take,this];rfl
 | part o q n,i+1,h=>by
  simp only [bn,JA]at h;have :=take_succ n i (by omega);rw [take,this];rfl
theorem de:∀(l:Lv),l.take l.bn.length=l
 | nil=>rfl
 | thr k a b o r n=>by simp only [bn,JA,take,de n]
 | sum z n=>by simp only [bn,JA,take,de n]
 | part o q n=>by simp only [bn,JA,take,de n]
theorem pd {b:Bool}:∀(l:Lv) (i:Nat),l.sh b=true->(l.take i).sh b=true
 | _,0,_=>rfl
 | nil,_+1,_=>rfl
 | thr _ _ _ _ r n,i+1,h=>by
  cases b
  ·cases h
  ·simp only [sh,take,JF]at*;exact⟨h.1,pd n i h.2⟩
 | sum z n,i+1,h=>by
  cases b
  ·cases h
  ·simp only [sh,take,JF]at*;exact⟨h.1,pd n i h.2⟩
 | part o q n,i+1,h=>by
  cases b
  ·simp only [sh,take,JF]at*;exact⟨h.1,pd n i h.2⟩
  ·cases h
theorem ft:∀(l:Lv) (i:Nat),(l.take i).tot<=l.tot
 | _,0=>Ks _
 | nil,_+1=>JL _
 | thr _ _ _ _ r n,i+1=>by have :=ft n i;simp only [take,tot];omega
 | sum z n,i+1=>by have :=ft n i;simp only [take,tot];omega
 | part o q n,i+1=>by have :=ft n i;simp only [take,tot];omega
theorem gd:∀(l:Lv),∀e∈l.bn,e.tot<=l.tot
 | nil,_,h=>by cases h
 | thr k a b o r n,e,h=>by
  rcases JX.1 h with rfl | h
  ·simp only [tot];omega
  ·have :=gd n e h;simp only [tot];omega
 | sum z n,e,h=>by
  rcases JX.1 h with rfl | h
  ·simp only [tot];omega
  ·have :=gd n e h;simp only [tot];omega
 | part o q n,e,h=>by
  rcases JX.1 h with rfl | h
  ·simp only [tot];omega
  ·have :=gd n e h;simp only [tot];omega
theorem lO:∀{l:Lv},l.sh true=true->l.fD=true
 | nil,_=>rfl
 | thr _ _ _ _ r n,h=>by simp only [sh,JF]at h;exact lO (l:=n) h.2
 | sum z n,h=>by simp only [sh,JF]at h;exact lO (l:=n) h.2
 | part ..,h=>by cases h
theorem sE (o:List Nat)(r:List Nat×Lv):(kept o r).1.length+(kept o r).2.tot<=o.length+r.1.length+r.2.tot:=by
 unfold kept;have :=LG (λx=>r.2.has x) (o++r.1);rw [JJ]at this;dsimp only;omega
theorem me (o:List Nat)(q m:Lv):prt o q m=(prt o q nil).app m:=by
 unfold prt;split
 ·rfl
 ·split
  ·rw [aV]
  ·rfl
 ·rfl
theorem eC:∀(l:Lv),(tid l).1.length+(tid l).2.tot<=l.tot
 | nil=>JL _
 | thr k a b o r n=>by
  have z:=eC r;have G:=eC n;have I:=sE o (tid r);simp only [tid,tot];split
  ·simp only [JJ,bV];omega
  ·split
   ·omega
   ·simp only [tot];omega
 | sum H n=>by
  have z:=eC H;have G:=eC n;simp only [tid,tot];unfold spl;split
  ·omega
  ·rename_i o q e;rw [e]at z;simp only [tot]at z;simp only [JJ,bV];omega
  ·simp only [tot];omega
 | part o q n=>by
  have z:=eC q;have G:=eC n;have I:=sE o (tid q);simp only [tid,tot];rw [me,bV];have:(prt (kept o (tid q)).1 (kept o (tid q)).2 nil).tot<=(kept o (tid q)).1.length+(kept o (tid q)).2.tot+1:=by
   unfold prt;split
   ·simp [tot]
   ·rename_i H e;rw [e];split
    ·simp only [bV,tot];omega
    ·simp only [tot];omega
   ·simp only [tot];omega
  simp only [JQ];omega
theorem xh:∀{l:Lv} (m:Lv),l.sh false=true->(tid (l.app m)).2=(tid l).2.app (tid m).2
 | nil,m,_=>rfl
 | part o q n,m,h=>by
  simp only [sh,JF]at h;simp only [app,tid,xh m h.2];rw [me,me _ _ (tid n).2,cw]
 | thr ..,_,h=>by cases h
 | sum ..,_,h=>by cases h
theorem dL:∀(l:Lv) (b:Bool),l.sh b=true->(tid l).2.sh b=true
 | nil,b,_=>by cases b<;>rfl
 | thr k a I o r n,b,h=>by
  cases b
  ·cases h
  ·simp only [sh,JF]at h;simp only [tid];split
   ·exact gH (dL r true h.1) (dL n true h.2)
   ·split
    ·exact dL n true h.2
    ·simp only [sh,JF];exact⟨dL r true h.1,dL n true h.2⟩
 | sum H n,b,h=>by
  cases b
  ·cases h
  ·simp only [sh,JF]at h;have z:=dL H false h.1;have G:=dL n true h.2;simp only [tid];unfold spl;split
   ·exact G
   ·rename_i o q e;rw [e]at z;simp only [sh,JF]at z;exact gH z.1 G
   ·simp only [sh,JF];exact⟨z,G⟩
 | part o q n,b,h=>by
  cases b
  ·simp only [sh,JF]at h;have z:=dL q true h.1;have G:=dL n false h.2;simp only [tid];rw [me];refine gH ?_ G;unfold prt;split
   ·rfl
   ·rename_i H e;have z:(kept o (tid q)).2.sh true=true:=z;rw [e]at z;simp only [sh,JF]at z;split
    ·rw [aV];exact z.1
    ·simp only [sh,JF];exact⟨by rw [e];simp [sh,z.1],trivial⟩
   ·simp only [sh,JF];exact⟨z,trivial⟩
  ·cases h
end Lv
theorem aD.fr {e B:Nat}{w:World}{v:Value}{l:List Value}(h:aD e B w v l){g:Nat}(G:v.ownBlock=some g)(j:Nat):w.frozen? ⟨g,j,none⟩=false:=by
 rcases h.2 with⟨rfl,I⟩ | ⟨H,cap,cur,rfl,hb,z,_⟩
 ·cases G
 ·have e:H=g:=Kt G;subst e;unfold World.frozen?;simp only [z];simp
theorem vZ {D:Nat->Prop}{w:World}{v:Value}{o:List Nat}(h:ec D w v (o.map iv))(Z:o.length<=1099511627776){R:Value->World->Prop}(J:∀v' w',Ex w w'->aD 3 w.heap.size w' v' (o.map iv)->R v' w'):
  Calls Tryz.prog 180 #[v] w (an [.v] R):=by
 refine mI v w R ?_;rcases id h with⟨rfl,e⟩ | ⟨b,off,cap,rfl,h1,h2,h3⟩
 ·exact⟨_,_,_,rfl,λ _=>J _ _ (Ex.refl w) (e▸aD.nil _ _ _),λh=>(by cases h)⟩
 ·refine⟨_,_,_,rfl,λh=>(by cases h),λ _ b5 V H z=>?_⟩;have G:Ex w V:=z▸Ex.alloc w _;have ho:aD 3 w.heap.size V (.slice (some ⟨b5,0,none⟩) 0 0) []:=by
   subst H z;refine⟨rfl,.inr ⟨_,0,#[],rfl,JL _,?_,by simp,by unfold maxLen;omega,rfl,rfl⟩⟩;unfold World.alloc;simp
  refine aD.push ho G.size (h.ex G) (DB o) (by omega) (by simp;exact Z) λv' w' I W hn=>J v' w' ?_ I
  refine Ex.below G (Kp.below (S:=λg=>g=b5) (Kp.aP W λg e=>(Kt e).symm) G.size λg W e=>by omega)
theorem a7 {b:Nat}:∀(cs:List Value) (w:World) (off:Nat),Kr b w (w.setCells b off cs)/\(∀g j,(w.setCells b off cs).frozen? ⟨g,j,none⟩=w.frozen? ⟨g,j,none⟩)/\(∀j,j< off->(w.setCells b off cs).cell? ⟨b,j,none⟩=w.cell? ⟨b,j,none⟩)/\
  ∀j,(∀i,i< cs.length->∃u,w.cell? ⟨b,off+i,none⟩=some u)->j< cs.length->(w.setCells b off cs).cell? ⟨b,off+j,none⟩=cs[j]?
 | [],w,off=>⟨Kr.refl b w,λ _ _=>rfl,λ _ _=>rfl,λ _ _ h=>by simp at h⟩
 | c::cs,w,off=>by
  obtain⟨H,I,z,h4⟩:=a7 cs (w.setCell ⟨b,off,none⟩ c) (off+1);refine⟨Kr.trans (Kr.set w off c) H,λg j=>(I g j).trans (JU _ _ _ _),λj G=>(z j (by omega)).trans (JH _ _ _ _ λe=>by injection e with J V;omega),λj hu G=>?_⟩;cases j with
  | zero=>
   obtain⟨u,hu⟩:=hu 0 (by simp);exact(z off (by omega)).trans (JT _ _ _ hu)
  | succ j=>
   have :=h4 j (λi W=>by
    obtain⟨u,hu⟩:=hu (i+1) (by simpa using W);refine⟨u,?_⟩;rw [JH _ _ _ _ (λe=>by injection e with J V;omega),show off+1+i=off+(i+1) by omega];exact hu) (by simpa using G)
   rw [show off+1+j=off+(j+1) by omega]at this;exact this
theorem ec.H' {D:Nat->Prop}{w:World}{v:Value}{o:List Nat}(h:ec D w v (o.map iv)){i:Int}{x:Nat}(z:0<=i)(G:o[i.toNat]?=some x){Q:Int->Prop}(H:Q x):
  ∃(b off len cap:Nat),v=Value.slice (some ⟨b,off,none⟩) len cap/\0<=i/\i< (len:Int)/\∃n:Int,World.cell? w ⟨b,off+Int.toNat i* 1,none⟩=some (.int .i64 n)/\Q n:=by
 obtain⟨b,off,len,cap,I,J,V,s,h4,h5⟩:=h.get (i:=i) (x:=iv x) (Q:=λs=>s=iv x) z (by rw [Lw,G];rfl) rfl;exact⟨b,off,len,cap,I,J,V,x,by rw [h4,h5],H⟩
def Hp (w:World)(S:Nat->Prop)(f:Nat)(ca:List Value)(p:Nat->Bool):Prop:=
 ∀(x:Nat) (w1:World),Kp w w1 S->∀{R:Bool->World->Prop},(∀w2,Ex w1 w2->R (p x) w2)->Calls Tryz.prog f (List.toArray ([iv x]++ca)) w1 (an [.b] R)
theorem Hi {D S:Nat->Prop}{w:World}{s:Value}{o:List Nat}(W:ec D w s (o.map iv)){f:Nat}{ca:List Value}(hf:dD.contains f=true){p:Nat->Bool}(hp:Hp w S f ca p)(hl:o.length<=1099511627776){R:Int->World->Prop}
  (Z:∀(n:Int) w',Ex w w'->((n= -1/\∀x∈o,p x=false)\/(∃i:Nat,n=i/\i< o.length/\(∀x∈o.take i,p x=false)/\∀x,o[i]?=some x->p x=true))->R n w'):
  Calls Tryz.prog 218 #[s,.func (.func f) #[] (List.toArray ca)] w (an [.i] R):=by
 refine iP _ _ w R ?_;obtain⟨a,cap,e⟩:=W.slice;rw [JY]at e;refine⟨a,_,cap,e,λx w'=>∃i:Nat,x=i/\i<=o.length/\Ex w w'/\∀x∈o.take i,p x=false,λx _=>(o.length - x).toNat,⟨0,rfl,by omega,Ex.refl w,λj h=>by simp at h⟩,λx w1 hI=>?_⟩;obtain⟨i,rfl,hi,G,J⟩:=hI;refine⟨λH=>?_,λH=>?_⟩
 ·have H:=J0 H;have z:i< o.length:=by omega
  refine(W.ex G).H' (i:=i) (x:=o[i]) (by omega) (by simp [z]) ⟨f,ca,rfl,hf,hp o[i] w1 (Kp.ah G _) λw2 I=>⟨λV=>?_,λV=>⟨by unfold aj;omega,⟨i+1,by omega,by omega,Ex.trans G I,λx hj=>?_⟩,by dsimp only;omega⟩⟩⟩
  ·exact Z _ w2 (Ex.trans G I) (.inr ⟨i,rfl,z,J,λx G=>by rw [JC z]at G;cases G;exact V⟩)
  ·rw [JG z]at hj;rcases JN.1 hj with h | h
   ·exact J x h
   ·rw [JO.1 h];exact V
 ·have H:=J1 H;have:i=o.length:=by omega
  subst this;rw [J3]at J;exact Z _ w1 G (.inl ⟨rfl,J⟩)
theorem CT {B:Nat}{w:World}{s:Value}{o:List Nat}(h:aD 3 B w s (o.map iv)){f:Nat}{ca:List Value}(hf:dD.contains f=true){p:Nat->Bool}(hp:Hp w (λg=>s.ownBlock=some g) f ca p)(hl:o.length<=1099511627776){R:Value->World->Prop}
  (hR:∀v' w',oneV v'=true->Kp w w' (λg=>s.ownBlock=some g)->ec (λg=>s.ownBlock=some g) w' v' ((o.filter λx=> !p x).map iv)->R v' w'):
  Calls Tryz.prog 183 #[s,.func (.func f) #[] (List.toArray ca)] w (an [.v] R):=by
 refine iq _ _ w R ?_;have δ:ec (λg=>s.ownBlock=some g) w s (o.map iv):=h.Cg λg hg=>hg
 have κ:oneV s=true:=by
  rcases h.2 with⟨rfl,_⟩ | ⟨g,cap,cur,rfl,_⟩<;>rfl
 refine Hi δ hf hp hl λn w1 x1 hn=>⟨λV=>?_,λV=>?_⟩
 ·have V:n= -1:=J0 V;rcases hn with⟨_,hn⟩ | ⟨i,e,_⟩
  ·refine hR _ _ κ (Kp.ah x1 _) ?_;rw [MN.2 λx Z=>by simp [hn x Z]];exact δ.ex x1
  ·omega
 have V:¬n= -1:=J1 V;obtain⟨i0,rfl,ε,hn,μ⟩:∃i:Nat,n=i/\i< o.length/\(∀x∈o.take i,p x=false)/\∀x,o[i]?=some x->p x=true:=by
  rcases hn with⟨e,_⟩ | h
  ·exact absurd e V
  ·exact h
 rcases id h.2 with⟨rfl,θ⟩ | ⟨g,cap,cur,rfl,hb,hg,hle,φ,χ,ψ⟩
 ·simp at θ;subst θ;simp at ε
 rw [JY]at*;have ζ:∀t,t< o.length->∃x,w1.cell? ⟨g,t,none⟩=some (iv x)/\o[t]?=some x:=λt z=>by
  rcases δ.ex x1 with⟨e,_⟩ | ⟨b',off,υ,e,h1,h2,h3⟩
  ·cases e
  ·injection e with e1 e2 e3
   injection e1 with e1
   injection e1 with e1 e4
   subst e1 e4;have :=h3 t (iv o[t]) (by simp [z]);rw [J']at this;exact⟨_,this,JC z⟩
 have ν:∀t,w1.frozen? ⟨g,t,none⟩=false:=λt=>by
  rw [J8 (w:=w) (x1.block g (Kj.1 hg).1)];exact h.fr rfl t
 let q:Nat->Bool:=λx=> !p x
 refine⟨by unfold aj;omega,λi j w'=>∃(G H:Nat) (c:Nat->Nat),i=G/\j=H/\G< H/\H<=o.length/\Kp w w' (λx=>g=x)/\(∀t,t< o.length->w'.cell? ⟨g,t,none⟩=some (iv (c t)))/\(∀t,w'.frozen? ⟨g,t,none⟩=false)/\
  (List.range G).map c=(o.take H).filter q/\∀t,H<=t->t< o.length->o[t]?=some (c t),λ _ j _=>(o.length - j).toNat,?_,λi j w2 hI=>?_⟩
 ·refine⟨i0,i0+1,λt=>(o[t]?).getD 0,rfl,by omega,by omega,by omega,Kp.ah x1 _,λt z=>?_,ν,?_,λt _ z=>by simp [z]⟩
  ·obtain⟨x,h1,h2⟩:=ζ t z;show w1.cell? _=some (iv ((o[t]?).getD 0));rw [h2];exact h1
  ·have e1:(List.range i0).map (λt=>(o[t]?).getD 0)=o.take i0:=by
    refine List.ext_getElem? λt=>?_
    rw [Lw,L5];by_cases z:t< i0
    ·have ξ:t< o.length:=by omega
     rw [Ka z];simp [z,ξ]
    ·rw [JV z,List.getElem?_eq_none (by simp;omega)];rfl
   rw [e1,JG ε,Lk,MN.2 λx Z=>by simp [q,hn x Z]];have :=μ _ (JC ε);simp [q,this]
 ·obtain⟨G,H,c,rfl,rfl,ω,hj,k2,I,γ,hm,hd⟩:=hI;refine⟨_,_,_,rfl,λV=>?_,λV=>?_⟩
  ·have V:=J0 V;have J:H< o.length:=by omega
   have Z:=hd H (JL _) J;refine⟨g,0,_,_,rfl,by omega,V,(c H:Int),?_,f,ca,rfl,hf,hp (c H) w2 (Kp.mono (λx e=>KO some e) k2) λw3 x3=>⟨λhq=>?_,λhq=>?_⟩⟩
   ·rw [J',Kc,JI];exact I H J
   ·have hq:q (c H)=true:=hq;have W:g< w2.heap.size:=J2 (Kj.1 hg).1 k2.size;have α:=x3.block g W;refine⟨g,0,_,_,rfl,by omega,by omega,⟨⟨iv (c G),?_⟩,?_⟩,λw4 η=>⟨by unfold aj;omega,by unfold aj;omega,⟨G+1,H+1,aF c G (c H),by omega,by omega,by omega,by omega,?_,λt z=>?_,λt=>?_,?_,λt h1 h2=>?_⟩,by dsimp only;omega⟩⟩
    ·rw [J',Kc,JI,JB (w:=w2) α];exact I G (by omega)
    ·rw [J8 (w:=w2) α];exact γ _
    ·rw [η];exact Kp.set (S:=λx=>g=x) (Kp.trans k2 (Kp.ah x3 λ _=>False) λ _ _ h=>h.elim) rfl _
    ·rw [η,J',Kc,JI];by_cases e:t=G
     ·subst e;have:aF c t (c H) t=c H:=by simp [aF]
      rw [this];refine JT _ _ _ (u:=iv (c t)) ?_;rw [JB (w:=w2) α];exact I t z
     ·have:aF c G (c H) t=c t:=by simp [aF,e]
      rw [this,JH _ _ _ _ (λh=>by injection h with h1 h2;exact e h2.symm),JB (w:=w2) α];exact I t z
    ·rw [η,JU,J8 (w:=w2) α];exact γ t
    ·rw [LR,Kz,JG J,Lk,<-hm];rw [JC J]at Z;have e0:o[H]=c H:=Kt Z;rw [e0]
     congr 1
     ·refine KU λt z=>?_
      have:t≠G:=by have :=K2.1 z;omega
      simp [aF,this]
     ·simp [aF,hq]
    ·have:t≠G:=by omega
     rw [hd t (by omega) h2];simp [aF,this]
   ·have hq:q (c H)=false:=hq;refine⟨by unfold aj;omega,⟨G,H+1,c,rfl,by omega,by omega,by omega,Kp.trans k2 (Kp.ah x3 λ _=>False) (λ _ _ h=>h.elim),λt z=>?_,λt=>?_,?_,λt h1 h2=>hd t (by omega) h2⟩,by dsimp only;omega⟩
    ·have W:g< w2.heap.size:=J2 (Kj.1 hg).1 k2.size;rw [x3.cell (show g< _ from W)];exact I t z
    ·have W:g< w2.heap.size:=J2 (Kj.1 hg).1 k2.size;rw [J8 (w:=w2) (x3.block g W)];exact γ t
    ·rw [JG J,Lk,hm];rw [JC J]at Z;have e0:o[H]=c H:=Kt Z;rw [e0];simp [hq]
  ·have V:=J1 V;have J:H=o.length:=by omega
   subst J;rw [J3]at hm;have W:g< w2.heap.size:=J2 (Kj.1 hg).1 k2.size;have ez:Int.toNat 0=0:=rfl;have hlen:G=(o.filter q).length:=by rw [<-hm];simp
   have fin:∀w',Kp w w' (λx=>g=x)->(∀t,t< G->w'.cell? ⟨g,t,none⟩=some (iv (c t)))->R (Value.slice (if cap=Int.toNat 0 then some (⟨g,0,none⟩:Addr)else Option.map (λa:Addr=>a.add (Int.toNat 0* 1)) (some (⟨g,0,none⟩:Addr))) (Int.toNat (G:Int) - Int.toNat 0) (cap - Int.toNat 0)) w':=by
    intro w' k ο;have e:(if cap=Int.toNat 0 then some (⟨g,0,none⟩:Addr)else Option.map (λq:Addr=>q.add (Int.toNat 0* 1)) (some (⟨g,0,none⟩:Addr)))=some ⟨g,0,none⟩:=by
     split
     ·rfl
     ·simp [Addr.add,ez]
    rw [e,ez];refine hR _ _ rfl (Kp.mono (λx e=>KO some e) k) (.inr ⟨g,0,cap - 0,?_,rfl,J2 (Kj.1 hg).1 k.size,λt x Z=>?_⟩)
    ·congr 1
     rw [JY];show G - 0=(o.filter q).length;omega
    ·have Z:(o.filter q).map iv=(o.filter λx=> !p x).map iv:=rfl;rename_i β;rw [<-Z,<-hm,Lw,Lw]at β;rw [J'];by_cases z:t< G
     ·rw [List.getElem?_range z]at β;cases β;exact ο t z
     ·rw [List.getElem?_eq_none (by simp;omega)]at β;cases β
   refine⟨_,_,_,rfl,by omega,by omega,by omega,_,_,_,rfl,?_⟩;by_cases h0:o.length - G=0
   ·refine .inl ⟨by rw [JI,JI];exact h0,_,_,_,rfl,by omega,by omega,by omega,fin w2 k2 λt z=>I t (by omega)⟩
   ·have ς:¬cap=G:=by omega
    refine .inr ⟨g,G,?_,λt z=>⟨⟨_,I (G+t) (by rw [JI,JI]at z;omega)⟩,γ _⟩,λw3 ι=>⟨_,_,_,rfl,by omega,by omega,by omega,fin w3 ?_ λt z=>?_⟩⟩
    ·rw [JI,JV ς];simp only [Lz,Addr.add];simp
     try omega
    ·rw [ι];exact Kp.trans k2 (a7 _ w2 G).1 λx _ e=>e.symm
    ·rw [ι,(a7 _ w2 G).2.2.1 t z];exact I t (by omega)
def Lv.isSum1:Lv->Bool
 | .sum _ .nil=>true
 | _=>false
theorem u7 (o:List Nat)(q:Lv):Lv.prt o q .nil=if q.isNil=true then .nil else if(o.isEmpty&&q.isSum1)=true then(match q with | .sum z .nil=>z | q=> .part o q .nil)else .part o q .nil:=by
 cases q with
 | nil=>rfl
 | thr k a b G r n=>cases o<;>rfl
 | part G H n=>cases o<;>rfl
 | sum z n=>
  cases n with
  | nil=>cases o<;>simp [Lv.prt,Lv.isNil,Lv.isSum1,Lv.aV]
  | thr=>cases o<;>rfl
  | sum=>cases o<;>rfl
  | part=>cases o<;>rfl
section
variable {D:Nat->Prop} {w:World} {v:Value} {o:List Nat} {l:Lv}
theorem lR (h:fS D w v o (af D w l)){R:Bool->World->Prop}(z:R l.isNil w):Calls Tryz.prog 181 #[v] w (an [.b] R):=by
 refine j5 v w R ?_;obtain⟨b,vo,vt,ts,rfl,I,J,h4,h5,V,G,H⟩:=h;obtain⟨a,cap,e⟩:=G.slice;refine⟨b,0,rfl,vt,h5,a,_,cap,e,?_⟩;have:decide ((ts.length:Int)=0)=l.isNil:=by
  rw [H.len,Lv.du,KE];simp only [JD];omega
 dsimp only;rw [this];exact z
theorem FP (h:fS D w v o (af D w l))(hs:l.sh true=true){R:Bool->World->Prop}(G:R (o.isEmpty&&l.isSum1) w):Calls Tryz.prog 182 #[v] w (an [.b] R):=by
 refine mA v w R ?_;obtain⟨b,vo,vt,ts,rfl,h2,h3,h4,h5,h6,J,V⟩:=h;obtain⟨a,cap,e⟩:=h6.slice;obtain⟨a',I,e'⟩:=J.slice;rw [JY]at e;have hlen:=V.len;refine⟨b,0,rfl,vo,h4,a,_,cap,e,λH=>⟨b,0,rfl,vt,h5,a',_,I,e',λz=>?_,λz=>?_⟩,λH=>?_⟩
 ·have H:=J0 H;have z:=J0 z;have ho:o.isEmpty=true:=by
   rw [MG];exact J6 (by omega)
  rw [ho,Ln]at G;cases l with
  | nil=>
   have:ts.length=0:=hlen;omega
  | thr k x y o' r n=>
   have W:n= .nil:=by
    have:n.len=0:=by simp only [Lv.len]at hlen;omega
    cases n<;>first | rfl | simp [Lv.len]at this
   subst W;obtain⟨t,Z,a1,b1,vr,rfl,⟨g,rfl,g2,g3,g4,_⟩,_⟩:=V;refine⟨b,0,rfl,vt,h5,J.get (i:=0) (x:=ptr g) (by omega) rfl ⟨g,0,rfl,_,g4,?_⟩⟩;have:decide (k.byte=43)=false:=by cases k<;>rfl
   dsimp only;rw [this];exact G
  | sum ps n=>
   have W:n= .nil:=by
    have:n.len=0:=by simp only [Lv.len]at hlen;omega
    cases n<;>first | rfl | simp [Lv.len]at this
   subst W;obtain⟨t,Z,a1,b1,vp,us,rfl,⟨g,rfl,g2,g3,g4,_⟩,_⟩:=V;exact⟨b,0,rfl,vt,h5,J.get (i:=0) (x:=ptr g) (by omega) rfl ⟨g,0,rfl,_,g4,G⟩⟩
  | part o' q n=>cases hs
 ·have z:=J1 z;have:l.isSum1=false:=by
   cases l with
   | sum ps n=>
    cases n with
    | nil=>
     have:ts.length=1:=hlen;omega
    | _=>rfl
   | _=>rfl
  rw [this,Bool.and_false]at G;exact G
 ·have H:=J1 H;have:o.isEmpty=false:=by
   cases o with
   | nil=>simp at H
   | cons=>rfl
  rw [this,MV]at G;exact G
end
structure TI (w w':World)(b7 b9:Nat)(O:List Nat)(L:Lv)(ts:List Value)(M X:Nat->Prop):Prop where
 ex:Ex w w'
 bd:jZ w.heap.size w' b7 O ts M
 th:af (λg=>(w.heap.size<=g/\¬M g/\¬X g)/\g< w'.heap.size) w' L ts
 c9:w'.cell? ⟨b9,0,none⟩=some (ptr b7)
 l9:b9< w'.heap.size
 h9:w.heap.size<=b9
 x9:X b9
 mx:∀g,M g->¬X g
 xl:∀g,X g->g< w'.heap.size
section
variable {w w' w'':World} {b7 b9:Nat} {O:List Nat} {L:Lv} {ts:List Value} {M X Y:Nat->Prop}
theorem TI.II (h:TI w w' b7 b9 O L ts M X){S:Nat->Prop}(k:Kp w' w'' S)(H:∀g,S g->X g/\g≠b9/\w.heap.size<=g)(V:∀g,X g->Y g)(G:∀g,Y g->X g\/(w'.heap.size<=g/\g< w''.heap.size)):TI w w'' b7 b9 O L ts M Y:=by
 have J:∀g,g< w'.heap.size->¬X g->¬Y g:=λg z I W=>(G g W).elim I λh=>by omega
 refine⟨Ex.below h.ex (Kp.below k h.ex.size λg z e=>by have :=(H g e).2.2;omega),h.bd.kp k λg z e=>h.mx g z (H g e).1,?_,?_,J2 h.l9 k.size,h.h9,V b9 h.x9,λg z=>J g (h.bd.mr g z).2 (h.mx g z),λg z=>(G g z).elim (λI=>J2 (h.xl g I) k.size) λh=>h.2⟩
 ·refine af.sub (λg _ z=>⟨⟨z.1.1,z.1.2.1,J g z.2 z.1.2.2⟩,J2 z.2 k.size⟩) (af.kp k (λg z e=>z.1.2.2 (H g e).1) h.th)
 ·rw [JB (w:=w') (k.block b9 h.l9 λe=>(H b9 e).2.1 rfl)];exact h.c9
theorem TI.Jh (h:TI w w' b7 b9 O L ts M X){S:Nat->Prop}(k:Kp w' w'' S)(z:∀g,S g->X g/\g≠b9/\w.heap.size<=g):TI w w'' b7 b9 O L ts M X:=h.II k z (λ _ h=>h) λ _ h=> .inl h
theorem TI.ext (h:TI w w' b7 b9 O L ts M X)(x:Ex w' w''):TI w w'' b7 b9 O L ts M X:=h.Jh (Kp.ah x λ _=>False) λ _ h=>h.elim
theorem TI.Et (h:TI w w' b7 b9 O L ts M X)(z:∀g,Y g->X g)(I:Y b9):TI w w' b7 b9 O L ts M Y:=
 ⟨h.ex,h.bd,af.sub (λg H hd=>⟨⟨hd.1.1,hd.1.2.1,λG=>hd.1.2.2 (z g G)⟩,hd.2⟩) h.th,h.c9,h.l9,h.h9,I,λg hm G=>h.mx g hm (z g G),λg H=>h.xl g (z g H)⟩
theorem TI.DW (h:TI w w' b7 b9 O L ts M X){D2:Nat->Prop}{v2:Value}{O2:List Nat}{L2:Lv}(hl:aB D2 w' (O2,L2) v2)(hd:∀g,g< w'.heap.size->D2 g->w.heap.size<=g/\¬M g/\¬X g)
  (hb:O.length+O2.length<=1099511627776/\ts.length+L2.len<=1099511627776) {R:World->Prop} (hR:∀w'' W V,TI w w'' b7 b9 (O++O2) (L.app L2) W V X->Kp w' w'' M->R w''):
  Calls Tryz.prog 179 #[ptr b7,v2] w' (an [] R):=by
 obtain⟨Z,α,G⟩:=aB.ths (hl.sub (E:=λg=>(w.heap.size<=g/\¬M g/\¬X g)/\g< w'.heap.size) λg z β=>⟨hd g z β,z⟩);have I:=h.ex.size;refine tL h.bd I α G.all (λg z=>z.1.2.1) ⟨hb.1,by rw [G.len];exact hb.2⟩ λw3 V H γ J=>hR w3 (ts++Z) V ⟨?_,γ,?_,?_,J2 h.l9 H.size,h.h9,h.x9,?_,λg z=>J2 (h.xl g z) H.size⟩ H
 ·exact Ex.below h.ex (Kp.below H I λg z e=>by have :=(h.bd.mr g e).1;omega)
 ·have key:∀{l:Lv} {us:List Value},af (λg=>(w.heap.size<=g/\¬M g/\¬X g)/\g< w'.heap.size) w' l us->af (λg=>(w.heap.size<=g/\¬V g/\¬X g)/\g< w3.heap.size) w3 l us:=λht=>
   af.sub (λg _ z=>⟨⟨z.1.1,λhm=>(J g hm).elim z.1.2.1 λh=>by omega,z.1.2.2⟩,J2 z.2 H.size⟩) (af.kp H (λg z=>z.1.2.1) ht)
  exact af.app (key h.th) (key G)
 ·rw [JB (w:=w') (H.block b9 h.l9 λe=>h.mx b9 e h.x9)];exact h.c9
 ·intro g hm hx;rcases J g hm with h1 | h1
  ·exact h.mx g h1 hx
  ·have :=h.xl g hx;omega
end
section
variable {w w':World} {b7 b9:Nat} {O:List Nat} {L:Lv} {ts:List Value} {M X:Nat->Prop}
theorem TI.push (h:TI w w' b7 b9 O L ts M X){g:Nat}{e:Lv}(he:af (λg=>(w.heap.size<=g/\¬M g/\¬X g)/\g< w'.heap.size) w' e [ptr g])(hl:ts.length+1<=1099511627776){K:World->Prop}(hK:∀w'' ts' M',TI w w'' b7 b9 O (L.app e) ts' M' X->K w''):
  ∃I:World->Prop,∀W:World,W=World.drew w'->I W/\∃v168:Value,(∀w',I w'->World.cell? w' ⟨b9,0,none⟩=some v168)/\∃θ:Value,(∀w',I w'->World.cell? w' ⟨b9,0,none⟩=some θ)/\∃(ι κ:Nat),θ=Value.pointer (some ⟨ι,κ,none⟩)/\
   ∃Z:Value,(∀w',I w'->World.cell? w' ⟨ι,(κ+1),none⟩=some Z)/\∀(μ:Nat) (G:World),μ=Array.size (World.heap W)->G=World.alloc W (Obj.cells #[(Value.pointer (some ⟨g,0,none⟩))] 156)->I G/\
   ∃(H n176 α:Nat) (ζ V:List Value),World.ownsRow G H 156 1 Z n176 ζ/\H<=Array.size (World.heap G)/\dN G (Value.slice (some ⟨μ,0,none⟩) 1 1) α 1 V/\(n176+α<=maxLen/\(n176+α)* 8<=140737488355328)/\
   ∀(β:Value) (J:World),World.ownsRow J H 156 1 β (n176+α) (ζ++V)->World.grownBy G J (Value.ownBlock Z)->(∀b:Nat,Value.ownBlock β=some b->Value.ownBlock Z=some b\/Array.size (World.heap G)<=b)->I J/\
   ∃(γ δ:Nat),v168=Value.pointer (some ⟨γ,δ,none⟩)/\oneV β=true/\((∃χ:Value,World.cell? J ⟨γ,(δ+1),none⟩=some χ)/\World.frozen? J ⟨γ,(δ+1),none⟩=false)/\∀ν:World,ν=World.setCell J ⟨γ,(δ+1),none⟩ β->K ν:=by
 obtain⟨h1,hle,h3,hr,h4,vo,vt,h5,h6,h7,h8,h9,h10,ψ⟩:=h.bd;have hb7:b7< w'.heap.size:=h1;have hn9:b9≠b7:=λe=>h.mx b7 h3 (e▸h.x9)
 have ω:vt.ownBlock≠some b9:=λe=>h.mx b9 (h10 b9 e).1 h.x9
 refine⟨λw2=>Kp w' w2 λg=>vt.ownBlock=some g,λw1 ξ=>⟨ξ▸Kp.ah (Ex.drew w') _,ptr b7,λw2 k=>?_,ptr b7,λw2 k=>?_,b7,0,rfl,vt,λw2 k=>?_,λb2 w2 hb2 ο=>?_⟩⟩
 ·rw [JB (w:=w') (k.block b9 h.l9 ω)];exact h.c9
 ·rw [JB (w:=w') (k.block b9 h.l9 ω)];exact h.c9
 ·rw [JB (w:=w') (k.block b7 h1 λe=>(h10 b7 e).2 rfl)];exact h6
 have x2:Ex w' w2:=Ex.trans (ξ▸Ex.drew w') (ο▸Ex.alloc w1 _);have s1:w1.heap.size=w'.heap.size:=by rw [ξ];rfl
 have s2:w2.heap.size=w1.heap.size+1:=by rw [ο,size_alloc]
 refine⟨Kp.ah x2 _,?_⟩;have hsl:ec (λx=>x=b2) w2 (.slice (some ⟨b2,0,none⟩) 1 1) [ptr g]:=by
  refine .inr ⟨b2,0,1,rfl,rfl,by omega,λi x z=>?_⟩;rw [J',ο,hb2];refine aa ?_
  match i,z with
  | 0,z=>simpa using z
  | i+1,z=>simp at z
 refine aD.push (h8.kp (Kp.ah x2 λ _=>False) λ _ _ h=>h) (KD h.ex.size x2.size) hsl rfl (by omega) (by simpa using hl) λv3 w3 ς hg3 hn3=>?_
 have k23:Kp w2 w3 λg=>vt.ownBlock=some g:=Kp.aP hg3 λg h=>h
 have k3:Kp w' w3 λg=>vt.ownBlock=some g:=Kp.trans (Kp.ah x2 _) k23 λg _ h=>h
 have υ:=k3.block b7 h1 λe=>(h10 b7 e).2 rfl
 have hv3:oneV v3=true:=by rcases ς.2 with⟨rfl,_⟩ | ⟨g,cap,cur,rfl,_⟩<;>rfl
 have c31:w3.cell? ⟨b7,1,none⟩=some vt:=by rw [JB (w:=w') υ];exact h6
 have c30:w3.cell? ⟨b7,0,none⟩=some vo:=by rw [JB (w:=w') υ];exact h5
 have f3:∀j,w3.frozen? ⟨b7,j,none⟩=false:=λj=>by rw [J8 (w:=w') υ];exact h4 j
 refine⟨k3,b7,0,rfl,hv3,⟨⟨vt,c31⟩,f3 1⟩,λw4 η=>?_⟩;have k4:Kr b7 w3 w4:=η▸Kr.set w3 1 _;have ε:Kp w' w4 M:=Kp.trans (Kp.mono (λg e=>(h10 g e).1) k3) k4 λg _ e=>e▸h3
 have s3:=k3.size;have s23:=k23.size;have s4:=k4.size;have φ:∀x,v3.ownBlock=some x->vt.ownBlock=some x\/w'.heap.size<=x:=λx z=>(hn3 x z).elim .inl λh=> .inr (by omega)
 have h3b:∀x,v3.ownBlock=some x->x≠b7:=λx z=>(φ x z).elim (λe=>(h10 x e).2) λe=>by omega
 refine hK w4 (ts++[ptr g]) (λx=>M x\/(w'.heap.size<=x/\x< w4.heap.size)) ⟨?_,⟨by omega,hle,.inl h3,λx z=>?_,λj=>?_,vo,v3,?_,?_,?_,?_,λx z=>⟨.inl (h9 x z).1,(h9 x z).2⟩,λx z=>⟨?_,h3b x z⟩,λx z e=>?_⟩,?_,?_,J2 h.l9 ε.size,h.h9,h.x9,λx z hX=>?_,λx z=>J2 (h.xl x z) ε.size⟩
 ·exact Ex.below h.ex (Kp.below ε h.ex.size λx z e=>by have :=(hr x e).1;omega)
 ·have hB:=h.ex.size;rcases z with z | z
  ·have :=hr x z;omega
  ·omega
 ·rw [η,JU];exact f3 j
 ·rw [η,JH _ _ _ _ (by simp)];exact c30
 ·rw [η];exact JT _ _ _ c31
 ·exact(h7.kp k3 λx z e=>ψ x z e).kp k4 λx z=>(h9 x z).2
 ·exact aD.kp ς k4 h3b
 ·have :=(ς.block x z).2;exact(φ x z).elim (λe=> .inl (h10 x e).1) λe=> .inr ⟨e,by omega⟩
 ·rcases φ x e with e1 | e1
  ·exact ψ x z e1
  ·have :=(h7.block x z).2;omega
 ·have key:∀{l:Lv} {us:List Value},af (λg=>(w.heap.size<=g/\¬M g/\¬X g)/\g< w'.heap.size) w' l us->af (λg=>(w.heap.size<=g/\¬(M g\/(w'.heap.size<=g/\g< w4.heap.size))/\¬X g)/\g< w4.heap.size) w4 l us:=λht=>
   af.sub (λg _ hg=>⟨⟨hg.1.1,λhm=>hm.elim hg.1.2.1 λh=>by omega,hg.1.2.2⟩,J2 hg.2 ε.size⟩) (af.kp ε (λg hg=>hg.1.2.1) ht)
  exact af.app (key h.th) (key he)
 ·rw [JB (w:=w') (ε.block b9 h.l9 λe=>h.mx b9 e h.x9)];exact h.c9
 ·rcases z with z | z
  ·exact h.mx x z hX
  ·have :=h.xl x hX;omega
end
structure SI (w w':World)(b7 b9 b39:Nat)(O:List Nat)(L:Lv)(ts:List Value)(M X:Nat->Prop)(a b:Nat)(Q:Lv):Prop where
 ti:TI w w' b7 b9 O L ts M X
 x39:X b39
 h39:w.heap.size<=b39
 n39:b39≠b9
 sl:∃vp us,kh w' b39 43 a b (.pointer none) vp/\aD 146 w.heap.size w' vp us/\af (λg=>(w.heap.size<=g/\¬M g/\¬X g)/\g< w'.heap.size) w' Q us/\∀g,vp.ownBlock=some g->X g/\g≠b9/\g≠b39
section
variable {w w':World} {b7 b9 b39 a b:Nat} {O:List Nat} {L Q:Lv} {ts:List Value} {M X:Nat->Prop}
theorem SI.ext {w'':World}(h:SI w w' b7 b9 b39 O L ts M X a b Q)(x:Ex w' w''):SI w w'' b7 b9 b39 O L ts M X a b Q:=by
 obtain⟨G,H,I,h4,vp,us,h5,J,V,W⟩:=h;have k:Kp w' w'' λ _=>False:=Kp.ah x _
 exact⟨G.ext x,H,I,h4,vp,us,h5.kp k λh=>h,J.kp k λ _ _ h=>h,af.sub (λg _ z=>⟨z.1,J2 z.2 k.size⟩) (af.ex V x),W⟩
theorem SI.push (h:SI w w' b7 b9 b39 O L ts M X a b Q){vx:Value}{W:List Value}{Q2:Lv}{D2:Nat->Prop}(hx:ec D2 w' vx W)(h2:af (λg=>(w.heap.size<=g/\¬M g/\¬X g)/\g< w'.heap.size) w' Q2 W)(hl:Q.len+W.length<=1099511627776){vp:Value}(ν:w'.cell? ⟨b39,4,none⟩=some vp){K:Value->World->Prop}
  (hK:∀H z,oneV H=true->Kp w' z (λg=>vp.ownBlock=some g)->((∃ξ:Value,World.cell? z ⟨b39,4,none⟩=some ξ)/\World.frozen? z ⟨b39,4,none⟩=false)->(∀θ,θ=World.setCell z ⟨b39,4,none⟩ H->∃X',SI w θ b7 b9 b39 O L ts M X' a b (Q.app Q2))->K H z):
  ∃(G Z α:Nat) (β J:List Value),World.ownsRow w' G 146 1 vp Z β/\G<=Array.size (World.heap w')/\dN w' vx α 1 J/\(Z+α<=maxLen/\(Z+α)* 8<=140737488355328)/\
   ∀(H:Value) (z:World),World.ownsRow z G 146 1 H (Z+α) (β++J)->World.grownBy w' z (Value.ownBlock vp)->(∀b:Nat,Value.ownBlock H=some b->Value.ownBlock vp=some b\/Array.size (World.heap w')<=b)->K H z:=by
 obtain⟨h1,V,h3,h4,γ,us,h5,h6,h7,h8⟩:=h;have:γ=vp:=Kt (h5.c4.symm.trans ν);subst this;have ο:=h1.ex.size;have χ:=h7.len;refine aD.push h6 ο hx h2.all (by omega) (by omega) λv3 w3 δ ς ε=>?_
 have k3:Kp w' w3 λg=>γ.ownBlock=some g:=Kp.aP ς λg h=>h
 have υ:oneV v3=true:=by rcases δ.2 with⟨rfl,_⟩ | ⟨g,cap,cur,rfl,_⟩<;>rfl
 have ζ:=h5.kp k3 λe=>(h8 _ e).2.2 rfl
 refine hK v3 w3 υ k3 ⟨⟨_,ζ.c4⟩,ζ.f 4⟩ λw4 ι=>?_
 have k4:Kr b39 w3 w4:=ι▸Kr.set w3 4 _;have η:Kp w' w4 λg=>γ.ownBlock=some g\/g=b39:=Kp.trans (Kp.mono (λg e=> .inl e) k3) k4 λg _ e=> .inr e
 have s3:=k3.size;have s4:=k4.size;have κ:∀x,v3.ownBlock=some x->x≠b39:=λx φ=>(ε x φ).elim (λe=>(h8 x e).2.2) λe=>by have :=h1.xl b39 V;omega
 have μ:∀g,(X g\/(v3.ownBlock=some g))->X g\/(w'.heap.size<=g/\g< w4.heap.size):=λg I=>I.elim .inl λe=>(ε g e).elim (λe=> .inl (h8 g e).1) λh=> .inr ⟨h,by have :=(δ.block g e).2;omega⟩
 have ti:=h1.II (Y:=λg=>X g\/v3.ownBlock=some g) η (λg e=>e.elim (λe=>⟨(h8 g e).1,(h8 g e).2.1,(h6.block g e).1⟩) λe=>⟨e▸V,e▸h4,e▸h3⟩) (λg I=> .inl I) μ;have key:∀{l:Lv} {us:List Value},af (λg=>(w.heap.size<=g/\¬M g/\¬X g)/\g< w'.heap.size) w' l us->af (λg=>(w.heap.size<=g/\¬M g/\¬(X g\/v3.ownBlock=some g))/\g< w4.heap.size) w4 l us:=λht=>
  af.sub (λg _ I=>⟨⟨I.1.1,I.1.2.1,λhy=>(μ g hy).elim I.1.2.2 λh=>by omega⟩,J2 I.2 η.size⟩) (af.kp η (λg I e=>e.elim (λe=>I.1.2.2 (h8 g e).1) λe=>I.1.2.2 (e▸V)) ht)
 refine⟨_,ti,.inl V,h3,h4,v3,us++W,ζ.Hn ι,?_,af.app (key h7) (key h2),λg I=>⟨.inr I,?_,κ g I⟩⟩
 ·exact aD.kp δ k4 κ
 ·exact(ε g I).elim (λe=>(h8 g e).2.1) λe=>by have :=h1.l9;omega
end
theorem EI {D:Nat->Prop}{w:World}{l:Lv}{ts:List Value}{x b3:Nat}(I:l.sh true=true)(h:af D w l ts)(α:l.sz<=1099511627776)(hb:b3< w.heap.size)(hc:w.cell? ⟨b3,0,none⟩=some (iv x)):
  yj w 186 [ptr b3] ts (H7 l.bn (Lv.has x)):=by
 intro i v w1 V W R Z;have G:=h.bn;obtain⟨J,_⟩:=Ky.1 V;have z:i< l.bn.length:=by rw [G.1];exact J
 have he:=G.2 i l.bn[i] v (JC z) V;have H:=JM z;have hs:=Lv.ee l _ H;rw [pg z]at Z;refine iB v (ptr b3) w1 R ?_;refine⟨b3,0,rfl,x,by rw [W.cell (show b3< _ from hb)];exact hc,?_⟩;exact zo _ (JL _) (Lv.jE I _ H) (he.ex W) (by omega) Z
theorem HM {D S:Nat->Prop}{w:World}{b7 b9:Nat}{vt:Value}{l:Lv}{ts:List Value}(h9:w.cell? ⟨b9,0,none⟩=some (ptr b7))(l9:b9< w.heap.size)(h7:w.cell? ⟨b7,1,none⟩=some vt)(l7:b7< w.heap.size)(G:ec D w vt ts)(h:af D w l ts)(H:l.sh true=true)(α:l.sz<=1099511627776)
  (I:∀g,S g->¬D g/\g≠b9/\g≠b7):Hp w S 184 [ptr b9] (λx=> !l.has x):=by
 intro x w1 k R hR;refine jS x (ptr b9) w1 R ?_;intro b3 w4 J V;obtain⟨W,l4,c4⟩:=zT J V;have z:Kp w w4 S:=Kp.trans k (Kp.ah W λ _=>False) λ _ _ h=>h.elim
 refine⟨b9,0,rfl,ptr b7,?_,b7,0,rfl,vt,?_,?_⟩
 ·rw [JB (w:=w) (z.block b9 l9 λe=>(I _ e).2.1 rfl)];exact h9
 ·rw [JB (w:=w) (z.block b7 l7 λe=>(I _ e).2.2 rfl)];exact h7
 have hlen:=h.len;have :=nP l;have Z:∀g,D g->¬S g:=λg hd G=>(I g G).1 hd
 refine C7 (ca:=[ptr b3]) (G.kp z Z) (by kernel_rfl) (EI H (af.kp z Z h) (by omega) l4 c4) (by omega) λw5 x5=>?_
 rw [hlen,<-Lv.cK,wB,<-Lv.ma];exact hR w5 (Ex.trans W x5)
def Ac (n:Nat):Prop:=∀{D:Nat->Prop} {w:World} {v:Value} {o:List Nat} {l:Lv} {R:Value->World->Prop},l.sz<=n->l.sh true=true->fS D w v o (af D w l)->o.length+l.tot<=1099511627775->
 (∀v' w',Ex w w'->aB (yP w) w' (Lv.tidy o l) v'->R v' w')->Calls Tryz.prog 139 #[v] w (an [.v] R)
theorem og (o:List Nat)(l:Lv):(Lv.tidy o l).1.length+(Lv.tidy o l).2.tot<=o.length+l.tot:=by
 have :=Lv.sE o (Lv.tid l);have :=Lv.eC l;show(Lv.kept o (Lv.tid l)).1.length+(Lv.kept o (Lv.tid l)).2.tot<=_;omega
theorem bT (l:Lv):l.len<=l.tot:=KD (nP l) (Lv.jP l)
theorem aD.ka {e B:Nat}{w:World}{v:Value}{l:List Value}(h:aD e B w v l):oneV v=true:=by
 rcases h.2 with⟨rfl,_⟩ | ⟨g,cap,cur,rfl,_⟩<;>rfl
theorem aK.single {A B:Type}{R:A->B->Prop}{l:List A}{m:List B}(h:aK R l m){i:Nat}{b:B}(hb:m[i]?=some b):∃a,l[i]?=some a/\a∈l/\R a b:=by
 obtain⟨G,_⟩:=Ky.1 hb;have z:i< l.length:=by rw [h.1];exact G
 exact⟨l[i],JC z,JM z,h.2 i _ _ (JC z) hb⟩
theorem jq {k:K}{a b:Nat}{o:List Nat}{r:Lv}:Lv.tid (.thr k a b o r .nil)=if k= .m/\a=b then Lv.tidy o r else if(k= .m\/k= .p)/\(Lv.tidy o r).2.isNil=true then([],.nil)else([],.thr k a b (Lv.tidy o r).1 (Lv.tidy o r).2 .nil):=by
 simp only [Lv.tid,Kb,Lv.aV];rfl
theorem Bm (n:Nat)(ih:∀m,m< n->Ac m):Ac n:=by
 intro D w v o l R hn hsh h hb hR;refine ld v w R ?_;obtain⟨b,vo,vt,ts0,rfl,h2,h3,h4,h5,h6,h7,h8⟩:=h;refine⟨b,0,rfl,vo,h4,vZ h6 (by omega) λv5 w6 x6 ho6=>⟨ho6.ka,λb7 w8 hb7 hw8 b9 w10 hb9 hw10=>?_⟩⟩;have x8:Ex w6 w8:=hw8▸Ex.alloc w6 _;have x10:Ex w8 w10:=hw10▸Ex.alloc w8 _;have s6:=x6.size;have s8:w8.heap.size=w6.heap.size+1:=by rw [hw8,size_alloc]
 have s10:w10.heap.size=w8.heap.size+1:=by rw [hw10,size_alloc]
 have c9:w10.cell? ⟨b9,0,none⟩=some (.pointer none):=by rw [hw10,hb9];exact aa rfl
 have f9:w10.frozen? ⟨b9,0,none⟩=false:=by rw [hw10,hb9];unfold World.frozen? World.alloc;simp
 have bd8:jZ w.heap.size w8 b7 o [] λg=>g=b7\/v5.ownBlock=some g:=by
  refine⟨by omega,by omega,.inl rfl,λg H=>?_,λj=>?_,v5,.slice none 0 0,?_,?_,ho6.kp (Kp.ah x8 λ _=>False) (λ _ _ h=>h),aD.nil _ _ _,λg H=>⟨.inr H,?_⟩,λg H=>(by cases H),λg _ H=>(by cases H)⟩
  ·rcases H with rfl | H
   ·omega
   ·have :=ho6.block g H;omega
  ·rw [hw8,hb7];unfold World.frozen? World.alloc;simp
  ·rw [hw8,hb7];exact aa rfl
  ·rw [hw8,hb7];exact aa rfl
  ·have :=ho6.block g H;omega
 refine⟨⟨⟨_,c9⟩,f9⟩,λw12 hw12=>?_⟩;have k12:Kr b9 w10 w12:=hw12▸Kr.set w10 0 _;have x610:Ex w6 w10:=Ex.trans x8 x10;have x12:Ex w w12:=Ex.below (Ex.trans x6 x610) (Kp.below k12 (Ex.trans x6 x610).size λg H e=>by omega);have s12:=k12.size;have ti12:TI w w12 b7 b9 o .nil [] (λg=>g=b7\/v5.ownBlock=some g) (λg=>g=b9):=by
  refine⟨x12,(bd8.ex x10).kp k12 λg H e=>?_,rfl,?_,by omega,by omega,rfl,λg H e=>?_,λg e=>by omega⟩
  ·have :=(bd8.mr g H).2;omega
  ·rw [hw12];exact JT _ _ _ c9
  ·have :=(bd8.mr g H).2;omega
 obtain⟨a0,cap0,hvt⟩:=h7.slice;have hlen:=h8.len;have hel:=Lv.cK l;have hlt:=bT l;refine⟨b,0,rfl,vt,by rw [x12.cell (show b< _ from h3)];exact h5,a0,_,cap0,hvt,λx w'=>∃(i:Nat) (ts:List Value) (M:Nat->Prop),x=i/\i<=l.bn.length/\TI w w' b7 b9 (o++(Lv.tid (l.take i)).1) (Lv.tid (l.take i)).2 ts M (λg=>g=b9),λx _=>(l.bn.length - x).toNat,⟨0,[],_,rfl,by omega,by simpa [Lv.take,Lv.tid]using ti12⟩,λx G hI=>?_⟩;obtain⟨i,ts,M,rfl,hi,β⟩:=hI;refine⟨λhc=>?_,λhc=>?_⟩
 ·have hc:=J0 hc;have hil:i< ts0.length:=by omega
  have ω:i< l.bn.length:=by omega
  have ς:=β.ex;have J:∀w' W M',TI w w' b7 b9 (o++(Lv.tid (l.take i)).1++(Lv.tid l.bn[i]).1) ((Lv.tid (l.take i)).2.app (Lv.tid l.bn[i]).2) W M' (λg=>g=b9)->aj ((i:Int)+1)/\(∃(i':Nat) (ts:List Value) (M:Nat->Prop),((i:Int)+1)=i'/\i'<=l.bn.length/\TI w w' b7 b9 (o++(Lv.tid (l.take i')).1) (Lv.tid (l.take i')).2 ts M (λg=>g=b9))/\((l.bn.length:Int) - ((i:Int)+1)).toNat< ((l.bn.length:Int) - (i:Int)).toNat:=by
   intro w' W M' ti;refine⟨by unfold aj;omega,⟨i+1,W,M',by omega,by omega,?_⟩,by omega⟩;rw [Lv.take_succ l i ω,Lv.cO _ _ (Lv.lO (Lv.pd l i hsh)),<-Kg];exact ti
  have hel22:=(af.ex h8 ς).bn;have he:=hel22.2 i l.bn[i] ts0[i] (JC ω) (JC hil);have he0:=h8.bn.2 i l.bn[i] ts0[i] (JC ω) (JC hil);have hmem:=JM ω;have hesz:=Lv.ee l _ hmem;have hetot:=Lv.gd l _ hmem;have hOt:=Lv.eC (l.take i);have hTt:=Lv.ft l i;have hTe:(l.take i).tot+l.bn[i].tot<=l.tot:=by
   have :=Lv.ft l (i+1);rw [Lv.take_succ l i ω,Lv.bV]at this;exact this
  have hOl:(o++(Lv.tid (l.take i)).1).length=o.length+(Lv.tid (l.take i)).1.length:=JJ;have hLl:=bT (Lv.tid (l.take i)).2;refine(h7.ex ς).get (i:=i) (x:=ts0[i]) (by omega) (by simp [hil]) ?_;generalize l.bn[i]=e at*;generalize ts0[i]=v27 at*;have hke:(∃k a b o r,e= .thr k a b o r .nil/\r.sh true=true)\/∃ps,e= .sum ps .nil/\ps.sh false=true:=Lv.jE hsh e hmem;generalize (o++(Lv.tid (l.take i)).1)=O at*;generalize (Lv.tid (l.take i)).2=L at*;have hts:ts.length=L.len:=β.th.len;have hS:∀{w1:World},Ex G w1->∀{g j:Nat} {u:Value},g< G.heap.size->G.cell? ⟨g,j,none⟩=some u->w1.cell? ⟨g,j,none⟩=some u:=by
   intro w1 V g j u H hu;rw [V.cell (show g< _ from H)];exact hu
  rcases hke with⟨k,a,b1,o',r,rfl,hr⟩ | ⟨ps,rfl,hps⟩
  ·obtain⟨_,_,a',b',vr,e,⟨g,rfl,g2,g3,g4,g5,g6,g7,g8⟩,hab,hlv,_⟩:=he;obtain⟨rfl,_⟩:=KG e;refine⟨λw'=>Ex G w',λυ ζ=>⟨ζ▸Ex.drew G,g,0,rfl,_,λw' V=>hS V g3 g4,g,0,rfl,_,λw' V=>hS V g3 g5,g,0,rfl,_,λw' V=>hS V g3 g6,λb39 α hb39 η=>?_⟩⟩;have x29:Ex G υ:=ζ▸Ex.drew G;have s29:υ.heap.size=G.heap.size:=by rw [ζ];rfl
   have θ:Ex G α:=Ex.trans x29 (η▸Ex.alloc υ _);have s40:α.heap.size=υ.heap.size+1:=by rw [η,size_alloc]
   have th40:kh α b39 k.byte a' b' (.pointer none) (.slice none 0 0):=kh.new hb39 η;have l9:=β.l9;have n39:b39≠b9:=by omega
   have h39:w.heap.size<=b39:=by have :=ς.size;omega
   have ti40:TI w α b7 b9 O L ts M λg=>g=b9\/g=b39:=β.II (Kp.ah θ λ _=>False) (λ _ h=>h.elim) (λg h=> .inl h) λg h=>h.elim .inl λh=> .inr (by omega)
   simp only [Lv.sz]at hesz;simp only [Lv.tot]at hetot hTe;refine⟨θ,g,0,rfl,_,hS θ g3 g4,aS (by cases k<;>decide) ⟨g,0,rfl,_,hS θ g3 g7,?_⟩⟩;refine ih r.sz (by omega) (JL _) hr (fS.ex hlv θ) (by omega) λι w138 ξ l137=>⟨fS.one l137,⟨⟨_,(th40.kp (Kp.ah ξ λ _=>False) λh=>h).c3⟩,(th40.kp (Kp.ah ξ λ _=>False) λh=>h).f 3⟩,λI hw140=>?_⟩
   have k140:Kr b39 w138 I:=hw140▸Kr.set w138 3 _;have φ:kh I b39 k.byte a' b' ι (.slice none 0 0):=(th40.kp (Kp.ah ξ λ _=>False) λh=>h).Bw hw140;have χ:TI w I b7 b9 O L ts M λg=>g=b9\/g=b39:=(ti40.ext ξ).Jh k140 λg H=>⟨.inr H,by omega,by omega⟩
   have s138:=ξ.size;have s140:=k140.size;have hrt:=og o' r;have l140:aB (λg=>(α.heap.size<=g)/\g< I.heap.size) I (Lv.tidy o' r) ι:=aB.sub (aB.kp (l137.sub (E:=λg=>α.heap.size<=g/\g< w138.heap.size) λg H h=>⟨h,H⟩) k140 λg H e=>by omega) λg _ H=>⟨H.1,by omega⟩
   have hM40:∀g,M g->g< α.heap.size:=λg H=>(ti40.bd.mr g H).2
   have cg:∀{w1:World},Ex I w1->∀{j:Nat} {u:Value},G.cell? ⟨g,j,none⟩=some u->w1.cell? ⟨g,j,none⟩=some u:=λV j u hu=>by
    have:I.cell? ⟨g,j,none⟩=some u:=by
     rw [JB (w:=w138) (k140.block g (by omega) (by omega)),ξ.cell (show g< _ by omega)];exact hS θ g3 hu
    rw [V.cell (show g< _ by omega)];exact this
   have cb:∀{w1:World},Ex I w1->w1.cell? ⟨b39,3,none⟩=some ι:=λV=>by rw [V.cell (show b39< _ from φ.lt)];exact φ.c3
   have c9':∀{w1:World},Ex I w1->w1.cell? ⟨b9,0,none⟩=some (ptr b7):=λV=>by rw [V.cell (show b9< _ from χ.l9)];exact χ.c9
   have hth:∀{w1:World},Ex I w1->af (λg=>(w.heap.size<=g/\¬M g/\¬(g=b9))/\g< w1.heap.size) w1 (.thr k a b1 (Lv.tidy o' r).1 (Lv.tidy o' r).2 .nil) [ptr b39]:=λ{w1} V=>by
    have sx:=V.size;refine⟨ptr b39,[],a',b',ι,rfl,(φ.kp (Kp.ah V λ _=>False) λh=>h).H2 ⟨⟨h39,λhm=>χ.mx b39 hm (.inr rfl),n39⟩,by have :=φ.lt;omega⟩,hab,?_,rfl⟩;exact aB.sub (aB.ex l140 V) λg _ H=>⟨⟨by omega,λhm=>by have :=hM40 g hm;omega,by omega⟩,by omega⟩
   have ν:∀{w1:World},Ex I w1->TI w w1 b7 b9 O L ts M λg=>g=b9:=λV=>(χ.ext V).Et (λg h=> .inl h) rfl
   have hnil:∀{w1:World},Ex I w1->Lv.tid (.thr k a b1 o' r .nil)=([],.nil)->TI w w1 b7 b9 (O++(Lv.tid (.thr k a b1 o' r .nil)).1) (L.app (Lv.tid (.thr k a b1 o' r .nil)).2) ts M λg=>g=b9:=λV e=>by
    rw [e,Kb,Lv.aV];exact ν V
   have hlr:=bT (Lv.tidy o' r).2;refine⟨λw'=>Ex I w',λο hw142=>⟨hw142▸Ex.drew I,g,0,rfl,_,λw' V=>cg V g4,?_⟩⟩;have z:Ex I ο:=hw142▸Ex.drew I;have κ:∀{w1:World},Ex I w1->(Lv.tid (.thr k a b1 o' r .nil)=([],.thr k a b1 (Lv.tidy o' r).1 (Lv.tidy o' r).2 .nil))->∀w'' W M',TI w w'' b7 b9 O (L.app (.thr k a b1 (Lv.tidy o' r).1 (Lv.tidy o' r).2 .nil)) W M' (λg=>g=b9)->TI w w'' b7 b9 (O++(Lv.tid (.thr k a b1 o' r .nil)).1) (L.app (Lv.tid (.thr k a b1 o' r .nil)).2) W M' (λg=>g=b9):=λ _ e w'' W M' h=>by
    rw [e,Kb];exact h
   have hkm:(Lv.tidy o' r).2.isNil=false->¬(k= .m/\a=b1)->Lv.tid (.thr k a b1 o' r .nil)=([],.thr k a b1 (Lv.tidy o' r).1 (Lv.tidy o' r).2 .nil):=λh1 h2=>by
    rw [jq,JV h2,JV (by rw [h1];simp)]
   cases k with
   | m=>
    have hab:a'=a/\b'=b1:=by rcases hab with h | h | h<;>first | exact h | cases h
    obtain⟨rfl,rfl⟩:=hab;refine cS rfl ⟨g,0,rfl,a',λw' V=>cg V g5,g,0,rfl,b',λw' V=>cg V g6,λhq=>?_,λhq=>?_⟩
    ·have hq:a'=b':=by have :=J0 hq;omega
     have ht:Lv.tid (.thr .m a' b' o' r .nil)=Lv.tidy o' r:=by rw [jq,Ka ⟨rfl,hq⟩]
     refine⟨λw'=>Ex ο w',λw153 hw153=>⟨hw153▸Ex.drew ο,ptr b7,λw' V=>c9' (Ex.trans z V),ι,λw' V=>cb (Ex.trans z V),?_⟩⟩;have x153:Ex I w153:=Ex.trans z (hw153▸Ex.drew ο);refine(ν x153).DW (O2:=(Lv.tidy o' r).1) (L2:=(Lv.tidy o' r).2) (aB.ex l140 x153) (λg H hd=>⟨by omega,λhm=>by have :=hM40 g hm;omega,by omega⟩) ⟨by omega,by omega⟩ λw'' W M' h _=>J w'' W M' ?_
     rw [ht];exact h
    ·have hq:¬a'=b':=by have :=J1 hq;omega
     refine⟨g,0,rfl,_,cg z g4,dK rfl ⟨ι,cb z,lR (aB.ex l140 z) ⟨λhe=>J ο ts M (hnil z (by rw [jq,JV (λh=>hq h.2),Ka ⟨.inl rfl,he⟩])),λhe=>?_⟩⟩⟩;have ht:=hkm he λh=>hq h.2
     exact(ν z).push (hth z) (by omega) λw'' W M' h=>J w'' W M' (κ z ht _ _ _ h)
   | p=>
    refine aS (by dsimp only [K.byte];decide) ⟨g,0,rfl,_,cg z g4,cu (by dsimp only [K.byte];decide) ⟨g,0,rfl,_,cg z g4,cS rfl ⟨ι,cb z,lR (aB.ex l140 z) ⟨λhe=>J ο ts M (hnil z (by rw [jq,JV (λh=>by cases h.1),Ka ⟨.inr rfl,he⟩])),λhe=>?_⟩⟩⟩⟩;have ht:=hkm he λh=>by cases h.1
    exact(ν z).push (hth z) (by omega) λw'' W M' h=>J w'' W M' (κ z ht _ _ _ h)
   | s=>
    refine aS (by dsimp only [K.byte];decide) ⟨g,0,rfl,_,cg z g4,cu (by dsimp only [K.byte];decide) ⟨g,0,rfl,_,cg z g4,aS (by dsimp only [K.byte];decide) ?_⟩⟩;exact(ν z).push (hth z) (by omega) λw'' W M' h=>J w'' W M' (κ z (by rw [jq,JV (λh=>by cases h.1),JV (λh=>by rcases h.1 with h | h<;>cases h)]) _ _ _ h)
   | r=>
    refine aS (by dsimp only [K.byte];decide) ⟨g,0,rfl,_,cg z g4,cu (by dsimp only [K.byte];decide) ⟨g,0,rfl,_,cg z g4,aS (by dsimp only [K.byte];decide) ?_⟩⟩;exact(ν z).push (hth z) (by omega) λw'' W M' h=>J w'' W M' (κ z (by rw [jq,JV (λh=>by cases h.1),JV (λh=>by rcases h.1 with h | h<;>cases h)]) _ _ _ h)
   | t=>
    refine aS (by dsimp only [K.byte];decide) ⟨g,0,rfl,_,cg z g4,cu (by dsimp only [K.byte];decide) ⟨g,0,rfl,_,cg z g4,aS (by dsimp only [K.byte];decide) ?_⟩⟩;exact(ν z).push (hth z) (by omega) λw'' W M' h=>J w'' W M' (κ z (by rw [jq,JV (λh=>by cases h.1),JV (λh=>by rcases h.1 with h | h<;>cases h)]) _ _ _ h)
  ·clear he;obtain⟨_,_,a',b',vp0,us0,e,⟨g,rfl,g2,g3,g4,g5,g6,g7,g8⟩,hsl,hus,_⟩:=he0;obtain⟨rfl,_⟩:=KG e;have hS0:∀{w1:World},Ex w w1->∀{j:Nat} {u:Value},w.cell? ⟨g,j,none⟩=some u->w1.cell? ⟨g,j,none⟩=some u:=by
    intro w1 V j u hu;rw [V.cell (show g< _ from g3)];exact hu
   refine⟨λw'=>Ex G w',λυ ζ=>⟨ζ▸Ex.drew G,g,0,rfl,43,λw' V=>hS0 (Ex.trans ς V) g4,g,0,rfl,_,λw' V=>hS0 (Ex.trans ς V) g5,g,0,rfl,_,λw' V=>hS0 (Ex.trans ς V) g6,λb39 α hb39 η=>?_⟩⟩;have x29:Ex G υ:=ζ▸Ex.drew G;have s29:υ.heap.size=G.heap.size:=by rw [ζ];rfl
   have θ:Ex G α:=Ex.trans x29 (η▸Ex.alloc υ _);have s40:α.heap.size=υ.heap.size+1:=by rw [η,size_alloc]
   have th40:kh α b39 43 a' b' (.pointer none) (.slice none 0 0):=kh.new hb39 η;have l9:=β.l9;have n39:b39≠b9:=by omega
   have h39:w.heap.size<=b39:=by have :=ς.size;omega
   have ti40:TI w α b7 b9 O L ts M λg=>g=b9\/g=b39:=β.II (Kp.ah θ λ _=>False) (λ _ h=>h.elim) (λg h=> .inl h) λg h=>h.elim .inl λh=> .inr (by omega)
   have si40:SI w α b7 b9 b39 O L ts M (λg=>g=b9\/g=b39) a' b' .nil:=⟨ti40,.inr rfl,h39,n39,.slice none 0 0,[],th40,aD.nil _ _ _,rfl,λg h=>by cases h⟩
   simp only [Lv.sz]at hesz;simp only [Lv.tot]at hetot hTe;obtain⟨ap,capp,hvp⟩:=hsl.slice;have hul:=hus.len;have hpel:=Lv.cK ps;have hplt:=bT ps;refine⟨θ,g,0,rfl,_,hS0 (Ex.trans ς θ) g4,cS rfl ⟨g,0,rfl,vp0,hS0 (Ex.trans ς θ) g8,ap,_,capp,hvp,λx w'=>∃(j:Nat) (X:Nat->Prop),x=j/\j<=ps.bn.length/\SI w w' b7 b9 b39 O L ts M X a' b' (Lv.tid (ps.take j)).2,λx _=>(ps.bn.length - x).toNat,⟨0,_,rfl,by omega,by simpa [Lv.take,Lv.tid]using si40⟩,λx Z hI=>?_⟩⟩;obtain⟨j,X,rfl,hj,μ⟩:=hI;have x53:=μ.ti.ex;refine⟨λhc=>?_,λhc=>?_⟩
   ·have hc:=J0 hc;have hjl:j< us0.length:=by omega
    have hjl':j< ps.bn.length:=by omega
    refine(hsl.ex x53).get (i:=j) (x:=us0[j]) (by omega) (by simp [hjl]) ?_;have hpe:=hus.bn.2 j ps.bn[j] us0[j] (JC hjl') (JC hjl);have hpm:=JM hjl';have hpsz:=Lv.ee ps _ hpm;have hptot:=Lv.gd ps _ hpm;obtain⟨o'',q,epq,hq⟩:=Lv.lX hps _ hpm;have htk:(Lv.tid (ps.take (j+1))).2=(Lv.tid (ps.take j)).2.app (Lv.prt (Lv.tidy o'' q).1 (Lv.tidy o'' q).2 .nil):=by
     rw [Lv.take_succ ps j hjl',Lv.xh _ (Lv.pd ps j hps),epq];rfl
    have hQ:=bT (Lv.tid (ps.take j)).2;have hQ1:=Lv.eC (ps.take j);have hQ2:=Lv.ft ps (j+1);rw [Lv.take_succ ps j hjl',Lv.bV,epq]at hQ2;rw [epq]at hpe hpsz hptot;generalize us0[j]=v58 at*;obtain⟨v58',_,e58,hlq,_⟩:=hpe;obtain⟨rfl,_⟩:=KG e58;simp only [Lv.sz]at hpsz;simp only [Lv.tot]at hptot hQ2;have hfin:∀w' X',SI w w' b7 b9 b39 O L ts M X' a' b' (Lv.tid (ps.take (j+1))).2->aj ((j:Int)+1)/\(∃(j':Nat) (X:Nat->Prop),((j:Int)+1)=j'/\j'<=ps.bn.length/\SI w w' b7 b9 b39 O L ts M X a' b' (Lv.tid (ps.take j')).2)/\((ps.bn.length:Int) - ((j:Int)+1)).toNat< ((ps.bn.length:Int) - (j:Int)).toNat:=
     λw' X' h=>⟨by unfold aj;omega,⟨j+1,X',by omega,by omega,h⟩,by omega⟩
    refine ih q.sz (by omega) (JL _) hq (fS.ex hlq x53) (by omega) λv59 ε x60 l59=>?_
    have si60:=μ.ext x60;have hrt:=og o'' q;have hqsh:(Lv.tidy o'' q).2.sh true=true:=Lv.dL q true hq;generalize Lv.tidy o'' q=r' at*;have hM53:∀g,M g->g< Z.heap.size:=λg H=>(μ.ti.bd.mr g H).2
    have hX53:=μ.ti.xl;have hsz53:=x53.size;refine lR l59 ⟨λhe=>?_,λhe=>FP l59 hqsh ⟨λhs=>?_,λhs=>?_⟩⟩
    ·refine hfin ε X ?_;rw [htk,u7,Ka he,Lv.aV];exact si60
    ·obtain⟨ps',ep⟩:∃ps',r'.2= .sum ps' .nil:=by
      have :=(Bool.and_eq_true_iff.1 hs).2;generalize r'.2=q' at*
      match q',this with
      | .sum ps' .nil,_=>exact⟨ps',rfl⟩
     rw [u7,JV (by rw [he];simp),Ka hs,ep]at htk;have htk:(Lv.tid (ps.take (j+1))).2=(Lv.tid (ps.take j)).2.app ps':=htk;unfold aB at l59;rw [ep]at l59 hrt;obtain⟨b59,vo59,vt59,tsq,rfl,k2,k3,k4,k5,k6,k7,k8⟩:=l59;obtain⟨_,_,aq,bq,vpq,usq,rfl,⟨gq,rfl,q2,q3,q4,q5,q6,q7,q8⟩,qsl,qus,rfl⟩:=k8;obtain⟨vp,us,γ,ho60,hu60,hob⟩:=si60.sl;have hobl:∀x,vp.ownBlock=some x->x< Z.heap.size:=λx V=>hX53 x (hob x V).1
     refine⟨λw'=>Kp ε w' λg=>vp.ownBlock=some g,λw66 hw66=>⟨hw66▸Kp.ah (Ex.drew ε) _,vp,λw' k=>?_,b59,0,rfl,vt59,λw' k=>?_,?_⟩⟩
     ·rw [JB (w:=ε) (k.block b39 γ.lt λe=>(hob _ e).2.2 rfl)];exact γ.c4
     ·rw [JB (w:=ε) (k.block b59 k3 λe=>by have :=hobl _ e;have:Z.heap.size<=b59:=k2;omega)];exact k5
     have x66:Ex ε w66:=hw66▸Ex.drew ε;rcases k7 with⟨_,e⟩ | ⟨bt,off,cp,rfl,t2,t3,t4⟩
     ·cases e
     refine⟨bt,off,1,cp,rfl,by omega,by omega,ptr gq,λw' k=>?_,gq,0,rfl,vpq,λw' k=>?_,?_⟩
     ·rw [JB (w:=ε) (k.block bt t3 λe=>by have :=hobl _ e;have:Z.heap.size<=bt:=t2;omega)];exact t4 0 _ rfl
     ·rw [JB (w:=ε) (k.block gq q3 λe=>by have :=hobl _ e;have:Z.heap.size<=gq:=q2;omega)];exact q8
     have hqd:af (λg=>(w.heap.size<=g/\¬M g/\¬X g)/\g< w66.heap.size) w66 ps' usq:=af.sub (λg H hd=>⟨⟨by have:Z.heap.size<=g:=hd;omega,λhm=>by have :=hM53 g hm;have:Z.heap.size<=g:=hd;omega,λhm=>by have :=hX53 g hm;have:Z.heap.size<=g:=hd;omega⟩,H⟩) (af.ex qus x66);have hql:=qus.len;have hql2:=bT ps';simp only [Lv.tot]at hrt;refine(si60.ext x66).push (qsl.ex x66) hqd (by omega) (by rw [x66.cell (show b39< _ from γ.lt)];exact γ.c4) λv84 w85 hv84 k85 hc85 hset=>⟨Kp.trans (Kp.ah x66 _) k85 λ _ _ h=>h,hv84,hc85,λw87 hw87=>?_⟩
     obtain⟨X',hsi⟩:=hset w87 hw87;refine hfin w87 X' ?_;rw [htk];exact hsi
    ·rw [u7,JV (by rw [he];simp),JV (by rw [hs];simp)]at htk;obtain⟨vp,us,γ,ho60,hu60,hob⟩:=si60.sl;refine⟨vp,γ.c4,fS.one l59,λb89 w90 hb89 hw90=>?_⟩;have x90:Ex ε w90:=hw90▸Ex.alloc ε _;have s90:w90.heap.size=ε.heap.size+1:=by rw [hw90,size_alloc]
     have hsl1:ec (λx=>x=b89) w90 (.slice (some ⟨b89,0,none⟩) 1 1) [v59]:=by
      refine .inr ⟨b89,0,1,rfl,rfl,by omega,λi x V=>?_⟩;rw [J',hw90,hb89];refine aa ?_
      match i,V with
      | 0,V=>simpa using V
      | i+1,V=>simp at V
     have hqd:af (λg=>(w.heap.size<=g/\¬M g/\¬X g)/\g< w90.heap.size) w90 (.part r'.1 r'.2 .nil) [v59]:=⟨v59,[],rfl,aB.sub (aB.ex l59 x90) λg H hd=>⟨⟨by have:Z.heap.size<=g:=hd;omega,λhm=>by have :=hM53 g hm;have:Z.heap.size<=g:=hd;omega,λhm=>by have :=hX53 g hm;have:Z.heap.size<=g:=hd;omega⟩,H⟩,rfl⟩
     refine(si60.ext x90).push hsl1 hqd (by simp only [JA,JQ];omega) (by rw [x90.cell (show b39< _ from γ.lt)];exact γ.c4) λv84 w85 hv84 k85 hc85 hset=>⟨hv84,hc85,λw87 hw87=>?_⟩
     obtain⟨X',hsi⟩:=hset w87 hw87;refine hfin w87 X' ?_;rw [htk];exact hsi
   ·have hc:=J1 hc;have:j=ps.bn.length:=by omega
    subst this;rw [Lv.de]at μ;have hpsh:(Lv.tid ps).2.sh false=true:=Lv.dL ps false hps;have hpt:=Lv.eC ps;have hpl:=bT (Lv.tid ps).2;have htid:Lv.tid (.sum ps .nil)=Lv.spl (Lv.tid ps).2 ([],.nil):=by simp only [Lv.tid]
    rw [htid]at J;generalize (Lv.tid ps).2=Q at*;have si53':=μ;obtain⟨ti,hx39,_,_,vp,us,th,ho,hu,hob⟩:=μ;have ν:TI w Z b7 b9 O L ts M λg=>g=b9:=ti.Et (λg h=>h▸ti.x9) rfl
    obtain⟨av,capv,hvpe⟩:=(ho.Cg (D:=λ _=>True) λ _ _=>trivial).slice;have ψ:=hu.len;refine⟨vp,th.c4,av,_,capv,hvpe,λh0=>?_,λh0=>⟨λh1=>?_,λh1=>?_⟩⟩
    ·have h0:=J0 h0;have hQ:Q= .nil:=by
      have:Q.len=0:=by omega
      cases Q<;>first | rfl | simp [Lv.len]at this
     subst hQ;refine J Z ts M ?_;simp only [Lv.spl,Kb,Lv.aV];exact ν
    ·have h1:=J0 h1;obtain⟨oq,qq,rfl⟩:∃oq qq,Q= .part oq qq .nil:=by
      have:Q.len=1:=by omega
      cases Q with
      | nil=>simp [Lv.len]at this
      | thr=>cases hpsh
      | sum=>cases hpsh
      | part oq qq n=>
       have hn:n= .nil:=by
        have:n.len=0:=by simp only [Lv.len]at this;omega
        cases n<;>first | rfl | simp [Lv.len]at this
       exact⟨oq,qq,by rw [hn]⟩
     obtain⟨u,us',rfl,hlu,rfl⟩:=hu;rcases ho.Cg (D:=λg=>vp.ownBlock=some g) λ _ h=>h with⟨_,e⟩ | ⟨bt,off,cp,hvp2,t2,t3,t4⟩
     ·cases e
     have hnM:∀g,X g->¬M g:=λg V hm=>ti.mx g hm V
     refine⟨λw'=>Kp Z w' M,λw105 hw105=>⟨hw105▸Kp.ah (Ex.drew Z) _,ptr b7,λw' k=>?_,vp,λw' k=>?_,bt,off,1,cp,hvp2,by omega,by omega,u,λw' k=>?_,?_⟩⟩
     ·rw [JB (w:=Z) (k.block b9 ti.l9 (hnM _ ti.x9))];exact ti.c9
     ·rw [JB (w:=Z) (k.block b39 th.lt (hnM _ hx39))];exact th.c4
     ·rw [JB (w:=Z) (k.block bt t3 (hnM _ (hob _ t2).1))];exact t4 0 _ rfl
     have x105:Ex Z w105:=hw105▸Ex.drew Z;simp only [Lv.tot]at hpt;have :=bT qq;refine(ti.ext x105).DW (O2:=oq) (L2:=qq) (fS.ex hlu x105) (λg _ hd=>hd.1) ⟨by omega,by omega⟩ λw'' W M' h k=>⟨Kp.trans (Kp.ah x105 _) k λ _ _ h=>h,J w'' W M' ?_⟩
     simp only [Lv.spl,Kb,Lv.aV];exact h.Et (λg h=>h▸ti.x9) rfl
    ·have h0:=J1 h0;have h1:=J1 h1;have hspl:Lv.spl Q ([],.nil)=([],.sum Q .nil):=by
      unfold Lv.spl;split
      ·simp [Lv.len]at ψ;simp [ψ]at h0
      ·simp [Lv.len]at ψ;simp [ψ]at h1
      ·rfl
     refine ν.push (e:= .sum Q .nil) ⟨ptr b39,[],a',b',vp,us,rfl,th.H2 ⟨⟨h39,λhm=>ti.mx b39 hm hx39,n39⟩,th.lt⟩,?_,?_,rfl⟩ (by omega) λw'' W M' h=>J w'' W M' ?_
     ·exact ho.Cg λg H=>⟨⟨(ho.block g H).1,λhm=>ti.mx g hm (hob g H).1,(hob g H).2.1⟩,(ho.block g H).2⟩
     ·exact af.sub (λg _ hd=>⟨⟨hd.1.1,hd.1.2.1,λe=>hd.1.2.2 (e▸ti.x9)⟩,hd.2⟩) hu
     ·rw [hspl,Kb];exact h
 ·have hc:=J1 hc;have:i=l.bn.length:=by omega
  subst this;rw [Lv.de]at β;have htt:=Lv.eC l;have hsz:=Lv.jP (Lv.tid l).2;have htsh:=Lv.dL l true hsh;have hfil:Lv.tidy o l=((o++(Lv.tid l).1).filter (λx=> !!(Lv.tid l).2.has x),(Lv.tid l).2):=by
   simp only [Bool.not_not];rfl
  rw [hfil]at hR;have hOl:(o++(Lv.tid l).1).length=o.length+(Lv.tid l).1.length:=JJ;generalize (o++(Lv.tid l).1)=O at*;generalize (Lv.tid l).2=L at*;have ti:=β;obtain⟨d1,d2,d3,dr,d4,vo1,vt1,d5,d6,d7,d8,d9,d10,d11⟩:=ti.bd;have hn9:¬M b9:=λhm=>ti.mx b9 hm rfl
  refine⟨λw'=>Kp G w' λg=>vo1.ownBlock=some g,λw302 hw302=>⟨hw302▸Kp.ah (Ex.drew G) _,ptr b7,λw' k=>?_,ptr b7,λw' k=>?_,b7,0,rfl,vo1,λw' k=>?_,?_⟩⟩
  ·rw [JB (w:=G) (k.block b9 ti.l9 λe=>hn9 (d9 _ e).1)];exact ti.c9
  ·rw [JB (w:=G) (k.block b9 ti.l9 λe=>hn9 (d9 _ e).1)];exact ti.c9
  ·rw [JB (w:=G) (k.block b7 d1 λe=>(d9 _ e).2 rfl)];exact d5
  have δ:Ex G w302:=hw302▸Ex.drew G;have kx:Kp G w302 λ _=>False:=Kp.ah δ _
  have hsvt:ec (λg=>w.heap.size<=g/\vo1.ownBlock≠some g/\g< G.heap.size) G vt1 ts:=d8.Cg λg H=>⟨(d8.block g H).1,λe=>d11 g e H,(d8.block g H).2⟩
  have hths:af (λg=>w.heap.size<=g/\vo1.ownBlock≠some g/\g< G.heap.size) G L ts:=af.sub (λg H hd=>⟨hd.1.1,λe=>hd.1.2.1 (d9 g e).1,H⟩) ti.th;refine CT (ca:=[ptr b9]) (d7.kp kx λ _ _ h=>h) (by kernel_rfl) (HM (b7:=b7) (vt:=vt1) (D:=λg=>w.heap.size<=g/\vo1.ownBlock≠some g/\g< G.heap.size) ?_ (by have :=ti.l9;have :=δ.size;omega) ?_ (by have :=δ.size;omega) (hsvt.ex δ) (af.ex hths δ) htsh (by omega) λg H=>⟨λhd=>hd.2.1 H,λe=>hn9 (e▸(d9 g H).1),(d9 g H).2⟩) (by omega) λv308 w309 hv k309 hsl=>?_
  ·rw [δ.cell (show b9< _ from ti.l9)];exact ti.c9
  ·rw [δ.cell (show b7< _ from d1)];exact d6
  have k9:Kp G w309 λg=>vo1.ownBlock=some g:=Kp.trans (Kp.ah δ _) k309 λ _ _ h=>h
  have hb9:=k9.block b7 d1 λe=>(d9 _ e).2 rfl
  have c0:w309.cell? ⟨b7,0,none⟩=some vo1:=by rw [JB (w:=G) hb9];exact d5
  refine⟨k9,b7,0,rfl,hv,⟨⟨_,c0⟩,by rw [J8 (w:=G) hb9];exact d4 _⟩,λw313 hw313=>?_⟩;have kset:Kr b7 w309 w313:=hw313▸Kr.set w309 0 _;have kall:Kp G w313 λg=>vo1.ownBlock=some g\/g=b7:=Kp.trans (Kp.mono (λg e=> .inl e) k9) kset λg _ e=> .inr e
  have hne79:b9≠b7:=λe=>hn9 (e▸d3)
  refine⟨ptr b7,?_,hR _ w313 ?_ ?_⟩
  ·rw [JB (w:=G) (kall.block b9 ti.l9 λe=>e.elim (λe=>hn9 (d9 _ e).1) hne79)];exact ti.c9
  ·exact Ex.below ti.ex (Kp.below kall ti.ex.size λg H e=>by
    rcases e with e | e
    ·have :=(d7.block g e).1;omega
    ·omega)
  ·refine⟨b7,v308,vt1,ts,rfl,d2,J2 d1 kall.size,?_,?_,?_,?_,?_⟩
   ·rw [hw313];exact JT _ _ _ c0
   ·rw [hw313,JH _ _ _ _ (by simp),JB (w:=G) hb9];exact d6
   ·exact(hsl.kp kset λg H e=>(d9 g H).2 e).sub λg _ H=>(d7.block g H).1
   ·exact((d8.Cg (D:=λg=>vt1.ownBlock=some g) λ _ h=>h).kp kall λg H e=>e.elim (λe=>d11 g e H) (d10 g H).2).sub λg _ H=>(d8.block g H).1
   ·exact af.sub (λg _ H=>H.1.1) (af.kp kall (λg H e=>e.elim (λe=>H.1.2.1 (d9 g e).1) λe=>H.1.2.1 (e▸d3)) ti.th)
theorem DO:∀n,Ac n:=by
 have:∀k n,n< k->Ac n:=by
  intro k
  induction k with
  | zero=>intro n h;omega
  | succ k z=>exact λn h=>Bm n λm hm=>z m (by omega)
 exact λn=>this (n+1) n (by omega)
end Go.Proofs.YtdecokaadekjnaaGreat
namespace Go.Proofs.YtdecokaadekjnaaGreat
open Go
set_option maxRecDepth 100000
theorem jD (o1:Value)(c2:Value)(c3:Value)(w:World)(R:World->Prop)(h:Ie 236 #[o1] w λJ n5 w6=>bL w6 λz G=>(az c2 λb9 ζ=>oH G b9 ζ λH=>z G/\(az c3 λη θ=>oH G η θ λV=>z G/\aj (V+n5)/\az c2 λι κ=>bf G ι κ (.int .i64 (if J> H then J else H)) λW=>z W/\az c3 λμ ν=>bf W μ ν (.int .i64 (V+n5)) λZ=>z Z/\R Z)/\(az c2 λξ ο=>bf G ξ ο (.int .i64 (if J> H then J else H)) λI=>z I/\az c3 λς υ=>oH I ς υ λα=>z I/\aj (α+n5)/\az c3 λb30 φ=>bf I b30 φ (.int .i64 (α+n5)) λβ=>z β/\R β))/\(az c3 λχ ψ=>oH G χ ψ λγ=>z G/\aj (γ+n5)/\az c2 λω o38=>oH G ω o38 λn39=>z G/\az c2 λb40 o41=>bf G b40 o41 (.int .i64 (if J> n39 then J else n39)) λδ=>z δ/\az c3 λb44 o45=>bf δ b44 o45 (.int .i64 (γ+n5)) λε=>z ε/\R ε)):
  Calls Tryz.prog 249 #[o1,c2,c3] w (an [] R):=
 aY (aZ [] [] []) [] [.v o1,.v c2,.v c3] Tryz.func249 (by kernel_rfl) h
theorem lB (l1:Value)(w:World)(R:Int->Int->World->Prop)(h:bL w λS2 w3=>az l1 λb4 o5=>cC S2 b4 (o5+0) λv6=>bz v6 λl8=>az l1 λb10 o11=>cC S2 b10 (o11+0) λv12=>bz v12 λl14=>(aQ w3 (.cells #[(.int .i64 0)] 3) λb16 w17=>S2 w17/\aQ w17 (.cells #[(.int .i64 0)] 3) λb18 w19=>S2 w19/\bf w19 b16 0 (.int .i64 (l8:Int)) λw21=>S2 w21/\bf w21 b18 0 (.int .i64 (l14:Int)) λw23=>az l1 λb24 o25=>aU w23 b24 (o25+1) λv26=>bz v26 λl28=>fJ 0 w23 λI30 ι H V=>ai (decide (H< (l28:Int))) (aH v26 H λb34 o35=>aU V b34 (o35+H.toNat* 1) λκ=>az κ λb39 o40=>aU V b39 (o40+3) λv41=>∃q42:Option Addr,v41= .pointer q42/\ai (!Option.isNone q42) (az κ λb43 o44=>aU V b43 (o44+3) λv45=>∃(f46:Nat) (c47:List Value),(Value.func (.func 249) #[] #[(.pointer (some ⟨b16,0,none⟩)),(.pointer (some ⟨b18,0,none⟩))])= .func (.func f46) #[] (List.toArray c47)/\List.contains dD f46=true/\fC f46 (List.toArray ([v45]++c47)) V λw48=>az κ λb49 o50=>aU w48 b49 (o50+4) λv51=>bz v51 λl53=>fJ 0 w48 λI55 m56 α ε=>ai (decide (α< (l53:Int))) (aH v51 α λb59 o60=>aU ε b59 (o60+α.toNat* 1) λv63=>∃(f64:Nat) (c65:List Value),(Value.func (.func 249) #[] #[(.pointer (some ⟨b16,0,none⟩)),(.pointer (some ⟨b18,0,none⟩))])= .func (.func f64) #[] (List.toArray c65)/\List.contains dD f64=true/\fC f64 (List.toArray ([v63]++c65)) ε λw66=>aj (α+1)/\I55 (α+1) w66/\m56 (α+1) w66< m56 α ε) (aj (H+1)/\I30 (H+1) ε/\ι (H+1) ε< ι H V)) (az κ λb67 o68=>aU V b67 (o68+4) λv69=>bz v69 λl71=>fJ 0 V λI73 m74 β ζ=>ai (decide (β< (l71:Int))) (aH v69 β λb77 o78=>aU ζ b77 (o78+β.toNat* 1) λv81=>∃(f82:Nat) (c83:List Value),(Value.func (.func 249) #[] #[(.pointer (some ⟨b16,0,none⟩)),(.pointer (some ⟨b18,0,none⟩))])= .func (.func f82) #[] (List.toArray c83)/\List.contains dD f82=true/\fC f82 (List.toArray ([v81]++c83)) ζ λw84=>aj (β+1)/\I73 (β+1) w84/\m74 (β+1) w84< m74 β ζ) (aj (H+1)/\I30 (H+1) ζ/\ι (H+1) ζ< ι H V))) (bL V λS85 w86=>ji S85 b16 0 λn87=>ji S85 b18 0 λn88=>R n87 n88 w86))/\(aQ w3 (.cells #[(.int .i64 0)] 3) λη w90=>S2 w90/\aQ w90 (.cells #[(.int .i64 0)] 3) λθ w92=>S2 w92/\bf w92 θ 0 (.int .i64 (l8:Int)) λw94=>S2 w94/\bf w94 η 0 (.int .i64 (l14:Int)) λw96=>az l1 λb97 o98=>aU w96 b97 (o98+1) λv99=>bz v99 λl101=>fJ 0 w96 λμ γ z G=>ai (decide (z< (l101:Int))) (aH v99 z λb107 o108=>aU G b107 (o108+z.toNat* 1) λδ=>az δ λb112 o113=>aU G b112 (o113+3) λv114=>∃ν:Option Addr,v114= .pointer ν/\ai (!Option.isNone ν) (az δ λb116 o117=>aU G b116 (o117+3) λv118=>∃(f119:Nat) (ξ:List Value),(Value.func (.func 249) #[] #[(.pointer (some ⟨θ,0,none⟩)),(.pointer (some ⟨η,0,none⟩))])= .func (.func f119) #[] (List.toArray ξ)/\List.contains dD f119=true/\fC f119 (List.toArray ([v118]++ξ)) G λο=>az δ λb122 o123=>aU ο b122 (o123+4) λv124=>bz v124 λl126=>fJ 0 ο λI128 ς I W=>ai (decide (I< (l126:Int))) (aH v124 I λb132 o133=>aU W b132 (o133+I.toNat* 1) λv136=>∃(f137:Nat) (υ:List Value),(Value.func (.func 249) #[] #[(.pointer (some ⟨θ,0,none⟩)),(.pointer (some ⟨η,0,none⟩))])= .func (.func f137) #[] (List.toArray υ)/\List.contains dD f137=true/\fC f137 (List.toArray ([v136]++υ)) W λφ=>aj (I+1)/\I128 (I+1) φ/\ς (I+1) φ< ς I W) (aj (z+1)/\μ (z+1) W/\γ (z+1) W< γ z G)) (az δ λb140 o141=>aU G b140 (o141+4) λχ=>bz χ λl144=>fJ 0 G λI146 ψ J Z=>ai (decide (J< (l144:Int))) (aH χ J λb150 o151=>aU Z b150 (o151+J.toNat* 1) λv154=>∃(f155:Nat) (ω:List Value),(Value.func (.func 249) #[] #[(.pointer (some ⟨θ,0,none⟩)),(.pointer (some ⟨η,0,none⟩))])= .func (.func f155) #[] (List.toArray ω)/\List.contains dD f155=true/\fC f155 (List.toArray ([v154]++ω)) Z λw157=>aj (J+1)/\I146 (J+1) w157/\ψ (J+1) w157< ψ J Z) (aj (z+1)/\μ (z+1) Z/\γ (z+1) Z< γ z G))) (bL G λS158 w159=>ji S158 θ 0 λn160=>ji S158 η 0 λn161=>R n160 n161 w159))):
  Calls Tryz.prog 236 #[l1] w (an [.i,.i] R):=
 aY (aZ [(4,[(27,.i)]),(9,[(47,.i)])] [] [1,14]) [.tmp 2 .i,.tmp 3 .i] [.v l1] Tryz.func236 (by kernel_rfl) h
theorem ym (c1:UInt8)(w:World)(R:UInt32->World->Prop)(h:R ((mZ 1 (UInt8.toNat (c1 - 97:UInt8)))) w):
  Calls Tryz.prog 59 #[(.int .u8 c1.toNat)] w (an [.w] R):=
 aY (aZ [] [] []) [.tmp 2 .w] [.c c1] Tryz.func59 (by kernel_rfl) h
theorem tZ (s1:UInt32)(w:World)(R:UInt8->Bool->World->Prop)(h:IF 97 w λI H c4 z=>ai (decide (c4<=122)) (F0 59 #[(.int .u8 c4.toNat)] z λJ G=>ai (decide ((s1 &&& J:UInt32)=0)) (R c4 true G) (I (c4+1:UInt8) G/\H (c4+1:UInt8) G< H c4 z)) (R 0 false z)):
  Calls Tryz.prog 130 #[(.int .u32 (UInt32.toNat s1))] w (an [.c,.b] R):=
 aY (aZ [(2,[(4,.c)])] [] []) [.tmp 2 .c,.tmp 3 .b] [.w s1] Tryz.func130 (by kernel_rfl) h
theorem nj (n1:Value)(x2:Int)(w:World)(R:UInt32->World->Prop)(h:az n1 λb3 o4=>Ig w b3 (o4+1) λm5=>az n1 λb6 o7=>Ig w b6 (o7+1) λm8=>Fq 130 #[(.int .u32 (UInt32.toNat m8))] w λc9 ε V=>ai (!ε) (az n1 λζ η=>bf V ζ (η+2) (.bool true) λθ=>bL θ λW ι=>az n1 λb18 κ=>IH W b18 (κ+1) λμ=>F0 59 #[(.int .u8 (UInt8.toNat 122))] ι λν Z=>W Z/\az n1 λξ ο=>bf Z ξ (ο+1) (.int .u32 (UInt32.toNat (μ ||| ν:UInt32))) λH=>az n1 λς υ=>aU H ς (υ+0) λφ=>∃(z:Nat) (α:Value->Option Value),φ= .map (some z)/\IsMap H z (.int .i64) α/\∀kf:World,IsMap kf z (.int .i64) (dz α (.int .i64 x2) (.int .u8 (UInt8.toNat 122)))->bY H kf z->R m5 kf) (bL V λβ χ=>az n1 λψ ω=>IH β ψ (ω+1) λm37=>F0 59 #[(.int .u8 c9.toNat)] χ λm38 γ=>β γ/\az n1 λb40 o41=>bf γ b40 (o41+1) (.int .u32 (UInt32.toNat (m37 ||| m38:UInt32))) λI=>az n1 λb44 o45=>aU I b44 (o45+0) λv46=>∃(G:Nat) (δ:Value->Option Value),v46= .map (some G)/\IsMap I G (.int .i64) δ/\∀J:World,IsMap J G (.int .i64) (dz δ (.int .i64 x2) (.int .u8 c9.toNat))->bY I J G->R m5 J)):
  Calls Tryz.prog 252 #[n1,(.int .i64 x2)] w (an [.w] R):=
 aY (aZ [] [] [6]) [.tmp 4 .w] [.v n1,.i x2] Tryz.func252 (by kernel_rfl) h
theorem mX (n1:Value)(z:Int)(w:World)(R:ay->World->Prop)(h:ai (decide (z< 26)) (aj (97+z)/\(0<=(97+z)/\(97+z)< 2147483648)/\(0<=(97+z)/\(97+z)< 128)/\R ([UInt8.ofNat (Int.toNat (97+z))]) w) (az n1 λb3 J=>aU w b3 (J+0) λv5=>∃(I:Nat) (H:Value->Option Value),v5= .map (some I)/\IsMap w I (.int .i64) H/\∃G:UInt8,∃g9:Bool,((g9=true/\H (.int .i64 z)=some (.int .u8 G.toNat))\/(g9=false/\H (.int .i64 z)=none/\(Value.int .u8 G.toNat)=(.int .u8 0)))/\(0<=(UInt8.toNat G:Int)/\(UInt8.toNat G:Int)< 128)/\R ([UInt8.ofNat (Int.toNat (UInt8.toNat G:Int))]) w)):
  Calls Tryz.prog 253 #[n1,(.int .i64 z)] w (an [.s] R):=
 aY (aZ [] [] []) [.tmp 4 .s] [.v n1,.i z] Tryz.func253 (by kernel_rfl) h
theorem wu (t1:Value)(s2:ay)(w:World)(R:ay->World->Prop)(h:fC 115 #[t1] w λw3=>bz t1 λV=>aj ((V:Int) - 1)/\aH t1 ((V:Int) - 1) λb7 o8=>ct w3 b7 (o8+Int.toNat ((V:Int) - 1)* 1) λW=>bz t1 λI=>aj ((I:Int) - 2)/\lC W (((I:Int) - 2)) w3 λZ J z i18 H=>ai (decide (0<=i18)) (aH t1 i18 λα β=>ct H α (β+i18.toNat* 1) λG=>(List.length [40]+G.length<=4611686018427387904)/\(List.length ([40]++G)+s2.length<=4611686018427387904)/\(List.length (([40]++G)++s2)+z.length<=4611686018427387904)/\(List.length ((([40]++G)++s2)++z)+List.length [41]<=4611686018427387904)/\aj (i18 - 1)/\Z ((((([40]++G)++s2)++z)++[41])) (i18 - 1) H/\J ((((([40]++G)++s2)++z)++[41])) (i18 - 1) H< J z i18 H) (R z H)):
  Calls Tryz.prog 255 #[t1,(.string (ab s2))] w (an [.s] R):=
 aY (aZ [(4,[(5,.s),(6,.i)])] [] []) [.tmp 4 .s] [.v t1,.s s2] Tryz.func255 (by kernel_rfl) h
theorem kW (n1:Value)(t2:Value)(w:World)(R:ay->World->Prop)(h:az t2 λb3 o4=>fR w b3 (o4+0) λc5=>ai (decide (c5=43)) (aQ w (.cells #[] 9) λb6 w7=>az t2 λb8 o9=>aU w7 b8 (o9+4) λv10=>bz v10 λl12=>mT ((.slice (some ⟨b6,0,none⟩) 0 0)) 0 w7 λI14 ι t16 I α=>ai (decide (I< (l12:Int))) (aH v10 I λb19 o20=>aU α b19 (o20+I.toNat* 1) λv23=>bj 237 #[n1,v23] α λs24 w25=>aQ w25 (.cells #[(.string (ab s24))] 9) λb26 w27=>eE 9 1 16 w27 t16 (.slice (some ⟨b26,0,none⟩) 1 1) λκ μ=>aj (I+1)/\I14 κ (I+1) μ/\ι κ (I+1) μ< ι t16 I α) (bj 255 #[t16,(.string (ab [43]))] α λs35 w36=>R s35 w36)) (ai (decide (c5=42)) (az t2 λb37 o38=>aU w b37 (o38+3) λv39=>bj 237 #[n1,v39] w λν w41=>(List.length [42]+ν.length<=4611686018427387904)/\R ([42]++ν) w41) (ai (decide (c5=126)) (az t2 λb42 o43=>aU w b42 (o43+3) λv44=>bj 237 #[n1,v44] w λξ w46=>(List.length [126,46]+ξ.length<=4611686018427387904)/\R ([126,46]++ξ) w46) (ai (decide (c5=61)) (bL w λβ w48=>az t2 λb49 o50=>ji β b49 (o50+1) λn51=>az t2 λb52 o53=>ji β b52 (o53+2) λn54=>bj 253 #[n1,(.int .i64 n51)] w48 λz ο=>β ο/\bj 253 #[n1,(.int .i64 n54)] ο λG θ=>β θ/\(List.length [91]+List.length (if(Op.bytesLess z G||decide (z=G))then z else G)<=4611686018427387904)/\(List.length ([91]++(if(Op.bytesLess z G||decide (z=G))then z else G))+List.length [61]<=4611686018427387904)/\(List.length (([91]++(if(Op.bytesLess z G||decide (z=G))then z else G))++[61])+List.length (if(!Op.bytesLess z G)then z else G)<=4611686018427387904)/\(List.length ((([91]++(if(Op.bytesLess z G||decide (z=G))then z else G))++[61])++(if(!Op.bytesLess z G)then z else G))+List.length [93]<=4611686018427387904)/\az t2 λb59 o60=>aU θ b59 (o60+3) λv61=>bj 237 #[n1,v61] θ λς w63=>(List.length (((([91]++(if(Op.bytesLess z G||decide (z=G))then z else G))++[61])++(if(!Op.bytesLess z G)then z else G))++[93])+ς.length<=4611686018427387904)/\R (((((([91]++(if(Op.bytesLess z G||decide (z=G))then z else G))++[61])++(if(!Op.bytesLess z G)then z else G))++[93])++ς)) w63) (ai (decide (c5=63)) (az t2 λb64 o65=>oH w b64 (o65+2) λn66=>F0 252 #[n1,(.int .i64 n66)] w λm67 w68=>bL w68 λV w70=>az t2 λb71 o72=>ji V b71 (o72+1) λn73=>az t2 λb74 o75=>ji V b74 (o75+2) λn76=>az t2 λb77 o78=>cC V b77 (o78+3) λv79=>bj 253 #[n1,(.int .i64 n73)] w70 λZ υ=>V υ/\(Z.length+List.length [63]<=4611686018427387904)/\bj 253 #[n1,(.int .i64 n76)] υ λγ φ=>V φ/\(List.length (Z++[63])+γ.length<=4611686018427387904)/\(List.length ((Z++[63])++γ)+List.length [46]<=4611686018427387904)/\bj 237 #[n1,v79] φ λχ ψ=>V ψ/\(List.length (((Z++[63])++γ)++[46])+χ.length<=4611686018427387904)/\az n1 λb86 o87=>bf ψ b86 (o87+1) (.int .u32 (UInt32.toNat m67)) λw89=>R (((((Z++[63])++γ)++[46])++χ)) w89) (bL w λW w91=>az t2 λb92 o93=>ji W b92 (o93+1) λn94=>az t2 λb95 o96=>ji W b95 (o96+2) λn97=>az t2 λb98 o99=>cC W b98 (o99+3) λω=>bj 253 #[n1,(.int .i64 n94)] w91 λH δ=>W δ/\(H.length+List.length [33]<=4611686018427387904)/\bj 253 #[n1,(.int .i64 n97)] δ λJ ε=>W ε/\(List.length (H++[33])+J.length<=4611686018427387904)/\(List.length ((H++[33])++J)+List.length [46]<=4611686018427387904)/\bj 237 #[n1,ω] ε λζ η=>W η/\(List.length (((H++[33])++J)++[46])+ζ.length<=4611686018427387904)/\R (((((H++[33])++J)++[46])++ζ)) η)))))):
  Calls Tryz.prog 254 #[n1,t2] w (an [.s] R):=
 aY (aZ [(5,[(5,.v),(24,.i)])] [] [15,19,22]) [.tmp 4 .s] [.v n1,.v t2] Tryz.func254 (by kernel_rfl) h
theorem j6 (c1:Value)(c2:Value)(c3:Value)(c4:Value)(c5:Value)(w:World)(R:World->Prop)(h:az c1 λb6 o7=>aU w b6 o7 λv8=>bz v8 λl10=>lC ([]) 0 w λI12 δ z G J=>ai (decide (G< (l10:Int))) (aH v8 G λb17 o18=>oH J b17 (o18+G.toNat* 1) λε=>az c2 λb22 o23=>aU J b22 o23 λv24=>F0 252 #[v24,(.int .i64 ε)] J λm25 ζ=>az c2 λb27 o28=>aU ζ b27 o28 λv29=>bj 253 #[v29,(.int .i64 ε)] ζ λV η=>(List.length [35]+V.length<=4611686018427387904)/\(List.length ([35]++V)+List.length [46]<=4611686018427387904)/\(z.length+List.length (([35]++V)++[46])<=4611686018427387904)/\aj (G+1)/\I12 ((z++(([35]++V)++[46]))) (G+1) η/\δ ((z++(([35]++V)++[46]))) (G+1) η< δ z G J) (aQ J (.cells #[] 9) λb32 β=>az c3 λb34 o35=>aU β b34 o35 λv36=>az v36 λb37 o38=>aU β b37 (o38+1) λθ=>bz θ λl41=>mT ((.slice (some ⟨b32,0,none⟩) 0 0)) 0 β λI43 ι t45 H W=>ai (decide (H< (l41:Int))) (aH θ H λb48 o49=>aU W b48 (o49+H.toNat* 1) λv52=>az c2 λb53 o54=>aU W b53 o54 λv55=>bj 254 #[v55,v52] W λs56 w57=>aQ w57 (.cells #[(.string (ab s56))] 9) λb58 w59=>eE 9 1 16 w59 t45 (.slice (some ⟨b58,0,none⟩) 1 1) λκ μ=>aj (H+1)/\I43 κ (H+1) μ/\ι κ (H+1) μ< ι t45 H W) (bj 255 #[t45,(.string (ab [38]))] W λα I=>(z.length+α.length<=4611686018427387904)/\az c4 λb69 o70=>ct I b69 o70 λs71=>fE (decide (s71=[])) (az c4 λb72 o73=>ct I b72 o73 λs74=>ai (Op.bytesLess (z++α) s74) (az c4 λb75 o76=>bf I b75 o76 (.string (ab (z++α))) λγ=>az c2 λb79 o80=>aU γ b79 o80 λv81=>az c5 λb82 o83=>Ig γ b82 o83 λm84=>az v81 λb85 o86=>bf γ b85 (o86+1) (.int .u32 (UInt32.toNat m84)) λw88=>R w88) (az c2 λb89 o90=>aU I b89 o90 λv91=>az c5 λb92 o93=>Ig I b92 o93 λm94=>az v91 λb95 o96=>bf I b95 (o96+1) (.int .u32 (UInt32.toNat m94)) λw98=>R w98)) (az c4 λb99 ν=>bf I b99 ν (.string (ab (z++α))) λZ=>az c2 λξ ο=>aU Z ξ ο λv105=>az c5 λς υ=>Ig Z ς υ λφ=>az v105 λχ ψ=>bf Z χ (ψ+1) (.int .u32 (UInt32.toNat φ)) λω=>R ω)))):
  Calls Tryz.prog 251 #[c1,c2,c3,c4,c5] w (an [] R):=
 aY (aZ [(2,[(5,.s),(14,.i)]),(9,[(8,.v),(35,.i)])] [] []) [] [.v c1,.v c2,.v c3,.v c4,.v c5] Tryz.func251 (by kernel_rfl) h
theorem kR (z:Value)(a2:Int)(d3:Value)(w:World)(R:World->Prop)(h:bz z λl5=>ai (decide (a2=(l5:Int))) (∃(f7:Nat) (c8:List Value),d3= .func (.func f7) #[] (List.toArray c8)/\List.contains dD f7=true/\fC f7 (List.toArray ([]++c8)) w λw9=>R w9) (fJ a2 w λW H i12 G=>bz z λZ=>ai (decide (i12< (Z:Int))) (bL G λI α=>aH z i12 λβ γ=>ji I β (γ+i12.toNat* 1) λδ=>aH z a2 λε ζ=>ji I ε (ζ+a2.toNat* 1) λη=>aH z a2 λθ ι=>bf α θ (ι+a2.toNat* 1) (.int .i64 δ) λκ=>aH z i12 λμ ν=>bf κ μ (ν+i12.toNat* 1) (.int .i64 η) λξ=>aj (a2+1)/\fC 250 #[z,(.int .i64 (a2+1)),d3] ξ λο=>bL ο λJ ς=>aH z i12 λυ φ=>ji J υ (φ+i12.toNat* 1) λχ=>aH z a2 λψ ω=>ji J ψ (ω+a2.toNat* 1) λn53=>aH z a2 λb54 o55=>bf ς b54 (o55+a2.toNat* 1) (.int .i64 χ) λw59=>aH z i12 λb60 o61=>bf w59 b60 (o61+i12.toNat* 1) (.int .i64 n53) λV=>aj (i12+1)/\W (i12+1) V/\H (i12+1) V< H i12 G) (R G))):
  Calls Tryz.prog 250 #[z,(.int .i64 a2),d3] w (an [] R):=
 aY (aZ [(3,[(6,.i)])] [] [5,7]) [] [.v z,.i a2,.v d3] Tryz.func250 (by kernel_rfl) h
theorem mC (n1:Value)(l2:Value)(w:World)(R:ay->World->Prop)(h:oneV n1=true/\aQ w (.cells #[n1] 247) λb3 w4=>oneV l2=true/\aQ w4 (.cells #[l2] 146) λb5 w6=>aU w6 b5 0 λv7=>bO 181 #[v7] w6 λq8 w9=>ai q8 (R ([48]) w9) (bL w9 λz J=>cC z b3 0 λv12=>az v12 λκ μ=>IH z κ (μ+1) λV=>(aQ J (.cells #[(.string ⟨#[]⟩)] 9) λb16 W=>z W/\aQ W (.cells #[(.int .u32 0)] 73) λb18 Z=>z Z/\bf Z b16 0 (.string (ab [])) λα=>z α/\bf α b18 0 (.int .u32 (UInt32.toNat V)) λG=>aU G b5 0 λv24=>az v24 λν ξ=>aU G ν (ξ+0) λο=>bW 180 #[ο] G λv28 ς=>aQ ς (.cells #[(.slice none 0 0)] 36) λb30 υ=>oneV v28=true/\bf υ b30 0 v28 λβ=>aU β b30 0 λφ=>fC 250 #[φ,(.int .i64 0),(Value.func (Fn.func 251) #[] #[(.pointer (some ⟨b30,0,none⟩)),(.pointer (some ⟨b3,0,none⟩)),(.pointer (some ⟨b5,0,none⟩)),(.pointer (some ⟨b16,0,none⟩)),(.pointer (some ⟨b18,0,none⟩))])] β λγ=>ct γ b16 0 λχ=>R χ γ)/\(aQ J (.cells #[(.int .u32 0)] 73) λδ ε=>z ε/\aQ ε (.cells #[(.string ⟨#[]⟩)] 9) λb39 ζ=>z ζ/\bf ζ b39 0 (.string (ab [])) λη=>z η/\bf η δ 0 (.int .u32 (UInt32.toNat V)) λH=>aU H b5 0 λψ=>az ψ λω o47=>aU H ω (o47+0) λv48=>bW 180 #[v48] H λv49 w50=>aQ w50 (.cells #[(.slice none 0 0)] 36) λI w52=>oneV v49=true/\bf w52 I 0 v49 λθ=>aU θ I 0 λv55=>fC 250 #[v55,(.int .i64 0),(Value.func (Fn.func 251) #[] #[(.pointer (some ⟨I,0,none⟩)),(.pointer (some ⟨b3,0,none⟩)),(.pointer (some ⟨b5,0,none⟩)),(.pointer (some ⟨b39,0,none⟩)),(.pointer (some ⟨δ,0,none⟩))])] θ λι=>ct ι b39 0 λs57=>R s57 ι))):
  Calls Tryz.prog 237 #[n1,l2] w (an [.s] R):=
 aY (aZ [] [] [3]) [.tmp 4 .s] [.v n1,.v l2] Tryz.func237 (by kernel_rfl) h
theorem kC (l1:Value)(w:World)(R:ay->Bool->World->Prop)(h:bW 139 #[l1] w λv2 w3=>Ie 236 #[v2] w3 λn4 n5 w6=>fE (decide (5< n4)) (ai (decide (8< n5)) (R ([]) false w6) (aQ w6 (Obj.map #[] 0) λb7 w8=>oneV (.map (some b7))=true/\aQ w8 (.cells #[(.map (some b7)),(.int .u32 (UInt32.toNat 0)),(.bool false),(.int .i64 0)] 250) λb9 β=>fJ 0 β λV G z H=>ai (decide (z< 26)) (bO 220 #[v2,(.int .i64 z)] H λγ I=>ai γ (bL I λδ ε=>IH δ b9 1 λζ=>0<=(z:Int)/\bf ε b9 1 (.int .u32 (UInt32.toNat (ζ ||| (mZ 1 z.toNat):UInt32))) λW=>aj (z+1)/\V (z+1) W/\G (z+1) W< G z H) (aj (z+1)/\V (z+1) I/\G (z+1) I< G z H)) (bj 237 #[(.pointer (some ⟨b9,0,none⟩)),v2] H λZ J=>B1 J b9 2 λη=>fE η (bO 238 #[(.string (ab Z))] J λθ α=>ai (!θ) (R ([]) false α) (R Z true α)) (R ([]) false J)))) (R ([]) false w6)):
  Calls Tryz.prog 216 #[l1] w (an [.s,.b] R):=
 aY (aZ [(7,[(25,.i)])] [] [10]) [.tmp 2 .s,.tmp 3 .b] [.v l1] Tryz.func216 (by kernel_rfl) h
theorem mF (t1:Value)(w:World)(R:ay->Bool->World->Prop)(h:aQ w (.cells #[(.int .i64 0)] 145) λb2 G=>bW 138 #[] G λv4 H=>bW 137 #[(.pointer (some ⟨b2,0,none⟩)),t1,v4] H λv6 I=>iX 216 #[v6] I λJ V z=>R J V z):
  Calls Tryz.prog 175 #[t1] w (an [.s,.b] R):=
 aY (aZ [] [] []) [.tmp 2 .s,.tmp 3 .b] [.v t1] Tryz.func175 (by kernel_rfl) h
end Go.Proofs.YtdecokaadekjnaaGreat
namespace Go.Proofs.YtdecokaadekjnaaGreat
open Go Go.RowKit
theorem dq:∀l:Lv,thAll l<=l.tot
 | .nil=>JL _
 | .thr _ _ _ o r n=>by have :=dq r;have :=dq n;simp only [thAll,Lv.tot];omega
 | .sum z n=>by have :=dq z;have :=dq n;simp only [thAll,Lv.tot];omega
 | .part o q n=>by have :=dq q;have :=dq n;simp only [thAll,Lv.tot];omega
def IN (n:Nat):Prop:=∀{D:Nat->Prop} {w:World} {v:Value} {o:List Nat} {l:Lv} {R:Int->Int->World->Prop},l.sz<=n->l.sh true=true->fS D w v o (af D w l)->o.length+l.tot<=1099511627776->
 (∀w',Ex w w'->R ((max o.length (ax l):Nat):Int) ((o.length+thAll l:Nat):Int) w')->Calls Tryz.prog 236 #[v] w (an [.i,.i] R)
structure FS (w w':World)(bm ba m a:Nat):Prop where
 ex:Ex w w'
 lm:bm< w'.heap.size
 la:ba< w'.heap.size
 hm:w.heap.size<=bm
 ha:w.heap.size<=ba
 ne:bm≠ba
 cm:w'.cell? ⟨bm,0,none⟩=some (iv m)
 ca:w'.cell? ⟨ba,0,none⟩=some (iv a)
 fm:w'.frozen? ⟨bm,0,none⟩=false
 fa:w'.frozen? ⟨ba,0,none⟩=false
theorem FS.ext {w w' w'':World}{bm ba m a:Nat}(h:FS w w' bm ba m a)(x:Ex w' w''):FS w w'' bm ba m a:=
 ⟨Ex.trans h.ex x,J2 h.lm x.size,J2 h.la x.size,h.hm,h.ha,h.ne,by rw [x.cell (show bm< _ from h.lm)];exact h.cm,by rw [x.cell (show ba< _ from h.la)];exact h.ca,
  by rw [J8 (w:=w') (x.block bm h.lm)];exact h.fm,by rw [J8 (w:=w') (x.block ba h.la)];exact h.fa⟩
theorem FS.HC {w w' w'':World}{bm ba m a m':Nat}(h:FS w w' bm ba m a)(hw:w''=w'.setCell ⟨bm,0,none⟩ (iv m')):FS w w'' bm ba m' a:=by
 subst hw;exact⟨Ex.own h.ex h.hm _,by rw [Ki];exact h.lm,by rw [Ki];exact h.la,h.hm,h.ha,h.ne,JT _ _ _ h.cm,by rw [JH _ _ _ _ (λe=>by injection e with z;exact h.ne z)];exact h.ca,by rw [JU];exact h.fm,by rw [JU];exact h.fa⟩
theorem FS.Hu {w w' w'':World}{bm ba m a a':Nat}(h:FS w w' bm ba m a)(hw:w''=w'.setCell ⟨ba,0,none⟩ (iv a')):FS w w'' bm ba m a':=by
 subst hw;exact⟨Ex.own h.ex h.ha _,by rw [Ki];exact h.lm,by rw [Ki];exact h.la,h.hm,h.ha,h.ne,by rw [JH _ _ _ _ (λe=>by injection e with z;exact h.ne z.symm)];exact h.cm,JT _ _ _ h.ca,by rw [JU];exact h.fm,by rw [JU];exact h.fa⟩
theorem Gu {n:Nat}(ih:IN n){D:Nat->Prop}{w w':World}{v:Value}{o:List Nat}{l:Lv}{bm ba m a:Nat}(hs:FS w w' bm ba m a)(hn:l.sz<=n)(V:l.sh true=true)(h:fS D w' v o (af D w' l))(hb:a+o.length+l.tot<=1099511627776){R:World->Prop}
  (hR:∀w'',FS w w'' bm ba (max m (max o.length (ax l))) (a+(o.length+thAll l))->R w''):Calls Tryz.prog 249 #[v,ptr bm,ptr ba] w' (an [] R):=by
 refine jD v _ _ w' R ?_;have h1:=dq l;refine ih hn V h (by omega) λw6 x6=>⟨λ _=>True,λZ W=>⟨trivial,?_⟩⟩
 have f8:FS w Z bm ba m a:=(hs.ext x6).ext (W▸Ex.drew w6);have em:(if((max o.length (ax l):Nat):Int)> (m:Int)then((max o.length (ax l):Nat):Int)else(m:Int))=((max m (max o.length (ax l)):Nat):Int):=by split<;>omega
 have ea:((a:Int)+((o.length+thAll l:Nat):Int))=((a+(o.length+thAll l):Nat):Int):=by omega
 have J:aj ((a:Int)+((o.length+thAll l:Nat):Int)):=by unfold aj;omega
 have fin:∀w1 w2,FS w w1 bm ba (max m (max o.length (ax l))) a->w2=w1.setCell ⟨ba,0,none⟩ (.int .i64 ((a:Int)+((o.length+thAll l:Nat):Int)))->True/\R w2:=λw1 w2 f1 hw=>by
  rw [ea]at hw;exact⟨trivial,hR w2 (f1.Hu hw)⟩
 have mid:∀w1,w1=Z.setCell ⟨bm,0,none⟩ (.int .i64 (if((max o.length (ax l):Nat):Int)> (m:Int)then((max o.length (ax l):Nat):Int)else(m:Int)))->FS w w1 bm ba (max m (max o.length (ax l))) a:=λw1 hw=>by
  rw [em]at hw;exact f8.HC hw
 refine⟨⟨bm,0,rfl,m,f8.cm,trivial,⟨ba,0,rfl,a,f8.ca,trivial,J,bm,0,rfl,⟨⟨_,f8.cm⟩,f8.fm⟩,λG z=>⟨trivial,ba,0,rfl,⟨⟨_,(mid G z).ca⟩,(mid G z).fa⟩,λI H=>fin G I (mid G z) H⟩⟩,
  ⟨bm,0,rfl,⟨⟨_,f8.cm⟩,f8.fm⟩,λG z=>⟨trivial,ba,0,rfl,a,(mid G z).ca,trivial,J,ba,0,rfl,⟨⟨_,(mid G z).ca⟩,(mid G z).fa⟩,λI H=>fin G I (mid G z) H⟩⟩⟩,
  ⟨ba,0,rfl,a,f8.ca,trivial,J,bm,0,rfl,m,f8.cm,trivial,bm,0,rfl,⟨⟨_,f8.cm⟩,f8.fm⟩,λG z=>⟨trivial,ba,0,rfl,⟨⟨_,(mid G z).ca⟩,(mid G z).fa⟩,λI H=>fin G I (mid G z) H⟩⟩⟩
theorem FS.swap {w w':World}{bm ba m a:Nat}(h:FS w w' bm ba m a):FS w w' ba bm a m:=⟨h.ex,h.la,h.lm,h.ha,h.hm,ME h.ne,h.ca,h.cm,h.fa,h.fm⟩
theorem aO (w:World)(c:Array Value)(e j:Nat):(w.alloc (.cells c e)).frozen? ⟨w.heap.size,j,none⟩=false:=by unfold World.frozen? World.alloc;simp
theorem FS.new {w w1 w2 I:World}{bm ba:Nat}(x:Ex w w1)(hm:bm=w1.heap.size)(G:w2=w1.alloc (.cells #[iv 0] 3))(ha:ba=w2.heap.size)(H:I=w2.alloc (.cells #[iv 0] 3)):Ex w w2/\FS w I bm ba 0 0:=by
 have :=x.size;subst hm G ha H;have J:Ex w (w1.alloc (.cells #[iv 0] 3)):=Ex.trans x (Ex.alloc _ _);have s2:=size_alloc w1 (.cells #[iv 0] 3);have V:=size_alloc (w1.alloc (.cells #[iv 0] 3)) (.cells #[iv 0] 3);have z:w1.heap.size< (w1.alloc (.cells #[iv 0] 3)).heap.size:=by omega
 refine⟨J,Ex.trans J (Ex.alloc _ _),by omega,by omega,this,by omega,by omega,?_,aa rfl,?_,aO _ _ _ _⟩
 ·rw [(Ex.alloc _ _).cell (a:=⟨w1.heap.size,0,none⟩) z];exact aa rfl
 ·rw [J8 (w:=w1.alloc (.cells #[iv 0] 3)) ((Ex.alloc _ _).block _ z)];exact aO _ _ _ _
theorem xQ (n:Nat)(ih:∀m,m< n->IN m):IN n:=by
 intro D w v o l R hn hsh h hb hR;refine lB v w R ?_;obtain⟨b,vo,vt,ts,rfl,h2,h3,h4,h5,h6,h7,h8⟩:=h;obtain⟨ao,κ,ξ⟩:=h6.slice;rw [JY]at ξ;obtain⟨at_,capt,hvt⟩:=h7.slice;have hlen:=h8.len;have hel:=Lv.cK l;have hlt:=bT l;have cv:∀{w1:World},Ex w w1->∀{j:Nat} {u:Value},w.cell? ⟨b,j,none⟩=some u->w1.cell? ⟨b,j,none⟩=some u:=by
  intro w1 hx j u hu;rw [hx.cell (show b< _ from h3)];exact hu
 have fin:∀bm ba H,FS w H bm ba (max o.length (ax l)) (o.length+thAll l)->∃ο:World->Prop,∀ε:World,ε=World.drew H->ο ε/\∃n87:Int,(∀w',ο w'->World.cell? w' ⟨bm,0,none⟩=some (Value.int IntKind.i64 n87))/\∃n88:Int,(∀w',ο w'->World.cell? w' ⟨ba,0,none⟩=some (Value.int IntKind.i64 n88))/\R (n87) (n88) ε:=by
  intro bm ba H f;refine⟨λw'=>Ex H w',λε μ=>⟨μ▸Ex.drew H,((max o.length (ax l):Nat):Int),λw' x=>(f.ext x).cm,((o.length+thAll l:Nat):Int),λw' x=>(f.ext x).ca,hR _ (Ex.trans f.ex (μ▸Ex.drew H))⟩⟩
 refine⟨λw'=>Ex w w',λw3 hw3=>⟨hw3▸Ex.drew w,b,0,rfl,vo,λw' hx=>cv hx h4,ao,_,κ,ξ,b,0,rfl,vo,λw' hx=>cv hx h4,ao,_,κ,ξ,λb1 ς β G=>?A,λb1 ς β G=>?B⟩⟩
 all_goals have x3:Ex w w3:=hw3▸Ex.drew w
 case' A=>
  have υ:Ex w ς:=G▸Ex.trans x3 (Ex.alloc _ _);refine⟨υ,λb2 w19 γ I=>?_⟩;have f:=(FS.new x3 β G γ I).2;refine⟨f.ex,⟨⟨_,f.cm⟩,f.fm⟩,λw21 J=>?_⟩;have f21:=f.HC (m':=o.length) J;refine⟨f21.ex,⟨⟨_,f21.ca⟩,f21.fa⟩,λw23 V=>?_⟩;have f23:=f21.Hu (a':=o.length) V;generalize b1=bm at*;generalize b2=ba at*;clear β γ G I J V f f21
 case' B=>
  have υ:Ex w ς:=G▸Ex.trans x3 (Ex.alloc _ _);refine⟨υ,λb2 w19 γ I=>?_⟩;have f:=(FS.new x3 β G γ I).2.swap;refine⟨f.ex,⟨⟨_,f.cm⟩,f.fm⟩,λw21 J=>?_⟩;have f21:=f.HC (m':=o.length) J;refine⟨f21.ex,⟨⟨_,f21.ca⟩,f21.fa⟩,λw23 V=>?_⟩;have f23:=f21.Hu (a':=o.length) V;generalize b1=ba at*;generalize b2=bm at*;clear β γ G I J V f f21
 all_goals
  refine⟨b,0,rfl,vt,cv f23.ex h5,at_,_,capt,hvt,λx w'=>∃i:Nat,x=i/\i<=ts.length/\FS w w' bm ba (max o.length (ax (l.take i))) (o.length+thAll (l.take i)),λx _=>(ts.length - x).toNat,⟨0,rfl,Ks _,by simpa [Lv.take,ax,thAll]using f23⟩,λx H hI=>?_⟩;obtain⟨i,rfl,hi,f33⟩:=hI;refine⟨λhlt'=>?_,λhge=>?_⟩;rotate_left
  ·have:i=l.bn.length:=by simp only [JE]at hge;omega
   rw [this,Lv.de]at f33;exact fin bm ba H f33
  have ζ:i< ts.length:=by simp only [JD]at hlt';omega
  have hie:i< l.bn.length:=by omega
  obtain⟨bt,ot,z,hvt',hc⟩:∃bt ot z,vt= .slice (some ⟨bt,ot,none⟩) ts.length z/\H.cell? ⟨bt,ot+i,none⟩=some ts[i]:=by
   rcases h7 with⟨_,h0⟩ | ⟨bt,ot,z,e,_,φ,Z⟩
   ·rw [h0]at ζ;simp at ζ
   ·exact⟨bt,ot,z,e,by rw [f33.ex.cell (show bt< _ from φ)];exact Z i _ (JC ζ)⟩
  obtain⟨e,he1,he2,χ⟩:=aK.single h8.bn (JC ζ);have he4:l.bn[i]=e:=by rw [JC hie]at he1;exact Kt he1
  have ψ:=Lv.take_succ l i hie;rw [he4]at ψ;have ω:=Lv.ft l (i+1);rw [ψ,Lv.bV]at ω;have htt0:=dq (l.take i);have hsz:=Lv.ee l e he2;have he5:=χ.ex f33.ex;have step:∀W,FS w W bm ba (max (max o.length (ax (l.take i))) (ax e)) (o.length+thAll (l.take i)+thAll e)->aj ((i:Int)+1)/\(∃j:Nat,(i:Int)+1=j/\j<=ts.length/\FS w W bm ba (max o.length (ax (l.take j))) (o.length+thAll (l.take j)))/\((ts.length:Int) - ((i:Int)+1)).toNat< ((ts.length:Int) - i).toNat:=by
   intro W f58;refine⟨by unfold aj;omega,⟨i+1,by omega,by omega,?_⟩,by omega⟩;rw [ψ,cn,bZ];rw [Nat.max_assoc,LX]at f58;exact f58
  refine⟨bt,ot,_,z,hvt',by omega,by omega,ts[i],by rw [JI,Kc];exact hc,?_⟩;rcases Lv.jE hsh e he2 with⟨k,a,bb,o',r,rfl,hr⟩ | ⟨ps,rfl,hps⟩
  ·obtain⟨t,ts',a',b',vr,e1,ht,_,η,_⟩:=χ;obtain⟨rfl,rfl⟩:=KG e1;obtain⟨g,hg,_,θ,c0,c1,c2,c3,c4⟩:=ht;have η:=η.ex f33.ex;rw [<-f33.ex.cell (show g< _ from θ)]at c3;have hvr:∃br,vr=ptr br:=by obtain⟨br,_,_,_,e,_⟩:=η;exact⟨br,e⟩
   obtain⟨br,rfl⟩:=hvr;simp only [Lv.sz]at hsz;simp only [Lv.tot]at ω;refine⟨g,0,hg,ptr br,c3,some ⟨br,0,none⟩,rfl,λ _=>⟨g,0,hg,ptr br,c3,249,[ptr bm,ptr ba],rfl,by kernel_rfl,?_⟩,λh=>by cases h⟩;refine Gu (ih r.sz (by omega)) f33 (JL _) hr η (by omega) λw48 f48=>?_
   refine⟨g,0,hg,.slice none 0 0,by rw [f48.ex.cell (show g< _ from θ)];exact c4,none,0,0,rfl,λy W=>y=0/\W=w48,λ _ _=>0,⟨rfl,rfl⟩,λy W hy=>?_⟩;obtain⟨rfl,rfl⟩:=hy;refine⟨λh=>by simp at h,λ _=>step _ ?_⟩;simpa [ax,thAll]using f48
  ·obtain⟨t,ts',a',b',vp,us,e1,ht,hus,ν,_⟩:=χ;obtain⟨rfl,rfl⟩:=KG e1;obtain⟨g,hg,_,θ,c0,c1,c2,c3,c4⟩:=ht;obtain⟨au,cau,hvu⟩:=hus.slice;rw [<-f33.ex.cell (show g< _ from θ)]at c3 c4;simp only [Lv.sz]at hsz;simp only [Lv.tot]at ω;have hul:=ν.len;have hpl:=Lv.cK ps;have hpt:=bT ps;refine⟨g,0,hg,.pointer none,c3,none,rfl,λh=>(by cases h),λ _=>⟨g,0,hg,vp,c4,au,_,cau,hvu,λy w'=>∃j:Nat,y=j/\j<=us.length/\FS w w' bm ba (max (max o.length (ax (l.take i))) (ax (ps.take j))) (o.length+thAll (l.take i)+thAll (ps.take j)),λy _=>(us.length - y).toNat,⟨0,rfl,Ks _,by simpa [Lv.take,ax,thAll]using f33⟩,λy W hJ=>?_⟩⟩;obtain⟨j,rfl,hj,f58⟩:=hJ;refine⟨λhlt2=>?_,λhge2=>?_⟩;rotate_left
   ·have:j=ps.bn.length:=by simp only [JE]at hge2;omega
    rw [this,Lv.de]at f58;exact step _ (by simpa [ax,thAll]using f58)
   have ι:j< us.length:=by simp only [JD]at hlt2;omega
   have hje:j< ps.bn.length:=by omega
   obtain⟨bu,ou,α,hvu',hcu⟩:∃bu ou α,vp= .slice (some ⟨bu,ou,none⟩) us.length α/\W.cell? ⟨bu,ou+j,none⟩=some us[j]:=by
    rcases hus with⟨_,h0⟩ | ⟨bt,ot,z,e,_,φ,Z⟩
    ·rw [h0]at ι;simp at ι
    ·exact⟨bt,ot,z,e,by rw [f58.ex.cell (show bt< _ from φ)];exact Z j _ (JC ι)⟩
   obtain⟨e,hf1,hf2,hf3⟩:=aK.single ν.bn (JC ι);have hf4:ps.bn[j]=e:=by rw [JC hje]at hf1;exact Kt hf1
   have δ:=Lv.take_succ ps j hje;rw [hf4]at δ;have htu:=Lv.ft ps (j+1);rw [δ,Lv.bV]at htu;have htu0:=dq (ps.take j);have hsz2:=Lv.ee ps e hf2;obtain⟨o2,q,rfl,hq⟩:=Lv.lX hps e hf2;simp only [Lv.sz]at hsz2;simp only [Lv.tot]at htu;obtain⟨v2,ts2,e2,hlv2,_⟩:=hf3;obtain⟨rfl,rfl⟩:=KG e2;refine⟨bu,ou,_,α,hvu',by omega,by omega,us[j],by rw [JI,Kc];exact hcu,249,[ptr bm,ptr ba],rfl,by kernel_rfl,?_⟩;refine Gu (ih q.sz (by omega)) f58 (JL _) hq (hlv2.ex f58.ex) (by omega) λw66 f66=>⟨by unfold aj;omega,⟨j+1,by omega,by omega,?_⟩,by show((us.length:Int) - ((j:Int)+1)).toNat< ((us.length:Int) - j).toNat;omega⟩
   rw [δ,cn,bZ];simp only [ax,thAll,Nat.max_zero,Ma];rw [<-Nat.max_assoc,<-LX];exact f66
theorem CG (n:Nat):IN n:=by
 induction n using Nat.strongRecOn with
 | _ n z=>exact xQ n z
end Go.Proofs.YtdecokaadekjnaaGreat
namespace Go.Proofs.YtdecokaadekjnaaGreat
namespace Lv
def bvs:Lv->List Nat
 | nil=>[]
 | thr k _ b o r n=>(if k= .r then [b]else [])++(o++(r.bvs++n.bvs))
 | sum z n=>z.bvs++n.bvs
 | part o q n=>o++(q.bvs++n.bvs)
theorem dj:∀l m:Lv,(l.app m).bvs=l.bvs++m.bvs
 | nil,m=>rfl
 | thr k a b o r n,m=>by simp only [app,bvs,dj n m,Kg]
 | sum z n,m=>by simp only [app,bvs,dj n m,Kg]
 | part o q n,m=>by simp only [app,bvs,dj n m,Kg]
theorem lS:∀(l:Lv),∀e∈l.bn,e.bvs.Sublist l.bvs
 | nil,e,h=>by cases h
 | thr k a b o r n,e,h=>by
  rcases JX.1 h with rfl | h
  ·simp only [bvs,Kb];exact Lf (KL _) (Lf (KL _) (LL _ _))
  ·exact(lS n e h).trans ((K3 _ _).trans ((K3 _ _).trans (K3 _ _)))
 | sum z n,e,h=>by
  rcases JX.1 h with rfl | h
  ·simp only [bvs,Kb];exact LL _ _
  ·exact(lS n e h).trans (K3 _ _)
 | part o q n,e,h=>by
  rcases JX.1 h with rfl | h
  ·simp only [bvs,Kb];exact Lf (KL _) (LL _ _)
  ·exact(lS n e h).trans ((K3 _ _).trans (K3 _ _))
theorem pE {x:Nat}:∀(l:Lv),∀e∈l.bn,e.fh x->l.fh x
 | nil,e,h,_=>by cases h
 | thr k a b o r n,e,h,z=>by
  rcases JX.1 h with rfl | h
  ·rcases z with z | z | z | z
   ·exact .inl z
   ·exact .inr (.inl z)
   ·exact .inr (.inr (.inl z))
   ·exact z.elim
  ·exact .inr (.inr (.inr (pE n e h z)))
 | sum G n,e,h,z=>by
  rcases JX.1 h with rfl | h
  ·exact .inl (z.elim id λh=>h.elim)
  ·exact .inr (pE n e h z)
 | part o q n,e,h,z=>by
  rcases JX.1 h with rfl | h
  ·exact .inl (z.elim id λh=>h.elim)
  ·exact .inr (pE n e h z)
theorem lD:∀(l:Lv) (i:Nat),∀x∈(l.take i).bvs,x∈l.bvs
 | _,0,x,h=>by simp [take,bvs]at h
 | nil,i+1,x,h=>h
 | thr k a b o r n,i+1,x,h=>by
  simp only [take,bvs,JN]at h|-;exact h.imp id (Or.imp id (Or.imp id (lD n i x)))
 | sum z n,i+1,x,h=>by
  simp only [take,bvs,JN]at h|-;exact h.imp id (lD n i x)
 | part o q n,i+1,x,h=>by
  simp only [take,bvs,JN]at h|-;exact h.imp id (Or.imp id (lD n i x))
theorem gP:∀(l:Lv) (i:Nat),(l.take i).len<=l.len
 | _,0=>by simp [take,len]
 | nil,i+1=>by simp [take,len]
 | thr k a b o r n,i+1=>by have :=gP n i;simp only [take,len];omega
 | sum z n,i+1=>by have :=gP n i;simp only [take,len];omega
 | part o q n,i+1=>by have :=gP n i;simp only [take,len];omega
def sm:Lv->Bool
 | nil=>true
 | thr _ _ _ _ r n=>r.sm&&n.sm
 | sum z n=> !z.isNil&&(z.sm&&n.sm)
 | part _ q n=>q.sm&&n.sm
theorem pR:∀{l m:Lv},(l.app m).sm=(l.sm&&m.sm)
 | nil,m=>by simp [app,sm]
 | thr k a b o r n,m=>by simp only [app,sm,pR (l:=n),MW]
 | sum z n,m=>by simp only [app,sm,pR (l:=n),MW]
 | part o q n,m=>by simp only [app,sm,pR (l:=n),MW]
theorem tJ:∀{l:Lv},l.sm=true->∀e∈l.bn,e.sm=true
 | nil,_,e,h=>by cases h
 | thr k a b o r n,z,e,h=>by
  simp only [sm,JF]at z;rcases JX.1 h with rfl | h
  ·simp only [sm,z.1,K0]
  ·exact tJ z.2 e h
 | sum G n,z,e,h=>by
  simp only [sm,JF]at z;rcases JX.1 h with rfl | h
  ·simp only [sm,z.1,z.2.1,K0]
  ·exact tJ z.2.2 e h
 | part o q n,z,e,h=>by
  simp only [sm,JF]at z;rcases JX.1 h with rfl | h
  ·simp only [sm,z.1,K0]
  ·exact tJ z.2 e h
theorem G5 {z:Lv}{n:List Nat×Lv}(h:z.sm=true)(G:n.2.sm=true):(spl z n).2.sm=true:=by
 unfold spl;split
 ·exact G
 ·simp only [sm,JF]at h;simp only [pR,h.1,G,K0]
 ·rename_i H I;have:z.isNil=false:=by cases z<;>first | rfl | exact absurd rfl H
  simp only [sm,this,h,G,Bool.not_false,K0]
theorem GR {o:List Nat}{q n:Lv}(h:q.sm=true)(z:n.sm=true):(prt o q n).sm=true:=by
 unfold prt;split
 ·exact z
 ·split
  ·simp only [sm,JF]at h;simp only [pR,h.2.1,z,K0]
  ·simp only [sm,JF]at h|-;exact⟨h,z⟩
 ·simp only [sm,h,z,K0]
theorem nO:∀l:Lv,(tid l).2.sm=true
 | nil=>rfl
 | thr k a b o r n=>by
  have G:=nO r;have z:=nO n;simp only [tid];have H:(kept o (tid r)).2=(tid r).2:=rfl;split
  ·simp only [pR,H,G,z,K0]
  ·split
   ·exact z
   ·simp only [sm,H,G,z,K0]
 | sum I n=>by
  simp only [tid];exact G5 (nO I) (nO n)
 | part o q n=>by
  simp only [tid,kept];exact GR (nO q) (nO n)
end Lv
structure tN (o:List Nat)(l:Lv):Prop where
 nd:(o++l.bvs).Nodup
 nf:∀x∈l.bvs,¬l.fh x
 ge:∀x∈o++l.bvs,26<=x
theorem tN.bn {o:List Nat}{l:Lv}(h:tN o l){e:Lv}(he:e∈l.bn):tN [] e:=by
 have z:=Lv.lS l e he;refine⟨by simpa using(Kh.1 h.nd).2.1.sublist z,λx G H=>h.nf x (z.subset G) (Lv.pE l e he H),λx G=>h.ge x (J7 _ (z.subset (by simpa using G)))⟩
theorem tN.thr {k:K}{a b:Nat}{o:List Nat}{r:Lv}(h:tN [] (.thr k a b o r .nil)):tN o r/\(k= .r->26<=b/\b≠a/\b∉o/\b∉r.bvs):=by
 have nd:=h.nd;have ge:=h.ge;have nf:=h.nf;simp only [Lv.bvs,Kb,KB]at nd ge nf;have z:=(Kh.1 nd).2.1;refine⟨⟨z,λx G J=>?_,λx G=>ge x (J7 _ G)⟩,λH=>?_⟩
 ·refine nf x (J7 _ (J7 _ G)) (.inr (.inr (.inl ⟨λI=>(Kh.1 z).2.2 x I x G rfl,fun⟨H,hb⟩=>?_,J⟩)));rw [Ka H]at nd;exact(Kh.1 nd).2.2 b (by simp) x (J7 _ G) hb.symm
 ·rw [Ka H]at nd ge nf;refine⟨ge b (by simp),λe=>nf b (by simp) (.inr (.inl ⟨H,e⟩)),λI=>(Kh.1 nd).2.2 b (by simp) b (Ke _ I) rfl,λhr=>(Kh.1 nd).2.2 b (by simp) b (J7 _ hr) rfl⟩
theorem tN.sum {G:Lv}(h:tN [] (.sum G .nil)):tN [] G:=by
 have nd:=h.nd;have ge:=h.ge;have nf:=h.nf;simp only [Lv.bvs,Kb,KB]at nd ge nf;exact⟨by simpa using nd,λx z H=>nf x z (.inl H),λx z=>ge x (by simpa using z)⟩
theorem tN.part {o:List Nat}{q:Lv}(h:tN [] (.part o q .nil)):tN o q:=by
 have nd:=h.nd;have ge:=h.ge;have nf:=h.nf;simp only [Lv.bvs,Kb,KB]at nd ge nf;exact⟨nd,λx z G=>nf x (J7 _ z) (.inl ⟨λH=>(Kh.1 nd).2.2 x H x z rfl,G⟩),ge⟩
def bM (l:List Tx):Nat:=(l.map λs=>s.length+3).sum
theorem gZ {l m:List Tx}(h:l.Perm m):bM l=bM m:=iN (h.map _)
theorem y6 (l m:List Tx):bM (l++m)=bM l+bM m:=by simp [bM]
theorem gC (s:UInt8):∀l:List Tx,(joinS s l).length<=bM l
 | []=>by simp [joinS]
 | [a]=>by simp [joinS,bM]
 | a::b::l=>by
  have :=gC s (b::l);simp only [joinS,JA,JJ,JQ];simp only [bM,J9,KN]at this|-;omega
theorem ur (s:Tx):∀l:List UInt8,(wrap l s).length=3* l.length+s.length
 | []=>by simp [wrap]
 | c::l=>by simp only [wrap,JA,ur s l];omega
theorem nI {own:List Nat}{f:Rh->Tk->List Tx}{B:Nat}(hB:∀ρ tk,bM (f ρ tk)<=B)(ρ:Rh)(tk:Tk):(aR own f ρ tk).length<=3* own.length+B+1:=by
 unfold aR;split
 ·simp
 ·have z:((perms own).map λπ=>joinS 38 (aX (f (asg π (lets own.length tk) ρ) (addK (lets own.length tk) tk))))≠[]:=λe=>oO own (Mf.1 e)
  obtain⟨G,_⟩:=cG z;obtain⟨π,_,e⟩:=Kk.1 G;show(wrap _ (bH _)).length<=_;rw [ur,fy,<-e];have :=gC 38 (aX (f (asg π (lets own.length tk) ρ) (addK (lets own.length tk) tk)));rw [gZ (aN _)]at this;have :=hB (asg π (lets own.length tk) ρ) (addK (lets own.length tk) tk);omega
theorem fY:∀(l:Lv) (ρ:Rh) (tk:Tk),bM (thS l ρ tk)<=16* l.tot
 | .nil,_,_=>by simp [thS,bM]
 | .thr k a b o r n,ρ,tk=>by
  have G:=fY n ρ tk;have z:∀ρ tk,(aR o (thS r) ρ tk).length<=3* o.length+16* r.tot+1:=λρ tk=>nI (λρ tk=>fY r ρ tk) ρ tk
  simp only [bM]at G|-;cases k<;>simp only [thS,J9,KN,kText,JA,Lv.tot]
  ·have :=z ρ tk;omega
  ·have :=z (aF ρ b (iC tk)) (ch tk (iC tk));omega
  ·have :=z ρ tk;omega
  ·have :=z ρ tk;omega
  ·have :=z ρ tk;omega
 | .sum H n,ρ,tk=>by
  have z:=fY H ρ tk;have G:=fY n ρ tk;have I:=gC 43 (aX (thS H ρ tk));rw [gZ (aN _)]at I;simp only [bM]at z G I|-;simp only [thS,J9,KN,Lv.tot];omega
 | .part o q n,ρ,tk=>by
  have G:=fY n ρ tk;have z:(aR o (thS q) ρ tk).length<=3* o.length+16* q.tot+1:=nI (λρ tk=>fY q ρ tk) ρ tk;simp only [bM]at G|-;simp only [thS,J9,KN,Lv.tot];omega
theorem pY {s:UInt8}:∀{l:List Tx},l≠[]->(∀t∈l,t≠[])->joinS s l≠[]
 | [],h,_=>absurd rfl h
 | [a],_,h=>h a (by simp)
 | a::b::l,_,_=>by simp [joinS]
theorem qf {l:List Tx}(h:l≠[]):aX l≠[]:=λe=>h (by have :=aN l;rw [e]at this;exact this.symm.eq_nil)
theorem yV {own:List Nat}{f:Rh->Tk->List Tx}(H:∀ρ tk,∀t∈f ρ tk,t≠[])(he:∀ρ ρ' tk tk',(f ρ tk).isEmpty=(f ρ' tk').isEmpty)(ρ:Rh)(tk:Tk):aR own f ρ tk≠[]:=by
 unfold aR;split
 ·simp
 ·rename_i I;have z:((perms own).map λπ=>joinS 38 (aX (f (asg π (lets own.length tk) ρ) (addK (lets own.length tk) tk))))≠[]:=λe=>oO own (Mf.1 e)
  obtain⟨J,_⟩:=cG z;obtain⟨π,_,e⟩:=Kk.1 J;show wrap _ (bH _)≠[];rw [xy];refine λV=>?_
  have G:=(List.append_eq_nil_iff.1 V).2;rw [<-e]at G;refine pY (qf ?_) (λt W=>H _ _ t ((aN _).subset W)) G;intro Z;have :=he (asg π (lets own.length tk) ρ) ρ (addK (lets own.length tk) tk) tk;rw [Z]at this;exact I this.symm
theorem Eh (l:Lv)(ρ ρ':Rh)(tk tk':Tk):(thS l ρ tk).isEmpty=(thS l ρ' tk').isEmpty:=by
 rw [KE,List.isEmpty_iff_length_eq_zero,List.isEmpty_iff_length_eq_zero,bB,bB]
theorem lL:∀(l:Lv),l.sm=true->∀(ρ:Rh) (tk:Tk),∀t∈thS l ρ tk,t≠[]
 | .nil,_,_,_,t,h=>by cases h
 | .thr k a b o r n,z,ρ,tk,t,h=>by
  simp only [Lv.sm,JF]at z;have I:t∈thS n ρ tk\/t≠[]:=by
   cases k<;>simp only [thS,JX]at h<;>rcases h with rfl | h<;>first | exact .inl h | (right;simp [kText])
  exact I.elim (lL n z.2 ρ tk t) id
 | .sum G n,z,ρ,tk,t,h=>by
  simp only [Lv.sm,JF]at z;rw [thS]at h;rcases JX.1 h with rfl | h
  ·refine pY (qf λe=>?_) λt J=>lL G z.2.1 ρ tk t ((aN _).subset J)
   have H:=bB G ρ tk;rw [e]at H;have V:G.isNil=true:=by rw [Lv.du];simp at H;simp [<-H]
   rw [V]at z;simp at z
  ·exact lL n z.2.2 ρ tk t h
 | .part o q n,z,ρ,tk,t,h=>by
  simp only [Lv.sm,JF]at z;rw [thS]at h;rcases JX.1 h with rfl | h
  ·exact yV (λρ tk=>lL q z.1 ρ tk) (λρ ρ' tk tk'=>Eh q ρ ρ' tk tk') ρ tk
  ·exact lL n z.2 ρ tk t h
theorem BK (x:Nat)(z:Lv)(n:List Nat×Lv):((Lv.spl z n).1++(Lv.spl z n).2.bvs).count x=z.bvs.count x+(n.1++n.2.bvs).count x:=by
 unfold Lv.spl;split
 ·simp [Lv.bvs]
 ·simp only [Lv.dj,Lv.bvs,Ku,MX];omega
 ·simp only [Lv.bvs,Ku];omega
theorem BT (x:Nat)(o:List Nat)(q n:Lv):(Lv.prt o q n).bvs.count x<=o.count x+q.bvs.count x+n.bvs.count x:=by
 unfold Lv.prt;split
 ·omega
 ·split
  ·simp only [Lv.dj,Lv.bvs,Ku,MX];omega
  ·simp only [Lv.bvs,Ku,MX];omega
 ·simp only [Lv.bvs,Ku];omega
theorem nE (x:Nat)(own:List Nat)(r:List Nat×Lv):((Lv.kept own r).1).count x<=own.count x+r.1.count x:=by
 have :=(List.filter_sublist (p:=λx=>r.2.has x) (l:=own++r.1)).count_le x;rw [Ku]at this;exact this
theorem eI (x:Nat):∀l:Lv,((Lv.tid l).1++(Lv.tid l).2.bvs).count x<=l.bvs.count x
 | .nil=>by simp [Lv.tid,Lv.bvs]
 | .thr k a b o r n=>by
  have z:=eI x r;have G:=eI x n;have H:=nE x o (Lv.tid r);have h4:(Lv.kept o (Lv.tid r)).2=(Lv.tid r).2:=rfl;simp only [Lv.tid];simp only [Ku]at z G;split
  ·simp only [h4,Lv.dj,Lv.bvs,Ku];omega
  ·split
   ·simp only [Lv.bvs,Ku];omega
   ·simp only [h4,Lv.bvs,Ku];omega
 | .sum I n=>by
  have z:=eI x I;have G:=eI x n;simp only [Lv.tid,BK,Lv.bvs];simp only [Ku]at z G|-;omega
 | .part o q n=>by
  have z:=eI x q;have G:=eI x n;have H:=nE x o (Lv.tid q);have h4:(Lv.kept o (Lv.tid q)).2=(Lv.tid q).2:=rfl;have h5:=BT x (Lv.kept o (Lv.tid q)).1 (Lv.kept o (Lv.tid q)).2 (Lv.tid n).2;simp only [Lv.tid,KB,Lv.bvs];rw [h4]at h5;simp only [Ku]at z G h5|-;rw [h4];omega
theorem bR (x:Nat):∀u:U,((flat u).1++(flat u).2.bvs).count x=(BV u).count x
 | .nil=>rfl
 | .snd a b p=>by have :=bR x p;simpa [flat,Lv.bvs,BV]using this
 | .rcv a y p=>by have :=bR x p;simp only [flat,Lv.bvs,BV,Ls,Ku,List.count_cons,KB,MX,Kb]at this|-;omega
 | .tau p=>by have :=bR x p;simpa [flat,Lv.bvs,BV]using this
 | .sum p q=>by
  have :=bR x p;have :=bR x q;simp only [flat,Lv.bvs,BV,Ku,KB,Kb,MX]at*;omega
 | .par p q=>by
  have :=bR x p;have :=bR x q;simp only [flat,Lv.dj,BV,Ku]at*;omega
 | .res y p=>by have :=bR x p;simp only [flat,BV,Ku,List.count_cons]at this|-;omega
 | .mat a b p=>by have :=bR x p;simpa [flat,Lv.bvs,BV]using this
 | .rep p=>by have :=bR x p;simpa [flat,Lv.bvs,BV]using this
theorem C1 (x:Nat)(u:U):((td u).1++(td u).2.bvs).count x<=(BV u).count x:=by
 have z:=eI x (flat u).2;have G:=nE x (flat u).1 (Lv.tid (flat u).2);have H:=bR x u;have h4:(td u).2=(Lv.tid (flat u).2).2:=rfl;have h5:(td u).1=(Lv.kept (flat u).1 (Lv.tid (flat u).2)).1:=rfl;rw [h4,h5];simp only [Ku]at*;omega
theorem ze {u:U}(h:Uq u)(hb:∀x∈BV u,26<=x):tN (td u).1 (td u).2:=by
 have H:∀x,((td u).1++(td u).2.bvs).count x<=(BV u).count x:=λx=>C1 x u
 have hm:∀x∈(td u).1++(td u).2.bvs,x∈BV u:=λx z=>by
  have :=H x;have G:=List.count_pos_iff.2 z;exact List.count_pos_iff.1 (by omega)
 have nd:((td u).1++(td u).2.bvs).Nodup:=LN.2 λx=>KD (H x) (LN.1 h.nd x)
 refine⟨nd,λx z I=>?_,λx z=>hb x (hm x z)⟩;have G:x∉(td u).1:=λG=>(Kh.1 nd).2.2 x G x z rfl
 exact h.nf x (hm x (J7 _ z)) (T.bC (DA _ u (JL _) h x I G))
end Go.Proofs.YtdecokaadekjnaaGreat
namespace Go.Proofs.YtdecokaadekjnaaGreat
open Go Go.RowKit
def Jw:Shelf.Ren where
 f:=λx=>if x=190 then 115 else if x=125 then 164 else if x=258 then 163 else if x=128 then 205 else if x=129 then 206 else if x=302 then 196 else if x=303 then 197 else if x=304 then 198 else if x=305 then 199 else if x=306 then 200 else if x=307 then 201 else if x=308 then 202 else if x=309 then 203 else if x=310 then 204 else if x=333 then 226 else if x=329 then 227 else if x=330 then 228 else if x=334 then 229 else if x=335 then 230 else if x=336 then 231 else if x=344 then 248 else x
 t:=λx=>if x=31 then 25 else if x=9 then 9 else if x=3 then 3 else if x=46 then 178 else if x=0 then 0 else if x=51 then 73 else if x=53 then 220 else if x=4 then 4 else if x=183 then 213 else if x=182 then 212 else if x=131 then 34 else if x=5 then 5 else if x=218 then 234 else if x=222 then 238 else if x=228 then 258 else if x=229 then 245 else x
 g:=λx=>x
theorem zJ:Lays.n190 Tryz.prog Jw where
 mixed:=Eq.refl true
 f125:=Lm Tryz.func164 (by kernel_rfl)
 f128:=Lm Tryz.func205 (by kernel_rfl)
 f129:=Lm Tryz.func206 (by kernel_rfl)
 f190:=Lm Tryz.func115 (by kernel_rfl)
 f258:=Lm Tryz.func163 (by kernel_rfl)
 f302:=Lm Tryz.func196 (by kernel_rfl)
 f303:=Lm Tryz.func197 (by kernel_rfl)
 f304:=Lm Tryz.func198 (by kernel_rfl)
 f305:=Lm Tryz.func199 (by kernel_rfl)
 f306:=Lm Tryz.func200 (by kernel_rfl)
 f307:=Lm Tryz.func201 (by kernel_rfl)
 f308:=Lm Tryz.func202 (by kernel_rfl)
 f309:=Lm Tryz.func203 (by kernel_rfl)
 f310:=Lm Tryz.func204 (by kernel_rfl)
 f329:=Lm Tryz.func227 (by kernel_rfl)
 f330:=Lm Tryz.func228 (by kernel_rfl)
 f333:=Lm Tryz.func226 (by kernel_rfl)
 f334:=Lm Tryz.func229 (by kernel_rfl)
 f335:=Lm Tryz.func230 (by kernel_rfl)
 f336:=Lm Tryz.func231 (by kernel_rfl)
 f344:=Lm Tryz.func248 (by kernel_rfl)
 t0:=Tryz.underlying0
 a0:=Tryz.isAgg0
 z0:=Tryz.sizeOf0
 v0:=Tryz.zeroValue0
 t3:=Tryz.underlying3
 a3:=Tryz.isAgg3
 z3:=Tryz.sizeOf3
 v3:=Tryz.zeroValue3
 t4:=Tryz.underlying4
 a4:=Tryz.isAgg4
 z4:=Tryz.sizeOf4
 v4:=Tryz.zeroValue4
 t5:=Tryz.underlying5
 a5:=Tryz.isAgg5
 z5:=Tryz.sizeOf5
 v5:=Tryz.zeroValue5
 t9:=Tryz.underlying9
 a9:=Tryz.isAgg9
 z9:=Tryz.sizeOf9
 v9:=Tryz.zeroValue9
 t31:=Tryz.underlying25
 a31:=Tryz.isAgg25
 z31:=Tryz.sizeOf25
 v31:=Tryz.zeroValue25
 t46:=Tryz.underlying178
 a46:=Tryz.isAgg178
 z46:=Tryz.sizeOf178
 v46:=Tryz.zeroValue178
 t51:=Tryz.underlying73
 a51:=Tryz.isAgg73
 z51:=Tryz.sizeOf73
 v51:=Tryz.zeroValue73
 t53:=Tryz.underlying220
 a53:=Tryz.isAgg220
 z53:=Tryz.sizeOf220
 v53:=Tryz.zeroValue220
 t131:=Tryz.underlying34
 a131:=Tryz.isAgg34
 z131:=Tryz.sizeOf34
 v131:=Tryz.zeroValue34
 t182:=Tryz.underlying212
 a182:=Tryz.isAgg212
 z182:=Tryz.sizeOf212
 v182:=Tryz.zeroValue212
 t183:=Tryz.underlying213
 a183:=Tryz.isAgg213
 z183:=Tryz.sizeOf213
 v183:=Tryz.zeroValue213
 t218:=Tryz.underlying234
 a218:=Tryz.isAgg234
 z218:=Tryz.sizeOf234
 v218:=Tryz.zeroValue234
 t222:=Tryz.underlying238
 a222:=Tryz.isAgg238
 z222:=Tryz.sizeOf238
 v222:=Tryz.zeroValue238
 t228:=Tryz.underlying258
 a228:=Tryz.isAgg258
 z228:=Tryz.sizeOf258
 v228:=Tryz.zeroValue258
 t229:=Tryz.underlying245
 a229:=Tryz.isAgg245
 z229:=Tryz.sizeOf245
 v229:=Tryz.zeroValue245
theorem sort_k {B:Nat}{w:World}{v:Value}{l:List Tx}(h:Own B w v l)(z:l≠[])(hl:l.length<=1099511627776){R:World->Prop}
  (J:∀w',Kp w w' (λg=>v.ownBlock=some g)->Own B w' v (aX l)->R w'):Calls Tryz.prog 115 #[v] w (an [] R):=by
 rcases h.2 with⟨rfl,V⟩ | ⟨g,cap,cur,rfl,hb,G,W,Z,h3,h4⟩
 ·exact absurd (J6 V) z
 ·refine(Any.slices_Sort_string zJ g 0 cap l w (holds_of_block G (by rw [Kc]at h4;exact h4)) (Kj.1 G).1 (by omega)).mono ?_
  rintro e w' ⟨rfl,n,os,rfl⟩
  refine⟨rfl,J _ (Kp.aP (grownBy_sorted _) λg' H=>H) ?_⟩;have I:(l.mergeSort λx y=>decide (x<=y)).length=l.length:=by simp
  have :=ownsRow_sorted (n:=n) (os:=os) I hb G W Z h3;have e2:aX l=l.mergeSort λx y=>decide (x<=y):=rfl
  unfold Own;rw [e2,I];exact this
theorem zI (s:UInt8)(a b:Tx)(l:List Tx):joinS s (a::b::l)=[40]++a++[s]++joinS s (b::l)++[41]:=by simp [joinS]
theorem DV {B:Nat}{w:World}{v:Value}{l:List Tx}{c:UInt8}(h:Own B w v l)(G:l≠[])(hl:l.length<=1099511627776)(hs:bM l<=1099511627776){R:ay->World->Prop}
  (hR:∀w',Kp w w' (λg=>v.ownBlock=some g)->R (joinS c (aX l)) w'):Calls Tryz.prog 255 #[v,.string (ab [c])] w (an [.s] R):=by
 refine wu v [c] w R ?_;refine sort_k h G hl λw3 k3 o3=>?_
 have hp:=aN l;have H:(aX l).length=l.length:=hp.length_eq;have α:0< l.length:=Me.2 G;have st:=o3.strs;generalize hL:aX l=L at*;rcases st with⟨_,e⟩ | ⟨b,off,cap,rfl,hb,hc⟩
 ·rw [e]at H;simp at H;omega
 have β:bM L=bM l:=gZ hp;have I:∀j,(W:j< L.length)->w3.cell? ⟨b,off+j,none⟩=some (.string (ab L[j])):=λj W=>hc j _ (JC W)
 have z:∀j,bM (L.drop j)<=bM L:=λj=>by
  have:bM L=bM (L.take j)+bM (L.drop j):=by rw [<-y6,KT]
  omega
 refine⟨_,_,cap,rfl,by unfold aj;omega,b,off,_,cap,rfl,by omega,by omega,L[L.length - 1]'(by omega),?_,_,_,cap,rfl,by unfold aj;omega,λout i w'=>w'=w3/\ -1<=i/\i+2<=L.length/\out=joinS c (L.drop (i+1).toNat),λ _ i _=>(i+1).toNat,⟨rfl,by omega,by omega,?_⟩,λout i w' hI=>?_⟩
 ·rw [Kc,show((L.length:Int) - 1).toNat=L.length - 1 by omega];exact I _ (by omega)
 ·rw [show((L.length:Int) - 2+1).toNat=L.length - 1 by omega,Kx (by omega),show L.length - 1+1=L.length by omega,Ld];rfl
 ·obtain⟨rfl,h0,h1,rfl⟩:=hI;refine⟨λZ=>?_,λZ=>?_⟩
  ·simp only [JD]at Z;have J:i.toNat< L.length:=by omega
   have V:i.toNat+1< L.length:=by omega
   have e1:(i+1).toNat=i.toNat+1:=by omega
   have e2:L.drop i.toNat=L[i.toNat]::L.drop (i.toNat+1):=Kx J;have e3:L.drop (i.toNat+1)=L[i.toNat+1]::L.drop (i.toNat+1+1):=Kx V;have W:=gC c (L.drop (i.toNat+1));have hd:=z i.toNat;have γ:bM (L.drop i.toNat)=L[i.toNat].length+3+bM (L.drop (i.toNat+1)):=by rw [e2];simp only [bM,J9,KN]
   rw [e1];refine⟨b,off,_,cap,rfl,by omega,by omega,L[i.toNat],by rw [Kc];exact I _ J,?_,?_,?_,?_,by unfold aj;omega,⟨rfl,by omega,by omega,?_⟩,by show(i - 1+1).toNat< (i+1).toNat;omega⟩
   ·simp;omega
   ·simp;omega
   ·simp;omega
   ·simp;omega
   ·rw [show(i - 1+1).toNat=i.toNat by omega,e2,e3,zI]
  ·simp only [JE]at Z;have:i= -1:=by omega
   subst this;exact hR w' k3
def nv (c:UInt8):UInt32:=mZ 1 (c - 97).toNat
def qG (x:UInt32)(tk:Tk):Prop:=∀c,lt c=true->decide (x &&& nv c=0)= !tk c
theorem CJ (a b c:UInt32):(a ||| b) &&& c=(a &&& c) ||| (b &&& c):=by
 apply MO.1;simp only [UInt32.toBitVec_and,UInt32.toBitVec_or]
 ext i z
 simp [Bool.and_or_distrib_right]
theorem E7 (a b:UInt32):a ||| b=0↔a=0/\b=0:=by
 rw [<-MO,<-MO,<-MO];simp only [UInt32.toBitVec_or];exact BitVec.or_eq_zero_iff
theorem Dy:∀i,i< 26->∀j,j< 26->decide (mZ 1 i &&& mZ 1 j=0)=decide (i≠j):=by decide+kernel
theorem BA {c d:UInt8}(z:lt c=true)(hd:lt d=true):decide (nv c &&& nv d=0)= !(d==c):=by
 have G:=bc z;have H:=bc hd;unfold nv;rw [Dy _ (by rw [gz z];omega) _ (by rw [gz hd];omega),gz z,gz hd];rw [KE];simp only [JD,Lu,beq_eq_false_iff_ne,ne_eq,<-J4];omega
theorem qG.add {x:UInt32}{tk:Tk}(h:qG x tk){d:UInt8}(hd:lt d=true):qG (x ||| nv d) (ch tk d):=by
 intro c z;rw [CJ,LK.2 (E7 _ _),Bool.decide_and,h c z,BA hd z];simp [ch]
theorem yx {c:UInt8}{w:World}{R:UInt32->World->Prop}(h:R (nv c) w):Calls Tryz.prog 59 #[.int .u8 c.toNat] w (an [.w] R):=
 ym c w R h
theorem HN (tk:Tk):lt (iC tk)=true:=by
 unfold iC tR;cases h:nR.find? λc=> !tk c with
 | none=>decide
 | some c=>
  have :=Lr h;unfold nR at this;simp only [Kk,K2]at this;obtain⟨i,z,rfl⟩:=this;clear h;revert i;decide+kernel
theorem Ft {x:UInt32}{tk:Tk}(W:qG x tk){w:World}{R:UInt8->Bool->World->Prop}(Z:tR tk=none->R 0 false w)(h2:∀c,tR tk=some c->R c true w):
  Calls Tryz.prog 130 #[.int .u32 x.toNat] w (an [.c,.b] R):=by
 refine tZ x w R ?_;refine⟨λc w'=>w'=w/\97<=c.toNat/\c.toNat<=123/\∀d:UInt8,97<=d->d< c->tk d=true,λc _=>123 - c.toNat,⟨rfl,by decide,by decide,λd h h'=>?_⟩,λc w' hI=>?_⟩
 ·rw [JZ]at h;rw [Ko]at h';omega
 ·obtain⟨rfl,V,h4,h5⟩:=hI;refine⟨λH=>yx ?_,λH=>?_⟩
  ·simp only [JD,JZ]at H;have G:c.toNat<=122:=H;have J:lt c=true:=nU ⟨V,G⟩;have :=W c J;refine⟨λhe=>?_,λhe=>?_⟩
   ·rw [he]at this;refine h2 c (tb (f:=λc=> !tk c) (by rw [JZ];exact V) (by rw [JZ];exact G) this.symm λd hd z=>by simp [h5 d hd z])
   ·rw [he]at this;have ht:tk c=true:=by simpa using this.symm
    have e1:(c+1).toNat=c.toNat+1:=by rw [Mn];show(c.toNat+1) % 256=_;omega
    refine⟨⟨rfl,by omega,by omega,λd hd z=>?_⟩,by show 123 - (c+1).toNat< 123 - c.toNat;omega⟩;rw [Ko,e1]at z;by_cases I:d=c
    ·rw [I];exact ht
    ·refine h5 d hd (Ko.2 ?_);have:d.toNat≠c.toNat:=λe=>I (J4.1 e)
     omega
  ·simp only [JE,JZ]at H;have G:122< c.toNat:=by have:¬c.toNat<=122:=H;omega
   refine Z (uE (f:=λc=> !tk c) λd hd z=>?_);have:tk d=true:=h5 d hd (Ko.2 (by rw [JZ]at z;have:d.toNat<=122:=z;omega));simp [this]
def IY (m:Value->Option Value)(ρ:Rh):Prop:=∀x,(ρ x).toNat< 128/\(x< 26->ρ x=UInt8.ofNat (97+x))/\(26<=x->m (iv x)=some (.int .u8 (ρ x).toNat)\/(m (iv x)=none/\ρ x=0))
structure Nm (w:World)(n r:Nat)(ρ:Rh)(tk:Tk)(bad:Bool):Prop where
 lt:n< w.heap.size
 lr:r< w.heap.size
 ne:n≠r
 c0:w.cell? ⟨n,0,none⟩=some (.map (some r))
 mp:∃m,IsMap w r (.int .i64) m/\IY m ρ
 c1:∃x:UInt32,w.cell? ⟨n,1,none⟩=some (.int .u32 x.toNat)/\qG x tk
 c2:w.cell? ⟨n,2,none⟩=some (.bool bad)
 f:∀j,w.frozen? ⟨n,j,none⟩=false
theorem Nm.kp {w w':World}{n r:Nat}{ρ:Rh}{tk:Tk}{bad:Bool}{S:Nat->Prop}(h:Nm w n r ρ tk bad)(k:Kp w w' S)(z:¬S n)(hr:¬S r):Nm w' n r ρ tk bad:=by
 have e:=k.block n h.lt z;have G:=k.block r h.lr hr;obtain⟨m,⟨es,cl,H,I⟩,J⟩:=h.mp;obtain⟨x,h4,h5⟩:=h.c1;exact⟨J2 h.lt k.size,J2 h.lr k.size,h.ne,by rw [JB (w:=w) e];exact h.c0,⟨m,⟨es,cl,by rw [G];exact H,I⟩,J⟩,⟨x,by rw [JB (w:=w) e];exact h4,h5⟩,by rw [JB (w:=w) e];exact h.c2,λj=>by rw [J8 (w:=w) e];exact h.f j⟩
theorem Nm.ex {w w':World}{n r:Nat}{ρ:Rh}{tk:Tk}{bad:Bool}(h:Nm w n r ρ tk bad)(x:Ex w w'):Nm w' n r ρ tk bad:=h.kp (Kp.ah x λ _=>False) (λh=>h) λh=>h
abbrev Kn (n r:Nat)(w w':World):Prop:=Kp w w' λg=>g=n\/g=r
theorem Kn.trans {n r:Nat}{a b c:World}(h:Kn n r a b)(k:Kn n r b c):Kn n r a c:=Kp.trans h k λ _ _ h=>h
theorem Kn.ex {n r:Nat}{a b:World}(h:Ex a b):Kn n r a b:=Kp.ah h _
theorem Kn.set {n r:Nat}(w:World)(j:Nat)(v:Value):Kn n r w (w.setCell ⟨n,j,none⟩ v):=Kp.mono (λ _ h=> .inl h) (Kr.set w j v)
theorem Nm.set {w w':World}{n r:Nat}{ρ:Rh}{tk tk':Tk}{bad bad':Bool}(h:Nm w n r ρ tk bad){j:Nat}{v:Value}(hw:w'=w.setCell ⟨n,j,none⟩ v)(z:(j=1/\bad'=bad/\∃x:UInt32,v= .int .u32 x.toNat/\qG x tk')\/(j=2/\tk'=tk/\v= .bool bad')):Nm w' n r ρ tk' bad':=by
 subst hw;obtain⟨m,⟨es,cl,G,H⟩,I⟩:=h.mp;obtain⟨x,h4,h5⟩:=h.c1;have kr:=Kr.set (r:=n) w j v;have J:=kr.block r h.lr h.ne.symm;have ne:∀i,i≠j->(w.setCell ⟨n,j,none⟩ v).cell? ⟨n,i,none⟩=w.cell? ⟨n,i,none⟩:=λi W=>JH _ _ _ _ (λe=>by injection e with Z e2;omega)
 have sz:=kr.size;refine⟨by have :=h.lt;omega,by have :=h.lr;omega,h.ne,by rw [ne 0 (by rcases z with⟨h,_⟩ | ⟨h,_⟩<;>omega)];exact h.c0,⟨m,⟨es,cl,by rw [J];exact G,H⟩,I⟩,?_,?_,λi=>by rw [JU];exact h.f i⟩
 ·rcases z with⟨rfl,_,y,rfl,V⟩ | ⟨rfl,rfl,_⟩
  ·exact⟨y,JT _ _ _ h4,V⟩
  ·exact⟨x,by rw [ne 1 (by omega)];exact h4,h5⟩
 ·rcases z with⟨rfl,rfl,_⟩ | ⟨rfl,rfl,rfl⟩
  ·rw [ne 2 (by omega)];exact h.c2
  ·exact JT _ _ _ h.c2
theorem Nm.put {w w':World}{n r:Nat}{ρ:Rh}{tk:Tk}{bad:Bool}(h:Nm w n r ρ tk bad){m:Value->Option Value}(hm:IY m ρ){x:Nat}(hx:26<=x){c:UInt8}(I:c.toNat< 128)(G:IsMap w' r (.int .i64) (dz m (iv x) (.int .u8 c.toNat)))(hb:bY w w' r):
  Nm w' n r (aF ρ x c) tk bad/\Kn n r w w':=by
 have e:=hb.block n h.ne;obtain⟨y,h4,h5⟩:=h.c1;refine⟨⟨by rw [hb.size];exact h.lt,by rw [hb.size];exact h.lr,h.ne,by rw [JB (w:=w) e];exact h.c0,⟨_,G,λz=>?_⟩,⟨y,by rw [JB (w:=w) e];exact h4,h5⟩,by rw [JB (w:=w) e];exact h.c2,λj=>by rw [J8 (w:=w) e];exact h.f j⟩,
  hb.os,hb.tape,hb.output,by rw [hb.size];exact JL _,λg _ J=>hb.block g λe=>J (.inr e)⟩
 obtain⟨V,W,Z⟩:=hm z;unfold aF dz;by_cases H:z=x
 ·subst H;refine⟨by simpa using I,λh=>by omega,λ _=> .inl ?_⟩;simp
 ·have:iv z≠iv x:=λe=>H (by injection e with _ e2;omega)
  simp only [JV H,JV this];exact⟨V,W,Z⟩
theorem As {ρ:Rh}{x:Nat}:[UInt8.ofNat (Int.toNat ((ρ x).toNat:Int))]=[ρ x]:=by simp
theorem jO {w:World}{n r:Nat}{ρ:Rh}{tk:Tk}{bad:Bool}(h:Nm w n r ρ tk bad){x:Nat}{R:ay->World->Prop}(z:R [ρ x] w):Calls Tryz.prog 253 #[ptr n,iv x] w (an [.s] R):=by
 refine mX (ptr n) x w R ?_;obtain⟨m,hm,G⟩:=h.mp;obtain⟨Z,J,V⟩:=G x;refine⟨λH=>?_,λH=>?_⟩
 ·simp only [JD]at H;have e:[UInt8.ofNat (Int.toNat (97+(x:Int)))]=[ρ x]:=by rw [J (by omega),show(97+(x:Int)).toNat=97+x by omega]
  refine⟨by unfold aj;omega,by omega,by omega,by rw [e];exact z⟩
 ·simp only [JE]at H;refine⟨n,0,rfl,_,h.c0,r,m,rfl,hm,ρ x,?_⟩;rcases V (by omega)with I | ⟨I,W⟩
  ·exact⟨true,.inl ⟨rfl,I⟩,by omega,by rw [As];exact z⟩
  ·exact⟨false,.inr ⟨rfl,I,by rw [W];rfl⟩,by omega,by rw [As];exact z⟩
theorem DT {w:World}{n r:Nat}{ρ:Rh}{tk:Tk}{bad:Bool}(h:Nm w n r ρ tk bad){x:Nat}(hx:26<=x){R:UInt32->World->Prop}
  (hR:∀y w',qG y tk->Kn n r w w'->Nm w' n r (aF ρ x (iC tk)) (ch tk (iC tk)) (bad||(tR tk).isNone)->R y w'):Calls Tryz.prog 252 #[ptr n,iv x] w (an [.w] R):=by
 refine nj (ptr n) x w R ?_;obtain⟨y,hy,μ⟩:=h.c1;have hl:=HN tk;have hl':=bc hl;have fin:∀G bad',bad'=(bad||(tR tk).isNone)->Kn n r w G->Nm G n r ρ tk bad'->∃ζ:World->Prop,∀H:World,H=World.drew G->ζ H/\∃(ν ξ:Nat),ptr n=Value.pointer (some ⟨ν,ξ,none⟩)/\∃ο:UInt32,(∀w',ζ w'->World.cell? w' ⟨ν,(ξ+1),none⟩=some (Value.int IntKind.u32 (UInt32.toNat ο)))/\Calls Tryz.prog 59 #[(Value.int IntKind.u8 (UInt8.toNat (iC tk)))] H (an [.w] fun(ω:UInt32) (V:World)=>ζ V/\∃(W Z:Nat),ptr n=Value.pointer (some ⟨W,Z,none⟩)/\((∃u42:Value,World.cell? V ⟨W,(Z+1),none⟩=some u42)/\World.frozen? V ⟨W,(Z+1),none⟩=false)/\∀I:World,I=World.setCell V ⟨W,(Z+1),none⟩ (Value.int IntKind.u32 (UInt32.toNat (ο ||| ω:UInt32)))->∃(ς υ:Nat),ptr n=Value.pointer (some ⟨ς,υ,none⟩)/\∃v46:Value,World.cell? I ⟨ς,(υ+0),none⟩=some v46/\∃(α:Nat) (β:Value->Option Value),v46=Value.map (some α)/\IsMap I α (TypeDesc.int IntKind.i64) β/\∀J:World,IsMap J α (TypeDesc.int IntKind.i64) (dz β (Value.int IntKind.i64 x) (Value.int IntKind.u8 (UInt8.toNat (iC tk))))->bY I J α->R (y) J):=by
  intro G bad' φ k11 η;obtain⟨z,hz,hzt⟩:=η.c1;refine⟨λw'=>Ex G w',λH γ=>⟨γ▸Ex.drew G,n,0,rfl,z,λw' x'=>by rw [x'.cell (show n< _ from η.lt)];exact hz,yx ?_⟩⟩;have θ:Ex G H:=γ▸Ex.drew G;have ι:=η.ex θ;obtain⟨z',hz',_⟩:=ι.c1;refine⟨θ,n,0,rfl,⟨⟨_,hz'⟩,ι.f 1⟩,λI δ=>?_⟩;have κ:=ι.set (tk':=ch tk (iC tk)) (bad':=bad') δ (.inl ⟨rfl,rfl,_,rfl,hzt.add hl⟩);obtain⟨m,hm,hρ⟩:=κ.mp;refine⟨n,0,rfl,_,κ.c0,r,m,rfl,hm,λJ χ ψ=>?_⟩;obtain⟨n49,k49⟩:=κ.put hρ hx (by omega) χ ψ;have k43:Kn n r H I:=δ▸Kn.set _ _ _;exact hR y J μ (Kn.trans (Kn.trans k11 (Kn.ex θ)) (Kn.trans k43 k49)) (φ▸n49)
 refine⟨n,0,rfl,y,hy,n,0,rfl,y,hy,Ft μ (λhf=>⟨λ _=>?_,λh=>(by cases h)⟩) λc hf=>⟨λh=>(by cases h),λ _=>?_⟩⟩
 ·refine⟨n,0,rfl,⟨⟨_,h.c2⟩,h.f 2⟩,λw15 ε=>?_⟩;have n15:=h.set (tk':=tk) (bad':=true) ε (.inr ⟨rfl,rfl,rfl⟩);have e:iC tk=122:=by unfold iC;rw [hf];rfl
  have :=fin w15 true (by rw [hf];simp) (ε▸Kn.set _ _ _) n15;rw [e]at this;exact this
 ·have e:iC tk=c:=by unfold iC;rw [hf];rfl
  have :=fin w bad (by rw [hf];simp) (Kn.ex (Ex.refl w)) h;rw [e]at this;exact this
def G4 (n:Nat):Prop:=∀{D:Nat->Prop} {w:World} {v:Value} {o:List Nat} {l:Lv} {nn r:Nat} {ρ:Rh} {tk:Tk} {bad:Bool} {R:ay->World->Prop},l.sz<=n->l.sh true=true->l.sm=true->tN o l->fS D w v o (af D w l)->(∀g,D g->¬(g=nn\/g=r))->Nm w nn r ρ tk bad->o.length+l.tot<=4294967296->
 (∀w' ρ',Kn nn r w w'->Nm w' nn r ρ' tk (bad||fv o.length l.isNil (thBad l) tk)->(∀x,x∉o->x∉l.bvs->ρ' x=ρ x)->R (aR o (thS l) ρ tk) w')->Calls Tryz.prog 237 #[ptr nn,v] w (an [.s] R)
def Gb (n:Nat):Prop:=∀{D:Nat->Prop} {w:World} {v:Value} {e:Lv} {nn r:Nat} {ρ:Rh} {tk:Tk} {bad:Bool} {R:ay->World->Prop},e.sz<=n->((∃k a b o q,e= .thr k a b o q .nil/\q.sh true=true)\/∃z,e= .sum z .nil/\z.sh false=true)->e.sm=true->tN [] e->af D w e [v]->(∀g,D g->¬(g=nn\/g=r))->Nm w nn r ρ tk bad->e.tot<=4294967296->
 (∀t w' ρ',thS e ρ tk=[t]->Kn nn r w w'->Nm w' nn r ρ' tk (bad||thBad e tk)->(∀x,x∉e.bvs->ρ' x=ρ x)->R t w')->Calls Tryz.prog 254 #[ptr nn,v] w (an [.s] R)
theorem Jx (a b:UInt8):Op.bytesLess [a] [b]=decide (a< b):=by
 unfold Op.bytesLess;by_cases h:a< b
 ·simp [h]
 ·by_cases z:b< a<;>simp [Op.bytesLess,h]
theorem Kp.new {w w1 w2:World}{nn r:Nat}{row:Option Nat}(k:Kn nn r w w1)(z:w1.grownBy w2 row)(hr:∀g,row=some g->w.heap.size<=g):Kn nn r w w2:=
 Kp.trans k (Kp.aP (S:=λg=>row=some g) z λ _ h=>h) λg G H=>by have :=hr g H;omega
end Go.Proofs.YtdecokaadekjnaaGreat
