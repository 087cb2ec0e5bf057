/- Proved: 'laws.FnExactStepsWith' returns true for whatever two strings, and leaves memory as it was: the program's StepsWith returns what the reference's returns. No condition. -/
import Derived.Test.YthekamjhgabkjaaGreatAd6
set_option maxRecDepth 100000
set_option maxHeartbeats 4000000
namespace Go.Proofs.YthekamjhgabkjaaGreat
open Go Go.RowKit
section
open T Classical
theorem Jf {t:P}(ok:fX t){l:List Tx}(e:nG (num t e0 0).1=some l):l.length<=13000000:=by
 unfold nG at e;split at e
 ·cases e;have Z:=yK (aQ (outs (jh (num t e0 0).1)));have H:=(aM (outs (jh (num t e0 0).1))).length_eq;rw [pa]at H;have G:(num t e0 0).1.size<=60:=by have :=(dT ok.su.ae).2.2;have :=ok.size;omega
  have J:=(lens G).2.2.2.2.2 _ (NP _);have e:(List.range (num t e0 0).1.ths.length).flatMap (E0 (num t e0 0).1)=jh (num t e0 0).1:=rfl;rw [e]at J;omega
 ·cases e
theorem GM {L:List Ev}{G:Tx}{l:List Tx}(J:L.length<=3600)(e:fT L G=some l):l.length<=3600:=by
 unfold fT at e;split at e
 ·cases e;have Z:=yK (aQ ((L.filter (wt G)).map λe=>e.2.getD []));have H:=(aM ((L.filter (wt G)).map λe=>e.2.getD [])).length_eq;rw [NY]at H;have h3:=Pk (wt G) L;omega
 ·cases e
theorem CU (p G:Tx):((dz p G).getD []).length<=1000000000000:=by
 cases h:dz p G with
 | none=>simp
 | some l=>
  show l.length<=_;unfold dz at h;split at h
  ·rename_i Z;cases e:gG p with
   | none=>rw [e]at h;cases h
   | some s=>
    rw [e]at h;obtain⟨t,ok,rfl⟩:=wY e;have h:xa t.text G=some l:=h;rw [ur ok]at h;have H:(num t e0 0).1.size<=60:=by have :=(dT ok.su.ae).2.2;have :=ok.size;omega
    generalize hu:(num t e0 0).1=u at h H;unfold de at h;split at h
    ·have :=Jf ok (hu▸h);omega
    ·split at h
     ·cases h
     ·have:(labL u G).length<=3600:=by
       rcases gb Z with J | ⟨a,b,_,_,J | J | J⟩<;>subst J
       ·simp [labL]
       ·exact iG (mS u _) H
       ·exact iG (e8 u _) H
       ·exact iG (e8 u _) H
      have :=GM this h;omega
  ·cases h
theorem MB {p G:Tx}{w:World}{R:Bool->Re}(hR:∀w',Ex w w'->R true w'):Rf 3 #[.string (ak p),.string (ak G)] w (an [.b] R):=by
 refine iW p G w R ?_;dsimp only [go_sem];dsimp only [go_sem,UInt8.reduceOfNat,UInt32.reduceOfNat,Nat.reduceAdd];refine⟨λ _=>hR w (Ex.refl w),λ _=>⟨λ _=>hR w (Ex.refl w),λhb=>?_⟩⟩;have H:G.length<=1099511627776:=by simp only [NV]at hb;omega
 refine Lm (l:=(dz p G).getD []) (b:=(dz p G).isSome) (CU p G) (λh=>?_) (λh=>?_) hR
 ·refine Gn (λe w' x=>?_) λl e v w' x o=>?_
  ·have :=h (.slice none 0 0) w' x;rw [e]at this;exact this (Own.nil 0 w').strs
  ·have :=h v w' x;rw [e]at this;exact this o.strs
 ·refine GH H (λe w' x=>?_) λl e v w' x o=>?_
  ·have :=h (.slice none 0 0) w' x;rw [e]at this;exact this (Own.nil _ _)
  ·have :=h v w' x;rw [e]at this;exact this o
theorem HT (a:ByteArray):a=ak a.data.toList:=by cases a;simp [ak]
end
end Go.Proofs.YthekamjhgabkjaaGreat
namespace Go.Proofs.YthekamjhgabkjaaGreat.fnExactStepsWith
open Go Go.ChangeShapes Go.WideShapes Go.ChangeAt Go.RowKit
open Go.ChangeMaps (open_string shut_string)
theorem own:ownKnob Tryz.prog.godebug=none:=by kernel_rfl
theorem walk (a0:ByteArray)(G:ByteArray)(w:World):
  Calls Tryz.prog 3 #[.string a0,.string G] w λe w'=>e= .returned (.bool true)/\Below w.heap.size w w':=by
 rw [HT a0,HT G];refine(MB (R:=λb w'=>b=true/\Below w.heap.size w w') λw' x=>⟨rfl,x⟩).mono ?_
 rintro e w' ⟨b,he,rfl,x⟩
 exact⟨he,x⟩
set_option maxRecDepth 100000 in
theorem lifted (os:Os)(started:os.Started)(H:Type)(enc:TypeId×Value->H):
  ReturnsInHanded {} Tryz.checked os 3 .any (Rows.fnExactStepsWithSpec.pre6 enc Tryz.prog Tryz.f3 Rows.fnExactStepsWithRow.domain false) (Rows.fnExactStepsWithSpec.post enc Tryz.prog Tryz.f3 false true false false):=by
 refine returnsInHanded_of_change (C:=Tryz.checked) own started (by kernel_rfl) Tryz.func3
  (ChangeSpec.witness6 (enc:=enc) (C:=Tryz.checked) false ⟨#[],#[.string ByteArray.empty,.string ByteArray.empty],[]⟩ 8 (by kernel_rfl) (by kernel_rfl) (by kernel_rfl) (by kernel_rfl)) ?_
 intro W base args ds gs before G hW δ _;have J:∀(j:Nat) t v,Tryz.f3.params[j]?=some t->args[j]?=some v->Value.okWide Tryz.prog W .any base t v:=G;have α:=hW;obtain⟨p,q,Z,hV,rfl,ε,ζ⟩:=hW;have hA:DataW.TrodAll enc Tryz.prog W 0 (λ _=>true) true Tryz.f3.params.toList args.toList ds p:=Z;rw [Tryz.params3]at hA J;obtain⟨v0,η,d0,θ,p0,q0,β,rfl,rfl,h0,r0⟩:=trodAll_cons hA;obtain⟨v1,ι,d1,κ,p1,q1,rfl,rfl,rfl,h1,r1⟩:=trodAll_cons r0;obtain⟨rfl,rfl,rfl⟩:=trodAll_nil r1;obtain rfl:args=#[v0,v1]:=by cases args;simp_all
 obtain⟨rfl,rfl⟩:=trodVars_none hV;obtain⟨a0,rfl,rfl,rfl,w0⟩:=open_string Tryz.underlying9 (J 0 9 v0 rfl rfl) h0;obtain⟨a1,rfl,rfl,rfl,w1⟩:=open_string Tryz.underlying9 (J 1 9 v1 rfl rfl) h1;clear Z G;refine(walk a0 a1 W).mono λe W' ⟨he,γ⟩=>?_
 subst he;exact⟨_,rfl,_,_,_,[],_,[],α,trodAll_mk1 (shut_bool Tryz.underlying4 _),(trodAll_cons_mk (shut_string Tryz.underlying9 w0) (trodAll_cons_mk (shut_string Tryz.underlying9 w1) trodAll_mk0)),rfl,γ.frame _,λh=>by cases h⟩
theorem named:Tryz.pinned.checked.prog.funcNamed Rows.fnExactStepsWithRow.func=some 3:=by kernel_rfl
theorem inst:Tryz.f3.isInstance Tryz.pinned.checked.prog Rows.fnExactStepsWithRow.origin Rows.fnExactStepsWithRow.targs:=of_decide_eq_true (by kernel_rfl)
theorem wrapped:Tryz.f3.isWrapper Tryz.pinned.checked.prog Rows.fnExactStepsWithRow.wrapper Rows.fnExactStepsWithRow.mainSum:=by
 unfold Func.isWrapper;first | (rw [if_pos (by decide+kernel)];kernel_rfl) | (rw [if_neg (by decide+kernel)];exact⟨rfl,rfl⟩)
theorem closed:joinedFacts Tryz.pinned.checked.prog 3 Tryz.f3 Rows.fnExactStepsWithSpec Rows.fnExactStepsWithRow=true:=by kernel_rfl
theorem over:Rows.fnExactStepsWithRow.holds Tryz.pinned (OpenSpec.ofChange Rows.fnExactStepsWithSpec):=
 OpenClaim.holds_of_wide 3 Tryz.f3 rfl rfl rfl rfl rfl rfl rfl ⟨rfl,rfl,rfl,rfl,rfl⟩ rfl rfl rfl rfl rfl named Tryz.func3 closed inst wrapped
  (λos started H enc _=>lifted os started H enc)
theorem proved:Rows.FnExactStepsWithSaid:=over
#print axioms proved
end Go.Proofs.YthekamjhgabkjaaGreat.fnExactStepsWith
