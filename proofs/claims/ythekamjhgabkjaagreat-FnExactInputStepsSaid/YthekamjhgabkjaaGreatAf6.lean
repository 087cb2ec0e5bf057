/- Proved: 'laws.FnExactInputSteps' returns true for whatever two strings, and leaves memory as it was: the program's InputSteps returns what the reference's returns. No condition. -/
import Derived.Test.YthekamjhgabkjaaGreatAf5
set_option maxRecDepth 100000
set_option maxHeartbeats 4000000
set_option linter.defProp false
set_option linter.unusedVariables false
set_option linter.unusedSimpArgs false
namespace Go.Proofs.YthekamjhgabkjaaGreat
open Go Go.RowKit
section
open T Classical
theorem Lp {p n:Tx}{w:World}{R:Bool->Qx}(hR:∀w',Ex w w'->R true w'):Qy 7 #[.string (ay p),.string (ay n)] w (ax [.b] R):=by
 refine gI p n w R ?_;dsimp only [go_sem];dsimp only [go_sem,Nat.reduceAdd];refine⟨λ _=>hR w (Ex.refl w),λ _=>⟨λ _=>hR w (Ex.refl w),λ _=>?_⟩⟩;have H:=Hc p n;refine IW (LL:=((lW p n).getD []).map EF) (b:=(lW p n).isSome) (by rw [Nq];omega) (λl G=>?_) ?_ (λh=>?_) (λh=>?_) hR
 ·obtain⟨x,_,rfl⟩:=NT.1 G;simp [EF]
 ·have :=Df ((lW p n).getD []);omega
 ·refine Fa (λe w' x=>?_) λl e v w' x o=>?_
  ·have :=h (.slice none 0 0) w' x;rw [e]at this;exact this (jL.nil 0 _).str
  ·have :=h v w' x;rw [e]at this;exact this o
 ·refine FL (λe w' x=>?_) λl e v w' x o=>?_
  ·have :=h (.slice none 0 0) w' x;rw [e]at this;exact this (jL.nil _ _)
  ·have :=h v w' x;rw [e]at this;exact this o
theorem Fb (a:ByteArray):a=ay a.data.toList:=by cases a;simp [ay]
end
end Go.Proofs.YthekamjhgabkjaaGreat
namespace Go.Proofs.YthekamjhgabkjaaGreat.fnExactInputSteps
open Go Go.ChangeShapes Go.WideShapes Go.ChangeAt Go.RowKit
open Go.ChangeMaps (open_string shut_string)
theorem own:ownKnob Tryz.prog.godebug=none:=by kernel_rfl
theorem walk (a0:ByteArray)(G:ByteArray)(w:World):
  Calls Tryz.prog 7 #[.string a0,.string G] w λe w'=>e= .returned (.bool true)/\Below w.heap.size w w':=by
 rw [Fb a0,Fb G];refine(Lp (R:=λb w'=>b=true/\Below w.heap.size w w') λw' x=>⟨rfl,x⟩).mono ?_
 rintro e w' ⟨b,he,rfl,x⟩
 exact⟨he,x⟩
set_option maxRecDepth 100000 in
theorem lifted (os:Os)(started:os.Started)(H:Type)(enc:TypeId×Value->H):
  ReturnsInHanded {} Tryz.checked os 7 .any (Rows.fnExactInputStepsSpec.pre6 enc Tryz.prog Tryz.f7 Rows.fnExactInputStepsRow.domain false) (Rows.fnExactInputStepsSpec.post enc Tryz.prog Tryz.f7 false true false false):=by
 refine returnsInHanded_of_change (C:=Tryz.checked) own started (by kernel_rfl) Tryz.func7
  (ChangeSpec.witness6 (enc:=enc) (C:=Tryz.checked) false ⟨#[],#[.string ByteArray.empty,.string ByteArray.empty],[]⟩ 8 (by kernel_rfl) (by kernel_rfl) (by kernel_rfl) (by kernel_rfl)) ?_
 intro W base args ds gs before G hW ε _;have J:∀(j:Nat) t v,Tryz.f7.params[j]?=some t->args[j]?=some v->Value.okWide Tryz.prog W .any base t v:=G;have β:=hW;obtain⟨p,q,Z,hV,rfl,ζ,η⟩:=hW;have hA:DataW.TrodAll enc Tryz.prog W 0 (λ _=>true) true Tryz.f7.params.toList args.toList ds p:=Z;rw [Tryz.params7]at hA J;obtain⟨v0,θ,d0,ι,p0,q0,γ,rfl,rfl,h0,r0⟩:=trodAll_cons hA;obtain⟨v1,κ,d1,μ,p1,q1,rfl,rfl,rfl,h1,r1⟩:=trodAll_cons r0;obtain⟨rfl,rfl,rfl⟩:=trodAll_nil r1;obtain rfl:args=#[v0,v1]:=by cases args;simp_all
 obtain⟨rfl,rfl⟩:=trodVars_none hV;obtain⟨a0,rfl,rfl,rfl,w0⟩:=open_string Tryz.underlying9 (J 0 9 v0 rfl rfl) h0;obtain⟨a1,rfl,rfl,rfl,w1⟩:=open_string Tryz.underlying9 (J 1 9 v1 rfl rfl) h1;clear Z G;refine(walk a0 a1 W).mono λe W' ⟨he,δ⟩=>?_
 subst he;exact⟨_,rfl,_,_,_,[],_,[],β,trodAll_mk1 (shut_bool Tryz.underlying4 _),(trodAll_cons_mk (shut_string Tryz.underlying9 w0) (trodAll_cons_mk (shut_string Tryz.underlying9 w1) trodAll_mk0)),rfl,δ.frame _,λh=>by cases h⟩
theorem named:Tryz.pinned.checked.prog.funcNamed Rows.fnExactInputStepsRow.func=some 7:=by kernel_rfl
theorem inst:Tryz.f7.isInstance Tryz.pinned.checked.prog Rows.fnExactInputStepsRow.origin Rows.fnExactInputStepsRow.targs:=of_decide_eq_true (by kernel_rfl)
theorem wrapped:Tryz.f7.isWrapper Tryz.pinned.checked.prog Rows.fnExactInputStepsRow.wrapper Rows.fnExactInputStepsRow.mainSum:=by
 unfold Func.isWrapper;first | (rw [if_pos (by decide+kernel)];kernel_rfl) | (rw [if_neg (by decide+kernel)];exact⟨rfl,rfl⟩)
theorem closed:joinedFacts Tryz.pinned.checked.prog 7 Tryz.f7 Rows.fnExactInputStepsSpec Rows.fnExactInputStepsRow=true:=by kernel_rfl
theorem over:Rows.fnExactInputStepsRow.holds Tryz.pinned (OpenSpec.ofChange Rows.fnExactInputStepsSpec):=
 OpenClaim.holds_of_wide 7 Tryz.f7 rfl rfl rfl rfl rfl rfl rfl ⟨rfl,rfl,rfl,rfl,rfl⟩ rfl rfl rfl rfl rfl named Tryz.func7 closed inst wrapped
  (λos started H enc _=>lifted os started H enc)
theorem proved:Rows.FnExactInputStepsSaid:=over
#print axioms proved
end Go.Proofs.YthekamjhgabkjaaGreat.fnExactInputSteps
