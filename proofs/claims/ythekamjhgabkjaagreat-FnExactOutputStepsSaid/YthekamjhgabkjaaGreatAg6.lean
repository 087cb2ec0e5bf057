/- Proved: 'laws.FnExactOutputSteps' returns true for whatever string, and leaves memory as it was: the program's OutputSteps returns what the reference's returns. No condition. -/
import Derived.Test.YthekamjhgabkjaaGreatAg5
set_option maxRecDepth 100000
set_option maxHeartbeats 4000000
set_option linter.defProp false
set_option linter.unusedVariables false
set_option linter.unusedSimpArgs false
namespace Go.Proofs.YthekamjhgabkjaaGreat
open Go Go.RowKit
section
open T Classical
theorem Me {p:Tx}{w:World}{R:Bool->QU}(hR:∀w',Ex w w'->R true w'):QV 9 #[.string (ay p)] w (ax [.b] R):=by
 refine gH p w R ?_;dsimp only [go_sem];dsimp only [go_sem,Nat.reduceAdd];refine⟨λ _=>hR w (Ex.refl w),λ _=>?_⟩;have H:=I7 p;refine Jx (LL:=((zi p).getD []).map E5) (b:=(zi p).isSome) (by rw [NH];omega) (λl G=>?_) ?_ (λh=>?_) (λh=>?_) hR
 ·obtain⟨x,_,rfl⟩:=Oe.1 G;simp [E5]
 ·have :=Dh ((zi p).getD []);omega
 ·refine DZ (λe w' x=>?_) λl e v w' x o=>?_
  ·have :=h (.slice none 0 0) w' x;rw [e]at this;exact this (j0.nil 0 _).str
  ·have :=h v w' x;rw [e]at this;exact this o
 ·refine EW (λe w' x=>?_) λl e v w' x o=>?_
  ·have :=h (.slice none 0 0) w' x;rw [e]at this;exact this (j0.nil _ _)
  ·have :=h v w' x;rw [e]at this;exact this o
theorem Ko (a:ByteArray):a=ay a.data.toList:=by cases a;simp [ay]
end
end Go.Proofs.YthekamjhgabkjaaGreat
namespace Go.Proofs.YthekamjhgabkjaaGreat.fnExactOutputSteps
open Go Go.ChangeShapes Go.WideShapes Go.ChangeAt Go.RowKit
open Go.ChangeMaps (open_string shut_string)
theorem own:ownKnob Tryz.prog.godebug=none:=by kernel_rfl
theorem walk (a0:ByteArray)(w:World):
  Calls Tryz.prog 9 #[.string a0] w λe w'=>e= .returned (.bool true)/\Below w.heap.size w w':=by
 rw [Ko a0];refine(Me (R:=λb w'=>b=true/\Below w.heap.size w w') λw' x=>⟨rfl,x⟩).mono ?_
 rintro e w' ⟨b,he,rfl,x⟩
 exact⟨he,x⟩
set_option maxRecDepth 100000 in
theorem lifted (os:Os)(started:os.Started)(H:Type)(enc:TypeId×Value->H):
  ReturnsInHanded {} Tryz.checked os 9 .any (Rows.fnExactOutputStepsSpec.pre6 enc Tryz.prog Tryz.f9 Rows.fnExactOutputStepsRow.domain false) (Rows.fnExactOutputStepsSpec.post enc Tryz.prog Tryz.f9 false true false false):=by
 refine returnsInHanded_of_change (C:=Tryz.checked) own started (by kernel_rfl) Tryz.func9
  (ChangeSpec.witness6 (enc:=enc) (C:=Tryz.checked) false ⟨#[],#[.string ByteArray.empty],[]⟩ 8 (by kernel_rfl) (by kernel_rfl) (by kernel_rfl) (by kernel_rfl)) ?_
 intro W base args ds gs before G hW ε _;have J:∀(j:Nat) t v,Tryz.f9.params[j]?=some t->args[j]?=some v->Value.okWide Tryz.prog W .any base t v:=G;have β:=hW;obtain⟨p,q,Z,hV,rfl,ζ,η⟩:=hW;have hA:DataW.TrodAll enc Tryz.prog W 0 (λ _=>true) true Tryz.f9.params.toList args.toList ds p:=Z;rw [Tryz.params9]at hA J;obtain⟨v0,θ,d0,ι,p0,q0,γ,rfl,rfl,h0,r0⟩:=trodAll_cons hA;obtain⟨rfl,rfl,rfl⟩:=trodAll_nil r0;obtain rfl:args=#[v0]:=by cases args;simp_all
 obtain⟨rfl,rfl⟩:=trodVars_none hV;obtain⟨a0,rfl,rfl,rfl,w0⟩:=open_string Tryz.underlying9 (J 0 9 v0 rfl rfl) h0;clear Z G;refine(walk a0 W).mono λe W' ⟨he,δ⟩=>?_
 subst he;exact⟨_,rfl,_,_,_,[],_,[],β,trodAll_mk1 (shut_bool Tryz.underlying4 _),(trodAll_cons_mk (shut_string Tryz.underlying9 w0) trodAll_mk0),rfl,δ.frame _,λh=>by cases h⟩
theorem named:Tryz.pinned.checked.prog.funcNamed Rows.fnExactOutputStepsRow.func=some 9:=by kernel_rfl
theorem inst:Tryz.f9.isInstance Tryz.pinned.checked.prog Rows.fnExactOutputStepsRow.origin Rows.fnExactOutputStepsRow.targs:=of_decide_eq_true (by kernel_rfl)
theorem wrapped:Tryz.f9.isWrapper Tryz.pinned.checked.prog Rows.fnExactOutputStepsRow.wrapper Rows.fnExactOutputStepsRow.mainSum:=by
 unfold Func.isWrapper;first | (rw [if_pos (by decide+kernel)];kernel_rfl) | (rw [if_neg (by decide+kernel)];exact⟨rfl,rfl⟩)
theorem closed:joinedFacts Tryz.pinned.checked.prog 9 Tryz.f9 Rows.fnExactOutputStepsSpec Rows.fnExactOutputStepsRow=true:=by kernel_rfl
theorem over:Rows.fnExactOutputStepsRow.holds Tryz.pinned (OpenSpec.ofChange Rows.fnExactOutputStepsSpec):=
 OpenClaim.holds_of_wide 9 Tryz.f9 rfl rfl rfl rfl rfl rfl rfl ⟨rfl,rfl,rfl,rfl,rfl⟩ rfl rfl rfl rfl rfl named Tryz.func9 closed inst wrapped
  (λos started H enc _=>lifted os started H enc)
theorem proved:Rows.FnExactOutputStepsSaid:=over
#print axioms proved
end Go.Proofs.YthekamjhgabkjaaGreat.fnExactOutputSteps
