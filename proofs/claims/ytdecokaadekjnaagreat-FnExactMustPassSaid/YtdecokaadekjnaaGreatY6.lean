/- Proved: 'laws.FnExactMustPass' returns true for whatever two strings, and leaves memory as it was: the program's MustPass returns what the reference's returns. No condition. -/
import Derived.Test.YtdecokaadekjnaaGreatY5
namespace Go.Proofs.YtdecokaadekjnaaGreat
open Go Go.RowKit T Classical
theorem AZ {p q:Tx}{w:World}{R:Bool->World->Prop}(z:∀w',Ex w w'->R true w'):Calls Tryz.prog 4 #[.string (ab p),.string (ab q)] w (ax [.b] R):=by
 refine iN p q w R ?_;refine⟨λ _=>z w (Ex.refl w),λ _=>⟨λ _=>z w (Ex.refl w),λ _=>?_⟩⟩;refine EM λJ G=>DO λH I=>?_
 simp only [beq_self_eq_true,Bool.not_true];exact⟨λ _=>⟨(λh=>by cases h),λ _=>z H (Ex.trans G I)⟩,(λh=>by cases h)⟩
theorem Ct (a:ByteArray):a=ab a.data.toList:=by cases a;simp [ab]
end Go.Proofs.YtdecokaadekjnaaGreat
namespace Go.Proofs.YtdecokaadekjnaaGreat.fnExactMustPass
open Go Go.ChangeShapes Go.WideShapes Go.ChangeAt Go.RowKit
open Go.ChangeMaps (open_string shut_string)
theorem own:ownKnob Tryz.prog.godebug=none:=by kernel_rfl
theorem walk (a0:ByteArray)(z:ByteArray)(w:World):
  Calls Tryz.prog 4 #[.string a0,.string z] w λe w'=>e= .returned (.bool true)/\Below w.heap.size w w':=by
 rw [Ct a0,Ct z];refine(AZ (R:=λb w'=>b=true/\Below w.heap.size w w') λw' x=>⟨rfl,x⟩).mono ?_
 rintro e w' ⟨b,he,rfl,x⟩
 exact⟨he,x⟩
set_option maxRecDepth 100000 in
theorem lifted (os:Os)(started:os.Started)(H:Type)(enc:TypeId×Value->H):
  ReturnsInHanded {} Tryz.checked os 4 .any (Rows.fnExactMustPassSpec.pre6 enc Tryz.prog Tryz.f4 Rows.fnExactMustPassRow.domain false) (Rows.fnExactMustPassSpec.post enc Tryz.prog Tryz.f4 false true false false):=by
 refine returnsInHanded_of_change (C:=Tryz.checked) own started (by kernel_rfl) Tryz.func4
  (ChangeSpec.witness6 (enc:=enc) (C:=Tryz.checked) false ⟨#[],#[.string ByteArray.empty,.string ByteArray.empty],[]⟩ 8 (by kernel_rfl) (by kernel_rfl) (by kernel_rfl) (by kernel_rfl)) ?_
 intro W base args ds gs before z hW α _;have G:∀(j:Nat) t v,Tryz.f4.params[j]?=some t->args[j]?=some v->Value.okWide Tryz.prog W .any base t v:=z;have J:=hW;obtain⟨p,q,I,hV,rfl,β,γ⟩:=hW;have hA:DataW.TrodAll enc Tryz.prog W 0 (λ _=>true) true Tryz.f4.params.toList args.toList ds p:=I;rw [Tryz.params4]at hA G;obtain⟨v0,δ,d0,ε,p0,q0,V,rfl,rfl,h0,r0⟩:=trodAll_cons hA;obtain⟨v1,ζ,d1,η,p1,q1,rfl,rfl,rfl,h1,r1⟩:=trodAll_cons r0;obtain⟨rfl,rfl,rfl⟩:=trodAll_nil r1;obtain rfl:args=#[v0,v1]:=by cases args;simp_all
 obtain⟨rfl,rfl⟩:=trodVars_none hV;obtain⟨a0,rfl,rfl,rfl,w0⟩:=open_string Tryz.underlying9 (G 0 9 v0 rfl rfl) h0;obtain⟨a1,rfl,rfl,rfl,w1⟩:=open_string Tryz.underlying9 (G 1 9 v1 rfl rfl) h1;clear I z;refine(walk a0 a1 W).mono λe W' ⟨he,Z⟩=>?_
 subst he;exact⟨_,rfl,_,_,_,[],_,[],J,trodAll_mk1 (shut_bool Tryz.underlying4 _),(trodAll_cons_mk (shut_string Tryz.underlying9 w0) (trodAll_cons_mk (shut_string Tryz.underlying9 w1) trodAll_mk0)),rfl,Z.frame _,λh=>by cases h⟩
theorem named:Tryz.pinned.checked.prog.funcNamed Rows.fnExactMustPassRow.func=some 4:=by kernel_rfl
theorem inst:Tryz.f4.isInstance Tryz.pinned.checked.prog Rows.fnExactMustPassRow.origin Rows.fnExactMustPassRow.targs:=of_decide_eq_true (by kernel_rfl)
theorem wrapped:Tryz.f4.isWrapper Tryz.pinned.checked.prog Rows.fnExactMustPassRow.wrapper Rows.fnExactMustPassRow.mainSum:=by
 unfold Func.isWrapper;first | (rw [if_pos (by decide+kernel)];kernel_rfl) | (rw [if_neg (by decide+kernel)];exact⟨rfl,rfl⟩)
theorem closed:joinedFacts Tryz.pinned.checked.prog 4 Tryz.f4 Rows.fnExactMustPassSpec Rows.fnExactMustPassRow=true:=by kernel_rfl
theorem over:Rows.fnExactMustPassRow.holds Tryz.pinned (OpenSpec.ofChange Rows.fnExactMustPassSpec):=
 OpenClaim.holds_of_wide 4 Tryz.f4 rfl rfl rfl rfl rfl rfl rfl ⟨rfl,rfl,rfl,rfl,rfl⟩ rfl rfl rfl rfl rfl named Tryz.func4 closed inst wrapped
  (λos started H enc _=>lifted os started H enc)
theorem proved:Rows.FnExactMustPassSaid:=over
#print axioms proved
end Go.Proofs.YtdecokaadekjnaaGreat.fnExactMustPass
