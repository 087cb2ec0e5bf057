/- Proved: 'laws.FnExactFirstBarb' returns true for whatever two strings, and leaves memory as it was: the program's FirstBarb returns what the reference's returns. No condition. -/
import Derived.Test.YtdecokaadekjnaaGreatU6
namespace Go.Proofs.YtdecokaadekjnaaGreat
open Go Go.RowKit T Classical
theorem zC {p q:Tx}{w:World}{R:Bool->World->Prop}(z:∀w',Ex w w'->R true w'):Calls Tryz.prog 6 #[.string (ab p),.string (ab q)] w (ax [.b] R):=by
 refine iE p q w R ?_;refine⟨λ _=>z w (Ex.refl w),λ _=>⟨λ _=>z w (Ex.refl w),λ _=>?_⟩⟩;refine Dj λI G=>C5 λw8 H=>?_
 simp only [beq_self_eq_true,Bool.not_true,decide_true];exact⟨λ _=>⟨(λh=>by cases h),λ _=>z w8 (Ex.trans G H)⟩,(λh=>by cases h)⟩
theorem D6 (a:ByteArray):a=ab a.data.toList:=by cases a;simp [ab]
end Go.Proofs.YtdecokaadekjnaaGreat
namespace Go.Proofs.YtdecokaadekjnaaGreat.fnExactFirstBarb
open Go Go.ChangeShapes Go.WideShapes Go.ChangeAt Go.RowKit
open Go.ChangeMaps (open_string shut_string)
theorem own:ownKnob Tryz.prog.godebug=none:=by kernel_rfl
theorem walk (a0:ByteArray)(z:ByteArray)(w:World):
  Calls Tryz.prog 6 #[.string a0,.string z] w λe w'=>e= .returned (.bool true)/\Below w.heap.size w w':=by
 rw [D6 a0,D6 z];refine(zC (R:=λb w'=>b=true/\Below w.heap.size w w') λw' x=>⟨rfl,x⟩).mono ?_
 rintro e w' ⟨b,he,rfl,x⟩
 exact⟨he,x⟩
set_option maxRecDepth 100000 in
theorem lifted (os:Os)(started:os.Started)(H:Type)(enc:TypeId×Value->H):
  ReturnsInHanded {} Tryz.checked os 6 .any (Rows.fnExactFirstBarbSpec.pre6 enc Tryz.prog Tryz.f6 Rows.fnExactFirstBarbRow.domain false) (Rows.fnExactFirstBarbSpec.post enc Tryz.prog Tryz.f6 false true false false):=by
 refine returnsInHanded_of_change (C:=Tryz.checked) own started (by kernel_rfl) Tryz.func6
  (ChangeSpec.witness6 (enc:=enc) (C:=Tryz.checked) false ⟨#[],#[.string ByteArray.empty,.string ByteArray.empty],[]⟩ 8 (by kernel_rfl) (by kernel_rfl) (by kernel_rfl) (by kernel_rfl)) ?_
 intro W base args ds gs before z hW α _;have G:∀(j:Nat) t v,Tryz.f6.params[j]?=some t->args[j]?=some v->Value.okWide Tryz.prog W .any base t v:=z;have J:=hW;obtain⟨p,q,I,hV,rfl,β,γ⟩:=hW;have hA:DataW.TrodAll enc Tryz.prog W 0 (λ _=>true) true Tryz.f6.params.toList args.toList ds p:=I;rw [Tryz.params6]at hA G;obtain⟨v0,δ,d0,ε,p0,q0,V,rfl,rfl,h0,r0⟩:=trodAll_cons hA;obtain⟨v1,ζ,d1,η,p1,q1,rfl,rfl,rfl,h1,r1⟩:=trodAll_cons r0;obtain⟨rfl,rfl,rfl⟩:=trodAll_nil r1;obtain rfl:args=#[v0,v1]:=by cases args;simp_all
 obtain⟨rfl,rfl⟩:=trodVars_none hV;obtain⟨a0,rfl,rfl,rfl,w0⟩:=open_string Tryz.underlying9 (G 0 9 v0 rfl rfl) h0;obtain⟨a1,rfl,rfl,rfl,w1⟩:=open_string Tryz.underlying9 (G 1 9 v1 rfl rfl) h1;clear I z;refine(walk a0 a1 W).mono λe W' ⟨he,Z⟩=>?_
 subst he;exact⟨_,rfl,_,_,_,[],_,[],J,trodAll_mk1 (shut_bool Tryz.underlying4 _),(trodAll_cons_mk (shut_string Tryz.underlying9 w0) (trodAll_cons_mk (shut_string Tryz.underlying9 w1) trodAll_mk0)),rfl,Z.frame _,λh=>by cases h⟩
theorem named:Tryz.pinned.checked.prog.funcNamed Rows.fnExactFirstBarbRow.func=some 6:=by kernel_rfl
theorem inst:Tryz.f6.isInstance Tryz.pinned.checked.prog Rows.fnExactFirstBarbRow.origin Rows.fnExactFirstBarbRow.targs:=of_decide_eq_true (by kernel_rfl)
theorem wrapped:Tryz.f6.isWrapper Tryz.pinned.checked.prog Rows.fnExactFirstBarbRow.wrapper Rows.fnExactFirstBarbRow.mainSum:=by
 unfold Func.isWrapper;first | (rw [if_pos (by decide+kernel)];kernel_rfl) | (rw [if_neg (by decide+kernel)];exact⟨rfl,rfl⟩)
theorem closed:joinedFacts Tryz.pinned.checked.prog 6 Tryz.f6 Rows.fnExactFirstBarbSpec Rows.fnExactFirstBarbRow=true:=by kernel_rfl
theorem over:Rows.fnExactFirstBarbRow.holds Tryz.pinned (OpenSpec.ofChange Rows.fnExactFirstBarbSpec):=
 OpenClaim.holds_of_wide 6 Tryz.f6 rfl rfl rfl rfl rfl rfl rfl ⟨rfl,rfl,rfl,rfl,rfl⟩ rfl rfl rfl rfl rfl named Tryz.func6 closed inst wrapped
  (λos started H enc _=>lifted os started H enc)
theorem proved:Rows.FnExactFirstBarbSaid:=over
#print axioms proved
end Go.Proofs.YtdecokaadekjnaaGreat.fnExactFirstBarb
