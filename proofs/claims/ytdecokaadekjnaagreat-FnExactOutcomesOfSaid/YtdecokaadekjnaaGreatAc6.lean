/- Proved: 'laws.FnExactOutcomesOf' returns true for whatever string, and leaves memory as it was: the program's OutcomesOf returns what the reference's returns. No condition. -/
import Derived.Test.YtdecokaadekjnaaGreatAc5
set_option maxRecDepth 100000
set_option maxHeartbeats 4000000
namespace Go.Proofs.YtdecokaadekjnaaGreat
open Go Go.RowKit T Classical
theorem KT {p:Tx}{w:World}{R:Bool->PV}(hR:∀w',Ex w w'->R true w'):PW 5 #[.string (ax p)] w (aw [.b] R):=by
 refine gJ p w R ?_;dsimp only [go_sem];dsimp only [go_sem,UInt8.reduceOfNat,UInt32.reduceOfNat,Nat.reduceAdd];exact⟨λ _=>hR w (Ex.refl w),λ _=>JM (Ek p) zE zD hR⟩
theorem Kz (a:ByteArray):a=ax a.data.toList:=by cases a;simp [ax]
end Go.Proofs.YtdecokaadekjnaaGreat
namespace Go.Proofs.YtdecokaadekjnaaGreat.fnExactOutcomesOf
open Go Go.ChangeShapes Go.WideShapes Go.ChangeAt Go.RowKit
open Go.ChangeMaps (open_string shut_string)
theorem own:ownKnob Tryz.prog.godebug=none:=by kernel_rfl
theorem walk (a0:ByteArray)(w:World):
  Calls Tryz.prog 5 #[.string a0] w λe w'=>e= .returned (.bool true)/\Below w.heap.size w w':=by
 rw [Kz a0];refine(KT (R:=λb w'=>b=true/\Below w.heap.size w w') λw' x=>⟨rfl,x⟩).mono ?_
 rintro e w' ⟨b,he,rfl,x⟩
 exact⟨he,x⟩
set_option maxRecDepth 100000 in
theorem lifted (os:Os)(started:os.Started)(H:Type)(enc:TypeId×Value->H):
  ReturnsInHanded {} Tryz.checked os 5 .any (Rows.fnExactOutcomesOfSpec.pre6 enc Tryz.prog Tryz.f5 Rows.fnExactOutcomesOfRow.domain false) (Rows.fnExactOutcomesOfSpec.post enc Tryz.prog Tryz.f5 false true false false):=by
 refine returnsInHanded_of_change (C:=Tryz.checked) own started (by kernel_rfl) Tryz.func5
  (ChangeSpec.witness6 (enc:=enc) (C:=Tryz.checked) false ⟨#[],#[.string ByteArray.empty],[]⟩ 8 (by kernel_rfl) (by kernel_rfl) (by kernel_rfl) (by kernel_rfl)) ?_
 intro W base args ds gs before G hW γ _;have J:∀(j:Nat) t v,Tryz.f5.params[j]?=some t->args[j]?=some v->Value.okWide Tryz.prog W .any base t v:=G;have Z:=hW;obtain⟨p,q,V,hV,rfl,δ,ε⟩:=hW;have hA:DataW.TrodAll enc Tryz.prog W 0 (λ _=>true) true Tryz.f5.params.toList args.toList ds p:=V;rw [Tryz.params5]at hA J;obtain⟨v0,ζ,d0,η,p0,q0,α,rfl,rfl,h0,r0⟩:=trodAll_cons hA;obtain⟨rfl,rfl,rfl⟩:=trodAll_nil r0;obtain rfl:args=#[v0]:=by cases args;simp_all
 obtain⟨rfl,rfl⟩:=trodVars_none hV;obtain⟨a0,rfl,rfl,rfl,w0⟩:=open_string Tryz.underlying9 (J 0 9 v0 rfl rfl) h0;clear V G;refine(walk a0 W).mono λe W' ⟨he,β⟩=>?_
 subst he;exact⟨_,rfl,_,_,_,[],_,[],Z,trodAll_mk1 (shut_bool Tryz.underlying4 _),(trodAll_cons_mk (shut_string Tryz.underlying9 w0) trodAll_mk0),rfl,β.frame _,λh=>by cases h⟩
theorem named:Tryz.pinned.checked.prog.funcNamed Rows.fnExactOutcomesOfRow.func=some 5:=by kernel_rfl
theorem inst:Tryz.f5.isInstance Tryz.pinned.checked.prog Rows.fnExactOutcomesOfRow.origin Rows.fnExactOutcomesOfRow.targs:=of_decide_eq_true (by kernel_rfl)
theorem wrapped:Tryz.f5.isWrapper Tryz.pinned.checked.prog Rows.fnExactOutcomesOfRow.wrapper Rows.fnExactOutcomesOfRow.mainSum:=by
 unfold Func.isWrapper;first | (rw [if_pos (by decide+kernel)];kernel_rfl) | (rw [if_neg (by decide+kernel)];exact⟨rfl,rfl⟩)
theorem closed:joinedFacts Tryz.pinned.checked.prog 5 Tryz.f5 Rows.fnExactOutcomesOfSpec Rows.fnExactOutcomesOfRow=true:=by kernel_rfl
theorem over:Rows.fnExactOutcomesOfRow.holds Tryz.pinned (OpenSpec.ofChange Rows.fnExactOutcomesOfSpec):=
 OpenClaim.holds_of_wide 5 Tryz.f5 rfl rfl rfl rfl rfl rfl rfl ⟨rfl,rfl,rfl,rfl,rfl⟩ rfl rfl rfl rfl rfl named Tryz.func5 closed inst wrapped
  (λos started H enc _=>lifted os started H enc)
theorem proved:Rows.FnExactOutcomesOfSaid:=over
#print axioms proved
end Go.Proofs.YtdecokaadekjnaaGreat.fnExactOutcomesOf
