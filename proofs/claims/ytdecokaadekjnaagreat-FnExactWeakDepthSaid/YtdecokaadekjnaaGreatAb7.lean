/- Proved: 'laws.FnExactWeakDepth' returns true for whatever two strings, and leaves memory as it was: the program's WeakDepth returns what the reference's returns. No condition. -/
import Derived.Test.YtdecokaadekjnaaGreatAb6
set_option maxRecDepth 100000
set_option maxHeartbeats 4000000
namespace Go.Proofs.YtdecokaadekjnaaGreat
open Go Go.RowKit T Classical
theorem Ct {p q:Tx}{w:World}{R:Bool->Sl}(hR:∀w',Ex w w'->R true w'):Sm 9 #[.string (ai p),.string (ai q)] w (an [.b] R):=by
 refine iU p q w R ?_;dsimp only [go_sem];dsimp only [go_sem,UInt8.reduceOfNat,UInt32.reduceOfNat,Nat.reduceAdd];refine⟨λ _=>hR w (Ex.refl w),λ _=>⟨λ _=>hR w (Ex.refl w),λ _=>?_⟩⟩;refine Ix λJ G=>IS λw8 H=>?_
 simp only [beq_self_eq_true,Bool.not_true,decide_true];exact⟨λ _=>⟨(λh=>by cases h),λ _=>hR w8 (Ex.trans G H)⟩,(λh=>by cases h)⟩
theorem HI (a:ByteArray):a=ai a.data.toList:=by cases a;simp [ai]
end Go.Proofs.YtdecokaadekjnaaGreat
namespace Go.Proofs.YtdecokaadekjnaaGreat.fnExactWeakDepth
open Go Go.ChangeShapes Go.WideShapes Go.ChangeAt Go.RowKit
open Go.ChangeMaps (open_string shut_string)
theorem own:ownKnob Tryz.prog.godebug=none:=by kernel_rfl
theorem walk (a0:ByteArray)(G:ByteArray)(w:World):
  Calls Tryz.prog 9 #[.string a0,.string G] w λe w'=>e= .returned (.bool true)/\Below w.heap.size w w':=by
 rw [HI a0,HI G];refine(Ct (R:=λb w'=>b=true/\Below w.heap.size w w') λw' x=>⟨rfl,x⟩).mono ?_
 rintro e w' ⟨b,he,rfl,x⟩
 exact⟨he,x⟩
set_option maxRecDepth 100000 in
theorem lifted (os:Os)(started:os.Started)(H:Type)(enc:TypeId×Value->H):
  ReturnsInHanded {} Tryz.checked os 9 .any (Rows.fnExactWeakDepthSpec.pre6 enc Tryz.prog Tryz.f9 Rows.fnExactWeakDepthRow.domain false) (Rows.fnExactWeakDepthSpec.post enc Tryz.prog Tryz.f9 false true false false):=by
 refine returnsInHanded_of_change (C:=Tryz.checked) own started (by kernel_rfl) Tryz.func9
  (ChangeSpec.witness6 (enc:=enc) (C:=Tryz.checked) false ⟨#[],#[.string ByteArray.empty,.string ByteArray.empty],[]⟩ 8 (by kernel_rfl) (by kernel_rfl) (by kernel_rfl) (by kernel_rfl)) ?_
 intro W base args ds gs before G hW γ _;have J:∀(j:Nat) t v,Tryz.f9.params[j]?=some t->args[j]?=some v->Value.okWide Tryz.prog W .any base t v:=G;have Z:=hW;obtain⟨p,q,V,hV,rfl,δ,ε⟩:=hW;have hA:DataW.TrodAll enc Tryz.prog W 0 (λ _=>true) true Tryz.f9.params.toList args.toList ds p:=V;rw [Tryz.params9]at hA J;obtain⟨v0,ζ,d0,η,p0,q0,α,rfl,rfl,h0,r0⟩:=trodAll_cons hA;obtain⟨v1,θ,d1,ι,p1,q1,rfl,rfl,rfl,h1,r1⟩:=trodAll_cons r0;obtain⟨rfl,rfl,rfl⟩:=trodAll_nil r1;obtain rfl:args=#[v0,v1]:=by cases args;simp_all
 obtain⟨rfl,rfl⟩:=trodVars_none hV;obtain⟨a0,rfl,rfl,rfl,w0⟩:=open_string Tryz.underlying9 (J 0 9 v0 rfl rfl) h0;obtain⟨a1,rfl,rfl,rfl,w1⟩:=open_string Tryz.underlying9 (J 1 9 v1 rfl rfl) h1;clear V G;refine(walk a0 a1 W).mono λe W' ⟨he,β⟩=>?_
 subst he;exact⟨_,rfl,_,_,_,[],_,[],Z,trodAll_mk1 (shut_bool Tryz.underlying4 _),(trodAll_cons_mk (shut_string Tryz.underlying9 w0) (trodAll_cons_mk (shut_string Tryz.underlying9 w1) trodAll_mk0)),rfl,β.frame _,λh=>by cases h⟩
theorem named:Tryz.pinned.checked.prog.funcNamed Rows.fnExactWeakDepthRow.func=some 9:=by kernel_rfl
theorem inst:Tryz.f9.isInstance Tryz.pinned.checked.prog Rows.fnExactWeakDepthRow.origin Rows.fnExactWeakDepthRow.targs:=of_decide_eq_true (by kernel_rfl)
theorem wrapped:Tryz.f9.isWrapper Tryz.pinned.checked.prog Rows.fnExactWeakDepthRow.wrapper Rows.fnExactWeakDepthRow.mainSum:=by
 unfold Func.isWrapper;first | (rw [if_pos (by decide+kernel)];kernel_rfl) | (rw [if_neg (by decide+kernel)];exact⟨rfl,rfl⟩)
theorem closed:joinedFacts Tryz.pinned.checked.prog 9 Tryz.f9 Rows.fnExactWeakDepthSpec Rows.fnExactWeakDepthRow=true:=by kernel_rfl
theorem over:Rows.fnExactWeakDepthRow.holds Tryz.pinned (OpenSpec.ofChange Rows.fnExactWeakDepthSpec):=
 OpenClaim.holds_of_wide 9 Tryz.f9 rfl rfl rfl rfl rfl rfl rfl ⟨rfl,rfl,rfl,rfl,rfl⟩ rfl rfl rfl rfl rfl named Tryz.func9 closed inst wrapped
  (λos started H enc _=>lifted os started H enc)
theorem proved:Rows.FnExactWeakDepthSaid:=over
#print axioms proved
end Go.Proofs.YtdecokaadekjnaaGreat.fnExactWeakDepth
