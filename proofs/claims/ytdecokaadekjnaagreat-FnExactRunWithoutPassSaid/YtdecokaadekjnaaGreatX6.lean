/- Proved: 'laws.FnExactRunWithoutPass' returns true for whatever two strings, and leaves memory as it was: the program's RunWithoutPass returns what the reference's returns. No condition. -/
import Derived.Test.YtdecokaadekjnaaGreatX5
namespace Go.Proofs.YtdecokaadekjnaaGreat
open Go Go.RowKit T Classical
theorem yf (f:Tx->Bool):∀(n:Nat) (r:List Tx) (s:Tx),(runF f n r s).length<=r.length+n
 | 0,_,_=>Jc _
 | n+1,r,s=>by
  unfold runF;split
  ·omega
  ·split
   ·rw [I',J6];omega
   ·have :=yf f n (r++[gB f s]) (gB f s);rw [I',J6]at this;omega
theorem Cv (p q:Tx):(runT p q).1.length<=1000000000:=by
 unfold runT;split
 ·simp
 ·split
  ·have :=yf (fQ ‹_›) 60 [(‹List Tx›).headD []] ((‹List Tx›).headD []);simp only [J6]at this|-;omega
  ·simp
theorem DU {p q:Tx}{w:World}{R:Bool->World->Prop}(z:∀w',Ex w w'->R true w'):Calls Tryz.prog 7 #[.string (ab p),.string (ab q)] w (an [.b] R):=by
 refine fB p q w R ?_;exact⟨λ _=>z w (Ex.refl w),λ _=>⟨λ _=>z w (Ex.refl w),λ _=>Hj (Cv p q) Gq G4 z⟩⟩
theorem Cr (a:ByteArray):a=ab a.data.toList:=by cases a;simp [ab]
end Go.Proofs.YtdecokaadekjnaaGreat
namespace Go.Proofs.YtdecokaadekjnaaGreat.fnExactRunWithoutPass
open Go Go.ChangeShapes Go.WideShapes Go.ChangeAt Go.RowKit
open Go.ChangeMaps (open_string shut_string)
theorem own:ownKnob Tryz.prog.godebug=none:=by kernel_rfl
theorem walk (a0:ByteArray)(z:ByteArray)(w:World):
  Calls Tryz.prog 7 #[.string a0,.string z] w λe w'=>e= .returned (.bool true)/\Below w.heap.size w w':=by
 rw [Cr a0,Cr z];refine(DU (R:=λb w'=>b=true/\Below w.heap.size w w') λw' x=>⟨rfl,x⟩).mono ?_
 rintro e w' ⟨b,he,rfl,x⟩
 exact⟨he,x⟩
set_option maxRecDepth 100000 in
theorem lifted (os:Os)(started:os.Started)(H:Type)(enc:TypeId×Value->H):
  ReturnsInHanded {} Tryz.checked os 7 .any (Rows.fnExactRunWithoutPassSpec.pre6 enc Tryz.prog Tryz.f7 Rows.fnExactRunWithoutPassRow.domain false) (Rows.fnExactRunWithoutPassSpec.post enc Tryz.prog Tryz.f7 false true false false):=by
 refine returnsInHanded_of_change (C:=Tryz.checked) own started (by kernel_rfl) Tryz.func7
  (ChangeSpec.witness6 (enc:=enc) (C:=Tryz.checked) false ⟨#[],#[.string ByteArray.empty,.string ByteArray.empty],[]⟩ 8 (by kernel_rfl) (by kernel_rfl) (by kernel_rfl) (by kernel_rfl)) ?_
 intro W base args ds gs before z hW α _;have G:∀(j:Nat) t v,Tryz.f7.params[j]?=some t->args[j]?=some v->Value.okWide Tryz.prog W .any base t v:=z;have J:=hW;obtain⟨p,q,I,hV,rfl,β,γ⟩:=hW;have hA:DataW.TrodAll enc Tryz.prog W 0 (λ _=>true) true Tryz.f7.params.toList args.toList ds p:=I;rw [Tryz.params7]at hA G;obtain⟨v0,δ,d0,ε,p0,q0,V,rfl,rfl,h0,r0⟩:=trodAll_cons hA;obtain⟨v1,ζ,d1,η,p1,q1,rfl,rfl,rfl,h1,r1⟩:=trodAll_cons r0;obtain⟨rfl,rfl,rfl⟩:=trodAll_nil r1;obtain rfl:args=#[v0,v1]:=by cases args;simp_all
 obtain⟨rfl,rfl⟩:=trodVars_none hV;obtain⟨a0,rfl,rfl,rfl,w0⟩:=open_string Tryz.underlying9 (G 0 9 v0 rfl rfl) h0;obtain⟨a1,rfl,rfl,rfl,w1⟩:=open_string Tryz.underlying9 (G 1 9 v1 rfl rfl) h1;clear I z;refine(walk a0 a1 W).mono λe W' ⟨he,Z⟩=>?_
 subst he;exact⟨_,rfl,_,_,_,[],_,[],J,trodAll_mk1 (shut_bool Tryz.underlying4 _),(trodAll_cons_mk (shut_string Tryz.underlying9 w0) (trodAll_cons_mk (shut_string Tryz.underlying9 w1) trodAll_mk0)),rfl,Z.frame _,λh=>by cases h⟩
theorem named:Tryz.pinned.checked.prog.funcNamed Rows.fnExactRunWithoutPassRow.func=some 7:=by kernel_rfl
theorem inst:Tryz.f7.isInstance Tryz.pinned.checked.prog Rows.fnExactRunWithoutPassRow.origin Rows.fnExactRunWithoutPassRow.targs:=of_decide_eq_true (by kernel_rfl)
theorem wrapped:Tryz.f7.isWrapper Tryz.pinned.checked.prog Rows.fnExactRunWithoutPassRow.wrapper Rows.fnExactRunWithoutPassRow.mainSum:=by
 unfold Func.isWrapper;first | (rw [if_pos (by decide+kernel)];kernel_rfl) | (rw [if_neg (by decide+kernel)];exact⟨rfl,rfl⟩)
theorem closed:joinedFacts Tryz.pinned.checked.prog 7 Tryz.f7 Rows.fnExactRunWithoutPassSpec Rows.fnExactRunWithoutPassRow=true:=by kernel_rfl
theorem over:Rows.fnExactRunWithoutPassRow.holds Tryz.pinned (OpenSpec.ofChange Rows.fnExactRunWithoutPassSpec):=
 OpenClaim.holds_of_wide 7 Tryz.f7 rfl rfl rfl rfl rfl rfl rfl ⟨rfl,rfl,rfl,rfl,rfl⟩ rfl rfl rfl rfl rfl named Tryz.func7 closed inst wrapped
  (λos started H enc _=>lifted os started H enc)
theorem proved:Rows.FnExactRunWithoutPassSaid:=over
#print axioms proved
end Go.Proofs.YtdecokaadekjnaaGreat.fnExactRunWithoutPass
