/- Proved: 'laws.FnExactAfterLabels' returns true for whatever string and whatever slice of strings, and leaves memory as it was: the program's AfterLabels returns what the reference's returns. No condition. -/
import Derived.Test.YthekamjhgabkjaaGreatAe6
set_option maxRecDepth 100000
set_option maxHeartbeats 4000000
set_option linter.defProp false
set_option linter.unusedVariables false
set_option linter.unusedSimpArgs false
namespace Go.Proofs.YthekamjhgabkjaaGreat
open Go Go.RowKit
section
open T Classical
theorem Ds {p:Tx}{v2:Value}{l:List Tx}{w:World}(h:zv w v2 l)(hl:l.length<=maxLen){R:Bool->Sb}(hR:∀w',Ex w w'->R true w'):Sc 5 #[.string (ak p),v2] w (aw [.b] R):=by
 refine iy p v2 w R ?_;dsimp only [go_sem];dsimp only [go_sem,UInt8.reduceOfNat,UInt32.reduceOfNat,Nat.reduceAdd];refine⟨λ _=>hR w (Ex.refl w),λ _=>Nt h hl λn hn=>⟨λ _=>hR w (Ex.refl w),λhp=>?_⟩⟩;obtain⟨H,hlx⟩:=hn.resolve_left (by simpa using hp);have G:=FQ p l;obtain⟨L,hL⟩:∃L,L=(dh p l).getD []:=⟨_,rfl⟩
 obtain⟨B,hB⟩:∃B,B=(dh p l).isSome:=⟨_,rfl⟩
 rw [<-hL]at G;have J:∀{w w':World} {R:Value->Bool->Sb},(∀Z w',Ex w w'->Own w.heap.size w' Z L->R Z B w')->dh p l=none->Ex w w'->R (.slice none 0 0) false w':=λhR e x=>by
  have :=hR (.slice none 0 0) _ x;rw [hL,hB,e]at this;exact this (Own.nil _ _)
 have α:∀{w w':World} {R:Value->Bool->Sb} {m:List Tx} {v:Value},(∀Z w',Ex w w'->Own w.heap.size w' Z L->R Z B w')->dh p l=some m->Ex w w'->Own w.heap.size w' v m->R v true w':=λ{w w' R m v} hR e x o=>by
  have :=hR v w' x;rw [hL,hB,e]at this;exact this o
 have hS:∀{w:World} {v:Value} {R:Value->Bool->Sb},Strs w v l->(∀Z w',Ex w w'->Own w.heap.size w' Z L->R Z B w')->Sc 21 #[.string (ak p),v] w (aw [.v,.b] R):=λhs hR=>Hv hs (λe w' x=>J hR e x) λm e v w' x o=>α hR e x o
 have hI:∀{w:World} {v:Value} {R:Value->Bool->Sb},Strs w v l->(∀Z w',Ex w w'->Own w.heap.size w' Z L->R Z B w')->Sc 23 #[.string (ak p),v] w (aw [.v,.b] R):=λhs hR=>HT hs H hlx (λe w' x=>J hR e x) λm e v w' x o=>α hR e x o
 refine DT h H λv5 w6 x6 o5=>hS o5.strs λv7 w9 x9 o7=>DT (h.ex (Ex.trans x6 x9)) H λv10 w11 ξ β=>hI β.strs λv12 w14 γ θ=>?_
 have s6:=x6.size;have s9:=x9.size;have s11:=ξ.size;have s14:=γ.size;refine Eg θ.strs (o7.ex (Ex.trans ξ γ)).strs G λw16 δ=>⟨λ _=>⟨λe=>by simp at e,λ _=>?_⟩,λe=>by simp at e⟩
 have s16:=δ.size;have ο:=Ex.trans x6 x9;have κ:=Ex.trans ξ (Ex.trans γ δ);refine DT (h.ex (Ex.trans ο κ)) H λv17 w18 ε o17=>Eg (β.ex (Ex.trans γ (Ex.trans δ ε))).strs o17.strs (by omega) λw20 ι=>⟨λe=>by simp at e,λ _=>?_⟩
 have s18:=ε.size;have s20:=ι.size;have χ:=Ex.trans κ (Ex.trans ε ι);refine Ez (β.ex (Ex.trans γ (Ex.trans δ (Ex.trans ε ι)))) (by omega) λw22 ς _=>⟨λ _=>?_,λe=>by simp only [OK]at e;omega⟩
 have s22:=ς.size;have μ:Ex w9 w22:=Ex.below χ (Kp.below ς (by omega) λg hg e=>by have :=(β.block g e).1;omega);have ν:=(θ.ex (Ex.trans δ (Ex.trans ε ι))).kp ς λg hg e=>by
  have :=(θ.block g hg).1;have :=(β.block g e).2;omega
 refine Eg ν.strs (o7.ex μ).strs G λw24 υ=>⟨λ _=>⟨λe=>by simp at e,λ _=>?_⟩,λe=>by simp at e⟩
 have s24:=υ.size;refine Ez (ν.ex υ) G λw26 ψ ω=>DU ω.strs G λw28 φ=>⟨λe=>by simp only [OK]at e;omega,λ _=>⟨λe=>by simp at e,λ _=>?_⟩⟩
 have s26:=ψ.size;have s28:=φ.size;have ζ:Ex w9 w28:=Ex.trans (Ex.below (Ex.trans μ υ) (Kp.below ψ (by omega) λg hg e=>by have :=(θ.block g e).1;omega)) φ;refine DT (h.ex (Ex.trans ο ζ)) H λv29 w30 x30 o29=>hI o29.strs λv31 w33 x33 o31=>Eg o31.strs (o7.ex (Ex.trans ζ (Ex.trans x30 x33))).strs G λw35 x35=>⟨λ _=>⟨λe=>by simp at e,λ _=>?_⟩,λe=>by simp at e⟩
 have η:=Ex.trans x30 (Ex.trans x33 x35);refine DU (ω.ex (Ex.trans φ η)).strs G λw36 x36=>⟨λe=>by simp only [OK]at e;omega,λ _=>⟨λe=>by simp at e,λ _=>?_⟩⟩
 exact hR _ (Ex.trans ο (Ex.trans ζ (Ex.trans η x36)))
theorem GU (a:ByteArray):a=ak a.data.toList:=by cases a;simp [ak]
end
end Go.Proofs.YthekamjhgabkjaaGreat
namespace Go.Proofs.YthekamjhgabkjaaGreat.fnExactAfterLabels
open Go Go.ChangeShapes Go.WideShapes Go.ChangeAt Go.RowKit
open Go.ChangeMaps (open_string shut_string)
theorem own:ownKnob Tryz.prog.godebug=none:=by kernel_rfl
theorem walk (a0:ByteArray)(v:Value)(l:List Tx)(w:World)(h:zv w v l)(G:l.length<=maxLen):
  Calls Tryz.prog 5 #[.string a0,v] w λe w'=>e= .returned (.bool true)/\Below w.heap.size w w':=by
 rw [GU a0];refine(Ds h G (R:=λb w'=>b=true/\Below w.heap.size w w') λw' x=>⟨rfl,x⟩).mono ?_
 rintro e w' ⟨b,he,rfl,x⟩
 exact⟨he,x⟩
theorem laidOut':laidOutB Tryz.prog=true:=by kernel_rfl
theorem cells9:Tryz.prog.cellsOf 9=1:=by kernel_rfl
theorem strA_of {w:World}{a:Addr}{len cap:Nat}{H:List ByteArray}(hl:len<=H.length)(hc:∀i,i< H.length->w.cell? (a.add i)=some (.string (H.getD i ByteArray.empty)))(hs:∀s∈H,s.size<=maxLen):
  zv w (.slice (some a) len cap) ((H.take len).map λs=>s.data.toList):=by
 have hlen:((H.take len).map λs=>s.data.toList).length=len:=by rw [List.length_map,List.length_take];omega
 refine⟨⟨_,_,by rw [hlen]⟩,λi hi=>?_⟩;have α:i< len:=by omega
 have Z:=hc 0 (by omega);have G:=hc i (by omega);have J:a.spot=none:=by simpa [Addr.add]using World.cell?_spot Z
 obtain⟨b,off,sp⟩:=a;have J:sp=none:=J;subst J;rw [add_plain]at G;have e1:H.getD i ByteArray.empty=H[i]:=by simp [List.getD,List.getElem?_eq_getElem (show i< H.length by omega)]
 rw [e1]at G;refine⟨b,off,cap,by rw [hlen],Nat.lt_of_not_le λhn=>by
  have e:w.heap[b]?=none:=Array.getElem?_eq_none hn;unfold World.cell? at G;simp [e]at G,?_,?_⟩
 ·rw [G,List.getElem_map,List.getElem_take,<-GU]
 ·rw [List.getElem_map,List.getElem_take];have :=hs _ (List.getElem_mem (show i< H.length by omega));rw [Array.length_toList];exact this
set_option maxRecDepth 100000 in
theorem lifted (os:Os)(started:os.Started)(H:Type)(enc:TypeId×Value->H):
  ReturnsInHanded {} Tryz.checked os 5 .any (Rows.fnExactAfterLabelsSpec.pre6 enc Tryz.prog Tryz.f5 Rows.fnExactAfterLabelsRow.domain false) (Rows.fnExactAfterLabelsSpec.post enc Tryz.prog Tryz.f5 false true false false):=by
 refine returnsInHanded_of_change (C:=Tryz.checked) own started (by kernel_rfl) Tryz.func5
  (ChangeSpec.witness6 (enc:=enc) (C:=Tryz.checked) false ⟨#[],#[.string ByteArray.empty,.slice none 0 0],[]⟩ 8 (by kernel_rfl) (by kernel_rfl) (by kernel_rfl) (by kernel_rfl)) ?_
 intro W base args ds gs before G hW ο _;have J:∀(j:Nat) t v,Tryz.f5.params[j]?=some t->args[j]?=some v->Value.okWide Tryz.prog W .any base t v:=G;have γ:=hW;obtain⟨p,q,δ,hV,rfl,ς,υ⟩:=hW;have hA:DataW.TrodAll enc Tryz.prog W 0 (λ _=>true) true Tryz.f5.params.toList args.toList ds p:=δ;rw [Tryz.params5]at hA J;obtain⟨v0,φ,d0,χ,p0,q0,θ,rfl,rfl,h0,r0⟩:=trodAll_cons hA;obtain⟨v1,ψ,d1,ω,p1,q1,rfl,rfl,rfl,h1,r1⟩:=trodAll_cons r0;obtain⟨rfl,rfl,rfl⟩:=trodAll_nil r1;obtain rfl:args=#[v0,v1]:=by cases args;simp_all
 obtain⟨rfl,rfl⟩:=trodVars_none hV;obtain⟨a0,rfl,rfl,rfl,w0⟩:=open_string Tryz.underlying9 (J 0 9 v0 rfl rfl) h0;have ι:=h1;obtain⟨x1,len,cap,rfl⟩:=okWide_slice Tryz.underlying22 (J 1 22 v1 rfl rfl);obtain⟨fuel,hf⟩:=h1;clear δ G;have ε:=γ;simp only [List.append_nil]at ε;have κ:∀x∈p1,x.block< W.heap.size:=λx hx=>by simpa using ε.lt x (by simp [hx])
 have hA:∃l,zv W (.slice x1 len cap) l/\l.length<=maxLen:=by
  rcases open_strings Tryz.underlying22 Tryz.underlying9 cells9 hf with⟨α,hx⟩ | ⟨a,Z,ζ,ss,α,_,hl,hm,hz,hx,β,μ⟩
  ·have e:(Value.slice x1 len cap)= .slice none 0 0:=by simpa [Value.cells]using α
   exact⟨[],by rw [e];exact⟨⟨_,_,rfl⟩,λi hi=>by simp at hi⟩,by simp⟩
  ·have e:(Value.slice x1 len cap)= .slice (some a) Z ζ:=by simpa [Value.cells]using α
   have ν:Z<=ss.length:=by rw [hz];split<;>omega
   exact⟨_,by rw [e];exact strA_of ν β μ,by rw [List.length_map,List.length_take];omega⟩
 obtain⟨l,hA,ξ⟩:=hA;refine(walk a0 _ l W hA ξ).mono λe W' ⟨he,η⟩=>?_
 subst he;exact⟨_,rfl,_,_,_,[],_,[],γ,trodAll_mk1 (shut_bool Tryz.underlying4 _),(trodAll_cons_mk (shut_string Tryz.underlying9 w0) (trodAll_cons_mk (Below.trod laidOut' (by kernel_rfl) (of_decide_eq_true (by kernel_rfl)) ι η κ) trodAll_mk0)),rfl,η.frame _,λh=>by cases h⟩
theorem named:Tryz.pinned.checked.prog.funcNamed Rows.fnExactAfterLabelsRow.func=some 5:=by kernel_rfl
theorem inst:Tryz.f5.isInstance Tryz.pinned.checked.prog Rows.fnExactAfterLabelsRow.origin Rows.fnExactAfterLabelsRow.targs:=of_decide_eq_true (by kernel_rfl)
theorem wrapped:Tryz.f5.isWrapper Tryz.pinned.checked.prog Rows.fnExactAfterLabelsRow.wrapper Rows.fnExactAfterLabelsRow.mainSum:=by
 unfold Func.isWrapper;first | (rw [if_pos (by decide+kernel)];kernel_rfl) | (rw [if_neg (by decide+kernel)];exact⟨rfl,rfl⟩)
theorem closed:joinedFacts Tryz.pinned.checked.prog 5 Tryz.f5 Rows.fnExactAfterLabelsSpec Rows.fnExactAfterLabelsRow=true:=by kernel_rfl
theorem over:Rows.fnExactAfterLabelsRow.holds Tryz.pinned (OpenSpec.ofChange Rows.fnExactAfterLabelsSpec):=
 OpenClaim.holds_of_wide 5 Tryz.f5 rfl rfl rfl rfl rfl rfl rfl ⟨rfl,rfl,rfl,rfl,rfl⟩ rfl rfl rfl rfl rfl named Tryz.func5 closed inst wrapped
  (λos started H enc _=>lifted os started H enc)
theorem proved:Rows.FnExactAfterLabelsSaid:=over
#print axioms proved
end Go.Proofs.YthekamjhgabkjaaGreat.fnExactAfterLabels
