/- Proved: 'laws.FnExactPassedTests' returns true for whatever string and whatever slice of strings, and leaves memory as it was: the program's PassedTests returns what the reference's returns. No condition. -/
import Derived.Test.YtdecokaadekjnaaGreatW6
namespace Go.Proofs.YtdecokaadekjnaaGreat
open Go Go.RowKit T Classical
theorem Dr {p:Tx}{v2:Value}{l:List Tx}{w:World}(h:wO w v2 l)(hl:l.length<=maxLen){R:Bool->World->Prop}(hR:∀w',Ex w w'->R true w'):Calls Tryz.prog 10 #[.string (ab p),v2] w (an [.b] R):=by
 refine gM p v2 w R ?_;refine⟨λ _=>hR w (Ex.refl w),λ _=>Iz h hl λn hn=>⟨λ _=>hR w (Ex.refl w),λhp=>?_⟩⟩;have W:l.length<=1048576:=hn.resolve_left (by simpa using hp);have ω:=B5 p l;refine A6 h W λv5 w6 x6 o5=>HK o5.strs λv7 w9 x9 o7=>A6 (h.ex (Ex.trans x6 x9)) W λv10 w11 ε z=>Ev z.strs λv12 w14 G Z=>?_
 have s6:=x6.size;have s9:=x9.size;have s11:=ε.size;have s14:=G.size;refine D0 Z (o7.ex (Ex.trans ε G)) (by omega) λw16 H=>⟨λ _=>⟨λe=>by simp at e,λ _=>?_⟩,λe=>by simp at e⟩
 have s16:=H.size;have ζ:=Ex.trans x6 x9;have β:=Ex.trans ε (Ex.trans G H);refine A6 (h.ex (Ex.trans ζ β)) W λv17 w18 I ο=>Im (z.ex (Ex.trans G (Ex.trans H I))).strs ο.strs (by omega) λw20 α=>⟨λe=>by simp at e,λ _=>?_⟩
 have s18:=I.size;have s20:=α.size;have ι:=Ex.trans β (Ex.trans I α);refine FI (z.ex (Ex.trans G (Ex.trans H (Ex.trans I α)))) (by omega) λς η _=>⟨λ _=>?_,λe=>by simp only [JD]at e;omega⟩
 have s22:=η.size;have γ:Ex w9 ς:=Ex.below ι (Kp.below η (by omega) λg hg e=>by have :=(z.block g e).1;omega);have δ:=(Z.ex (Ex.trans H (Ex.trans I α))).kp η λg hg e=>by
  have :=(Z.block g hg).1;have :=(z.block g e).2;omega
 refine D0 δ (o7.ex γ) (by omega) λw24 θ=>⟨λ _=>⟨λe=>by simp at e,λ _=>?_⟩,λe=>by simp at e⟩
 have s24:=θ.size;refine FU (δ.ex θ) (by omega) λυ κ μ=>Ag μ (by omega) ⟨λe=>by simp only [JD]at e;omega,λ _=>⟨λe=>by simp at e,λ _=>?_⟩⟩
 have s26:=κ.size;have J:Ex w9 υ:=Ex.below (Ex.trans γ θ) (Kp.below κ (by omega) λg hg e=>by have :=(Z.block g e).1;omega);refine A6 (h.ex (Ex.trans ζ J)) W λv29 w30 ν φ=>Ev φ.strs λv31 w33 ξ χ=>D0 χ (o7.ex (Ex.trans J (Ex.trans ν ξ))) (by omega) λw35 ψ=>⟨λ _=>⟨λe=>by simp at e,λ _=>?_⟩,λe=>by simp at e⟩
 have V:=Ex.trans ν (Ex.trans ξ ψ);refine Ag (μ.ex V) (by omega) ⟨λe=>by simp only [JD]at e;omega,λ _=>⟨λe=>by simp at e,λ _=>?_⟩⟩;exact hR _ (Ex.trans ζ (Ex.trans J V))
theorem Cy (a:ByteArray):a=ab a.data.toList:=by cases a;simp [ab]
end Go.Proofs.YtdecokaadekjnaaGreat
namespace Go.Proofs.YtdecokaadekjnaaGreat.fnExactPassedTests
open Go Go.ChangeShapes Go.WideShapes Go.ChangeAt Go.RowKit
open Go.ChangeMaps (open_string shut_string)
theorem own:ownKnob Tryz.prog.godebug=none:=by kernel_rfl
theorem walk (a0:ByteArray)(v:Value)(l:List Tx)(w:World)(h:wO w v l)(z:l.length<=maxLen):
  Calls Tryz.prog 10 #[.string a0,v] w λe w'=>e= .returned (.bool true)/\Below w.heap.size w w':=by
 rw [Cy a0];refine(Dr h z (R:=λb w'=>b=true/\Below w.heap.size w w') λw' x=>⟨rfl,x⟩).mono ?_
 rintro e w' ⟨b,he,rfl,x⟩
 exact⟨he,x⟩
theorem laidOut':laidOutB Tryz.prog=true:=by kernel_rfl
theorem cells9:Tryz.prog.cellsOf 9=1:=by kernel_rfl
theorem strA_of {w:World}{a:Addr}{len cap:Nat}{G:List ByteArray}(hl:len<=G.length)(J:∀i,i< G.length->w.cell? (a.add i)=some (.string (G.getD i ByteArray.empty)))(V:∀s∈G,s.size<=maxLen):
  wO w (.slice (some a) len cap) ((G.take len).map λs=>s.data.toList):=by
 have hlen:((G.take len).map λs=>s.data.toList).length=len:=by rw [List.length_map,List.length_take];omega
 refine⟨⟨_,_,by rw [hlen]⟩,λi hi=>?_⟩;have W:i< len:=by omega
 have I:=J 0 (by omega);have z:=J i (by omega);have H:a.spot=none:=by simpa [Addr.add]using World.cell?_spot I
 obtain⟨b,off,sp⟩:=a;have H:sp=none:=H;subst H;rw [add_plain]at z;have Z:G.getD i ByteArray.empty=G[i]:=by simp [List.getD,List.getElem?_eq_getElem (show i< G.length by omega)]
 rw [Z]at z;refine⟨b,off,cap,by rw [hlen],Nat.lt_of_not_le λhn=>by
  have e:w.heap[b]?=none:=Array.getElem?_eq_none hn;unfold World.cell? at z;simp [e]at z,?_,?_⟩
 ·rw [z,List.getElem_map,List.getElem_take,<-Cy]
 ·rw [List.getElem_map,List.getElem_take];have :=V _ (List.getElem_mem (show i< G.length by omega));rw [Array.length_toList];exact this
set_option maxRecDepth 100000 in
theorem lifted (os:Os)(started:os.Started)(H:Type)(enc:TypeId×Value->H):
  ReturnsInHanded {} Tryz.checked os 10 .any (Rows.fnExactPassedTestsSpec.pre6 enc Tryz.prog Tryz.f10 Rows.fnExactPassedTestsRow.domain false) (Rows.fnExactPassedTestsSpec.post enc Tryz.prog Tryz.f10 false true false false):=by
 refine returnsInHanded_of_change (C:=Tryz.checked) own started (by kernel_rfl) Tryz.func10
  (ChangeSpec.witness6 (enc:=enc) (C:=Tryz.checked) false ⟨#[],#[.string ByteArray.empty,.slice none 0 0],[]⟩ 8 (by kernel_rfl) (by kernel_rfl) (by kernel_rfl) (by kernel_rfl)) ?_
 intro W base args ds gs before z hW ν _;have G:∀(j:Nat) t v,Tryz.f10.params[j]?=some t->args[j]?=some v->Value.okWide Tryz.prog W .any base t v:=z;have α:=hW;obtain⟨p,q,β,hV,rfl,ξ,ο⟩:=hW;have Z:DataW.TrodAll enc Tryz.prog W 0 (λ _=>true) true Tryz.f10.params.toList args.toList ds p:=β;rw [Tryz.params10]at Z G;obtain⟨v0,ς,d0,υ,p0,q0,ζ,rfl,rfl,h0,r0⟩:=trodAll_cons Z;obtain⟨v1,φ,d1,χ,p1,q1,rfl,rfl,rfl,h1,r1⟩:=trodAll_cons r0;obtain⟨rfl,rfl,rfl⟩:=trodAll_nil r1;obtain rfl:args=#[v0,v1]:=by cases args;simp_all
 obtain⟨rfl,rfl⟩:=trodVars_none hV;obtain⟨a0,rfl,rfl,rfl,w0⟩:=open_string Tryz.underlying9 (G 0 9 v0 rfl rfl) h0;have η:=h1;obtain⟨x1,len,cap,rfl⟩:=okWide_slice Tryz.underlying25 (G 1 25 v1 rfl rfl);obtain⟨fuel,hf⟩:=h1;clear β z;have γ:=α;simp only [List.append_nil]at γ;have θ:∀x∈p1,x.block< W.heap.size:=λx hx=>by simpa using γ.lt x (by simp [hx])
 have Z:∃l,wO W (.slice x1 len cap) l/\l.length<=maxLen:=by
  rcases open_strings Tryz.underlying25 Tryz.underlying9 cells9 hf with⟨J,hx⟩ | ⟨a,I,δ,ss,J,_,hl,hm,hz,hx,V,ι⟩
  ·have e:(Value.slice x1 len cap)= .slice none 0 0:=by simpa [Value.cells]using J
   exact⟨[],by rw [e];exact⟨⟨_,_,rfl⟩,λi hi=>by simp at hi⟩,by simp⟩
  ·have e:(Value.slice x1 len cap)= .slice (some a) I δ:=by simpa [Value.cells]using J
   have κ:I<=ss.length:=by rw [hz];split<;>omega
   exact⟨_,by rw [e];exact strA_of κ V ι,by rw [List.length_map,List.length_take];omega⟩
 obtain⟨l,Z,μ⟩:=Z;refine(walk a0 _ l W Z μ).mono λe W' ⟨he,ε⟩=>?_
 subst he;exact⟨_,rfl,_,_,_,[],_,[],α,trodAll_mk1 (shut_bool Tryz.underlying4 _),(trodAll_cons_mk (shut_string Tryz.underlying9 w0) (trodAll_cons_mk (Below.trod laidOut' (by kernel_rfl) (of_decide_eq_true (by kernel_rfl)) η ε θ) trodAll_mk0)),rfl,ε.frame _,λh=>by cases h⟩
theorem named:Tryz.pinned.checked.prog.funcNamed Rows.fnExactPassedTestsRow.func=some 10:=by kernel_rfl
theorem inst:Tryz.f10.isInstance Tryz.pinned.checked.prog Rows.fnExactPassedTestsRow.origin Rows.fnExactPassedTestsRow.targs:=of_decide_eq_true (by kernel_rfl)
theorem wrapped:Tryz.f10.isWrapper Tryz.pinned.checked.prog Rows.fnExactPassedTestsRow.wrapper Rows.fnExactPassedTestsRow.mainSum:=by
 unfold Func.isWrapper;first | (rw [if_pos (by decide+kernel)];kernel_rfl) | (rw [if_neg (by decide+kernel)];exact⟨rfl,rfl⟩)
theorem closed:joinedFacts Tryz.pinned.checked.prog 10 Tryz.f10 Rows.fnExactPassedTestsSpec Rows.fnExactPassedTestsRow=true:=by kernel_rfl
theorem over:Rows.fnExactPassedTestsRow.holds Tryz.pinned (OpenSpec.ofChange Rows.fnExactPassedTestsSpec):=
 OpenClaim.holds_of_wide 10 Tryz.f10 rfl rfl rfl rfl rfl rfl rfl ⟨rfl,rfl,rfl,rfl,rfl⟩ rfl rfl rfl rfl rfl named Tryz.func10 closed inst wrapped
  (λos started H enc _=>lifted os started H enc)
theorem proved:Rows.FnExactPassedTestsSaid:=over
#print axioms proved
end Go.Proofs.YtdecokaadekjnaaGreat.fnExactPassedTests
