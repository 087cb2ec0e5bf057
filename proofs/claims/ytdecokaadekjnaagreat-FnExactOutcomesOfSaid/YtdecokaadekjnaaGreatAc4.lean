/- Part 4 of a proof of what the last text states; no condition. -/
import Derived.Test.YtdecokaadekjnaaGreatAc3
set_option maxRecDepth 100000
set_option maxHeartbeats 4000000
namespace Go.Proofs.YtdecokaadekjnaaGreat
open Go Go.RowKit
theorem vy {D:Nat->Prop}{w:World}{v:Value}{o:List Nat}{l:Lv}(h:fK D w v o (af D w l))(φ:l.sh true=true)(htot:o.length+l.tot<=4294967295)(huq:tV (Lv.tidy o l).1 (Lv.tidy o l).2)(hfr:∀x,x∉(Lv.tidy o l).1->(Lv.tidy o l).2.fh x->x< 26){R:aF->Bool->PV}
  (hR:∀w',Ex w w'->(∀s,Bj (Lv.tidy o l)=some s->R s true w')/\(Bj (Lv.tidy o l)=none->R [] false w')):PW 216 #[v] w (aw [.s,.b] R):=by
 refine lj v w R ?_;dsimp only [go_sem];dsimp only [go_sem,UInt8.reduceOfNat,UInt32.reduceOfNat,Nat.reduceAdd];refine Fq _ (Mu _) φ h (by omega) λv2 w3 x3 h2=>?_
 have htt:=n7 o l;have W:(Lv.tidy o l).2.sh true=true:=Lv.dB _ _ φ;have χ:(Lv.tidy o l).2.sm=true:=Lv.m5 _;generalize hr:Lv.tidy o l=r at*;obtain⟨V,G⟩:=r;simp only at*;have hst:=Lv.jB G;have hN:∀b,Bj (V,G)=b->(b=none->∀w',Ex w w'->R [] false w'):=λb e1 e2 w' x=>(hR w' x).2 (e1.trans e2)
 refine Gk _ (o:=V) (l:=G) (Mu _) W h2 (by show V.length+G.tot<=_;omega) λw6 x6=>?_
 have κ:Ex w w6:=Ex.trans x3 x6;have Z:¬(max V.length (an G)<=5/\V.length+thAll G<=8)->Bj (V,G)=none:=λhc=>by unfold Bj;rw [MJ (λh=>hc h.1)]
 by_cases h5:5< max V.length (an G)
 ·exact dE (by omega) ((hR w6 κ).2 (Z (by omega)))
 refine ck (by omega) ?_;by_cases h8:8< V.length+thAll G
 ·exact cN (by omega) ((hR w6 κ).2 (Z (by omega)))
 refine aT (by omega) λb7 w8 hb7 μ=>⟨trivial,λb9 γ δ J=>?_⟩
 have x8:Ex w6 w8:=μ▸Ex.alloc w6 _;have ψ:Ex w8 γ:=J▸Ex.alloc w8 _;have s8:w8.heap.size=w6.heap.size+1:=by rw [μ,size_alloc]
 have s10:γ.heap.size=w8.heap.size+1:=by rw [J,size_alloc]
 have s6:=x6.size;have s3:=x3.size;have e7:γ.heap[b7]?=some (.map #[] 0):=by
  rw [ψ.block b7 (by omega),μ,hb7];unfold World.alloc;simp
 have n10:Nm γ b9 b7 ρN (Eo G 0) false:=by
  refine⟨by omega,by omega,by omega,by rw [J,δ];exact aa rfl,⟨dj [],⟨#[],0,e7,⟨by simp,by simp,by simp⟩,by simp,λq=>rfl⟩,LF⟩,⟨0,by rw [J,δ];exact aa rfl,λc _=>?_⟩,by rw [J,δ];exact aa rfl,λj=>by rw [J,δ];exact aS _ _ _ _⟩;rw [Gb];simp
 have h3:fK (λg=>Da w g/\g< w3.heap.size) w3 v2 V (af (λg=>Da w g/\g< w3.heap.size) w3 G):=az.sub (L:=(V,G)) h2 λg hg hd=>⟨hd,hg⟩
 have hD:∀g,(Da w g/\g< w3.heap.size)->¬(g=b9\/g=b7):=λg hg=>by omega
 have η:∀{w1:World},Ex w3 w1->fK (λg=>Da w g/\g< w3.heap.size) w1 v2 V (af (λg=>Da w g/\g< w3.heap.size) w1 G):=λk=>fK.ex h3 k
 refine⟨λx w'=>∃i:Nat,x=i/\i<=26/\Ex w6 w'/\Nm w' b9 b7 ρN (Eo G i) false,λx _=>(26 - x).toNat,⟨0,rfl,by omega,Ex.trans x8 ψ,n10⟩,λx w14 hI=>?_⟩;obtain⟨i,rfl,hi,α,ν⟩:=hI;refine⟨λhlt=>?_,λhge=>?_⟩
 ·have ξ:i< 26:=by simp only [Mz]at hlt;omega
  obtain⟨eb1,eb2,eb3⟩:=H8 ξ;refine Jy _ (Mu _) W (η (Ex.trans x6 α)) (by omega) λε ω=>?_
  have ζ:=ν.ex ω;have θ:Ex w6 ε:=Ex.trans α ω;refine⟨λhh=>⟨λw'=>Ex ε w',λw18 hw18=>?_⟩,λhh=>⟨by omega,⟨i+1,by omega,by omega,θ,KX ζ λc hc=>(Ar ξ c hc).2 hh⟩,by show((26:Int) - ((i:Int)+1)).toNat< ((26:Int) - i).toNat;omega⟩⟩;have ο:Ex ε w18:=hw18▸Ex.drew ε;obtain⟨y,hy,hyt⟩:=ζ.c1;have ς:=ζ.ex ο;obtain⟨y',hy',_⟩:=ς.c1;refine⟨ο,y,λw' x'=>by rw [x'.cell (show b9< _ from ζ.lt)];exact hy,by omega,⟨⟨_,hy'⟩,ς.f 1⟩,λw21 ι=>⟨by omega,⟨i+1,by omega,by omega,?_,?_⟩,by show((26:Int) - ((i:Int)+1)).toNat< ((26:Int) - i).toNat;omega⟩⟩
  ·exact ι▸Ex.own (Ex.trans θ ο) (by omega) _
  ·refine KX (ς.set (tk':=cu (Eo G i) (UInt8.ofNat (97+i))) (bad':=false) ι (.inl ⟨rfl,rfl,_,rfl,?_⟩)) λc hc=>(Ar ξ c hc).1 hh
   rw [Mv,eb1];exact hyt.add eb2
 ·have:i=26:=by simp only [Mw]at hge;omega
  subst this;rw [Hn]at ν;have hlS:aR V (thS G) ρN (kX G)=aR V (thS G) ρ0 (kX G):=dK (H:=λx=>G.fh x) (λρ ρ' tk=>gP G ρ ρ' tk) (λρ ρ' tk h=>sG G ρ ρ' tk h) λx hx hf=>by
   have :=hfr x hx hf;unfold ρN ρ0;rw [MZ this]
  refine KO _ (Mu _) W χ huq (η (Ex.trans x6 α)) hD ν (by omega) λυ ρ' k23 n23 _=>⟨_,n23.c2,?_⟩
  rw [hlS,O9];have x23:Ex w6 υ:=Ex.below α (Kp.below k23 α.size λg hg e=>by omega);have β:Ex w υ:=Ex.trans κ x23;refine⟨λhb=>zn λq w26 x26 hq=>⟨λh=>(hR w26 (Ex.trans β x26)).2 ?_,λh=>(hR w26 (Ex.trans β x26)).1 _ ?_⟩,λhb=>(hR υ β).2 ?_⟩
  ·unfold Bj;have:¬di (aR V (thS G) ρ0 (kX G)):=λhg=>by rw [hq.2 hg]at h;cases h
   rw [MJ (λh=>this h.2.2)]
  ·unfold Bj;have:di (aR V (thS G) ρ0 (kX G)):=hq.1 (by cases q<;>first | rfl | cases h);rw [MZ ⟨⟨by show max V.length (an G)<=5;omega,by show V.length+thAll G<=8;omega⟩,hb,this⟩]
  ·unfold Bj;rw [MJ (λh=>by have :=h.2.1;rw [hb]at this;cases this)]
end Go.Proofs.YtdecokaadekjnaaGreat
namespace Go.Proofs.YtdecokaadekjnaaGreat
open Go
attribute [go_sem] Tryz.f92
theorem wS (n1:aF)(w:World)(R:Value->PV)(h:vc ay (a6 [] [] [(3,true,.lt 0 (.lt 1 (.lt 2 (.lt 3 (.lt 4 (.one .n 5 (.one .n 6 (.one .n 7 (.lt 8 (.lt 9 (.one .n 10 .done)))))))))))]) (ab Tryz.f92) (ai 0 [.s n1]) w (fin ay [.tmp 2 .v] R)):
  PW 92 #[(.string (ax n1))] w (aw [.v] R):=
 bc Tryz.func92 (by kernel_rfl) h
attribute [go_sem] Tryz.f135
theorem qQ (G:aF)(w:World)(R:Value->Bool->PV)(h:vc ay (a6 [] [] []) (ab Tryz.f135) (ai 0 [.s G]) w (fin ay [.tmp 2 .v,.tmp 3 .b] R)):
  PW 135 #[(.string (ax G))] w (aw [.v,.b] R):=
 bc Tryz.func135 (by kernel_rfl) h
theorem eh (t1:Value)(w:World)(R:Value->PV)(h:cw t1 λb2 o3=>zR w b2 (o3+0) λc4=>∃J5:Bool->PV,(bS (decide (c4=126)) (J5 ((decide (c4=126))) w) (bS (decide (c4=33)) (J5 ((decide (c4=33))) w) (J5 ((decide (c4=63))) w)))/\∀(x6:Bool) (w7:World),J5 x6 w7->bS x6 (j4 w7 λS8 w9=>cw t1 λb10 o11=>KZ S8 b10 (o11+0) λc12=>cw t1 λb13 o14=>wk S8 b13 (o14+1) λn15=>cw t1 λb16 o17=>wk S8 b16 (o17+2) λn18=>cw t1 λb19 o20=>eo S8 b19 (o20+3) λv21=>aB v21=true/\dQ w9 (.cells #[(.int .u8 c12.toNat),(.int .i64 n15),(.int .i64 n18),v21,(.bool false)] 160) λb22 κ=>S8 κ/\R ((.slice (some ⟨b22,0,none⟩) 1 1)) κ) (bS (decide (c4=42)) (dQ w7 (.cells #[] 160) λb24 η=>cw t1 λb26 o27=>cY η b26 (o27+3) λv28=>cw v28 λb29 o30=>cY η b29 (o30+1) λv31=>jS v31 λl33=>Jr ((.slice (some ⟨b24,0,none⟩) 0 0)) 0 η λμ γ W G H=>bS (decide (G< (l33:Int))) (jc v31 G λb40 o41=>cY H b40 (o41+G.toNat* 1) λδ=>cw δ λb45 o46=>zR H b45 (o46+0) λc47=>bS (decide (c47=63)) (j4 H λZ w49=>cw δ λb50 o51=>wk Z b50 (o51+1) λn52=>cw δ λb53 o54=>wk Z b53 (o54+2) λn55=>cw δ λb56 o57=>eo Z b56 (o57+3) λν=>aB ν=true/\dQ w49 (.cells #[(.int .u8 (UInt8.toNat 63)),(.int .i64 n52),(.int .i64 n55),ν,(.bool true)] 160) λb59 ξ=>Z ξ/\nJ 160 5 40 ξ W (.slice (some ⟨b59,0,none⟩) 1 1) λο θ=>Z θ/\bJ (G+1)/\μ ο (G+1) θ/\γ ο (G+1) θ< γ W G H) (bJ (G+1)/\μ W (G+1) H/\γ W (G+1) H< γ W G H)) (R W H)) (bS (decide (c4=43)) (dQ w7 (.cells #[] 160) λb68 ς=>cw t1 λb70 o71=>cY ς b70 (o71+4) λv72=>jS v72 λl74=>Jr ((.slice (some ⟨b68,0,none⟩) 0 0)) 0 ς λI76 υ ι J α=>bS (decide (J< (l74:Int))) (jc v72 J λb81 o82=>cY α b81 (o82+J.toNat* 1) λv85=>cw v85 λb86 o87=>cY α b86 (o87+1) λφ=>jS φ λl90=>Jr ι 0 α λI92 χ ε V β=>bS (decide (V< (l90:Int))) (jc φ V λb97 o98=>cY β b97 (o98+V.toNat* 1) λψ=>xL 140 #[ψ] β λω w103=>nJ 160 5 40 w103 ε ω λv109 ζ=>bJ (V+1)/\I92 v109 (V+1) ζ/\χ v109 (V+1) ζ< χ ε V β) (bJ (J+1)/\I76 ε (J+1) β/\υ ε (J+1) β< υ ι J α)) (R ι α)) (R (.slice none 0 0) w7)))):
  PW 140 #[t1] w (aw [.v] R):=
 IJ (a6 [(9,[(3,.v),(48,.i)]),(18,[(6,.v),(83,.i)]),(21,[(6,.v),(92,.i)])] [(5,[(15,.b)])] [(5,true,.lt 0 (.lt 1 (.lt 2 (.lt 3 (.lt 4 (.lt 5 (.lt 6 (.lt 7 (.lt 8 (.lt 9 (.lt 10 (.lt 11 (.lt 12 (.lt 13 (.lt 14 (.lt 15 (.lt 16 (.one .g 17 (.lt 18 .done))))))))))))))))))),(12,true,.lt 0 (.lt 1 (.lt 2 (.lt 3 (.lt 4 (.lt 5 (.lt 6 (.lt 7 (.lt 8 (.lt 9 (.lt 10 (.lt 11 (.lt 12 (.lt 13 (.one .g 14 (.one .g 15 (.lt 16 .done)))))))))))))))))]) [.tmp 2 .v] [.v t1] Tryz.func140 (by kernel_rfl) h
attribute [go_sem] Tryz.f223
theorem me (s1:Value)(v2:Int)(w:World)(R:Int->PV)(h:vc ay (a6 [(2,[(8,.i)])] [] []) (ab Tryz.f223) (ai 0 [.v s1,.i v2]) w (fin ay [.tmp 4 .i] R)):
  PW 223 #[s1,(.int .i64 v2)] w (aw [.i] R):=
 bc Tryz.func223 (by kernel_rfl) h
attribute [go_sem] Tryz.f188
theorem jv (s1:Value)(v2:Int)(w:World)(R:Bool->PV)(h:vc ay (a6 [] [] []) (ab Tryz.f188) (ai 0 [.v s1,.i v2]) w (fin ay [.tmp 4 .b] R)):
  PW 188 #[s1,(.int .i64 v2)] w (aw [.b] R):=
 bc Tryz.func188 (by kernel_rfl) h
attribute [go_sem] Tryz.f176
theorem my (s1:Value)(g2:Value)(G:Value)(m4:Value)(w:World)(R:aF->Bool->PV)(h:vc ay (a6 [(3,[(27,.i)]),(9,[(49,.i)])] [] []) (ab Tryz.f176) (ai 0 [.v s1,.v g2,.v G,.v m4]) w (fin ay [.tmp 8 .s,.tmp 9 .b] R)):
  PW 176 #[s1,g2,G,m4] w (aw [.s,.b] R):=
 bc Tryz.func176 (by kernel_rfl) h
attribute [go_sem] Tryz.f99
theorem mu (G:Value)(s2:aF)(H:Bool)(w:World)(R:PV)(h:vc ay (a6 [] [] []) (ab Tryz.f99) (ai 0 [.v G,.s s2,.b H]) w (fin ay [] R)):
  PW 99 #[G,(.string (ax s2)),(.bool H)] w (aw [] R):=
 bc Tryz.func99 (by kernel_rfl) h
attribute [go_sem] Tryz.f239
theorem jI (G:Int)(c2:Value)(w:World)(R:Int->PV)(h:vc ay (a6 [] [] []) (ab Tryz.f239) (ai 0 [.i G,.v c2]) w (fin ay [.tmp 3 .i] R)):
  PW 239 #[(.int .i64 G),c2] w (aw [.i] R):=
 bc Tryz.func239 (by kernel_rfl) h
theorem kN (m1:Value)(l2:Value)(t3:Value)(w:World)(R:Value->PV)(h:aB t3=true/\dQ w (.cells #[t3] 226) λb4 w5=>dQ w5 (.cells #[(.slice none 0 0),(.slice none 0 0)] 155) λb6 w7=>cw l2 λb8 o9=>cY w7 b8 (o9+0) λv10=>jS v10 λl12=>tY 0 w7 λI14 m15 Z η=>bS (decide (Z< (l12:Int))) (jc v10 Z λb18 o19=>JL η b18 (o19+Z.toNat* 1) λn22=>j4 η λS23 w24=>eo S23 b4 0 λv25=>FK 178 #[m1] w24 λn26 w27=>S23 w27/\∃(ο:Nat) (m29:Value->Option Value),v25= .map (some ο)/\IsMap w27 ο (.int .i64) m29/\∀w30:World,IsMap w30 ο (.int .i64) (ef m29 (.int .i64 n22) (.int .i64 n26))->cX w27 w30 ο->j4 w30 λθ A9=>eo θ b6 0 λv33=>eo θ b4 0 λv34=>∃(r35:Nat) (m36:Value->Option Value),v34= .map (some r35)/\IsMap A9 r35 (.int .i64) m36/\∃y37:Int,∃g38:Bool,((g38=true/\m36 (.int .i64 n22)=some (.int .i64 y37))\/(g38=false/\m36 (.int .i64 n22)=none/\(Value.int .i64 y37)=(.int .i64 0)))/\θ A9/\dQ A9 (.cells #[(.int .i64 y37)] 3) λb39 w40=>θ w40/\nJ 3 1 8 w40 v33 (.slice (some ⟨b39,0,none⟩) 1 1) λv46 w47=>θ w47/\aB v46=true/\jW w47 b6 0 v46 λw49=>bJ (Z+1)/\I14 (Z+1) w49/\m15 (Z+1) w49< m15 Z η) (cw l2 λb50 o51=>cY η b50 (o51+1) λv52=>jS v52 λl54=>tY 0 η λI56 m57 α ι=>bS (decide (α< (l54:Int))) (jc v52 α λb60 o61=>cY ι b60 (o61+α.toNat* 1) λG=>cw G λb65 o66=>zR ι b65 (o66+0) λc67=>dQ ι (.cells #[(.int .u8 c67.toNat),(.int .i64 0),(.int .i64 0),(.pointer none),(.slice none 0 0)] 201) λJ β=>∃ζ:PV,(cw G λb71 o72=>zR β b71 (o72+0) λς=>bS (decide (ς=63)) (cw G λb74 o75=>JL β b74 (o75+1) λn76=>∃(f77:Nat) (c78:List Value),(Value.func (.func 239) #[] #[(.pointer (some ⟨b4,0,none⟩))])= .func (.func f77) #[] (List.toArray c78)/\hasR fV f77=true/\FK f77 (List.toArray ([(.int .i64 n76)]++c78)) β λn79 w80=>jW w80 J 1 (.int .i64 n79) λw82=>j4 w82 λS83 w84=>eo S83 b4 0 λv85=>cw G λb86 o87=>wk S83 b86 (o87+2) λn88=>FK 178 #[m1] w84 λn89 w90=>S83 w90/\∃(υ:Nat) (m92:Value->Option Value),v85= .map (some υ)/\IsMap w90 υ (.int .i64) m92/\∀w93:World,IsMap w93 υ (.int .i64) (ef m92 (.int .i64 n88) (.int .i64 n89))->cX w90 w93 υ->j4 w93 λS94 w95=>eo S94 b4 0 λv96=>cw G λb97 o98=>wk S94 b97 (o98+2) λn99=>∃(φ:Nat) (κ:Value->Option Value),v96= .map (some φ)/\IsMap w95 φ (.int .i64) κ/\∃μ:Int,∃χ:Bool,((χ=true/\κ (.int .i64 n99)=some (.int .i64 μ))\/(χ=false/\κ (.int .i64 n99)=none/\(Value.int .i64 μ)=(.int .i64 0)))/\jW w95 J 2 (.int .i64 μ) λw105=>ζ w105) (bS (decide (ς=33)) (bS (decide (ς=33)) (j4 β λγ w107=>cw G λb108 o109=>wk γ b108 (o109+1) λn110=>cw G λb111 o112=>wk γ b111 (o112+2) λn113=>∃(f114:Nat) (ψ:List Value),(Value.func (.func 239) #[] #[(.pointer (some ⟨b4,0,none⟩))])= .func (.func f114) #[] (List.toArray ψ)/\hasR fV f114=true/\FK f114 (List.toArray ([(.int .i64 n110)]++ψ)) w107 λn116 ω=>γ ω/\∃(f118:Nat) (c119:List Value),(Value.func (.func 239) #[] #[(.pointer (some ⟨b4,0,none⟩))])= .func (.func f118) #[] (List.toArray c119)/\hasR fV f118=true/\FK f118 (List.toArray ([(.int .i64 n113)]++c119)) ω λn120 w121=>γ w121/\jW w121 J 1 (.int .i64 n116) λw123=>jW w123 J 2 (.int .i64 n120) λw125=>ζ w125) (ζ β)) (bS (decide (ς=61)) (j4 β λδ w127=>cw G λb128 o129=>wk δ b128 (o129+1) λn130=>cw G λb131 o132=>wk δ b131 (o132+2) λn133=>∃(f134:Nat) (c135:List Value),(Value.func (.func 239) #[] #[(.pointer (some ⟨b4,0,none⟩))])= .func (.func f134) #[] (List.toArray c135)/\hasR fV f134=true/\FK f134 (List.toArray ([(.int .i64 n130)]++c135)) w127 λn136 w137=>δ w137/\∃(f138:Nat) (c139:List Value),(Value.func (.func 239) #[] #[(.pointer (some ⟨b4,0,none⟩))])= .func (.func f138) #[] (List.toArray c139)/\hasR fV f138=true/\FK f138 (List.toArray ([(.int .i64 n133)]++c139)) w137 λn140 w141=>δ w141/\jW w141 J 1 (.int .i64 n136) λw143=>jW w143 J 2 (.int .i64 n140) λw145=>ζ w145) (ζ β))))/\∀(ε:World),ζ ε->∃ν:PV,(cw G λb148 o149=>cY ε b148 (o149+3) λv150=>∃q151:Option Addr,v150= .pointer q151/\bS (!Option.isNone q151) (j4 ε λS152 w153=>cw G λb154 o155=>eo S152 b154 (o155+3) λv156=>eo S152 b4 0 λv157=>xL 217 #[m1,v156,v157] w153 λv158 w159=>aB v158=true/\jW w159 J 3 v158 λw161=>ν w161) (ν ε))/\∀(ξ:World),ν ξ->cw G λb163 o164=>cY ξ b163 (o164+4) λv165=>jS v165 λl167=>tY 0 ξ λI169 m170 H V=>bS (decide (H< (l167:Int))) (jc v165 H λb173 o174=>cY V b173 (o174+H.toNat* 1) λv177=>j4 V λW w179=>eo W J 4 λv180=>eo W b4 0 λv181=>xL 217 #[m1,v177,v181] w179 λv182 w183=>W w183/\aB v182=true/\dQ w183 (.cells #[v182] 146) λb184 w185=>W w185/\nJ 146 1 8 w185 v180 (.slice (some ⟨b184,0,none⟩) 1 1) λv191 w192=>W w192/\aB v191=true/\jW w192 J 4 v191 λw194=>bJ (H+1)/\I169 (H+1) w194/\m170 (H+1) w194< m170 H V) (cY V b6 1 λv195=>dQ V (.cells #[(.pointer (some ⟨J,0,none⟩))] 156) λb196 w197=>nJ 156 1 8 w197 v195 (.slice (some ⟨b196,0,none⟩) 1 1) λv203 w204=>aB v203=true/\jW w204 b6 1 v203 λw206=>bJ (α+1)/\I56 (α+1) w206/\m57 (α+1) w206< m57 α ι)) (R ((.pointer (some ⟨b6,0,none⟩))) ι))):
  PW 217 #[m1,l2,t3] w (aw [.v] R):=
 IJ (a6 [(3,[(23,.i)]),(10,[(50,.i)]),(24,[(132,.i)])] [(21,[]),(23,[])] [(5,true,.lt 0 (.lt 1 (.lt 2 (.one .g 3 (.one .n 4 .done))))),(6,true,.lt 0 (.lt 1 (.lt 2 (.lt 3 (.lt 4 (.lt 5 (.lt 6 (.one .g 7 (.one .g 8 (.one .g 9 (.lt 10 (.lt 11 (.one .n 12 .done))))))))))))),(16,true,.lt 0 (.lt 1 (.lt 2 (.lt 3 (.lt 4 (.lt 5 (.one .g 6 (.one .n 7 .done)))))))),(17,true,.lt 0 (.lt 1 (.lt 2 (.lt 3 (.lt 4 (.lt 5 (.one .n 6 (.lt 7 (.lt 8 (.one .n 9 .done)))))))))),(20,true,.lt 0 (.lt 1 (.lt 2 (.lt 3 (.lt 4 (.lt 5 (.lt 6 (.lt 8 (.lt 9 (.lt 10 (.lt 11 (.lt 12 (.one .g 7 (.one .g 13 (.lt 14 (.lt 15 (.one .n 16 (.lt 17 (.lt 18 (.one .n 19 .done)))))))))))))))))))),(22,true,.lt 0 (.lt 1 (.lt 2 (.lt 3 (.lt 4 (.lt 5 (.lt 6 (.one .n 7 (.lt 8 (.lt 9 (.one .n 10 .done))))))))))),(26,true,.lt 0 (.lt 1 (.lt 2 (.lt 3 (.lt 4 (.lt 5 (.lt 6 (.lt 7 (.one .g 8 (.one .g 9 (.one .g 10 (.lt 11 (.lt 12 (.one .n 13 .done))))))))))))))]) [.tmp 6 .v] [.v m1,.v l2,.v t3] Tryz.func217 (by kernel_rfl) h
attribute [go_sem] Tryz.f177
theorem jy (s1:Value)(G:Value)(H:Int)(w:World)(R:Value->PV)(h:vc ay (a6 [] [] [(1,true,.lt 0 (.lt 1 (.lt 2 (.lt 3 (.lt 4 (.lt 6 (.lt 7 (.lt 8 (.one .g 5 (.one .g 9 (.lt 10 (.one .g 11 (.lt 12 .done)))))))))))))]) (ab Tryz.f177) (ai 0 [.v s1,.v G,.i H]) w (fin ay [.tmp 6 .v] R)):
  PW 177 #[s1,G,(.int .i64 H)] w (aw [.v] R):=
 bc Tryz.func177 (by kernel_rfl) h
theorem iw (s1:Value)(w:World)(R:Value->PV)(h:jS s1 λl3=>bS (decide ((l3:Int)< 2)) (R s1 w) (tY 1 w λI5 m6 J w8=>jS s1 λψ=>bS (decide (J< (ψ:Int))) (j4 w8 λξ κ=>jc s1 J λω o15=>GP ξ ω (o15+J.toNat* 1) λs18=>bJ (J - 1)/\jc s1 (J - 1) λb19 o20=>GP ξ b19 (o20+Int.toNat (J - 1)* 1) λs23=>bS (decide (s18=s23)) (∃(a24:Option Addr) (W V:Nat),s1= .slice a24 W V/\0<=(J:Int)/\(J:Int)<=(W:Int)/\(W:Int)<=(V:Int)/\LP J 1 κ λο α G H Z=>jS (.slice (if V=J.toNat then a24 else Option.map (·.add (J.toNat* 1)) a24) (Int.toNat (W:Int) - J.toNat) (V - J.toNat)) λl33=>bS (decide (H< (l33:Int))) (j4 Z λς β=>jc (.slice (if V=J.toNat then a24 else Option.map (·.add (J.toNat* 1)) a24) (Int.toNat (W:Int) - J.toNat) (V - J.toNat)) H λb37 o38=>GP ς b37 (o38+H.toNat* 1) λs41=>bJ (H - 1)/\jc (.slice (if V=J.toNat then a24 else Option.map (·.add (J.toNat* 1)) a24) (Int.toNat (W:Int) - J.toNat) (V - J.toNat)) (H - 1) λb42 o43=>GP ς b42 (o43+Int.toNat (H - 1)* 1) λs46=>bS (!decide (s41=s46)) (jc (.slice (if V=J.toNat then a24 else Option.map (·.add (J.toNat* 1)) a24) (Int.toNat (W:Int) - J.toNat) (V - J.toNat)) H λb47 o48=>HJ β b47 (o48+H.toNat* 1) λs51=>jc s1 G λb52 o53=>jW β b52 (o53+G.toNat* 1) (.string (ax s51)) λυ=>bJ (G+1)/\bJ (H+1)/\ο (G+1) (H+1) υ/\α (G+1) (H+1) υ< α G H Z) (bJ (H+1)/\ο G (H+1) β/\α G (H+1) β< α G H Z)) (∃(μ:Option Addr) (γ δ:Nat),s1= .slice μ γ δ/\0<=(G:Int)/\(G:Int)<=(γ:Int)/\(γ:Int)<=(δ:Int)/\∃(φ:Option Addr) (ε c63:Nat),(Value.slice (if δ=G.toNat then μ else Option.map (·.add (G.toNat* 1)) μ) (Int.toNat (γ:Int) - G.toNat) (δ - G.toNat))= .slice φ ε c63/\((ε=0/\∃(ν:Option Addr) (l68 ζ:Nat),s1= .slice ν l68 ζ/\0<=(0:Int)/\(0:Int)<=G/\G<=(ζ:Int)/\R ((.slice (if ζ=Int.toNat 0 then ν else Option.map (·.add (Int.toNat 0* 1)) ν) (G.toNat - Int.toNat 0) (ζ - Int.toNat 0))) Z)\/∃(η θ:Nat),φ=some ⟨η,θ,none⟩/\(∀j,j< ε->(∃u,World.cell? Z ⟨η,θ+j,none⟩=some u)/\World.frozen? Z ⟨η,θ+j,none⟩=false)/\∀χ:World,χ=World.setCells Z η θ (List.replicate ε (.string ⟨#[]⟩))->∃(a70:Option Addr) (l71 ι:Nat),s1= .slice a70 l71 ι/\0<=(0:Int)/\(0:Int)<=G/\G<=(ι:Int)/\R ((.slice (if ι=Int.toNat 0 then a70 else Option.map (·.add (Int.toNat 0* 1)) a70) (G.toNat - Int.toNat 0) (ι - Int.toNat 0))) χ))) (bJ (J+1)/\I5 (J+1) κ/\m6 (J+1) κ< m6 J w8)) (R s1 w8))):
  PW 149 #[s1] w (aw [.v] R):=
 IJ (a6 [(4,[(3,.i)]),(9,[(3,.i),(5,.i)])] [] [(6,true,.lt 0 (.lt 1 (.lt 2 (.lt 3 (.lt 4 (.lt 5 (.lt 6 (.lt 7 (.lt 8 (.lt 9 .done)))))))))),(11,true,.lt 0 (.lt 1 (.lt 2 (.lt 3 (.lt 4 (.lt 5 (.lt 6 (.lt 7 (.lt 8 (.lt 9 .done))))))))))]) [.tmp 2 .v] [.v s1] Tryz.func149 (by kernel_rfl) h
attribute [go_sem] Tryz.f100
theorem j9 (G:Value)(w:World)(R:Value->Bool->PV)(h:vc ay (a6 [] [] []) (ab Tryz.f100) (ai 0 [.v G]) w (fin ay [.tmp 2 .v,.tmp 3 .b] R)):
  PW 100 #[G] w (aw [.v,.b] R):=
 bc Tryz.func100 (by kernel_rfl) h
theorem ik (s1:Value)(w:World)(R:Value->Bool->PV)(h:dQ w (.cells #[(.slice none 0 0),(.bool false)] 115) λb2 w3=>cw s1 λb4 o5=>cY w3 b4 (o5+2) λv6=>cw v6 λb7 o8=>cY w3 b7 (o8+1) λv9=>jS v9 λl11=>tY 0 w3 λI13 m14 α χ=>bS (decide (α< (l11:Int))) (jc v9 α λb17 o18=>cY χ b17 (o18+α.toNat* 1) λv21=>xL 140 #[v21] χ λv22 w23=>jS v22 λl25=>tY 0 w23 λI27 ψ J γ=>bS (decide (J< (l25:Int))) (jc v22 J λκ μ=>∃c35:UInt8,∃n36:Int,∃n37:Int,∃v38:Value,∃q39:Bool,(World.cell? γ ⟨κ,(μ+J.toNat* 5),none⟩=some (.int .u8 c35.toNat)/\World.cell? γ ⟨κ,((μ+J.toNat* 5)+1),none⟩=some (.int .i64 n36)/\World.cell? γ ⟨κ,(((μ+J.toNat* 5)+1)+1),none⟩=some (.int .i64 n37)/\World.cell? γ ⟨κ,((((μ+J.toNat* 5)+1)+1)+1),none⟩=some v38/\World.cell? γ ⟨κ,(((((μ+J.toNat* 5)+1)+1)+1)+1),none⟩=some (.bool q39)/\True)/\dQ γ (.cells #[(.int .u8 0),(.int .i64 0),(.int .i64 0),(.pointer none),(.bool false)] 160) λη w41=>It w41 η 0 5 [(.int .u8 c35.toNat),(.int .i64 n36),(.int .i64 n37),v38,(.bool q39)] λw42=>∃ω:PV,(zR w42 η 0 λc44=>bS (decide (c44=126)) (j4 w42 λβ w46=>cw s1 λb47 o48=>eo β b47 (o48+2) λv49=>cw v49 λb50 o51=>eo β b50 (o51+0) λv52=>eo β η 3 λv53=>(dQ w46 (.cells #[(.int .i64 α)] 3) λb54 w55=>β w55/\aB v53=true/\dQ w55 (.cells #[v53] 146) λb56 w57=>β w57/\Bf 176 #[s1,(.slice (some ⟨b54,0,none⟩) 1 1),v52,(.slice (some ⟨b56,0,none⟩) 1 1)] w57 λs58 q59 w60=>β w60/\fC 99 #[(.pointer (some ⟨b2,0,none⟩)),(.string (ax s58)),(.bool q59)] w60 λw61=>β w61/\ω w61)/\(aB v53=true/\dQ w46 (.cells #[v53] 146) λb62 w63=>β w63/\dQ w63 (.cells #[(.int .i64 α)] 3) λb64 w65=>β w65/\Bf 176 #[s1,(.slice (some ⟨b64,0,none⟩) 1 1),v52,(.slice (some ⟨b62,0,none⟩) 1 1)] w65 λs66 q67 w68=>β w68/\fC 99 #[(.pointer (some ⟨b2,0,none⟩)),(.string (ax s66)),(.bool q67)] w68 λw69=>β w69/\ω w69)) (ω w42))/\∀(θ:World),ω θ->zR θ η 0 λc71=>bS (!decide (c71=33)) (bJ (J+1)/\I27 (J+1) θ/\ψ (J+1) θ< ψ J γ) (cw s1 λb72 o73=>cY θ b72 (o73+2) λv74=>cw v74 λb75 o76=>cY θ b75 (o76+1) λv77=>jS v77 λl79=>tY 0 θ λI81 m82 δ ν=>bS (decide (δ< (l79:Int))) (jc v77 δ λb85 o86=>cY ν b85 (o86+δ.toNat* 1) λv89=>xL 140 #[v89] ν λv90 w91=>jS v90 λl93=>tY 0 w91 λI95 ε G Z=>bS (decide (G< (l93:Int))) (jc v90 G λξ ζ=>∃c103:UInt8,∃n104:Int,∃n105:Int,∃v106:Value,∃q107:Bool,(World.cell? Z ⟨ξ,(ζ+G.toNat* 5),none⟩=some (.int .u8 c103.toNat)/\World.cell? Z ⟨ξ,((ζ+G.toNat* 5)+1),none⟩=some (.int .i64 n104)/\World.cell? Z ⟨ξ,(((ζ+G.toNat* 5)+1)+1),none⟩=some (.int .i64 n105)/\World.cell? Z ⟨ξ,((((ζ+G.toNat* 5)+1)+1)+1),none⟩=some v106/\World.cell? Z ⟨ξ,(((((ζ+G.toNat* 5)+1)+1)+1)+1),none⟩=some (.bool q107)/\True)/\dQ Z (.cells #[(.int .u8 0),(.int .i64 0),(.int .i64 0),(.pointer none),(.bool false)] 160) λV w109=>It w109 V 0 5 [(.int .u8 c103.toNat),(.int .i64 n104),(.int .i64 n105),v106,(.bool q107)] λH=>Hg (decide (δ=α)) (zR H V 0 λc111=>Hg (!decide (c111=63)) (JL H V 1 λn112=>JL H η 1 λn113=>bS (!decide (n112=n113)) (bJ (G+1)/\I95 (G+1) H/\ε (G+1) H< ε G Z) (dQ H (.cells #[(.int .i64 α),(.int .i64 δ)] 3) λb114 ο=>∃ς:Value->PV,(LZ ο V 4 λq117=>bS q117 (∃(υ:Option Addr) (l119 ι:Nat),(Value.slice (some ⟨b114,0,none⟩) 2 2)= .slice υ l119 ι/\0<=(0:Int)/\(0:Int)<=1/\1<=(ι:Int)/\ς ((.slice (if ι=Int.toNat 0 then υ else Option.map (·.add (Int.toNat 0* 1)) υ) (Int.toNat 1 - Int.toNat 0) (ι - Int.toNat 0))) ο) (ς ((.slice (some ⟨b114,0,none⟩) 2 2)) ο))/\∀(g121:Value) (w122:World),ς g121 w122->j4 w122 λW w124=>cw s1 λb125 o126=>eo W b125 (o126+2) λv127=>cw v127 λb128 o129=>eo W b128 (o129+0) λv130=>eo W η 3 λv131=>∃c132:UInt8,∃n133:Int,∃n134:Int,∃v135:Value,∃q136:Bool,(∀w',W w'->World.cell? w' ⟨V,0,none⟩=some (.int .u8 c132.toNat)/\World.cell? w' ⟨V,1,none⟩=some (.int .i64 n133)/\World.cell? w' ⟨V,2,none⟩=some (.int .i64 n134)/\World.cell? w' ⟨V,3,none⟩=some v135/\World.cell? w' ⟨V,4,none⟩=some (.bool q136)/\True)/\wk W η 2 λn137=>xL 177 #[s1,(.agg #[(.int .u8 c132.toNat),(.int .i64 n133),(.int .i64 n134),v135,(.bool q136)]),(.int .i64 n137)] w124 λv138 w139=>W w139/\aB v131=true/\aB v138=true/\dQ w139 (.cells #[v131,v138] 146) λb140 w141=>W w141/\Bf 176 #[s1,g121,v130,(.slice (some ⟨b140,0,none⟩) 2 2)] w141 λs142 q143 w144=>W w144/\fC 99 #[(.pointer (some ⟨b2,0,none⟩)),(.string (ax s142)),(.bool q143)] w144 λφ=>W φ/\bJ (G+1)/\I95 (G+1) φ/\ε (G+1) φ< ε G Z)) (bJ (G+1)/\I95 (G+1) H/\ε (G+1) H< ε G Z)) (bJ (G+1)/\I95 (G+1) H/\ε (G+1) H< ε G Z)) (bJ (δ+1)/\I81 (δ+1) Z/\m82 (δ+1) Z< m82 δ ν)) (bJ (J+1)/\I27 (J+1) ν/\ψ (J+1) ν< ψ J γ))) (bJ (α+1)/\I13 (α+1) γ/\m14 (α+1) γ< m14 α χ)) (y7 100 #[(.pointer (some ⟨b2,0,none⟩))] χ λv146 q147 w148=>R v146 q147 w148)):
  PW 136 #[s1] w (aw [.v,.b] R):=
 IJ (a6 [(3,[(24,.i)]),(6,[(32,.i)]),(12,[(68,.i)]),(15,[(76,.i)])] [(10,[]),(21,[(13,.v)])] [(9,true,.lt 0 (.lt 1 (.lt 2 (.lt 4 (.lt 5 (.lt 6 (.lt 7 (.lt 8 (.lt 9 (.lt 10 (.lt 11 (.lt 12 (.br .g 3 (.one .g 13 (.one .g 14 (.lt 15 (.lt 16 (.one .g 17 .done))))) (.one .g 13 (.one .g 3 (.one .g 14 (.lt 15 (.lt 16 (.one .g 17 .done))))))))))))))))))),(21,true,.lt 0 (.lt 1 (.lt 2 (.lt 3 (.lt 4 (.lt 5 (.lt 6 (.lt 7 (.lt 8 (.lt 9 (.lt 10 (.lt 11 (.lt 12 (.lt 13 (.lt 14 (.lt 15 (.one .g 16 (.one .g 17 (.one .g 18 (.lt 19 (.lt 20 (.one .g 21 .done))))))))))))))))))))))]) [.tmp 2 .v,.tmp 3 .b] [.v s1] Tryz.func136 (by kernel_rfl) h
end Go.Proofs.YtdecokaadekjnaaGreat
namespace Go.Proofs.YtdecokaadekjnaaGreat
open Go Go.RowKit
theorem EV {j:Nat}(G:j< 26):(List.replicate 26 (iv 0))[j]?=some (iv 0):=by rw [List.getElem?_replicate,MZ G]
theorem I8 {j:Nat}(G:j< 26):(List.replicate 26 (iv 0)).toArray[j]?=some (iv 0):=by rw [Po];exact EV G
theorem qb {w:World}{R:Value->PV}(hR:∀w' cs,Ex w w'->Iw cs e0->R (.agg cs.toArray) w'):PW 138 #[] w (aw [.v] R):=by
 refine n9 w R ?_;dsimp only [go_sem];dsimp only [go_sem,UInt8.reduceOfNat,UInt32.reduceOfNat,Nat.reduceAdd];intro b1 w2 β J b3 W γ V;have x2:Ex w w2:=J▸Ex.alloc w _;have x4:Ex w2 W:=V▸Ex.alloc w2 _;have s2:w2.heap.size=w.heap.size+1:=by rw [J,size_alloc]
 have s4:W.heap.size=w2.heap.size+1:=by rw [V,size_alloc]
 have c3:∀j,j< 26->W.cell? ⟨b3,0+j,none⟩=some (iv 0):=λj G=>by
  rw [V,γ];refine aa ?_;rw [MX];exact I8 G
 have c1:∀j,j< 26->W.cell? ⟨b1,0+j,none⟩=some (iv 0):=λj G=>by
  rw [x4.cell (show b1< _ by omega),J,β];refine aa ?_;rw [MX];exact I8 G
 have f3:∀j,W.frozen? ⟨b3,j,none⟩=false:=λj=>by rw [V,γ];exact aS _ _ _ _
 have f1:∀j,W.frozen? ⟨b1,j,none⟩=false:=λj=>by rw [N4 x4 (show b1< _ by omega),J,β];exact aS _ _ _ _
 refine⟨⟨rfl,rfl,λj G=>⟨⟨_,c3 j G⟩,f3 _⟩⟩,λw5 ι=>?_⟩;obtain⟨k5,α,_,δ⟩:=aU (b:=b3) _ W 0;rw [<-ι]at k5 α δ;have ε:∀j,j< 26->w5.cell? ⟨b3,0+j,none⟩=some (iv 0):=λj G=>by
  rw [δ j (λi hi=>⟨_,c3 i hi⟩) G];exact EV G
 have x5:Ex w w5:=Ex.below (Ex.trans x2 x4) (Kp.below k5 (Ex.trans x2 x4).size λg hg e=>by omega);have s5:=k5.size;have d1:∀j,j< 26->w5.cell? ⟨b1,0+j,none⟩=some (iv 0):=λj G=>by rw [Mn (w:=W) (k5.block b1 (by omega) (by omega))];exact c1 j G
 refine⟨λx w'=>∃i:Nat,x=i/\i<=26/\Ex w w'/\b3< w'.heap.size/\(∀j,j< 26->w'.cell? ⟨b1,0+j,none⟩=some (iv 0))/\(∀j,w'.frozen? ⟨b1,j,none⟩=false)/\(∀j,w'.frozen? ⟨b3,j,none⟩=false)/\∀j,j< 26->w'.cell? ⟨b3,0+j,none⟩=some (iv (if j< i then j else 0)),
  λx _=>(26 - x).toNat,⟨0,rfl,by omega,x5,by omega,d1,λj=>by rw [α];exact f1 j,λj=>by rw [α];exact f3 j,λj G=>by rw [MJ (by omega)];exact ε j G⟩,λx w9 hI=>?_⟩
 obtain⟨i,rfl,hi,x9,l9,e1,g1,g3,e3⟩:=hI;refine⟨λκ=>?_,λμ=>?_⟩
 ·have ν:i< 26:=by simp only [Mz]at κ;omega
  rw [Mv,MW];refine⟨⟨by omega,by omega⟩,⟨⟨_,e3 i ν⟩,g3 _⟩,λς H=>⟨by omega,⟨i+1,by omega,by omega,?_,?_,λj G=>?_,λj=>?_,λj=>?_,λj G=>?_⟩,by show((26:Int) - ((i:Int)+1)).toNat< ((26:Int) - i).toNat;omega⟩⟩
  ·exact H▸Ex.own x9 (by omega) _
  ·rw [H,M9];exact l9
  ·rw [H,Mr _ _ _ _ (λe=>by injection e with e1 e2;omega)];exact e1 j G
  ·rw [H,MG];exact g1 j
  ·rw [H,MG];exact g3 j
  ·by_cases ξ:j=i
   ·subst ξ;rw [H,MZ (by omega)];exact MI _ _ _ (e3 j G)
   ·rw [H,Mr _ _ _ _ (λe=>by injection e with e1 e2;omega),e3 j G]
    congr 2
    split<;>split<;>omega
 ·have:i=26:=by simp only [Mw]at μ;omega
  subst this;have ζ:∀j,j< 26->((List.range 26).map iv)[j]?=some (iv j):=λj G=>by simp [G]
  refine⟨(List.range 26).map iv,rfl,λj G=>by rw [e3 j G,ζ j G,MZ G],⟨rfl,rfl,λj G=>⟨⟨_,e1 j G⟩,g1 _⟩⟩,λο η=>?_⟩;obtain⟨θ,_,_,Z⟩:=aU (b:=b1) ((List.range 26).map iv) w9 0;rw [<-η]at θ Z;refine⟨(List.range 26).map iv,rfl,λj G=>Z j (λi hi=>⟨_,e1 i (by simpa using hi)⟩) (by simpa using G),hR ο _ ?_ ⟨rfl,λc hc=>?_⟩⟩
  ·exact Ex.below x9 (Kp.below θ x9.size λg hg e=>by omega)
  ·have :=bg hc;exact ζ _ (by omega)
theorem Hj {t:P}(h:Lt t):Nu (num t e0 0).1:=by
 obtain⟨_,G,H,h4⟩:=ri (p:=t) λc J=>T.Al.free h c J
 exact⟨G,λy V=>H y (T.bs V),h4⟩
theorem cc:∀u:U,(flat u).1.length+(flat u).2.tot<=4* u.size
 | .nil=>by simp [flat,Lv.tot]
 | .snd a b p=>by have :=cc p;simp only [flat,Lv.tot,T.size,MB];omega
 | .rcv a b p=>by have :=cc p;simp only [flat,Lv.tot,T.size,MB];omega
 | .tau p=>by have :=cc p;simp only [flat,Lv.tot,T.size,MB];omega
 | .mat a b p=>by have :=cc p;simp only [flat,Lv.tot,T.size,MB];omega
 | .rep p=>by have :=cc p;simp only [flat,Lv.tot,T.size,MB];omega
 | .res x p=>by have :=cc p;simp only [flat,T.size,Mm];omega
 | .par p q=>by have :=cc p;have :=cc q;simp only [flat,Lv.bR,T.size,Mt];omega
 | .sum p q=>by have :=cc p;have :=cc q;simp only [flat,Lv.tot,T.size,MB];omega
theorem IZ {u:U}(h:Nu u):∀x,x∉(td u).1->(td u).2.fh x->x< 26:=λx G H=>h.fr x (ED _ u (Mu _) h.uq x H G)
theorem xN {D:Nat->Prop}{w:World}{t:P}{v:Value}(h:aK D w t v)(hD:∀g,D g->g< w.heap.size)(hl:Lt t)(hs:t.size<=1000000){R:aF->Bool->PV}
  (hR:∀w',Ex w w'->(∀s,jP (num t e0 0).1=some s->R s true w')/\(jP (num t e0 0).1=none->R [] false w')):PW 175 #[v] w (aw [.s,.b] R):=by
 refine mj v w R ?_;dsimp only [go_sem];dsimp only [go_sem,UInt8.reduceOfNat,UInt32.reduceOfNat,Nat.reduceAdd];intro b2 V J G;have x3:Ex w V:=G▸Ex.alloc w _;have s3:V.heap.size=w.heap.size+1:=by rw [G,size_alloc]
 refine qb λw5 cs x5 W=>?_
 have H:Ex w w5:=Ex.trans x3 x5;have mk:Mk V b2 0:=⟨by omega,by rw [G,J];exact aa rfl,by rw [G,J];exact aS _ _ _ _⟩
 have Z:aK D w5 t v:=aK.kp (Kp.ah H λ _=>False) (λ _ _ h=>h) h;refine Ji t Z (λg hg e=>by have :=hD g hg;omega) (mk.ex x5) W hl (by omega) λv' w7 k7 _ h7=>?_
 have nu:=Hj hl;have γ:=(bK t e0 0).1;have δ:=cc (num t e0 0).1;have e:Lv.tidy (flat (num t e0 0).1).1 (flat (num t e0 0).1).2=td (num t e0 0).1:=rfl;refine vy h7 (cE _) (by omega) (by rw [e];exact AH nu.uq nu.bv) (by rw [e];exact IZ nu) λα β=>?_
 have x7:Ex w w7:=Ex.below H (Kp.below k7.kp H.size λg hg e=>by omega);rw [e];exact hR α (Ex.trans x7 β)
structure Hw (w:World)(D:Nat->Prop)(b:Nat)(n:Nat)(s:Tx)(L:List Nat×Lv):Prop where
 mc:Mk w b n
 tx:w.cell? ⟨b,1,none⟩=some (.string (ax s))
 l:∃v,w.cell? ⟨b,2,none⟩=some v/\az D w L v
theorem Bw {t:P}{w:World}(hl:Lt t)(hs:t.size<=1000000)(hlen:t.text.length<=1099511627776){R:Value->PV}
  (hR:∀b w',Ex w w'->w.heap.size<=b->Hw w' (λg=>w.heap.size<=g/\g≠b/\g< w'.heap.size) b (num t e0 0).2 t.text (td (num t e0 0).1)->R (ptr b) w'):PW 92 #[.string (ax t.text)] w (aw [.v] R):=by
 refine wS t.text w R ?_;dsimp only [go_sem];dsimp only [go_sem,UInt8.reduceOfNat,UInt32.reduceOfNat,Nat.reduceAdd];refine Cw hlen λv2 q w4 x4 ς υ=>?_
 have hq:q=true:=by
  cases q
  ·exact absurd rfl (υ rfl t hl)
  ·rfl
 obtain⟨t',φ,et,χ⟩:=ς hq;have:t'=t:=eZ (T.Al.wf φ) (T.Al.wf hl) et.symm;subst this;intro b5 w6 Z V;have x6:Ex w4 w6:=V▸Ex.alloc w4 _;have s6:w6.heap.size=w4.heap.size+1:=by rw [V,size_alloc]
 refine⟨λw'=>Ex w6 w',λw8 η=>⟨η▸Ex.drew w6,?_⟩⟩;have x8:Ex w6 w8:=η▸Ex.drew w6;have s4:=x4.size;have s8:=x8.size;have ψ:Mk w6 b5 0:=⟨by omega,by rw [V,Z];exact aa rfl,by rw [V,Z];exact aS _ _ _ _⟩
 have t6:w6.cell? ⟨b5,1,none⟩=some (.string (ax t'.text)):=by rw [V,Z];exact aa rfl
 have l6:w6.cell? ⟨b5,2,none⟩=some (.pointer none):=by rw [V,Z];exact aa rfl
 have f6:∀j,w6.frozen? ⟨b5,j,none⟩=false:=λj=>by rw [V,Z];exact aS _ _ _ _
 refine qb λω cs θ hcs=>?_
 have G:=Ex.trans x8 θ;have ι:aK (λg=>Da w g/\g< w4.heap.size) ω t' v2:=aK.kp (Kp.ah (Ex.trans x6 G) λ _=>False) (λ _ _ h=>h) χ.bound;refine Ji t' ι (λg hg e=>by omega) (ψ.ex G) hcs hl (by omega) λv11 β α γ h12=>?_
 have hsz:=(bK t' e0 0).1;have htt:=cc (num t' e0 0).1;refine Fq _ (Mu _) (cE _) h12 (by omega) λv13 W H κ=>⟨κ.one,?_⟩
 have x14':Ex β W:=H;have s12:=α.size;have s10:=θ.size;have δ:b5< β.heap.size:=γ.lt;have f14:∀j,W.frozen? ⟨b5,j,none⟩=false:=λj=>by rw [N4 H δ,α.fz,N4 G (show b5< _ by omega)];exact f6 j
 have t14:W.cell? ⟨b5,1,none⟩=some (.string (ax t'.text)):=by rw [H.cell (show b5< _ from δ),α.ce 1 (by omega),G.cell (show b5< _ by omega)];exact t6
 have μ:W.cell? ⟨b5,2,none⟩=some (.pointer none):=by rw [H.cell (show b5< _ from δ),α.ce 2 (by omega),G.cell (show b5< _ by omega)];exact l6
 have ν:=γ.ex H;refine⟨⟨⟨_,μ⟩,f14 2⟩,λε J=>?_⟩;have ζ:Kr b5 W ε:=J▸Kr.set _ _ _;have ξ:ε.cell? ⟨b5,0,none⟩=some (iv (num t' e0 0).2):=by rw [J,Mr _ _ _ _ (λe=>by injection e with e1 e2;omega)];exact ν.c
 have ο:Ex w β:=Ex.below (Ex.trans x4 (Ex.trans x6 G)) (Kp.below α.kp (Ex.trans x4 (Ex.trans x6 G)).size λg hg e=>by omega);have s14:=H.size;have s16:=ζ.size;refine hR b5 ε (Ex.below (Ex.trans ο H) (Kp.below ζ (Ex.trans ο H).size λg hg e=>by omega)) (by omega) ⟨⟨by omega,ξ,by rw [J,MG];exact f14 0⟩,?_,v13,?_,?_⟩
 ·rw [J,Mr _ _ _ _ (λe=>by injection e with e1 e2;omega)];exact t14
 ·rw [J];exact MI _ _ _ μ
 ·exact az.sub (az.kp (az.sub (E:=λg=>β.heap.size<=g/\g< W.heap.size) κ λg hg hd=>⟨hd,hg⟩) ζ λg hg e=>by omega) λg hg hd=>⟨by omega,by omega,by omega⟩
end Go.Proofs.YtdecokaadekjnaaGreat
namespace Go.Proofs.YtdecokaadekjnaaGreat
open T
theorem FL {u G:U}(h:Nu u)(Z:Nu G)(ae:AE σ0 u σ0 G):jP u=jP G:=by
 have hi:∀y z:Nat,σ0 y=σ0 z->y=z:=λy z e=>by unfold σ0 at e;omega
 have H:∀y,u.Us y↔G.Us y:=λy=>by
  constructor
  ·intro J;obtain⟨z,V,e⟩:=ae.used (λy z _ _ e=>hi y z e) (λy z _ _ e=>hi y z e) y J;rw [<-hi z y e];exact V
  ·intro J;obtain⟨z,V,e⟩:=ae.symm.used (λy z _ _ e=>hi y z e) (λy z _ _ e=>hi y z e) y J;rw [<-hi z y e];exact V
 have W:kX (td u).2=kX (td G).2:=by
  funext c
  rw [Nt,pW h,pW Z,H]
 have key:=λtk=>I1 (ρ:=ρ0) (ρ':=ρ0) ae h.uq Z.uq (λy z _ _ e=>hi y z e) (λy z _ _ e=>hi y z e) (λy y' _ _ e=>by rw [hi y y' e]) tk
 obtain⟨_,k2,k3,k4⟩:=key (kX (td u).2);rw [gO,gO,<-W,(key (kX (td u).2)).1,k2,k3,k4]
structure lP (t:P):Prop where
 al:t.Al λc=>lt c=true
 nr:t.Nr
 smp:t.smp=true
 len:t.text.length<=300
 size:t.size<=60
 most:a7 (num t e0 0).1<=5
 all:cB (num t e0 0).1<=8
 nf:jP (num t e0 0).1=some t.text
theorem Hm {t:P}(h:t.Al λc=>lt c=true):∀y,(num t e0 0).1.Fr y->y< 26:=(ri (p:=t) λc G=>T.Al.free h c G).2.2.1
theorem j5 {t:P}(h:t.Al λc=>lt c=true):AE UInt8.toNat t σ0 (num t e0 0).1:=(ri (p:=t) λc G=>T.Al.free h c G).1
theorem kI {t:P}(h:t.Al λc=>lt c=true):Nu (num t e0 0).1:=by
 obtain⟨_,G,H,h4⟩:=ri (p:=t) λc J=>T.Al.free h c J
 exact⟨G,λy V=>H y (T.bs V),h4⟩
theorem JF.Ml {u:U}{s:Tx}{t:P}{v:U}(h:Nu u)(n:JF u s t v)(hs:u.smp=true):lP t:=by
 have G:Nu v:=⟨n.arr.uq,λy Z=>h.fr y ((n.arr.us y).1 Z),λx hx=>h.bv x (n.arr.bv x hx)⟩
 have hv:∀y,v.Fr y->(ρ0 y).toNat=σ0 y:=λy Z=>eG (G.fr y (n.arr.nr.gU Z))
 have ae:AE UInt8.toNat t σ0 v:=n.ae.congr (λ _ _=>rfl) hv;have H:=kI n.al;have J:AE σ0 v σ0 (num t e0 0).1:=ae.symm.trans (j5 n.al);have V:∀p:U,eP σ0 p:=λp y z _ _ e=>by unfold σ0 at e;omega
 have W:kX (td v).2=kX (td u).2:=by
  funext c
  rw [Nt,pW G,pW h,n.arr.us]
 have hi:∀y z:Nat,σ0 y=σ0 z->y=z:=λy z e=>by unfold σ0 at e;omega
 obtain⟨_,k2,k3,k4⟩:=I1 (ρ:=ρ0) (ρ':=ρ0) J G.uq H.uq (λy z _ _ e=>hi y z e) (λy z _ _ e=>hi y z e) (λy y' _ _ e=>by rw [hi y y' e]) (kX (td v).2);refine⟨n.al,AE.nr ae.symm (V v) (eO t) n.arr.nr,by rw [tq ae];exact n.arr.smp hs,by rw [n.text];exact n.len,n.size,by rw [<-k4,n.arr.most];exact n.most,by rw [<-k3,n.arr.all];exact n.all,?_⟩;have e1:LS v ρ0 (kX (td v).2)=s:=by rw [W,n.arr.ls];exact n.ls.symm
 have hg:di s:=⟨n.len,t,n.al,n.text,n.size⟩
 rw [<-FL G H J,gO,e1,MZ ⟨⟨by rw [n.arr.most];exact n.most,by rw [n.arr.all];exact n.all⟩,by rw [W,n.arr.bad];exact n.bad,hg⟩,n.text]
section
variable {A B:Type} [DecidableEq A] [DecidableEq B]
inductive Off (A:Type) where
 | tau (p:T A)
 | snd (a b:A) (p:T A)
 | rcv (a x:A) (q:T A) (again:Bool)
def Off.stay:Off A->Off A
 | .rcv a x q _=> .rcv a x q true
 | o=>o
def offs:T A->List (Off A)
 | .tau p=>[.tau p]
 | .snd a b p=>[.snd a b p]
 | .rcv a x p=>[.rcv a x p false]
 | .sum p q=>offs p++offs q
 | .rep p=>(offs p).map Off.stay
 | _=>[]
def wo {X:Type}(l:List X)(i j:Nat):List X:=(l.zipIdx.filter λz=> !(z.2==i)&& !(z.2==j)).map (·.1)
def qn (ρ:A->Nat)(σ:B->Nat):Off A->Off B->Prop
 | .tau p,.tau q=>AE ρ p σ q
 | .snd a b p,.snd c d q=>ρ a=σ c/\ρ b=σ d/\AE ρ p σ q
 | .rcv a x p s,.rcv c y q G=>ρ a=σ c/\(∀v,AE (aI ρ x v) p (aI σ y v) q)/\s=G
 | _,_=>False
inductive j0 {X Y:Type} (R:X->Y->Prop):List X->List Y->Prop
 | nil:j0 R [] []
 | cons {x y l m}:R x y->j0 R l m->j0 R (x::l) (y::m)
theorem j0.app {X Y:Type}{R:X->Y->Prop}{l G:List X}{m m':List Y}(h:j0 R l m)(k:j0 R G m'):j0 R (l++G) (m++m'):=by
 induction h with
 | nil=>exact k
 | cons h _ H=>exact .cons h H
theorem j0.map {X Y G H:Type}{R:X->Y->Prop}{S:G->H->Prop}{f:X->G}{g:Y->H}(J:∀x y,R x y->S (f x) (g y)){l:List X}{m:List Y}(h:j0 R l m):j0 S (l.map f) (m.map g):=by
 induction h with
 | nil=>exact .nil
 | cons h _ V=>exact .cons (J _ _ h) V
theorem j0.len {X Y:Type}{R:X->Y->Prop}{l:List X}{m:List Y}(h:j0 R l m):l.length=m.length:=by
 induction h with
 | nil=>rfl
 | cons _ _ G=>simp [G]
theorem j0.get {X Y:Type}{R:X->Y->Prop}{l:List X}{m:List Y}(h:j0 R l m):∀{i:Nat} (hi:i< l.length) (G:i< m.length),R l[i] m[i]:=by
 induction h with
 | nil=>intro i hi;cases hi
 | cons h _ H=>
  intro i hi G;cases i with
  | zero=>exact h
  | succ i=>simpa using H (by simpa using hi) (by simpa using G)
theorem j0.wo {X Y:Type}{R:X->Y->Prop}{l:List X}{m:List Y}(h:j0 R l m)(i j:Nat):j0 R (wo l i j) (wo m i j):=by
 unfold Go.Proofs.YtdecokaadekjnaaGreat.wo;have:∀k,j0 R ((l.zipIdx k).filter (λz=> !(z.2==i)&& !(z.2==j)) |>.map (·.1)) ((m.zipIdx k).filter (λz=> !(z.2==i)&& !(z.2==j)) |>.map (·.1)):=by
  induction h with
  | nil=>intro k;exact .nil
  | cons h _ G=>
   intro k;simp only [List.zipIdx_cons,List.filter_cons];split
   ·simp only [MV];exact .cons h (G _)
   ·exact G _
 exact this 0
theorem jD:∀{p:T A} {q:T B} {ρ:A->Nat} {σ:B->Nat},AE ρ p σ q->j0 (qn ρ σ) (offs p) (offs q):=by
 intro p
 induction p with
 | nil=>intro q ρ σ h;cases q<;>first | exact .nil | cases h
 | par p V=>intro q ρ σ h;cases q<;>first | exact .nil | cases h
 | res x p=>intro q ρ σ h;cases q<;>first | exact .nil | cases h
 | mat a b p=>intro q ρ σ h;cases q<;>first | exact .nil | cases h
 | tau p=>intro q ρ σ h;cases q<;>first | exact .cons h .nil | cases h
 | snd a b p=>intro q ρ σ h;cases q<;>first | exact .cons h .nil | cases h
 | rcv a b p=>intro q ρ σ h;cases q<;>first | exact .cons ⟨h.1,h.2,rfl⟩ .nil | cases h
 | sum p V H J=>
  intro q ρ σ h;cases q<;>first | exact(H h.1).app (J h.2) | cases h
 | rep p H=>
  intro q ρ σ h;cases q<;>try cases h
  refine(H h).map λx y G=>?_
  cases x<;>cases y<;>first | exact G | (exact⟨G.1,G.2.1,rfl⟩) | cases G
end
theorem AE.open:∀{t:P} {u:U} {ρ:Rh},AE UInt8.toNat t (λz=>(ρ z).toNat) u->t.Nr->t.frL.length=u.frL.length/\j0 (λp q=>AE UInt8.toNat p (λz=>(asg u.frL t.frL ρ z).toNat) q) t.ths u.ths:=by
 intro t
 induction t with
 | nil=>intro u ρ h n;cases u<;>first | exact⟨rfl,.nil⟩ | cases h
 | snd a b p=>intro u ρ h n;cases u<;>first | exact⟨rfl,.cons h .nil⟩ | cases h
 | rcv a b p=>intro u ρ h n;cases u<;>first | exact⟨rfl,.cons h .nil⟩ | cases h
 | tau p=>intro u ρ h n;cases u<;>first | exact⟨rfl,.cons h .nil⟩ | cases h
 | sum p q=>intro u ρ h n;cases u<;>first | exact⟨rfl,.cons h .nil⟩ | cases h
 | mat a b p=>intro u ρ h n;cases u<;>first | exact⟨rfl,.cons h .nil⟩ | cases h
 | rep p=>intro u ρ h n;cases u<;>first | exact⟨rfl,.cons h .nil⟩ | cases h
 | par p q Z V=>
  intro u ρ h n;cases u<;>try cases h
  rename_i p' q' G h2;have h0:q.frL=[]:=by
   rcases n.1.2 with h | h
   ·exact ie h
   ·cases q<;>first | rfl | (cases h;done)
  obtain⟨H,J⟩:=V h2 n.2.2;have W:q'.frL=[]:=by rw [h0]at H;exact MS H.symm
  rw [h0,W]at J;exact⟨rfl,.cons G J⟩
 | res x p Z=>
  intro u ρ h n;cases u<;>try cases h
  rename_i y q;have G:=h x.toNat;have e1:aI UInt8.toNat x x.toNat=UInt8.toNat:=by funext c;unfold aI;split<;>simp_all
  have e2:aI (λz=>(ρ z).toNat) y x.toNat=λz=>(aI ρ y x z).toNat:=by funext z;unfold aI;split<;>rfl
  rw [e1,e2]at G;obtain⟨H,J⟩:=Z G n.2;exact⟨by simp [frL,H],J⟩
theorem AE.sJ {D:Nat->Prop}{f:Nat->Nat}:∀{q:U} {σ τ:Nat->Nat},(∀z,q.Fr z->D z/\σ z=τ (f z))->(∀x∈BV q,D x/\∀z,D z->z≠x->f z≠f x)->AE σ q τ (q.map f)
 | .nil,_,_,_,_=>trivial
 | .snd a b p,σ,τ,h,k=>⟨(h a (.inl rfl)).2,(h b (.inr (.inl rfl))).2,AE.sJ (λz G=>h z (.inr (.inr G))) k⟩
 | .mat a b p,σ,τ,h,k=>⟨(h a (.inl rfl)).2,(h b (.inr (.inl rfl))).2,AE.sJ (λz G=>h z (.inr (.inr G))) k⟩
 | .tau p,σ,τ,h,k=>AE.sJ (q:=p) h k
 | .rep p,σ,τ,h,k=>AE.sJ (q:=p) h k
 | .sum p q,σ,τ,h,k=>⟨AE.sJ (λz G=>h z (.inl G)) λx J=>k x (M0 _ J),AE.sJ (λz G=>h z (.inr G)) λx J=>k x (MT _ J)⟩
 | .par p q,σ,τ,h,k=>⟨AE.sJ (λz G=>h z (.inl G)) λx J=>k x (M0 _ J),AE.sJ (λz G=>h z (.inr G)) λx J=>k x (MT _ J)⟩
 | .rcv a x p,σ,τ,h,k=>by
  have V:=k x (Nc ..);refine⟨(h a (.inl rfl)).2,λv=>AE.sJ (D:=D) (λz G=>?_) λy W=>k y (MD _ W)⟩;by_cases e:z=x
  ·subst e;exact⟨V.1,by simp [aI]⟩
  ·have H:=h z (.inr ⟨e,G⟩);have :=V.2 z H.1 e;refine⟨H.1,?_⟩;simp only [aI,MJ e,MJ this];exact H.2
 | .res x p,σ,τ,h,k=>by
  have V:=k x (Nc ..);refine λv=>AE.sJ (D:=D) (λz G=>?_) λy W=>k y (MD _ W)
  by_cases e:z=x
  ·subst e;exact⟨V.1,by simp [aI]⟩
  ·have H:=h z ⟨e,G⟩;have :=V.2 z H.1 e;refine⟨H.1,?_⟩;simp only [aI,MJ e,MJ this];exact H.2
theorem fF (f:Nat->Nat):∀u:U,BV (u.map f)=(BV u).map f
 | .nil=>rfl
 | .snd a b p=>fF f p
 | .mat a b p=>fF f p
 | .tau p=>fF f p
 | .rep p=>fF f p
 | .rcv a x p=>by simp only [T.map,BV,fF f p,MV]
 | .res x p=>by simp only [T.map,BV,fF f p,MV]
 | .sum p q=>by simp only [T.map,BV,fF f p,fF f q,Nq]
 | .par p q=>by simp only [T.map,BV,fF f p,fF f q,Nq]
def Off.tm {A:Type}:Off A->T A
 | .tau p=> .tau p
 | .snd a b p=> .snd a b p
 | .rcv a x q _=> .rcv a x q
structure Sub {A:Type}(s t:T A):Prop where
 smp:t.smp=true->s.smp=true
 nr:t.Nr->s.Nr
 fr:∀z,s.Fr z->t.Fr z
 rd:s.rd<=t.rd
 ow:s.ow<=t.ow
 size:s.size<=t.size
 al:∀D:A->Prop,t.Al D->s.Al D
theorem Sub.refl {A:Type}(t:T A):Sub t t:=⟨id,id,λ _=>id,Mu _,Mu _,Mu _,λ _=>id⟩
theorem aW {A:Type}:∀{t:T A},t.smp=true->∀o∈offs t,Sub o.tm t/\(∀a x q,o= .rcv a x q true->t= .rep (.rcv a x q)):=by
 intro t
 induction t with
 | nil=>intro _ o h;cases h
 | par p q=>intro _ o h;cases h
 | res x p=>intro _ o h;cases h
 | mat a b p=>intro _ o h;cases h
 | tau p=>intro _ o h;rw [offs,MA]at h;subst h;exact⟨Sub.refl _,λ _ _ _ h=>by cases h⟩
 | snd a b p=>intro _ o h;rw [offs,MA]at h;subst h;exact⟨Sub.refl _,λ _ _ _ h=>by cases h⟩
 | rcv a b p=>intro _ o h;rw [offs,MA]at h;subst h;exact⟨Sub.refl _,λ _ _ _ h=>by cases h⟩
 | sum p q ih W=>
  intro G o h;simp only [smp,Mp]at G;rw [offs,My]at h;rcases h with h | h
  ·obtain⟨k,kr⟩:=ih G.2.1 o h;refine⟨⟨λ _=>k.smp G.2.1,λn=>k.nr n.2.1,λz H=> .inl (k.fr z H),Nv k.rd (Nat.le_max_left _ _),by have :=k.ow;simp only [ow];omega,by have :=k.size;simp only [size];omega,λD J=>k.al D J.1⟩,λa x V e=>?_⟩;have Z:=kr a x V e;rw [Z]at G;simp [gp]at G
  ·obtain⟨k,kr⟩:=W G.2.2 o h;refine⟨⟨λ _=>k.smp G.2.2,λn=>k.nr n.2.2,λz H=> .inr (k.fr z H),Nv k.rd (Nat.le_max_right _ _),by have :=k.ow;simp only [ow];omega,by have :=k.size;simp only [size];omega,λD J=>k.al D J.2⟩,λa x V e=>?_⟩;have Z:=kr a x V e;rw [Z]at G;simp [gp]at G
 | rep p ih=>
  intro G o h;simp only [smp,Mp]at G;cases p<;>try (simp [isR]at G)
  rename_i a x q;simp only [offs,MV,Oq,MA,Off.stay]at h;subst h;refine⟨⟨λh=>?_,λn=>n.2,λz H=>H,Mu _,Mu _,by simp only [Off.tm,size];omega,λD J=>J⟩,λa' x' V e=>?_⟩
  ·simp only [smp,Mp]at h;exact h.2
  ·cases e;rfl
theorem fM:∀{t:U},∀o∈offs t,(BV o.tm).Sublist (BV t):=by
 intro t
 induction t with
 | nil=>intro o h;cases h
 | par p q=>intro o h;cases h
 | res x p=>intro o h;cases h
 | mat a b p=>intro o h;cases h
 | tau p=>intro o h;rw [offs,MA]at h;subst h;exact NC _
 | snd a b p=>intro o h;rw [offs,MA]at h;subst h;exact NC _
 | rcv a b p=>intro o h;rw [offs,MA]at h;subst h;exact NC _
 | sum p q G H=>
  intro o h;rw [offs,My]at h;rcases h with h | h
  ·exact(G o h).trans (OF _ _)
  ·exact(H o h).trans (NW _ _)
 | rep p G=>
  intro o h;obtain⟨J,V,rfl⟩:=Nb.1 h;have :=G J V;cases J<;>exact this
section
variable {X:Type}
def jN (P:Nat->Bool)(l:List X)(k:Nat):List X:=((l.zipIdx k).filter λz=> !P z.2).map (·.1)
theorem jz (P:Nat->Bool)(k:Nat):jN P ([]:List X) k=[]:=rfl
theorem bX (P:Nat->Bool)(x:X)(l:List X)(k:Nat):jN P (x::l) k=if P k then jN P l (k+1)else x::jN P l (k+1):=by
 unfold jN;simp only [List.zipIdx_cons,List.filter_cons];cases P k<;>simp
theorem lW {P Q:Nat->Bool}:∀{l:List X} {k:Nat},(∀i,k<=i->P i=Q i)->jN P l k=jN Q l k
 | [],_,_=>rfl
 | x::l,k,h=>by rw [bX,bX,h k (Mu _),lW (l:=l) λi hi=>h i (by omega)]
theorem B9 {P:Nat->Bool}:∀{l:List X} {k:Nat},(∀i,k<=i->P i=false)->jN P l k=l
 | [],_,_=>rfl
 | x::l,k,h=>by rw [bX,h k (Mu _),B9 (l:=l) λi hi=>h i (by omega)];rfl
theorem wh:∀(l:List X) (k i:Nat) (h:i< l.length),l.Perm (l[i]::jN (λn=>n==k+i) l k)
 | [],_,_,h=>by cases h
 | x::l,k,0,h=>by
  rw [bX,MZ (by simp),B9 λi hi=>by simp;omega];exact NA _
 | x::l,k,i+1,h=>by
  rw [bX,MJ (by simp)];have :=wh l (k+1) i (by simpa using h);rw [show k+1+i=k+(i+1) by omega]at this;exact(this.cons x).trans (List.Perm.swap _ _ _)
theorem xX:∀(l:List X) (k i j:Nat) (hi:i< l.length) (G:j< l.length),i< j->l.Perm (l[i]::l[j]::jN (λn=>n==k+i||n==k+j) l k)
 | [],_,_,_,h,_,_=>by cases h
 | x::l,k,0,j+1,_,G,_=>by
  rw [bX,MZ (by simp)];have :=wh l (k+1) j (by simpa using G);rw [lW (P:=λn=>n==k+0||n==k+(j+1)) (Q:=λn=>n==k+1+j) λn J=>by
   rw [Nt];simp only [NT,OY];omega]
  exact this.cons x
 | x::l,k,i+1,j+1,hi,G,H=>by
  rw [bX,MJ (by simp)];have :=xX l (k+1) i j (by simpa using hi) (by simpa using G) (by omega);rw [show k+1+i=k+(i+1) by omega,show k+1+j=k+(j+1) by omega]at this;exact((this.cons x).trans (List.Perm.swap _ _ _)).trans ((List.Perm.swap _ _ _).cons _)
theorem BX (l:List X)(i j:Nat):wo l i j=jN (λn=>n==i||n==j) l 0:=by
 unfold wo jN
 congr 2
 funext z
 simp
theorem BL (l:List X)(i:Nat)(h:i< l.length):l.Perm (l[i]::wo l i i):=by
 have :=wh l 0 i h;rw [BX,lW (Q:=λn=>n==0+i) λn _=>by simp];exact this
theorem Bo (l:List X)(i j:Nat)(hi:i< l.length)(H:j< l.length)(G:i≠j):l.Perm (l[i]::l[j]::wo l i j):=by
 rw [BX];rcases Nat.lt_or_gt_of_ne G with h | h
 ·have :=xX l 0 i j hi H h;simpa using this
 ·have :=xX l 0 j i H hi h;rw [lW (P:=λn=>n==i||n==j) (Q:=λn=>n==0+j||n==0+i) λn _=>by simp [Bool.or_comm]];exact this.trans (List.Perm.swap _ _ _)
theorem HQ (l:List X)(i j:Nat)(hi:i< l.length)(H:j< l.length)(G:i≠j):(wo l i i).Perm (wo l i j++[l[j]]):=by
 have J:=BL l i hi;have V:=Bo l i j hi H G;exact((PK _).1 (J.symm.trans V)).trans (OA (l₁:=[l[j]]) (l₂:=wo l i j))
theorem lg {l:List X}{i j:Nat}{x:X}(h:x∈wo l i j):x∈l:=by
 unfold wo at h;obtain⟨z,G,rfl⟩:=Nb.1 h;have :=(Oz.1 G).1;rw [List.mem_zipIdx_iff_getElem?]at this;exact Ov this
end
structure G' (N:Nat)(q:U)(x b:Nat)(f:Nat->Nat):Prop where
 fx:f x=b
 fo:∀z,z≠x->z∉BV q->f z=z
 fb:∀z∈BV q,N< f z
 fi:∀z∈BV q,∀z'∈BV q,f z=f z'->z=z'
theorem G'.ae {N:Nat}{q:U}{x b:Nat}{f:Nat->Nat}(h:G' N q x b f)(V:Uq q)(hx:x∉BV q)(W:∀z,q.Fr z->z<=N)(hb:b<=N)(Z:∀z∈BV q,z<=N)(σ:Nat->Nat):AE (aI σ x (σ b)) q σ (q.map f):=by
 refine AE.sJ (D:=λz=>q.Fr z\/z∈BV q) (λz G=>⟨.inl G,?_⟩) λy H=>⟨.inr H,λz G J=>?_⟩
 ·by_cases e:z=x
  ·subst e;rw [h.fx,cR]
  ·rw [bH _ _ e,h.fo z e λhb=>V.nf z hb G]
 ·have α:=h.fb y H;rcases G with G | G
  ·by_cases e:z=x
   ·rw [e,h.fx];omega
   ·rw [h.fo z e λhb=>V.nf z hb G];have :=W z G;omega
  ·exact λe=>J (h.fi z G y H e)
theorem G'.fr {N:Nat}{q:U}{x b:Nat}{f:Nat->Nat}(h:G' N q x b f)(Z:Uq q):∀z,(q.map f).Fr z->z=b\/(z≠x/\q.Fr z):=by
 have key:∀(q:U) (z:Nat),(q.map f).Fr z->∃y,q.Fr y/\f y=z:=by
  intro q
  induction q with
  | nil=>intro z h;exact h.elim
  | snd a b p J=>
   intro z h;rcases h with h | h | h
   ·exact⟨a,.inl rfl,h.symm⟩
   ·exact⟨b,.inr (.inl rfl),h.symm⟩
   ·obtain⟨y,H,G⟩:=J z h;exact⟨y,.inr (.inr H),G⟩
  | mat a b p J=>
   intro z h;rcases h with h | h | h
   ·exact⟨a,.inl rfl,h.symm⟩
   ·exact⟨b,.inr (.inl rfl),h.symm⟩
   ·obtain⟨y,H,G⟩:=J z h;exact⟨y,.inr (.inr H),G⟩
  | rcv a x p J=>
   intro z h;rcases h with h | ⟨h,W⟩
   ·exact⟨a,.inl rfl,h.symm⟩
   ·obtain⟨y,H,G⟩:=J z W;exact⟨y,.inr ⟨λe=>h (by rw [<-G,e]),H⟩,G⟩
  | res x p J=>
   intro z ⟨h,W⟩;obtain⟨y,H,G⟩:=J z W;exact⟨y,⟨λe=>h (by rw [<-G,e]),H⟩,G⟩
  | tau p J=>exact J
  | rep p J=>exact J
  | sum p q J V=>
   intro z h;rcases h with h | h
   ·obtain⟨y,H,G⟩:=J z h;exact⟨y,.inl H,G⟩
   ·obtain⟨y,H,G⟩:=V z h;exact⟨y,.inr H,G⟩
  | par p q J V=>
   intro z h;rcases h with h | h
   ·obtain⟨y,H,G⟩:=J z h;exact⟨y,.inl H,G⟩
   ·obtain⟨y,H,G⟩:=V z h;exact⟨y,.inr H,G⟩
 intro z hz;obtain⟨y,H,G⟩:=key q z hz;by_cases e:y=x
 ·left;rw [<-G,e,h.fx]
 ·right;rw [h.fo y e λhb=>Z.nf y hb H]at G;subst G;exact⟨e,H⟩
end Go.Proofs.YtdecokaadekjnaaGreat
namespace Go.Proofs.YtdecokaadekjnaaGreat
open Go Go.RowKit
def jC (w:World)(r:Nat)(F:Nat->Nat):Prop:=∃mm,IsMap w r (.int .i64) mm/\∀x:Nat,mm (iv x)=some (iv (F x))\/(mm (iv x)=none/\F x=x)
theorem iI {w w':World}{r:Nat}{d:TypeDesc}{m:Value->Option Value}(h:IsMap w r d m)(e:w'.heap[r]?=w.heap[r]?):IsMap w' r d m:=by
 obtain⟨es,cl,G,H⟩:=h;exact⟨es,cl,by rw [e];exact G,H⟩
theorem iV {w:World}{r:Nat}{d:TypeDesc}{m:Value->Option Value}(h:IsMap w r d m):r< w.heap.size:=by
 obtain⟨es,cl,G,H⟩:=h;exact(Na.1 G).1
theorem jC.lt {w:World}{r:Nat}{F:Nat->Nat}(h:jC w r F):r< w.heap.size:=by
 obtain⟨mm,G,_⟩:=h;exact iV G
theorem jC.kp {w w':World}{r:Nat}{F:Nat->Nat}{S:Nat->Prop}(h:jC w r F)(k:Kp w w' S)(G:¬S r):jC w' r F:=by
 have H:=h.lt;obtain⟨mm,J,V⟩:=h;exact⟨mm,iI J (k.block r H G),V⟩
theorem sA {w:World}{r:Nat}{mm:Value->Option Value}{F:Nat->Nat}(G:∀x:Nat,mm (iv x)=some (iv (F x))\/(mm (iv x)=none/\F x=x)){x y:Nat}(h:IsMap w r (.int .i64) (ef mm (iv x) (iv y))):jC w r (aI F x y):=by
 refine⟨_,h,λz=>?_⟩;unfold ef aI;by_cases e:z=x
 ·subst e;left;simp
 ·have:iv z≠iv x:=λH=>e (by injection H with _ J;omega)
  simp only [MJ e,MJ this];exact G z
structure Rn (n n':Nat)(xs:List Nat)(F F':Nat->Nat):Prop where
 le:n<=n'
 len:n'<=n+xs.length
 out:∀x,x∉xs->F' x=F x
 rng:∀x∈xs,n+100< F' x/\F' x<=n'+100
 inj:∀x∈xs,∀y∈xs,F' x=F' y->x=y
theorem Rn.refl (n:Nat)(F:Nat->Nat):Rn n n [] F F:=⟨Mu _,by simp,λ _ _=>rfl,λ _ h=>(by cases h),λ _ h=>(by cases h)⟩
theorem Rn.one (n x:Nat)(F:Nat->Nat):Rn n (n+1) [x] F (aI F x (n+101)):=by
 refine⟨by omega,by simp,λy G=>MJ (by simpa using G),λy G=>?_,λy G z H _=>?_⟩
 ·cases MA.1 G;simp only [aI,Ol];omega
 ·cases MA.1 G;cases MA.1 H;rfl
theorem Rn.app {n m p:Nat}{xs ys:List Nat}{F G H:Nat->Nat}(h:Rn n m xs F G)(k:Rn m p ys G H)(hd:∀x∈xs,x∉ys):Rn n p (xs++ys) F H:=by
 have W:∀x∈xs,H x=G x:=λx W=>k.out x (hd x W)
 refine⟨Nv h.le k.le,by have :=h.len;have :=k.len;rw [Mt];omega,λx J=>?_,λx J=>?_,λx J y α e=>?_⟩
 ·rw [My,PT]at J;rw [k.out x J.2,h.out x J.1]
 ·have :=h.le;have :=k.le;rcases My.1 J with V | V
  ·rw [W x V];have :=h.rng x V;omega
  ·have :=k.rng x V;omega
 ·rcases My.1 J with V | V<;>rcases My.1 α with Z | Z
  ·rw [W x V,W y Z]at e;exact h.inj x V y Z e
  ·rw [W x V]at e;have :=h.rng x V;have :=k.rng y Z;omega
  ·rw [W y Z]at e;have :=h.rng y Z;have :=k.rng x V;omega
  ·exact k.inj x V y Z e
structure Kq (m r:Nat)(w w':World):Prop where
 kp:Kp w w' λg=>g=m\/g=r
 ce:∀j,j≠0->w'.cell? ⟨m,j,none⟩=w.cell? ⟨m,j,none⟩
 fz:∀j,w'.frozen? ⟨m,j,none⟩=w.frozen? ⟨m,j,none⟩
section
variable {m r:Nat} {w w0 w' w'':World}
theorem Kq.size (h:Kq m r w w'):w.heap.size<=w'.heap.size:=h.kp.size
theorem Kq.trans (h:Kq m r w w')(k:Kq m r w' w''):Kq m r w w'':=⟨Kp.trans h.kp k.kp λ _ _ h=>h,λj G=>(k.ce j G).trans (h.ce j G),λj=>(k.fz j).trans (h.fz j)⟩
theorem Kq.refl (m r:Nat)(w:World):Kq m r w w:=⟨Kp.ah (Ex.refl w) _,λ _ _=>rfl,λ _=>rfl⟩
theorem Kq.out {S:Nat->Prop}(h:Kq m r w0 w)(k:Kp w w' S)(H:∀g,g< w0.heap.size->S g->g=r/\g≠m)(hm:m< w0.heap.size):Kq m r w0 w':=by
 have e:=k.block m (MP hm h.kp.size) λG=>(H m hm G).2 rfl
 exact⟨Kp.trans h.kp k λg J G=> .inr (H g J G).1,λj V=>by rw [Mn (w:=w) e];exact h.ce j V,λj=>by rw [MU (w:=w) e];exact h.fz j⟩
theorem Kq.ex (h:Kq m r w0 w)(x:Ex w w')(hm:m< w0.heap.size):Kq m r w0 w':=h.out (Kp.ah x λ _=>False) (λ _ _ h=>h.elim) hm
theorem Kq.km (h:Kq m r w0 w)(k:Km m w w'):Kq m r w0 w':=h.trans ⟨Kp.mono (λ _ e=> .inl e) k.kp,k.ce,k.fz⟩
theorem Kq.blk (h:Kq m r w0 w)(k:cX w w' r)(hm:m< w0.heap.size)(hr:m≠r):Kq m r w0 w':=
 h.out (S:=λg=>g=r) ⟨k.os,k.tape,k.output,by rw [k.size];exact Mu _,λg _ G=>k.block g G⟩ (λg _ e=>⟨e,λh=>hr (h.symm.trans e)⟩) hm
end
structure CI (w w':World)(m r b4 b6 n n1:Nat)(xs:List Nat)(F F1:Nat->Nat)(O:List Nat)(L:Lv)(ts:List Value)(M:Nat->Prop):Prop where
 kq:Kq m r w w'
 mc:Mk w' m n1
 mf:jC w' r F1
 rn:Rn n n1 xs F F1
 c4:w'.cell? ⟨b4,0,none⟩=some (.map (some r))
 l4:b4< w'.heap.size
 h4:w.heap.size<=b4
 m4:¬M b4
 bd:jO w.heap.size w' b6 O ts M
 th:af (λg=>(w.heap.size<=g/\¬M g/\g≠b4)/\g< w'.heap.size) w' L ts
 lm:m< w.heap.size
 lr:r< w.heap.size
 ne:m≠r
theorem AT {w:World}{b4 r x:Nat}{F:Nat->Nat}(c4:w.cell? ⟨b4,0,none⟩=some (.map (some r)))(mf:jC w r F){R:Int->PV}(hR:R (F x:Int) w):
  PW 239 #[iv x,ptr b4] w (aw [.i] R):=by
 refine jI x (ptr b4) w R ?_;dsimp only [go_sem];dsimp only [go_sem,UInt8.reduceOfNat,UInt32.reduceOfNat,Nat.reduceAdd];obtain⟨mm,G,H⟩:=mf;refine⟨b4,0,rfl,_,c4,r,mm,rfl,G,?_⟩;rcases H x with h | ⟨h,e⟩
 ·exact⟨F x,true,.inl ⟨rfl,h⟩,λ _=>hR,λh=>(by cases h)⟩
 ·exact⟨0,false,.inr ⟨rfl,h,rfl⟩,λh=>(by cases h),λ _=>by rw [e]at hR;exact hR⟩
theorem jO.LB {B:Nat}{w w1 w2:World}{b:Nat}{o o':List Nat}{ts:List Value}{M:Nat->Prop}(h:jO B w b o ts M){vo v':Value}(W:w.cell? ⟨b,0,none⟩=some vo)(k:Kp w w1 λg=>vo.ownBlock=some g)(ho:aM 3 B w1 v' (o'.map iv))
  (hv:∀g,v'.ownBlock=some g->vo.ownBlock=some g\/w.heap.size<=g) (hw:w2=w1.setCell ⟨b,0,none⟩ v'):jO B w2 b o' ts (λg=>M g\/v'.ownBlock=some g)/\Kp w w2 M:=by
 obtain⟨h1,hle,h3,hr,h4,Z,vt,h5,h6,h7,h8,h9,h10,H⟩:=h;have:Z=vo:=Ng (h5.symm.trans W);subst this;have s1:=k.size;have V:Kr b w1 w2:=hw▸Kr.set w1 0 v';have e1:=k.block b h1 λe=>(h9 b e).2 rfl
 have J:∀g,v'.ownBlock=some g->g≠b:=λg G=>(hv g G).elim (λe=>(h9 g e).2) λe=>by omega
 have kM:Kp w w2 M:=Kp.trans (Kp.mono (λg e=>(h9 g e).1) k) V λg _ e=>by rw [e];exact h3
 have s2:=V.size;refine⟨⟨by omega,hle,.inl h3,λg G=>?_,λj=>?_,v',vt,?_,?_,ho.kp V J,?_,λg G=>⟨.inr G,J g G⟩,λg G=>⟨.inl (h10 g G).1,(h10 g G).2⟩,λg G e=>?_⟩,kM⟩
 ·rcases G with G | G
  ·have :=hr g G;omega
  ·have :=ho.block g G;omega
 ·rw [hw,MG,MU (w:=w) e1];exact h4 j
 ·rw [hw];exact MI _ _ _ (by rw [Mn (w:=w) e1];exact h5)
 ·rw [hw,Mr _ _ _ _ (by simp),Mn (w:=w) e1];exact h6
 ·exact(h8.kp k λg G e=>H g e G).kp V λg G=>(h10 g G).2
 ·rcases hv g G with h | h
  ·exact H g h e
  ·have :=(h8.block g e).2;omega
theorem jO.K5 {B:Nat}{w w1 w2:World}{b:Nat}{o:List Nat}{ts H:List Value}{M:Nat->Prop}(h:jO B w b o ts M){vt v':Value}(Z:w.cell? ⟨b,1,none⟩=some vt)(k:Kp w w1 λg=>vt.ownBlock=some g)(ho:aM 156 B w1 v' H)
  (hv:∀g,v'.ownBlock=some g->vt.ownBlock=some g\/w.heap.size<=g) (hw:w2=w1.setCell ⟨b,1,none⟩ v'):jO B w2 b o H (λg=>M g\/v'.ownBlock=some g)/\Kp w w2 M:=by
 obtain⟨h1,hle,h3,hr,h4,vo,α,h5,h6,h7,h8,h9,h10,J⟩:=h;have:α=vt:=Ng (h6.symm.trans Z);subst this;have s1:=k.size;have W:Kr b w1 w2:=hw▸Kr.set w1 1 v';have e1:=k.block b h1 λe=>(h10 b e).2 rfl
 have V:∀g,v'.ownBlock=some g->g≠b:=λg G=>(hv g G).elim (λe=>(h10 g e).2) λe=>by omega
 have kM:Kp w w2 M:=Kp.trans (Kp.mono (λg e=>(h10 g e).1) k) W λg _ e=>by rw [e];exact h3
 have s2:=W.size;refine⟨⟨by omega,hle,.inl h3,λg G=>?_,λj=>?_,vo,v',?_,?_,?_,ho.kp W V,λg G=>⟨.inl (h9 g G).1,(h9 g G).2⟩,λg G=>⟨.inr G,V g G⟩,λg G e=>?_⟩,kM⟩
 ·rcases G with G | G
  ·have :=hr g G;omega
  ·have :=ho.block g G;omega
 ·rw [hw,MG,MU (w:=w) e1];exact h4 j
 ·rw [hw,Mr _ _ _ _ (by simp),Mn (w:=w) e1];exact h5
 ·rw [hw];exact MI _ _ _ (by rw [Mn (w:=w) e1];exact h6)
 ·exact(h7.kp k λg G e=>J g G e).kp W λg G=>(h9 g G).2
 ·rcases hv g e with h | h
  ·exact J g G h
  ·have :=(h7.block g G).2;omega
theorem cA {f g:Nat->Nat}:∀{l:Lv},(∀x,(x∈l.bvs\/l.fh x)->f x=g x)->l.map f=l.map g
 | .nil,_=>rfl
 | .thr k a b o r n,h=>by
  have hr:=cA (f:=f) (g:=g) (l:=r) λx G=>h x (by
   rcases G with G | G
   ·left;simp [Lv.bvs,G]
   ·by_cases H:x∈o
    ·left;simp [Lv.bvs,H]
    ·by_cases hb:k= .r/\x=b
     ·left;simp [Lv.bvs,hb.1,hb.2]
     ·right;exact .inr (.inr (.inl ⟨H,hb,G⟩)))
  have J:=cA (f:=f) (g:=g) (l:=n) λx G=>h x (by
   rcases G with G | G
   ·left;simp [Lv.bvs,G]
   ·right;exact .inr (.inr (.inr G)))
  have H:o.map f=o.map g:=NL λx G=>h x (.inl (by simp [Lv.bvs,G]))
  simp only [Lv.map,hr,J,H];cases k<;>simp only [reduceCtorEq,or_self,or_true,true_or,Pk,Ol]
  ·rw [h a (.inr (.inl ⟨.inl rfl,.inl rfl⟩)),h b (.inr (.inl ⟨.inl rfl,.inr rfl⟩))]
  ·rw [h a (.inr (.inr (.inl ⟨rfl,rfl⟩))),h b (.inl (by simp [Lv.bvs]))]
  ·rw [h a (.inr (.inl ⟨.inr rfl,.inl rfl⟩)),h b (.inr (.inl ⟨.inr rfl,.inr rfl⟩))]
 | .sum ps n,h=>by
  have hr:=cA (f:=f) (g:=g) (l:=ps) λx G=>h x (by
   rcases G with G | G
   ·left;simp [Lv.bvs,G]
   ·right;exact .inl G)
  have J:=cA (f:=f) (g:=g) (l:=n) λx G=>h x (by
   rcases G with G | G
   ·left;simp [Lv.bvs,G]
   ·right;exact .inr G)
  simp only [Lv.map,hr,J]
 | .part o q n,h=>by
  have hr:=cA (f:=f) (g:=g) (l:=q) λx G=>h x (by
   rcases G with G | G
   ·left;simp [Lv.bvs,G]
   ·by_cases H:x∈o
    ·left;simp [Lv.bvs,H]
    ·right;exact .inl ⟨H,G⟩)
  have J:=cA (f:=f) (g:=g) (l:=n) λx G=>h x (by
   rcases G with G | G
   ·left;simp [Lv.bvs,G]
   ·right;exact .inr G)
  have H:o.map f=o.map g:=NL λx G=>h x (.inl (by simp [Lv.bvs,G]))
  simp only [Lv.map,hr,J,H]
theorem nX {x:Nat}:∀(l:Lv) (i:Nat),(l.take i).fh x->l.fh x
 | _,0,h=>h.elim
 | .nil,i+1,h=>h
 | .thr k a b o r n,i+1,h=>by
  rcases h with h | h | h | h
  ·exact .inl h
  ·exact .inr (.inl h)
  ·exact .inr (.inr (.inl h))
  ·exact .inr (.inr (.inr (nX n i h)))
 | .sum ps n,i+1,h=>h.elim .inl λh=> .inr (nX n i h)
 | .part o q n,i+1,h=>h.elim .inl λh=> .inr (nX n i h)
def Kw (k:Nat):Prop:=∀{D:Nat->Prop} {w:World} {v:Value} {o:List Nat} {l:Lv} {m r n:Nat} {F:Nat->Nat} {R:Value->PV},l.sz<=k->l.sh true=true->fK D w v o (af D w l)->(∀g,D g->¬(g=m\/g=r))->tV o l->Mk w m n->jC w r F->m≠r->n+o.length+l.bvs.length<=4294967296->o.length+l.tot<=4294967296->
 (∀v' w' F' n',Kq m r w w'->Mk w' m n'->jC w' r F'->Rn n n' (o++l.bvs) F F'->az (Da w) w' (o.map F',l.map F') v'->R v' w')->PW 217 #[ptr m,v,.map (some r)] w (aw [.v] R)
theorem CH (f:Nat->Nat):∀l:Lv,(l.map f).len=l.len:=by intro l;induction l<;>simp_all [Lv.map,Lv.len]
theorem Fm:∀(l:Lv) (i:Nat),(l.take i).bvs.Sublist l.bvs:=by
 intro l
 induction l with
 | nil=>intro i;cases i<;>simp [Lv.take,Lv.bvs]
 | thr k a b o r n _ G=>
  intro i;cases i with
  | zero=>simp [Lv.take,Lv.bvs]
  | succ i=>exact Oc (NC _) (Oc (NC _) (Oc (NC _) (G i)))
 | sum ps n _ G=>
  intro i;cases i with
  | zero=>simp [Lv.take,Lv.bvs]
  | succ i=>exact Oc (NC _) (G i)
 | part o q n _ G=>
  intro i;cases i with
  | zero=>simp [Lv.take,Lv.bvs]
  | succ i=>exact Oc (NC _) (Oc (NC _) (G i))
theorem F6 {o:List Nat}{l e:Lv}{i:Nat}(h:tV o l)(V:l.take (i+1)=(l.take i).app e):(∀x∈o++(l.take i).bvs,x∉e.bvs)/\(l.take i).bvs.length+e.bvs.length<=l.bvs.length:=by
 have G:((l.take i).bvs++e.bvs).Sublist l.bvs:=by rw [<-Lv.dc,<-V];exact Fm l _
 have H:=M6.1 h.nd;refine⟨λx W J=>?_,by have :=G.length_le;rwa [Mt]at this⟩;rcases My.1 W with h | h
 ·exact H.2.2 x h x (G.subset (MT _ J)) rfl
 ·exact(M6.1 (H.2.1.sublist G)).2.2 x h x J rfl
theorem zL (k:Nat)(ih:∀j,j< k->Kw j):Kw k:=by
 intro D w v o l m r n F R hn hsh h hD huq hmk hmf υ hnn htot hR;refine kN (ptr m) v (.map (some r)) w R ?_;refine⟨rfl,λb4 w5 hb4 hw5 b6 w7 hb6 hw7=>?_⟩;have x5:Ex w w5:=hw5▸Ex.alloc w _;have x57:Ex w5 w7:=hw7▸Ex.alloc w5 _;have x7:=Ex.trans x5 x57;have s5:w5.heap.size=w.heap.size+1:=by rw [hw5,size_alloc]
 have s7:w7.heap.size=w5.heap.size+1:=by rw [hw7,size_alloc]
 have hlm:=hmk.lt;have hlr:=hmf.lt;obtain⟨bl,vo,vt,ts,rfl,h2,h3,h4,h5,h6,h7,h8⟩:=h;obtain⟨ao,capo,hvo⟩:=h6.slice;rw [MM]at hvo;obtain⟨at_,capt,hvt⟩:=h7.slice;have hlen:=h8.len;have hel:=Lv.cG l;have hlt:=bQ l;have nd:=huq.nd;have ndo:=M6.1 nd;have cbl:∀{w1:World},Kq m r w w1->∀{j:Nat} {u:Value},w.cell? ⟨bl,j,none⟩=some u->w1.cell? ⟨bl,j,none⟩=some u:=λx j u hu=>by
  rw [Mn (w:=w) (x.kp.block bl h3 (hD bl h2))];exact hu
 have bd7:jO w.heap.size w7 b6 [] [] λg=>g=b6:=jO.new (by omega) hb6 hw7
 have ci7:CI w w7 m r b4 b6 n n [] F F [] .nil [] λg=>g=b6:=
  ⟨(Kq.refl m r w).ex x7 hlm,hmk.ex x7,hmf.kp (Kp.ah x7 λ _=>False) (λh=>h),Rn.refl n F,by rw [x57.cell (show b4< _ by omega),hw5,hb4];exact aa rfl,by omega,by omega,by omega,bd7,rfl,hlm,hlr,υ⟩
 refine⟨bl,0,rfl,vo,cbl ci7.kq h4,ao,_,capo,hvo,λx w'=>∃(j n1:Nat) (F1:Nat->Nat) (M:Nat->Prop),x=j/\j<=o.length/\CI w w' m r b4 b6 n n1 (o.take j) F F1 ((o.take j).map F1) .nil [] M,λx _=>(o.length - x).toNat,⟨0,n,F,_,rfl,Nl _,ci7⟩,λx w17 hI=>?_⟩;obtain⟨j,n1,F1,M,rfl,hj,ci⟩:=hI;refine⟨λhlt0=>?_,λhge=>?_⟩
 ·
  have hjo:=oL hlt0;obtain⟨bo,oo,φ,hvo',hco⟩:∃bo oo φ,vo= .slice (some ⟨bo,oo,none⟩) o.length φ/\w17.cell? ⟨bo,oo+j,none⟩=some (iv o[j]):=by
   rcases h6 with⟨_,h0⟩ | ⟨bo,oo,φ,e,hbD,hb',χ⟩
   ·rw [Pa]at h0;rw [h0]at hjo;simp at hjo
   ·rw [MM]at e;exact⟨bo,oo,φ,e,by rw [Mn (w:=w) (ci.kq.kp.block bo hb' (hD bo hbD))];exact χ j _ (by simp [hjo])⟩
  refine⟨bo,oo,_,φ,hvo',by omega,by omega,(o[j]:Nat),by rw [Mv,MW];exact hco,λw'=>Kq m r w17 w',λw24 hw24=>?_⟩;have x24:Ex w17 w24:=hw24▸Ex.drew w17;have l17m:=ci.mc.lt;have l17r:=ci.mf.lt;have h4':=ci.h4;have rn1:=ci.rn.len;rw [M5,OM hj]at rn1;have q24:Kq m r w17 w24:=(Kq.refl m r w17).ex x24 l17m;have c4:∀{w1:World},Kq m r w17 w1->w1.cell? ⟨b4,0,none⟩=some (.map (some r)):=λq=>by rw [Mn (w:=w17) (q.kp.block b4 ci.l4 (λe=>by rcases e with e | e<;>omega))];exact ci.c4
  refine⟨q24,_,λw' q=>c4 q,sY (ci.mc.ex x24) (by omega) λw27 k27 m27=>?_⟩;have q27:Kq m r w17 w27:=q24.km k27;have mf27:jC w27 r F1:=(ci.mf.kp (Kp.ah x24 λ _=>False) (λh=>h)).kp k27.kp (λe=>υ e.symm);obtain⟨mm,hm1,hm2⟩:=mf27;refine⟨q27,r,mm,rfl,hm1,λw30 hm30 hb30=>?_⟩;have q30:Kq m r w17 w30:=q27.blk hb30 l17m υ;have mk30:Mk w30 m (n1+1):=m27.kp (S:=λg=>g=r) ⟨hb30.os,hb30.tape,hb30.output,by rw [hb30.size];exact Mu _,λg _ H=>hb30.block g H⟩ υ;have mf30:jC w30 r (aI F1 o[j] (n1+101)):=sA hm2 hm30;have hMr:∀g,M g->¬(g=m\/g=r):=λg H e=>by have :=(ci.bd.mr g H).1;omega
  have bd30:=ci.bd.kp q30.kp hMr;obtain⟨vo1,vt1,d0,d1,d2,d3,d4,d5,d6⟩:=bd30.sl;refine⟨λw'=>Kp w30 w' λg=>vo1.ownBlock=some g,λA9 hw32=>?_⟩;have x32:Ex w30 A9:=hw32▸Ex.drew w30;have s30:=q30.size;have nob6:¬vo1.ownBlock=some b6:=λe=>(d4 b6 e).2 rfl
  have nob4:¬vo1.ownBlock=some b4:=λe=>ci.m4 (d4 b4 e).1
  refine⟨Kp.ah x32 _,vo1,λw' k=>by rw [Mn (w:=w30) (k.block b6 bd30.lt nob6)];exact d0,.map (some r),λw' k=>by rw [Mn (w:=w30) (k.block b4 (by have :=ci.l4;omega) nob4)];exact c4 q30,r,_,rfl,iI hm30 (x32.block r (iV hm30)),((n1+101:Nat):Int),true,.inl ⟨rfl,?_⟩,Kp.ah x32 _,λb39 w40 hb39 hw40=>?_⟩
  ·unfold ef;simp
  have x40:Ex A9 w40:=hw40▸Ex.alloc A9 _;have β:=Ex.trans x32 x40;have bd40:=bd30.ex β;have s40:=β.size;have hB40:w.heap.size<=w40.heap.size:=by have :=ci.kq.size;omega
  refine⟨Kp.ah β _,aM.push (d2.kp (Kp.ah β λ _=>False) λ _ _ h=>h) hB40 (m:=[iv (n1+101)]) (D:=λ _=>True) (.inr ⟨b39,0,1,rfl,trivial,by rw [hw40,size_alloc,hb39];omega,λi y hy=>?_⟩) (by rfl) (by omega) (by simp only [MM,Mm,MB,M5];omega) λv46 w47 ho47 hg47 hn47=>?_⟩
  ·cases i with
   | zero=>simp only [NH,NP]at hy;subst hy;rw [hw40,hb39];exact aa rfl
   | succ i=>simp at hy
  have k47:Kp w40 w47 λg=>vo1.ownBlock=some g:=Kp.aQ hg47 λ _ h=>h
  have e6:=k47.block b6 bd40.lt nob6;have c60:w40.cell? ⟨b6,0,none⟩=some vo1:=by rw [β.cell (show b6< _ from bd30.lt)];exact d0
  refine⟨Kp.trans (Kp.ah β _) k47 λ _ _ h=>h,ho47.jU,⟨⟨vo1,by rw [Mn (w:=w40) e6];exact c60⟩,by rw [MU (w:=w40) e6];exact bd40.fr 0⟩,λw49 hw49=>⟨by omega,?_,tN (by omega)⟩⟩;have hoj:o[j]∉o.take j:=λhm=>by
   have h1:=ndo.1;rw [<-NJ j o,Nn hjo]at h1;exact(M6.1 h1).2.2 _ hm _ (Nc ..) rfl
  have hmapj:(o.take j).map F1=(o.take j).map (aI F1 o[j] (n1+101)):=NL λx hx=>by
   have:x≠o[j]:=λe=>hoj (by rw [<-e];exact hx)
   simp only [aI,MJ this]
  have ho47':aM 3 w.heap.size w47 v46 (((o.take (j+1)).map (aI F1 o[j] (n1+101))).map iv):=by
   rw [Mq hjo,Nq,Nq,<-hmapj];simp only [MV,Oq,aI,Ol];exact ho47
  obtain⟨bd49,k49⟩:=bd40.LB c60 k47 ho47' hn47 hw49;have η:∀g,M g->w.heap.size<=g:=λg H=>(ci.bd.mr g H).1
  have ψ:∀g,v46.ownBlock=some g->M g\/w40.heap.size<=g:=λg H=>(hn47 g H).imp (λe=>(d4 g e).1) id
  have q17:Kq m r w w30:=ci.kq.trans q30;refine⟨j+1,n1+1,aI F1 o[j] (n1+101),λg=>M g\/v46.ownBlock=some g,by omega,by omega,?_⟩;refine⟨(q17.ex β hlm).out k49 (λg H hM=>by have :=η g hM;omega) hlm,(mk30.ex β).kp k49 λhM=>by have :=η _ hM;omega,(mf30.kp (Kp.ah β λ _=>False) (λh=>h)).kp k49 λhM=>by have :=η _ hM;omega,?_,?_,?_,h4',?_,bd49,rfl,hlm,hlr,υ⟩
  ·rw [Mq hjo];exact ci.rn.app (Rn.one n1 o[j] F1) λx hx hx'=>hoj (by cases MA.1 hx';exact hx)
  ·rw [Mn (w:=w40) (k49.block b4 (by have :=ci.l4;omega) ci.m4),β.cell (show b4< _ by have :=ci.l4;omega)];exact c4 q30
  ·have :=k49.size;have :=ci.l4;omega
  ·intro hM;rcases hM with hM | hM
   ·exact ci.m4 hM
   ·rcases ψ b4 hM with h | h
    ·exact ci.m4 h
    ·have :=ci.l4;omega
 ·
  have hjo:=oE hge (by omega);subst hjo;rw [MR]at ci;refine⟨bl,0,rfl,vt,cbl ci.kq h5,at_,_,capt,hvt,λx w'=>∃(i n2:Nat) (F2:Nat->Nat) (M2:Nat->Prop) (ts2:List Value),x=i/\i<=ts.length/\CI w w' m r b4 b6 n n2 (o++(l.take i).bvs) F F2 (o.map F2) ((l.take i).map F2) ts2 M2,λx _=>(ts.length - x).toNat,⟨0,n1,F1,M,[],rfl,Nl _,by simpa [Lv.take,Lv.bvs,Lv.map]using ci⟩,λx W hI=>?_⟩;obtain⟨i,n2,F2,M2,ts2,rfl,hi,Z⟩:=hI;refine⟨λhlt1=>?_,λhge1=>?_⟩;rotate_left
  ·have hie:i=l.bf.length:=by simp only [Mw]at hge1;omega
   rw [hie,Lv.cZ]at Z;exact hR _ W F2 n2 Z.kq Z.mc Z.mf Z.rn (Z.bd.Ln (λg _ H=>H) (af.sub (λg _ H=>H.1.1) Z.th))
  have hil:=oL hlt1;have hie:i< l.bf.length:=by omega
  have q59:=Z.kq;obtain⟨bt,ot,θ,hvt',hct⟩:∃bt ot θ,vt= .slice (some ⟨bt,ot,none⟩) ts.length θ/\W.cell? ⟨bt,ot+i,none⟩=some ts[i]:=by
   rcases h7 with⟨_,h0⟩ | ⟨bt,ot,θ,e,hbD,hb',χ⟩
   ·rw [h0]at hil;simp at hil
   ·exact⟨bt,ot,θ,e,by rw [Mn (w:=w) (q59.kp.block bt hb' (hD bt hbD))];exact χ i _ (Mo hil)⟩
  obtain⟨e,he1,he2,he3⟩:=aN.single h8.bf (Mo hil);have he4:l.bf[i]=e:=by rw [Mo hie]at he1;exact Ng he1
  have hts:=Lv.take_succ l i hie;rw [he4]at hts;have hsz:=Lv.dT l e he2;have htt:=Lv.fP l e he2;have huqe:=huq.bf he2;have J:=Z.mc.lt;have hl59r:=Z.mf.lt;have s59:=q59.size;have h4':=Z.h4;have rn2:=Z.rn.len;have bvs2:(l.take (i+1)).bvs=(l.take i).bvs++e.bvs:=by rw [hts,Lv.dc]
  rw [Mt]at rn2;obtain⟨hdis,bvt⟩:=F6 huq hts;have keepO:∀{n3 F3},Rn n2 n3 e.bvs F2 F3->o.map F3=o.map F2/\(l.take i).map F3=(l.take i).map F2:=λ{n3 F3} rn=>by
   refine⟨NL λx hx=>rn.out x (hdis x (M0 _ hx)),cA λx hx=>rn.out x λhxe=>?_⟩;rcases hx with hx | hx
   ·exact hdis x (MT _ hx) hxe
   ·exact huq.nf x ((Lv.lN l e he2).subset hxe) (nX l i hx)
  have fin:∀(G:Nat) (V:World) (n3:Nat) (F3:Nat->Nat),W.heap.size<=G->G< V.heap.size->Kq m r W V->Mk V m n3->jC V r F3->Rn n2 n3 e.bvs F2 F3->af (λg=>W.heap.size<=g/\g< V.heap.size) V (e.map F3) [ptr G]->
    ∃v195:Value,World.cell? V ⟨b6,1,none⟩=some v195/\∀(b196:Nat) (α:World),b196=Array.size (World.heap V)->α=World.alloc V (Obj.cells #[(Value.pointer (some ⟨G,0,none⟩))] 156)->∃(ω n199 m200:Nat) (xs201 news202:List Value),World.ownsRow α ω 156 1 v195 n199 xs201/\ω<=Array.size (World.heap α)/\dI α (Value.slice (some ⟨b196,0,none⟩) 1 1) m200 1 news202/\(n199+m200<=maxLen/\(n199+m200)* 8<=140737488355328)/\
     ∀(v203:Value) (w204:World),World.ownsRow w204 ω 156 1 v203 (n199+m200) (xs201++news202)->World.grownBy α w204 (Value.ownBlock v195)->(∀b:Nat,Value.ownBlock v203=some b->Value.ownBlock v195=some b\/Array.size (World.heap α)<=b)->aB v203=true/\((∃u205:Value,World.cell? w204 ⟨b6,1,none⟩=some u205)/\World.frozen? w204 ⟨b6,1,none⟩=false)/\∀ο:World,ο=World.setCell w204 ⟨b6,1,none⟩ v203->
      bJ ((i:Int)+1)/\(∃(i2 n4:Nat) (F4:Nat->Nat) (M4:Nat->Prop) (ts4:List Value),(i:Int)+1=i2/\i2<=ts.length/\CI w ο m r b4 b6 n n4 (o++(l.take i2).bvs) F F4 (o.map F4) ((l.take i2).map F4) ts4 M4)/\((ts.length:Int) - ((i:Int)+1)).toNat< ((ts.length:Int) - i).toNat:=by
   intro G V n3 F3 h68 l68 δ mk172 mf172 ι ε;have hMr:∀g,M2 g->¬(g=m\/g=r):=λg H e=>by
    have :=(Z.bd.mr g H).1;rcases e with e | e<;>omega
   obtain⟨ko,kl⟩:=keepO ι;have bd172:=Z.bd.kp δ.kp hMr;obtain⟨vo1,vt1,d0,d1,d2,d3,d4,d5,d6⟩:=bd172.sl;refine⟨vt1,d1,λb196 α hb196 hw197=>?_⟩;have κ:Ex V α:=hw197▸Ex.alloc V _;have s197:α.heap.size=V.heap.size+1:=by rw [hw197,size_alloc]
   have s172:=δ.size;have bd197:=bd172.ex κ;have hlts:ts2.length<=ts.length:=by
    have h1:=Z.th.len;have h2:=CH F2 (l.take i);have :=Lv.gh l i;omega
   refine aM.push (d3.kp (Kp.ah κ λ _=>False) λ _ _ h=>h) (by omega) (m:=[ptr G]) (D:=λ _=>True) (.inr ⟨b196,0,1,rfl,trivial,by omega,λi y hy=>?_⟩) (by rfl) (by omega) (by simp only [Mm,MB];omega) λv203 w204 ho204 hg204 hn204=>?_
   ·cases i with
    | zero=>simp only [NH,NP]at hy;subst hy;rw [hw197,hb196];exact aa rfl
    | succ i=>simp at hy
   have k204:Kp α w204 λg=>vt1.ownBlock=some g:=Kp.aQ hg204 λ _ h=>h
   have e6:=k204.block b6 bd197.lt λe=>(d5 b6 e).2 rfl
   have c61:α.cell? ⟨b6,1,none⟩=some vt1:=by rw [κ.cell (show b6< _ from bd172.lt)];exact d1
   refine⟨ho204.jU,⟨⟨vt1,by rw [Mn (w:=α) e6];exact c61⟩,by rw [MU (w:=α) e6];exact bd197.fr 1⟩,λο hw206=>⟨by omega,?_,by omega⟩⟩;obtain⟨bd206,k206⟩:=bd197.K5 c61 k204 ho204 hn204 hw206;have η:∀g,M2 g->w.heap.size<=g/\g< W.heap.size:=Z.bd.mr;have ψ:∀g,v203.ownBlock=some g->M2 g\/α.heap.size<=g:=λg H=>(hn204 g H).imp (λe=>(d5 g e).1) id
   have q206:Kq m r w ο:=((q59.trans δ).ex κ hlm).out k206 (λg H hM=>by have :=(η g hM).1;omega) hlm;have s206:=k206.size;have l4:=Z.l4;have hth1:af (λg=>(w.heap.size<=g/\¬(M2 g\/v203.ownBlock=some g)/\g≠b4)/\g< ο.heap.size) ο ((l.take i).map F3) ts2:=by
    rw [kl];refine af.sub (λg _ H=>⟨⟨H.1.1,λhM=>hM.elim H.1.2.1 λe=>(ψ g e).elim H.1.2.1 λh=>by omega,H.1.2.2⟩,by omega⟩) (af.kp k206 (λg H hM=>H.1.2.1 hM) (af.ex (af.kp δ.kp (λg H e=>by
     have :=H.1.1;rcases e with e | e<;>omega) Z.th) κ))
   have hth2:af (λg=>(w.heap.size<=g/\¬(M2 g\/v203.ownBlock=some g)/\g≠b4)/\g< ο.heap.size) ο (e.map F3) [ptr G]:=
    af.sub (λg _ H=>⟨⟨by omega,λhM=>hM.elim (λh=>by have :=(η g h).2;omega) λe=>(ψ g e).elim (λh=>by have :=(η g h).2;omega) λh=>by omega,by omega⟩,by omega⟩) (af.kp k206 (λg H hM=>by have :=(η g hM).2;omega) (af.ex ε κ))
   refine⟨i+1,n3,F3,λg=>M2 g\/v203.ownBlock=some g,ts2++[ptr G],by omega,by omega,⟨q206,(mk172.ex κ).kp k206 λhM=>by have :=(η _ hM).1;omega,(mf172.kp (Kp.ah κ λ _=>False) (λh=>h)).kp k206 λhM=>by have :=(η _ hM).1;omega,?_,?_,by omega,h4',λhM=>?_,by rw [ko];exact bd206,?_,hlm,hlr,υ⟩⟩
   ·rw [bvs2,<-M8];exact Z.rn.app ι hdis
   ·rw [Mn (w:=α) (k206.block b4 (by omega) Z.m4),κ.cell (show b4< _ by omega),Mn (w:=W) (δ.kp.block b4 l4 λe=>by rcases e with e | e<;>omega)];exact Z.c4
   ·rcases hM with hM | hM
    ·exact Z.m4 hM
    ·rcases ψ b4 hM with h | h
     ·exact Z.m4 h
     ·omega
   ·rw [hts,Lv.eV];exact af.app hth1 hth2
  refine⟨bt,ot,_,θ,hvt',by omega,by omega,ts[i],by rw [Mv,MW];exact hct,?_⟩;have h26:=huqe.ge;have l4:=Z.l4;have c4b:∀{w1:World},Kq m r W w1->w1.cell? ⟨b4,0,none⟩=some (.map (some r)):=λq=>by
   rw [Mn (w:=W) (q.kp.block b4 l4 λe=>by rcases e with e | e<;>omega)];exact Z.c4
  rcases Lv.jK hsh e he2 with⟨kk,a,b,o',q,rfl,hq⟩ | ⟨ps,rfl,hps⟩
  ·obtain⟨t,ts',a',b',vr,e1,ht,hkk,hlv,_⟩:=he3;obtain⟨rfl,rfl⟩:=Ny e1;obtain⟨g,H,hgD,hg2,c0,c1,c2,c3,c4'⟩:=ht;have cg:∀{w1:World},Kq m r W w1->∀{j:Nat} {u:Value},w.cell? ⟨g,j,none⟩=some u->w1.cell? ⟨g,j,none⟩=some u:=λx j u hu=>by
    rw [Mn (w:=w) ((q59.trans x).kp.block g hg2 (hD g hgD))];exact hu
   have q0:=Kq.refl m r W;simp only [Lv.sz]at hsz;simp only [Lv.tot]at htt;obtain⟨u1,u2⟩:=huqe.thr;have ebv:(Lv.thr kk a b o' q .nil).bvs=(if kk= .r then [b]else [])++(o'++q.bvs):=by simp [Lv.bvs]
   rw [ebv]at bvt;simp only [Mt]at bvt;refine⟨g,0,H,kk.byte,cg q0 c0,λG γ hb68 hw69=>⟨λw'=>∃(n3:Nat) (F3:Nat->Nat) (a1 b1:Nat),Kq m r W w'/\Mk w' m n3/\jC w' r F3/\Rn n2 n3 (if kk= .r then [b]else []) F2 F3/\jQ w' G kk.byte a1 b1 (.pointer none) (.slice none 0 0)/\(kk= .t\/kk= .p\/(a1=F3 a/\b1=F3 b)),⟨g,0,H,kk.byte,?_,?_⟩,λw146 hJ=>?_⟩⟩
   all_goals have x69:Ex W γ:=hw69▸Ex.alloc W _
   all_goals have ξ:Kq m r W γ:=q0.ex x69 J
   ·exact cg ξ c0
   ·have th69:jQ γ G kk.byte 0 0 (.pointer none) (.slice none 0 0):=jQ.new hb68 hw69;have mk69:=Z.mc.ex x69;have mf69:=Z.mf.kp (Kp.ah x69 λ _=>False) (λh=>h);have two:(kk= .s\/kk= .m)->∃S106:PV,∀ς:World,ς=World.drew γ->S106 ς/\∃(b108 o109:Nat),ts[i]=Value.pointer (some ⟨b108,o109,none⟩)/\∃n110:Int,(∀w',S106 w'->World.cell? w' ⟨b108,(o109+1),none⟩=some (Value.int IntKind.i64 n110))/\∃(b111 o112:Nat),ts[i]=Value.pointer (some ⟨b111,o112,none⟩)/\∃n113:Int,(∀w',S106 w'->World.cell? w' ⟨b111,(o112+2),none⟩=some (Value.int IntKind.i64 n113))/\∃(f114:Nat) (ca115:List Value),(Value.func (Fn.func 239) #[] #[(Value.pointer (some ⟨b4,0,none⟩))])=Value.func (Fn.func f114) #[] (List.toArray ca115)/\hasR fV f114=true/\PW f114 (List.toArray ([(Value.int IntKind.i64 n110)]++ca115)) ς (aw [.i] fun(n116:Int) (w117:World)=>S106 w117/\∃(f118:Nat) (ca119:List Value),(Value.func (Fn.func 239) #[] #[(Value.pointer (some ⟨b4,0,none⟩))])=Value.func (Fn.func f118) #[] (List.toArray ca119)/\hasR fV f118=true/\PW f118 (List.toArray ([(Value.int IntKind.i64 n113)]++ca119)) w117 (aw [.i] fun(n120:Int) (w121:World)=>S106 w121/\((∃u122:Value,World.cell? w121 ⟨G,1,none⟩=some u122)/\World.frozen? w121 ⟨G,1,none⟩=false)/\∀w123:World,w123=World.setCell w121 ⟨G,1,none⟩ (Value.int IntKind.i64 n116)->((∃u124:Value,World.cell? w123 ⟨G,2,none⟩=some u124)/\World.frozen? w123 ⟨G,2,none⟩=false)/\∀w125:World,w125=World.setCell w123 ⟨G,2,none⟩ (Value.int IntKind.i64 n120)->
      ∃(n3:Nat) (F3:Nat->Nat) (a1 b1:Nat),Kq m r W w125/\Mk w125 m n3/\jC w125 r F3/\Rn n2 n3 (if kk= .r then [b]else []) F2 F3/\jQ w125 G kk.byte a1 b1 (.pointer none) (.slice none 0 0)/\(kk= .t\/kk= .p\/(a1=F3 a/\b1=F3 b)))):=by
     intro hk2;obtain⟨rfl,rfl⟩:a'=a/\b'=b:=by
      rcases hkk with h | h | h
      ·rw [h]at hk2;simp at hk2
      ·rw [h]at hk2;simp at hk2
      ·exact h
     refine⟨λw'=>Ex γ w',λς hw107=>⟨hw107▸Ex.drew γ,g,0,H,a',λw' x=>cg (ξ.ex x J) c1,g,0,H,b',λw' x=>cg (ξ.ex x J) c2,239,[ptr b4],rfl,by kernel_rfl,?_⟩⟩;have x107:Ex γ ς:=hw107▸Ex.drew γ;have q107:=ξ.ex x107 J;have mf107:=mf69.kp (Kp.ah x107 λ _=>False) (λh=>h);refine AT (c4b q107) mf107 ⟨x107,239,[ptr b4],rfl,by kernel_rfl,AT (c4b q107) mf107 ⟨x107,?_⟩⟩;have th107:jQ ς G kk.byte 0 0 (.pointer none) (.slice none 0 0):=th69.kp (Kp.ah x107 λ _=>False) λh=>h
     refine⟨⟨⟨_,th107.c1⟩,th107.f 1⟩,λw123 hw123=>?_⟩;have th123:=th107.zV (x:=F2 a') hw123;refine⟨⟨⟨_,th123.c2⟩,th123.f 2⟩,λw125 hw125=>?_⟩;have th125:=th123.rJ (x:=F2 b') hw125;have kb:Kr G ς w125:=Kr.trans (hw123▸Kr.set ς 1 _) (hw125▸Kr.set w123 2 _);have hkr:¬kk= .r:=λe=>by rw [e]at hk2;simp at hk2
     rw [MJ hkr];exact⟨n2,F2,F2 a',F2 b',q107.out kb (λg H e=>by omega) J,(mk69.ex x107).kp kb (by omega),mf107.kp kb (by omega),Rn.refl n2 F2,th125,.inr (.inr ⟨rfl,rfl⟩)⟩
    have zero:(kk= .t\/kk= .p)->∃(n3:Nat) (F3:Nat->Nat) (a1 b1:Nat),Kq m r W γ/\Mk γ m n3/\jC γ r F3/\Rn n2 n3 (if kk= .r then [b]else []) F2 F3/\jQ γ G kk.byte a1 b1 (.pointer none) (.slice none 0 0)/\(kk= .t\/kk= .p\/(a1=F3 a/\b1=F3 b)):=by
     intro hk2;have hkr:¬kk= .r:=λe=>by rw [e]at hk2;simp at hk2
     rw [MJ hkr];exact⟨n2,F2,0,0,ξ,mk69,mf69,Rn.refl n2 F2,th69,hk2.elim .inl λh=> .inr (.inl h)⟩
    cases kk
    case s=>exact aT (by decide) ⟨λ _=>cN (by decide) (two (.inl rfl)),λh=>absurd h (by decide)⟩
    case m=>exact aT (by decide) ⟨λh=>absurd h (by decide),λ _=>cN (by decide) (two (.inr rfl))⟩
    case t=>exact aT (by decide) ⟨λh=>absurd h (by decide),λ _=>aT (by decide) (zero (.inl rfl))⟩
    case p=>exact aT (by decide) ⟨λh=>absurd h (by decide),λ _=>aT (by decide) (zero (.inr rfl))⟩
    case r=>
     obtain⟨rfl,rfl⟩:a'=a/\b'=b:=by rcases hkk with h | h | h<;>first | exact h | cases h
     obtain⟨v1,v2,v3,v4⟩:=u2 rfl;simp only [Ol,Mm,MB]at bvt;refine cN (by decide) ⟨g,0,H,a',cg ξ c1,239,[ptr b4],rfl,by kernel_rfl,AT (c4b ξ) mf69 ⟨⟨⟨_,th69.c1⟩,th69.f 1⟩,λw82 hw82=>⟨λw'=>Kq m r W w',λw84 hw84=>?_⟩⟩⟩;have th82:=th69.zV (x:=F2 a') hw82;have kb82:Kr G γ w82:=hw82▸Kr.set γ 1 _;have x84:Ex w82 w84:=hw84▸Ex.drew w82;have q82:Kq m r W w82:=ξ.out kb82 (λg H e=>by omega) J;have q84:=q82.ex x84 J;have mk82:=mk69.kp kb82 (by omega);have mf82:=mf69.kp kb82 (by omega);refine⟨q84,_,λw' q=>c4b q,g,0,H,b',λw' q=>cg q c2,sY (mk82.ex x84) (by omega) λw90 k90 m90=>?_⟩;have q90:=q84.km k90;have th90:=(th82.kp (Kp.ah x84 λ _=>False) λh=>h).kp k90.kp (by omega);obtain⟨mm,hm1,hm2⟩:=(mf82.kp (Kp.ah x84 λ _=>False) (λh=>h)).kp k90.kp (λe=>υ e.symm);refine⟨q90,r,mm,rfl,hm1,λw93 hm93 hb93=>?_⟩;have kr93:Kp w90 w93 (λg=>g=r):=⟨hb93.os,hb93.tape,hb93.output,by rw [hb93.size];exact Mu _,λg _ H=>hb93.block g H⟩
     have q93:=q90.blk hb93 J υ;have mk93:=m90.kp kr93 υ;have th93:=th90.kp kr93 (by omega);refine⟨λw'=>Ex w93 w',λw95 hw95=>?_⟩;have x95:Ex w93 w95:=hw95▸Ex.drew w93;have q95:=q93.ex x95 J;have th95:=th93.kp (Kp.ah x95 λ _=>False) λh=>h
     refine⟨x95,_,λw' x=>c4b (q93.ex x J),g,0,H,b',λw' x=>cg (q93.ex x J) c2,r,_,rfl,iI hm93 (x95.block r (iV hm93)),((n2+101:Nat):Int),true,.inl ⟨rfl,by unfold ef;simp⟩,⟨⟨_,th95.c2⟩,th95.f 2⟩,λw105 hw105=>?_⟩;have kb105:Kr G w95 w105:=hw105▸Kr.set w95 2 _;refine⟨n2+1,aI F2 b' (n2+101),F2 a',n2+101,q95.out kb105 (λg H e=>by omega) J,(mk93.ex x95).kp kb105 (by omega),((sA hm2 hm93).kp (Kp.ah x95 λ _=>False) (λh=>h)).kp kb105 (by omega),Rn.one n2 b' F2,th95.rJ hw105,.inr (.inr ⟨?_,?_⟩)⟩
     ·exact(MJ λe=>v2 e.symm).symm
     ·simp [aI]
   ·obtain⟨n3,F3,a1,b1,q146,mk146,mf146,rn146,th146,hab⟩:=hJ;have hbr:∃br,vr=ptr br:=by obtain⟨br,_,_,_,e,_⟩:=hlv;exact⟨br,e⟩
    obtain⟨br,rfl⟩:=hbr;have h68:W.heap.size<=G:=by omega
    refine⟨λw'=>∃(n4:Nat) (F4:Nat->Nat) (vr2:Value),Kq m r W w'/\Mk w' m n4/\jC w' r F4/\Rn n2 n4 ((if kk= .r then [b]else [])++(o'++q.bvs)) F2 F4/\jQ w' G kk.byte a1 b1 vr2 (.slice none 0 0)/\az (λg=>W.heap.size<=g/\g< w'.heap.size) w' (o'.map F4,q.map F4) vr2/\(kk= .t\/kk= .p\/(a1=F4 a/\b1=F4 b)),⟨g,0,H,ptr br,cg q146 c3,some ⟨br,0,none⟩,rfl,λ _=>⟨λw'=>Kq m r W w',λw153 hw153=>?_⟩,λh=>by cases h⟩,λw162 hJ=>?_⟩
    ·have x153:Ex w146 w153:=hw153▸Ex.drew w146;have q153:=q146.ex x153 J;have rl:=rn146.len;have hb1:(if kk= .r then [b]else []).length=if kk= .r then 1 else 0:=by split<;>rfl
     have hl153:fK D w153 (ptr br) o' (af D w153 q):=hlv.kp (q59.trans q153).kp hD λl h=>h.kp (q59.trans q153).kp hD
     refine⟨q153,g,0,H,ptr br,λw' x=>cg x c3,_,λw' x=>c4b x,ih q.sz (by omega) (Mu _) hq hl153 hD u1 (mk146.ex x153) (mf146.kp (Kp.ah x153 λ _=>False) (λh=>h)) υ (by omega) (by omega) λv158 w159 F4 n4 q159 mk159 mf159 rn159 l159=>?_⟩;have s153:=x153.size;have hb68l:=th146.lt;have th159:=(th146.kp (Kp.ah x153 λ _=>False) λh=>h).kp q159.kp (by omega);refine⟨l159.one,⟨⟨_,th159.c3⟩,th159.f 3⟩,λw161 hw161=>?_⟩;have kb161:Kr G w159 w161:=hw161▸Kr.set w159 3 _;have s159:=q159.size;have s161:=kb161.size;have ndb:=huqe.nd;rw [Nk,ebv]at ndb;have nfb:=huqe.nf;rw [ebv]at nfb;have hdis2:=(M6.1 ndb).2.2;refine⟨n4,F4,v158,(q153.trans q159).out kb161 (λg H e=>by omega) J,mk159.kp kb161 (by omega),mf159.kp kb161 (by omega),rn146.app rn159 (λx hx hx'=>hdis2 x hx x hx' rfl),th159.DZ hw161,?_,?_⟩
     ·exact az.sub (az.kp (az.sub (E:=λg=>w153.heap.size<=g/\g< w159.heap.size) l159 λg H hd=>⟨hd,H⟩) kb161 λg H e=>by omega) λg _ H=>⟨by have :=q153.size;omega,by omega⟩
     ·rcases hab with h | h | ⟨ha,hb⟩
      ·exact .inl h
      ·exact .inr (.inl h)
      ·by_cases hkt:kk= .t\/kk= .p
       ·exact hkt.elim .inl λh=> .inr (.inl h)
       ·right;right;have hfa:a∉o'++q.bvs:=λhm=>nfb a (MT _ hm) (by
         cases kk
         ·exact .inl ⟨.inl rfl,.inl rfl⟩
         ·exact .inr (.inl ⟨rfl,rfl⟩)
         ·exact absurd (.inl rfl) hkt
         ·exact .inl ⟨.inr rfl,.inl rfl⟩
         ·exact absurd (.inr rfl) hkt)
        have hfb:b∉o'++q.bvs:=λhm=>by
         by_cases hkr:kk= .r
         ·have :=u2 hkr;exact(My.1 hm).elim this.2.2.1 this.2.2.2
         ·exact nfb b (MT _ hm) (by
           cases kk
           ·exact .inl ⟨.inl rfl,.inr rfl⟩
           ·exact absurd rfl hkr
           ·exact absurd (.inl rfl) hkt
           ·exact .inl ⟨.inr rfl,.inr rfl⟩
           ·exact absurd (.inr rfl) hkt)
        rw [rn159.out a hfa,rn159.out b hfb];exact⟨ha,hb⟩
    ·obtain⟨n4,F4,vr2,q162,mk162,mf162,rn162,th162,l162,hab4⟩:=hJ;refine⟨g,0,H,.slice none 0 0,cg q162 c4',none,0,0,rfl,λy w'=>y=0/\w'=w162,λ _ _=>0,⟨rfl,rfl⟩,λy V hy=>?_⟩;obtain⟨rfl,rfl⟩:=hy;refine⟨λh=>by simp at h,λ _=>fin G V n4 F4 h68 th162.lt q162 mk162 mf162 (by rw [ebv];exact rn162) ?_⟩;refine⟨ptr G,[],a1,b1,vr2,rfl,th162.KI ⟨h68,th162.lt⟩,?_,l162,rfl⟩;rcases hab4 with h | h | ⟨h1,h2⟩
     ·exact .inl h
     ·exact .inr (.inl h)
     ·by_cases hkt:kk= .t\/kk= .p
      ·exact hkt.elim .inl λh=> .inr (.inl h)
      ·exact .inr (.inr ⟨by rw [MJ hkt];exact h1,by rw [MJ hkt];exact h2⟩)
  ·obtain⟨t,ts',a',b',vp,us,e1,ht,hus,hps2,_⟩:=he3;obtain⟨rfl,rfl⟩:=Ny e1;obtain⟨g,H,hgD,hg2,c0,c1,c2,c3,c4'⟩:=ht;have cg:∀{w1:World},Kq m r W w1->∀{j:Nat} {u:Value},w.cell? ⟨g,j,none⟩=some u->w1.cell? ⟨g,j,none⟩=some u:=λx j u hu=>by
    rw [Mn (w:=w) ((q59.trans x).kp.block g hg2 (hD g hgD))];exact hu
   have q0:=Kq.refl m r W;have uq:=huqe.sum;have ebv:(Lv.sum ps .nil).bvs=ps.bvs:=by simp [Lv.bvs]
   rw [ebv]at bvt;simp only [Lv.sz]at hsz;simp only [Lv.tot]at htt;obtain⟨au,cau,hvu⟩:=hus.slice;have hul:=hps2.len;have hpl:=Lv.cG ps;have hpt:=bQ ps;refine⟨g,0,H,43,cg q0 c0,λG γ hb68 hw69=>⟨λw'=>w'=γ,⟨g,0,H,43,?_,aT (by decide) ⟨λh=>absurd h (by decide),λ _=>aT (by decide) rfl⟩⟩,λw146 hJ=>⟨λw'=>w'=γ,?_,λw162 hJ2=>?_⟩⟩⟩
   all_goals have x69:Ex W γ:=hw69▸Ex.alloc W _
   all_goals have ξ:Kq m r W γ:=q0.ex x69 J
   ·exact cg ξ c0
   ·subst hJ;exact⟨g,0,H,.pointer none,cg ξ c3,none,rfl,λh=>(by cases h),λ _=>rfl⟩
   subst hJ2;have h68:W.heap.size<=G:=by omega
   have th69:jQ w162 G 43 0 0 (.pointer none) (.slice none 0 0):=jQ.new hb68 hw69;refine⟨g,0,H,vp,cg ξ c4',au,_,cau,hvu,λy w'=>∃(j n3:Nat) (F3:Nat->Nat) (ζ:Value) (us2:List Value),y=j/\j<=us.length/\Kq m r W w'/\Mk w' m n3/\jC w' r F3/\Rn n2 n3 (ps.take j).bvs F2 F3/\jQ w' G 43 0 0 (.pointer none) ζ/\aM 146 W.heap.size w' ζ us2/\(∀g,ζ.ownBlock=some g->g≠G)/\af (λg=>(W.heap.size<=g/\g≠G/\ζ.ownBlock≠some g)/\g< w'.heap.size) w' ((ps.take j).map F3) us2,
    λy _=>(us.length - y).toNat,⟨0,n2,F2,.slice none 0 0,[],rfl,Nl _,ξ,Z.mc.ex x69,Z.mf.kp (Kp.ah x69 λ _=>False) (λh=>h),Rn.refl n2 F2,th69,aM.nil _ _ _,λg H=>(by cases H),rfl⟩,λy V hI2=>?_⟩
   obtain⟨j,n3,F3,ζ,us2,rfl,hj,δ,mk172,mf172,ι,ε,ho172,hnb,ht172⟩:=hI2;refine⟨λhlt2=>?_,λhge2=>?_⟩;rotate_left
   ·have hje:j=ps.bf.length:=by simp only [Mw]at hge2;omega
    rw [hje,Lv.cZ]at ι ht172;refine fin G V n3 F3 h68 ε.lt δ mk172 mf172 (by rw [ebv];exact ι) ⟨ptr G,[],0,0,ζ,us2,rfl,ε.KI ⟨h68,ε.lt⟩,ho172.Dv (λg H=>ho172.block g H),af.sub (λg _ H=>⟨H.1.1,H.2⟩) ht172,rfl⟩
   have hju:=oL hlt2;have hje:j< ps.bf.length:=by omega
   obtain⟨bu,ou,capu',hvu',hcu⟩:∃bu ou capu',vp= .slice (some ⟨bu,ou,none⟩) us.length capu'/\V.cell? ⟨bu,ou+j,none⟩=some us[j]:=by
    rcases hus with⟨_,h0⟩ | ⟨bt,ot,θ,e,hbD,hb',χ⟩
    ·rw [h0]at hju;simp at hju
    ·exact⟨bt,ot,θ,e,by rw [Mn (w:=w) ((q59.trans δ).kp.block bt hb' (hD bt hbD))];exact χ j _ (Mo hju)⟩
   obtain⟨e,hf1,hf2,hf3⟩:=aN.single hps2.bf (Mo hju);have hf4:ps.bf[j]=e:=by rw [Mo hje]at hf1;exact Ng hf1
   have hts2:=Lv.take_succ ps j hje;rw [hf4]at hts2;obtain⟨hdis2,bvt2⟩:=F6 uq hts2;have huqe2:=uq.bf hf2;have hsz2:=Lv.dT ps e hf2;have htt2:=Lv.fP ps e hf2;obtain⟨o2,q,rfl,hq⟩:=Lv.lQ hps e hf2;simp only [Lv.sz]at hsz2;simp only [Lv.tot]at htt2;have ebv2:(Lv.part o2 q .nil).bvs=o2++q.bvs:=by simp [Lv.bvs]
   rw [ebv2]at bvt2 hdis2;rw [Mt]at bvt2;obtain⟨v2,ts3,e2,hlv2,_⟩:=hf3;obtain⟨rfl,rfl⟩:=Ny e2;have rl:=ι.len;have s172:=δ.size;refine⟨bu,ou,_,capu',hvu',by omega,by omega,us[j],by rw [Mv,MW];exact hcu,λw'=>Kp V w' λg=>g=m\/g=r\/ζ.ownBlock=some g,λw179 hw179=>?_⟩;have μ:Ex V w179:=hw179▸Ex.drew V;have q179:=δ.ex μ J;have hob:=ho172.block;have hb68l:=ε.lt;have nb68:¬(G=m\/G=r\/ζ.ownBlock=some G):=λe=>by
    rcases e with e | e | e
    ·omega
    ·omega
    ·exact hnb _ e rfl
   have nb4:¬(b4=m\/b4=r\/ζ.ownBlock=some b4):=λe=>by
    rcases e with e | e | e
    ·omega
    ·omega
    ·have :=hob _ e;omega
   have hl179:fK D w179 us[j] o2 (af D w179 q):=hlv2.kp (q59.trans q179).kp hD λl h=>h.kp (q59.trans q179).kp hD
   refine⟨Kp.ah μ _,ζ,λw' k=>by rw [Mn (w:=V) (k.block G hb68l nb68)];exact ε.c4,.map (some r),λw' k=>by rw [Mn (w:=V) (k.block b4 (by omega) nb4)];exact c4b δ,?_⟩;refine ih q.sz (by omega) (Mu _) hq hl179 hD huqe2.part (mk172.ex μ) (mf172.kp (Kp.ah μ λ _=>False) (λh=>h)) υ (by omega) (by omega) λv182 w183 F4 n4 q183 mk183 mf183 rn183 l183=>?_
   have k183:Kp V w183 λg=>g=m\/g=r\/ζ.ownBlock=some g:=Kp.trans (Kp.ah μ _) (Kp.mono (λg e=>e.elim .inl λe=> .inr (.inl e)) q183.kp) λ _ _ h=>h
   refine⟨k183,l183.one,λb184 w185 hb184 hw185=>?_⟩;have ν:Ex w183 w185:=hw185▸Ex.alloc w183 _;have s185:w185.heap.size=w183.heap.size+1:=by rw [hw185,size_alloc]
   have s179:=μ.size;have s183:=q183.size;have hMr:∀g,ζ.ownBlock=some g->¬(g=m\/g=r):=λg H e=>by
    have :=hob g H;rcases e with e | e<;>omega
   have ho185:aM 146 W.heap.size w185 ζ us2:=((ho172.kp (Kp.ah μ λ _=>False) λ _ _ h=>h).kp q183.kp hMr).kp (Kp.ah ν λ _=>False) λ _ _ h=>h
   have hlu:us2.length<=us.length:=by
    have h1:=ht172.len;have h2:=CH F3 (ps.take j);have :=Lv.gh ps j;omega
   refine⟨Kp.trans k183 (Kp.ah ν λ _=>False) λ _ _ h=>h.elim,aM.push ho185 (by omega) (m:=[v182]) (D:=λ _=>True) (.inr ⟨b184,0,1,rfl,trivial,by omega,λi y hy=>?_⟩) (by simp only [ND,Ph,OV];exact l183.one) (by omega) (by simp only [Mm,MB];omega) λv191 w192 ho192 hg192 hn192=>?_⟩
   ·cases i with
    | zero=>simp only [NH,NP]at hy;subst hy;rw [hw185,hb184];exact aa rfl
    | succ i=>simp at hy
   have k192:Kp w185 w192 λg=>ζ.ownBlock=some g:=Kp.aQ hg192 λ _ h=>h
   have th185:=((ε.kp (Kp.ah μ λ _=>False) λh=>h).kp q183.kp (λe=>by rcases e with e | e<;>omega)).kp (Kp.ah ν λ _=>False) λh=>h
   have th192:=th185.kp k192 λe=>hnb _ e rfl
   refine⟨Kp.trans (Kp.trans k183 (Kp.ah ν λ _=>False) λ _ _ h=>h.elim) k192 λg _ h=> .inr (.inr h),ho192.jU,⟨⟨_,th192.c4⟩,th192.f 4⟩,λw194 hw194=>⟨by omega,?_,tN (by omega)⟩⟩;have kb194:Kr G w192 w194:=hw194▸Kr.set w192 4 _;have k194:Kp w185 w194 λg=>ζ.ownBlock=some g\/g=G:=Kp.trans (Kp.mono (λ _ h=> .inl h) k192) kb194 λ _ _ h=> .inr h
   have s194:=k194.size;have hnew:∀g,v191.ownBlock=some g->ζ.ownBlock=some g\/w185.heap.size<=g:=hn192;have q185:Kq m r W w185:=(q179.trans q183).ex ν J;have Ah:(ps.take j).map F4=(ps.take j).map F3:=cA λx hx=>rn183.out x λhxe=>by
    rcases hx with hx | hx
    ·exact hdis2 x hx hxe
    ·exact uq.nf x ((Lv.lN ps _ hf2).subset (by rw [ebv2];exact hxe)) (nX ps j hx)
   have hS:∀g,(ζ.ownBlock=some g\/g=G)->W.heap.size<=g:=λg e=>e.elim (λe=>(hob g e).1) λe=>by omega
   refine⟨j+1,n4,F4,v191,us2++[v182],by omega,by omega,q185.out k194 (λg H e=>by have :=hS g e;omega) J,(mk183.ex ν).kp k194 (λe=>by have :=hS _ e;omega),(mf183.kp (Kp.ah ν λ _=>False) (λh=>h)).kp k194 (λe=>by have :=hS _ e;omega),?_,th192.Kh hw194,ho192.kp kb194 (λg H e=>?_),λg H e=>?_,?_⟩
   ·rw [hts2,Lv.dc,ebv2];exact ι.app rn183 hdis2
   ·rcases hnew g H with h | h
    ·exact hnb g h e
    ·omega
   ·rcases hnew g H with h | h
    ·exact hnb g h e
    ·omega
   ·rw [hts2,Lv.eV,Ah];refine af.app ?_ ?_
    ·refine af.sub (λg _ H=>⟨⟨H.1.1,H.1.2.1,λe=>(hnew g e).elim H.1.2.2 λh=>by omega⟩,by omega⟩) (af.kp k194 (λg H e=>e.elim H.1.2.2 H.1.2.1) (af.ex (af.kp q183.kp (λg H e=>by
      have :=H.1.1;rcases e with e | e<;>omega) (af.ex ht172 μ)) ν))
    ·refine⟨v182,[],rfl,?_,rfl⟩;have l183':=az.sub (E:=λg=>w179.heap.size<=g/\g< w183.heap.size) l183 λg H hd=>⟨hd,H⟩
     exact az.sub (az.kp (az.ex l183' ν) k194 λg H e=>by
      rcases e with e | e
      ·have :=hob g e;omega
      ·omega) λg _ H=>⟨⟨by omega,by omega,λe=>(hnew g e).elim (λh=>by have :=hob g h;omega) λh=>by omega⟩,by omega⟩
theorem GN (k:Nat):Kw k:=by
 induction k using Nat.strongRecOn with
 | _ k G=>exact zL k G
def DR (acc:List Tx)(s:Tx):List Tx:=if acc.getLast?=some s then acc else acc++[s]
def dd (l:List Tx):List Tx:=l.foldl DR []
theorem jt (l:List Tx)(s:Tx):dd (l++[s])=DR (dd l) s:=by unfold dd;rw [List.foldl_append];rfl
theorem Ib:∀l:List Tx,(dd l).getLast?=l.getLast?:=by
 intro l;rcases List.eq_nil_or_concat l with rfl | ⟨l,s,rfl⟩
 ·rfl
 ·rw [List.concat_eq_append,jt];unfold DR;split
  ·rename_i h;rw [h];simp
  ·simp
theorem A6 (l:List Tx):(dd l).length<=l.length:=by
 have:∀n (l:List Tx),l.length=n->(dd l).length<=l.length:=by
  intro n
  induction n with
  | zero=>intro l h;have :=MS h;subst this;exact Mu _
  | succ n G=>
   intro l h;rcases List.eq_nil_or_concat l with rfl | ⟨l,s,rfl⟩
   ·exact Mu _
   ·rw [List.concat_eq_append]at h|-;rw [jt];have H:=G l (by simpa using h);unfold DR;split
    ·simp;omega
    ·simp;omega
 exact this _ l rfl
theorem JA {l:List Tx}:∀s,s∈dd l↔s∈l:=by
 have:∀n (l:List Tx),l.length=n->∀s,s∈dd l↔s∈l:=by
  intro n
  induction n with
  | zero=>intro l h;have :=MS h;subst this;intro s;exact Ps
  | succ n H=>
   intro l h s;rcases List.eq_nil_or_concat l with rfl | ⟨l,x,rfl⟩
   ·exact Ps
   ·rw [List.concat_eq_append]at h|-;rw [jt];have G:=H l (by simpa using h);unfold DR;split
    ·rename_i J;rw [G,My,MA];refine⟨.inl,λh=>h.elim id λe=>?_⟩;subst e;exact(G s).1 (List.mem_of_getLast? J)
    ·simp [G]
 exact this _ l rfl
structure HD (B:Nat)(w:World)(r:Nat)(l:List Tx)(bad:Bool)(M:Nat->Prop):Prop where
 lt:r< w.heap.size
 mb:M r
 mr:∀g,M g->B<=g/\g< w.heap.size
 f:∀j,w.frozen? ⟨r,j,none⟩=false
 c1:w.cell? ⟨r,1,none⟩=some (.bool bad)
 sl:∃v,w.cell? ⟨r,0,none⟩=some v/\Own B w v l/\∀g,v.ownBlock=some g->M g/\g≠r
theorem HD.kp {B:Nat}{w w':World}{r:Nat}{l:List Tx}{bad:Bool}{M S:Nat->Prop}(h:HD B w r l bad M)(k:Kp w w' S)(H:∀g,M g->¬S g):HD B w' r l bad M:=by
 have e:=k.block r h.lt (H r h.mb);obtain⟨v,V,W,J⟩:=h.sl;exact⟨MP h.lt k.size,h.mb,λg G=>⟨(h.mr g G).1,MP (h.mr g G).2 k.size⟩,λj=>by rw [MU (w:=w) e];exact h.f j,by rw [Mn (w:=w) e];exact h.c1,v,by rw [Mn (w:=w) e];exact V,W.kp k λg G=>H g (J g G).1,J⟩
theorem Own.jU {B:Nat}{w:World}{v:Value}{l:List Tx}(h:Own B w v l):aB v=true:=by
 rcases h.2 with⟨rfl,_⟩ | ⟨g,cap,cur,rfl,_⟩<;>rfl
theorem GV {B:Nat}{w:World}{r:Nat}{l:List Tx}{bad:Bool}{M:Nat->Prop}{s:Tx}{ok:Bool}(h:HD B w r l bad M)(hl:l.length<=1099511627775){R:PV}
  (hR:∀w' M',Kp w w' M->HD B w' r (l++[s]) (bad|| !ok) M'->(∀g,M' g->M g\/w.heap.size<=g)->R w'):PW 99 #[ptr r,.string (ax s),.bool ok] w (aw [] R):=by
 refine mu (ptr r) s ok w R ?_;dsimp only [go_sem];dsimp only [go_sem,UInt8.reduceOfNat,UInt32.reduceOfNat,Nat.reduceAdd];obtain⟨v,h1,h2,h3⟩:=h.sl;refine⟨r,0,rfl,v,h1,λb7 w8 ι β=>?_⟩;have x8:Ex w w8:=β▸Ex.alloc w _;have s8:w8.heap.size=w.heap.size+1:=by rw [β,size_alloc]
 have hB:=(h.mr r h.mb).1;have γ:=h.lt;refine Own.push (h2.ex x8) (by omega) (Strs.one ι β) (by simp only [Mm,MB];omega) λδ J _ W η α=>?_
 have ε:Kp w8 J λg=>v.ownBlock=some g:=Kp.aQ η λ _ h=>h
 have ζ:=ε.block r (by omega) λe=>(h3 r e).2 rfl
 have μ:=ε.size;have c0:J.cell? ⟨r,0,none⟩=some v:=by rw [Mn (w:=w8) ζ,x8.cell (show r< _ from γ)];exact h1
 have c1:J.cell? ⟨r,1,none⟩=some (.bool bad):=by rw [Mn (w:=w8) ζ,x8.cell (show r< _ from γ)];exact h.c1
 have f15:∀j,J.frozen? ⟨r,j,none⟩=false:=λj=>by rw [MU (w:=w8) ζ,N4 x8 γ];exact h.f j
 refine⟨r,0,rfl,W.jU,⟨⟨_,c0⟩,f15 0⟩,λκ G=>⟨r,0,rfl,bad,?_,λhb=>⟨r,0,rfl,⟨⟨.bool bad,?_⟩,?_⟩,λZ H=>?_⟩,λhb=>⟨r,0,rfl,⟨⟨.bool bad,?_⟩,?_⟩,λZ H=>?_⟩⟩⟩
 ·rw [G,Mr _ _ _ _ (by simp)];exact c1
 ·rw [G,Mr _ _ _ _ (by simp)];exact c1
 ·rw [G,MG];exact f15 1
 rotate_left
 ·rw [G,Mr _ _ _ _ (by simp)];exact c1
 ·rw [G,MG];exact f15 1
 all_goals
  have kk:Kr r J Z:=Kr.trans (G▸Kr.set J 0 _) (H▸Kr.set κ 1 _);have ν:=kk.size;have θ:∀g,δ.ownBlock=some g->g≠r:=λg V=>(α g V).elim (λe=>(h3 g e).2) λe=>by omega
  have kM:Kp w Z M:=Kp.trans (Kp.trans (Kp.ah x8 M) (Kp.mono (λg e=>(h3 g e).1) ε) λ _ _ h=>h) kk λg _ e=>by rw [e];exact h.mb
  refine hR Z (λg=>M g\/δ.ownBlock=some g) kM ⟨by omega,.inl h.mb,λg V=>?_,λj=>?_,?_,δ,?_,W.kp kk θ,λg V=>⟨.inr V,θ g V⟩⟩ λg V=>V.elim .inl λe=>(α g e).elim (λe=> .inl (h3 g e).1) λh=> .inr (by omega)
  ·rcases V with V | V
   ·have :=h.mr g V;omega
   ·have :=W.block g V;omega
  ·rw [H,MG,G,MG];exact f15 j
  ·rw [H]
   first
    | (rw [hb,O9];exact MI _ _ _ (u:= .bool bad) (by rw [G,Mr _ _ _ _ (by simp)];exact c1))
    | (rw [hb,Bool.true_or];exact MI _ _ _ (u:= .bool bad) (by rw [G,Mr _ _ _ _ (by simp)];exact c1))
  ·rw [H,Mr _ _ _ _ (by simp),G];exact MI _ _ _ c0
theorem CO {w:World}{R:PV}(hR:R w):PW 115 #[.slice none 0 0] w (aw [] R):=by
 refine(Any.slices_Sort_string_none BU none 0 w).mono ?_
 rintro e w' ⟨rfl,rfl⟩
 exact⟨rfl,hR⟩
theorem zj {l:List Tx}(h:l.length< 2):dd l=l:=by
 match l,h with
 | [],_=>rfl
 | [a],_=>rfl
theorem tF {B:Nat}{w w':World}{g cap n j:Nat}{l:List Tx}{x:Tx}(h:Own B w (.slice (some ⟨g,0,none⟩) n cap) l)(hw:w'=w.setCell ⟨g,j,none⟩ (.string (ax x)))(G:j< l.length):Own B w' (.slice (some ⟨g,0,none⟩) n cap) (l.set j x):=by
 have H:aM 9 B w (.slice (some ⟨g,0,none⟩) n cap) (l.map sv):=by unfold aM;rw [MM];exact h
 have :=H.set hw (by simpa using G);rw [show Value.string (ax x)=sv x from rfl,<-PS]at this;unfold aM at this;rw [MM]at this;exact this
theorem il {B:Nat}{w:World}{g cap n j:Nat}{l:List Tx}(h:Own B w (.slice (some ⟨g,0,none⟩) n cap) l)(V:j< l.length):w.cell? ⟨g,j,none⟩=some (.string (ax l[j]))/\w.frozen? ⟨g,j,none⟩=false/\n=l.length/\l.length<=cap:=by
 rcases h.2 with⟨H,_⟩ | ⟨g',G,cur,J,W,Z,h1,h2,h3,h4⟩
 ·cases H
 ·cases J;refine⟨?_,?_,rfl,h1⟩
  ·rcases h.strs with⟨H,_⟩ | ⟨b,off,G,J,_,hc⟩
   ·cases H
   ·cases J;have :=hc j _ (Mo V)
    rwa [MX]at this
  ·unfold World.frozen?;simp [Z]
theorem oY {B g cap N:Nat}:∀(k n:Nat) (C:List Tx) (w:World),Own B w (.slice (some ⟨g,0,none⟩) N cap) C->n+k<=C.length->∃G:List Tx,Own B (w.setCells g n (List.replicate k (.string ⟨#[]⟩))) (.slice (some ⟨g,0,none⟩) N cap) G/\G.length=C.length/\G.take n=C.take n
 | 0,_,C,_,h,_=>⟨C,h,rfl,rfl⟩
 | k+1,n,C,w,h,W=>by
  obtain⟨G,H,J,V⟩:=oY k (n+1) (C.set n []) _ (tF (x:=[]) h rfl (by omega)) (by rw [NU];omega);refine⟨G,H,by rw [J,NU],?_⟩;have :=Nz (List.take n) V
  rwa [List.take_take,List.take_take,OM (by omega),ON (Mu _)]at this
theorem CD {B:Nat}{w:World}{g cap N n:Nat}{C:List Tx}(h:Own B w (.slice (some ⟨g,0,none⟩) N cap) C)(J:n<=C.length):Own B w (.slice (some ⟨g,0,none⟩) n cap) (C.take n):=by
 have G:(C.take n).length=n:=by rw [M5];omega
 rcases h.2 with⟨V,_⟩ | ⟨g',H,cur,W,hb,Z,h1,h2,h3,h4⟩
 ·cases V
 ·cases W;refine⟨by rw [MM,MW],.inr ⟨g,cap,cur,by rw [G],hb,Z,by omega,h2,h3,?_⟩⟩;rw [G,List.map_take,<-h4,MW,MW,List.take_take,OM J]
theorem vO {B:Nat}{w:World}{v:Value}{l:List Tx}(h:Own B w v l)(hl:l.length<=1099511627776){R:Value->PV}
  (hR:∀v' w',Kp w w' (λg=>v.ownBlock=some g)->Own B w' v' (dd l)->(∀g,v'.ownBlock=some g->v.ownBlock=some g)->R v' w'):PW 149 #[v] w (aw [.v] R):=by
 refine iw v w R ?_;obtain⟨ao,cap,hv⟩:=h.strs.slice;have kx:∀{w1:World},Ex w w1->Kp w w1 (λg=>v.ownBlock=some g):=λx=>Kp.ah x _
 refine⟨ao,_,cap,hv,λhs=>?_,λhs=>?_⟩
 ·have h2:l.length< 2:=by simp only [Mz]at hs;omega
  refine hR v w (kx (Ex.refl w)) ?_ λ _ h=>h
  rw [zj h2];exact h
 have h2:2<=l.length:=by simp only [Mw]at hs;omega
 obtain⟨g,rfl⟩:∃g,v= .slice (some ⟨g,0,none⟩) l.length cap:=by
  rcases h.2 with⟨_,h0⟩ | ⟨g,cap',cur,θ,_⟩
  ·omega
  ·rw [θ]at hv;cases hv;exact⟨g,θ⟩
 have hcap:=(il h (j:=0) (by omega)).2.2.2;refine⟨λk w'=>∃n:Nat,k=n/\1<=n/\n<=l.length/\dd (l.take n)=l.take n/\Ex w w',λk _=>(l.length - k).toNat,⟨1,rfl,Mu _,by omega,by rw [zj];rw [M5];omega,Ex.refl w⟩,λk w8 hI=>?_⟩;obtain⟨G,rfl,hk1,ι,β,x8⟩:=hI;refine⟨_,_,cap,rfl,λhlt=>?_,λhge=>?_⟩;rotate_left
 ·have:G=l.length:=by simp only [Mw]at hge;omega
  rw [this,MR]at β;refine hR _ w8 (kx x8) ?_ λ _ h=>h
  rw [β];exact h.ex x8
 have ζ:=oL hlt;refine⟨λw'=>Ex w8 w',λw13 κ=>?_⟩;have μ:Ex w8 w13:=κ▸Ex.drew w8;have W:=Ex.trans x8 μ;have o13:=h.ex W;refine⟨μ,g,0,_,cap,rfl,by omega,by omega,l[G],λw' x=>?_,by omega,g,0,_,cap,rfl,by omega,by omega,l[G - 1]'(by omega),λw' x=>?_,λheq=>?_,λZ=>?_⟩
 ·rw [Mv,MW,MX];exact(il (h.ex (Ex.trans x8 x)) ζ).1
 ·rw [show((G:Int) - 1).toNat=G - 1 by omega,MW,MX];exact(il (h.ex (Ex.trans x8 x)) (by omega)).1
 rotate_left
 ·simp only [Mw]at Z;refine⟨by omega,⟨G+1,by omega,by omega,by omega,?_,W⟩,tN (by omega)⟩;rw [Mq ζ,jt,β];unfold DR;have:(l.take G).getLast?≠some l[G]:=λe=>by
   rw [O5,M5,OM ι,Oa (by omega),Mo (by omega)]at e;exact Z (Ng e).symm
  rw [MJ this]
 simp only [Mz]at heq;have hsl:(if cap=(G:Int).toNat then(some ⟨g,0,none⟩:Option Addr)else Option.map (λx:Addr=>x.add ((G:Int).toNat* 1)) (some ⟨g,0,none⟩))=some ⟨g,G,none⟩:=by
  rw [MJ (by omega),N8,add_plain,Mv,MW,MX]
 refine⟨_,_,cap,rfl,by omega,by omega,by omega,λk kk w'=>∃(n i:Nat) (C:List Tx),k=n/\kk=i/\1<=i/\G+i<=l.length/\n< G+i/\C.length=l.length/\Own B w' (.slice (some ⟨g,0,none⟩) l.length cap) C/\C.take n=dd (l.take (G+i))/\C.drop (G+i - 1)=l.drop (G+i - 1)/\Kp w w' (λb=>(Value.slice (some ⟨g,0,none⟩) l.length cap).ownBlock=some b),
  λ _ kk _=>(l.length - kk).toNat,⟨G,1,l,rfl,rfl,Mu _,by omega,by omega,rfl,o13,?_,rfl,kx W⟩,λk kk V hI=>?_⟩
 ·rw [Mq ζ,jt,β];unfold DR;rw [MZ];rw [O5,M5,OM ι,Oa (by omega),Mo (by omega),heq]
 obtain⟨n,i,C,rfl,rfl,hi1,hi2,hn,hC,H,ht,hd,ν⟩:=hI;have hnC:n<=C.length:=by omega
 rw [hsl];refine⟨_,_,_,rfl,λξ=>?_,λο=>?_⟩
 ·have γ:G+i< l.length:=by simp only [Mz]at ξ;omega
  have e1:C[G+i]'(by omega)=l[G+i]:=by
   have :=Nz (fun(x:List Tx)=>x[1]?) hd;simp only [PJ]at this;rw [show G+i - 1+1=G+i by omega,Mo (by omega),Mo γ]at this;exact Ng this
  have e2:C[G+i - 1]'(by omega)=l[G+i - 1]'(by omega):=by
   have :=Nz (fun(x:List Tx)=>x[0]?) hd;simp only [PJ]at this;rw [OQ,Mo (by omega),Mo (by omega)]at this;exact Ng this
  refine⟨λw'=>Ex V w',λς υ=>?_⟩;have δ:Ex V ς:=υ▸Ex.drew V;have η:=H.ex δ;have φ:=Kp.trans ν (Kp.ah δ λ _=>False) λ _ _ h=>h.elim
  have rd:∀{w':World},Ex V w'->∀j (hj:j< C.length),w'.cell? ⟨g,j,none⟩=some (.string (ax C[j])):=λx j hj=>(il (H.ex x) hj).1
  have α:(dd (l.take (G+i))).getLast?=some (l[G+i - 1]'(by omega)):=by
   rw [Ib,O5,M5,OM hi2,Oa (by omega),Mo (by omega)]
  have χ:dd (l.take (G+(i+1)))=DR (dd (l.take (G+i))) l[G+i]:=by
   rw [<-OU,Mq γ,jt]
  refine⟨δ,g,G,_,_,rfl,by omega,by omega,C[G+i]'(by omega),λw' x=>?_,by omega,g,G,_,_,rfl,by omega,by omega,C[G+i - 1]'(by omega),λw' x=>?_,λZ=>?_,λε=>?_⟩
  ·rw [Mv,MW];exact rd x _ _
  ·rw [show G+((i:Int) - 1).toNat* 1=G+i - 1 by omega];exact rd x _ _
  ·have ψ:l[G+i]≠l[G+i - 1]'(by omega):=by
    rw [<-e1,<-e2];intro e;rw [e]at Z;simp at Z
   refine⟨g,G,_,_,rfl,by omega,by omega,C[G+i]'(by omega),by rw [Mv,MW];exact rd δ _ _,g,0,_,cap,rfl,by omega,by omega,?_,λw57 J=>⟨by omega,by omega,⟨n+1,i+1,C.set n (C[G+i]'(by omega)),by omega,by omega,by omega,by omega,by omega,by simpa using hC,?_,?_,?_,?_⟩,tN (by omega)⟩⟩
   ·rw [Mv,MW,MX];have :=il η (j:=n) (by omega);exact⟨⟨_,this.1⟩,this.2.1⟩
   ·rw [Mv,MW,MX]at J;exact tF η J (by omega)
   ·rw [Mq (by simpa using(by omega:n< C.length)),ON (Mu _),ht,χ];unfold DR;rw [α,MJ (λe=>ψ (Ng e).symm),List.getElem_set_self,e1]
   ·have:C.drop (G+i)=l.drop (G+i):=by
     have :=Nz (fun(x:List Tx)=>x.drop 1) hd;simp only [Pe]at this
     rwa [show G+i - 1+1=G+i by omega]at this
    rw [show G+(i+1) - 1=G+i by omega,List.drop_set_of_lt hn,this]
   ·rw [Mv,MW,MX]at J;exact Kp.trans φ (J▸Kr.set ς n _) λb _ e=>by rw [e];rfl
  ·have ω:l[G+i]=l[G+i - 1]'(by omega):=by
    rw [<-e1,<-e2];have:decide (C[G+i]'(by omega)=C[G+i - 1]'(by omega))=true:=by
     cases hd:decide (C[G+i]'(by omega)=C[G+i - 1]'(by omega))with
     | true=>rfl
     | false=>rw [hd]at ε;cases ε
    exact MN this
   refine⟨by omega,⟨n,i+1,C,rfl,by omega,by omega,by omega,by omega,hC,η,?_,?_,φ⟩,tN (by omega)⟩
   ·rw [ht,χ];unfold DR;rw [α,MZ (by rw [ω])]
   ·have :=Nz (fun(x:List Tx)=>x.drop 1) hd;simp only [Pe]at this;rw [show G+i - 1+1=G+i by omega]at this;rw [show G+(i+1) - 1=G+i by omega];exact this
 ·have γ:G+i=l.length:=by simp only [Mw]at ο;omega
  rw [γ,MR]at ht;have hs2:(if cap=(n:Int).toNat then(some ⟨g,0,none⟩:Option Addr)else Option.map (λx:Addr=>x.add ((n:Int).toNat* 1)) (some ⟨g,0,none⟩))=some ⟨g,n,none⟩:=by
   rw [MJ (by omega),N8,add_plain,Mv,MW,MX]
  have hs3:(if cap=(0:Int).toNat then(some ⟨g,0,none⟩:Option Addr)else Option.map (λx:Addr=>x.add ((0:Int).toNat* 1)) (some ⟨g,0,none⟩))=some ⟨g,0,none⟩:=by
   rw [MJ (by have:(0:Int).toNat=0:=rfl;omega),N8,add_plain];rfl
  refine⟨_,_,cap,rfl,by omega,by omega,by omega,_,_,_,rfl,.inr ⟨g,n,hs2,λj hj=>?_,λw66 hw66=>⟨_,_,cap,rfl,by omega,by omega,by omega,?_⟩⟩⟩
  ·have :=il H (j:=n+j) (by omega);exact⟨⟨_,this.1⟩,this.2.1⟩
  rw [hs3];obtain⟨C2,o66,hC2,ht2⟩:=oY (Int.toNat (l.length:Int) - Int.toNat (n:Int)) n C V H (by omega);obtain⟨k66,_⟩:=aU (b:=g) (List.replicate (Int.toNat (l.length:Int) - Int.toNat (n:Int)) (.string ⟨#[]⟩)) V n;rw [<-hw66]at k66 o66;have :=CD o66 (n:=n) (by omega);rw [ht2,ht]at this;exact hR _ w66 (Kp.trans ν k66 λb _ e=>by rw [e];rfl) this λb hb=>by cases hb;rfl
end Go.Proofs.YtdecokaadekjnaaGreat
namespace Go.Proofs.YtdecokaadekjnaaGreat
open Go
attribute [go_sem] Tryz.f107
theorem jL (s1:Value)(v2:aF)(w:World)(R:Int->PV)(h:vc ay (a6 [(2,[(8,.i)])] [] []) (ab Tryz.f107) (ai 0 [.v s1,.s v2]) w (fin ay [.tmp 4 .i] R)):
  PW 107 #[s1,(.string (ax v2))] w (aw [.i] R):=
 bc Tryz.func107 (by kernel_rfl) h
attribute [go_sem] Tryz.f63
theorem gI (s1:Value)(v2:aF)(w:World)(R:Bool->PV)(h:vc ay (a6 [] [] []) (ab Tryz.f63) (ai 0 [.v s1,.s v2]) w (fin ay [.tmp 4 .b] R)):
  PW 63 #[s1,(.string (ax v2))] w (aw [.b] R):=
 bc Tryz.func63 (by kernel_rfl) h
theorem qt (p1:aF)(w:World)(R:Value->Bool->PV)(h:y7 135 #[(.string (ax p1))] w λv2 q3 w4=>bS (!q3) (R (.pointer none) false w4) (j4 w4 λS5 w6=>cw v2 λb7 o8=>GP S5 b7 (o8+1) λs9=>cw v2 λb10 o11=>GP S5 b10 (o11+1) λs12=>(dQ w6 (.cells #[(.string (ax s12))] 9) λb13 w14=>S5 w14/\dQ w14 (Obj.map #[] 0) λb15 w16=>S5 w16/\aB (.slice (some ⟨b13,0,none⟩) 1 1)=true/\aB (.map (some b15))=true/\dQ w16 (.cells #[(.string (ax s9)),(.slice (some ⟨b13,0,none⟩) 1 1),(.map (some b15))] 59) λV w18=>S5 w18/\tY 0 w18 λI19 m20 i21 δ=>cY δ V 1 λv23=>jS v23 λl25=>bS (decide (i21< (l25:Int))) (cY δ V 1 λv27=>jc v27 i21 λb28 o29=>HJ δ b28 (o29+i21.toNat* 1) λs32=>xL 92 #[(.string (ax s32))] δ λv33 w34=>y7 136 #[v33] w34 λχ q36 w37=>bS (!q36) (R (.pointer none) false w37) (j4 w37 λψ w39=>eo ψ V 2 λv40=>eo ψ V 1 λv41=>jc v41 i21 λb42 o43=>GP ψ b42 (o43+i21.toNat* 1) λs46=>∃(ι:Nat) (m48:Value->Option Value),v40= .map (some ι)/\IsMap w39 ι .string m48/\∀ω:World,IsMap ω ι .string (ef m48 (.string (ax s46)) χ)->cX w39 ω ι->jS χ λl51=>tY 0 ω λI53 κ J W=>bS (decide (J< (l51:Int))) (jc χ J λb57 o58=>HJ W b57 (o58+J.toNat* 1) λs61=>cY W V 1 λv62=>Hb 63 #[v62,(.string (ax s61))] W λq63 μ=>bS (!q63) (cY μ V 1 λv65=>dQ μ (.cells #[(.string (ax s61))] 9) λb66 w67=>nJ 9 1 16 w67 v65 (.slice (some ⟨b66,0,none⟩) 1 1) λv73 w74=>aB v73=true/\jW w74 V 1 v73 λw76=>bJ (J+1)/\I53 (J+1) w76/\κ (J+1) w76< κ J W) (bJ (J+1)/\I53 (J+1) μ/\κ (J+1) μ< κ J W)) (cY W V 1 λv77=>jS v77 λl79=>bS (decide (60< (l79:Int))) (R (.pointer none) false W) (bJ (i21+1)/\I19 (i21+1) W/\m20 (i21+1) W< m20 i21 δ)))) (R ((.pointer (some ⟨V,0,none⟩))) true δ))/\(dQ w6 (Obj.map #[] 0) λb81 w82=>S5 w82/\dQ w82 (.cells #[(.string (ax s12))] 9) λb83 w84=>S5 w84/\aB (.slice (some ⟨b83,0,none⟩) 1 1)=true/\aB (.map (some b81))=true/\dQ w84 (.cells #[(.string (ax s9)),(.slice (some ⟨b83,0,none⟩) 1 1),(.map (some b81))] 59) λZ w86=>S5 w86/\tY 0 w86 λI87 m88 i89 ε=>cY ε Z 1 λv91=>jS v91 λl93=>bS (decide (i89< (l93:Int))) (cY ε Z 1 λv95=>jc v95 i89 λb96 o97=>HJ ε b96 (o97+i89.toNat* 1) λs100=>xL 92 #[(.string (ax s100))] ε λv101 w102=>y7 136 #[v101] w102 λζ q104 ν=>bS (!q104) (R (.pointer none) false ν) (j4 ν λη ξ=>eo η Z 2 λv108=>eo η Z 1 λv109=>jc v109 i89 λb110 o111=>GP η b110 (o111+i89.toNat* 1) λs114=>∃(α:Nat) (ο:Value->Option Value),v108= .map (some α)/\IsMap ξ α .string ο/\∀θ:World,IsMap θ α .string (ef ο (.string (ax s114)) ζ)->cX ξ θ α->jS ζ λl119=>tY 0 θ λς β G H=>bS (decide (G< (l119:Int))) (jc ζ G λb125 o126=>HJ H b125 (o126+G.toNat* 1) λυ=>cY H Z 1 λv130=>Hb 63 #[v130,(.string (ax υ))] H λq131 γ=>bS (!q131) (cY γ Z 1 λv133=>dQ γ (.cells #[(.string (ax υ))] 9) λb134 w135=>nJ 9 1 16 w135 v133 (.slice (some ⟨b134,0,none⟩) 1 1) λv141 w142=>aB v141=true/\jW w142 Z 1 v141 λφ=>bJ (G+1)/\ς (G+1) φ/\β (G+1) φ< β G H) (bJ (G+1)/\ς (G+1) γ/\β (G+1) γ< β G H)) (cY H Z 1 λv145=>jS v145 λl147=>bS (decide (60< (l147:Int))) (R (.pointer none) false H) (bJ (i89+1)/\I87 (i89+1) H/\m88 (i89+1) H< m88 i89 ε)))) (R ((.pointer (some ⟨Z,0,none⟩))) true ε)))):
  PW 90 #[(.string (ax p1))] w (aw [.v,.b] R):=
 IJ (a6 [(6,[(7,.i)]),(13,[(68,.i)])] [] [(4,true,.lt 0 (.lt 1 (.lt 2 (.lt 3 (.lt 4 (.lt 5 (.lt 6 (.lt 7 (.br .g 8 (.one .g 9 (.lt 10 (.one .g 11 (.lt 12 .done)))) (.one .g 9 (.one .g 8 (.lt 10 (.one .g 11 (.lt 12 .done)))))))))))))),(11,true,.lt 0 (.lt 1 (.lt 2 (.lt 3 (.lt 4 (.lt 5 (.lt 6 (.lt 7 (.lt 8 (.lt 9 (.lt 10 (.lt 11 (.one .n 12 .done)))))))))))))]) [.tmp 2 .v,.tmp 3 .b] [.s p1] Tryz.func90 (by kernel_rfl) h
attribute [go_sem] Tryz.f46
attribute [go_sem] Tryz.f61
theorem gw (s1:Value)(f2:Value)(w:World)(R:Int->PV)(h:vc ay (a6 [(2,[(8,.i)])] [] []) (ab Tryz.f61) (ai 0 [.v s1,.v f2]) w (fin ay [.tmp 4 .i] R)):
  PW 61 #[s1,f2] w (aw [.i] R):=
 bc Tryz.func61 (by kernel_rfl) h
attribute [go_sem] Tryz.f47
attribute [go_sem] Tryz.f141
theorem mz (s1:Value)(G:Int)(w:World)(R:Bool->PV)(h:vc ay (a6 [] [] []) (ab Tryz.f141) (ai 0 [.v s1,.i G]) w (fin ay [.tmp 4 .b] R)):
  PW 141 #[s1,(.int .i64 G)] w (aw [.b] R):=
 bc Tryz.func141 (by kernel_rfl) h
attribute [go_sem] Tryz.f82
theorem qT (s1:UInt32)(w:World)(R:aF->PV)(h:vc ay (a6 [(3,[(3,.s),(4,.c)])] [] []) (ab Tryz.f82) (ai 0 [.w s1]) w (fin ay [.tmp 2 .s] R)):
  PW 82 #[(.int .u32 (UInt32.toNat s1))] w (aw [.s] R):=
 bc Tryz.func82 (by kernel_rfl) h
attribute [go_sem] Tryz.f93
theorem mE (s1:Value)(G:UInt8)(w:World)(R:aF->PV)(h:vc ay (a6 [(3,[(5,.w),(18,.i)]),(6,[(5,.w),(25,.i)])] [] []) (ab Tryz.f93) (ai 0 [.v s1,.c G]) w (fin ay [.tmp 4 .s] R)):
  PW 93 #[s1,(.int .u8 G.toNat)] w (aw [.s] R):=
 bc Tryz.func93 (by kernel_rfl) h
attribute [go_sem] Tryz.f91
attribute [go_sem] Tryz.f48
attribute [go_sem] Tryz.f14
end Go.Proofs.YtdecokaadekjnaaGreat
namespace Go.Proofs.YtdecokaadekjnaaGreat
open Go Go.RowKit
theorem EH {B:Nat}{w:World}{r:Nat}{l:List Tx}{bad:Bool}{M:Nat->Prop}(h:HD B w r l bad M)(hl:l.length<=1099511627776){R:Value->Bool->PV}
  (Z:bad=true->R (.slice none 0 0) false w) (H:bad=false->∀v' w',Kp w w' M->Own B w' v' (dd (aH l))->(∀g,v'.ownBlock=some g->M g)->R v' true w'):PW 100 #[ptr r] w (aw [.v,.b] R):=by
 refine j9 (ptr r) w R ?_;dsimp only [go_sem];dsimp only [go_sem,UInt8.reduceOfNat,UInt32.reduceOfNat,Nat.reduceAdd];obtain⟨v,h1,h2,G⟩:=h.sl;refine⟨r,0,rfl,bad,h.c1,Z,λhb=>⟨r,0,rfl,v,h1,?_⟩⟩;have α:(aH l).length=l.length:=(aE l).length_eq;by_cases J:l=[]
 ·subst J;have V:v= .slice none 0 0\/∃g cap,v= .slice (some ⟨g,0,none⟩) 0 cap:=by
   rcases h2.2 with⟨h0,_⟩ | ⟨g,cap,cur,W,_⟩
   ·exact .inl h0
   ·exact .inr ⟨g,cap,W⟩
  have hs:∀{R:PV},R w->PW 115 #[v] w (aw [] R):=λ{R} hR=>by
   rcases V with rfl | ⟨g,cap,rfl⟩
   ·exact CO hR
   ·refine(Any.slices_Sort_string_none BU (some ⟨g,0,none⟩) cap w).mono ?_
    rintro e w' ⟨rfl,rfl⟩
    exact⟨rfl,hR⟩
  refine hs ⟨r,0,rfl,v,h1,vO h2 (by simp) λv' w' k s W=>H hb v' w' (Kp.mono (λg e=>(G g e).1) k) ?_ λg hg=>(G g (W g hg)).1⟩;have:aH []=[]:=MS α;rw [this];exact s
 ·refine sort_k h2 J hl λw8 k8 o8=>⟨r,0,rfl,v,?_,vO o8 (by omega) λv' w' k s W=>H hb v' w' (Kp.trans (Kp.mono (λg e=>(G g e).1) k8) k λg _ e=>(G g e).1) s λg hg=>(G g (W g hg)).1⟩
  rw [Mn (w:=w) (k8.block r h.lt λe=>(G r e).2 rfl)];exact h1
theorem CU {D:Nat->Prop}{w:World}{v:Value}{o:List Nat}{x:Nat}(h:dV D w v (o.map iv))(hl:o.length<=1099511627776){R:Bool->PV}(hR:R (decide (x∈o)) w):
  PW 188 #[v,iv x] w (aw [.b] R):=by
 refine jv v x w R ?_;dsimp only [go_sem];dsimp only [go_sem,UInt8.reduceOfNat,UInt32.reduceOfNat,Nat.reduceAdd];refine me v x w _ ?_;dsimp only [go_sem];dsimp only [go_sem,UInt8.reduceOfNat,UInt32.reduceOfNat,Nat.reduceAdd];obtain⟨Z,cap,W⟩:=h.slice;rw [MM]at W;refine⟨Z,_,cap,W,λi w'=>∃j:Nat,i=j/\j<=o.length/\w'=w/\x∉o.take j,λi _=>(o.length - i).toNat,⟨0,rfl,Nl _,rfl,by simp⟩,λi w' hI=>?_⟩;obtain⟨j,rfl,hj,rfl,hm⟩:=hI;refine⟨λJ=>?_,λV=>?_⟩
 ·have G:=oL J;refine h.KV (Og j) (gE G) (Q:=λn=>_) ⟨λhe=>?_,λH=>?_⟩
  ·have he:x=o[j]:=by simp only [Mz]at he;omega
   show R (decide (0<=(j:Int))) _;rw [N5 (show(0:Int)<=(j:Int) by omega)];rw [N5 (show x∈o by rw [he];exact Mx G)]at hR;exact hR
  ·have H:x≠o[j]:=by simp only [Mw]at H;omega
   refine⟨by omega,⟨j+1,by omega,by omega,rfl,?_⟩,tN (by omega)⟩;rw [Mq G,My,MA];exact λh=>h.elim hm H
 ·have:j=o.length:=by simp only [Mw]at V;omega
  rw [this,MR]at hm;show R (decide ((0:Int)<= -1)) _;rw [N9 (show ¬(0:Int)<= -1 by omega)];rw [N9 hm]at hR;exact hR
theorem HC {w:World}{v:Value}{l:List Tx}{x:Tx}(h:Strs w v l)(hl:l.length<=1099511627776){R:Bool->PV}(hR:R (decide (x∈l)) w):
  PW 63 #[v,.string (ax x)] w (aw [.b] R):=by
 refine gI v x w R ?_;dsimp only [go_sem];dsimp only [go_sem,UInt8.reduceOfNat,UInt32.reduceOfNat,Nat.reduceAdd];refine jL v x w _ ?_;dsimp only [go_sem];dsimp only [go_sem,UInt8.reduceOfNat,UInt32.reduceOfNat,Nat.reduceAdd];obtain⟨ao,cap,hv⟩:=h.slice;refine⟨ao,_,cap,hv,λi w'=>∃j:Nat,i=j/\j<=l.length/\w'=w/\x∉l.take j,λi _=>(l.length - i).toNat,⟨0,rfl,Nl _,rfl,by simp⟩,λi w' hI=>?_⟩;obtain⟨j,rfl,hj,rfl,hm⟩:=hI;refine⟨λV=>?_,λW=>?_⟩
 ·have G:=oL V;obtain⟨b,off,J,Z,_,hc⟩:=h.at G;refine⟨b,off,_,J,Z,by omega,by omega,l[j],by rw [Mv,MW];exact hc,λhe=>?_,λH=>?_⟩
  ·have he:x=l[j]:=by simpa using he
   show R (decide (0<=(j:Int))) _;rw [N5 (show(0:Int)<=(j:Int) by omega)];rw [N5 (show x∈l by rw [he];exact Mx G)]at hR;exact hR
  ·have H:x≠l[j]:=by simpa using H
   refine⟨by omega,⟨j+1,by omega,by omega,rfl,?_⟩,tN (by omega)⟩;rw [Mq G,My,MA];exact λh=>h.elim hm H
 ·have:j=l.length:=by simp only [Mw]at W;omega
  rw [this,MR]at hm;show R (decide ((0:Int)<= -1)) _;rw [N9 (show ¬(0:Int)<= -1 by omega)];rw [N9 hm]at hR;exact hR
theorem J3 {D:Nat->Prop}{w:World}{s n x nm:Nat}{o:List Nat}{l:Lv}{c0 c1 c4 vr:Value}(η:Mk w s n)(h:fK D w vr o (af D w l))(hD:∀g,D g->g≠s)(ψ:l.sh true=true)(ω:tV o l)(hnn:n+o.length+l.bvs.length<=4294967296)(θ:o.length+l.tot<=4294967296){R:Value->PV}
  (hR:∀v' w' F' n',Km s w w'->Mk w' s n'->Rn n n' (o++l.bvs) (aI id x nm) F'->az (Da w) w' (o.map F',l.map F') v'->R v' w'):
  PW 177 #[ptr s,.agg (List.toArray [c0,c1,iv x,vr,c4]),iv nm] w (aw [.v] R):=by
 refine jy (ptr s) _ nm w R ?_;dsimp only [go_sem];dsimp only [go_sem,UInt8.reduceOfNat,UInt32.reduceOfNat,Nat.reduceAdd];refine⟨_,rfl,λb5 H ι α=>⟨λw'=>Kp H w' (λg=>g=s\/H.heap.size<=g),λw8 κ=>?_⟩⟩;have x6:Ex w H:=α▸Ex.alloc w _;have s6:H.heap.size=w.heap.size+1:=by rw [α,size_alloc]
 have x8:Ex H w8:=κ▸Ex.drew H;have s8:w8.heap.size=H.heap.size:=by rw [κ];rfl
 have μ:=η.lt;have ν:¬(b5=s\/H.heap.size<=b5):=λe=>by rcases e with e | e<;>omega
 have d3:H.cell? ⟨b5,3,none⟩=some vr:=by rw [α,ι];exact aa rfl
 have d2:H.cell? ⟨b5,2,none⟩=some (iv x):=by rw [α,ι];exact aa rfl
 have l5:b5< H.heap.size:=by omega
 refine⟨Kp.ah x8 _,s,0,rfl,vr,λw' k=>by rw [Mn (w:=H) (k.block b5 l5 ν)];exact d3,x,λw' k=>by rw [Mn (w:=H) (k.block b5 l5 ν)];exact d2,λβ γ ξ J=>?_⟩;have δ:Ex w8 γ:=J▸Ex.alloc w8 _;have s14:γ.heap.size=w8.heap.size+1:=by rw [J,size_alloc]
 have ο:IsMap γ β (.int .i64) (dj []):=⟨#[],0,by rw [J,ξ];unfold World.alloc;simp,⟨by simp,by simp,by simp⟩,by simp,λq=>rfl⟩
 refine⟨Kp.ah (Ex.trans x8 δ) _,β,_,rfl,ο,λV ς G=>?_⟩;have ζ:Kp γ V (λg=>g=β):=⟨G.os,G.tape,G.output,by rw [G.size];exact Mu _,λg _ hg=>G.block g hg⟩
 have s17:=ζ.size;have ε:Kp H V (λg=>g=s\/H.heap.size<=g):=Kp.trans (Kp.ah (Ex.trans x8 δ) _) ζ λg _ e=> .inr (by omega)
 have W:Ex w V:=Ex.below (Ex.trans (Ex.trans x6 x8) δ) (Kp.below ζ (Ex.trans (Ex.trans x6 x8) δ).size λg hg e=>by omega);refine⟨ε,?_⟩;have υ:jC V β (aI id x nm):=sA (F:=id) (λz=> .inr ⟨rfl,rfl⟩) ς;have h':fK (λg=>D g/\g< w.heap.size) w vr o (af (λg=>D g/\g< w.heap.size) w l):=az.sub (L:=(o,l)) h λg hg hd=>⟨hd,hg⟩
 refine GN _ (Mu _) ψ (fK.ex h' W) (λg hg e=>?_) ω (η.ex W) υ (by omega) hnn θ λv18 w19 F' n' Z φ mf19 χ l19=>?_
 ·rcases e with e | e
  ·exact hD g hg.1 e
  ·omega
 ·have s19:=Z.size;refine⟨Kp.trans ε (Kp.mono (λg e=>e) Z.kp) λg hg e=>e.elim .inl λe=> .inr (by omega),hR v18 w19 F' n' ⟨?_,λj hj=>?_,λj=>?_⟩ φ χ (az.sub l19 λg _ hg=>by show w.heap.size<=g;have:V.heap.size<=g:=hg;omega)⟩
  ·exact Kp.trans (Kp.ah W _) Z.kp λg hg e=>e.elim id λe=>by omega
  ·rw [Z.ce j hj,W.cell (show s< _ from μ)]
  ·rw [Z.fz j,N4 W μ]
theorem zb {X:Type}(P:Nat->Bool)(x:X):∀(l:List X) (k:Nat),jN P (l++[x]) k=jN P l k++if P (k+l.length)then []else [x]
 | [],k=>by rw [Nk,bX,jz];simp [jz]
 | y::l,k=>by
  rw [Ns,bX,bX,zb P x l (k+1),Mm,show k+1+l.length=k+(l.length+1) by omega];split<;>simp
def elsL:List Lv->Lv
 | []=> .nil
 | e::r=>e.app (elsL r)
theorem zm:∀l m:List Lv,elsL (l++m)=(elsL l).app (elsL m)
 | [],m=>rfl
 | e::l,m=>by simp only [Ns,elsL,zm l m,Lv.ch]
theorem FM (e:Lv):elsL [e]=e:=Lv.aX e
theorem rj {X:Type}{P:Nat->Bool}:∀{l:List X} {k:Nat} {x:X},x∈jN P l k->x∈l
 | [],k,x,h=>by rw [jz]at h;cases h
 | y::l,k,x,h=>by
  rw [bX]at h;split at h
  ·exact MD _ (rj h)
  ·rcases MH.1 h with rfl | h
   ·exact Nc ..
   ·exact MD _ (rj h)
theorem wM {X:Type}(P:Nat->Bool):∀(l:List X) (k:Nat),(jN P l k).Sublist l
 | [],k=>by rw [jz];exact NC _
 | y::l,k=>by
  rw [bX];split
  ·exact(wM P l (k+1)).trans (List.sublist_cons_self ..)
  ·exact(wM P l (k+1)).cons_cons y
def nD (l:List Lv):Nat:=(l.map Lv.tot).sum
theorem kA:∀l:List Lv,(elsL l).tot=nD l
 | []=>rfl
 | e::l=>by simp only [elsL,Lv.bR,kA l,nD,MV,NF]
theorem AL {l m:List Lv}(h:l.Sublist m):nD l<=nD m:=by
 induction h with
 | slnil=>exact Mu _
 | cons a _ G=>simp only [nD,MV,NF]at*;omega
 | cons_cons a _ G=>simp only [nD,MV,NF]at*;omega
theorem nM:∀l:Lv,elsL l.bf=l
 | .nil=>rfl
 | .thr k a b o r n=>by simp only [Lv.bf,elsL,nM n,Lv.app]
 | .sum ps n=>by simp only [Lv.bf,elsL,nM n,Lv.app]
 | .part o q n=>by simp only [Lv.bf,elsL,nM n,Lv.app]
theorem C4 {b:Bool}:∀{l:List Lv},(∀e∈l,e.sh b=true)->(elsL l).sh b=true
 | [],_=>by cases b<;>rfl
 | e::l,h=>Lv.gB (h e (by simp)) (C4 λx G=>h x (by simp [G]))
theorem Iu:∀{l:Lv},l.sh true=true->∀e∈l.bf,e.sh true=true:=λ{l} h e he=>by
 rcases Lv.jK h e he with⟨k,a,b,o,r,rfl,hr⟩ | ⟨ps,rfl,G⟩
 ·simp only [Lv.sh,hr,NS]
 ·simp only [Lv.sh,G,NS]
theorem yH:∀{l:List (List Nat×Lv)},(∀x∈l,x.2.sh true=true)->(joinL l).2.sh true=true
 | [],_=>rfl
 | x::l,h=>Lv.gB (h x (by simp)) (yH λy G=>h y (by simp [G]))
theorem kE:∀(l:List (List Nat×Lv)) (j:Nat),(joinL (l.take j)).1.length<=(joinL l).1.length/\(joinL (l.take j)).2.tot<=(joinL l).2.tot
 | [],j=>by simp [joinL]
 | x::l,0=>by simp [joinL,Lv.tot]
 | x::l,j+1=>by
  obtain⟨G,H⟩:=kE l j;simp only [List.take_succ_cons,joinL,Mt,Lv.bR];omega
theorem IA {D:Nat->Prop}{w:World}{s:Nat}{O:List Nat}{l:Lv}{vl vg vo vm:Value}{gl:List Nat}{ms:List (List Nat×Lv)}{mvs:List Value}(hcl:w.cell? ⟨s,2,none⟩=some vl)(hls:s< w.heap.size)(hl:az D w (O,l) vl)(H:dV D w vg (gl.map iv))(hgl:gl.length<=1000)(ho:dV D w vo (O.map iv))(hm:dV D w vm mvs)
  (hms:aN (λL v=>az D w L v) ms mvs) (hml:mvs.length<=1000) (hsh:l.sh true=true) (hmsh:∀x∈ms,x.2.sh true=true) (htot:O.length+(joinL ms).1.length+(l.tot+(joinL ms).2.tot)<=4294967295)
  {P:Nat->Bool} (hP:∀i,P i=decide (i∈gl)) {res:List Nat×Lv} (κ:res=(O++(joinL ms).1,(elsL (jN P l.bf 0)).app (joinL ms).2)) (huq:tV (Lv.tidy res.1 res.2).1 (Lv.tidy res.1 res.2).2) (hfr:∀x,x∉(Lv.tidy res.1 res.2).1->(Lv.tidy res.1 res.2).2.fh x->x< 26)
  {R:aF->Bool->PV} (hR:∀w',Ex w w'->(∀s,Bj (Lv.tidy res.1 res.2)=some s->R s true w')/\(Bj (Lv.tidy res.1 res.2)=none->R [] false w')):
  PW 176 #[ptr s,vg,vo,vm] w (aw [.s,.b] R):=by
 refine my (ptr s) vg vo vm w R ?_;dsimp only [go_sem];dsimp only [go_sem,UInt8.reduceOfNat,UInt32.reduceOfNat,Nat.reduceAdd];refine xI ho (by omega) λv5 w6 x6 ψ=>⟨ψ.jU,λb7 w8 hb7 μ=>?_⟩
 have x8':Ex w6 w8:=μ▸Ex.alloc w6 _;have x8:=Ex.trans x6 x8';have s8:w8.heap.size=w6.heap.size+1:=by rw [μ,size_alloc]
 have s6:=x6.size;have bd8:jO w.heap.size w8 b7 O [] λg=>g=b7\/v5.ownBlock=some g:=by
  refine⟨by omega,by omega,.inl rfl,λg H=>?_,λj=>?_,v5,.slice none 0 0,?_,?_,ψ.kp (Kp.ah x8' λ _=>False) (λ _ _ h=>h),aM.nil _ _ _,λg H=>⟨.inr H,?_⟩,λg H=>(by cases H),λg _ H=>(by cases H)⟩
  ·rcases H with rfl | H
   ·omega
   ·have :=ψ.block g H;omega
  ·rw [μ,hb7];exact aS _ _ _ _
  ·rw [μ,hb7];exact aa rfl
  ·rw [μ,hb7];exact aa rfl
  ·have :=ψ.block g H;omega
 obtain⟨bl,vo',vt,ts,rfl,h2,h3,h4,h5,h6,h7,h8⟩:=az.sub (E:=λg=>g< w.heap.size) hl λg H _=>H
 obtain⟨at_,capt,hvt⟩:=h7.slice;have hlen:ts.length=l.len:=h8.len;have hel:=Lv.cG l;have hlt:=bQ l;have ν:∀i,nD (jN P (l.bf.take i) 0)<=l.tot:=λi=>by
  have h1:=AL ((wM P (l.bf.take i) 0).trans (List.take_sublist i l.bf));have h2:=kA l.bf;rw [nM]at h2;omega
 refine⟨s,0,rfl,ptr bl,by rw [x8.cell (show s< _ from hls)];exact hcl,bl,0,rfl,vt,by rw [x8.cell (show bl< _ from h3)];exact h5,at_,_,capt,hvt,λx w'=>∃(i:Nat) (W:List Value) (M:Nat->Prop),x=i/\i<=ts.length/\Ex w w'/\jO w.heap.size w' b7 O W M/\af (λg=>g< w.heap.size) w' (elsL (jN P (l.bf.take i) 0)) W,
  λx _=>(ts.length - x).toNat,⟨0,[],_,rfl,Nl _,x8,bd8,by rw [List.take_zero,jz];rfl⟩,λx ω hI=>?_⟩
 obtain⟨i,W,M,rfl,hi,ε,J,Z⟩:=hI;have hl1:W.length<=l.tot:=by
  have h1:=Z.len;have h2:=bQ (elsL (jN P (l.bf.take i) 0));rw [kA]at h2;have :=ν i;omega
 refine⟨λhlt1=>?_,λhge1=>?_⟩
 ·have ζ:i< ts.length:=by simp only [Mz]at hlt1;omega
  have hie:i< l.bf.length:=by omega
  obtain⟨bt,ot,G,hvt',hct⟩:∃bt ot G,vt= .slice (some ⟨bt,ot,none⟩) ts.length G/\ω.cell? ⟨bt,ot+i,none⟩=some ts[i]:=by
   rcases h7 with⟨_,h0⟩ | ⟨bt,ot,G,e,hbD,hb',α⟩
   ·rw [h0]at ζ;simp at ζ
   ·exact⟨bt,ot,G,e,by rw [ε.cell (show bt< _ from hb')];exact α i _ (Mo ζ)⟩
  obtain⟨e,he1,he2,he3⟩:=aN.single h8.bf (Mo ζ);have he4:l.bf[i]=e:=by rw [Mo hie]at he1;exact Ng he1
  have hts:jN P (l.bf.take (i+1)) 0=jN P (l.bf.take i) 0++if P i then []else [e]:=by
   rw [Mq hie,zb,he4,MX,M5,OM (by omega)]
  refine⟨bt,ot,_,G,hvt',by omega,by omega,ts[i],by rw [Mv,MW];exact hct,CU (H.ex ε) (by omega) ?_⟩;have hPi:=hP i;refine⟨λhq=>?_,λhq=>⟨by omega,⟨i+1,W,M,by omega,by omega,ε,J,?_⟩,tN (by omega)⟩⟩;rotate_left
  ·have hPt:P i=true:=by rw [hPi];cases h:decide (i∈gl)<;>first | rfl | (rw [h]at hq;cases hq)
   rw [hts,MZ hPt,MY];exact Z
  have hPt:P i=false:=by rw [hPi];cases h:decide (i∈gl)<;>first | rfl | (rw [h]at hq;cases hq)
  obtain⟨vo1,vt1,d0,d1,d2,d3,d4,d5,d6⟩:=J.sl;have ξ:=he3.all;simp only [ND,Ph,OV]at ξ;refine⟨vt1,d1,ξ,λb30 η hb30 ο=>?_⟩;have ς:Ex ω η:=ο▸Ex.alloc ω _;have s31:η.heap.size=ω.heap.size+1:=by rw [ο,size_alloc]
  have s21:=ε.size;have υ:=J.ex ς;refine aM.push (d3.kp (Kp.ah ς λ _=>False) λ _ _ h=>h) (by omega) (m:=[ts[i]]) (D:=λ _=>True) (.inr ⟨b30,0,1,rfl,trivial,by omega,λi' y hy=>?_⟩) (by simp only [ND,Ph,OV];exact ξ) (by omega) (by simp only [Mm,MB];omega) λv37 w38 ho38 hg38 hn38=>?_
  ·cases i' with
   | zero=>simp only [NH,NP]at hy;subst hy;rw [ο,hb30];exact aa rfl
   | succ i=>simp at hy
  have k38:Kp η w38 λg=>vt1.ownBlock=some g:=Kp.aQ hg38 λ _ h=>h
  have e7:=k38.block b7 υ.lt λe=>(d5 b7 e).2 rfl
  have c71:η.cell? ⟨b7,1,none⟩=some vt1:=by rw [ς.cell (show b7< _ from J.lt)];exact d1
  refine⟨ho38.jU,⟨⟨vt1,by rw [Mn (w:=η) e7];exact c71⟩,by rw [MU (w:=η) e7];exact υ.fr 1⟩,λw40 hw40=>⟨by omega,?_,tN (by omega)⟩⟩;obtain⟨bd40,k40⟩:=υ.K5 c71 k38 ho38 hn38 hw40;have φ:=Ex.trans ε ς;have x40:Ex w w40:=Ex.below φ (Kp.below k40 φ.size λg H hM=>by have :=(J.mr g hM).1;omega);refine⟨i+1,W++[ts[i]],_,by omega,by omega,x40,bd40,?_⟩;rw [hts,MJ (by rw [hPt];simp),zm,FM];exact af.app (af.kp k40 (λg H hM=>by have :=(J.mr g hM).1;omega) (af.ex Z ς)) (af.ex he3 x40)
 ·have ζ:i=l.bf.length:=by simp only [Mw]at hge1;omega
  rw [ζ,MR]at Z;obtain⟨am,capm,hvm⟩:=hm.slice;have hl2:W.length<=l.tot:=hl1;have hmsl:=hms.1;refine⟨am,_,capm,hvm,λx w'=>∃(j:Nat) (ts2:List Value) (M2:Nat->Prop),x=j/\j<=mvs.length/\Ex w w'/\jO w.heap.size w' b7 (O++(joinL (ms.take j)).1) ts2 M2/\af (λg=>g< w.heap.size) w' ((elsL (jN P l.bf 0)).app (joinL (ms.take j)).2) ts2,λx _=>(mvs.length - x).toNat,⟨0,W,M,rfl,Nl _,ε,by simpa [joinL]using J,by simpa [joinL,Lv.aX]using Z⟩,λx χ hI=>?_⟩;obtain⟨j,ts2,M2,rfl,hj,θ,V,δ⟩:=hI;refine⟨λhlt2=>?_,λhge2=>?_⟩
  ·have ι:j< mvs.length:=by simp only [Mz]at hlt2;omega
   obtain⟨bm,om,β,hvm',hcm⟩:∃bm om β,vm= .slice (some ⟨bm,om,none⟩) mvs.length β/\χ.cell? ⟨bm,om+j,none⟩=some mvs[j]:=by
    rcases hm with⟨_,h0⟩ | ⟨bt,ot,G,e,hbD,hb',α⟩
    ·rw [h0]at ι;simp at ι
    ·exact⟨bt,ot,G,e,by rw [θ.cell (show bt< _ from hb')];exact α j _ (Mo ι)⟩
   obtain⟨L,hL1,hL2,hL3⟩:=aN.single hms (Mo ι);have hjm:j< ms.length:=by omega
   have hL4:ms[j]=L:=by rw [Mo hjm]at hL1;exact Ng hL1
   have γ:joinL (ms.take (j+1))=((joinL (ms.take j)).1++L.1,(joinL (ms.take j)).2.app L.2):=by
    rw [Mq hjm,px,hL4,o7]
   obtain⟨k1,k2⟩:=kE ms (j+1);rw [γ]at k1 k2;simp only [Mt,Lv.bR]at k1 k2;obtain⟨ts3,hl3,ht3⟩:=az.ths (az.ex (az.sub (E:=λg=>g< w.heap.size) hL3 λg H _=>H) θ);have h47:=δ.len;have h47':=bQ ((elsL (jN P l.bf 0)).app (joinL (ms.take j)).2);rw [Lv.bR,kA]at h47';have hp:=ν l.bf.length;rw [MR]at hp;have h3l:=ht3.len;have h3t:=bQ L.2;refine⟨bm,om,_,β,hvm',by omega,by omega,mvs[j],by rw [Mv,MW];exact hcm,tc V θ.size hl3 ht3.all (λg H hM=>by have :=(V.mr g hM).1;omega) ⟨by simp only [Mt];omega,by omega⟩ λw53 M3 k53 bd53 _=>⟨by omega,?_,tN (by omega)⟩⟩;have x53:Ex w w53:=Ex.below θ (Kp.below k53 θ.size λg H hM=>by have :=(V.mr g hM).1;omega);refine⟨j+1,ts2++ts3,M3,by omega,by omega,x53,?_,?_⟩
   ·rw [γ,<-M8];exact bd53
   ·rw [γ,<-Lv.ch];exact af.app (af.kp k53 (λg H hM=>by have :=(V.mr g hM).1;omega) δ) (af.kp k53 (λg H hM=>by have :=(V.mr g hM).1;omega) ht3)
  ·have ι:j=ms.length:=by simp only [Mw]at hge2;omega
   rw [ι,MR]at V δ;have hp:=ν l.bf.length;rw [MR]at hp;have hLv:fK (λg=>g< χ.heap.size) χ (ptr b7) res.1 (af (λg=>g< χ.heap.size) χ res.2):=by
    rw [κ];exact V.Ln (λg H _=>H) (af.sub (λg H _=>H) δ)
   refine vy hLv ?_ ?_ huq hfr λw56 x56=>hR w56 (Ex.trans θ x56)
   ·rw [κ];exact Lv.gB (C4 λe he=>Iu hsh e (rj he)) (yH hmsh)
   ·rw [κ];simp only [Mt,Lv.bR,kA];omega
def cy (B:Nat)(w:World)(v:Value)(n:Nat)(xs:List Value):Prop:=w.ownsRow B 160 5 v n xs
theorem cy.nil (B:Nat)(w:World):cy B w (.slice none 0 0) 0 []:=Pt _ _ _ _
theorem cy.block {B:Nat}{w:World}{v:Value}{n:Nat}{xs:List Value}(h:cy B w v n xs):∀b,v.ownBlock=some b->B<=b/\b< w.heap.size:=PD h
theorem cy.kp {B:Nat}{w w':World}{S:Nat->Prop}{v:Value}{n:Nat}{xs:List Value}(h:cy B w v n xs)(k:Kp w w' S)(H:∀g,v.ownBlock=some g->¬S g):cy B w' v n xs:=by
 refine⟨h.1,?_⟩;rcases h.2 with J | ⟨g,cap,cur,rfl,hb,G,rest⟩
 ·exact .inl J
 ·exact .inr ⟨g,cap,cur,rfl,hb,by rw [k.block g (Na.1 G).1 (H g rfl)];exact G,rest⟩
theorem cy.ex {B:Nat}{w w':World}{v:Value}{n:Nat}{xs:List Value}(h:cy B w v n xs)(x:Ex w w'):cy B w' v n xs:=h.kp (Kp.ah x λ _=>False) λ _ _ h=>h
theorem cy.mono {B G:Nat}{w:World}{v:Value}{n:Nat}{xs:List Value}(h:cy B w v n xs)(hb:G<=B):cy G w v n xs:=PI h hb
theorem cy.zero {w w':World}{B b:Nat}(hB:B<=w.heap.size)(hb:b=w.heap.size)(h:w'=w.alloc (.cells #[] 160)):cy B w' (.slice (some ⟨b,0,none⟩) 0 0) 0 []:=by
 subst hb h;refine⟨rfl,.inr ⟨_,0,#[],rfl,hB,?_,by simp,by unfold maxLen;omega,rfl,rfl⟩⟩;unfold World.alloc;simp
theorem cy.one {w w':World}{B b:Nat}{cs:List Value}(G:cs.length=5)(hB:B<=w.heap.size)(hb:b=w.heap.size)(h:w'=w.alloc (.cells cs.toArray 160)):cy B w' (.slice (some ⟨b,0,none⟩) 1 1) 1 cs:=by
 subst hb h;refine⟨by rw [G],.inr ⟨_,1,cs.toArray,rfl,hB,?_,by simp,by unfold maxLen;omega,by simp [G],Pf (by simp [G])⟩⟩;unfold World.alloc;simp
theorem cy.cell {B:Nat}{w:World}{v:Value}{n:Nat}{xs:List Value}(h:cy B w v n xs):(v= .slice none 0 0/\n=0/\xs=[])\/∃g cap,v= .slice (some ⟨g,0,none⟩) n cap/\g< w.heap.size/\∀j u,xs[j]?=some u->w.cell? ⟨g,0+j,none⟩=some u:=by
 have G:=h.1;rcases h.2 with⟨V,H⟩ | ⟨g,cap,cur,rfl,hb,J,Z,h2,h3,h4⟩
 ·left;refine⟨V,H,MS (by rw [G,H])⟩
 ·refine .inr ⟨g,cap,rfl,(Na.1 J).1,λj u hu=>?_⟩;have W:j< xs.length:=(No.1 hu).1;unfold World.cell?;simp only [J,MX];rw [<-h4,Oa (by rw [<-G];exact W),N0]at hu;exact hu
theorem cy.src {B:Nat}{w:World}{v:Value}{n:Nat}{xs:List Value}(h:cy B w v n xs)(ha:xs.all aB=true):dI w v n 5 xs:=by
 refine⟨h.1,ha,?_⟩;rcases h.cell with⟨rfl,rfl,_⟩ | ⟨g,cap,rfl,_,G⟩
 ·exact .inl ⟨rfl,rfl⟩
 ·exact .inr ⟨g,0,cap,rfl,G⟩
theorem cy.push {B:Nat}{w:World}{v x:Value}{n m:Nat}{xs H:List Value}(h:cy B w v n xs)(hB:B<=w.heap.size)(J:dI w x m 5 H)(hl:n+m<=1099511627776){K:Value->PV}
  (V:∀v' w',cy B w' v' (n+m) (xs++H)->w.grownBy w' v.ownBlock->(∀b,v'.ownBlock=some b->v.ownBlock=some b\/w.heap.size<=b)->K v' w'):
  ∃(base n' m':Nat) (G news:List Value),World.ownsRow w base 160 5 v n' G/\base<=Array.size (World.heap w)/\dI w x m' 5 news/\(n'+m'<=maxLen/\(n'+m')* 40<=140737488355328)/\
   ∀(v':Value) (w':World),World.ownsRow w' base 160 5 v' (n'+m') (G++news)->World.grownBy w w' (Value.ownBlock v)->(∀b:Nat,Value.ownBlock v'=some b->Value.ownBlock v=some b\/Array.size (World.heap w)<=b)->K v' w':=
 ⟨B,n,m,xs,H,h,hB,J,⟨by unfold maxLen;omega,by omega⟩,λv' w' W Z hw=>V v' w' W Z hw⟩
def cL (k:UInt8)(a b:Nat)(vr:Value)(s:Bool):List Value:=[.int .u8 k.toNat,iv a,iv b,vr,.bool s]
def kV (D:Nat->Prop)(w:World):Off Nat->List Value->Prop
 | .tau p,cs=>∃a b vr s,cs=cL 126 a b vr s/\az D w (td p) vr
 | .snd a b p,cs=>∃vr s,cs=cL 33 a b vr s/\az D w (td p) vr
 | .rcv a x q s,cs=>∃vr,cs=cL 63 a x vr s/\az D w (td q) vr
theorem kV.ex {D:Nat->Prop}{w w':World}{o:Off Nat}{cs:List Value}(h:kV D w o cs)(x:Ex w w'):kV D w' o cs:=by
 cases o with
 | tau p=>obtain⟨a,b,vr,s,G,H⟩:=h;exact⟨a,b,vr,s,G,az.ex H x⟩
 | snd a b p=>obtain⟨vr,s,G,H⟩:=h;exact⟨vr,s,G,az.ex H x⟩
 | rcv a b p s=>obtain⟨vr,G,H⟩:=h;exact⟨vr,G,az.ex H x⟩
theorem kV.kp {D S:Nat->Prop}{w w':World}{o:Off Nat}{cs:List Value}(h:kV D w o cs)(k:Kp w w' S)(J:∀g,D g->¬S g):kV D w' o cs:=by
 cases o with
 | tau p=>obtain⟨a,b,vr,s,G,H⟩:=h;exact⟨a,b,vr,s,G,az.kp H k J⟩
 | snd a b p=>obtain⟨vr,s,G,H⟩:=h;exact⟨vr,s,G,az.kp H k J⟩
 | rcv a b p s=>obtain⟨vr,G,H⟩:=h;exact⟨vr,G,az.kp H k J⟩
theorem kV.len {D:Nat->Prop}{w:World}{o:Off Nat}{cs:List Value}(h:kV D w o cs):cs.length=5/\cs.all aB=true:=by
 cases o with
 | tau p=>obtain⟨a,b,vr,s,rfl,G⟩:=h;exact⟨rfl,by have :=G.one;simp only [cL,ND,Ph,OV,this]⟩
 | snd a b p=>obtain⟨vr,s,rfl,G⟩:=h;exact⟨rfl,by have :=G.one;simp only [cL,ND,Ph,OV,this]⟩
 | rcv a b p s=>obtain⟨vr,rfl,G⟩:=h;exact⟨rfl,by have :=G.one;simp only [cL,ND,Ph,OV,this]⟩
def OffsM (D:Nat->Prop)(w:World):List (Off Nat)->List Value->Prop
 | [],xs=>xs=[]
 | o::os,xs=>∃cs G,xs=cs++G/\kV D w o cs/\OffsM D w os G
section
variable {D S:Nat->Prop} {w w':World}
theorem OffsM.kp (k:Kp w w' S)(G:∀g,D g->¬S g):∀{os:List (Off Nat)} {xs:List Value},OffsM D w os xs->OffsM D w' os xs
 | [],_,h=>h
 | _::_,_,⟨cs,H,J,V,W⟩=>⟨cs,H,J,V.kp k G,OffsM.kp k G W⟩
theorem OffsM.ex {os:List (Off Nat)}{xs:List Value}(h:OffsM D w os xs)(x:Ex w w'):OffsM D w' os xs:=OffsM.kp (Kp.ah x λ _=>False) (λ _ _ h=>h) h
theorem OffsM.app:∀{os G:List (Off Nat)} {xs H:List Value},OffsM D w os xs->OffsM D w G H->OffsM D w (os++G) (xs++H)
 | [],_,_,_,h,k=>by cases h;exact k
 | _::_,_,_,_,⟨cs,zs,J,V,W⟩,k=>by subst J;exact⟨cs,zs++_,by rw [M8],V,OffsM.app W k⟩
theorem OffsM.len:∀{os:List (Off Nat)} {xs:List Value},OffsM D w os xs->xs.length=os.length* 5/\xs.all aB=true
 | [],_,h=>by cases h;exact⟨rfl,rfl⟩
 | o::os,_,⟨cs,ys,G,H,J⟩=>by
  subst G;obtain⟨V,W⟩:=H.len;obtain⟨Z,k4⟩:=OffsM.len J;refine⟨by rw [Mt,V,Z,Mm];omega,by rw [O6,W,k4];rfl⟩
theorem OffsM.at:∀{os:List (Off Nat)} {xs:List Value},OffsM D w os xs->∀{i:Nat} (hi:i< os.length),∃cs,kV D w os[i] cs/\∀j,j< 5->xs[i* 5+j]?=cs[j]?
 | o::os,_,⟨cs,Z,H,G,V⟩,0,hi=>by
  subst H;refine⟨cs,G,λj W=>?_⟩;rw [List.getElem?_append_left (by rw [G.len.1];omega)]
  congr 1;omega
 | o::os,_,⟨cs,Z,H,G,V⟩,i+1,hi=>by
  subst H;obtain⟨J,k1,k2⟩:=OffsM.at V (i:=i) (by simpa using hi);refine⟨J,k1,λj W=>?_⟩;rw [<-k2 j W,List.getElem?_append_right (by rw [G.len.1];omega),G.len.1]
  congr 1;omega
theorem OffsM.one {o:Off Nat}{cs:List Value}(h:kV D w o cs):OffsM D w [o] cs:=⟨cs,[],by simp,h,rfl⟩
end
def pre:U->Bool
 | .snd .. =>true | .rcv .. =>true | .tau .. =>true | _=>false
theorem xE {u:U}(h:pre u=true):∃o,offs u=[o]:=by cases u<;>first | exact⟨_,rfl⟩ | cases h
theorem EJ {D:Nat->Prop}{w:World}{u:U}{v:Value}(hp:pre u=true)(h:af D w (tl [u]) [v]):∃(g:Nat) (k:UInt8) (a b:Nat) (vr:Value) (r:U),v=ptr g/\D g/\g< w.heap.size/\w.cell? ⟨g,0,none⟩=some (.int .u8 k.toNat)/\w.cell? ⟨g,1,none⟩=some (iv a)/\w.cell? ⟨g,2,none⟩=some (iv b)/\w.cell? ⟨g,3,none⟩=some vr/\
  (k=126\/k=33\/k=63)/\az D w (td r) vr/\(∀s,k=63->∀a' x q,u= .rcv a' x q->kV D w (.rcv a' x q s) (cL k a b vr s))/\(∀s o,offs u=[o]->k≠63->kV D w o (cL k a b vr s))/\(∀o,offs u=[o]->kV D w o (cL k a b vr false))/\(k=63↔∃a' x q,u= .rcv a' x q):=by
 cases u<;>try cases hp
 ·rename_i a b p;obtain⟨t,V,a',J,vr,W,⟨g,Z,hD,hl,c0,c1,c2,c3,c4⟩,hk,G,_⟩:=h;obtain⟨rfl,rfl⟩:=Ny W;obtain⟨rfl,rfl⟩:a'=a/\J=b:=by rcases hk with h | h | h<;>first | exact h | cases h
  refine⟨g,33,a',J,vr,p,Z,hD,hl,c0,c1,c2,c3,.inr (.inl rfl),G,λs h=>absurd h (by decide),λs o H _=>?_,λo H=>?_,⟨λh=>absurd h (by decide),fun⟨_,_,_,h⟩=>by cases h⟩⟩
  ·cases H;exact⟨vr,s,rfl,G⟩
  ·cases H;exact⟨vr,false,rfl,G⟩
 ·rename_i a b p;obtain⟨t,V,a',J,vr,W,⟨g,Z,hD,hl,c0,c1,c2,c3,c4⟩,hk,G,_⟩:=h;obtain⟨rfl,rfl⟩:=Ny W;obtain⟨rfl,rfl⟩:a'=a/\J=b:=by rcases hk with h | h | h<;>first | exact h | cases h
  refine⟨g,63,a',J,vr,p,Z,hD,hl,c0,c1,c2,c3,.inr (.inr rfl),G,λs _ a2 x q e=>?_,λs o H h=>absurd rfl h,λo H=>?_,⟨λ _=>⟨_,_,_,rfl⟩,λ _=>rfl⟩⟩
  ·cases e;exact⟨vr,rfl,G⟩
  ·cases H;exact⟨vr,rfl,G⟩
 ·rename_i p;obtain⟨t,V,a',J,vr,W,⟨g,Z,hD,hl,c0,c1,c2,c3,c4⟩,hk,G,_⟩:=h;obtain⟨rfl,rfl⟩:=Ny W;refine⟨g,126,a',J,vr,p,Z,hD,hl,c0,c1,c2,c3,.inl rfl,G,λs h=>absurd h (by decide),λs o H _=>?_,λo H=>?_,⟨λh=>absurd h (by decide),fun⟨_,_,_,h⟩=>by cases h⟩⟩
  ·cases H;exact⟨a',J,vr,s,rfl,G⟩
  ·cases H;exact⟨a',J,vr,false,rfl,G⟩
theorem Fz {u:U}(n:u.Nr):offs u=u.lD.flatMap offs:=by
 induction u with
 | sum p q H G=>
  have :=G n.2.2;simp only [offs,T.lD,N6];rw [this]
 | _=>simp [T.lD]
theorem Ij {u:U}(n:u.Nr)(G:u.smp=true)(V:u.gp=true)(hd:u.dead=false):∀s∈u.lD,pre s=true/\s.Nr/\(∀x∈BV s,x∈BV u)/\(BV s).Sublist (BV u):=by
 induction u with
 | sum p q ih H=>
  simp only [T.smp,Mp]at G;intro s h;rcases MH.1 h with rfl | h
  ·refine⟨?_,n.2.1,λx J=>M0 _ J,OF _ _⟩;have W:=n.1.2.2;have Z:=G.1.1;have h3:=n.1.1;cases s<;>first | rfl | (cases Z;done) | (cases W;done) | (cases h3;done)
  ·obtain⟨k1,k2,k3,k4⟩:=H n.2.2 G.2.2 G.1.2 n.1.2.1 s h;exact⟨k1,k2,λx J=>MT _ (k3 x J),k4.trans (NW _ _)⟩
 | nil=>cases hd
 | snd a b p=>intro s h;cases MA.1 h;exact⟨rfl,n,λ _ h=>h,NC _⟩
 | rcv a b p=>intro s h;cases MA.1 h;exact⟨rfl,n,λ _ h=>h,NC _⟩
 | tau p=>intro s h;cases MA.1 h;exact⟨rfl,n,λ _ h=>h,NC _⟩
 | _=>cases V
theorem I6 {D:Nat->Prop}{w:World}:∀{l:List U} {us:List Value},af D w (tp l) us->us.length=l.length/\∀j (h:j< l.length) (G:j< us.length),az D w (td l[j]) us[j]
 | [],us,h=>by cases h;exact⟨rfl,λj h=>by cases h⟩
 | u::l,_,⟨v,H,e,J,V⟩=>by
  subst e;obtain⟨W,Z⟩:=I6 V;refine⟨by simp [W],λj h G=>?_⟩;cases j with
  | zero=>exact J
  | succ j=>simpa using Z j (by simpa using h) (by simpa using G)
theorem Ct {D:Nat->Prop}{w:World}:∀{l:List U} {us:List Value},(∀u∈l,u.th=true)->af D w (tl l) us->us.length=l.length/\∀j (h:j< l.length) (h':j< us.length),af D w (tl [l[j]]) [us[j]]
 | [],us,_,h=>by cases h;exact⟨rfl,λj h=>by cases h⟩
 | u::l,us,H,h=>by
  have h0:=H u (by simp);have key:∃v G,us=v::G/\af D w (tl [u]) [v]/\af D w (tl l) G:=by
   cases u<;>try cases h0
   all_goals
    first
    | (obtain⟨t,G,a',b',vr,e,J,V,W,Z⟩:=h;exact⟨t,G,e,⟨t,[],a',b',vr,rfl,J,V,W,rfl⟩,Z⟩)
    | (obtain⟨t,G,a',b',vp,α,e,J,V,W,Z⟩:=h;exact⟨t,G,e,⟨t,[],a',b',vp,α,rfl,J,V,W,rfl⟩,Z⟩)
  obtain⟨v,G,e,J,V⟩:=key;subst e;obtain⟨W,Z⟩:=Ct (λu hu=>H u (MD _ hu)) V;refine⟨by simp [W],λj h h'=>?_⟩;cases j with
  | zero=>exact J
  | succ j=>simpa using Z j (by simpa using h) (by simpa using h')
theorem EC {D:Nat->Prop}{w:World}{u:U}{v:Value}(hp:pre u=true)(h:af D w (tl [u]) [v]){R:Value->PV}(hR:∀v' w' xs,Ex w w'->cy w.heap.size w' v' (offs u).length xs->OffsM D w' (offs u) xs->R v' w'):
  PW 140 #[v] w (aw [.v] R):=by
 refine eh v w R ?_;obtain⟨o,ho⟩:=xE hp;obtain⟨g,k,a,b,vr,r,J,hD,hl,c0,c1,c2,c3,hk,α,_,_,β,_⟩:=EJ hp h;refine⟨g,0,J,k,c0,λx w'=>w'=w/\x=true,?_,λx V hJ=>?_⟩
 ·rcases hk with rfl | rfl | rfl
  ·exact⟨λ _=>⟨rfl,by decide⟩,λh=>absurd h (by decide)⟩
  ·exact⟨λh=>absurd h (by decide),λ _=>⟨λ _=>⟨rfl,by decide⟩,λh=>absurd h (by decide)⟩⟩
  ·exact⟨λh=>absurd h (by decide),λ _=>⟨λh=>absurd h (by decide),λ _=>⟨rfl,by decide⟩⟩⟩
 ·obtain⟨rfl,rfl⟩:=hJ;refine⟨λ _=>⟨λw'=>Ex V w',λw9 γ=>?_⟩,λh=>by cases h⟩;have x9:Ex V w9:=γ▸Ex.drew V;have cg:∀{w':World},Ex V w'->∀j,w'.cell? ⟨g,j,none⟩=V.cell? ⟨g,j,none⟩:=λx j=>x.cell (show g< _ from hl)
  refine⟨x9,g,0,J,k,λw' x=>by rw [cg x];exact c0,g,0,J,a,λw' x=>by rw [cg x];exact c1,g,0,J,b,λw' x=>by rw [cg x];exact c2,g,0,J,vr,λw' x=>by rw [cg x];exact c3,α.one,λε W Z H=>?_⟩;have δ:Ex w9 W:=H▸Ex.alloc w9 _;have G:=Ex.trans x9 δ;refine⟨G,hR _ W (cL k a b vr false) G ?_ ?_⟩
  ·rw [ho];exact cy.one rfl x9.size Z H
  ·rw [ho];exact OffsM.one ((β o ho).ex G)
theorem sR {D:Nat->Prop}{w:World}{u:U}{v:Value}(hth:u.th=true)(hq:Uq u)(n:u.Nr)(hs:u.smp=true)(hz:u.size<=1000000)(hDw:∀g,D g->g< w.heap.size)(h:af D w (tl [u]) [v]){R:Value->PV}(hR:∀v' w' xs,Ex w w'->cy w.heap.size w' v' (offs u).length xs->OffsM D w' (offs u) xs->R v' w'):
  PW 140 #[v] w (aw [.v] R):=by
 by_cases hp:pre u=true
 ·exact EC hp h hR
 refine eh v w R ?_;cases u<;>first | (exact absurd rfl hp) | (cases hth;done) | skip
 case mat a b p=>
  obtain⟨t,ts',a',b',vr,e1,⟨g,hg,hD,hl,c0,c1,c2,c3,c4⟩,hk,ε,_⟩:=h;obtain⟨rfl,rfl⟩:=Ny e1;refine⟨g,0,hg,_,c0,λx w'=>w'=w/\x=false,⟨λh=>absurd h (by decide),λ _=>⟨λh=>absurd h (by decide),λ _=>⟨rfl,by decide⟩⟩⟩,λx H hJ=>?_⟩;obtain⟨rfl,rfl⟩:=hJ;refine⟨λh=>(by cases h),λ _=>aT (by decide) (aT (by decide) (hR _ H [] (Ex.refl _) (cy.nil _ _) rfl))⟩
 case rep p=>
  simp only [T.smp,Mp]at hs;cases p<;>try (simp [T.isR]at hs)
  rename_i a x q;obtain⟨t,ts',a',b',vr,e1,⟨g,hg,hD,hl,c0,c1,c2,c3,c4⟩,hk,ε,_⟩:=h;obtain⟨rfl,rfl⟩:=Ny e1;have etd:td (.rcv a x q)=([],tl [.rcv a x q]):=iT hq.rep n.2;rw [etd]at ε;obtain⟨br,vo2,ι,κ,rfl,k2,k3,k4,k5,k6,k7,k8⟩:=ε;obtain⟨hl2,hat⟩:=Ct (l:=[T.rcv a x q]) (λu hu=>by cases MA.1 hu;rfl) k8;obtain⟨v2,rfl⟩:∃v2,κ=[v2]:=by
   match κ,hl2 with
   | [v2],_=>exact⟨v2,rfl⟩
  have hp2:=EJ (u:= .rcv a x q) rfl (hat 0 (by simp) (by simp));obtain⟨g2,kk,a2,b2,vr2,r2,hg2,hD2,hlt2,d0,d1,d2,d3,hkk,hlv2,hof,_,_,hiff⟩:=hp2;have hk63:kk=63:=hiff.2 ⟨_,_,_,rfl⟩;subst hk63;obtain⟨at_,μ,hvt⟩:=k7.slice;refine⟨g,0,hg,_,c0,λx w'=>w'=w/\x=false,⟨λh=>absurd h (by decide),λ _=>⟨λh=>absurd h (by decide),λ _=>⟨rfl,by decide⟩⟩⟩,λy H hJ=>?_⟩;obtain⟨rfl,rfl⟩:=hJ;refine⟨λh=>(by cases h),λ _=>cN (by decide) λb24 w25 hb24 hw25=>?_⟩;have x25:Ex H w25:=hw25▸Ex.alloc H _;refine⟨g,0,hg,ptr br,by rw [x25.cell (show g< _ from hl)];exact c3,br,0,rfl,ι,by rw [x25.cell (show br< _ from k3)];exact k5,at_,_,μ,hvt,λout i w'=>(i=0/\Ex H w'/\cy H.heap.size w' out 0 [])\/(i=1/\Ex H w'/\cy H.heap.size w' out 1 (cL 63 a2 b2 vr2 true)),λ _ i _=>(1 - i).toNat,.inl ⟨rfl,x25,cy.zero (Mu _) hb24 hw25⟩,λout i w36 hI=>?_⟩;rcases hI with⟨rfl,ζ,V⟩ | ⟨rfl,ζ,V⟩
  ·obtain⟨bt,Z,G,ν,α,hbl,hcl⟩:∃bt Z G,ι= .slice (some ⟨bt,Z,none⟩) 1 G/\D bt/\bt< H.heap.size/\H.cell? ⟨bt,Z+0,none⟩=some v2:=by
    rcases k7 with⟨_,h0⟩ | ⟨bt,Z,G,e,α,ξ,J⟩
    ·cases h0
    ·exact⟨bt,Z,G,e,α,ξ,J 0 _ rfl⟩
   refine cN (by simp) ⟨bt,Z,1,G,ν,by omega,by omega,v2,?_,g2,0,hg2,63,?_,cN (by decide) ⟨λw'=>Ex H w',λw46 hw46=>?_⟩⟩
   ·rw [show(0:Int).toNat* 1=0 from rfl,ζ.cell (show bt< _ from hbl)];exact hcl
   ·rw [ζ.cell (show g2< _ from hlt2)];exact d0
   have x46':Ex w36 w46:=hw46▸Ex.drew w36;have x46:=Ex.trans ζ x46';have cg:∀{w':World},Ex H w'->∀j,w'.cell? ⟨g2,j,none⟩=H.cell? ⟨g2,j,none⟩:=λx j=>x.cell (show g2< _ from hlt2)
   refine⟨x46,g2,0,hg2,a2,λw' x=>by rw [cg x];exact d1,g2,0,hg2,b2,λw' x=>by rw [cg x];exact d2,g2,0,hg2,vr2,λw' x=>by rw [cg x];exact d3,hlv2.one,λb56 w57 hb56 hw57=>?_⟩;have x57':Ex w46 w57:=hw57▸Ex.alloc w46 _;have η:=Ex.trans x46 x57';have o1:cy w46.heap.size w57 (.slice (some ⟨b56,0,none⟩) 1 1) 1 (cL 63 a2 b2 vr2 true):=cy.one rfl (Mu _) hb56 hw57;have hone:(cL 63 a2 b2 vr2 true).all aB=true:=by have :=hlv2.one;simp only [cL,ND,Ph,OV,this]
   refine⟨η,cy.push (V.ex (Ex.trans x46' x57')) (by have :=η.size;omega) (o1.src hone) (by omega) λv63 w64 ho64 hg64 _=>⟨?_,by omega,.inr ⟨rfl,?_,?_⟩,by show(1 - (0+1):Int).toNat< (1 - 0:Int).toNat;decide⟩⟩
   ·exact Ex.below η (Kp.below (Kp.aQ (S:=λg=>out.ownBlock=some g) hg64 λ _ h=>h) η.size λg hg e=>by have :=(V.block g e).1;omega)
   ·exact Ex.below η (Kp.below (Kp.aQ (S:=λg=>out.ownBlock=some g) hg64 λ _ h=>h) η.size λg hg e=>by have :=(V.block g e).1;omega)
   ·simpa using ho64
  ·refine aT (by simp) (hR out w36 _ ζ V ?_);exact OffsM.one ((hof true rfl a x q rfl).ex ζ)
 case sum p q=>
  have hlive:(T.sum p q).dead=false:=n.qY rfl;have hsm:=Ij n hs rfl hlive;have hofs:=Fz n;have etl:tl [T.sum p q]= .sum (tp (T.sum p q).lD) .nil:=by
   simp only [tl,T.lD];rw [ee hq.dP n.2.1 n.1.1,ee hq.dz n.2.2 n.1.2.1,T.fS n.1.2.2];rfl
  rw [etl]at h;obtain⟨t,ts',a',b',vp,us,e1,⟨g,hg,hD,hl,c0,c1,c2,c3,c4⟩,hus,hps,_⟩:=h;obtain⟨rfl,rfl⟩:=Ny e1;obtain⟨hul,hua⟩:=I6 hps;generalize hS:(T.sum p q).lD=S at*;have hSl:S.length<=1000000:=by
   have:∀u:U,u.lD.length<=u.size:=by
    intro u
    induction u with
    | sum p q _ ih=>simp only [T.lD,Mm,T.size];omega
    | _=>simp only [T.lD,Mm,MB,T.size];omega
   have :=this (T.sum p q);rw [hS]at this;omega
  have hol:∀i,((S.take i).flatMap offs).length=(S.take i).length:=by
   have:∀l:List U,(∀s∈l,pre s=true)->(l.flatMap offs).length=l.length:=by
    intro l
    induction l with
    | nil=>intro _;rfl
    | cons s l ih=>
     intro hl;obtain⟨o,ho⟩:=xE (hl s (by simp));simp only [N6,ho,Mt,Mm,MB,ih λx hx=>hl x (by simp [hx])];omega
   exact λi=>this _ λs β=>(hsm s (List.mem_of_mem_take β)).1
  obtain⟨au,cau,hvu⟩:=hus.slice;refine⟨g,0,hg,43,c0,λx w'=>w'=w/\x=false,⟨λh=>absurd h (by decide),λ _=>⟨λh=>absurd h (by decide),λ _=>⟨rfl,by decide⟩⟩⟩,λy H hJ=>?_⟩;obtain⟨rfl,rfl⟩:=hJ;refine⟨λh=>(by cases h),λ _=>aT (by decide) (cN (by decide) λb68 w69 hb68 hw69=>?_)⟩;have x69:Ex H w69:=hw69▸Ex.alloc H _;refine⟨g,0,hg,vp,by rw [x69.cell (show g< _ from hl)];exact c4,au,_,cau,hvu,λout i w'=>∃(j:Nat) (xs:List Value),i=j/\j<=us.length/\Ex H w'/\cy H.heap.size w' out ((S.take j).flatMap offs).length xs/\OffsM D w' ((S.take j).flatMap offs) xs,λ _ i _=>(us.length - i).toNat,⟨0,[],rfl,Nl _,x69,by simpa using cy.zero (Mu _) hb68 hw69,by simp [OffsM]⟩,λout i w80 hI=>?_⟩;obtain⟨j,xs,rfl,hj,x80,ο,ς⟩:=hI;refine⟨λhlt=>?_,λhge=>?_⟩;rotate_left
  ·have:j=S.length:=by simp only [Mw]at hge;omega
   rw [this,MR]at ο ς;rw [hofs]at hR;exact hR out w80 xs x80 ο ς
  have hjl:=oL hlt;have hjS:j< S.length:=by omega
  have θ:=hsm S[j] (Mx hjS);obtain⟨bu,ou,γ,hvu',α,hbu,hcu⟩:∃bu ou γ,vp= .slice (some ⟨bu,ou,none⟩) us.length γ/\D bu/\bu< H.heap.size/\H.cell? ⟨bu,ou+j,none⟩=some us[j]:=by
   rcases hus with⟨_,h0⟩ | ⟨bt,Z,G,e,α,ξ,J⟩
   ·rw [h0]at hjl;simp at hjl
   ·exact⟨bt,Z,G,e,α,ξ,J j _ (Mo hjl)⟩
  have ε:=hua j hjS hjl;have huqS:Uq S[j]:=by
   refine⟨hq.nd.sublist θ.2.2.2,λx hx hf=>?_⟩;have hfr:∀u:U,∀s∈u.lD,∀z,s.Fr z->u.Fr z:=by
    intro u
    induction u with
    | sum p q _ ih=>
     intro s β z hz;rcases MH.1 β with rfl | β
     ·exact .inl hz
     ·exact .inr (ih s β z hz)
    | _=>intro s β z hz;cases MA.1 β;exact hz
   exact hq.nf x (θ.2.2.1 x hx) (hfr _ S[j] (by rw [hS];exact Mx hjS) x hf)
  have υ:(S[j]).th=true:=by
   have h1:=θ.1;revert h1;cases S[j]<;>first | (intro _;rfl) | (intro h;cases h)
  have etd:td S[j]=([],tl [S[j]]):=by rw [iT huqS θ.2.1,T.ie υ,T.nc υ]
  rw [etd]at ε;obtain⟨br,vo2,ι,κ,hbr,k2,k3,k4,k5,k6,k7,k8⟩:=ε;obtain⟨hl2,hat⟩:=Ct (l:=[S[j]]) (λu hu=>by cases MA.1 hu;exact υ) k8;obtain⟨v2,rfl⟩:∃v2,κ=[v2]:=by
   match κ,hl2 with
   | [v2],_=>exact⟨v2,rfl⟩
  have ha2:=hat 0 (by simp) (by simp);obtain⟨at_,μ,hvt⟩:=k7.slice;have htk:(S.take (j+1)).flatMap offs=(S.take j).flatMap offs++offs S[j]:=by rw [Mq hjS,NM];simp
  refine⟨bu,ou,_,γ,hvu',by omega,by omega,us[j],?_,br,0,hbr,ι,by rw [x80.cell (show br< _ from k3)];exact k5,at_,_,μ,hvt,λout i w'=>(i=0/\∃xs,Ex H w'/\cy H.heap.size w' out ((S.take j).flatMap offs).length xs/\OffsM D w' ((S.take j).flatMap offs) xs)\/(i=1/\∃xs,Ex H w'/\cy H.heap.size w' out ((S.take (j+1)).flatMap offs).length xs/\OffsM D w' ((S.take (j+1)).flatMap offs) xs),
   λ _ i _=>(1 - i).toNat,.inl ⟨rfl,xs,x80,ο,ς⟩,λout2 i w93 hI2=>?_⟩
  ·rw [Mv,MW,x80.cell (show bu< _ from hbu)];exact hcu
  rcases hI2 with⟨rfl,xs2,φ,W,χ⟩ | ⟨rfl,xs2,φ,W,χ⟩
  ·obtain⟨bt,Z,G,ν,hbD2,hbl,hcl⟩:∃bt Z G,ι= .slice (some ⟨bt,Z,none⟩) 1 G/\D bt/\bt< H.heap.size/\H.cell? ⟨bt,Z+0,none⟩=some v2:=by
    rcases k7 with⟨_,h0⟩ | ⟨bt,Z,G,e,α,ξ,J⟩
    ·cases h0
    ·exact⟨bt,Z,G,e,α,ξ,J 0 _ rfl⟩
   refine cN (by simp) ⟨bt,Z,1,G,ν,by omega,by omega,v2,?_,EC θ.1 (af.ex ha2 φ) λv99 w100 ys ψ ho100 ω=>?_⟩
   ·rw [show(0:Int).toNat* 1=0 from rfl,φ.cell (show bt< _ from hbl)];exact hcl
   have δ:=Ex.trans φ ψ;have hlen1:=hol j;rw [M5,OM (by omega)]at hlen1;obtain⟨o,hoo⟩:=xE θ.1;have hlo:(offs S[j]).length=1:=by rw [hoo];rfl
   refine cy.push (W.ex ψ) δ.size (ho100.src ω.len.2) (by omega) λv106 w107 ho107 hg107 _=>⟨by omega,.inr ⟨rfl,xs2++ys,?_,?_,?_⟩,by show(1 - (0+1):Int).toNat< (1 - 0:Int).toNat;decide⟩
   ·exact Ex.below δ (Kp.below (Kp.aQ (S:=λg=>out2.ownBlock=some g) hg107 λ _ h=>h) δ.size λg hg e=>by have :=(W.block g e).1;omega)
   ·rw [htk,Mt];exact ho107
   ·rw [htk];exact OffsM.kp (Kp.aQ (S:=λg=>out2.ownBlock=some g) hg107 λ _ h=>h) (λg hgD e=>by have :=(W.block g e).1;have :=hDw g hgD;omega) ((χ.ex ψ).app ω)
  ·refine aT (by simp) ⟨by omega,⟨j+1,xs2,by omega,by omega,φ,W,χ⟩,tN (by omega)⟩
theorem jk {α β:Type}{g:α->β}:∀{l:List α} {m:List β},m.Perm (l.map g)->∃π:List α,π.Perm l/\m=π.map g
 | [],m,h=>⟨[],NA _,by simpa using h⟩
 | a::l,m,h=>by
  have hm:g a∈m:=h.symm.subset (by simp);obtain⟨s,t,rfl⟩:=List.append_of_mem hm;have G:(s++t).Perm (l.map g):=(PK (g a)).1 (Pd.symm.trans (by simpa using h));obtain⟨π,H,h4⟩:=jk G;obtain⟨x,y,rfl,h5,J⟩:=List.append_eq_map_iff.1 h4;refine⟨x++a::y,Pd.trans (List.Perm.cons a H),?_⟩;simp [h5,J]
def rnv:List UInt8->List UInt8->Nat->Nat
 | o::os,l::ls,n=>rnv os ls (if n=o.toNat then l.toNat else n)
 | _,_,n=>n
theorem zS:∀(os ls:List UInt8) (o l:UInt8) (n:Nat),os.length=ls.length->rnv (os++[o]) (ls++[l]) n=if rnv os ls n=o.toNat then l.toNat else rnv os ls n
 | [],[],o,l,n,_=>rfl
 | [],_::_,_,_,_,h=>by cases h
 | _::_,[],_,_,_,h=>by cases h
 | a::os,b::ls,o,l,n,h=>by
  simp only [Ns,rnv];exact zS os ls o l _ (by simpa using h)
theorem wA:∀(os ls:List UInt8) (n:Nat),(∀o∈os,n≠o.toNat)->rnv os ls n=n
 | [],_,_,_=>by simp [rnv]
 | _::_,[],_,_=>by simp [rnv]
 | a::os,b::ls,n,h=>by
  rw [rnv,MJ (h a (by simp))];exact wA os ls n λo G=>h o (MD _ G)
theorem Cf:∀(π:List Nat) (os ls:List UInt8) (g:Nat->Nat) (ρ:Rh) (y:Nat),os.map UInt8.toNat=π.map g->π.length=ls.length->(∀l∈ls,l∉os)->y∈π->(∀z∈π,g z=g y->z=y)->os.Nodup->
  rnv os ls (g y)=(asg π ls ρ y).toNat
 | [],_,_,_,_,_,_,_,_,h,_,_=>by cases h
 | z::π,[],_,_,_,_,h,_,_,_,_,_=>by simp at h
 | _::_,_::_,[],_,_,_,_,h,_,_,_,_=>by cases h
 | z::π,o::os,l::ls,g,ρ,y,h,hl,hd,hy,hi,G=>by
  simp only [MV,Nj]at h;have G:=Nw.1 G;have H:∀J∈os,l.toNat≠J.toNat:=λJ ho e=>hd l (by simp) (by rw [MQ.1 e];exact MD _ ho)
  rw [rnv,asg];by_cases e:y=z
  ·subst e;rw [MZ h.1.symm,wA os ls _ H];by_cases hyp:y∈π
   ·exfalso;have:g y∈π.map g:=N3 hyp;rw [<-h.2,<-h.1]at this;obtain⟨J,h1,h2⟩:=Nb.1 this;exact G.1 (MQ.1 h2▸h1)
   ·rw [bI π ls _ y hyp];simp [aI]
  ·have hyp:y∈π:=(MH.1 hy).resolve_left e;have V:¬g y=o.toNat:=λh'=>e ((hi z (by simp) (h.1.symm.trans h'.symm)).symm)
   rw [MJ V];exact Cf π os ls g _ y h.2 (by simpa using hl) (λl' W Z=>hd l' (MD _ W) (MD _ Z)) hyp (λx hx=>hi x (MD _ hx)) G.2
structure GA (k m:Nat)(Θ ls A:Tx):Prop where
 len:ls.length=m
 nd:ls.Nodup
 ok:∀c∈ls,c∉Θ/\okn (k+m) c/\ngr c/\nm c=true
 srt:jE A
 mem:∀c,c∈A↔c∈Θ\/c∈ls
theorem TR.env {on:Bool}{u:U}{σ τ:Nat->Nat}{Θ r:Tx}(h:TR on u σ Θ r)(he:∀y,u.Us y->σ y=τ y):TR on u τ Θ r:=
 ⟨h.ne,h.len,h.cnt,h.bad,λa b c ρ H=>h.eq a b c ρ λy G=>(H y G).trans (he y G).symm⟩
theorem TR.le {on:Bool}{u:U}{k:Nat}{p:P}{σ τ:Nat->Nat}{Θ r:Tx}(h:TR on u τ Θ r)(d:Den k p σ u):r.length<=p.text.length:=by
 have G:=h.len;have H:=nZ d.ae;rw [T.aV];omega
structure Lj (M:Nat)(p:P)(t:U)(τ:Nat->Nat)(Θ o ls:Tx)(i:Nat)(q:P):Prop where
 den:Den M q (λy=>rnv (o.take i) (ls.take i) (τ y)) t
 shp:q.shp=p.shp
 gf:∀z,q.Fr z->Je z->z∈o.drop i
 cov:∀y,t.Us y->∃c:UInt8,c.toNat=rnv (o.take i) (ls.take i) (τ y)/\(c∈Θ\/c∈ls.take i\/c∈o.drop i)
theorem ra {l:Tx}{i:Nat}(h:i< l.length):l.drop i=bt l i::l.drop (i+1):=bB h
theorem gV {l:Tx}{i:Nat}(h:i< l.length):l.take (i+1)=l.take i++[bt l i]:=by
 rw [Mq h];simp [bt,h]
theorem Lj.step {M k m:Nat}{p q q':P}{t:U}{τ:Nat->Nat}{Θ o ls A:Tx}{i:Nat}(h:Lj M p t τ Θ o ls i q)(θ:∀c∈Θ,ngr c)(β:GA k m Θ ls A)(ho:o.length=m)(γ:∀c∈o,Je c)(hi:i< m)
  (hr:gY M q (bt o i) (bt ls i) q'):Lj M p t τ Θ o ls (i+1) q':=by
 have α:i< o.length:=by omega
 have Z:i< ls.length:=by rw [β.len];exact hi
 have hlen:(o.take i).length=(ls.take i).length:=by rw [M5,M5];omega
 have e:∀y,rnv (o.take (i+1)) (ls.take (i+1)) (τ y)=if rnv (o.take i) (ls.take i) (τ y)=(bt o i).toNat then(bt ls i).toNat else rnv (o.take i) (ls.take i) (τ y):=λy=>by
  rw [gV α,gV Z,zS _ _ _ _ _ hlen]
 have H:=β.ok _ (pB Z);have ζ:bt ls i∉ls.take i:=λhm=>by
  have δ:=β.nd;rw [<-NJ i ls,ra Z]at δ;exact(M6.1 δ).2.2 _ hm _ (by simp) rfl
 have η:bt ls i∉o.drop i:=λhm=>dZ H.2.2.1 (γ _ (List.mem_of_mem_drop hm))
 have J:∀y,t.Us y->rnv (o.take i) (ls.take i) (τ y)≠(bt ls i).toNat:=λy hy he=>by
  obtain⟨c,V,G⟩:=h.cov y hy;have hc:c=bt ls i:=MQ.1 (V.trans he);rcases G with G | G | G
  ·exact H.1 (hc▸G)
  ·exact ζ (hc▸G)
  ·exact η (hc▸G)
 refine⟨⟨hr.wf,?_,⟨hr.eb,?_⟩,?_,?_,h.den.uq⟩,hr.shp.trans h.shp,λz hz hg=>?_,λy hy=>?_⟩
 ·have :=h.den.len;rw [T.aV,T.iJ hr.shp,<-T.aV];exact this
 ·rw [T.AJ hr.shp,T.yl hr.shp];exact h.den.bd.le
 ·have hh:=h.den.ae.renamed hr.ok (λx _ e=>MQ.1 e);have e':(λy=>rnv (o.take (i+1)) (ls.take (i+1)) (τ y))=λy=>if rnv (o.take i) (ls.take i) (τ y)=(bt o i).toNat then(bt ls i).toNat else rnv (o.take i) (ls.take i) (τ y):=funext e
  rw [e'];exact hh
 ·intro y z hy hz W;simp only [e]at W;have ε:=h.den.inj y z hy hz;split at W<;>split at W
  ·rename_i V G;exact ε (V.trans G.symm)
  ·exact absurd W.symm (J z hz)
  ·exact absurd W (J y hy)
  ·exact ε W
 ·rcases hr.ok.free z hz with V | V | V
  ·exact absurd hg (dZ (V▸H.2.2.1))
  ·have :=h.gf z V.2 hg;rw [ra α]at this;exact(MH.1 this).resolve_left V.1
  ·have hh:=γ _ (pB α);rw [V.2.2]at hh;exact absurd hh (dZ H.2.2.1)
 ·obtain⟨c,V,G⟩:=h.cov y hy;rw [e];by_cases hc:rnv (o.take i) (ls.take i) (τ y)=(bt o i).toNat
  ·rw [MZ hc];exact⟨bt ls i,rfl,.inr (.inl (by rw [gV Z];simp))⟩
  ·rw [MJ hc];refine⟨c,V,?_⟩;rcases G with G | G | G
   ·exact .inl G
   ·exact .inr (.inl (by rw [gV Z];simp [G]))
   ·rw [ra α]at G;rcases MH.1 G with h3 | h3
    ·exact absurd (V.symm.trans (by rw [h3])) hc
    ·exact .inr (.inr h3)
theorem aN.FT {on:Bool}{σ:Nat->Nat}{Θ:Tx}:∀{rs:List Tx} {us:List U},aN (λr u=>TR on u σ Θ r) rs us->Proofs.YtdecokaadekjnaaGreat.db rs<=jm us
 | [],[],_=>by simp [Proofs.YtdecokaadekjnaaGreat.db,jm]
 | [],_::_,h=>by have :=h.1;simp at this
 | _::_,[],h=>by have :=h.1;simp at this
 | r::rs,u::us,h=>by
  have H:=(h.2 0 r u rfl rfl).len;have G:=aN.FT (rs:=rs) (us:=us) (on:=on) (σ:=σ) (Θ:=Θ) ⟨by have :=h.1;simpa using this,λi a b ha hb=>h.2 (i+1) a b (by simpa using ha) (by simpa using hb)⟩;rw [dG];simp only [jm,MV,NF,Mm]at G|-;omega
def we (on:Bool)(σ:Nat->Nat)(u:U)(o ls A r:Tx):Prop:=
 ∃rs:List Tx,r=joinS 38 (aH rs)/\aN (λr t=>TR on t (λy=>rnv o ls (asgN (aj u).1 0 σ y)) A r) rs (aj u).2
theorem HK {n:Nat}(iht:wD n){k:Nat}{σ:Nat->Nat}{u:U}{Θ A o ls:Tx}{ps:List P}{on br:Bool}{bm B:Nat}{vt:Value}{w:World}{R:aF->PV}
  (hu:Uq u) (hne:(aj u).2≠[]) (hb:∀p∈ps,k+(aj u).1.length+p.rd+p.ow<=64) (hsz:∀p∈ps,p.size<=n) (γ:ye k Θ σ u) (ο:aN (HF k σ u 0) ps (aj u).2) (G:GA k (aj u).1.length Θ ls A) (ho:o.Perm (gG (aj u).1.length))
  (hm64:(aj u).1.length<=64) (δ:Own B w vt (ps.map T.text)) (hB:bm< B) (ς:MK w bm br on) (htl:jm (aj u).2<=1099511627776+3)
  (h:∀r w',Kp w w' (λg=>g=bm)->MK w' bm (br||(aj u).2.any λt=>decide (5< an (tl [t]))) on->we on σ u o ls A r->R r w'):
  PW 244 #[.pointer (some ⟨bm,0,none⟩),vt,.string (ax o),.string (ax ls),.string (ax A)] w (aw [.s] R):=by
 refine ku _ vt o ls A w R ?_;dsimp only [go_sem];dsimp only [go_sem,UInt8.reduceOfNat,UInt32.reduceOfNat,Nat.reduceAdd];have υ:o.length=(aj u).1.length:=by rw [ho.length_eq,gQ]
 have hog:∀c∈o,Je c:=λc hc=>by
  obtain⟨j,h1,rfl⟩:=gT.1 (ho.subset hc);exact wI (by omega)
 have hlen:=ο.1;have hbm:=ς.lt;have hlu:3* (aj u).2.length<=jm (aj u).2:=by unfold jm;omega
 obtain⟨av,cap,hv⟩:=δ.strs.slice;rw [MM]at hv;refine⟨av,_,cap,hv,λlist x w'=>∃(i:Nat) (rs:List Tx),x=i/\i<=(aj u).2.length/\Kp w w' (λg=>g=bm)/\MK w' bm (br||((aj u).2.take i).any λt=>decide (5< an (tl [t]))) on/\
   Own w.heap.size w' list rs/\Own B w' vt (ps.map T.text)/\aN (λr t=>TR on t (λy=>rnv o ls (asgN (aj u).1 0 σ y)) A r) rs ((aj u).2.take i),λ _ x _=>((aj u).2.length - x).toNat,?_,λlist x w3 hI=>?_⟩
 ·exact⟨0,[],rfl,by omega,Kp.ah (Ex.refl w) _,by simpa using ς,Own.nil _ _,δ,aN.nil⟩
 obtain⟨i,rs,rfl,hi,ι,κ,μ,φ,W⟩:=hI;have hs3:=ι.size;refine⟨λhc=>?_,λhc=>?_⟩
 ·have hc:=MN hc;have χ:i< ps.length:=by omega
  have ν:i< (aj u).2.length:=by omega
  refine φ.strs.get (Ex.refl w3) (i:=i) (x:=(ps[i]).text) (by omega) (by simp [χ]) ?_;obtain⟨m0,τ,hkm,dp,ψ,hgf⟩:=ο.2 i _ _ (Mo χ) (Mo ν);have V:(aj u).2[i]∈(aj u).2:=Mx _;have ω:ps[i]∈ps:=Mx _;have hbp:=hb _ ω;have hszp:=hsz _ ω;generalize hM:max m0 (k+(aj u).1.length)=M;have hM1:m0<=M:=by omega
  have hM2:k+(aj u).1.length<=M:=by omega
  have hle:=dp.bd.le;have dM:Den M ps[i] τ (aj u).2[i]:=⟨dp.wf,dp.len,⟨dp.bd.eb.mono hM1,by omega⟩,dp.ae,dp.inj,dp.uq⟩
  have hus:=ll u hu _ V;refine⟨λs j w'=>Ex w3 w'/\∃(j':Nat) (q:P),j=j'/\j'<=o.length/\s=q.text/\Lj M ps[i] (aj u).2[i] τ Θ o ls j' q,λ _ j _=>(o.length - j).toNat,⟨Ex.refl w3,0,ps[i],rfl,by omega,rfl,?_⟩,λs j w4 hJ=>?_⟩
  ·refine⟨by simpa [rnv]using dM,rfl,λz hz hg=>?_,λy hy=>?_⟩
   ·obtain⟨j,h1,Z⟩:=hgf z hz hg;rw [Oe];exact ho.symm.subset (gT.2 ⟨j,by omega,Z⟩)
   ·simp only [List.take_zero,rnv,Oe];rw [ψ y hy];by_cases α:y∈(aj u).1
    ·obtain⟨j,hj,e⟩:=Np.1 α;refine⟨gl j,?_,.inr (.inr (ho.symm.subset (gT.2 ⟨j,hj,rfl⟩)))⟩;rw [<-e,jH _ _ _ _ hj (fZ u hu),MX]
    ·rw [iY _ _ _ _ α];obtain⟨c,h1,Z⟩:=γ.cov y ((hus y hy).resolve_right α);exact⟨c,Z,.inl h1⟩
  obtain⟨H,j',q,rfl,hj,rfl,hq⟩:=hJ;refine⟨λβ=>?_,λβ=>?_⟩
  ·have β:=MN β;have hj':j'< o.length:=by omega
   refine⟨λ _=>True,λw5 hw5=>⟨trivial,⟨by omega,by omega⟩,⟨by omega,by rw [G.len];omega⟩,?_⟩⟩;have hx5:Ex w4 w5:=hw5▸Ex.drew w4;have hlq:=G.ok _ (pB (s:=ls) (i:=j') (by rw [G.len];omega));have hbd:=T.zw q;have hqle:=hq.den.bd.le;rw [Mv];refine gC _ (Mu _) hq.den.ok hq.den.bd.eb (by omega) hlq.2.2.2 (hlq.2.1.mono hM2) λq' w6 J hq'=>⟨trivial,by omega,⟨(H.trans hx5).trans J,j'+1,q',by omega,by omega,rfl,?_⟩,by dsimp only;omega⟩
   exact hq.step (λc hc=>(γ.okn c hc).2) G υ hog (by omega) hq'
  ·have β:=MO β;have ej:j'=o.length:=by omega
   subst ej;have ζ:=hq.den;have e1:o.take o.length=o:=MR;have e2:ls.take o.length=ls:=by rw [υ,<-G.len];exact MR
   have η:=hq.cov;simp only [e1,e2]at ζ η;have hm4:=κ.ex H;have hszq:=T.oz hq.shp;refine iht (by omega) ζ (xG u _ V) (tn u _ V).1 (tn u _ V).2 (λz hz hg=>?_) ⟨G.srt,λc hc=>?_,λy hy=>?_⟩ hm4 λr w5 ε hm5 hr=>?_
   ·have :=hq.gf z hz hg;rw [Oj]at this;cases this
   ·rcases(G.mem c).1 hc with h1 | h1
    ·exact⟨(γ.okn c h1).1.mono (by omega),(γ.okn c h1).2⟩
    ·have :=G.ok c h1;exact⟨this.2.1.mono hM2,this.2.2.1⟩
   ·obtain⟨c,h1,Z⟩:=η y hy;refine⟨c,(G.mem c).2 ?_,h1⟩;rcases Z with Z | Z | Z
    ·exact .inl Z
    ·exact .inr Z
    ·rw [Oj]at Z;cases Z
   ·intro b6 w6 hb6 hw6;have J:Ex w5 w6:=hw6▸Ex.alloc w5 _;have hbl:∀g,list.ownBlock=some g->¬g=bm:=λg hg e=>by have :=(μ.block g hg).1;omega
    have ho5:Own w.heap.size w6 list rs:=((μ.ex H).kp ε hbl).ex J;have z4:=H.size;have z5:=ε.size;have z6:=J.size;have θ:rs.length=i:=by rw [W.1,M5];omega
    refine Own.push ho5 (by omega) (Strs.one hb6 hw6) (by simp only [Mm,MB];omega) λv7 w7 ξ ho7 hg7 _=>?_
    refine⟨by omega,⟨i+1,rs++[r],by omega,by omega,?_,?_,ho7,?_,?_⟩,by dsimp only;omega⟩
    ·exact Kp.EN (Kp.trans (Kp.trans (Kp.trans ι (Kp.ah H _) λ _ _ h=>h) ε λ _ _ h=>h) (Kp.ah J _) λ _ _ h=>h) ξ (Mu _)
    ·have hm6:=(hm5.ex J).below ξ hbm;rw [Mq ν,List.any_append,<-NZ];simpa using hm6
    ·have hvn:∀g,vt.ownBlock=some g->¬g=bm:=λg hg e=>by have :=(δ.block g hg).1;omega
     exact(((φ.ex H).kp ε hvn).ex J).below ξ λg hg=>(δ.block g hg).2
    ·rw [Mq ν];refine W.snoc (hr.env λy hy=>?_);show rnv o ls (τ y)=_;rw [ψ y hy]
 ·have hc:=MO hc;have e:i=(aj u).2.length:=by omega
  subst e;rw [MR]at κ W;have θ:rs.length=(aj u).2.length:=W.1;have hrs:rs≠[]:=λe=>hne (MS (by rw [<-θ,e];rfl))
  refine jF μ.strs (by omega) λv4 w4 H ho4=>?_
  have hsn:aH rs≠[]:=λe=>hrs (by have :=aE rs;rw [e]at this;exact this.symm.eq_nil)
  have hll:db rs<=jm (aj u).2:=W.FT;refine sd ho4.strs hsn (by rw [lF (aE rs)];omega) ?_;exact h _ w4 (Kp.trans ι (Kp.ah H _) λ _ _ h=>h) (κ.ex H) ⟨rs,rfl,W⟩
theorem vR:∀(n:Nat) (tk:Tk),lets (n+1) tk=lets n tk++[ic (addK (lets n tk) tk)]
 | 0,tk=>rfl
 | n+1,tk=>by
  rw [lets,vR n,lets];rfl
theorem pE:∀(n:Nat) (tk:Tk),fL (n+1) tk=(fL n tk||(uj (addK (lets n tk) tk)).isNone)
 | 0,tk=>by simp [fL,lets,addK]
 | n+1,tk=>by
  rw [fL,pE n,fL];rw [lets,addK,NZ]
theorem fp:∀(l:List UInt8) (s:Tx),(wrap l s).length=3* l.length+s.length
 | [],s=>by simp [wrap]
 | c::l,s=>by simp only [wrap,Mm,fp l s];omega
theorem rW:∀{l:List UInt8} (s:Tx),(∀c∈l,¬c=35)->(wrap l s).count 35=l.length+s.count 35
 | [],s,_=>by simp [wrap]
 | c::l,s,h=>by
  have G:=rW (l:=l) s λc H=>h c (MD _ H)
  simp only [wrap,Mm];rw [List.count_cons,a8 (h c (by simp)),a8 (by decide),G];simp;omega
theorem oW:∀{l:List UInt8} {s:Tx} {c:UInt8},(c∈l\/c∈s)->c∈wrap l s
 | [],s,c,h=>by simpa [wrap]using h
 | d::l,s,c,h=>by
  simp only [wrap,MH];rcases h with h | h
  ·rcases MH.1 h with h | h
   ·exact .inr (.inl h)
   ·exact .inr (.inr (.inr (oW (.inl h))))
  ·exact .inr (.inr (.inr (oW (.inr h))))
theorem fX {k m:Nat}{Θ ls A:Tx}(h:GA k m Θ ls A):cF A=addK ls (cF Θ):=by
 funext c
 rw [wv,cF,cF,Nt];simp only [Mz,NT];exact h.mem c
structure Jk (k i:Nat)(Θ ls A:Tx):Prop where
 ok:GA k i Θ ls A
 good:fL i (cF Θ)=false->ls=lets i (cF Θ)
 bad:fL i (cF Θ)=true->∃c∈ls,128<=c
theorem Jk.zero {k:Nat}{Θ:Tx}(h:jE Θ):Jk k 0 Θ [] Θ:=
 ⟨⟨rfl,NY,λc G=>(by cases G),h,λc=>by simp⟩,λ _=>rfl,λh=>by simp [fL]at h⟩
theorem Jk.snoc {k i:Nat}{Θ ls A Z:Tx}{c:UInt8}(h:Jk k i Θ ls A)(H:zA (k+i) A c)(hs:jE Z)(hA:∀x,x∈Z↔x=c\/x∈A):Jk k (i+1) Θ (ls++[c]) Z:=by
 have V:c∉ls:=λhm=>H.nin ((h.ok.mem c).2 (.inr hm))
 have W:c∉Θ:=λhm=>H.nin ((h.ok.mem c).2 (.inl hm))
 refine⟨⟨by simp [h.ok.len],?_,λd hd=>?_,hs,λd=>?_⟩,λhb=>?_,λhb=>?_⟩
 ·refine M6.2 ⟨h.ok.nd,by simp,λa ha b hb e=>?_⟩;have:b=c:=by simpa using hb
  subst this;subst e;exact V ha
 ·rcases My.1 hd with hd | hd
  ·have :=h.ok.ok d hd;exact⟨this.1,this.2.1.mono (by omega),this.2.2⟩
  ·have:d=c:=by simpa using hd
   subst this;exact⟨W,by rw [<-OU];exact H.okn,H.ngr,H.nm⟩
 ·rw [hA,h.ok.mem,My,MA];constructor
  ·rintro(h | h | h)
   ·exact .inr (.inr h)
   ·exact .inl h
   ·exact .inr (.inl h)
  ·rintro(h | h | h)
   ·exact .inr (.inl h)
   ·exact .inr (.inr h)
   ·exact .inl h
 ·rw [pE,NR]at hb;have e:=h.good hb.1;rw [vR,<-e]
  congr 2
  have G:=hb.2;rw [<-e,<-fX h.ok]at G;rw [<-fX h.ok];exact H.good G
 ·rw [pE,NT]at hb;cases J:fL i (cF Θ)with
  | true=>
   obtain⟨d,h1,h2⟩:=h.bad J;exact⟨d,by simp [h1],h2⟩
  | false=>
   rw [J]at hb;have G:=hb.resolve_left (by simp);rw [<-h.good J,<-fX h.ok]at G;exact⟨c,by simp,H.bad G⟩
theorem uZ:∀n,n<=90->(gG n).Nodup
 | 0,_=>NY
 | n+1,h=>by
  rw [zo];refine M6.2 ⟨uZ n (by omega),by simp,λa ha b hb e=>?_⟩;have hb:b=gl n:=by simpa using hb
  obtain⟨j,H,G⟩:=gT.1 ha;have :=wi (by omega) (by omega) (G.symm.trans (e.trans hb));omega
structure Cg (on:Bool)(σ:Nat->Nat)(u:U)(Lo:List Tx)(ls A best:Tx):Prop where
 mem:∃o∈Lo,we on σ u o ls A best
 le:∀o∈Lo,∃r,we on σ u o ls A r/\jb best r=true
theorem we.ne {on:Bool}{σ:Nat->Nat}{u:U}{o ls A r:Tx}(h:we on σ u o ls A r)(G:(aj u).2≠[]):r≠[]:=by
 obtain⟨rs,rfl,ha⟩:=h;have H:=aE rs;refine zZ (λs J=>?_) λe=>G (MS ?_)
 ·obtain⟨t,_,V⟩:=ha.get' (H.subset J);exact V.ne
 ·rw [e]at H;rw [<-ha.1,H.symm.eq_nil];rfl
theorem we.text {k:Nat}{σ:Nat->Nat}{u:U}{Θ o ls A r:Tx}{π:List Nat}(h:we false σ u o ls A r)(hu:Uq u)(W:ye k Θ σ u)(Z:GA k (aj u).1.length Θ ls A)(H:π.Perm (aj u).1)
  (ho:o.map UInt8.toNat=π.map (asgN (aj u).1 0 σ)) (J:o.Perm (gG (aj u).1.length)) (hm:(aj u).1.length<=64) (V:∀t∈(aj u).2,an (tl [t])<=5) (α:∀t∈(aj u).2,thBad (tl [t]) (cF A)=false) {ρ:Rh} (hc:Compat ρ σ u):
  r=joinS 38 (aH ((aj u).2.map λt=>thU t (asg π ls ρ) (cF A))):=by
 obtain⟨rs,rfl,ha⟩:=h
 congr 2
 have γ:∀y∈(aj u).1,∀z∈(aj u).1,asgN (aj u).1 0 σ z=asgN (aj u).1 0 σ y->z=y:=by
  intro y hy z hz e;obtain⟨i,hi,rfl⟩:=Np.1 hy;obtain⟨j,hj,rfl⟩:=Np.1 hz;rw [jH _ _ _ _ hi (fZ u hu),jH _ _ _ _ hj (fZ u hu),MX,MX]at e;have :=wi (by omega) (by omega) (MQ.1 e);subst this;rfl
 have δ:o.Nodup:=J.nodup_iff.2 (uZ _ (by omega));have :=aN.map_eq (f:=λr:Tx=>r) (g:=λt=>thU t (asg π ls ρ) (cF A)) (ha.mono λr t _ ht hw=>hw.eq (V t ht) rfl (α t ht) (asg π ls ρ) λy hy=>?_)
 ·simpa using this
 ·show(asg π ls ρ y).toNat=rnv o ls (asgN (aj u).1 0 σ y);by_cases G:y∈(aj u).1
  ·refine(Cf π o ls _ ρ y ho (by rw [H.length_eq,Z.len]) (λl hl ε=>?_) (H.symm.subset G) (λz hz e=>γ y G z (H.subset hz) e) δ).symm;obtain⟨j,h1,rfl⟩:=gT.1 (J.subset ε);exact dZ (Z.ok _ hl).2.2.1 (wI (by omega))
  ·have β:=(ll u hu t ht y hy).resolve_right G;rw [bI π ls ρ y λh=>G (H.subset h),iY _ _ _ _ G,wA,hc y β];intro o' ζ e;obtain⟨c,h1,h2⟩:=W.cov y β;obtain⟨j,h3,rfl⟩:=gT.1 (J.subset ζ);have:c=gl j:=MQ.1 (h2.trans e);exact dZ (W.okn c h1).2 (this▸wI (by omega))
theorem qZ {u:U}(hu:Uq u):a7 u<=5->(aj u).1.length<=5/\∀t∈(aj u).2,an (tl [t])<=5:=by
 intro h;obtain⟨G,H,_⟩:=fJ u hu;unfold a7 at h;rw [G,H.length_eq]at h;exact⟨by omega,(rf _ _).1 (by omega)⟩
theorem Aw {u:U}(hu:Uq u):decide (5< a7 u)=(decide (5< (aj u).1.length)||(aj u).2.any λt=>decide (5< an (tl [t]))):=by
 rw [Nt,NT,Mz,Mz,Ow];constructor
 ·intro h;rcases N2 5 (aj u).1.length with G | G
  ·exact .inl G
  ·right;refine NI λW=>?_
   have H:∀t∈(aj u).2,an (tl [t])<=5:=λt ht=>by
    rcases N2 5 (an (tl [t]))with J | J
    ·exact absurd ⟨t,ht,N5 J⟩ W
    ·exact J
   obtain⟨Z,V,_⟩:=fJ u hu;unfold a7 at h;rw [Z,V.length_eq]at h;have :=(rf (aj u).2 5).2 H;omega
 ·intro h;refine NI λW=>?_
  obtain⟨Z,V⟩:=qZ hu (by omega);rcases h with h | ⟨t,G,H⟩
  ·omega
  ·have :=V t G;have :=MN H;omega
theorem WR.Hk {on:Bool}{k:Nat}{σ:Nat->Nat}{u:U}{Θ ls A best:Tx}{Lo:List Tx}(hu:Uq u)(V:(aj u).2≠[])(δ:ye k Θ σ u)(hl:Jk k (aj u).1.length Θ ls A)(hm:(aj u).1.length<=64)
  (ε:∀o∈Lo,o.Perm (gG (aj u).1.length)) (ζ:on=false->∀o,o.Perm (gG (aj u).1.length)->o∈Lo) (h:Cg on σ u Lo ls A best):WR on u σ Θ (wrap ls best):=by
 obtain⟨o0,η,hN⟩:=h.mem;have θ:=hN.ne V;obtain⟨rs,G,ha⟩:=hN;have H:=hl.ok;have hp:=aE rs;have κ:rs≠[]:=λe=>V (MS (by rw [<-ha.1,e];rfl))
 have μ:aH rs≠[]:=λe=>κ (by rw [e]at hp;exact hp.symm.eq_nil)
 have ν:∀c∈ls,¬c=35:=λc hc=>jl (H.ok c hc).2.2.2
 obtain⟨g1,g2,_⟩:=fJ u hu;have W:(td u).2.isNil=false:=by
  rw [dy];cases hd:u.dead with
  | false=>rfl
  | true=>rw [cV u hu hd]at V;exact absurd rfl V
 refine⟨λe=>?_,?_,λhM=>?_,λhM β hb=>?_,λhM β hb ρ hc=>?_⟩
 ·have :=fp ls best;rw [e]at this;have Z:best.length≠0:=λe=>θ (MS e)
  simp at this;omega
 ·have J:=np 38 _ μ;have Z:=lF hp;have h3:=ha.FT;have h4:=fB u;rw [fp,H.len,G];omega
 ·obtain⟨m1,m2⟩:=qZ hu hM;rw [rW _ ν,H.len,G,kf (by decide),iL (hp.map _)];unfold cB;rw [g1,g2.length_eq,Bc]
  congr 2
  exact aN.map_eq (ha.mono λr t _ ht hw=>hw.cnt (m2 t ht))
 ·obtain⟨m1,m2⟩:=qZ hu hM;unfold de fk at hb;rw [W,g2.length_eq]at hb;simp only [Bool.not_false,Oh,NT]at hb;cases γ:fL (aj u).1.length (cF Θ)with
  | true=>
   obtain⟨c,J,Z⟩:=hl.bad γ;exact⟨c,oW (.inl J),Z⟩
  | false=>
   rw [γ]at hb;have hb:=hb.resolve_left (by simp);rw [<-hl.good γ,<-fX H,g1,sq,Ow]at hb;obtain⟨t,J,Z⟩:=hb;obtain⟨r,h3,h4⟩:=ha.get J;obtain⟨c,h5,h6⟩:=h4.bad (m2 t J) β Z;refine⟨c,oW (.inr ?_),h6⟩;rw [G];exact p8 (hp.symm.subset h3) h5
 ·obtain⟨m1,m2⟩:=qZ hu hM;subst β;unfold de fk at hb;rw [W,g2.length_eq]at hb;simp only [Bool.not_false,Oh,NR]at hb;have e:=hl.good hb.1;have α:=hb.2;rw [<-e,<-fX H,g1,sq,List.any_eq_false]at α;have α:∀t∈(aj u).2,thBad (tl [t]) (cF A)=false:=λt ht=>by simpa using α t ht
  rw [xu hu];unfold aR;rw [MJ (by simpa using V)];show _=wrap (lets _ (cF Θ)) (bE (List.map (λπ=>joinS 38 (aH ((aj u).2.map λt=>thU t (asg π (lets _ (cF Θ)) ρ) (addK (lets _ (cF Θ)) (cF Θ))))) _));rw [<-e,<-fX H]
  congr 1
  symm
  have ι:∀o:Tx,o.Perm (gG (aj u).1.length)->∃π:List Nat,π.Perm (aj u).1/\o.map UInt8.toNat=π.map (asgN (aj u).1 0 σ):=λo ho=>by
   refine jk ((ho.map UInt8.toNat).trans ?_);have:(gG (aj u).1.length).map UInt8.toNat=(aj u).1.map (asgN (aj u).1 0 σ):=by
    refine Pb (by simp [gQ]) λi J Z=>?_
    simp only [Pz];have hi:i< (aj u).1.length:=by simpa using Z
    rw [jH _ _ _ _ hi (fZ u hu),MX];simp [gG]
   rw [this]
  refine ga ?_ λs hs=>?_
  ·obtain⟨π,J,Z⟩:=ι o0 (ε _ η);refine Nb.2 ⟨π,(cP _ _).2 J,?_⟩;exact(we.text ⟨rs,G,ha⟩ hu δ H J Z (ε _ η) hm m2 α hc).symm
  ·obtain⟨π,J,rfl⟩:=Nb.1 hs;have J:=(cP _ _).1 J;have h3:(π.map (asgN (aj u).1 0 σ)).Perm ((gG (aj u).1.length).map UInt8.toNat):=by
    have:(gG (aj u).1.length).map UInt8.toNat=(aj u).1.map (asgN (aj u).1 0 σ):=by
     refine Pb (by simp [gQ]) λi J Z=>?_
     simp only [Pz];have hi:i< (aj u).1.length:=by simpa using Z
     rw [jH _ _ _ _ hi (fZ u hu),MX];simp [gG]
    rw [this];exact J.map _
   obtain⟨o,h4,h5⟩:=jk h3;obtain⟨r,h6,h7⟩:=h.le o (ζ rfl o h4);rw [<-h6.text hu δ H J h5.symm h4 hm m2 α hc];exact h7
theorem WR.HB {on:Bool}{u:U}{σ:Nat->Nat}{Θ:Tx}(hu:Uq u)(hd:u.dead=true):WR on u σ Θ [48]:=by
 obtain⟨G,H,J,h4⟩:=nO hu hd;exact⟨by simp,yG u,λ _=>by rw [J];rfl,λ _ _ hb=>(by rw [H]at hb;cases hb),λ _ _ _ ρ _=>by rw [G]⟩
theorem WR.DQ {on:Bool}{u:U}{σ:Nat->Nat}{Θ:Tx}(h:5< a7 u):WR on u σ Θ [48]:=
 ⟨by simp,yG u,λhm=>by omega,λhm=>by omega,λhm=>by omega⟩
theorem Ex.aQ {w w':World}(h:w.grownBy w' none):Ex w w':=⟨h.os,h.tape,h.output,h.size,λg G=>h.block g G (by simp)⟩
theorem HY:∀(u:U),∀t∈(aj u).2,t.ow+(aj u).1.length<=u.ow/\t.rd<=u.rd:=by
 intro u
 induction u with
 | nil=>intro t h;simp [aj]at h
 | snd=>intro t h;simp [aj]at h;subst h;simp [aj]
 | rcv=>intro t h;simp [aj]at h;subst h;simp [aj]
 | tau=>intro t h;simp [aj]at h;subst h;simp [aj]
 | sum p q G H=>
  intro t h;simp only [aj]at h|-;split at h
  ·rename_i e;rw [MZ e];have :=H t h;simp only [T.ow,T.rd];omega
  ·rename_i e;rw [MJ e];split at h
   ·rename_i J;rw [MZ J];have :=G t h;simp only [T.ow,T.rd];omega
   ·rename_i J;rw [MJ J];simp at h;subst h;simp
 | par p q G H=>
  intro t h;simp only [aj,My]at h;simp only [aj,T.ow,T.rd,Mt];have V:=gZ p;have W:=gZ q;rcases h with h | h
  ·have :=G t h;omega
  ·have :=H t h;omega
 | res x p G=>
  intro t h;have :=G t h;simp only [aj,T.ow,T.rd];split
  ·simp only [Mm];omega
  ·omega
 | mat a b p G=>
  intro t h;simp only [aj]at h|-;split at h
  ·rename_i e;rw [MZ e];exact G t h
  ·rename_i e;rw [MJ e];split at h
   ·simp at h
   ·rename_i J;rw [MJ J];simp at h;subst h;simp
 | rep p G=>
  intro t h;simp only [aj]at h|-;split at h
  ·simp at h
  ·rename_i J;rw [MJ J];simp at h;subst h;simp
theorem Jj {p:P}{u:U}{ρ:UInt8->Nat}{σ:Nat->Nat}(h:AE ρ p σ u):u.rd=p.rd:=by
 induction p generalizing u ρ σ<;>cases u<;>simp only [AE]at h<;>simp only [T.rd]
 case snd.snd G _ _ _=>exact G h.2.2
 case mat.mat G _ _ _=>exact G h.2.2
 case rcv.rcv G _ _ _=>rw [G (h.2 0)]
 case res.res G _ _=>exact G (h 0)
 case tau.tau G _=>exact G h
 case rep.rep G _=>exact G h
 case sum.sum G H _ _=>rw [G h.1,H h.2]
 case par.par G H _ _=>rw [G h.1,H h.2]
theorem xj {l:Tx}{i:Nat}(h:i< l.length):List.drop (Int.toNat (i:Int)) (List.take (Int.toNat ((i:Int)+1)) l)=[bt l i]:=by
 have e:Int.toNat ((i:Int)+1)=i+1:=by omega
 rw [e,Mv,gV h];exact List.drop_left' (by rw [M5];omega)
theorem C3 {l:Tx}{i:Nat}(h:i< l.length):List.drop i (List.take (Int.toNat ((i:Int)+1)) l)=[bt l i]:=by
 have :=xj h
 rwa [Mv]at this
theorem pg {l:Tx}{i:Nat}(h:i< l.length)(s:Tx):wrap (l.drop i) s=35::bt l i::46::wrap (l.drop (i+1)) s:=by
 rw [ra h];rfl
theorem Ca:∀n,Ev n:=by
 intro n
 induction n with
 | zero=>intro k p σ u Θ w bm br on R h;have :=aY p;omega
 | succ n ih=>
  have iht:wD (n+1):=FZ ih;intro k p σ u Θ w bm br on R hn d hgf χ hmk h;refine ke _ _ _ w R ?_;dsimp only [go_sem];dsimp only [go_sem,UInt8.reduceOfNat,UInt32.reduceOfNat,Nat.reduceAdd];intro b4 w5 γ ο;have ψ:Ex w w5:=ο▸Ex.alloc w _;have hsz5:w5.heap.size=b4+1:=by rw [ο,size_alloc,<-γ]
  have hbm:bm< b4:=by rw [γ];exact hmk.lt
  have hle:=d.bd.le;have hGL:GL b4 w5 b4 (gG 0) (.slice none 0 0) []:=by
   refine⟨by omega,Mu _,?_,?_,Own.nil _ _,(λe=>by cases e),?_,?_⟩
   ·rw [ο,γ];exact aa rfl
   ·rw [ο,γ];exact aa rfl
   ·rw [ο,γ];unfold World.frozen? World.alloc;simp
   ·rw [ο,γ];unfold World.frozen? World.alloc;simp
  have hl:=d.len;have hszt:=bj p;refine GJ _ hn d hgf (by omega) hGL (by simp only [MB];omega) λw6 v6 ps ω hv6 δ hps=>?_
  rw [Nk,MX]at δ;have hx6:Ex w w6:=⟨ω.os.trans ψ.os,ω.tape.trans ψ.tape,ω.output.trans ψ.output,Nv ψ.size ω.size,λg hg=>by
   rw [ω.block g (by rw [hsz5];omega) (λhS=>by
    rcases hS with J | J
    ·omega
    ·cases J)]
   exact ψ.block g hg⟩
  have hpl:=hps.1;have hmlen:=gZ u;rw [B7 d.ae]at hmlen;have hm64:(aj u).1.length<=64:=by omega
  have hgs:=fc u;have hus:=d.ae.size;obtain⟨av,cap,hv⟩:=δ.own.strs.slice;rw [MM]at hv;refine⟨v6,δ.c1,av,_,cap,hv,λused x w'=>Ex w6 w'/\∃i:Nat,x=i/\i<=ps.length/\jE used/\∀c,c∈used↔∃q∈ps.take i,q.Us c,λ _ x _=>(ps.length - x).toNat,⟨Ex.refl w6,0,rfl,by omega,List.Pairwise.nil,by simp⟩,λused x w7 hI=>?_⟩;obtain⟨hx7,i,rfl,hi,hsu,hmu⟩:=hI;have α:∀i (hi:i< ps.length),∃m τ,k<=m/\Den m ps[i] τ ((aj u).2[i]'(by omega))/\(∀y,((aj u).2[i]'(by omega)).Us y->τ y=asgN (aj u).1 0 σ y)/\GF (0+(aj u).1.length) ps[i]:=λi hi=>
   hps.2 i _ _ (Mo hi) (Mo (by omega))
  refine⟨λhc=>?_,λhc=>?_⟩
  ·have hc:=MN hc;have hip:i< ps.length:=by omega
   refine δ.own.strs.get hx7 (i:=i) (x:=(ps[i]).text) (by omega) (by simp [hip]) ?_;obtain⟨_,_,_,dp,_⟩:=α i hip;refine oB _ (Mu _) dp.ok λs w8 hx8 hss hms=>?_
   refine iX hsu (by have :=hss.bound;omega) λs' w9 ς hs9 hm9=>?_
   refine⟨by omega,⟨(hx7.trans hx8).trans ς,i+1,by omega,by omega,hs9,λc=>?_⟩,by dsimp only;omega⟩;rw [hm9,hmu,hms,List.take_succ_eq_append_getElem hip];simp only [My,MA];constructor
   ·rintro(⟨q,J,h2⟩ | J)
    ·exact⟨q,.inl J,h2⟩
    ·exact⟨_,.inr rfl,J⟩
   ·rintro⟨q,J | rfl,h2⟩
    ·exact .inl ⟨q,J,h2⟩
    ·exact .inr h2
  have hc:=MO hc;have e:i=ps.length:=by omega
  subst e;rw [MR]at hmu;have hGL7:=δ.ex hx7;have hall:∀i,i< (aj u).1.length->gl i∈used:=λi hi=>by
   obtain⟨t,ht,hty⟩:=zp u d.uq _ (Mx hi);obtain⟨j,hj,e⟩:=Np.1 ht;have hjp:j< ps.length:=by omega
   obtain⟨m,τ,_,dp,hτ,_⟩:=α j hjp;subst e;obtain⟨c,J,h2⟩:=dp.ae.symm.used dp.inj (eO _) _ hty;rw [hτ _ hty,jH _ _ _ _ hi (fZ u d.uq),MX]at h2;have:c=gl i:=MQ.1 h2;exact(hmu _).2 ⟨_,Mx hjp,this▸J⟩
  have hglen:=gQ (aj u).1.length;refine⟨λfront i w'=>Ex w7 w'/\∃j:Nat,i=j/\j<=(aj u).1.length/\front=(gG (aj u).1.length).take j,λ _ i _=>((aj u).1.length - i).toNat,⟨Ex.refl w7,0,rfl,by omega,rfl⟩,λfront i w8 hI=>?_⟩;obtain⟨hx8,j,rfl,hj,rfl⟩:=hI;have ε:=hGL7.ex hx8;refine⟨gG (aj u).1.length,ε.c0,λhc2=>?_,λhc2=>?_⟩
  ·have hc2:=MN hc2;have hj':j< (aj u).1.length:=by omega
   have hbt:bt (gG (aj u).1.length) j=gl j:=by simp [bt,gG,hj']
   refine⟨λfront w'=>Ex w7 w'/\front=(gG (aj u).1.length).take (j+1),⟨gG (aj u).1.length,ε.c0,⟨by omega,by omega⟩,?_⟩,λfront w9 hJ=>?_⟩
   ·rw [Mv,hbt];refine ia (by have :=hsu.bound;omega) ⟨λ _=>⟨gG (aj u).1.length,ε.c0,by omega,⟨by omega,by omega,by omega⟩,?_,hx8,?_⟩,λhq=>absurd (hall j hj') (MO hq)⟩
    ·rw [C3 (by omega)];simp only [M5,Mm,MB];omega
    ·rw [C3 (by omega),gV (by omega)]
   ·obtain⟨ς,rfl⟩:=hJ;exact⟨by omega,⟨ς,j+1,by omega,by omega,rfl⟩,by dsimp only;omega⟩
  have hc2:=MO hc2;have e:j=(aj u).1.length:=by omega
  subst e;rw [show(gG (aj u).1.length).take (aj u).1.length=gG (aj u).1.length from Pf (by omega)];have ν:Ex w w8:=(hx6.trans hx7).trans hx8;have V:=hmk.ex ν;refine⟨v6,ε.c1,av,_,cap,hv,λυ=>?_,λυ=>?_⟩
  ·have υ:=MN υ;have hd:=HI d.uq (MS (by omega));have hm0:=(nO d.uq hd).2.2.2;refine h _ w8 (Kp.ah ν _) ?_ (WR.HB d.uq hd);rw [hm0];simpa using V
  have υ:=MO υ;have hne:(aj u).2≠[]:=λe=>υ (by rw [e]at hpl;simp only [MB]at hpl;omega)
  refine⟨λhc4=>?_,λhc4=>?_⟩
  ·have hc4:=MN hc4;have hlm:5< a7 u:=by
    have :=Aw d.uq;have h5:decide (5< (aj u).1.length)=true:=N5 (by omega);rw [h5,Bool.true_or]at this;exact MN this
   refine⟨bm,0,rfl,⟨⟨_,V.c0⟩,V.f0⟩,λw9 hw9=>?_⟩;subst hw9;refine h _ _ (Kp.set (S:=λg=>g=bm) (Kp.ah ν _) rfl _) ?_ (WR.DQ hlm);have e5:decide (5< a7 u)=true:=N5 hlm;rw [e5,Bool.or_true];exact⟨by rw [M9];exact V.lt,MI _ _ _ V.c0,by rw [Mr _ _ _ _ (by simp)];exact V.c1,by rw [MG];exact V.f0⟩
  have hc4:=MO hc4;have hm5:(aj u).1.length<=5:=by omega
  intro b9 cap9 w9 hb9 _ hg9;have ς:Ex w8 w9:=Ex.aQ hg9;have hx69:Ex w w9:=ν.trans ς;refine⟨_,_,cap9,rfl,λG all x w'=>Ex w9 w'/\∃i:Nat,x=i/\i<=(aj u).1.length/\Jk k i Θ G all,λ _ _ x _=>((aj u).1.length - x).toNat,⟨Ex.refl w9,0,rfl,by omega,Jk.zero χ.srt⟩,λG all x w10 hI=>?_⟩;obtain⟨hx10,i,rfl,hi,H⟩:=hI;refine⟨λhc5=>?_,λhc5=>?_⟩
  ·have hc5:=MN hc5;have hi':i< (aj u).1.length:=by omega
   have hall:∀c∈all,okn (k+i) c/\ngr c:=λc hc=>by
    rcases(H.ok.mem c).1 hc with J | J
    ·exact⟨(χ.okn c J).1.mono (by omega),(χ.okn c J).2⟩
    ·exact⟨(H.ok.ok c J).2.1,(H.ok.ok c J).2.2.1⟩
   refine iK (by have :=H.ok.srt.bound;omega) λc hc=>?_
   have hfr:zA (k+i) all c:=zA.of (by omega) hall hc;intro b11 φ hb11 hw11;have ζ:Ex w10 φ:=hw11▸Ex.alloc w10 _;refine⟨b11,0,1,1,[c],rfl,rfl,kj _ hb11 hw11,by rw [H.ok.len];simp;omega,?_⟩;refine eU H.ok.srt λs' ι hx12 hs12 hm12=>?_
   exact⟨by omega,⟨(hx10.trans ζ).trans hx12,i+1,by omega,by omega,H.snoc hfr hs12 hm12⟩,by dsimp only;omega⟩
  have hc5:=MO hc5;have e:i=(aj u).1.length:=by omega
  subst e;have hx610:Ex w w10:=hx69.trans hx10;have hls:=H.ok;refine By 5 (by omega) (Mu _) λv11 φ L ζ η hL hmL=>?_
  have hx611:Ex w φ:=hx610.trans ζ;have κ:=hmk.ex hx611;have hLne:L≠[]:=λe=>by
   have :=(hmL (gG (aj u).1.length)).2 (NA _);rw [e]at this;cases this
  have hLlen:L.length<=7776:=by
   have:(6:Nat)^(gG (aj u).1.length).length<=6^5:=Nat.pow_le_pow_right (by omega) (by omega);omega
  have hLpos:0< L.length:=OO.2 hLne;refine⟨λv w'=>w'=φ/\∃Lo:List Tx,Strs φ v Lo/\(∀b off n c,v= .slice (some ⟨b,off,none⟩) n c->w10.heap.size<=b)/\Lo≠[]/\Lo.length<=7776/\(∀o∈Lo,o.Perm (gG (aj u).1.length))/\(on=false->∀o,o.Perm (gG (aj u).1.length)->o∈Lo),⟨bm,0,rfl,on,κ.c1,λhon=>?_,λhon=>?_⟩,λorders ι hJ=>?_⟩
  ·obtain⟨g,Z,cur,hvL,hbL,_⟩:∃g cap cur,v11= .slice (some ⟨g,0,none⟩) L.length cap/\w10.heap.size<=g/\φ.heap[g]?=some cur:=by
    rcases η.2 with⟨_,hn⟩ | ⟨g,cap,cur,e,hb,hg,_⟩
    ·omega
    ·exact⟨g,cap,_,e,hb,hg⟩
   have hcap:L.length<=Z:=by
    rcases η.2 with⟨_,hn⟩ | ⟨g',cap',cur',e,hb,hg,J,h2,h3,h4⟩
    ·omega
    ·rw [hvL]at e;cases e;exact J
   refine⟨_,_,Z,hvL,by omega,by omega,by omega,rfl,L.take 1,?_,λb off n c e=>?_,?_,?_,λo W=>(hmL o).1 (List.mem_of_mem_take W),λhf=>by rw [hon]at hf;cases hf⟩
   ·have hs:=η.strs;rw [hvL]at hs;exact hs.take (k:=1) (by omega) (by omega)
   ·have ecap:¬Z=Int.toNat 0:=by show ¬Z=0;omega
    rw [MJ ecap]at e;simp [Addr.add]at e;omega
   ·match L,hLne with
    | a::l,_=>simp
   ·rw [M5];omega
  ·refine⟨rfl,L,η.strs,λb off n c e=>(η.block b (by rw [e];rfl)).1,hLne,hLlen,λo W=>(hmL o).1 W,λ _ o W=>(hmL o).2 W⟩
  obtain⟨rfl,Lo,hsL,hbL,hLo,hLol,hLop,hLoa⟩:=hJ;have hLopos:0< Lo.length:=OO.2 hLo;obtain⟨aL,Z,hvL⟩:=hsL.slice;have β:GL b4 ι b4 (gG (aj u).1.length) v6 (ps.map T.text):=((ε.ex ς).ex hx10).ex ζ;have hb12:=β.lt;have hbp:∀p∈ps,k+(aj u).1.length+p.rd+p.ow<=64:=λq hq=>by
   obtain⟨i,hi,rfl⟩:=Np.1 hq;obtain⟨_,_,_,dp,_⟩:=α i hi;have :=HY u _ (Mx (show i< (aj u).2.length by omega));rw [B7 dp.ae,Jj dp.ae,B7 d.ae,Jj d.ae]at this;omega
  have hszp:∀p∈ps,p.size<=n+1:=λq hq=>by
   obtain⟨i,hi,rfl⟩:=Np.1 hq;obtain⟨_,_,_,dp,_⟩:=α i hi;have :=Bz u _ (Mx (show i< (aj u).2.length by omega));rw [dp.ae.size];omega
  have htl:=fB u;rw [nZ d.ae,<-T.aV]at htl;generalize hbr:(br||(aj u).2.any λt=>decide (5< an (tl [t])))=br' at*;refine⟨aL,_,Z,hvL,λbest x w'=>∃i:Nat,x=i/\i<=Lo.length/\Kp ι w' (λg=>g=bm)/\MK w' bm (if i=0 then br else br') on/\(i=0->best=[])/\(0< i->Cg on σ u (Lo.take i) G all best),λ _ x _=>(Lo.length - x).toNat,⟨0,rfl,by omega,Kp.ah (Ex.refl ι) _,by simpa using κ,λ _=>rfl,λh=>by omega⟩,λbest x w13 hI=>?_⟩;obtain⟨i,rfl,hi,θ,hm13,hb0,hb1⟩:=hI;refine⟨λhc6=>?_,λhc6=>?_⟩
  ·have hc6:=MN hc6;have hi':i< Lo.length:=by omega
   refine⟨λbest w'=>Kp ι w' (λg=>g=bm)/\MK w' bm br' on/\Cg on σ u (Lo.take (i+1)) G all best,?_,λbest' w14 hJ=>?_⟩
   ·have hsL13:Strs w13 orders Lo:=hsL.kp θ λb off n c e hS=>by have :=hbL b off n c e;have :=κ.lt;have :=ζ.size;have :=(hmk.ex hx610).lt;omega
    refine hsL13.get (Ex.refl w13) (i:=i) (x:=Lo[i]) (by omega) (by simp [hi']) ?_;have γ:w13.heap[b4]?=ι.heap[b4]?:=θ.block b4 hb12 (by omega);refine⟨v6,by rw [Mn (w:=ι) γ];exact β.c1,?_⟩;have hvt:Own b4 w13 v6 (ps.map T.text):=β.own.kp θ λg hg e=>by have :=(β.own.block g hg).1;omega
    refine HK iht d.uq hne hbp hszp χ hps hls (hLop _ (Mx hi')) hm64 hvt hbm hm13 (by omega) λr w14 hk14 ξ hr=>?_
    have μ:MK w14 bm br' on:=by
     rw [<-hbr];by_cases h0:i=0
     ·rw [MZ h0]at ξ;exact ξ
     ·rw [MJ h0,<-hbr,NZ,Bool.or_self]at ξ;exact ξ
    have hk':=Kp.trans θ hk14 λ _ _ h=>h
    have hrne:=hr.ne hne;have tk:Lo.take (i+1)=Lo.take i++[Lo[i]]:=Mq hi';have new:(∀o∈Lo.take i,∃r',we on σ u o G all r'/\jb r r'=true)->Cg on σ u (Lo.take (i+1)) G all r:=λhh=>by
     rw [tk];refine⟨⟨Lo[i],MT _ (MA.2 rfl),hr⟩,λo W=>?_⟩;rcases My.1 W with W | W
     ·exact hh o W
     ·have:o=Lo[i]:=by simpa using W
      subst this;exact⟨r,hr,by simp [jb]⟩
    refine⟨λhq=>⟨λH=>⟨hk',μ,?_⟩,λH=>⟨hk',μ,?_⟩⟩,λhq=>⟨hk',μ,?_⟩⟩
    ·have hi0:0< i:=by
      rcases O0 i with h0 | h0
      ·exact absurd (hb0 h0) (MO hq)
      ·exact h0
     rw [PL,Mz]at H;refine new λo W=>?_
     obtain⟨r',J,h2⟩:=(hb1 hi0).le o W;exact⟨r',J,fW _ _ _ (by simp only [jb,Mz];exact List.le_of_lt H) h2⟩
    ·have hi0:0< i:=by
      rcases O0 i with h0 | h0
      ·exact absurd (hb0 h0) (MO hq)
      ·exact h0
     rw [PL,Mw]at H;have hble:jb best r=true:=by simp only [jb,Mz];exact List.not_lt.1 H
     obtain⟨⟨o,J,h2⟩,h3⟩:=hb1 hi0;rw [tk];refine⟨⟨o,M0 _ J,h2⟩,λo' W=>?_⟩;rcases My.1 W with W | W
     ·exact h3 o' W
     ·have:o'=Lo[i]:=by simpa using W
      subst this;exact⟨r,hr,hble⟩
    ·have hq:=MN hq;have hi0:i=0:=by
      rcases O0 i with h0 | h0
      ·exact h0
      ·obtain⟨⟨o,J,h2⟩,_⟩:=hb1 h0;exact absurd hq (h2.ne hne)
     exact new λo W=>by rw [hi0]at W;simp at W
   ·obtain⟨j1,j2,j3⟩:=hJ;exact⟨by omega,⟨i+1,by omega,by omega,j1,by simpa using j2,(λh=>by omega),λ _=>j3⟩,by dsimp only;omega⟩
  have hc6:=MO hc6;have e:i=Lo.length:=by omega
  subst e;have hbest:=hb1 hLopos;rw [MR]at hbest;rw [MJ (by omega)]at hm13;have hW:=WR.Hk d.uq hne χ H hm64 hLop hLoa hbest;have hWl:=hW.len;rw [fp,hls.len,nZ d.ae,<-T.aV]at hWl;have hll:=hls.len;refine⟨by omega,λb i w'=>w'=w13/\∃j:Nat,i=(j:Int) - 1/\j<=(aj u).1.length/\b=wrap (G.drop j) best,λ _ i _=>(i+1).toNat,⟨rfl,(aj u).1.length,by omega,by omega,?_⟩,λb i w14 hI=>?_⟩
  ·rw [N7 (by omega)];rfl
  obtain⟨rfl,j,rfl,hj,rfl⟩:=hI;refine⟨λhc7=>?_,λhc7=>?_⟩
  ·have hc7:=MN hc7;obtain⟨j,rfl⟩:∃j',j=j'+1:=⟨j - 1,by omega⟩
   have ej:((j+1:Nat):Int) - 1=(j:Int):=by omega
   rw [ej];have hjl:j< G.length:=by omega
   have hdl:(G.drop (j+1)).length<=64:=by rw [NX];omega
   rw [xj hjl];refine⟨by omega,⟨by omega,by omega,by omega⟩,by simp,by simp,?_,by omega,⟨rfl,j,rfl,by omega,?_⟩,by dsimp only;omega⟩
   ·rw [fp];simp only [Mt,Mm,MB];omega
   ·rw [pg hjl];rfl
  ·have hc7:=MO hc7;have e:j=0:=by omega
   subst e;rw [Oe];refine h _ w14 ?_ ?_ hW
   ·exact Kp.trans (Kp.ah hx611 _) θ λ _ _ h=>h
   ·rw [Aw d.uq];have h5:decide (5< (aj u).1.length)=false:=N9 (by omega);rw [h5,O9,hbr];exact hm13
theorem iS:∀{t:P},t.lw=true↔t.Al λc=>lt c=true
 | .nil=>by simp [T.lw,T.Al]
 | .snd a b p=>by simp [T.lw,T.Al,iS (t:=p),OK]
 | .rcv a b p=>by simp [T.lw,T.Al,iS (t:=p),OK]
 | .mat a b p=>by simp [T.lw,T.Al,iS (t:=p),OK]
 | .tau p=>by simp [T.lw,T.Al,iS (t:=p)]
 | .rep p=>by simp [T.lw,T.Al,iS (t:=p)]
 | .res x p=>by simp [T.lw,T.Al,iS (t:=p)]
 | .sum p q=>by simp [T.lw,T.Al,iS (t:=p),iS (t:=q)]
 | .par p q=>by simp [T.lw,T.Al,iS (t:=p),iS (t:=q)]
theorem kF {s:Tx}:(∃t:P,Good t/\t.text=s)↔di s:=by
 constructor
 ·rintro⟨t,h,rfl⟩
  exact⟨h.len,t,iS.1 h.lw,rfl,h.size⟩
 ·rintro⟨h,t,G,rfl,H⟩
  exact⟨t,⟨iS.2 G,h,H⟩,rfl⟩
theorem AP {s:Tx}(h:di s):∀c∈s,¬128<=c:=by
 obtain⟨t,G,rfl⟩:=kF.2 h;intro c H;have :=Ou.1 (iP G.lw).2 c H;simp only [dD,Om,NR,Mw]at this;exact this.2
theorem Js {p:Tx}(J:p.length<=1099511627776){w:World}{R:aF->Bool->PV}(h:∀w',Ex w w'->(di p->R p true w')/\(¬di p->R [] false w')):PW 190 #[.string (ax p)] w (aw [.s,.b] R):=by
 refine wU p w R ?_;dsimp only [go_sem];dsimp only [go_sem,UInt8.reduceOfNat,UInt32.reduceOfNat,Nat.reduceAdd];refine G3 J λb w' H hb=>⟨λG=>(h w' H).2 λV=>?_,λG=>(h w' H).1 (kF.1 (hb.1 (by simpa using G)))⟩
 have :=hb.2 (kF.2 V);rw [this]at G;cases G
structure nW (k:Nat)(p:P)(σ:Nat->Nat)(u:U):Prop where
 den:Den k p σ u
 gf:GF 0 p
 nu:Nu u
 σ:∀y,u.Us y->σ y=σ0 y
theorem nW.lt {k:Nat}{p:P}{σ:Nat->Nat}{u:U}(d:nW k p σ u):(∀c,p.Us c->lt c=true/\u.Us (e0 c))/\∀y,u.Us y->p.Us (ρ0 y):=by
 constructor
 ·intro c V;obtain⟨y,G,H⟩:=d.den.ae.used (eO p) d.den.inj c V;have W:=d.nu.fr y G;rw [d.σ y G]at H;unfold σ0 at H;have:e0 c=y:=by unfold e0;omega
  exact⟨nK (by omega),this▸G⟩
 ·intro y J;obtain⟨c,G,H⟩:=d.den.ae.symm.used d.den.inj (eO p) y J;have:c=ρ0 y:=MQ.1 (by rw [eG (d.nu.fr y J),H,d.σ y J]);exact this▸G
theorem nW.tk {k:Nat}{p:P}{σ:Nat->Nat}{u:U}(d:nW k p σ u){s:Tx}(hm:∀c,c∈s↔p.Us c):cF s=kX (td u).2:=by
 funext c
 rw [Nt,pW d.nu];unfold cF;rw [Mz,hm];refine⟨d.lt.1 c,fun⟨G,H⟩=>?_⟩;have :=d.lt.2 _ H;have e:ρ0 (e0 c)=c:=by
  have :=bg G;apply MQ.1;unfold ρ0 e0;rw [NB];omega
 rwa [e]at this
theorem nW.KP {k:Nat}{p:P}{σ:Nat->Nat}{u:U}(d:nW k p σ u){s:Tx}(J:jE s)(hm:∀c,c∈s↔p.Us c):ye k s σ u:=by
 refine⟨J,λc H=>⟨d.den.bd.eb.free c (T.bs ((hm c).1 H)),?_⟩,λy G=>?_⟩
 ·have :=bg (d.lt.1 c ((hm c).1 H)).1;right;omega
 ·refine⟨ρ0 y,(hm _).2 (d.lt.2 y G),?_⟩;rw [eG (d.nu.fr y G),d.σ y G]
theorem Ju {k:Nat}{p:P}{σ:Nat->Nat}{u:U}(d:nW k p σ u){w:World}{R:aF->Bool->PV}
  (h:∀w',Ex w w'->(¬(a7 u<=5/\cB u<=8)->R [] false w')/\∀s out,(a7 u<=5/\cB u<=8)->cF s=kX (td u).2->WR false u σ s out->R out true w'):
  PW 189 #[.string (ax p.text)] w (aw [.s,.b] R):=by
 refine xq _ w R ?_;dsimp only [go_sem];dsimp only [go_sem,UInt8.reduceOfNat,UInt32.reduceOfNat,Nat.reduceAdd];intro b2 w3 hb2 ς;have hx3:Ex w w3:=ς▸Ex.alloc w _;have mk:∀{wx wy:World} {b:Nat} (x:Bool),b=wx.heap.size->wy=wx.alloc (.cells #[.bool false,.bool x] 233)->MK wy b false x:=by
  rintro wx wy b x rfl rfl
  refine⟨by rw [size_alloc];omega,aa rfl,aa rfl,?_⟩;unfold World.frozen? World.alloc;simp
 have hm3:=mk true hb2 ς;refine oB _ (Mu _) d.den.ok λs w5 υ hss hms=>?_
 refine Ca _ (Mu _) d.den d.gf (d.KP hss hms) (hm3.ex υ) λr w7 Z hm7 hr=>?_
 have H:Ex w w5:=hx3.trans υ;have hx7:Ex w w7:=⟨Z.os.trans H.os,Z.tape.trans H.tape,Z.output.trans H.output,Nv H.size Z.size,λg hg=>by
  rw [Z.block g (MP hg H.size) (by omega)];exact H.block g hg⟩
 intro b8 ε φ hb8 hbr ζ;have V:Ex w φ:=hx7.trans (Ex.aQ ζ);have hrl:=hr.le d.den;have hlen:=d.den.len;obtain⟨cur,lo,hi,χ,ο,hle,_⟩:=hbr;refine⟨_,_,ε,rfl,λown x w'=>w'=φ/\∃i:Nat,x=i/\i<=r.length/\own=((r.take i).count 35:Nat),λ _ x _=>(r.length - x).toNat,⟨rfl,0,rfl,by omega,by simp⟩,λown x γ hI=>?_⟩;obtain⟨rfl,i,rfl,hi,rfl⟩:=hI;refine⟨λhc=>?_,λhc=>?_⟩
 ·have hc:=MN hc;have α:i< r.length:=by omega
  have η:(r.take i).count 35<=i:=Nv (List.count_le_length ..) (by rw [M5];omega);refine⟨b8,0,_,ε,rfl,by omega,by omega,bt r i,?_,λW=>?_,λW=>?_⟩
  ·unfold World.cell?;simp only [χ,Mv,MX,MW];have e:=Nz (λl=>l[i]?) ο;simp only [dw,Oy]at e;rw [O1,MZ α]at e;simp only [Mo α,N8]at e;simpa [bt,α]using e
  ·have W:=MN W;have e:(r.take (i+1)).count 35=(r.take i).count 35+1:=by
    rw [gV α,Nh,W];simp
   exact⟨by omega,by omega,⟨rfl,i+1,by omega,by omega,by rw [e];omega⟩,by dsimp only;omega⟩
  ·have W:=MO W;have e:(r.take (i+1)).count 35=(r.take i).count 35:=by
    rw [gV α,Nh,a8 W];simp
   exact⟨by omega,⟨rfl,i+1,by omega,by omega,by rw [e]⟩,by dsimp only;omega⟩
 have hc:=MO hc;have e:i=r.length:=by omega
 subst e;rw [MR];have θ:=hm7.ex (Ex.aQ ζ);rw [O9]at θ;refine⟨decide (5< a7 u),θ.c0,λW=>?_,λW=>?_⟩
 ·have W:=MO W;have η:=hr.cnt (by omega);rw [η];refine⟨λβ=>?_,λβ=>?_⟩
  ·have β:=MN β;exact(h γ V).1 (by omega)
  ·have β:=MO β;intro b25 w26 ψ ι;have ω:Ex γ w26:=ι▸Ex.alloc γ _;have hm26:=mk false ψ ι;refine oB _ (Mu _) d.den.ok λs' w28 κ hss' μ=>?_
   refine Ca _ (Mu _) d.den d.gf (d.KP hss' μ) (hm26.ex κ) λr' δ J ν hr'=>?_
   have G:Ex w w28:=(V.trans ω).trans κ;have hsz:=V.size;have hx30:Ex w δ:=⟨J.os.trans G.os,J.tape.trans G.tape,J.output.trans G.output,Nv G.size J.size,λg hg=>by
    rw [J.block g (MP hg G.size) (by omega)];exact G.block g hg⟩
   have hb:decide (5< a7 u)=false:=N9 (by omega);rw [hb,Bool.or_self]at ν;refine⟨λw'=>Ex δ w',λA9 ξ=>⟨ξ▸Ex.drew δ,false,λw' hw'=>(ν.ex hw').c0,?_⟩⟩;exact(h A9 (hx30.trans (ξ▸Ex.drew δ))).2 s' r' ⟨by omega,by omega⟩ (d.tk μ) hr'
 ·have W:=MN W;exact(h γ V).1 (by omega)
theorem A8 {k:Nat}{p:P}{σ:Nat->Nat}{u:U}(d:nW k p σ u){w:World}{R:aF->Bool->PV}
  (h:∀w',Ex w w'->(∀s,jP u=some s->R s true w')/\(jP u=none->R [] false w')):
  PW 150 #[.string (ax p.text)] w (aw [.s,.b] R):=by
 refine xZ _ w R ?_;dsimp only [go_sem];dsimp only [go_sem,UInt8.reduceOfNat,UInt32.reduceOfNat,Nat.reduceAdd];refine Ju d λw' hx=>⟨λhn=>⟨λ _=>(h w' hx).2 ?_,λZ=>by cases Z⟩,λs out hb H hr=>⟨λZ=>(by cases Z),λ _=>?_⟩⟩
 ·rw [gO,MJ λW=>hn W.1]
 ·have hlen:=d.den.len;have δ:=hr.le d.den;refine Js (by omega) λw2 α=>?_
  have β:Compat ρ0 σ u:=λy hy=>by rw [eG (d.nu.fr y hy),d.σ y hy]
  have J:=h w2 (hx.trans α);cases G:de u (kX (td u).2)with
  | true=>
   obtain⟨c,h1,h2⟩:=hr.bad hb.1 rfl (by rw [H];exact G);have γ:¬di out:=λV=>AP V c h1 h2
   refine⟨λV=>absurd V γ,λ _=>J.2 ?_⟩;rw [gO,MJ λW=>by rw [G]at W;cases W.2.1]
  | false=>
   have e:=hr.eq hb.1 rfl (by rw [H];exact G) ρ0 β;rw [H]at e;subst e;refine⟨λV=>J.1 _ ?_,λV=>J.2 ?_⟩
   ·rw [gO,MZ ⟨hb,G,V⟩]
   ·rw [gO,MJ λW=>V W.2.2]
end Go.Proofs.YtdecokaadekjnaaGreat
namespace Go.Proofs.YtdecokaadekjnaaGreat
open T
structure LK (O:List Nat)(F:List UInt8)(p:P)(q:U):Prop where
 ae:AE UInt8.toNat p (λz=>(asg O F ρ0 z).toNat) q
 wf:p.wf=true
 eb:Eb 0 p
 fr:∀z,q.Fr z->z∈O\/(z< 26/\ρ0 z∉F)
theorem B5 {z:Nat}(h:z< 26):lt (ρ0 z)=true:=nK (by rw [eG h];unfold σ0;omega)
theorem AE.K7 {ρ:UInt8->Nat}{σ:Nat->Nat}:∀{ps:List P} {us:List U},j0 (λp q=>AE ρ p σ q) ps us->AE ρ (T.parL ps) σ (T.parL us)
 | [],[],_=>trivial
 | [p],[q],.cons h _=>h
 | p::G::ps,q::H::us,.cons h k=>⟨h,AE.K7 k⟩
theorem j0.mono {X Y:Type}{R S:X->Y->Prop}(G:∀x y,R x y->S x y){l:List X}{m:List Y}(h:j0 R l m):j0 S l m:=by
 induction h with
 | nil=>exact .nil
 | cons h _ H=>exact .cons (G _ _ h) H
theorem j0.Jp {X Y:Type}{R:X->Y->Prop}{l:List X}{m:List Y}(h:j0 R l m){x:X}(G:x∈l):∃y∈m,R x y:=by
 induction h with
 | nil=>cases G
 | cons h _ H=>
  rcases MH.1 G with rfl | G
  ·exact⟨_,Nc ..,h⟩
  ·obtain⟨y,J,V⟩:=H G;exact⟨y,MD _ J,V⟩
theorem j0.Ec {X Y:Type}{R:X->Y->Prop}{l:List X}{m:List Y}(h:j0 R l m){y:Y}(G:y∈m):∃x∈l,R x y:=by
 induction h with
 | nil=>cases G
 | cons h _ H=>
  rcases MH.1 G with rfl | G
  ·exact⟨_,Nc ..,h⟩
  ·obtain⟨y,J,V⟩:=H G;exact⟨y,MD _ J,V⟩
theorem C6:∀{l:List P},(∀p∈l,p.wf=true)->(parL l).wf=true
 | [],_=>rfl
 | [p],h=>h p (by simp)
 | p::q::l,h=>by
  have G:=C6 (l:=q::l) λx H=>h x (MD _ H)
  simp only [parL,wf,Mp];exact⟨h p (by simp),G⟩
theorem CB {p:P}(G:p.wf=true):∀{l:List UInt8},(∀c∈l,lt c=true)->(resL l p).wf=true
 | [],_=>G
 | c::l,h=>by
  simp only [resL,wf,Mp];exact⟨iu (h c (by simp)),CB G λx H=>h x (MD _ H)⟩
theorem CZ {k:Nat}:∀{l:List P},(∀p∈l,Eb k p)->Eb k (parL l)
 | [],_=>trivial
 | [p],h=>h p (by simp)
 | p::q::l,h=>⟨h p (by simp),CZ (l:=q::l) λx G=>h x (MD _ G)⟩
theorem Bn {c:UInt8}(h:lt c=true)(k:Nat):okn k c:=by have :=bg h;unfold okn;omega
theorem CC {p:P}(H:∀z,p.Fr z->lt z=true):∀{l:List UInt8} {k:Nat},Eb k p->(∀c∈l,lt c=true)->Eb k (resL l p)
 | [],_,G,_=>G
 | c::l,k,G,h=>by
  refine⟨⟨r6 (h c (by simp)),λz J _=>Bn (H z (eW.1 J).2) k⟩,CC H (G.mono (by omega)) λx V=>h x (MD _ V)⟩
theorem xf {A:Type}(p:T A):∀l:List A,(resL l p).rd=p.rd/\(resL l p).ow=l.length+p.ow/\(resL l p).size=l.length+p.size/\(resL l p).aJ=3* l.length+p.aJ
 | []=>by simp [resL]
 | c::l=>by
  obtain⟨G,H,J,h4⟩:=xf p l;simp only [resL,rd,ow,size,aJ,Mm];refine⟨G,?_,?_,?_⟩<;>omega
theorem zY {O:List Nat}{F:List UInt8}(hl:O.length=F.length)(hF:F.Nodup)(V:∀c∈F,lt c=true)(ho:∀x∈O,26<=x){ps:List P}{us:List U}(h:j0 (LK O F) ps us)(nd:(O++us.flatMap BV).Nodup)(bv:∀x∈us.flatMap BV,26<=x)
  (hb:(parL ps).rd+F.length+(parL ps).ow<=64) (θ:(parL ps).aJ<=1000000000) (ι:F.length<=300):nW 0 (resL F (parL ps)) σ0 (resL O (parL us)):=by
 have H:∀z,(resL O (parL us)).Fr z->z< 26/\ρ0 z∉F:=λz J=>by
  obtain⟨h1,h2⟩:=eW.1 J;obtain⟨q,hq,W⟩:=lT.1 h2;obtain⟨p,hp,Z⟩:=h.Ec hq;exact(Z.fr z W).resolve_left h1
 have α:AE UInt8.toNat (parL ps) (λz=>(asg O F ρ0 z).toNat) (parL us):=AE.K7 (h.mono λp q k=>k.ae);have ζ:AE UInt8.toNat (resL F (parL ps)) (λz=>(ρ0 z).toNat) (resL O (parL us)):=AE.Ey O F ρ0 hl hF (λz J G=>(H z (eW.2 ⟨G,J⟩)).2) α;have ae:AE UInt8.toNat (resL F (parL ps)) σ0 (resL O (parL us)):=ζ.congr (λ _ _=>rfl) λz J=>eG (H z J).1
 have β:∀c,(parL ps).Fr c->lt c=true:=λc hc=>by
  obtain⟨z,J,e⟩:=α.free c hc;have e:=MQ.1 e;obtain⟨q,hq,W⟩:=lT.1 J;obtain⟨p,hp,Z⟩:=h.Ec hq;by_cases G:z∈O
  ·rw [<-e];exact V _ (eR O F ρ0 z G hl)
  ·rw [<-e,bI _ _ _ _ G];exact B5 ((Z.fr z W).resolve_left G).1
 have γ:BV (resL O (parL us))=O++us.flatMap BV:=by rw [fR,fN]
 have δ:∀x∈BV (resL O (parL us)),26<=x:=λx hx=>by
  rw [γ]at hx;exact(My.1 hx).elim (ho x) (bv x)
 have ε:Uq (resL O (parL us)):=⟨by rw [γ];exact nd,λx hx hf=>by have :=δ x hx;have :=(H x hf).1;omega⟩
 obtain⟨k1,k2,k3,k4⟩:=xf (parL ps) F;have η:(resL F (parL ps)).wf=true:=CB (C6 λp hp=>by obtain⟨q,_,k⟩:=h.Jp hp;exact k.wf) V;refine⟨⟨η,by rw [aV,k4];omega,⟨CC β (CZ λp hp=>by obtain⟨q,_,k⟩:=h.Jp hp;exact k.eb) V,by rw [k1,k2];omega⟩,ae,λy z _ _ e=>by unfold σ0 at e;omega,ε⟩,λz J hG=>?_,⟨ε,λy hy=>(H y (bs hy)).1,δ⟩,λ _ _=>rfl⟩;have :=β z (eW.1 J).2;exact absurd hG (dZ (r6 this))
theorem KW:∀{u:U},Uq u->u.Nr->cB u=u.ow/\(u.dead=false->thAll (tp u.lD)=u.ow):=by
 intro u;have one:∀{u:U},u.isS=false->cB u=u.ow->cB u=u.ow/\(u.dead=false->thAll (tp u.lD)=u.ow):=λ{u} hs h=>⟨h,λ _=>by rw [fS hs];simp only [tp,thAll,OQ];exact h⟩
 have all:∀{u:U},Uq u->u.Nr->cB u=u.frL.length+thAll (tl u.ths):=λ{u} G n=>by unfold cB;rw [iT G n]
 induction u with
 | nil=>intro G n;exact one rfl (by rw [all G n];rfl)
 | snd a b p H=>intro G n;exact one rfl (by rw [all G n];have :=(H G.snd n).1;unfold cB at this;simp only [frL,T.ths,tl,thAll,MB,ow];omega)
 | rcv a b p H=>intro G n;exact one rfl (by rw [all G n];have :=(H G.rcv n).1;unfold cB at this;simp only [frL,T.ths,tl,thAll,MB,ow];omega)
 | tau p H=>intro G n;exact one rfl (by rw [all G n];have :=(H G.tau n).1;unfold cB at this;simp only [frL,T.ths,tl,thAll,MB,ow];omega)
 | mat a b p H=>intro G n;exact one rfl (by rw [all G n];have :=(H G.mat n.2).1;unfold cB at this;simp only [frL,T.ths,tl,thAll,MB,ow];omega)
 | rep p H=>intro G n;exact one rfl (by rw [all G n];have :=(H G.rep n.2).1;unfold cB at this;simp only [frL,T.ths,tl,thAll,MB,ow];omega)
 | res x p H=>intro G n;exact one rfl (by rw [all G n];have :=(H G.res n.2).1;rw [all G.res n.2]at this;simp only [frL,T.ths,Mm,ow];omega)
 | par p q H J=>
  intro G n;refine one rfl ?_;have V:=(H G.fG n.2.1).1;have W:=(J G.fv n.2.2).1;have h0:q.frL=[]:=by
   rcases n.1.2 with h | h
   ·exact ie h
   ·cases q<;>first | rfl | (cases h;done)
  rw [all G.fv n.2.2,h0]at W;rw [all G.fG n.2.1,ie n.1.1,nc n.1.1]at V;rw [all G n];simp only [frL,T.ths,ow,MB]at*;rw [show p::q.ths=[p]++q.ths from rfl,gA,bT];omega
 | sum p q H J=>
  intro G n;have V:=(H G.dP n.2.1).2 n.1.1;have W:=(J G.dz n.2.2).2 n.1.2.1;have Z:thAll (tp (T.sum p q).lD)=(T.sum p q).ow:=by
   rw [fS n.1.2.2]at V;simp only [T.lD,ow];rw [show p::q.lD=[p]++q.lD from rfl,tA,bT,V,W]
  refine⟨?_,λ _=>Z⟩;rw [all G n,<-Z];simp only [frL,T.ths,tl,thAll,MB,T.lD];rw [ee G.dP n.2.1 n.1.1,ee G.dz n.2.2 n.1.2.1,fS n.1.2.2];simp
theorem kL {A B:Type}[DecidableEq A][DecidableEq B]:∀{p:T A} {q:T B} {ρ:A->Nat} {σ:B->Nat},AE ρ p σ q->p.ow=q.ow/\p.rd=q.rd/\p.size=q.size:=by
 intro p
 induction p with
 | nil=>intro q ρ σ h;cases q<;>first | exact⟨rfl,rfl,rfl⟩ | cases h
 | snd a b p G=>intro q ρ σ h;cases q<;>first | (have :=G h.2.2;simp only [ow,rd,size];omega) | cases h
 | mat a b p G=>intro q ρ σ h;cases q<;>first | (have :=G h.2.2;simp only [ow,rd,size];omega) | cases h
 | rcv a b p G=>intro q ρ σ h;cases q<;>first | (have :=G (h.2 0);simp only [ow,rd,size];omega) | cases h
 | res b p G=>intro q ρ σ h;cases q<;>first | (have :=G (h 0);simp only [ow,rd,size];omega) | cases h
 | tau p G=>intro q ρ σ h;cases q<;>first | (have :=G h;simp only [ow,rd,size];omega) | cases h
 | rep p G=>intro q ρ σ h;cases q<;>first | (have :=G h;simp only [ow,rd,size];omega) | cases h
 | sum p J G H=>intro q ρ σ h;cases q<;>first | (have :=G h.1;have :=H h.2;simp only [ow,rd,size];omega) | cases h
 | par p J G H=>intro q ρ σ h;cases q<;>first | (have :=G h.1;have :=H h.2;simp only [ow,rd,size];omega) | cases h
theorem bP {A:Type}:∀p:T A,p.rd+p.ow+1<=p.size:=by
 intro p
 induction p<;>simp only [rd,ow,size]<;>omega
theorem Ez {A:Type}:∀{p:T A},(∃a b r,Off.snd a b r∈offs p)->p.rd+p.ow+2<=p.size:=by
 intro p
 induction p with
 | snd a b p=>intro _;have :=bP p;simp only [rd,ow,size];omega
 | sum p q G H=>
  rintro⟨a,b,r,h⟩
  rw [offs,My]at h;have V:=bP p;have J:=bP q;simp only [rd,ow,size];rcases h with h | h
  ·have :=G ⟨a,b,r,h⟩;omega
  ·have :=H ⟨a,b,r,h⟩;omega
 | rep p G=>
  rintro⟨a,b,r,h⟩
  obtain⟨o,V,J⟩:=Nb.1 h;have:o= .snd a b r:=by cases o<;>simp [Off.stay]at J;simp [J]
  have :=G ⟨a,b,r,this▸V⟩;simp only [rd,ow,size];omega
 | _=>rintro⟨a,b,r,h⟩;simp [offs]at h
def gj {A:Type}(l:List (T A)):Nat:=(l.map T.ow).sum
def iZ {A:Type}(l:List (T A)):Nat:=(l.map T.size).sum
def mJ {A:Type}(l:List (T A)):Nat:=(l.map T.rd).sum
def en {A:Type}(l:List (T A)):Nat:=(l.map T.aJ).sum
theorem gb {A:Type}:∀(l:List (T A)),(parL l).ow=gj l/\(l≠[]->iZ l+l.length<=(parL l).size+1)/\(parL l).rd<=mJ l/\(parL l).aJ<=en l+3* l.length+1/\∀R,(∀p∈l,p.rd<=R)->(parL l).rd<=R
 | []=>by simp [parL,gj,iZ,mJ,en,ow,rd,aJ]
 | [p]=>by simp [parL,gj,iZ,mJ,en];omega
 | p::q::l=>by
  obtain⟨J,G,V,h4,h5⟩:=gb (q::l);have G:=G (by simp);simp only [parL,ow,size,rd,aJ,gj,iZ,mJ,en,MV,NF,Mm]at*;refine⟨by omega,λ _=>by omega,by omega,by omega,λR hR=>?_⟩;have :=h5 R λx H=>hR x (MD _ H)
  have :=hR p (by simp);omega
structure SU (t:P)(u:U):Prop where
 nr:u.Nr
 nu:Nu u
 fr:∀z,u.Fr z->z< 26
 ae:AE UInt8.toNat t (λy=>(ρ0 y).toNat) u
 len:u.frL.length=t.frL.length
 two:j0 (λp q=>AE UInt8.toNat p (λz=>(asg u.frL t.frL ρ0 z).toNat) q) t.ths u.ths
 fn:t.frL.Nodup
 fl:∀c∈t.frL,lt c=true
 free:∀z,(∃q∈u.ths,q.Fr z)->z∈u.frL\/(z< 26/\ρ0 z∉t.frL)
 nd:(u.frL++u.ths.flatMap BV).Nodup
 ge:∀x∈u.frL++u.ths.flatMap BV,26<=x
 smp:∀q∈u.ths,q.smp=true
 smpP:∀q∈t.ths,q.smp=true
 nrs:∀q∈u.ths,q.Nr
 al:∀p∈t.ths,p.Al λc=>lt c=true
theorem Cb {A:Type}:∀{t:T A},t.smp=true->∀q∈t.ths,q.smp=true:=by
 intro t
 induction t with
 | nil=>intro _ q h;cases h
 | res x p H=>intro h;exact H h
 | par p q H G=>
  intro h r hr;simp only [smp,Mp]at h;rcases MH.1 hr with rfl | hr
  ·exact h.1
  ·exact G h.2 r hr
 | _=>intro h q J;cases MA.1 J;exact h
theorem J4 {A:Type}{D:A->Prop}:∀{t:T A},t.Al D->(∀q∈t.ths,q.Al D)/\∀c∈t.frL,D c:=by
 intro t
 induction t with
 | nil=>intro _;exact⟨λq h=>(by cases h),λc h=>(by cases h)⟩
 | res x p J=>
  intro h;obtain⟨V,W⟩:=J h.2;exact⟨V,λc G=>(MH.1 G).elim (λe=>e▸h.1) (W c)⟩
 | par p q J H=>
  intro h;refine⟨λr hr=>?_,λc G=>(by cases G)⟩;rcases MH.1 hr with rfl | hr
  ·exact h.1
  ·exact(H h.2).1 r hr
 | _=>intro h;exact⟨λq Z=>(by cases MA.1 Z;exact h),λc G=>(by cases G)⟩
theorem lP.su {t:P}(ok:lP t):SU t (num t e0 0).1:=by
 have nu:=kI ok.al;have H:=j5 ok.al;have G:=Hm ok.al;have ae:AE UInt8.toNat t (λy=>(ρ0 y).toNat) (num t e0 0).1:=H.congr (λ _ _=>rfl) λy hy=>(eG (G y hy)).symm
 have nr:(num t e0 0).1.Nr:=AE.nr H (eO t) (λy z _ _ e=>by unfold σ0 at e;omega) ok.nr;obtain⟨hl,J⟩:=ae.open ok.nr;have V:=nr.shape;have W:=ok.nr.shape;have Z:BV (num t e0 0).1=(num t e0 0).1.frL++(num t e0 0).1.ths.flatMap BV:=by
  have:BV (num t e0 0).1=BV (resL (num t e0 0).1.frL (parL (num t e0 0).1.ths)):=by rw [<-V]
  rw [this,fR,fN]
 obtain⟨γ,δ⟩:=J4 ok.al;refine⟨nr,nu,G,ae,hl.symm,J,(ok.nr.GY).1,δ,λz ⟨q,hq,hz⟩=>?_,by rw [<-Z];exact nu.uq.nd,λx hx=>nu.bv x (by rw [Z];exact hx),Cb (by rw [<-tq ae];exact ok.smp),Cb ok.smp,λq hq=>(nr.ths q hq).2,γ⟩;by_cases α:z∈(num t e0 0).1.frL
 ·exact .inl α
 ·right;have β:(num t e0 0).1.Fr z:=by rw [V];exact eW.2 ⟨α,lT.2 ⟨q,hq,hz⟩⟩
  refine⟨G z β,λhF=>?_⟩;obtain⟨c,hc,e⟩:=ae.symm.free z β;have e:=MQ.1 e;rw [W]at hc;have :=(eW.1 hc).1;rw [e]at this;exact this hF
section
variable {t:P} {u:U}
theorem SU.inj (su:SU t u){z y:Nat}(V:∃q∈u.ths,q.Fr z)(W:∃q∈u.ths,q.Fr y)(e:asg u.frL t.frL ρ0 z=asg u.frL t.frL ρ0 y):z=y:=by
 by_cases G:z∈u.frL<;>by_cases H:y∈u.frL
 ·exact yw u.frL t.frL ρ0 z y G H su.len su.fn e
 ·have J:=eR u.frL t.frL ρ0 z G su.len;rw [e,bI _ _ _ _ H]at J;exact absurd J ((su.free y W).resolve_left H).2
 ·have J:=eR u.frL t.frL ρ0 y H su.len;rw [<-e,bI _ _ _ _ G]at J;exact absurd J ((su.free z V).resolve_left G).2
 ·rw [bI _ _ _ _ G,bI _ _ _ _ H]at e;have Z:=((su.free z V).resolve_left G).1;have k2:=((su.free y W).resolve_left H).1;have :=Nz UInt8.toNat e;rw [eG Z,eG k2]at this;unfold σ0 at this;omega
theorem SU.LQ (su:SU t u):j0 (LK u.frL t.frL) t.ths u.ths:=by
 have key:∀{ps:List P} {us:List U},j0 (λp q=>AE UInt8.toNat p (λz=>(asg u.frL t.frL ρ0 z).toNat) q) ps us->(∀p∈ps,p∈t.ths)->(∀q∈us,q∈u.ths)->j0 (LK u.frL t.frL) ps us:=by
  intro ps us h
  induction h with
  | nil=>intro _ _;exact .nil
  | cons h _ J=>
   intro G H;have ha:=su.al _ (G _ (Nc ..));refine .cons ⟨h,T.Al.wf ha,T.Al.eb 0 ha,λz V=>su.free z ⟨_,H _ (Nc ..),V⟩⟩ (J (λp W=>G p (MD _ W)) λq Z=>H q (MD _ Z))
 exact key su.two (λ _ h=>h) λ _ h=>h
theorem bL {X:Type}{l m:List X}(h:l.Perm m)(g:X->Nat):(l.map g).sum=(m.map g).sum:=iL (h.map g)
theorem count_flatMap {X:Type}(g:X->List Nat)(x:Nat):∀l:List X,(l.flatMap g).count x=(l.map λy=>(g y).count x).sum
 | []=>rfl
 | y::l=>by simp only [N6,Nh,MV,NF,count_flatMap g x l]
theorem lP.Kv (ok:lP t):t.frL.length+gj t.ths=t.ow/\t.rd=(parL t.ths).rd/\(t.ths≠[]->t.frL.length+iZ t.ths+t.ths.length<=t.size+1)/\t.frL.length+3* t.frL.length+t.ths.length<=400/\en t.ths<=400/\t.ow<=8:=by
 have hs:=ok.nr.shape;obtain⟨H,W,h3,h4⟩:=xf (parL t.ths) t.frL;obtain⟨Z,k2,k3,k4,_⟩:=gb t.ths;rw [<-hs]at H W h3 h4;have hlen:=ok.len;rw [aV,h4]at hlen;have α:=ok.size;have G:∀l:List P,en l<=(parL l).aJ/\l.length<=(parL l).aJ:=λl=>by
  have:∀l:List P,en l+3* l.length<=(parL l).aJ+3:=by
   intro l
   induction l with
   | nil=>simp [en,parL,T.aJ]
   | cons p l ih=>
    cases l with
    | nil=>simp [en,parL]
    | cons q l=>
     simp only [parL,T.aJ,en,MV,NF,Mm]at ih|-;omega
  have H:∀p:P,1<=p.aJ:=λp=>by cases p<;>simp only [T.aJ]<;>omega
  cases l with
  | nil=>simp [en]
  | cons p l=>
   have Z:=this (p::l);have k2:=H p;have k3:1<=en (p::l):=by simp only [en,MV,NF];omega
   have k4:1<=(p::l).length:=by simp
   omega
 have J:t.ow<=8:=by
  have su:=ok.su;have :=(KW su.nu.uq su.nr).1;have h8:=ok.all;have h9:=(kL su.ae).1;omega
 refine⟨by rw [W,Z],H,λV=>by have :=k2 V;omega,?_,?_,J⟩
 ·have :=(G t.ths).2;omega
 ·have :=(G t.ths).1;omega
theorem SU.cnt (su:SU t u)(x:Nat):u.frL.count x+(u.ths.map λy=>(BV y).count x).sum<=1:=by
 have G:=OH.1 su.nd x;rw [Nh,count_flatMap]at G;exact G
theorem dL {A:Type}:∀p:T A,p.aJ<=5* p.size:=by intro p;induction p<;>simp only [aJ,size]<;>omega
theorem Cy (ok:lP t)(su:SU t u){i:Nat}(hi:i< t.ths.length)(α:i< u.ths.length){p:P}{J:U}(ho:Off.tau p∈offs t.ths[i])(β:Off.tau J∈offs u.ths[i])(ε:qn UInt8.toNat (λz=>(asg u.frL t.frL ρ0 z).toNat) (.tau p) (.tau J)):
  nW 0 (resL t.frL (parL (wo t.ths i i++[p]))) σ0 (resL u.frL (parL (wo u.ths i i++[J])))/\(resL u.frL (parL (wo u.ths i i++[J]))).smp=true:=by
 have W:=Mx hi;have V:=Mx α;obtain⟨sP,_⟩:=aW (su.smpP _ W) _ ho;obtain⟨sU,_⟩:=aW (su.smp _ V) _ β;have bU:=fM _ β;have al:=sP.al _ (su.al _ W);have H:=BL t.ths i hi;have Z:=BL u.ths i α;obtain⟨n1,n2,n3,n4,n5,n6⟩:=ok.Kv;have η:=ok.size;obtain⟨k1,k2,k3,k4,k5⟩:=gb (wo t.ths i i++[p]);have γ:=H.length_eq;have so:=bL H T.ow;have ss:=bL H T.size;have st:=bL H T.aJ;simp only [MV,NF,Mm]at so ss st γ;have s1:=sP.ow;have s2:=sP.size;have s3:=sP.rd;simp only [Off.tm,ow,size,rd]at s1 s2 s3;have θ:=dL p;have ι:=bP t;have ζ:t.ths≠[]:=λe=>by rw [e]at hi;cases hi
 have n3:=n3 ζ;simp only [gj,iZ,en,mJ,Nq,PH,MV,Oq,NF,List.sum_nil,Mt,Mm,MB]at*;have κ:(parL (wo t.ths i i++[p])).rd<=t.rd:=by
  refine k5 t.rd λx G=>?_
  rw [n2];have h6:∀x∈t.ths,x.rd<=(parL t.ths).rd:=by
   have:∀l:List P,∀x∈l,x.rd<=(parL l).rd:=by
    intro l
    induction l with
    | nil=>intro x h;cases h
    | cons p l ih=>
     intro x G;cases l with
     | nil=>rw [MA]at G;subst G;exact Mu _
     | cons q l=>
      simp only [parL,T.rd];rcases MH.1 G with rfl | G
      ·exact Nat.le_max_left _ _
      ·exact Nv (ih x G) (Nat.le_max_right _ _)
   exact this t.ths
  rcases My.1 G with G | G
  ·exact h6 x (lg G)
  ·rw [MA]at G;subst G;exact Nv s3 (h6 _ W)
 refine⟨zY su.len su.fn su.fl (λx G=>su.ge x (M0 _ G)) (us:=wo u.ths i i++[J]) ?_ ?_ ?_ ?_ ?_ ?_,?_⟩
 ·refine(su.LQ.wo i i).app (.cons ⟨ε,T.Al.wf al,T.Al.eb 0 al,λz hz=>su.free z ⟨_,V,sU.fr z hz⟩⟩ .nil)
 ·rw [OH];intro x;have h1:u.frL.count x+(u.ths.map λy=>(BV y).count x).sum<=1:=su.cnt x;have h2:(BV J).count x<=(BV u.ths[i]).count x:=bU.count_le x;have h3:(u.ths.map λy=>(BV y).count x).sum=(BV u.ths[i]).count x+((wo u.ths i i).map λy=>(BV y).count x).sum:=by
   have :=bL Z λy=>(BV y).count x
   simpa only [MV,NF]using this
  have h4:(u.frL++(wo u.ths i i++[J]).flatMap BV).count x=u.frL.count x+(((wo u.ths i i).map λy=>(BV y).count x).sum+(BV J).count x):=by
   rw [Nh,count_flatMap];simp
  have:u.frL.count x+(((wo u.ths i i).map λy=>(BV y).count x).sum+(BV J).count x)<=1:=by omega
  exact Nv (Nat.le_of_eq h4) this
 ·intro x G;refine su.ge x (MT _ ?_);obtain⟨q,hq,δ⟩:=Ni.1 G;rcases My.1 hq with hq | hq
  ·exact Ni.2 ⟨q,lg hq,δ⟩
  ·rw [MA]at hq;subst hq;exact Ni.2 ⟨_,V,bU.subset δ⟩
 ·omega
 ·omega
 ·omega
 ·rw [tU];refine sL λx G=>?_
  rcases My.1 G with G | G
  ·exact su.smp x (lg G)
  ·rw [MA]at G;subst G;exact sU.smp (su.smp _ V)
end
section
variable {t:P} {u:U}
theorem SU.kU (su:SU t u){k:Nat}(V:k< u.ths.length){r:U}(W:Sub r u.ths[k])(hb:(BV r).Sublist (BV u.ths[k])):Uq r:=by
 have hm:=Mx V;have G:(BV u.ths[k]).Sublist (u.ths.flatMap BV):=by
  rw [List.flatMap_def];exact List.sublist_flatten_of_mem (N3 hm)
 have H:=(M6.1 su.nd)
 refine⟨H.2.1.sublist (hb.trans G),λx Z hf=>?_⟩;have J:=G.subset (hb.subset Z);have α:=su.ge x (MT _ J);rcases su.free x ⟨_,hm,W.fr x hf⟩with h | h
 ·exact H.2.2 x h x J rfl
 ·omega
theorem K8 {A:Type}:∀l:List (T A),mJ l+gj l+l.length<=iZ l
 | []=>by simp [mJ,gj,iZ]
 | p::l=>by
  have G:=K8 l;have H:=bP p;simp only [mJ,gj,iZ,MV,NF,Mm]at*;omega
theorem IQ {A:Type}:∀l:List (T A),∀x∈l,x.rd<=(parL l).rd:=by
 intro l
 induction l with
 | nil=>intro x h;cases h
 | cons p l H=>
  intro x G;cases l with
  | nil=>cases MA.1 G;exact Mu _
  | cons q l=>
   simp only [parL,T.rd];rcases MH.1 G with rfl | G
   ·exact Nat.le_max_left _ _
   ·exact Nv (H x G) (Nat.le_max_right _ _)
theorem Aa {p q:P}(h:p.shp=q.shp):p.rd=q.rd/\p.ow=q.ow/\p.aJ=q.aJ:=by
 have key:∀p:P,p.shp.rd=p.rd/\p.shp.ow=p.ow:=λp=>by
  unfold T.shp
  induction p<;>simp_all [T.map,T.rd,T.ow]
 refine⟨by rw [<-(key p).1,<-(key q).1,h],by rw [<-(key p).2,<-(key q).2,h],iJ h⟩
def bC {A:Type}(l:List (T A))(i k:Nat)(p q:T A)(s:Bool)(x:T A):List (T A):=wo l i k++[p,q]++if s then [x]else []
theorem Ac (ok:lP t)(su:SU t u){i k:Nat}(hi:i< t.ths.length)(θ:i< u.ths.length)(hk:k< t.ths.length)(β:k< u.ths.length)(ι:i≠k){a b:UInt8}{p:P}{c d:Nat}{p':U}(ho:Off.snd a b p∈offs t.ths[i])(κ:Off.snd c d p'∈offs u.ths[i])
  (hae:qn UInt8.toNat (λz=>(asg u.frL t.frL ρ0 z).toNat) (.snd a b p) (.snd c d p')) {e x:UInt8} {q:P} {s:Bool} {e' x':Nat} {H:U} {s':Bool} (hr:Off.rcv e x q s∈offs t.ths[k]) (μ:Off.rcv e' x' H s'∈offs u.ths[k])
  (har:qn UInt8.toNat (λz=>(asg u.frL t.frL ρ0 z).toNat) (.rcv e x q s) (.rcv e' x' H s')) {f:Nat->Nat} {N:Nat} (hf:G' N H x' d f) (hN:∀z,(z∈u.frL\/z∈u.ths.flatMap BV\/∃q∈u.ths,q.Fr z)->z<=N) (h25:25<=N) {q2:P} (γ:gY 0 q x b q2):
  nW 0 (resL t.frL (parL (bC t.ths i k p q2 s t.ths[k]))) σ0 (resL u.frL (parL (bC u.ths i k p' (H.map f) s' u.ths[k])))/\(resL u.frL (parL (bC u.ths i k p' (H.map f) s' u.ths[k]))).smp=true:=by
 obtain⟨_,hbd,ν⟩:=hae;obtain⟨_,ξ,rfl⟩:=har;have ε:=Mx hi;have Z:=Mx θ;have ζ:=Mx hk;have V:=Mx β;obtain⟨sP,_⟩:=aW (su.smpP _ ε) _ ho;obtain⟨sU,_⟩:=aW (su.smp _ Z) _ κ;obtain⟨rP,rR⟩:=aW (su.smpP _ ζ) _ hr;obtain⟨rU,_⟩:=aW (su.smp _ V) _ μ;have bU:=fM _ κ;have cU:=fM _ μ;have al:=(sP.al _ (su.al _ ε)).2.2;have G:=Bo t.ths i k hi hk ι;have η:=Bo u.ths i k θ β ι;have ο:=su.kU β rU cU;have δ:Uq H:=ο.rcv;have ς:x'∉BV H:=ο.lk;have hd:d<=N:=hN d (.inr (.inr ⟨_,Z,sU.fr d (.inr (.inl rfl))⟩));have υ:∀z,H.Fr z->z<=N:=λz J=>by
  by_cases h:z=x'
  ·subst h;exact hN z (.inr (.inl (Ni.2 ⟨_,V,cU.subset (Nc ..)⟩)))
  ·exact hN z (.inr (.inr ⟨_,V,rU.fr z (.inr ⟨h,J⟩)⟩))
 have φ:∀z∈BV H,z<=N:=λz J=>hN z (.inr (.inl (Ni.2 ⟨_,V,cU.subset (MD _ J)⟩)))
 have ae2:AE UInt8.toNat q2 (λz=>(asg u.frL t.frL ρ0 z).toNat) (H.map f):=by
  have k1:=(γ.ok UInt8.toNat).symm;have k2:=ξ b.toNat;have k3:=hf.ae δ ς υ hd φ (λz=>(asg u.frL t.frL ρ0 z).toNat);rw [show b.toNat=(asg u.frL t.frL ρ0 d).toNat from hbd]at k1 k2;exact(k1.trans k2).trans k3
 have χ:∀z,(H.map f).Fr z->∃q∈u.ths,q.Fr z:=λz J=>by
  rcases hf.fr δ z J with h | ⟨h,h'⟩
  ·subst h;exact⟨_,Z,sU.fr z (.inr (.inl rfl))⟩
  ·exact⟨_,V,rU.fr z (.inr ⟨h,h'⟩)⟩
 obtain⟨n1,n2,n3,n4,n5,n6⟩:=ok.Kv;have hsz:=ok.size;obtain⟨g1,g2,g3⟩:=Aa γ.shp;have ψ:=G.length_eq;have so:=bL G T.ow;have ss:=bL G T.size;have st:=bL G T.aJ;have sr:=bL G T.rd;simp only [MV,NF,Mm]at so ss st sr ψ;have s1:=sP.ow;have s2:=sP.size;have s3:=sP.rd;have r1:=rP.ow;have r2:=rP.size;have r3:=rP.rd;simp only [Off.tm,ow,size,rd]at s1 s2 s3 r1 r2 r3;have tl1:=dL p;have tl2:=dL q;have hro:=bP t;have hne:t.ths≠[]:=λe=>by rw [e]at hi;cases hi
 have n3:=n3 hne;have sum:=K8 (wo t.ths i k);have snd2:=Ez ⟨a,b,p,ho⟩;have rk:=bP t.ths[k];have rdt:=(gb t.ths).2.2.1;have h6:=IQ t.ths;have hrd:(parL (bC t.ths i k p q2 s t.ths[k])).rd<=t.rd:=by
  refine(gb _).2.2.2.2 t.rd λx W=>?_
  rw [n2];unfold bC at W;rcases My.1 W with W | W
  ·rcases My.1 W with W | W
   ·exact h6 x (lg W)
   ·rcases MH.1 W with rfl | W
    ·exact Nv s3 (h6 _ ε)
    ·cases MA.1 W;have :=h6 _ ζ;omega
  ·cases s
   ·cases W
   ·cases MA.1 W;exact h6 _ ζ
 obtain⟨k1,_,_,k4,_⟩:=gb (bC t.ths i k p q2 s t.ths[k]);have kow:gj (bC t.ths i k p q2 s t.ths[k])=gj (wo t.ths i k)+p.ow+q2.ow+if s then t.ths[k].ow else 0:=by
  unfold bC gj;cases s<;>simp<;>omega
 have ktl:en (bC t.ths i k p q2 s t.ths[k])+3* (bC t.ths i k p q2 s t.ths[k]).length<=en (wo t.ths i k)+3* (wo t.ths i k).length+p.aJ+q2.aJ+t.ths[k].aJ+9:=by
  unfold bC en;cases s<;>simp<;>omega
 have hbound:(parL (bC t.ths i k p q2 s t.ths[k])).rd+t.frL.length+(parL (bC t.ths i k p q2 s t.ths[k])).ow<=64:=by
  rw [k1,kow];cases s
  ·simp only [Ot,Pk,gj,iZ,mJ]at*;omega
  ·have e2:=rR e x q rfl;have e3:t.ths[k].ow=q.ow/\t.ths[k].rd=q.rd+1/\t.ths[k].size=q.size+2:=by rw [e2];simp [T.ow,T.rd,T.size]
   have rq:=bP q;simp only [Ol,gj,iZ,mJ]at*;omega
 refine⟨zY su.len su.fn su.fl (λx W=>su.ge x (M0 _ W)) (us:=bC u.ths i k p' (H.map f) s u.ths[k]) ?_ ?_ ?_ hbound ?_ ?_,?_⟩
 ·unfold bC;refine((su.LQ.wo i k).app (.cons ⟨ν,T.Al.wf al,T.Al.eb 0 al,λz J=>su.free z ⟨_,Z,sU.fr z (.inr (.inr J))⟩⟩ (.cons ⟨ae2,γ.wf,γ.eb,λz J=>su.free z (χ z J)⟩ .nil))).app ?_;cases s
  ·exact .nil
  ·exact .cons (su.LQ.get hk β) .nil
 ·rw [OH];intro z;have h1:u.frL.count z+(u.ths.map λy=>(BV y).count z).sum<=1:=su.cnt z;have h2:(BV p').count z<=(BV u.ths[i]).count z:=bU.count_le z;have h3:(u.ths.map λy=>(BV y).count z).sum=(BV u.ths[i]).count z+((BV u.ths[k]).count z+((wo u.ths i k).map λy=>(BV y).count z).sum):=by
   have :=bL η λy=>(BV y).count z
   simpa only [MV,NF]using this
  have h4:(u.frL++(bC u.ths i k p' (H.map f) s u.ths[k]).flatMap BV).count z=u.frL.count z+(((wo u.ths i k).map λy=>(BV y).count z).sum+(BV p').count z+(BV (H.map f)).count z+if s then(BV u.ths[k]).count z else 0):=by
   unfold bC;rw [Nh,count_flatMap];cases s<;>simp<;>omega
  have ω:(BV (H.map f)).count z=0\/(N< z/\(BV (H.map f)).count z<=1):=by
   rw [fF];by_cases h:z∈(BV H).map f
   ·right;obtain⟨y,hy,e⟩:=Nb.1 h;refine⟨by rw [<-e];exact hf.fb y hy,?_⟩;have:((BV H).map f).Nodup:=by
     have:∀l:List Nat,l.Nodup->(∀z∈l,z∈BV H)->(l.map f).Nodup:=by
      intro l
      induction l with
      | nil=>intro _ _;exact NY
      | cons y l ih=>
       intro hn hm;have hn:=Nw.1 hn;refine Nw.2 ⟨λh=>?_,ih hn.2 λz J=>hm z (MD _ J)⟩;obtain⟨z,J,e⟩:=Nb.1 h;have :=hf.fi z (hm z (MD _ J)) y (hm y (Nc ..)) e;exact hn.1 (this▸J)
     exact this (BV H) δ.nd λ _ h=>h
    exact OH.1 this z
   ·exact .inl (List.count_eq_zero.2 h)
  have hbig:N< z->u.frL.count z+(u.ths.map λy=>(BV y).count z).sum=0:=λJ=>by
   rw [<-count_flatMap,<-Nh];refine List.count_eq_zero.2 λhm=>?_
   have :=hN z ((My.1 hm).imp id .inl);omega
  have:u.frL.count z+(((wo u.ths i k).map λy=>(BV y).count z).sum+(BV p').count z+(BV (H.map f)).count z+if s then(BV u.ths[k]).count z else 0)<=1:=by
   rcases ω with h | ⟨J,h⟩
   ·cases s<;>simp only [Ol,Ot,Pk]<;>omega
   ·have :=hbig J;cases s<;>simp only [Ol,Ot,Pk]<;>omega
  exact Nv (Nat.le_of_eq h4) this
 ·intro z J;obtain⟨r,hr2,α⟩:=Ni.1 J;have old:∀r∈u.ths,z∈BV r->26<=z:=λr h1 h2=>su.ge z (MT _ (Ni.2 ⟨r,h1,h2⟩))
  unfold bC at hr2;rcases My.1 hr2 with h | h
  ·rcases My.1 h with h | h
   ·exact old r (lg h) α
   ·rcases MH.1 h with rfl | h
    ·exact old _ Z (bU.subset α)
    ·cases MA.1 h;rw [fF]at α;obtain⟨y,hy,e⟩:=Nb.1 α;have :=hf.fb y hy;omega
  ·cases s
   ·cases h
   ·cases MA.1 h;exact old _ V α
 ·simp only [en,iZ,gj]at*;omega
 ·omega
 ·rw [tU];have hsm:(H.map f).smp=true:=by
   have h1:=hf.ae δ ς υ hd φ id;rw [<-tq h1];have :=rU.smp (su.smp _ V);exact this
  refine sL λy hy=>?_
  unfold bC at hy;rcases My.1 hy with h | h
  ·rcases My.1 h with h | h
   ·exact su.smp y (lg h)
   ·rcases MH.1 h with rfl | h
    ·exact sU.smp (su.smp _ Z)
    ·cases MA.1 h;exact hsm
  ·cases s
   ·cases h
   ·cases MA.1 h;exact su.smp _ V
end
end Go.Proofs.YtdecokaadekjnaaGreat
namespace Go.Proofs.YtdecokaadekjnaaGreat
open Go Go.RowKit T
theorem J0 (w:World){t:P}{k:Nat}{old nw:UInt8}(ok:Ok t)(eb:Eb k t)(hb:k+t.bd<=64)(G:nm nw=true)(H:okn k nw):∃q,gY k t old nw q:=by
 have h:=gC t.size (old:=old) (Mu _) ok eb hb G H (w:=w) (R:=λ _ _=>∃q,gY k t old nw q) λq w' _ J=>⟨q,J⟩
 obtain⟨e,w',fr,hr,_⟩:=h [];obtain⟨_,hr⟩:=hr;exact hr.2
def Ff (N:Nat)(q:U)(x b:Nat):Nat->Nat:=λz=>if z=x then b else if z∈BV q then z+N+1 else z
theorem AZ (N:Nat){q:U}{x:Nat}(b:Nat)(J:x∉BV q):G' N q x b (Ff N q x b):=by
 refine⟨MZ rfl,λz G V=>?_,λz H=>?_,λz H y W e=>?_⟩
 ·simp only [Ff,MJ G,MJ V]
 ·have G:z≠x:=λe=>J (e▸H)
  simp only [Ff,MJ G,MZ H];omega
 ·have G:z≠x:=λe=>J (e▸H)
  have V:y≠x:=λe=>J (e▸W)
  simp only [Ff,MJ G,MZ H,MJ V,MZ W]at e;omega
def NN (u:U):Nat:=(BV u).sum+26
def KL (u:U)(i:Nat)(p:U):U:=resL u.frL (parL (wo u.ths i i++[p]))
def Er (u:U)(i k:Nat)(p q:U)(s:Bool):U:=resL u.frL (parL (bC u.ths i k p q s (u.ths.getD k .nil)))
def E3 (u:U)(i k c d:Nat)(p:U):Off Nat->List U
 | .rcv e x q s=>if e=c then [Er u i k p (q.map (Ff (NN u) q x d)) s]else []
 | _=>[]
def E2 (u:U)(i c d:Nat)(p:U)(k:Nat):List U:=if i=k then []else(offs (u.ths.getD k .nil)).flatMap (E3 u i k c d p)
def E1 (u:U)(i:Nat):Off Nat->List U
 | .tau p=>[KL u i p]
 | .snd c d p=>(List.range u.ths.length).flatMap (E2 u i c d p)
 | .rcv .. =>[]
def E0 (u:U)(i:Nat):List U:=(offs (u.ths.getD i .nil)).flatMap (E1 u i)
def gu (u:U):List U:=(List.range u.ths.length).flatMap (E0 u)
noncomputable def outs (l:List U):List Tx:=l.map λv=>(jP v).getD []
noncomputable def iH (l:List U):Bool:=l.all λv=>(jP v).isSome
noncomputable def ql (u:U):Option (List Tx):=if iH (gu u)then some (dd (aH (outs (gu u))))else none
theorem yU (l m:List U):outs (l++m)=outs l++outs m:=Nq ..
theorem u0 (l m:List U):iH (l++m)=(iH l&&iH m):=O6 ..
section
variable {t:P} {u:U}
theorem SU.bound (su:SU t u):∀z,(z∈u.frL\/z∈u.ths.flatMap BV\/∃q∈u.ths,q.Fr z)->z<=NN u:=by
 have H:=su.nr.shape;have G:BV u=u.frL++u.ths.flatMap BV:=by
  have:BV u=BV (resL u.frL (parL u.ths)):=by rw [<-H]
  rw [this,fR,fN]
 have key:∀z∈BV u,z<=NN u:=λz J=>by have :=yk J;unfold NN;omega
 intro z J;rcases J with h | h | h
 ·exact key z (by rw [G];exact M0 _ h)
 ·exact key z (by rw [G];exact MT _ h)
 ·rcases su.free z h with h | h
  ·exact key z (by rw [G];exact M0 _ h)
  ·unfold NN;omega
theorem F7 (ok:lP t)(su:SU t u){i:Nat}(hi:i< u.ths.length){p:U}(V:Off.tau p∈offs u.ths[i]):Nu (KL u i p)/\(KL u i p).smp=true:=by
 have hl:=su.two.len;have G:i< t.ths.length:=by omega
 obtain⟨W,J,H⟩:=(jD (su.two.get G hi)).Ec V;cases W<;>try cases H
 obtain⟨Z,h2⟩:=Cy ok su G hi J V H;exact⟨Z.nu,h2⟩
theorem KQ (ok:lP t)(su:SU t u){k:Nat}(G:k< t.ths.length){e x:UInt8}{q:P}{s:Bool}(hr:Off.rcv e x q s∈offs t.ths[k]):Ok q/\Eb 0 q/\0+q.bd<=64:=by
 have hm:=Mx G;obtain⟨sub,_⟩:=aW (su.smpP _ hm) _ hr;have al:=sub.al _ (su.al _ hm);have W:=sub.size;obtain⟨_,_,H,_,_,_⟩:=ok.Kv;have H:=H (λe=>by rw [e]at G;cases G);have Z:=ok.size;have J:t.ths[k].size<=iZ t.ths:=yk (Nb.2 ⟨_,hm,rfl⟩);simp only [Off.tm,size]at W;have :=bP q;have :=T.zw q;have :=dL q;have V:1<=t.ths.length:=by omega
 exact⟨⟨T.Al.wf al.2.2,by rw [aV];omega⟩,T.Al.eb 0 al.2.2,by omega⟩
theorem rB (w:World)(ok:lP t)(su:SU t u){i k:Nat}(hi:i< u.ths.length)(hk:k< u.ths.length)(Z:i≠k){c d:Nat}{p:U}(ho:Off.snd c d p∈offs u.ths[i]){e x:Nat}{q:U}{s:Bool}(hr:Off.rcv e x q s∈offs u.ths[k])
  {f:Nat->Nat} {N:Nat} (hf:G' N q x d f) (hN:∀z,(z∈u.frL\/z∈u.ths.flatMap BV\/∃q∈u.ths,q.Fr z)->z<=N) (α:25<=N):Nu (resL u.frL (parL (bC u.ths i k p (q.map f) s u.ths[k])))/\(resL u.frL (parL (bC u.ths i k p (q.map f) s u.ths[k]))).smp=true:=by
 have hl:=su.two.len;have G:i< t.ths.length:=by omega
 have H:k< t.ths.length:=by omega
 obtain⟨o',J,β⟩:=(jD (su.two.get G hi)).Ec ho;obtain⟨r',V,γ⟩:=(jD (su.two.get H hk)).Ec hr;cases o'<;>try cases β
 cases r'<;>try cases γ
 rename_i a b p' δ ε e' x' q' s' ζ η;obtain⟨h1,h2,h3⟩:=KQ ok su H V;have W:=Mx G;obtain⟨sP,_⟩:=aW (su.smpP _ W) _ J;have al:=(sP.al _ (su.al _ W)).2.1;obtain⟨q2,θ⟩:=J0 w h1 h2 h3 (old:=x') (nw:=b) (iu al) (Bn al 0);obtain⟨k1,k2⟩:=Ac ok su G hi H hk Z J ho ⟨δ,ε⟩ V hr ⟨ζ,η⟩ hf hN α θ;exact⟨k1.nu,k2⟩
theorem AE.K9 {p q:U}(h:∀σ:Nat->Nat,AE σ p σ q):∀(o:List Nat) (σ:Nat->Nat),AE σ (resL o p) σ (resL o q)
 | [],σ=>h σ
 | x::o,σ=>λv=>AE.K9 h o (aI σ x v)
theorem D5 (w:World)(ok:lP t)(su:SU t u){i k:Nat}(hi:i< u.ths.length)(hk:k< u.ths.length)(J:i≠k){c d:Nat}{p:U}(ho:Off.snd c d p∈offs u.ths[i]){e x:Nat}{q:U}{s:Bool}(hr:Off.rcv e x q s∈offs u.ths[k])
  {f f':Nat->Nat} {N N':Nat} (hf:G' N q x d f) (hN:∀z,(z∈u.frL\/z∈u.ths.flatMap BV\/∃q∈u.ths,q.Fr z)->z<=N) (β:25<=N) (V:G' N' q x d f') (W:∀z,(z∈u.frL\/z∈u.ths.flatMap BV\/∃q∈u.ths,q.Fr z)->z<=N') (Z:25<=N'):
  jP (resL u.frL (parL (bC u.ths i k p (q.map f) s u.ths[k])))=jP (resL u.frL (parL (bC u.ths i k p (q.map f') s u.ths[k]))):=by
 have G:=Mx hk;have α:=Mx hi;obtain⟨sU,_⟩:=aW (su.smp _ α) _ ho;obtain⟨rU,_⟩:=aW (su.smp _ G) _ hr;have cU:=fM _ hr;have H:=su.kU hk rU cU;have nq:∀M,(∀z,(z∈u.frL\/z∈u.ths.flatMap BV\/∃q∈u.ths,q.Fr z)->z<=M)->(∀z,q.Fr z->z<=M)/\d<=M/\∀z∈BV q,z<=M:=λM hM=>by
  refine⟨λz hz=>?_,hM d (.inr (.inr ⟨_,α,sU.fr d (.inr (.inl rfl))⟩)),λz hz=>hM z (.inr (.inl (Ni.2 ⟨_,G,cU.subset (MD _ hz)⟩)))⟩;by_cases h:z=x
  ·subst h;exact hM z (.inr (.inl (Ni.2 ⟨_,G,cU.subset (Nc ..)⟩)))
  ·exact hM z (.inr (.inr ⟨_,G,rU.fr z (.inr ⟨h,hz⟩)⟩))
 obtain⟨a1,a2,a3⟩:=nq N hN;obtain⟨b1,b2,b3⟩:=nq N' W;have hq:∀σ:Nat->Nat,AE σ (q.map f) σ (q.map f'):=λσ=>(hf.ae H.rcv H.lk a1 a2 a3 σ).symm.trans (V.ae H.rcv H.lk b1 b2 b3 σ)
 refine FL (rB w ok su hi hk J ho hr hf hN β).1 (rB w ok su hi hk J ho hr V W Z).1 (AE.K9 (λσ=>?_) _ _);have refl:∀l:List U,j0 (λp q=>AE σ p σ q) l l:=λl=>by
  induction l with
  | nil=>exact .nil
  | cons p l ih=>exact .cons (AE.refl p σ) ih
 have:j0 (λp q=>AE σ p σ q) (bC u.ths i k p (q.map f) s u.ths[k]) (bC u.ths i k p (q.map f') s u.ths[k]):=by
  unfold bC;exact((refl _).app (.cons (AE.refl p σ) (.cons (hq σ) .nil))).app (refl _)
 have key:∀{ps us:List U},j0 (λp q=>AE σ p σ q) ps us->AE σ (T.parL ps) σ (T.parL us):=by
  intro ps us h
  induction h with
  | nil=>trivial
  | cons h k ih=>
   cases k with
   | nil=>exact h
   | cons h' k'=>exact⟨h,ih⟩
 exact key this
theorem cD {l:List U}{k:Nat}(h:k< l.length):l.getD k .nil=l[k]:=by simp [List.getD,h]
theorem GR (w:World)(ok:lP t)(su:SU t u):∀v∈gu u,Nu v/\v.smp=true:=by
 intro v G;unfold gu E0 at G;obtain⟨i,hi,G⟩:=Ni.1 G;rw [NV]at hi;rw [cD hi]at G;obtain⟨o,ho,G⟩:=Ni.1 G;cases o with
 | tau p=>cases MA.1 G;exact F7 ok su hi ho
 | rcv=>cases G
 | snd c d p=>
  obtain⟨k,H,G⟩:=Ni.1 G;rw [NV]at H;unfold E2 at G;split at G
  ·cases G
  ·rename_i V;rw [cD H]at G;obtain⟨r,hr,G⟩:=Ni.1 G;cases r with
   | tau=>cases G
   | snd=>cases G
   | rcv e x q s=>
    have G:v∈(if e=c then [Er u i k p (q.map (Ff (NN u) q x d)) s]else []):=G;by_cases J:e=c
    ·rw [MZ J]at G;cases MA.1 G;unfold Er;rw [cD H];have W:=Mx H;have Z:=su.kU H (aW (su.smp _ W) _ hr).1 (fM _ hr);exact rB w ok su hi H V ho hr (AZ (NN u) d Z.lk) su.bound (by unfold NN;omega)
    ·rw [MJ J]at G;cases G
end
theorem G7:∀l:List U,(tp l).bvs=l.flatMap λs=>(td s).1++(td s).2.bvs
 | []=>rfl
 | u::l=>by simp only [tp,Lv.bvs,N6,G7 l,M8]
theorem Kk:∀u:U,BV u=u.lD.flatMap BV:=by
 intro u
 induction u with
 | sum p q H G=>simp only [BV,T.lD,N6];rw [<-G]
 | _=>simp [T.lD]
theorem GO:∀(n:Nat) {u:U},u.size<=n->Uq u->u.Nr->(td u).1++(td u).2.bvs=BV u
 | 0,u,h,_,_=>by cases u<;>simp [T.size]at h
 | n+1,u,h,G,nr=>by
  have H:=λ{p:U} (hp:p.size<=n) (G:Uq p) (nr:p.Nr)=>GO n hp G nr
  have e:=iT G nr;cases u with
  | nil=>rw [e];rfl
  | snd a b p=>rw [e];have :=H (by simp only [T.size]at h;omega) G.snd nr;simpa [frL,T.ths,tl,Lv.bvs,BV]using this
  | mat a b p=>rw [e];have :=H (by simp only [T.size]at h;omega) G.mat nr.2;simpa [frL,T.ths,tl,Lv.bvs,BV]using this
  | tau p=>rw [e];have :=H (by simp only [T.size]at h;omega) G.tau nr;simpa [frL,T.ths,tl,Lv.bvs,BV]using this
  | rep p=>rw [e];have :=H (by simp only [T.size]at h;omega) G.rep nr.2;simpa [frL,T.ths,tl,Lv.bvs,BV]using this
  | rcv a x p=>rw [e];have :=H (by simp only [T.size]at h;omega) G.rcv nr;simp only [frL,T.ths,tl,Lv.bvs,BV,Ol,MY,Nk,this];rfl
  | res x p=>
   have :=H (by simp only [T.size]at h;omega) G.res nr.2;rw [iT G.res nr.2]at this;rw [e];simp only [frL,T.ths,BV,Ns];rw [<-this]
  | par p q=>
   simp only [T.size]at h;have V:=H (p:=p) (by omega) G.fG nr.2.1;have W:=H (p:=q) (by omega) G.fv nr.2.2;rw [iT G.fG nr.2.1,ie nr.1.1,nc nr.1.1]at V;have h0:q.frL=[]:=by
    rcases nr.1.2 with h | h
    ·exact ie h
    ·cases q<;>first | rfl | (cases h;done)
   rw [iT G.fv nr.2.2,h0]at W;simp only [Nk]at V W;rw [e];simp only [frL,T.ths,BV,Nk];rw [show p::q.ths=[p]++q.ths from rfl,gA,Lv.dc,V,W]
  | sum p q=>
   simp only [T.size]at h;rw [e];simp only [frL,T.ths,tl,Lv.bvs,Nk,MY];rw [ee G.dP nr.2.1 nr.1.1,ee G.dz nr.2.2 nr.1.2.1,fS nr.1.2.2];rw [G7,Kk (.sum p q)];have key:∀s∈[p]++q.lD,(td s).1++(td s).2.bvs=BV s:=by
    intro s J;rcases My.1 J with J | J
    ·cases MA.1 J;exact H (by omega) G.dP nr.2.1
    ·have:∀q:U,Uq q->q.Nr->∀s∈q.lD,s.size<=q.size/\Uq s/\s.Nr:=by
      intro q
      induction q with
      | sum p q _ H=>
       intro G nr s J;rcases MH.1 J with rfl | J
       ·exact⟨by simp only [T.size];omega,G.dP,nr.2.1⟩
       ·obtain⟨k1,Z,k3⟩:=H G.dz nr.2.2 s J;exact⟨by simp only [T.size];omega,Z,k3⟩
      | _=>intro G nr s J;cases MA.1 J;exact⟨Mu _,G,nr⟩
     obtain⟨k1,Z,k3⟩:=this q G.dz nr.2.2 s J;exact H (by omega) Z k3
   have fm:∀l:List U,(∀s∈l,(td s).1++(td s).2.bvs=BV s)->(l.flatMap λs=>(td s).1++(td s).2.bvs)=l.flatMap BV:=by
    intro l
    induction l with
    | nil=>intro _;rfl
    | cons s l H=>intro h;rw [N6,N6,h s (by simp),H λx hx=>h x (by simp [hx])]
   exact fm _ key
theorem y6:∀{K:List U},(∀t∈K,t.th=true/\Uq t/\t.Nr)->joinL (K.map td)=([],tl K)
 | [],_=>rfl
 | t::K,h=>by
  obtain⟨G,H,J⟩:=h t (by simp);simp only [MV,joinL];rw [y6 (K:=K) λx V=>h x (by simp [V]),iT H J,ie G,nc G,show t::K=[t]++K from rfl,gA];rfl
theorem Dx (O:List Nat){K:List U}(G:∀t∈K,t.th=true/\Uq t/\t.Nr){zs:List ((List Nat×Lv)×U)}(V:∀z∈zs,Pc z.1 z.2):Lv.tidy (O++(joinL (zs.map (·.1))).1) ((tl K).app (joinL (zs.map (·.1))).2)=td (resL O (parL (K++zs.map (·.2)))):=by
 have h:=yX (own:=O) (Pc.join (zs:=K.map (λt=>(td t,t))++zs) λz H=>by
  rcases My.1 H with h | h
  ·obtain⟨t,J,rfl⟩:=Nb.1 h;exact Pc.nr (G t J).2.1 (G t J).2.2
  ·exact V z h)
 rw [Nq,Nq,Od,Od,px]at h;have W:K.map ((λz:(List Nat×Lv)×U=>z.1)∘λt=>(td t,t))=K.map td:=rfl;have Z:K.map ((λz:(List Nat×Lv)×U=>z.2)∘λt=>(td t,t))=K:=List.map_id K;rw [W,Z,y6 G]at h;exact h
theorem FB:∀{l:List U},(∀t∈l,t.th=true)->(tl l).bf=l.map λt=>tl [t]
 | [],_=>rfl
 | t::l,h=>by
  have G:=h t (by simp);have H:=FB (l:=l) λx J=>h x (by simp [J])
  cases t<;>first | (cases G;done) | simp only [tl,Lv.bf,H,MV]
theorem xJ {X Y:Type}(f:X->Y)(P:Nat->Bool):∀(l:List X) (k:Nat),jN P (l.map f) k=(jN P l k).map f
 | [],k=>by rw [Oq,jz,jz];rfl
 | x::l,k=>by
  rw [MV,bX,bX,xJ f P l (k+1)];split<;>simp
theorem B2:∀l:List U,elsL (l.map λt=>tl [t])=tl l
 | []=>rfl
 | t::l=>by rw [MV,elsL,B2 l,<-gA];rfl
theorem KH {l:List U}(h:∀t∈l,t.th=true)(P:Nat->Bool):elsL (jN P (tl l).bf 0)=tl (jN P l 0):=by
 rw [FB h,xJ,B2]
theorem Ih {O:List Nat}{ts G:List U}(h:ts.Perm G)(n:Nu (resL O (parL ts))):Nu (resL O (parL G)):=by
 have H:(BV (resL O (parL ts))).Perm (BV (resL O (parL G))):=by
  rw [fR,fR,fN,fN];exact(NA _).append (h.flatMap_right _)
 have V:∀z,(resL O (parL G)).Fr z->(resL O (parL ts)).Fr z:=λz J=>by
  obtain⟨W,Z⟩:=eW.1 J;obtain⟨t,ht,J⟩:=lT.1 Z;exact eW.2 ⟨W,lT.2 ⟨t,h.symm.subset ht,J⟩⟩
 have α:∀z,(resL O (parL G)).Us z->(resL O (parL ts)).Us z:=λz J=>by
  obtain⟨W,Z⟩:=ji.1 J;obtain⟨t,ht,J⟩:=rD.1 Z;exact ji.2 ⟨W,rD.2 ⟨t,h.symm.subset ht,J⟩⟩
 exact⟨⟨H.nodup_iff.1 n.uq.nd,λx hx hf=>n.uq.nf x (H.symm.subset hx) (V x hf)⟩,λy hy=>n.fr y (α y hy),λx hx=>n.bv x (H.symm.subset hx)⟩
theorem DL {ths:List U}{i k:Nat}(hi:i< ths.length)(H:k< ths.length)(G:i≠k)(p q:U):(wo ths i i++[p,q]).Perm (bC ths i k p q true ths[k]):=by
 unfold bC;have h:=HQ ths i k hi H G;refine(h.append (NA _)).trans ?_;rw [MZ rfl,M8,M8];exact(NA _).append OA
structure qk (b b2 n0 c:Nat)(w0 w':World)(acc:List U)(M:Nat->Prop):Prop where
 km:Km b w0 w'
 rs:HD w0.heap.size w' b2 (outs acc) (!iH acc) M
 mc:∃n,Mk w' b n/\n0<=n/\n<=n0+c
 hb:b< w0.heap.size
section
variable {b b2 n0 c:Nat} {w0 w w':World} {acc:List U} {M:Nat->Prop}
theorem qk.nb (h:qk b b2 n0 c w0 w acc M):¬M b:=λG=>by have :=(h.rs.mr b G).1;have :=h.hb;omega
theorem qk.ex (h:qk b b2 n0 c w0 w acc M)(x:Ex w w'):qk b b2 n0 c w0 w' acc M:=by
 obtain⟨n,G,H⟩:=h.mc;exact⟨h.km.out (Kp.ah x λ _=>False) (λ _ _ h=>h) h.hb,h.rs.kp (Kp.ah x λ _=>False) λ _ _ h=>h,⟨n,G.ex x,H⟩,h.hb⟩
theorem KS (h:qk b b2 n0 c w0 w acc M)(hl:acc.length<=1000000000){vg vo vm:Value}{v:U}(hv:∀{R:aF->Bool->PV},(∀w',Ex w w'->(∀s,jP v=some s->R s true w')/\(jP v=none->R [] false w'))->PW 176 #[ptr b,vg,vo,vm] w (aw [.s,.b] R))
  {S J:PV} (hS:∀w',Kp w w' M->S w') (hJ:∀G V,qk b b2 n0 c w0 G (acc++[v]) V->Kp w G M->(∀g,V g->M g\/w.heap.size<=g)->J G):
  PW 176 #[ptr b,vg,vo,vm] w (aw [.s,.b] fun(s:aF) (q:Bool) (w2:World)=>S w2/\PW 99 #[ptr b2,.string (ax s),.bool q] w2 (aw [] fun(G:World)=>S G/\J G)):=by
 have fin:∀(s:aF) (q:Bool) (w2:World),Ex w w2->s=(jP v).getD []->q=(jP v).isSome->S w2/\PW 99 #[ptr b2,.string (ax s),.bool q] w2 (aw [] fun(G:World)=>S G/\J G):=by
  intro s q w2 x W hq;have H:=h.ex x;have β:(outs acc).length=acc.length:=by unfold outs;simp
  refine⟨hS w2 (Kp.ah x _),GV H.rs (by omega) λG V Z r3 α=>?_⟩;have k:=Kp.trans (Kp.ah x M) Z λ _ _ h=>h
  obtain⟨n,m1,m2,m3⟩:=H.mc;refine⟨hS G k,hJ G V ⟨H.km.out Z (λg hg hM=>by have :=(H.rs.mr g hM).1;omega) h.hb,?_,⟨n,m1.kp Z H.nb,m2,m3⟩,h.hb⟩ k λg hg=>(α g hg).imp id λh=>Nv x.size h⟩;have e1:outs (acc++[v])=outs acc++[s]:=by rw [yU,W];rfl
  have e2:(!iH (acc++[v]))=((!iH acc)|| !q):=by
   rw [u0,hq,Bool.not_and];simp [iH]
  rw [e1,e2];exact r3
 refine hv λw2 x=>⟨λs W=>fin s true w2 x (by rw [W];rfl) (by rw [W];rfl),λhn=>fin [] false w2 x (by rw [hn];rfl) (by rw [hn];rfl)⟩
end
theorem CV {t:P}{u:U}(su:SU t u){D:Nat->Prop}{w:World}{v:Value}(h:az D w (td u) v):∃b vo vt ts,v=ptr b/\D b/\b< w.heap.size/\w.cell? ⟨b,0,none⟩=some vo/\w.cell? ⟨b,1,none⟩=some vt/\dV D w vo (u.frL.map iv)/\dV D w vt ts/\ts.length=u.ths.length/\∀i (h:i< u.ths.length) (h':i< ts.length),af D w (tl [u.ths[i]]) [ts[i]]:=by
 rw [iT su.nu.uq su.nr]at h;obtain⟨b,vo,vt,ts,G,H,J,h4,h5,V,W,Z⟩:=h;obtain⟨k1,k2⟩:=Ct (λq hq=>(su.nr.ths q hq).1) Z;exact⟨b,vo,vt,ts,G,H,J,h4,h5,V,W,k1,k2⟩
theorem SU.th {t:P}{u:U}(su:SU t u):∀q∈u.ths,q.th=true/\Uq q/\q.Nr:=λq G=>by
 obtain⟨i,hi,rfl⟩:=Np.1 G;exact⟨(su.nr.ths _ G).1,su.kU hi (Sub.refl _) (NC _),(su.nr.ths _ G).2⟩
theorem nV (u:U):(td u).1.length+(td u).2.tot<=4* u.size:=by
 have G:=n7 (flat u).1 (flat u).2;have H:=cc u;have e:Lv.tidy (flat u).1 (flat u).2=td u:=rfl;rw [e]at G;omega
theorem ju (f:Nat->Nat):∀l:Lv,(l.map f).tot=l.tot
 | .nil=>rfl
 | .thr k a b o r n=>by simp only [Lv.map,Lv.tot,ju f r,ju f n,MM]
 | .sum ps n=>by simp only [Lv.map,Lv.tot,ju f ps,ju f n]
 | .part o q n=>by simp only [Lv.map,Lv.tot,ju f q,ju f n,MM]
theorem yM {t:P}{u:U}(su:SU t u)(θ:u.size<=1000){w:World}{b:Nat}{vl vg vo vm:Value}{gl:List Nat}{mvs:List Value}{zs:List ((List Nat×Lv)×U)}{W:U}(Z:w.cell? ⟨b,2,none⟩=some vl)(α:b< w.heap.size)(hl:az (λg=>g< w.heap.size) w (td u) vl)(hg:dV (λg=>g< w.heap.size) w vg (gl.map iv))(β:gl.length<=1000)
  (ho:dV (λg=>g< w.heap.size) w vo (u.frL.map iv)) (hm:dV (λg=>g< w.heap.size) w vm mvs) (γ:aN (λL v=>az (λg=>g< w.heap.size) w L v) (zs.map (·.1)) mvs) (δ:mvs.length<=1000) (hz:∀z∈zs,Pc z.1 z.2) (ι:(joinL (zs.map (·.1))).1.length+(joinL (zs.map (·.1))).2.tot<=1000000)
  {P:Nat->Bool} (hP:∀i,P i=decide (i∈gl)) (H:Nu (resL u.frL (parL (jN P u.ths 0++zs.map (·.2))))) (ε:jP (resL u.frL (parL (jN P u.ths 0++zs.map (·.2))))=jP W) {R:aF->Bool->PV} (hR:∀w',Ex w w'->(∀s,jP W=some s->R s true w')/\(jP W=none->R [] false w')):
  PW 176 #[ptr b,vg,vo,vm] w (aw [.s,.b] R):=by
 have J:=iT su.nu.uq su.nr;have V:=su.th;have e:=Dx u.frL (K:=jN P u.ths 0) (λt ht=>V t (rj ht)) hz;have G:=nV u;rw [J]at hl G;have ζ:∀x∈zs.map (·.1),x.2.sh true=true:=λx hx=>by
  obtain⟨z,h1,rfl⟩:=Nb.1 hx;exact(hz z h1).sh
 have η:(tl u.ths).sh true=true:=by have :=B8 u;rw [J]at this;exact this
 simp only at G;refine IA (res:=(u.frL++(joinL (zs.map (·.1))).1,(tl (jN P u.ths 0)).app (joinL (zs.map (·.1))).2)) Z α hl hg β ho hm γ δ η ζ (by omega) hP (by rw [KH λt ht=>(V t ht).1]) ?_ ?_ λw' x=>?_
 ·rw [e];exact AH H.uq H.bv
 ·rw [e];exact IZ H
 ·rw [e];have:Bj (td (resL u.frL (parL (jN P u.ths 0++zs.map (·.2)))))=jP W:=ε;rw [this];exact hR w' x
theorem aN.K0 {A B:Type}{R:A->B->Prop}:aN R [] []:=⟨rfl,λi a b h=>by simp at h⟩
theorem Ll {w w1:World}{e g:Nat}{x:Value}(H:g=w.heap.size)(hw:w1=w.alloc (.cells #[x] e)):dV (λg=>g< w1.heap.size) w1 (.slice (some ⟨g,0,none⟩) 1 1) [x]:=by
 subst H hw;refine .inr ⟨w.heap.size,0,1,rfl,by rw [size_alloc];omega,by rw [size_alloc];omega,λi y G=>?_⟩;cases i with
 | zero=>simp only [NH,NP]at G;subst G;exact aa rfl
 | succ i=>simp at G
theorem Mc {w w1:World}{e g:Nat}{x z:Value}(H:g=w.heap.size)(hw:w1=w.alloc (.cells #[x,z] e)):dV (λg=>g< w1.heap.size) w1 (.slice (some ⟨g,0,none⟩) 2 2) [x,z]:=by
 subst H hw;refine .inr ⟨w.heap.size,0,2,rfl,by rw [size_alloc];omega,by rw [size_alloc];omega,λi y G=>?_⟩
 match i,G with
 | 0,G=>simp only [NH,NP]at G;subst G;exact aa rfl
 | 1,G=>simp only [List.getElem?_cons_succ,NH,NP]at G;subst G;exact aa rfl
 | i+2,G=>simp at G
theorem LC {D:Nat->Prop}{w w1:World}{v:Value}{l:List Value}(h:dV D w v l)(x:Ex w w1):dV (λg=>g< w1.heap.size) w1 v l:=(h.ex x).sub λg G _=>G
theorem gD:∀u:U,(BV u).length<=u.size
 | .nil=>by simp [BV]
 | .snd a b p=>by have :=gD p;simp only [BV,T.size];omega
 | .mat a b p=>by have :=gD p;simp only [BV,T.size];omega
 | .rcv a b p=>by have :=gD p;simp only [BV,T.size,Mm];omega
 | .res b p=>by have :=gD p;simp only [BV,T.size,Mm];omega
 | .tau p=>by have :=gD p;simp only [BV,T.size];omega
 | .rep p=>by have :=gD p;simp only [BV,T.size];omega
 | .sum p q=>by have :=gD p;have :=gD q;simp only [BV,T.size,Mt];omega
 | .par p q=>by have :=gD p;have :=gD q;simp only [BV,T.size,Mt];omega
theorem eg:∀u:U,∀q∈u.ths,q.size<=u.size:=by
 intro u
 induction u with
 | nil=>intro q h;cases h
 | res x p H=>intro q h;have :=H q h;simp only [T.size];omega
 | par p r H G=>
  intro q h;simp only [T.size];rcases MH.1 h with rfl | h
  ·omega
  ·have :=G q h;omega
 | _=>intro q h;cases MA.1 h;exact Mu _
section
variable {t:P} {u:U} {b b2 n0 c:Nat} {w w1:World} {acc:List U} {M D:Nat->Prop}
theorem JS (ok:lP t)(su:SU t u)(hsz:u.size<=60)(h:qk b b2 n0 c w w1 acc M){bl:Nat}(hcl:w1.cell? ⟨b,2,none⟩=some (ptr bl))(hl:az D w1 (td u) (ptr bl))(hD:∀g,D g->g≠b/\g< w.heap.size){i:Nat}{p:U}(hi:i< u.ths.length)(ho:Off.tau p∈offs u.ths[i]){α:Nat}{vr:Value}(c3:w1.cell? ⟨α,3,none⟩=some vr)(hb40:α< w1.heap.size)(hMb:¬M α)(μ:az D w1 (td p) vr)
  (hacc:acc.length<=1000000000) {J:PV} (hJ:∀w3 M',qk b b2 n0 c w w3 (acc++[KL u i p]) M'->Kp w1 w3 M->(∀g,M' g->M g\/w1.heap.size<=g)->J w3):
  ∃G:PV,∀H:World,H=World.drew w1->G H/\∃(b47 o48:Nat),ptr b=Value.pointer (some ⟨b47,o48,none⟩)/\∃v49:Value,(∀w',G w'->World.cell? w' ⟨b47,(o48+2),none⟩=some v49)/\∃(b50 o51:Nat),v49=Value.pointer (some ⟨b50,o51,none⟩)/\∃ν:Value,(∀w',G w'->World.cell? w' ⟨b50,(o51+0),none⟩=some ν)/\∃v53:Value,(∀w',G w'->World.cell? w' ⟨α,3,none⟩=some v53)/\(∀(ξ:Nat) (V:World),ξ=Array.size (World.heap H)->V=World.alloc H (Obj.cells #[(Value.int IntKind.i64 (i:Int))] 3)->G V/\aB v53=true/\∀(ο:Nat) (β:World),ο=Array.size (World.heap V)->β=World.alloc V (Obj.cells #[v53] 146)->G β/\PW 176 #[ptr b,(Value.slice (some ⟨ξ,0,none⟩) 1 1),ν,(Value.slice (some ⟨ο,0,none⟩) 1 1)] β (aw [.s,.b] fun(ς:aF) (υ:Bool) (δ:World)=>G δ/\PW 99 #[(Value.pointer (some ⟨b2,0,none⟩)),(Value.string (ax ς)),(Value.bool υ)] δ (aw [] fun(ε:World)=>G ε/\J ε)))/\
   (aB v53=true/\∀(φ:Nat) (W:World),φ=Array.size (World.heap H)->W=World.alloc H (Obj.cells #[v53] 146)->G W/\∀(χ:Nat) (γ:World),χ=Array.size (World.heap W)->γ=World.alloc W (Obj.cells #[(Value.int IntKind.i64 (i:Int))] 3)->G γ/\PW 176 #[ptr b,(Value.slice (some ⟨χ,0,none⟩) 1 1),ν,(Value.slice (some ⟨φ,0,none⟩) 1 1)] γ (aw [.s,.b] fun(s66:aF) (q67:Bool) (w68:World)=>G w68/\PW 99 #[(Value.pointer (some ⟨b2,0,none⟩)),(Value.string (ax s66)),(Value.bool q67)] w68 (aw [] fun(w69:World)=>G w69/\J w69))):=by
 have hb:=h.hb;have s0:=h.km.size;have hDM:∀g,D g->¬M g:=λg hg hM=>by have :=(hD g hg).2;have :=(h.rs.mr g hM).1;omega
 obtain⟨bl',vo,vt,ts,e1,k2,k3,k4,k5,k6,k7,k8,k9⟩:=CV su hl;cases e1;have hNu:=(F7 ok su hi ho).1;obtain⟨sU,_⟩:=aW (su.smp _ (Mx hi)) _ ho;have uqp:Uq p:=(su.kU hi sU (fM _ ho)).tau;have nrp:p.Nr:=sU.nr (su.nrs _ (Mx hi));have hwo:jN (λn=>n==i||n==i) u.ths 0=wo u.ths i i:=(BX _ _ _).symm;have htp:=nV p;have hps:p.size<=60:=by have h1:=sU.size;have h2:=eg u _ (Mx hi);simp only [Off.tm,T.size]at h1;omega
 have go:∀(wc:World) (vg vm:Value),Ex w1 wc->dV (λg=>g< wc.heap.size) wc vg [iv i]->dV (λg=>g< wc.heap.size) wc vm [vr]->PW 176 #[ptr b,vg,vo,vm] wc (aw [.s,.b] fun(ς:aF) (υ:Bool) (δ:World)=>Kp w1 δ M/\PW 99 #[(Value.pointer (some ⟨b2,0,none⟩)),(Value.string (ax ς)),(Value.bool υ)] δ (aw [] fun(ε:World)=>Kp w1 ε M/\J ε)):=by
  intro wc vg vm xc hg hm;have sc:=xc.size;have kc:Kp w1 wc M:=Kp.ah xc _;refine KS (h.ex xc) hacc (λhR=>?_) (λw' k=>Kp.trans kc k λ _ _ h=>h) λw3 M' r3 k3 hM'=>hJ w3 M' r3 (Kp.trans kc k3 λ _ _ h=>h) λg hg=>(hM' g hg).imp id λh=>by omega
  refine yM su (by omega) (zs:=[(td p,p)]) (gl:=[i]) (P:=λn=>n==i||n==i) (mvs:=[vr]) (by rw [xc.cell (show b< _ by omega)];exact hcl) (by omega) (az.sub (az.ex hl xc) λg hg _=>hg) hg (by simp) (LC k6 xc) hm (aN.cons (az.sub (az.ex μ xc) λg hg _=>hg) aN.K0) (by simp) (λz hz=>by cases MA.1 hz;exact Pc.nr uqp nrp) ?_ (λj=>?_) ?_ ?_ hR
  ·simp only [MV,Oq,o7];omega
  ·simp [lS]
  ·rw [hwo];exact hNu
  ·rw [hwo];rfl
 have c3':∀w',Kp w1 w' M->w'.cell? ⟨α,3,none⟩=some vr:=λw' k=>by rw [Mn (w:=w1) (k.block α hb40 hMb)];exact c3
 refine⟨λw'=>Kp w1 w' M,λH ζ=>⟨ζ▸Kp.ah (Ex.drew w1) _,b,0,rfl,ptr bl,λw' k=>by rw [Mn (w:=w1) (k.block b (by omega) h.nb)];exact hcl,bl,0,rfl,vo,λw' k=>by rw [Mn (w:=w1) (k.block bl k3 (hDM bl k2))];exact k4,vr,c3',λξ V hb54 η=>?_,μ.one,λφ W hb62 θ=>?_⟩⟩
 ·have Z:Ex w1 H:=ζ▸Ex.drew w1;have ψ:Ex H V:=η▸Ex.alloc _ _;refine⟨Kp.ah (Ex.trans Z ψ) _,μ.one,λο β hb56 ι=>?_⟩;have ω:Ex V β:=ι▸Ex.alloc _ _;exact⟨Kp.ah (Ex.trans (Ex.trans Z ψ) ω) _,go β _ _ (Ex.trans (Ex.trans Z ψ) ω) (LC (Ll hb54 η) ω) (Ll hb56 ι)⟩
 ·have Z:Ex w1 H:=ζ▸Ex.drew w1;have x63:Ex H W:=θ▸Ex.alloc _ _;refine⟨Kp.ah (Ex.trans Z x63) _,λχ γ hb64 κ=>?_⟩;have x65:Ex W γ:=κ▸Ex.alloc _ _;exact⟨Kp.ah (Ex.trans (Ex.trans Z x63) x65) _,go γ _ _ (Ex.trans (Ex.trans Z x63) x65) (Ll hb64 κ) (LC (Ll hb62 θ) x65)⟩
theorem lP.bound (ok:lP t)(su:SU t (num t e0 0).1):∀z,(z∈(num t e0 0).1.frL\/z∈(num t e0 0).1.ths.flatMap BV\/∃q∈(num t e0 0).1.ths,q.Fr z)->z<=(num t e0 0).2+100:=by
 have H:=su.nr.shape;have G:BV (num t e0 0).1=(num t e0 0).1.frL++(num t e0 0).1.ths.flatMap BV:=by
  have:BV (num t e0 0).1=BV (resL (num t e0 0).1.frL (parL (num t e0 0).1.ths)):=by rw [<-H]
  rw [this,fR,fN]
 have key:∀z∈BV (num t e0 0).1,z<=(num t e0 0).2+100:=λz J=>((eF t e0 0).2 z J).2
 intro z J;rcases J with h | h | h
 ·exact key z (by rw [G];exact M0 _ h)
 ·exact key z (by rw [G];exact MT _ h)
 ·rcases su.free z h with h | h
  ·exact key z (by rw [G];exact M0 _ h)
  ·omega
theorem HV (hu:u=(num t e0 0).1)(hn0:n0=(num t e0 0).2)(ok:lP t)(su:SU t u)(hsz:u.size<=60)(h:qk b b2 n0 c w w1 acc M){bl:Nat}(hcl:w1.cell? ⟨b,2,none⟩=some (ptr bl))(hl:az D w1 (td u) (ptr bl))(hD:∀g,D g->g≠b/\g< w.heap.size){i k:Nat}{e d x:Nat}{p q:U}{s:Bool}(hi:i< u.ths.length)(hk:k< u.ths.length)(hik:i≠k)(ho:Off.snd e d p∈offs u.ths[i])(hr:Off.rcv e x q s∈offs u.ths[k])
  {ι H:Nat} {vr vq:Value} (c403:w1.cell? ⟨ι,3,none⟩=some vr) (c402:w1.cell? ⟨ι,2,none⟩=some (iv d)) (χ:ι< w1.heap.size) (hMb:¬M ι) (hbb:ι≠b) (hvr:az D w1 (td p) vr) (c108:∀j,j< 5->w1.cell? ⟨H,j,none⟩=(cL 63 e x vq s)[j]?) (hb108:H< w1.heap.size) (hMb2:¬M H) (hbb2:H≠b) (hvq:az D w1 (td q) vq)
  {gone:Value} (hgone:dV (λg=>g< w1.heap.size/\¬(g=b\/M g)) w1 gone ((if s then [i]else [i,k]).map iv)) (hacc:acc.length<=1000000000) (hc:n0+c<=4294966000) {J:PV}
  (hJ:∀w3 M',qk b b2 n0 (c+60) w w3 (acc++[Er u i k p (q.map (Ff (NN u) q x d)) s]) M'->Kp w1 w3 (λg=>g=b\/M g)->(∀g,M' g->M g\/w1.heap.size<=g)->J w3):
  ∃V:PV,∀α:World,α=World.drew w1->V α/\∃(ψ ω:Nat),ptr b=Value.pointer (some ⟨ψ,ω,none⟩)/\∃v127:Value,(∀w',V w'->World.cell? w' ⟨ψ,(ω+2),none⟩=some v127)/\∃(b128 o129:Nat),v127=Value.pointer (some ⟨b128,o129,none⟩)/\∃v130:Value,(∀w',V w'->World.cell? w' ⟨b128,(o129+0),none⟩=some v130)/\∃v131:Value,(∀w',V w'->World.cell? w' ⟨ι,3,none⟩=some v131)/\∃c132:UInt8,∃n133:Int,∃n134:Int,∃v135:Value,∃q136:Bool,(∀w',V w'->World.cell? w' ⟨H,0,none⟩=some (Value.int IntKind.u8 (UInt8.toNat c132))/\World.cell? w' ⟨H,1,none⟩=some (Value.int IntKind.i64 n133)/\World.cell? w' ⟨H,2,none⟩=some (Value.int IntKind.i64 n134)/\World.cell? w' ⟨H,3,none⟩=some v135/\World.cell? w' ⟨H,4,none⟩=some (Value.bool q136)/\True)/\∃n137:Int,(∀w',V w'->World.cell? w' ⟨ι,2,none⟩=some (Value.int IntKind.i64 n137))/\
   PW 177 #[ptr b,(Value.agg #[(Value.int IntKind.u8 (UInt8.toNat c132)),(Value.int IntKind.i64 n133),(Value.int IntKind.i64 n134),v135,(Value.bool q136)]),(Value.int IntKind.i64 n137)] α (aw [.v] fun(v138:Value) (Z:World)=>V Z/\aB v131=true/\aB v138=true/\∀(η:Nat) (G:World),η=Array.size (World.heap Z)->G=World.alloc Z (Obj.cells #[v131,v138] 146)->V G/\PW 176 #[ptr b,gone,v130,(Value.slice (some ⟨η,0,none⟩) 2 2)] G (aw [.s,.b] fun(ν:aF) (ξ:Bool) (β:World)=>V β/\PW 99 #[(Value.pointer (some ⟨b2,0,none⟩)),(Value.string (ax ν)),(Value.bool ξ)] β (aw [] fun(γ:World)=>V γ/\J γ))):=by
 have hb:=h.hb;have s0:=h.km.size;have φ:∀g,D g->¬M g:=λg hg hM=>by have :=(hD g hg).2;have :=(h.rs.mr g hM).1;omega
 obtain⟨bl',vo,vt,ts,e1,k2,k3,k4,k5,k6,k7,k8,k9⟩:=CV su hl;cases e1;obtain⟨sU,_⟩:=aW (su.smp _ (Mx hi)) _ ho;have uqp:Uq p:=(su.kU hi sU (fM _ ho)).snd;have nrp:p.Nr:=sU.nr (su.nrs _ (Mx hi));obtain⟨rU,_⟩:=aW (su.smp _ (Mx hk)) _ hr;have cU:=fM _ hr;have uqr:=su.kU hk rU cU;have uqq:Uq q:=uqr.rcv;have nrq:q.Nr:=rU.nr (su.nrs _ (Mx hk));have hps:p.size<=60:=by have h1:=sU.size;have h2:=eg u _ (Mx hi);simp only [Off.tm,T.size]at h1;omega
 have hqs:q.size<=60:=by have h1:=rU.size;have h2:=eg u _ (Mx hk);simp only [Off.tm,T.size]at h1;omega
 have htp:=nV p;have htq:=nV q;have hbvq:=GO _ (Mu _) uqq nrq;have hbvl:=gD q;have hql:(td q).1.length+(td q).2.bvs.length=(BV q).length:=by rw [<-hbvq,Mt]
 have hq26:∀z∈BV q,26<=z:=λz hz=>su.ge z (MT _ (Ni.2 ⟨_,Mx hk,cU.subset (MD _ hz)⟩))
 have hMb':∀g,g< w.heap.size->g≠b->¬(g=b\/M g):=λg h1 h2 e=>e.elim h2 λhM=>by have :=(h.rs.mr g hM).1;omega
 have st:∀{w':World},Kp w1 w' (λg=>g=b\/M g)->∀{g:Nat},g< w1.heap.size->g≠b->¬M g->∀j,w'.cell? ⟨g,j,none⟩=w1.cell? ⟨g,j,none⟩:=λk g h1 h2 h3 j=>Mn (w:=w1) (k.block g h1 λe=>e.elim h2 h3)
 refine⟨λw'=>Kp w1 w' (λg=>g=b\/M g)/\w'.cell? ⟨b,2,none⟩=some (ptr bl),λα hw124=>?_⟩;have θ:Ex w1 α:=hw124▸Ex.drew w1;have hbl:b< w1.heap.size:=by omega
 have S124:Kp w1 α (λg=>g=b\/M g)/\α.cell? ⟨b,2,none⟩=some (ptr bl):=⟨Kp.ah θ _,by rw [θ.cell (show b< _ from hbl)];exact hcl⟩
 refine⟨S124,b,0,rfl,ptr bl,λw' k=>k.2,bl,0,rfl,vo,λw' k=>by rw [st k.1 k3 (hD _ k2).1 (φ _ k2)];exact k4,vr,λw' k=>by rw [st k.1 χ hbb hMb];exact c403,63,e,x,vq,s,λw' k=>?_,d,λw' k=>by rw [st k.1 χ hbb hMb];exact c402,?_⟩
 ·have hc:∀j,j< 5->w'.cell? ⟨H,j,none⟩=(cL 63 e x vq s)[j]?:=λj hj=>by rw [st k.1 hb108 hbb2 hMb2];exact c108 j hj
  exact⟨hc 0 (by omega),hc 1 (by omega),hc 2 (by omega),hc 3 (by omega),hc 4 (by omega),trivial⟩
 have μ:=h.ex θ;obtain⟨n,mn,hn1,hn2⟩:=μ.mc;refine J3 mn (az.ex hvq θ) (λg hg=>(hD g hg).1) (B8 q) (AH uqq hq26) (by omega) (by omega) λv138 Z F' n' ζ mk139 W l139=>?_
 have ο:Kp w1 Z (λg=>g=b\/M g):=Kp.trans (Kp.ah θ _) (Kp.mono (λ _ e=> .inl e) ζ.kp) λ _ _ h=>h
 have c139:Z.cell? ⟨b,2,none⟩=some (ptr bl):=by rw [ζ.ce 2 (by omega)];exact S124.2
 refine⟨⟨ο,c139⟩,hvr.one,l139.one,λη G hb140 κ=>?_⟩;have δ:Ex Z G:=κ▸Ex.alloc _ _;have s141:G.heap.size=Z.heap.size+1:=by rw [κ,size_alloc]
 have s139:=ο.size;have ε:Kp w1 G (λg=>g=b\/M g):=Kp.trans ο (Kp.ah δ λ _=>False) λ _ _ h=>h.elim
 have ς:G.cell? ⟨b,2,none⟩=some (ptr bl):=by rw [δ.cell (show b< _ by omega)];exact c139
 refine⟨⟨ε,ς⟩,?_⟩;have rl:=W.len;rw [Mt]at rl;have r141:qk b b2 n0 (c+60) w G acc M:=by
  have km:Km b w Z:=Km.trans μ.km ζ;exact⟨km.out (Kp.ah δ λ _=>False) (λ _ _ h=>h) hb,(μ.rs.kp ζ.kp λg hM e=>μ.nb (e▸hM)).kp (Kp.ah δ λ _=>False) λ _ _ h=>h,⟨n',mk139.ex δ,by have :=W.le;omega,by omega⟩,hb⟩
 have hF:G' (n+100) q x d F':=by
  rw [hbvq]at W;refine⟨?_,λz h1 h2=>?_,λz hz=>(W.rng z hz).1,λz hz y hy e=>W.inj z hz y hy e⟩
  ·rw [W.out x uqr.lk];simp [aI]
  ·rw [W.out z h2];simp [aI,h1]
 have hNn:∀z,(z∈u.frL\/z∈u.ths.flatMap BV\/∃q∈u.ths,q.Fr z)->z<=n+100:=λz hz=>by
  subst hu;have :=lP.bound ok su z hz;omega
 have hcok:=rB w1 ok su hi hk hik ho hr hF hNn (by omega);have υ:=D5 w1 ok su hi hk hik ho hr hF hNn (by omega) (AZ (NN u) d uqr.lk) su.bound (by unfold NN;omega);have ezs:([((td p),p),(Lv.dR F' (td q),q.map F')]:List ((List Nat×Lv)×U)).map (·.2)=[p,q.map F']:=rfl;have s1:=h.km.size;have hm2:dV (λg=>g< G.heap.size) G (.slice (some ⟨η,0,none⟩) 2 2) [vr,v138]:=Mc hb140 κ;have hlS:az (λg=>g< G.heap.size) G (td u) (ptr bl):=az.sub (az.kp hl ε λg hg e=>e.elim (hD g hg).1 (φ g hg)) λg hg _=>hg
 have hvoS:dV (λg=>g< G.heap.size) G vo (u.frL.map iv):=(k6.kp ε λg hg e=>e.elim (hD g hg).1 (φ g hg)).sub λg hg _=>hg
 have hvrS:az (λg=>g< G.heap.size) G (td p) vr:=az.sub (az.kp hvr ε λg hg e=>e.elim (hD g hg).1 (φ g hg)) λg hg _=>hg
 have hv138:az (λg=>g< G.heap.size) G (Lv.dR F' (td q)) v138:=az.sub (az.ex l139 δ) λg hg _=>hg
 have hgS:dV (λg=>g< G.heap.size) G gone ((if s then [i]else [i,k]).map iv):=(hgone.kp ε λg hg=>hg.2).sub λg hg _=>hg
 have hlen:(joinL ([((td p),p),(Lv.dR F' (td q),q.map F')].map (·.1):List (List Nat×Lv))).1.length+(joinL ([((td p),p),(Lv.dR F' (td q),q.map F')].map (·.1):List (List Nat×Lv))).2.tot<=1000000:=by
  simp only [MV,Oq,joinL,Mt,MM,MB,Lv.bR,ju,Lv.tot];omega
 have hz:∀z∈([((td p),p),(Lv.dR F' (td q),q.map F')]:List ((List Nat×Lv)×U)),Pc z.1 z.2:=λz hz=>by
  rcases MH.1 hz with rfl | hz
  ·exact Pc.nr uqp nrp
  ·cases MA.1 hz;exact Pc.map F' uqq nrq
 have hms:aN (λL v=>az (λg=>g< G.heap.size) G L v) ([((td p),p),(Lv.dR F' (td q),q.map F')].map (·.1):List (List Nat×Lv)) [vr,v138]:=aN.cons hvrS (aN.cons hv138 aN.K0);have kJ:∀w',Kp G w' M->Kp w1 w' (λg=>g=b\/M g)/\w'.cell? ⟨b,2,none⟩=some (ptr bl):=λw' k=>⟨Kp.trans ε k λ _ _ h=> .inr h,by rw [Mn (w:=G) (k.block b (by omega) h.nb)];exact ς⟩
 have aft:∀{P:Nat->Bool} {gl:List Nat},dV (λg=>g< G.heap.size) G gone (gl.map iv)->gl.length<=2->(∀j,P j=decide (j∈gl))->Nu (resL u.frL (parL (jN P u.ths 0++[p,q.map F'])))->jP (resL u.frL (parL (jN P u.ths 0++[p,q.map F'])))=jP (Er u i k p (q.map (Ff (NN u) q x d)) s)->
   PW 176 #[ptr b,gone,vo,(Value.slice (some ⟨η,0,none⟩) 2 2)] G (aw [.s,.b] fun(ν:aF) (ξ:Bool) (β:World)=>(Kp w1 β (λg=>g=b\/M g)/\β.cell? ⟨b,2,none⟩=some (ptr bl))/\PW 99 #[(Value.pointer (some ⟨b2,0,none⟩)),(Value.string (ax ν)),(Value.bool ξ)] β (aw [] fun(γ:World)=>(Kp w1 γ (λg=>g=b\/M g)/\γ.cell? ⟨b,2,none⟩=some (ptr bl))/\J γ)):=by
  intro P gl hg hgl hP hv hn;refine KS r141 hacc (λhR=>yM su (by omega) (zs:=[((td p),p),(Lv.dR F' (td q),q.map F')]) (gl:=gl) (P:=P) (mvs:=[vr,v138]) ς (by omega) hlS hg (by omega) hvoS hm2 hms (by simp) hz hlen hP hv hn hR) kJ λw3 M' r3 k3 hM'=>hJ w3 M' r3 (kJ w3 k3).1 λg hg=>(hM' g hg).imp id λh=>by omega
 have egd:u.ths.getD k .nil=u.ths[k]:=cD hk;cases s
 ·have e1:jN (λn=>n==i||n==k) u.ths 0++[p,q.map F']=bC u.ths i k p (q.map F') false u.ths[k]:=by
   unfold bC;rw [BX];simp
  refine aft (P:=λn=>n==i||n==k) (gl:=[i,k]) hgS (by simp) (λj=>?_) (by rw [e1];exact hcok.1) (by rw [e1];unfold Er;rw [egd];exact υ);simp [lS,Bool.decide_or]
 ·have e1:jN (λn=>n==i||n==i) u.ths 0++[p,q.map F']=wo u.ths i i++[p,q.map F']:=by rw [BX]
  have hp:=DL hi hk hik p (q.map F');refine aft (P:=λn=>n==i||n==i) (gl:=[i]) hgS (by simp) (λj=>?_) (by rw [e1];exact Ih hp.symm hcok.1) (by rw [e1];unfold Er;rw [egd];exact(Fx hp).trans υ);simp [lS]
end
theorem Be {w w1:World}{g e:Nat}{cs:List Value}(α:cs.length=5)(V:g=w.heap.size)(G:w1=w.alloc (.cells #[.int .u8 0,.int .i64 0,.int .i64 0,.pointer none,.bool false] e)):
  (∀j,j< 5->(∃u,w1.cell? ⟨g,0+j,none⟩=some u)/\w1.frozen? ⟨g,0+j,none⟩=false)/\∀w2,w2=World.setCells w1 g 0 cs->Ex w w2/\g< w2.heap.size/\∀j,j< 5->w2.cell? ⟨g,j,none⟩=cs[j]?:=by
 have W:∀j,j< 5->∃u,w1.cell? ⟨g,0+j,none⟩=some u:=λj H=>by
  rw [G,V];have:∃u,(#[.int .u8 0,.int .i64 0,.int .i64 0,.pointer none,.bool false]:Array Value)[0+j]?=some u:=by
   rw [MX];exact⟨_,Array.getElem?_eq_getElem (by simpa using H)⟩
  obtain⟨u,hu⟩:=this;exact⟨u,aa hu⟩
 refine⟨λj H=>⟨W j H,by rw [G,V];exact aS _ _ _ _⟩,λw2 J=>?_⟩;obtain⟨k,_,_,Z⟩:=aU (b:=g) cs w1 0;rw [<-J]at k Z;have x1:Ex w w1:=G▸Ex.alloc _ _;have s1:w1.heap.size=w.heap.size+1:=by rw [G,size_alloc]
 have s2:=k.size;refine⟨Ex.below x1 (Kp.below k x1.size λb hb e=>by omega),by omega,λj H=>?_⟩;have :=Z j (λi hi=>W i (by omega)) (by omega)
 rwa [MX]at this
theorem eY {A:Type}:∀t:T A,(offs t).length<=t.size:=by
 intro t
 induction t with
 | sum p q G H=>simp only [offs,Mt,T.size];omega
 | rep p G=>simp only [offs,MM,T.size];omega
 | _=>simp [offs,T.size]
theorem gM {X Y:Type}{f:X->List Y}{c:Nat}:∀{l:List X},(∀x∈l,(f x).length<=c)->(l.flatMap f).length<=l.length* c
 | [],_=>by simp
 | x::l,h=>by
  have H:=h x (by simp);have J:=gM (f:=f) (c:=c) (l:=l) λy G=>h y (by simp [G])
  simp only [N6,Mt,Mm,Nat.succ_mul];omega
theorem kV.any {D:Nat->Prop}{w:World}{o:Off Nat}{cs:List Value}(h:kV D w o cs):∃(k:UInt8) (a b:Nat) (vr:Value) (s:Bool),cs=cL k a b vr s/\aB vr=true:=by
 cases o with
 | tau p=>obtain⟨a,b,vr,s,G,H⟩:=h;exact⟨126,a,b,vr,s,G,H.one⟩
 | snd a b p=>obtain⟨vr,s,G,H⟩:=h;exact⟨33,a,b,vr,s,G,H.one⟩
 | rcv a b p s=>obtain⟨vr,G,H⟩:=h;exact⟨63,a,b,vr,s,G,H.one⟩
theorem sD {k:UInt8}{a b:Nat}{vr:Value}{s:Bool}(h:aB vr=true):(cL k a b vr s).all aB=true:=by simp only [cL,ND,Ph,OV,h]
theorem xt {D:Nat->Prop}{B:Nat}{w:World}{v:Value}{os:List (Off Nat)}{xs:List Value}(G:cy B w v os.length xs)(hm:OffsM D w os xs){j:Nat}(H:j< os.length):∃(g cap:Nat) (cs:List Value),v= .slice (some ⟨g,0,none⟩) os.length cap/\kV D w os[j] cs/\∀i u,cs[i]?=some u->∀off,off=j* 5+i->i< 5->w.cell? ⟨g,off,none⟩=some u:=by
 obtain⟨cs,J,V⟩:=hm.at H;rcases G.cell with⟨_,Z,_⟩ | ⟨g,cap,rfl,_,W⟩
 ·omega
 ·refine⟨g,cap,cs,rfl,J,λi u hu off he hi=>?_⟩;have :=W (j* 5+i) u (by rw [V i hi];exact hu);rw [he];rwa [MX]at this
section
variable {t:P} {u:U} {b b2 n0:Nat} {w:World} {D:Nat->Prop}
def Rel (b:Nat)(w1:World)(G:Nat->Prop)(w2:World)(M2:Nat->Prop):Prop:=Kp w1 w2 (λg=>g=b\/G g)/\∀g,M2 g->G g\/w1.heap.size<=g
theorem Rel.refl (b:Nat)(w:World)(M:Nat->Prop):Rel b w M w M:=⟨Kp.ah (Ex.refl w) _,λ _ h=> .inl h⟩
theorem Rel.trans {b:Nat}{w1 w2 G:World}{H M2 J:Nat->Prop}(h:Rel b w1 H w2 M2)(k:Rel b w2 M2 G J):Rel b w1 H G J:=
 ⟨Kp.trans h.1 k.1 λg V e=>e.elim .inl λW=>(h.2 g W).elim .inr λh=>by omega,λg V=>(k.2 g V).elim (h.2 g) λZ=> .inr (Nv h.1.size Z)⟩
theorem Rel.ex {b:Nat}{w1 w2 G:World}{H M2:Nat->Prop}(h:Rel b w1 H w2 M2)(x:Ex w2 G):Rel b w1 H G M2:=h.trans ⟨Kp.ah x _,λ _ h=> .inl h⟩
theorem qk.mono {c G:Nat}{w w':World}{acc:List U}{M:Nat->Prop}(h:qk b b2 n0 c w w' acc M)(V:c<=G):qk b b2 n0 G w w' acc M:=by
 obtain⟨n,H,J,W⟩:=h.mc;exact⟨h.km,h.rs,⟨n,H,J,by omega⟩,h.hb⟩
theorem Ku (hu:u=(num t e0 0).1)(hn0:n0=(num t e0 0).2)(ok:lP t)(su:SU t u)(hsz:u.size<=60){bl:Nat}(hcl0:w.cell? ⟨b,2,none⟩=some (ptr bl))(hl0:az D w (td u) (ptr bl))(hD:∀g,D g->g≠b/\g< w.heap.size){i k:Nat}{e d:Nat}{p:U}(hi:i< u.ths.length)(hk:k< u.ths.length)(ho:Off.snd e d p∈offs u.ths[i])
  {w1:World} {M:Nat->Prop} {acc:List U} (h:qk b b2 n0 (60* acc.length) w w1 acc M) (hacc:acc.length<=20000000) {Z:Nat} {vr:Value} {s0:Bool} (c40:∀j,j< 5->w1.cell? ⟨Z,j,none⟩=(cL 33 e d vr s0)[j]?) (hb40:Z< w1.heap.size) (hMb:¬M Z) (hbb:Z≠b) (hvr:az D w1 (td p) vr)
  {v89:Value} (h89:af D w1 (tl [u.ths[k]]) [v89]) {J:PV} (hJ:∀w3 M',qk b b2 n0 (60* (acc++E2 u i e d p k).length) w w3 (acc++E2 u i e d p k) M'->Rel b w1 M w3 M'->J w3):
  PW 140 #[v89] w1 (aw [.v] fun(v90:Value) (ξ:World)=>∃(a92:Option Addr) (χ cap94:Nat),v90=Value.slice a92 χ cap94/\∃(I95:Int->PV) (ο:Int->World->Nat),I95 (0) ξ/\∀(H:Int) (β:World),I95 H β->((decide (H< (χ:Int)))=true->∃(b99 κ len101 cap102:Nat),v90=Value.slice (some ⟨b99,κ,none⟩) len101 cap102/\0<=(H:Int)/\(H:Int)< len101/\∃c103:UInt8,∃n104:Int,∃n105:Int,∃v106:Value,∃q107:Bool,(World.cell? β ⟨b99,(κ+Int.toNat H* 5),none⟩=some (Value.int IntKind.u8 (UInt8.toNat c103))/\World.cell? β ⟨b99,((κ+Int.toNat H* 5)+1),none⟩=some (Value.int IntKind.i64 n104)/\World.cell? β ⟨b99,(((κ+Int.toNat H* 5)+1)+1),none⟩=some (Value.int IntKind.i64 n105)/\World.cell? β ⟨b99,((((κ+Int.toNat H* 5)+1)+1)+1),none⟩=some v106/\World.cell? β ⟨b99,(((((κ+Int.toNat H* 5)+1)+1)+1)+1),none⟩=some (Value.bool q107)/\True)/\
   ∀(V:Nat) (ς:World),V=Array.size (World.heap β)->ς=World.alloc β (Obj.cells #[(Value.int IntKind.u8 0),(Value.int IntKind.i64 0),(Value.int IntKind.i64 0),(Value.pointer none),(Value.bool false)] 160)->(List.length [(Value.int IntKind.u8 (UInt8.toNat c103)),(Value.int IntKind.i64 n104),(Value.int IntKind.i64 n105),v106,(Value.bool q107)]=5/\List.all [(Value.int IntKind.u8 (UInt8.toNat c103)),(Value.int IntKind.i64 n104),(Value.int IntKind.i64 n105),v106,(Value.bool q107)] aB=true/\∀j,j< 5->(∃u,World.cell? ς ⟨V,0+j,none⟩=some u)/\World.frozen? ς ⟨V,0+j,none⟩=false)/\
   ∀G:World,G=World.setCells ς V 0 [(Value.int IntKind.u8 (UInt8.toNat c103)),(Value.int IntKind.i64 n104),(Value.int IntKind.i64 n105),v106,(Value.bool q107)]->((decide ((k:Int)=(i:Int)))=false->∃c111:UInt8,World.cell? G ⟨V,0,none⟩=some (Value.int IntKind.u8 (UInt8.toNat c111))/\((!decide (c111=63))=false->∃n112:Int,World.cell? G ⟨V,1,none⟩=some (Value.int IntKind.i64 n112)/\∃n113:Int,World.cell? G ⟨Z,1,none⟩=some (Value.int IntKind.i64 n113)/\((!decide (n112=n113))=true->bJ (H+1)/\I95 ((H+1)) G/\ο ((H+1)) G< ο H β)/\((!decide (n112=n113))=false->∀(α:Nat) (γ:World),α=Array.size (World.heap G)->γ=World.alloc G (Obj.cells #[(Value.int IntKind.i64 (i:Int)),(Value.int IntKind.i64 (k:Int))] 3)->∃J116:Value->PV,(∃q117:Bool,World.cell? γ ⟨V,4,none⟩=some (Value.bool q117)/\(q117=true->∃(a118:Option Addr) (len119 ε:Nat),(Value.slice (some ⟨α,0,none⟩) 2 2)=Value.slice a118 len119 ε/\0<=(0:Int)/\(0:Int)<=1/\1<=(ε:Int)/\J116 ((Value.slice (if ε=Int.toNat 0 then a118 else Option.map (·.add (Int.toNat 0* 1)) a118) (Int.toNat 1 - Int.toNat 0) (ε - Int.toNat 0))) γ)/\(q117=false->J116 ((Value.slice (some ⟨α,0,none⟩) 2 2)) γ))/\
   ∀(υ:Value) (η:World),J116 υ η->∃δ:PV,∀w124:World,w124=World.drew η->δ w124/\∃(b125 o126:Nat),ptr b=Value.pointer (some ⟨b125,o126,none⟩)/\∃v127:Value,(∀w',δ w'->World.cell? w' ⟨b125,(o126+2),none⟩=some v127)/\∃(b128 o129:Nat),v127=Value.pointer (some ⟨b128,o129,none⟩)/\∃v130:Value,(∀w',δ w'->World.cell? w' ⟨b128,(o129+0),none⟩=some v130)/\∃v131:Value,(∀w',δ w'->World.cell? w' ⟨Z,3,none⟩=some v131)/\∃c132:UInt8,∃n133:Int,∃n134:Int,∃v135:Value,∃q136:Bool,(∀w',δ w'->World.cell? w' ⟨V,0,none⟩=some (Value.int IntKind.u8 (UInt8.toNat c132))/\World.cell? w' ⟨V,1,none⟩=some (Value.int IntKind.i64 n133)/\World.cell? w' ⟨V,2,none⟩=some (Value.int IntKind.i64 n134)/\World.cell? w' ⟨V,3,none⟩=some v135/\World.cell? w' ⟨V,4,none⟩=some (Value.bool q136)/\True)/\∃n137:Int,(∀w',δ w'->World.cell? w' ⟨Z,2,none⟩=some (Value.int IntKind.i64 n137))/\
   PW 177 #[ptr b,(Value.agg #[(Value.int IntKind.u8 (UInt8.toNat c132)),(Value.int IntKind.i64 n133),(Value.int IntKind.i64 n134),v135,(Value.bool q136)]),(Value.int IntKind.i64 n137)] w124 (aw [.v] fun(v138:Value) (w139:World)=>δ w139/\aB v131=true/\aB v138=true/\∀(b140:Nat) (w141:World),b140=Array.size (World.heap w139)->w141=World.alloc w139 (Obj.cells #[v131,v138] 146)->δ w141/\PW 176 #[ptr b,υ,v130,(Value.slice (some ⟨b140,0,none⟩) 2 2)] w141 (aw [.s,.b] fun(s142:aF) (q143:Bool) (w144:World)=>δ w144/\PW 99 #[(Value.pointer (some ⟨b2,0,none⟩)),(Value.string (ax s142)),(Value.bool q143)] w144 (aw [] fun(w145:World)=>δ w145/\bJ (H+1)/\I95 ((H+1)) w145/\ο ((H+1)) w145< ο H β)))))/\((!decide (c111=63))=true->bJ (H+1)/\I95 ((H+1)) G/\ο ((H+1)) G< ο H β))/\((decide ((k:Int)=(i:Int)))=true->bJ (H+1)/\I95 ((H+1)) G/\ο ((H+1)) G< ο H β))/\((decide (H< (χ:Int)))=false->J β)):=by
 have hthk:=su.th _ (Mx hk);have hks:=eg u _ (Mx hk);have sw0:=h.km.size;have hDM:∀g,D g->¬(g=b\/M g):=λg hg e=>e.elim (hD g hg).1 λhM=>by have :=(hD g hg).2;have :=(h.rs.mr g hM).1;omega
 have egd:u.ths.getD k .nil=u.ths[k]:=cD hk;generalize hos:offs u.ths[k]=os at*;have hosl:os.length<=60:=by have :=eY u.ths[k];rw [hos]at this;omega
 have hE3:∀r,((os.take r).flatMap (E3 u i k e d p)).length<=60:=λr=>by
  have h1:=gM (f:=E3 u i k e d p) (c:=1) (l:=os.take r) λx _=>by
   cases x with
   | rcv e' x q s=>unfold E3;simp only;split<;>simp
   | _=>simp [E3]
  rw [M5]at h1;omega
 refine sR hthk.1 hthk.2.1 hthk.2.2 (su.smp _ (Mx hk)) (by omega) (λg hg=>by have :=(hD g hg).2;omega) h89 λv90 ξ xs x91 ho91 hm91=>?_
 rw [hos]at ho91 hm91;have hv90:∃a cap,v90= .slice a os.length cap:=by
  rcases ho91.cell with⟨h1,h2,_⟩ | ⟨g,cap,h1,_⟩
  ·exact⟨none,0,by rw [h1,h2]⟩
  ·exact⟨_,cap,h1⟩
 obtain⟨av,cav,hv90⟩:=hv90;have h91:=h.ex x91;have s91:=x91.size;refine⟨av,_,cav,hv90,λx w'=>∃(r:Nat) (M':Nat->Prop),x=r/\r<=os.length/\qk b b2 n0 (60* (acc++if i=k then []else(os.take r).flatMap (E3 u i k e d p)).length) w w' (acc++if i=k then []else(os.take r).flatMap (E3 u i k e d p)) M'/\Rel b ξ M w' M',λx _=>(os.length - x).toNat,⟨0,M,rfl,Nl _,by simpa using h91,Rel.refl b ξ M⟩,λx β hI=>?_⟩;obtain⟨r,M',rfl,hr,ψ,W⟩:=hI;refine⟨λhlt=>?_,λhge=>?_⟩;rotate_left
 ·have hrl:=oE hge (by omega);rw [hrl,MR]at ψ;have e2:E2 u i e d p k=if i=k then []else os.flatMap (E3 u i k e d p):=by unfold E2;rw [egd,hos]
  rw [<-e2]at ψ;exact hJ β M' ψ (((Rel.refl b w1 M).ex x91).trans W)
 have hrl:=oL hlt;have hMv:∀g,v90.ownBlock=some g->¬(g=b\/M g):=λg hg e=>by
  have h1:=ho91.block g hg;have :=h.hb;exact e.elim (λe=>by omega) λhM=>by have :=(h.rs.mr g hM).2;omega
 have hM91:∀g,g< ξ.heap.size->¬(g=b\/M g)->¬(g=b\/M' g):=λg h1 h2 e=>e.elim (λe=>h2 (.inl e)) λhM=>(W.2 g hM).elim (λhM=>h2 (.inr hM)) λh=>by omega
 have ho98:=ho91.kp W.1 hMv;have hm98:=OffsM.kp W.1 hDM hm91;obtain⟨g,cap,cs,hvg,ω,θ⟩:=xt ho98 hm98 hrl;obtain⟨kk,a1,b1,vq,s1,rfl,hone⟩:=ω.any;have s98:=W.1.size;refine⟨g,0,_,cap,hvg,by omega,by omega,kk,a1,b1,vq,s1,⟨θ 0 _ rfl _ (by omega) (by omega),θ 1 _ rfl _ (by omega) (by omega),θ 2 _ rfl _ (by omega) (by omega),θ 3 _ rfl _ (by omega) (by omega),θ 4 _ rfl _ (by omega) (by omega),trivial⟩,λV ς hb108 hw109=>?_⟩;obtain⟨box1,box2⟩:=Be (cs:=cL kk a1 b1 vq s1) rfl hb108 hw109;refine⟨⟨rfl,sD hone,box1⟩,λG hw110=>?_⟩;obtain⟨μ,l110,c110⟩:=box2 G hw110;have s110:=μ.size;have htk:(os.take (r+1)).flatMap (E3 u i k e d p)=(os.take r).flatMap (E3 u i k e d p)++E3 u i k e d p os[r]:=by rw [Mq hrl,NM];simp
 have next:∀w',(E3 u i k e d p os[r]=[]\/i=k)->w'=G->bJ ((r:Int)+1)/\(∃(r2:Nat) (M2:Nat->Prop),(r:Int)+1=r2/\r2<=os.length/\qk b b2 n0 (60* (acc++if i=k then []else(os.take r2).flatMap (E3 u i k e d p)).length) w w' (acc++if i=k then []else(os.take r2).flatMap (E3 u i k e d p)) M2/\Rel b ξ M w' M2)/\((os.length:Int) - ((r:Int)+1)).toNat< ((os.length:Int) - r).toNat:=by
  intro w' he hw';subst hw';refine⟨by omega,⟨r+1,M',by omega,by omega,?_,W.ex μ⟩,by omega⟩;have:(if i=k then []else(os.take (r+1)).flatMap (E3 u i k e d p))=(if i=k then []else(os.take r).flatMap (E3 u i k e d p)):=by
   split
   ·rfl
   ·rename_i hik;rw [htk,he.resolve_right hik,MY]
  rw [this];exact ψ.ex μ
 have r110:=ψ.ex μ;by_cases hik:k=i
 ·exact⟨λh=>absurd (MO h) (by omega),λ _=>next G (.inr hik.symm) rfl⟩
 refine⟨λ _=>⟨kk,c110 0 (by omega),?_,?_⟩,λh=>absurd (MN h) (by omega)⟩;rotate_left
 ·intro ν;refine next G (.inl ?_) rfl;have hne:kk≠63:=by simpa using ν
  generalize hor:os[r]=o at*;cases o with
  | tau p=>rfl
  | snd a b p=>rfl
  | rcv a x q s=>obtain⟨vr',e1,_⟩:=ω;simp only [cL,Nj,NQ]at e1;exact absurd (MQ.1 (by have :=e1.1.2;have e3:(63:UInt8).toNat=63:=rfl;omega)) hne
 ·intro ν;have ν:kk=63:=by
   cases hd:decide (kk=63)with
   | true=>exact MN hd
   | false=>rw [hd]at ν;cases ν
  subst ν;obtain⟨x,q,e1,e2⟩:∃x q,os[r]= .rcv a1 x q s1/\x=b1:=by
   generalize hor:os[r]=o at*;cases o with
   | tau p=>obtain⟨_,_,_,_,e1,_⟩:=ω;simp only [cL,Nj,NQ]at e1;exact absurd e1.1.2 (by decide)
   | snd a b p=>obtain⟨_,_,e1,_⟩:=ω;simp only [cL,Nj,NQ]at e1;exact absurd e1.1.2 (by decide)
   | rcv a x q s=>
    obtain⟨vr',e1,_⟩:=ω;simp only [cL,Nj,NQ,Value.bool.injEq,O8,Ox]at e1;exact⟨x,q,by rw [show a1=a by omega,e1.2.2.2],by omega⟩
  subst e2;have hrm:Off.rcv a1 x q s1∈offs u.ths[k]:=by rw [hos,<-e1];exact Mx hrl
  rw [e1]at ω;obtain⟨vq',e3,hvq⟩:=ω;have:vq'=vq:=by simp only [cL,Nj,O8,Ox]at e3;exact e3.symm
  subst this;have hb40':Z< ξ.heap.size:=by omega
  have hM40:¬(Z=b\/M Z):=λe=>e.elim hbb hMb
  have c40':∀j,j< 5->G.cell? ⟨Z,j,none⟩=(cL 33 e d vr s0)[j]?:=λj hj=>by
   rw [μ.cell (show Z< _ by omega),Mn (w:=ξ) (W.1.block Z hb40' hM40),x91.cell (show Z< _ from hb40)];exact c40 j hj
  refine⟨a1,c110 1 (by omega),e,c40' 1 (by omega),λhne=>?_,λheq α γ hb114 ι=>?_⟩
  ·refine next G (.inl ?_) rfl;rw [e1];have hne:(a1:Int)≠e:=by simpa using hne
   exact MJ (by omega)
  ·have heq:a1=e:=by
    have:(a1:Int)=e:=by
     cases hd:decide ((a1:Int)=e)with
     | true=>exact MN hd
     | false=>rw [hd]at heq;cases heq
    omega
   subst heq;have φ:Ex G γ:=ι▸Ex.alloc _ _;have s115:γ.heap.size=G.heap.size+1:=by rw [ι,size_alloc]
   have xx:=Ex.trans μ φ;have ζ:∀g,β.heap.size<=g->¬(g=b\/M' g):=λg hg e=>e.elim (λe=>by have :=h.hb;have :=ψ.km.size;omega) λhM=>by have :=(ψ.rs.mr g hM).2;omega
   refine⟨λgone w'=>w'=γ/\dV (λg=>g< γ.heap.size/\¬(g=b\/M' g)) γ gone ((if s1 then [i]else [i,k]).map iv),⟨s1,?_,λhs=>⟨_,_,2,rfl,by omega,by omega,by omega,rfl,?_⟩,λhs=>⟨rfl,?_⟩⟩,λgone η hJ2=>?_⟩
   ·rw [φ.cell (show V< _ from l110)];exact c110 4 (by omega)
   ·rw [hs];have:(if(2:Nat)=Int.toNat 0 then(some ⟨α,0,none⟩:Option Addr)else Option.map (λx:Addr=>x.add (Int.toNat 0* 1)) (some ⟨α,0,none⟩))=some ⟨α,0,none⟩:=by
     rw [MJ (by decide),N8,add_plain];rfl
    rw [this];refine .inr ⟨α,0,_,rfl,⟨by omega,ζ α (by omega)⟩,by omega,λi' y hy=>?_⟩;cases i' with
    | zero=>simp only [Ol,MV,Oq,NH,NP]at hy;subst hy;rw [ι,hb114];exact aa rfl
    | succ i=>simp at hy
   ·rw [hs];refine .inr ⟨α,0,_,rfl,⟨by omega,ζ α (by omega)⟩,by omega,λi' y hy=>?_⟩
    match i',hy with
    | 0,hy=>simp only [Ot,Pk,MV,Oq,NH,NP]at hy;subst hy;rw [ι,hb114];exact aa rfl
    | 1,hy=>simp only [Ot,Pk,MV,Oq,List.getElem?_cons_succ,NH,NP]at hy;subst hy;rw [ι,hb114];exact aa rfl
    | i+2,hy=>simp at hy
   obtain⟨rfl,hgone⟩:=hJ2;have r122:=r110.ex φ;rw [MJ (λe=>hik e.symm)]at r122;have hE3r:=hE3 r;have hcl:η.cell? ⟨b,2,none⟩=some (ptr bl):=(r122.km.ce 2 (by omega)).trans hcl0;have hl:az D η (td u) (ptr bl):=az.kp hl0 r122.km.kp λg hg=>(hD g hg).1
   have cc40:∀j,j< 5->η.cell? ⟨Z,j,none⟩=(cL 33 a1 d vr s0)[j]?:=λj hj=>by rw [φ.cell (show Z< _ by omega)];exact c40' j hj
   have hvr':az D η (td p) vr:=az.ex (az.kp (az.ex hvr x91) W.1 hDM) xx;have hM40':=hM91 Z hb40' hM40;refine HV hu hn0 ok su hsz r122 hcl hl hD hi hk (λe=>hik e.symm) ho hrm (cc40 3 (by omega)) (cc40 2 (by omega)) (by omega) (λhM=>hM40' (.inr hM)) hbb hvr' (λj hj=>by rw [φ.cell (show V< _ from l110)];exact c110 j hj) (by omega) (λhM=>ζ V (by omega) (.inr hM)) (λe=>ζ V (by omega) (.inl e)) (az.ex hvq xx) hgone (by rw [Mt];omega) (by
    have hnn:=bK t e0 0;have hts:=ok.size;rw [Mt];omega) λw3 M3 r3 k3 hM3=>⟨by omega,⟨r+1,M3,by omega,by omega,?_,(W.ex xx).trans ⟨k3,hM3⟩⟩,tN (by omega)⟩
   rw [MJ (λe=>hik e.symm),htk,e1];have e4:E3 u i k a1 d p (.rcv a1 x q s1)=[Er u i k p (q.map (Ff (NN u) q x d)) s1]:=MZ rfl;rw [e4,<-M8];refine r3.mono ?_;simp only [Mt,Mm,MB];omega
end
theorem FJ {t:P}(ok:lP t){w:World}{b:Nat}{D:Nat->Prop}(st:Hw w D b (num t e0 0).2 t.text (td (num t e0 0).1))(hD:∀g,D g->g≠b/\g< w.heap.size){R:Value->Bool->PV}
  (hR1:ql (num t e0 0).1=none->∀w',Kr b w w'->R (.slice none 0 0) false w') (hR2:∀l,ql (num t e0 0).1=some l->∀v w',Kr b w w'->Strs w' v l->(∀g,v.ownBlock=some g->w.heap.size<=g)->R v true w'):PW 136 #[ptr b] w (aw [.v,.b] R):=by
 have su:=ok.su;have hszt:=ok.size;have hsh:=(kL su.ae).2.2;generalize hu:(num t e0 0).1=u at*;have hsz:u.size<=60:=by omega
 refine ik (ptr b) w R ?_;intro b2 w3 hb2 ν;have x3:Ex w w3:=ν▸Ex.alloc _ _;have s3:w3.heap.size=w.heap.size+1:=by rw [ν,size_alloc]
 have hb:=st.mc.lt;obtain⟨vl,hcl0,hl0⟩:=st.l;obtain⟨bl,vo,vt,ts,rfl,k2,k3,k4,k5,k6,k7,k8,k9⟩:=CV su hl0;obtain⟨at_,capt,hvt⟩:=k7.slice;have r3:qk b b2 (num t e0 0).2 (60* ([]:List U).length) w w3 [] (λg=>g=b2):=by
  refine⟨Km.ex x3 hb,⟨by omega,rfl,λg e=>by omega,λj=>by rw [ν,hb2];exact aS _ _ _ _,by rw [ν,hb2];exact aa rfl,.slice none 0 0,by rw [ν,hb2];exact aa rfl,Own.nil _ _,λg Z=>by cases Z⟩,⟨_,st.mc.ex x3,Mu _,by simp⟩,hb⟩
 have cb2:∀{w':World},Km b w w'->w'.cell? ⟨b,2,none⟩=some (ptr bl):=λk=>(k.ce 2 (by omega)).trans hcl0
 have cbl:∀{w':World},Km b w w'->∀{j:Nat} {x:Value},w.cell? ⟨bl,j,none⟩=some x->w'.cell? ⟨bl,j,none⟩=some x:=λk j x hx=>by rw [Mn (w:=w) (k.kp.block bl k3 (hD bl k2).1)];exact hx
 have hlw:∀{w':World},Km b w w'->az D w' (td u) (ptr bl):=λk=>az.kp hl0 k.kp λg Z=>(hD g Z).1
 have ξ:∀{w':World},Km b w w'->∀i (hi:i< ts.length),∃bt ot V,vt= .slice (some ⟨bt,ot,none⟩) ts.length V/\w'.cell? ⟨bt,ot+i,none⟩=some ts[i]:=λk i hi=>by
  rcases k7 with⟨_,h0⟩ | ⟨bt,ot,V,e,hbD,hb',G⟩
  ·rw [h0]at hi;simp at hi
  ·exact⟨bt,ot,V,e,by rw [Mn (w:=w) (k.kp.block bt hb' (hD bt hbD).1)];exact G i _ (Mo hi)⟩
 have tth:∀{w':World},Km b w w'->∀i (h:i< u.ths.length) (h':i< ts.length),af D w' (tl [u.ths[i]]) [ts[i]]:=λk i h h'=>af.kp k.kp (λg Z=>(hD g Z).1) (k9 i h h')
 have hthl:u.ths.length<=60:=by
  have:∀u:U,u.ths.length<=u.size:=by
   intro u
   induction u with
   | par p q _ ih=>simp only [T.ths,Mm,T.size];omega
   | res x p ih=>simp only [T.ths,T.size];omega
   | _=>simp [T.ths,T.size]
  have :=this u;omega
 have hol:∀i (h:i< u.ths.length),(offs u.ths[i]).length<=60:=λi h=>by
  have h1:=eY u.ths[i];have h2:=eg u _ (Mx h);omega
 have hE2:∀i c d p k,k< u.ths.length->(E2 u i c d p k).length<=60:=λi c d p k hk=>by
  unfold E2;split
  ·simp
  ·rw [cD hk];have h1:=gM (f:=E3 u i k c d p) (c:=1) (l:=offs u.ths[k]) λx _=>by
    cases x with
    | rcv e' x q s=>unfold E3;simp only;split<;>simp
    | _=>simp [E3]
   have :=hol k hk;omega
 have hE2s:∀i c d p k,k<=u.ths.length->((List.range k).flatMap (E2 u i c d p)).length<=3600:=λi c d p k hk=>by
  have h1:=gM (f:=E2 u i c d p) (c:=60) (l:=List.range k) λx hx=>hE2 i c d p x (by have :=NV.1 hx;omega)
  rw [OJ]at h1;omega
 have hE1:∀i o,(E1 u i o).length<=3600:=λi o=>by
  cases o with
  | tau p=>simp [E1]
  | rcv=>simp [E1]
  | snd c d p=>exact hE2s i c d p _ (Mu _)
 have hE1s:∀i j (h:i< u.ths.length),(((offs u.ths[i]).take j).flatMap (E1 u i)).length<=216000:=λi j h=>by
  have h1:=gM (f:=E1 u i) (c:=3600) (l:=(offs u.ths[i]).take j) λx _=>hE1 i x
  rw [M5]at h1;have :=hol i h;omega
 have hE0:∀i,i< u.ths.length->(E0 u i).length<=216000:=λi h=>by
  have :=hE1s i (offs u.ths[i]).length h;rw [MR]at this;unfold E0;rw [cD h];exact this
 have hE0s:∀i,i<=u.ths.length->((List.range i).flatMap (E0 u)).length<=12960000:=λi hi=>by
  have h1:=gM (f:=E0 u) (c:=216000) (l:=List.range i) λx hx=>hE0 x (by have :=NV.1 hx;omega)
  rw [OJ]at h1;omega
 refine⟨b,0,rfl,ptr bl,cb2 r3.km,bl,0,rfl,vt,cbl r3.km k5,at_,_,capt,hvt,λx w'=>∃(i:Nat) (M:Nat->Prop),x=i/\i<=ts.length/\qk b b2 (num t e0 0).2 (60* ((List.range i).flatMap (E0 u)).length) w w' ((List.range i).flatMap (E0 u)) M,λx _=>(ts.length - x).toNat,⟨0,_,rfl,Nl _,by simpa using r3⟩,λx w16 hI=>?_⟩;obtain⟨i,M,rfl,hi,H⟩:=hI;refine⟨λhlt=>?_,λhge=>?_⟩;rotate_left
 ·have hil:i=u.ths.length:=by simp only [Mw]at hge;omega
  rw [hil]at H;have hlen:=hE0s u.ths.length (Mu _);have e:(List.range u.ths.length).flatMap (E0 u)=gu u:=rfl;rw [e]at H hlen;have hol2:(outs (gu u)).length=(gu u).length:=by unfold outs;simp
  refine EH H.rs (by omega) (λδ=>hR1 ?_ w16 H.km.kp) λδ v' w' k s hv=>hR2 _ ?_ v' w' ?_ s.strs λg Z=>(H.rs.mr g (hv g Z)).1
  ·unfold ql;rw [MJ];intro h;rw [h]at δ;cases δ
  ·unfold ql;rw [MZ];cases h:iH (gu u)with
   | true=>rfl
   | false=>rw [h]at δ;cases δ
  ·exact Kp.trans H.km.kp k λg Z hM=>by have :=(H.rs.mr g hM).1;omega
 have hil:i< ts.length:=by simp only [Mz]at hlt;omega
 have α:i< u.ths.length:=by omega
 obtain⟨bt,ot,V,hvt',hct⟩:=ξ H.km i hil;have ο:=su.th _ (Mx α);have hsi:=eg u _ (Mx α);have s16:=H.km.size;refine⟨bt,ot,_,V,hvt',by omega,by omega,ts[i],by rw [Mv,MW];exact hct,sR ο.1 ο.2.1 ο.2.2 (su.smp _ (Mx α)) (by omega) (λg Z=>by have :=(hD g Z).2;omega) (tth H.km i α hil) λv22 w23 xs x23 ς hm23=>?_⟩;have ek:(List.range (i+1)).flatMap (E0 u)=(List.range i).flatMap (E0 u)++E0 u i:=by rw [O7,NM];simp
 have eE0:E0 u i=(offs u.ths[i]).flatMap (E1 u i):=by unfold E0;rw [cD α]
 have holi:=hol i α;have hE1i:=λj=>hE1s i j α
 have hofm:∀o∈offs u.ths[i],o∈offs u.ths[i]:=λ _ h=>h
 generalize hos:offs u.ths[i]=os at*;have υ:∃a cap,v22= .slice a os.length cap:=by
  rcases ς.cell with⟨h1,h2,_⟩ | ⟨g,cap,h1,_⟩
  ·exact⟨none,0,by rw [h1,h2]⟩
  ·exact⟨_,cap,h1⟩
 obtain⟨av,cav,υ⟩:=υ;have r23:=H.ex x23;have s23:=x23.size;have hacci:=hE0s i (by omega);generalize hA:(List.range i).flatMap (E0 u)=A at*;refine⟨av,_,cav,υ,λx w'=>∃(j:Nat) (M':Nat->Prop),x=j/\j<=os.length/\qk b b2 (num t e0 0).2 (60* (A++(os.take j).flatMap (E1 u i)).length) w w' (A++(os.take j).flatMap (E1 u i)) M'/\Rel b w23 M w' M',λx _=>(os.length - x).toNat,⟨0,M,rfl,Nl _,by simpa using r23,Rel.refl b w23 M⟩,λx w30 hI=>?_⟩;obtain⟨j,M',rfl,hj,κ,β⟩:=hI;refine⟨λhlt2=>?_,λhge2=>?_⟩;rotate_left
 ·have φ:j=os.length:=by simp only [Mw]at hge2;omega
  rw [φ,MR,<-eE0,<-ek]at κ;exact⟨by omega,⟨i+1,M',by omega,by omega,κ⟩,tN (by omega)⟩
 have φ:j< os.length:=by simp only [Mz]at hlt2;omega
 have hDM:∀g,D g->¬(g=b\/M g):=λg Z e=>e.elim (hD g Z).1 λhM=>by have :=(hD g Z).2;have :=(H.rs.mr g hM).1;omega
 have hMv:∀g,v22.ownBlock=some g->¬(g=b\/M g):=λg Z e=>by
  have h1:=ς.block g Z;exact e.elim (λe=>by omega) λhM=>by have :=(H.rs.mr g hM).2;omega
 have ho30:=ς.kp β.1 hMv;have hm30:=OffsM.kp β.1 hDM hm23;obtain⟨g,cap,cs,hvg,W,G⟩:=xt ho30 hm30 φ;obtain⟨kk,a1,b1,vr,s1,rfl,hone⟩:=W.any;have s30:=β.1.size;refine⟨g,0,_,cap,hvg,by omega,by omega,kk,a1,b1,vr,s1,⟨G 0 _ rfl _ (by omega) (by omega),G 1 _ rfl _ (by omega) (by omega),G 2 _ rfl _ (by omega) (by omega),G 3 _ rfl _ (by omega) (by omega),G 4 _ rfl _ (by omega) (by omega),trivial⟩,λb40 w41 hb40 hw41=>?_⟩;obtain⟨box1,box2⟩:=Be (cs:=cL kk a1 b1 vr s1) rfl hb40 hw41;refine⟨⟨rfl,sD hone,box1⟩,λθ hw42=>?_⟩;obtain⟨χ,l42,ε⟩:=box2 θ hw42;have s42:=χ.size;have ι:=κ.ex χ;have htk:(os.take (j+1)).flatMap (E1 u i)=(os.take j).flatMap (E1 u i)++E1 u i os[j]:=by rw [Mq φ,NM];simp
 have hE1j:=hE1i j;have nb40:∀g,w30.heap.size<=g->¬(g=b\/M' g):=λg Z e=>e.elim (λe=>by have :=κ.km.size;omega) λhM=>by have :=(κ.rs.mr g hM).2;omega
 have ζ:=nb40 b40 (by omega);have γ:os[j]∈os:=Mx φ;have rel42:=β.ex χ;have next:∀w' M2,qk b b2 (num t e0 0).2 (60* (A++(os.take j).flatMap (E1 u i)++E1 u i os[j]).length) w w' (A++(os.take j).flatMap (E1 u i)++E1 u i os[j]) M2->Rel b θ M' w' M2->bJ ((j:Int)+1)/\(∃(j2:Nat) (M3:Nat->Prop),(j:Int)+1=j2/\j2<=os.length/\qk b b2 (num t e0 0).2 (60* (A++(os.take j2).flatMap (E1 u i)).length) w w' (A++(os.take j2).flatMap (E1 u i)) M3/\Rel b w23 M w' M3)/\((os.length:Int) - ((j:Int)+1)).toNat< ((os.length:Int) - j).toNat:=by
  intro w' M2 r rel;refine⟨by omega,⟨j+1,M2,by omega,by omega,?_,rel42.trans rel⟩,by omega⟩;rw [htk,<-M8];exact r
 have hvr:∀p,(os[j]= .tau p\/(∃c d,os[j]= .snd c d p))->az D θ (td p) vr:=λp hp=>by
  rcases hp with hp | ⟨c,d,hp⟩
  ·rw [hp]at W;obtain⟨_,_,vr',_,e1,h1⟩:=W;simp only [cL,Nj]at e1;rw [e1.2.2.2.1];exact az.ex h1 χ
  ·rw [hp]at W;obtain⟨vr',_,e1,h1⟩:=W;simp only [cL,Nj]at e1;rw [e1.2.2.2.1];exact az.ex h1 χ
 cases η:os[j]with
 | tau p=>
  have hk:kk=126:=by
   rw [η]at W;obtain⟨_,_,_,_,e1,_⟩:=W;simp only [cL,Nj,NQ]at e1;exact MQ.1 (by have e2:=e1.1.2;have e3:(126:UInt8).toNat=126:=rfl;omega)
  subst hk;rw [η]at next γ;refine⟨λw'=>∃M2,qk b b2 (num t e0 0).2 (60* (A++(os.take j).flatMap (E1 u i)++E1 u i (.tau p)).length) w w' (A++(os.take j).flatMap (E1 u i)++E1 u i (.tau p)) M2/\Rel b θ M' w' M2,⟨126,ε 0 (by omega),cN (by decide) ?_⟩,λμ hJ=>?_⟩
  ·refine JS ok su hsz ι (cb2 ι.km) (hlw ι.km) hD α (by rw [hos];exact γ) (ε 3 (by omega)) l42 (λhM=>ζ (.inr hM)) (hvr p (.inl η)) (by rw [Mt];omega) λw3 M3 r3 k3 hM3=>⟨M3,?_,⟨Kp.mono (λ _ h=> .inr h) k3,hM3⟩⟩
   exact r3.mono (by simp only [Mt];omega)
  ·obtain⟨M2,r70,ψ⟩:=hJ;refine⟨126,?_,λ _=>next μ M2 r70 ψ,λh=>absurd h (by decide)⟩;rw [Mn (w:=θ) (ψ.1.block b40 l42 ζ)];exact ε 0 (by omega)
 | rcv a x q s=>
  have hk:kk=63:=by
   rw [η]at W;obtain⟨_,e1,_⟩:=W;simp only [cL,Nj,NQ]at e1;exact MQ.1 (by have e2:=e1.1.2;have e3:(63:UInt8).toNat=63:=rfl;omega)
  subst hk;rw [η]at next;refine⟨λw'=>w'=θ,⟨63,ε 0 (by omega),aT (by decide) rfl⟩,λμ hJ=>?_⟩;subst hJ;refine⟨63,ε 0 (by omega),λ _=>next μ M' ?_ (Rel.refl _ _ _),λh=>absurd h (by decide)⟩;have e:E1 u i (.rcv a x q s)=[]:=rfl;rw [e,MY];exact ι
 | snd c d p=>
  have hk:kk=33/\a1=c/\b1=d:=by
   rw [η]at W;obtain⟨_,_,e1,_⟩:=W;simp only [cL,Nj,NQ]at e1;have e3:(33:UInt8).toNat=33:=rfl;exact⟨MQ.1 (by have e2:=e1.1.2;omega),by have :=e1.2.1.2;omega,by have :=e1.2.2.1.2;omega⟩
  obtain⟨rfl,rfl,rfl⟩:=hk;rw [η]at next γ;refine⟨λw'=>w'=θ,⟨33,ε 0 (by omega),aT (by decide) rfl⟩,λμ hJ=>?_⟩;subst hJ;refine⟨33,ε 0 (by omega),λh=>absurd h (by decide),λ _=>?_⟩;refine⟨b,0,rfl,ptr bl,cb2 ι.km,bl,0,rfl,vt,cbl ι.km k5,at_,_,capt,hvt,λx w'=>∃(k:Nat) (M2:Nat->Prop),x=k/\k<=ts.length/\qk b b2 (num t e0 0).2 (60* (A++(os.take j).flatMap (E1 u i)++(List.range k).flatMap (E2 u i a1 b1 p)).length) w w' (A++(os.take j).flatMap (E1 u i)++(List.range k).flatMap (E2 u i a1 b1 p)) M2/\Rel b μ M' w' M2,λx _=>(ts.length - x).toNat,⟨0,M',rfl,Nl _,by simpa using ι,Rel.refl _ _ _⟩,λx w84 hI=>?_⟩;obtain⟨k,M2,rfl,hk,ω,J⟩:=hI;refine⟨λhlt3=>?_,λhge3=>?_⟩;rotate_left
  ·have hkl:k=u.ths.length:=by simp only [Mw]at hge3;omega
   rw [hkl]at ω;exact next w84 M2 ω J
  have hkl:k< ts.length:=by simp only [Mz]at hlt3;omega
  have hku:k< u.ths.length:=by omega
  obtain⟨bt2,ot2,capt2,hvt2,hct2⟩:=ξ ω.km k hkl;have hE2k:=hE2s i a1 b1 p k (by omega);have s84:=J.1.size;have hDM':∀g,D g->¬(g=b\/M' g):=λg Z e=>e.elim (hD g Z).1 λhM=>by have :=(hD g Z).2;have :=(κ.rs.mr g hM).1;omega
  refine⟨bt2,ot2,_,capt2,hvt2,by omega,by omega,ts[k],by rw [Mv,MW];exact hct2,?_⟩;refine Ku (D:=D) hu.symm rfl ok su hsz hcl0 hl0 hD α hku (by rw [hos];exact γ) ω (by simp only [Mt];omega) (λjj hjj=>by rw [Mn (w:=μ) (J.1.block b40 l42 ζ)];exact ε jj hjj) (by omega) (λhM=>(J.2 b40 hM).elim (λh=>ζ (.inr h)) λh=>by omega) (λe=>ζ (.inl e)) (az.kp (hvr p (.inr ⟨_,_,η⟩)) J.1 hDM') (tth ω.km k hku hkl) λw3 M3 r3 rel3=>⟨by omega,⟨k+1,M3,by omega,by omega,?_,J.trans rel3⟩,tN (by omega)⟩
  have e5:(List.range (k+1)).flatMap (E2 u i a1 b1 p)=(List.range k).flatMap (E2 u i a1 b1 p)++E2 u i a1 b1 p k:=by rw [O7,NM];simp
  rw [e5,<-M8];exact r3
end Go.Proofs.YtdecokaadekjnaaGreat
namespace Go.Proofs.YtdecokaadekjnaaGreat
open Go Go.RowKit T Classical
def St (s:Tx):Prop:=∃t,lP t/\t.text=s
theorem lP.uniq {t G:P}(a:lP t)(b:lP G)(h:t.text=G.text):t=G:=eZ a.al.wf b.al.wf h
noncomputable def uz (s:Tx):Option (List Tx):=if h:St s then ql (num h.choose e0 0).1 else none
theorem G6 {t:P}(ok:lP t):uz t.text=ql (num t e0 0).1:=by
 have h:St t.text:=⟨t,ok,rfl⟩
 unfold uz;rw [dif_pos h,(h.choose_spec.1).uniq ok h.choose_spec.2]
theorem BN {u:U}(h:Nu u)(G:u.smp=true){s:Tx}(e:jP u=some s):St s:=by
 obtain⟨t,v,n⟩:=Gf h e;exact⟨t,n.Ml h G,n.text⟩
theorem FF (w:World){s:Tx}{l:List Tx}(h:uz s=some l):∀x∈l,St x:=by
 unfold uz at h;split at h
 ·rename_i G;have ok:=G.choose_spec.1;generalize G.choose=t at ok h;have su:=ok.su;generalize (num t e0 0).1=u at su h;unfold ql at h;split at h
  ·rename_i W;cases h;intro x H;rw [JA,(aE _).mem_iff]at H;obtain⟨v,J,rfl⟩:=Nb.1 H;obtain⟨Z,h2⟩:=GR w ok su v J;have V:=Ou.1 W v J;cases e:jP v with
   | none=>rw [e]at V;cases V
   | some y=>exact BN Z h2 e
  ·cases h
 ·cases h
def Lb (s:Tx):Prop:=∃t:P,t.Al (λc=>lt c=true)/\t.text=s/\di s/\t.smp=true
noncomputable def cT (s:Tx):Option Tx:=if h:Lb s then jP (num h.choose e0 0).1 else none
theorem ph {t:P}(al:t.Al λc=>lt c=true)(g:di t.text)(G:t.smp=true):cT t.text=jP (num t e0 0).1:=by
 have h:Lb t.text:=⟨t,al,rfl,g,G⟩
 unfold cT;rw [dif_pos h,eZ h.choose_spec.1.wf al.wf h.choose_spec.2.1]
theorem gW {s:Tx}(h:¬Lb s):cT s=none:=by unfold cT;rw [dif_neg h]
theorem vw {s n:Tx}(h:cT s=some n):St n:=by
 unfold cT at h;split at h
 ·rename_i G;exact BN (kI G.choose_spec.1) ((tq (j5 G.choose_spec.1)).symm.trans G.choose_spec.2.2.2) h
 ·cases h
theorem lP.good {t:P}(ok:lP t):di t.text:=⟨ok.len,t,ok.al,rfl,ok.size⟩
theorem vT {t:P}(ok:lP t):cT t.text=some t.text:=(ph ok.al ok.good ok.smp).trans ok.nf
def nk (a:List Tx)(s:Tx):List Tx:=if s∈a then a else a++[s]
def cf (a l:List Tx):List Tx:=l.foldl nk a
theorem lK {a l:List Tx}{i:Nat}(h:i< l.length):cf a (l.take (i+1))=nk (cf a (l.take i)) l[i]:=by
 unfold cf;rw [Mq h,List.foldl_append];rfl
theorem Gi {a:List Tx}{s:Tx}:a<+:nk a s:=by
 unfold nk;split
 ·exact List.prefix_refl _
 ·exact List.prefix_append _ _
theorem rL:∀{l a:List Tx},a<+:cf a l
 | [],_=>List.prefix_refl _
 | s::l,a=>Gi.trans (rL (l:=l) (a:=nk a s))
theorem tr:∀{l a:List Tx} {x:Tx},x∈cf a l↔x∈a\/x∈l
 | [],_,_=>by simp [cf]
 | s::l,a,x=>by
  have e:cf a (s::l)=cf (nk a s) l:=rfl;rw [e,tr (l:=l)];unfold nk;split
  ·rename_i h;constructor
   ·rintro(G | G)
    ·exact .inl G
    ·exact .inr (MD _ G)
   ·rintro(G | G)
    ·exact .inl G
    ·rcases MH.1 G with rfl | G
     ·exact .inl h
     ·exact .inr G
  ·simp only [My,MH,OW,Px];exact Pm
theorem tP:∀(l a:List Tx),(cf a l).length<=a.length+l.length
 | [],_=>Mu _
 | s::l,a=>by
  have e:cf a (s::l)=cf (nk a s) l:=rfl;have h:=tP l (nk a s);rw [e];have:(nk a s).length<=a.length+1:=by
   unfold nk;split<;>simp
  simp only [Mm];omega
noncomputable def bfs:Nat->List Tx->Nat->Option (List Tx)
 | 0,_,_=>none
 | f+1,all,i=>if h:i< all.length then(match uz all[i]with
   | none=>none
   | some l=>if 60< (cf all l).length then none else bfs f (cf all l) (i+1))else some all
noncomputable def cI (s:Tx):Option (List Tx):=(cT s).bind λn=>bfs 62 [n] 0
theorem Cl {all:List Tx}{i:Nat}(H:all.length<=60)(h:¬i< all.length)(hi:i<=all.length):bfs (62 - i) all i=some all:=by
 obtain⟨k,G⟩:∃k,62 - i=k+1:=⟨61 - i,by omega⟩
 rw [G];unfold bfs;rw [dif_neg h]
theorem zF {all:List Tx}{i:Nat}(J:all.length<=60)(h:i< all.length)(G:uz all[i]=none):bfs (62 - i) all i=none:=by
 obtain⟨k,H⟩:∃k,62 - i=k+1:=⟨61 - i,by omega⟩
 rw [H];unfold bfs;rw [dif_pos h,G]
theorem Cd {all l:List Tx}{i:Nat}(J:all.length<=60)(h:i< all.length)(G:uz all[i]=some l)(hb:60< (cf all l).length):bfs (62 - i) all i=none:=by
 obtain⟨k,H⟩:∃k,62 - i=k+1:=⟨61 - i,by omega⟩
 rw [H];unfold bfs;rw [dif_pos h,G];simp only;rw [MZ hb]
theorem yN {all l:List Tx}{i:Nat}(J:all.length<=60)(h:i< all.length)(G:uz all[i]=some l)(hb:¬60< (cf all l).length):bfs (62 - i) all i=bfs (62 - (i+1)) (cf all l) (i+1):=by
 have H:62 - i=(62 - (i+1))+1:=by omega
 rw [H];conv=>lhs;unfold bfs
 rw [dif_pos h,G];simp only;rw [MJ hb]
def Off.over {A:Type}(k:UInt8):Off A->Option A
 | .tau _=>none
 | .snd a _ _=>if k=33 then some a else none
 | .rcv a _ _ _=>if k=63 then some a else none
def Lp (k:UInt8)(t:P)(c:UInt8):Prop:=c∉t.frL/\∃p∈t.ths,∃o∈offs p,o.over k=some c
noncomputable def Hc (k:UInt8)(t:P):Tx:=qX.filter λc=>decide (Lp k t c)
noncomputable def Aj (k:UInt8)(s:Tx):Tx:=if h:St s then Hc k h.choose else []
theorem C7 {k:UInt8}{t:P}(ok:lP t):Aj k t.text=Hc k t:=by
 have h:St t.text:=⟨t,ok,rfl⟩
 unfold Aj;rw [dif_pos h,(h.choose_spec.1).uniq ok h.choose_spec.2]
theorem rm {c:UInt8}:c∈qX↔lt c=true:=by
 refine⟨Gg,λh=>?_⟩;have :=bg h;refine Nb.2 ⟨c.toNat - 97,NV.2 (by omega),MQ.1 ?_⟩;rw [NB];omega
theorem nH {A:Type}{c:Prop}[Decidable c]{x a:A}(h:(if c then some x else none)=some a):x=a:=by
 by_cases G:c
 ·rw [MZ G]at h;exact Ng h
 ·rw [MJ G]at h;cases h
end Go.Proofs.YtdecokaadekjnaaGreat
