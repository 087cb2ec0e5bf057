/- Part 4 of a proof of what the last text states; no condition. -/
import Derived.Test.YtdecokaadekjnaaGreatY3
namespace Go.Proofs.YtdecokaadekjnaaGreat
open Go
set_option maxRecDepth 100000
theorem kW (n1:Value)(t2:Value)(w:World)(R:ay->World->Prop)(h:az t2 λb3 o4=>fK w b3 (o4+0) λc5=>ai (decide (c5=43)) (aR w (.cells #[] 9) λb6 w7=>az t2 λb8 o9=>aU w7 b8 (o9+4) λv10=>bL v10 λl12=>pC ((.slice (some ⟨b6,0,none⟩) 0 0)) 0 w7 λI14 ι t16 I α=>ai (decide (I< (l12:Int))) (aK v10 I λb19 o20=>aU α b19 (o20+I.toNat* 1) λv23=>bg 237 #[n1,v23] α λs24 w25=>aR w25 (.cells #[(.string (ab s24))] 9) λb26 w27=>fB 9 1 16 w27 t16 (.slice (some ⟨b26,0,none⟩) 1 1) λκ μ=>aj (I+1)/\I14 κ (I+1) μ/\ι κ (I+1) μ< ι t16 I α) (bg 255 #[t16,(.string (ab [43]))] α λs35 w36=>R s35 w36)) (ai (decide (c5=42)) (az t2 λb37 o38=>aU w b37 (o38+3) λv39=>bg 237 #[n1,v39] w λν w41=>(List.length [42]+ν.length<=4611686018427387904)/\R ([42]++ν) w41) (ai (decide (c5=126)) (az t2 λb42 o43=>aU w b42 (o43+3) λv44=>bg 237 #[n1,v44] w λξ w46=>(List.length [126,46]+ξ.length<=4611686018427387904)/\R ([126,46]++ξ) w46) (ai (decide (c5=61)) (bJ w λβ w48=>az t2 λb49 o50=>jQ β b49 (o50+1) λn51=>az t2 λb52 o53=>jQ β b52 (o53+2) λn54=>bg 253 #[n1,(.int .i64 n51)] w48 λz ο=>β ο/\bg 253 #[n1,(.int .i64 n54)] ο λG θ=>β θ/\(List.length [91]+List.length (if(Op.bytesLess z G||decide (z=G))then z else G)<=4611686018427387904)/\(List.length ([91]++(if(Op.bytesLess z G||decide (z=G))then z else G))+List.length [61]<=4611686018427387904)/\(List.length (([91]++(if(Op.bytesLess z G||decide (z=G))then z else G))++[61])+List.length (if(!Op.bytesLess z G)then z else G)<=4611686018427387904)/\(List.length ((([91]++(if(Op.bytesLess z G||decide (z=G))then z else G))++[61])++(if(!Op.bytesLess z G)then z else G))+List.length [93]<=4611686018427387904)/\az t2 λb59 o60=>aU θ b59 (o60+3) λv61=>bg 237 #[n1,v61] θ λς w63=>(List.length (((([91]++(if(Op.bytesLess z G||decide (z=G))then z else G))++[61])++(if(!Op.bytesLess z G)then z else G))++[93])+ς.length<=4611686018427387904)/\R (((((([91]++(if(Op.bytesLess z G||decide (z=G))then z else G))++[61])++(if(!Op.bytesLess z G)then z else G))++[93])++ς)) w63) (ai (decide (c5=63)) (az t2 λb64 o65=>oI w b64 (o65+2) λn66=>EW 252 #[n1,(.int .i64 n66)] w λm67 w68=>bJ w68 λV w70=>az t2 λb71 o72=>jQ V b71 (o72+1) λn73=>az t2 λb74 o75=>jQ V b74 (o75+2) λn76=>az t2 λb77 o78=>cA V b77 (o78+3) λv79=>bg 253 #[n1,(.int .i64 n73)] w70 λZ υ=>V υ/\(Z.length+List.length [63]<=4611686018427387904)/\bg 253 #[n1,(.int .i64 n76)] υ λγ φ=>V φ/\(List.length (Z++[63])+γ.length<=4611686018427387904)/\(List.length ((Z++[63])++γ)+List.length [46]<=4611686018427387904)/\bg 237 #[n1,v79] φ λχ ψ=>V ψ/\(List.length (((Z++[63])++γ)++[46])+χ.length<=4611686018427387904)/\az n1 λb86 o87=>bj ψ b86 (o87+1) (.int .u32 (UInt32.toNat m67)) λw89=>R (((((Z++[63])++γ)++[46])++χ)) w89) (bJ w λW w91=>az t2 λb92 o93=>jQ W b92 (o93+1) λn94=>az t2 λb95 o96=>jQ W b95 (o96+2) λn97=>az t2 λb98 o99=>cA W b98 (o99+3) λω=>bg 253 #[n1,(.int .i64 n94)] w91 λH δ=>W δ/\(H.length+List.length [33]<=4611686018427387904)/\bg 253 #[n1,(.int .i64 n97)] δ λJ ε=>W ε/\(List.length (H++[33])+J.length<=4611686018427387904)/\(List.length ((H++[33])++J)+List.length [46]<=4611686018427387904)/\bg 237 #[n1,ω] ε λζ η=>W η/\(List.length (((H++[33])++J)++[46])+ζ.length<=4611686018427387904)/\R (((((H++[33])++J)++[46])++ζ)) η)))))):
  Calls Tryz.prog 254 #[n1,t2] w (ax [.s] R):=
 bc (a8 [(5,[(5,.v),(24,.i)])] [] [15,19,22]) [.tmp 4 .s] [.v n1,.v t2] Tryz.func254 (by kernel_rfl) h
theorem jT (c1:Value)(c2:Value)(c3:Value)(c4:Value)(c5:Value)(w:World)(R:World->Prop)(h:az c1 λb6 o7=>aU w b6 o7 λv8=>bL v8 λl10=>lf ([]) 0 w λI12 δ z G J=>ai (decide (G< (l10:Int))) (aK v8 G λb17 o18=>oI J b17 (o18+G.toNat* 1) λε=>az c2 λb22 o23=>aU J b22 o23 λv24=>EW 252 #[v24,(.int .i64 ε)] J λm25 ζ=>az c2 λb27 o28=>aU ζ b27 o28 λv29=>bg 253 #[v29,(.int .i64 ε)] ζ λV η=>(List.length [35]+V.length<=4611686018427387904)/\(List.length ([35]++V)+List.length [46]<=4611686018427387904)/\(z.length+List.length (([35]++V)++[46])<=4611686018427387904)/\aj (G+1)/\I12 ((z++(([35]++V)++[46]))) (G+1) η/\δ ((z++(([35]++V)++[46]))) (G+1) η< δ z G J) (aR J (.cells #[] 9) λb32 β=>az c3 λb34 o35=>aU β b34 o35 λv36=>az v36 λb37 o38=>aU β b37 (o38+1) λθ=>bL θ λl41=>pC ((.slice (some ⟨b32,0,none⟩) 0 0)) 0 β λI43 ι t45 H W=>ai (decide (H< (l41:Int))) (aK θ H λb48 o49=>aU W b48 (o49+H.toNat* 1) λv52=>az c2 λb53 o54=>aU W b53 o54 λv55=>bg 254 #[v55,v52] W λs56 w57=>aR w57 (.cells #[(.string (ab s56))] 9) λb58 w59=>fB 9 1 16 w59 t45 (.slice (some ⟨b58,0,none⟩) 1 1) λκ μ=>aj (H+1)/\I43 κ (H+1) μ/\ι κ (H+1) μ< ι t45 H W) (bg 255 #[t45,(.string (ab [38]))] W λα I=>(z.length+α.length<=4611686018427387904)/\az c4 λb69 o70=>cD I b69 o70 λs71=>gF (decide (s71=[])) (az c4 λb72 o73=>cD I b72 o73 λs74=>ai (Op.bytesLess (z++α) s74) (az c4 λb75 o76=>bj I b75 o76 (.string (ab (z++α))) λγ=>az c2 λb79 o80=>aU γ b79 o80 λv81=>az c5 λb82 o83=>Hu γ b82 o83 λm84=>az v81 λb85 o86=>bj γ b85 (o86+1) (.int .u32 (UInt32.toNat m84)) λw88=>R w88) (az c2 λb89 o90=>aU I b89 o90 λv91=>az c5 λb92 o93=>Hu I b92 o93 λm94=>az v91 λb95 o96=>bj I b95 (o96+1) (.int .u32 (UInt32.toNat m94)) λw98=>R w98)) (az c4 λb99 ν=>bj I b99 ν (.string (ab (z++α))) λZ=>az c2 λξ ο=>aU Z ξ ο λv105=>az c5 λς υ=>Hu Z ς υ λφ=>az v105 λχ ψ=>bj Z χ (ψ+1) (.int .u32 (UInt32.toNat φ)) λω=>R ω)))):
  Calls Tryz.prog 251 #[c1,c2,c3,c4,c5] w (ax [] R):=
 bc (a8 [(2,[(5,.s),(14,.i)]),(9,[(8,.v),(35,.i)])] [] []) [] [.v c1,.v c2,.v c3,.v c4,.v c5] Tryz.func251 (by kernel_rfl) h
theorem lj (z:Value)(a2:Int)(d3:Value)(w:World)(R:World->Prop)(h:bL z λl5=>ai (decide (a2=(l5:Int))) (∃(f7:Nat) (c8:List Value),d3= .func (.func f7) #[] (List.toArray c8)/\List.contains dy f7=true/\fC f7 (List.toArray ([]++c8)) w λw9=>R w9) (fZ a2 w λW H i12 G=>bL z λZ=>ai (decide (i12< (Z:Int))) (bJ G λI α=>aK z i12 λβ γ=>jQ I β (γ+i12.toNat* 1) λδ=>aK z a2 λε ζ=>jQ I ε (ζ+a2.toNat* 1) λη=>aK z a2 λθ ι=>bj α θ (ι+a2.toNat* 1) (.int .i64 δ) λκ=>aK z i12 λμ ν=>bj κ μ (ν+i12.toNat* 1) (.int .i64 η) λξ=>aj (a2+1)/\fC 250 #[z,(.int .i64 (a2+1)),d3] ξ λο=>bJ ο λJ ς=>aK z i12 λυ φ=>jQ J υ (φ+i12.toNat* 1) λχ=>aK z a2 λψ ω=>jQ J ψ (ω+a2.toNat* 1) λn53=>aK z a2 λb54 o55=>bj ς b54 (o55+a2.toNat* 1) (.int .i64 χ) λw59=>aK z i12 λb60 o61=>bj w59 b60 (o61+i12.toNat* 1) (.int .i64 n53) λV=>aj (i12+1)/\W (i12+1) V/\H (i12+1) V< H i12 G) (R G))):
  Calls Tryz.prog 250 #[z,(.int .i64 a2),d3] w (ax [] R):=
 bc (a8 [(3,[(6,.i)])] [] [5,7]) [] [.v z,.i a2,.v d3] Tryz.func250 (by kernel_rfl) h
theorem lY (n1:Value)(l2:Value)(w:World)(R:ay->World->Prop)(h:oneV n1=true/\aR w (.cells #[n1] 247) λb3 w4=>oneV l2=true/\aR w4 (.cells #[l2] 146) λb5 w6=>aU w6 b5 0 λv7=>bT 181 #[v7] w6 λq8 w9=>ai q8 (R ([48]) w9) (bJ w9 λz J=>cA z b3 0 λv12=>az v12 λκ μ=>HD z κ (μ+1) λV=>(aR J (.cells #[(.string ⟨#[]⟩)] 9) λb16 W=>z W/\aR W (.cells #[(.int .u32 0)] 73) λb18 Z=>z Z/\bj Z b16 0 (.string (ab [])) λα=>z α/\bj α b18 0 (.int .u32 (UInt32.toNat V)) λG=>aU G b5 0 λv24=>az v24 λν ξ=>aU G ν (ξ+0) λο=>cd 180 #[ο] G λv28 ς=>aR ς (.cells #[(.slice none 0 0)] 36) λb30 υ=>oneV v28=true/\bj υ b30 0 v28 λβ=>aU β b30 0 λφ=>fC 250 #[φ,(.int .i64 0),(Value.func (Fn.func 251) #[] #[(.pointer (some ⟨b30,0,none⟩)),(.pointer (some ⟨b3,0,none⟩)),(.pointer (some ⟨b5,0,none⟩)),(.pointer (some ⟨b16,0,none⟩)),(.pointer (some ⟨b18,0,none⟩))])] β λγ=>cD γ b16 0 λχ=>R χ γ)/\(aR J (.cells #[(.int .u32 0)] 73) λδ ε=>z ε/\aR ε (.cells #[(.string ⟨#[]⟩)] 9) λb39 ζ=>z ζ/\bj ζ b39 0 (.string (ab [])) λη=>z η/\bj η δ 0 (.int .u32 (UInt32.toNat V)) λH=>aU H b5 0 λψ=>az ψ λω o47=>aU H ω (o47+0) λv48=>cd 180 #[v48] H λv49 w50=>aR w50 (.cells #[(.slice none 0 0)] 36) λI w52=>oneV v49=true/\bj w52 I 0 v49 λθ=>aU θ I 0 λv55=>fC 250 #[v55,(.int .i64 0),(Value.func (Fn.func 251) #[] #[(.pointer (some ⟨I,0,none⟩)),(.pointer (some ⟨b3,0,none⟩)),(.pointer (some ⟨b5,0,none⟩)),(.pointer (some ⟨b39,0,none⟩)),(.pointer (some ⟨δ,0,none⟩))])] θ λι=>cD ι b39 0 λs57=>R s57 ι))):
  Calls Tryz.prog 237 #[n1,l2] w (ax [.s] R):=
 bc (a8 [] [] [3]) [.tmp 4 .s] [.v n1,.v l2] Tryz.func237 (by kernel_rfl) h
theorem kU (l1:Value)(w:World)(R:ay->Bool->World->Prop)(h:cd 139 #[l1] w λv2 w3=>G' 236 #[v2] w3 λn4 n5 w6=>gF (decide (5< n4)) (ai (decide (8< n5)) (R ([]) false w6) (aR w6 (Obj.map #[] 0) λb7 w8=>oneV (.map (some b7))=true/\aR w8 (.cells #[(.map (some b7)),(.int .u32 (UInt32.toNat 0)),(.bool false),(.int .i64 0)] 250) λb9 β=>fZ 0 β λV G z H=>ai (decide (z< 26)) (bT 220 #[v2,(.int .i64 z)] H λγ I=>ai γ (bJ I λδ ε=>HD δ b9 1 λζ=>0<=(z:Int)/\bj ε b9 1 (.int .u32 (UInt32.toNat (ζ ||| (nD 1 z.toNat):UInt32))) λW=>aj (z+1)/\V (z+1) W/\G (z+1) W< G z H) (aj (z+1)/\V (z+1) I/\G (z+1) I< G z H)) (bg 237 #[(.pointer (some ⟨b9,0,none⟩)),v2] H λZ J=>AN J b9 2 λη=>gF η (bT 238 #[(.string (ab Z))] J λθ α=>ai (!θ) (R ([]) false α) (R Z true α)) (R ([]) false J)))) (R ([]) false w6)):
  Calls Tryz.prog 216 #[l1] w (ax [.s,.b] R):=
 bc (a8 [(7,[(25,.i)])] [] [10]) [.tmp 2 .s,.tmp 3 .b] [.v l1] Tryz.func216 (by kernel_rfl) h
theorem me (t1:Value)(w:World)(R:ay->Bool->World->Prop)(h:aR w (.cells #[(.int .i64 0)] 145) λb2 G=>cd 138 #[] G λv4 H=>cd 137 #[(.pointer (some ⟨b2,0,none⟩)),t1,v4] H λv6 I=>iK 216 #[v6] I λJ V z=>R J V z):
  Calls Tryz.prog 175 #[t1] w (ax [.s,.b] R):=
 bc (a8 [] [] []) [.tmp 2 .s,.tmp 3 .b] [.v t1] Tryz.func175 (by kernel_rfl) h
end Go.Proofs.YtdecokaadekjnaaGreat
namespace Go.Proofs.YtdecokaadekjnaaGreat
open Go Go.RowKit
theorem dj:∀l:Lv,thAll l<=l.tot
 | .nil=>Nat.le_refl _
 | .thr _ _ _ o r n=>by have :=dj r;have :=dj n;simp only [thAll,Lv.tot];omega
 | .sum z n=>by have :=dj z;have :=dj n;simp only [thAll,Lv.tot];omega
 | .part o q n=>by have :=dj q;have :=dj n;simp only [thAll,Lv.tot];omega
def HB (n:Nat):Prop:=∀{D:Nat->Prop} {w:World} {v:Value} {o:List Nat} {l:Lv} {R:Int->Int->World->Prop},l.sz<=n->l.sh true=true->fL D w v o (af D w l)->o.length+l.tot<=1099511627776->
 (∀w',Ex w w'->R ((max o.length (aw l):Nat):Int) ((o.length+thAll l:Nat):Int) w')->Calls Tryz.prog 236 #[v] w (ax [.i,.i] R)
structure FS (w w':World)(bm ba m a:Nat):Prop where
 ex:Ex w w'
 lm:bm< w'.heap.size
 la:ba< w'.heap.size
 hm:w.heap.size<=bm
 ha:w.heap.size<=ba
 ne:bm≠ba
 cm:w'.cell? ⟨bm,0,none⟩=some (iv m)
 ca:w'.cell? ⟨ba,0,none⟩=some (iv a)
 fm:w'.frozen? ⟨bm,0,none⟩=false
 fa:w'.frozen? ⟨ba,0,none⟩=false
theorem FS.ext {w w' w'':World}{bm ba m a:Nat}(h:FS w w' bm ba m a)(x:Ex w' w''):FS w w'' bm ba m a:=
 ⟨Ex.trans h.ex x,Nat.lt_of_lt_of_le h.lm x.size,Nat.lt_of_lt_of_le h.la x.size,h.hm,h.ha,h.ne,by rw [x.cell (show bm< _ from h.lm)];exact h.cm,by rw [x.cell (show ba< _ from h.la)];exact h.ca,
  by rw [World.frozen?_of_block (w:=w') (x.block bm h.lm)];exact h.fm,by rw [World.frozen?_of_block (w:=w') (x.block ba h.la)];exact h.fa⟩
theorem FS.Gb {w w' w'':World}{bm ba m a m':Nat}(h:FS w w' bm ba m a)(hw:w''=w'.setCell ⟨bm,0,none⟩ (iv m')):FS w w'' bm ba m' a:=by
 subst hw;exact⟨Ex.own h.ex h.hm _,by rw [World.size_setCell];exact h.lm,by rw [World.size_setCell];exact h.la,h.hm,h.ha,h.ne,World.cell?_setCell_same _ _ _ h.cm,by rw [World.cell?_setCell_other _ _ _ _ (λe=>by injection e with z;exact h.ne z)];exact h.ca,by rw [World.frozen?_setCell];exact h.fm,by rw [World.frozen?_setCell];exact h.fa⟩
theorem FS.F8 {w w' w'':World}{bm ba m a a':Nat}(h:FS w w' bm ba m a)(hw:w''=w'.setCell ⟨ba,0,none⟩ (iv a')):FS w w'' bm ba m a':=by
 subst hw;exact⟨Ex.own h.ex h.ha _,by rw [World.size_setCell];exact h.lm,by rw [World.size_setCell];exact h.la,h.hm,h.ha,h.ne,by rw [World.cell?_setCell_other _ _ _ _ (λe=>by injection e with z;exact h.ne z.symm)];exact h.cm,World.cell?_setCell_same _ _ _ h.ca,by rw [World.frozen?_setCell];exact h.fm,by rw [World.frozen?_setCell];exact h.fa⟩
theorem Fx {n:Nat}(ih:HB n){D:Nat->Prop}{w w':World}{v:Value}{o:List Nat}{l:Lv}{bm ba m a:Nat}(hs:FS w w' bm ba m a)(hn:l.sz<=n)(V:l.sh true=true)(h:fL D w' v o (af D w' l))(hb:a+o.length+l.tot<=1099511627776){R:World->Prop}
  (hR:∀w'',FS w w'' bm ba (max m (max o.length (aw l))) (a+(o.length+thAll l))->R w''):Calls Tryz.prog 249 #[v,ptr bm,ptr ba] w' (ax [] R):=by
 refine jh v _ _ w' R ?_;have h1:=dj l;refine ih hn V h (by omega) λw6 x6=>⟨λ _=>True,λZ W=>⟨trivial,?_⟩⟩
 have f8:FS w Z bm ba m a:=(hs.ext x6).ext (W▸Ex.drew w6);have em:(if((max o.length (aw l):Nat):Int)> (m:Int)then((max o.length (aw l):Nat):Int)else(m:Int))=((max m (max o.length (aw l)):Nat):Int):=by split<;>omega
 have ea:((a:Int)+((o.length+thAll l:Nat):Int))=((a+(o.length+thAll l):Nat):Int):=by omega
 have J:aj ((a:Int)+((o.length+thAll l:Nat):Int)):=by unfold aj;omega
 have fin:∀w1 w2,FS w w1 bm ba (max m (max o.length (aw l))) a->w2=w1.setCell ⟨ba,0,none⟩ (.int .i64 ((a:Int)+((o.length+thAll l:Nat):Int)))->True/\R w2:=λw1 w2 f1 hw=>by
  rw [ea]at hw;exact⟨trivial,hR w2 (f1.F8 hw)⟩
 have mid:∀w1,w1=Z.setCell ⟨bm,0,none⟩ (.int .i64 (if((max o.length (aw l):Nat):Int)> (m:Int)then((max o.length (aw l):Nat):Int)else(m:Int)))->FS w w1 bm ba (max m (max o.length (aw l))) a:=λw1 hw=>by
  rw [em]at hw;exact f8.Gb hw
 refine⟨⟨bm,0,rfl,m,f8.cm,trivial,⟨ba,0,rfl,a,f8.ca,trivial,J,bm,0,rfl,⟨⟨_,f8.cm⟩,f8.fm⟩,λG z=>⟨trivial,ba,0,rfl,⟨⟨_,(mid G z).ca⟩,(mid G z).fa⟩,λI H=>fin G I (mid G z) H⟩⟩,
  ⟨bm,0,rfl,⟨⟨_,f8.cm⟩,f8.fm⟩,λG z=>⟨trivial,ba,0,rfl,a,(mid G z).ca,trivial,J,ba,0,rfl,⟨⟨_,(mid G z).ca⟩,(mid G z).fa⟩,λI H=>fin G I (mid G z) H⟩⟩⟩,
  ⟨ba,0,rfl,a,f8.ca,trivial,J,bm,0,rfl,m,f8.cm,trivial,bm,0,rfl,⟨⟨_,f8.cm⟩,f8.fm⟩,λG z=>⟨trivial,ba,0,rfl,⟨⟨_,(mid G z).ca⟩,(mid G z).fa⟩,λI H=>fin G I (mid G z) H⟩⟩⟩
theorem FS.swap {w w':World}{bm ba m a:Nat}(h:FS w w' bm ba m a):FS w w' ba bm a m:=⟨h.ex,h.la,h.lm,h.ha,h.hm,Ne.symm h.ne,h.ca,h.cm,h.fa,h.fm⟩
theorem aN (w:World)(c:Array Value)(e j:Nat):(w.alloc (.cells c e)).frozen? ⟨w.heap.size,j,none⟩=false:=by unfold World.frozen? World.alloc;simp
theorem FS.new {w w1 w2 I:World}{bm ba:Nat}(x:Ex w w1)(hm:bm=w1.heap.size)(G:w2=w1.alloc (.cells #[iv 0] 3))(ha:ba=w2.heap.size)(H:I=w2.alloc (.cells #[iv 0] 3)):Ex w w2/\FS w I bm ba 0 0:=by
 have :=x.size;subst hm G ha H;have J:Ex w (w1.alloc (.cells #[iv 0] 3)):=Ex.trans x (Ex.alloc _ _);have s2:=size_alloc w1 (.cells #[iv 0] 3);have V:=size_alloc (w1.alloc (.cells #[iv 0] 3)) (.cells #[iv 0] 3);have z:w1.heap.size< (w1.alloc (.cells #[iv 0] 3)).heap.size:=by omega
 refine⟨J,Ex.trans J (Ex.alloc _ _),by omega,by omega,this,by omega,by omega,?_,aa rfl,?_,aN _ _ _ _⟩
 ·rw [(Ex.alloc _ _).cell (a:=⟨w1.heap.size,0,none⟩) z];exact aa rfl
 ·rw [World.frozen?_of_block (w:=w1.alloc (.cells #[iv 0] 3)) ((Ex.alloc _ _).block _ z)];exact aN _ _ _ _
theorem wW (n:Nat)(ih:∀m,m< n->HB m):HB n:=by
 intro D w v o l R hn hsh h hb hR;refine ky v w R ?_;obtain⟨b,vo,vt,ts,rfl,h2,h3,h4,h5,h6,h7,h8⟩:=h;obtain⟨ao,κ,ξ⟩:=h6.slice;rw [List.length_map]at ξ;obtain⟨at_,capt,hvt⟩:=h7.slice;have hlen:=h8.len;have hel:=Lv.cJ l;have hlt:=bS l;have cv:∀{w1:World},Ex w w1->∀{j:Nat} {u:Value},w.cell? ⟨b,j,none⟩=some u->w1.cell? ⟨b,j,none⟩=some u:=by
  intro w1 hx j u hu;rw [hx.cell (show b< _ from h3)];exact hu
 have fin:∀bm ba H,FS w H bm ba (max o.length (aw l)) (o.length+thAll l)->∃ο:World->Prop,∀ε:World,ε=World.drew H->ο ε/\∃n87:Int,(∀w',ο w'->World.cell? w' ⟨bm,0,none⟩=some (Value.int IntKind.i64 n87))/\∃n88:Int,(∀w',ο w'->World.cell? w' ⟨ba,0,none⟩=some (Value.int IntKind.i64 n88))/\R (n87) (n88) ε:=by
  intro bm ba H f;refine⟨λw'=>Ex H w',λε μ=>⟨μ▸Ex.drew H,((max o.length (aw l):Nat):Int),λw' x=>(f.ext x).cm,((o.length+thAll l:Nat):Int),λw' x=>(f.ext x).ca,hR _ (Ex.trans f.ex (μ▸Ex.drew H))⟩⟩
 refine⟨λw'=>Ex w w',λw3 hw3=>⟨hw3▸Ex.drew w,b,0,rfl,vo,λw' hx=>cv hx h4,ao,_,κ,ξ,b,0,rfl,vo,λw' hx=>cv hx h4,ao,_,κ,ξ,λb1 ς β G=>?A,λb1 ς β G=>?B⟩⟩
 all_goals have x3:Ex w w3:=hw3▸Ex.drew w
 case' A=>
  have υ:Ex w ς:=G▸Ex.trans x3 (Ex.alloc _ _);refine⟨υ,λb2 w19 γ I=>?_⟩;have f:=(FS.new x3 β G γ I).2;refine⟨f.ex,⟨⟨_,f.cm⟩,f.fm⟩,λw21 J=>?_⟩;have f21:=f.Gb (m':=o.length) J;refine⟨f21.ex,⟨⟨_,f21.ca⟩,f21.fa⟩,λw23 V=>?_⟩;have f23:=f21.F8 (a':=o.length) V;generalize b1=bm at*;generalize b2=ba at*;clear β γ G I J V f f21
 case' B=>
  have υ:Ex w ς:=G▸Ex.trans x3 (Ex.alloc _ _);refine⟨υ,λb2 w19 γ I=>?_⟩;have f:=(FS.new x3 β G γ I).2.swap;refine⟨f.ex,⟨⟨_,f.cm⟩,f.fm⟩,λw21 J=>?_⟩;have f21:=f.Gb (m':=o.length) J;refine⟨f21.ex,⟨⟨_,f21.ca⟩,f21.fa⟩,λw23 V=>?_⟩;have f23:=f21.F8 (a':=o.length) V;generalize b1=ba at*;generalize b2=bm at*;clear β γ G I J V f f21
 all_goals
  refine⟨b,0,rfl,vt,cv f23.ex h5,at_,_,capt,hvt,λx w'=>∃i:Nat,x=i/\i<=ts.length/\FS w w' bm ba (max o.length (aw (l.take i))) (o.length+thAll (l.take i)),λx _=>(ts.length - x).toNat,⟨0,rfl,Nat.zero_le _,by simpa [Lv.take,aw,thAll]using f23⟩,λx H hI=>?_⟩;obtain⟨i,rfl,hi,f33⟩:=hI;refine⟨λhlt'=>?_,λhge=>?_⟩;rotate_left
  ·have:i=l.bk.length:=by simp only [decide_eq_false_iff_not]at hge;omega
   rw [this,Lv.dc]at f33;exact fin bm ba H f33
  have ζ:i< ts.length:=by simp only [decide_eq_true_eq]at hlt';omega
  have hie:i< l.bk.length:=by omega
  obtain⟨bt,ot,z,hvt',hc⟩:∃bt ot z,vt= .slice (some ⟨bt,ot,none⟩) ts.length z/\H.cell? ⟨bt,ot+i,none⟩=some ts[i]:=by
   rcases h7 with⟨_,h0⟩ | ⟨bt,ot,z,e,_,φ,Z⟩
   ·rw [h0]at ζ;simp at ζ
   ·exact⟨bt,ot,z,e,by rw [f33.ex.cell (show bt< _ from φ)];exact Z i _ (List.getElem?_eq_getElem ζ)⟩
  obtain⟨e,he1,he2,χ⟩:=aH.single h8.bk (List.getElem?_eq_getElem ζ);have he4:l.bk[i]=e:=by rw [List.getElem?_eq_getElem hie]at he1;exact Option.some.inj he1
  have ψ:=Lv.take_succ l i hie;rw [he4]at ψ;have ω:=Lv.fk l (i+1);rw [ψ,Lv.bR]at ω;have htt0:=dj (l.take i);have hsz:=Lv.dU l e he2;have he5:=χ.ex f33.ex;have step:∀W,FS w W bm ba (max (max o.length (aw (l.take i))) (aw e)) (o.length+thAll (l.take i)+thAll e)->aj ((i:Int)+1)/\(∃j:Nat,(i:Int)+1=j/\j<=ts.length/\FS w W bm ba (max o.length (aw (l.take j))) (o.length+thAll (l.take j)))/\((ts.length:Int) - ((i:Int)+1)).toNat< ((ts.length:Int) - i).toNat:=by
   intro W f58;refine⟨by unfold aj;omega,⟨i+1,by omega,by omega,?_⟩,by omega⟩;rw [ψ,cf,bW];rw [Nat.max_assoc,Nat.add_assoc]at f58;exact f58
  refine⟨bt,ot,_,z,hvt',by omega,by omega,ts[i],by rw [Int.toNat_natCast,Nat.mul_one];exact hc,?_⟩;rcases Lv.jf hsh e he2 with⟨k,a,bb,o',r,rfl,hr⟩ | ⟨ps,rfl,hps⟩
  ·obtain⟨t,ts',a',b',vr,e1,ht,_,η,_⟩:=χ;obtain⟨rfl,rfl⟩:=List.cons.inj e1;obtain⟨g,hg,_,θ,c0,c1,c2,c3,c4⟩:=ht;have η:=η.ex f33.ex;rw [<-f33.ex.cell (show g< _ from θ)]at c3;have hvr:∃br,vr=ptr br:=by obtain⟨br,_,_,_,e,_⟩:=η;exact⟨br,e⟩
   obtain⟨br,rfl⟩:=hvr;simp only [Lv.sz]at hsz;simp only [Lv.tot]at ω;refine⟨g,0,hg,ptr br,c3,some ⟨br,0,none⟩,rfl,λ _=>⟨g,0,hg,ptr br,c3,249,[ptr bm,ptr ba],rfl,by kernel_rfl,?_⟩,λh=>by cases h⟩;refine Fx (ih r.sz (by omega)) f33 (Nat.le_refl _) hr η (by omega) λw48 f48=>?_
   refine⟨g,0,hg,.slice none 0 0,by rw [f48.ex.cell (show g< _ from θ)];exact c4,none,0,0,rfl,λy W=>y=0/\W=w48,λ _ _=>0,⟨rfl,rfl⟩,λy W hy=>?_⟩;obtain⟨rfl,rfl⟩:=hy;refine⟨λh=>by simp at h,λ _=>step _ ?_⟩;simpa [aw,thAll]using f48
  ·obtain⟨t,ts',a',b',vp,us,e1,ht,hus,ν,_⟩:=χ;obtain⟨rfl,rfl⟩:=List.cons.inj e1;obtain⟨g,hg,_,θ,c0,c1,c2,c3,c4⟩:=ht;obtain⟨au,cau,hvu⟩:=hus.slice;rw [<-f33.ex.cell (show g< _ from θ)]at c3 c4;simp only [Lv.sz]at hsz;simp only [Lv.tot]at ω;have hul:=ν.len;have hpl:=Lv.cJ ps;have hpt:=bS ps;refine⟨g,0,hg,.pointer none,c3,none,rfl,λh=>(by cases h),λ _=>⟨g,0,hg,vp,c4,au,_,cau,hvu,λy w'=>∃j:Nat,y=j/\j<=us.length/\FS w w' bm ba (max (max o.length (aw (l.take i))) (aw (ps.take j))) (o.length+thAll (l.take i)+thAll (ps.take j)),λy _=>(us.length - y).toNat,⟨0,rfl,Nat.zero_le _,by simpa [Lv.take,aw,thAll]using f33⟩,λy W hJ=>?_⟩⟩;obtain⟨j,rfl,hj,f58⟩:=hJ;refine⟨λhlt2=>?_,λhge2=>?_⟩;rotate_left
   ·have:j=ps.bk.length:=by simp only [decide_eq_false_iff_not]at hge2;omega
    rw [this,Lv.dc]at f58;exact step _ (by simpa [aw,thAll]using f58)
   have ι:j< us.length:=by simp only [decide_eq_true_eq]at hlt2;omega
   have hje:j< ps.bk.length:=by omega
   obtain⟨bu,ou,α,hvu',hcu⟩:∃bu ou α,vp= .slice (some ⟨bu,ou,none⟩) us.length α/\W.cell? ⟨bu,ou+j,none⟩=some us[j]:=by
    rcases hus with⟨_,h0⟩ | ⟨bt,ot,z,e,_,φ,Z⟩
    ·rw [h0]at ι;simp at ι
    ·exact⟨bt,ot,z,e,by rw [f58.ex.cell (show bt< _ from φ)];exact Z j _ (List.getElem?_eq_getElem ι)⟩
   obtain⟨e,hf1,hf2,hf3⟩:=aH.single ν.bk (List.getElem?_eq_getElem ι);have hf4:ps.bk[j]=e:=by rw [List.getElem?_eq_getElem hje]at hf1;exact Option.some.inj hf1
   have δ:=Lv.take_succ ps j hje;rw [hf4]at δ;have htu:=Lv.fk ps (j+1);rw [δ,Lv.bR]at htu;have htu0:=dj (ps.take j);have hsz2:=Lv.dU ps e hf2;obtain⟨o2,q,rfl,hq⟩:=Lv.lz hps e hf2;simp only [Lv.sz]at hsz2;simp only [Lv.tot]at htu;obtain⟨v2,ts2,e2,hlv2,_⟩:=hf3;obtain⟨rfl,rfl⟩:=List.cons.inj e2;refine⟨bu,ou,_,α,hvu',by omega,by omega,us[j],by rw [Int.toNat_natCast,Nat.mul_one];exact hcu,249,[ptr bm,ptr ba],rfl,by kernel_rfl,?_⟩;refine Fx (ih q.sz (by omega)) f58 (Nat.le_refl _) hq (hlv2.ex f58.ex) (by omega) λw66 f66=>⟨by unfold aj;omega,⟨j+1,by omega,by omega,?_⟩,by show((us.length:Int) - ((j:Int)+1)).toNat< ((us.length:Int) - j).toNat;omega⟩
   rw [δ,cf,bW];simp only [aw,thAll,Nat.max_zero,Nat.add_zero];rw [<-Nat.max_assoc,<-Nat.add_assoc];exact f66
theorem CU (n:Nat):HB n:=by
 induction n using Nat.strongRecOn with
 | _ n z=>exact wW n z
end Go.Proofs.YtdecokaadekjnaaGreat
namespace Go.Proofs.YtdecokaadekjnaaGreat
namespace Lv
def bvs:Lv->List Nat
 | nil=>[]
 | thr k _ b o r n=>(if k= .r then [b]else [])++(o++(r.bvs++n.bvs))
 | sum z n=>z.bvs++n.bvs
 | part o q n=>o++(q.bvs++n.bvs)
theorem dg:∀l m:Lv,(l.app m).bvs=l.bvs++m.bvs
 | nil,m=>rfl
 | thr k a b o r n,m=>by simp only [app,bvs,dg n m,List.append_assoc]
 | sum z n,m=>by simp only [app,bvs,dg n m,List.append_assoc]
 | part o q n,m=>by simp only [app,bvs,dg n m,List.append_assoc]
theorem lO:∀(l:Lv),∀e∈l.bk,e.bvs.Sublist l.bvs
 | nil,e,h=>by cases h
 | thr k a b o r n,e,h=>by
  rcases List.mem_cons.1 h with rfl | h
  ·simp only [bvs,List.append_nil];exact List.Sublist.append (List.Sublist.refl _) (List.Sublist.append (List.Sublist.refl _) (List.sublist_append_left _ _))
  ·exact(lO n e h).trans ((List.sublist_append_right _ _).trans ((List.sublist_append_right _ _).trans (List.sublist_append_right _ _)))
 | sum z n,e,h=>by
  rcases List.mem_cons.1 h with rfl | h
  ·simp only [bvs,List.append_nil];exact List.sublist_append_left _ _
  ·exact(lO n e h).trans (List.sublist_append_right _ _)
 | part o q n,e,h=>by
  rcases List.mem_cons.1 h with rfl | h
  ·simp only [bvs,List.append_nil];exact List.Sublist.append (List.Sublist.refl _) (List.sublist_append_left _ _)
  ·exact(lO n e h).trans ((List.sublist_append_right _ _).trans (List.sublist_append_right _ _))
theorem pw {x:Nat}:∀(l:Lv),∀e∈l.bk,e.fh x->l.fh x
 | nil,e,h,_=>by cases h
 | thr k a b o r n,e,h,z=>by
  rcases List.mem_cons.1 h with rfl | h
  ·rcases z with z | z | z | z
   ·exact .inl z
   ·exact .inr (.inl z)
   ·exact .inr (.inr (.inl z))
   ·exact z.elim
  ·exact .inr (.inr (.inr (pw n e h z)))
 | sum G n,e,h,z=>by
  rcases List.mem_cons.1 h with rfl | h
  ·exact .inl (z.elim id λh=>h.elim)
  ·exact .inr (pw n e h z)
 | part o q n,e,h,z=>by
  rcases List.mem_cons.1 h with rfl | h
  ·exact .inl (z.elim id λh=>h.elim)
  ·exact .inr (pw n e h z)
theorem ll:∀(l:Lv) (i:Nat),∀x∈(l.take i).bvs,x∈l.bvs
 | _,0,x,h=>by simp [take,bvs]at h
 | nil,i+1,x,h=>h
 | thr k a b o r n,i+1,x,h=>by
  simp only [take,bvs,List.mem_append]at h|-;exact h.imp id (Or.imp id (Or.imp id (ll n i x)))
 | sum z n,i+1,x,h=>by
  simp only [take,bvs,List.mem_append]at h|-;exact h.imp id (ll n i x)
 | part o q n,i+1,x,h=>by
  simp only [take,bvs,List.mem_append]at h|-;exact h.imp id (Or.imp id (ll n i x))
theorem gI:∀(l:Lv) (i:Nat),(l.take i).len<=l.len
 | _,0=>by simp [take,len]
 | nil,i+1=>by simp [take,len]
 | thr k a b o r n,i+1=>by have :=gI n i;simp only [take,len];omega
 | sum z n,i+1=>by have :=gI n i;simp only [take,len];omega
 | part o q n,i+1=>by have :=gI n i;simp only [take,len];omega
def sm:Lv->Bool
 | nil=>true
 | thr _ _ _ _ r n=>r.sm&&n.sm
 | sum z n=> !z.isNil&&(z.sm&&n.sm)
 | part _ q n=>q.sm&&n.sm
theorem oV:∀{l m:Lv},(l.app m).sm=(l.sm&&m.sm)
 | nil,m=>by simp [app,sm]
 | thr k a b o r n,m=>by simp only [app,sm,oV (l:=n),Bool.and_assoc]
 | sum z n,m=>by simp only [app,sm,oV (l:=n),Bool.and_assoc]
 | part o q n,m=>by simp only [app,sm,oV (l:=n),Bool.and_assoc]
theorem sH:∀{l:Lv},l.sm=true->∀e∈l.bk,e.sm=true
 | nil,_,e,h=>by cases h
 | thr k a b o r n,z,e,h=>by
  simp only [sm,Bool.and_eq_true]at z;rcases List.mem_cons.1 h with rfl | h
  ·simp only [sm,z.1,Bool.and_self]
  ·exact sH z.2 e h
 | sum G n,z,e,h=>by
  simp only [sm,Bool.and_eq_true]at z;rcases List.mem_cons.1 h with rfl | h
  ·simp only [sm,z.1,z.2.1,Bool.and_self]
  ·exact sH z.2.2 e h
 | part o q n,z,e,h=>by
  simp only [sm,Bool.and_eq_true]at z;rcases List.mem_cons.1 h with rfl | h
  ·simp only [sm,z.1,Bool.and_self]
  ·exact sH z.2 e h
theorem FY {z:Lv}{n:List Nat×Lv}(h:z.sm=true)(G:n.2.sm=true):(spl z n).2.sm=true:=by
 unfold spl;split
 ·exact G
 ·simp only [sm,Bool.and_eq_true]at h;simp only [oV,h.1,G,Bool.and_self]
 ·rename_i H I;have:z.isNil=false:=by cases z<;>first | rfl | exact absurd rfl H
  simp only [sm,this,h,G,Bool.not_false,Bool.and_self]
theorem GI {o:List Nat}{q n:Lv}(h:q.sm=true)(z:n.sm=true):(prt o q n).sm=true:=by
 unfold prt;split
 ·exact z
 ·split
  ·simp only [sm,Bool.and_eq_true]at h;simp only [oV,h.2.1,z,Bool.and_self]
  ·simp only [sm,Bool.and_eq_true]at h|-;exact⟨h,z⟩
 ·simp only [sm,h,z,Bool.and_self]
theorem mJ:∀l:Lv,(tid l).2.sm=true
 | nil=>rfl
 | thr k a b o r n=>by
  have G:=mJ r;have z:=mJ n;simp only [tid];have H:(kept o (tid r)).2=(tid r).2:=rfl;split
  ·simp only [oV,H,G,z,Bool.and_self]
  ·split
   ·exact z
   ·simp only [sm,H,G,z,Bool.and_self]
 | sum I n=>by
  simp only [tid];exact FY (mJ I) (mJ n)
 | part o q n=>by
  simp only [tid,kept];exact GI (mJ q) (mJ n)
end Lv
structure sT (o:List Nat)(l:Lv):Prop where
 nd:(o++l.bvs).Nodup
 nf:∀x∈l.bvs,¬l.fh x
 ge:∀x∈o++l.bvs,26<=x
theorem sT.bk {o:List Nat}{l:Lv}(h:sT o l){e:Lv}(he:e∈l.bk):sT [] e:=by
 have z:=Lv.lO l e he;refine⟨by simpa using(List.nodup_append.1 h.nd).2.1.sublist z,λx G H=>h.nf x (z.subset G) (Lv.pw l e he H),λx G=>h.ge x (List.mem_append_right _ (z.subset (by simpa using G)))⟩
theorem sT.thr {k:K}{a b:Nat}{o:List Nat}{r:Lv}(h:sT [] (.thr k a b o r .nil)):sT o r/\(k= .r->26<=b/\b≠a/\b∉o/\b∉r.bvs):=by
 have nd:=h.nd;have ge:=h.ge;have nf:=h.nf;simp only [Lv.bvs,List.append_nil,List.nil_append]at nd ge nf;have z:=(List.nodup_append.1 nd).2.1;refine⟨⟨z,λx G J=>?_,λx G=>ge x (List.mem_append_right _ G)⟩,λH=>?_⟩
 ·refine nf x (List.mem_append_right _ (List.mem_append_right _ G)) (.inr (.inr (.inl ⟨λI=>(List.nodup_append.1 z).2.2 x I x G rfl,fun⟨H,hb⟩=>?_,J⟩)));rw [if_pos H]at nd;exact(List.nodup_append.1 nd).2.2 b (by simp) x (List.mem_append_right _ G) hb.symm
 ·rw [if_pos H]at nd ge nf;refine⟨ge b (by simp),λe=>nf b (by simp) (.inr (.inl ⟨H,e⟩)),λI=>(List.nodup_append.1 nd).2.2 b (by simp) b (List.mem_append_left _ I) rfl,λhr=>(List.nodup_append.1 nd).2.2 b (by simp) b (List.mem_append_right _ hr) rfl⟩
theorem sT.sum {G:Lv}(h:sT [] (.sum G .nil)):sT [] G:=by
 have nd:=h.nd;have ge:=h.ge;have nf:=h.nf;simp only [Lv.bvs,List.append_nil,List.nil_append]at nd ge nf;exact⟨by simpa using nd,λx z H=>nf x z (.inl H),λx z=>ge x (by simpa using z)⟩
theorem sT.part {o:List Nat}{q:Lv}(h:sT [] (.part o q .nil)):sT o q:=by
 have nd:=h.nd;have ge:=h.ge;have nf:=h.nf;simp only [Lv.bvs,List.append_nil,List.nil_append]at nd ge nf;exact⟨nd,λx z G=>nf x (List.mem_append_right _ z) (.inl ⟨λH=>(List.nodup_append.1 nd).2.2 x H x z rfl,G⟩),ge⟩
def bI (l:List Tx):Nat:=(l.map λs=>s.length+3).sum
theorem gT {l m:List Tx}(h:l.Perm m):bI l=bI m:=iC (h.map _)
theorem yw (l m:List Tx):bI (l++m)=bI l+bI m:=by simp [bI]
theorem gw (s:UInt8):∀l:List Tx,(joinS s l).length<=bI l
 | []=>by simp [joinS]
 | [a]=>by simp [joinS,bI]
 | a::b::l=>by
  have :=gw s (b::l);simp only [joinS,List.length_cons,List.length_append,List.length_nil];simp only [bI,List.map_cons,List.sum_cons]at this|-;omega
theorem ub (s:Tx):∀l:List UInt8,(wrap l s).length=3* l.length+s.length
 | []=>by simp [wrap]
 | c::l=>by simp only [wrap,List.length_cons,ub s l];omega
theorem mG {own:List Nat}{f:Rh->Tk->List Tx}{B:Nat}(hB:∀ρ tk,bI (f ρ tk)<=B)(ρ:Rh)(tk:Tk):(aP own f ρ tk).length<=3* own.length+B+1:=by
 unfold aP;split
 ·simp
 ·have z:((perms own).map λπ=>joinS 38 (aX (f (asg π (lets own.length tk) ρ) (addK (lets own.length tk) tk))))≠[]:=λe=>nV own (List.map_eq_nil_iff.1 e)
  obtain⟨G,_⟩:=cB z;obtain⟨π,_,e⟩:=List.mem_map.1 G;show(wrap _ (bF _)).length<=_;rw [ub,fy,<-e];have :=gw 38 (aX (f (asg π (lets own.length tk) ρ) (addK (lets own.length tk) tk)));rw [gT (aJ _)]at this;have :=hB (asg π (lets own.length tk) ρ) (addK (lets own.length tk) tk);omega
theorem fU:∀(l:Lv) (ρ:Rh) (tk:Tk),bI (thS l ρ tk)<=16* l.tot
 | .nil,_,_=>by simp [thS,bI]
 | .thr k a b o r n,ρ,tk=>by
  have G:=fU n ρ tk;have z:∀ρ tk,(aP o (thS r) ρ tk).length<=3* o.length+16* r.tot+1:=λρ tk=>mG (λρ tk=>fU r ρ tk) ρ tk
  simp only [bI]at G|-;cases k<;>simp only [thS,List.map_cons,List.sum_cons,kText,List.length_cons,Lv.tot]
  ·have :=z ρ tk;omega
  ·have :=z (aD ρ b (ic tk)) (bZ tk (ic tk));omega
  ·have :=z ρ tk;omega
  ·have :=z ρ tk;omega
  ·have :=z ρ tk;omega
 | .sum H n,ρ,tk=>by
  have z:=fU H ρ tk;have G:=fU n ρ tk;have I:=gw 43 (aX (thS H ρ tk));rw [gT (aJ _)]at I;simp only [bI]at z G I|-;simp only [thS,List.map_cons,List.sum_cons,Lv.tot];omega
 | .part o q n,ρ,tk=>by
  have G:=fU n ρ tk;have z:(aP o (thS q) ρ tk).length<=3* o.length+16* q.tot+1:=mG (λρ tk=>fU q ρ tk) ρ tk;simp only [bI]at G|-;simp only [thS,List.map_cons,List.sum_cons,Lv.tot];omega
theorem oR {s:UInt8}:∀{l:List Tx},l≠[]->(∀t∈l,t≠[])->joinS s l≠[]
 | [],h,_=>absurd rfl h
 | [a],_,h=>h a (by simp)
 | a::b::l,_,_=>by simp [joinS]
theorem pE {l:List Tx}(h:l≠[]):aX l≠[]:=λe=>h (by have :=aJ l;rw [e]at this;exact this.symm.eq_nil)
theorem yz {own:List Nat}{f:Rh->Tk->List Tx}(H:∀ρ tk,∀t∈f ρ tk,t≠[])(he:∀ρ ρ' tk tk',(f ρ tk).isEmpty=(f ρ' tk').isEmpty)(ρ:Rh)(tk:Tk):aP own f ρ tk≠[]:=by
 unfold aP;split
 ·simp
 ·rename_i I;have z:((perms own).map λπ=>joinS 38 (aX (f (asg π (lets own.length tk) ρ) (addK (lets own.length tk) tk))))≠[]:=λe=>nV own (List.map_eq_nil_iff.1 e)
  obtain⟨J,_⟩:=cB z;obtain⟨π,_,e⟩:=List.mem_map.1 J;show wrap _ (bF _)≠[];rw [xf];refine λV=>?_
  have G:=(List.append_eq_nil_iff.1 V).2;rw [<-e]at G;refine oR (pE ?_) (λt W=>H _ _ t ((aJ _).subset W)) G;intro Z;have :=he (asg π (lets own.length tk) ρ) ρ (addK (lets own.length tk) tk) tk;rw [Z]at this;exact I this.symm
theorem BL (l:Lv)(ρ ρ':Rh)(tk tk':Tk):(thS l ρ tk).isEmpty=(thS l ρ' tk').isEmpty:=by
 rw [Bool.eq_iff_iff,List.isEmpty_iff_length_eq_zero,List.isEmpty_iff_length_eq_zero,bw,bw]
theorem lD:∀(l:Lv),l.sm=true->∀(ρ:Rh) (tk:Tk),∀t∈thS l ρ tk,t≠[]
 | .nil,_,_,_,t,h=>by cases h
 | .thr k a b o r n,z,ρ,tk,t,h=>by
  simp only [Lv.sm,Bool.and_eq_true]at z;have I:t∈thS n ρ tk\/t≠[]:=by
   cases k<;>simp only [thS,List.mem_cons]at h<;>rcases h with rfl | h<;>first | exact .inl h | (right;simp [kText])
  exact I.elim (lD n z.2 ρ tk t) id
 | .sum G n,z,ρ,tk,t,h=>by
  simp only [Lv.sm,Bool.and_eq_true]at z;rw [thS]at h;rcases List.mem_cons.1 h with rfl | h
  ·refine oR (pE λe=>?_) λt J=>lD G z.2.1 ρ tk t ((aJ _).subset J)
   have H:=bw G ρ tk;rw [e]at H;have V:G.isNil=true:=by rw [Lv.dk];simp at H;simp [<-H]
   rw [V]at z;simp at z
  ·exact lD n z.2.2 ρ tk t h
 | .part o q n,z,ρ,tk,t,h=>by
  simp only [Lv.sm,Bool.and_eq_true]at z;rw [thS]at h;rcases List.mem_cons.1 h with rfl | h
  ·exact yz (λρ tk=>lD q z.1 ρ tk) (λρ ρ' tk tk'=>BL q ρ ρ' tk tk') ρ tk
  ·exact lD n z.2 ρ tk t h
theorem Av (x:Nat)(z:Lv)(n:List Nat×Lv):((Lv.spl z n).1++(Lv.spl z n).2.bvs).count x=z.bvs.count x+(n.1++n.2.bvs).count x:=by
 unfold Lv.spl;split
 ·simp [Lv.bvs]
 ·simp only [Lv.dg,Lv.bvs,List.count_append,List.count_nil];omega
 ·simp only [Lv.bvs,List.count_append];omega
theorem AV (x:Nat)(o:List Nat)(q n:Lv):(Lv.prt o q n).bvs.count x<=o.count x+q.bvs.count x+n.bvs.count x:=by
 unfold Lv.prt;split
 ·omega
 ·split
  ·simp only [Lv.dg,Lv.bvs,List.count_append,List.count_nil];omega
  ·simp only [Lv.bvs,List.count_append,List.count_nil];omega
 ·simp only [Lv.bvs,List.count_append];omega
theorem mS (x:Nat)(own:List Nat)(r:List Nat×Lv):((Lv.kept own r).1).count x<=own.count x+r.1.count x:=by
 have :=(List.filter_sublist (p:=λx=>r.2.has x) (l:=own++r.1)).count_le x;rw [List.count_append]at this;exact this
theorem eH (x:Nat):∀l:Lv,((Lv.tid l).1++(Lv.tid l).2.bvs).count x<=l.bvs.count x
 | .nil=>by simp [Lv.tid,Lv.bvs]
 | .thr k a b o r n=>by
  have z:=eH x r;have G:=eH x n;have H:=mS x o (Lv.tid r);have h4:(Lv.kept o (Lv.tid r)).2=(Lv.tid r).2:=rfl;simp only [Lv.tid];simp only [List.count_append]at z G;split
  ·simp only [h4,Lv.dg,Lv.bvs,List.count_append];omega
  ·split
   ·simp only [Lv.bvs,List.count_append];omega
   ·simp only [h4,Lv.bvs,List.count_append];omega
 | .sum I n=>by
  have z:=eH x I;have G:=eH x n;simp only [Lv.tid,Av,Lv.bvs];simp only [List.count_append]at z G|-;omega
 | .part o q n=>by
  have z:=eH x q;have G:=eH x n;have H:=mS x o (Lv.tid q);have h4:(Lv.kept o (Lv.tid q)).2=(Lv.tid q).2:=rfl;have h5:=AV x (Lv.kept o (Lv.tid q)).1 (Lv.kept o (Lv.tid q)).2 (Lv.tid n).2;simp only [Lv.tid,List.nil_append,Lv.bvs];rw [h4]at h5;simp only [List.count_append]at z G h5|-;rw [h4];omega
theorem bQ (x:Nat):∀u:U,((flat u).1++(flat u).2.bvs).count x=(BV u).count x
 | .nil=>rfl
 | .snd a b p=>by have :=bQ x p;simpa [flat,Lv.bvs,BV]using this
 | .rcv a y p=>by have :=bQ x p;simp only [flat,Lv.bvs,BV,if_true,List.count_append,List.count_cons,List.nil_append,List.count_nil,List.append_nil]at this|-;omega
 | .tau p=>by have :=bQ x p;simpa [flat,Lv.bvs,BV]using this
 | .sum p q=>by
  have :=bQ x p;have :=bQ x q;simp only [flat,Lv.bvs,BV,List.count_append,List.nil_append,List.append_nil,List.count_nil]at*;omega
 | .par p q=>by
  have :=bQ x p;have :=bQ x q;simp only [flat,Lv.dg,BV,List.count_append]at*;omega
 | .res y p=>by have :=bQ x p;simp only [flat,BV,List.count_append,List.count_cons]at this|-;omega
 | .mat a b p=>by have :=bQ x p;simpa [flat,Lv.bvs,BV]using this
 | .rep p=>by have :=bQ x p;simpa [flat,Lv.bvs,BV]using this
theorem C8 (x:Nat)(u:U):((td u).1++(td u).2.bvs).count x<=(BV u).count x:=by
 have z:=eH x (flat u).2;have G:=mS x (flat u).1 (Lv.tid (flat u).2);have H:=bQ x u;have h4:(td u).2=(Lv.tid (flat u).2).2:=rfl;have h5:(td u).1=(Lv.kept (flat u).1 (Lv.tid (flat u).2)).1:=rfl;rw [h4,h5];simp only [List.count_append]at*;omega
theorem yy {u:U}(h:Uq u)(hb:∀x∈BV u,26<=x):sT (td u).1 (td u).2:=by
 have H:∀x,((td u).1++(td u).2.bvs).count x<=(BV u).count x:=λx=>C8 x u
 have hm:∀x∈(td u).1++(td u).2.bvs,x∈BV u:=λx z=>by
  have :=H x;have G:=List.count_pos_iff.2 z;exact List.count_pos_iff.1 (by omega)
 have nd:((td u).1++(td u).2.bvs).Nodup:=List.nodup_iff_count.2 λx=>Nat.le_trans (H x) (List.nodup_iff_count.1 h.nd x)
 refine⟨nd,λx z I=>?_,λx z=>hb x (hm x z)⟩;have G:x∉(td u).1:=λG=>(List.nodup_append.1 nd).2.2 x G x z rfl
 exact h.nf x (hm x (List.mem_append_right _ z)) (T.bz (Cs _ u (Nat.le_refl _) h x I G))
end Go.Proofs.YtdecokaadekjnaaGreat
namespace Go.Proofs.YtdecokaadekjnaaGreat
open Go Go.RowKit
def Ij:Shelf.Ren where
 f:=λx=>if x=190 then 115 else if x=125 then 164 else if x=258 then 163 else if x=128 then 205 else if x=129 then 206 else if x=302 then 196 else if x=303 then 197 else if x=304 then 198 else if x=305 then 199 else if x=306 then 200 else if x=307 then 201 else if x=308 then 202 else if x=309 then 203 else if x=310 then 204 else if x=333 then 226 else if x=329 then 227 else if x=330 then 228 else if x=334 then 229 else if x=335 then 230 else if x=336 then 231 else if x=344 then 248 else x
 t:=λx=>if x=31 then 25 else if x=9 then 9 else if x=3 then 3 else if x=46 then 178 else if x=0 then 0 else if x=51 then 73 else if x=53 then 220 else if x=4 then 4 else if x=183 then 213 else if x=182 then 212 else if x=131 then 34 else if x=5 then 5 else if x=218 then 234 else if x=222 then 238 else if x=228 then 258 else if x=229 then 245 else x
 g:=λx=>x
theorem yI:Lays.n190 Tryz.prog Ij where
 mixed:=Eq.refl true
 f125:=Eq.trans Tryz.func164 (by kernel_rfl)
 f128:=Eq.trans Tryz.func205 (by kernel_rfl)
 f129:=Eq.trans Tryz.func206 (by kernel_rfl)
 f190:=Eq.trans Tryz.func115 (by kernel_rfl)
 f258:=Eq.trans Tryz.func163 (by kernel_rfl)
 f302:=Eq.trans Tryz.func196 (by kernel_rfl)
 f303:=Eq.trans Tryz.func197 (by kernel_rfl)
 f304:=Eq.trans Tryz.func198 (by kernel_rfl)
 f305:=Eq.trans Tryz.func199 (by kernel_rfl)
 f306:=Eq.trans Tryz.func200 (by kernel_rfl)
 f307:=Eq.trans Tryz.func201 (by kernel_rfl)
 f308:=Eq.trans Tryz.func202 (by kernel_rfl)
 f309:=Eq.trans Tryz.func203 (by kernel_rfl)
 f310:=Eq.trans Tryz.func204 (by kernel_rfl)
 f329:=Eq.trans Tryz.func227 (by kernel_rfl)
 f330:=Eq.trans Tryz.func228 (by kernel_rfl)
 f333:=Eq.trans Tryz.func226 (by kernel_rfl)
 f334:=Eq.trans Tryz.func229 (by kernel_rfl)
 f335:=Eq.trans Tryz.func230 (by kernel_rfl)
 f336:=Eq.trans Tryz.func231 (by kernel_rfl)
 f344:=Eq.trans Tryz.func248 (by kernel_rfl)
 t0:=Tryz.underlying0
 a0:=Tryz.isAgg0
 z0:=Tryz.sizeOf0
 v0:=Tryz.zeroValue0
 t3:=Tryz.underlying3
 a3:=Tryz.isAgg3
 z3:=Tryz.sizeOf3
 v3:=Tryz.zeroValue3
 t4:=Tryz.underlying4
 a4:=Tryz.isAgg4
 z4:=Tryz.sizeOf4
 v4:=Tryz.zeroValue4
 t5:=Tryz.underlying5
 a5:=Tryz.isAgg5
 z5:=Tryz.sizeOf5
 v5:=Tryz.zeroValue5
 t9:=Tryz.underlying9
 a9:=Tryz.isAgg9
 z9:=Tryz.sizeOf9
 v9:=Tryz.zeroValue9
 t31:=Tryz.underlying25
 a31:=Tryz.isAgg25
 z31:=Tryz.sizeOf25
 v31:=Tryz.zeroValue25
 t46:=Tryz.underlying178
 a46:=Tryz.isAgg178
 z46:=Tryz.sizeOf178
 v46:=Tryz.zeroValue178
 t51:=Tryz.underlying73
 a51:=Tryz.isAgg73
 z51:=Tryz.sizeOf73
 v51:=Tryz.zeroValue73
 t53:=Tryz.underlying220
 a53:=Tryz.isAgg220
 z53:=Tryz.sizeOf220
 v53:=Tryz.zeroValue220
 t131:=Tryz.underlying34
 a131:=Tryz.isAgg34
 z131:=Tryz.sizeOf34
 v131:=Tryz.zeroValue34
 t182:=Tryz.underlying212
 a182:=Tryz.isAgg212
 z182:=Tryz.sizeOf212
 v182:=Tryz.zeroValue212
 t183:=Tryz.underlying213
 a183:=Tryz.isAgg213
 z183:=Tryz.sizeOf213
 v183:=Tryz.zeroValue213
 t218:=Tryz.underlying234
 a218:=Tryz.isAgg234
 z218:=Tryz.sizeOf234
 v218:=Tryz.zeroValue234
 t222:=Tryz.underlying238
 a222:=Tryz.isAgg238
 z222:=Tryz.sizeOf238
 v222:=Tryz.zeroValue238
 t228:=Tryz.underlying258
 a228:=Tryz.isAgg258
 z228:=Tryz.sizeOf258
 v228:=Tryz.zeroValue258
 t229:=Tryz.underlying245
 a229:=Tryz.isAgg245
 z229:=Tryz.sizeOf245
 v229:=Tryz.zeroValue245
theorem sort_k {B:Nat}{w:World}{v:Value}{l:List Tx}(h:Own B w v l)(z:l≠[])(hl:l.length<=1099511627776){R:World->Prop}
  (J:∀w',Kp w w' (λg=>v.ownBlock=some g)->Own B w' v (aX l)->R w'):Calls Tryz.prog 115 #[v] w (ax [] R):=by
 rcases h.2 with⟨rfl,V⟩ | ⟨g,cap,cur,rfl,hb,G,W,Z,h3,h4⟩
 ·exact absurd (List.eq_nil_of_length_eq_zero V) z
 ·refine(Any.slices_Sort_string yI g 0 cap l w (holds_of_block G (by rw [Nat.mul_one]at h4;exact h4)) (Array.getElem?_eq_some_iff.1 G).1 (by omega)).mono ?_
  rintro e w' ⟨rfl,n,os,rfl⟩
  refine⟨rfl,J _ (Kp.aQ (grownBy_sorted _) λg' H=>H) ?_⟩;have I:(l.mergeSort λx y=>decide (x<=y)).length=l.length:=by simp
  have :=ownsRow_sorted (n:=n) (os:=os) I hb G W Z h3;have e2:aX l=l.mergeSort λx y=>decide (x<=y):=rfl
  unfold Own;rw [e2,I];exact this
theorem yH (s:UInt8)(a b:Tx)(l:List Tx):joinS s (a::b::l)=[40]++a++[s]++joinS s (b::l)++[41]:=by simp [joinS]
theorem Co {B:Nat}{w:World}{v:Value}{l:List Tx}{c:UInt8}(h:Own B w v l)(G:l≠[])(hl:l.length<=1099511627776)(hs:bI l<=1099511627776){R:ay->World->Prop}
  (hR:∀w',Kp w w' (λg=>v.ownBlock=some g)->R (joinS c (aX l)) w'):Calls Tryz.prog 255 #[v,.string (ab [c])] w (ax [.s] R):=by
 refine uV v [c] w R ?_;refine sort_k h G hl λw3 k3 o3=>?_
 have hp:=aJ l;have H:(aX l).length=l.length:=hp.length_eq;have α:0< l.length:=List.length_pos_iff.2 G;have st:=o3.strs;generalize hL:aX l=L at*;rcases st with⟨_,e⟩ | ⟨b,off,cap,rfl,hb,hc⟩
 ·rw [e]at H;simp at H;omega
 have β:bI L=bI l:=gT hp;have I:∀j,(W:j< L.length)->w3.cell? ⟨b,off+j,none⟩=some (.string (ab L[j])):=λj W=>hc j _ (List.getElem?_eq_getElem W)
 have z:∀j,bI (L.drop j)<=bI L:=λj=>by
  have:bI L=bI (L.take j)+bI (L.drop j):=by rw [<-yw,List.take_append_drop]
  omega
 refine⟨_,_,cap,rfl,by unfold aj;omega,b,off,_,cap,rfl,by omega,by omega,L[L.length - 1]'(by omega),?_,_,_,cap,rfl,by unfold aj;omega,λout i w'=>w'=w3/\ -1<=i/\i+2<=L.length/\out=joinS c (L.drop (i+1).toNat),λ _ i _=>(i+1).toNat,⟨rfl,by omega,by omega,?_⟩,λout i w' hI=>?_⟩
 ·rw [Nat.mul_one,show((L.length:Int) - 1).toNat=L.length - 1 by omega];exact I _ (by omega)
 ·rw [show((L.length:Int) - 2+1).toNat=L.length - 1 by omega,List.drop_eq_getElem_cons (by omega),show L.length - 1+1=L.length by omega,List.drop_length];rfl
 ·obtain⟨rfl,h0,h1,rfl⟩:=hI;refine⟨λZ=>?_,λZ=>?_⟩
  ·simp only [decide_eq_true_eq]at Z;have J:i.toNat< L.length:=by omega
   have V:i.toNat+1< L.length:=by omega
   have e1:(i+1).toNat=i.toNat+1:=by omega
   have e2:L.drop i.toNat=L[i.toNat]::L.drop (i.toNat+1):=List.drop_eq_getElem_cons J;have e3:L.drop (i.toNat+1)=L[i.toNat+1]::L.drop (i.toNat+1+1):=List.drop_eq_getElem_cons V;have W:=gw c (L.drop (i.toNat+1));have hd:=z i.toNat;have γ:bI (L.drop i.toNat)=L[i.toNat].length+3+bI (L.drop (i.toNat+1)):=by rw [e2];simp only [bI,List.map_cons,List.sum_cons]
   rw [e1];refine⟨b,off,_,cap,rfl,by omega,by omega,L[i.toNat],by rw [Nat.mul_one];exact I _ J,?_,?_,?_,?_,by unfold aj;omega,⟨rfl,by omega,by omega,?_⟩,by show(i - 1+1).toNat< (i+1).toNat;omega⟩
   ·simp;omega
   ·simp;omega
   ·simp;omega
   ·simp;omega
   ·rw [show(i - 1+1).toNat=i.toNat by omega,e2,e3,yH]
  ·simp only [decide_eq_false_iff_not]at Z;have:i= -1:=by omega
   subst this;exact hR w' k3
def qu (c:UInt8):UInt32:=nD 1 (c - 97).toNat
def qp (x:UInt32)(tk:Tk):Prop:=∀c,lt c=true->decide (x &&& qu c=0)= !tk c
theorem By (a b c:UInt32):(a ||| b) &&& c=(a &&& c) ||| (b &&& c):=by
 apply UInt32.toBitVec_inj.1;simp only [UInt32.toBitVec_and,UInt32.toBitVec_or]
 ext i z
 simp [Bool.and_or_distrib_right]
theorem DV (a b:UInt32):a ||| b=0↔a=0/\b=0:=by
 rw [<-UInt32.toBitVec_inj,<-UInt32.toBitVec_inj,<-UInt32.toBitVec_inj];simp only [UInt32.toBitVec_or];exact BitVec.or_eq_zero_iff
theorem Bt:∀i,i< 26->∀j,j< 26->decide (nD 1 i &&& nD 1 j=0)=decide (i≠j):=by decide+kernel
theorem Aq {c d:UInt8}(z:lt c=true)(hd:lt d=true):decide (qu c &&& qu d=0)= !(d==c):=by
 have G:=bn z;have H:=bn hd;unfold qu;rw [Bt _ (by rw [gk z];omega) _ (by rw [gk hd];omega),gk z,gk hd];rw [Bool.eq_iff_iff];simp only [decide_eq_true_eq,Bool.not_eq_true',beq_eq_false_iff_ne,ne_eq,<-UInt8.toNat_inj];omega
theorem qp.add {x:UInt32}{tk:Tk}(h:qp x tk){d:UInt8}(hd:lt d=true):qp (x ||| qu d) (bZ tk d):=by
 intro c z;rw [By,decide_eq_decide.2 (DV _ _),Bool.decide_and,h c z,Aq hd z];simp [bZ]
theorem xK {c:UInt8}{w:World}{R:UInt32->World->Prop}(h:R (qu c) w):Calls Tryz.prog 59 #[.int .u8 c.toNat] w (ax [.w] R):=
 wH c w R h
theorem F6 (tk:Tk):lt (ic tk)=true:=by
 unfold ic sV;cases h:nK.find? λc=> !tk c with
 | none=>decide
 | some c=>
  have :=List.mem_of_find?_eq_some h;unfold nK at this;simp only [List.mem_map,List.mem_range]at this;obtain⟨i,z,rfl⟩:=this;clear h;revert i;decide+kernel
theorem D6 {x:UInt32}{tk:Tk}(W:qp x tk){w:World}{R:UInt8->Bool->World->Prop}(Z:sV tk=none->R 0 false w)(h2:∀c,sV tk=some c->R c true w):
  Calls Tryz.prog 130 #[.int .u32 x.toNat] w (ax [.c,.b] R):=by
 refine tj x w R ?_;refine⟨λc w'=>w'=w/\97<=c.toNat/\c.toNat<=123/\∀d:UInt8,97<=d->d< c->tk d=true,λc _=>123 - c.toNat,⟨rfl,by decide,by decide,λd h h'=>?_⟩,λc w' hI=>?_⟩
 ·rw [UInt8.le_iff_toNat_le]at h;rw [UInt8.lt_iff_toNat_lt]at h';omega
 ·obtain⟨rfl,V,h4,h5⟩:=hI;refine⟨λH=>xK ?_,λH=>?_⟩
  ·simp only [decide_eq_true_eq,UInt8.le_iff_toNat_le]at H;have G:c.toNat<=122:=H;have J:lt c=true:=ox ⟨V,G⟩;have :=W c J;refine⟨λhe=>?_,λhe=>?_⟩
   ·rw [he]at this;refine h2 c (rH (f:=λc=> !tk c) (by rw [UInt8.le_iff_toNat_le];exact V) (by rw [UInt8.le_iff_toNat_le];exact G) this.symm λd hd z=>by simp [h5 d hd z])
   ·rw [he]at this;have ht:tk c=true:=by simpa using this.symm
    have e1:(c+1).toNat=c.toNat+1:=by rw [UInt8.toNat_add];show(c.toNat+1) % 256=_;omega
    refine⟨⟨rfl,by omega,by omega,λd hd z=>?_⟩,by show 123 - (c+1).toNat< 123 - c.toNat;omega⟩;rw [UInt8.lt_iff_toNat_lt,e1]at z;by_cases I:d=c
    ·rw [I];exact ht
    ·refine h5 d hd (UInt8.lt_iff_toNat_lt.2 ?_);have:d.toNat≠c.toNat:=λe=>I (UInt8.toNat_inj.1 e)
     omega
  ·simp only [decide_eq_false_iff_not,UInt8.le_iff_toNat_le]at H;have G:122< c.toNat:=by have:¬c.toNat<=122:=H;omega
   refine Z (uc (f:=λc=> !tk c) λd hd z=>?_);have:tk d=true:=h5 d hd (UInt8.lt_iff_toNat_lt.2 (by rw [UInt8.le_iff_toNat_le]at z;have:d.toNat<=122:=z;omega));simp [this]
def HK (m:Value->Option Value)(ρ:Rh):Prop:=∀x,(ρ x).toNat< 128/\(x< 26->ρ x=UInt8.ofNat (97+x))/\(26<=x->m (iv x)=some (.int .u8 (ρ x).toNat)\/(m (iv x)=none/\ρ x=0))
structure Nm (w:World)(n r:Nat)(ρ:Rh)(tk:Tk)(bad:Bool):Prop where
 lt:n< w.heap.size
 lr:r< w.heap.size
 ne:n≠r
 c0:w.cell? ⟨n,0,none⟩=some (.map (some r))
 mp:∃m,IsMap w r (.int .i64) m/\HK m ρ
 c1:∃x:UInt32,w.cell? ⟨n,1,none⟩=some (.int .u32 x.toNat)/\qp x tk
 c2:w.cell? ⟨n,2,none⟩=some (.bool bad)
 f:∀j,w.frozen? ⟨n,j,none⟩=false
theorem Nm.kp {w w':World}{n r:Nat}{ρ:Rh}{tk:Tk}{bad:Bool}{S:Nat->Prop}(h:Nm w n r ρ tk bad)(k:Kp w w' S)(z:¬S n)(hr:¬S r):Nm w' n r ρ tk bad:=by
 have e:=k.block n h.lt z;have G:=k.block r h.lr hr;obtain⟨m,⟨es,cl,H,I⟩,J⟩:=h.mp;obtain⟨x,h4,h5⟩:=h.c1;exact⟨Nat.lt_of_lt_of_le h.lt k.size,Nat.lt_of_lt_of_le h.lr k.size,h.ne,by rw [World.cell?_of_block (w:=w) e];exact h.c0,⟨m,⟨es,cl,by rw [G];exact H,I⟩,J⟩,⟨x,by rw [World.cell?_of_block (w:=w) e];exact h4,h5⟩,by rw [World.cell?_of_block (w:=w) e];exact h.c2,λj=>by rw [World.frozen?_of_block (w:=w) e];exact h.f j⟩
theorem Nm.ex {w w':World}{n r:Nat}{ρ:Rh}{tk:Tk}{bad:Bool}(h:Nm w n r ρ tk bad)(x:Ex w w'):Nm w' n r ρ tk bad:=h.kp (Kp.ah x λ _=>False) (λh=>h) λh=>h
abbrev Kn (n r:Nat)(w w':World):Prop:=Kp w w' λg=>g=n\/g=r
theorem Kn.trans {n r:Nat}{a b c:World}(h:Kn n r a b)(k:Kn n r b c):Kn n r a c:=Kp.trans h k λ _ _ h=>h
theorem Kn.ex {n r:Nat}{a b:World}(h:Ex a b):Kn n r a b:=Kp.ah h _
theorem Kn.set {n r:Nat}(w:World)(j:Nat)(v:Value):Kn n r w (w.setCell ⟨n,j,none⟩ v):=Kp.mono (λ _ h=> .inl h) (Kr.set w j v)
theorem Nm.set {w w':World}{n r:Nat}{ρ:Rh}{tk tk':Tk}{bad bad':Bool}(h:Nm w n r ρ tk bad){j:Nat}{v:Value}(hw:w'=w.setCell ⟨n,j,none⟩ v)(z:(j=1/\bad'=bad/\∃x:UInt32,v= .int .u32 x.toNat/\qp x tk')\/(j=2/\tk'=tk/\v= .bool bad')):Nm w' n r ρ tk' bad':=by
 subst hw;obtain⟨m,⟨es,cl,G,H⟩,I⟩:=h.mp;obtain⟨x,h4,h5⟩:=h.c1;have kr:=Kr.set (r:=n) w j v;have J:=kr.block r h.lr h.ne.symm;have ne:∀i,i≠j->(w.setCell ⟨n,j,none⟩ v).cell? ⟨n,i,none⟩=w.cell? ⟨n,i,none⟩:=λi W=>World.cell?_setCell_other _ _ _ _ (λe=>by injection e with Z e2;omega)
 have sz:=kr.size;refine⟨by have :=h.lt;omega,by have :=h.lr;omega,h.ne,by rw [ne 0 (by rcases z with⟨h,_⟩ | ⟨h,_⟩<;>omega)];exact h.c0,⟨m,⟨es,cl,by rw [J];exact G,H⟩,I⟩,?_,?_,λi=>by rw [World.frozen?_setCell];exact h.f i⟩
 ·rcases z with⟨rfl,_,y,rfl,V⟩ | ⟨rfl,rfl,_⟩
  ·exact⟨y,World.cell?_setCell_same _ _ _ h4,V⟩
  ·exact⟨x,by rw [ne 1 (by omega)];exact h4,h5⟩
 ·rcases z with⟨rfl,rfl,_⟩ | ⟨rfl,rfl,rfl⟩
  ·rw [ne 2 (by omega)];exact h.c2
  ·exact World.cell?_setCell_same _ _ _ h.c2
theorem Nm.put {w w':World}{n r:Nat}{ρ:Rh}{tk:Tk}{bad:Bool}(h:Nm w n r ρ tk bad){m:Value->Option Value}(hm:HK m ρ){x:Nat}(hx:26<=x){c:UInt8}(I:c.toNat< 128)(G:IsMap w' r (.int .i64) (eh m (iv x) (.int .u8 c.toNat)))(hb:cT w w' r):
  Nm w' n r (aD ρ x c) tk bad/\Kn n r w w':=by
 have e:=hb.block n h.ne;obtain⟨y,h4,h5⟩:=h.c1;refine⟨⟨by rw [hb.size];exact h.lt,by rw [hb.size];exact h.lr,h.ne,by rw [World.cell?_of_block (w:=w) e];exact h.c0,⟨_,G,λz=>?_⟩,⟨y,by rw [World.cell?_of_block (w:=w) e];exact h4,h5⟩,by rw [World.cell?_of_block (w:=w) e];exact h.c2,λj=>by rw [World.frozen?_of_block (w:=w) e];exact h.f j⟩,
  hb.os,hb.tape,hb.output,by rw [hb.size];exact Nat.le_refl _,λg _ J=>hb.block g λe=>J (.inr e)⟩
 obtain⟨V,W,Z⟩:=hm z;unfold aD eh;by_cases H:z=x
 ·subst H;refine⟨by simpa using I,λh=>by omega,λ _=> .inl ?_⟩;simp
 ·have:iv z≠iv x:=λe=>H (by injection e with _ e2;omega)
  simp only [if_neg H,if_neg this];exact⟨V,W,Z⟩
theorem zJ {ρ:Rh}{x:Nat}:[UInt8.ofNat (Int.toNat ((ρ x).toNat:Int))]=[ρ x]:=by simp
theorem jH {w:World}{n r:Nat}{ρ:Rh}{tk:Tk}{bad:Bool}(h:Nm w n r ρ tk bad){x:Nat}{R:ay->World->Prop}(z:R [ρ x] w):Calls Tryz.prog 253 #[ptr n,iv x] w (ax [.s] R):=by
 refine mL (ptr n) x w R ?_;obtain⟨m,hm,G⟩:=h.mp;obtain⟨Z,J,V⟩:=G x;refine⟨λH=>?_,λH=>?_⟩
 ·simp only [decide_eq_true_eq]at H;have e:[UInt8.ofNat (Int.toNat (97+(x:Int)))]=[ρ x]:=by rw [J (by omega),show(97+(x:Int)).toNat=97+x by omega]
  refine⟨by unfold aj;omega,by omega,by omega,by rw [e];exact z⟩
 ·simp only [decide_eq_false_iff_not]at H;refine⟨n,0,rfl,_,h.c0,r,m,rfl,hm,ρ x,?_⟩;rcases V (by omega)with I | ⟨I,W⟩
  ·exact⟨true,.inl ⟨rfl,I⟩,by omega,by rw [zJ];exact z⟩
  ·exact⟨false,.inr ⟨rfl,I,by rw [W];rfl⟩,by omega,by rw [zJ];exact z⟩
theorem Ds {w:World}{n r:Nat}{ρ:Rh}{tk:Tk}{bad:Bool}(h:Nm w n r ρ tk bad){x:Nat}(hx:26<=x){R:UInt32->World->Prop}
  (hR:∀y w',qp y tk->Kn n r w w'->Nm w' n r (aD ρ x (ic tk)) (bZ tk (ic tk)) (bad||(sV tk).isNone)->R y w'):Calls Tryz.prog 252 #[ptr n,iv x] w (ax [.w] R):=by
 refine mF (ptr n) x w R ?_;obtain⟨y,hy,μ⟩:=h.c1;have hl:=F6 tk;have hl':=bn hl;have fin:∀G bad',bad'=(bad||(sV tk).isNone)->Kn n r w G->Nm G n r ρ tk bad'->∃ζ:World->Prop,∀H:World,H=World.drew G->ζ H/\∃(ν ξ:Nat),ptr n=Value.pointer (some ⟨ν,ξ,none⟩)/\∃ο:UInt32,(∀w',ζ w'->World.cell? w' ⟨ν,(ξ+1),none⟩=some (Value.int IntKind.u32 (UInt32.toNat ο)))/\Calls Tryz.prog 59 #[(Value.int IntKind.u8 (UInt8.toNat (ic tk)))] H (ax [.w] fun(ω:UInt32) (V:World)=>ζ V/\∃(W Z:Nat),ptr n=Value.pointer (some ⟨W,Z,none⟩)/\((∃u42:Value,World.cell? V ⟨W,(Z+1),none⟩=some u42)/\World.frozen? V ⟨W,(Z+1),none⟩=false)/\∀I:World,I=World.setCell V ⟨W,(Z+1),none⟩ (Value.int IntKind.u32 (UInt32.toNat (ο ||| ω:UInt32)))->∃(ς υ:Nat),ptr n=Value.pointer (some ⟨ς,υ,none⟩)/\∃v46:Value,World.cell? I ⟨ς,(υ+0),none⟩=some v46/\∃(α:Nat) (β:Value->Option Value),v46=Value.map (some α)/\IsMap I α (TypeDesc.int IntKind.i64) β/\∀J:World,IsMap J α (TypeDesc.int IntKind.i64) (eh β (Value.int IntKind.i64 x) (Value.int IntKind.u8 (UInt8.toNat (ic tk))))->cT I J α->R (y) J):=by
  intro G bad' φ k11 η;obtain⟨z,hz,hzt⟩:=η.c1;refine⟨λw'=>Ex G w',λH γ=>⟨γ▸Ex.drew G,n,0,rfl,z,λw' x'=>by rw [x'.cell (show n< _ from η.lt)];exact hz,xK ?_⟩⟩;have θ:Ex G H:=γ▸Ex.drew G;have ι:=η.ex θ;obtain⟨z',hz',_⟩:=ι.c1;refine⟨θ,n,0,rfl,⟨⟨_,hz'⟩,ι.f 1⟩,λI δ=>?_⟩;have κ:=ι.set (tk':=bZ tk (ic tk)) (bad':=bad') δ (.inl ⟨rfl,rfl,_,rfl,hzt.add hl⟩);obtain⟨m,hm,hρ⟩:=κ.mp;refine⟨n,0,rfl,_,κ.c0,r,m,rfl,hm,λJ χ ψ=>?_⟩;obtain⟨n49,k49⟩:=κ.put hρ hx (by omega) χ ψ;have k43:Kn n r H I:=δ▸Kn.set _ _ _;exact hR y J μ (Kn.trans (Kn.trans k11 (Kn.ex θ)) (Kn.trans k43 k49)) (φ▸n49)
 refine⟨n,0,rfl,y,hy,n,0,rfl,y,hy,D6 μ (λhf=>⟨λ _=>?_,λh=>(by cases h)⟩) λc hf=>⟨λh=>(by cases h),λ _=>?_⟩⟩
 ·refine⟨n,0,rfl,⟨⟨_,h.c2⟩,h.f 2⟩,λw15 ε=>?_⟩;have n15:=h.set (tk':=tk) (bad':=true) ε (.inr ⟨rfl,rfl,rfl⟩);have e:ic tk=122:=by unfold ic;rw [hf];rfl
  have :=fin w15 true (by rw [hf];simp) (ε▸Kn.set _ _ _) n15;rw [e]at this;exact this
 ·have e:ic tk=c:=by unfold ic;rw [hf];rfl
  have :=fin w bad (by rw [hf];simp) (Kn.ex (Ex.refl w)) h;rw [e]at this;exact this
def FO (n:Nat):Prop:=∀{D:Nat->Prop} {w:World} {v:Value} {o:List Nat} {l:Lv} {nn r:Nat} {ρ:Rh} {tk:Tk} {bad:Bool} {R:ay->World->Prop},l.sz<=n->l.sh true=true->l.sm=true->sT o l->fL D w v o (af D w l)->(∀g,D g->¬(g=nn\/g=r))->Nm w nn r ρ tk bad->o.length+l.tot<=4294967296->
 (∀w' ρ',Kn nn r w w'->Nm w' nn r ρ' tk (bad||fc o.length l.isNil (thBad l) tk)->(∀x,x∉o->x∉l.bvs->ρ' x=ρ x)->R (aP o (thS l) ρ tk) w')->Calls Tryz.prog 237 #[ptr nn,v] w (ax [.s] R)
def EA (n:Nat):Prop:=∀{D:Nat->Prop} {w:World} {v:Value} {e:Lv} {nn r:Nat} {ρ:Rh} {tk:Tk} {bad:Bool} {R:ay->World->Prop},e.sz<=n->((∃k a b o q,e= .thr k a b o q .nil/\q.sh true=true)\/∃z,e= .sum z .nil/\z.sh false=true)->e.sm=true->sT [] e->af D w e [v]->(∀g,D g->¬(g=nn\/g=r))->Nm w nn r ρ tk bad->e.tot<=4294967296->
 (∀t w' ρ',thS e ρ tk=[t]->Kn nn r w w'->Nm w' nn r ρ' tk (bad||thBad e tk)->(∀x,x∉e.bvs->ρ' x=ρ x)->R t w')->Calls Tryz.prog 254 #[ptr nn,v] w (ax [.s] R)
theorem Ih (a b:UInt8):Op.bytesLess [a] [b]=decide (a< b):=by
 unfold Op.bytesLess;by_cases h:a< b
 ·simp [h]
 ·by_cases z:b< a<;>simp [Op.bytesLess,h]
theorem Kp.new {w w1 w2:World}{nn r:Nat}{row:Option Nat}(k:Kn nn r w w1)(z:w1.grownBy w2 row)(hr:∀g,row=some g->w.heap.size<=g):Kn nn r w w2:=
 Kp.trans k (Kp.aQ (S:=λg=>row=some g) z λ _ h=>h) λg G H=>by have :=hr g H;omega
theorem Ap {n:Nat}(hl:FO n):EA (n+1):=by
 intro D w v e nn r ρ tk bad R hn hsh ζ huq h hD hN ο hR;refine kW (ptr nn) v w R ?_;rcases hsh with⟨k,a,b,o,q,rfl,hq⟩ | ⟨J,rfl,hps⟩
 ·obtain⟨t,ts',a',W,vr,e1,ht,hk,hlv,_⟩:=h;obtain⟨rfl,rfl⟩:=List.cons.inj e1;obtain⟨g,V,hgD,hg2,c0,c1,c2,c3,c4⟩:=ht;obtain⟨u1,u2⟩:=huq.thr;simp only [Lv.sz]at hn;simp only [Lv.tot]at ο;simp only [Lv.sm,Bool.and_eq_true]at ζ;have hgn:=hD g hgD;have cell:∀{w':World},Kn nn r w w'->∀j,w'.cell? ⟨g,j,none⟩=w.cell? ⟨g,j,none⟩:=λx j=>World.cell?_of_block (w:=w) (x.block g hg2 hgn)
  have hlen:∀ρ tk,(aP o (thS q) ρ tk).length<=1099511627776:=λρ tk=>by
   have :=mG (λρ tk=>fU q ρ tk) ρ tk (own:=o);omega
  have ι:∀{w1:World} {Z:Rh} {μ:Tk} {ς:Bool} {R:ay->World->Prop},Kn nn r w w1->Nm w1 nn r Z μ ς->(∀w' ρ',Kn nn r w1 w'->Nm w' nn r ρ' μ (ς||fc o.length q.isNil (thBad q) μ)->(∀x,x∉o->x∉q.bvs->ρ' x=Z x)->R (aP o (thS q) Z μ) w')->Calls Tryz.prog 237 #[ptr nn,vr] w1 (ax [.s] R):=λk1 n1 hR=>
   hl (by omega) hq ζ.1 u1 (hlv.kp k1 hD λl h=>h.kp k1 hD) hD n1 (by omega) hR
  cases k
  case p=>
   refine⟨g,0,V,_,c0,aS (by decide) (cQ (by decide) ⟨g,0,V,vr,c3,ι (Kn.ex (Ex.refl w)) hN λw' ρ' k' n' H=>⟨by have :=hlen ρ tk;simp only [List.length_cons,List.length_nil];omega,hR _ w' ρ' (by simp only [thS,kText];rfl) k' ?_ λx G=>?_⟩⟩)⟩
   ·simpa [thBad]using n'
   ·simp only [Lv.bvs,List.append_nil,List.mem_append,not_or]at G;exact H x G.2.1 G.2.2
  case t=>
   refine⟨g,0,V,_,c0,aS (by decide) (aS (by decide) (cQ (by decide) ⟨g,0,V,vr,c3,ι (Kn.ex (Ex.refl w)) hN λw' ρ' k' n' H=>⟨by have :=hlen ρ tk;simp only [List.length_cons,List.length_nil];omega,hR _ w' ρ' (by simp only [thS,kText];rfl) k' ?_ λx G=>?_⟩⟩))⟩
   ·simpa [thBad]using n'
   ·simp only [Lv.bvs,List.append_nil,List.mem_append,not_or]at G;exact H x G.2.1 G.2.2
  case m=>
   obtain⟨rfl,rfl⟩:a'=a/\W=b:=by rcases hk with h | h | h<;>first | exact h | cases h
   refine⟨g,0,V,_,c0,aS (by decide) (aS (by decide) (aS (by decide) (cQ (by decide) ⟨λw'=>Kn nn r w w',λw48 α=>?_⟩)))⟩;have I:Kn nn r w w48:=Kn.ex (α▸Ex.drew w);have β:=hN.ex (α▸Ex.drew w);refine⟨I,g,0,V,a',λw' x=>by rw [cell x];exact c1,g,0,V,W,λw' x=>by rw [cell x];exact c2,jH β ⟨I,jH β ⟨I,?_,?_,?_,?_,g,0,V,vr,by rw [cell I];exact c3,ι I β λw' ρ' k' n' H=>⟨?_,hR _ w' ρ' ?_ (Kn.trans I k') ?_ λx G=>?_⟩⟩⟩⟩
   ·split<;>simp
   ·split<;>simp
   ·split<;>split<;>simp
   ·split<;>split<;>simp
   ·have :=hlen ρ tk;split<;>split<;>(simp only [List.length_append,List.length_cons,List.length_nil];omega)
   ·simp only [thS,kText,Ih,List.cons.injEq,and_true];by_cases h1:ρ a'< ρ W
    ·have h2:¬ρ W< ρ a':=λh2=>by rw [UInt8.lt_iff_toNat_lt]at h1 h2;omega
     simp [h1,h2]
    ·by_cases h2:ρ W< ρ a'
     ·have h3:ρ a'≠ρ W:=λe=>by rw [e,UInt8.lt_iff_toNat_lt]at h2;omega
      simp [h1,h2,h3]
     ·have h3:ρ a'=ρ W:=by
       rw [UInt8.lt_iff_toNat_lt]at h1 h2;exact UInt8.toNat_inj.1 (by omega)
      simp [h1,h2,h3]
   ·simpa [thBad]using n'
   ·simp only [Lv.bvs,List.append_nil,List.mem_append,not_or]at G;exact H x G.2.1 G.2.2
  case s=>
   obtain⟨rfl,rfl⟩:a'=a/\W=b:=by rcases hk with h | h | h<;>first | exact h | cases h
   refine⟨g,0,V,_,c0,aS (by decide) (aS (by decide) (aS (by decide) (aS (by decide) (aS (by decide) ⟨λw'=>Kn nn r w w',λw48 α=>?_⟩))))⟩;have I:Kn nn r w w48:=Kn.ex (α▸Ex.drew w);have β:=hN.ex (α▸Ex.drew w);refine⟨I,g,0,V,a',λw' x=>by rw [cell x];exact c1,g,0,V,W,λw' x=>by rw [cell x];exact c2,g,0,V,vr,λw' x=>by rw [cell x];exact c3,jH β ⟨I,by simp,jH β ⟨I,by simp,by simp,ι I β λw' ρ' k' n' H=>⟨Kn.trans I k',?_,hR _ w' ρ' ?_ (Kn.trans I k') ?_ λx G=>?_⟩⟩⟩⟩
   ·have :=hlen ρ tk;simp only [List.length_append,List.length_cons,List.length_nil];omega
   ·simp only [thS,kText];simp
   ·simpa [thBad]using n'
   ·simp only [Lv.bvs,List.append_nil,List.mem_append,not_or]at G;exact H x G.2.1 G.2.2
  case r=>
   obtain⟨rfl,rfl⟩:a'=a/\W=b:=by rcases hk with h | h | h<;>first | exact h | cases h
   obtain⟨u3,u4,u5,u6⟩:=u2 rfl;refine⟨g,0,V,_,c0,aS (by decide) (aS (by decide) (aS (by decide) (aS (by decide) (cQ (by decide) ⟨g,0,V,W,c2,Ds hN u3 λy w68 hy k68 n68=>⟨λw'=>Kn nn r w w',λw70 υ=>?_⟩⟩))))⟩;have η:Kn nn r w w70:=Kn.trans k68 (Kn.ex (υ▸Ex.drew w68));have n70:=n68.ex (υ▸Ex.drew w68);refine⟨η,g,0,V,a',λw' x=>by rw [cell x];exact c1,g,0,V,W,λw' x=>by rw [cell x];exact c2,g,0,V,vr,λw' x=>by rw [cell x];exact c3,jH n70 ⟨η,by simp,jH n70 ⟨η,by simp,by simp,ι η n70 λw' ρ' k' n' H=>⟨Kn.trans η k',?_,nn,0,rfl,?_,λw89 φ=>hR _ w89 ρ' ?_ (Kn.trans (Kn.trans η k') (φ▸Kn.set _ _ _)) ?_ λx G=>?_⟩⟩⟩⟩
   ·have :=hlen (aD ρ W (ic tk)) (bZ tk (ic tk));simp only [List.length_append,List.length_cons,List.length_nil];omega
   ·obtain⟨z,hz,_⟩:=n'.c1;exact⟨⟨_,hz⟩,n'.f 1⟩
   ·simp only [thS,kText,List.nil_append,List.cons_append,List.append_assoc];rw [show aD ρ W (ic tk) a'=ρ a' from if_neg (Ne.symm u4),show aD ρ W (ic tk) W=ic tk from if_pos rfl]
   ·have :=n'.set (tk':=tk) (bad':=(bad||thBad (.thr .r a' W o q .nil) tk)) φ (.inl ⟨rfl,?_,y,rfl,hy⟩)
    ·exact this
    ·simp [thBad,Bool.or_assoc]
   ·simp only [Lv.bvs,List.append_nil,List.mem_append,not_or,if_true,List.mem_singleton]at G;rw [H x G.2.1 G.2.2];exact if_neg G.1
 ·obtain⟨t,ts',a',W,vp,us,e1,ht,hus,χ,_⟩:=h;obtain⟨rfl,rfl⟩:=List.cons.inj e1;obtain⟨g,V,hgD,hg2,c0,c1,c2,c3,c4⟩:=ht;have uq:=huq.sum;simp only [Lv.sz]at hn;simp only [Lv.tot]at ο;simp only [Lv.sm,Bool.and_eq_true,Bool.not_eq_true']at ζ;obtain⟨au,cau,hvu⟩:=hus.slice;have hul:=χ.len;have hpl:=Lv.cJ J;have hpt:=bS J;have hln:∀ρ tk,(thS J ρ tk).length=J.len:=λρ tk=>bw J ρ tk
  refine⟨g,0,V,_,c0,cQ (by decide) λb6 w7 hb6 hw7=>?_⟩;have x7:Ex w w7:=hw7▸Ex.alloc w _;refine⟨g,0,V,vp,by rw [x7.cell (show g< _ from hg2)];exact c4,au,_,cau,hvu,λtx x w'=>∃(j:Nat) (ρ':Rh),x=j/\j<=us.length/\Kn nn r w w'/\Nm w' nn r ρ' tk (bad||thBad (J.take j) tk)/\(∀x,x∉(J.take j).bvs->ρ' x=ρ x)/\Own w.heap.size w' tx (thS (J.take j) ρ tk),λ _ x _=>(us.length - x).toNat,⟨0,ρ,rfl,Nat.zero_le _,Kn.ex x7,by simpa [Lv.take,thBad]using hN.ex x7,λ _ _=>rfl,Own.none (Nat.le_refl _) hb6 hw7⟩,λtx x w18 hI=>?_⟩;obtain⟨j,Z,rfl,hj,κ,n18,H,ho⟩:=hI;refine⟨λhlt=>?_,λhge=>?_⟩;rotate_left
  ·have:j=J.bk.length:=by simp only [decide_eq_false_iff_not]at hge;omega
   rw [this,Lv.dc]at n18 ho H;have hlen:=fU J ρ tk;refine Co ho (λe=>?_) (by rw [hln];omega) (by omega) λw36 k36=>hR _ w36 Z rfl ?_ ?_ λx G=>H x ?_
   ·have :=hln ρ tk;rw [e]at this;rw [Lv.dk]at ζ;simp only [List.length_nil]at this;simp [<-this]at ζ
   ·exact Kp.trans κ k36 λg' hg' h'=>by have :=(ho.block g' h').1;omega
   ·have hb:∀g',tx.ownBlock=some g'->w.heap.size<=g':=λg' h'=>(ho.block g' h').1
    have :=hN.lt;have :=hN.lr;have e:(bad||thBad (.sum J .nil) tk)=(bad||thBad J tk):=by simp [thBad]
    rw [e];exact n18.kp k36 (λh'=>by have :=hb _ h';omega) λh'=>by have :=hb _ h';omega
   ·simpa [Lv.bvs]using G
  have ν:j< us.length:=by simp only [decide_eq_true_eq]at hlt;omega
  have hje:j< J.bk.length:=by omega
  obtain⟨bu,ou,γ,hvu',hcu⟩:∃bu ou γ,vp= .slice (some ⟨bu,ou,none⟩) us.length γ/\w18.cell? ⟨bu,ou+j,none⟩=some us[j]:=by
   rcases hus with⟨_,h0⟩ | ⟨bt,ot,capt',e,hbD,hb',hcell⟩
   ·rw [h0]at ν;simp at ν
   ·exact⟨bt,ot,capt',e,by rw [World.cell?_of_block (w:=w) (κ.block bt hb' (hD bt hbD))];exact hcell j _ (List.getElem?_eq_getElem ν)⟩
  obtain⟨e,hf1,θ,hf3⟩:=aH.single χ.bk (List.getElem?_eq_getElem ν);have hf4:J.bk[j]=e:=by rw [List.getElem?_eq_getElem hje]at hf1;exact Option.some.inj hf1
  have δ:=Lv.take_succ J j hje;rw [hf4]at δ;have huqe:=uq.bk θ;have ψ:=Lv.sH ζ.2.1 e θ;have hsz2:=Lv.dU J e θ;have htot2:=Lv.fS J e θ;have hfe:thS e Z tk=thS e ρ tk:=rJ e Z ρ tk λx G=>H x λhb=>uq.nf x (Lv.ll J j x hb) (Lv.pw J e θ G)
  obtain⟨o2,q,rfl,hq⟩:=Lv.lz hps e θ;simp only [Lv.sz]at hsz2;simp only [Lv.tot]at htot2;simp only [Lv.sm,Bool.and_eq_true]at ψ;obtain⟨v2,ts2,e2,hlv2,_⟩:=hf3;obtain⟨rfl,rfl⟩:=List.cons.inj e2;refine⟨bu,ou,_,γ,hvu',by omega,by omega,us[j],by rw [Int.toNat_natCast,Nat.mul_one];exact hcu,?_⟩;refine hl (by omega) hq ψ.1 huqe.part (hlv2.kp κ hD λl h=>h.kp κ hD) hD n18 (by omega) λw25 ρ2 k25 n25 hρ2 b26 w27 hb26 ω=>?_
  have ξ:Ex w25 w27:=ω▸Ex.alloc w25 _;have k1:Kn nn r w w25:=Kn.trans κ k25;have ε:∀g',tx.ownBlock=some g'->w.heap.size<=g'/\¬(g'=nn\/g'=r):=λg' h'=>by
   have h1:=(ho.block g' h').1;have :=hN.lt;have :=hN.lr;exact⟨h1,by omega⟩
  have ho27:Own w.heap.size w27 tx (thS (J.take j) ρ tk):=(ho.kp k25 λg' h'=>(ε g' h').2).ex ξ;have hl3:(thS (J.take j) ρ tk).length<=us.length:=by
   rw [bw];have :=Lv.gI J j;omega
  refine Own.push ho27 (by have :=k1.size;have :=ξ.size;omega) (Strs.one hb26 ω) (by simp only [List.length_cons,List.length_nil];omega) λv33 w34 _ ho34 hg34 _=>⟨by unfold aj;omega,⟨j+1,ρ2,by omega,by omega,?_,?_,?_,?_⟩,by show((us.length:Int) - ((j:Int)+1)).toNat< ((us.length:Int) - j).toNat;omega⟩
  ·exact Kp.new (Kn.trans k1 (Kn.ex ξ)) hg34 λg' h'=>(ε g' h').1
  ·have e1:(bad||thBad (J.take (j+1)) tk)=(bad||thBad (J.take j) tk||fc o2.length q.isNil (thBad q) tk):=by rw [δ,cO];simp [thBad,Bool.or_assoc]
   rw [e1];refine(n25.ex ξ).kp (Kp.aQ (S:=λg=>tx.ownBlock=some g) hg34 λ _ h=>h) (λh'=>(ε _ h').2 (.inl rfl)) λh'=>(ε _ h').2 (.inr rfl)
  ·intro x G;rw [δ,Lv.dg]at G;simp only [Lv.bvs,List.append_nil,List.mem_append,not_or]at G;rw [hρ2 x G.2.1 G.2.2,H x G.1]
  ·rw [δ,fT];have e3:thS (.part o2 q .nil) ρ tk=[aP o2 (thS q) Z tk]:=by rw [<-hfe];simp only [thS]
   rw [e3];exact ho34
theorem aM.set {e B:Nat}{w w':World}{g cap n j:Nat}{l:List Value}{x:Value}(h:aM e B w (.slice (some ⟨g,0,none⟩) n cap) l)(hw:w'=w.setCell ⟨g,j,none⟩ x)(Z:j< l.length):aM e B w' (.slice (some ⟨g,0,none⟩) n cap) (l.set j x):=by
 subst hw;rcases h.2 with⟨H,_⟩ | ⟨g',z,cur,I,hb,J,V,W,G,h4⟩
 ·cases H
 ·cases I;have hl:=h.1;rw [Nat.mul_one]at G h4;have e:(w.setCell ⟨g,j,none⟩ x).heap[g]?=some (.cells (cur.setIfInBounds j x) e (0,0)):=by
   rw [Sort.setCell_eq];simp [Sort.mapBlock,Array.getElem?_modify,J,Sort.onCells]
  refine⟨by simp,.inr ⟨g,cap,_,by simp,hb,e,by simpa using V,W,by simpa using G,?_⟩⟩;rw [Nat.mul_one,List.length_set,Array.toList_setIfInBounds,List.take_set,h4]
theorem aM.at {e B:Nat}{w:World}{g cap n j:Nat}{o:List Nat}(h:aM e B w (.slice (some ⟨g,0,none⟩) n cap) (o.map iv))(I:j< o.length):w.cell? ⟨g,0+j,none⟩=some (iv o[j])/\w.frozen? ⟨g,0+j,none⟩=false/\g< w.heap.size/\n=o.length:=by
 have fr:=h.fr (g:=g) rfl (0+j);have hb:=h.block g rfl;rcases h.2 with⟨G,_⟩ | ⟨W,z,cur,H,J,Z,h1,h2,h3,h4⟩
 ·cases G
 ·cases H;refine⟨?_,fr,hb.2,by simp⟩;rcases h.AY (D:=λ _=>True) λ _ _=>trivial with⟨G,_⟩ | ⟨b,off,z,H,_,_,V⟩
  ·cases G
  ·cases H;exact V j _ (by simp [I])
def swp (π:List Nat)(a i:Nat)(ha:a< π.length)(z:i< π.length):List Nat:=(π.set a π[i]).set i π[a]
theorem lL (π:List Nat)(a i:Nat)(ha:a< π.length)(z:i< π.length)(H:a<=i):
  (swp π a i ha z).Perm π/\(swp π a i ha z).length=π.length/\(swp π a i ha z).take (a+1)=π.take a++[π[i]]:=by
 have G:(swp π a i ha z).Perm π:=by
  have :=List.set_set_perm z ha;unfold swp;by_cases h:a=i
  ·subst h;simp
  ·rw [List.set_comm _ _ h];exact this
 have I:(swp π a i ha z).length=π.length:=G.length_eq;refine⟨G,I,?_⟩;rw [List.take_succ_eq_append_getElem (by omega)]
 congr 1
 ·unfold swp;rw [List.take_set_of_le (by omega),List.take_set_of_le (by omega)]
 ·unfold swp;by_cases h:a=i
  ·subst h;simp
  ·simp [List.getElem_set,Ne.symm h]
theorem D7 (π:List Nat)(a:Nat)(ha:a< π.length)(σ:List Nat):
  (∃i,∃z:i< π.length,a<=i/\∃τ:List Nat,τ.Perm ((swp π a i ha z).drop (a+1))/\σ=(swp π a i ha z).take (a+1)++τ)↔∃τ:List Nat,τ.Perm (π.drop a)/\σ=π.take a++τ:=by
 have key:∀i (z:i< π.length),a<=i->(π[i]::(swp π a i ha z).drop (a+1)).Perm (π.drop a):=λi z G=>by
  obtain⟨H,J,I⟩:=lL π a i ha z G;have h4:(π.take a++(π[i]::(swp π a i ha z).drop (a+1))).Perm (π.take a++π.drop a):=by
   rw [List.take_append_drop,List.append_cons,<-I,List.take_append_drop];exact H
  exact(List.perm_append_left_iff _).1 h4
 constructor
 ·rintro⟨i,z,G,τ,H,rfl⟩
  obtain⟨J,I,h4⟩:=lL π a i ha z G;refine⟨π[i]::τ,(H.cons _).trans (key i z G),?_⟩;rw [h4,List.append_assoc];rfl
 ·rintro⟨τ,H,rfl⟩
  cases τ with
  | nil=>have :=H.length_eq;rw [List.length_drop]at this;simp at this;omega
  | cons y τ=>
   have V:=H.subset (List.mem_cons_self ..);obtain⟨j,W,e⟩:=List.mem_iff_getElem.1 V;rw [List.length_drop]at W;rw [List.getElem_drop]at e;have z:a+j< π.length:=by omega
   obtain⟨J,I,h4⟩:=lL π a (a+j) ha z (by omega);refine⟨a+j,z,by omega,τ,?_,?_⟩
   ·have :=key (a+j) z (by omega);rw [e]at this;exact(List.perm_cons y).1 (H.trans this.symm)
   ·rw [h4,e,List.append_assoc];rfl
theorem GZ (π:List Nat)(a i:Nat)(ha:a< π.length)(z:i< π.length)(G:i< (swp π a i ha z).length)(H:a< (swp π a i ha z).length):(swp π a i ha z)[i]=π[a]/\(swp π a i ha z)[a]=π[i]:=by
 simp only [swp,List.getElem_set];refine⟨if_pos trivial,?_⟩;by_cases h:i=a
 ·subst h;simp
 ·simp [h]
def Ia (B:Nat)(v:Value)(o:List Nat)(Inv:List (List Nat)->World->Prop)(f:Nat)(ca:List Value):Prop:=
 ∀(acc:List (List Nat)) (π:List Nat) (w:World),Inv acc w->aM 3 B w v (π.map iv)->π.Perm o->∀{R:World->Prop},(∀w',Inv (acc++[π]) w'->aM 3 B w' v (π.map iv)->R w')->Calls Tryz.prog f (List.toArray ca) w (ax [] R)
theorem xp {B:Nat}{v:Value}{o:List Nat}{Inv:List (List Nat)->World->Prop}{f:Nat}{ca:List Value}(hf:dy.contains f=true)(κ:Ia B v o Inv f ca)(hinv:∀acc w w',Inv acc w->Kp w w' (λg=>v.ownBlock=some g)->Inv acc w')(ho:o.length<=1099511627776):
  ∀(d:Nat) (a:Nat) (π:List Nat) (acc:List (List Nat)) (w:World),a+d=π.length->Inv acc w->aM 3 B w v (π.map iv)->π.Perm o->∀{R:World->Prop},
   (∀w' δ,Inv (acc++δ) w'->aM 3 B w' v (π.map iv)->(∀σ,σ∈δ↔∃τ:List Nat,τ.Perm (π.drop a)/\σ=π.take a++τ)->R w')->
   Calls Tryz.prog 250 #[v,iv a,.func (.func f) #[] (List.toArray ca)] w (ax [] R)
 | 0,a,π,acc,w,hd,hI,hw,hp,R,hR=>by
  refine lj v a _ w R ?_;obtain⟨ad,cap,hv⟩:=(hw.AY (D:=λ _=>True) λ _ _=>trivial).slice;rw [List.length_map]at hv;refine⟨ad,_,cap,hv,cQ (by omega) ⟨f,ca,rfl,hf,?_⟩⟩;rw [List.nil_append];refine κ acc π w hI hw hp λw' hI' hw'=>hR w' [π] hI' hw' λσ=>?_
  rw [show a=π.length by omega,List.drop_length,List.take_length];simp only [List.mem_singleton,List.perm_nil];constructor
  ·rintro rfl;exact⟨[],rfl,by simp⟩
  ·rintro⟨τ,rfl,rfl⟩;simp
 | d+1,a,π,acc,w,hd,hI,hw,hp,R,hR=>by
  refine lj v a _ w R ?_;have ha:a< π.length:=by omega
  have hpl:=hp.length_eq;obtain⟨g,cap,hv⟩:∃g cap,v= .slice (some ⟨g,0,none⟩) π.length cap:=by
   rcases hw.2 with⟨_,h0⟩ | ⟨g,cap,cur,hv,_⟩
   ·rw [List.length_map]at h0;omega
   ·rw [List.length_map]at hv;exact⟨g,cap,hv⟩
  subst hv;have kg:∀{w1 w2:World} {j:Nat} {x:Value},w2=w1.setCell ⟨g,j,none⟩ x->Kp w1 w2 (λb=>(Value.slice (some ⟨g,0,none⟩) π.length cap).ownBlock=some b):=λh=>h▸Kp.mono (λb hb=>by rw [hb];rfl) (Kr.set _ _ _)
  refine⟨_,_,cap,rfl,aS (by omega) ⟨λi w'=>∃(j:Nat) (z:List (List Nat)),i=j/\a<=j/\j<=π.length/\Inv (acc++z) w'/\aM 3 B w' (.slice (some ⟨g,0,none⟩) π.length cap) (π.map iv)/\∀σ,σ∈z↔∃i,∃hi:i< π.length,(a<=i/\i< j)/\∃τ:List Nat,τ.Perm ((swp π a i ha hi).drop (a+1))/\σ=(swp π a i ha hi).take (a+1)++τ,
   λi _=>(π.length - i).toNat,⟨a,[],rfl,Nat.le_refl _,by omega,by rw [List.append_nil];exact hI,hw,λσ=>⟨λh=>(by cases h),fun⟨i,_,h,_⟩=>by omega⟩⟩,λi ζ hJ=>?_⟩⟩
  obtain⟨j,z,rfl,μ,hjl,ν,α,ε⟩:=hJ;refine⟨_,_,cap,rfl,λhlt=>?_,λhge=>?_⟩;rotate_left
  ·have:j=π.length:=by simp only [decide_eq_false_iff_not]at hge;omega
   refine hR ζ z ν α λσ=>?_
   rw [ε,<-D7 π a ha];constructor
   ·rintro⟨i,hi,⟨h1,_⟩,h2⟩;exact⟨i,hi,h1,h2⟩
   ·rintro⟨i,hi,h1,h2⟩;exact⟨i,hi,⟨h1,by omega⟩,h2⟩
  have G:j< π.length:=by simp only [decide_eq_true_eq]at hlt;omega
  obtain⟨cj,fj,hgb,_⟩:=α.at G;obtain⟨ca',fa,_,_⟩:=α.at ha;obtain⟨s1,s2,s3⟩:=lL π a j ha G μ;refine⟨λw'=>aM 3 B w' (.slice (some ⟨g,0,none⟩) π.length cap) (π.map iv),λw18 ξ=>?_⟩;have ο:Ex ζ w18:=ξ▸Ex.drew ζ;have β:=α.kp (Kp.ah ο λ _=>False) λ _ _ h=>h
  have I18:=hinv _ _ _ ν (Kp.ah ο _);refine⟨β,g,0,_,cap,rfl,by omega,by omega,π[j],λw' ho=>by rw [Int.toNat_natCast,Nat.mul_one];exact(ho.at G).1,g,0,_,cap,rfl,by omega,by omega,π[a],λw' ho=>by rw [Int.toNat_natCast,Nat.mul_one];exact(ho.at ha).1,g,0,_,cap,rfl,by omega,by omega,⟨⟨_,by rw [Int.toNat_natCast,Nat.mul_one];exact(β.at ha).1⟩,by rw [Int.toNat_natCast,Nat.mul_one];exact(β.at ha).2.1⟩,λw34 J=>?_⟩;rw [Int.toNat_natCast,Nat.mul_one,Nat.zero_add]at J;have η:=β.set J (by simpa using ha);rw [<-List.map_set]at η;have ς:j< (π.set a π[j]).length:=by rw [List.length_set];exact G
  obtain⟨c34,f34,_,_⟩:=η.at ς;refine⟨g,0,_,cap,rfl,by omega,by omega,⟨⟨_,by rw [Int.toNat_natCast,Nat.mul_one];exact c34⟩,by rw [Int.toNat_natCast,Nat.mul_one];exact f34⟩,λυ V=>⟨by unfold aj;omega,?_⟩⟩;rw [Int.toNat_natCast,Nat.mul_one,Nat.zero_add]at V;have φ:=η.set V (by simpa using G);rw [<-List.map_set]at φ;have χ:aM 3 B υ (.slice (some ⟨g,0,none⟩) π.length cap) ((swp π a j ha G).map iv):=φ;have I40:=hinv _ _ _ (hinv _ _ _ I18 (kg J)) (kg V);refine xp hf κ hinv ho d (a+1) (swp π a j ha G) (acc++z) υ (by omega) I40 χ (s1.trans hp) λψ ω I41 o41 hm2=>?_
  have I:j< (swp π a j ha G).length:=by omega
  have H:a< (swp π a j ha G).length:=by omega
  obtain⟨ej,ea⟩:=GZ π a j ha G I H;refine⟨λw'=>aM 3 B w' (.slice (some ⟨g,0,none⟩) π.length cap) ((swp π a j ha G).map iv),λw43 hw43=>?_⟩;have x43:Ex ψ w43:=hw43▸Ex.drew ψ;have γ:=o41.kp (Kp.ah x43 λ _=>False) λ _ _ h=>h
  have I43:=hinv _ _ _ I41 (Kp.ah x43 _);refine⟨γ,g,0,_,cap,rfl,by omega,by omega,((swp π a j ha G)[j]:Nat),λw' ho=>by rw [Int.toNat_natCast,Nat.mul_one];exact(ho.at I).1,g,0,_,cap,rfl,by omega,by omega,((swp π a j ha G)[a]:Nat),λw' ho=>by rw [Int.toNat_natCast,Nat.mul_one];exact(ho.at H).1,g,0,_,cap,rfl,by omega,by omega,⟨⟨_,by rw [Int.toNat_natCast,Nat.mul_one];exact(γ.at H).1⟩,by rw [Int.toNat_natCast,Nat.mul_one];exact(γ.at H).2.1⟩,λw59 W=>?_⟩;rw [Int.toNat_natCast,Nat.mul_one,Nat.zero_add]at W;have θ:=γ.set W (by rw [List.length_map];exact H);rw [<-List.map_set]at θ;have hj59:j< ((swp π a j ha G).set a (swp π a j ha G)[j]).length:=by rw [List.length_set];exact I
  obtain⟨c59,f59,_,_⟩:=θ.at hj59;refine⟨g,0,_,cap,rfl,by omega,by omega,⟨⟨_,by rw [Int.toNat_natCast,Nat.mul_one];exact c59⟩,by rw [Int.toNat_natCast,Nat.mul_one];exact f59⟩,λw65 Z=>⟨by unfold aj;omega,⟨j+1,z++ω,by omega,by omega,by omega,?_,?_,λσ=>?_⟩,by show((π.length:Int) - ((j:Int)+1)).toNat< ((π.length:Int) - j).toNat;omega⟩⟩
  ·rw [<-List.append_assoc];exact hinv _ _ _ (hinv _ _ _ I43 (kg W)) (kg Z)
  ·rw [Int.toNat_natCast,Nat.mul_one,Nat.zero_add]at Z;have ι:=θ.set Z (by rw [List.length_map,List.length_set];exact I);rw [<-List.map_set]at ι;have e:((swp π a j ha G).set a (swp π a j ha G)[j]).set j (swp π a j ha G)[a]=π:=by
    rw [ej,ea];unfold swp;apply List.ext_getElem
    ·simp
    ·intro k h1 h2;simp only [List.getElem_set];split
     ·rename_i h;subst h;rfl
     ·split
      ·rename_i h;subst h;rfl
      ·rfl
   rw [e]at ι;exact ι
  ·rw [List.mem_append,ε,hm2];constructor
   ·rintro(⟨i,hi,⟨h1,h2⟩,h3⟩ | ⟨τ,h1,h2⟩)
    ·exact⟨i,hi,⟨h1,by omega⟩,h3⟩
    ·exact⟨j,G,⟨μ,by omega⟩,τ,h1,h2⟩
   ·rintro⟨i,hi,⟨h1,h2⟩,h3⟩
    by_cases h:i=j
    ·subst h;right;exact h3
    ·left;exact⟨i,hi,⟨h1,by omega⟩,h3⟩
structure vR (w:World)(b30 b3 b5 b16 b18 nn:Nat)(vo vl:Value)(x:UInt32)(best:Tx):Prop where
 l:∀b,(b=b30\/b=b3\/b=b5\/b=b16\/b=b18)->b< w.heap.size
 c30:w.cell? ⟨b30,0,none⟩=some vo
 c3:w.cell? ⟨b3,0,none⟩=some (ptr nn)
 c5:w.cell? ⟨b5,0,none⟩=some vl
 c16:w.cell? ⟨b16,0,none⟩=some (.string (ab best))
 c18:w.cell? ⟨b18,0,none⟩=some (.int .u32 x.toNat)
 f16:w.frozen? ⟨b16,0,none⟩=false
 ne:b16≠b30/\b16≠b3/\b16≠b5/\b16≠b18
section
variable {w w':World} {b30 b3 b5 b16 b18 nn:Nat} {vo vl:Value} {x:UInt32} {best best':Tx} {S:Nat->Prop}
theorem vR.kp (h:vR w b30 b3 b5 b16 b18 nn vo vl x best)(k:Kp w w' S)(z:∀b,(b=b30\/b=b3\/b=b5\/b=b16\/b=b18)->¬S b):vR w' b30 b3 b5 b16 b18 nn vo vl x best:=by
 have e:∀b,(b=b30\/b=b3\/b=b5\/b=b16\/b=b18)->w'.heap[b]?=w.heap[b]?:=λb hb=>k.block b (h.l b hb) (z b hb)
 exact⟨λb hb=>Nat.lt_of_lt_of_le (h.l b hb) k.size,by rw [World.cell?_of_block (w:=w) (e b30 (by simp))];exact h.c30,by rw [World.cell?_of_block (w:=w) (e b3 (by simp))];exact h.c3,by rw [World.cell?_of_block (w:=w) (e b5 (by simp))];exact h.c5,
  by rw [World.cell?_of_block (w:=w) (e b16 (by simp))];exact h.c16,by rw [World.cell?_of_block (w:=w) (e b18 (by simp))];exact h.c18,by rw [World.frozen?_of_block (w:=w) (e b16 (by simp))];exact h.f16,h.ne⟩
theorem vR.ex (h:vR w b30 b3 b5 b16 b18 nn vo vl x best)(k:Ex w w'):vR w' b30 b3 b5 b16 b18 nn vo vl x best:=h.kp (Kp.ah k λ _=>False) λ _ _ h=>h
theorem vR.CA (h:vR w b30 b3 b5 b16 b18 nn vo vl x best)(hw:w'=w.setCell ⟨b16,0,none⟩ (.string (ab best'))):vR w' b30 b3 b5 b16 b18 nn vo vl x best':=by
 subst hw;have k:=Kr.set (r:=b16) w 0 (.string (ab best'));have ne:∀b,b16≠b->(w.setCell ⟨b16,0,none⟩ (.string (ab best'))).cell? ⟨b,0,none⟩=w.cell? ⟨b,0,none⟩:=λb hb=>World.cell?_setCell_other _ _ _ _ (λe=>by injection e with I J;omega)
 obtain⟨n1,z,G,H⟩:=h.ne;exact⟨λb hb=>Nat.lt_of_lt_of_le (h.l b hb) k.size,by rw [ne _ n1];exact h.c30,by rw [ne _ z];exact h.c3,by rw [ne _ G];exact h.c5,World.cell?_setCell_same _ _ _ h.c16,by rw [ne _ H];exact h.c18,by rw [World.frozen?_setCell];exact h.f16,h.ne⟩
end
def mN (l:Lv)(ls:List UInt8)(ρ:Rh)(tk:Tk)(π:List Nat):Tx:=wrap ls []++joinS 38 (aX (thS l (asg π ls ρ) (addK ls tk)))
theorem Ao (c:UInt8)(l:List UInt8):wrap (c::l) []=[35]++[c]++[46]++wrap l []:=rfl
theorem BI {n:Nat}(ht:EA n){D:Nat->Prop}{w:World}{b30 b3 b5 b16 b18 nn r:Nat}{vo vl:Value}{x:UInt32}{best:Tx}{o π:List Nat}{l:Lv}{ρ:Rh}{tk:Tk}{bad:Bool}{B:Nat}(hs:vR w b30 b3 b5 b16 b18 nn vo vl x best)
  (hb:∀b,(b=b30\/b=b3\/b=b5\/b=b16\/b=b18)->¬(b=nn\/b=r)) (ho:aM 3 B w vo (π.map iv)) (hob:∀g,vo.ownBlock=some g->¬(g=nn\/g=r)) (hp:π.Perm o) (hN:Nm w nn r ρ tk bad) (hx:qp x tk)
  (hn:l.sz<=n) (hsh:l.sh true=true) (hsm:l.sm=true) (huq:sT o l) (h:fL D w vl o (af D w l)) (hD:∀g,D g->¬(g=nn\/g=r)) (hne:l.isNil=false) (htot:o.length+l.tot<=4294967296) {R:World->Prop}
  (hR:∀w' ρ' best',Kp w w' (λg=>g=nn\/g=r\/g=b16)->vR w' b30 b3 b5 b16 b18 nn vo vl x best'->Nm w' nn r ρ' tk (bad||(fN o.length tk||thBad l (addK (lets o.length tk) tk)))->(∀z,z∉o->z∉l.bvs->ρ' z=ρ z)->
   best'=(if best=[]\/mN l (lets o.length tk) ρ tk π< best then mN l (lets o.length tk) ρ tk π else best)->R w'):
  Calls Tryz.prog 251 #[ptr b30,ptr b3,ptr b5,ptr b16,ptr b18] w (ax [] R):=by
 refine jT _ _ _ _ _ w R ?_;have ο:=hp.length_eq;obtain⟨ao,capo,hvo⟩:=(ho.AY (D:=λ _=>True) λ _ _=>trivial).slice;rw [List.length_map]at hvo;have hge:=huq.ge;refine⟨b30,0,rfl,vo,hs.c30,ao,_,capo,hvo,λhd y w'=>∃(j:Nat) (H:Rh) (G:Tk) (I:Bool),y=j/\j<=π.length/\Kn nn r w w'/\Nm w' nn r H G I/\hd.length=3* j/\asg (π.drop j) (lets (π.length - j) G) H=asg π (lets o.length tk) ρ/\addK (lets (π.length - j) G) G=addK (lets o.length tk) tk/\
   (I||fN (π.length - j) G)=(bad||fN o.length tk)/\hd++wrap (lets (π.length - j) G) []=wrap (lets o.length tk) []/\∀z,z∉o->H z=ρ z,λ _ y _=>(π.length - y).toNat,⟨0,ρ,tk,bad,rfl,Nat.zero_le _,Kn.ex (Ex.refl w),hN,rfl,by rw [List.drop_zero,Nat.sub_zero,ο],by rw [Nat.sub_zero,ο],by rw [Nat.sub_zero,ο],by rw [Nat.sub_zero,ο];rfl,λ _ _=>rfl⟩,λhd y ς hI=>?_⟩
 obtain⟨j,H,G,I,rfl,hj,ι,n16,hhd,e1,e2,e3,e4,e5⟩:=hI;have s16:vR ς b30 b3 b5 b16 b18 nn vo vl x best:=hs.kp ι hb;refine⟨λhlt=>?_,λhge2=>?_⟩
 ·have ζ:j< π.length:=by simp only [decide_eq_true_eq]at hlt;omega
  obtain⟨g,cap,hvo2⟩:∃g cap,vo= .slice (some ⟨g,0,none⟩) π.length cap:=by
   rcases ho.2 with⟨_,h0⟩ | ⟨g,cap,cur,hv,_⟩
   ·rw [List.length_map]at h0;omega
   ·rw [List.length_map]at hv;exact⟨g,cap,hv⟩
  have o16:=ho.kp ι λg hg=>hob g hg
  have hx26:26<=π[j]:=hge _ (List.mem_append_left _ (hp.subset (List.getElem_mem ζ)));have α:ς.cell? ⟨g,0+Int.toNat (j:Int)* 1,none⟩=some (iv π[j]):=by
   rw [hvo2]at o16;rw [Int.toNat_natCast,Nat.mul_one];exact(o16.at ζ).1
  refine⟨g,0,_,cap,hvo2,by omega,by omega,π[j],α,b3,0,rfl,ptr nn,s16.c3,Ds n16 hx26 λy' w26 _ k26 n26=>⟨b3,0,rfl,ptr nn,(s16.kp k26 hb).c3,jH n26 ⟨by simp,by simp,?_,by unfold aj;omega,⟨j+1,_,_,_,by omega,by omega,Kn.trans ι k26,n26,?_,?_,?_,?_,?_,λz hz=>?_⟩,by show((π.length:Int) - ((j:Int)+1)).toNat< ((π.length:Int) - j).toNat;omega⟩⟩⟩
  all_goals have ed:π.drop j=π[j]::π.drop (j+1):=List.drop_eq_getElem_cons ζ
  all_goals have el:π.length - j=(π.length - (j+1))+1:=by omega
  all_goals rw [el]at e1 e2 e3 e4
  ·simp;omega
  ·simp;omega
  ·rw [ed]at e1;exact e1
  ·exact e2
  ·rw [<-e3];simp only [fN,Bool.or_assoc]
  ·rw [<-e4,lets,Ao];simp [aD]
  ·rw [<-e5 z hz];refine if_neg λe=>hz ?_
   rw [e];exact hp.subset (List.getElem_mem ζ)
 ·have ζ:j=π.length:=by simp only [decide_eq_false_iff_not]at hge2;omega
  subst ζ;rw [Nat.sub_self]at e1 e2 e3 e4;rw [List.drop_length]at e1;simp only [lets,asg,addK,fN,wrap,Bool.or_false,List.append_nil]at e1 e2 e3 e4;intro b32 w33 hb32 hw33;have x33:Ex ς w33:=hw33▸Ex.alloc ς _;have s33:=s16.ex x33;have n33:=n16.ex x33;have k33:Kn nn r w w33:=Kn.trans ι (Kn.ex x33);obtain⟨bl,vo2,vt,ts,rfl,h2,h3,h4,h5,h6,h7,h8⟩:=h;obtain⟨at_,capt,hvt⟩:=h7.slice;have hlen:=h8.len;have hel:=Lv.cJ l;have hlt:=bS l;have hbl:=hD bl h2;have sz33:=k33.size;have hlb:∀b,(b=b30\/b=b3\/b=b5\/b=b16\/b=b18)->b< w.heap.size:=hs.l;refine⟨b5,0,rfl,ptr bl,s33.c5,bl,0,rfl,vt,by rw [World.cell?_of_block (w:=w) (k33.block bl h3 hbl)];exact h5,at_,_,capt,hvt,λtx y w'=>∃(j:Nat) (V:Rh),y=j/\j<=ts.length/\Kn nn r w w'/\Nm w' nn r V G (I||thBad (l.take j) G)/\(∀z,z∉(l.take j).bvs->V z=H z)/\Own w.heap.size w' tx (thS (l.take j) H G),
   λ _ y _=>(ts.length - y).toNat,⟨0,H,rfl,Nat.zero_le _,k33,by simpa [Lv.take,thBad]using n33,λ _ _=>rfl,Own.none (by have :=ι.size;omega) hb32 hw33⟩,λtx y w47 hI=>?_⟩
  obtain⟨j,V,rfl,hj,κ,n47,γ,δ⟩:=hI;have hnl:=hN.lt;have hnr:=hN.lr;have J:∀g',tx.ownBlock=some g'->w.heap.size<=g':=λg' h'=>(δ.block g' h').1
  refine⟨λhlt2=>?_,λhge3=>?_⟩
  ·have υ:j< ts.length:=by simp only [decide_eq_true_eq]at hlt2;omega
   have hje:j< l.bk.length:=by omega
   have s47:vR w47 b30 b3 b5 b16 b18 nn vo (ptr bl) x best:=hs.kp κ hb;obtain⟨bu,ou,β,hvu',hcu⟩:∃bu ou β,vt= .slice (some ⟨bu,ou,none⟩) ts.length β/\w47.cell? ⟨bu,ou+j,none⟩=some ts[j]:=by
    rcases h7 with⟨_,h0⟩ | ⟨bt,ot,capt',e,hbD,hb',α⟩
    ·rw [h0]at υ;simp at υ
    ·exact⟨bt,ot,capt',e,by rw [World.cell?_of_block (w:=w) (κ.block bt hb' (hD bt hbD))];exact α j _ (List.getElem?_eq_getElem υ)⟩
   obtain⟨e,hf1,η,hf3⟩:=aH.single h8.bk (List.getElem?_eq_getElem υ);have hf4:l.bk[j]=e:=by rw [List.getElem?_eq_getElem hje]at hf1;exact Option.some.inj hf1
   have ε:=Lv.take_succ l j hje;rw [hf4]at ε;have hsz2:=Lv.dU l e η;have htot2:=Lv.fS l e η;have hfe:thS e V G=thS e H G:=rJ e V H G λz hz=>γ z λhb=>huq.nf z (Lv.ll l j z hb) (Lv.pw l e η hz)
   refine⟨bu,ou,_,β,hvu',by omega,by omega,ts[j],by rw [Int.toNat_natCast,Nat.mul_one];exact hcu,b3,0,rfl,ptr nn,s47.c3,?_⟩;refine ht (by omega) (Lv.jf hsh e η) (Lv.sH hsm e η) (huq.bk η) (hf3.kp κ hD) hD n47 (by omega) λt w57 ρ3 hthS k57 n57 hρ3 b58 w59 hb58 hw59=>?_
   have φ:Ex w57 w59:=hw59▸Ex.alloc w57 _;have k1:Kn nn r w w57:=Kn.trans κ k57;have ho59:Own w.heap.size w59 tx (thS (l.take j) H G):=(δ.kp k57 λg' h'=>(by have :=J g' h';omega)).ex φ;have hl3:(thS (l.take j) H G).length<=ts.length:=by
    rw [bw];have :=Lv.gI l j;omega
   refine Own.push ho59 (by have :=k1.size;have :=φ.size;omega) (Strs.one hb58 hw59) (by simp only [List.length_cons,List.length_nil];omega) λv65 w66 _ ho66 hg66 _=>⟨by unfold aj;omega,⟨j+1,ρ3,by omega,by omega,?_,?_,?_,?_⟩,by show((ts.length:Int) - ((j:Int)+1)).toNat< ((ts.length:Int) - j).toNat;omega⟩
   ·exact Kp.new (Kn.trans k1 (Kn.ex φ)) hg66 J
   ·have e1:(I||thBad (l.take (j+1)) G)=(I||thBad (l.take j) G||thBad e G):=by rw [ε,cO,Bool.or_assoc]
    rw [e1];refine(n57.ex φ).kp (Kp.aQ (S:=λg=>tx.ownBlock=some g) hg66 λ _ h=>h) (λh'=>by have :=J _ h';omega) λh'=>by have :=J _ h';omega
   ·intro z hz;rw [ε,Lv.dg,List.mem_append,not_or]at hz;rw [hρ3 z hz.2,γ z hz.1]
   ·rw [ε,fT,<-hfe,hthS];exact ho66
  ·have hjt:j=l.bk.length:=by simp only [decide_eq_false_iff_not]at hge3;omega
   rw [hjt,Lv.dc]at n47 δ γ;have hsum:=fU l H G;have χ:=bw l H G;have hne':thS l H G≠[]:=λe=>by
    rw [e]at χ;rw [Lv.dk]at hne;simp only [List.length_nil]at χ;simp [<-χ]at hne
   have eT:hd++joinS 38 (aX (thS l H G))=mN l (lets o.length tk) ρ tk π:=by
    unfold mN;rw [<-e4,<-e1,<-e2]
   have hjl2:=gw 38 (aX (thS l H G));rw [gT (aJ _)]at hjl2;refine Co δ hne' (by rw [χ];omega) (by omega) λθ k68=>⟨by omega,?_⟩
   have μ:Kn nn r w θ:=Kp.trans κ k68 λg' hg' h'=>by have :=J g' h';omega
   have W:vR θ b30 b3 b5 b16 b18 nn vo (ptr bl) x best:=hs.kp μ hb;have n68:Nm θ nn r V G (I||thBad l G):=n47.kp k68 (λh'=>by have :=J _ h';omega) λh'=>by have :=J _ h';omega
   have kq:∀{w1:World},Kn nn r w w1->Kp w w1 (λg=>g=nn\/g=r\/g=b16):=λk=>Kp.mono (λg hg=>hg.elim .inl λh=> .inr (.inl h)) k
   rw [eT];have fin:∀w1 best',Kp w w1 (λg=>g=nn\/g=r\/g=b16)->vR w1 b30 b3 b5 b16 b18 nn vo (ptr bl) x best'->Nm w1 nn r V G (I||thBad l G)->best'=(if best=[]\/mN l (lets o.length tk) ρ tk π< best then mN l (lets o.length tk) ρ tk π else best)->
     ∃(b79 o80:Nat),ptr b3=Value.pointer (some ⟨b79,o80,none⟩)/\∃v81:Value,World.cell? w1 ⟨b79,o80,none⟩=some v81/\∃(b82 o83:Nat),ptr b18=Value.pointer (some ⟨b82,o83,none⟩)/\∃m84:UInt32,World.cell? w1 ⟨b82,o83,none⟩=some (Value.int IntKind.u32 (UInt32.toNat m84))/\∃(ψ ω:Nat),v81=Value.pointer (some ⟨ψ,ω,none⟩)/\((∃u87:Value,World.cell? w1 ⟨ψ,(ω+1),none⟩=some u87)/\World.frozen? w1 ⟨ψ,(ω+1),none⟩=false)/\∀w88:World,w88=World.setCell w1 ⟨ψ,(ω+1),none⟩ (Value.int IntKind.u32 (UInt32.toNat m84))->R w88:=by
    intro w1 best' k1 s1 n1 hbest;obtain⟨z,hz,_⟩:=n1.c1;refine⟨b3,0,rfl,ptr nn,s1.c3,b18,0,rfl,x,s1.c18,nn,0,rfl,⟨⟨_,hz⟩,n1.f 1⟩,λw88 ν=>hR w88 V best' ?_ ?_ ?_ (λz hz hz'=>?_) hbest⟩
    ·exact Kp.trans k1 (ν▸Kr.set _ _ _) λg _ e=> .inl e
    ·exact s1.kp (ν▸Kr.set w1 1 _) λb hb' e=>hb b hb' (.inl e)
    ·refine n1.set (tk':=tk) ν (.inl ⟨rfl,?_,x,rfl,hx⟩);rw [<-Bool.or_assoc,<-e3,<-e2]
    ·rw [γ z hz',e5 z hz]
   have st:∀w1,w1=θ.setCell ⟨b16,0,none⟩ (.string (ab (mN l (lets o.length tk) ρ tk π)))->Kp w w1 (λg=>g=nn\/g=r\/g=b16)/\vR w1 b30 b3 b5 b16 b18 nn vo (ptr bl) x (mN l (lets o.length tk) ρ tk π)/\Nm w1 nn r V G (I||thBad l G):=λw1 hw1=>by
    have kb:Kr b16 θ w1:=hw1▸Kr.set _ _ _;have h16:=hb b16 (by simp);exact⟨Kp.trans (kq μ) kb λg _ e=> .inr (.inr e),W.CA hw1,n68.kp kb (λe=>h16 (.inl e.symm)) λe=>h16 (.inr e.symm)⟩
   refine⟨b16,0,rfl,best,W.c16,λξ=>?_,λξ=>?_⟩
   ·simp only [decide_eq_false_iff_not]at ξ;refine⟨b16,0,rfl,best,W.c16,λZ=>⟨b16,0,rfl,⟨⟨_,W.c16⟩,W.f16⟩,λw78 hw78=>?_⟩,λZ=>?_⟩
    ·rw [bytesLess_eq,decide_eq_true_eq]at Z;obtain⟨k1,k2,k3⟩:=st w78 hw78;exact fin w78 _ k1 k2 k3 (by rw [if_pos (.inr Z)])
    ·rw [bytesLess_eq,decide_eq_false_iff_not]at Z;exact fin θ best (kq μ) W n68 (by rw [if_neg (λh=>h.elim ξ Z)])
   ·simp only [decide_eq_true_eq]at ξ;refine⟨b16,0,rfl,⟨⟨_,W.c16⟩,W.f16⟩,λw102 hw102=>?_⟩;obtain⟨k1,k2,k3⟩:=st w102 hw102;exact fin w102 _ k1 k2 k3 (by rw [if_pos (.inl ξ)])
theorem xS (a:Tx):bF [a]=a:=fX (by simp) λs z=>by simp at z;subst z;simp [ja]
theorem wu {l:List Tx}(h:l≠[])(a:Tx):bF (l++[a])=if a< bF l then a else bF l:=by
 obtain⟨I,H⟩:=cB h;split
 ·rename_i G;refine fX (by simp) λs z=>?_
  rcases List.mem_append.1 z with z | z
  ·refine gb _ _ _ ?_ (H s z);simp only [ja,decide_eq_true_eq];exact List.le_of_lt G
  ·simp at z;subst z;simp [ja]
 ·rename_i G;refine fX (List.mem_append_left _ I) λs z=>?_
  rcases List.mem_append.1 z with z | z
  ·exact H s z
  ·simp at z;subst z;simp only [ja,decide_eq_true_eq];exact List.not_lt.1 G
theorem D5 {l:Lv}{o π:List Nat}(J:π.Perm o)(H:sT o l){ls:List UInt8}(I:π.length=ls.length){ρ ρ':Rh}(h:∀z,z∉o->z∉l.bvs->ρ' z=ρ z)(tk:Tk):mN l ls ρ' tk π=mN l ls ρ tk π:=by
 unfold mN;rw [rJ l (asg π ls ρ') (asg π ls ρ) (addK ls tk) λz V=>?_];by_cases G:z∈π
 ·exact yW π ls ρ' ρ z G I
 ·rw [bK _ _ _ _ G,bK _ _ _ _ G];exact h z (λW=>G (J.symm.subset W)) λhb=>H.nf z hb V
structure OI (w w':World)(b30 b3 b5 b16 b18 nn r:Nat)(vo vl:Value)(x:UInt32)(o:List Nat)(l:Lv)(ρ:Rh)(tk:Tk)(bad:Bool)(acc:List (List Nat)):Prop where
 ex:∃(ρ':Rh) (best:Tx),vR w' b30 b3 b5 b16 b18 nn vo vl x best/\Nm w' nn r ρ' tk (bad||(!acc.isEmpty&&(fN o.length tk||thBad l (addK (lets o.length tk) tk))))/\(∀z,z∉o->z∉l.bvs->ρ' z=ρ z)/\
  ((acc=[]/\best=[])\/(acc≠[]/\best=bF (acc.map (mN l (lets o.length tk) ρ tk))))
 kn:Kn nn r w w'
theorem tP {n:Nat}(ht:EA n):FO n:=by
 intro D w v o l nn r ρ tk bad R hn hsh hsm huq h hD hN htot hR;refine lY (ptr nn) v w R ?_;have hv1:=h.one;refine⟨rfl,λb3 w4 hb3 hw4=>⟨hv1,λb5 w6 hb5 hw6=>?_⟩⟩;have x4:Ex w w4:=hw4▸Ex.alloc w _;have x6':Ex w4 w6:=hw6▸Ex.alloc w4 _;have x6:Ex w w6:=Ex.trans x4 x6';have s4:w4.heap.size=w.heap.size+1:=by rw [hw4,size_alloc]
 have s6:w6.heap.size=w4.heap.size+1:=by rw [hw6,size_alloc]
 have c3:w6.cell? ⟨b3,0,none⟩=some (ptr nn):=by rw [x6'.cell (show b3< _ by omega),hw4,hb3];exact aa rfl
 have c5:w6.cell? ⟨b5,0,none⟩=some v:=by rw [hw6,hb5];exact aa rfl
 have hnl:=hN.lt;have hnr:=hN.lr;refine⟨v,c5,lM (fL.ex h x6) ⟨λhe=>?_,λhe=>?_⟩⟩
 ·have e:aP o (thS l) ρ tk=[48]:=by
   unfold aP;rw [if_pos];cases l<;>first | rfl | cases he
  rw [<-e];refine hR w6 ρ (Kn.ex x6) ?_ λ _ _ _=>rfl
  rw [he];simpa [fc]using hN.ex x6
 ·refine⟨λw'=>Ex w6 w',λw11 hw11=>?_⟩;have ξ:Ex w6 w11:=hw11▸Ex.drew w6;have n11:=hN.ex (Ex.trans x6 ξ);obtain⟨x,hx,hxt⟩:=(hN.ex x6).c1;have s11:=ξ.size;have rest:∀(b16 b18:Nat) (G:World),Ex w6 G->G.cell? ⟨b16,0,none⟩=some (.string (ab []))->G.cell? ⟨b18,0,none⟩=some (.int .u32 x.toNat)->G.frozen? ⟨b16,0,none⟩=false->b16≠b18->w6.heap.size<=b16->w6.heap.size<=b18->b16< G.heap.size->b18< G.heap.size->
    ∃v24:Value,World.cell? G ⟨b5,0,none⟩=some v24/\∃(b25 o26:Nat),v24=Value.pointer (some ⟨b25,o26,none⟩)/\∃v27:Value,World.cell? G ⟨b25,(o26+0),none⟩=some v27/\Calls Tryz.prog 180 #[v27] G (ax [.v] fun(v28:Value) (ι:World)=>∀(b30:Nat) (α:World),b30=Array.size (World.heap ι)->α=World.alloc ι (Obj.cells #[(Value.slice none 0 0)] 36)->oneV v28=true/\((∃u32:Value,World.cell? α ⟨b30,0,none⟩=some u32)/\World.frozen? α ⟨b30,0,none⟩=false)/\
     ∀β:World,β=World.setCell α ⟨b30,0,none⟩ v28->∃v34:Value,World.cell? β ⟨b30,0,none⟩=some v34/\Calls Tryz.prog 250 #[v34,(Value.int IntKind.i64 0),(Value.func (Fn.func 251) #[] #[(Value.pointer (some ⟨b30,0,none⟩)),(Value.pointer (some ⟨b3,0,none⟩)),(Value.pointer (some ⟨b5,0,none⟩)),(Value.pointer (some ⟨b16,0,none⟩)),(Value.pointer (some ⟨b18,0,none⟩))])] β (ax [] fun(φ:World)=>∃s36:ay,World.cell? φ ⟨b16,0,none⟩=some (Value.string (ab s36))/\R (s36) φ)):=by
   intro b16 b18 G ε c16 c18 f16 hne h16 h18 l16 l18;have h':=h;obtain⟨bl,vo,vt,ts,rfl,h2,h3,h4,h5,h6,h7,h8⟩:=h';have μ:Ex w G:=Ex.trans x6 ε;have c5':G.cell? ⟨b5,0,none⟩=some (ptr bl):=by rw [ε.cell (show b5< _ by omega)];exact c5
   have c3':G.cell? ⟨b3,0,none⟩=some (ptr nn):=by rw [ε.cell (show b3< _ by omega)];exact c3
   refine⟨ptr bl,c5',bl,0,rfl,vo,by rw [μ.cell (show bl< _ from h3)];exact h4,?_⟩;refine vO (h6.ex μ) (by omega) λv28 ι x29 o29 b30 α hb30 ν=>?_
   have x31:Ex ι α:=ν▸Ex.alloc ι _;have s31:α.heap.size=ι.heap.size+1:=by rw [ν,size_alloc]
   have s29:=x29.size;have s23:=ε.size;have c30:α.cell? ⟨b30,0,none⟩=some (.slice none 0 0):=by rw [ν,hb30];exact aa rfl
   have f30:α.frozen? ⟨b30,0,none⟩=false:=by rw [ν,hb30];exact aN _ _ _ _
   refine⟨o29.jZ,⟨⟨_,c30⟩,f30⟩,λβ hw33=>?_⟩;have k33:Kr b30 α β:=hw33▸Kr.set _ _ _;have ζ:Ex G β:=Ex.below (Ex.trans x29 x31) (Kp.below k33 (Ex.trans x29 x31).size λg hg e=>by omega);have χ:∀g,v28.ownBlock=some g->G.heap.size<=g/\g< ι.heap.size:=o29.block;have o33:aM 3 G.heap.size β v28 (o.map iv):=(o29.kp (Kp.ah x31 λ _=>False) λ _ _ h=>h).kp k33 λg hg e=>by have :=χ g hg;omega
   have c30':β.cell? ⟨b30,0,none⟩=some v28:=by rw [hw33];exact World.cell?_setCell_same _ _ _ c30
   have ds:vR β b30 b3 b5 b16 b18 nn v28 (ptr bl) x []:=by
    have s33:=ζ.size;have s33':=k33.size;refine⟨λb hb=>?_,c30',?_,?_,?_,?_,?_,by omega,by omega,by omega,hne⟩
    ·rcases hb with rfl | rfl | rfl | rfl | rfl<;>omega
    ·rw [ζ.cell (show b3< _ by omega)];exact c3'
    ·rw [ζ.cell (show b5< _ by omega)];exact c5'
    ·rw [ζ.cell (show b16< _ by omega)];exact c16
    ·rw [ζ.cell (show b18< _ by omega)];exact c18
    ·rw [Below.frozen ζ l16];exact f16
   have ψ:∀b,(b=b30\/b=b3\/b=b5\/b=b16\/b=b18)->w.heap.size<=b/\¬v28.ownBlock=some b:=λb hb=>by
    refine⟨by rcases hb with rfl | rfl | rfl | rfl | rfl<;>omega,λe=>?_⟩;have :=χ b e;rcases hb with rfl | rfl | rfl | rfl | rfl<;>omega
   have hlev:∀{w1:World},Kn nn r w w1->fL D w1 (ptr bl) o (af D w1 l):=λk=>h.kp k hD λl h=>h.kp k hD
   have ο:∀g,v28.ownBlock=some g->¬(g=nn\/g=r):=λg hg=>by have :=χ g hg;omega
   refine⟨v28,c30',?_⟩;refine xp (o:=o) (ca:=[ptr b30,ptr b3,ptr b5,ptr b16,ptr b18]) (Inv:=λacc w'=>OI w w' b30 b3 b5 b16 b18 nn r v28 (ptr bl) x o l ρ tk bad acc) (by kernel_rfl) ?_ ?_ (by omega) o.length 0 o [] β (by omega) ⟨⟨ρ,[],ds,?_,λ _ _ _=>rfl,.inl ⟨rfl,rfl⟩⟩,Kn.ex (Ex.trans μ ζ)⟩ o33 (List.Perm.refl _) λφ acc I35 o35 hacc=>?_
   ·intro acc π w1 hI how hp R' hR';obtain⟨⟨ω,best,d1,n1,e1,e2⟩,kn⟩:=hI;have hpl:=hp.length_eq;refine BI ht d1 (λb hb=>by have :=(ψ b hb).1;omega) how ο hp n1 hxt hn hsh hsm huq (hlev kn) hD he htot λw2 ρ2 best2 k2 d2 n2 e3 e4=>hR' w2 ⟨⟨ρ2,best2,d2,?_,λz hz hz'=>by rw [e3 z hz hz',e1 z hz hz'],?_⟩,?_⟩ ?_
    ·have:(bad||(!acc.isEmpty&&(fN o.length tk||thBad l (addK (lets o.length tk) tk)))||(fN o.length tk||thBad l (addK (lets o.length tk) tk)))=(bad||(!(acc++[π]).isEmpty&&(fN o.length tk||thBad l (addK (lets o.length tk) tk)))):=by
      cases acc<;>simp [Bool.or_assoc]
     rw [<-this];exact n2
    ·right;refine⟨by simp,?_⟩;have eT:=D5 hp huq (ls:=lets o.length tk) (by rw [fy];exact hpl) e1 tk;rw [eT]at e4;rw [List.map_append];simp only [List.map_cons,List.map_nil];rcases e2 with⟨rfl,rfl⟩ | ⟨ha,rfl⟩
     ·rw [if_pos (.inl rfl)]at e4;rw [e4,List.map_nil,List.nil_append,xS]
     ·rw [wu (by simpa using ha),e4];have hne2:bF (acc.map (mN l (lets o.length tk) ρ tk))≠[]:=by
       obtain⟨h1,_⟩:=cB (l:=acc.map (mN l (lets o.length tk) ρ tk)) (by simpa using ha);obtain⟨σ,_,e⟩:=List.mem_map.1 h1;rw [<-e];unfold mN;intro e5;refine oR (pE ?_) (λt ht=>lD l hsm _ _ t ((aJ _).subset ht)) (List.append_eq_nil_iff.1 e5).2;intro e6;have :=bw l (asg σ (lets o.length tk) ρ) (addK (lets o.length tk) tk);rw [e6]at this;rw [Lv.dk]at he;simp only [List.length_nil]at this;simp [<-this]at he
      simp only [hne2,false_or]
    ·exact Kp.trans kn k2 λg hg e=>by have :=(ψ b16 (by simp)).1;omega
    ·exact how.kp k2 λg hg e=>by
      rcases e with e | e | e
      ·exact ο g hg (.inl e)
      ·exact ο g hg (.inr e)
      ·exact(ψ b16 (by simp)).2 (e▸hg)
   ·intro acc w1 w2 hI k;obtain⟨⟨ω,best,d1,n1,e1,e2⟩,kn⟩:=hI;refine⟨⟨ω,best,d1.kp k λb hb=>(ψ b hb).2,n1.kp k (λe=>ο nn e (.inl rfl)) λe=>ο r e (.inr rfl),e1,e2⟩,Kp.trans kn k λg hg e=>by have :=χ g e;omega⟩
   ·have :=hN.ex (Ex.trans μ ζ);simpa using this
   ·obtain⟨⟨ω,best,d1,n1,e1,e2⟩,kn⟩:=I35;rw [List.nil_append]at n1 e2;have hmem:∀σ,σ∈acc↔σ.Perm o:=λσ=>by
     rw [hacc];simp only [List.drop_zero,List.take_zero,List.nil_append];exact⟨fun⟨τ,h,e⟩=>e▸h,λh=>⟨σ,h,rfl⟩⟩
    have ς:acc≠[]:=λe=>by have :=(hmem o).2 (List.Perm.refl _);rw [e]at this;cases this
    have eb:best=aP o (thS l) ρ tk:=by
     rcases e2 with⟨h0,_⟩ | ⟨_,rfl⟩
     ·exact absurd h0 ς
     ·unfold aP;have hemp:¬(thS l ρ tk).isEmpty=true:=λe=>by
       rw [List.isEmpty_iff_length_eq_zero,bw]at e;rw [Lv.dk]at he;simp [e]at he
      rw [if_neg hemp];show _=wrap _ (bF _);rw [xf,<-si _ (λe=>nV o (List.map_eq_nil_iff.1 e)),List.map_map];refine oz λs=>?_
      simp only [List.mem_map,hmem,cR];rfl
    rw [<-eb]at hR;refine⟨best,d1.c16,hR φ ω kn ?_ e1⟩;have:(bad||(!acc.isEmpty&&(fN o.length tk||thBad l (addK (lets o.length tk) tk))))=(bad||fc o.length l.isNil (thBad l) tk):=by
     have:acc.isEmpty=false:=by cases acc<;>first | exact absurd rfl ς | rfl
     rw [this,he];rfl
    rw [<-this];exact n1
  refine⟨ξ,ptr nn,λw' x'=>by rw [x'.cell (show b3< _ by omega)];exact c3,nn,0,rfl,x,λw' x'=>by rw [x'.cell (show nn< _ by omega)];exact hx,λb16 γ η V=>?_,λb18 γ θ V=>?_⟩
  ·have κ:Ex w6 γ:=V▸Ex.trans ξ (Ex.alloc _ _);refine⟨κ,λb18 J θ W=>?_⟩;have δ:Ex γ J:=W▸Ex.alloc _ _;have s17:γ.heap.size=w11.heap.size+1:=by rw [V,size_alloc]
   have s19:J.heap.size=γ.heap.size+1:=by rw [W,size_alloc]
   have c16:J.cell? ⟨b16,0,none⟩=some (.string ⟨#[]⟩):=by rw [δ.cell (show b16< _ by omega),V,η];exact aa rfl
   have f16:J.frozen? ⟨b16,0,none⟩=false:=by rw [Below.frozen δ (show b16< _ by omega),V,η];exact aN _ _ _ _
   have c18:J.cell? ⟨b18,0,none⟩=some (.int .u32 0):=by rw [W,θ];exact aa rfl
   have f18:J.frozen? ⟨b18,0,none⟩=false:=by rw [W,θ];exact aN _ _ _ _
   refine⟨Ex.trans κ δ,⟨⟨_,c16⟩,f16⟩,λZ H=>?_⟩;have υ:Ex w6 Z:=H▸Ex.own (Ex.trans κ δ) (by omega) _;have s21:Z.heap.size=J.heap.size:=by rw [H,World.size_setCell]
   have d16:Z.cell? ⟨b16,0,none⟩=some (.string (ab [])):=by rw [H];exact World.cell?_setCell_same _ _ _ c16
   have d18:Z.cell? ⟨b18,0,none⟩=some (.int .u32 0):=by rw [H,World.cell?_setCell_other _ _ _ _ (λe=>by injection e with e1 e2;omega)];exact c18
   refine⟨υ,⟨⟨_,d18⟩,by rw [H,World.frozen?_setCell];exact f18⟩,λG I=>?_⟩;have ε:Ex w6 G:=I▸Ex.own υ (by omega) _;have s23:G.heap.size=Z.heap.size:=by rw [I,World.size_setCell]
   refine rest b16 b18 G ε ?_ ?_ ?_ (by omega) (by omega) (by omega) (by omega) (by omega)
   ·rw [I,World.cell?_setCell_other _ _ _ _ (λe=>by injection e with e1 e2;omega)];exact d16
   ·rw [I];exact World.cell?_setCell_same _ _ _ d18
   ·rw [I,World.frozen?_setCell,H,World.frozen?_setCell];exact f16
  ·have κ:Ex w6 γ:=V▸Ex.trans ξ (Ex.alloc _ _);refine⟨κ,λb16 J η W=>?_⟩;have δ:Ex γ J:=W▸Ex.alloc _ _;have s17:γ.heap.size=w11.heap.size+1:=by rw [V,size_alloc]
   have s19:J.heap.size=γ.heap.size+1:=by rw [W,size_alloc]
   have c18:J.cell? ⟨b18,0,none⟩=some (.int .u32 0):=by rw [δ.cell (show b18< _ by omega),V,θ];exact aa rfl
   have f18:J.frozen? ⟨b18,0,none⟩=false:=by rw [Below.frozen δ (show b18< _ by omega),V,θ];exact aN _ _ _ _
   have c16:J.cell? ⟨b16,0,none⟩=some (.string ⟨#[]⟩):=by rw [W,η];exact aa rfl
   have f16:J.frozen? ⟨b16,0,none⟩=false:=by rw [W,η];exact aN _ _ _ _
   refine⟨Ex.trans κ δ,⟨⟨_,c16⟩,f16⟩,λZ H=>?_⟩;have υ:Ex w6 Z:=H▸Ex.own (Ex.trans κ δ) (by omega) _;have s21:Z.heap.size=J.heap.size:=by rw [H,World.size_setCell]
   have d16:Z.cell? ⟨b16,0,none⟩=some (.string (ab [])):=by rw [H];exact World.cell?_setCell_same _ _ _ c16
   have d18:Z.cell? ⟨b18,0,none⟩=some (.int .u32 0):=by rw [H,World.cell?_setCell_other _ _ _ _ (λe=>by injection e with e1 e2;omega)];exact c18
   refine⟨υ,⟨⟨_,d18⟩,by rw [H,World.frozen?_setCell];exact f18⟩,λG I=>?_⟩;have ε:Ex w6 G:=I▸Ex.own υ (by omega) _;have s23:G.heap.size=Z.heap.size:=by rw [I,World.size_setCell]
   refine rest b16 b18 G ε ?_ ?_ ?_ (by omega) (by omega) (by omega) (by omega) (by omega)
   ·rw [I,World.cell?_setCell_other _ _ _ _ (λe=>by injection e with e1 e2;omega)];exact d16
   ·rw [I];exact World.cell?_setCell_same _ _ _ d18
   ·rw [I,World.frozen?_setCell,H,World.frozen?_setCell];exact f16
theorem Fg:∀n,EA n
 | 0=>by
  intro z G;rcases G with⟨k,a,b,o,q,rfl,I⟩ | ⟨J,rfl,H⟩<;>simp [Lv.sz]at z
 | n+1=>Ap (tP (Fg n))
theorem Hf (n:Nat):FO n:=tP (Fg n)
end Go.Proofs.YtdecokaadekjnaaGreat
namespace Go.Proofs.YtdecokaadekjnaaGreat
namespace Lv
def PNf:Lv->Prop
 | nil=>True
 | thr _ _ _ _ _ n=>n.PNf
 | sum z n=>z.PNf/\n.PNf
 | part o q n=>((∀x∈o,q.has x=true)/\q≠nil/\∀z,q=sum z nil->o≠[])/\n.PNf
theorem qK:∀{l m:Lv},(l.app m).PNf↔l.PNf/\m.PNf
 | nil,m=>by simp [app,PNf]
 | thr k a b o r n,m=>by simp only [app,PNf,qK (l:=n)]
 | sum z n,m=>by simp only [app,PNf,qK (l:=n),and_assoc]
 | part o q n,m=>by simp only [app,PNf,qK (l:=n),and_assoc]
def tY:Lv->Prop
 | nil=>True
 | thr _ _ _ _ _ n=>n.tY
 | sum z n=>(z.PNf/\z.tY)/\n.tY
 | part _ q n=>q.tY/\n.tY
theorem lI:∀{l m:Lv},(l.app m).tY↔l.tY/\m.tY
 | nil,m=>by simp [app,tY]
 | thr k a b o r n,m=>by simp only [app,tY,lI (l:=n)]
 | sum z n,m=>by simp only [app,tY,lI (l:=n),and_assoc]
 | part o q n,m=>by simp only [app,tY,lI (l:=n),and_assoc]
theorem EO {z:Lv}{n:List Nat×Lv}(h:z.PNf/\z.tY)(G:n.2.tY):(spl z n).2.tY:=by
 unfold spl;split
 ·exact G
 ·exact lI.2 ⟨h.2.1,G⟩
 ·exact⟨h,G⟩
theorem FD {o:List Nat}{q n:Lv}(H:∀x∈o,q.has x=true)(h:q.tY)(z:n.PNf/\n.tY):(prt o q n).PNf/\(prt o q n).tY:=by
 unfold prt;split
 ·exact z
 ·rename_i I;split
  ·exact⟨qK.2 ⟨h.1.1,z.1⟩,lI.2 ⟨h.1.2,z.2⟩⟩
  ·rename_i G;exact⟨⟨⟨H,by simp,λ _ _ e=>G (by rw [e];rfl)⟩,z.1⟩,h,z.2⟩
 ·rename_i V G J;exact⟨⟨⟨H,G,λI e=>(J I e).elim⟩,z.1⟩,h,z.2⟩
theorem mU:∀(l:Lv),(l.sh true=true->(tid l).2.tY)/\(l.sh false=true->(tid l).2.PNf/\(tid l).2.tY)
 | nil=>⟨λ _=>trivial,λ _=>⟨trivial,trivial⟩⟩
 | thr k a b o r n=>by
  refine⟨λh=>?_,λh=>by simp [sh]at h⟩;simp only [sh,Bool.and_eq_true]at h;have G:=(mU r).1 h.1;have z:=(mU n).1 h.2;have h4:(kept o (tid r)).2=(tid r).2:=rfl;simp only [tid];split
  ·exact lI.2 ⟨G,z⟩
  ·split
   ·exact z
   ·exact z
 | sum H n=>by
  refine⟨λh=>?_,λh=>by simp [sh]at h⟩;simp only [sh,Bool.and_eq_true]at h;simp only [tid];exact EO ((mU H).2 h.1) ((mU n).1 h.2)
 | part o q n=>by
  refine⟨λh=>by simp [sh]at h,λh=>?_⟩;simp only [sh,Bool.and_eq_true]at h;simp only [tid];exact FD (sQ o (tid q)) ((mU q).1 h.1) ((mU n).2 h.2)
theorem EV {Z:Lv}(h:Z.PNf)(H:Z.sh false=true):prt (kept [] (spl Z ([],nil))).1 (kept [] (spl Z ([],nil))).2 nil=Z:=by
 unfold spl;split
 ·rfl
 ·rename_i o q;have e:(kept [] (o++(([],nil):List Nat×Lv).1,q.app (([],nil):List Nat×Lv).2))=(o,q):=by
   simp only [kept,List.append_nil,aV,List.nil_append]
   congr 1
   exact List.filter_eq_self.2 h.1.1
  rw [e];obtain⟨_,z,G⟩:=h.1;show prt o q nil=_;unfold prt;split
  ·exact absurd rfl z
  ·rw [if_neg];intro e;exact G _ rfl (by simpa using e)
  ·rfl
 ·simp only [kept,List.append_nil,List.filter_nil,prt,List.isEmpty_nil,if_true,aV]
theorem Et {o:List Nat}{q:Lv}{Z:Lv}(h:Z≠nil)(n:List Nat×Lv):spl (part o q Z) n=(n.1,sum (part o q Z) n.2):=by
 cases Z with
 | nil=>exact absurd rfl h
 | _=>rfl
end Lv
open T in
theorem fA {u:U}(z:Uq u)(n:u.Nr)(G:u.th=true):Lv.tid (flat u).2=([],tl [u])/\(flat u).1=[]:=by
 cases u with
 | nil=>cases G
 | par p q=>cases G
 | res x p=>cases G
 | snd a b p=>exact⟨by simp only [flat,Lv.tid,tl];simp [td,Lv.tidy],rfl⟩
 | rcv a x p=>exact⟨by simp only [flat,Lv.tid,tl];simp [td,Lv.tidy],rfl⟩
 | tau p=>exact⟨by simp only [flat,Lv.tid,tl];simp [td,Lv.tidy],rfl⟩
 | mat a b p=>refine⟨?_,rfl⟩;rw [n7,if_neg n.1.1,dw,n.1.2];rfl
 | rep p=>refine⟨?_,rfl⟩;rw [nO,dw,n.1];rfl
 | sum p q=>
  refine⟨?_,rfl⟩;rw [ny,(fD p z.dQ).2.2,(fD q z.dB).2.2,<-sB];have H:=nL n.1.1 z.dQ;have I:=nL n.1.2.1 z.dB;simp only [tl];cases J:an p with
  | nil=>exact absurd J H
  | cons t l=>
   rw [List.cons_append,tp,Lv.Et];intro V;have :=yc (l++an q);rw [V]at this;simp only [Lv.len,List.length_append]at this;exact I (List.eq_nil_of_length_eq_zero (by omega))
open T in
theorem pd:∀{u:U},Uq u->u.Nr->Lv.tid (flat u).2=([],tl u.ths)/\(flat u).1=u.frL
 | .nil,_,_=>⟨rfl,rfl⟩
 | .res x p,z,n=>by
  obtain⟨G,H⟩:=pd z.res n.2;exact⟨G,by simp only [flat,frL,H]⟩
 | .par p q,z,n=>by
  obtain⟨G,H⟩:=fA z.fJ n.2.1 n.1.1;obtain⟨I,h4⟩:=pd z.fq n.2.2;have h5:q.frL=[]:=by
   rcases n.1.2 with h | h
   ·exact iq h
   ·cases q<;>first | rfl | (cases h;done)
  refine⟨?_,by simp only [flat,frL,H,h4,h5,List.append_nil]⟩;simp only [flat];rw [Lv.cK _ _ (bX p),G,I];simp only [T.ths,List.append_nil];rw [show p::q.ths=[p]++q.ths from rfl,gB]
 | .snd a b p,z,n=>fA z n rfl
 | .rcv a b p,z,n=>fA z n rfl
 | .tau p,z,n=>fA z n rfl
 | .sum p q,z,n=>fA z n rfl
 | .mat a b p,z,n=>fA z n rfl
 | .rep p,z,n=>fA z n rfl
open T in
theorem Gh {u:U}(G:Uq u)(n:u.Nr):∀x∈u.frL,(td u).2.has x=true:=by
 induction u with
 | res y p H=>
  intro x z;rcases List.mem_cons.1 z with rfl | z
  ·exact(fF p x G.fE).2 n.1
  ·exact H G.res n.2 x z
 | _=>intro x z;cases z
open T in
theorem iW {u:U}(z:Uq u)(n:u.Nr):td u=(u.frL,tl u.ths):=by
 obtain⟨G,I⟩:=pd z n;have H:=Gh z n;have e:(td u).2=tl u.ths:=by rw [qz,G]
 rw [e]at H;show Lv.kept (flat u).1 (Lv.tid (flat u).2)=_;rw [G,I];simp only [Lv.kept,List.append_nil]
 congr 1
 exact List.filter_eq_self.2 H
theorem cF:∀u:U,(flat u).2.sh true=true
 | .nil=>rfl
 | .snd a b p=>by simp only [flat,Lv.sh,cF p,Bool.and_self]
 | .rcv a b p=>by simp only [flat,Lv.sh,cF p,Bool.and_self]
 | .tau p=>by simp only [flat,Lv.sh,cF p,Bool.and_self]
 | .mat a b p=>by simp only [flat,Lv.sh,cF p,Bool.and_self]
 | .rep p=>by simp only [flat,Lv.sh,cF p,Bool.and_self]
 | .res x p=>cF p
 | .par p q=>by simp only [flat];exact Lv.gA (cF p) (cF q)
 | .sum p q=>by simp only [flat,Lv.sh,cF p,cF q,Bool.and_self]
theorem zv (u:U):(td u).2.sh true=true:=Lv.dC _ _ (cF u)
theorem ir (f:Nat->Nat):∀(l:Lv) (b:Bool),(l.map f).sh b=l.sh b
 | .nil,_=>by simp [Lv.map,Lv.sh]
 | .thr k a b o r n,c=>by cases c<;>simp only [Lv.map,Lv.sh,ir f r,ir f n]
 | .sum z n,c=>by cases c<;>simp only [Lv.map,Lv.sh,ir f z,ir f n]
 | .part o q n,c=>by cases c<;>simp only [Lv.map,Lv.sh,ir f q,ir f n]
theorem nU (o:List Nat)(q n:Lv):(Lv.tid (.part o q n)).2=Lv.prt (Lv.kept o (Lv.tid q)).1 (Lv.kept o (Lv.tid q)).2 (Lv.tid n).2:=rfl
open T in
theorem gd (f:Nat->Nat):∀(n:Nat) {u:U},u.size<=n->Uq u->u.Nr->
  Lv.tid ((td u).2.map f)=Lv.tid ((flat u).2.map f)/\(u.dead=false->(Lv.tid ((tp u.ly).map f)).2=Lv.prt (Lv.kept ((flat u).1.map f) (Lv.tid ((flat u).2.map f))).1 (Lv.kept ((flat u).1.map f) (Lv.tid ((flat u).2.map f))).2 .nil)
 | 0,u,h,_,_=>by cases u<;>simp [T.size]at h
 | k+1,u,h,z,n=>by
  have W:∀p:U,p.size<=k->Uq p->p.Nr->Lv.kept ((td p).1.map f) (Lv.tid ((td p).2.map f))=Lv.kept ((flat p).1.map f) (Lv.tid ((flat p).2.map f)):=λp H z n=>by
   rw [(gd f k H z n).1,iW z n,(pd z n).2]
  have key:∀(J:K) (a b:Nat) (p:U),p.size<=k->Uq p->p.Nr->Lv.tid ((Lv.thr J a b (td p).1 (td p).2 .nil).map f)=Lv.tid ((Lv.thr J a b (flat p).1 (flat p).2 .nil).map f):=λJ a b p H z n=>by
   simp only [Lv.map,Lv.tid,W p H z n]
  have one:Lv.tid ((td u).2.map f)=Lv.tid ((flat u).2.map f)->u.isS=false->(Lv.tid ((tp u.ly).map f)).2=Lv.prt (Lv.kept ((flat u).1.map f) (Lv.tid ((flat u).2.map f))).1 (Lv.kept ((flat u).1.map f) (Lv.tid ((flat u).2.map f))).2 .nil:=λe V=>by
   rw [fQ V,tp];simp only [Lv.map,tp];rw [nU,e,iW z n,(pd z n).2];rfl
  have G:u.th=true->(td u).2=tl [u]:=λht=>by rw [qz,(fA z n ht).1]
  cases u with
  | nil=>exact⟨rfl,λh=>by cases h⟩
  | snd a b p=>
   have e:Lv.tid ((td (.snd a b p)).2.map f)=Lv.tid ((flat (.snd a b p)).2.map f):=by rw [G rfl];exact key .s a b p (by simp only [T.size]at h;omega) z.snd n
   exact⟨e,λ _=>one e rfl⟩
  | rcv a b p=>
   have e:Lv.tid ((td (.rcv a b p)).2.map f)=Lv.tid ((flat (.rcv a b p)).2.map f):=by rw [G rfl];exact key .r a b p (by simp only [T.size]at h;omega) z.rcv n
   exact⟨e,λ _=>one e rfl⟩
  | tau p=>
   have e:Lv.tid ((td (.tau p)).2.map f)=Lv.tid ((flat (.tau p)).2.map f):=by rw [G rfl];exact key .t 0 0 p (by simp only [T.size]at h;omega) z.tau n
   exact⟨e,λ _=>one e rfl⟩
  | mat a b p=>
   have e:Lv.tid ((td (.mat a b p)).2.map f)=Lv.tid ((flat (.mat a b p)).2.map f):=by rw [G rfl];exact key .m a b p (by simp only [T.size]at h;omega) z.mat n.2
   exact⟨e,λ _=>one e rfl⟩
  | rep p=>
   have e:Lv.tid ((td (.rep p)).2.map f)=Lv.tid ((flat (.rep p)).2.map f):=by rw [G rfl];exact key .p 0 0 p (by simp only [T.size]at h;omega) z.rep n.2
   exact⟨e,λ _=>one e rfl⟩
  | res x p=>
   have e:Lv.tid ((td (.res x p)).2.map f)=Lv.tid ((flat (.res x p)).2.map f):=(gd f k (by simp only [T.size]at h;omega) z.res n.2).1;exact⟨e,λ _=>one e rfl⟩
  | par p q=>
   simp only [T.size]at h;have e:Lv.tid ((td (.par p q)).2.map f)=Lv.tid ((flat (.par p q)).2.map f):=by
    have h1:=(gd f k (by omega) z.fJ n.2.1).1;have h2:=(gd f k (by omega) z.fq n.2.2).1;have e:(td (.par p q)).2=(td p).2.app (td q).2:=by simp only [qz,flat,Lv.cK _ _ (bX p)]
    rw [e];simp only [flat,Lv.eV];rw [Lv.cK _ _ (Lv.lR (by rw [ir];exact zv p)),Lv.cK _ _ (Lv.lR (by rw [ir];exact cF p)),h1,h2]
   exact⟨e,λ _=>one e rfl⟩
  | sum p q=>
   simp only [T.size]at h;have V:tl [T.sum p q]= .sum (tp (p::q.ly)) .nil:=by
    simp only [tl];rw [eg z.dQ n.2.1 n.1.1,eg z.dB n.2.2 n.1.2.1,fQ n.1.2.2];rfl
   have Z:(Lv.tid ((tp (p::q.ly)).map f)).2=(Lv.tid ((Lv.part (flat p).1 (flat p).2 (.part (flat q).1 (flat q).2 .nil)).map f)).2:=by
    rw [tp];simp only [Lv.map];rw [nU,nU,nU,W p (by omega) z.dQ n.2.1,(gd f k (by omega) z.dB n.2.2).2 n.1.2.1];rfl
   have e:Lv.tid ((td (.sum p q)).2.map f)=Lv.tid ((flat (.sum p q)).2.map f):=by
    rw [G rfl,V];simp only [flat,Lv.map,Lv.tid];rw [Z];simp only [Lv.map];rfl
   refine⟨e,λ _=>?_⟩;have I:((Lv.part (flat p).1 (flat p).2 (.part (flat q).1 (flat q).2 .nil)).map f).sh false=true:=by rw [ir];simp only [Lv.sh,cF,Bool.and_self]
   show(Lv.tid ((tp (p::q.ly)).map f)).2=_;rw [Z];have H:=(Lv.mU ((Lv.part (flat p).1 (flat p).2 (.part (flat q).1 (flat q).2 .nil)).map f)).2 I;have :=Lv.EV H.1 (Lv.dC _ _ I);simp only [flat,Lv.map,List.map_nil,Lv.tid]at this|-;exact this.symm
structure Pc (x:List Nat×Lv)(t:U):Prop where
 own:x.1=(flat t).1
 sh:x.2.sh true=true
 tid:Lv.tid x.2=Lv.tid (flat t).2
def joinL:List (List Nat×Lv)->List Nat×Lv
 | []=>([],.nil)
 | x::l=>(x.1++(joinL l).1,x.2.app (joinL l).2)
theorem pQ:∀l m:List (List Nat×Lv),joinL (l++m)=((joinL l).1++(joinL m).1,(joinL l).2.app (joinL m).2)
 | [],m=>rfl
 | x::l,m=>by simp only [List.cons_append,joinL,pQ l m,List.append_assoc,Lv.cn]
theorem pv (x:List Nat×Lv):joinL [x]=x:=by simp only [joinL,List.append_nil,Lv.aV]
theorem lG:∀l:List U,flat (T.parL l)=joinL (l.map flat)
 | []=>rfl
 | [t]=>by simp only [T.parL,List.map_cons,List.map_nil,pv]
 | t::u::l=>by
  have :=lG (u::l);simp only [T.parL,flat,this,List.map_cons,joinL]
theorem pN (p:U):∀o:List Nat,flat (T.resL o p)=(o++(flat p).1,(flat p).2)
 | []=>rfl
 | x::o=>by simp only [T.resL,flat,pN p o,List.cons_append]
theorem Pc.join:∀{zs:List ((List Nat×Lv)×U)},(∀z∈zs,Pc z.1 z.2)->Pc (joinL (zs.map (·.1))) (T.parL (zs.map (·.2)))
 | [],_=>⟨rfl,rfl,rfl⟩
 | z::zs,h=>by
  have G:=h z (by simp);have H:=Pc.join (zs:=zs) λy J=>h y (by simp [J])
  have e:flat (T.parL ((z::zs).map (·.2)))=joinL ((z::zs).map (λy=>flat y.2)):=by rw [lG,List.map_map];rfl
  have I:flat (T.parL (zs.map (·.2)))=joinL (zs.map (λy=>flat y.2)):=by rw [lG,List.map_map];rfl
  refine⟨?_,?_,?_⟩
  ·rw [e];simp only [List.map_cons,joinL];rw [G.own,H.own,I]
  ·simp only [List.map_cons,joinL];exact Lv.gA G.sh H.sh
  ·rw [e];simp only [List.map_cons,joinL];rw [Lv.cK _ _ (Lv.lR G.sh),Lv.cK _ _ (bX z.2),G.tid,H.tid,I]
theorem wS {own:List Nat}{x:List Nat×Lv}{t:U}(h:Pc x t):Lv.tidy (own++x.1) x.2=td (T.resL own t):=by
 show _=Lv.tidy (flat (T.resL own t)).1 (flat (T.resL own t)).2;rw [pN];simp only [Lv.tidy,h.own,h.tid]
theorem Pc.map (f:Nat->Nat){q:U}(z:Uq q)(n:q.Nr):Pc (Lv.dR f (td q)) (q.map f):=by
 have h:=(gd f _ (Nat.le_refl _) z n).1;refine⟨?_,by rw [ir];exact zv q,?_⟩
 ·rw [ct,iW z n];show(T.frL q).map f=((flat q).1).map f;rw [(pd z n).2]
 ·rw [ct];exact h
theorem map_id:∀l:Lv,l.map id=l
 | .nil=>rfl
 | .thr k a b o r n=>by simp only [Lv.map,map_id r,map_id n,List.map_id,id,ite_self]
 | .sum z n=>by simp only [Lv.map,map_id z,map_id n]
 | .part o q n=>by simp only [Lv.map,map_id q,map_id n,List.map_id]
theorem dW:∀u:U,u.map id=u
 | .nil=>rfl
 | .snd a b p=>by simp only [T.map,dW p,id]
 | .rcv a b p=>by simp only [T.map,dW p,id]
 | .tau p=>by simp only [T.map,dW p]
 | .sum p q=>by simp only [T.map,dW p,dW q]
 | .par p q=>by simp only [T.map,dW p,dW q]
 | .res x p=>by simp only [T.map,dW p,id]
 | .mat a b p=>by simp only [T.map,dW p,id]
 | .rep p=>by simp only [T.map,dW p]
theorem Pc.nr {q:U}(z:Uq q)(n:q.Nr):Pc (td q) q:=by
 have h:=Pc.map id z n;rw [dW]at h;have e:Lv.dR id (td q)=td q:=by simp only [Lv.dR,map_id,List.map_id]
 rwa [e]at h
structure vQ (l m:Lv):Prop where
 s:∀ρ tk,(thS l ρ tk).Perm (thS m ρ tk)
 bad:∀tk,thBad l tk=thBad m tk
 all:thAll l=thAll m
 most:aw l=aw m
 has:∀x,l.has x=m.has x
 nil:l.isNil=m.isNil
theorem vQ.refl (l:Lv):vQ l l:=⟨λ _ _=>List.Perm.refl _,λ _=>rfl,rfl,rfl,λ _=>rfl,rfl⟩
theorem vQ.trans {a b c:Lv}(h:vQ a b)(k:vQ b c):vQ a c:=⟨λρ tk=>(h.s ρ tk).trans (k.s ρ tk),λtk=>(h.bad tk).trans (k.bad tk),h.all.trans k.all,h.most.trans k.most,λx=>(h.has x).trans (k.has x),h.nil.trans k.nil⟩
theorem lU (l m:Lv):(l.app m).isNil=(l.isNil&&m.isNil):=by cases l<;>simp [Lv.app,Lv.isNil]
theorem vQ.app {a b c d:Lv}(h:vQ a b)(k:vQ c d):vQ (a.app c) (b.app d):=
 ⟨λρ tk=>by rw [fT,fT];exact(h.s ρ tk).append (k.s ρ tk),λtk=>by rw [cO,cO,h.bad,k.bad],by rw [bW,bW,h.all,k.all],by rw [cf,cf,h.most,k.most],λx=>by rw [Lv.cX,Lv.cX,h.has,k.has],by rw [lU,lU,h.nil,k.nil]⟩
theorem vQ.comm (a b:Lv):vQ (a.app b) (b.app a):=
 ⟨λρ tk=>by rw [fT,fT];exact List.perm_append_comm,λtk=>by rw [cO,cO,Bool.or_comm],by rw [bW,bW];omega,by rw [cf,cf];omega,λx=>by rw [Lv.cX,Lv.cX,Bool.or_comm],by rw [lU,lU,Bool.and_comm]⟩
theorem CZ {r r':List Nat×Lv}(h:r.1.Perm r'.1)(k:vQ r.2 r'.2):yE r=yE r':=by
 have z:kh r.2=kh r'.2:=by funext c;unfold kh;rw [k.has]
 have G:aP r.1 (thS r.2) ρ0 (kh r.2)=aP r'.1 (thS r'.2) ρ0 (kh r'.2):=by rw [z];exact ki h k.s _ _
 have H:fc r.1.length r.2.isNil (thBad r.2) (kh r.2)=fc r'.1.length r'.2.isNil (thBad r'.2) (kh r'.2):=by
  rw [z,h.length_eq,k.nil,show thBad r.2=thBad r'.2 from funext k.bad]
 unfold yE;rw [G,H,h.length_eq,k.most,k.all]
theorem wX:∀ts:List U,Lv.tid (joinL (ts.map flat)).2=joinL (ts.map λt=>Lv.tid (flat t).2)
 | []=>rfl
 | t::ts=>by simp only [List.map_cons,joinL,Lv.cK _ _ (bX t),wX ts]
theorem ue {l m:List (List Nat×Lv)}(h:l.Perm m):(joinL l).1.Perm (joinL m).1/\vQ (joinL l).2 (joinL m).2:=by
 induction h with
 | nil=>exact⟨List.Perm.refl _,vQ.refl _⟩
 | cons x _ H=>exact⟨(List.Perm.refl _).append H.1,(vQ.refl _).app H.2⟩
 | swap x y l=>
  simp only [joinL];refine⟨?_,?_⟩
  ·rw [<-List.append_assoc,<-List.append_assoc];exact List.perm_append_comm.append (List.Perm.refl _)
  ·rw [<-Lv.cn,<-Lv.cn];exact(vQ.comm _ _).app (vQ.refl _)
 | trans _ _ z G=>exact⟨z.1.trans G.1,z.2.trans G.2⟩
theorem Cq {own:List Nat}{ts z:List U}(h:ts.Perm z):jN (T.resL own (T.parL ts))=jN (T.resL own (T.parL z)):=by
 unfold jN;have e:∀ts:List U,td (T.resL own (T.parL ts))=Lv.kept (own++(joinL (ts.map flat)).1) (joinL (ts.map λt=>Lv.tid (flat t).2)):=λts=>by
  show Lv.tidy (flat _).1 (flat _).2=_;rw [pN,lG];simp only [Lv.tidy,wX]
 rw [e,e];have H:=ue (h.map flat);have G:=ue (h.map λt=>Lv.tid (flat t).2);refine CZ ?_ G.2;simp only [Lv.kept];rw [show(λx=>(joinL (ts.map λt=>Lv.tid (flat t).2)).2.has x)=λx=>(joinL (z.map λt=>Lv.tid (flat t).2)).2.has x from funext G.2.has];exact(((List.Perm.refl _).append H.1).append G.1).filter _
end Go.Proofs.YtdecokaadekjnaaGreat
namespace Go.Proofs.YtdecokaadekjnaaGreat
open Go Go.RowKit
def ρN:Rh:=λx=>if x< 26 then UInt8.ofNat (97+x)else 0
theorem HU:HK (dG []) ρN:=λx=>by
 unfold ρN;refine⟨?_,λh=>if_pos h,λh=> .inr ⟨rfl,if_neg (by omega)⟩⟩;split
 ·rename_i h;revert h;revert x;decide+kernel
 ·decide
theorem Er {x:Nat}(h:x< 26):nD 1 x=qu (UInt8.ofNat (97+x))/\lt (UInt8.ofNat (97+x))=true/\e0 (UInt8.ofNat (97+x))=x:=by
 have z:lt (UInt8.ofNat (97+x))=true:=by revert x;decide+kernel
 have G:(UInt8.ofNat (97+x)).toNat=97+x:=by rw [UInt8.toNat_ofNat'];omega
 refine⟨?_,z,by unfold e0;rw [G];omega⟩;unfold qu;rw [gk z,G,show 97+x - 97=x by omega]
def Bp (l:Lv)(i:Nat):Tk:=λc=>lt c&&(decide (c.toNat - 97< i)&&l.has (e0 c))
theorem B2 (l:Lv)(c:UInt8):Bp l 0 c=false:=by simp [Bp]
theorem Fe (l:Lv):Bp l 26=kh l:=by
 funext c
 unfold Bp kh;cases h:lt c
 ·rfl
 ·have :=bn h;simp [show c.toNat - 97< 26 by omega]
theorem qp.congr {x:UInt32}{tk tk':Tk}(h:qp x tk)(e:∀c,lt c=true->tk c=tk' c):qp x tk':=λc z=>by rw [h c z,e c z]
theorem Hh {w:World}{n r:Nat}{ρ:Rh}{tk tk':Tk}{bad:Bool}(h:Nm w n r ρ tk bad)(e:∀c,lt c=true->tk c=tk' c):Nm w n r ρ tk' bad:=by
 obtain⟨x,z,G⟩:=h.c1;exact⟨h.lt,h.lr,h.ne,h.c0,h.mp,⟨x,z,G.congr e⟩,h.c2,h.f⟩
theorem xF {l:Lv}{i:Nat}(J:i< 26)(c:UInt8)(G:lt c=true):(l.has i=true->bZ (Bp l i) (UInt8.ofNat (97+i)) c=Bp l (i+1) c)/\(l.has i=false->Bp l i c=Bp l (i+1) c):=by
 have V:=bn G;have I:(UInt8.ofNat (97+i)).toNat=97+i:=by rw [UInt8.toNat_ofNat'];omega
 have he:e0 c=c.toNat - 97:=rfl;unfold bZ Bp;rw [G,he];by_cases h:c.toNat - 97=i
 ·have e:c=UInt8.ofNat (97+i):=UInt8.toNat_inj.1 (by omega);rw [h];constructor
  ·intro z;have hb:(c==UInt8.ofNat (97+i))=true:=by rw [e];exact beq_self_eq_true _
   rw [hb,z];simp
  ·intro z;simp [z]
 ·have e:c≠UInt8.ofNat (97+i):=λe=>h (by rw [e,I];omega)
  have H:decide (c.toNat - 97< i)=decide (c.toNat - 97< i+1):=by
   rw [decide_eq_decide];omega
  constructor
  ·intro _;rw [show(c==UInt8.ofNat (97+i))=false by simpa using e,H];simp
  ·intro _;rw [H]
theorem tZ {D:Nat->Prop}{w:World}{v:Value}{o:List Nat}{l:Lv}(h:fL D w v o (af D w l))(ς:l.sh true=true)(htot:o.length+l.tot<=4294967295)(huq:sT (Lv.tidy o l).1 (Lv.tidy o l).2)(hfr:∀x,x∉(Lv.tidy o l).1->(Lv.tidy o l).2.fh x->x< 26){R:ay->Bool->World->Prop}
  (hR:∀w',Ex w w'->(∀s,yE (Lv.tidy o l)=some s->R s true w')/\(yE (Lv.tidy o l)=none->R [] false w')):Calls Tryz.prog 216 #[v] w (ax [.s,.b] R):=by
 refine kU v w R ?_;refine Dp _ (Nat.le_refl _) ς h (by omega) λv2 w3 x3 h2=>?_
 have htt:=nQ o l;have J:(Lv.tidy o l).2.sh true=true:=Lv.dC _ _ ς;have υ:(Lv.tidy o l).2.sm=true:=Lv.mJ _;generalize hr:Lv.tidy o l=r at*;obtain⟨I,z⟩:=r;simp only at*;have hst:=Lv.jy z;have hN:∀b,yE (I,z)=b->(b=none->∀w',Ex w w'->R [] false w'):=λb e1 e2 w' x=>(hR w' x).2 (e1.trans e2)
 refine CU _ (o:=I) (l:=z) (Nat.le_refl _) J h2 (by show I.length+z.tot<=_;omega) λw6 x6=>?_
 have θ:Ex w w6:=Ex.trans x3 x6;have V:¬(max I.length (aw z)<=5/\I.length+thAll z<=8)->yE (I,z)=none:=λhc=>by unfold yE;rw [if_neg (λh=>hc h.1)]
 by_cases h5:5< max I.length (aw z)
 ·exact dD (by omega) ((hR w6 θ).2 (V (by omega)))
 refine ck (by omega) ?_;by_cases h8:8< I.length+thAll z
 ·exact cQ (by omega) ((hR w6 θ).2 (V (by omega)))
 refine aS (by omega) λb7 w8 hb7 ι=>⟨rfl,λb9 α β G=>?_⟩
 have x8:Ex w6 w8:=ι▸Ex.alloc w6 _;have φ:Ex w8 α:=G▸Ex.alloc w8 _;have s8:w8.heap.size=w6.heap.size+1:=by rw [ι,size_alloc]
 have s10:α.heap.size=w8.heap.size+1:=by rw [G,size_alloc]
 have s6:=x6.size;have s3:=x3.size;have e7:α.heap[b7]?=some (.map #[] 0):=by
  rw [φ.block b7 (by omega),ι,hb7];unfold World.alloc;simp
 have n10:Nm α b9 b7 ρN (Bp z 0) false:=by
  refine⟨by omega,by omega,by omega,by rw [G,β];exact aa rfl,⟨dG [],⟨#[],0,e7,⟨by simp,by simp,by simp⟩,by simp,λq=>rfl⟩,HU⟩,⟨0,by rw [G,β];exact aa rfl,λc _=>?_⟩,by rw [G,β];exact aa rfl,λj=>by rw [G,β];exact aN _ _ _ _⟩;rw [B2];simp
 have h3:fL (λg=>xU w g/\g< w3.heap.size) w3 v2 I (af (λg=>xU w g/\g< w3.heap.size) w3 z):=aB.sub (L:=(I,z)) h2 λg hg hd=>⟨hd,hg⟩
 have hD:∀g,(xU w g/\g< w3.heap.size)->¬(g=b9\/g=b7):=λg hg=>by omega
 have ε:∀{w1:World},Ex w3 w1->fL (λg=>xU w g/\g< w3.heap.size) w1 v2 I (af (λg=>xU w g/\g< w3.heap.size) w1 z):=λk=>fL.ex h3 k
 refine⟨λx w'=>∃i:Nat,x=i/\i<=26/\Ex w6 w'/\Nm w' b9 b7 ρN (Bp z i) false,λx _=>(26 - x).toNat,⟨0,rfl,by omega,Ex.trans x8 φ,n10⟩,λx w14 hI=>?_⟩;obtain⟨i,rfl,hi,W,κ⟩:=hI;refine⟨λhlt=>?_,λhge=>?_⟩
 ·have μ:i< 26:=by simp only [decide_eq_true_eq]at hlt;omega
  obtain⟨eb1,eb2,eb3⟩:=Er μ;refine FP _ (Nat.le_refl _) J (ε (Ex.trans x6 W)) (by omega) λγ χ=>?_
  have δ:=κ.ex χ;have ζ:Ex w6 γ:=Ex.trans W χ;refine⟨λhh=>⟨λw'=>Ex γ w',λw18 ψ=>?_⟩,λhh=>⟨by unfold aj;omega,⟨i+1,by omega,by omega,ζ,Hh δ λc hc=>(xF μ c hc).2 hh⟩,by show((26:Int) - ((i:Int)+1)).toNat< ((26:Int) - i).toNat;omega⟩⟩;have ν:Ex γ w18:=ψ▸Ex.drew γ;obtain⟨y,hy,hyt⟩:=δ.c1;have ξ:=δ.ex ν;obtain⟨y',hy',_⟩:=ξ.c1;refine⟨ν,y,λw' x'=>by rw [x'.cell (show b9< _ from δ.lt)];exact hy,by omega,⟨⟨_,hy'⟩,ξ.f 1⟩,λw21 η=>⟨by unfold aj;omega,⟨i+1,by omega,by omega,?_,?_⟩,by show((26:Int) - ((i:Int)+1)).toNat< ((26:Int) - i).toNat;omega⟩⟩
  ·exact η▸Ex.own (Ex.trans ζ ν) (by omega) _
  ·refine Hh (ξ.set (tk':=bZ (Bp z i) (UInt8.ofNat (97+i))) (bad':=false) η (.inl ⟨rfl,rfl,_,rfl,?_⟩)) λc hc=>(xF μ c hc).1 hh
   rw [Int.toNat_natCast,eb1];exact hyt.add eb2
 ·have:i=26:=by simp only [decide_eq_false_iff_not]at hge;omega
  subst this;rw [Fe]at κ;have hlS:aP I (thS z) ρN (kh z)=aP I (thS z) ρ0 (kh z):=dJ (H:=λx=>z.fh x) (λρ ρ' tk=>hZ z ρ ρ' tk) (λρ ρ' tk h=>rJ z ρ ρ' tk h) λx hx hf=>by
   have :=hfr x hx hf;unfold ρN ρ0;rw [if_pos this]
  refine Hf _ (Nat.le_refl _) J υ huq (ε (Ex.trans x6 W)) hD κ (by omega) λο ρ' k23 n23 _=>⟨_,n23.c2,?_⟩
  rw [hlS,Bool.false_or];have x23:Ex w6 ο:=Ex.below W (Kp.below k23 W.size λg hg e=>by omega);have Z:Ex w ο:=Ex.trans θ x23;refine⟨λhb=>xO λq ω x26 hq=>⟨λh=>(hR ω (Ex.trans Z x26)).2 ?_,λh=>(hR ω (Ex.trans Z x26)).1 _ ?_⟩,λhb=>(hR ο Z).2 ?_⟩
  ·unfold yE;have:¬cW (aP I (thS z) ρ0 (kh z)):=λhg=>by rw [hq.2 hg]at h;cases h
   rw [if_neg (λh=>this h.2.2)]
  ·unfold yE;have:cW (aP I (thS z) ρ0 (kh z)):=hq.1 (by cases q<;>first | rfl | cases h);rw [if_pos ⟨⟨by show max I.length (aw z)<=5;omega,by show I.length+thAll z<=8;omega⟩,hb,this⟩]
  ·unfold yE;rw [if_neg (λh=>by have :=h.2.1;rw [hb]at this;cases this)]
end Go.Proofs.YtdecokaadekjnaaGreat
namespace Go.Proofs.YtdecokaadekjnaaGreat
open Go
set_option maxRecDepth 100000
theorem uF (n1:ay)(w:World)(R:Value->World->Prop)(h:mw 123 #[(.string (ab n1))] w λv2 q3 V=>aR V (.cells #[(.int .i64 0),(.string (ab n1)),(.pointer none)] 148) λb5 W=>bJ W λS7 Z=>cd 138 #[] Z λv9 G=>cd 137 #[(.pointer (some ⟨b5,0,none⟩)),v2,v9] G λv11 H=>cd 139 #[v11] H λz I=>oneV z=true/\bj I b5 2 z λJ=>R ((.pointer (some ⟨b5,0,none⟩))) J):
  Calls Tryz.prog 92 #[(.string (ab n1))] w (ax [.v] R):=
 bc (a8 [] [] [3]) [.tmp 2 .v] [.s n1] Tryz.func92 (by kernel_rfl) h
theorem qc (z:ay)(w:World)(R:Value->Bool->World->Prop)(h:mw 79 #[(.string (ab z))] w λv2 V H=>gF (!V) (bT 80 #[v2] H λW I=>ai (!W) (R (.pointer none) false I) (iK 175 #[v2] I λZ q8 J=>ai (!q8) (R (.pointer none) false J) (cd 92 #[(.string (ab Z))] J λv10 G=>R v10 true G))) (R (.pointer none) false H)):
  Calls Tryz.prog 135 #[(.string (ab z))] w (ax [.v,.b] R):=
 bc (a8 [] [] []) [.tmp 2 .v,.tmp 3 .b] [.s z] Tryz.func135 (by kernel_rfl) h
theorem eo (t1:Value)(w:World)(R:Value->World->Prop)(h:az t1 λb2 o3=>fK w b2 (o3+0) λc4=>∃J5:Bool->World->Prop,(ai (decide (c4=126)) (J5 ((decide (c4=126))) w) (ai (decide (c4=33)) (J5 ((decide (c4=33))) w) (J5 ((decide (c4=63))) w)))/\∀(x6:Bool) (w7:World),J5 x6 w7->ai x6 (bJ w7 λS8 w9=>az t1 λb10 ω=>G3 S8 b10 (ω+0) λc12=>az t1 λb13 o14=>jQ S8 b13 (o14+1) λn15=>az t1 λb16 o17=>jQ S8 b16 (o17+2) λn18=>az t1 λb19 o20=>cA S8 b19 (o20+3) λv21=>oneV v21=true/\aR w9 (.cells #[(.int .u8 c12.toNat),(.int .i64 n15),(.int .i64 n18),v21,(.bool false)] 160) λb22 θ=>S8 θ/\R ((.slice (some ⟨b22,0,none⟩) 1 1)) θ) (ai (decide (c4=42)) (aR w7 (.cells #[] 160) λb24 ε=>az t1 λb26 o27=>aU ε b26 (o27+3) λv28=>az v28 λb29 o30=>aU ε b29 (o30+1) λv31=>bL v31 λl33=>pC ((.slice (some ⟨b24,0,none⟩) 0 0)) 0 ε λι α J z G=>ai (decide (z< (l33:Int))) (aK v31 z λb40 o41=>aU G b40 (o41+z.toNat* 1) λβ=>az β λb45 o46=>fK G b45 (o46+0) λc47=>ai (decide (c47=63)) (bJ G λV w49=>az β λb50 o51=>jQ V b50 (o51+1) λn52=>az β λb53 o54=>jQ V b53 (o54+2) λn55=>az β λb56 o57=>cA V b56 (o57+3) λκ=>oneV κ=true/\aR w49 (.cells #[(.int .u8 (UInt8.toNat 63)),(.int .i64 n52),(.int .i64 n55),κ,(.bool true)] 160) λb59 μ=>V μ/\fB 160 5 40 μ J (.slice (some ⟨b59,0,none⟩) 1 1) λν ζ=>V ζ/\aj (z+1)/\ι ν (z+1) ζ/\α ν (z+1) ζ< α J z G) (aj (z+1)/\ι J (z+1) G/\α J (z+1) G< α J z G)) (R J G)) (ai (decide (c4=43)) (aR w7 (.cells #[] 160) λb68 ξ=>az t1 λb70 o71=>aU ξ b70 (o71+4) λv72=>bL v72 λl74=>pC ((.slice (some ⟨b68,0,none⟩) 0 0)) 0 ξ λI76 ο η H W=>ai (decide (H< (l74:Int))) (aK v72 H λb81 o82=>aU W b81 (o82+H.toNat* 1) λv85=>az v85 λb86 o87=>aU W b86 (o87+1) λς=>bL ς λl90=>pC η 0 W λI92 υ γ I Z=>ai (decide (I< (l90:Int))) (aK ς I λb97 o98=>aU Z b97 (o98+I.toNat* 1) λφ=>cd 140 #[φ] Z λχ ψ=>fB 160 5 40 ψ γ χ λv109 δ=>aj (I+1)/\I92 v109 (I+1) δ/\υ v109 (I+1) δ< υ γ I Z) (aj (H+1)/\I76 γ (H+1) Z/\ο γ (H+1) Z< ο η H W)) (R η W)) (R (.slice none 0 0) w7)))):
  Calls Tryz.prog 140 #[t1] w (ax [.v] R):=
 bc (a8 [(9,[(3,.v),(48,.i)]),(18,[(6,.v),(83,.i)]),(21,[(6,.v),(92,.i)])] [(5,[(15,.b)])] [5,12]) [.tmp 2 .v] [.v t1] Tryz.func140 (by kernel_rfl) h
theorem mi (s1:Value)(v2:Int)(w:World)(R:Int->World->Prop)(h:bL s1 λl4=>fZ 0 w λV J z G=>ai (decide (z< (l4:Int))) (aK s1 z λb10 H=>oI G b10 (H+z.toNat* 1) λI=>ai (decide (v2=I)) (R z G) (aj (z+1)/\V (z+1) G/\J (z+1) G< J z G)) (R (-1) G)):
  Calls Tryz.prog 223 #[s1,(.int .i64 v2)] w (ax [.i] R):=
 bc (a8 [(2,[(8,.i)])] [] []) [.tmp 4 .i] [.v s1,.i v2] Tryz.func223 (by kernel_rfl) h
theorem jL (s1:Value)(v2:Int)(w:World)(R:Bool->World->Prop)(h:iw 223 #[s1,(.int .i64 v2)] w λz G=>R ((decide (0<=z))) G):
  Calls Tryz.prog 188 #[s1,(.int .i64 v2)] w (ax [.b] R):=
 bc (a8 [] [] []) [.tmp 4 .b] [.v s1,.i v2] Tryz.func188 (by kernel_rfl) h
theorem lX (s1:Value)(g2:Value)(o3:Value)(m4:Value)(w:World)(R:ay->Bool->World->Prop)(h:cd 180 #[o3] w λv5 w6=>oneV v5=true/\aR w6 (.cells #[v5,(.slice none 0 0)] 155) λb7 w8=>az s1 λb9 ε=>aU w8 b9 (ε+2) λv11=>az v11 λζ η=>aU w8 ζ (η+1) λW=>bL W λθ=>fZ 0 w8 λZ I z H=>ai (decide (z< (θ:Int))) (aK W z λι κ=>aU H ι (κ+z.toNat* 1) λα=>bT 188 #[g2,(.int .i64 z)] H λμ J=>ai (!μ) (aU J b7 1 λν=>oneV α=true/\aR J (.cells #[α] 156) λb30 ξ=>fB 156 1 8 ξ ν (.slice (some ⟨b30,0,none⟩) 1 1) λv37 ο=>oneV v37=true/\bj ο b7 1 v37 λβ=>aj (z+1)/\Z (z+1) β/\I (z+1) β< I z H) (aj (z+1)/\Z (z+1) J/\I (z+1) J< I z H)) (bL m4 λς=>fZ 0 H λυ γ G V=>ai (decide (G< (ς:Int))) (aK m4 G λφ χ=>aU V φ (χ+G.toNat* 1) λψ=>fC 179 #[(.pointer (some ⟨b7,0,none⟩)),ψ] V λδ=>aj (G+1)/\υ (G+1) δ/\γ (G+1) δ< γ G V) (iK 216 #[(.pointer (some ⟨b7,0,none⟩))] V λω q55 w56=>R ω q55 w56))):
  Calls Tryz.prog 176 #[s1,g2,o3,m4] w (ax [.s,.b] R):=
 bc (a8 [(3,[(27,.i)]),(9,[(49,.i)])] [] []) [.tmp 8 .s,.tmp 9 .b] [.v s1,.v g2,.v o3,.v m4] Tryz.func176 (by kernel_rfl) h
theorem mu (z:Value)(s2:ay)(I:Bool)(w:World)(R:World->Prop)(h:az z λb4 o5=>aU w b4 (o5+0) λv6=>aR w (.cells #[(.string (ab s2))] 9) λb7 w8=>fB 9 1 16 w8 v6 (.slice (some ⟨b7,0,none⟩) 1 1) λH J=>az z λb16 V=>oneV H=true/\bj J b16 (V+0) H λG=>az z λW Z=>AN G W (Z+1) λα=>gF α (az z λβ γ=>bj G β (γ+1) (.bool (!I)) λδ=>R δ) (az z λε ζ=>bj G ε (ζ+1) (.bool true) λη=>R η)):
  Calls Tryz.prog 99 #[z,(.string (ab s2)),(.bool I)] w (ax [] R):=
 bc (a8 [] [] []) [] [.v z,.s s2,.b I] Tryz.func99 (by kernel_rfl) h
theorem jK (z:Int)(c2:Value)(w:World)(R:Int->World->Prop)(h:az c2 λb3 J=>aU w b3 J λv5=>∃(I:Nat) (G:Value->Option Value),v5= .map (some I)/\IsMap w I (.int .i64) G/\∃H:Int,∃g9:Bool,((g9=true/\G (.int .i64 z)=some (.int .i64 H))\/(g9=false/\G (.int .i64 z)=none/\(Value.int .i64 H)=(.int .i64 0)))/\ai g9 (R H w) (R z w)):
  Calls Tryz.prog 239 #[(.int .i64 z),c2] w (ax [.i] R):=
 bc (a8 [] [] []) [.tmp 3 .i] [.i z,.v c2] Tryz.func239 (by kernel_rfl) h
theorem kE (m1:Value)(l2:Value)(t3:Value)(w:World)(R:Value->World->Prop)(h:oneV t3=true/\aR w (.cells #[t3] 226) λb4 w5=>aR w5 (.cells #[(.slice none 0 0),(.slice none 0 0)] 155) λb6 w7=>az l2 λb8 o9=>aU w7 b8 (o9+0) λv10=>bL v10 λl12=>fZ 0 w7 λI14 m15 V ε=>ai (decide (V< (l12:Int))) (aK v10 V λb18 o19=>oI ε b18 (o19+V.toNat* 1) λn22=>bJ ε λS23 w24=>cA S23 b4 0 λv25=>iw 178 #[m1] w24 λn26 w27=>S23 w27/\∃(ν:Nat) (m29:Value->Option Value),v25= .map (some ν)/\IsMap w27 ν (.int .i64) m29/\∀w30:World,IsMap w30 ν (.int .i64) (eh m29 (.int .i64 n22) (.int .i64 n26))->cT w27 w30 ν->bJ w30 λζ jV=>cA ζ b6 0 λv33=>cA ζ b4 0 λv34=>∃(r35:Nat) (m36:Value->Option Value),v34= .map (some r35)/\IsMap jV r35 (.int .i64) m36/\∃y37:Int,∃g38:Bool,((g38=true/\m36 (.int .i64 n22)=some (.int .i64 y37))\/(g38=false/\m36 (.int .i64 n22)=none/\(Value.int .i64 y37)=(.int .i64 0)))/\ζ jV/\aR jV (.cells #[(.int .i64 y37)] 3) λb39 w40=>ζ w40/\fB 3 1 8 w40 v33 (.slice (some ⟨b39,0,none⟩) 1 1) λv46 w47=>ζ w47/\oneV v46=true/\bj w47 b6 0 v46 λw49=>aj (V+1)/\I14 (V+1) w49/\m15 (V+1) w49< m15 V ε) (az l2 λb50 o51=>aU ε b50 (o51+1) λv52=>bL v52 λl54=>fZ 0 ε λI56 m57 W η=>ai (decide (W< (l54:Int))) (aK v52 W λb60 o61=>aU η b60 (o61+W.toNat* 1) λz=>az z λb65 o66=>fK η b65 (o66+0) λc67=>aR η (.cells #[(.int .u8 c67.toNat),(.int .i64 0),(.int .i64 0),(.pointer none),(.slice none 0 0)] 201) λH Z=>∃δ:World->Prop,(az z λb71 o72=>fK Z b71 (o72+0) λξ=>ai (decide (ξ=63)) (az z λb74 o75=>oI Z b74 (o75+1) λn76=>∃(f77:Nat) (c78:List Value),(Value.func (.func 239) #[] #[(.pointer (some ⟨b4,0,none⟩))])= .func (.func f77) #[] (List.toArray c78)/\List.contains dy f77=true/\iw f77 (List.toArray ([(.int .i64 n76)]++c78)) Z λn79 w80=>bj w80 H 1 (.int .i64 n79) λw82=>bJ w82 λS83 w84=>cA S83 b4 0 λv85=>az z λb86 o87=>jQ S83 b86 (o87+2) λn88=>iw 178 #[m1] w84 λn89 w90=>S83 w90/\∃(ο:Nat) (m92:Value->Option Value),v85= .map (some ο)/\IsMap w90 ο (.int .i64) m92/\∀w93:World,IsMap w93 ο (.int .i64) (eh m92 (.int .i64 n88) (.int .i64 n89))->cT w90 w93 ο->bJ w93 λS94 w95=>cA S94 b4 0 λv96=>az z λb97 o98=>jQ S94 b97 (o98+2) λn99=>∃(ς:Nat) (θ:Value->Option Value),v96= .map (some ς)/\IsMap w95 ς (.int .i64) θ/\∃ι:Int,∃υ:Bool,((υ=true/\θ (.int .i64 n99)=some (.int .i64 ι))\/(υ=false/\θ (.int .i64 n99)=none/\(Value.int .i64 ι)=(.int .i64 0)))/\bj w95 H 2 (.int .i64 ι) λw105=>δ w105) (ai (decide (ξ=33)) (ai (decide (ξ=33)) (bJ Z λα w107=>az z λb108 o109=>jQ α b108 (o109+1) λn110=>az z λb111 o112=>jQ α b111 (o112+2) λn113=>∃(f114:Nat) (φ:List Value),(Value.func (.func 239) #[] #[(.pointer (some ⟨b4,0,none⟩))])= .func (.func f114) #[] (List.toArray φ)/\List.contains dy f114=true/\iw f114 (List.toArray ([(.int .i64 n110)]++φ)) w107 λn116 χ=>α χ/\∃(f118:Nat) (ψ:List Value),(Value.func (.func 239) #[] #[(.pointer (some ⟨b4,0,none⟩))])= .func (.func f118) #[] (List.toArray ψ)/\List.contains dy f118=true/\iw f118 (List.toArray ([(.int .i64 n113)]++ψ)) χ λn120 ω=>α ω/\bj ω H 1 (.int .i64 n116) λw123=>bj w123 H 2 (.int .i64 n120) λw125=>δ w125) (δ Z)) (ai (decide (ξ=61)) (bJ Z λβ w127=>az z λb128 o129=>jQ β b128 (o129+1) λn130=>az z λb131 o132=>jQ β b131 (o132+2) λn133=>∃(f134:Nat) (c135:List Value),(Value.func (.func 239) #[] #[(.pointer (some ⟨b4,0,none⟩))])= .func (.func f134) #[] (List.toArray c135)/\List.contains dy f134=true/\iw f134 (List.toArray ([(.int .i64 n130)]++c135)) w127 λn136 w137=>β w137/\∃(f138:Nat) (c139:List Value),(Value.func (.func 239) #[] #[(.pointer (some ⟨b4,0,none⟩))])= .func (.func f138) #[] (List.toArray c139)/\List.contains dy f138=true/\iw f138 (List.toArray ([(.int .i64 n133)]++c139)) w137 λn140 w141=>β w141/\bj w141 H 1 (.int .i64 n136) λw143=>bj w143 H 2 (.int .i64 n140) λw145=>δ w145) (δ Z))))/\∀(γ:World),δ γ->∃κ:World->Prop,(az z λb148 o149=>aU γ b148 (o149+3) λv150=>∃q151:Option Addr,v150= .pointer q151/\ai (!Option.isNone q151) (bJ γ λS152 w153=>az z λb154 o155=>cA S152 b154 (o155+3) λv156=>cA S152 b4 0 λv157=>cd 217 #[m1,v156,v157] w153 λv158 w159=>oneV v158=true/\bj w159 H 3 v158 λw161=>κ w161) (κ γ))/\∀(μ:World),κ μ->az z λb163 o164=>aU μ b163 (o164+4) λv165=>bL v165 λl167=>fZ 0 μ λI169 m170 G I=>ai (decide (G< (l167:Int))) (aK v165 G λb173 o174=>aU I b173 (o174+G.toNat* 1) λv177=>bJ I λJ w179=>cA J H 4 λv180=>cA J b4 0 λv181=>cd 217 #[m1,v177,v181] w179 λv182 w183=>J w183/\oneV v182=true/\aR w183 (.cells #[v182] 146) λb184 w185=>J w185/\fB 146 1 8 w185 v180 (.slice (some ⟨b184,0,none⟩) 1 1) λv191 w192=>J w192/\oneV v191=true/\bj w192 H 4 v191 λw194=>aj (G+1)/\I169 (G+1) w194/\m170 (G+1) w194< m170 G I) (aU I b6 1 λv195=>aR I (.cells #[(.pointer (some ⟨H,0,none⟩))] 156) λb196 w197=>fB 156 1 8 w197 v195 (.slice (some ⟨b196,0,none⟩) 1 1) λv203 w204=>oneV v203=true/\bj w204 b6 1 v203 λw206=>aj (W+1)/\I56 (W+1) w206/\m57 (W+1) w206< m57 W η)) (R ((.pointer (some ⟨b6,0,none⟩))) η))):
  Calls Tryz.prog 217 #[m1,l2,t3] w (ax [.v] R):=
 bc (a8 [(3,[(23,.i)]),(10,[(50,.i)]),(24,[(132,.i)])] [(21,[]),(23,[])] [5,6,16,17,20,22,26]) [.tmp 6 .v] [.v m1,.v l2,.v t3] Tryz.func217 (by kernel_rfl) h
theorem jE (s1:Value)(Z:Value)(n3:Int)(w:World)(R:Value->World->Prop)(h:∃c4:List Value,Z= .agg (List.toArray c4)/\aR w (.cells (List.toArray c4) 160) λb5 w6=>bJ w6 λI w8=>az s1 λb9 α=>cA I b5 3 λv11=>jQ I b5 2 λβ=>aR w8 (Obj.map #[] 0) λJ H=>I H/\∃(z:Nat) (V:Value->Option Value),(Value.map (some J))= .map (some z)/\IsMap H z (.int .i64) V/\∀G:World,IsMap G z (.int .i64) (eh V (.int .i64 β) (.int .i64 n3))->cT H G z->I G/\cd 217 #[(.pointer (some ⟨b9,(α+0),none⟩)),v11,(.map (some J))] G λγ W=>I W/\R γ W):
  Calls Tryz.prog 177 #[s1,Z,(.int .i64 n3)] w (ax [.v] R):=
 bc (a8 [] [] [1]) [.tmp 6 .v] [.v s1,.v Z,.i n3] Tryz.func177 (by kernel_rfl) h
theorem iy (s1:Value)(w:World)(R:Value->World->Prop)(h:bL s1 λl3=>ai (decide ((l3:Int)< 2)) (R s1 w) (fZ 1 w λI5 m6 H w8=>bL s1 λφ=>ai (decide (H< (φ:Int))) (bJ w8 λμ θ=>aK s1 H λχ ψ=>jO μ χ (ψ+H.toNat* 1) λω=>aj (H - 1)/\aK s1 (H - 1) λb19 o20=>jO μ b19 (o20+Int.toNat (H - 1)* 1) λs23=>ai (decide (ω=s23)) (∃(a24:Option Addr) (J I:Nat),s1= .slice a24 J I/\0<=(H:Int)/\(H:Int)<=(J:Int)/\(J:Int)<=(I:Int)/\BX H 1 θ λν W z G V=>bL (.slice (if I=H.toNat then a24 else Option.map (·.add (H.toNat* 1)) a24) (Int.toNat (J:Int) - H.toNat) (I - H.toNat)) λl33=>ai (decide (G< (l33:Int))) (bJ V λξ Z=>aK (.slice (if I=H.toNat then a24 else Option.map (·.add (H.toNat* 1)) a24) (Int.toNat (J:Int) - H.toNat) (I - H.toNat)) G λb37 o38=>jO ξ b37 (o38+G.toNat* 1) λs41=>aj (G - 1)/\aK (.slice (if I=H.toNat then a24 else Option.map (·.add (H.toNat* 1)) a24) (Int.toNat (J:Int) - H.toNat) (I - H.toNat)) (G - 1) λb42 o43=>jO ξ b42 (o43+Int.toNat (G - 1)* 1) λs46=>ai (!decide (s41=s46)) (aK (.slice (if I=H.toNat then a24 else Option.map (·.add (H.toNat* 1)) a24) (Int.toNat (J:Int) - H.toNat) (I - H.toNat)) G λb47 o48=>cD Z b47 (o48+G.toNat* 1) λs51=>aK s1 z λb52 o53=>bj Z b52 (o53+z.toNat* 1) (.string (ab s51)) λο=>aj (z+1)/\aj (G+1)/\ν (z+1) (G+1) ο/\W (z+1) (G+1) ο< W z G V) (aj (G+1)/\ν z (G+1) Z/\W z (G+1) Z< W z G V)) (∃(ι:Option Addr) (α β:Nat),s1= .slice ι α β/\0<=(z:Int)/\(z:Int)<=(α:Int)/\(α:Int)<=(β:Int)/\∃(ς:Option Addr) (γ c63:Nat),(Value.slice (if β=z.toNat then ι else Option.map (·.add (z.toNat* 1)) ι) (Int.toNat (α:Int) - z.toNat) (β - z.toNat))= .slice ς γ c63/\((γ=0/\∃(κ:Option Addr) (l68 δ:Nat),s1= .slice κ l68 δ/\0<=(0:Int)/\(0:Int)<=z/\z<=(δ:Int)/\R ((.slice (if δ=Int.toNat 0 then κ else Option.map (·.add (Int.toNat 0* 1)) κ) (z.toNat - Int.toNat 0) (δ - Int.toNat 0))) V)\/∃(ε ζ:Nat),ς=some ⟨ε,ζ,none⟩/\(∀j,j< γ->(∃u,World.cell? V ⟨ε,ζ+j,none⟩=some u)/\World.frozen? V ⟨ε,ζ+j,none⟩=false)/\∀υ:World,υ=World.setCells V ε ζ (List.replicate γ (.string ⟨#[]⟩))->∃(a70:Option Addr) (l71 η:Nat),s1= .slice a70 l71 η/\0<=(0:Int)/\(0:Int)<=z/\z<=(η:Int)/\R ((.slice (if η=Int.toNat 0 then a70 else Option.map (·.add (Int.toNat 0* 1)) a70) (z.toNat - Int.toNat 0) (η - Int.toNat 0))) υ))) (aj (H+1)/\I5 (H+1) θ/\m6 (H+1) θ< m6 H w8)) (R s1 w8))):
  Calls Tryz.prog 149 #[s1] w (ax [.v] R):=
 bc (a8 [(4,[(3,.i)]),(9,[(3,.i),(5,.i)])] [] [6,11]) [.tmp 2 .v] [.v s1] Tryz.func149 (by kernel_rfl) h
theorem kZ (z:Value)(w:World)(R:Value->Bool->World->Prop)(h:az z λb2 J=>AN w b2 (J+1) λV=>ai V (R (.slice none 0 0) false w) (az z λb5 W=>aU w b5 (W+0) λZ=>fC 115 #[Z] w λI=>az z λb9 G=>aU I b9 (G+0) λv11=>cd 149 #[v11] I λv12 H=>R v12 true H)):
  Calls Tryz.prog 100 #[z] w (ax [.v,.b] R):=
 bc (a8 [] [] []) [.tmp 2 .v,.tmp 3 .b] [.v z] Tryz.func100 (by kernel_rfl) h
theorem iu (s1:Value)(w:World)(R:Value->Bool->World->Prop)(h:aR w (.cells #[(.slice none 0 0),(.bool false)] 115) λb2 w3=>az s1 λb4 o5=>aU w3 b4 (o5+2) λv6=>az v6 λb7 o8=>aU w3 b7 (o8+1) λv9=>bL v9 λl11=>fZ 0 w3 λI13 m14 W υ=>ai (decide (W< (l11:Int))) (aK v9 W λb17 o18=>aU υ b17 (o18+W.toNat* 1) λv21=>cd 140 #[v21] υ λv22 w23=>bL v22 λl25=>fZ 0 w23 λI27 φ H α=>ai (decide (H< (l25:Int))) (aK v22 H λθ ι=>∃c35:UInt8,∃n36:Int,∃n37:Int,∃v38:Value,∃q39:Bool,(World.cell? α ⟨θ,(ι+H.toNat* 5),none⟩=some (.int .u8 c35.toNat)/\World.cell? α ⟨θ,((ι+H.toNat* 5)+1),none⟩=some (.int .i64 n36)/\World.cell? α ⟨θ,(((ι+H.toNat* 5)+1)+1),none⟩=some (.int .i64 n37)/\World.cell? α ⟨θ,((((ι+H.toNat* 5)+1)+1)+1),none⟩=some v38/\World.cell? α ⟨θ,(((((ι+H.toNat* 5)+1)+1)+1)+1),none⟩=some (.bool q39)/\True)/\aR α (.cells #[(.int .u8 0),(.int .i64 0),(.int .i64 0),(.pointer none),(.bool false)] 160) λε w41=>uH w41 ε 0 5 [(.int .u8 c35.toNat),(.int .i64 n36),(.int .i64 n37),v38,(.bool q39)] λw42=>∃χ:World->Prop,(fK w42 ε 0 λc44=>ai (decide (c44=126)) (bJ w42 λZ w46=>az s1 λb47 o48=>cA Z b47 (o48+2) λv49=>az v49 λb50 o51=>cA Z b50 (o51+0) λv52=>cA Z ε 3 λv53=>(aR w46 (.cells #[(.int .i64 W)] 3) λb54 w55=>Z w55/\oneV v53=true/\aR w55 (.cells #[v53] 146) λb56 w57=>Z w57/\iK 176 #[s1,(.slice (some ⟨b54,0,none⟩) 1 1),v52,(.slice (some ⟨b56,0,none⟩) 1 1)] w57 λs58 q59 w60=>Z w60/\fC 99 #[(.pointer (some ⟨b2,0,none⟩)),(.string (ab s58)),(.bool q59)] w60 λw61=>Z w61/\χ w61)/\(oneV v53=true/\aR w46 (.cells #[v53] 146) λb62 w63=>Z w63/\aR w63 (.cells #[(.int .i64 W)] 3) λb64 w65=>Z w65/\iK 176 #[s1,(.slice (some ⟨b64,0,none⟩) 1 1),v52,(.slice (some ⟨b62,0,none⟩) 1 1)] w65 λs66 q67 w68=>Z w68/\fC 99 #[(.pointer (some ⟨b2,0,none⟩)),(.string (ab s66)),(.bool q67)] w68 λw69=>Z w69/\χ w69)) (χ w42))/\∀(ζ:World),χ ζ->fK ζ ε 0 λc71=>ai (!decide (c71=33)) (aj (H+1)/\I27 (H+1) ζ/\φ (H+1) ζ< φ H α) (az s1 λb72 o73=>aU ζ b72 (o73+2) λv74=>az v74 λb75 o76=>aU ζ b75 (o76+1) λv77=>bL v77 λl79=>fZ 0 ζ λI81 m82 β κ=>ai (decide (β< (l79:Int))) (aK v77 β λb85 o86=>aU κ b85 (o86+β.toNat* 1) λv89=>cd 140 #[v89] κ λv90 w91=>bL v90 λl93=>fZ 0 w91 λψ γ z V=>ai (decide (z< (l93:Int))) (aK v90 z λμ δ=>∃ω:UInt8,∃n104:Int,∃n105:Int,∃v106:Value,∃q107:Bool,(World.cell? V ⟨μ,(δ+z.toNat* 5),none⟩=some (.int .u8 ω.toNat)/\World.cell? V ⟨μ,((δ+z.toNat* 5)+1),none⟩=some (.int .i64 n104)/\World.cell? V ⟨μ,(((δ+z.toNat* 5)+1)+1),none⟩=some (.int .i64 n105)/\World.cell? V ⟨μ,((((δ+z.toNat* 5)+1)+1)+1),none⟩=some v106/\World.cell? V ⟨μ,(((((δ+z.toNat* 5)+1)+1)+1)+1),none⟩=some (.bool q107)/\True)/\aR V (.cells #[(.int .u8 0),(.int .i64 0),(.int .i64 0),(.pointer none),(.bool false)] 160) λI w109=>uH w109 I 0 5 [(.int .u8 ω.toNat),(.int .i64 n104),(.int .i64 n105),v106,(.bool q107)] λG=>gF (decide (β=W)) (fK G I 0 λc111=>gF (!decide (c111=63)) (oI G I 1 λn112=>oI G ε 1 λn113=>ai (!decide (n112=n113)) (aj (z+1)/\ψ (z+1) G/\γ (z+1) G< γ z V) (aR G (.cells #[(.int .i64 W),(.int .i64 β)] 3) λb114 ν=>∃ξ:Value->World->Prop,(AN ν I 4 λq117=>ai q117 (∃(ο:Option Addr) (l119 η:Nat),(Value.slice (some ⟨b114,0,none⟩) 2 2)= .slice ο l119 η/\0<=(0:Int)/\(0:Int)<=1/\1<=(η:Int)/\ξ ((.slice (if η=Int.toNat 0 then ο else Option.map (·.add (Int.toNat 0* 1)) ο) (Int.toNat 1 - Int.toNat 0) (η - Int.toNat 0))) ν) (ξ ((.slice (some ⟨b114,0,none⟩) 2 2)) ν))/\∀(g121:Value) (w122:World),ξ g121 w122->bJ w122 λJ w124=>az s1 λb125 o126=>cA J b125 (o126+2) λv127=>az v127 λb128 o129=>cA J b128 (o129+0) λv130=>cA J ε 3 λv131=>∃c132:UInt8,∃n133:Int,∃n134:Int,∃v135:Value,∃q136:Bool,(∀w',J w'->World.cell? w' ⟨I,0,none⟩=some (.int .u8 c132.toNat)/\World.cell? w' ⟨I,1,none⟩=some (.int .i64 n133)/\World.cell? w' ⟨I,2,none⟩=some (.int .i64 n134)/\World.cell? w' ⟨I,3,none⟩=some v135/\World.cell? w' ⟨I,4,none⟩=some (.bool q136)/\True)/\jQ J ε 2 λn137=>cd 177 #[s1,(.agg #[(.int .u8 c132.toNat),(.int .i64 n133),(.int .i64 n134),v135,(.bool q136)]),(.int .i64 n137)] w124 λv138 w139=>J w139/\oneV v131=true/\oneV v138=true/\aR w139 (.cells #[v131,v138] 146) λb140 w141=>J w141/\iK 176 #[s1,g121,v130,(.slice (some ⟨b140,0,none⟩) 2 2)] w141 λs142 q143 w144=>J w144/\fC 99 #[(.pointer (some ⟨b2,0,none⟩)),(.string (ab s142)),(.bool q143)] w144 λς=>J ς/\aj (z+1)/\ψ (z+1) ς/\γ (z+1) ς< γ z V)) (aj (z+1)/\ψ (z+1) G/\γ (z+1) G< γ z V)) (aj (z+1)/\ψ (z+1) G/\γ (z+1) G< γ z V)) (aj (β+1)/\I81 (β+1) V/\m82 (β+1) V< m82 β κ)) (aj (H+1)/\I27 (H+1) κ/\φ (H+1) κ< φ H α))) (aj (W+1)/\I13 (W+1) α/\m14 (W+1) α< m14 W υ)) (mw 100 #[(.pointer (some ⟨b2,0,none⟩))] υ λv146 q147 w148=>R v146 q147 w148)):
  Calls Tryz.prog 136 #[s1] w (ax [.v,.b] R):=
 bc (a8 [(3,[(24,.i)]),(6,[(32,.i)]),(12,[(68,.i)]),(15,[(76,.i)])] [(10,[]),(21,[(13,.v)])] [9,21]) [.tmp 2 .v,.tmp 3 .b] [.v s1] Tryz.func136 (by kernel_rfl) h
end Go.Proofs.YtdecokaadekjnaaGreat
namespace Go.Proofs.YtdecokaadekjnaaGreat
open Go Go.RowKit
theorem Ck {j:Nat}(z:j< 26):(List.replicate 26 (iv 0))[j]?=some (iv 0):=by rw [List.getElem?_replicate,if_pos z]
theorem Fj {j:Nat}(z:j< 26):(List.replicate 26 (iv 0)).toArray[j]?=some (iv 0):=by rw [List.getElem?_toArray];exact Ck z
theorem pS {w:World}{R:Value->World->Prop}(hR:∀w' cs,Ex w w'->DR cs e0->R (.agg cs.toArray) w'):Calls Tryz.prog 138 #[] w (ax [.v] R):=by
 refine nY w R ?_;intro b1 w2 Z H b3 J α I;have x2:Ex w w2:=H▸Ex.alloc w _;have x4:Ex w2 J:=I▸Ex.alloc w2 _;have s2:w2.heap.size=w.heap.size+1:=by rw [H,size_alloc]
 have s4:J.heap.size=w2.heap.size+1:=by rw [I,size_alloc]
 have c3:∀j,j< 26->J.cell? ⟨b3,0+j,none⟩=some (iv 0):=λj z=>by
  rw [I,α];refine aa ?_;rw [Nat.zero_add];exact Fj z
 have c1:∀j,j< 26->J.cell? ⟨b1,0+j,none⟩=some (iv 0):=λj z=>by
  rw [x4.cell (show b1< _ by omega),H,Z];refine aa ?_;rw [Nat.zero_add];exact Fj z
 have f3:∀j,J.frozen? ⟨b3,j,none⟩=false:=λj=>by rw [I,α];exact aN _ _ _ _
 have f1:∀j,J.frozen? ⟨b1,j,none⟩=false:=λj=>by rw [Below.frozen x4 (show b1< _ by omega),H,Z];exact aN _ _ _ _
 refine⟨⟨rfl,rfl,λj z=>⟨⟨_,c3 j z⟩,f3 _⟩⟩,λw5 η=>?_⟩;obtain⟨k5,W,_,β⟩:=aZ (b:=b3) _ J 0;rw [<-η]at k5 W β;have γ:∀j,j< 26->w5.cell? ⟨b3,0+j,none⟩=some (iv 0):=λj z=>by
  rw [β j (λi hi=>⟨_,c3 i hi⟩) z];exact Ck z
 have x5:Ex w w5:=Ex.below (Ex.trans x2 x4) (Kp.below k5 (Ex.trans x2 x4).size λg hg e=>by omega);have s5:=k5.size;have d1:∀j,j< 26->w5.cell? ⟨b1,0+j,none⟩=some (iv 0):=λj z=>by rw [World.cell?_of_block (w:=J) (k5.block b1 (by omega) (by omega))];exact c1 j z
 refine⟨λx w'=>∃i:Nat,x=i/\i<=26/\Ex w w'/\b3< w'.heap.size/\(∀j,j< 26->w'.cell? ⟨b1,0+j,none⟩=some (iv 0))/\(∀j,w'.frozen? ⟨b1,j,none⟩=false)/\(∀j,w'.frozen? ⟨b3,j,none⟩=false)/\∀j,j< 26->w'.cell? ⟨b3,0+j,none⟩=some (iv (if j< i then j else 0)),
  λx _=>(26 - x).toNat,⟨0,rfl,by omega,x5,by omega,d1,λj=>by rw [W];exact f1 j,λj=>by rw [W];exact f3 j,λj z=>by rw [if_neg (by omega)];exact γ j z⟩,λx w9 hI=>?_⟩
 obtain⟨i,rfl,hi,x9,l9,e1,g1,g3,e3⟩:=hI;refine⟨λθ=>?_,λι=>?_⟩
 ·have κ:i< 26:=by simp only [decide_eq_true_eq]at θ;omega
  rw [Int.toNat_natCast,Nat.mul_one];refine⟨⟨by omega,by omega⟩,⟨⟨_,e3 i κ⟩,g3 _⟩,λξ G=>⟨by unfold aj;omega,⟨i+1,by omega,by omega,?_,?_,λj z=>?_,λj=>?_,λj=>?_,λj z=>?_⟩,by show((26:Int) - ((i:Int)+1)).toNat< ((26:Int) - i).toNat;omega⟩⟩
  ·exact G▸Ex.own x9 (by omega) _
  ·rw [G,World.size_setCell];exact l9
  ·rw [G,World.cell?_setCell_other _ _ _ _ (λe=>by injection e with e1 e2;omega)];exact e1 j z
  ·rw [G,World.frozen?_setCell];exact g1 j
  ·rw [G,World.frozen?_setCell];exact g3 j
  ·by_cases μ:j=i
   ·subst μ;rw [G,if_pos (by omega)];exact World.cell?_setCell_same _ _ _ (e3 j z)
   ·rw [G,World.cell?_setCell_other _ _ _ _ (λe=>by injection e with e1 e2;omega),e3 j z]
    congr 2
    split<;>split<;>omega
 ·have:i=26:=by simp only [decide_eq_false_iff_not]at ι;omega
  subst this;have δ:∀j,j< 26->((List.range 26).map iv)[j]?=some (iv j):=λj z=>by simp [z]
  refine⟨(List.range 26).map iv,rfl,λj z=>by rw [e3 j z,δ j z,if_pos z],⟨rfl,rfl,λj z=>⟨⟨_,e1 j z⟩,g1 _⟩⟩,λν ε=>?_⟩;obtain⟨ζ,_,_,V⟩:=aZ (b:=b1) ((List.range 26).map iv) w9 0;rw [<-ε]at ζ V;refine⟨(List.range 26).map iv,rfl,λj z=>V j (λi hi=>⟨_,e1 i (by simpa using hi)⟩) (by simpa using z),hR ν _ ?_ ⟨rfl,λc hc=>?_⟩⟩
  ·exact Ex.below x9 (Kp.below ζ x9.size λg hg e=>by omega)
  ·have :=bn hc;exact δ _ (by omega)
theorem Ey {t:P}(h:Lt t):Nu (num t e0 0).1:=by
 obtain⟨_,z,G,h4⟩:=qD (p:=t) λc H=>T.Al.free h c H
 exact⟨z,λy I=>G y (T.bz I),h4⟩
theorem cu:∀u:U,(flat u).1.length+(flat u).2.tot<=4* u.size
 | .nil=>by simp [flat,Lv.tot]
 | .snd a b p=>by have :=cu p;simp only [flat,Lv.tot,T.size,List.length_nil];omega
 | .rcv a b p=>by have :=cu p;simp only [flat,Lv.tot,T.size,List.length_nil];omega
 | .tau p=>by have :=cu p;simp only [flat,Lv.tot,T.size,List.length_nil];omega
 | .mat a b p=>by have :=cu p;simp only [flat,Lv.tot,T.size,List.length_nil];omega
 | .rep p=>by have :=cu p;simp only [flat,Lv.tot,T.size,List.length_nil];omega
 | .res x p=>by have :=cu p;simp only [flat,T.size,List.length_cons];omega
 | .par p q=>by have :=cu p;have :=cu q;simp only [flat,Lv.bR,T.size,List.length_append];omega
 | .sum p q=>by have :=cu p;have :=cu q;simp only [flat,Lv.tot,T.size,List.length_nil];omega
theorem Fv {u:U}(h:Nu u):∀x,x∉(td u).1->(td u).2.fh x->x< 26:=λx z G=>h.fr x (Cs _ u (Nat.le_refl _) h.uq x G z)
theorem uA {D:Nat->Prop}{w:World}{t:P}{v:Value}(h:aF D w t v)(hD:∀g,D g->g< w.heap.size)(hl:Lt t)(hs:t.size<=1000000){R:ay->Bool->World->Prop}
  (hR:∀w',Ex w w'->(∀s,jN (num t e0 0).1=some s->R s true w')/\(jN (num t e0 0).1=none->R [] false w')):Calls Tryz.prog 175 #[v] w (ax [.s,.b] R):=by
 refine me v w R ?_;intro b2 I H z;have x3:Ex w I:=z▸Ex.alloc w _;have s3:I.heap.size=w.heap.size+1:=by rw [z,size_alloc]
 refine pS λw5 cs x5 J=>?_
 have G:Ex w w5:=Ex.trans x3 x5;have mk:Mk I b2 0:=⟨by omega,by rw [z,H];exact aa rfl,by rw [z,H];exact aN _ _ _ _⟩
 have V:aF D w5 t v:=aF.kp (Kp.ah G λ _=>False) (λ _ _ h=>h) h;refine Fu t V (λg hg e=>by have :=hD g hg;omega) (mk.ex x5) J hl (by omega) λv' w7 k7 _ h7=>?_
 have nu:=Ey hl;have α:=(bM t e0 0).1;have β:=cu (num t e0 0).1;have e:Lv.tidy (flat (num t e0 0).1).1 (flat (num t e0 0).1).2=td (num t e0 0).1:=rfl;refine tZ h7 (cF _) (by omega) (by rw [e];exact yy nu.uq nu.bv) (by rw [e];exact Fv nu) λW Z=>?_
 have x7:Ex w w7:=Ex.below G (Kp.below k7.kp G.size λg hg e=>by omega);rw [e];exact hR W (Ex.trans x7 Z)
structure EJ (w:World)(D:Nat->Prop)(b:Nat)(n:Nat)(s:Tx)(L:List Nat×Lv):Prop where
 mc:Mk w b n
 tx:w.cell? ⟨b,1,none⟩=some (.string (ab s))
 l:∃v,w.cell? ⟨b,2,none⟩=some v/\aB D w L v
theorem yK {t:P}{w:World}(hl:Lt t)(hs:t.size<=1000000)(hlen:t.text.length<=1099511627776){R:Value->World->Prop}
  (hR:∀b w',Ex w w'->w.heap.size<=b->EJ w' (λg=>w.heap.size<=g/\g≠b/\g< w'.heap.size) b (num t e0 0).2 t.text (td (num t e0 0).1)->R (ptr b) w'):Calls Tryz.prog 92 #[.string (ab t.text)] w (ax [.v] R):=by
 refine uF t.text w R ?_;refine zX hlen λv2 q w4 x4 ο ς=>?_
 have hq:q=true:=by
  cases q
  ·exact absurd rfl (ς rfl t hl)
  ·rfl
 obtain⟨t',υ,et,φ⟩:=ο hq;have:t'=t:=dZ (T.Al.wf υ) (T.Al.wf hl) et.symm;subst this;intro b5 Z V I;have x6:Ex w4 Z:=I▸Ex.alloc w4 _;have s6:Z.heap.size=w4.heap.size+1:=by rw [I,size_alloc]
 refine⟨λw'=>Ex Z w',λw8 ζ=>⟨ζ▸Ex.drew Z,?_⟩⟩;have x8:Ex Z w8:=ζ▸Ex.drew Z;have s4:=x4.size;have s8:=x8.size;have χ:Mk Z b5 0:=⟨by omega,by rw [I,V];exact aa rfl,by rw [I,V];exact aN _ _ _ _⟩
 have t6:Z.cell? ⟨b5,1,none⟩=some (.string (ab t'.text)):=by rw [I,V];exact aa rfl
 have l6:Z.cell? ⟨b5,2,none⟩=some (.pointer none):=by rw [I,V];exact aa rfl
 have f6:∀j,Z.frozen? ⟨b5,j,none⟩=false:=λj=>by rw [I,V];exact aN _ _ _ _
 refine pS λψ cs η ω=>?_
 have z:=Ex.trans x8 η;have θ:aF (λg=>xU w g/\g< w4.heap.size) ψ t' v2:=aF.kp (Kp.ah (Ex.trans x6 z) λ _=>False) (λ _ _ h=>h) φ.bound;refine Fu t' θ (λg hg e=>by omega) (χ.ex z) ω hl (by omega) λv11 α W β h12=>?_
 have hsz:=(bM t' e0 0).1;have htt:=cu (num t' e0 0).1;refine Dp _ (Nat.le_refl _) (cF _) h12 (by omega) λv13 J G ι=>⟨ι.one,?_⟩
 have x14':Ex α J:=G;have s12:=W.size;have s10:=η.size;have γ:b5< α.heap.size:=β.lt;have f14:∀j,J.frozen? ⟨b5,j,none⟩=false:=λj=>by rw [Below.frozen G γ,W.fz,Below.frozen z (show b5< _ by omega)];exact f6 j
 have t14:J.cell? ⟨b5,1,none⟩=some (.string (ab t'.text)):=by rw [G.cell (show b5< _ from γ),W.ce 1 (by omega),z.cell (show b5< _ by omega)];exact t6
 have κ:J.cell? ⟨b5,2,none⟩=some (.pointer none):=by rw [G.cell (show b5< _ from γ),W.ce 2 (by omega),z.cell (show b5< _ by omega)];exact l6
 have μ:=β.ex G;refine⟨⟨⟨_,κ⟩,f14 2⟩,λδ H=>?_⟩;have ε:Kr b5 J δ:=H▸Kr.set _ _ _;have ν:δ.cell? ⟨b5,0,none⟩=some (iv (num t' e0 0).2):=by rw [H,World.cell?_setCell_other _ _ _ _ (λe=>by injection e with e1 e2;omega)];exact μ.c
 have ξ:Ex w α:=Ex.below (Ex.trans x4 (Ex.trans x6 z)) (Kp.below W.kp (Ex.trans x4 (Ex.trans x6 z)).size λg hg e=>by omega);have s14:=G.size;have s16:=ε.size;refine hR b5 δ (Ex.below (Ex.trans ξ G) (Kp.below ε (Ex.trans ξ G).size λg hg e=>by omega)) (by omega) ⟨⟨by omega,ν,by rw [H,World.frozen?_setCell];exact f14 0⟩,?_,v13,?_,?_⟩
 ·rw [H,World.cell?_setCell_other _ _ _ _ (λe=>by injection e with e1 e2;omega)];exact t14
 ·rw [H];exact World.cell?_setCell_same _ _ _ κ
 ·exact aB.sub (aB.kp (aB.sub (E:=λg=>α.heap.size<=g/\g< J.heap.size) ι λg hg hd=>⟨hd,hg⟩) ε λg hg e=>by omega) λg hg hd=>⟨by omega,by omega,by omega⟩
end Go.Proofs.YtdecokaadekjnaaGreat
namespace Go.Proofs.YtdecokaadekjnaaGreat
open T
theorem BP {u H:U}(h:Nu u)(Z:Nu H)(ae:AE σ0 u σ0 H):jN u=jN H:=by
 have G:∀y z:Nat,σ0 y=σ0 z->y=z:=λy z e=>by unfold σ0 at e;omega
 have I:∀y,u.Us y↔H.Us y:=λy=>by
  constructor
  ·intro J;obtain⟨z,V,e⟩:=ae.used (λy z _ _ e=>G y z e) (λy z _ _ e=>G y z e) y J;rw [<-G z y e];exact V
  ·intro J;obtain⟨z,V,e⟩:=ae.symm.used (λy z _ _ e=>G y z e) (λy z _ _ e=>G y z e) y J;rw [<-G z y e];exact V
 have W:kh (td u).2=kh (td H).2:=by
  funext c
  rw [Bool.eq_iff_iff,pe h,pe Z,I]
 have key:=λtk=>Fy (ρ:=ρ0) (ρ':=ρ0) ae h.uq Z.uq (λy z _ _ e=>G y z e) (λy z _ _ e=>G y z e) (λy y' _ _ e=>by rw [G y y' e]) tk
 obtain⟨_,k2,k3,k4⟩:=key (kh (td u).2);rw [gR,gR,<-W,(key (kh (td u).2)).1,k2,k3,k4]
structure lE (t:P):Prop where
 al:t.Al λc=>lt c=true
 nr:t.Nr
 smp:t.smp=true
 len:t.text.length<=300
 size:t.size<=60
 most:a7 (num t e0 0).1<=5
 all:cE (num t e0 0).1<=8
 nf:jN (num t e0 0).1=some t.text
theorem Fa {t:P}(h:t.Al λc=>lt c=true):∀y,(num t e0 0).1.Fr y->y< 26:=(qD (p:=t) λc z=>T.Al.free h c z).2.2.1
theorem kG {t:P}(h:t.Al λc=>lt c=true):AE UInt8.toNat t σ0 (num t e0 0).1:=(qD (p:=t) λc z=>T.Al.free h c z).1
theorem kN {t:P}(h:t.Al λc=>lt c=true):Nu (num t e0 0).1:=by
 obtain⟨_,z,G,h4⟩:=qD (p:=t) λc H=>T.Al.free h c H
 exact⟨z,λy I=>G y (T.bz I),h4⟩
theorem GA.Ii {u:U}{s:Tx}{t:P}{v:U}(h:Nu u)(n:GA u s t v)(hs:u.smp=true):lE t:=by
 have G:Nu v:=⟨n.arr.uq,λy W=>h.fr y ((n.arr.us y).1 W),λx hx=>h.bv x (n.arr.bv x hx)⟩
 have hv:∀y,v.Fr y->(ρ0 y).toNat=σ0 y:=λy W=>eM (G.fr y (n.arr.nr.gV W))
 have ae:AE UInt8.toNat t σ0 v:=n.ae.congr (λ _ _=>rfl) hv;have H:=kN n.al;have I:AE σ0 v σ0 (num t e0 0).1:=ae.symm.trans (kG n.al);have J:∀p:U,eD σ0 p:=λp y z _ _ e=>by unfold σ0 at e;omega
 have V:kh (td v).2=kh (td u).2:=by
  funext c
  rw [Bool.eq_iff_iff,pe G,pe h,n.arr.us]
 have Z:∀y z:Nat,σ0 y=σ0 z->y=z:=λy z e=>by unfold σ0 at e;omega
 obtain⟨_,k2,k3,k4⟩:=Fy (ρ:=ρ0) (ρ':=ρ0) I G.uq H.uq (λy z _ _ e=>Z y z e) (λy z _ _ e=>Z y z e) (λy y' _ _ e=>by rw [Z y y' e]) (kh (td v).2);refine⟨n.al,AE.nr ae.symm (J v) (eL t) n.arr.nr,by rw [rY ae];exact n.arr.smp hs,by rw [n.text];exact n.len,n.size,by rw [<-k4,n.arr.most];exact n.most,by rw [<-k3,n.arr.all];exact n.all,?_⟩;have e1:LS v ρ0 (kh (td v).2)=s:=by rw [V,n.arr.ls];exact n.ls.symm
 have hg:cW s:=⟨n.len,t,n.al,n.text,n.size⟩
 rw [<-BP G H I,gR,e1,if_pos ⟨⟨by rw [n.arr.most];exact n.most,by rw [n.arr.all];exact n.all⟩,by rw [V,n.arr.bad];exact n.bad,hg⟩,n.text]
section
variable {A B:Type} [DecidableEq A] [DecidableEq B]
inductive Off (A:Type) where
 | tau (p:T A)
 | snd (a b:A) (p:T A)
 | rcv (a x:A) (q:T A) (again:Bool)
def Off.stay:Off A->Off A
 | .rcv a x q _=> .rcv a x q true
 | o=>o
def offs:T A->List (Off A)
 | .tau p=>[.tau p]
 | .snd a b p=>[.snd a b p]
 | .rcv a x p=>[.rcv a x p false]
 | .sum p q=>offs p++offs q
 | .rep p=>(offs p).map Off.stay
 | _=>[]
def wo {X:Type}(l:List X)(i j:Nat):List X:=(l.zipIdx.filter λz=> !(z.2==i)&& !(z.2==j)).map (·.1)
def qb (ρ:A->Nat)(σ:B->Nat):Off A->Off B->Prop
 | .tau p,.tau q=>AE ρ p σ q
 | .snd a b p,.snd c d q=>ρ a=σ c/\ρ b=σ d/\AE ρ p σ q
 | .rcv a x p s,.rcv c y q z=>ρ a=σ c/\(∀v,AE (aD ρ x v) p (aD σ y v) q)/\s=z
 | _,_=>False
inductive j0 {X Y:Type} (R:X->Y->Prop):List X->List Y->Prop
 | nil:j0 R [] []
 | cons {x y l m}:R x y->j0 R l m->j0 R (x::l) (y::m)
theorem j0.app {X Y:Type}{R:X->Y->Prop}{l z:List X}{m m':List Y}(h:j0 R l m)(k:j0 R z m'):j0 R (l++z) (m++m'):=by
 induction h with
 | nil=>exact k
 | cons h _ G=>exact .cons h G
theorem j0.map {X Y z G:Type}{R:X->Y->Prop}{S:z->G->Prop}{f:X->z}{g:Y->G}(H:∀x y,R x y->S (f x) (g y)){l:List X}{m:List Y}(h:j0 R l m):j0 S (l.map f) (m.map g):=by
 induction h with
 | nil=>exact .nil
 | cons h _ I=>exact .cons (H _ _ h) I
theorem j0.len {X Y:Type}{R:X->Y->Prop}{l:List X}{m:List Y}(h:j0 R l m):l.length=m.length:=by
 induction h with
 | nil=>rfl
 | cons _ _ z=>simp [z]
theorem j0.get {X Y:Type}{R:X->Y->Prop}{l:List X}{m:List Y}(h:j0 R l m):∀{i:Nat} (z:i< l.length) (G:i< m.length),R l[i] m[i]:=by
 induction h with
 | nil=>intro i z;cases z
 | cons h _ H=>
  intro i z G;cases i with
  | zero=>exact h
  | succ i=>simpa using H (by simpa using z) (by simpa using G)
theorem j0.wo {X Y:Type}{R:X->Y->Prop}{l:List X}{m:List Y}(h:j0 R l m)(i j:Nat):j0 R (wo l i j) (wo m i j):=by
 unfold Go.Proofs.YtdecokaadekjnaaGreat.wo;have:∀k,j0 R ((l.zipIdx k).filter (λz=> !(z.2==i)&& !(z.2==j)) |>.map (·.1)) ((m.zipIdx k).filter (λz=> !(z.2==i)&& !(z.2==j)) |>.map (·.1)):=by
  induction h with
  | nil=>intro k;exact .nil
  | cons h _ G=>
   intro k;simp only [List.zipIdx_cons,List.filter_cons];split
   ·simp only [List.map_cons];exact .cons h (G _)
   ·exact G _
 exact this 0
theorem jB:∀{p:T A} {q:T B} {ρ:A->Nat} {σ:B->Nat},AE ρ p σ q->j0 (qb ρ σ) (offs p) (offs q):=by
 intro p
 induction p with
 | nil=>intro q ρ σ h;cases q<;>first | exact .nil | cases h
 | par p I=>intro q ρ σ h;cases q<;>first | exact .nil | cases h
 | res x p=>intro q ρ σ h;cases q<;>first | exact .nil | cases h
 | mat a b p=>intro q ρ σ h;cases q<;>first | exact .nil | cases h
 | tau p=>intro q ρ σ h;cases q<;>first | exact .cons h .nil | cases h
 | snd a b p=>intro q ρ σ h;cases q<;>first | exact .cons h .nil | cases h
 | rcv a b p=>intro q ρ σ h;cases q<;>first | exact .cons ⟨h.1,h.2,rfl⟩ .nil | cases h
 | sum p I G H=>
  intro q ρ σ h;cases q<;>first | exact(G h.1).app (H h.2) | cases h
 | rep p G=>
  intro q ρ σ h;cases q<;>try cases h
  refine(G h).map λx y z=>?_
  cases x<;>cases y<;>first | exact z | (exact⟨z.1,z.2.1,rfl⟩) | cases z
end
theorem AE.open:∀{t:P} {u:U} {ρ:Rh},AE UInt8.toNat t (λz=>(ρ z).toNat) u->t.Nr->t.frL.length=u.frL.length/\j0 (λp q=>AE UInt8.toNat p (λz=>(asg u.frL t.frL ρ z).toNat) q) t.ths u.ths:=by
 intro t
 induction t with
 | nil=>intro u ρ h n;cases u<;>first | exact⟨rfl,.nil⟩ | cases h
 | snd a b p=>intro u ρ h n;cases u<;>first | exact⟨rfl,.cons h .nil⟩ | cases h
 | rcv a b p=>intro u ρ h n;cases u<;>first | exact⟨rfl,.cons h .nil⟩ | cases h
 | tau p=>intro u ρ h n;cases u<;>first | exact⟨rfl,.cons h .nil⟩ | cases h
 | sum p q=>intro u ρ h n;cases u<;>first | exact⟨rfl,.cons h .nil⟩ | cases h
 | mat a b p=>intro u ρ h n;cases u<;>first | exact⟨rfl,.cons h .nil⟩ | cases h
 | rep p=>intro u ρ h n;cases u<;>first | exact⟨rfl,.cons h .nil⟩ | cases h
 | par p q W J=>
  intro u ρ h n;cases u<;>try cases h
  rename_i p' q' G h2;have Z:q.frL=[]:=by
   rcases n.1.2 with h | h
   ·exact iq h
   ·cases q<;>first | rfl | (cases h;done)
  obtain⟨H,I⟩:=J h2 n.2.2;have V:q'.frL=[]:=by rw [Z]at H;exact List.eq_nil_of_length_eq_zero H.symm
  rw [Z,V]at I;exact⟨rfl,.cons G I⟩
 | res x p W=>
  intro u ρ h n;cases u<;>try cases h
  rename_i y q;have G:=h x.toNat;have e1:aD UInt8.toNat x x.toNat=UInt8.toNat:=by funext c;unfold aD;split<;>simp_all
  have e2:aD (λz=>(ρ z).toNat) y x.toNat=λz=>(aD ρ y x z).toNat:=by funext z;unfold aD;split<;>rfl
  rw [e1,e2]at G;obtain⟨H,I⟩:=W G n.2;exact⟨by simp [frL,H],I⟩
theorem AE.rb {D:Nat->Prop}{f:Nat->Nat}:∀{q:U} {σ τ:Nat->Nat},(∀z,q.Fr z->D z/\σ z=τ (f z))->(∀x∈BV q,D x/\∀z,D z->z≠x->f z≠f x)->AE σ q τ (q.map f)
 | .nil,_,_,_,_=>trivial
 | .snd a b p,σ,τ,h,k=>⟨(h a (.inl rfl)).2,(h b (.inr (.inl rfl))).2,AE.rb (λz G=>h z (.inr (.inr G))) k⟩
 | .mat a b p,σ,τ,h,k=>⟨(h a (.inl rfl)).2,(h b (.inr (.inl rfl))).2,AE.rb (λz G=>h z (.inr (.inr G))) k⟩
 | .tau p,σ,τ,h,k=>AE.rb (q:=p) h k
 | .rep p,σ,τ,h,k=>AE.rb (q:=p) h k
 | .sum p q,σ,τ,h,k=>⟨AE.rb (λz G=>h z (.inl G)) λx I=>k x (List.mem_append_left _ I),AE.rb (λz G=>h z (.inr G)) λx I=>k x (List.mem_append_right _ I)⟩
 | .par p q,σ,τ,h,k=>⟨AE.rb (λz G=>h z (.inl G)) λx I=>k x (List.mem_append_left _ I),AE.rb (λz G=>h z (.inr G)) λx I=>k x (List.mem_append_right _ I)⟩
 | .rcv a x p,σ,τ,h,k=>by
  have J:=k x (List.mem_cons_self ..);refine⟨(h a (.inl rfl)).2,λv=>AE.rb (D:=D) (λz G=>?_) λy V=>k y (List.mem_cons_of_mem _ V)⟩;by_cases e:z=x
  ·subst e;exact⟨J.1,by simp [aD]⟩
  ·have H:=h z (.inr ⟨e,G⟩);have :=J.2 z H.1 e;refine⟨H.1,?_⟩;simp only [aD,if_neg e,if_neg this];exact H.2
 | .res x p,σ,τ,h,k=>by
  have J:=k x (List.mem_cons_self ..);refine λv=>AE.rb (D:=D) (λz G=>?_) λy V=>k y (List.mem_cons_of_mem _ V)
  by_cases e:z=x
  ·subst e;exact⟨J.1,by simp [aD]⟩
  ·have H:=h z ⟨e,G⟩;have :=J.2 z H.1 e;refine⟨H.1,?_⟩;simp only [aD,if_neg e,if_neg this];exact H.2
theorem fI (f:Nat->Nat):∀u:U,BV (u.map f)=(BV u).map f
 | .nil=>rfl
 | .snd a b p=>fI f p
 | .mat a b p=>fI f p
 | .tau p=>fI f p
 | .rep p=>fI f p
 | .rcv a x p=>by simp only [T.map,BV,fI f p,List.map_cons]
 | .res x p=>by simp only [T.map,BV,fI f p,List.map_cons]
 | .sum p q=>by simp only [T.map,BV,fI f p,fI f q,List.map_append]
 | .par p q=>by simp only [T.map,BV,fI f p,fI f q,List.map_append]
def Off.tm {A:Type}:Off A->T A
 | .tau p=> .tau p
 | .snd a b p=> .snd a b p
 | .rcv a x q _=> .rcv a x q
structure Sub {A:Type}(s t:T A):Prop where
 smp:t.smp=true->s.smp=true
 nr:t.Nr->s.Nr
 fr:∀z,s.Fr z->t.Fr z
 rd:s.rd<=t.rd
 ow:s.ow<=t.ow
 size:s.size<=t.size
 al:∀D:A->Prop,t.Al D->s.Al D
theorem Sub.refl {A:Type}(t:T A):Sub t t:=⟨id,id,λ _=>id,Nat.le_refl _,Nat.le_refl _,Nat.le_refl _,λ _=>id⟩
theorem aW {A:Type}:∀{t:T A},t.smp=true->∀o∈offs t,Sub o.tm t/\(∀a x q,o= .rcv a x q true->t= .rep (.rcv a x q)):=by
 intro t
 induction t with
 | nil=>intro _ o h;cases h
 | par p q=>intro _ o h;cases h
 | res x p=>intro _ o h;cases h
 | mat a b p=>intro _ o h;cases h
 | tau p=>intro _ o h;rw [offs,List.mem_singleton]at h;subst h;exact⟨Sub.refl _,λ _ _ _ h=>by cases h⟩
 | snd a b p=>intro _ o h;rw [offs,List.mem_singleton]at h;subst h;exact⟨Sub.refl _,λ _ _ _ h=>by cases h⟩
 | rcv a b p=>intro _ o h;rw [offs,List.mem_singleton]at h;subst h;exact⟨Sub.refl _,λ _ _ _ h=>by cases h⟩
 | sum p q Z V=>
  intro G o h;simp only [smp,Bool.and_eq_true]at G;rw [offs,List.mem_append]at h;rcases h with h | h
  ·obtain⟨k,kr⟩:=Z G.2.1 o h;refine⟨⟨λ _=>k.smp G.2.1,λn=>k.nr n.2.1,λz H=> .inl (k.fr z H),Nat.le_trans k.rd (Nat.le_max_left _ _),by have :=k.ow;simp only [ow];omega,by have :=k.size;simp only [size];omega,λD I=>k.al D I.1⟩,λa x J e=>?_⟩;have W:=kr a x J e;rw [W]at G;simp [gp]at G
  ·obtain⟨k,kr⟩:=V G.2.2 o h;refine⟨⟨λ _=>k.smp G.2.2,λn=>k.nr n.2.2,λz H=> .inr (k.fr z H),Nat.le_trans k.rd (Nat.le_max_right _ _),by have :=k.ow;simp only [ow];omega,by have :=k.size;simp only [size];omega,λD I=>k.al D I.2⟩,λa x J e=>?_⟩;have W:=kr a x J e;rw [W]at G;simp [gp]at G
 | rep p Z=>
  intro G o h;simp only [smp,Bool.and_eq_true]at G;cases p<;>try (simp [isR]at G)
  rename_i a x q;simp only [offs,List.map_cons,List.map_nil,List.mem_singleton,Off.stay]at h;subst h;refine⟨⟨λh=>?_,λn=>n.2,λz H=>H,Nat.le_refl _,Nat.le_refl _,by simp only [Off.tm,size];omega,λD I=>I⟩,λa' x' J e=>?_⟩
  ·simp only [smp,Bool.and_eq_true]at h;exact h.2
  ·cases e;rfl
theorem fM:∀{t:U},∀o∈offs t,(BV o.tm).Sublist (BV t):=by
 intro t
 induction t with
 | nil=>intro o h;cases h
 | par p q=>intro o h;cases h
 | res x p=>intro o h;cases h
 | mat a b p=>intro o h;cases h
 | tau p=>intro o h;rw [offs,List.mem_singleton]at h;subst h;exact List.Sublist.refl _
 | snd a b p=>intro o h;rw [offs,List.mem_singleton]at h;subst h;exact List.Sublist.refl _
 | rcv a b p=>intro o h;rw [offs,List.mem_singleton]at h;subst h;exact List.Sublist.refl _
 | sum p q z G=>
  intro o h;rw [offs,List.mem_append]at h;rcases h with h | h
  ·exact(z o h).trans (List.sublist_append_left _ _)
  ·exact(G o h).trans (List.sublist_append_right _ _)
 | rep p z=>
  intro o h;obtain⟨H,I,rfl⟩:=List.mem_map.1 h;have :=z H I;cases H<;>exact this
section
variable {X:Type}
def jP (P:Nat->Bool)(l:List X)(k:Nat):List X:=((l.zipIdx k).filter λz=> !P z.2).map (·.1)
theorem jd (P:Nat->Bool)(k:Nat):jP P ([]:List X) k=[]:=rfl
theorem cc (P:Nat->Bool)(x:X)(l:List X)(k:Nat):jP P (x::l) k=if P k then jP P l (k+1)else x::jP P l (k+1):=by
 unfold jP;simp only [List.zipIdx_cons,List.filter_cons];cases P k<;>simp
theorem lJ {P Q:Nat->Bool}:∀{l:List X} {k:Nat},(∀i,k<=i->P i=Q i)->jP P l k=jP Q l k
 | [],_,_=>rfl
 | x::l,k,h=>by rw [cc,cc,h k (Nat.le_refl _),lJ (l:=l) λi z=>h i (by omega)]
theorem zr {P:Nat->Bool}:∀{l:List X} {k:Nat},(∀i,k<=i->P i=false)->jP P l k=l
 | [],_,_=>rfl
 | x::l,k,h=>by rw [cc,h k (Nat.le_refl _),zr (l:=l) λi z=>h i (by omega)];rfl
theorem vI:∀(l:List X) (k i:Nat) (h:i< l.length),l.Perm (l[i]::jP (λn=>n==k+i) l k)
 | [],_,_,h=>by cases h
 | x::l,k,0,h=>by
  rw [cc,if_pos (by simp),zr λi z=>by simp;omega];exact List.Perm.refl _
 | x::l,k,i+1,h=>by
  rw [cc,if_neg (by simp)];have :=vI l (k+1) i (by simpa using h);rw [show k+1+i=k+(i+1) by omega]at this;exact(this.cons x).trans (List.Perm.swap _ _ _)
theorem u9:∀(l:List X) (k i j:Nat) (G:i< l.length) (z:j< l.length),i< j->l.Perm (l[i]::l[j]::jP (λn=>n==k+i||n==k+j) l k)
 | [],_,_,_,h,_,_=>by cases h
 | x::l,k,0,j+1,_,z,_=>by
  rw [cc,if_pos (by simp)];have :=vI l (k+1) j (by simpa using z);rw [lJ (P:=λn=>n==k+0||n==k+(j+1)) (Q:=λn=>n==k+1+j) λn I=>by
   rw [Bool.eq_iff_iff];simp only [Bool.or_eq_true,beq_iff_eq];omega]
  exact this.cons x
 | x::l,k,i+1,j+1,G,z,H=>by
  rw [cc,if_neg (by simp)];have :=u9 l (k+1) i j (by simpa using G) (by simpa using z) (by omega);rw [show k+1+i=k+(i+1) by omega,show k+1+j=k+(j+1) by omega]at this;exact((this.cons x).trans (List.Perm.swap _ _ _)).trans ((List.Perm.swap _ _ _).cons _)
theorem yq (l:List X)(i j:Nat):wo l i j=jP (λn=>n==i||n==j) l 0:=by
 unfold wo jP
 congr 2
 funext z
 simp
theorem yQ (l:List X)(i:Nat)(h:i< l.length):l.Perm (l[i]::wo l i i):=by
 have :=vI l 0 i h;rw [yq,lJ (Q:=λn=>n==0+i) λn _=>by simp];exact this
theorem ya (l:List X)(i j:Nat)(G:i< l.length)(H:j< l.length)(z:i≠j):l.Perm (l[i]::l[j]::wo l i j):=by
 rw [yq];rcases Nat.lt_or_gt_of_ne z with h | h
 ·have :=u9 l 0 i j G H h;simpa using this
 ·have :=u9 l 0 j i H G h;rw [lJ (P:=λn=>n==i||n==j) (Q:=λn=>n==0+j||n==0+i) λn _=>by simp [Bool.or_comm]];exact this.trans (List.Perm.swap _ _ _)
theorem D3 (l:List X)(i j:Nat)(G:i< l.length)(H:j< l.length)(z:i≠j):(wo l i i).Perm (wo l i j++[l[j]]):=by
 have I:=yQ l i G;have J:=ya l i j G H z;exact((List.perm_cons _).1 (I.symm.trans J)).trans (List.perm_append_comm (l₁:=[l[j]]) (l₂:=wo l i j))
theorem kj {l:List X}{i j:Nat}{x:X}(h:x∈wo l i j):x∈l:=by
 unfold wo at h;obtain⟨z,G,rfl⟩:=List.mem_map.1 h;have :=(List.mem_filter.1 G).1;rw [List.mem_zipIdx_iff_getElem?]at this;exact List.mem_of_getElem? this
end
structure DC (N:Nat)(q:U)(x b:Nat)(f:Nat->Nat):Prop where
 fx:f x=b
 fo:∀z,z≠x->z∉BV q->f z=z
 fb:∀z∈BV q,N< f z
 fi:∀z∈BV q,∀z'∈BV q,f z=f z'->z=z'
theorem DC.ae {N:Nat}{q:U}{x b:Nat}{f:Nat->Nat}(h:DC N q x b f)(J:Uq q)(hx:x∉BV q)(V:∀z,q.Fr z->z<=N)(hb:b<=N)(W:∀z∈BV q,z<=N)(σ:Nat->Nat):AE (aD σ x (σ b)) q σ (q.map f):=by
 refine AE.rb (D:=λz=>q.Fr z\/z∈BV q) (λz G=>⟨.inl G,?_⟩) λy H=>⟨.inr H,λz G I=>?_⟩
 ·by_cases e:z=x
  ·subst e;rw [h.fx,cV]
  ·rw [bH _ _ e,h.fo z e λhb=>J.nf z hb G]
 ·have Z:=h.fb y H;rcases G with G | G
  ·by_cases e:z=x
   ·rw [e,h.fx];omega
   ·rw [h.fo z e λhb=>J.nf z hb G];have :=V z G;omega
  ·exact λe=>I (h.fi z G y H e)
theorem DC.fr {N:Nat}{q:U}{x b:Nat}{f:Nat->Nat}(h:DC N q x b f)(W:Uq q):∀z,(q.map f).Fr z->z=b\/(z≠x/\q.Fr z):=by
 have key:∀(q:U) (z:Nat),(q.map f).Fr z->∃y,q.Fr y/\f y=z:=by
  intro q
  induction q with
  | nil=>intro z h;exact h.elim
  | snd a b p I=>
   intro z h;rcases h with h | h | h
   ·exact⟨a,.inl rfl,h.symm⟩
   ·exact⟨b,.inr (.inl rfl),h.symm⟩
   ·obtain⟨y,H,G⟩:=I z h;exact⟨y,.inr (.inr H),G⟩
  | mat a b p I=>
   intro z h;rcases h with h | h | h
   ·exact⟨a,.inl rfl,h.symm⟩
   ·exact⟨b,.inr (.inl rfl),h.symm⟩
   ·obtain⟨y,H,G⟩:=I z h;exact⟨y,.inr (.inr H),G⟩
  | rcv a x p I=>
   intro z h;rcases h with h | ⟨h,V⟩
   ·exact⟨a,.inl rfl,h.symm⟩
   ·obtain⟨y,H,G⟩:=I z V;exact⟨y,.inr ⟨λe=>h (by rw [<-G,e]),H⟩,G⟩
  | res x p I=>
   intro z ⟨h,V⟩;obtain⟨y,H,G⟩:=I z V;exact⟨y,⟨λe=>h (by rw [<-G,e]),H⟩,G⟩
  | tau p I=>exact I
  | rep p I=>exact I
  | sum p q I J=>
   intro z h;rcases h with h | h
   ·obtain⟨y,H,G⟩:=I z h;exact⟨y,.inl H,G⟩
   ·obtain⟨y,H,G⟩:=J z h;exact⟨y,.inr H,G⟩
  | par p q I J=>
   intro z h;rcases h with h | h
   ·obtain⟨y,H,G⟩:=I z h;exact⟨y,.inl H,G⟩
   ·obtain⟨y,H,G⟩:=J z h;exact⟨y,.inr H,G⟩
 intro z Z;obtain⟨y,H,G⟩:=key q z Z;by_cases e:y=x
 ·left;rw [<-G,e,h.fx]
 ·right;rw [h.fo y e λhb=>W.nf y hb H]at G;subst G;exact⟨e,H⟩
end Go.Proofs.YtdecokaadekjnaaGreat
namespace Go.Proofs.YtdecokaadekjnaaGreat
open Go Go.RowKit
def jv (w:World)(r:Nat)(F:Nat->Nat):Prop:=∃mm,IsMap w r (.int .i64) mm/\∀x:Nat,mm (iv x)=some (iv (F x))\/(mm (iv x)=none/\F x=x)
theorem fY {w w':World}{r:Nat}{d:TypeDesc}{m:Value->Option Value}(h:IsMap w r d m)(e:w'.heap[r]?=w.heap[r]?):IsMap w' r d m:=by
 obtain⟨es,cl,z,G⟩:=h;exact⟨es,cl,by rw [e];exact z,G⟩
theorem gE {w:World}{r:Nat}{d:TypeDesc}{m:Value->Option Value}(h:IsMap w r d m):r< w.heap.size:=by
 obtain⟨es,cl,z,G⟩:=h;exact(Array.getElem?_eq_some_iff.1 z).1
theorem jv.lt {w:World}{r:Nat}{F:Nat->Nat}(h:jv w r F):r< w.heap.size:=by
 obtain⟨mm,z,_⟩:=h;exact gE z
theorem jv.kp {w w':World}{r:Nat}{F:Nat->Nat}{S:Nat->Prop}(h:jv w r F)(k:Kp w w' S)(z:¬S r):jv w' r F:=by
 have G:=h.lt;obtain⟨mm,H,I⟩:=h;exact⟨mm,fY H (k.block r G z),I⟩
theorem rj {w:World}{r:Nat}{mm:Value->Option Value}{F:Nat->Nat}(G:∀x:Nat,mm (iv x)=some (iv (F x))\/(mm (iv x)=none/\F x=x)){x y:Nat}(h:IsMap w r (.int .i64) (eh mm (iv x) (iv y))):jv w r (aD F x y):=by
 refine⟨_,h,λz=>?_⟩;unfold eh aD;by_cases e:z=x
 ·subst e;left;simp
 ·have:iv z≠iv x:=λH=>e (by injection H with _ I;omega)
  simp only [if_neg e,if_neg this];exact G z
structure Rn (n n':Nat)(xs:List Nat)(F F':Nat->Nat):Prop where
 le:n<=n'
 len:n'<=n+xs.length
 out:∀x,x∉xs->F' x=F x
 rng:∀x∈xs,n+100< F' x/\F' x<=n'+100
 inj:∀x∈xs,∀y∈xs,F' x=F' y->x=y
theorem Rn.refl (n:Nat)(F:Nat->Nat):Rn n n [] F F:=⟨Nat.le_refl _,by simp,λ _ _=>rfl,λ _ h=>(by cases h),λ _ h=>(by cases h)⟩
theorem Rn.one (n x:Nat)(F:Nat->Nat):Rn n (n+1) [x] F (aD F x (n+101)):=by
 refine⟨by omega,by simp,λy G=>if_neg (by simpa using G),λy G=>?_,λy G z H _=>?_⟩
 ·cases List.mem_singleton.1 G;simp only [aD,if_true];omega
 ·cases List.mem_singleton.1 G;cases List.mem_singleton.1 H;rfl
theorem Rn.app {n m p:Nat}{xs W:List Nat}{F G H:Nat->Nat}(h:Rn n m xs F G)(k:Rn m p W G H)(hd:∀x∈xs,x∉W):Rn n p (xs++W) F H:=by
 have J:∀x∈xs,H x=G x:=λx J=>k.out x (hd x J)
 refine⟨Nat.le_trans h.le k.le,by have :=h.len;have :=k.len;rw [List.length_append];omega,λx z=>?_,λx z=>?_,λx z y Z e=>?_⟩
 ·rw [List.mem_append,not_or]at z;rw [k.out x z.2,h.out x z.1]
 ·have :=h.le;have :=k.le;rcases List.mem_append.1 z with I | I
  ·rw [J x I];have :=h.rng x I;omega
  ·have :=k.rng x I;omega
 ·rcases List.mem_append.1 z with I | I<;>rcases List.mem_append.1 Z with V | V
  ·rw [J x I,J y V]at e;exact h.inj x I y V e
  ·rw [J x I]at e;have :=h.rng x I;have :=k.rng y V;omega
  ·rw [J y V]at e;have :=h.rng y V;have :=k.rng x I;omega
  ·exact k.inj x I y V e
structure Kq (m r:Nat)(w w':World):Prop where
 kp:Kp w w' λg=>g=m\/g=r
 ce:∀j,j≠0->w'.cell? ⟨m,j,none⟩=w.cell? ⟨m,j,none⟩
 fz:∀j,w'.frozen? ⟨m,j,none⟩=w.frozen? ⟨m,j,none⟩
section
variable {m r:Nat} {w w0 w' w'':World}
theorem Kq.size (h:Kq m r w w'):w.heap.size<=w'.heap.size:=h.kp.size
theorem Kq.trans (h:Kq m r w w')(k:Kq m r w' w''):Kq m r w w'':=⟨Kp.trans h.kp k.kp λ _ _ h=>h,λj z=>(k.ce j z).trans (h.ce j z),λj=>(k.fz j).trans (h.fz j)⟩
theorem Kq.refl (m r:Nat)(w:World):Kq m r w w:=⟨Kp.ah (Ex.refl w) _,λ _ _=>rfl,λ _=>rfl⟩
theorem Kq.out {S:Nat->Prop}(h:Kq m r w0 w)(k:Kp w w' S)(G:∀g,g< w0.heap.size->S g->g=r/\g≠m)(hm:m< w0.heap.size):Kq m r w0 w':=by
 have e:=k.block m (Nat.lt_of_lt_of_le hm h.kp.size) λz=>(G m hm z).2 rfl
 exact⟨Kp.trans h.kp k λg H z=> .inr (G g H z).1,λj I=>by rw [World.cell?_of_block (w:=w) e];exact h.ce j I,λj=>by rw [World.frozen?_of_block (w:=w) e];exact h.fz j⟩
theorem Kq.ex (h:Kq m r w0 w)(x:Ex w w')(hm:m< w0.heap.size):Kq m r w0 w':=h.out (Kp.ah x λ _=>False) (λ _ _ h=>h.elim) hm
theorem Kq.km (h:Kq m r w0 w)(k:Km m w w'):Kq m r w0 w':=h.trans ⟨Kp.mono (λ _ e=> .inl e) k.kp,k.ce,k.fz⟩
theorem Kq.blk (h:Kq m r w0 w)(k:cT w w' r)(hm:m< w0.heap.size)(hr:m≠r):Kq m r w0 w':=
 h.out (S:=λg=>g=r) ⟨k.os,k.tape,k.output,by rw [k.size];exact Nat.le_refl _,λg _ z=>k.block g z⟩ (λg _ e=>⟨e,λh=>hr (h.symm.trans e)⟩) hm
end
structure CI (w w':World)(m r b4 b6 n n1:Nat)(xs:List Nat)(F F1:Nat->Nat)(O:List Nat)(L:Lv)(ts:List Value)(M:Nat->Prop):Prop where
 kq:Kq m r w w'
 mc:Mk w' m n1
 mf:jv w' r F1
 rn:Rn n n1 xs F F1
 c4:w'.cell? ⟨b4,0,none⟩=some (.map (some r))
 l4:b4< w'.heap.size
 h4:w.heap.size<=b4
 m4:¬M b4
 bd:jM w.heap.size w' b6 O ts M
 th:af (λg=>(w.heap.size<=g/\¬M g/\g≠b4)/\g< w'.heap.size) w' L ts
 lm:m< w.heap.size
 lr:r< w.heap.size
 ne:m≠r
theorem yT {w:World}{b4 r x:Nat}{F:Nat->Nat}(c4:w.cell? ⟨b4,0,none⟩=some (.map (some r)))(mf:jv w r F){R:Int->World->Prop}(z:R (F x:Int) w):
  Calls Tryz.prog 239 #[iv x,ptr b4] w (ax [.i] R):=by
 refine jK x (ptr b4) w R ?_;obtain⟨mm,G,H⟩:=mf;refine⟨b4,0,rfl,_,c4,r,mm,rfl,G,?_⟩;rcases H x with h | ⟨h,e⟩
 ·exact⟨F x,true,.inl ⟨rfl,h⟩,λ _=>z,λh=>(by cases h)⟩
 ·exact⟨0,false,.inr ⟨rfl,h,rfl⟩,λh=>(by cases h),λ _=>by rw [e]at z;exact z⟩
theorem jM.HS {B:Nat}{w w1 w2:World}{b:Nat}{o Z:List Nat}{ts:List Value}{M:Nat->Prop}(h:jM B w b o ts M){vo v':Value}(J:w.cell? ⟨b,0,none⟩=some vo)(k:Kp w w1 λg=>vo.ownBlock=some g)(ho:aM 3 B w1 v' (Z.map iv))
  (hv:∀g,v'.ownBlock=some g->vo.ownBlock=some g\/w.heap.size<=g) (hw:w2=w1.setCell ⟨b,0,none⟩ v'):jM B w2 b Z ts (λg=>M g\/v'.ownBlock=some g)/\Kp w w2 M:=by
 obtain⟨h1,hle,h3,hr,h4,V,vt,h5,h6,h7,h8,h9,h10,G⟩:=h;have:V=vo:=Option.some.inj (h5.symm.trans J);subst this;have s1:=k.size;have I:Kr b w1 w2:=hw▸Kr.set w1 0 v';have W:=k.block b h1 λe=>(h9 b e).2 rfl
 have H:∀g,v'.ownBlock=some g->g≠b:=λg z=>(hv g z).elim (λe=>(h9 g e).2) λe=>by omega
 have kM:Kp w w2 M:=Kp.trans (Kp.mono (λg e=>(h9 g e).1) k) I λg _ e=>by rw [e];exact h3
 have s2:=I.size;refine⟨⟨by omega,hle,.inl h3,λg z=>?_,λj=>?_,v',vt,?_,?_,ho.kp I H,?_,λg z=>⟨.inr z,H g z⟩,λg z=>⟨.inl (h10 g z).1,(h10 g z).2⟩,λg z e=>?_⟩,kM⟩
 ·rcases z with z | z
  ·have :=hr g z;omega
  ·have :=ho.block g z;omega
 ·rw [hw,World.frozen?_setCell,World.frozen?_of_block (w:=w) W];exact h4 j
 ·rw [hw];exact World.cell?_setCell_same _ _ _ (by rw [World.cell?_of_block (w:=w) W];exact h5)
 ·rw [hw,World.cell?_setCell_other _ _ _ _ (by simp),World.cell?_of_block (w:=w) W];exact h6
 ·exact(h8.kp k λg z e=>G g e z).kp I λg z=>(h10 g z).2
 ·rcases hv g z with h | h
  ·exact G g h e
  ·have :=(h8.block g e).2;omega
theorem jM.Hn {B:Nat}{w w1 w2:World}{b:Nat}{o:List Nat}{ts G:List Value}{M:Nat->Prop}(h:jM B w b o ts M){vt v':Value}(V:w.cell? ⟨b,1,none⟩=some vt)(k:Kp w w1 λg=>vt.ownBlock=some g)(ho:aM 156 B w1 v' G)
  (hv:∀g,v'.ownBlock=some g->vt.ownBlock=some g\/w.heap.size<=g) (hw:w2=w1.setCell ⟨b,1,none⟩ v'):jM B w2 b o G (λg=>M g\/v'.ownBlock=some g)/\Kp w w2 M:=by
 obtain⟨h1,hle,h3,hr,h4,vo,W,h5,h6,h7,h8,h9,h10,H⟩:=h;have:W=vt:=Option.some.inj (h6.symm.trans V);subst this;have s1:=k.size;have J:Kr b w1 w2:=hw▸Kr.set w1 1 v';have Z:=k.block b h1 λe=>(h10 b e).2 rfl
 have I:∀g,v'.ownBlock=some g->g≠b:=λg z=>(hv g z).elim (λe=>(h10 g e).2) λe=>by omega
 have kM:Kp w w2 M:=Kp.trans (Kp.mono (λg e=>(h10 g e).1) k) J λg _ e=>by rw [e];exact h3
 have s2:=J.size;refine⟨⟨by omega,hle,.inl h3,λg z=>?_,λj=>?_,vo,v',?_,?_,?_,ho.kp J I,λg z=>⟨.inl (h9 g z).1,(h9 g z).2⟩,λg z=>⟨.inr z,I g z⟩,λg z e=>?_⟩,kM⟩
 ·rcases z with z | z
  ·have :=hr g z;omega
  ·have :=ho.block g z;omega
 ·rw [hw,World.frozen?_setCell,World.frozen?_of_block (w:=w) Z];exact h4 j
 ·rw [hw,World.cell?_setCell_other _ _ _ _ (by simp),World.cell?_of_block (w:=w) Z];exact h5
 ·rw [hw];exact World.cell?_setCell_same _ _ _ (by rw [World.cell?_of_block (w:=w) Z];exact h6)
 ·exact(h7.kp k λg z e=>H g z e).kp J λg z=>(h9 g z).2
 ·rcases hv g e with h | h
  ·exact H g z h
  ·have :=(h7.block g z).2;omega
theorem cC {f g:Nat->Nat}:∀{l:Lv},(∀x,(x∈l.bvs\/l.fh x)->f x=g x)->l.map f=l.map g
 | .nil,_=>rfl
 | .thr k a b o r n,h=>by
  have hr:=cC (f:=f) (g:=g) (l:=r) λx z=>h x (by
   rcases z with z | z
   ·left;simp [Lv.bvs,z]
   ·by_cases G:x∈o
    ·left;simp [Lv.bvs,G]
    ·by_cases hb:k= .r/\x=b
     ·left;simp [Lv.bvs,hb.1,hb.2]
     ·right;exact .inr (.inr (.inl ⟨G,hb,z⟩)))
  have H:=cC (f:=f) (g:=g) (l:=n) λx z=>h x (by
   rcases z with z | z
   ·left;simp [Lv.bvs,z]
   ·right;exact .inr (.inr (.inr z)))
  have G:o.map f=o.map g:=List.map_congr_left λx z=>h x (.inl (by simp [Lv.bvs,z]))
  simp only [Lv.map,hr,H,G];cases k<;>simp only [reduceCtorEq,or_self,or_true,true_or,if_false,if_true]
  ·rw [h a (.inr (.inl ⟨.inl rfl,.inl rfl⟩)),h b (.inr (.inl ⟨.inl rfl,.inr rfl⟩))]
  ·rw [h a (.inr (.inr (.inl ⟨rfl,rfl⟩))),h b (.inl (by simp [Lv.bvs]))]
  ·rw [h a (.inr (.inl ⟨.inr rfl,.inl rfl⟩)),h b (.inr (.inl ⟨.inr rfl,.inr rfl⟩))]
 | .sum I n,h=>by
  have hr:=cC (f:=f) (g:=g) (l:=I) λx z=>h x (by
   rcases z with z | z
   ·left;simp [Lv.bvs,z]
   ·right;exact .inl z)
  have H:=cC (f:=f) (g:=g) (l:=n) λx z=>h x (by
   rcases z with z | z
   ·left;simp [Lv.bvs,z]
   ·right;exact .inr z)
  simp only [Lv.map,hr,H]
 | .part o q n,h=>by
  have hr:=cC (f:=f) (g:=g) (l:=q) λx z=>h x (by
   rcases z with z | z
   ·left;simp [Lv.bvs,z]
   ·by_cases G:x∈o
    ·left;simp [Lv.bvs,G]
    ·right;exact .inl ⟨G,z⟩)
  have H:=cC (f:=f) (g:=g) (l:=n) λx z=>h x (by
   rcases z with z | z
   ·left;simp [Lv.bvs,z]
   ·right;exact .inr z)
  have G:o.map f=o.map g:=List.map_congr_left λx z=>h x (.inl (by simp [Lv.bvs,z]))
  simp only [Lv.map,hr,H,G]
theorem oB {x:Nat}:∀(l:Lv) (i:Nat),(l.take i).fh x->l.fh x
 | _,0,h=>h.elim
 | .nil,i+1,h=>h
 | .thr k a b o r n,i+1,h=>by
  rcases h with h | h | h | h
  ·exact .inl h
  ·exact .inr (.inl h)
  ·exact .inr (.inr (.inl h))
  ·exact .inr (.inr (.inr (oB n i h)))
 | .sum z n,i+1,h=>h.elim .inl λh=> .inr (oB n i h)
 | .part o q n,i+1,h=>h.elim .inl λh=> .inr (oB n i h)
def Ge (k:Nat):Prop:=∀{D:Nat->Prop} {w:World} {v:Value} {o:List Nat} {l:Lv} {m r n:Nat} {F:Nat->Nat} {R:Value->World->Prop},l.sz<=k->l.sh true=true->fL D w v o (af D w l)->(∀g,D g->¬(g=m\/g=r))->sT o l->Mk w m n->jv w r F->m≠r->n+o.length+l.bvs.length<=4294967296->o.length+l.tot<=4294967296->
 (∀v' w' F' n',Kq m r w w'->Mk w' m n'->jv w' r F'->Rn n n' (o++l.bvs) F F'->aB (xU w) w' (o.map F',l.map F') v'->R v' w')->Calls Tryz.prog 217 #[ptr m,v,.map (some r)] w (ax [.v] R)
theorem zN (f:Nat->Nat):∀l:Lv,(l.map f).len=l.len:=by intro l;induction l<;>simp_all [Lv.map,Lv.len]
theorem Cw:∀(l:Lv) (i:Nat),(l.take i).bvs.Sublist l.bvs:=by
 intro l
 induction l with
 | nil=>intro i;cases i<;>simp [Lv.take,Lv.bvs]
 | thr k a b o r n _ z=>
  intro i;cases i with
  | zero=>simp [Lv.take,Lv.bvs]
  | succ i=>exact List.Sublist.append (List.Sublist.refl _) (List.Sublist.append (List.Sublist.refl _) (List.Sublist.append (List.Sublist.refl _) (z i)))
 | sum G n _ z=>
  intro i;cases i with
  | zero=>simp [Lv.take,Lv.bvs]
  | succ i=>exact List.Sublist.append (List.Sublist.refl _) (z i)
 | part o q n _ z=>
  intro i;cases i with
  | zero=>simp [Lv.take,Lv.bvs]
  | succ i=>exact List.Sublist.append (List.Sublist.refl _) (List.Sublist.append (List.Sublist.refl _) (z i))
theorem Dg {o:List Nat}{l e:Lv}{i:Nat}(h:sT o l)(I:l.take (i+1)=(l.take i).app e):(∀x∈o++(l.take i).bvs,x∉e.bvs)/\(l.take i).bvs.length+e.bvs.length<=l.bvs.length:=by
 have z:((l.take i).bvs++e.bvs).Sublist l.bvs:=by rw [<-Lv.dg,<-I];exact Cw l _
 have G:=List.nodup_append.1 h.nd;refine⟨λx J H=>?_,by have :=z.length_le;rwa [List.length_append]at this⟩;rcases List.mem_append.1 J with h | h
 ·exact G.2.2 x h x (z.subset (List.mem_append_right _ H)) rfl
 ·exact(List.nodup_append.1 (G.2.1.sublist z)).2.2 x h x H rfl
theorem wG (k:Nat)(ih:∀j,j< k->Ge j):Ge k:=by
 intro D w v o l m r n F R hn hsh h hD huq hmk hmf ο hnn htot hR;refine kE (ptr m) v (.map (some r)) w R ?_;refine⟨rfl,λb4 w5 hb4 hw5 b6 w7 hb6 hw7=>?_⟩;have x5:Ex w w5:=hw5▸Ex.alloc w _;have x57:Ex w5 w7:=hw7▸Ex.alloc w5 _;have x7:=Ex.trans x5 x57;have s5:w5.heap.size=w.heap.size+1:=by rw [hw5,size_alloc]
 have s7:w7.heap.size=w5.heap.size+1:=by rw [hw7,size_alloc]
 have hlm:=hmk.lt;have hlr:=hmf.lt;obtain⟨bl,vo,vt,ts,rfl,h2,h3,h4,h5,h6,h7,h8⟩:=h;obtain⟨ao,capo,hvo⟩:=h6.slice;rw [List.length_map]at hvo;obtain⟨at_,capt,hvt⟩:=h7.slice;have hlen:=h8.len;have hel:=Lv.cJ l;have hlt:=bS l;have nd:=huq.nd;have ndo:=List.nodup_append.1 nd;have cbl:∀{w1:World},Kq m r w w1->∀{j:Nat} {u:Value},w.cell? ⟨bl,j,none⟩=some u->w1.cell? ⟨bl,j,none⟩=some u:=λx j u hu=>by
  rw [World.cell?_of_block (w:=w) (x.kp.block bl h3 (hD bl h2))];exact hu
 have bd7:jM w.heap.size w7 b6 [] [] λg=>g=b6:=jM.new (by omega) hb6 hw7
 have ci7:CI w w7 m r b4 b6 n n [] F F [] .nil [] λg=>g=b6:=
  ⟨(Kq.refl m r w).ex x7 hlm,hmk.ex x7,hmf.kp (Kp.ah x7 λ _=>False) (λh=>h),Rn.refl n F,by rw [x57.cell (show b4< _ by omega),hw5,hb4];exact aa rfl,by omega,by omega,by omega,bd7,rfl,hlm,hlr,ο⟩
 refine⟨bl,0,rfl,vo,cbl ci7.kq h4,ao,_,capo,hvo,λx w'=>∃(j n1:Nat) (F1:Nat->Nat) (M:Nat->Prop),x=j/\j<=o.length/\CI w w' m r b4 b6 n n1 (o.take j) F F1 ((o.take j).map F1) .nil [] M,λx _=>(o.length - x).toNat,⟨0,n,F,_,rfl,Nat.zero_le _,ci7⟩,λx w17 hI=>?_⟩;obtain⟨j,n1,F1,M,rfl,hj,ci⟩:=hI;refine⟨λhlt0=>?_,λhge=>?_⟩
 ·
  have hjo:j< o.length:=by simp only [decide_eq_true_eq]at hlt0;omega
  obtain⟨bo,oo,ς,hvo',hco⟩:∃bo oo ς,vo= .slice (some ⟨bo,oo,none⟩) o.length ς/\w17.cell? ⟨bo,oo+j,none⟩=some (iv o[j]):=by
   rcases h6 with⟨_,h0⟩ | ⟨bo,oo,ς,e,hbD,hb',υ⟩
   ·rw [List.map_eq_nil_iff]at h0;rw [h0]at hjo;simp at hjo
   ·rw [List.length_map]at e;exact⟨bo,oo,ς,e,by rw [World.cell?_of_block (w:=w) (ci.kq.kp.block bo hb' (hD bo hbD))];exact υ j _ (by simp [hjo])⟩
  refine⟨bo,oo,_,ς,hvo',by omega,by omega,(o[j]:Nat),by rw [Int.toNat_natCast,Nat.mul_one];exact hco,λw'=>Kq m r w17 w',λw24 hw24=>?_⟩;have x24:Ex w17 w24:=hw24▸Ex.drew w17;have l17m:=ci.mc.lt;have l17r:=ci.mf.lt;have h4':=ci.h4;have rn1:=ci.rn.len;rw [List.length_take,Nat.min_eq_left hj]at rn1;have q24:Kq m r w17 w24:=(Kq.refl m r w17).ex x24 l17m;have c4:∀{w1:World},Kq m r w17 w1->w1.cell? ⟨b4,0,none⟩=some (.map (some r)):=λq=>by rw [World.cell?_of_block (w:=w17) (q.kp.block b4 ci.l4 (λe=>by rcases e with e | e<;>omega))];exact ci.c4
  refine⟨q24,_,λw' q=>c4 q,qY (ci.mc.ex x24) (by omega) λw27 k27 m27=>?_⟩;have q27:Kq m r w17 w27:=q24.km k27;have mf27:jv w27 r F1:=(ci.mf.kp (Kp.ah x24 λ _=>False) (λh=>h)).kp k27.kp (λe=>ο e.symm);obtain⟨mm,hm1,hm2⟩:=mf27;refine⟨q27,r,mm,rfl,hm1,λw30 hm30 hb30=>?_⟩;have q30:Kq m r w17 w30:=q27.blk hb30 l17m ο;have mk30:Mk w30 m (n1+1):=m27.kp (S:=λg=>g=r) ⟨hb30.os,hb30.tape,hb30.output,by rw [hb30.size];exact Nat.le_refl _,λg _ G=>hb30.block g G⟩ ο;have mf30:jv w30 r (aD F1 o[j] (n1+101)):=rj hm2 hm30;have hMr:∀g,M g->¬(g=m\/g=r):=λg G e=>by have :=(ci.bd.mr g G).1;omega
  have bd30:=ci.bd.kp q30.kp hMr;obtain⟨vo1,vt1,d0,d1,d2,d3,d4,d5,d6⟩:=bd30.sl;refine⟨λw'=>Kp w30 w' λg=>vo1.ownBlock=some g,λjV hw32=>?_⟩;have x32:Ex w30 jV:=hw32▸Ex.drew w30;have s30:=q30.size;have nob6:¬vo1.ownBlock=some b6:=λe=>(d4 b6 e).2 rfl
  have nob4:¬vo1.ownBlock=some b4:=λe=>ci.m4 (d4 b4 e).1
  refine⟨Kp.ah x32 _,vo1,λw' k=>by rw [World.cell?_of_block (w:=w30) (k.block b6 bd30.lt nob6)];exact d0,.map (some r),λw' k=>by rw [World.cell?_of_block (w:=w30) (k.block b4 (by have :=ci.l4;omega) nob4)];exact c4 q30,r,_,rfl,fY hm30 (x32.block r (gE hm30)),((n1+101:Nat):Int),true,.inl ⟨rfl,?_⟩,Kp.ah x32 _,λb39 w40 hb39 hw40=>?_⟩
  ·unfold eh;simp
  have x40:Ex jV w40:=hw40▸Ex.alloc jV _;have Z:=Ex.trans x32 x40;have bd40:=bd30.ex Z;have s40:=Z.size;have hB40:w.heap.size<=w40.heap.size:=by have :=ci.kq.size;omega
  refine⟨Kp.ah Z _,aM.push (d2.kp (Kp.ah Z λ _=>False) λ _ _ h=>h) hB40 (m:=[iv (n1+101)]) (D:=λ _=>True) (.inr ⟨b39,0,1,rfl,trivial,by rw [hw40,size_alloc,hb39];omega,λi y hy=>?_⟩) (by rfl) (by omega) (by simp only [List.length_map,List.length_cons,List.length_nil,List.length_take];omega) λv46 w47 ho47 hg47 hn47=>?_⟩
  ·cases i with
   | zero=>simp only [List.getElem?_cons_zero,Option.some.injEq]at hy;subst hy;rw [hw40,hb39];exact aa rfl
   | succ i=>simp at hy
  have k47:Kp w40 w47 λg=>vo1.ownBlock=some g:=Kp.aQ hg47 λ _ h=>h
  have e6:=k47.block b6 bd40.lt nob6;have c60:w40.cell? ⟨b6,0,none⟩=some vo1:=by rw [Z.cell (show b6< _ from bd30.lt)];exact d0
  refine⟨Kp.trans (Kp.ah Z _) k47 λ _ _ h=>h,ho47.jZ,⟨⟨vo1,by rw [World.cell?_of_block (w:=w40) e6];exact c60⟩,by rw [World.frozen?_of_block (w:=w40) e6];exact bd40.fr 0⟩,λw49 hw49=>⟨by unfold aj;omega,?_,by show((o.length:Int) - ((j:Int)+1)).toNat< ((o.length:Int) - j).toNat;omega⟩⟩;have hoj:o[j]∉o.take j:=λhm=>by
   have h1:=ndo.1;rw [<-List.take_append_drop j o,List.drop_eq_getElem_cons hjo]at h1;exact(List.nodup_append.1 h1).2.2 _ hm _ (List.mem_cons_self ..) rfl
  have hmapj:(o.take j).map F1=(o.take j).map (aD F1 o[j] (n1+101)):=List.map_congr_left λx hx=>by
   have:x≠o[j]:=λe=>hoj (by rw [<-e];exact hx)
   simp only [aD,if_neg this]
  have ho47':aM 3 w.heap.size w47 v46 (((o.take (j+1)).map (aD F1 o[j] (n1+101))).map iv):=by
   rw [List.take_succ_eq_append_getElem hjo,List.map_append,List.map_append,<-hmapj];simp only [List.map_cons,List.map_nil,aD,if_true];exact ho47
  obtain⟨bd49,k49⟩:=bd40.HS c60 k47 ho47' hn47 hw49;have ε:∀g,M g->w.heap.size<=g:=λg G=>(ci.bd.mr g G).1
  have φ:∀g,v46.ownBlock=some g->M g\/w40.heap.size<=g:=λg G=>(hn47 g G).imp (λe=>(d4 g e).1) id
  have q17:Kq m r w w30:=ci.kq.trans q30;refine⟨j+1,n1+1,aD F1 o[j] (n1+101),λg=>M g\/v46.ownBlock=some g,by omega,by omega,?_⟩;refine⟨(q17.ex Z hlm).out k49 (λg G hM=>by have :=ε g hM;omega) hlm,(mk30.ex Z).kp k49 λhM=>by have :=ε _ hM;omega,(mf30.kp (Kp.ah Z λ _=>False) (λh=>h)).kp k49 λhM=>by have :=ε _ hM;omega,?_,?_,?_,h4',?_,bd49,rfl,hlm,hlr,ο⟩
  ·rw [List.take_succ_eq_append_getElem hjo];exact ci.rn.app (Rn.one n1 o[j] F1) λx hx hx'=>hoj (by cases List.mem_singleton.1 hx';exact hx)
  ·rw [World.cell?_of_block (w:=w40) (k49.block b4 (by have :=ci.l4;omega) ci.m4),Z.cell (show b4< _ by have :=ci.l4;omega)];exact c4 q30
  ·have :=k49.size;have :=ci.l4;omega
  ·intro hM;rcases hM with hM | hM
   ·exact ci.m4 hM
   ·rcases φ b4 hM with h | h
    ·exact ci.m4 h
    ·have :=ci.l4;omega
 ·
  have hjo:j=o.length:=by simp only [decide_eq_false_iff_not]at hge;omega
  subst hjo;rw [List.take_length]at ci;refine⟨bl,0,rfl,vt,cbl ci.kq h5,at_,_,capt,hvt,λx w'=>∃(i n2:Nat) (F2:Nat->Nat) (M2:Nat->Prop) (ts2:List Value),x=i/\i<=ts.length/\CI w w' m r b4 b6 n n2 (o++(l.take i).bvs) F F2 (o.map F2) ((l.take i).map F2) ts2 M2,λx _=>(ts.length - x).toNat,⟨0,n1,F1,M,[],rfl,Nat.zero_le _,by simpa [Lv.take,Lv.bvs,Lv.map]using ci⟩,λx J hI=>?_⟩;obtain⟨i,n2,F2,M2,ts2,rfl,hi,V⟩:=hI;refine⟨λhlt1=>?_,λhge1=>?_⟩;rotate_left
  ·have hie:i=l.bk.length:=by simp only [decide_eq_false_iff_not]at hge1;omega
   rw [hie,Lv.dc]at V;exact hR _ J F2 n2 V.kq V.mc V.mf V.rn (V.bd.HF (λg _ G=>G) (af.sub (λg _ G=>G.1.1) V.th))
  have hil:i< ts.length:=by simp only [decide_eq_true_eq]at hlt1;omega
  have hie:i< l.bk.length:=by omega
  have q59:=V.kq;obtain⟨bt,ot,ζ,hvt',hct⟩:∃bt ot ζ,vt= .slice (some ⟨bt,ot,none⟩) ts.length ζ/\J.cell? ⟨bt,ot+i,none⟩=some ts[i]:=by
   rcases h7 with⟨_,h0⟩ | ⟨bt,ot,ζ,e,hbD,hb',υ⟩
   ·rw [h0]at hil;simp at hil
   ·exact⟨bt,ot,ζ,e,by rw [World.cell?_of_block (w:=w) (q59.kp.block bt hb' (hD bt hbD))];exact υ i _ (List.getElem?_eq_getElem hil)⟩
  obtain⟨e,he1,he2,he3⟩:=aH.single h8.bk (List.getElem?_eq_getElem hil);have he4:l.bk[i]=e:=by rw [List.getElem?_eq_getElem hie]at he1;exact Option.some.inj he1
  have hts:=Lv.take_succ l i hie;rw [he4]at hts;have hsz:=Lv.dU l e he2;have htt:=Lv.fS l e he2;have huqe:=huq.bk he2;have H:=V.mc.lt;have hl59r:=V.mf.lt;have s59:=q59.size;have h4':=V.h4;have rn2:=V.rn.len;have bvs2:(l.take (i+1)).bvs=(l.take i).bvs++e.bvs:=by rw [hts,Lv.dg]
  rw [List.length_append]at rn2;obtain⟨hdis,bvt⟩:=Dg huq hts;have keepO:∀{n3 F3},Rn n2 n3 e.bvs F2 F3->o.map F3=o.map F2/\(l.take i).map F3=(l.take i).map F2:=λ{n3 F3} rn=>by
   refine⟨List.map_congr_left λx hx=>rn.out x (hdis x (List.mem_append_left _ hx)),cC λx hx=>rn.out x λhxe=>?_⟩;rcases hx with hx | hx
   ·exact hdis x (List.mem_append_right _ hx) hxe
   ·exact huq.nf x ((Lv.lO l e he2).subset hxe) (oB l i hx)
  have fin:∀(z:Nat) (I:World) (n3:Nat) (F3:Nat->Nat),J.heap.size<=z->z< I.heap.size->Kq m r J I->Mk I m n3->jv I r F3->Rn n2 n3 e.bvs F2 F3->af (λg=>J.heap.size<=g/\g< I.heap.size) I (e.map F3) [ptr z]->
    ∃v195:Value,World.cell? I ⟨b6,1,none⟩=some v195/\∀(b196:Nat) (W:World),b196=Array.size (World.heap I)->W=World.alloc I (Obj.cells #[(Value.pointer (some ⟨z,0,none⟩))] 156)->∃(χ n199 m200:Nat) (xs201 news202:List Value),World.ownsRow W χ 156 1 v195 n199 xs201/\χ<=Array.size (World.heap W)/\dN W (Value.slice (some ⟨b196,0,none⟩) 1 1) m200 1 news202/\(n199+m200<=maxLen/\(n199+m200)* 8<=140737488355328)/\
     ∀(v203:Value) (ψ:World),World.ownsRow ψ χ 156 1 v203 (n199+m200) (xs201++news202)->World.grownBy W ψ (Value.ownBlock v195)->(∀b:Nat,Value.ownBlock v203=some b->Value.ownBlock v195=some b\/Array.size (World.heap W)<=b)->oneV v203=true/\((∃u205:Value,World.cell? ψ ⟨b6,1,none⟩=some u205)/\World.frozen? ψ ⟨b6,1,none⟩=false)/\∀ν:World,ν=World.setCell ψ ⟨b6,1,none⟩ v203->
      aj ((i:Int)+1)/\(∃(i2 n4:Nat) (F4:Nat->Nat) (M4:Nat->Prop) (ts4:List Value),(i:Int)+1=i2/\i2<=ts.length/\CI w ν m r b4 b6 n n4 (o++(l.take i2).bvs) F F4 (o.map F4) ((l.take i2).map F4) ts4 M4)/\((ts.length:Int) - ((i:Int)+1)).toNat< ((ts.length:Int) - i).toNat:=by
   intro z I n3 F3 h68 l68 β mk172 mf172 η γ;have hMr:∀g,M2 g->¬(g=m\/g=r):=λg G e=>by
    have :=(V.bd.mr g G).1;rcases e with e | e<;>omega
   obtain⟨ko,kl⟩:=keepO η;have bd172:=V.bd.kp β.kp hMr;obtain⟨vo1,vt1,d0,d1,d2,d3,d4,d5,d6⟩:=bd172.sl;refine⟨vt1,d1,λb196 W hb196 hw197=>?_⟩;have θ:Ex I W:=hw197▸Ex.alloc I _;have s197:W.heap.size=I.heap.size+1:=by rw [hw197,size_alloc]
   have s172:=β.size;have bd197:=bd172.ex θ;have hlts:ts2.length<=ts.length:=by
    have h1:=V.th.len;have h2:=zN F2 (l.take i);have :=Lv.gI l i;omega
   refine aM.push (d3.kp (Kp.ah θ λ _=>False) λ _ _ h=>h) (by omega) (m:=[ptr z]) (D:=λ _=>True) (.inr ⟨b196,0,1,rfl,trivial,by omega,λi y hy=>?_⟩) (by rfl) (by omega) (by simp only [List.length_cons,List.length_nil];omega) λv203 ψ ho204 hg204 hn204=>?_
   ·cases i with
    | zero=>simp only [List.getElem?_cons_zero,Option.some.injEq]at hy;subst hy;rw [hw197,hb196];exact aa rfl
    | succ i=>simp at hy
   have k204:Kp W ψ λg=>vt1.ownBlock=some g:=Kp.aQ hg204 λ _ h=>h
   have e6:=k204.block b6 bd197.lt λe=>(d5 b6 e).2 rfl
   have c61:W.cell? ⟨b6,1,none⟩=some vt1:=by rw [θ.cell (show b6< _ from bd172.lt)];exact d1
   refine⟨ho204.jZ,⟨⟨vt1,by rw [World.cell?_of_block (w:=W) e6];exact c61⟩,by rw [World.frozen?_of_block (w:=W) e6];exact bd197.fr 1⟩,λν hw206=>⟨by unfold aj;omega,?_,by omega⟩⟩;obtain⟨bd206,ω⟩:=bd197.Hn c61 k204 ho204 hn204 hw206;have ε:∀g,M2 g->w.heap.size<=g/\g< J.heap.size:=V.bd.mr;have φ:∀g,v203.ownBlock=some g->M2 g\/W.heap.size<=g:=λg G=>(hn204 g G).imp (λe=>(d5 g e).1) id
   have q206:Kq m r w ν:=((q59.trans β).ex θ hlm).out ω (λg G hM=>by have :=(ε g hM).1;omega) hlm;have s206:=ω.size;have l4:=V.l4;have hth1:af (λg=>(w.heap.size<=g/\¬(M2 g\/v203.ownBlock=some g)/\g≠b4)/\g< ν.heap.size) ν ((l.take i).map F3) ts2:=by
    rw [kl];refine af.sub (λg _ G=>⟨⟨G.1.1,λhM=>hM.elim G.1.2.1 λe=>(φ g e).elim G.1.2.1 λh=>by omega,G.1.2.2⟩,by omega⟩) (af.kp ω (λg G hM=>G.1.2.1 hM) (af.ex (af.kp β.kp (λg G e=>by
     have :=G.1.1;rcases e with e | e<;>omega) V.th) θ))
   have hth2:af (λg=>(w.heap.size<=g/\¬(M2 g\/v203.ownBlock=some g)/\g≠b4)/\g< ν.heap.size) ν (e.map F3) [ptr z]:=
    af.sub (λg _ G=>⟨⟨by omega,λhM=>hM.elim (λh=>by have :=(ε g h).2;omega) λe=>(φ g e).elim (λh=>by have :=(ε g h).2;omega) λh=>by omega,by omega⟩,by omega⟩) (af.kp ω (λg G hM=>by have :=(ε g hM).2;omega) (af.ex γ θ))
   refine⟨i+1,n3,F3,λg=>M2 g\/v203.ownBlock=some g,ts2++[ptr z],by omega,by omega,⟨q206,(mk172.ex θ).kp ω λhM=>by have :=(ε _ hM).1;omega,(mf172.kp (Kp.ah θ λ _=>False) (λh=>h)).kp ω λhM=>by have :=(ε _ hM).1;omega,?_,?_,by omega,h4',λhM=>?_,by rw [ko];exact bd206,?_,hlm,hlr,ο⟩⟩
   ·rw [bvs2,<-List.append_assoc];exact V.rn.app η hdis
   ·rw [World.cell?_of_block (w:=W) (ω.block b4 (by omega) V.m4),θ.cell (show b4< _ by omega),World.cell?_of_block (w:=J) (β.kp.block b4 l4 λe=>by rcases e with e | e<;>omega)];exact V.c4
   ·rcases hM with hM | hM
    ·exact V.m4 hM
    ·rcases φ b4 hM with h | h
     ·exact V.m4 h
     ·omega
   ·rw [hts,Lv.eV];exact af.app hth1 hth2
  refine⟨bt,ot,_,ζ,hvt',by omega,by omega,ts[i],by rw [Int.toNat_natCast,Nat.mul_one];exact hct,?_⟩;have h26:=huqe.ge;have l4:=V.l4;have c4b:∀{w1:World},Kq m r J w1->w1.cell? ⟨b4,0,none⟩=some (.map (some r)):=λq=>by
   rw [World.cell?_of_block (w:=J) (q.kp.block b4 l4 λe=>by rcases e with e | e<;>omega)];exact V.c4
  rcases Lv.jf hsh e he2 with⟨kk,a,b,o',q,rfl,hq⟩ | ⟨ps,rfl,hps⟩
  ·obtain⟨t,ts',a',b',vr,e1,ht,hkk,hlv,_⟩:=he3;obtain⟨rfl,rfl⟩:=List.cons.inj e1;obtain⟨g,G,hgD,hg2,c0,c1,c2,c3,c4'⟩:=ht;have cg:∀{w1:World},Kq m r J w1->∀{j:Nat} {u:Value},w.cell? ⟨g,j,none⟩=some u->w1.cell? ⟨g,j,none⟩=some u:=λx j u hu=>by
    rw [World.cell?_of_block (w:=w) ((q59.trans x).kp.block g hg2 (hD g hgD))];exact hu
   have q0:=Kq.refl m r J;simp only [Lv.sz]at hsz;simp only [Lv.tot]at htt;obtain⟨u1,u2⟩:=huqe.thr;have ebv:(Lv.thr kk a b o' q .nil).bvs=(if kk= .r then [b]else [])++(o'++q.bvs):=by simp [Lv.bvs]
   rw [ebv]at bvt;simp only [List.length_append]at bvt;refine⟨g,0,G,kk.byte,cg q0 c0,λz α hb68 hw69=>⟨λw'=>∃(n3:Nat) (F3:Nat->Nat) (a1 b1:Nat),Kq m r J w'/\Mk w' m n3/\jv w' r F3/\Rn n2 n3 (if kk= .r then [b]else []) F2 F3/\jU w' z kk.byte a1 b1 (.pointer none) (.slice none 0 0)/\(kk= .t\/kk= .p\/(a1=F3 a/\b1=F3 b)),⟨g,0,G,kk.byte,?_,?_⟩,λw146 hJ=>?_⟩⟩
   all_goals have x69:Ex J α:=hw69▸Ex.alloc J _
   all_goals have μ:Kq m r J α:=q0.ex x69 H
   ·exact cg μ c0
   ·have th69:jU α z kk.byte 0 0 (.pointer none) (.slice none 0 0):=jU.new hb68 hw69;have mk69:=V.mc.ex x69;have mf69:=V.mf.kp (Kp.ah x69 λ _=>False) (λh=>h);have two:(kk= .s\/kk= .m)->∃S106:World->Prop,∀ξ:World,ξ=World.drew α->S106 ξ/\∃(b108 o109:Nat),ts[i]=Value.pointer (some ⟨b108,o109,none⟩)/\∃n110:Int,(∀w',S106 w'->World.cell? w' ⟨b108,(o109+1),none⟩=some (Value.int IntKind.i64 n110))/\∃(b111 o112:Nat),ts[i]=Value.pointer (some ⟨b111,o112,none⟩)/\∃n113:Int,(∀w',S106 w'->World.cell? w' ⟨b111,(o112+2),none⟩=some (Value.int IntKind.i64 n113))/\∃(f114:Nat) (ca115:List Value),(Value.func (Fn.func 239) #[] #[(Value.pointer (some ⟨b4,0,none⟩))])=Value.func (Fn.func f114) #[] (List.toArray ca115)/\List.contains dy f114=true/\Calls Tryz.prog f114 (List.toArray ([(Value.int IntKind.i64 n110)]++ca115)) ξ (ax [.i] fun(n116:Int) (w117:World)=>S106 w117/\∃(f118:Nat) (ca119:List Value),(Value.func (Fn.func 239) #[] #[(Value.pointer (some ⟨b4,0,none⟩))])=Value.func (Fn.func f118) #[] (List.toArray ca119)/\List.contains dy f118=true/\Calls Tryz.prog f118 (List.toArray ([(Value.int IntKind.i64 n113)]++ca119)) w117 (ax [.i] fun(n120:Int) (w121:World)=>S106 w121/\((∃u122:Value,World.cell? w121 ⟨z,1,none⟩=some u122)/\World.frozen? w121 ⟨z,1,none⟩=false)/\∀w123:World,w123=World.setCell w121 ⟨z,1,none⟩ (Value.int IntKind.i64 n116)->((∃u124:Value,World.cell? w123 ⟨z,2,none⟩=some u124)/\World.frozen? w123 ⟨z,2,none⟩=false)/\∀w125:World,w125=World.setCell w123 ⟨z,2,none⟩ (Value.int IntKind.i64 n120)->
      ∃(n3:Nat) (F3:Nat->Nat) (a1 b1:Nat),Kq m r J w125/\Mk w125 m n3/\jv w125 r F3/\Rn n2 n3 (if kk= .r then [b]else []) F2 F3/\jU w125 z kk.byte a1 b1 (.pointer none) (.slice none 0 0)/\(kk= .t\/kk= .p\/(a1=F3 a/\b1=F3 b)))):=by
     intro hk2;obtain⟨rfl,rfl⟩:a'=a/\b'=b:=by
      rcases hkk with h | h | h
      ·rw [h]at hk2;simp at hk2
      ·rw [h]at hk2;simp at hk2
      ·exact h
     refine⟨λw'=>Ex α w',λξ hw107=>⟨hw107▸Ex.drew α,g,0,G,a',λw' x=>cg (μ.ex x H) c1,g,0,G,b',λw' x=>cg (μ.ex x H) c2,239,[ptr b4],rfl,by kernel_rfl,?_⟩⟩;have x107:Ex α ξ:=hw107▸Ex.drew α;have q107:=μ.ex x107 H;have mf107:=mf69.kp (Kp.ah x107 λ _=>False) (λh=>h);refine yT (c4b q107) mf107 ⟨x107,239,[ptr b4],rfl,by kernel_rfl,yT (c4b q107) mf107 ⟨x107,?_⟩⟩;have th107:jU ξ z kk.byte 0 0 (.pointer none) (.slice none 0 0):=th69.kp (Kp.ah x107 λ _=>False) λh=>h
     refine⟨⟨⟨_,th107.c1⟩,th107.f 1⟩,λw123 hw123=>?_⟩;have th123:=th107.xt (x:=F2 a') hw123;refine⟨⟨⟨_,th123.c2⟩,th123.f 2⟩,λw125 hw125=>?_⟩;have th125:=th123.qS (x:=F2 b') hw125;have kb:Kr z ξ w125:=Kr.trans (hw123▸Kr.set ξ 1 _) (hw125▸Kr.set w123 2 _);have hkr:¬kk= .r:=λe=>by rw [e]at hk2;simp at hk2
     rw [if_neg hkr];exact⟨n2,F2,F2 a',F2 b',q107.out kb (λg G e=>by omega) H,(mk69.ex x107).kp kb (by omega),mf107.kp kb (by omega),Rn.refl n2 F2,th125,.inr (.inr ⟨rfl,rfl⟩)⟩
    have zero:(kk= .t\/kk= .p)->∃(n3:Nat) (F3:Nat->Nat) (a1 b1:Nat),Kq m r J α/\Mk α m n3/\jv α r F3/\Rn n2 n3 (if kk= .r then [b]else []) F2 F3/\jU α z kk.byte a1 b1 (.pointer none) (.slice none 0 0)/\(kk= .t\/kk= .p\/(a1=F3 a/\b1=F3 b)):=by
     intro hk2;have hkr:¬kk= .r:=λe=>by rw [e]at hk2;simp at hk2
     rw [if_neg hkr];exact⟨n2,F2,0,0,μ,mk69,mf69,Rn.refl n2 F2,th69,hk2.elim .inl λh=> .inr (.inl h)⟩
    cases kk
    case s=>exact aS (by decide) ⟨λ _=>cQ (by decide) (two (.inl rfl)),λh=>absurd h (by decide)⟩
    case m=>exact aS (by decide) ⟨λh=>absurd h (by decide),λ _=>cQ (by decide) (two (.inr rfl))⟩
    case t=>exact aS (by decide) ⟨λh=>absurd h (by decide),λ _=>aS (by decide) (zero (.inl rfl))⟩
    case p=>exact aS (by decide) ⟨λh=>absurd h (by decide),λ _=>aS (by decide) (zero (.inr rfl))⟩
    case r=>
     obtain⟨rfl,rfl⟩:a'=a/\b'=b:=by rcases hkk with h | h | h<;>first | exact h | cases h
     obtain⟨v1,v2,v3,v4⟩:=u2 rfl;simp only [if_true,List.length_cons,List.length_nil]at bvt;refine cQ (by decide) ⟨g,0,G,a',cg μ c1,239,[ptr b4],rfl,by kernel_rfl,yT (c4b μ) mf69 ⟨⟨⟨_,th69.c1⟩,th69.f 1⟩,λw82 hw82=>⟨λw'=>Kq m r J w',λw84 hw84=>?_⟩⟩⟩;have th82:=th69.xt (x:=F2 a') hw82;have kb82:Kr z α w82:=hw82▸Kr.set α 1 _;have x84:Ex w82 w84:=hw84▸Ex.drew w82;have q82:Kq m r J w82:=μ.out kb82 (λg G e=>by omega) H;have q84:=q82.ex x84 H;have mk82:=mk69.kp kb82 (by omega);have mf82:=mf69.kp kb82 (by omega);refine⟨q84,_,λw' q=>c4b q,g,0,G,b',λw' q=>cg q c2,qY (mk82.ex x84) (by omega) λw90 k90 m90=>?_⟩;have q90:=q84.km k90;have th90:=(th82.kp (Kp.ah x84 λ _=>False) λh=>h).kp k90.kp (by omega);obtain⟨mm,hm1,hm2⟩:=(mf82.kp (Kp.ah x84 λ _=>False) (λh=>h)).kp k90.kp (λe=>ο e.symm);refine⟨q90,r,mm,rfl,hm1,λw93 hm93 hb93=>?_⟩;have kr93:Kp w90 w93 (λg=>g=r):=⟨hb93.os,hb93.tape,hb93.output,by rw [hb93.size];exact Nat.le_refl _,λg _ G=>hb93.block g G⟩
     have q93:=q90.blk hb93 H ο;have mk93:=m90.kp kr93 ο;have th93:=th90.kp kr93 (by omega);refine⟨λw'=>Ex w93 w',λw95 hw95=>?_⟩;have x95:Ex w93 w95:=hw95▸Ex.drew w93;have q95:=q93.ex x95 H;have th95:=th93.kp (Kp.ah x95 λ _=>False) λh=>h
     refine⟨x95,_,λw' x=>c4b (q93.ex x H),g,0,G,b',λw' x=>cg (q93.ex x H) c2,r,_,rfl,fY hm93 (x95.block r (gE hm93)),((n2+101:Nat):Int),true,.inl ⟨rfl,by unfold eh;simp⟩,⟨⟨_,th95.c2⟩,th95.f 2⟩,λw105 hw105=>?_⟩;have kb105:Kr z w95 w105:=hw105▸Kr.set w95 2 _;refine⟨n2+1,aD F2 b' (n2+101),F2 a',n2+101,q95.out kb105 (λg G e=>by omega) H,(mk93.ex x95).kp kb105 (by omega),((rj hm2 hm93).kp (Kp.ah x95 λ _=>False) (λh=>h)).kp kb105 (by omega),Rn.one n2 b' F2,th95.qS hw105,.inr (.inr ⟨?_,?_⟩)⟩
     ·exact(if_neg λe=>v2 e.symm).symm
     ·simp [aD]
   ·obtain⟨n3,F3,a1,b1,q146,mk146,mf146,rn146,th146,hab⟩:=hJ;have hbr:∃br,vr=ptr br:=by obtain⟨br,_,_,_,e,_⟩:=hlv;exact⟨br,e⟩
    obtain⟨br,rfl⟩:=hbr;have h68:J.heap.size<=z:=by omega
    refine⟨λw'=>∃(n4:Nat) (F4:Nat->Nat) (vr2:Value),Kq m r J w'/\Mk w' m n4/\jv w' r F4/\Rn n2 n4 ((if kk= .r then [b]else [])++(o'++q.bvs)) F2 F4/\jU w' z kk.byte a1 b1 vr2 (.slice none 0 0)/\aB (λg=>J.heap.size<=g/\g< w'.heap.size) w' (o'.map F4,q.map F4) vr2/\(kk= .t\/kk= .p\/(a1=F4 a/\b1=F4 b)),⟨g,0,G,ptr br,cg q146 c3,some ⟨br,0,none⟩,rfl,λ _=>⟨λw'=>Kq m r J w',λw153 hw153=>?_⟩,λh=>by cases h⟩,λw162 hJ=>?_⟩
    ·have x153:Ex w146 w153:=hw153▸Ex.drew w146;have q153:=q146.ex x153 H;have rl:=rn146.len;have hb1:(if kk= .r then [b]else []).length=if kk= .r then 1 else 0:=by split<;>rfl
     have hl153:fL D w153 (ptr br) o' (af D w153 q):=hlv.kp (q59.trans q153).kp hD λl h=>h.kp (q59.trans q153).kp hD
     refine⟨q153,g,0,G,ptr br,λw' x=>cg x c3,_,λw' x=>c4b x,ih q.sz (by omega) (Nat.le_refl _) hq hl153 hD u1 (mk146.ex x153) (mf146.kp (Kp.ah x153 λ _=>False) (λh=>h)) ο (by omega) (by omega) λv158 w159 F4 n4 q159 mk159 mf159 rn159 l159=>?_⟩;have s153:=x153.size;have hb68l:=th146.lt;have th159:=(th146.kp (Kp.ah x153 λ _=>False) λh=>h).kp q159.kp (by omega);refine⟨l159.one,⟨⟨_,th159.c3⟩,th159.f 3⟩,λw161 hw161=>?_⟩;have kb161:Kr z w159 w161:=hw161▸Kr.set w159 3 _;have s159:=q159.size;have s161:=kb161.size;have ndb:=huqe.nd;rw [List.nil_append,ebv]at ndb;have nfb:=huqe.nf;rw [ebv]at nfb;have hdis2:=(List.nodup_append.1 ndb).2.2;refine⟨n4,F4,v158,(q153.trans q159).out kb161 (λg G e=>by omega) H,mk159.kp kb161 (by omega),mf159.kp kb161 (by omega),rn146.app rn159 (λx hx hx'=>hdis2 x hx x hx' rfl),th159.AW hw161,?_,?_⟩
     ·exact aB.sub (aB.kp (aB.sub (E:=λg=>w153.heap.size<=g/\g< w159.heap.size) l159 λg G hd=>⟨hd,G⟩) kb161 λg G e=>by omega) λg _ G=>⟨by have :=q153.size;omega,by omega⟩
     ·rcases hab with h | h | ⟨ha,hb⟩
      ·exact .inl h
      ·exact .inr (.inl h)
      ·by_cases hkt:kk= .t\/kk= .p
       ·exact hkt.elim .inl λh=> .inr (.inl h)
       ·right;right;have hfa:a∉o'++q.bvs:=λhm=>nfb a (List.mem_append_right _ hm) (by
         cases kk
         ·exact .inl ⟨.inl rfl,.inl rfl⟩
         ·exact .inr (.inl ⟨rfl,rfl⟩)
         ·exact absurd (.inl rfl) hkt
         ·exact .inl ⟨.inr rfl,.inl rfl⟩
         ·exact absurd (.inr rfl) hkt)
        have hfb:b∉o'++q.bvs:=λhm=>by
         by_cases hkr:kk= .r
         ·have :=u2 hkr;exact(List.mem_append.1 hm).elim this.2.2.1 this.2.2.2
         ·exact nfb b (List.mem_append_right _ hm) (by
           cases kk
           ·exact .inl ⟨.inl rfl,.inr rfl⟩
           ·exact absurd rfl hkr
           ·exact absurd (.inl rfl) hkt
           ·exact .inl ⟨.inr rfl,.inr rfl⟩
           ·exact absurd (.inr rfl) hkt)
        rw [rn159.out a hfa,rn159.out b hfb];exact⟨ha,hb⟩
    ·obtain⟨n4,F4,vr2,q162,mk162,mf162,rn162,th162,l162,hab4⟩:=hJ;refine⟨g,0,G,.slice none 0 0,cg q162 c4',none,0,0,rfl,λy w'=>y=0/\w'=w162,λ _ _=>0,⟨rfl,rfl⟩,λy I hy=>?_⟩;obtain⟨rfl,rfl⟩:=hy;refine⟨λh=>by simp at h,λ _=>fin z I n4 F4 h68 th162.lt q162 mk162 mf162 (by rw [ebv];exact rn162) ?_⟩;refine⟨ptr z,[],a1,b1,vr2,rfl,th162.G1 ⟨h68,th162.lt⟩,?_,l162,rfl⟩;rcases hab4 with h | h | ⟨h1,h2⟩
     ·exact .inl h
     ·exact .inr (.inl h)
     ·by_cases hkt:kk= .t\/kk= .p
      ·exact hkt.elim .inl λh=> .inr (.inl h)
      ·exact .inr (.inr ⟨by rw [if_neg hkt];exact h1,by rw [if_neg hkt];exact h2⟩)
  ·obtain⟨t,ts',a',b',vp,us,e1,ht,hus,hps2,_⟩:=he3;obtain⟨rfl,rfl⟩:=List.cons.inj e1;obtain⟨g,G,hgD,hg2,c0,c1,c2,c3,c4'⟩:=ht;have cg:∀{w1:World},Kq m r J w1->∀{j:Nat} {u:Value},w.cell? ⟨g,j,none⟩=some u->w1.cell? ⟨g,j,none⟩=some u:=λx j u hu=>by
    rw [World.cell?_of_block (w:=w) ((q59.trans x).kp.block g hg2 (hD g hgD))];exact hu
   have q0:=Kq.refl m r J;have uq:=huqe.sum;have ebv:(Lv.sum ps .nil).bvs=ps.bvs:=by simp [Lv.bvs]
   rw [ebv]at bvt;simp only [Lv.sz]at hsz;simp only [Lv.tot]at htt;obtain⟨au,cau,hvu⟩:=hus.slice;have hul:=hps2.len;have hpl:=Lv.cJ ps;have hpt:=bS ps;refine⟨g,0,G,43,cg q0 c0,λz α hb68 hw69=>⟨λw'=>w'=α,⟨g,0,G,43,?_,aS (by decide) ⟨λh=>absurd h (by decide),λ _=>aS (by decide) rfl⟩⟩,λw146 hJ=>⟨λw'=>w'=α,?_,λw162 hJ2=>?_⟩⟩⟩
   all_goals have x69:Ex J α:=hw69▸Ex.alloc J _
   all_goals have μ:Kq m r J α:=q0.ex x69 H
   ·exact cg μ c0
   ·subst hJ;exact⟨g,0,G,.pointer none,cg μ c3,none,rfl,λh=>(by cases h),λ _=>rfl⟩
   subst hJ2;have h68:J.heap.size<=z:=by omega
   have th69:jU w162 z 43 0 0 (.pointer none) (.slice none 0 0):=jU.new hb68 hw69;refine⟨g,0,G,vp,cg μ c4',au,_,cau,hvu,λy w'=>∃(j n3:Nat) (F3:Nat->Nat) (δ:Value) (us2:List Value),y=j/\j<=us.length/\Kq m r J w'/\Mk w' m n3/\jv w' r F3/\Rn n2 n3 (ps.take j).bvs F2 F3/\jU w' z 43 0 0 (.pointer none) δ/\aM 146 J.heap.size w' δ us2/\(∀g,δ.ownBlock=some g->g≠z)/\af (λg=>(J.heap.size<=g/\g≠z/\δ.ownBlock≠some g)/\g< w'.heap.size) w' ((ps.take j).map F3) us2,
    λy _=>(us.length - y).toNat,⟨0,n2,F2,.slice none 0 0,[],rfl,Nat.zero_le _,μ,V.mc.ex x69,V.mf.kp (Kp.ah x69 λ _=>False) (λh=>h),Rn.refl n2 F2,th69,aM.nil _ _ _,λg G=>(by cases G),rfl⟩,λy I hI2=>?_⟩
   obtain⟨j,n3,F3,δ,us2,rfl,hj,β,mk172,mf172,η,γ,ho172,hnb,ht172⟩:=hI2;refine⟨λhlt2=>?_,λhge2=>?_⟩;rotate_left
   ·have hje:j=ps.bk.length:=by simp only [decide_eq_false_iff_not]at hge2;omega
    rw [hje,Lv.dc]at η ht172;refine fin z I n3 F3 h68 γ.lt β mk172 mf172 (by rw [ebv];exact η) ⟨ptr z,[],0,0,δ,us2,rfl,γ.G1 ⟨h68,γ.lt⟩,ho172.AY (λg G=>ho172.block g G),af.sub (λg _ G=>⟨G.1.1,G.2⟩) ht172,rfl⟩
   have hju:j< us.length:=by simp only [decide_eq_true_eq]at hlt2;omega
   have hje:j< ps.bk.length:=by omega
   obtain⟨bu,ou,capu',hvu',hcu⟩:∃bu ou capu',vp= .slice (some ⟨bu,ou,none⟩) us.length capu'/\I.cell? ⟨bu,ou+j,none⟩=some us[j]:=by
    rcases hus with⟨_,h0⟩ | ⟨bt,ot,ζ,e,hbD,hb',υ⟩
    ·rw [h0]at hju;simp at hju
    ·exact⟨bt,ot,ζ,e,by rw [World.cell?_of_block (w:=w) ((q59.trans β).kp.block bt hb' (hD bt hbD))];exact υ j _ (List.getElem?_eq_getElem hju)⟩
   obtain⟨e,hf1,hf2,hf3⟩:=aH.single hps2.bk (List.getElem?_eq_getElem hju);have hf4:ps.bk[j]=e:=by rw [List.getElem?_eq_getElem hje]at hf1;exact Option.some.inj hf1
   have hts2:=Lv.take_succ ps j hje;rw [hf4]at hts2;obtain⟨hdis2,bvt2⟩:=Dg uq hts2;have huqe2:=uq.bk hf2;have hsz2:=Lv.dU ps e hf2;have htt2:=Lv.fS ps e hf2;obtain⟨o2,q,rfl,hq⟩:=Lv.lz hps e hf2;simp only [Lv.sz]at hsz2;simp only [Lv.tot]at htt2;have ebv2:(Lv.part o2 q .nil).bvs=o2++q.bvs:=by simp [Lv.bvs]
   rw [ebv2]at bvt2 hdis2;rw [List.length_append]at bvt2;obtain⟨v2,ts3,e2,hlv2,_⟩:=hf3;obtain⟨rfl,rfl⟩:=List.cons.inj e2;have rl:=η.len;have s172:=β.size;refine⟨bu,ou,_,capu',hvu',by omega,by omega,us[j],by rw [Int.toNat_natCast,Nat.mul_one];exact hcu,λw'=>Kp I w' λg=>g=m\/g=r\/δ.ownBlock=some g,λw179 hw179=>?_⟩;have ι:Ex I w179:=hw179▸Ex.drew I;have q179:=β.ex ι H;have hob:=ho172.block;have hb68l:=γ.lt;have nb68:¬(z=m\/z=r\/δ.ownBlock=some z):=λe=>by
    rcases e with e | e | e
    ·omega
    ·omega
    ·exact hnb _ e rfl
   have nb4:¬(b4=m\/b4=r\/δ.ownBlock=some b4):=λe=>by
    rcases e with e | e | e
    ·omega
    ·omega
    ·have :=hob _ e;omega
   have hl179:fL D w179 us[j] o2 (af D w179 q):=hlv2.kp (q59.trans q179).kp hD λl h=>h.kp (q59.trans q179).kp hD
   refine⟨Kp.ah ι _,δ,λw' k=>by rw [World.cell?_of_block (w:=I) (k.block z hb68l nb68)];exact γ.c4,.map (some r),λw' k=>by rw [World.cell?_of_block (w:=I) (k.block b4 (by omega) nb4)];exact c4b β,?_⟩;refine ih q.sz (by omega) (Nat.le_refl _) hq hl179 hD huqe2.part (mk172.ex ι) (mf172.kp (Kp.ah ι λ _=>False) (λh=>h)) ο (by omega) (by omega) λv182 w183 F4 n4 q183 mk183 mf183 rn183 l183=>?_
   have k183:Kp I w183 λg=>g=m\/g=r\/δ.ownBlock=some g:=Kp.trans (Kp.ah ι _) (Kp.mono (λg e=>e.elim .inl λe=> .inr (.inl e)) q183.kp) λ _ _ h=>h
   refine⟨k183,l183.one,λb184 w185 hb184 hw185=>?_⟩;have κ:Ex w183 w185:=hw185▸Ex.alloc w183 _;have s185:w185.heap.size=w183.heap.size+1:=by rw [hw185,size_alloc]
   have s179:=ι.size;have s183:=q183.size;have hMr:∀g,δ.ownBlock=some g->¬(g=m\/g=r):=λg G e=>by
    have :=hob g G;rcases e with e | e<;>omega
   have ho185:aM 146 J.heap.size w185 δ us2:=((ho172.kp (Kp.ah ι λ _=>False) λ _ _ h=>h).kp q183.kp hMr).kp (Kp.ah κ λ _=>False) λ _ _ h=>h
   have hlu:us2.length<=us.length:=by
    have h1:=ht172.len;have h2:=zN F3 (ps.take j);have :=Lv.gI ps j;omega
   refine⟨Kp.trans k183 (Kp.ah κ λ _=>False) λ _ _ h=>h.elim,aM.push ho185 (by omega) (m:=[v182]) (D:=λ _=>True) (.inr ⟨b184,0,1,rfl,trivial,by omega,λi y hy=>?_⟩) (by simp only [List.all_cons,List.all_nil,Bool.and_true];exact l183.one) (by omega) (by simp only [List.length_cons,List.length_nil];omega) λv191 w192 ho192 hg192 hn192=>?_⟩
   ·cases i with
    | zero=>simp only [List.getElem?_cons_zero,Option.some.injEq]at hy;subst hy;rw [hw185,hb184];exact aa rfl
    | succ i=>simp at hy
   have k192:Kp w185 w192 λg=>δ.ownBlock=some g:=Kp.aQ hg192 λ _ h=>h
   have th185:=((γ.kp (Kp.ah ι λ _=>False) λh=>h).kp q183.kp (λe=>by rcases e with e | e<;>omega)).kp (Kp.ah κ λ _=>False) λh=>h
   have th192:=th185.kp k192 λe=>hnb _ e rfl
   refine⟨Kp.trans (Kp.trans k183 (Kp.ah κ λ _=>False) λ _ _ h=>h.elim) k192 λg _ h=> .inr (.inr h),ho192.jZ,⟨⟨_,th192.c4⟩,th192.f 4⟩,λw194 hw194=>⟨by unfold aj;omega,?_,by show((us.length:Int) - ((j:Int)+1)).toNat< ((us.length:Int) - j).toNat;omega⟩⟩;have kb194:Kr z w192 w194:=hw194▸Kr.set w192 4 _;have k194:Kp w185 w194 λg=>δ.ownBlock=some g\/g=z:=Kp.trans (Kp.mono (λ _ h=> .inl h) k192) kb194 λ _ _ h=> .inr h
   have s194:=k194.size;have hnew:∀g,v191.ownBlock=some g->δ.ownBlock=some g\/w185.heap.size<=g:=hn192;have q185:Kq m r J w185:=(q179.trans q183).ex κ H;have wO:(ps.take j).map F4=(ps.take j).map F3:=cC λx hx=>rn183.out x λhxe=>by
    rcases hx with hx | hx
    ·exact hdis2 x hx hxe
    ·exact uq.nf x ((Lv.lO ps _ hf2).subset (by rw [ebv2];exact hxe)) (oB ps j hx)
   have hS:∀g,(δ.ownBlock=some g\/g=z)->J.heap.size<=g:=λg e=>e.elim (λe=>(hob g e).1) λe=>by omega
   refine⟨j+1,n4,F4,v191,us2++[v182],by omega,by omega,q185.out k194 (λg G e=>by have :=hS g e;omega) H,(mk183.ex κ).kp k194 (λe=>by have :=hS _ e;omega),(mf183.kp (Kp.ah κ λ _=>False) (λh=>h)).kp k194 (λe=>by have :=hS _ e;omega),?_,th192.Gd hw194,ho192.kp kb194 (λg G e=>?_),λg G e=>?_,?_⟩
   ·rw [hts2,Lv.dg,ebv2];exact η.app rn183 hdis2
   ·rcases hnew g G with h | h
    ·exact hnb g h e
    ·omega
   ·rcases hnew g G with h | h
    ·exact hnb g h e
    ·omega
   ·rw [hts2,Lv.eV,wO];refine af.app ?_ ?_
    ·refine af.sub (λg _ G=>⟨⟨G.1.1,G.1.2.1,λe=>(hnew g e).elim G.1.2.2 λh=>by omega⟩,by omega⟩) (af.kp k194 (λg G e=>e.elim G.1.2.2 G.1.2.1) (af.ex (af.kp q183.kp (λg G e=>by
      have :=G.1.1;rcases e with e | e<;>omega) (af.ex ht172 ι)) κ))
    ·refine⟨v182,[],rfl,?_,rfl⟩;have l183':=aB.sub (E:=λg=>w179.heap.size<=g/\g< w183.heap.size) l183 λg G hd=>⟨hd,G⟩
     exact aB.sub (aB.kp (aB.ex l183' κ) k194 λg G e=>by
      rcases e with e | e
      ·have :=hob g e;omega
      ·omega) λg _ G=>⟨⟨by omega,by omega,λe=>(hnew g e).elim (λh=>by have :=hob g h;omega) λh=>by omega⟩,by omega⟩
theorem BU (k:Nat):Ge k:=by
 induction k using Nat.strongRecOn with
 | _ k z=>exact wG k z
def Bh (acc:List Tx)(s:Tx):List Tx:=if acc.getLast?=some s then acc else acc++[s]
def dd (l:List Tx):List Tx:=l.foldl Bh []
theorem jn (l:List Tx)(s:Tx):dd (l++[s])=Bh (dd l) s:=by unfold dd;rw [List.foldl_append];rfl
theorem Ef:∀l:List Tx,(dd l).getLast?=l.getLast?:=by
 intro l;rcases List.eq_nil_or_concat l with rfl | ⟨l,s,rfl⟩
 ·rfl
 ·rw [List.concat_eq_append,jn];unfold Bh;split
  ·rename_i h;rw [h];simp
  ·simp
theorem Dw (l:List Tx):(dd l).length<=l.length:=by
 have:∀n (l:List Tx),l.length=n->(dd l).length<=l.length:=by
  intro n
  induction n with
  | zero=>intro l h;have :=List.eq_nil_of_length_eq_zero h;subst this;exact Nat.le_refl _
  | succ n z=>
   intro l h;rcases List.eq_nil_or_concat l with rfl | ⟨l,s,rfl⟩
   ·exact Nat.le_refl _
   ·rw [List.concat_eq_append]at h|-;rw [jn];have G:=z l (by simpa using h);unfold Bh;split
    ·simp;omega
    ·simp;omega
 exact this _ l rfl
theorem GJ {l:List Tx}:∀s,s∈dd l↔s∈l:=by
 have:∀n (l:List Tx),l.length=n->∀s,s∈dd l↔s∈l:=by
  intro n
  induction n with
  | zero=>intro l h;have :=List.eq_nil_of_length_eq_zero h;subst this;intro s;exact Iff.rfl
  | succ n G=>
   intro l h s;rcases List.eq_nil_or_concat l with rfl | ⟨l,x,rfl⟩
   ·exact Iff.rfl
   ·rw [List.concat_eq_append]at h|-;rw [jn];have z:=G l (by simpa using h);unfold Bh;split
    ·rename_i H;rw [z,List.mem_append,List.mem_singleton];refine⟨.inl,λh=>h.elim id λe=>?_⟩;subst e;exact(z s).1 (List.mem_of_getLast? H)
    ·simp [z]
 exact this _ l rfl
structure FE (B:Nat)(w:World)(r:Nat)(l:List Tx)(bad:Bool)(M:Nat->Prop):Prop where
 lt:r< w.heap.size
 mb:M r
 mr:∀g,M g->B<=g/\g< w.heap.size
 f:∀j,w.frozen? ⟨r,j,none⟩=false
 c1:w.cell? ⟨r,1,none⟩=some (.bool bad)
 sl:∃v,w.cell? ⟨r,0,none⟩=some v/\Own B w v l/\∀g,v.ownBlock=some g->M g/\g≠r
theorem FE.kp {B:Nat}{w w':World}{r:Nat}{l:List Tx}{bad:Bool}{M S:Nat->Prop}(h:FE B w r l bad M)(k:Kp w w' S)(G:∀g,M g->¬S g):FE B w' r l bad M:=by
 have e:=k.block r h.lt (G r h.mb);obtain⟨v,I,J,H⟩:=h.sl;exact⟨Nat.lt_of_lt_of_le h.lt k.size,h.mb,λg z=>⟨(h.mr g z).1,Nat.lt_of_lt_of_le (h.mr g z).2 k.size⟩,λj=>by rw [World.frozen?_of_block (w:=w) e];exact h.f j,by rw [World.cell?_of_block (w:=w) e];exact h.c1,v,by rw [World.cell?_of_block (w:=w) e];exact I,J.kp k λg z=>G g (H g z).1,H⟩
theorem Own.jZ {B:Nat}{w:World}{v:Value}{l:List Tx}(h:Own B w v l):oneV v=true:=by
 rcases h.2 with⟨rfl,_⟩ | ⟨g,cap,cur,rfl,_⟩<;>rfl
theorem Gi {B:Nat}{w:World}{r:Nat}{l:List Tx}{bad:Bool}{M:Nat->Prop}{s:Tx}{ok:Bool}(h:FE B w r l bad M)(hl:l.length<=1099511627775){R:World->Prop}
  (hR:∀w' M',Kp w w' M->FE B w' r (l++[s]) (bad|| !ok) M'->(∀g,M' g->M g\/w.heap.size<=g)->R w'):Calls Tryz.prog 99 #[ptr r,.string (ab s),.bool ok] w (ax [] R):=by
 refine mu (ptr r) s ok w R ?_;obtain⟨v,h1,h2,h3⟩:=h.sl;refine⟨r,0,rfl,v,h1,λb7 w8 η Z=>?_⟩;have x8:Ex w w8:=Z▸Ex.alloc w _;have s8:w8.heap.size=w.heap.size+1:=by rw [Z,size_alloc]
 have hB:=(h.mr r h.mb).1;have α:=h.lt;refine Own.push (h2.ex x8) (by omega) (Strs.one η Z) (by simp only [List.length_cons,List.length_nil];omega) λβ H _ J ε W=>?_
 have γ:Kp w8 H λg=>v.ownBlock=some g:=Kp.aQ ε λ _ h=>h
 have δ:=γ.block r (by omega) λe=>(h3 r e).2 rfl
 have ι:=γ.size;have c0:H.cell? ⟨r,0,none⟩=some v:=by rw [World.cell?_of_block (w:=w8) δ,x8.cell (show r< _ from α)];exact h1
 have c1:H.cell? ⟨r,1,none⟩=some (.bool bad):=by rw [World.cell?_of_block (w:=w8) δ,x8.cell (show r< _ from α)];exact h.c1
 have f15:∀j,H.frozen? ⟨r,j,none⟩=false:=λj=>by rw [World.frozen?_of_block (w:=w8) δ,Below.frozen x8 α];exact h.f j
 refine⟨r,0,rfl,J.jZ,⟨⟨_,c0⟩,f15 0⟩,λθ z=>⟨r,0,rfl,bad,?_,λhb=>⟨r,0,rfl,⟨⟨.bool bad,?_⟩,?_⟩,λV G=>?_⟩,λhb=>⟨r,0,rfl,⟨⟨.bool bad,?_⟩,?_⟩,λV G=>?_⟩⟩⟩
 ·rw [z,World.cell?_setCell_other _ _ _ _ (by simp)];exact c1
 ·rw [z,World.cell?_setCell_other _ _ _ _ (by simp)];exact c1
 ·rw [z,World.frozen?_setCell];exact f15 1
 rotate_left
 ·rw [z,World.cell?_setCell_other _ _ _ _ (by simp)];exact c1
 ·rw [z,World.frozen?_setCell];exact f15 1
 all_goals
  have kk:Kr r H V:=Kr.trans (z▸Kr.set H 0 _) (G▸Kr.set θ 1 _);have κ:=kk.size;have ζ:∀g,β.ownBlock=some g->g≠r:=λg I=>(W g I).elim (λe=>(h3 g e).2) λe=>by omega
  have kM:Kp w V M:=Kp.trans (Kp.trans (Kp.ah x8 M) (Kp.mono (λg e=>(h3 g e).1) γ) λ _ _ h=>h) kk λg _ e=>by rw [e];exact h.mb
  refine hR V (λg=>M g\/β.ownBlock=some g) kM ⟨by omega,.inl h.mb,λg I=>?_,λj=>?_,?_,β,?_,J.kp kk ζ,λg I=>⟨.inr I,ζ g I⟩⟩ λg I=>I.elim .inl λe=>(W g e).elim (λe=> .inl (h3 g e).1) λh=> .inr (by omega)
  ·rcases I with I | I
   ·have :=h.mr g I;omega
   ·have :=J.block g I;omega
  ·rw [G,World.frozen?_setCell,z,World.frozen?_setCell];exact f15 j
  ·rw [G]
   first
    | (rw [hb,Bool.false_or];exact World.cell?_setCell_same _ _ _ (u:= .bool bad) (by rw [z,World.cell?_setCell_other _ _ _ _ (by simp)];exact c1))
    | (rw [hb,Bool.true_or];exact World.cell?_setCell_same _ _ _ (u:= .bool bad) (by rw [z,World.cell?_setCell_other _ _ _ _ (by simp)];exact c1))
  ·rw [G,World.cell?_setCell_other _ _ _ _ (by simp),z];exact World.cell?_setCell_same _ _ _ c0
theorem D1 {w:World}{R:World->Prop}(z:R w):Calls Tryz.prog 115 #[.slice none 0 0] w (ax [] R):=by
 refine(Any.slices_Sort_string_none yI none 0 w).mono ?_
 rintro e w' ⟨rfl,rfl⟩
 exact⟨rfl,z⟩
theorem xn {l:List Tx}(h:l.length< 2):dd l=l:=by
 match l,h with
 | [],_=>rfl
 | [a],_=>rfl
theorem CX {B:Nat}{w w':World}{g cap n j:Nat}{l:List Tx}{x:Tx}(h:Own B w (.slice (some ⟨g,0,none⟩) n cap) l)(hw:w'=w.setCell ⟨g,j,none⟩ (.string (ab x)))(z:j< l.length):Own B w' (.slice (some ⟨g,0,none⟩) n cap) (l.set j x):=by
 have G:aM 9 B w (.slice (some ⟨g,0,none⟩) n cap) (l.map sv):=by unfold aM;rw [List.length_map];exact h
 have :=G.set hw (by simpa using z);rw [show Value.string (ab x)=sv x from rfl,<-List.map_set]at this;unfold aM at this;rw [List.length_map]at this;exact this
theorem np {B:Nat}{w:World}{g cap n j:Nat}{l:List Tx}(h:Own B w (.slice (some ⟨g,0,none⟩) n cap) l)(I:j< l.length):w.cell? ⟨g,j,none⟩=some (.string (ab l[j]))/\w.frozen? ⟨g,j,none⟩=false/\n=l.length/\l.length<=cap:=by
 rcases h.2 with⟨G,_⟩ | ⟨g',z,cur,H,J,V,W,h2,h3,h4⟩
 ·cases G
 ·cases H;refine⟨?_,?_,rfl,W⟩
  ·rcases h.strs with⟨G,_⟩ | ⟨b,off,z,H,_,Z⟩
   ·cases G
   ·cases H;have :=Z j _ (List.getElem?_eq_getElem I)
    rwa [Nat.zero_add]at this
  ·unfold World.frozen?;simp [V]
theorem tB {B:Nat}{w:World}{v:Value}{l:List Tx}(h:Own B w v l)(hl:l.length<=1099511627776){R:Value->World->Prop}
  (hR:∀v' w',Kp w w' (λg=>v.ownBlock=some g)->Strs w' v' (dd l)->(∀g,v'.ownBlock=some g->v.ownBlock=some g)->R v' w'):Calls Tryz.prog 149 #[v] w (ax [.v] R):=by
 refine iy v w R ?_;obtain⟨ao,cap,hv⟩:=h.strs.slice;have kx:∀{w1:World},Ex w w1->Kp w w1 (λg=>v.ownBlock=some g):=λx=>Kp.ah x _
 refine⟨ao,_,cap,hv,λhs=>?_,λhs=>?_⟩
 ·have h2:l.length< 2:=by simp only [decide_eq_true_eq]at hs;omega
  refine hR v w (kx (Ex.refl w)) ?_ λ _ h=>h
  rw [xn h2];exact h.strs
 have h2:2<=l.length:=by simp only [decide_eq_false_iff_not]at hs;omega
 obtain⟨g,rfl⟩:∃g,v= .slice (some ⟨g,0,none⟩) l.length cap:=by
  rcases h.2 with⟨_,h0⟩ | ⟨g,cap',cur,η,_⟩
  ·omega
  ·rw [η]at hv;cases hv;exact⟨g,η⟩
 have hcap:=(np h (j:=0) (by omega)).2.2.2;refine⟨λk w'=>∃n:Nat,k=n/\1<=n/\n<=l.length/\dd (l.take n)=l.take n/\Ex w w',λk _=>(l.length - k).toNat,⟨1,rfl,Nat.le_refl _,by omega,by rw [xn];rw [List.length_take];omega,Ex.refl w⟩,λk w8 hI=>?_⟩;obtain⟨z,rfl,hk1,θ,Z,x8⟩:=hI;refine⟨_,_,cap,rfl,λhlt=>?_,λhge=>?_⟩;rotate_left
 ·have:z=l.length:=by simp only [decide_eq_false_iff_not]at hge;omega
  rw [this,List.take_length]at Z;refine hR _ w8 (kx x8) ?_ λ _ h=>h
  rw [Z];exact h.strs.ex x8
 have δ:z< l.length:=by simp only [decide_eq_true_eq]at hlt;omega
 refine⟨λw'=>Ex w8 w',λw13 ι=>?_⟩;have κ:Ex w8 w13:=ι▸Ex.drew w8;have I:=Ex.trans x8 κ;have o13:=h.ex I;refine⟨κ,g,0,_,cap,rfl,by omega,by omega,l[z],λw' x=>?_,by unfold aj;omega,g,0,_,cap,rfl,by omega,by omega,l[z - 1]'(by omega),λw' x=>?_,λheq=>?_,λJ=>?_⟩
 ·rw [Int.toNat_natCast,Nat.mul_one,Nat.zero_add];exact(np (h.ex (Ex.trans x8 x)) δ).1
 ·rw [show((z:Int) - 1).toNat=z - 1 by omega,Nat.mul_one,Nat.zero_add];exact(np (h.ex (Ex.trans x8 x)) (by omega)).1
 rotate_left
 ·simp only [decide_eq_false_iff_not]at J;refine⟨by unfold aj;omega,⟨z+1,by omega,by omega,by omega,?_,I⟩,by show((l.length:Int) - ((z:Int)+1)).toNat< ((l.length:Int) - z).toNat;omega⟩;rw [List.take_succ_eq_append_getElem δ,jn,Z];unfold Bh;have:(l.take z).getLast?≠some l[z]:=λe=>by
   rw [List.getLast?_eq_getElem?,List.length_take,Nat.min_eq_left θ,List.getElem?_take_of_lt (by omega),List.getElem?_eq_getElem (by omega)]at e;exact J (Option.some.inj e).symm
  rw [if_neg this]
 simp only [decide_eq_true_eq]at heq;have hsl:(if cap=(z:Int).toNat then(some ⟨g,0,none⟩:Option Addr)else Option.map (λx:Addr=>x.add ((z:Int).toNat* 1)) (some ⟨g,0,none⟩))=some ⟨g,z,none⟩:=by
  rw [if_neg (by omega),Option.map_some,add_plain,Int.toNat_natCast,Nat.mul_one,Nat.zero_add]
 refine⟨_,_,cap,rfl,by omega,by omega,by omega,λk kk w'=>∃(n i:Nat) (C:List Tx),k=n/\kk=i/\1<=i/\z+i<=l.length/\n< z+i/\C.length=l.length/\Own B w' (.slice (some ⟨g,0,none⟩) l.length cap) C/\C.take n=dd (l.take (z+i))/\C.drop (z+i - 1)=l.drop (z+i - 1)/\Kp w w' (λb=>(Value.slice (some ⟨g,0,none⟩) l.length cap).ownBlock=some b),
  λ _ kk _=>(l.length - kk).toNat,⟨z,1,l,rfl,rfl,Nat.le_refl _,by omega,by omega,rfl,o13,?_,rfl,kx I⟩,λk kk V hI=>?_⟩
 ·rw [List.take_succ_eq_append_getElem δ,jn,Z];unfold Bh;rw [if_pos];rw [List.getLast?_eq_getElem?,List.length_take,Nat.min_eq_left θ,List.getElem?_take_of_lt (by omega),List.getElem?_eq_getElem (by omega),heq]
 obtain⟨n,i,C,rfl,rfl,hi1,hi2,hn,hC,G,ht,hd,μ⟩:=hI;have hnC:n<=C.length:=by omega
 rw [hsl];refine⟨_,_,_,rfl,λν=>?_,λξ=>?_⟩
 ·have α:z+i< l.length:=by simp only [decide_eq_true_eq]at ν;omega
  have e1:C[z+i]'(by omega)=l[z+i]:=by
   have :=congrArg (fun(x:List Tx)=>x[1]?) hd;simp only [List.getElem?_drop]at this;rw [show z+i - 1+1=z+i by omega,List.getElem?_eq_getElem (by omega),List.getElem?_eq_getElem α]at this;exact Option.some.inj this
  have e2:C[z+i - 1]'(by omega)=l[z+i - 1]'(by omega):=by
   have :=congrArg (fun(x:List Tx)=>x[0]?) hd;simp only [List.getElem?_drop]at this;rw [Nat.add_zero,List.getElem?_eq_getElem (by omega),List.getElem?_eq_getElem (by omega)]at this;exact Option.some.inj this
  refine⟨λw'=>Ex V w',λο ς=>?_⟩;have β:Ex V ο:=ς▸Ex.drew V;have ε:=G.ex β;have υ:=Kp.trans μ (Kp.ah β λ _=>False) λ _ _ h=>h.elim
  have rd:∀{w':World},Ex V w'->∀j (hj:j< C.length),w'.cell? ⟨g,j,none⟩=some (.string (ab C[j])):=λx j hj=>(np (G.ex x) hj).1
  have W:(dd (l.take (z+i))).getLast?=some (l[z+i - 1]'(by omega)):=by
   rw [Ef,List.getLast?_eq_getElem?,List.length_take,Nat.min_eq_left hi2,List.getElem?_take_of_lt (by omega),List.getElem?_eq_getElem (by omega)]
  have φ:dd (l.take (z+(i+1)))=Bh (dd (l.take (z+i))) l[z+i]:=by
   rw [<-Nat.add_assoc,List.take_succ_eq_append_getElem α,jn]
  refine⟨β,g,z,_,_,rfl,by omega,by omega,C[z+i]'(by omega),λw' x=>?_,by unfold aj;omega,g,z,_,_,rfl,by omega,by omega,C[z+i - 1]'(by omega),λw' x=>?_,λJ=>?_,λγ=>?_⟩
  ·rw [Int.toNat_natCast,Nat.mul_one];exact rd x _ _
  ·rw [show z+((i:Int) - 1).toNat* 1=z+i - 1 by omega];exact rd x _ _
  ·have χ:l[z+i]≠l[z+i - 1]'(by omega):=by
    rw [<-e1,<-e2];intro e;rw [e]at J;simp at J
   refine⟨g,z,_,_,rfl,by omega,by omega,C[z+i]'(by omega),by rw [Int.toNat_natCast,Nat.mul_one];exact rd β _ _,g,0,_,cap,rfl,by omega,by omega,?_,λw57 H=>⟨by unfold aj;omega,by unfold aj;omega,⟨n+1,i+1,C.set n (C[z+i]'(by omega)),by omega,by omega,by omega,by omega,by omega,by simpa using hC,?_,?_,?_,?_⟩,by show((l.length:Int) - ((i:Int)+1)).toNat< ((l.length:Int) - i).toNat;omega⟩⟩
   ·rw [Int.toNat_natCast,Nat.mul_one,Nat.zero_add];have :=np ε (j:=n) (by omega);exact⟨⟨_,this.1⟩,this.2.1⟩
   ·rw [Int.toNat_natCast,Nat.mul_one,Nat.zero_add]at H;exact CX ε H (by omega)
   ·rw [List.take_succ_eq_append_getElem (by simpa using(by omega:n< C.length)),List.take_set_of_le (Nat.le_refl _),ht,φ];unfold Bh;rw [W,if_neg (λe=>χ (Option.some.inj e).symm),List.getElem_set_self,e1]
   ·have:C.drop (z+i)=l.drop (z+i):=by
     have :=congrArg (fun(x:List Tx)=>x.drop 1) hd;simp only [List.drop_drop]at this
     rwa [show z+i - 1+1=z+i by omega]at this
    rw [show z+(i+1) - 1=z+i by omega,List.drop_set_of_lt hn,this]
   ·rw [Int.toNat_natCast,Nat.mul_one,Nat.zero_add]at H;exact Kp.trans υ (H▸Kr.set ο n _) λb _ e=>by rw [e];rfl
  ·have ψ:l[z+i]=l[z+i - 1]'(by omega):=by
    rw [<-e1,<-e2];have:decide (C[z+i]'(by omega)=C[z+i - 1]'(by omega))=true:=by
     cases hd:decide (C[z+i]'(by omega)=C[z+i - 1]'(by omega))with
     | true=>rfl
     | false=>rw [hd]at γ;cases γ
    exact of_decide_eq_true this
   refine⟨by unfold aj;omega,⟨n,i+1,C,rfl,by omega,by omega,by omega,by omega,hC,ε,?_,?_,υ⟩,by show((l.length:Int) - ((i:Int)+1)).toNat< ((l.length:Int) - i).toNat;omega⟩
   ·rw [ht,φ];unfold Bh;rw [W,if_pos (by rw [ψ])]
   ·have :=congrArg (fun(x:List Tx)=>x.drop 1) hd;simp only [List.drop_drop]at this;rw [show z+i - 1+1=z+i by omega]at this;rw [show z+(i+1) - 1=z+i by omega];exact this
 ·have α:z+i=l.length:=by simp only [decide_eq_false_iff_not]at ξ;omega
  rw [α,List.take_length]at ht;have hs2:(if cap=(n:Int).toNat then(some ⟨g,0,none⟩:Option Addr)else Option.map (λx:Addr=>x.add ((n:Int).toNat* 1)) (some ⟨g,0,none⟩))=some ⟨g,n,none⟩:=by
   rw [if_neg (by omega),Option.map_some,add_plain,Int.toNat_natCast,Nat.mul_one,Nat.zero_add]
  have hs3:(if cap=(0:Int).toNat then(some ⟨g,0,none⟩:Option Addr)else Option.map (λx:Addr=>x.add ((0:Int).toNat* 1)) (some ⟨g,0,none⟩))=some ⟨g,0,none⟩:=by
   rw [if_neg (by have:(0:Int).toNat=0:=rfl;omega),Option.map_some,add_plain];rfl
  refine⟨_,_,cap,rfl,by omega,by omega,by omega,_,_,_,rfl,.inr ⟨g,n,hs2,λj hj=>?_,λw66 ω=>⟨_,_,cap,rfl,by omega,by omega,by omega,?_⟩⟩⟩
  ·have :=np G (j:=n+j) (by omega);exact⟨⟨_,this.1⟩,this.2.1⟩
  rw [hs3];obtain⟨ζ,_,c66,_⟩:=aZ (b:=g) (List.replicate (Int.toNat (l.length:Int) - Int.toNat (n:Int)) (.string ⟨#[]⟩)) V n;rw [<-ω]at ζ c66;have hdl:(dd l).length=n:=by rw [<-ht,List.length_take];omega
  have hb31:=(G.block g rfl).2;have s66:=ζ.size;refine hR _ w66 (Kp.trans μ ζ λb _ e=>by rw [e];rfl) (.inr ⟨g,0,cap,?_,by omega,λj x hx=>?_⟩) λb hb=>by cases hb;rfl
  ·rw [hdl];simp
  ·have hj:j< n:=by
    have :=(List.getElem?_eq_some_iff.1 hx).1;omega
   rw [Nat.zero_add,c66 j hj,(np G (j:=j) (by omega)).1];rw [<-ht,List.getElem?_take_of_lt hj,List.getElem?_eq_getElem (by omega)]at hx;rw [Option.some.inj hx]
end Go.Proofs.YtdecokaadekjnaaGreat
namespace Go.Proofs.YtdecokaadekjnaaGreat
open Go
set_option maxRecDepth 100000
theorem jk (s1:Value)(v2:ay)(w:World)(R:Int->World->Prop)(h:bL s1 λl4=>fZ 0 w λV J z G=>ai (decide (z< (l4:Int))) (aK s1 z λb10 H=>cD G b10 (H+z.toNat* 1) λI=>ai (decide (v2=I)) (R z G) (aj (z+1)/\V (z+1) G/\J (z+1) G< J z G)) (R (-1) G)):
  Calls Tryz.prog 107 #[s1,(.string (ab v2))] w (ax [.i] R):=
 bc (a8 [(2,[(8,.i)])] [] []) [.tmp 4 .i] [.v s1,.s v2] Tryz.func107 (by kernel_rfl) h
theorem gK (s1:Value)(v2:ay)(w:World)(R:Bool->World->Prop)(h:iw 107 #[s1,(.string (ab v2))] w λz G=>R ((decide (0<=z))) G):
  Calls Tryz.prog 63 #[s1,(.string (ab v2))] w (ax [.b] R):=
 bc (a8 [] [] []) [.tmp 4 .b] [.v s1,.s v2] Tryz.func63 (by kernel_rfl) h
theorem qs (p1:ay)(w:World)(R:Value->Bool->World->Prop)(h:mw 135 #[(.string (ab p1))] w λv2 q3 w4=>ai (!q3) (R (.pointer none) false w4) (bJ w4 λS5 w6=>az v2 λb7 o8=>jO S5 b7 (o8+1) λs9=>az v2 λb10 o11=>jO S5 b10 (o11+1) λψ=>(aR w6 (.cells #[(.string (ab ψ))] 9) λω w14=>S5 w14/\aR w14 (Obj.map #[] 0) λb15 w16=>S5 w16/\oneV (.slice (some ⟨ω,0,none⟩) 1 1)=true/\oneV (.map (some b15))=true/\aR w16 (.cells #[(.string (ab s9)),(.slice (some ⟨ω,0,none⟩) 1 1),(.map (some b15))] 59) λI w18=>S5 w18/\fZ 0 w18 λI19 m20 i21 β=>aU β I 1 λv23=>bL v23 λl25=>ai (decide (i21< (l25:Int))) (aU β I 1 λv27=>aK v27 i21 λb28 o29=>cD β b28 (o29+i21.toNat* 1) λs32=>cd 92 #[(.string (ab s32))] β λv33 w34=>mw 136 #[v33] w34 λυ q36 w37=>ai (!q36) (R (.pointer none) false w37) (bJ w37 λφ w39=>cA φ I 2 λv40=>cA φ I 1 λv41=>aK v41 i21 λb42 o43=>jO φ b42 (o43+i21.toNat* 1) λs46=>∃(η:Nat) (m48:Value->Option Value),v40= .map (some η)/\IsMap w39 η .string m48/\∀χ:World,IsMap χ η .string (eh m48 (.string (ab s46)) υ)->cT w39 χ η->bL υ λl51=>fZ 0 χ λI53 θ H J=>ai (decide (H< (l51:Int))) (aK υ H λb57 o58=>cD J b57 (o58+H.toNat* 1) λs61=>aU J I 1 λv62=>bT 63 #[v62,(.string (ab s61))] J λq63 ι=>ai (!q63) (aU ι I 1 λv65=>aR ι (.cells #[(.string (ab s61))] 9) λb66 w67=>fB 9 1 16 w67 v65 (.slice (some ⟨b66,0,none⟩) 1 1) λv73 w74=>oneV v73=true/\bj w74 I 1 v73 λw76=>aj (H+1)/\I53 (H+1) w76/\θ (H+1) w76< θ H J) (aj (H+1)/\I53 (H+1) ι/\θ (H+1) ι< θ H J)) (aU J I 1 λv77=>bL v77 λl79=>ai (decide (60< (l79:Int))) (R (.pointer none) false J) (aj (i21+1)/\I19 (i21+1) J/\m20 (i21+1) J< m20 i21 β)))) (R ((.pointer (some ⟨I,0,none⟩))) true β))/\(aR w6 (Obj.map #[] 0) λb81 w82=>S5 w82/\aR w82 (.cells #[(.string (ab ψ))] 9) λb83 w84=>S5 w84/\oneV (.slice (some ⟨b83,0,none⟩) 1 1)=true/\oneV (.map (some b81))=true/\aR w84 (.cells #[(.string (ab s9)),(.slice (some ⟨b83,0,none⟩) 1 1),(.map (some b81))] 59) λV w86=>S5 w86/\fZ 0 w86 λI87 m88 i89 γ=>aU γ V 1 λv91=>bL v91 λl93=>ai (decide (i89< (l93:Int))) (aU γ V 1 λv95=>aK v95 i89 λb96 o97=>cD γ b96 (o97+i89.toNat* 1) λs100=>cd 92 #[(.string (ab s100))] γ λv101 w102=>mw 136 #[v101] w102 λδ q104 κ=>ai (!q104) (R (.pointer none) false κ) (bJ κ λε μ=>cA ε V 2 λv108=>cA ε V 1 λv109=>aK v109 i89 λb110 o111=>jO ε b110 (o111+i89.toNat* 1) λs114=>∃(W:Nat) (ν:Value->Option Value),v108= .map (some W)/\IsMap μ W .string ν/\∀ζ:World,IsMap ζ W .string (eh ν (.string (ab s114)) δ)->cT μ ζ W->bL δ λl119=>fZ 0 ζ λξ Z z G=>ai (decide (z< (l119:Int))) (aK δ z λb125 o126=>cD G b125 (o126+z.toNat* 1) λο=>aU G V 1 λv130=>bT 63 #[v130,(.string (ab ο))] G λq131 α=>ai (!q131) (aU α V 1 λv133=>aR α (.cells #[(.string (ab ο))] 9) λb134 w135=>fB 9 1 16 w135 v133 (.slice (some ⟨b134,0,none⟩) 1 1) λv141 w142=>oneV v141=true/\bj w142 V 1 v141 λς=>aj (z+1)/\ξ (z+1) ς/\Z (z+1) ς< Z z G) (aj (z+1)/\ξ (z+1) α/\Z (z+1) α< Z z G)) (aU G V 1 λv145=>bL v145 λl147=>ai (decide (60< (l147:Int))) (R (.pointer none) false G) (aj (i89+1)/\I87 (i89+1) G/\m88 (i89+1) G< m88 i89 γ)))) (R ((.pointer (some ⟨V,0,none⟩))) true γ)))):
  Calls Tryz.prog 90 #[(.string (ab p1))] w (ax [.v,.b] R):=
 bc (a8 [(6,[(7,.i)]),(13,[(68,.i)])] [] [4,11]) [.tmp 2 .v,.tmp 3 .b] [.s p1] Tryz.func90 (by kernel_rfl) h
theorem ru (z:ay)(t2:ay)(w:World)(R:Value->Bool->World->Prop)(h:mw 67 #[(.string (ab z))] w λv3 V I=>ai (!V) (R (.pointer none) false I) (mw 67 #[(.string (ab t2))] I λv6 W J=>ai (!W) (R (.pointer none) false J) ((List.length [40]+z.length<=4611686018427387904)/\(List.length ([40]++z)+List.length [38]<=4611686018427387904)/\(List.length (([40]++z)++[38])+t2.length<=4611686018427387904)/\(List.length ((([40]++z)++[38])++t2)+List.length [41]<=4611686018427387904)/\mw 90 #[(.string (ab (((([40]++z)++[38])++t2)++[41])))] J λv9 G H=>R v9 G H))):
  Calls Tryz.prog 46 #[(.string (ab z)),(.string (ab t2))] w (ax [.v,.b] R):=
 bc (a8 [] [] []) [.tmp 4 .v,.tmp 5 .b] [.s z,.s t2] Tryz.func46 (by kernel_rfl) h
theorem gC (s1:Value)(f2:Value)(w:World)(R:Int->World->Prop)(h:bL s1 λl4=>fZ 0 w λZ W z H=>ai (decide (z< (l4:Int))) (aK s1 z λb10 I=>cD H b10 (I+z.toNat* 1) λJ=>∃(f15:Nat) (c16:List Value),f2= .func (.func f15) #[] (List.toArray c16)/\List.contains dy f15=true/\bT f15 (List.toArray ([(.string (ab J))]++c16)) H λV G=>ai V (R z G) (aj (z+1)/\Z (z+1) G/\W (z+1) G< W z H)) (R (-1) H)):
  Calls Tryz.prog 61 #[s1,f2] w (ax [.i] R):=
 bc (a8 [(2,[(8,.i)])] [] []) [.tmp 4 .i] [.v s1,.v f2] Tryz.func61 (by kernel_rfl) h
theorem fp (s1:Value)(f2:Value)(w:World)(R:Bool->World->Prop)(h:iw 61 #[s1,f2] w λz G=>R ((decide (0<=z))) G):
  Calls Tryz.prog 47 #[s1,f2] w (ax [.b] R):=
 bc (a8 [] [] []) [.tmp 4 .b] [.v s1,.v f2] Tryz.func47 (by kernel_rfl) h
theorem lV (s1:Value)(z:Int)(w:World)(R:Bool->World->Prop)(h:az s1 λb3 H=>aU w b3 (H+2) λv5=>az v5 λb6 I=>aU w b6 (I+0) λJ=>bT 188 #[J,(.int .i64 z)] w λV G=>R V G):
  Calls Tryz.prog 141 #[s1,(.int .i64 z)] w (ax [.b] R):=
 bc (a8 [] [] []) [.tmp 4 .b] [.v s1,.i z] Tryz.func141 (by kernel_rfl) h
theorem qt (s1:UInt32)(w:World)(R:ay->World->Prop)(h:HQ ([]) 97 w λJ G z c5 H=>ai (decide (c5<=122)) (EW 59 #[(.int .u8 c5.toNat)] H λV I=>ai (!decide ((s1 &&& V:UInt32)=0)) ((0<=(UInt8.toNat c5:Int)/\(UInt8.toNat c5:Int)< 128)/\(z.length+List.length [UInt8.ofNat (Int.toNat (UInt8.toNat c5:Int))]<=4611686018427387904)/\J ((z++[UInt8.ofNat (Int.toNat (UInt8.toNat c5:Int))])) (c5+1:UInt8) I/\G ((z++[UInt8.ofNat (Int.toNat (UInt8.toNat c5:Int))])) (c5+1:UInt8) I< G z c5 H) (J z (c5+1:UInt8) I/\G z (c5+1:UInt8) I< G z c5 H)) (R z H)):
  Calls Tryz.prog 82 #[(.int .u32 (UInt32.toNat s1))] w (ax [.s] R):=
 bc (a8 [(3,[(3,.s),(4,.c)])] [] []) [.tmp 2 .s] [.w s1] Tryz.func82 (by kernel_rfl) h
theorem mj (s1:Value)(k2:UInt8)(w:World)(R:ay->World->Prop)(h:az s1 λb3 o4=>aU w b3 (o4+2) λv5=>az v5 λb6 o7=>aU w b6 (o7+1) λv8=>bL v8 λο=>F9 0 0 w λς η δ I β=>ai (decide (I< (ο:Int))) (aK v8 I λυ φ=>aU β υ (φ+I.toNat* 1) λv21=>cd 140 #[v21] β λθ χ=>bL θ λψ=>F9 δ 0 χ λε J G z H=>ai (decide (z< (ψ:Int))) (aK θ z λV W=>∃ι:UInt8,∃κ:Int,∃μ:Int,∃ν:Value,∃ξ:Bool,(World.cell? H ⟨V,(W+z.toNat* 5),none⟩=some (.int .u8 ι.toNat)/\World.cell? H ⟨V,((W+z.toNat* 5)+1),none⟩=some (.int .i64 κ)/\World.cell? H ⟨V,(((W+z.toNat* 5)+1)+1),none⟩=some (.int .i64 μ)/\World.cell? H ⟨V,((((W+z.toNat* 5)+1)+1)+1),none⟩=some ν/\World.cell? H ⟨V,(((((W+z.toNat* 5)+1)+1)+1)+1),none⟩=some (.bool ξ)/\True)/\aR H (.cells #[(.int .u8 0),(.int .i64 0),(.int .i64 0),(.pointer none),(.bool false)] 160) λγ ω=>uH ω γ 0 5 [(.int .u8 ι.toNat),(.int .i64 κ),(.int .i64 μ),ν,(.bool ξ)] λZ=>fK Z γ 0 λc44=>ai (decide (c44=k2)) (oI Z γ 1 λn45=>bT 141 #[s1,(.int .i64 n45)] Z λq46 α=>ai (!q46) (oI α γ 1 λζ=>0<=(ζ:Int)/\aj (z+1)/\ε ((G ||| (nD 1 ζ.toNat):UInt32)) (z+1) α/\J ((G ||| (nD 1 ζ.toNat):UInt32)) (z+1) α< J G z H) (aj (z+1)/\ε G (z+1) α/\J G (z+1) α< J G z H)) (aj (z+1)/\ε G (z+1) Z/\J G (z+1) Z< J G z H)) (aj (I+1)/\ς G (I+1) H/\η G (I+1) H< η δ I β)) (bg 82 #[(.int .u32 (UInt32.toNat δ))] β λs49 w50=>R s49 w50)):
  Calls Tryz.prog 93 #[s1,(.int .u8 k2.toNat)] w (ax [.s] R):=
 bc (a8 [(3,[(5,.w),(18,.i)]),(6,[(5,.w),(25,.i)])] [] []) [.tmp 4 .s] [.v s1,.c k2] Tryz.func93 (by kernel_rfl) h
theorem sZ (s1:ay)(w:World)(R:UInt32->World->Prop)(h:F9 0 0 w λW I G z H=>ai (decide (z< (s1.length:Int))) ((0<=(z:Int)/\(z:Int)< s1.length)/\EW 59 #[(.int .u8 (UInt8.toNat (bt s1 z.toNat)))] H λJ V=>aj (z+1)/\W (G ||| J:UInt32) (z+1) V/\I (G ||| J:UInt32) (z+1) V< I G z H) (R G H)):
  Calls Tryz.prog 91 #[(.string (ab s1))] w (ax [.w] R):=
 bc (a8 [(3,[(3,.w),(7,.i)])] [] []) [.tmp 2 .w] [.s s1] Tryz.func91 (by kernel_rfl) h
theorem sn (n1:ay)(w:World)(R:Bool->World->Prop)(h:cd 92 #[(.string (ab n1))] w λv2 z=>bg 93 #[v2,(.int .u8 (UInt8.toNat 33))] z λG H=>EW 91 #[(.string (ab G))] H λI J=>EW 59 #[(.int .u8 (UInt8.toNat 119))] J λV W=>R ((!decide ((I &&& V:UInt32)=0))) W):
  Calls Tryz.prog 48 #[(.string (ab n1))] w (ax [.b] R):=
 bc (a8 [] [] []) [.tmp 2 .b] [.s n1] Tryz.func48 (by kernel_rfl) h
end Go.Proofs.YtdecokaadekjnaaGreat
namespace Go.Proofs.YtdecokaadekjnaaGreat
open Go Go.RowKit
theorem GU {B:Nat}{w:World}{r:Nat}{l:List Tx}{bad:Bool}{M:Nat->Prop}(h:FE B w r l bad M)(hl:l.length<=1099511627776){R:Value->Bool->World->Prop}
  (V:bad=true->R (.slice none 0 0) false w) (G:bad=false->∀v' w',Kp w w' M->Strs w' v' (dd (aX l))->(∀g,v'.ownBlock=some g->M g)->R v' true w'):Calls Tryz.prog 100 #[ptr r] w (ax [.v,.b] R):=by
 refine kZ (ptr r) w R ?_;obtain⟨v,W,Z,z⟩:=h.sl;refine⟨r,0,rfl,bad,h.c1,V,λhb=>⟨r,0,rfl,v,W,?_⟩⟩;have α:(aX l).length=l.length:=(aJ l).length_eq;by_cases H:l=[]
 ·subst H;have I:v= .slice none 0 0\/∃g cap,v= .slice (some ⟨g,0,none⟩) 0 cap:=by
   rcases Z.2 with⟨h0,_⟩ | ⟨g,cap,cur,J,_⟩
   ·exact .inl h0
   ·exact .inr ⟨g,cap,J⟩
  have hs:∀{R:World->Prop},R w->Calls Tryz.prog 115 #[v] w (ax [] R):=λ{R} hR=>by
   rcases I with rfl | ⟨g,cap,rfl⟩
   ·exact D1 hR
   ·refine(Any.slices_Sort_string_none yI (some ⟨g,0,none⟩) cap w).mono ?_
    rintro e w' ⟨rfl,rfl⟩
    exact⟨rfl,hR⟩
  refine hs ⟨r,0,rfl,v,W,tB Z (by simp) λv' w' k s J=>G hb v' w' (Kp.mono (λg e=>(z g e).1) k) ?_ λg hg=>(z g (J g hg)).1⟩;have:aX []=[]:=List.eq_nil_of_length_eq_zero α;rw [this];exact s
 ·refine sort_k Z H hl λw8 k8 o8=>⟨r,0,rfl,v,?_,tB o8 (by omega) λv' w' k s J=>G hb v' w' (Kp.trans (Kp.mono (λg e=>(z g e).1) k8) k λg _ e=>(z g e).1) s λg hg=>(z g (J g hg)).1⟩
  rw [World.cell?_of_block (w:=w) (k8.block r h.lt λe=>(z r e).2 rfl)];exact W
theorem zj {D:Nat->Prop}{w:World}{v:Value}{o:List Nat}{x:Nat}(h:ee D w v (o.map iv))(hl:o.length<=1099511627776){R:Bool->World->Prop}(H:R (decide (x∈o)) w):
  Calls Tryz.prog 188 #[v,iv x] w (ax [.b] R):=by
 refine jL v x w R ?_;refine mi v x w _ ?_;obtain⟨W,cap,V⟩:=h.slice;rw [List.length_map]at V;refine⟨W,_,cap,V,λi w'=>∃j:Nat,i=j/\j<=o.length/\w'=w/\x∉o.take j,λi _=>(o.length - i).toNat,⟨0,rfl,Nat.zero_le _,rfl,by simp⟩,λi w' Z=>?_⟩;obtain⟨j,rfl,hj,rfl,hm⟩:=Z;refine⟨λI=>?_,λJ=>?_⟩
 ·have z:j< o.length:=by simp only [decide_eq_true_eq]at I;omega
  refine h.G9 (i:=j) (x:=o[j]) (by omega) (by rw [Int.toNat_natCast];exact List.getElem?_eq_getElem z) (Q:=λn=>_) ⟨λhe=>?_,λG=>?_⟩
  ·have he:x=o[j]:=by simp only [decide_eq_true_eq]at he;omega
   show R (decide (0<=(j:Int))) _;rw [decide_eq_true (show(0:Int)<=(j:Int) by omega)];rw [decide_eq_true (show x∈o by rw [he];exact List.getElem_mem z)]at H;exact H
  ·have G:x≠o[j]:=by simp only [decide_eq_false_iff_not]at G;omega
   refine⟨by unfold aj;omega,⟨j+1,by omega,by omega,rfl,?_⟩,by show((o.length:Int) - ((j:Int)+1)).toNat< ((o.length:Int) - j).toNat;omega⟩;rw [List.take_succ_eq_append_getElem z,List.mem_append,List.mem_singleton];exact λh=>h.elim hm G
 ·have:j=o.length:=by simp only [decide_eq_false_iff_not]at J;omega
  rw [this,List.take_length]at hm;show R (decide ((0:Int)<= -1)) _;rw [decide_eq_false (show ¬(0:Int)<= -1 by omega)];rw [decide_eq_false hm]at H;exact H
theorem E5 {w:World}{v:Value}{l:List Tx}{x:Tx}(h:Strs w v l)(hl:l.length<=1099511627776){R:Bool->World->Prop}(I:R (decide (x∈l)) w):
  Calls Tryz.prog 63 #[v,.string (ab x)] w (ax [.b] R):=by
 refine gK v x w R ?_;refine jk v x w _ ?_;obtain⟨Z,cap,hv⟩:=h.slice;refine⟨Z,_,cap,hv,λi w'=>∃j:Nat,i=j/\j<=l.length/\w'=w/\x∉l.take j,λi _=>(l.length - i).toNat,⟨0,rfl,Nat.zero_le _,rfl,by simp⟩,λi w' hI=>?_⟩;obtain⟨j,rfl,hj,rfl,hm⟩:=hI;refine⟨λJ=>?_,λV=>?_⟩
 ·have z:j< l.length:=by simp only [decide_eq_true_eq]at J;omega
  obtain⟨b,off,H,W,_,hc⟩:=h.at z;refine⟨b,off,_,H,W,by omega,by omega,l[j],by rw [Int.toNat_natCast,Nat.mul_one];exact hc,λhe=>?_,λG=>?_⟩
  ·have he:x=l[j]:=by simpa using he
   show R (decide (0<=(j:Int))) _;rw [decide_eq_true (show(0:Int)<=(j:Int) by omega)];rw [decide_eq_true (show x∈l by rw [he];exact List.getElem_mem z)]at I;exact I
  ·have G:x≠l[j]:=by simpa using G
   refine⟨by unfold aj;omega,⟨j+1,by omega,by omega,rfl,?_⟩,by show((l.length:Int) - ((j:Int)+1)).toNat< ((l.length:Int) - j).toNat;omega⟩;rw [List.take_succ_eq_append_getElem z,List.mem_append,List.mem_singleton];exact λh=>h.elim hm G
 ·have:j=l.length:=by simp only [decide_eq_false_iff_not]at V;omega
  rw [this,List.take_length]at hm;show R (decide ((0:Int)<= -1)) _;rw [decide_eq_false (show ¬(0:Int)<= -1 by omega)];rw [decide_eq_false hm]at I;exact I
theorem GR {D:Nat->Prop}{w:World}{s n x nm:Nat}{o:List Nat}{l:Lv}{c0 c1 c4 vr:Value}(η:Mk w s n)(h:fL D w vr o (af D w l))(hD:∀g,D g->g≠s)(ψ:l.sh true=true)(ω:sT o l)(hnn:n+o.length+l.bvs.length<=4294967296)(θ:o.length+l.tot<=4294967296){R:Value->World->Prop}
  (hR:∀v' w' F' n',Km s w w'->Mk w' s n'->Rn n n' (o++l.bvs) (aD id x nm) F'->aB (xU w) w' (o.map F',l.map F') v'->R v' w'):
  Calls Tryz.prog 177 #[ptr s,.agg (List.toArray [c0,c1,iv x,vr,c4]),iv nm] w (ax [.v] R):=by
 refine jE (ptr s) _ nm w R ?_;refine⟨_,rfl,λb5 H ι α=>⟨λw'=>Kp H w' (λg=>g=s\/H.heap.size<=g),λw8 κ=>?_⟩⟩;have x6:Ex w H:=α▸Ex.alloc w _;have s6:H.heap.size=w.heap.size+1:=by rw [α,size_alloc]
 have x8:Ex H w8:=κ▸Ex.drew H;have s8:w8.heap.size=H.heap.size:=by rw [κ];rfl
 have μ:=η.lt;have ν:¬(b5=s\/H.heap.size<=b5):=λe=>by rcases e with e | e<;>omega
 have d3:H.cell? ⟨b5,3,none⟩=some vr:=by rw [α,ι];exact aa rfl
 have d2:H.cell? ⟨b5,2,none⟩=some (iv x):=by rw [α,ι];exact aa rfl
 have l5:b5< H.heap.size:=by omega
 refine⟨Kp.ah x8 _,s,0,rfl,vr,λw' k=>by rw [World.cell?_of_block (w:=H) (k.block b5 l5 ν)];exact d3,x,λw' k=>by rw [World.cell?_of_block (w:=H) (k.block b5 l5 ν)];exact d2,λβ γ ξ I=>?_⟩;have δ:Ex w8 γ:=I▸Ex.alloc w8 _;have s14:γ.heap.size=w8.heap.size+1:=by rw [I,size_alloc]
 have ο:IsMap γ β (.int .i64) (dG []):=⟨#[],0,by rw [I,ξ];unfold World.alloc;simp,⟨by simp,by simp,by simp⟩,by simp,λq=>rfl⟩
 refine⟨Kp.ah (Ex.trans x8 δ) _,β,_,rfl,ο,λJ ς G=>?_⟩;have ζ:Kp γ J (λg=>g=β):=⟨G.os,G.tape,G.output,by rw [G.size];exact Nat.le_refl _,λg _ Z=>G.block g Z⟩
 have s17:=ζ.size;have ε:Kp H J (λg=>g=s\/H.heap.size<=g):=Kp.trans (Kp.ah (Ex.trans x8 δ) _) ζ λg _ e=> .inr (by omega)
 have V:Ex w J:=Ex.below (Ex.trans (Ex.trans x6 x8) δ) (Kp.below ζ (Ex.trans (Ex.trans x6 x8) δ).size λg Z e=>by omega);refine⟨ε,?_⟩;have υ:jv J β (aD id x nm):=rj (F:=id) (λz=> .inr ⟨rfl,rfl⟩) ς;have h':fL (λg=>D g/\g< w.heap.size) w vr o (af (λg=>D g/\g< w.heap.size) w l):=aB.sub (L:=(o,l)) h λg Z hd=>⟨hd,Z⟩
 refine BU _ (Nat.le_refl _) ψ (fL.ex h' V) (λg Z e=>?_) ω (η.ex V) υ (by omega) hnn θ λv18 w19 F' n' W φ mf19 χ l19=>?_
 ·rcases e with e | e
  ·exact hD g Z.1 e
  ·omega
 ·have s19:=W.size;refine⟨Kp.trans ε (Kp.mono (λg e=>e) W.kp) λg Z e=>e.elim .inl λe=> .inr (by omega),hR v18 w19 F' n' ⟨?_,λj hj=>?_,λj=>?_⟩ φ χ (aB.sub l19 λg _ Z=>by show w.heap.size<=g;have:J.heap.size<=g:=Z;omega)⟩
  ·exact Kp.trans (Kp.ah V _) W.kp λg Z e=>e.elim id λe=>by omega
  ·rw [W.ce j hj,V.cell (show s< _ from μ)]
  ·rw [W.fz j,Below.frozen V μ]
theorem xw {X:Type}(P:Nat->Bool)(x:X):∀(l:List X) (k:Nat),jP P (l++[x]) k=jP P l k++if P (k+l.length)then []else [x]
 | [],k=>by rw [List.nil_append,cc,jd];simp [jd]
 | y::l,k=>by
  rw [List.cons_append,cc,cc,xw P x l (k+1),List.length_cons,show k+1+l.length=k+(l.length+1) by omega];split<;>simp
def elsL:List Lv->Lv
 | []=> .nil
 | e::r=>e.app (elsL r)
theorem xM:∀l m:List Lv,elsL (l++m)=(elsL l).app (elsL m)
 | [],m=>rfl
 | e::l,m=>by simp only [List.cons_append,elsL,xM l m,Lv.cn]
theorem Cb (e:Lv):elsL [e]=e:=Lv.aV e
theorem qE {X:Type}{P:Nat->Bool}:∀{l:List X} {k:Nat} {x:X},x∈jP P l k->x∈l
 | [],k,x,h=>by rw [jd]at h;cases h
 | y::l,k,x,h=>by
  rw [cc]at h;split at h
  ·exact List.mem_cons_of_mem _ (qE h)
  ·rcases List.mem_cons.1 h with rfl | h
   ·exact List.mem_cons_self ..
   ·exact List.mem_cons_of_mem _ (qE h)
theorem uS {X:Type}(P:Nat->Bool):∀(l:List X) (k:Nat),(jP P l k).Sublist l
 | [],k=>by rw [jd];exact List.Sublist.refl _
 | y::l,k=>by
  rw [cc];split
  ·exact(uS P l (k+1)).trans (List.sublist_cons_self ..)
  ·exact(uS P l (k+1)).cons_cons y
def mY (l:List Lv):Nat:=(l.map Lv.tot).sum
theorem j4:∀l:List Lv,(elsL l).tot=mY l
 | []=>rfl
 | e::l=>by simp only [elsL,Lv.bR,j4 l,mY,List.map_cons,List.sum_cons]
theorem yx {l m:List Lv}(h:l.Sublist m):mY l<=mY m:=by
 induction h with
 | slnil=>exact Nat.le_refl _
 | cons a _ z=>simp only [mY,List.map_cons,List.sum_cons]at*;omega
 | cons_cons a _ z=>simp only [mY,List.map_cons,List.sum_cons]at*;omega
theorem nS:∀l:Lv,elsL l.bk=l
 | .nil=>rfl
 | .thr k a b o r n=>by simp only [Lv.bk,elsL,nS n,Lv.app]
 | .sum z n=>by simp only [Lv.bk,elsL,nS n,Lv.app]
 | .part o q n=>by simp only [Lv.bk,elsL,nS n,Lv.app]
theorem zT {b:Bool}:∀{l:List Lv},(∀e∈l,e.sh b=true)->(elsL l).sh b=true
 | [],_=>by cases b<;>rfl
 | e::l,h=>Lv.gA (h e (by simp)) (zT λx z=>h x (by simp [z]))
theorem Eu:∀{l:Lv},l.sh true=true->∀e∈l.bk,e.sh true=true:=λ{l} h e he=>by
 rcases Lv.jf h e he with⟨k,a,b,o,r,rfl,hr⟩ | ⟨G,rfl,z⟩
 ·simp only [Lv.sh,hr,Bool.and_self]
 ·simp only [Lv.sh,z,Bool.and_self]
theorem wU:∀{l:List (List Nat×Lv)},(∀x∈l,x.2.sh true=true)->(joinL l).2.sh true=true
 | [],_=>rfl
 | x::l,h=>Lv.gA (h x (by simp)) (wU λy z=>h y (by simp [z]))
theorem kR:∀(l:List (List Nat×Lv)) (j:Nat),(joinL (l.take j)).1.length<=(joinL l).1.length/\(joinL (l.take j)).2.tot<=(joinL l).2.tot
 | [],j=>by simp [joinL]
 | x::l,0=>by simp [joinL,Lv.tot]
 | x::l,j+1=>by
  obtain⟨z,G⟩:=kR l j;simp only [List.take_succ_cons,joinL,List.length_append,Lv.bR];omega
theorem DY {D:Nat->Prop}{w:World}{s:Nat}{O:List Nat}{l:Lv}{vl vg vo vm:Value}{gl:List Nat}{ms:List (List Nat×Lv)}{mvs:List Value}(hcl:w.cell? ⟨s,2,none⟩=some vl)(hls:s< w.heap.size)(hl:aB D w (O,l) vl)(G:ee D w vg (gl.map iv))(hgl:gl.length<=1000)(ho:ee D w vo (O.map iv))(hm:ee D w vm mvs)
  (hms:aH (λL v=>aB D w L v) ms mvs) (hml:mvs.length<=1000) (hsh:l.sh true=true) (hmsh:∀x∈ms,x.2.sh true=true) (htot:O.length+(joinL ms).1.length+(l.tot+(joinL ms).2.tot)<=4294967295)
  {P:Nat->Bool} (hP:∀i,P i=decide (i∈gl)) {res:List Nat×Lv} (θ:res=(O++(joinL ms).1,(elsL (jP P l.bk 0)).app (joinL ms).2)) (huq:sT (Lv.tidy res.1 res.2).1 (Lv.tidy res.1 res.2).2) (hfr:∀x,x∉(Lv.tidy res.1 res.2).1->(Lv.tidy res.1 res.2).2.fh x->x< 26)
  {R:ay->Bool->World->Prop} (hR:∀w',Ex w w'->(∀s,yE (Lv.tidy res.1 res.2)=some s->R s true w')/\(yE (Lv.tidy res.1 res.2)=none->R [] false w')):
  Calls Tryz.prog 176 #[ptr s,vg,vo,vm] w (ax [.s,.b] R):=by
 refine lX (ptr s) vg vo vm w R ?_;refine vO ho (by omega) λv5 w6 x6 φ=>⟨φ.jZ,λb7 w8 hb7 ι=>?_⟩
 have x8':Ex w6 w8:=ι▸Ex.alloc w6 _;have x8:=Ex.trans x6 x8';have s8:w8.heap.size=w6.heap.size+1:=by rw [ι,size_alloc]
 have s6:=x6.size;have bd8:jM w.heap.size w8 b7 O [] λg=>g=b7\/v5.ownBlock=some g:=by
  refine⟨by omega,by omega,.inl rfl,λg G=>?_,λj=>?_,v5,.slice none 0 0,?_,?_,φ.kp (Kp.ah x8' λ _=>False) (λ _ _ h=>h),aM.nil _ _ _,λg G=>⟨.inr G,?_⟩,λg G=>(by cases G),λg _ G=>(by cases G)⟩
  ·rcases G with rfl | G
   ·omega
   ·have :=φ.block g G;omega
  ·rw [ι,hb7];exact aN _ _ _ _
  ·rw [ι,hb7];exact aa rfl
  ·rw [ι,hb7];exact aa rfl
  ·have :=φ.block g G;omega
 obtain⟨bl,vo',vt,ts,rfl,h2,h3,h4,h5,h6,h7,h8⟩:=aB.sub (E:=λg=>g< w.heap.size) hl λg G _=>G
 obtain⟨at_,capt,hvt⟩:=h7.slice;have hlen:ts.length=l.len:=h8.len;have hel:=Lv.cJ l;have hlt:=bS l;have κ:∀i,mY (jP P (l.bk.take i) 0)<=l.tot:=λi=>by
  have h1:=yx ((uS P (l.bk.take i) 0).trans (List.take_sublist i l.bk));have h2:=j4 l.bk;rw [nS]at h2;omega
 refine⟨s,0,rfl,ptr bl,by rw [x8.cell (show s< _ from hls)];exact hcl,bl,0,rfl,vt,by rw [x8.cell (show bl< _ from h3)];exact h5,at_,_,capt,hvt,λx w'=>∃(i:Nat) (J:List Value) (M:Nat->Prop),x=i/\i<=ts.length/\Ex w w'/\jM w.heap.size w' b7 O J M/\af (λg=>g< w.heap.size) w' (elsL (jP P (l.bk.take i) 0)) J,
  λx _=>(ts.length - x).toNat,⟨0,[],_,rfl,Nat.zero_le _,x8,bd8,by rw [List.take_zero,jd];rfl⟩,λx χ hI=>?_⟩
 obtain⟨i,J,M,rfl,hi,γ,H,V⟩:=hI;have hl1:J.length<=l.tot:=by
  have h1:=V.len;have h2:=bS (elsL (jP P (l.bk.take i) 0));rw [j4]at h2;have :=κ i;omega
 refine⟨λhlt1=>?_,λhge1=>?_⟩
 ·have δ:i< ts.length:=by simp only [decide_eq_true_eq]at hlt1;omega
  have hie:i< l.bk.length:=by omega
  obtain⟨bt,ot,z,hvt',hct⟩:∃bt ot z,vt= .slice (some ⟨bt,ot,none⟩) ts.length z/\χ.cell? ⟨bt,ot+i,none⟩=some ts[i]:=by
   rcases h7 with⟨_,h0⟩ | ⟨bt,ot,z,e,hbD,hb',W⟩
   ·rw [h0]at δ;simp at δ
   ·exact⟨bt,ot,z,e,by rw [γ.cell (show bt< _ from hb')];exact W i _ (List.getElem?_eq_getElem δ)⟩
  obtain⟨e,he1,he2,he3⟩:=aH.single h8.bk (List.getElem?_eq_getElem δ);have he4:l.bk[i]=e:=by rw [List.getElem?_eq_getElem hie]at he1;exact Option.some.inj he1
  have hts:jP P (l.bk.take (i+1)) 0=jP P (l.bk.take i) 0++if P i then []else [e]:=by
   rw [List.take_succ_eq_append_getElem hie,xw,he4,Nat.zero_add,List.length_take,Nat.min_eq_left (by omega)]
  refine⟨bt,ot,_,z,hvt',by omega,by omega,ts[i],by rw [Int.toNat_natCast,Nat.mul_one];exact hct,zj (G.ex γ) (by omega) ?_⟩;have hPi:=hP i;refine⟨λhq=>?_,λhq=>⟨by unfold aj;omega,⟨i+1,J,M,by omega,by omega,γ,H,?_⟩,by show((ts.length:Int) - ((i:Int)+1)).toNat< ((ts.length:Int) - i).toNat;omega⟩⟩;rotate_left
  ·have hPt:P i=true:=by rw [hPi];cases h:decide (i∈gl)<;>first | rfl | (rw [h]at hq;cases hq)
   rw [hts,if_pos hPt,List.append_nil];exact V
  have hPt:P i=false:=by rw [hPi];cases h:decide (i∈gl)<;>first | rfl | (rw [h]at hq;cases hq)
  obtain⟨vo1,ψ,d0,d1,d2,d3,d4,d5,d6⟩:=H.sl;have μ:=he3.all;simp only [List.all_cons,List.all_nil,Bool.and_true]at μ;refine⟨ψ,d1,μ,λb30 ε hb30 ν=>?_⟩;have ξ:Ex χ ε:=ν▸Ex.alloc χ _;have s31:ε.heap.size=χ.heap.size+1:=by rw [ν,size_alloc]
  have s21:=γ.size;have ο:=H.ex ξ;refine aM.push (d3.kp (Kp.ah ξ λ _=>False) λ _ _ h=>h) (by omega) (m:=[ts[i]]) (D:=λ _=>True) (.inr ⟨b30,0,1,rfl,trivial,by omega,λi' y hy=>?_⟩) (by simp only [List.all_cons,List.all_nil,Bool.and_true];exact μ) (by omega) (by simp only [List.length_cons,List.length_nil];omega) λv37 w38 ho38 hg38 hn38=>?_
  ·cases i' with
   | zero=>simp only [List.getElem?_cons_zero,Option.some.injEq]at hy;subst hy;rw [ν,hb30];exact aa rfl
   | succ i=>simp at hy
  have k38:Kp ε w38 λg=>ψ.ownBlock=some g:=Kp.aQ hg38 λ _ h=>h
  have e7:=k38.block b7 ο.lt λe=>(d5 b7 e).2 rfl
  have c71:ε.cell? ⟨b7,1,none⟩=some ψ:=by rw [ξ.cell (show b7< _ from H.lt)];exact d1
  refine⟨ho38.jZ,⟨⟨ψ,by rw [World.cell?_of_block (w:=ε) e7];exact c71⟩,by rw [World.frozen?_of_block (w:=ε) e7];exact ο.fr 1⟩,λw40 hw40=>⟨by unfold aj;omega,?_,by show((ts.length:Int) - ((i:Int)+1)).toNat< ((ts.length:Int) - i).toNat;omega⟩⟩;obtain⟨bd40,k40⟩:=ο.Hn c71 k38 ho38 hn38 hw40;have ς:=Ex.trans γ ξ;have x40:Ex w w40:=Ex.below ς (Kp.below k40 ς.size λg G hM=>by have :=(H.mr g hM).1;omega);refine⟨i+1,J++[ts[i]],_,by omega,by omega,x40,bd40,?_⟩;rw [hts,if_neg (by rw [hPt];simp),xM,Cb];exact af.app (af.kp k40 (λg G hM=>by have :=(H.mr g hM).1;omega) (af.ex V ξ)) (af.ex he3 x40)
 ·have δ:i=l.bk.length:=by simp only [decide_eq_false_iff_not]at hge1;omega
  rw [δ,List.take_length]at V;obtain⟨am,capm,hvm⟩:=hm.slice;have hl2:J.length<=l.tot:=hl1;have hmsl:=hms.1;refine⟨am,_,capm,hvm,λx w'=>∃(j:Nat) (ω:List Value) (M2:Nat->Prop),x=j/\j<=mvs.length/\Ex w w'/\jM w.heap.size w' b7 (O++(joinL (ms.take j)).1) ω M2/\af (λg=>g< w.heap.size) w' ((elsL (jP P l.bk 0)).app (joinL (ms.take j)).2) ω,λx _=>(mvs.length - x).toNat,⟨0,J,M,rfl,Nat.zero_le _,γ,by simpa [joinL]using H,by simpa [joinL,Lv.aV]using V⟩,λx υ hI=>?_⟩;obtain⟨j,ω,M2,rfl,hj,ζ,I,β⟩:=hI;refine⟨λhlt2=>?_,λhge2=>?_⟩
  ·have η:j< mvs.length:=by simp only [decide_eq_true_eq]at hlt2;omega
   obtain⟨bm,om,Z,hvm',hcm⟩:∃bm om Z,vm= .slice (some ⟨bm,om,none⟩) mvs.length Z/\υ.cell? ⟨bm,om+j,none⟩=some mvs[j]:=by
    rcases hm with⟨_,h0⟩ | ⟨bt,ot,z,e,hbD,hb',W⟩
    ·rw [h0]at η;simp at η
    ·exact⟨bt,ot,z,e,by rw [ζ.cell (show bt< _ from hb')];exact W j _ (List.getElem?_eq_getElem η)⟩
   obtain⟨L,hL1,hL2,hL3⟩:=aH.single hms (List.getElem?_eq_getElem η);have hjm:j< ms.length:=by omega
   have hL4:ms[j]=L:=by rw [List.getElem?_eq_getElem hjm]at hL1;exact Option.some.inj hL1
   have α:joinL (ms.take (j+1))=((joinL (ms.take j)).1++L.1,(joinL (ms.take j)).2.app L.2):=by
    rw [List.take_succ_eq_append_getElem hjm,pQ,hL4,pv]
   obtain⟨k1,k2⟩:=kR ms (j+1);rw [α]at k1 k2;simp only [List.length_append,Lv.bR]at k1 k2;obtain⟨ts3,hl3,ht3⟩:=aB.ths (aB.ex (aB.sub (E:=λg=>g< w.heap.size) hL3 λg G _=>G) ζ);have h47:=β.len;have h47':=bS ((elsL (jP P l.bk 0)).app (joinL (ms.take j)).2);rw [Lv.bR,j4]at h47';have hp:=κ l.bk.length;rw [List.take_length]at hp;have h3l:=ht3.len;have h3t:=bS L.2;refine⟨bm,om,_,Z,hvm',by omega,by omega,mvs[j],by rw [Int.toNat_natCast,Nat.mul_one];exact hcm,sR I ζ.size hl3 ht3.all (λg G hM=>by have :=(I.mr g hM).1;omega) ⟨by simp only [List.length_append];omega,by omega⟩ λw53 M3 k53 bd53 _=>⟨by unfold aj;omega,?_,by show((mvs.length:Int) - ((j:Int)+1)).toNat< ((mvs.length:Int) - j).toNat;omega⟩⟩;have x53:Ex w w53:=Ex.below ζ (Kp.below k53 ζ.size λg G hM=>by have :=(I.mr g hM).1;omega);refine⟨j+1,ω++ts3,M3,by omega,by omega,x53,?_,?_⟩
   ·rw [α,<-List.append_assoc];exact bd53
   ·rw [α,<-Lv.cn];exact af.app (af.kp k53 (λg G hM=>by have :=(I.mr g hM).1;omega) β) (af.kp k53 (λg G hM=>by have :=(I.mr g hM).1;omega) ht3)
  ·have η:j=ms.length:=by simp only [decide_eq_false_iff_not]at hge2;omega
   rw [η,List.take_length]at I β;have hp:=κ l.bk.length;rw [List.take_length]at hp;have hLv:fL (λg=>g< υ.heap.size) υ (ptr b7) res.1 (af (λg=>g< υ.heap.size) υ res.2):=by
    rw [θ];exact I.HF (λg G _=>G) (af.sub (λg G _=>G) β)
   refine tZ hLv ?_ ?_ huq hfr λw56 x56=>hR w56 (Ex.trans ζ x56)
   ·rw [θ];exact Lv.gA (zT λe he=>Eu hsh e (qE he)) (wU hmsh)
   ·rw [θ];simp only [List.length_append,Lv.bR,j4];omega
end Go.Proofs.YtdecokaadekjnaaGreat
namespace Go.Proofs.YtdecokaadekjnaaGreat
open T
structure HI (O:List Nat)(F:List UInt8)(p:P)(q:U):Prop where
 ae:AE UInt8.toNat p (λz=>(asg O F ρ0 z).toNat) q
 wf:p.wf=true
 eb:Eb 0 p
 fr:∀z,q.Fr z->z∈O\/(z< 26/\ρ0 z∉F)
theorem zb {z:Nat}(h:z< 26):lt (ρ0 z)=true:=ox (by rw [eM h];unfold σ0;omega)
theorem AE.Hv {ρ:UInt8->Nat}{σ:Nat->Nat}:∀{z:List P} {us:List U},j0 (λp q=>AE ρ p σ q) z us->AE ρ (T.parL z) σ (T.parL us)
 | [],[],_=>trivial
 | [p],[q],.cons h _=>h
 | p::G::z,q::H::us,.cons h k=>⟨h,AE.Hv k⟩
theorem j0.mono {X Y:Type}{R S:X->Y->Prop}(z:∀x y,R x y->S x y){l:List X}{m:List Y}(h:j0 R l m):j0 S l m:=by
 induction h with
 | nil=>exact .nil
 | cons h _ G=>exact .cons (z _ _ h) G
theorem j0.Gq {X Y:Type}{R:X->Y->Prop}{l:List X}{m:List Y}(h:j0 R l m){x:X}(z:x∈l):∃y∈m,R x y:=by
 induction h with
 | nil=>cases z
 | cons h _ G=>
  rcases List.mem_cons.1 z with rfl | z
  ·exact⟨_,List.mem_cons_self ..,h⟩
  ·obtain⟨y,H,I⟩:=G z;exact⟨y,List.mem_cons_of_mem _ H,I⟩
theorem j0.A6 {X Y:Type}{R:X->Y->Prop}{l:List X}{m:List Y}(h:j0 R l m){y:Y}(z:y∈m):∃x∈l,R x y:=by
 induction h with
 | nil=>cases z
 | cons h _ G=>
  rcases List.mem_cons.1 z with rfl | z
  ·exact⟨_,List.mem_cons_self ..,h⟩
  ·obtain⟨y,H,I⟩:=G z;exact⟨y,List.mem_cons_of_mem _ H,I⟩
theorem zA:∀{l:List P},(∀p∈l,p.wf=true)->(parL l).wf=true
 | [],_=>rfl
 | [p],h=>h p (by simp)
 | p::q::l,h=>by
  have z:=zA (l:=q::l) λx G=>h x (List.mem_cons_of_mem _ G)
  simp only [parL,wf,Bool.and_eq_true];exact⟨h p (by simp),z⟩
theorem zz {p:P}(z:p.wf=true):∀{l:List UInt8},(∀c∈l,lt c=true)->(resL l p).wf=true
 | [],_=>z
 | c::l,h=>by
  simp only [resL,wf,Bool.and_eq_true];exact⟨ik (h c (by simp)),zz z λx G=>h x (List.mem_cons_of_mem _ G)⟩
theorem zp {k:Nat}:∀{l:List P},(∀p∈l,Eb k p)->Eb k (parL l)
 | [],_=>trivial
 | [p],h=>h p (by simp)
 | p::q::l,h=>⟨h p (by simp),zp (l:=q::l) λx z=>h x (List.mem_cons_of_mem _ z)⟩
theorem yk {c:UInt8}(h:lt c=true)(k:Nat):okn k c:=by have :=bn h;unfold okn;omega
theorem y7 {p:P}(H:∀z,p.Fr z->lt z=true):∀{l:List UInt8} {k:Nat},Eb k p->(∀c∈l,lt c=true)->Eb k (resL l p)
 | [],_,G,_=>G
 | c::l,k,G,h=>by
  refine⟨⟨sM (h c (by simp)),λz I _=>yk (H z (eR.1 I).2) k⟩,y7 H (G.mono (by omega)) λx J=>h x (List.mem_cons_of_mem _ J)⟩
theorem uE {A:Type}(p:T A):∀l:List A,(resL l p).rd=p.rd/\(resL l p).ow=l.length+p.ow/\(resL l p).size=l.length+p.size/\(resL l p).aG=3* l.length+p.aG
 | []=>by simp [resL]
 | c::l=>by
  obtain⟨z,G,H,h4⟩:=uE p l;simp only [resL,rd,ow,size,aG,List.length_cons];refine⟨z,?_,?_,?_⟩<;>omega
theorem xA {O:List Nat}{F:List UInt8}(hl:O.length=F.length)(hF:F.Nodup)(V:∀c∈F,lt c=true)(ho:∀x∈O,26<=x){G:List P}{us:List U}(h:j0 (HI O F) G us)(nd:(O++us.flatMap BV).Nodup)(bv:∀x∈us.flatMap BV,26<=x)
  (hb:(parL G).rd+F.length+(parL G).ow<=64) (θ:(parL G).aG<=1000000000) (ι:F.length<=300):oC 0 (resL F (parL G)) σ0 (resL O (parL us)):=by
 have I:∀z,(resL O (parL us)).Fr z->z< 26/\ρ0 z∉F:=λz J=>by
  obtain⟨h1,h2⟩:=eR.1 J;obtain⟨q,hq,W⟩:=lH.1 h2;obtain⟨p,hp,Z⟩:=h.A6 hq;exact(Z.fr z W).resolve_left h1
 have α:AE UInt8.toNat (parL G) (λz=>(asg O F ρ0 z).toNat) (parL us):=AE.Hv (h.mono λp q k=>k.ae);have ζ:AE UInt8.toNat (resL F (parL G)) (λz=>(ρ0 z).toNat) (resL O (parL us)):=AE.Bu O F ρ0 hl hF (λz J H=>(I z (eR.2 ⟨H,J⟩)).2) α;have ae:AE UInt8.toNat (resL F (parL G)) σ0 (resL O (parL us)):=ζ.congr (λ _ _=>rfl) λz J=>eM (I z J).1
 have β:∀c,(parL G).Fr c->lt c=true:=λc hc=>by
  obtain⟨z,J,e⟩:=α.free c hc;have e:=UInt8.toNat_inj.1 e;obtain⟨q,hq,W⟩:=lH.1 J;obtain⟨p,hp,Z⟩:=h.A6 hq;by_cases H:z∈O
  ·rw [<-e];exact V _ (eW O F ρ0 z H hl)
  ·rw [<-e,bK _ _ _ _ H];exact zb ((Z.fr z W).resolve_left H).1
 have γ:BV (resL O (parL us))=O++us.flatMap BV:=by rw [fV,fP]
 have δ:∀x∈BV (resL O (parL us)),26<=x:=λx hx=>by
  rw [γ]at hx;exact(List.mem_append.1 hx).elim (ho x) (bv x)
 have ε:Uq (resL O (parL us)):=⟨by rw [γ];exact nd,λx hx hf=>by have :=δ x hx;have :=(I x hf).1;omega⟩
 obtain⟨k1,k2,k3,k4⟩:=uE (parL G) F;have η:(resL F (parL G)).wf=true:=zz (zA λp hp=>by obtain⟨q,_,k⟩:=h.Gq hp;exact k.wf) V;refine⟨⟨η,by rw [aT,k4];omega,⟨y7 β (zp λp hp=>by obtain⟨q,_,k⟩:=h.Gq hp;exact k.eb) V,by rw [k1,k2];omega⟩,ae,λy z _ _ e=>by unfold σ0 at e;omega,ε⟩,λz J hG=>?_,⟨ε,λy hy=>(I y (bz hy)).1,δ⟩,λ _ _=>rfl⟩;have :=β z (eR.1 J).2;exact absurd hG (ec (sM this))
theorem Hw:∀{u:U},Uq u->u.Nr->cE u=u.ow/\(u.dead=false->thAll (tp u.ly)=u.ow):=by
 intro u;have one:∀{u:U},u.isS=false->cE u=u.ow->cE u=u.ow/\(u.dead=false->thAll (tp u.ly)=u.ow):=λ{u} W h=>⟨h,λ _=>by rw [fQ W];simp only [tp,thAll,Nat.add_zero];exact h⟩
 have all:∀{u:U},Uq u->u.Nr->cE u=u.frL.length+thAll (tl u.ths):=λ{u} z n=>by unfold cE;rw [iW z n]
 induction u with
 | nil=>intro z n;exact one rfl (by rw [all z n];rfl)
 | snd a b p G=>intro z n;exact one rfl (by rw [all z n];have :=(G z.snd n).1;unfold cE at this;simp only [frL,T.ths,tl,thAll,List.length_nil,ow];omega)
 | rcv a b p G=>intro z n;exact one rfl (by rw [all z n];have :=(G z.rcv n).1;unfold cE at this;simp only [frL,T.ths,tl,thAll,List.length_nil,ow];omega)
 | tau p G=>intro z n;exact one rfl (by rw [all z n];have :=(G z.tau n).1;unfold cE at this;simp only [frL,T.ths,tl,thAll,List.length_nil,ow];omega)
 | mat a b p G=>intro z n;exact one rfl (by rw [all z n];have :=(G z.mat n.2).1;unfold cE at this;simp only [frL,T.ths,tl,thAll,List.length_nil,ow];omega)
 | rep p G=>intro z n;exact one rfl (by rw [all z n];have :=(G z.rep n.2).1;unfold cE at this;simp only [frL,T.ths,tl,thAll,List.length_nil,ow];omega)
 | res x p G=>intro z n;exact one rfl (by rw [all z n];have :=(G z.res n.2).1;rw [all z.res n.2]at this;simp only [frL,T.ths,List.length_cons,ow];omega)
 | par p q G H=>
  intro z n;refine one rfl ?_;have I:=(G z.fJ n.2.1).1;have J:=(H z.fq n.2.2).1;have Z:q.frL=[]:=by
   rcases n.1.2 with h | h
   ·exact iq h
   ·cases q<;>first | rfl | (cases h;done)
  rw [all z.fq n.2.2,Z]at J;rw [all z.fJ n.2.1,iq n.1.1,mO n.1.1]at I;rw [all z n];simp only [frL,T.ths,ow,List.length_nil]at*;rw [show p::q.ths=[p]++q.ths from rfl,gB,bW];omega
 | sum p q G H=>
  intro z n;have I:=(G z.dQ n.2.1).2 n.1.1;have J:=(H z.dB n.2.2).2 n.1.2.1;have V:thAll (tp (T.sum p q).ly)=(T.sum p q).ow:=by
   rw [fQ n.1.2.2]at I;simp only [T.ly,ow];rw [show p::q.ly=[p]++q.ly from rfl,sB,bW,I,J]
  refine⟨?_,λ _=>V⟩;rw [all z n,<-V];simp only [frL,T.ths,tl,thAll,List.length_nil,T.ly];rw [eg z.dQ n.2.1 n.1.1,eg z.dB n.2.2 n.1.2.1,fQ n.1.2.2];simp
theorem kI {A B:Type}[DecidableEq A][DecidableEq B]:∀{p:T A} {q:T B} {ρ:A->Nat} {σ:B->Nat},AE ρ p σ q->p.ow=q.ow/\p.rd=q.rd/\p.size=q.size:=by
 intro p
 induction p with
 | nil=>intro q ρ σ h;cases q<;>first | exact⟨rfl,rfl,rfl⟩ | cases h
 | snd a b p z=>intro q ρ σ h;cases q<;>first | (have :=z h.2.2;simp only [ow,rd,size];omega) | cases h
 | mat a b p z=>intro q ρ σ h;cases q<;>first | (have :=z h.2.2;simp only [ow,rd,size];omega) | cases h
 | rcv a b p z=>intro q ρ σ h;cases q<;>first | (have :=z (h.2 0);simp only [ow,rd,size];omega) | cases h
 | res b p z=>intro q ρ σ h;cases q<;>first | (have :=z (h 0);simp only [ow,rd,size];omega) | cases h
 | tau p z=>intro q ρ σ h;cases q<;>first | (have :=z h;simp only [ow,rd,size];omega) | cases h
 | rep p z=>intro q ρ σ h;cases q<;>first | (have :=z h;simp only [ow,rd,size];omega) | cases h
 | sum p H z G=>intro q ρ σ h;cases q<;>first | (have :=z h.1;have :=G h.2;simp only [ow,rd,size];omega) | cases h
 | par p H z G=>intro q ρ σ h;cases q<;>first | (have :=z h.1;have :=G h.2;simp only [ow,rd,size];omega) | cases h
theorem bP {A:Type}:∀p:T A,p.rd+p.ow+1<=p.size:=by
 intro p
 induction p<;>simp only [rd,ow,size]<;>omega
theorem Dk {A:Type}:∀{p:T A},(∃a b r,Off.snd a b r∈offs p)->p.rd+p.ow+2<=p.size:=by
 intro p
 induction p with
 | snd a b p=>intro _;have :=bP p;simp only [rd,ow,size];omega
 | sum p q z G=>
  rintro⟨a,b,r,h⟩
  rw [offs,List.mem_append]at h;have I:=bP p;have H:=bP q;simp only [rd,ow,size];rcases h with h | h
  ·have :=z ⟨a,b,r,h⟩;omega
  ·have :=G ⟨a,b,r,h⟩;omega
 | rep p z=>
  rintro⟨a,b,r,h⟩
  obtain⟨o,I,H⟩:=List.mem_map.1 h;have:o= .snd a b r:=by cases o<;>simp [Off.stay]at H;simp [H]
  have :=z ⟨a,b,r,this▸I⟩;simp only [rd,ow,size];omega
 | _=>rintro⟨a,b,r,h⟩;simp [offs]at h
def gm {A:Type}(l:List (T A)):Nat:=(l.map T.ow).sum
def iQ {A:Type}(l:List (T A)):Nat:=(l.map T.size).sum
def mA {A:Type}(l:List (T A)):Nat:=(l.map T.rd).sum
def en {A:Type}(l:List (T A)):Nat:=(l.map T.aG).sum
theorem fW {A:Type}:∀(l:List (T A)),(parL l).ow=gm l/\(l≠[]->iQ l+l.length<=(parL l).size+1)/\(parL l).rd<=mA l/\(parL l).aG<=en l+3* l.length+1/\∀R,(∀p∈l,p.rd<=R)->(parL l).rd<=R
 | []=>by simp [parL,gm,iQ,mA,en,ow,rd,aG]
 | [p]=>by simp [parL,gm,iQ,mA,en];omega
 | p::q::l=>by
  obtain⟨I,z,J,h4,h5⟩:=fW (q::l);have z:=z (by simp);simp only [parL,ow,size,rd,aG,gm,iQ,mA,en,List.map_cons,List.sum_cons,List.length_cons]at*;refine⟨by omega,λ _=>by omega,by omega,by omega,λR G=>?_⟩;have :=h5 R λx H=>G x (List.mem_cons_of_mem _ H)
  have :=G p (by simp);omega
structure SU (t:P)(u:U):Prop where
 nr:u.Nr
 nu:Nu u
 fr:∀z,u.Fr z->z< 26
 ae:AE UInt8.toNat t (λy=>(ρ0 y).toNat) u
 len:u.frL.length=t.frL.length
 two:j0 (λp q=>AE UInt8.toNat p (λz=>(asg u.frL t.frL ρ0 z).toNat) q) t.ths u.ths
 fn:t.frL.Nodup
 fl:∀c∈t.frL,lt c=true
 free:∀z,(∃q∈u.ths,q.Fr z)->z∈u.frL\/(z< 26/\ρ0 z∉t.frL)
 nd:(u.frL++u.ths.flatMap BV).Nodup
 ge:∀x∈u.frL++u.ths.flatMap BV,26<=x
 smp:∀q∈u.ths,q.smp=true
 smpP:∀q∈t.ths,q.smp=true
 nrs:∀q∈u.ths,q.Nr
 al:∀p∈t.ths,p.Al λc=>lt c=true
theorem zl {A:Type}:∀{t:T A},t.smp=true->∀q∈t.ths,q.smp=true:=by
 intro t
 induction t with
 | nil=>intro _ q h;cases h
 | res x p G=>intro h;exact G h
 | par p q G z=>
  intro h r hr;simp only [smp,Bool.and_eq_true]at h;rcases List.mem_cons.1 hr with rfl | hr
  ·exact h.1
  ·exact z h.2 r hr
 | _=>intro h q H;cases List.mem_singleton.1 H;exact h
theorem Gp {A:Type}{D:A->Prop}:∀{t:T A},t.Al D->(∀q∈t.ths,q.Al D)/\∀c∈t.frL,D c:=by
 intro t
 induction t with
 | nil=>intro _;exact⟨λq h=>(by cases h),λc h=>(by cases h)⟩
 | res x p H=>
  intro h;obtain⟨I,J⟩:=H h.2;exact⟨I,λc z=>(List.mem_cons.1 z).elim (λe=>e▸h.1) (J c)⟩
 | par p q H G=>
  intro h;refine⟨λr hr=>?_,λc z=>(by cases z)⟩;rcases List.mem_cons.1 hr with rfl | hr
  ·exact h.1
  ·exact(G h.2).1 r hr
 | _=>intro h;exact⟨λq V=>(by cases List.mem_singleton.1 V;exact h),λc z=>(by cases z)⟩
theorem lE.su {t:P}(ok:lE t):SU t (num t e0 0).1:=by
 have nu:=kN ok.al;have H:=kG ok.al;have G:=Fa ok.al;have ae:AE UInt8.toNat t (λy=>(ρ0 y).toNat) (num t e0 0).1:=H.congr (λ _ _=>rfl) λy hy=>(eM (G y hy)).symm
 have nr:(num t e0 0).1.Nr:=AE.nr H (eL t) (λy z _ _ e=>by unfold σ0 at e;omega) ok.nr;obtain⟨hl,I⟩:=ae.open ok.nr;have J:=nr.shape;have V:=ok.nr.shape;have W:BV (num t e0 0).1=(num t e0 0).1.frL++(num t e0 0).1.ths.flatMap BV:=by
  have:BV (num t e0 0).1=BV (resL (num t e0 0).1.frL (parL (num t e0 0).1.ths)):=by rw [<-J]
  rw [this,fV,fP]
 obtain⟨β,γ⟩:=Gp ok.al;refine⟨nr,nu,G,ae,hl.symm,I,(ok.nr.Cl).1,γ,λz ⟨q,hq,hz⟩=>?_,by rw [<-W];exact nu.uq.nd,λx hx=>nu.bv x (by rw [W];exact hx),zl (by rw [<-rY ae];exact ok.smp),zl ok.smp,λq hq=>(nr.ths q hq).2,β⟩;by_cases Z:z∈(num t e0 0).1.frL
 ·exact .inl Z
 ·right;have α:(num t e0 0).1.Fr z:=by rw [J];exact eR.2 ⟨Z,lH.2 ⟨q,hq,hz⟩⟩
  refine⟨G z α,λhF=>?_⟩;obtain⟨c,hc,e⟩:=ae.symm.free z α;have e:=UInt8.toNat_inj.1 e;rw [V]at hc;have :=(eR.1 hc).1;rw [e]at this;exact this hF
section
variable {t:P} {u:U}
theorem SU.inj (su:SU t u){z y:Nat}(J:∃q∈u.ths,q.Fr z)(V:∃q∈u.ths,q.Fr y)(e:asg u.frL t.frL ρ0 z=asg u.frL t.frL ρ0 y):z=y:=by
 by_cases G:z∈u.frL<;>by_cases H:y∈u.frL
 ·exact um u.frL t.frL ρ0 z y G H su.len su.fn e
 ·have I:=eW u.frL t.frL ρ0 z G su.len;rw [e,bK _ _ _ _ H]at I;exact absurd I ((su.free y V).resolve_left H).2
 ·have I:=eW u.frL t.frL ρ0 y H su.len;rw [<-e,bK _ _ _ _ G]at I;exact absurd I ((su.free z J).resolve_left G).2
 ·rw [bK _ _ _ _ G,bK _ _ _ _ H]at e;have W:=((su.free z J).resolve_left G).1;have Z:=((su.free y V).resolve_left H).1;have :=congrArg UInt8.toNat e;rw [eM W,eM Z]at this;unfold σ0 at this;omega
theorem SU.HL (su:SU t u):j0 (HI u.frL t.frL) t.ths u.ths:=by
 have key:∀{G:List P} {us:List U},j0 (λp q=>AE UInt8.toNat p (λz=>(asg u.frL t.frL ρ0 z).toNat) q) G us->(∀p∈G,p∈t.ths)->(∀q∈us,q∈u.ths)->j0 (HI u.frL t.frL) G us:=by
  intro G us h
  induction h with
  | nil=>intro _ _;exact .nil
  | cons h _ J=>
   intro H I;have ha:=su.al _ (H _ (List.mem_cons_self ..));refine .cons ⟨h,T.Al.wf ha,T.Al.eb 0 ha,λz V=>su.free z ⟨_,I _ (List.mem_cons_self ..),V⟩⟩ (J (λp W=>H p (List.mem_cons_of_mem _ W)) λq Z=>I q (List.mem_cons_of_mem _ Z))
 exact key su.two (λ _ h=>h) λ _ h=>h
theorem bN {X:Type}{l m:List X}(h:l.Perm m)(g:X->Nat):(l.map g).sum=(m.map g).sum:=iC (h.map g)
theorem count_flatMap {X:Type}(g:X->List Nat)(x:Nat):∀l:List X,(l.flatMap g).count x=(l.map λy=>(g y).count x).sum
 | []=>rfl
 | y::l=>by simp only [List.flatMap_cons,List.count_append,List.map_cons,List.sum_cons,count_flatMap g x l]
theorem lE.Gn (ok:lE t):t.frL.length+gm t.ths=t.ow/\t.rd=(parL t.ths).rd/\(t.ths≠[]->t.frL.length+iQ t.ths+t.ths.length<=t.size+1)/\t.frL.length+3* t.frL.length+t.ths.length<=400/\en t.ths<=400/\t.ow<=8:=by
 have Z:=ok.nr.shape;obtain⟨G,J,h3,h4⟩:=uE (parL t.ths) t.frL;obtain⟨V,W,k3,k4,_⟩:=fW t.ths;rw [<-Z]at G J h3 h4;have hlen:=ok.len;rw [aT,h4]at hlen;have α:=ok.size;have z:∀l:List P,en l<=(parL l).aG/\l.length<=(parL l).aG:=λl=>by
  have:∀l:List P,en l+3* l.length<=(parL l).aG+3:=by
   intro l
   induction l with
   | nil=>simp [en,parL,T.aG]
   | cons p l ih=>
    cases l with
    | nil=>simp [en,parL]
    | cons q l=>
     simp only [parL,T.aG,en,List.map_cons,List.sum_cons,List.length_cons]at ih|-;omega
  have G:∀p:P,1<=p.aG:=λp=>by cases p<;>simp only [T.aG]<;>omega
  cases l with
  | nil=>simp [en]
  | cons p l=>
   have V:=this (p::l);have W:=G p;have k3:1<=en (p::l):=by simp only [en,List.map_cons,List.sum_cons];omega
   have k4:1<=(p::l).length:=by simp
   omega
 have H:t.ow<=8:=by
  have su:=ok.su;have :=(Hw su.nu.uq su.nr).1;have h8:=ok.all;have h9:=(kI su.ae).1;omega
 refine⟨by rw [J,V],G,λI=>by have :=W I;omega,?_,?_,H⟩
 ·have :=(z t.ths).2;omega
 ·have :=(z t.ths).1;omega
theorem SU.cnt (su:SU t u)(x:Nat):u.frL.count x+(u.ths.map λy=>(BV y).count x).sum<=1:=by
 have z:=List.nodup_iff_count.1 su.nd x;rw [List.count_append,count_flatMap]at z;exact z
theorem dP {A:Type}:∀p:T A,p.aG<=5* p.size:=by intro p;induction p<;>simp only [aG,size]<;>omega
theorem zG (ok:lE t)(su:SU t u){i:Nat}(hi:i< t.ths.length)(α:i< u.ths.length){p:P}{I:U}(ho:Off.tau p∈offs t.ths[i])(β:Off.tau I∈offs u.ths[i])(ε:qb UInt8.toNat (λz=>(asg u.frL t.frL ρ0 z).toNat) (.tau p) (.tau I)):
  oC 0 (resL t.frL (parL (wo t.ths i i++[p]))) σ0 (resL u.frL (parL (wo u.ths i i++[I])))/\(resL u.frL (parL (wo u.ths i i++[I]))).smp=true:=by
 have V:=List.getElem_mem hi;have J:=List.getElem_mem α;obtain⟨sP,_⟩:=aW (su.smpP _ V) _ ho;obtain⟨sU,_⟩:=aW (su.smp _ J) _ β;have bU:=fM _ β;have al:=sP.al _ (su.al _ V);have H:=yQ t.ths i hi;have W:=yQ u.ths i α;obtain⟨n1,n2,n3,n4,n5,n6⟩:=ok.Gn;have η:=ok.size;obtain⟨k1,k2,k3,k4,k5⟩:=fW (wo t.ths i i++[p]);have γ:=H.length_eq;have so:=bN H T.ow;have ss:=bN H T.size;have st:=bN H T.aG;simp only [List.map_cons,List.sum_cons,List.length_cons]at so ss st γ;have s1:=sP.ow;have s2:=sP.size;have s3:=sP.rd;simp only [Off.tm,ow,size,rd]at s1 s2 s3;have θ:=dP p;have ι:=bP t;have ζ:t.ths≠[]:=λe=>by rw [e]at hi;cases hi
 have n3:=n3 ζ;simp only [gm,iQ,en,mA,List.map_append,List.sum_append,List.map_cons,List.map_nil,List.sum_cons,List.sum_nil,List.length_append,List.length_cons,List.length_nil]at*;have κ:(parL (wo t.ths i i++[p])).rd<=t.rd:=by
  refine k5 t.rd λx G=>?_
  rw [n2];have h6:∀x∈t.ths,x.rd<=(parL t.ths).rd:=by
   have:∀l:List P,∀x∈l,x.rd<=(parL l).rd:=by
    intro l
    induction l with
    | nil=>intro x h;cases h
    | cons p l ih=>
     intro x G;cases l with
     | nil=>rw [List.mem_singleton]at G;subst G;exact Nat.le_refl _
     | cons q l=>
      simp only [parL,T.rd];rcases List.mem_cons.1 G with rfl | G
      ·exact Nat.le_max_left _ _
      ·exact Nat.le_trans (ih x G) (Nat.le_max_right _ _)
   exact this t.ths
  rcases List.mem_append.1 G with G | G
  ·exact h6 x (kj G)
  ·rw [List.mem_singleton]at G;subst G;exact Nat.le_trans s3 (h6 _ V)
 refine⟨xA su.len su.fn su.fl (λx G=>su.ge x (List.mem_append_left _ G)) (us:=wo u.ths i i++[I]) ?_ ?_ ?_ ?_ ?_ ?_,?_⟩
 ·refine(su.HL.wo i i).app (.cons ⟨ε,T.Al.wf al,T.Al.eb 0 al,λz hz=>su.free z ⟨_,J,sU.fr z hz⟩⟩ .nil)
 ·rw [List.nodup_iff_count];intro x;have h1:u.frL.count x+(u.ths.map λy=>(BV y).count x).sum<=1:=su.cnt x;have h2:(BV I).count x<=(BV u.ths[i]).count x:=bU.count_le x;have h3:(u.ths.map λy=>(BV y).count x).sum=(BV u.ths[i]).count x+((wo u.ths i i).map λy=>(BV y).count x).sum:=by
   have :=bN W λy=>(BV y).count x
   simpa only [List.map_cons,List.sum_cons]using this
  have h4:(u.frL++(wo u.ths i i++[I]).flatMap BV).count x=u.frL.count x+(((wo u.ths i i).map λy=>(BV y).count x).sum+(BV I).count x):=by
   rw [List.count_append,count_flatMap];simp
  have:u.frL.count x+(((wo u.ths i i).map λy=>(BV y).count x).sum+(BV I).count x)<=1:=by omega
  exact Nat.le_trans (Nat.le_of_eq h4) this
 ·intro x G;refine su.ge x (List.mem_append_right _ ?_);obtain⟨q,Z,δ⟩:=List.mem_flatMap.1 G;rcases List.mem_append.1 Z with Z | Z
  ·exact List.mem_flatMap.2 ⟨q,kj Z,δ⟩
  ·rw [List.mem_singleton]at Z;subst Z;exact List.mem_flatMap.2 ⟨_,J,bU.subset δ⟩
 ·omega
 ·omega
 ·omega
 ·rw [ra];refine rF λx G=>?_
  rcases List.mem_append.1 G with G | G
  ·exact su.smp x (kj G)
  ·rw [List.mem_singleton]at G;subst G;exact sU.smp (su.smp _ J)
end
section
variable {t:P} {u:U}
theorem SU.j9 (su:SU t u){k:Nat}(I:k< u.ths.length){r:U}(J:Sub r u.ths[k])(hb:(BV r).Sublist (BV u.ths[k])):Uq r:=by
 have hm:=List.getElem_mem I;have z:(BV u.ths[k]).Sublist (u.ths.flatMap BV):=by
  rw [List.flatMap_def];exact List.sublist_flatten_of_mem (List.mem_map_of_mem hm)
 have G:=(List.nodup_append.1 su.nd)
 refine⟨G.2.1.sublist (hb.trans z),λx V W=>?_⟩;have H:=z.subset (hb.subset V);have Z:=su.ge x (List.mem_append_right _ H);rcases su.free x ⟨_,hm,J.fr x W⟩with h | h
 ·exact G.2.2 x h x H rfl
 ·omega
theorem Hr {A:Type}:∀l:List (T A),mA l+gm l+l.length<=iQ l
 | []=>by simp [mA,gm,iQ]
 | p::l=>by
  have z:=Hr l;have G:=bP p;simp only [mA,gm,iQ,List.map_cons,List.sum_cons,List.length_cons]at*;omega
theorem DS {A:Type}:∀l:List (T A),∀x∈l,x.rd<=(parL l).rd:=by
 intro l
 induction l with
 | nil=>intro x h;cases h
 | cons p l G=>
  intro x z;cases l with
  | nil=>cases List.mem_singleton.1 z;exact Nat.le_refl _
  | cons q l=>
   simp only [parL,T.rd];rcases List.mem_cons.1 z with rfl | z
   ·exact Nat.le_max_left _ _
   ·exact Nat.le_trans (G x z) (Nat.le_max_right _ _)
theorem vS {p q:P}(h:p.shp=q.shp):p.rd=q.rd/\p.ow=q.ow/\p.aG=q.aG:=by
 have key:∀p:P,p.shp.rd=p.rd/\p.shp.ow=p.ow:=λp=>by
  unfold T.shp
  induction p<;>simp_all [T.map,T.rd,T.ow]
 refine⟨by rw [<-(key p).1,<-(key q).1,h],by rw [<-(key p).2,<-(key q).2,h],iM h⟩
def bD {A:Type}(l:List (T A))(i k:Nat)(p q:T A)(s:Bool)(x:T A):List (T A):=wo l i k++[p,q]++if s then [x]else []
theorem xI (ok:lE t)(su:SU t u){i k:Nat}(hi:i< t.ths.length)(θ:i< u.ths.length)(hk:k< t.ths.length)(β:k< u.ths.length)(ι:i≠k){a b:UInt8}{p:P}{c d:Nat}{p':U}(ho:Off.snd a b p∈offs t.ths[i])(κ:Off.snd c d p'∈offs u.ths[i])
  (hae:qb UInt8.toNat (λz=>(asg u.frL t.frL ρ0 z).toNat) (.snd a b p) (.snd c d p')) {e x:UInt8} {q:P} {s:Bool} {e' x':Nat} {H:U} {s':Bool} (hr:Off.rcv e x q s∈offs t.ths[k]) (μ:Off.rcv e' x' H s'∈offs u.ths[k])
  (har:qb UInt8.toNat (λz=>(asg u.frL t.frL ρ0 z).toNat) (.rcv e x q s) (.rcv e' x' H s')) {f:Nat->Nat} {N:Nat} (hf:DC N H x' d f) (hN:∀z,(z∈u.frL\/z∈u.ths.flatMap BV\/∃q∈u.ths,q.Fr z)->z<=N) (h25:25<=N) {Z:P} (γ:il 0 q x b Z):
  oC 0 (resL t.frL (parL (bD t.ths i k p Z s t.ths[k]))) σ0 (resL u.frL (parL (bD u.ths i k p' (H.map f) s' u.ths[k])))/\(resL u.frL (parL (bD u.ths i k p' (H.map f) s' u.ths[k]))).smp=true:=by
 obtain⟨_,hbd,ν⟩:=hae;obtain⟨_,ξ,rfl⟩:=har;have ε:=List.getElem_mem hi;have W:=List.getElem_mem θ;have ζ:=List.getElem_mem hk;have J:=List.getElem_mem β;obtain⟨sP,_⟩:=aW (su.smpP _ ε) _ ho;obtain⟨sU,_⟩:=aW (su.smp _ W) _ κ;obtain⟨rP,rR⟩:=aW (su.smpP _ ζ) _ hr;obtain⟨rU,_⟩:=aW (su.smp _ J) _ μ;have bU:=fM _ κ;have cU:=fM _ μ;have al:=(sP.al _ (su.al _ ε)).2.2;have G:=ya t.ths i k hi hk ι;have η:=ya u.ths i k θ β ι;have ο:=su.j9 β rU cU;have δ:Uq H:=ο.rcv;have ς:x'∉BV H:=ο.ld;have hd:d<=N:=hN d (.inr (.inr ⟨_,W,sU.fr d (.inr (.inl rfl))⟩));have υ:∀z,H.Fr z->z<=N:=λz I=>by
  by_cases h:z=x'
  ·subst h;exact hN z (.inr (.inl (List.mem_flatMap.2 ⟨_,J,cU.subset (List.mem_cons_self ..)⟩)))
  ·exact hN z (.inr (.inr ⟨_,J,rU.fr z (.inr ⟨h,I⟩)⟩))
 have φ:∀z∈BV H,z<=N:=λz I=>hN z (.inr (.inl (List.mem_flatMap.2 ⟨_,J,cU.subset (List.mem_cons_of_mem _ I)⟩)))
 have ae2:AE UInt8.toNat Z (λz=>(asg u.frL t.frL ρ0 z).toNat) (H.map f):=by
  have k1:=(γ.ok UInt8.toNat).symm;have k2:=ξ b.toNat;have k3:=hf.ae δ ς υ hd φ (λz=>(asg u.frL t.frL ρ0 z).toNat);rw [show b.toNat=(asg u.frL t.frL ρ0 d).toNat from hbd]at k1 k2;exact(k1.trans k2).trans k3
 have χ:∀z,(H.map f).Fr z->∃q∈u.ths,q.Fr z:=λz I=>by
  rcases hf.fr δ z I with h | ⟨h,h'⟩
  ·subst h;exact⟨_,W,sU.fr z (.inr (.inl rfl))⟩
  ·exact⟨_,J,rU.fr z (.inr ⟨h,h'⟩)⟩
 obtain⟨n1,n2,n3,n4,n5,n6⟩:=ok.Gn;have hsz:=ok.size;obtain⟨g1,g2,g3⟩:=vS γ.shp;have ψ:=G.length_eq;have so:=bN G T.ow;have ss:=bN G T.size;have st:=bN G T.aG;have sr:=bN G T.rd;simp only [List.map_cons,List.sum_cons,List.length_cons]at so ss st sr ψ;have s1:=sP.ow;have s2:=sP.size;have s3:=sP.rd;have r1:=rP.ow;have r2:=rP.size;have r3:=rP.rd;simp only [Off.tm,ow,size,rd]at s1 s2 s3 r1 r2 r3;have tl1:=dP p;have tl2:=dP q;have hro:=bP t;have hne:t.ths≠[]:=λe=>by rw [e]at hi;cases hi
 have n3:=n3 hne;have sum:=Hr (wo t.ths i k);have snd2:=Dk ⟨a,b,p,ho⟩;have rk:=bP t.ths[k];have rdt:=(fW t.ths).2.2.1;have h6:=DS t.ths;have hrd:(parL (bD t.ths i k p Z s t.ths[k])).rd<=t.rd:=by
  refine(fW _).2.2.2.2 t.rd λx V=>?_
  rw [n2];unfold bD at V;rcases List.mem_append.1 V with V | V
  ·rcases List.mem_append.1 V with V | V
   ·exact h6 x (kj V)
   ·rcases List.mem_cons.1 V with rfl | V
    ·exact Nat.le_trans s3 (h6 _ ε)
    ·cases List.mem_singleton.1 V;have :=h6 _ ζ;omega
  ·cases s
   ·cases V
   ·cases List.mem_singleton.1 V;exact h6 _ ζ
 obtain⟨k1,_,_,k4,_⟩:=fW (bD t.ths i k p Z s t.ths[k]);have kow:gm (bD t.ths i k p Z s t.ths[k])=gm (wo t.ths i k)+p.ow+Z.ow+if s then t.ths[k].ow else 0:=by
  unfold bD gm;cases s<;>simp<;>omega
 have ktl:en (bD t.ths i k p Z s t.ths[k])+3* (bD t.ths i k p Z s t.ths[k]).length<=en (wo t.ths i k)+3* (wo t.ths i k).length+p.aG+Z.aG+t.ths[k].aG+9:=by
  unfold bD en;cases s<;>simp<;>omega
 have hbound:(parL (bD t.ths i k p Z s t.ths[k])).rd+t.frL.length+(parL (bD t.ths i k p Z s t.ths[k])).ow<=64:=by
  rw [k1,kow];cases s
  ·simp only [Bool.false_eq_true,if_false,gm,iQ,mA]at*;omega
  ·have e2:=rR e x q rfl;have e3:t.ths[k].ow=q.ow/\t.ths[k].rd=q.rd+1/\t.ths[k].size=q.size+2:=by rw [e2];simp [T.ow,T.rd,T.size]
   have rq:=bP q;simp only [if_true,gm,iQ,mA]at*;omega
 refine⟨xA su.len su.fn su.fl (λx V=>su.ge x (List.mem_append_left _ V)) (us:=bD u.ths i k p' (H.map f) s u.ths[k]) ?_ ?_ ?_ hbound ?_ ?_,?_⟩
 ·unfold bD;refine((su.HL.wo i k).app (.cons ⟨ν,T.Al.wf al,T.Al.eb 0 al,λz I=>su.free z ⟨_,W,sU.fr z (.inr (.inr I))⟩⟩ (.cons ⟨ae2,γ.wf,γ.eb,λz I=>su.free z (χ z I)⟩ .nil))).app ?_;cases s
  ·exact .nil
  ·exact .cons (su.HL.get hk β) .nil
 ·rw [List.nodup_iff_count];intro z;have h1:u.frL.count z+(u.ths.map λy=>(BV y).count z).sum<=1:=su.cnt z;have h2:(BV p').count z<=(BV u.ths[i]).count z:=bU.count_le z;have h3:(u.ths.map λy=>(BV y).count z).sum=(BV u.ths[i]).count z+((BV u.ths[k]).count z+((wo u.ths i k).map λy=>(BV y).count z).sum):=by
   have :=bN η λy=>(BV y).count z
   simpa only [List.map_cons,List.sum_cons]using this
  have h4:(u.frL++(bD u.ths i k p' (H.map f) s u.ths[k]).flatMap BV).count z=u.frL.count z+(((wo u.ths i k).map λy=>(BV y).count z).sum+(BV p').count z+(BV (H.map f)).count z+if s then(BV u.ths[k]).count z else 0):=by
   unfold bD;rw [List.count_append,count_flatMap];cases s<;>simp<;>omega
  have ω:(BV (H.map f)).count z=0\/(N< z/\(BV (H.map f)).count z<=1):=by
   rw [fI];by_cases h:z∈(BV H).map f
   ·right;obtain⟨y,hy,e⟩:=List.mem_map.1 h;refine⟨by rw [<-e];exact hf.fb y hy,?_⟩;have:((BV H).map f).Nodup:=by
     have:∀l:List Nat,l.Nodup->(∀z∈l,z∈BV H)->(l.map f).Nodup:=by
      intro l
      induction l with
      | nil=>intro _ _;exact List.nodup_nil
      | cons y l ih=>
       intro hn hm;have hn:=List.nodup_cons.1 hn;refine List.nodup_cons.2 ⟨λh=>?_,ih hn.2 λz I=>hm z (List.mem_cons_of_mem _ I)⟩;obtain⟨z,I,e⟩:=List.mem_map.1 h;have :=hf.fi z (hm z (List.mem_cons_of_mem _ I)) y (hm y (List.mem_cons_self ..)) e;exact hn.1 (this▸I)
     exact this (BV H) δ.nd λ _ h=>h
    exact List.nodup_iff_count.1 this z
   ·exact .inl (List.count_eq_zero.2 h)
  have hbig:N< z->u.frL.count z+(u.ths.map λy=>(BV y).count z).sum=0:=λI=>by
   rw [<-count_flatMap,<-List.count_append];refine List.count_eq_zero.2 λhm=>?_
   have :=hN z ((List.mem_append.1 hm).imp id .inl);omega
  have:u.frL.count z+(((wo u.ths i k).map λy=>(BV y).count z).sum+(BV p').count z+(BV (H.map f)).count z+if s then(BV u.ths[k]).count z else 0)<=1:=by
   rcases ω with h | ⟨I,h⟩
   ·cases s<;>simp only [if_true,Bool.false_eq_true,if_false]<;>omega
   ·have :=hbig I;cases s<;>simp only [if_true,Bool.false_eq_true,if_false]<;>omega
  exact Nat.le_trans (Nat.le_of_eq h4) this
 ·intro z I;obtain⟨r,hr2,α⟩:=List.mem_flatMap.1 I;have old:∀r∈u.ths,z∈BV r->26<=z:=λr h1 h2=>su.ge z (List.mem_append_right _ (List.mem_flatMap.2 ⟨r,h1,h2⟩))
  unfold bD at hr2;rcases List.mem_append.1 hr2 with h | h
  ·rcases List.mem_append.1 h with h | h
   ·exact old r (kj h) α
   ·rcases List.mem_cons.1 h with rfl | h
    ·exact old _ W (bU.subset α)
    ·cases List.mem_singleton.1 h;rw [fI]at α;obtain⟨y,hy,e⟩:=List.mem_map.1 α;have :=hf.fb y hy;omega
  ·cases s
   ·cases h
   ·cases List.mem_singleton.1 h;exact old _ J α
 ·simp only [en,iQ,gm]at*;omega
 ·omega
 ·rw [ra];have hsm:(H.map f).smp=true:=by
   have h1:=hf.ae δ ς υ hd φ id;rw [<-rY h1];have :=rU.smp (su.smp _ J);exact this
  refine rF λy hy=>?_
  unfold bD at hy;rcases List.mem_append.1 hy with h | h
  ·rcases List.mem_append.1 h with h | h
   ·exact su.smp y (kj h)
   ·rcases List.mem_cons.1 h with rfl | h
    ·exact sU.smp (su.smp _ W)
    ·cases List.mem_singleton.1 h;exact hsm
  ·cases s
   ·cases h
   ·cases List.mem_singleton.1 h;exact su.smp _ J
end
end Go.Proofs.YtdecokaadekjnaaGreat
namespace Go.Proofs.YtdecokaadekjnaaGreat
open Go Go.RowKit T
theorem Gx (w:World){t:P}{k:Nat}{old nw:UInt8}(ok:Ok t)(eb:Eb k t)(hb:k+t.bd<=64)(z:nm nw=true)(G:okn k nw):∃q,il k t old nw q:=by
 have h:=gj t.size (old:=old) (Nat.le_refl _) ok eb hb z G (w:=w) (R:=λ _ _=>∃q,il k t old nw q) λq w' _ H=>⟨q,H⟩
 obtain⟨e,w',fr,hr,_⟩:=h [];obtain⟨_,hr⟩:=hr;exact hr.2
def Ff (N:Nat)(q:U)(x b:Nat):Nat->Nat:=λz=>if z=x then b else if z∈BV q then z+N+1 else z
theorem xT (N:Nat){q:U}{x:Nat}(b:Nat)(I:x∉BV q):DC N q x b (Ff N q x b):=by
 refine⟨if_pos rfl,λz G J=>?_,λz H=>?_,λz H y V e=>?_⟩
 ·simp only [Ff,if_neg G,if_neg J]
 ·have G:z≠x:=λe=>I (e▸H)
  simp only [Ff,if_neg G,if_pos H];omega
 ·have G:z≠x:=λe=>I (e▸H)
  have J:y≠x:=λe=>I (e▸V)
  simp only [Ff,if_neg G,if_pos H,if_neg J,if_pos V]at e;omega
def NN (u:U):Nat:=(BV u).sum+26
def G2 (u:U)(i:Nat)(p:U):U:=resL u.frL (parL (wo u.ths i i++[p]))
def Bn (u:U)(i k:Nat)(p q:U)(s:Bool):U:=resL u.frL (parL (bD u.ths i k p q s (u.ths.getD k .nil)))
def E3 (u:U)(i k c d:Nat)(p:U):Off Nat->List U
 | .rcv e x q s=>if e=c then [Bn u i k p (q.map (Ff (NN u) q x d)) s]else []
 | _=>[]
def E2 (u:U)(i c d:Nat)(p:U)(k:Nat):List U:=if i=k then []else(offs (u.ths.getD k .nil)).flatMap (E3 u i k c d p)
def E1 (u:U)(i:Nat):Off Nat->List U
 | .tau p=>[G2 u i p]
 | .snd c d p=>(List.range u.ths.length).flatMap (E2 u i c d p)
 | .rcv .. =>[]
def E0 (u:U)(i:Nat):List U:=(offs (u.ths.getD i .nil)).flatMap (E1 u i)
def gu (u:U):List U:=(List.range u.ths.length).flatMap (E0 u)
noncomputable def outs (l:List U):List Tx:=l.map λv=>(jN v).getD []
noncomputable def iA (l:List U):Bool:=l.all λv=>(jN v).isSome
noncomputable def Bo (u:U):Option (List Tx):=if iA (gu u)then some (dd (aX (outs (gu u))))else none
theorem xE (l m:List U):outs (l++m)=outs l++outs m:=List.map_append ..
theorem tU (l m:List U):iA (l++m)=(iA l&&iA m):=List.all_append ..
section
variable {t:P} {u:U}
theorem SU.bound (su:SU t u):∀z,(z∈u.frL\/z∈u.ths.flatMap BV\/∃q∈u.ths,q.Fr z)->z<=NN u:=by
 have H:=su.nr.shape;have G:BV u=u.frL++u.ths.flatMap BV:=by
  have:BV u=BV (resL u.frL (parL u.ths)):=by rw [<-H]
  rw [this,fV,fP]
 have key:∀z∈BV u,z<=NN u:=λz I=>by have :=uI I;unfold NN;omega
 intro z I;rcases I with h | h | h
 ·exact key z (by rw [G];exact List.mem_append_left _ h)
 ·exact key z (by rw [G];exact List.mem_append_right _ h)
 ·rcases su.free z h with h | h
  ·exact key z (by rw [G];exact List.mem_append_left _ h)
  ·unfold NN;omega
theorem C9 (ok:lE t)(su:SU t u){i:Nat}(I:i< u.ths.length){p:U}(J:Off.tau p∈offs u.ths[i]):Nu (G2 u i p)/\(G2 u i p).smp=true:=by
 have hl:=su.two.len;have z:i< t.ths.length:=by omega
 obtain⟨V,H,G⟩:=(jB (su.two.get z I)).A6 J;cases V<;>try cases G
 obtain⟨W,Z⟩:=zG ok su z I H J G;exact⟨W.nu,Z⟩
theorem Hi (ok:lE t)(su:SU t u){k:Nat}(z:k< t.ths.length){e x:UInt8}{q:P}{s:Bool}(hr:Off.rcv e x q s∈offs t.ths[k]):Ok q/\Eb 0 q/\0+q.bd<=64:=by
 have hm:=List.getElem_mem z;obtain⟨sub,_⟩:=aW (su.smpP _ hm) _ hr;have al:=sub.al _ (su.al _ hm);have J:=sub.size;obtain⟨_,_,G,_,_,_⟩:=ok.Gn;have G:=G (λe=>by rw [e]at z;cases z);have V:=ok.size;have H:t.ths[k].size<=iQ t.ths:=uI (List.mem_map.2 ⟨_,hm,rfl⟩);simp only [Off.tm,size]at J;have :=bP q;have :=T.wm q;have :=dP q;have I:1<=t.ths.length:=by omega
 exact⟨⟨T.Al.wf al.2.2,by rw [aT];omega⟩,T.Al.eb 0 al.2.2,by omega⟩
theorem qB (w:World)(ok:lE t)(su:SU t u){i k:Nat}(hi:i< u.ths.length)(hk:k< u.ths.length)(W:i≠k){c d:Nat}{p:U}(ho:Off.snd c d p∈offs u.ths[i]){e x:Nat}{q:U}{s:Bool}(hr:Off.rcv e x q s∈offs u.ths[k])
  {f:Nat->Nat} {N:Nat} (hf:DC N q x d f) (hN:∀z,(z∈u.frL\/z∈u.ths.flatMap BV\/∃q∈u.ths,q.Fr z)->z<=N) (Z:25<=N):Nu (resL u.frL (parL (bD u.ths i k p (q.map f) s u.ths[k])))/\(resL u.frL (parL (bD u.ths i k p (q.map f) s u.ths[k]))).smp=true:=by
 have hl:=su.two.len;have G:i< t.ths.length:=by omega
 have H:k< t.ths.length:=by omega
 obtain⟨o',I,α⟩:=(jB (su.two.get G hi)).A6 ho;obtain⟨r',J,β⟩:=(jB (su.two.get H hk)).A6 hr;cases o'<;>try cases α
 cases r'<;>try cases β
 rename_i a b p' γ δ e' x' q' s' ε ζ;obtain⟨h1,h2,h3⟩:=Hi ok su H J;have V:=List.getElem_mem G;obtain⟨sP,_⟩:=aW (su.smpP _ V) _ I;have al:=(sP.al _ (su.al _ V)).2.1;obtain⟨q2,η⟩:=Gx w h1 h2 h3 (old:=x') (nw:=b) (ik al) (yk al 0);obtain⟨k1,k2⟩:=xI ok su G hi H hk W I ho ⟨γ,δ⟩ J hr ⟨ε,ζ⟩ hf hN Z η;exact⟨k1.nu,k2⟩
theorem AE.Ha {p q:U}(h:∀σ:Nat->Nat,AE σ p σ q):∀(o:List Nat) (σ:Nat->Nat),AE σ (resL o p) σ (resL o q)
 | [],σ=>h σ
 | x::o,σ=>λv=>AE.Ha h o (aD σ x v)
theorem A5 (w:World)(ok:lE t)(su:SU t u){i k:Nat}(hi:i< u.ths.length)(hk:k< u.ths.length)(I:i≠k){c d:Nat}{p:U}(ho:Off.snd c d p∈offs u.ths[i]){e x:Nat}{q:U}{s:Bool}(hr:Off.rcv e x q s∈offs u.ths[k])
  {f f':Nat->Nat} {N N':Nat} (hf:DC N q x d f) (hN:∀z,(z∈u.frL\/z∈u.ths.flatMap BV\/∃q∈u.ths,q.Fr z)->z<=N) (α:25<=N) (J:DC N' q x d f') (V:∀z,(z∈u.frL\/z∈u.ths.flatMap BV\/∃q∈u.ths,q.Fr z)->z<=N') (W:25<=N'):
  jN (resL u.frL (parL (bD u.ths i k p (q.map f) s u.ths[k])))=jN (resL u.frL (parL (bD u.ths i k p (q.map f') s u.ths[k]))):=by
 have G:=List.getElem_mem hk;have Z:=List.getElem_mem hi;obtain⟨sU,_⟩:=aW (su.smp _ Z) _ ho;obtain⟨rU,_⟩:=aW (su.smp _ G) _ hr;have cU:=fM _ hr;have H:=su.j9 hk rU cU;have nq:∀M,(∀z,(z∈u.frL\/z∈u.ths.flatMap BV\/∃q∈u.ths,q.Fr z)->z<=M)->(∀z,q.Fr z->z<=M)/\d<=M/\∀z∈BV q,z<=M:=λM hM=>by
  refine⟨λz hz=>?_,hM d (.inr (.inr ⟨_,Z,sU.fr d (.inr (.inl rfl))⟩)),λz hz=>hM z (.inr (.inl (List.mem_flatMap.2 ⟨_,G,cU.subset (List.mem_cons_of_mem _ hz)⟩)))⟩;by_cases h:z=x
  ·subst h;exact hM z (.inr (.inl (List.mem_flatMap.2 ⟨_,G,cU.subset (List.mem_cons_self ..)⟩)))
  ·exact hM z (.inr (.inr ⟨_,G,rU.fr z (.inr ⟨h,hz⟩)⟩))
 obtain⟨a1,a2,a3⟩:=nq N hN;obtain⟨b1,b2,b3⟩:=nq N' V;have hq:∀σ:Nat->Nat,AE σ (q.map f) σ (q.map f'):=λσ=>(hf.ae H.rcv H.ld a1 a2 a3 σ).symm.trans (J.ae H.rcv H.ld b1 b2 b3 σ)
 refine BP (qB w ok su hi hk I ho hr hf hN α).1 (qB w ok su hi hk I ho hr J V W).1 (AE.Ha (λσ=>?_) _ _);have refl:∀l:List U,j0 (λp q=>AE σ p σ q) l l:=λl=>by
  induction l with
  | nil=>exact .nil
  | cons p l ih=>exact .cons (AE.refl p σ) ih
 have:j0 (λp q=>AE σ p σ q) (bD u.ths i k p (q.map f) s u.ths[k]) (bD u.ths i k p (q.map f') s u.ths[k]):=by
  unfold bD;exact((refl _).app (.cons (AE.refl p σ) (.cons (hq σ) .nil))).app (refl _)
 have key:∀{ps us:List U},j0 (λp q=>AE σ p σ q) ps us->AE σ (T.parL ps) σ (T.parL us):=by
  intro ps us h
  induction h with
  | nil=>trivial
  | cons h k ih=>
   cases k with
   | nil=>exact h
   | cons h' k'=>exact⟨h,ih⟩
 exact key this
theorem cG {l:List U}{k:Nat}(h:k< l.length):l.getD k .nil=l[k]:=by simp [List.getD,h]
theorem C1 (w:World)(ok:lE t)(su:SU t u):∀v∈gu u,Nu v/\v.smp=true:=by
 intro v z;unfold gu E0 at z;obtain⟨i,I,z⟩:=List.mem_flatMap.1 z;rw [List.mem_range]at I;rw [cG I]at z;obtain⟨o,Z,z⟩:=List.mem_flatMap.1 z;cases o with
 | tau p=>cases List.mem_singleton.1 z;exact C9 ok su I Z
 | rcv=>cases z
 | snd c d p=>
  obtain⟨k,G,z⟩:=List.mem_flatMap.1 z;rw [List.mem_range]at G;unfold E2 at z;split at z
  ·cases z
  ·rename_i J;rw [cG G]at z;obtain⟨r,hr,z⟩:=List.mem_flatMap.1 z;cases r with
   | tau=>cases z
   | snd=>cases z
   | rcv e x q s=>
    have z:v∈(if e=c then [Bn u i k p (q.map (Ff (NN u) q x d)) s]else []):=z;by_cases H:e=c
    ·rw [if_pos H]at z;cases List.mem_singleton.1 z;unfold Bn;rw [cG G];have V:=List.getElem_mem G;have W:=su.j9 G (aW (su.smp _ V) _ hr).1 (fM _ hr);exact qB w ok su I G J Z hr (xT (NN u) d W.ld) su.bound (by unfold NN;omega)
    ·rw [if_neg H]at z;cases z
end
end Go.Proofs.YtdecokaadekjnaaGreat
