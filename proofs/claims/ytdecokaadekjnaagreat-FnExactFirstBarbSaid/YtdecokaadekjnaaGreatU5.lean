/- Part 5 of a proof of what the last text states; no condition. -/
import Derived.Test.YtdecokaadekjnaaGreatU4
namespace Go.Proofs.YtdecokaadekjnaaGreat
open Go
set_option maxRecDepth 100000
theorem sX (p1:ay)(w:World)(R:Value->Bool->World->Prop)(h:BJ 143 #[(.string (ab p1))] w λs2 s3 w4=>cB 144 #[(.string (ab p1))] w4 λv5 w6=>bM v5 λl8=>A5 true (.slice none 0 0) 0 w6 λI10 m11 f12 o13 V ς=>ai (decide (V< (l8:Int))) (aJ v5 V λb16 o17=>bZ ς b16 (o17+V.toNat* 1) λs20=>cB 145 #[(.string (ab s20))] ς λv21 w22=>bM v21 λl24=>A5 f12 o13 0 w22 λI26 m27 f28 κ J γ=>ai (decide (J< (l24:Int))) (aJ v21 J λυ φ=>∃c36:UInt8,∃c37:UInt8,∃c38:UInt8,∃s39:ay,∃q40:Bool,(World.cell? γ ⟨υ,(φ+J.toNat* 5),none⟩=some (.int .u8 c36.toNat)/\World.cell? γ ⟨υ,((φ+J.toNat* 5)+1),none⟩=some (.int .u8 c37.toNat)/\World.cell? γ ⟨υ,(((φ+J.toNat* 5)+1)+1),none⟩=some (.int .u8 c38.toNat)/\World.cell? γ ⟨υ,((((φ+J.toNat* 5)+1)+1)+1),none⟩=some (.string (ab s39))/\World.cell? γ ⟨υ,(((((φ+J.toNat* 5)+1)+1)+1)+1),none⟩=some (.bool q40)/\True)/\aN γ (.cells #[(.int .u8 0),(.int .u8 0),(.int .u8 0),(.string ⟨#[]⟩),(.bool false)] 166) λμ w42=>xh w42 μ 0 5 [(.int .u8 c36.toNat),(.int .u8 c37.toNat),(.int .u8 c38.toNat),(.string (ab s39)),(.bool q40)] λw43=>∃J44:Bool->Value->World->Prop,(gg w43 μ 0 λc45=>ai (decide (c45=126)) (bO w43 λζ w47=>iq ζ μ 3 λs48=>(cB 152 #[v5,(.int .i64 V),(.int .i64 V)] w47 λv49 w50=>ζ w50/\aN w50 (.cells #[(.string (ab s48))] 9) λb51 w52=>ζ w52/\eu 9 1 16 w52 v49 (.slice (some ⟨b51,0,none⟩) 1 1) λv58 w59=>ζ w59/\hZ 151 #[(.string (ab s2)),v58] w59 λs60 q61 w62=>ζ w62/\∃J63:Bool->ay->World->Prop,(ai f28 (J63 q61 s60 w62) (J63 false s60 w62))/\∀(f64:Bool) (n65:ay) (w66:World),J63 f64 n65 w66->aN w66 (.cells #[(.string (ab n65))] 9) λb67 w68=>eu 9 1 16 w68 κ (.slice (some ⟨b67,0,none⟩) 1 1) λv74 w75=>J44 f64 v74 w75)/\(aN w47 (.cells #[(.string (ab s48))] 9) λb76 w77=>ζ w77/\cB 152 #[v5,(.int .i64 V),(.int .i64 V)] w77 λv78 w79=>ζ w79/\eu 9 1 16 w79 v78 (.slice (some ⟨b76,0,none⟩) 1 1) λv85 w86=>ζ w86/\hZ 151 #[(.string (ab s2)),v85] w86 λs87 q88 w89=>ζ w89/\∃J90:Bool->ay->World->Prop,(ai f28 (J90 q88 s87 w89) (J90 false s87 w89))/\∀(f91:Bool) (n92:ay) (w93:World),J90 f91 n92 w93->aN w93 (.cells #[(.string (ab n92))] 9) λb94 w95=>eu 9 1 16 w95 κ (.slice (some ⟨b94,0,none⟩) 1 1) λv101 w102=>J44 f91 v101 w102)) (J44 f28 κ w43))/\∀(f103:Bool) (ν:Value) (η:World),J44 f103 ν η->gg η μ 0 λc106=>ai (!decide (c106=33)) (aj (J+1)/\I26 f103 ν (J+1) η/\m27 f103 ν (J+1) η< m27 f28 κ J γ) (bM v5 λl108=>A5 f103 ν 0 η λI110 ξ f112 β G W=>ai (decide (G< (l108:Int))) (aJ v5 G λb116 o117=>bZ W b116 (o117+G.toNat* 1) λs120=>ai (decide (V=G)) (aj (G+1)/\I110 f112 β (G+1) W/\ξ f112 β (G+1) W< ξ f112 β G W) (cB 145 #[(.string (ab s120))] W λv121 w122=>bM v121 λl124=>A5 f112 β 0 w122 λχ δ f128 I z H=>ai (decide (z< (l124:Int))) (aJ v121 z λθ ι=>∃c136:UInt8,∃c137:UInt8,∃c138:UInt8,∃s139:ay,∃q140:Bool,(World.cell? H ⟨θ,(ι+z.toNat* 5),none⟩=some (.int .u8 c136.toNat)/\World.cell? H ⟨θ,((ι+z.toNat* 5)+1),none⟩=some (.int .u8 c137.toNat)/\World.cell? H ⟨θ,(((ι+z.toNat* 5)+1)+1),none⟩=some (.int .u8 c138.toNat)/\World.cell? H ⟨θ,((((ι+z.toNat* 5)+1)+1)+1),none⟩=some (.string (ab s139))/\World.cell? H ⟨θ,(((((ι+z.toNat* 5)+1)+1)+1)+1),none⟩=some (.bool q140)/\True)/\aN H (.cells #[(.int .u8 0),(.int .u8 0),(.int .u8 0),(.string ⟨#[]⟩),(.bool false)] 166) λε w142=>xh w142 ε 0 5 [(.int .u8 c136.toNat),(.int .u8 c137.toNat),(.int .u8 c138.toNat),(.string (ab s139)),(.bool q140)] λZ=>gg Z ε 0 λc144=>iz (!decide (c144=63)) (gg Z ε 1 λc145=>gg Z μ 1 λc146=>ai (!decide (c145=c146)) (aj (z+1)/\χ f128 I (z+1) Z/\δ f128 I (z+1) Z< δ f128 I z H) (bO Z λα w148=>iq α μ 3 λs149=>iq α ε 3 λs150=>Iu α ε 2 λc151=>Iu α μ 2 λc152=>cB 152 #[v5,(.int .i64 V),(.int .i64 G)] w148 λv153 w154=>α w154/\bw 153 #[(.string (ab s150)),(.int .u8 c151.toNat),(.int .u8 c152.toNat)] w154 λs155 w156=>α w156/\aN w156 (.cells #[(.string (ab s149)),(.string (ab s155))] 9) λb157 w158=>α w158/\eu 9 1 16 w158 v153 (.slice (some ⟨b157,0,none⟩) 2 2) λv164 ο=>α ο/\∃ψ:Value->World->Prop,(EW ο ε 4 λq167=>ai q167 (aN ο (.cells #[(.string (ab s120))] 9) λb168 w169=>eu 9 1 16 w169 v164 (.slice (some ⟨b168,0,none⟩) 1 1) λv175 w176=>ψ v175 w176) (ψ v164 ο))/\∀(l177:Value) (w178:World),ψ l177 w178->hZ 151 #[(.string (ab s2)),l177] w178 λs179 q180 w181=>∃ω:Bool->ay->World->Prop,(ai f128 (ω q180 s179 w181) (ω false s179 w181))/\∀(f183:Bool) (n184:ay) (w185:World),ω f183 n184 w185->aN w185 (.cells #[(.string (ab n184))] 9) λb186 w187=>eu 9 1 16 w187 I (.slice (some ⟨b186,0,none⟩) 1 1) λv193 w194=>aj (z+1)/\χ f183 v193 (z+1) w194/\δ f183 v193 (z+1) w194< δ f128 I z H)) (aj (z+1)/\χ f128 I (z+1) Z/\δ f128 I (z+1) Z< δ f128 I z H)) (aj (G+1)/\I110 f128 I (G+1) H/\ξ f128 I (G+1) H< ξ f112 β G W))) (aj (J+1)/\I26 f112 β (J+1) W/\m27 f112 β (J+1) W< m27 f28 κ J γ))) (aj (V+1)/\I10 f28 κ (V+1) γ/\m11 f28 κ (V+1) γ< m11 f12 o13 V ς)) (ai (!f12) (R (.slice none 0 0) false ς) (cB 97 #[o13] ς λv195 w196=>R v195 true w196))):
  Calls Tryz.prog 102 #[(.string (ab p1))] w (ax [.v,.b] R):=
 bs (bn [(6,[(7,.b),(8,.v),(31,.i)]),(9,[(7,.b),(8,.v),(39,.i)]),(17,[(7,.b),(8,.v),(72,.i)]),(21,[(7,.b),(8,.v),(83,.i)])] [(14,[(7,.b),(13,.s)]),(15,[(7,.b),(8,.v)]),(27,[(19,.v)]),(29,[(7,.b),(20,.s)])] []) [.tmp 2 .v,.tmp 3 .b] [.s p1] Tryz.func102 (by kernel_rfl) h
theorem rm (H:Value)(s2:ay)(w:World)(R:Int->World->Prop)(h:bM H λl4=>eM 0 w λW V z G=>ai (decide (z< (l4:Int))) (aJ H z λb10 I=>bZ G b10 (I+z.toNat* 1) λJ=>ai (decide (J=s2)) (R z G) (aj (z+1)/\W (z+1) G/\V (z+1) G< V z G)) (R (-1) G)):
  Calls Tryz.prog 60 #[H,(.string (ab s2))] w (ax [.i] R):=
 bs (bn [(2,[(9,.i)])] [] []) [.tmp 4 .i] [.v H,.s s2] Tryz.func60 (by kernel_rfl) h
theorem qW (p1:ay)(w:World)(R:Value->Bool->World->Prop)(h:aN w (.cells #[(.slice none 0 0),(.slice none 0 0),(.slice none 0 0)] 49) λb2 w3=>aN w3 (.cells #[(.slice none 0 0),(.slice none 0 0),(.slice none 0 0)] 49) λb4 w5=>xh w5 b4 0 3 [(.slice none 0 0),(.slice none 0 0),(.slice none 0 0)] λw6=>hZ 101 #[(.string (ab p1))] w6 λs7 q8 w9=>ai (!q8) (∃v10:Value,∃v11:Value,∃v12:Value,(World.cell? w9 ⟨b4,0,none⟩=some v10/\World.cell? w9 ⟨b4,1,none⟩=some v11/\World.cell? w9 ⟨b4,2,none⟩=some v12/\True)/\xh w9 b2 0 3 [v10,v11,v12] λθ=>∃r14:Value,∃r15:Value,∃r16:Value,(World.cell? θ ⟨b2,0,none⟩=some r14/\World.cell? θ ⟨b2,1,none⟩=some r15/\World.cell? θ ⟨b2,2,none⟩=some r16/\True)/\R (.agg #[r14,r15,r16]) false θ) (aN w9 (.cells #[(.string (ab s7))] 9) λb17 w18=>oneV (.slice (some ⟨b17,0,none⟩) 1 1)=true/\bg w18 b4 0 (.slice (some ⟨b17,0,none⟩) 1 1) λw20=>aN w20 (.cells #[(.int .i64 0)] 3) λb21 w22=>oneV (.slice (some ⟨b21,0,none⟩) 1 1)=true/\bg w22 b4 1 (.slice (some ⟨b21,0,none⟩) 1 1) λw24=>eM 0 w24 λI25 m26 i27 V=>aS V b4 0 λv29=>bM v29 λl31=>ai (decide (i27< (l31:Int))) (aS V b4 0 λv33=>aJ v33 i27 λb34 o35=>bZ V b34 (o35+i27.toNat* 1) λs38=>oA 102 #[(.string (ab s38))] V λι q40 β=>ai (!q40) (∃v42:Value,∃v43:Value,∃v44:Value,(World.cell? β ⟨b4,0,none⟩=some v42/\World.cell? β ⟨b4,1,none⟩=some v43/\World.cell? β ⟨b4,2,none⟩=some v44/\True)/\xh β b2 0 3 [v42,v43,v44] λκ=>∃r46:Value,∃r47:Value,∃r48:Value,(World.cell? κ ⟨b2,0,none⟩=some r46/\World.cell? κ ⟨b2,1,none⟩=some r47/\World.cell? κ ⟨b2,2,none⟩=some r48/\True)/\R (.agg #[r46,r47,r48]) false κ) (aS β b4 2 λv49=>oneV ι=true/\aN β (.cells #[ι] 25) λb50 w51=>eu 25 1 24 w51 v49 (.slice (some ⟨b50,0,none⟩) 1 1) λv57 w58=>oneV v57=true/\bg w58 b4 2 v57 λw60=>bM ι λl62=>eM 0 w60 λγ J z I=>ai (decide (z< (l62:Int))) (aJ ι z λb68 o69=>bZ I b68 (o69+z.toNat* 1) λs72=>aS I b4 0 λv73=>iU 60 #[v73,(.string (ab s72))] I λn74 μ=>ai (decide (n74< 0)) (aS μ b4 0 λv76=>aN μ (.cells #[(.string (ab s72))] 9) λb77 w78=>eu 9 1 16 w78 v76 (.slice (some ⟨b77,0,none⟩) 1 1) λv84 w85=>oneV v84=true/\bg w85 b4 0 v84 λw87=>bO w87 λG H=>(aS H b4 1 λv90=>G H/\aS H b4 1 λv91=>G H/\aJ v91 i27 λb92 o93=>pB H b92 (o93+i27.toNat* 1) λn96=>G H/\aj (n96+1)/\aN H (.cells #[(.int .i64 (n96+1))] 3) λb97 w98=>G w98/\eu 3 1 8 w98 v90 (.slice (some ⟨b97,0,none⟩) 1 1) λν ξ=>G ξ/\oneV ν=true/\bg ξ b4 1 ν λδ=>G δ/\aj (z+1)/\γ (z+1) δ/\J (z+1) δ< J z I)/\(aS H b4 1 λv108=>G H/\aJ v108 i27 λο ς=>(aS H b4 1 λv113=>G H/\pB H ο (ς+i27.toNat* 1) λn114=>G H/\aj (n114+1)/\aN H (.cells #[(.int .i64 (n114+1))] 3) λb115 υ=>G υ/\eu 3 1 8 υ v113 (.slice (some ⟨b115,0,none⟩) 1 1) λφ χ=>G χ/\oneV φ=true/\bg χ b4 1 φ λε=>G ε/\aj (z+1)/\γ (z+1) ε/\J (z+1) ε< J z I)/\(pB H ο (ς+i27.toNat* 1) λn126=>G H/\aj (n126+1)/\(aS H b4 1 λv127=>G H/\aN H (.cells #[(.int .i64 (n126+1))] 3) λb128 ψ=>G ψ/\eu 3 1 8 ψ v127 (.slice (some ⟨b128,0,none⟩) 1 1) λω w136=>G w136/\oneV ω=true/\bg w136 b4 1 ω λζ=>G ζ/\aj (z+1)/\γ (z+1) ζ/\J (z+1) ζ< J z I)/\(aN H (.cells #[(.int .i64 (n126+1))] 3) λb139 W=>G W/\aS W b4 1 λv141=>G W/\eu 3 1 8 W v141 (.slice (some ⟨b139,0,none⟩) 1 1) λv147 w148=>G w148/\oneV v147=true/\bg w148 b4 1 v147 λη=>G η/\aj (z+1)/\γ (z+1) η/\J (z+1) η< J z I)))) (aj (z+1)/\γ (z+1) μ/\J (z+1) μ< J z I)) (aS I b4 0 λv151=>bM v151 λl153=>ai (decide (60< (l153:Int))) (∃v155:Value,∃v156:Value,∃v157:Value,(World.cell? I ⟨b4,0,none⟩=some v155/\World.cell? I ⟨b4,1,none⟩=some v156/\World.cell? I ⟨b4,2,none⟩=some v157/\True)/\xh I b2 0 3 [v155,v156,v157] λZ=>∃r159:Value,∃r160:Value,∃r161:Value,(World.cell? Z ⟨b2,0,none⟩=some r159/\World.cell? Z ⟨b2,1,none⟩=some r160/\World.cell? Z ⟨b2,2,none⟩=some r161/\True)/\R (.agg #[r159,r160,r161]) false Z) (aj (i27+1)/\I25 (i27+1) I/\m26 (i27+1) I< m26 i27 V)))) (∃v162:Value,∃v163:Value,∃v164:Value,(World.cell? V ⟨b4,0,none⟩=some v162/\World.cell? V ⟨b4,1,none⟩=some v163/\World.cell? V ⟨b4,2,none⟩=some v164/\True)/\xh V b2 0 3 [v162,v163,v164] λα=>∃r166:Value,∃r167:Value,∃r168:Value,(World.cell? α ⟨b2,0,none⟩=some r166/\World.cell? α ⟨b2,1,none⟩=some r167/\World.cell? α ⟨b2,2,none⟩=some r168/\True)/\R (.agg #[r166,r167,r168]) true α))):
  Calls Tryz.prog 54 #[(.string (ab p1))] w (ax [.v,.b] R):=
 bs (bn [(8,[(7,.i)]),(15,[(53,.i)])] [] []) [.agg 2 49,.tmp 3 .b] [.s p1] Tryz.func54 (by kernel_rfl) h
theorem sV (p1:ay)(k2:UInt8)(w:World)(R:ay->Bool->World->Prop)(h:hZ 101 #[(.string (ab p1))] w λs3 q4 w5=>ai (!q4) (R ([]) false w5) (BJ 143 #[(.string (ab s3))] w5 λs6 s7 w8=>cB 144 #[(.string (ab s3))] w8 λv9 ο=>bM v9 λς=>kY ([]) 0 ο λυ ζ δ I α=>ai (decide (I< (ς:Int))) (aJ v9 I λφ χ=>bZ α φ (χ+I.toNat* 1) λψ=>cB 145 #[(.string (ab ψ))] α λv24 ω=>bM v24 λl27=>kY δ 0 ω λε J H z G=>ai (decide (z< (l27:Int))) (aJ v24 z λV W=>∃η:UInt8,∃θ:UInt8,∃ι:UInt8,∃κ:ay,∃μ:Bool,(World.cell? G ⟨V,(W+z.toNat* 5),none⟩=some (.int .u8 η.toNat)/\World.cell? G ⟨V,((W+z.toNat* 5)+1),none⟩=some (.int .u8 θ.toNat)/\World.cell? G ⟨V,(((W+z.toNat* 5)+1)+1),none⟩=some (.int .u8 ι.toNat)/\World.cell? G ⟨V,((((W+z.toNat* 5)+1)+1)+1),none⟩=some (.string (ab κ))/\World.cell? G ⟨V,(((((W+z.toNat* 5)+1)+1)+1)+1),none⟩=some (.bool μ)/\True)/\aN G (.cells #[(.int .u8 0),(.int .u8 0),(.int .u8 0),(.string ⟨#[]⟩),(.bool false)] 166) λβ w44=>xh w44 β 0 5 [(.int .u8 η.toNat),(.int .u8 θ.toNat),(.int .u8 ι.toNat),(.string (ab κ)),(.bool μ)] λZ=>gg Z β 0 λc46=>ai (decide (c46=k2)) (gg Z β 1 λc47=>ck 56 #[(.string (ab s6)),(.int .u8 c47.toNat)] Z λq48 γ=>ai (!q48) (gg γ β 1 λc50=>bw 121 #[(.string (ab H)),(.int .u8 c50.toNat)] γ λν ξ=>aj (z+1)/\ε ν (z+1) ξ/\J ν (z+1) ξ< J H z G) (aj (z+1)/\ε H (z+1) γ/\J H (z+1) γ< J H z G)) (aj (z+1)/\ε H (z+1) Z/\J H (z+1) Z< J H z G)) (aj (I+1)/\υ H (I+1) G/\ζ H (I+1) G< ζ δ I α)) (R δ true α))):
  Calls Tryz.prog 96 #[(.string (ab p1)),(.int .u8 k2.toNat)] w (ax [.s,.b] R):=
 bs (bn [(7,[(10,.s),(30,.i)]),(10,[(10,.s),(37,.i)])] [] []) [.tmp 4 .s,.tmp 5 .b] [.s p1,.c k2] Tryz.func96 (by kernel_rfl) h
theorem rh (z:ay)(w:World)(R:ay->Bool->World->Prop)(h:hZ 96 #[(.string (ab z)),(.int .u8 (UInt8.toNat 33))] w λs2 G H=>R s2 G H):
  Calls Tryz.prog 154 #[(.string (ab z))] w (ax [.s,.b] R):=
 bs (bn [] [] []) [.tmp 2 .s,.tmp 3 .b] [.s z] Tryz.func154 (by kernel_rfl) h
theorem nz (z:ay)(w:World)(R:ay->Bool->World->Prop)(h:hZ 96 #[(.string (ab z)),(.int .u8 (UInt8.toNat 63))] w λs2 G H=>R s2 G H):
  Calls Tryz.prog 155 #[(.string (ab z))] w (ax [.s,.b] R):=
 bs (bn [] [] []) [.tmp 2 .s,.tmp 3 .b] [.s z] Tryz.func155 (by kernel_rfl) h
theorem qS (z:ay)(w:World)(R:ay->ay->World->Prop)(h:hZ 154 #[(.string (ab z))] w λs2 J G=>hZ 155 #[(.string (ab z))] G λH V I=>R s2 H I):
  Calls Tryz.prog 103 #[(.string (ab z))] w (ax [.s,.s] R):=
 bs (bn [] [] []) [.tmp 2 .s,.tmp 3 .s] [.s z] Tryz.func103 (by kernel_rfl) h
end Go.Proofs.YtdecokaadekjnaaGreat
namespace Go.Proofs.YtdecokaadekjnaaGreat
open Go Go.RowKit T Classical
theorem Dw (t:P):t.ev T.gd1=t.parts.all λq=>(!decide (t.kind=43)||q.gp)&&q.ev T.gd1:=by
 rw [sT];cases t<;>simp [T.gd1,T.parts,T.kind]
 case sum p q=>
  cases p.gp<;>cases q.gp<;>cases p.ev T.gd1<;>cases q.ev T.gd1<;>rfl
theorem Ei (t:P):t.ev T.rp1=t.parts.all λq=>(!decide (t.kind=42)||q.isR)&&q.ev T.rp1:=by
 rw [sT];cases t<;>simp [T.rp1,T.parts,T.kind]
theorem AK (q:P):decide (q.kind∈([33,63,126,43,48]:Tx))=q.gp:=by cases q<;>simp [T.kind,T.gp]
theorem xt (q:P):decide (q.kind=63)=q.isR:=by cases q<;>rfl
theorem yk {X:Type}{l:List X}{f:X->Bool}{k:Nat}(h:k< l.length):(l.take (k+1)).all f=((l.take k).all f&&f l[k]):=by
 rw [J8 h,MC];simp
theorem all_false {X:Type}{l:List X}{f:X->Bool}{k:Nat}(h:k< l.length)(z:f l[k]=false):l.all f=false:=by
 rw [List.all_eq_false];exact⟨_,Kg h,by rw [z];simp⟩
theorem ye:∀(n:Nat) {t:P},t.size<=n->Ok t->∀{w:World} {R:Bool->World->Prop},(∀w',Ex w w'->R (t.ev T.gd1) w')->Calls Tryz.prog 112 #[.string (ab t.text)] w (ax [.b] R):=by
 intro n
 induction n with
 | zero=>intro t h;have :=a8 t;omega
 | succ n ih=>
  intro t hn ok w R h;refine oS _ w R ?_;refine db ok λv w3 W hs=>?_
  obtain⟨a,cap,hv⟩:=hs.slice;rw [Kz]at hv;rw [Dw]at h;refine⟨a,t.parts.length,cap,hv,λx w'=>Ex w3 w'/\∃k:Nat,x=k/\k<=t.parts.length/\(t.parts.take k).all (λq=>(!decide (t.kind=43)||q.gp)&&q.ev T.gd1)=true,λx _=>((t.parts.length:Int) - x).toNat,⟨Ex.refl _,0,rfl,by omega,rfl⟩,λx w4 hI=>?_⟩;obtain⟨G,k,rfl,hk,H⟩:=hI;refine⟨λhc=>?_,λhc=>?_⟩
  ·have z:k< t.parts.length:=by simpa using hc
   have V:t.parts[k]∈t.parts:=Kg z;have Z:=ok.parts _ V;have α:=dV V;refine hs.get G (i:=k) (by omega) (x:=(t.parts[k]).text) (by simp [z]) ?_;have key:∀{w':World},Ex w3 w'->(!decide (t.kind=43)||t.parts[k].gp)=true->∀I,Ex w' I->((!t.parts[k].ev T.gd1)=true->R false I)/\((!t.parts[k].ev T.gd1)=false->aj ((k:Int)+1)/\(Ex w3 I/\∃j:Nat,(k:Int)+1=j/\j<=t.parts.length/\(t.parts.take j).all (λq=>(!decide (t.kind=43)||q.gp)&&q.ev T.gd1)=true)/\((t.parts.length:Int) - ((k:Int)+1)).toNat< ((t.parts.length:Int) - k).toNat):=λ{w'} x1 hg I x2=>by
    have hx:=Ex.trans x1 x2;refine⟨λJ=>?_,λJ=>⟨by unfold aj;have :=dX t;omega,⟨hx,k+1,by omega,z,?_⟩,by omega⟩⟩
    ·have :=h I (Ex.trans W hx);rw [all_false z (by rw [hg];simpa using J)]at this;exact this
    ·rw [yk z,H,hg];simpa using J
   refine aK ok ⟨λhc=>aK Z (eH (by simp) ⟨λJ=>?_,λJ=>?_⟩),λhc=>?_⟩
   ·rw [AK]at J;have hg:t.parts[k].gp=true:=by simpa using J
    exact ih (by omega) Z λI x5=>key G (by rw [hg];simp) I x5
   ·rw [AK]at J;have hg:t.parts[k].gp=false:=by simpa using J
    have :=h w4 (Ex.trans W G);rw [all_false z (by rw [hc,hg];rfl)]at this;exact this
   ·exact ih (by omega) Z λI x5=>key G (by rw [hc];rfl) I x5
  ·have z:k=t.parts.length:=by simp at hc;omega
   subst z;rw [KA]at H;have :=h w4 (Ex.trans W G);rw [H]at this;exact this
theorem zf:∀(n:Nat) {t:P},t.size<=n->Ok t->∀{w:World} {R:Bool->World->Prop},(∀w',Ex w w'->R (t.ev T.rp1) w')->Calls Tryz.prog 113 #[.string (ab t.text)] w (ax [.b] R):=by
 intro n
 induction n with
 | zero=>intro t h;have :=a8 t;omega
 | succ n ih=>
  intro t hn ok w R h;refine pP _ w R ?_;refine db ok λv w3 W hs=>?_
  obtain⟨a,cap,hv⟩:=hs.slice;rw [Kz]at hv;rw [Ei]at h;refine⟨a,t.parts.length,cap,hv,λx w'=>Ex w3 w'/\∃k:Nat,x=k/\k<=t.parts.length/\(t.parts.take k).all (λq=>(!decide (t.kind=42)||q.isR)&&q.ev T.rp1)=true,λx _=>((t.parts.length:Int) - x).toNat,⟨Ex.refl _,0,rfl,by omega,rfl⟩,λx w4 hI=>?_⟩;obtain⟨G,k,rfl,hk,H⟩:=hI;refine⟨λhc=>?_,λhc=>?_⟩
  ·have z:k< t.parts.length:=by simpa using hc
   have V:t.parts[k]∈t.parts:=Kg z;have Z:=ok.parts _ V;have α:=dV V;refine hs.get G (i:=k) (by omega) (x:=(t.parts[k]).text) (by simp [z]) ?_;have key:∀{w':World},Ex w3 w'->(!decide (t.kind=42)||t.parts[k].isR)=true->∀I,Ex w' I->((!t.parts[k].ev T.rp1)=true->R false I)/\((!t.parts[k].ev T.rp1)=false->aj ((k:Int)+1)/\(Ex w3 I/\∃j:Nat,(k:Int)+1=j/\j<=t.parts.length/\(t.parts.take j).all (λq=>(!decide (t.kind=42)||q.isR)&&q.ev T.rp1)=true)/\((t.parts.length:Int) - ((k:Int)+1)).toNat< ((t.parts.length:Int) - k).toNat):=λ{w'} x1 hg I x2=>by
    have hx:=Ex.trans x1 x2;refine⟨λJ=>?_,λJ=>⟨by unfold aj;have :=dX t;omega,⟨hx,k+1,by omega,z,?_⟩,by omega⟩⟩
    ·have :=h I (Ex.trans W hx);rw [all_false z (by rw [hg];simpa using J)]at this;exact this
    ·rw [yk z,H,hg];simpa using J
   refine aK ok ⟨λhc=>aK Z ⟨λJ=>?_,λJ=>?_⟩,λhc=>?_⟩
   ·rw [xt]at J;have hg:t.parts[k].isR=true:=by simpa using J
    exact ih (by omega) Z λI x5=>key G (by rw [hg];simp) I x5
   ·rw [xt]at J;have hg:t.parts[k].isR=false:=by simpa using J
    have :=h w4 (Ex.trans W G);rw [all_false z (by rw [hc,hg];rfl)]at this;exact this
   ·exact ih (by omega) Z λI x5=>key G (by rw [hc];rfl) I x5
  ·have z:k=t.parts.length:=by simp at hc;omega
   subst z;rw [KA]at H;have :=h w4 (Ex.trans W G);rw [H]at this;exact this
theorem zS {t:P}(ok:Ok t){w:World}{R:Bool->World->Prop}(h:∀w',Ex w w'->R t.smp w'):Calls Tryz.prog 66 #[.string (ab t.text)] w (ax [.b] R):=by
 refine pQ _ w R ?_;refine ye _ (Kb _) ok λw1 G=>⟨λz=>?_,λz=>?_⟩
 ·refine zf _ (Kb _) ok λw2 H=>?_
  have :=h w2 (Ex.trans G H);rw [eC,z,LU]at this;exact this
 ·have :=h w1 G;rw [eC,z,NC]at this;exact this
theorem vz {p:Tx}:(∃t:P,Good t/\t.text=p)↔∃t:P,t.Al (λc=>lt c=true)/\t.text=p/\dB p:=by
 constructor
 ·rintro⟨t,h,rfl⟩
  exact⟨t,jq.1 h.lw,rfl,lC.1 ⟨t,h,rfl⟩⟩
 ·rintro⟨t,G,rfl,z⟩
  exact lC.2 z
theorem Dc {t:P}(h:t.Al λc=>lt c=true)(g:dB t.text):Ok t:=⟨h.wf,by have :=g.1;omega⟩
theorem GD {t:P}(h:t.Al λc=>lt c=true)(g:dB t.text):t.size<=60:=by
 obtain⟨_,H,z,h2,G⟩:=g;have :=fH z.wf h.wf h2;subst this;exact G
theorem Hd {p:Tx}{w:World}{R:Bool->World->Prop}(h:∀b w',Ex w w'->(b=true->∃t:P,t.Al (λc=>lt c=true)/\t.text=p/\dB p)->(b=false->¬IE p)->R b w'):Calls Tryz.prog 65 #[.string (ab p)] w (ax [.b] R):=
 uL λb w' x hb=>h b w' x (λe=>vz.1 (hb.1 e)) λe ⟨t,z,h2,G,_⟩=>by
  have :=hb.2 (vz.2 ⟨t,z,h2,G⟩);rw [e]at this;cases this
theorem Fk {t:P}(h:t.Al λc=>lt c=true)(z:t.smp=false):¬IE t.text:=fun⟨H,G,h2,_,h4⟩=>by
 have :=fH G.wf h.wf h2;subst this;rw [z]at h4;cases h4
theorem Fv {t:P}(h:t.Al λc=>lt c=true)(g:dB t.text):ph 0 t σ0 (num t e0 0).1:=by
 have G:=GD h g;have :=cd t;have nu:=lT h;exact⟨⟨h.wf,by have :=g.1;omega,⟨h.eb 0,by omega⟩,lG h,λy z _ _ e=>by unfold σ0 at e;omega,nu.uq⟩,λz H I=>absurd I (eA (tv (h.free z H))),nu,λ _ _=>rfl⟩
theorem ve {p:Tx}{w:World}{R:ay->Bool->World->Prop}(h:∀w',Ex w w'->(∀s,cc p=some s->R s true w')/\(cc p=none->R [] false w')):Calls Tryz.prog 101 #[.string (ab p)] w (ax [.s,.b] R):=by
 refine qV _ w R ?_;refine Hd λb w1 H I J=>⟨λhb=>?_,λhb=>?_⟩
 ·have hb:b=true:=by simpa using hb
  obtain⟨t,G,rfl,V⟩:=I hb;refine zS (Dc G V) λw2 W=>⟨λz=>?_,λz=>?_⟩
  ·have z:t.smp=false:=by simpa using z
   exact(h w2 (Ex.trans H W)).2 (iu (Fk G z))
  ·have z:t.smp=true:=by simpa using z
   refine zM (Fv G V) λZ x3=>?_
   have :=h Z (Ex.trans (Ex.trans H W) x3);rw [qn G V z]at this;exact this
 ·have hb:b=false:=by simpa using hb
  exact(h w1 H).2 (iu (J hb))
def T.Cu:P->P
 | .res _ p=>p.Cu
 | t=>t
theorem vA:∀{t:P},Ok t->Ok t.Cu/\t.Cu.ths=t.ths/\t.Cu.frL=[]/\t.Cu.text.length<=t.text.length/\(t.Nr->t.Cu.Nr)
 | .res x p,ok=>by
  have h:=vA (t:=p) (ok.parts p (by simp [T.parts]));refine⟨h.1,h.2.1,h.2.2.1,?_,λn=>h.2.2.2.2 n.2⟩;have :=h.2.2.2.1;show p.Cu.text.length<=(35::x::46::p.text).length;simp only [J0];omega
 | .nil,ok=>⟨ok,rfl,rfl,Kb _,id⟩
 | .snd ..,ok=>⟨ok,rfl,rfl,Kb _,id⟩
 | .rcv ..,ok=>⟨ok,rfl,rfl,Kb _,id⟩
 | .tau ..,ok=>⟨ok,rfl,rfl,Kb _,id⟩
 | .sum ..,ok=>⟨ok,rfl,rfl,Kb _,id⟩
 | .par ..,ok=>⟨ok,rfl,rfl,Kb _,id⟩
 | .mat ..,ok=>⟨ok,rfl,rfl,Kb _,id⟩
 | .rep ..,ok=>⟨ok,rfl,rfl,Kb _,id⟩
theorem Bi (t:P):t.frL.length<=t.text.length:=by
 induction t with
 | res x p z=>
  show(x::p.frL).length<=(35::x::46::p.text).length;simp only [J0];omega
 | _=>simp [T.frL]
theorem qe {t:P}(ok:Ok t){w:World}{R:ay->ay->World->Prop}(h:R t.frL t.Cu.text w):Calls Tryz.prog 143 #[.string (ab t.text)] w (ax [.s,.s] R):=by
 refine qZ _ w R ?_;refine⟨λs f w'=>w'=w/\∃q:P,s=q.text/\Ok q/\t.frL=f++q.frL/\t.Cu=q.Cu,λs _ _=>s.length,⟨rfl,t,rfl,ok,rfl,rfl⟩,λs f w' H=>?_⟩;obtain⟨rfl,q,rfl,z,G,hb⟩:=H;have hlen:=Bi t;have J:=ok.len;refine aK z ⟨λhc=>?_,λhc=>?_⟩
 ·cases q<;>simp [T.kind]at hc
  rename_i x p;have e:(T.res x p).text=35::x::46::p.text:=rfl;rw [e];have I:f.length+1<=t.frL.length:=by
   have :=Lb List.length G;simp only [T.frL,J',J0]at this;omega
  refine⟨⟨by omega,by omega,by simp only [J0];omega⟩,by simp;omega,⟨by omega,by simp only [J0];omega⟩,⟨rfl,p,rfl,z.parts p (by simp [T.parts]),?_,hb⟩,?_⟩
  ·rw [G];show f++(x::p.frL)=(f++[x])++p.frL;simp
  ·show p.text.length< (35::x::46::p.text).length;simp only [J0];omega
 ·have h2:q.frL=[]/\q.Cu=q:=by cases q<;>simp [T.kind]at hc<;>exact⟨rfl,rfl⟩
  rw [h2.1,KJ]at G;rw [<-G];rw [hb,h2.2]at h;exact h
theorem qP {t:P}(ok:Ok t)(n:t.Nr){w:World}{R:Value->World->Prop}(h:∀v w',Ex w w'->Own w.heap.size w' v (t.ths.map T.text)->R v w'):Calls Tryz.prog 144 #[.string (ab t.text)] w (ax [.v] R):=by
 refine oR _ w R ?_;obtain⟨J,Z,κ,hbl,μ⟩:=vA ok;have nb:=μ n;rw [<-Z]at h;refine qe ok ?_;have hl:=J.len;generalize t.Cu=q at*;refine aK J ⟨λhc=>?_,λhc=>?_⟩
 ·cases q<;>simp [T.kind]at hc
  exact h _ w (Ex.refl w) (Own.nil _ _)
 ·have hq:q.th=true\/q.isP=true:=by cases q<;>simp [T.kind,T.th,T.isP,T.frL]at hc κ|-
  refine⟨λs out w'=>Ex w w'/\∃(r:P) (l:List P),s=r.text/\Ok r/\r.Nr/\(r.th=true\/r.isP=true)/\q.ths=l++r.ths/\l.length+r.text.length<=q.text.length/\Own w.heap.size w' out (l.map T.text),λs _ _=>s.length,⟨Ex.refl w,q,[],rfl,J,nb,hq,rfl,by simp,Own.nil _ _⟩,λs out w' hI=>?_⟩;obtain⟨x,r,l,rfl,V,nr,hr,α,hl3,ho⟩:=hI;have hpos:1<=r.text.length:=by cases r<;>simp [T.text]
  refine aK V ⟨λhc=>?_,λhc=>?_⟩
  ·cases r<;>simp [T.kind]at hc
   rename_i a b;refine qy V λv1 w1 x1 β ν=>?_
   have ξ:=Ex.trans x x1;refine β.get (Ex.refl _) (i:=0) (x:=a.text) (by omega) rfl (Q:=λn=>_) λb21 ο γ z=>?_
   have W:Ex w1 ο:=z▸Ex.alloc w1 _;have G:=Ex.trans ξ W;refine Own.push ((ho.ex x1).ex W) G.size (Strs.one γ z) (by simp only [Kz,J0,Kh];omega) λv28 ς υ δ hg hn=>?_
   have ε:=Ex.below G υ;have ζ:Strs ς v1 ((T.par a b).parts.map T.text):=by
    refine(β.ex W).grown hg λg φ e=>?_
    have h1:=(ho.block g e).2;have h2:=ν g φ;omega
   refine ζ.get (Ex.refl _) (i:=1) (x:=b.text) (by omega) rfl (Q:=λn=>_) ⟨⟨ε,b,l++[a],rfl,V.parts b (by simp [T.parts]),nr.2.2,nr.1.2,?_,?_,by simpa using δ⟩,?_⟩
   ·rw [α];simp [T.ths]
   ·have:(T.par a b).text.length=a.text.length+b.text.length+3:=by simp [T.text];omega
    simp only [J',J0,Kh];omega
   ·have:(T.par a b).text.length=a.text.length+b.text.length+3:=by simp [T.text];omega
    show b.text.length< (T.par a b).text.length;omega
  ·have χ:r.th=true:=hr.resolve_right λe=>by cases r<;>simp [T.isP]at e;simp [T.kind]at hc
   intro b35 ψ η H;have θ:Ex w' ψ:=H▸Ex.alloc w' _;have I:=Ex.trans x θ;refine Own.push (ho.ex θ) I.size (Strs.one η H) (by simp only [Kz,J0,Kh];omega) λv42 ω b43 ι hg hn=>h _ ω (Ex.below I b43) ?_
   rw [α,n7 χ];simpa using ι
theorem lW {w:World}{v:Value}{l:List Tx}(hs:Strs w v l)(hl:l.length<=1000000000){i j:Nat}{R:Value->World->Prop}(h:∀v' w',Ex w w'->Own w.heap.size w' v' (wo l i j)->R v' w'):
  Calls Tryz.prog 152 #[v,.int .i64 i,.int .i64 j] w (ax [.v] R):=by
 refine pt v i j w R ?_;obtain⟨a,cap,hv⟩:=hs.slice;refine⟨a,_,cap,hv,λout x w'=>Ex w w'/\∃k:Nat,x=k/\k<=l.length/\Own w.heap.size w' out (wo (l.take k) i j)/\(wo (l.take k) i j).length<=k,λ _ x _=>((l.length:Int) - x).toNat,⟨Ex.refl w,0,rfl,KT _,Own.nil _ _,Kb _⟩,λout x w' hI=>?_⟩;obtain⟨x,k,rfl,hk,ho,δ⟩:=hI;refine⟨λhc=>?_,λhc=>?_⟩
 ·have z:k< l.length:=by simp only [J4]at hc;omega
  have hm:((l.length:Int) - ((k:Int)+1)).toNat< ((l.length:Int) - k).toNat:=by omega
  have e:wo (l.take (k+1)) i j=wo (l.take k) i j++if !(k==i)&& !(k==j)then [l[k]]else []:=by
   unfold wo;rw [J8 z,List.zipIdx_append,LO,K3]
   congr 1
   have:(l.take k).length=k:=by rw [KP];omega
   simp only [List.zipIdx_cons,List.zipIdx_nil,KF,this,Nj,List.filter_nil];split<;>rfl
  have skip:(!(k==i)&& !(k==j))=false->aj ((k:Int)+1)/\(Ex w w'/\∃V:Nat,(k:Int)+1=V/\V<=l.length/\Own w.heap.size w' out (wo (l.take V) i j)/\(wo (l.take V) i j).length<=V)/\((l.length:Int) - ((k:Int)+1)).toNat< ((l.length:Int) - k).toNat:=λh=>by
   refine⟨by unfold aj;omega,⟨x,k+1,by omega,z,?_⟩,hm⟩;rw [e,h];simp only [L7,ME,KJ];exact⟨ho,by omega⟩
  refine hs.get x (i:=k) (x:=l[k]) (by omega) (by simp [z]) (Q:=λn=>_) ⟨λI=>⟨λJ=>?_,λJ=>?_⟩,λI=>?_⟩
  ·have I:k≠i:=by simp at I;omega
   have J:k≠j:=by simp at J;omega
   intro ε β W G;have Z:Ex w' β:=G▸Ex.alloc w' _;have H:=Ex.trans x Z;refine Own.push (ho.ex Z) H.size (Strs.one W G) (by simp only [J0,Kh];omega) λv24 ζ γ α hg hn=>⟨by unfold aj;omega,⟨Ex.below H γ,k+1,by omega,z,?_⟩,hm⟩
   rw [e];have:(!(k==i)&& !(k==j))=true:=by simp [I,J]
   rw [this,KG rfl];exact⟨α,by simp only [J',J0,Kh];omega⟩
  ·have J:k=j:=by simp at J;omega
   exact skip (by simp [J])
  ·have I:k=i:=by simp at I;omega
   exact skip (by simp [I])
 ·have:k=l.length:=by simp at hc;omega
  subst this;rw [KA]at ho;exact h _ w' x ho
theorem Et {w:World}{v:Value}{l:List Tx}(hs:Strs w v l)(hl:l.length<=1000000000){R:Value->World->Prop}(h:∀v' w',Ex w w'->Own w.heap.size w' v' (dd (a7 l))->R v' w'):
  Calls Tryz.prog 97 #[v] w (ax [.v] R):=by
 refine tT v w R ?_;refine nW hs (by omega) λv2 w3 x3 η=>?_
 have hlen:(a7 l).length=l.length:=(aO l).length_eq;generalize a7 l=m at*;have γ:=η.strs;obtain⟨a,cap,hv⟩:=γ.slice;refine⟨a,_,cap,hv,λout x w'=>Ex w3 w'/\∃k:Nat,x=k/\k<=m.length/\Own w3.heap.size w' out (dd (m.take k)),λ _ x _=>((m.length:Int) - x).toNat,⟨Ex.refl w3,0,rfl,KT _,Own.nil _ _⟩,λout x w' hI=>?_⟩;obtain⟨x,k,rfl,hk,ho⟩:=hI;refine⟨λhc=>?_,λhc=>?_⟩
 ·have Z:k< m.length:=by simp only [J4]at hc;omega
  have hm:((m.length:Int) - ((k:Int)+1)).toNat< ((m.length:Int) - k).toNat:=by omega
  have e:dd (m.take (k+1))=BU (dd (m.take k)) m[k]:=by rw [J8 Z,jL]
  have θ:=EF (m.take k);rw [KP]at θ;have push:∀(J:Nat) (z:World),J=w'.heap.size->z=w'.alloc (.cells #[.string (ab m[k])] 9)->(dd (m.take k)).getLast?≠some m[k]->∀{K:Value->World->Prop},(∀W V,(Ex w3 V/\∃k':Nat,(k:Int)+1=k'/\k'<=m.length/\Own w3.heap.size V W (dd (m.take k')))->K W V)->
    ∃(base n k:Nat) (xs news:List Value),World.ownsRow z base 9 1 out n xs/\base<=Array.size (World.heap z)/\dW z (.slice (some ⟨J,0,none⟩) 1 1) k 1 news/\(n+k<=maxLen/\(n+k)* 16<=140737488355328)/\
   ∀(v':Value) (w':World),World.ownsRow w' base 9 1 v' (n+k) (xs++news)->World.grownBy z w' (Value.ownBlock out)->(∀b:Nat,Value.ownBlock v'=some b->Value.ownBlock out=some b\/Array.size (World.heap z)<=b)->K v' w':=λJ z I G H {K} hK=>by
   have δ:Ex w' z:=G▸Ex.alloc w' _;have α:=Ex.trans x δ;refine Own.push (ho.ex δ) α.size (Strs.one I G) (by simp only [J0,Kh];omega) λW V ι ε hg hn=>hK _ _ ⟨Ex.below α ι,k+1,by omega,Z,?_⟩
   rw [e];unfold BU;rw [Ko H];exact ε
  refine γ.get x (i:=k) (x:=m[k]) (by omega) (by simp [Z]) (Q:=λn=>_) ?_;obtain⟨ao,β,ζ⟩:=ho.strs.slice;refine⟨ao,_,β,ζ,λhz=>?_,λhz=>?_⟩
  ·have hz:(dd (m.take k)).length≠0:=by
    intro e0;simp [e0]at hz
   refine⟨ao,_,β,ζ,by unfold aj;omega,ho.strs.get (Ex.refl _) (i:=((dd (m.take k)).length:Int) - 1) (x:=(dd (m.take k)).getLast (λe=>hz (by rw [e];rfl))) (by omega) ?_ (Q:=λn=>_) ⟨λH=>?_,λH=>?_⟩⟩
   ·rw [show(((dd (m.take k)).length:Int) - 1).toNat=(dd (m.take k)).length - 1 by omega,<-MA,List.getLast?_eq_some_getLast]
   ·have H:(dd (m.take k)).getLast?≠some m[k]:=by
     rw [List.getLast?_eq_some_getLast (λe=>hz (by rw [e];rfl))];simpa using H
    exact λJ z I G=>push J z I G H λW V hI=>⟨by unfold aj;omega,hI,hm⟩
   ·have H:(dd (m.take k)).getLast?=some m[k]:=by
     rw [List.getLast?_eq_some_getLast (λe=>hz (by rw [e];rfl))];simpa using H
    exact⟨by unfold aj;omega,⟨x,k+1,by omega,Z,by rw [e];unfold BU;rw [KG H];exact ho⟩,hm⟩
  ·have hz:dd (m.take k)=[]:=by
    refine KD ?_;simpa using hz
   exact λJ z I G=>push J z I G (by rw [hz];simp) λW V hI=>⟨by unfold aj;omega,hI,hm⟩
 ·have:k=m.length:=by simp at hc;omega
  subst this;rw [KA]at ho;exact h _ w' (Ex.trans x3 x) (ho.mono x3.size)
end Go.Proofs.YtdecokaadekjnaaGreat
namespace Go.Proofs.YtdecokaadekjnaaGreat
open Go Go.RowKit
def cJ (B:Nat)(w:World)(v:Value)(n:Nat)(xs:List Value):Prop:=w.ownsRow B 160 5 v n xs
theorem cJ.nil (B:Nat)(w:World):cJ B w (.slice none 0 0) 0 []:=World.ownsRow_nil _ _ _ _
theorem cJ.block {B:Nat}{w:World}{v:Value}{n:Nat}{xs:List Value}(h:cJ B w v n xs):∀b,v.ownBlock=some b->B<=b/\b< w.heap.size:=MP h
theorem cJ.kp {B:Nat}{w w':World}{S:Nat->Prop}{v:Value}{n:Nat}{xs:List Value}(h:cJ B w v n xs)(k:Kp w w' S)(G:∀g,v.ownBlock=some g->¬S g):cJ B w' v n xs:=by
 refine⟨h.1,?_⟩;rcases h.2 with H | ⟨g,cap,cur,rfl,hb,z,rest⟩
 ·exact .inl H
 ·exact .inr ⟨g,cap,cur,rfl,hb,by rw [k.block g (KO.1 z).1 (G g rfl)];exact z,rest⟩
theorem cJ.ex {B:Nat}{w w':World}{v:Value}{n:Nat}{xs:List Value}(h:cJ B w v n xs)(x:Ex w w'):cJ B w' v n xs:=h.kp (Kp.ah x λ _=>False) λ _ _ h=>h
theorem cJ.mono {B z:Nat}{w:World}{v:Value}{n:Nat}{xs:List Value}(h:cJ B w v n xs)(hb:z<=B):cJ z w v n xs:=Nz h hb
theorem cJ.zero {w w':World}{B b:Nat}(hB:B<=w.heap.size)(hb:b=w.heap.size)(h:w'=w.alloc (.cells #[] 160)):cJ B w' (.slice (some ⟨b,0,none⟩) 0 0) 0 []:=by
 subst hb h;refine⟨rfl,.inr ⟨_,0,#[],rfl,hB,?_,by simp,by unfold maxLen;omega,rfl,rfl⟩⟩;unfold World.alloc;simp
theorem cJ.one {w w':World}{B b:Nat}{cs:List Value}(hc:cs.length=5)(hB:B<=w.heap.size)(hb:b=w.heap.size)(h:w'=w.alloc (.cells cs.toArray 160)):cJ B w' (.slice (some ⟨b,0,none⟩) 1 1) 1 cs:=by
 subst hb h;refine⟨by rw [hc],.inr ⟨_,1,cs.toArray,rfl,hB,?_,by simp,by unfold maxLen;omega,by simp [hc],MS (by simp [hc])⟩⟩;unfold World.alloc;simp
theorem cJ.cell {B:Nat}{w:World}{v:Value}{n:Nat}{xs:List Value}(h:cJ B w v n xs):(v= .slice none 0 0/\n=0/\xs=[])\/∃g cap,v= .slice (some ⟨g,0,none⟩) n cap/\g< w.heap.size/\∀j u,xs[j]?=some u->w.cell? ⟨g,0+j,none⟩=some u:=by
 have z:=h.1;rcases h.2 with⟨I,G⟩ | ⟨g,cap,cur,rfl,hb,H,V,h2,W,h4⟩
 ·left;refine⟨I,G,KD (by rw [z,G])⟩
 ·refine .inr ⟨g,cap,rfl,(KO.1 H).1,λj u hu=>?_⟩;have J:j< xs.length:=(KX.1 hu).1;unfold World.cell?;simp only [H,KF];rw [<-h4,LD (by rw [<-z];exact J),LL]at hu;exact hu
theorem cJ.src {B:Nat}{w:World}{v:Value}{n:Nat}{xs:List Value}(h:cJ B w v n xs)(ha:xs.all oneV=true):dW w v n 5 xs:=by
 refine⟨h.1,ha,?_⟩;rcases h.cell with⟨rfl,rfl,_⟩ | ⟨g,cap,rfl,_,hc⟩
 ·exact .inl ⟨rfl,rfl⟩
 ·exact .inr ⟨g,0,cap,rfl,hc⟩
theorem cJ.push {B:Nat}{w:World}{v x:Value}{n m:Nat}{xs G:List Value}(h:cJ B w v n xs)(hB:B<=w.heap.size)(H:dW w x m 5 G)(W:n+m<=1099511627776){K:Value->World->Prop}
  (I:∀v' w',cJ B w' v' (n+m) (xs++G)->w.grownBy w' v.ownBlock->(∀b,v'.ownBlock=some b->v.ownBlock=some b\/w.heap.size<=b)->K v' w'):
  ∃(base n' m':Nat) (z news:List Value),World.ownsRow w base 160 5 v n' z/\base<=Array.size (World.heap w)/\dW w x m' 5 news/\(n'+m'<=maxLen/\(n'+m')* 40<=140737488355328)/\
   ∀(v':Value) (w':World),World.ownsRow w' base 160 5 v' (n'+m') (z++news)->World.grownBy w w' (Value.ownBlock v)->(∀b:Nat,Value.ownBlock v'=some b->Value.ownBlock v=some b\/Array.size (World.heap w)<=b)->K v' w':=
 ⟨B,n,m,xs,G,h,hB,H,⟨by unfold maxLen;omega,by omega⟩,λv' w' J V hw=>I v' w' J V hw⟩
def cV (k:UInt8)(a b:Nat)(vr:Value)(s:Bool):List Value:=[.int .u8 k.toNat,iv a,iv b,vr,.bool s]
def lH (D:Nat->Prop)(w:World):Off Nat->List Value->Prop
 | .tau p,cs=>∃a b vr s,cs=cV 126 a b vr s/\aB D w (td p) vr
 | .snd a b p,cs=>∃vr s,cs=cV 33 a b vr s/\aB D w (td p) vr
 | .rcv a x q s,cs=>∃vr,cs=cV 63 a x vr s/\aB D w (td q) vr
theorem lH.ex {D:Nat->Prop}{w w':World}{o:Off Nat}{cs:List Value}(h:lH D w o cs)(x:Ex w w'):lH D w' o cs:=by
 cases o with
 | tau p=>obtain⟨a,b,vr,s,z,h2⟩:=h;exact⟨a,b,vr,s,z,aB.ex h2 x⟩
 | snd a b p=>obtain⟨vr,s,z,h2⟩:=h;exact⟨vr,s,z,aB.ex h2 x⟩
 | rcv a b p s=>obtain⟨vr,z,h2⟩:=h;exact⟨vr,z,aB.ex h2 x⟩
theorem lH.kp {D S:Nat->Prop}{w w':World}{o:Off Nat}{cs:List Value}(h:lH D w o cs)(k:Kp w w' S)(G:∀g,D g->¬S g):lH D w' o cs:=by
 cases o with
 | tau p=>obtain⟨a,b,vr,s,z,h2⟩:=h;exact⟨a,b,vr,s,z,aB.kp h2 k G⟩
 | snd a b p=>obtain⟨vr,s,z,h2⟩:=h;exact⟨vr,s,z,aB.kp h2 k G⟩
 | rcv a b p s=>obtain⟨vr,z,h2⟩:=h;exact⟨vr,z,aB.kp h2 k G⟩
theorem lH.len {D:Nat->Prop}{w:World}{o:Off Nat}{cs:List Value}(h:lH D w o cs):cs.length=5/\cs.all oneV=true:=by
 cases o with
 | tau p=>obtain⟨a,b,vr,s,rfl,h2⟩:=h;exact⟨rfl,by have :=h2.one;simp only [cV,Lg,MT,Mu,this];rfl⟩
 | snd a b p=>obtain⟨vr,s,rfl,h2⟩:=h;exact⟨rfl,by have :=h2.one;simp only [cV,Lg,MT,Mu,this];rfl⟩
 | rcv a b p s=>obtain⟨vr,rfl,h2⟩:=h;exact⟨rfl,by have :=h2.one;simp only [cV,Lg,MT,Mu,this];rfl⟩
def OffsM (D:Nat->Prop)(w:World):List (Off Nat)->List Value->Prop
 | [],xs=>xs=[]
 | o::os,xs=>∃cs z,xs=cs++z/\lH D w o cs/\OffsM D w os z
section
variable {D S:Nat->Prop} {w w':World}
theorem OffsM.kp (k:Kp w w' S)(z:∀g,D g->¬S g):∀{os:List (Off Nat)} {xs:List Value},OffsM D w os xs->OffsM D w' os xs
 | [],_,h=>h
 | _::_,_,⟨cs,G,H,h2,I⟩=>⟨cs,G,H,h2.kp k z,OffsM.kp k z I⟩
theorem OffsM.ex {os:List (Off Nat)}{xs:List Value}(h:OffsM D w os xs)(x:Ex w w'):OffsM D w' os xs:=OffsM.kp (Kp.ah x λ _=>False) (λ _ _ h=>h) h
theorem OffsM.app:∀{os z:List (Off Nat)} {xs G:List Value},OffsM D w os xs->OffsM D w z G->OffsM D w (os++z) (xs++G)
 | [],_,_,_,h,k=>by cases h;exact k
 | _::_,_,_,_,⟨cs,zs,H,h2,I⟩,k=>by subst H;exact⟨cs,zs++_,by rw [KN],h2,OffsM.app I k⟩
theorem OffsM.len:∀{os:List (Off Nat)} {xs:List Value},OffsM D w os xs->xs.length=os.length* 5/\xs.all oneV=true
 | [],_,h=>by cases h;exact⟨rfl,rfl⟩
 | o::os,_,⟨cs,W,z,h2,G⟩=>by
  subst z;obtain⟨H,I⟩:=h2.len;obtain⟨J,V⟩:=OffsM.len G;refine⟨by rw [J',H,J,J0];omega,by rw [MC,I,V];rfl⟩
theorem OffsM.at:∀{os:List (Off Nat)} {xs:List Value},OffsM D w os xs->∀{i:Nat} (z:i< os.length),∃cs,lH D w os[i] cs/\∀j,j< 5->xs[i* 5+j]?=cs[j]?
 | o::os,_,⟨cs,V,G,h2,I⟩,0,z=>by
  subst G;refine⟨cs,h2,λj J=>?_⟩;rw [List.getElem?_append_left (by rw [h2.len.1];omega)]
  congr 1;omega
 | o::os,_,⟨cs,V,G,h2,I⟩,i+1,z=>by
  subst G;obtain⟨H,W,Z⟩:=OffsM.at I (i:=i) (by simpa using z);refine⟨H,W,λj J=>?_⟩;rw [<-Z j J,List.getElem?_append_right (by rw [h2.len.1];omega),h2.len.1]
  congr 1;omega
theorem OffsM.one {o:Off Nat}{cs:List Value}(h:lH D w o cs):OffsM D w [o] cs:=⟨cs,[],by simp,h,rfl⟩
end
def pre:U->Bool
 | .snd .. =>true | .rcv .. =>true | .tau .. =>true | _=>false
theorem wg {u:U}(h:pre u=true):∃o,offs u=[o]:=by cases u<;>first | exact⟨_,rfl⟩ | cases h
theorem DM {D:Nat->Prop}{w:World}{u:U}{v:Value}(hp:pre u=true)(h:af D w (tl [u]) [v]):∃(g:Nat) (k:UInt8) (a b:Nat) (vr:Value) (r:U),v=ptr g/\D g/\g< w.heap.size/\w.cell? ⟨g,0,none⟩=some (.int .u8 k.toNat)/\w.cell? ⟨g,1,none⟩=some (iv a)/\w.cell? ⟨g,2,none⟩=some (iv b)/\w.cell? ⟨g,3,none⟩=some vr/\
  (k=126\/k=33\/k=63)/\aB D w (td r) vr/\(∀s,k=63->∀a' x q,u= .rcv a' x q->lH D w (.rcv a' x q s) (cV k a b vr s))/\(∀s o,offs u=[o]->k≠63->lH D w o (cV k a b vr s))/\(∀o,offs u=[o]->lH D w o (cV k a b vr false))/\(k=63↔∃a' x q,u= .rcv a' x q):=by
 cases u<;>try cases hp
 ·rename_i a b p;obtain⟨t,I,a',H,vr,J,⟨g,V,W,Z,c0,c1,c2,c3,c4⟩,hk,z,_⟩:=h;obtain⟨rfl,rfl⟩:=K8 J;obtain⟨rfl,rfl⟩:a'=a/\H=b:=by rcases hk with h | h | h<;>first | exact h | cases h
  refine⟨g,33,a',H,vr,p,V,W,Z,c0,c1,c2,c3,.inr (.inl rfl),z,λs h=>absurd h (by decide),λs o G _=>?_,λo G=>?_,⟨λh=>absurd h (by decide),fun⟨_,_,_,h⟩=>by cases h⟩⟩
  ·cases G;exact⟨vr,s,rfl,z⟩
  ·cases G;exact⟨vr,false,rfl,z⟩
 ·rename_i a b p;obtain⟨t,I,a',H,vr,J,⟨g,V,W,Z,c0,c1,c2,c3,c4⟩,hk,z,_⟩:=h;obtain⟨rfl,rfl⟩:=K8 J;obtain⟨rfl,rfl⟩:a'=a/\H=b:=by rcases hk with h | h | h<;>first | exact h | cases h
  refine⟨g,63,a',H,vr,p,V,W,Z,c0,c1,c2,c3,.inr (.inr rfl),z,λs _ a2 x q e=>?_,λs o G h=>absurd rfl h,λo G=>?_,⟨λ _=>⟨_,_,_,rfl⟩,λ _=>rfl⟩⟩
  ·cases e;exact⟨vr,rfl,z⟩
  ·cases G;exact⟨vr,rfl,z⟩
 ·rename_i p;obtain⟨t,I,a',H,vr,J,⟨g,V,W,Z,c0,c1,c2,c3,c4⟩,hk,z,_⟩:=h;obtain⟨rfl,rfl⟩:=K8 J;refine⟨g,126,a',H,vr,p,V,W,Z,c0,c1,c2,c3,.inl rfl,z,λs h=>absurd h (by decide),λs o G _=>?_,λo G=>?_,⟨λh=>absurd h (by decide),fun⟨_,_,_,h⟩=>by cases h⟩⟩
  ·cases G;exact⟨a',H,vr,s,rfl,z⟩
  ·cases G;exact⟨a',H,vr,false,rfl,z⟩
theorem EL {u:U}(n:u.Nr):offs u=u.mw.flatMap offs:=by
 induction u with
 | sum p q G z=>
  have :=z n.2.2;simp only [offs,T.mw,Ly];rw [this]
 | _=>simp [T.mw]
theorem Gc {u:U}(n:u.Nr)(z:u.smp=true)(I:u.gp=true)(hd:u.dead=false):∀s∈u.mw,pre s=true/\s.Nr/\(∀x∈BV s,x∈BV u)/\(BV s).Sublist (BV u):=by
 induction u with
 | sum p q ih G=>
  simp only [T.smp,J3]at z;intro s h;rcases Ks.1 h with rfl | h
  ·refine⟨?_,n.2.1,λx H=>KH _ H,Mj _ _⟩;have J:=n.1.2.2;have h2:=z.1.1;have V:=n.1.1;cases s<;>first | rfl | (cases h2;done) | (cases J;done) | (cases V;done)
  ·obtain⟨W,Z,k3,k4⟩:=G n.2.2 z.2.2 z.1.2 n.1.2.1 s h;exact⟨W,Z,λx H=>KB _ (k3 x H),k4.trans (LA _ _)⟩
 | nil=>cases hd
 | snd a b p=>intro s h;cases Kf.1 h;exact⟨rfl,n,λ _ h=>h,La _⟩
 | rcv a b p=>intro s h;cases Kf.1 h;exact⟨rfl,n,λ _ h=>h,La _⟩
 | tau p=>intro s h;cases Kf.1 h;exact⟨rfl,n,λ _ h=>h,La _⟩
 | _=>cases I
theorem GN {D:Nat->Prop}{w:World}:∀{l:List U} {us:List Value},af D w (tp l) us->us.length=l.length/\∀j (h:j< l.length) (z:j< us.length),aB D w (td l[j]) us[j]
 | [],us,h=>by cases h;exact⟨rfl,λj h=>by cases h⟩
 | u::l,_,⟨v,G,e,H,h2⟩=>by
  subst e;obtain⟨I,J⟩:=GN h2;refine⟨by simp [I],λj h z=>?_⟩;cases j with
  | zero=>exact H
  | succ j=>simpa using J j (by simpa using h) (by simpa using z)
theorem Bf {D:Nat->Prop}{w:World}:∀{l:List U} {us:List Value},(∀u∈l,u.th=true)->af D w (tl l) us->us.length=l.length/\∀j (h:j< l.length) (h':j< us.length),af D w (tl [l[j]]) [us[j]]
 | [],us,_,h=>by cases h;exact⟨rfl,λj h=>by cases h⟩
 | u::l,us,G,h=>by
  have h0:=G u (by simp);have key:∃v z,us=v::z/\af D w (tl [u]) [v]/\af D w (tl l) z:=by
   cases u<;>try cases h0
   all_goals
    first
    | (obtain⟨t,z,a',W,vr,e,H,I,J,V⟩:=h;exact⟨t,z,e,⟨t,[],a',W,vr,rfl,H,I,J,rfl⟩,V⟩)
    | (obtain⟨t,z,a',W,vp,Z,e,H,I,J,V⟩:=h;exact⟨t,z,e,⟨t,[],a',W,vp,Z,rfl,H,I,J,rfl⟩,V⟩)
  obtain⟨v,z,e,H,I⟩:=key;subst e;obtain⟨J,V⟩:=Bf (λu hu=>G u (Ki _ hu)) I;refine⟨by simp [J],λj h h'=>?_⟩;cases j with
  | zero=>exact H
  | succ j=>simpa using V j (by simpa using h) (by simpa using h')
theorem DF {D:Nat->Prop}{w:World}{u:U}{v:Value}(hp:pre u=true)(h:af D w (tl [u]) [v]){R:Value->World->Prop}(hR:∀v' w' xs,Ex w w'->cJ w.heap.size w' v' (offs u).length xs->OffsM D w' (offs u) xs->R v' w'):
  Calls Tryz.prog 140 #[v] w (ax [.v] R):=by
 refine eJ v w R ?_;obtain⟨o,W⟩:=wg hp;obtain⟨g,k,a,b,vr,r,H,hD,hl,c0,c1,c2,c3,hk,Z,_,_,α,_⟩:=DM hp h;refine⟨g,0,H,k,c0,λx w'=>w'=w/\x=true,?_,λx I hJ=>?_⟩
 ·rcases hk with rfl | rfl | rfl
  ·exact⟨λ _=>⟨rfl,by decide⟩,λh=>absurd h (by decide)⟩
  ·exact⟨λh=>absurd h (by decide),λ _=>⟨λ _=>⟨rfl,by decide⟩,λh=>absurd h (by decide)⟩⟩
  ·exact⟨λh=>absurd h (by decide),λ _=>⟨λh=>absurd h (by decide),λ _=>⟨rfl,by decide⟩⟩⟩
 ·obtain⟨rfl,rfl⟩:=hJ;refine⟨λ _=>⟨λw'=>Ex I w',λw9 β=>?_⟩,λh=>by cases h⟩;have x9:Ex I w9:=β▸Ex.drew I;have cg:∀{w':World},Ex I w'->∀j,w'.cell? ⟨g,j,none⟩=I.cell? ⟨g,j,none⟩:=λx j=>x.cell (show g< _ from hl)
  refine⟨x9,g,0,H,k,λw' x=>by rw [cg x];exact c0,g,0,H,a,λw' x=>by rw [cg x];exact c1,g,0,H,b,λw' x=>by rw [cg x];exact c2,g,0,H,vr,λw' x=>by rw [cg x];exact c3,Z.one,λδ J V G=>?_⟩;have γ:Ex w9 J:=G▸Ex.alloc w9 _;have z:=Ex.trans x9 γ;refine⟨z,hR _ J (cV k a b vr false) z ?_ ?_⟩
  ·rw [W];exact cJ.one rfl x9.size V G
  ·rw [W];exact OffsM.one ((α o W).ex z)
theorem sL {D:Nat->Prop}{w:World}{u:U}{v:Value}(hth:u.th=true)(hq:Uq u)(n:u.Nr)(hs:u.smp=true)(hz:u.size<=1000000)(hDw:∀g,D g->g< w.heap.size)(h:af D w (tl [u]) [v]){R:Value->World->Prop}(hR:∀v' w' xs,Ex w w'->cJ w.heap.size w' v' (offs u).length xs->OffsM D w' (offs u) xs->R v' w'):
  Calls Tryz.prog 140 #[v] w (ax [.v] R):=by
 by_cases hp:pre u=true
 ·exact DF hp h hR
 refine eJ v w R ?_;cases u<;>first | (exact absurd rfl hp) | (cases hth;done) | skip
 case mat a b p=>
  obtain⟨t,ts',a',b',vr,e1,⟨g,hg,hD,hl,c0,c1,c2,c3,c4⟩,hk,δ,_⟩:=h;obtain⟨rfl,rfl⟩:=K8 e1;refine⟨g,0,hg,_,c0,λx w'=>w'=w/\x=false,⟨λh=>absurd h (by decide),λ _=>⟨λh=>absurd h (by decide),λ _=>⟨rfl,by decide⟩⟩⟩,λx H hJ=>?_⟩;obtain⟨rfl,rfl⟩:=hJ;refine⟨λh=>(by cases h),λ _=>aV (by decide) (aV (by decide) (hR _ H [] (Ex.refl _) (cJ.nil _ _) rfl))⟩
 case rep p=>
  simp only [T.smp,J3]at hs;cases p<;>try (simp [T.isR]at hs)
  rename_i a x q;obtain⟨t,ts',a',b',vr,e1,⟨g,hg,hD,hl,c0,c1,c2,c3,c4⟩,hk,δ,_⟩:=h;obtain⟨rfl,rfl⟩:=K8 e1;have etd:td (.rcv a x q)=([],tl [.rcv a x q]):=js hq.rep n.2;rw [etd]at δ;obtain⟨br,vo2,θ,ι,rfl,k2,k3,k4,k5,k6,k7,k8⟩:=δ;obtain⟨hl2,hat⟩:=Bf (l:=[T.rcv a x q]) (λu hu=>by cases Kf.1 hu;rfl) k8;obtain⟨v2,rfl⟩:∃v2,ι=[v2]:=by
   match ι,hl2 with
   | [v2],_=>exact⟨v2,rfl⟩
  have hp2:=DM (u:= .rcv a x q) rfl (hat 0 (by simp) (by simp));obtain⟨g2,kk,a2,b2,vr2,r2,hg2,hD2,hlt2,d0,d1,d2,d3,hkk,hlv2,hof,_,_,hiff⟩:=hp2;have hk63:kk=63:=hiff.2 ⟨_,_,_,rfl⟩;subst hk63;obtain⟨at_,κ,hvt⟩:=k7.slice;refine⟨g,0,hg,_,c0,λx w'=>w'=w/\x=false,⟨λh=>absurd h (by decide),λ _=>⟨λh=>absurd h (by decide),λ _=>⟨rfl,by decide⟩⟩⟩,λy H hJ=>?_⟩;obtain⟨rfl,rfl⟩:=hJ;refine⟨λh=>(by cases h),λ _=>dc (by decide) λb24 w25 hb24 hw25=>?_⟩;have x25:Ex H w25:=hw25▸Ex.alloc H _;refine⟨g,0,hg,ptr br,by rw [x25.cell (show g< _ from hl)];exact c3,br,0,rfl,θ,by rw [x25.cell (show br< _ from k3)];exact k5,at_,_,κ,hvt,λout i w'=>(i=0/\Ex H w'/\cJ H.heap.size w' out 0 [])\/(i=1/\Ex H w'/\cJ H.heap.size w' out 1 (cV 63 a2 b2 vr2 true)),λ _ i _=>(1 - i).toNat,.inl ⟨rfl,x25,cJ.zero (Kb _) hb24 hw25⟩,λout i w36 hI=>?_⟩;rcases hI with⟨rfl,ε,J⟩ | ⟨rfl,ε,J⟩
  ·obtain⟨bt,W,G,μ,Z,hbl,hcl⟩:∃bt W G,θ= .slice (some ⟨bt,W,none⟩) 1 G/\D bt/\bt< H.heap.size/\H.cell? ⟨bt,W+0,none⟩=some v2:=by
    rcases k7 with⟨_,h0⟩ | ⟨bt,W,G,e,Z,ν,I⟩
    ·cases h0
    ·exact⟨bt,W,G,e,Z,ν,I 0 _ rfl⟩
   refine dc (by simp) ⟨bt,W,1,G,μ,by omega,by omega,v2,?_,g2,0,hg2,63,?_,dc (by decide) ⟨λw'=>Ex H w',λw46 hw46=>?_⟩⟩
   ·rw [show(0:Int).toNat* 1=0 from rfl,ε.cell (show bt< _ from hbl)];exact hcl
   ·rw [ε.cell (show g2< _ from hlt2)];exact d0
   have x46':Ex w36 w46:=hw46▸Ex.drew w36;have x46:=Ex.trans ε x46';have cg:∀{w':World},Ex H w'->∀j,w'.cell? ⟨g2,j,none⟩=H.cell? ⟨g2,j,none⟩:=λx j=>x.cell (show g2< _ from hlt2)
   refine⟨x46,g2,0,hg2,a2,λw' x=>by rw [cg x];exact d1,g2,0,hg2,b2,λw' x=>by rw [cg x];exact d2,g2,0,hg2,vr2,λw' x=>by rw [cg x];exact d3,hlv2.one,λb56 w57 hb56 hw57=>?_⟩;have x57':Ex w46 w57:=hw57▸Ex.alloc w46 _;have ζ:=Ex.trans x46 x57';have o1:cJ w46.heap.size w57 (.slice (some ⟨b56,0,none⟩) 1 1) 1 (cV 63 a2 b2 vr2 true):=cJ.one rfl (Kb _) hb56 hw57;have hone:(cV 63 a2 b2 vr2 true).all oneV=true:=by have :=hlv2.one;simp only [cV,Lg,MT,Mu,this];rfl
   refine⟨ζ,cJ.push (J.ex (Ex.trans x46' x57')) (by have :=ζ.size;omega) (o1.src hone) (by omega) λv63 w64 ho64 hg64 _=>⟨?_,by unfold aj;omega,.inr ⟨rfl,?_,?_⟩,by show(1 - (0+1):Int).toNat< (1 - 0:Int).toNat;decide⟩⟩
   ·exact Ex.below ζ (Kp.below (Kp.aQ (S:=λg=>out.ownBlock=some g) hg64 λ _ h=>h) ζ.size λg hg e=>by have :=(J.block g e).1;omega)
   ·exact Ex.below ζ (Kp.below (Kp.aQ (S:=λg=>out.ownBlock=some g) hg64 λ _ h=>h) ζ.size λg hg e=>by have :=(J.block g e).1;omega)
   ·simpa using ho64
  ·refine aV (by simp) (hR out w36 _ ε J ?_);exact OffsM.one ((hof true rfl a x q rfl).ex ε)
 case sum p q=>
  have hlive:(T.sum p q).dead=false:=n.rB rfl;have hsm:=Gc n hs rfl hlive;have hofs:=EL n;have etl:tl [T.sum p q]= .sum (tp (T.sum p q).mw) .nil:=by
   simp only [tl,T.mw];rw [eo hq.ec n.2.1 n.1.1,eo hq.dL n.2.2 n.1.2.1,T.gz n.1.2.2];rfl
  rw [etl]at h;obtain⟨t,ts',a',b',vp,us,e1,⟨g,hg,hD,hl,c0,c1,c2,c3,c4⟩,hus,hps,_⟩:=h;obtain⟨rfl,rfl⟩:=K8 e1;obtain⟨hul,hua⟩:=GN hps;generalize hS:(T.sum p q).mw=S at*;have hSl:S.length<=1000000:=by
   have:∀u:U,u.mw.length<=u.size:=by
    intro u
    induction u with
    | sum p q _ ih=>simp only [T.mw,J0,T.size];omega
    | _=>simp only [T.mw,J0,Kh,T.size];omega
   have :=this (T.sum p q);rw [hS]at this;omega
  have hol:∀i,((S.take i).flatMap offs).length=(S.take i).length:=by
   have:∀l:List U,(∀s∈l,pre s=true)->(l.flatMap offs).length=l.length:=by
    intro l
    induction l with
    | nil=>intro _;rfl
    | cons s l ih=>
     intro hl;obtain⟨o,ho⟩:=wg (hl s (by simp));simp only [Ly,ho,J',J0,Kh,ih λx hx=>hl x (by simp [hx])];omega
   exact λi=>this _ λs α=>(hsm s (List.mem_of_mem_take α)).1
  obtain⟨au,cau,hvu⟩:=hus.slice;refine⟨g,0,hg,43,c0,λx w'=>w'=w/\x=false,⟨λh=>absurd h (by decide),λ _=>⟨λh=>absurd h (by decide),λ _=>⟨rfl,by decide⟩⟩⟩,λy H hJ=>?_⟩;obtain⟨rfl,rfl⟩:=hJ;refine⟨λh=>(by cases h),λ _=>aV (by decide) (dc (by decide) λb68 w69 hb68 hw69=>?_)⟩;have x69:Ex H w69:=hw69▸Ex.alloc H _;refine⟨g,0,hg,vp,by rw [x69.cell (show g< _ from hl)];exact c4,au,_,cau,hvu,λout i w'=>∃(j:Nat) (xs:List Value),i=j/\j<=us.length/\Ex H w'/\cJ H.heap.size w' out ((S.take j).flatMap offs).length xs/\OffsM D w' ((S.take j).flatMap offs) xs,λ _ i _=>(us.length - i).toNat,⟨0,[],rfl,KT _,x69,by simpa using cJ.zero (Kb _) hb68 hw69,by simp [OffsM]⟩,λout i w80 hI=>?_⟩;obtain⟨j,xs,rfl,hj,x80,ξ,ο⟩:=hI;refine⟨λhlt=>?_,λhge=>?_⟩;rotate_left
  ·have:j=S.length:=by simp only [J6]at hge;omega
   rw [this,KA]at ξ ο;rw [hofs]at hR;exact hR out w80 xs x80 ξ ο
  have hjl:j< us.length:=by simp only [J4]at hlt;omega
  have hjS:j< S.length:=by omega
  have η:=hsm S[j] (Kg hjS);obtain⟨bu,ou,β,hvu',Z,hbu,hcu⟩:∃bu ou β,vp= .slice (some ⟨bu,ou,none⟩) us.length β/\D bu/\bu< H.heap.size/\H.cell? ⟨bu,ou+j,none⟩=some us[j]:=by
   rcases hus with⟨_,h0⟩ | ⟨bt,W,G,e,Z,ν,I⟩
   ·rw [h0]at hjl;simp at hjl
   ·exact⟨bt,W,G,e,Z,ν,I j _ (J2 hjl)⟩
  have δ:=hua j hjS hjl;have huqS:Uq S[j]:=by
   refine⟨hq.nd.sublist η.2.2.2,λx hx hf=>?_⟩;have hfr:∀u:U,∀s∈u.mw,∀z,s.Fr z->u.Fr z:=by
    intro u
    induction u with
    | sum p q _ ih=>
     intro s α z hz;rcases Ks.1 α with rfl | α
     ·exact .inl hz
     ·exact .inr (ih s α z hz)
    | _=>intro s α z hz;cases Kf.1 α;exact hz
   exact hq.nf x (η.2.2.1 x hx) (hfr _ S[j] (by rw [hS];exact Kg hjS) x hf)
  have ς:(S[j]).th=true:=by
   have h1:=η.1;revert h1;cases S[j]<;>first | (intro _;rfl) | (intro h;cases h)
  have etd:td S[j]=([],tl [S[j]]):=by rw [js huqS η.2.1,T.iN ς,T.n7 ς]
  rw [etd]at δ;obtain⟨br,vo2,θ,ι,hbr,k2,k3,k4,k5,k6,k7,k8⟩:=δ;obtain⟨hl2,hat⟩:=Bf (l:=[S[j]]) (λu hu=>by cases Kf.1 hu;exact ς) k8;obtain⟨v2,rfl⟩:∃v2,ι=[v2]:=by
   match ι,hl2 with
   | [v2],_=>exact⟨v2,rfl⟩
  have ha2:=hat 0 (by simp) (by simp);obtain⟨at_,κ,hvt⟩:=k7.slice;have htk:(S.take (j+1)).flatMap offs=(S.take j).flatMap offs++offs S[j]:=by rw [J8 hjS,Lf];simp
  refine⟨bu,ou,_,β,hvu',by omega,by omega,us[j],?_,br,0,hbr,θ,by rw [x80.cell (show br< _ from k3)];exact k5,at_,_,κ,hvt,λout i w'=>(i=0/\∃xs,Ex H w'/\cJ H.heap.size w' out ((S.take j).flatMap offs).length xs/\OffsM D w' ((S.take j).flatMap offs) xs)\/(i=1/\∃xs,Ex H w'/\cJ H.heap.size w' out ((S.take (j+1)).flatMap offs).length xs/\OffsM D w' ((S.take (j+1)).flatMap offs) xs),
   λ _ i _=>(1 - i).toNat,.inl ⟨rfl,xs,x80,ξ,ο⟩,λout2 i w93 hI2=>?_⟩
  ·rw [J9,KK,x80.cell (show bu< _ from hbu)];exact hcu
  rcases hI2 with⟨rfl,xs2,υ,V,φ⟩ | ⟨rfl,xs2,υ,V,φ⟩
  ·obtain⟨bt,W,G,μ,hbD2,hbl,hcl⟩:∃bt W G,θ= .slice (some ⟨bt,W,none⟩) 1 G/\D bt/\bt< H.heap.size/\H.cell? ⟨bt,W+0,none⟩=some v2:=by
    rcases k7 with⟨_,h0⟩ | ⟨bt,W,G,e,Z,ν,I⟩
    ·cases h0
    ·exact⟨bt,W,G,e,Z,ν,I 0 _ rfl⟩
   refine dc (by simp) ⟨bt,W,1,G,μ,by omega,by omega,v2,?_,DF η.1 (af.ex ha2 υ) λv99 w100 ys χ ho100 ψ=>?_⟩
   ·rw [show(0:Int).toNat* 1=0 from rfl,υ.cell (show bt< _ from hbl)];exact hcl
   have γ:=Ex.trans υ χ;have hlen1:=hol j;rw [KP,MD (by omega)]at hlen1;obtain⟨o,hoo⟩:=wg η.1;have hlo:(offs S[j]).length=1:=by rw [hoo];rfl
   refine cJ.push (V.ex χ) γ.size (ho100.src ψ.len.2) (by omega) λv106 w107 ho107 ω _=>⟨by unfold aj;omega,.inr ⟨rfl,xs2++ys,?_,?_,?_⟩,by show(1 - (0+1):Int).toNat< (1 - 0:Int).toNat;decide⟩
   ·exact Ex.below γ (Kp.below (Kp.aQ (S:=λg=>out2.ownBlock=some g) ω λ _ h=>h) γ.size λg hg e=>by have :=(V.block g e).1;omega)
   ·rw [htk,J'];exact ho107
   ·rw [htk];exact OffsM.kp (Kp.aQ (S:=λg=>out2.ownBlock=some g) ω λ _ h=>h) (λg hgD e=>by have :=(V.block g e).1;have :=hDw g hgD;omega) ((φ.ex χ).app ψ)
  ·refine aV (by simp) ⟨by unfold aj;omega,⟨j+1,xs2,by omega,by omega,υ,V,φ⟩,by show((us.length:Int) - ((j:Int)+1)).toNat< ((us.length:Int) - j).toNat;omega⟩
end Go.Proofs.YtdecokaadekjnaaGreat
namespace Go.Proofs.YtdecokaadekjnaaGreat
open Go Go.RowKit T
structure qK (b b2 n0 c:Nat)(w0 w':World)(acc:List U)(M:Nat->Prop):Prop where
 km:Km b w0 w'
 rs:Hm w0.heap.size w' b2 (outs acc) (!jv acc) M
 mc:∃n,Mk w' b n/\n0<=n/\n<=n0+c
 hb:b< w0.heap.size
section
variable {b b2 n0 c:Nat} {w0 w w':World} {acc:List U} {M:Nat->Prop}
theorem qK.nb (h:qK b b2 n0 c w0 w acc M):¬M b:=λz=>by have :=(h.rs.mr b z).1;have :=h.hb;omega
theorem qK.ex (h:qK b b2 n0 c w0 w acc M)(x:Ex w w'):qK b b2 n0 c w0 w' acc M:=by
 obtain⟨n,z,h2⟩:=h.mc;exact⟨h.km.out (Kp.ah x λ _=>False) (λ _ _ h=>h) h.hb,h.rs.kp (Kp.ah x λ _=>False) λ _ _ h=>h,⟨n,z.ex x,h2⟩,h.hb⟩
theorem IJ (h:qK b b2 n0 c w0 w acc M)(hl:acc.length<=1000000000){W vo Z:Value}{v:U}(hv:∀{R:ay->Bool->World->Prop},(∀w',Ex w w'->(∀s,kC v=some s->R s true w')/\(kC v=none->R [] false w'))->Calls Tryz.prog 176 #[ptr b,W,vo,Z] w (ax [.s,.b] R))
  {S J:World->Prop} (hS:∀w',Kp w w' M->S w') (hJ:∀z G,qK b b2 n0 c w0 z (acc++[v]) G->Kp w z M->(∀g,G g->M g\/w.heap.size<=g)->J z):
  Calls Tryz.prog 176 #[ptr b,W,vo,Z] w (ax [.s,.b] fun(s:ay) (q:Bool) (w2:World)=>S w2/\Calls Tryz.prog 99 #[ptr b2,.string (ab s),.bool q] w2 (ax [] fun(z:World)=>S z/\J z)):=by
 have fin:∀(s:ay) (q:Bool) (w2:World),Ex w w2->s=(kC v).getD []->q=(kC v).isSome->S w2/\Calls Tryz.prog 99 #[ptr b2,.string (ab s),.bool q] w2 (ax [] fun(z:World)=>S z/\J z):=by
  intro s q w2 x H hq;have h2:=h.ex x;have α:(outs acc).length=acc.length:=by unfold outs;simp
  refine⟨hS w2 (Kp.ah x _),HW h2.rs (by omega) λz G I r3 V=>?_⟩;have k:=Kp.trans (Kp.ah x M) I λ _ _ h=>h
  obtain⟨n,m1,m2,m3⟩:=h2.mc;refine⟨hS z k,hJ z G ⟨h2.km.out I (λg hg hM=>by have :=(h2.rs.mr g hM).1;omega) h.hb,?_,⟨n,m1.kp I h2.nb,m2,m3⟩,h.hb⟩ k λg hg=>(V g hg).imp id λh=>K5 x.size h⟩;have e1:outs (acc++[v])=outs acc++[s]:=by rw [yS,H];rfl
  have e2:(!jv (acc++[v]))=((!jv acc)|| !q):=by
   rw [uB,hq,Bool.not_and];simp [jv]
  rw [e1,e2];exact r3
 refine hv λw2 x=>⟨λs H=>fin s true w2 x (by rw [H];rfl) (by rw [H];rfl),λhn=>fin [] false w2 x (by rw [hn];rfl) (by rw [hn];rfl)⟩
end
theorem Ay {t:P}{u:U}(su:SU t u){D:Nat->Prop}{w:World}{v:Value}(h:aB D w (td u) v):∃b vo vt ts,v=ptr b/\D b/\b< w.heap.size/\w.cell? ⟨b,0,none⟩=some vo/\w.cell? ⟨b,1,none⟩=some vt/\eF D w vo (u.frL.map iv)/\eF D w vt ts/\ts.length=u.ths.length/\∀i (h:i< u.ths.length) (Z:i< ts.length),af D w (tl [u.ths[i]]) [ts[i]]:=by
 rw [js su.nu.uq su.nr]at h;obtain⟨b,vo,vt,ts,z,h2,G,h4,h5,H,I,h8⟩:=h;obtain⟨J,V⟩:=Bf (λq W=>(su.nr.ths q W).1) h8;exact⟨b,vo,vt,ts,z,h2,G,h4,h5,H,I,J,V⟩
theorem SU.th {t:P}{u:U}(su:SU t u):∀q∈u.ths,q.th=true/\Uq q/\q.Nr:=λq z=>by
 obtain⟨i,G,rfl⟩:=KY.1 z;exact⟨(su.nr.ths _ z).1,su.lV G (Sub.refl _) (La _),(su.nr.ths _ z).2⟩
theorem pf (u:U):(td u).1.length+(td u).2.tot<=4* u.size:=by
 have z:=oZ (flat u).1 (flat u).2;have h2:=cG u;have e:Lv.tidy (flat u).1 (flat u).2=td u:=rfl;rw [e]at z;omega
theorem jY (f:Nat->Nat):∀l:Lv,(l.map f).tot=l.tot
 | .nil=>rfl
 | .thr k a b o r n=>by simp only [Lv.map,Lv.tot,jY f r,jY f n,Kz]
 | .sum z n=>by simp only [Lv.map,Lv.tot,jY f z,jY f n]
 | .part o q n=>by simp only [Lv.map,Lv.tot,jY f q,jY f n,Kz]
theorem ya {t:P}{u:U}(su:SU t u)(η:u.size<=1000){w:World}{b:Nat}{vl vg vo vm:Value}{gl:List Nat}{mvs:List Value}{zs:List ((List Nat×Lv)×U)}{V:U}(W:w.cell? ⟨b,2,none⟩=some vl)(Z:b< w.heap.size)(hl:aB (λg=>g< w.heap.size) w (td u) vl)(hg:eF (λg=>g< w.heap.size) w vg (gl.map iv))(α:gl.length<=1000)
  (ho:eF (λg=>g< w.heap.size) w vo (u.frL.map iv)) (hm:eF (λg=>g< w.heap.size) w vm mvs) (β:aM (λL v=>aB (λg=>g< w.heap.size) w L v) (zs.map (·.1)) mvs) (γ:mvs.length<=1000) (hz:∀z∈zs,Pc z.1 z.2) (θ:(joinL (zs.map (·.1))).1.length+(joinL (zs.map (·.1))).2.tot<=1000000)
  {P:Nat->Bool} (hP:∀i,P i=decide (i∈gl)) (H:Nu (resL u.frL (parL (kz P u.ths 0++zs.map (·.2))))) (δ:kC (resL u.frL (parL (kz P u.ths 0++zs.map (·.2))))=kC V) {R:ay->Bool->World->Prop} (hR:∀w',Ex w w'->(∀s,kC V=some s->R s true w')/\(kC V=none->R [] false w')):
  Calls Tryz.prog 176 #[ptr b,vg,vo,vm] w (ax [.s,.b] R):=by
 have I:=js su.nu.uq su.nr;have J:=su.th;have e:=By u.frL (K:=kz P u.ths 0) (λt ht=>J t (rz ht)) hz;have G:=pf u;rw [I]at hl G;have ε:∀x∈zs.map (·.1),x.2.sh true=true:=λx hx=>by
  obtain⟨z,h1,rfl⟩:=KQ.1 hx;exact(hz z h1).sh
 have ζ:(tl u.ths).sh true=true:=by have :=Bh u;rw [I]at this;exact this
 simp only at G;refine FT (res:=(u.frL++(joinL (zs.map (·.1))).1,(tl (kz P u.ths 0)).app (joinL (zs.map (·.1))).2)) W Z hl hg α ho hm β γ ζ ε (by omega) hP (by rw [HG λt ht=>(J t ht).1]) ?_ ?_ λw' x=>?_
 ·rw [e];exact zF H.uq H.bv
 ·rw [e];exact GO H
 ·rw [e];have:zv (td (resL u.frL (parL (kz P u.ths 0++zs.map (·.2)))))=kC V:=δ;rw [this];exact hR w' x
theorem aM.IB {A B:Type}{R:A->B->Prop}:aM R [] []:=⟨rfl,λi a b h=>by simp at h⟩
theorem Jd {w w1:World}{e g:Nat}{x:Value}(G:g=w.heap.size)(hw:w1=w.alloc (.cells #[x] e)):eF (λg=>g< w1.heap.size) w1 (.slice (some ⟨g,0,none⟩) 1 1) [x]:=by
 subst G hw;refine .inr ⟨w.heap.size,0,1,rfl,by rw [size_alloc];omega,by rw [size_alloc];omega,λi y z=>?_⟩;cases i with
 | zero=>simp only [Lh,Lw]at z;subst z;exact aa rfl
 | succ i=>simp at z
theorem JW {w w1:World}{e g:Nat}{x z:Value}(H:g=w.heap.size)(hw:w1=w.alloc (.cells #[x,z] e)):eF (λg=>g< w1.heap.size) w1 (.slice (some ⟨g,0,none⟩) 2 2) [x,z]:=by
 subst H hw;refine .inr ⟨w.heap.size,0,2,rfl,by rw [size_alloc];omega,by rw [size_alloc];omega,λi y G=>?_⟩
 match i,G with
 | 0,G=>simp only [Lh,Lw]at G;subst G;exact aa rfl
 | 1,G=>simp only [List.getElem?_cons_succ,Lh,Lw]at G;subst G;exact aa rfl
 | i+2,G=>simp at G
theorem Jl {D:Nat->Prop}{w w1:World}{v:Value}{l:List Value}(h:eF D w v l)(x:Ex w w1):eF (λg=>g< w1.heap.size) w1 v l:=(h.ex x).sub λg z _=>z
theorem gO:∀u:U,(BV u).length<=u.size
 | .nil=>by simp [BV]
 | .snd a b p=>by have :=gO p;simp only [BV,T.size];omega
 | .mat a b p=>by have :=gO p;simp only [BV,T.size];omega
 | .rcv a b p=>by have :=gO p;simp only [BV,T.size,J0];omega
 | .res b p=>by have :=gO p;simp only [BV,T.size,J0];omega
 | .tau p=>by have :=gO p;simp only [BV,T.size];omega
 | .rep p=>by have :=gO p;simp only [BV,T.size];omega
 | .sum p q=>by have :=gO p;have :=gO q;simp only [BV,T.size,J'];omega
 | .par p q=>by have :=gO p;have :=gO q;simp only [BV,T.size,J'];omega
theorem eE:∀u:U,∀q∈u.ths,q.size<=u.size:=by
 intro u
 induction u with
 | nil=>intro q h;cases h
 | res x p G=>intro q h;have :=G q h;simp only [T.size];omega
 | par p r G z=>
  intro q h;simp only [T.size];rcases Ks.1 h with rfl | h
  ·omega
  ·have :=z q h;omega
 | _=>intro q h;cases Kf.1 h;exact Kb _
section
variable {t:P} {u:U} {b b2 n0 c:Nat} {w w1:World} {acc:List U} {M D:Nat->Prop}
theorem Hh (ok:mA t)(su:SU t u)(hsz:u.size<=60)(h:qK b b2 n0 c w w1 acc M){bl:Nat}(hcl:w1.cell? ⟨b,2,none⟩=some (ptr bl))(hl:aB D w1 (td u) (ptr bl))(hD:∀g,D g->g≠b/\g< w.heap.size){i:Nat}{p:U}(hi:i< u.ths.length)(ho:Off.tau p∈offs u.ths[i]){Z:Nat}{vr:Value}(c3:w1.cell? ⟨Z,3,none⟩=some vr)(hb40:Z< w1.heap.size)(hMb:¬M Z)(κ:aB D w1 (td p) vr)
  (hacc:acc.length<=1000000000) {J:World->Prop} (hJ:∀w3 M',qK b b2 n0 c w w3 (acc++[It u i p]) M'->Kp w1 w3 M->(∀g,M' g->M g\/w1.heap.size<=g)->J w3):
  ∃G:World->Prop,∀H:World,H=World.drew w1->G H/\∃(b47 o48:Nat),ptr b=Value.pointer (some ⟨b47,o48,none⟩)/\∃v49:Value,(∀w',G w'->World.cell? w' ⟨b47,(o48+2),none⟩=some v49)/\∃(b50 o51:Nat),v49=Value.pointer (some ⟨b50,o51,none⟩)/\∃μ:Value,(∀w',G w'->World.cell? w' ⟨b50,(o51+0),none⟩=some μ)/\∃v53:Value,(∀w',G w'->World.cell? w' ⟨Z,3,none⟩=some v53)/\(∀(ν:Nat) (I:World),ν=Array.size (World.heap H)->I=World.alloc H (Obj.cells #[(Value.int IntKind.i64 (i:Int))] 3)->G I/\oneV v53=true/\∀(ξ:Nat) (α:World),ξ=Array.size (World.heap I)->α=World.alloc I (Obj.cells #[v53] 146)->G α/\Calls Tryz.prog 176 #[ptr b,(Value.slice (some ⟨ν,0,none⟩) 1 1),μ,(Value.slice (some ⟨ξ,0,none⟩) 1 1)] α (ax [.s,.b] fun(ο:ay) (ς:Bool) (γ:World)=>G γ/\Calls Tryz.prog 99 #[(Value.pointer (some ⟨b2,0,none⟩)),(Value.string (ab ο)),(Value.bool ς)] γ (ax [] fun(δ:World)=>G δ/\J δ)))/\
   (oneV v53=true/\∀(υ:Nat) (V:World),υ=Array.size (World.heap H)->V=World.alloc H (Obj.cells #[v53] 146)->G V/\∀(φ:Nat) (β:World),φ=Array.size (World.heap V)->β=World.alloc V (Obj.cells #[(Value.int IntKind.i64 (i:Int))] 3)->G β/\Calls Tryz.prog 176 #[ptr b,(Value.slice (some ⟨φ,0,none⟩) 1 1),μ,(Value.slice (some ⟨υ,0,none⟩) 1 1)] β (ax [.s,.b] fun(s66:ay) (q67:Bool) (w68:World)=>G w68/\Calls Tryz.prog 99 #[(Value.pointer (some ⟨b2,0,none⟩)),(Value.string (ab s66)),(Value.bool q67)] w68 (ax [] fun(w69:World)=>G w69/\J w69))):=by
 have hb:=h.hb;have s0:=h.km.size;have hDM:∀g,D g->¬M g:=λg hg hM=>by have :=(hD g hg).2;have :=(h.rs.mr g hM).1;omega
 obtain⟨bl',vo,vt,ts,e1,k2,k3,k4,k5,k6,k7,k8,k9⟩:=Ay su hl;cases e1;have hNu:=(Dd ok su hi ho).1;obtain⟨sU,_⟩:=aZ (su.smp _ (Kg hi)) _ ho;have uqp:Uq p:=(su.lV hi sU (gh _ ho)).tau;have nrp:p.Nr:=sU.nr (su.nrs _ (Kg hi));have hwo:kz (λn=>n==i||n==i) u.ths 0=wo u.ths i i:=(zY _ _ _).symm;have htp:=pf p;have hps:p.size<=60:=by have h1:=sU.size;have h2:=eE u _ (Kg hi);simp only [Off.tm,T.size]at h1;omega
 have go:∀(wc:World) (vg vm:Value),Ex w1 wc->eF (λg=>g< wc.heap.size) wc vg [iv i]->eF (λg=>g< wc.heap.size) wc vm [vr]->Calls Tryz.prog 176 #[ptr b,vg,vo,vm] wc (ax [.s,.b] fun(ο:ay) (ς:Bool) (γ:World)=>Kp w1 γ M/\Calls Tryz.prog 99 #[(Value.pointer (some ⟨b2,0,none⟩)),(Value.string (ab ο)),(Value.bool ς)] γ (ax [] fun(δ:World)=>Kp w1 δ M/\J δ)):=by
  intro wc vg vm xc hg hm;have sc:=xc.size;have kc:Kp w1 wc M:=Kp.ah xc _;refine IJ (h.ex xc) hacc (λhR=>?_) (λw' k=>Kp.trans kc k λ _ _ h=>h) λw3 M' r3 k3 hM'=>hJ w3 M' r3 (Kp.trans kc k3 λ _ _ h=>h) λg hg=>(hM' g hg).imp id λh=>by omega
  refine ya su (by omega) (zs:=[(td p,p)]) (gl:=[i]) (P:=λn=>n==i||n==i) (mvs:=[vr]) (by rw [xc.cell (show b< _ by omega)];exact hcl) (by omega) (aB.sub (aB.ex hl xc) λg hg _=>hg) hg (by simp) (Jl k6 xc) hm (aM.cons (aB.sub (aB.ex κ xc) λg hg _=>hg) aM.IB) (by simp) (λz hz=>by cases Kf.1 hz;exact Pc.nr uqp nrp) ?_ (λj=>?_) ?_ ?_ hR
  ·simp only [KE,L6,pE];omega
  ·simp [jT]
  ·rw [hwo];exact hNu
  ·rw [hwo];rfl
 have c3':∀w',Kp w1 w' M->w'.cell? ⟨Z,3,none⟩=some vr:=λw' k=>by rw [J1 (w:=w1) (k.block Z hb40 hMb)];exact c3
 refine⟨λw'=>Kp w1 w' M,λH ε=>⟨ε▸Kp.ah (Ex.drew w1) _,b,0,rfl,ptr bl,λw' k=>by rw [J1 (w:=w1) (k.block b (by omega) h.nb)];exact hcl,bl,0,rfl,vo,λw' k=>by rw [J1 (w:=w1) (k.block bl k3 (hDM bl k2))];exact k4,vr,c3',λν I hb54 ζ=>?_,κ.one,λυ V hb62 η=>?_⟩⟩
 ·have W:Ex w1 H:=ε▸Ex.drew w1;have χ:Ex H I:=ζ▸Ex.alloc _ _;refine⟨Kp.ah (Ex.trans W χ) _,κ.one,λξ α hb56 θ=>?_⟩;have ψ:Ex I α:=θ▸Ex.alloc _ _;exact⟨Kp.ah (Ex.trans (Ex.trans W χ) ψ) _,go α _ _ (Ex.trans (Ex.trans W χ) ψ) (Jl (Jd hb54 ζ) ψ) (Jd hb56 θ)⟩
 ·have W:Ex w1 H:=ε▸Ex.drew w1;have ω:Ex H V:=η▸Ex.alloc _ _;refine⟨Kp.ah (Ex.trans W ω) _,λφ β hb64 ι=>?_⟩;have x65:Ex V β:=ι▸Ex.alloc _ _;exact⟨Kp.ah (Ex.trans (Ex.trans W ω) x65) _,go β _ _ (Ex.trans (Ex.trans W ω) x65) (Jd hb64 ι) (Jl (Jd hb62 η) x65)⟩
theorem mA.bound (ok:mA t)(su:SU t (num t e0 0).1):∀z,(z∈(num t e0 0).1.frL\/z∈(num t e0 0).1.ths.flatMap BV\/∃q∈(num t e0 0).1.ths,q.Fr z)->z<=(num t e0 0).2+100:=by
 have H:=su.nr.shape;have G:BV (num t e0 0).1=(num t e0 0).1.frL++(num t e0 0).1.ths.flatMap BV:=by
  have:BV (num t e0 0).1=BV (resL (num t e0 0).1.frL (parL (num t e0 0).1.ths)):=by rw [<-H]
  rw [this,gw,gm]
 have key:∀z∈BV (num t e0 0).1,z<=(num t e0 0).2+100:=λz I=>((fe t e0 0).2 z I).2
 intro z I;rcases I with h | h | h
 ·exact key z (by rw [G];exact KH _ h)
 ·exact key z (by rw [G];exact KB _ h)
 ·rcases su.free z h with h | h
  ·exact key z (by rw [G];exact KH _ h)
  ·omega
theorem FK (hu:u=(num t e0 0).1)(hn0:n0=(num t e0 0).2)(ok:mA t)(su:SU t u)(hsz:u.size<=60)(h:qK b b2 n0 c w w1 acc M){bl:Nat}(hcl:w1.cell? ⟨b,2,none⟩=some (ptr bl))(hl:aB D w1 (td u) (ptr bl))(hD:∀g,D g->g≠b/\g< w.heap.size){i k:Nat}{e d x:Nat}{p q:U}{s:Bool}(hi:i< u.ths.length)(hk:k< u.ths.length)(hik:i≠k)(ho:Off.snd e d p∈offs u.ths[i])(hr:Off.rcv e x q s∈offs u.ths[k])
  {ι H:Nat} {vr vq:Value} (c403:w1.cell? ⟨ι,3,none⟩=some vr) (c402:w1.cell? ⟨ι,2,none⟩=some (iv d)) (χ:ι< w1.heap.size) (hMb:¬M ι) (hbb:ι≠b) (hvr:aB D w1 (td p) vr) (c108:∀j,j< 5->w1.cell? ⟨H,j,none⟩=(cV 63 e x vq s)[j]?) (hb108:H< w1.heap.size) (hMb2:¬M H) (hbb2:H≠b) (hvq:aB D w1 (td q) vq)
  {gone:Value} (hgone:eF (λg=>g< w1.heap.size/\¬(g=b\/M g)) w1 gone ((if s then [i]else [i,k]).map iv)) (hacc:acc.length<=1000000000) (hc:n0+c<=4294966000) {J:World->Prop}
  (hJ:∀w3 M',qK b b2 n0 (c+60) w w3 (acc++[Cx u i k p (q.map (Ff (NN u) q x d)) s]) M'->Kp w1 w3 (λg=>g=b\/M g)->(∀g,M' g->M g\/w1.heap.size<=g)->J w3):
  ∃I:World->Prop,∀α:World,α=World.drew w1->I α/\∃(ψ ω:Nat),ptr b=Value.pointer (some ⟨ψ,ω,none⟩)/\∃v127:Value,(∀w',I w'->World.cell? w' ⟨ψ,(ω+2),none⟩=some v127)/\∃(b128 o129:Nat),v127=Value.pointer (some ⟨b128,o129,none⟩)/\∃v130:Value,(∀w',I w'->World.cell? w' ⟨b128,(o129+0),none⟩=some v130)/\∃v131:Value,(∀w',I w'->World.cell? w' ⟨ι,3,none⟩=some v131)/\∃c132:UInt8,∃n133:Int,∃n134:Int,∃v135:Value,∃q136:Bool,(∀w',I w'->World.cell? w' ⟨H,0,none⟩=some (Value.int IntKind.u8 (UInt8.toNat c132))/\World.cell? w' ⟨H,1,none⟩=some (Value.int IntKind.i64 n133)/\World.cell? w' ⟨H,2,none⟩=some (Value.int IntKind.i64 n134)/\World.cell? w' ⟨H,3,none⟩=some v135/\World.cell? w' ⟨H,4,none⟩=some (Value.bool q136)/\True)/\∃n137:Int,(∀w',I w'->World.cell? w' ⟨ι,2,none⟩=some (Value.int IntKind.i64 n137))/\
   Calls Tryz.prog 177 #[ptr b,(Value.agg #[(Value.int IntKind.u8 (UInt8.toNat c132)),(Value.int IntKind.i64 n133),(Value.int IntKind.i64 n134),v135,(Value.bool q136)]),(Value.int IntKind.i64 n137)] α (ax [.v] fun(v138:Value) (W:World)=>I W/\oneV v131=true/\oneV v138=true/\∀(η:Nat) (G:World),η=Array.size (World.heap W)->G=World.alloc W (Obj.cells #[v131,v138] 146)->I G/\Calls Tryz.prog 176 #[ptr b,gone,v130,(Value.slice (some ⟨η,0,none⟩) 2 2)] G (ax [.s,.b] fun(ν:ay) (ξ:Bool) (β:World)=>I β/\Calls Tryz.prog 99 #[(Value.pointer (some ⟨b2,0,none⟩)),(Value.string (ab ν)),(Value.bool ξ)] β (ax [] fun(γ:World)=>I γ/\J γ))):=by
 have hb:=h.hb;have s0:=h.km.size;have φ:∀g,D g->¬M g:=λg Z hM=>by have :=(hD g Z).2;have :=(h.rs.mr g hM).1;omega
 obtain⟨bl',vo,vt,ts,e1,k2,k3,k4,k5,k6,k7,k8,k9⟩:=Ay su hl;cases e1;obtain⟨sU,_⟩:=aZ (su.smp _ (Kg hi)) _ ho;have uqp:Uq p:=(su.lV hi sU (gh _ ho)).snd;have nrp:p.Nr:=sU.nr (su.nrs _ (Kg hi));obtain⟨rU,_⟩:=aZ (su.smp _ (Kg hk)) _ hr;have cU:=gh _ hr;have uqr:=su.lV hk rU cU;have uqq:Uq q:=uqr.rcv;have nrq:q.Nr:=rU.nr (su.nrs _ (Kg hk));have hps:p.size<=60:=by have h1:=sU.size;have h2:=eE u _ (Kg hi);simp only [Off.tm,T.size]at h1;omega
 have hqs:q.size<=60:=by have h1:=rU.size;have h2:=eE u _ (Kg hk);simp only [Off.tm,T.size]at h1;omega
 have htp:=pf p;have htq:=pf q;have hbvq:=EJ _ (Kb _) uqq nrq;have hbvl:=gO q;have hql:(td q).1.length+(td q).2.bvs.length=(BV q).length:=by rw [<-hbvq,J']
 have hq26:∀z∈BV q,26<=z:=λz hz=>su.ge z (KB _ (KU.2 ⟨_,Kg hk,cU.subset (Ki _ hz)⟩))
 have hMb':∀g,g< w.heap.size->g≠b->¬(g=b\/M g):=λg h1 h2 e=>e.elim h2 λhM=>by have :=(h.rs.mr g hM).1;omega
 have st:∀{w':World},Kp w1 w' (λg=>g=b\/M g)->∀{g:Nat},g< w1.heap.size->g≠b->¬M g->∀j,w'.cell? ⟨g,j,none⟩=w1.cell? ⟨g,j,none⟩:=λk g h1 h2 h3 j=>J1 (w:=w1) (k.block g h1 λe=>e.elim h2 h3)
 refine⟨λw'=>Kp w1 w' (λg=>g=b\/M g)/\w'.cell? ⟨b,2,none⟩=some (ptr bl),λα hw124=>?_⟩;have θ:Ex w1 α:=hw124▸Ex.drew w1;have hbl:b< w1.heap.size:=by omega
 have S124:Kp w1 α (λg=>g=b\/M g)/\α.cell? ⟨b,2,none⟩=some (ptr bl):=⟨Kp.ah θ _,by rw [θ.cell (show b< _ from hbl)];exact hcl⟩
 refine⟨S124,b,0,rfl,ptr bl,λw' k=>k.2,bl,0,rfl,vo,λw' k=>by rw [st k.1 k3 (hD _ k2).1 (φ _ k2)];exact k4,vr,λw' k=>by rw [st k.1 χ hbb hMb];exact c403,63,e,x,vq,s,λw' k=>?_,d,λw' k=>by rw [st k.1 χ hbb hMb];exact c402,?_⟩
 ·have hc:∀j,j< 5->w'.cell? ⟨H,j,none⟩=(cV 63 e x vq s)[j]?:=λj hj=>by rw [st k.1 hb108 hbb2 hMb2];exact c108 j hj
  exact⟨hc 0 (by omega),hc 1 (by omega),hc 2 (by omega),hc 3 (by omega),hc 4 (by omega),trivial⟩
 have μ:=h.ex θ;obtain⟨n,mn,hn1,hn2⟩:=μ.mc;refine HF mn (aB.ex hvq θ) (λg Z=>(hD g Z).1) (Bh q) (zF uqq hq26) (by omega) (by omega) λv138 W F' n' ζ mk139 V l139=>?_
 have ο:Kp w1 W (λg=>g=b\/M g):=Kp.trans (Kp.ah θ _) (Kp.mono (λ _ e=> .inl e) ζ.kp) λ _ _ h=>h
 have c139:W.cell? ⟨b,2,none⟩=some (ptr bl):=by rw [ζ.ce 2 (by omega)];exact S124.2
 refine⟨⟨ο,c139⟩,hvr.one,l139.one,λη G hb140 κ=>?_⟩;have δ:Ex W G:=κ▸Ex.alloc _ _;have s141:G.heap.size=W.heap.size+1:=by rw [κ,size_alloc]
 have s139:=ο.size;have ε:Kp w1 G (λg=>g=b\/M g):=Kp.trans ο (Kp.ah δ λ _=>False) λ _ _ h=>h.elim
 have ς:G.cell? ⟨b,2,none⟩=some (ptr bl):=by rw [δ.cell (show b< _ by omega)];exact c139
 refine⟨⟨ε,ς⟩,?_⟩;have rl:=V.len;rw [J']at rl;have r141:qK b b2 n0 (c+60) w G acc M:=by
  have km:Km b w W:=Km.trans μ.km ζ;exact⟨km.out (Kp.ah δ λ _=>False) (λ _ _ h=>h) hb,(μ.rs.kp ζ.kp λg hM e=>μ.nb (e▸hM)).kp (Kp.ah δ λ _=>False) λ _ _ h=>h,⟨n',mk139.ex δ,by have :=V.le;omega,by omega⟩,hb⟩
 have hF:EZ (n+100) q x d F':=by
  rw [hbvq]at V;refine⟨?_,λz h1 h2=>?_,λz hz=>(V.rng z hz).1,λz hz y hy e=>V.inj z hz y hy e⟩
  ·rw [V.out x uqr.lL];simp [aF]
  ·rw [V.out z h2];simp [aF,h1]
 have hNn:∀z,(z∈u.frL\/z∈u.ths.flatMap BV\/∃q∈u.ths,q.Fr z)->z<=n+100:=λz hz=>by
  subst hu;have :=mA.bound ok su z hz;omega
 have hcok:=rL w1 ok su hi hk hik ho hr hF hNn (by omega);have υ:=Cn w1 ok su hi hk hik ho hr hF hNn (by omega) (zD (NN u) d uqr.lL) su.bound (by unfold NN;omega);have ezs:([((td p),p),(Lv.dZ F' (td q),q.map F')]:List ((List Nat×Lv)×U)).map (·.2)=[p,q.map F']:=rfl;have s1:=h.km.size;have hm2:eF (λg=>g< G.heap.size) G (.slice (some ⟨η,0,none⟩) 2 2) [vr,v138]:=JW hb140 κ;have hlS:aB (λg=>g< G.heap.size) G (td u) (ptr bl):=aB.sub (aB.kp hl ε λg Z e=>e.elim (hD g Z).1 (φ g Z)) λg Z _=>Z
 have hvoS:eF (λg=>g< G.heap.size) G vo (u.frL.map iv):=(k6.kp ε λg Z e=>e.elim (hD g Z).1 (φ g Z)).sub λg Z _=>Z
 have hvrS:aB (λg=>g< G.heap.size) G (td p) vr:=aB.sub (aB.kp hvr ε λg Z e=>e.elim (hD g Z).1 (φ g Z)) λg Z _=>Z
 have hv138:aB (λg=>g< G.heap.size) G (Lv.dZ F' (td q)) v138:=aB.sub (aB.ex l139 δ) λg Z _=>Z
 have hgS:eF (λg=>g< G.heap.size) G gone ((if s then [i]else [i,k]).map iv):=(hgone.kp ε λg Z=>Z.2).sub λg Z _=>Z
 have hlen:(joinL ([((td p),p),(Lv.dZ F' (td q),q.map F')].map (·.1):List (List Nat×Lv))).1.length+(joinL ([((td p),p),(Lv.dZ F' (td q),q.map F')].map (·.1):List (List Nat×Lv))).2.tot<=1000000:=by
  simp only [KE,L6,joinL,J',Kz,Kh,Lv.ch,jY,Lv.tot];omega
 have hz:∀z∈([((td p),p),(Lv.dZ F' (td q),q.map F')]:List ((List Nat×Lv)×U)),Pc z.1 z.2:=λz hz=>by
  rcases Ks.1 hz with rfl | hz
  ·exact Pc.nr uqp nrp
  ·cases Kf.1 hz;exact Pc.map F' uqq nrq
 have hms:aM (λL v=>aB (λg=>g< G.heap.size) G L v) ([((td p),p),(Lv.dZ F' (td q),q.map F')].map (·.1):List (List Nat×Lv)) [vr,v138]:=aM.cons hvrS (aM.cons hv138 aM.IB);have kJ:∀w',Kp G w' M->Kp w1 w' (λg=>g=b\/M g)/\w'.cell? ⟨b,2,none⟩=some (ptr bl):=λw' k=>⟨Kp.trans ε k λ _ _ h=> .inr h,by rw [J1 (w:=G) (k.block b (by omega) h.nb)];exact ς⟩
 have aft:∀{P:Nat->Bool} {gl:List Nat},eF (λg=>g< G.heap.size) G gone (gl.map iv)->gl.length<=2->(∀j,P j=decide (j∈gl))->Nu (resL u.frL (parL (kz P u.ths 0++[p,q.map F'])))->kC (resL u.frL (parL (kz P u.ths 0++[p,q.map F'])))=kC (Cx u i k p (q.map (Ff (NN u) q x d)) s)->
   Calls Tryz.prog 176 #[ptr b,gone,vo,(Value.slice (some ⟨η,0,none⟩) 2 2)] G (ax [.s,.b] fun(ν:ay) (ξ:Bool) (β:World)=>(Kp w1 β (λg=>g=b\/M g)/\β.cell? ⟨b,2,none⟩=some (ptr bl))/\Calls Tryz.prog 99 #[(Value.pointer (some ⟨b2,0,none⟩)),(Value.string (ab ν)),(Value.bool ξ)] β (ax [] fun(γ:World)=>(Kp w1 γ (λg=>g=b\/M g)/\γ.cell? ⟨b,2,none⟩=some (ptr bl))/\J γ)):=by
  intro P gl Z hgl hP hv hn;refine IJ r141 hacc (λhR=>ya su (by omega) (zs:=[((td p),p),(Lv.dZ F' (td q),q.map F')]) (gl:=gl) (P:=P) (mvs:=[vr,v138]) ς (by omega) hlS Z (by omega) hvoS hm2 hms (by simp) hz hlen hP hv hn hR) kJ λw3 M' r3 k3 hM'=>hJ w3 M' r3 (kJ w3 k3).1 λg Z=>(hM' g Z).imp id λh=>by omega
 have egd:u.ths.getD k .nil=u.ths[k]:=cN hk;cases s
 ·have e1:kz (λn=>n==i||n==k) u.ths 0++[p,q.map F']=bL u.ths i k p (q.map F') false u.ths[k]:=by
   unfold bL;rw [zY];simp
  refine aft (P:=λn=>n==i||n==k) (gl:=[i,k]) hgS (by simp) (λj=>?_) (by rw [e1];exact hcok.1) (by rw [e1];unfold Cx;rw [egd];exact υ);simp [jT,Bool.decide_or]
 ·have e1:kz (λn=>n==i||n==i) u.ths 0++[p,q.map F']=wo u.ths i i++[p,q.map F']:=by rw [zY]
  have hp:=Cm hi hk hik p (q.map F');refine aft (P:=λn=>n==i||n==i) (gl:=[i]) hgS (by simp) (λj=>?_) (by rw [e1];exact GI hp.symm hcok.1) (by rw [e1];unfold Cx;rw [egd];exact(Du hp).trans υ);simp [jT]
end
theorem zn {w w1:World}{g e:Nat}{cs:List Value}(W:cs.length=5)(I:g=w.heap.size)(z:w1=w.alloc (.cells #[.int .u8 0,.int .i64 0,.int .i64 0,.pointer none,.bool false] e)):
  (∀j,j< 5->(∃u,w1.cell? ⟨g,0+j,none⟩=some u)/\w1.frozen? ⟨g,0+j,none⟩=false)/\∀w2,w2=World.setCells w1 g 0 cs->Ex w w2/\g< w2.heap.size/\∀j,j< 5->w2.cell? ⟨g,j,none⟩=cs[j]?:=by
 have hc:∀j,j< 5->∃u,w1.cell? ⟨g,0+j,none⟩=some u:=λj G=>by
  rw [z,I];have:∃u,(#[.int .u8 0,.int .i64 0,.int .i64 0,.pointer none,.bool false]:Array Value)[0+j]?=some u:=by
   rw [KF];exact⟨_,Array.getElem?_eq_getElem (by simpa using G)⟩
  obtain⟨u,hu⟩:=this;exact⟨u,aa hu⟩
 refine⟨λj G=>⟨hc j G,by rw [z,I];exact aG _ _ _ _⟩,λw2 H=>?_⟩;obtain⟨k,_,_,J⟩:=aX (b:=g) cs w1 0;rw [<-H]at k J;have V:Ex w w1:=z▸Ex.alloc _ _;have s1:w1.heap.size=w.heap.size+1:=by rw [z,size_alloc]
 have s2:=k.size;refine⟨Ex.below V (Kp.below k V.size λb hb e=>by omega),by omega,λj G=>?_⟩;have :=J j (λi Z=>hc i (by omega)) (by omega)
 rwa [KF]at this
theorem fJ {A:Type}:∀t:T A,(offs t).length<=t.size:=by
 intro t
 induction t with
 | sum p q z G=>simp only [offs,J',T.size];omega
 | rep p z=>simp only [offs,Kz,T.size];omega
 | _=>simp [offs,T.size]
theorem im {X Y:Type}{f:X->List Y}{c:Nat}:∀{l:List X},(∀x∈l,(f x).length<=c)->(l.flatMap f).length<=l.length* c
 | [],_=>by simp
 | x::l,h=>by
  have G:=h x (by simp);have h2:=im (f:=f) (c:=c) (l:=l) λy z=>h y (by simp [z])
  simp only [Ly,J',J0,Nat.succ_mul];omega
theorem lH.any {D:Nat->Prop}{w:World}{o:Off Nat}{cs:List Value}(h:lH D w o cs):∃(k:UInt8) (a b:Nat) (vr:Value) (s:Bool),cs=cV k a b vr s/\oneV vr=true:=by
 cases o with
 | tau p=>obtain⟨a,b,vr,s,z,h2⟩:=h;exact⟨126,a,b,vr,s,z,h2.one⟩
 | snd a b p=>obtain⟨vr,s,z,h2⟩:=h;exact⟨33,a,b,vr,s,z,h2.one⟩
 | rcv a b p s=>obtain⟨vr,z,h2⟩:=h;exact⟨63,a,b,vr,s,z,h2.one⟩
theorem tE {k:UInt8}{a b:Nat}{vr:Value}{s:Bool}(h:oneV vr=true):(cV k a b vr s).all oneV=true:=by simp only [cV,Lg,MT,Mu,h];rfl
theorem vF {D:Nat->Prop}{B:Nat}{w:World}{v:Value}{os:List (Off Nat)}{xs:List Value}(z:cJ B w v os.length xs)(hm:OffsM D w os xs){j:Nat}(G:j< os.length):∃(g cap:Nat) (cs:List Value),v= .slice (some ⟨g,0,none⟩) os.length cap/\lH D w os[j] cs/\∀i u,cs[i]?=some u->∀off,off=j* 5+i->i< 5->w.cell? ⟨g,off,none⟩=some u:=by
 obtain⟨cs,H,h2⟩:=hm.at G;rcases z.cell with⟨_,J,_⟩ | ⟨g,cap,rfl,_,hc⟩
 ·omega
 ·refine⟨g,cap,cs,rfl,H,λi u hu off he I=>?_⟩;have :=hc (j* 5+i) u (by rw [h2 i I];exact hu);rw [he];rwa [KF]at this
section
variable {t:P} {u:U} {b b2 n0:Nat} {w:World} {D:Nat->Prop}
def Rel (b:Nat)(w1:World)(z:Nat->Prop)(w2:World)(M2:Nat->Prop):Prop:=Kp w1 w2 (λg=>g=b\/z g)/\∀g,M2 g->z g\/w1.heap.size<=g
theorem Rel.refl (b:Nat)(w:World)(M:Nat->Prop):Rel b w M w M:=⟨Kp.ah (Ex.refl w) _,λ _ h=> .inl h⟩
theorem Rel.trans {b:Nat}{w1 w2 z:World}{G M2 H:Nat->Prop}(h:Rel b w1 G w2 M2)(k:Rel b w2 M2 z H):Rel b w1 G z H:=
 ⟨Kp.trans h.1 k.1 λg I e=>e.elim .inl λJ=>(h.2 g J).elim .inr λh=>by omega,λg I=>(k.2 g I).elim (h.2 g) λV=> .inr (K5 h.1.size V)⟩
theorem Rel.ex {b:Nat}{w1 w2 z:World}{G M2:Nat->Prop}(h:Rel b w1 G w2 M2)(x:Ex w2 z):Rel b w1 G z M2:=h.trans ⟨Kp.ah x _,λ _ h=> .inl h⟩
theorem qK.mono {c z:Nat}{w w':World}{acc:List U}{M:Nat->Prop}(h:qK b b2 n0 c w w' acc M)(hc:c<=z):qK b b2 n0 z w w' acc M:=by
 obtain⟨n,G,h2,H⟩:=h.mc;exact⟨h.km,h.rs,⟨n,G,h2,by omega⟩,h.hb⟩
theorem Ie (hu:u=(num t e0 0).1)(hn0:n0=(num t e0 0).2)(ok:mA t)(su:SU t u)(hsz:u.size<=60){bl:Nat}(hcl0:w.cell? ⟨b,2,none⟩=some (ptr bl))(hl0:aB D w (td u) (ptr bl))(hD:∀g,D g->g≠b/\g< w.heap.size){i k:Nat}{e d:Nat}{p:U}(hi:i< u.ths.length)(hk:k< u.ths.length)(ho:Off.snd e d p∈offs u.ths[i])
  {w1:World} {M:Nat->Prop} {acc:List U} (h:qK b b2 n0 (60* acc.length) w w1 acc M) (hacc:acc.length<=20000000) {V:Nat} {vr:Value} {s0:Bool} (c40:∀j,j< 5->w1.cell? ⟨V,j,none⟩=(cV 33 e d vr s0)[j]?) (hb40:V< w1.heap.size) (hMb:¬M V) (hbb:V≠b) (hvr:aB D w1 (td p) vr)
  {v89:Value} (h89:af D w1 (tl [u.ths[k]]) [v89]) {J:World->Prop} (hJ:∀w3 M',qK b b2 n0 (60* (acc++E2 u i e d p k).length) w w3 (acc++E2 u i e d p k) M'->Rel b w1 M w3 M'->J w3):
  Calls Tryz.prog 140 #[v89] w1 (ax [.v] fun(v90:Value) (μ:World)=>∃(a92:Option Addr) (υ cap94:Nat),v90=Value.slice a92 υ cap94/\∃(I95:Int->World->Prop) (ν:Int->World->Nat),I95 (0) μ/\∀(G:Int) (Z:World),I95 G Z->((decide (G< (υ:Int)))=true->∃(b99 θ ω cap102:Nat),v90=Value.slice (some ⟨b99,θ,none⟩) ω cap102/\0<=(G:Int)/\(G:Int)< ω/\∃c103:UInt8,∃n104:Int,∃n105:Int,∃v106:Value,∃q107:Bool,(World.cell? Z ⟨b99,(θ+Int.toNat G* 5),none⟩=some (Value.int IntKind.u8 (UInt8.toNat c103))/\World.cell? Z ⟨b99,((θ+Int.toNat G* 5)+1),none⟩=some (Value.int IntKind.i64 n104)/\World.cell? Z ⟨b99,(((θ+Int.toNat G* 5)+1)+1),none⟩=some (Value.int IntKind.i64 n105)/\World.cell? Z ⟨b99,((((θ+Int.toNat G* 5)+1)+1)+1),none⟩=some v106/\World.cell? Z ⟨b99,(((((θ+Int.toNat G* 5)+1)+1)+1)+1),none⟩=some (Value.bool q107)/\True)/\
   ∀(H:Nat) (ξ:World),H=Array.size (World.heap Z)->ξ=World.alloc Z (Obj.cells #[(Value.int IntKind.u8 0),(Value.int IntKind.i64 0),(Value.int IntKind.i64 0),(Value.pointer none),(Value.bool false)] 160)->(List.length [(Value.int IntKind.u8 (UInt8.toNat c103)),(Value.int IntKind.i64 n104),(Value.int IntKind.i64 n105),v106,(Value.bool q107)]=5/\List.all [(Value.int IntKind.u8 (UInt8.toNat c103)),(Value.int IntKind.i64 n104),(Value.int IntKind.i64 n105),v106,(Value.bool q107)] oneV=true/\∀j,j< 5->(∃u,World.cell? ξ ⟨H,0+j,none⟩=some u)/\World.frozen? ξ ⟨H,0+j,none⟩=false)/\
   ∀z:World,z=World.setCells ξ H 0 [(Value.int IntKind.u8 (UInt8.toNat c103)),(Value.int IntKind.i64 n104),(Value.int IntKind.i64 n105),v106,(Value.bool q107)]->((decide ((k:Int)=(i:Int)))=false->∃c111:UInt8,World.cell? z ⟨H,0,none⟩=some (Value.int IntKind.u8 (UInt8.toNat c111))/\((!decide (c111=63))=false->∃n112:Int,World.cell? z ⟨H,1,none⟩=some (Value.int IntKind.i64 n112)/\∃n113:Int,World.cell? z ⟨V,1,none⟩=some (Value.int IntKind.i64 n113)/\((!decide (n112=n113))=true->aj (G+1)/\I95 ((G+1)) z/\ν ((G+1)) z< ν G Z)/\((!decide (n112=n113))=false->∀(W:Nat) (α:World),W=Array.size (World.heap z)->α=World.alloc z (Obj.cells #[(Value.int IntKind.i64 (i:Int)),(Value.int IntKind.i64 (k:Int))] 3)->∃J116:Value->World->Prop,(∃q117:Bool,World.cell? α ⟨H,4,none⟩=some (Value.bool q117)/\(q117=true->∃(a118:Option Addr) (len119 γ:Nat),(Value.slice (some ⟨W,0,none⟩) 2 2)=Value.slice a118 len119 γ/\0<=(0:Int)/\(0:Int)<=1/\1<=(γ:Int)/\J116 ((Value.slice (if γ=Int.toNat 0 then a118 else Option.map (·.add (Int.toNat 0* 1)) a118) (Int.toNat 1 - Int.toNat 0) (γ - Int.toNat 0))) α)/\(q117=false->J116 ((Value.slice (some ⟨W,0,none⟩) 2 2)) α))/\
   ∀(ο:Value) (ε:World),J116 ο ε->∃β:World->Prop,∀w124:World,w124=World.drew ε->β w124/\∃(b125 o126:Nat),ptr b=Value.pointer (some ⟨b125,o126,none⟩)/\∃v127:Value,(∀w',β w'->World.cell? w' ⟨b125,(o126+2),none⟩=some v127)/\∃(b128 o129:Nat),v127=Value.pointer (some ⟨b128,o129,none⟩)/\∃v130:Value,(∀w',β w'->World.cell? w' ⟨b128,(o129+0),none⟩=some v130)/\∃v131:Value,(∀w',β w'->World.cell? w' ⟨V,3,none⟩=some v131)/\∃c132:UInt8,∃n133:Int,∃n134:Int,∃v135:Value,∃q136:Bool,(∀w',β w'->World.cell? w' ⟨H,0,none⟩=some (Value.int IntKind.u8 (UInt8.toNat c132))/\World.cell? w' ⟨H,1,none⟩=some (Value.int IntKind.i64 n133)/\World.cell? w' ⟨H,2,none⟩=some (Value.int IntKind.i64 n134)/\World.cell? w' ⟨H,3,none⟩=some v135/\World.cell? w' ⟨H,4,none⟩=some (Value.bool q136)/\True)/\∃n137:Int,(∀w',β w'->World.cell? w' ⟨V,2,none⟩=some (Value.int IntKind.i64 n137))/\
   Calls Tryz.prog 177 #[ptr b,(Value.agg #[(Value.int IntKind.u8 (UInt8.toNat c132)),(Value.int IntKind.i64 n133),(Value.int IntKind.i64 n134),v135,(Value.bool q136)]),(Value.int IntKind.i64 n137)] w124 (ax [.v] fun(v138:Value) (w139:World)=>β w139/\oneV v131=true/\oneV v138=true/\∀(b140:Nat) (w141:World),b140=Array.size (World.heap w139)->w141=World.alloc w139 (Obj.cells #[v131,v138] 146)->β w141/\Calls Tryz.prog 176 #[ptr b,ο,v130,(Value.slice (some ⟨b140,0,none⟩) 2 2)] w141 (ax [.s,.b] fun(s142:ay) (q143:Bool) (w144:World)=>β w144/\Calls Tryz.prog 99 #[(Value.pointer (some ⟨b2,0,none⟩)),(Value.string (ab s142)),(Value.bool q143)] w144 (ax [] fun(w145:World)=>β w145/\aj (G+1)/\I95 ((G+1)) w145/\ν ((G+1)) w145< ν G Z)))))/\((!decide (c111=63))=true->aj (G+1)/\I95 ((G+1)) z/\ν ((G+1)) z< ν G Z))/\((decide ((k:Int)=(i:Int)))=true->aj (G+1)/\I95 ((G+1)) z/\ν ((G+1)) z< ν G Z))/\((decide (G< (υ:Int)))=false->J Z)):=by
 have hthk:=su.th _ (Kg hk);have hks:=eE u _ (Kg hk);have sw0:=h.km.size;have hDM:∀g,D g->¬(g=b\/M g):=λg hg e=>e.elim (hD g hg).1 λhM=>by have :=(hD g hg).2;have :=(h.rs.mr g hM).1;omega
 have egd:u.ths.getD k .nil=u.ths[k]:=cN hk;generalize hos:offs u.ths[k]=os at*;have hosl:os.length<=60:=by have :=fJ u.ths[k];rw [hos]at this;omega
 have hE3:∀r,((os.take r).flatMap (E3 u i k e d p)).length<=60:=λr=>by
  have h1:=im (f:=E3 u i k e d p) (c:=1) (l:=os.take r) λx _=>by
   cases x with
   | rcv e' x q s=>unfold E3;simp only;split<;>simp
   | _=>simp [E3]
  rw [KP]at h1;omega
 refine sL hthk.1 hthk.2.1 hthk.2.2 (su.smp _ (Kg hk)) (by omega) (λg hg=>by have :=(hD g hg).2;omega) h89 λv90 μ xs x91 ho91 hm91=>?_
 rw [hos]at ho91 hm91;have hv90:∃a cap,v90= .slice a os.length cap:=by
  rcases ho91.cell with⟨h1,h2,_⟩ | ⟨g,cap,h1,_⟩
  ·exact⟨none,0,by rw [h1,h2]⟩
  ·exact⟨_,cap,h1⟩
 obtain⟨av,cav,hv90⟩:=hv90;have h91:=h.ex x91;have s91:=x91.size;refine⟨av,_,cav,hv90,λx w'=>∃(r:Nat) (M':Nat->Prop),x=r/\r<=os.length/\qK b b2 n0 (60* (acc++if i=k then []else(os.take r).flatMap (E3 u i k e d p)).length) w w' (acc++if i=k then []else(os.take r).flatMap (E3 u i k e d p)) M'/\Rel b μ M w' M',λx _=>(os.length - x).toNat,⟨0,M,rfl,KT _,by simpa using h91,Rel.refl b μ M⟩,λx Z hI=>?_⟩;obtain⟨r,M',rfl,hr,φ,I⟩:=hI;refine⟨λhlt=>?_,λhge=>?_⟩;rotate_left
 ·have hrl:r=os.length:=by simp only [J6]at hge;omega
  rw [hrl,KA]at φ;have e2:E2 u i e d p k=if i=k then []else os.flatMap (E3 u i k e d p):=by unfold E2;rw [egd,hos]
  rw [<-e2]at φ;exact hJ Z M' φ (((Rel.refl b w1 M).ex x91).trans I)
 have hrl:r< os.length:=by simp only [J4]at hlt;omega
 have hMv:∀g,v90.ownBlock=some g->¬(g=b\/M g):=λg hg e=>by
  have h1:=ho91.block g hg;have :=h.hb;exact e.elim (λe=>by omega) λhM=>by have :=(h.rs.mr g hM).2;omega
 have hM91:∀g,g< μ.heap.size->¬(g=b\/M g)->¬(g=b\/M' g):=λg h1 h2 e=>e.elim (λe=>h2 (.inl e)) λhM=>(I.2 g hM).elim (λhM=>h2 (.inr hM)) λh=>by omega
 have ho98:=ho91.kp I.1 hMv;have hm98:=OffsM.kp I.1 hDM hm91;obtain⟨g,cap,cs,hvg,χ,ζ⟩:=vF ho98 hm98 hrl;obtain⟨kk,a1,b1,vq,s1,rfl,hone⟩:=χ.any;have s98:=I.1.size;refine⟨g,0,_,cap,hvg,by omega,by omega,kk,a1,b1,vq,s1,⟨ζ 0 _ rfl _ (by omega) (by omega),ζ 1 _ rfl _ (by omega) (by omega),ζ 2 _ rfl _ (by omega) (by omega),ζ 3 _ rfl _ (by omega) (by omega),ζ 4 _ rfl _ (by omega) (by omega),trivial⟩,λH ξ hb108 hw109=>?_⟩;obtain⟨box1,box2⟩:=zn (cs:=cV kk a1 b1 vq s1) rfl hb108 hw109;refine⟨⟨rfl,tE hone,box1⟩,λz hw110=>?_⟩;obtain⟨ι,l110,c110⟩:=box2 z hw110;have s110:=ι.size;have htk:(os.take (r+1)).flatMap (E3 u i k e d p)=(os.take r).flatMap (E3 u i k e d p)++E3 u i k e d p os[r]:=by rw [J8 hrl,Lf];simp
 have next:∀w',(E3 u i k e d p os[r]=[]\/i=k)->w'=z->aj ((r:Int)+1)/\(∃(r2:Nat) (M2:Nat->Prop),(r:Int)+1=r2/\r2<=os.length/\qK b b2 n0 (60* (acc++if i=k then []else(os.take r2).flatMap (E3 u i k e d p)).length) w w' (acc++if i=k then []else(os.take r2).flatMap (E3 u i k e d p)) M2/\Rel b μ M w' M2)/\((os.length:Int) - ((r:Int)+1)).toNat< ((os.length:Int) - r).toNat:=by
  intro w' he hw';subst hw';refine⟨by unfold aj;omega,⟨r+1,M',by omega,by omega,?_,I.ex ι⟩,by omega⟩;have:(if i=k then []else(os.take (r+1)).flatMap (E3 u i k e d p))=(if i=k then []else(os.take r).flatMap (E3 u i k e d p)):=by
   split
   ·rfl
   ·rename_i hik;rw [htk,he.resolve_right hik,KJ]
  rw [this];exact φ.ex ι
 have r110:=φ.ex ι;by_cases hik:k=i
 ·exact⟨λh=>absurd (Kw h) (by omega),λ _=>next z (.inr hik.symm) rfl⟩
 refine⟨λ _=>⟨kk,c110 0 (by omega),?_,?_⟩,λh=>absurd (Kv h) (by omega)⟩;rotate_left
 ·intro κ;refine next z (.inl ?_) rfl;have hne:kk≠63:=by simpa using κ
  generalize hor:os[r]=o at*;cases o with
  | tau p=>rfl
  | snd a b p=>rfl
  | rcv a x q s=>obtain⟨vr',e1,_⟩:=χ;simp only [cV,KW,Ln]at e1;exact absurd (Ky.1 (by have :=e1.1.2;have e3:(63:UInt8).toNat=63:=rfl;omega)) hne
 ·intro κ;have κ:kk=63:=by
   cases hd:decide (kk=63)with
   | true=>exact Kv hd
   | false=>rw [hd]at κ;cases κ
  subst κ;obtain⟨x,q,e1,e2⟩:∃x q,os[r]= .rcv a1 x q s1/\x=b1:=by
   generalize hor:os[r]=o at*;cases o with
   | tau p=>obtain⟨_,_,_,_,e1,_⟩:=χ;simp only [cV,KW,Ln]at e1;exact absurd e1.1.2 (by decide)
   | snd a b p=>obtain⟨_,_,e1,_⟩:=χ;simp only [cV,KW,Ln]at e1;exact absurd e1.1.2 (by decide)
   | rcv a x q s=>
    obtain⟨vr',e1,_⟩:=χ;simp only [cV,KW,Ln,Value.bool.injEq,MG,Mc]at e1;exact⟨x,q,by rw [show a1=a by omega,e1.2.2.2],by omega⟩
  subst e2;have hrm:Off.rcv a1 x q s1∈offs u.ths[k]:=by rw [hos,<-e1];exact Kg hrl
  rw [e1]at χ;obtain⟨vq',e3,hvq⟩:=χ;have:vq'=vq:=by simp only [cV,KW,MG,Mc]at e3;exact e3.symm
  subst this;have hb40':V< μ.heap.size:=by omega
  have hM40:¬(V=b\/M V):=λe=>e.elim hbb hMb
  have c40':∀j,j< 5->z.cell? ⟨V,j,none⟩=(cV 33 e d vr s0)[j]?:=λj hj=>by
   rw [ι.cell (show V< _ by omega),J1 (w:=μ) (I.1.block V hb40' hM40),x91.cell (show V< _ from hb40)];exact c40 j hj
  refine⟨a1,c110 1 (by omega),e,c40' 1 (by omega),λhne=>?_,λheq W α ψ η=>?_⟩
  ·refine next z (.inl ?_) rfl;rw [e1];have hne:(a1:Int)≠e:=by simpa using hne
   exact Ko (by omega)
  ·have heq:a1=e:=by
    have:(a1:Int)=e:=by
     cases hd:decide ((a1:Int)=e)with
     | true=>exact Kv hd
     | false=>rw [hd]at heq;cases heq
    omega
   subst heq;have ς:Ex z α:=η▸Ex.alloc _ _;have s115:α.heap.size=z.heap.size+1:=by rw [η,size_alloc]
   have xx:=Ex.trans ι ς;have δ:∀g,Z.heap.size<=g->¬(g=b\/M' g):=λg hg e=>e.elim (λe=>by have :=h.hb;have :=φ.km.size;omega) λhM=>by have :=(φ.rs.mr g hM).2;omega
   refine⟨λgone w'=>w'=α/\eF (λg=>g< α.heap.size/\¬(g=b\/M' g)) α gone ((if s1 then [i]else [i,k]).map iv),⟨s1,?_,λhs=>⟨_,_,2,rfl,by omega,by omega,by omega,rfl,?_⟩,λhs=>⟨rfl,?_⟩⟩,λgone ε hJ2=>?_⟩
   ·rw [ς.cell (show H< _ from l110)];exact c110 4 (by omega)
   ·rw [hs];have:(if(2:Nat)=Int.toNat 0 then(some ⟨W,0,none⟩:Option Addr)else Option.map (λx:Addr=>x.add (Int.toNat 0* 1)) (some ⟨W,0,none⟩))=some ⟨W,0,none⟩:=by
     rw [Ko (by decide),LR,add_plain];rfl
    rw [this];refine .inr ⟨W,0,_,rfl,⟨by omega,δ W (by omega)⟩,by omega,λi' y hy=>?_⟩;cases i' with
    | zero=>simp only [LN,KE,L6,Lh,Lw]at hy;subst hy;rw [η,ψ];exact aa rfl
    | succ i=>simp at hy
   ·rw [hs];refine .inr ⟨W,0,_,rfl,⟨by omega,δ W (by omega)⟩,by omega,λi' y hy=>?_⟩
    match i',hy with
    | 0,hy=>simp only [L7,ME,KE,L6,Lh,Lw]at hy;subst hy;rw [η,ψ];exact aa rfl
    | 1,hy=>simp only [L7,ME,KE,L6,List.getElem?_cons_succ,Lh,Lw]at hy;subst hy;rw [η,ψ];exact aa rfl
    | i+2,hy=>simp at hy
   obtain⟨rfl,hgone⟩:=hJ2;have r122:=r110.ex ς;rw [Ko (λe=>hik e.symm)]at r122;have hE3r:=hE3 r;have hcl:ε.cell? ⟨b,2,none⟩=some (ptr bl):=(r122.km.ce 2 (by omega)).trans hcl0;have hl:aB D ε (td u) (ptr bl):=aB.kp hl0 r122.km.kp λg hg=>(hD g hg).1
   have cc40:∀j,j< 5->ε.cell? ⟨V,j,none⟩=(cV 33 a1 d vr s0)[j]?:=λj hj=>by rw [ς.cell (show V< _ by omega)];exact c40' j hj
   have hvr':aB D ε (td p) vr:=aB.ex (aB.kp (aB.ex hvr x91) I.1 hDM) xx;have hM40':=hM91 V hb40' hM40;refine FK hu hn0 ok su hsz r122 hcl hl hD hi hk (λe=>hik e.symm) ho hrm (cc40 3 (by omega)) (cc40 2 (by omega)) (by omega) (λhM=>hM40' (.inr hM)) hbb hvr' (λj hj=>by rw [ς.cell (show H< _ from l110)];exact c110 j hj) (by omega) (λhM=>δ H (by omega) (.inr hM)) (λe=>δ H (by omega) (.inl e)) (aB.ex hvq xx) hgone (by rw [J'];omega) (by
    have hnn:=bW t e0 0;have hts:=ok.size;rw [J'];omega) λw3 M3 r3 k3 hM3=>⟨by unfold aj;omega,⟨r+1,M3,by omega,by omega,?_,(I.ex xx).trans ⟨k3,hM3⟩⟩,by show((os.length:Int) - ((r:Int)+1)).toNat< ((os.length:Int) - r).toNat;omega⟩
   rw [Ko (λe=>hik e.symm),htk,e1];have e4:E3 u i k a1 d p (.rcv a1 x q s1)=[Cx u i k p (q.map (Ff (NN u) q x d)) s1]:=KG rfl;rw [e4,<-KN];refine r3.mono ?_;simp only [J',J0,Kh];omega
end
theorem CW {t:P}(ok:mA t){w:World}{b:Nat}{D:Nat->Prop}(st:GC w D b (num t e0 0).2 t.text (td (num t e0 0).1))(hD:∀g,D g->g≠b/\g< w.heap.size){R:Value->Bool->World->Prop}
  (hR1:Cy (num t e0 0).1=none->∀w',Kr b w w'->R (.slice none 0 0) false w') (hR2:∀l,Cy (num t e0 0).1=some l->∀v w',Kr b w w'->Strs w' v l->(∀g,v.ownBlock=some g->w.heap.size<=g)->R v true w'):Calls Tryz.prog 136 #[ptr b] w (ax [.v,.b] R):=by
 have su:=ok.su;have hszt:=ok.size;have hsh:=(lA su.ae).2.2;generalize hu:(num t e0 0).1=u at*;have hsz:u.size<=60:=by omega
 refine iG (ptr b) w R ?_;intro b2 w3 hb2 κ;have x3:Ex w w3:=κ▸Ex.alloc _ _;have s3:w3.heap.size=w.heap.size+1:=by rw [κ,size_alloc]
 have hb:=st.mc.lt;obtain⟨vl,hcl0,hl0⟩:=st.l;obtain⟨bl,vo,vt,ts,rfl,k2,k3,k4,k5,k6,k7,k8,k9⟩:=Ay su hl0;obtain⟨at_,capt,hvt⟩:=k7.slice;have r3:qK b b2 (num t e0 0).2 (60* ([]:List U).length) w w3 [] (λg=>g=b2):=by
  refine⟨Km.ex x3 hb,⟨by omega,rfl,λg e=>by omega,λj=>by rw [κ,hb2];exact aG _ _ _ _,by rw [κ,hb2];exact aa rfl,.slice none 0 0,by rw [κ,hb2];exact aa rfl,Own.nil _ _,λg V=>by cases V⟩,⟨_,st.mc.ex x3,Kb _,by simp⟩,hb⟩
 have cb2:∀{w':World},Km b w w'->w'.cell? ⟨b,2,none⟩=some (ptr bl):=λk=>(k.ce 2 (by omega)).trans hcl0
 have cbl:∀{w':World},Km b w w'->∀{j:Nat} {x:Value},w.cell? ⟨bl,j,none⟩=some x->w'.cell? ⟨bl,j,none⟩=some x:=λk j x hx=>by rw [J1 (w:=w) (k.kp.block bl k3 (hD bl k2).1)];exact hx
 have hlw:∀{w':World},Km b w w'->aB D w' (td u) (ptr bl):=λk=>aB.kp hl0 k.kp λg V=>(hD g V).1
 have μ:∀{w':World},Km b w w'->∀i (hi:i< ts.length),∃bt ot I,vt= .slice (some ⟨bt,ot,none⟩) ts.length I/\w'.cell? ⟨bt,ot+i,none⟩=some ts[i]:=λk i hi=>by
  rcases k7 with⟨_,h0⟩ | ⟨bt,ot,I,e,hbD,hb',z⟩
  ·rw [h0]at hi;simp at hi
  ·exact⟨bt,ot,I,e,by rw [J1 (w:=w) (k.kp.block bt hb' (hD bt hbD).1)];exact z i _ (J2 hi)⟩
 have tth:∀{w':World},Km b w w'->∀i (h:i< u.ths.length) (h':i< ts.length),af D w' (tl [u.ths[i]]) [ts[i]]:=λk i h h'=>af.kp k.kp (λg V=>(hD g V).1) (k9 i h h')
 have hthl:u.ths.length<=60:=by
  have:∀u:U,u.ths.length<=u.size:=by
   intro u
   induction u with
   | par p q _ ih=>simp only [T.ths,J0,T.size];omega
   | res x p ih=>simp only [T.ths,T.size];omega
   | _=>simp [T.ths,T.size]
  have :=this u;omega
 have hol:∀i (h:i< u.ths.length),(offs u.ths[i]).length<=60:=λi h=>by
  have h1:=fJ u.ths[i];have h2:=eE u _ (Kg h);omega
 have hE2:∀i c d p k,k< u.ths.length->(E2 u i c d p k).length<=60:=λi c d p k hk=>by
  unfold E2;split
  ·simp
  ·rw [cN hk];have h1:=im (f:=E3 u i k c d p) (c:=1) (l:=offs u.ths[k]) λx _=>by
    cases x with
    | rcv e' x q s=>unfold E3;simp only;split<;>simp
    | _=>simp [E3]
   have :=hol k hk;omega
 have hE2s:∀i c d p k,k<=u.ths.length->((List.range k).flatMap (E2 u i c d p)).length<=3600:=λi c d p k hk=>by
  have h1:=im (f:=E2 u i c d p) (c:=60) (l:=List.range k) λx hx=>hE2 i c d p x (by have :=Lz.1 hx;omega)
  rw [Mn]at h1;omega
 have hE1:∀i o,(E1 u i o).length<=3600:=λi o=>by
  cases o with
  | tau p=>simp [E1]
  | rcv=>simp [E1]
  | snd c d p=>exact hE2s i c d p _ (Kb _)
 have hE1s:∀i j (h:i< u.ths.length),(((offs u.ths[i]).take j).flatMap (E1 u i)).length<=216000:=λi j h=>by
  have h1:=im (f:=E1 u i) (c:=3600) (l:=(offs u.ths[i]).take j) λx _=>hE1 i x
  rw [KP]at h1;have :=hol i h;omega
 have hE0:∀i,i< u.ths.length->(E0 u i).length<=216000:=λi h=>by
  have :=hE1s i (offs u.ths[i]).length h;rw [KA]at this;unfold E0;rw [cN h];exact this
 have hE0s:∀i,i<=u.ths.length->((List.range i).flatMap (E0 u)).length<=12960000:=λi hi=>by
  have h1:=im (f:=E0 u) (c:=216000) (l:=List.range i) λx hx=>hE0 x (by have :=Lz.1 hx;omega)
  rw [Mn]at h1;omega
 refine⟨b,0,rfl,ptr bl,cb2 r3.km,bl,0,rfl,vt,cbl r3.km k5,at_,_,capt,hvt,λx w'=>∃(i:Nat) (M:Nat->Prop),x=i/\i<=ts.length/\qK b b2 (num t e0 0).2 (60* ((List.range i).flatMap (E0 u)).length) w w' ((List.range i).flatMap (E0 u)) M,λx _=>(ts.length - x).toNat,⟨0,_,rfl,KT _,by simpa using r3⟩,λx w16 hI=>?_⟩;obtain⟨i,M,rfl,hi,G⟩:=hI;refine⟨λhlt=>?_,λhge=>?_⟩;rotate_left
 ·have ψ:i=u.ths.length:=by simp only [J6]at hge;omega
  rw [ψ]at G;have hlen:=hE0s u.ths.length (Kb _);have e:(List.range u.ths.length).flatMap (E0 u)=gU u:=rfl;rw [e]at G hlen;have hol2:(outs (gU u)).length=(gU u).length:=by unfold outs;simp
  refine H8 G.rs (by omega) (λβ=>hR1 ?_ w16 G.km.kp) λβ v' w' k s hv=>hR2 _ ?_ v' w' ?_ s λg V=>(G.rs.mr g (hv g V)).1
  ·unfold Cy;rw [Ko];intro h;rw [h]at β;cases β
  ·unfold Cy;rw [KG];cases h:jv (gU u)with
   | true=>rfl
   | false=>rw [h]at β;cases β
  ·exact Kp.trans G.km.kp k λg V hM=>by have :=(G.rs.mr g hM).1;omega
 have ψ:i< ts.length:=by simp only [J4]at hlt;omega
 have W:i< u.ths.length:=by omega
 obtain⟨bt,ot,I,hvt',hct⟩:=μ G.km i ψ;have ν:=su.th _ (Kg W);have hsi:=eE u _ (Kg W);have s16:=G.km.size;refine⟨bt,ot,_,I,hvt',by omega,by omega,ts[i],by rw [J9,KK];exact hct,sL ν.1 ν.2.1 ν.2.2 (su.smp _ (Kg W)) (by omega) (λg V=>by have :=(hD g V).2;omega) (tth G.km i W ψ) λv22 w23 xs x23 ξ hm23=>?_⟩;have ek:(List.range (i+1)).flatMap (E0 u)=(List.range i).flatMap (E0 u)++E0 u i:=by rw [MW,Lf];simp
 have eE0:E0 u i=(offs u.ths[i]).flatMap (E1 u i):=by unfold E0;rw [cN W]
 have holi:=hol i W;have hE1i:=λj=>hE1s i j W
 have hofm:∀o∈offs u.ths[i],o∈offs u.ths[i]:=λ _ h=>h
 generalize hos:offs u.ths[i]=os at*;have ο:∃a cap,v22= .slice a os.length cap:=by
  rcases ξ.cell with⟨h1,h2,_⟩ | ⟨g,cap,h1,_⟩
  ·exact⟨none,0,by rw [h1,h2]⟩
  ·exact⟨_,cap,h1⟩
 obtain⟨av,cav,ο⟩:=ο;have r23:=G.ex x23;have s23:=x23.size;have hacci:=hE0s i (by omega);generalize hA:(List.range i).flatMap (E0 u)=A at*;refine⟨av,_,cav,ο,λx w'=>∃(j:Nat) (M':Nat->Prop),x=j/\j<=os.length/\qK b b2 (num t e0 0).2 (60* (A++(os.take j).flatMap (E1 u i)).length) w w' (A++(os.take j).flatMap (E1 u i)) M'/\Rel b w23 M w' M',λx _=>(os.length - x).toNat,⟨0,M,rfl,KT _,by simpa using r23,Rel.refl b w23 M⟩,λx w30 hI=>?_⟩;obtain⟨j,M',rfl,hj,θ,Z⟩:=hI;refine⟨λhlt2=>?_,λhge2=>?_⟩;rotate_left
 ·have ς:j=os.length:=by simp only [J6]at hge2;omega
  rw [ς,KA,<-eE0,<-ek]at θ;exact⟨by unfold aj;omega,⟨i+1,M',by omega,by omega,θ⟩,by show((ts.length:Int) - ((i:Int)+1)).toNat< ((ts.length:Int) - i).toNat;omega⟩
 have ς:j< os.length:=by simp only [J4]at hlt2;omega
 have hDM:∀g,D g->¬(g=b\/M g):=λg V e=>e.elim (hD g V).1 λhM=>by have :=(hD g V).2;have :=(G.rs.mr g hM).1;omega
 have hMv:∀g,v22.ownBlock=some g->¬(g=b\/M g):=λg V e=>by
  have h1:=ξ.block g V;exact e.elim (λe=>by omega) λhM=>by have :=(G.rs.mr g hM).2;omega
 have ho30:=ξ.kp Z.1 hMv;have hm30:=OffsM.kp Z.1 hDM hm23;obtain⟨g,cap,cs,hvg,J,z⟩:=vF ho30 hm30 ς;obtain⟨kk,a1,b1,vr,s1,rfl,hone⟩:=J.any;have s30:=Z.1.size;refine⟨g,0,_,cap,hvg,by omega,by omega,kk,a1,b1,vr,s1,⟨z 0 _ rfl _ (by omega) (by omega),z 1 _ rfl _ (by omega) (by omega),z 2 _ rfl _ (by omega) (by omega),z 3 _ rfl _ (by omega) (by omega),z 4 _ rfl _ (by omega) (by omega),trivial⟩,λω w41 hb40 hw41=>?_⟩;obtain⟨box1,box2⟩:=zn (cs:=cV kk a1 b1 vr s1) rfl hb40 hw41;refine⟨⟨rfl,tE hone,box1⟩,λζ hw42=>?_⟩;obtain⟨υ,l42,γ⟩:=box2 ζ hw42;have s42:=υ.size;have η:=θ.ex υ;have htk:(os.take (j+1)).flatMap (E1 u i)=(os.take j).flatMap (E1 u i)++E1 u i os[j]:=by rw [J8 ς,Lf];simp
 have hE1j:=hE1i j;have nb40:∀g,w30.heap.size<=g->¬(g=b\/M' g):=λg V e=>e.elim (λe=>by have :=θ.km.size;omega) λhM=>by have :=(θ.rs.mr g hM).2;omega
 have δ:=nb40 ω (by omega);have α:os[j]∈os:=Kg ς;have rel42:=Z.ex υ;have next:∀w' M2,qK b b2 (num t e0 0).2 (60* (A++(os.take j).flatMap (E1 u i)++E1 u i os[j]).length) w w' (A++(os.take j).flatMap (E1 u i)++E1 u i os[j]) M2->Rel b ζ M' w' M2->aj ((j:Int)+1)/\(∃(j2:Nat) (M3:Nat->Prop),(j:Int)+1=j2/\j2<=os.length/\qK b b2 (num t e0 0).2 (60* (A++(os.take j2).flatMap (E1 u i)).length) w w' (A++(os.take j2).flatMap (E1 u i)) M3/\Rel b w23 M w' M3)/\((os.length:Int) - ((j:Int)+1)).toNat< ((os.length:Int) - j).toNat:=by
  intro w' M2 r rel;refine⟨by unfold aj;omega,⟨j+1,M2,by omega,by omega,?_,rel42.trans rel⟩,by omega⟩;rw [htk,<-KN];exact r
 have hvr:∀p,(os[j]= .tau p\/(∃c d,os[j]= .snd c d p))->aB D ζ (td p) vr:=λp hp=>by
  rcases hp with hp | ⟨c,d,hp⟩
  ·rw [hp]at J;obtain⟨_,_,vr',_,e1,h1⟩:=J;simp only [cV,KW]at e1;rw [e1.2.2.2.1];exact aB.ex h1 υ
  ·rw [hp]at J;obtain⟨vr',_,e1,h1⟩:=J;simp only [cV,KW]at e1;rw [e1.2.2.2.1];exact aB.ex h1 υ
 cases ε:os[j]with
 | tau p=>
  have hk:kk=126:=by
   rw [ε]at J;obtain⟨_,_,_,_,e1,_⟩:=J;simp only [cV,KW,Ln]at e1;exact Ky.1 (by have e2:=e1.1.2;have e3:(126:UInt8).toNat=126:=rfl;omega)
  subst hk;rw [ε]at next α;refine⟨λw'=>∃M2,qK b b2 (num t e0 0).2 (60* (A++(os.take j).flatMap (E1 u i)++E1 u i (.tau p)).length) w w' (A++(os.take j).flatMap (E1 u i)++E1 u i (.tau p)) M2/\Rel b ζ M' w' M2,⟨126,γ 0 (by omega),dc (by decide) ?_⟩,λι hJ=>?_⟩
  ·refine Hh ok su hsz η (cb2 η.km) (hlw η.km) hD W (by rw [hos];exact α) (γ 3 (by omega)) l42 (λhM=>δ (.inr hM)) (hvr p (.inl ε)) (by rw [J'];omega) λw3 M3 r3 k3 hM3=>⟨M3,?_,⟨Kp.mono (λ _ h=> .inr h) k3,hM3⟩⟩
   exact r3.mono (by simp only [J'];omega)
  ·obtain⟨M2,r70,φ⟩:=hJ;refine⟨126,?_,λ _=>next ι M2 r70 φ,λh=>absurd h (by decide)⟩;rw [J1 (w:=ζ) (φ.1.block ω l42 δ)];exact γ 0 (by omega)
 | rcv a x q s=>
  have hk:kk=63:=by
   rw [ε]at J;obtain⟨_,e1,_⟩:=J;simp only [cV,KW,Ln]at e1;exact Ky.1 (by have e2:=e1.1.2;have e3:(63:UInt8).toNat=63:=rfl;omega)
  subst hk;rw [ε]at next;refine⟨λw'=>w'=ζ,⟨63,γ 0 (by omega),aV (by decide) rfl⟩,λι hJ=>?_⟩;subst hJ;refine⟨63,γ 0 (by omega),λ _=>next ι M' ?_ (Rel.refl _ _ _),λh=>absurd h (by decide)⟩;have e:E1 u i (.rcv a x q s)=[]:=rfl;rw [e,KJ];exact η
 | snd c d p=>
  have hk:kk=33/\a1=c/\b1=d:=by
   rw [ε]at J;obtain⟨_,_,e1,_⟩:=J;simp only [cV,KW,Ln]at e1;have e3:(33:UInt8).toNat=33:=rfl;exact⟨Ky.1 (by have e2:=e1.1.2;omega),by have :=e1.2.1.2;omega,by have :=e1.2.2.1.2;omega⟩
  obtain⟨rfl,rfl,rfl⟩:=hk;rw [ε]at next α;refine⟨λw'=>w'=ζ,⟨33,γ 0 (by omega),aV (by decide) rfl⟩,λι hJ=>?_⟩;subst hJ;refine⟨33,γ 0 (by omega),λh=>absurd h (by decide),λ _=>?_⟩;refine⟨b,0,rfl,ptr bl,cb2 η.km,bl,0,rfl,vt,cbl η.km k5,at_,_,capt,hvt,λx w'=>∃(k:Nat) (M2:Nat->Prop),x=k/\k<=ts.length/\qK b b2 (num t e0 0).2 (60* (A++(os.take j).flatMap (E1 u i)++(List.range k).flatMap (E2 u i a1 b1 p)).length) w w' (A++(os.take j).flatMap (E1 u i)++(List.range k).flatMap (E2 u i a1 b1 p)) M2/\Rel b ι M' w' M2,λx _=>(ts.length - x).toNat,⟨0,M',rfl,KT _,by simpa using η,Rel.refl _ _ _⟩,λx w84 hI=>?_⟩;obtain⟨k,M2,rfl,hk,χ,H⟩:=hI;refine⟨λhlt3=>?_,λhge3=>?_⟩;rotate_left
  ·have hkl:k=u.ths.length:=by simp only [J6]at hge3;omega
   rw [hkl]at χ;exact next w84 M2 χ H
  have hkl:k< ts.length:=by simp only [J4]at hlt3;omega
  have hku:k< u.ths.length:=by omega
  obtain⟨bt2,ot2,capt2,hvt2,hct2⟩:=μ χ.km k hkl;have hE2k:=hE2s i a1 b1 p k (by omega);have s84:=H.1.size;have hDM':∀g,D g->¬(g=b\/M' g):=λg V e=>e.elim (hD g V).1 λhM=>by have :=(hD g V).2;have :=(θ.rs.mr g hM).1;omega
  refine⟨bt2,ot2,_,capt2,hvt2,by omega,by omega,ts[k],by rw [J9,KK];exact hct2,?_⟩;refine Ie (D:=D) hu.symm rfl ok su hsz hcl0 hl0 hD W hku (by rw [hos];exact α) χ (by simp only [J'];omega) (λjj hjj=>by rw [J1 (w:=ι) (H.1.block ω l42 δ)];exact γ jj hjj) (by omega) (λhM=>(H.2 ω hM).elim (λh=>δ (.inr h)) λh=>by omega) (λe=>δ (.inl e)) (aB.kp (hvr p (.inr ⟨_,_,ε⟩)) H.1 hDM') (tth χ.km k hku hkl) λw3 M3 r3 rel3=>⟨by unfold aj;omega,⟨k+1,M3,by omega,by omega,?_,H.trans rel3⟩,by show((ts.length:Int) - ((k:Int)+1)).toNat< ((ts.length:Int) - k).toNat;omega⟩
  have e5:(List.range (k+1)).flatMap (E2 u i a1 b1 p)=(List.range k).flatMap (E2 u i a1 b1 p)++E2 u i a1 b1 p k:=by rw [MW,Lf];simp
  rw [e5,<-KN];exact r3
end Go.Proofs.YtdecokaadekjnaaGreat
namespace Go.Proofs.YtdecokaadekjnaaGreat
open Go Go.RowKit T Classical
theorem Cr {s:Tx}{w:World}{R:Value->Bool->World->Prop}(H:cc s=none->∀w',Ex w w'->R (.pointer none) false w')
  (α:∀t:P,mA t->cc s=some t.text->∀b w',Ex w w'->w.heap.size<=b->GC w' (λg=>w.heap.size<=g/\g≠b/\g< w'.heap.size) b (num t e0 0).2 t.text (td (num t e0 0).1)->R (ptr b) true w'):
  Calls Tryz.prog 135 #[.string (ab s)] w (ax [.v,.b] R):=by
 refine qT s w R ?_;refine CH λv q w4 x4 h1 h2=>⟨λI=>?_,λI=>?_⟩
 ·have I:q=true:=by simpa using I
  obtain⟨z,t,V,e,W⟩:=h1 I;have δ:t.size<=60:=((nG V).1 (e▸z)).2;refine Dt W.bound (λg z=>z.2) λw6 x6=>⟨λJ=>?_,λJ=>?_⟩
  ·refine H (iu ?_) w6 (Ex.trans x4 x6)
   rintro⟨t',h4,h5,_,h6⟩
   have :=fH h4.wf V.wf (h5.trans e);subst this;rw [h6]at J;cases J
  ·have J:t.smp=true:=by simpa using J
   have Z:=aI.kp (Kp.ah x6 λ _=>False) (λ _ _ h=>h) W.bound;have he:=qn V (e▸z) J;rw [<-e]at he;refine wz Z (λg z=>by have :=z.2;have :=x6.size;omega) V (by omega) λw9 x9=>?_
   have G:=Ex.trans x4 (Ex.trans x6 x9);cases hn:kC (num t e0 0).1 with
   | none=>exact⟨(λs h=>by cases h),λ _=>⟨λ _=>H (he.trans hn) w9 G,(λh=>by cases h)⟩⟩
   | some n=>
    refine⟨λs' h=>?_,(λh=>by cases h)⟩;cases h;refine⟨(λh=>by cases h),λ _=>?_⟩;obtain⟨t',ok,rfl⟩:=zH (lT V) ((sW (lG V)).symm.trans J) hn;have γ:=ok.size;have β:=ok.len;refine zP ok.al (by omega) (by omega) λb w' x hb st=>α t' ok (he.trans hn) b w' (Ex.trans G x) (by have :=G.size;omega) ?_
    obtain⟨v,h1,h2⟩:=st.l;exact⟨st.mc,st.tx,v,h1,h2.sub λg _ z=>⟨by have :=G.size;have :=z.1;omega,z.2⟩⟩
 ·have I:q=false:=by simpa using I
  exact H (iu fun⟨t,_,_,z,_⟩=>h2 I z) w4 x4
theorem Br:iX 0 λ _=>false:=λc _=>by simp
theorem BO {x:UInt32}{tk:Tk}(W:iX x tk){w:World}{R:ay->World->Prop}(Z:R (iO.filter tk) w):
  Calls Tryz.prog 82 #[.int .u32 x.toNat] w (ax [.s] R):=by
 refine qY x w R ?_;have hl:iO.length=26:=by simp [iO]
 refine⟨λout c w'=>w'=w/\97<=c.toNat/\c.toNat<=123/\out=iO.filter λd=>tk d&&decide (d< c),λ _ c _=>123 - c.toNat,⟨rfl,by decide,by decide,?_⟩,λout c w' hI=>?_⟩
 ·refine(List.filter_eq_nil_iff.2 λd hd h=>?_).symm;have :=aW (mL.1 hd);simp only [J3,J4,KI]at h;have h2:d.toNat< 97:=h.2;omega
 ·obtain⟨rfl,z,h4,rfl⟩:=hI;refine⟨λhc=>uE ?_,λhc=>?_⟩
  ·simp only [J4,Kl]at hc;have G:c.toNat<=122:=hc;have H:lt c=true:=iy ⟨z,G⟩;have :=W c H;have e1:(c+1).toNat=c.toNat+1:=by rw [MB];show(c.toNat+1) % 256=_;omega
   have hle:(iO.filter λd=>tk d&&decide (d< c)).length<=26:=hl▸Mf _ _;have hd:∀d:UInt8,d< c+1↔d< c\/d=c:=λd=>by
    rw [KI,KI,e1,<-Ky];omega
   refine⟨λhe=>?_,λhe=>?_⟩
   ·have J:tk c=true:=by
     rw [L0]at he;rw [he]at this;simpa using this.symm
    have e2:UInt8.ofNat (Int.toNat (c.toNat:Int))=c:=by rw [J9];exact UInt8.ofNat_toNat
    refine⟨⟨by omega,by omega⟩,by simp only [J0,Kh];omega,⟨rfl,by omega,by omega,?_⟩,by show 123 - (c+1).toNat< 123 - c.toNat;omega⟩;rw [e2];refine wW ?_ (jV.filter _) λd=>?_
    ·refine Na.2 ⟨jV.filter _,List.pairwise_singleton _ _,λa ha b hb=>?_⟩;cases Kf.1 hb;have :=(L5.1 ha).2;simp only [J3,J4]at this;exact this.2
    ·simp only [Ke,L5,Kf,J3,J4,hd];constructor
     ·rintro(⟨V,h2,z⟩ | rfl)
      ·exact⟨V,h2,.inl z⟩
      ·exact⟨mL.2 H,J,.inr rfl⟩
     ·rintro⟨V,h2,z | z⟩
      ·exact .inl ⟨V,h2,z⟩
      ·exact .inr z
   ·have J:tk c=false:=by
     have he:decide (x &&& jc c=0)=true:=by
      cases h:decide (x &&& jc c=0)with
      | true=>rfl
      | false=>rw [h]at he;cases he
     rw [he]at this;simpa using this.symm
    refine⟨⟨rfl,by omega,by omega,?_⟩,by show 123 - (c+1).toNat< 123 - c.toNat;omega⟩;refine Mp λd _=>?_
    by_cases I:d=c
    ·rw [I,J];rfl
    ·have:(d< c+1)↔d< c:=by rw [hd];exact⟨λh=>h.resolve_right I,.inl⟩
     rw [Mi.2 this]
  ·simp only [J6,Kl]at hc;have G:122< c.toNat:=by have:¬c.toNat<=122:=hc;omega
   rw [show(iO.filter λd=>tk d&&decide (d< c))=iO.filter tk from Mp λd hd=>by
    have :=aW (mL.1 hd);rw [Lc (KI.2 (by omega)),Mu]]
   exact Z
theorem GX {x y:UInt32}(h:x.toNat< 67108864)(k:y.toNat< 67108864):(x ||| y).toNat< 67108864:=by
 rw [UInt32.toNat_or];exact Nat.or_lt_two_pow (n:=26) h k
theorem si {c:UInt8}(h:lt c=true):(jc c).toNat=2^(c.toNat - 97):=by
 have z:=aW h;have e:(c - 97).toNat=c.toNat - 97:=by
  have :=c.toNat_lt;rw [UInt8.toNat_sub];show(256 - 97+c.toNat) % 256=_;omega
 unfold jc nE;rw [e,MD (by omega),Np];have:2^(c.toNat - 97)< 2^26:=Nat.pow_lt_pow_right (by omega) (by omega);show 1* 2^(c.toNat - 97) % 2^32=_;rw [Nat.one_mul];exact Ng (by omega)
theorem FF {c:UInt8}(h:lt c=true):(jc c).toNat< 67108864:=by
 have z:=aW h;rw [si h,show(67108864:Nat)=2^26 from rfl];exact Nat.pow_lt_pow_right (by omega) (by omega)
theorem F5 {s:Tx}(W:∀c∈s,lt c=true)(hl:s.length<=1099511627776){w:World}{R:UInt32->World->Prop}(Z:∀x,iX x (λc=>decide (c∈s))->x.toNat< 67108864->R x w):
  Calls Tryz.prog 91 #[.string (ab s)] w (ax [.w] R):=by
 refine uh s w R ?_;refine⟨λx i w'=>w'=w/\∃j:Nat,i=j/\j<=s.length/\x.toNat< 67108864/\iX x λc=>decide (c∈s.take j),λ _ i _=>(s.length - i).toNat,⟨rfl,0,rfl,KT _,by decide,?_⟩,λx i w' hI=>?_⟩
 ·simpa using Br
 obtain⟨rfl,j,rfl,hj,G,H⟩:=hI;refine⟨λI=>?_,λJ=>?_⟩
 ·have z:j< s.length:=by simp only [J4]at I;omega
  refine⟨⟨by omega,by omega⟩,uE ⟨by unfold aj;omega,⟨rfl,j+1,by omega,by omega,GX G (FF (W _ (lB z))),?_⟩,by show((s.length:Int) - ((j:Int)+1)).toNat< ((s.length:Int) - j).toNat;omega⟩⟩;rw [J9];have h:=H.add (W _ (lB z));have e:(cA (λc=>decide (c∈s.take j)) (bt s j))=λc=>decide (c∈s.take (j+1)):=by
   funext c
   unfold cA;rw [J8 z,jT];have V:bt s j=s[j]:=by unfold bt;rw [Mx,J2 z];rfl
   rw [V];simp only [Ke,Kf,Bool.decide_or]
  rw [<-e];exact h
 ·have:j=s.length:=by simp only [J6]at J;omega
  rw [this,KA]at H;exact Z x H G
def Ga (k:UInt8)(u:U)(l:List (Off Nat))(c:UInt8):Prop:=∃o∈l,∃z,o.over k=some z/\z∉u.frL/\c=ρ0 z
def Gt (k:UInt8)(u:U)(l:List U)(c:UInt8):Prop:=Ga k u (l.flatMap offs) c
theorem zZ {k:UInt8}{u:U}{l m:List (Off Nat)}{c:UInt8}:Ga k u (l++m) c↔Ga k u l c\/Ga k u m c:=by
 unfold Ga;constructor
 ·rintro⟨o,z,h⟩
  exact(Ke.1 z).imp (λG=>⟨o,G,h⟩) λG=>⟨o,G,h⟩
 ·rintro(⟨o,z,h⟩ | ⟨o,z,h⟩)
  ·exact⟨o,KH _ z,h⟩
  ·exact⟨o,KB _ z,h⟩
theorem iX.cg {x:UInt32}{p q:UInt8->Prop}[DecidablePred p][DecidablePred q](h:iX x λc=>decide (p c))(e:∀c,p c↔q c):iX x λc=>decide (q c):=by
 have:(λc=>decide (p c))=λc=>decide (q c):=funext λc=>Mi.2 (e c)
 rwa [<-this]
theorem yY {q:UInt8->Prop}[DecidablePred q](e:∀c,¬q c):iX 0 λc=>decide (q c):=by
 have:(λc=>decide (q c))=λ _=>false:=funext λc=>Lj (e c)
 rw [this];exact Br
theorem sI {k z:UInt8}{a b a' H:Nat}{v v':Value}{s I:Bool}(h:cV k a b v s=cV z a' H v' I):k=z/\a=a':=by
 unfold cV at h
 injection h with G h2
 injection h2 with h2 _
 injection G with _ G
 injection h2 with _ h2
 exact⟨Ky.1 (by omega),by omega⟩
theorem wv:∀u:U,u.ths.length<=u.size:=by
 intro u
 induction u with
 | par p q _ z=>simp only [T.ths,J0,T.size];omega
 | res x p z=>simp only [T.ths,T.size];omega
 | _=>simp [T.ths,T.size]
theorem yj {A:Type}{k:UInt8}{a c:A}{p:T A}{z:A}:(Off.snd a c p).over k=some z↔33=k/\z=a:=by
 show(if k=33 then some a else none)=some z↔_;constructor
 ·intro h;by_cases hc:k=33
  ·exact⟨hc.symm,(po h).symm⟩
  ·rw [Ko hc]at h;cases h
 ·rintro⟨G,h2⟩;rw [KG G.symm,h2]
theorem yb {A:Type}{k:UInt8}{a c:A}{p:T A}{s:Bool}{z:A}:(Off.rcv a c p s).over k=some z↔63=k/\z=a:=by
 show(if k=63 then some a else none)=some z↔_;constructor
 ·intro h;by_cases hc:k=63
  ·exact⟨hc.symm,(po h).symm⟩
  ·rw [Ko hc]at h;cases h
 ·rintro⟨G,h2⟩;rw [KG G.symm,h2]
theorem DR:∀u:U,u.frL.length<=u.size:=by
 intro u
 induction u with
 | res x p z=>simp only [T.frL,J0,T.size];omega
 | _=>simp [T.frL,T.size]
theorem Gl {z:Nat}(h:z< 26):jc (ρ0 z)=nE 1 z:=by
 unfold jc;rw [gH (Ai h),eO h];unfold σ0;rw [Nat.add_sub_cancel]
theorem iX.more {x:UInt32}{p q:UInt8->Prop}[DecidablePred p][DecidablePred q](h:iX x λc=>decide (p c)){z:Nat}(G:z< 26)(e:∀c,q c↔p c\/c=ρ0 z):iX (x ||| nE 1 z) λc=>decide (q c):=by
 have H:=h.add (Ai G);rw [Gl G]at H;have:(cA (λc=>decide (p c)) (ρ0 z))=λc=>decide (q c):=by
  funext c
  unfold cA;rw [jT,Mi.2 (e c),Bool.decide_or]
 rwa [<-this]
theorem Fh {t:P}(ok:mA t){w:World}{b n:Nat}{D:Nat->Prop}(st:GC w D b n t.text (td (num t e0 0).1))(hD:∀g,D g->g< w.heap.size){k:UInt8}(hk:k≠126){R:ay->World->Prop}(hR:∀w',Ex w w'->R (Cb k t) w'):
  Calls Tryz.prog 93 #[ptr b,.int .u8 k.toNat] w (ax [.s] R):=by
 have su:=ok.su;have hszt:=ok.size;have hsh:=(lA su.ae).2.2;generalize hu:(num t e0 0).1=u at*;have hsz:u.size<=60:=by omega
 have hthl:=wv u;refine mX (ptr b) k w R ?_;have hb:=st.mc.lt;obtain⟨vl,ξ,hl0⟩:=st.l;obtain⟨bl,vo,vt,ts,rfl,k2,k3,k4,k5,k6,k7,k8,k9⟩:=Ay su hl0;obtain⟨at_,ω,hvt⟩:=k7.slice;refine⟨b,0,rfl,ptr bl,ξ,bl,0,rfl,vt,k5,at_,_,ω,hvt,λout x w'=>∃i:Nat,x=i/\i<=ts.length/\Ex w w'/\iX out λc=>decide (Gt k u (u.ths.take i) c),λ _ x _=>(ts.length - x).toNat,⟨0,rfl,KT _,Ex.refl w,?_⟩,λout x w16 hI=>?_⟩
 ·exact yY λc=>by simp [Gt,Ga]
 obtain⟨i,rfl,hi,ε,ζ⟩:=hI;refine⟨λhlt=>?_,λhge=>?_⟩;rotate_left
 ·have δ:i=u.ths.length:=by simp only [J6]at hge;omega
  rw [δ,KA]at ζ;refine BO ζ ?_;have:(iO.filter λc=>decide (Gt k u u.ths c))=Cb k t:=by
   unfold Cb;refine Mp λc _=>Mi.2 ?_
   rw [GS su];constructor
   ·rintro⟨o,ho,z,J,h2,h3⟩
    obtain⟨q,hq,ho⟩:=KU.1 ho;obtain⟨sub,_⟩:=aZ (su.smp _ hq) _ ho;exact⟨z,h2,((su.free z ⟨q,hq,sub.fr z (rS J)⟩).resolve_left h2).1,h3,q,hq,o,ho,J⟩
   ·rintro⟨z,J,h2,h3,q,hq,o,ho,h4⟩
    exact⟨o,KU.2 ⟨q,hq,ho⟩,z,h4,J,h3⟩
  rw [this];exact hR w16 ε
 have δ:i< ts.length:=by simp only [J4]at hlt;omega
 have υ:i< u.ths.length:=by omega
 have s16:=ε.size;have Z:=Kg υ;have η:=su.th _ Z;have hsi:=eE u _ Z;have φ:∃bt ot H,vt= .slice (some ⟨bt,ot,none⟩) ts.length H/\w16.cell? ⟨bt,ot+i,none⟩=some ts[i]:=by
  rcases k7 with⟨_,h0⟩ | ⟨bt,ot,H,e,hbD,hb',G⟩
  ·rw [h0]at δ;simp at δ
  ·exact⟨bt,ot,H,e,by rw [ε.cell (a:=⟨bt,ot+i,none⟩) hb'];exact G i _ (J2 δ)⟩
 obtain⟨bt,ot,H,hvt',φ⟩:=φ;refine⟨bt,ot,_,H,hvt',by omega,by omega,ts[i],by rw [J9,KK];exact φ,sL η.1 η.2.1 η.2.2 (su.smp _ Z) (by omega) (λg hg=>by have :=hD g hg;omega) ((k9 i υ δ).ex ε) λv22 w23 xs x23 ο hm23=>?_⟩;have hofm:∀o∈offs u.ths[i],∀z,o.over k=some z->z∉u.frL->z< 26:=λo ho z J h2=>by
  obtain⟨sub,_⟩:=aZ (su.smp _ Z) _ ho;exact((su.free z ⟨_,Z,sub.fr z (rS J)⟩).resolve_left h2).1
 have eT:(u.ths.take (i+1)).flatMap offs=(u.ths.take i).flatMap offs++offs u.ths[i]:=by rw [J8 υ,Lf];simp
 have hol:(offs u.ths[i]).length<=60:=by have J:=fJ u.ths[i];omega
 have ς:=Ex.trans ε x23;generalize hos:offs u.ths[i]=os at*;have θ:∃a cap,v22= .slice a os.length cap:=by
  rcases ο.cell with⟨J,h2,_⟩ | ⟨g,cap,J,_⟩
  ·exact⟨none,0,by rw [J,h2]⟩
  ·exact⟨_,cap,J⟩
 obtain⟨av,cav,θ⟩:=θ;refine⟨av,_,cav,θ,λout x w'=>∃j:Nat,x=j/\j<=os.length/\Ex w23 w'/\iX out λc=>decide (Gt k u (u.ths.take i) c\/Ga k u (os.take j) c),λ _ x _=>(os.length - x).toNat,⟨0,rfl,KT _,Ex.refl _,ζ.cg λc=>by simp [Ga]⟩,λout2 x w30 hI=>?_⟩;obtain⟨j,rfl,hj,ν,V⟩:=hI;refine⟨λhlt2=>?_,λhge2=>?_⟩;rotate_left
 ·have ι:j=os.length:=by simp only [J6]at hge2;omega
  rw [ι,KA]at V;refine⟨by unfold aj;omega,⟨i+1,by omega,by omega,Ex.trans ς ν,V.cg λc=>?_⟩,by show((ts.length:Int) - ((i:Int)+1)).toNat< ((ts.length:Int) - i).toNat;omega⟩;show Ga k u _ c\/Ga k u os c↔Ga k u _ c;rw [eT,zZ]
 have ι:j< os.length:=by simp only [J4]at hlt2;omega
 have ho30:=ο.ex ν;have hm30:=OffsM.ex hm23 ν;obtain⟨g,cap,cs,hvg,β,G⟩:=vF ho30 hm30 ι;obtain⟨kk,a1,b1,vr,s1,rfl,hone⟩:=β.any;refine⟨g,0,_,cap,hvg,by omega,by omega,kk,a1,b1,vr,s1,⟨G 0 _ rfl _ (by omega) (by omega),G 1 _ rfl _ (by omega) (by omega),G 2 _ rfl _ (by omega) (by omega),G 3 _ rfl _ (by omega) (by omega),G 4 _ rfl _ (by omega) (by omega),trivial⟩,λb40 w41 hb40 hw41=>?_⟩;obtain⟨box1,box2⟩:=zn (cs:=cV kk a1 b1 vr s1) rfl hb40 hw41;refine⟨⟨rfl,tE hone,box1⟩,λw42 hw42=>?_⟩;obtain⟨x42,l42,χ⟩:=box2 w42 hw42;have W:=Ex.trans ν x42;have κ:=Ex.trans ς W;have ψ:os[j]∈os:=Kg ι;have etk:os.take (j+1)=os.take j++[os[j]]:=J8 ι;have γ:((os.length:Int) - ((j:Int)+1)).toNat< ((os.length:Int) - j).toNat:=by omega
 have I:∀z,os[j].over k=some z↔kk=k/\z=a1:=by
  intro z;cases ho:os[j]with
  | tau p=>
   rw [ho]at β;obtain⟨_,_,_,_,J,_⟩:=β;have this:=(sI J).1;exact⟨(λh=>by cases h),λh=>absurd (h.1.symm.trans this) hk⟩
  | snd a c p=>
   rw [ho]at β;obtain⟨_,_,J,_⟩:=β;obtain⟨e1,e2⟩:=sI J;subst e1 e2;exact yj
  | rcv a c p s=>
   rw [ho]at β;obtain⟨_,J,_⟩:=β;obtain⟨e1,e2⟩:=sI J;subst e1 e2;exact yb
 have μ:(∀z,os[j].over k=some z->z∈u.frL)->iX out2 λc=>decide (Gt k u (u.ths.take i) c\/Ga k u (os.take (j+1)) c):=λh=>V.cg λc=>by
  rw [etk,zZ];have:¬Ga k u [os[j]] c:=by
   rintro⟨o,ho,z,J,h2,_⟩
   cases Kf.1 ho;exact h2 (h z J)
  simp [this]
 refine⟨kk,χ 0 (by omega),λα=>?_,λα=>?_⟩;rotate_left
 ·have α:kk≠k:=by simpa using α
  exact⟨by unfold aj;omega,⟨j+1,by omega,by omega,W,μ λz h=>absurd ((I z).1 h).1 α⟩,γ⟩
 have α:kk=k:=by simpa using α
 refine⟨a1,χ 1 (by omega),?_⟩;refine mV (ptr b) a1 w42 _ ?_;refine⟨b,0,rfl,ptr bl,?_,bl,0,rfl,vo,?_,Ak (k6.ex κ) ?_ ⟨λhn=>?_,λhn=>?_⟩⟩
 ·rw [κ.cell (a:=⟨b,0+2,none⟩) hb];exact ξ
 ·rw [κ.cell (a:=⟨bl,0+0,none⟩) k3];exact k4
 ·have :=DR u;omega
 ·have hn:a1∉u.frL:=by simpa using hn
  have h26:=hofm _ ψ a1 ((I a1).2 ⟨α,rfl⟩) hn;refine⟨a1,χ 1 (by omega),by omega,by unfold aj;omega,⟨j+1,by omega,by omega,W,?_⟩,γ⟩;rw [J9];refine V.more h26 λc=>?_
  rw [etk,zZ];have:Ga k u [os[j]] c↔c=ρ0 a1:=by
   constructor
   ·rintro⟨o,ho,z,J,h2,h3⟩
    cases Kf.1 ho;rw [h3,((I z).1 J).2]
   ·intro h;exact⟨_,Kf.2 rfl,a1,(I a1).2 ⟨α,rfl⟩,hn,h⟩
  rw [this];exact MU.symm
 ·have hn:a1∈u.frL:=by simpa using hn
  exact⟨by unfold aj;omega,⟨j+1,by omega,by omega,W,μ λz h=>((I z).1 h).2▸hn⟩,γ⟩
theorem Dy {f:Tx}{G:List P}{v:Value}{w:World}{u:U}(hs:Strs w v (G.map T.text))(hl:dq (G.map T.text)<=1000000000)(d:ph 0 (resL f (parL G)) σ0 u){R:ay->Bool->World->Prop}
  (h:∀w',Ex w w'->(∀s,kC u=some s->R s true w')/\(kC u=none->R [] false w')):Calls Tryz.prog 151 #[.string (ab f),v] w (ax [.s,.b] R):=by
 refine ta f v w R ?_;obtain⟨a,cap,hv⟩:=hs.slice;have I:=d.den.len;have z:=qt (parL G) f;rw [z,fN]at I;have Z:G≠[]->joinS 38 (G.map T.text)=(parL G).text:=λH=>(qf H).symm
 have α:G=[]->(parL G).text=[48]:=λe=>by rw [e];rfl
 refine⟨a,_,cap,hv,λhc=>?_,λhc=>?_⟩
 ·have H:G≠[]:=by
   intro e;simp [e]at hc
  refine tB hs (by simpa using H) (by omega) ?_;rw [Z H];revert z I;generalize (parL G).text=body;intro I z;refine⟨by unfold aj;omega,λs i w'=>w'=w/\∃m:Nat,i=(m:Int) - 1/\m<=f.length/\s=wrap (f.drop m) body,λ _ i _=>(i+1).toNat,⟨rfl,f.length,rfl,Kb _,by rw [Mb];rfl⟩,λs i w' hI=>?_⟩;obtain⟨rfl,m,rfl,hm,rfl⟩:=hI;refine⟨λhc=>?_,λhc=>?_⟩
  ·obtain⟨m,rfl⟩:∃k,m=k+1:=⟨m - 1,by simp at hc;omega⟩
   have J:m< f.length:=by omega
   have e:(((m+1:Nat):Int) - 1)=(m:Int):=by omega
   have V:=qc J body;have W:=fN (f.drop (m+1)) body;rw [LH]at W;rw [e,vW J];refine⟨by unfold aj;omega,⟨by omega,by omega,by omega⟩,by simp,by simp,by simp only [J',J0,Kh];omega,by unfold aj;omega,⟨rfl,m,rfl,by omega,?_⟩,by show((m:Int) - 1+1).toNat< ((m:Int)+1).toNat;omega⟩;rw [V];rfl
  ·have:m=0:=by simp at hc;omega
   subst this;rw [LP,<-z];exact zM d h
 ·have H:G=[]:=by
   cases G with
   | nil=>rfl
   | cons=>simp at hc
  rw [<-α H];revert z I;generalize (parL G).text=body;intro I z;refine⟨by unfold aj;omega,λs i w'=>w'=w/\∃m:Nat,i=(m:Int) - 1/\m<=f.length/\s=wrap (f.drop m) body,λ _ i _=>(i+1).toNat,⟨rfl,f.length,rfl,Kb _,by rw [Mb];rfl⟩,λs i w' hI=>?_⟩;obtain⟨rfl,m,rfl,hm,rfl⟩:=hI;refine⟨λhc=>?_,λhc=>?_⟩
  ·obtain⟨m,rfl⟩:∃k,m=k+1:=⟨m - 1,by simp at hc;omega⟩
   have J:m< f.length:=by omega
   have e:(((m+1:Nat):Int) - 1)=(m:Int):=by omega
   have V:=qc J body;have W:=fN (f.drop (m+1)) body;rw [LH]at W;rw [e,vW J];refine⟨by unfold aj;omega,⟨by omega,by omega,by omega⟩,by simp,by simp,by simp only [J',J0,Kh];omega,by unfold aj;omega,⟨rfl,m,rfl,by omega,?_⟩,by show((m:Int) - 1+1).toNat< ((m:Int)+1).toNat;omega⟩;rw [V];rfl
  ·have:m=0:=by simp at hc;omega
   subst this;rw [LP,<-z];exact zM d h
def cP (e B:Nat)(w:World)(v:Value)(n:Nat)(xs:List Value):Prop:=w.ownsRow B e 5 v n xs
section
variable {e B:Nat} {w w':World} {v:Value} {n:Nat} {xs:List Value}
theorem cP.nil (e B:Nat)(w:World):cP e B w (.slice none 0 0) 0 []:=World.ownsRow_nil _ _ _ _
theorem cP.block (h:cP e B w v n xs):∀b,v.ownBlock=some b->B<=b/\b< w.heap.size:=MP h
theorem cP.mono {z:Nat}(h:cP e B w v n xs)(hb:z<=B):cP e z w v n xs:=Nz h hb
theorem cP.kp {S:Nat->Prop}(h:cP e B w v n xs)(k:Kp w w' S)(G:∀g,v.ownBlock=some g->¬S g):cP e B w' v n xs:=by
 refine⟨h.1,?_⟩;rcases h.2 with H | ⟨g,cap,cur,rfl,hb,z,rest⟩
 ·exact .inl H
 ·exact .inr ⟨g,cap,cur,rfl,hb,by rw [k.block g (KO.1 z).1 (G g rfl)];exact z,rest⟩
theorem cP.ex (h:cP e B w v n xs)(x:Ex w w'):cP e B w' v n xs:=h.kp (Kp.ah x λ _=>False) λ _ _ h=>h
theorem cP.cell (h:cP e B w v n xs):(v= .slice none 0 0/\n=0/\xs=[])\/∃g cap,v= .slice (some ⟨g,0,none⟩) n cap/\g< w.heap.size/\∀j u,xs[j]?=some u->w.cell? ⟨g,0+j,none⟩=some u:=by
 have z:=h.1;rcases h.2 with⟨I,G⟩ | ⟨g,cap,cur,rfl,hb,H,V,h2,W,h4⟩
 ·left;refine⟨I,G,KD (by rw [z,G])⟩
 ·refine .inr ⟨g,cap,rfl,(KO.1 H).1,λj u hu=>?_⟩;have J:j< xs.length:=(KX.1 hu).1;unfold World.cell?;simp only [H,KF];rw [<-h4,LD (by rw [<-z];exact J),LL]at hu;exact hu
theorem cP.src (h:cP e B w v n xs)(ha:xs.all oneV=true):dW w v n 5 xs:=by
 refine⟨h.1,ha,?_⟩;rcases h.cell with⟨rfl,rfl,_⟩ | ⟨g,cap,rfl,_,hc⟩
 ·exact .inl ⟨rfl,rfl⟩
 ·exact .inr ⟨g,0,cap,rfl,hc⟩
theorem cP.one {b:Nat}{cs:List Value}(hc:cs.length=5)(hB:B<=w.heap.size)(hb:b=w.heap.size)(h:w'=w.alloc (.cells cs.toArray e)):cP e B w' (.slice (some ⟨b,0,none⟩) 1 1) 1 cs:=by
 subst hb h;refine⟨by rw [hc],.inr ⟨_,1,cs.toArray,rfl,hB,?_,by simp,by unfold maxLen;omega,by simp [hc],MS (by simp [hc])⟩⟩;unfold World.alloc;simp
theorem cP.push {x:Value}{m by_:Nat}{G:List Value}(h:cP e B w v n xs)(hB:B<=w.heap.size)(I:dW w x m 5 G)(H:by_<=48)(Z:n+m<=1099511627776){K:Value->World->Prop}
  (J:∀v' w',cP e B w' v' (n+m) (xs++G)->w.grownBy w' v.ownBlock->(∀b,v'.ownBlock=some b->v.ownBlock=some b\/w.heap.size<=b)->K v' w'):
  ∃(base n' m':Nat) (z news:List Value),World.ownsRow w base e 5 v n' z/\base<=Array.size (World.heap w)/\dW w x m' 5 news/\(n'+m'<=maxLen/\(n'+m')* by_<=140737488355328)/\
   ∀(v':Value) (w':World),World.ownsRow w' base e 5 v' (n'+m') (z++news)->World.grownBy w w' (Value.ownBlock v)->(∀b:Nat,Value.ownBlock v'=some b->Value.ownBlock v=some b\/Array.size (World.heap w)<=b)->K v' w':=
 ⟨B,n,m,xs,G,h,hB,I,⟨by unfold maxLen;omega,by have :=Nb (Kb (n+m)) H;omega⟩,λv' w' V W hw=>J v' w' V W hw⟩
theorem cP.set {g cap j:Nat}{x:Value}(h:cP e B w (.slice (some ⟨g,0,none⟩) n cap) n xs)(hw:w'=w.setCell ⟨g,j,none⟩ x)(Z:j< xs.length):cP e B w' (.slice (some ⟨g,0,none⟩) n cap) n (xs.set j x):=by
 subst hw;rcases h.2 with⟨G,_⟩ | ⟨g',z,cur,H,hb,I,J,h2,V,h4⟩
 ·cases G
 ·cases H;have W:=h.1;have e:(w.setCell ⟨g,j,none⟩ x).heap[g]?=some (.cells (cur.setIfInBounds j x) e (0,0)):=by
   rw [Sort.setCell_eq];simp [Sort.mapBlock,L3,I,Sort.onCells]
  refine⟨by rw [LV];exact W,.inr ⟨g,cap,_,by simp,hb,e,by simpa using J,h2,by simpa using V,?_⟩⟩;rw [Array.toList_setIfInBounds,List.take_set,h4]
theorem cP.fr (h:cP e B w v n xs){g:Nat}(G:v.ownBlock=some g)(j:Nat):w.frozen? ⟨g,j,none⟩=false:=by
 rcases h.2 with⟨rfl,I⟩ | ⟨H,cap,cur,rfl,hb,z,_⟩
 ·cases G
 ·have e:H=g:=KS G;subst e;unfold World.frozen?;simp only [z];simp
end
def fO (k a b:UInt8)(s:Tx)(q:Bool):List Value:=[.int .u8 k.toNat,.int .u8 a.toNat,.int .u8 b.toNat,.string (ab s),.bool q]
def uy:Off UInt8->List Value->Prop
 | .tau p,cs=>∃a b s,cs=fO 126 a b p.text s
 | .snd a b p,cs=>∃s,cs=fO 33 a b p.text s
 | .rcv a x q s,cs=>cs=fO 63 a x q.text s
def fE:List (Off UInt8)->List Value->Prop
 | [],xs=>xs=[]
 | o::os,xs=>∃cs z,xs=cs++z/\uy o cs/\fE os z
theorem uy.any {o:Off UInt8}{cs:List Value}(h:uy o cs):∃(k a b:UInt8) (s:Tx) (q:Bool),cs=fO k a b s q:=by
 cases o with
 | tau p=>obtain⟨a,b,s,h⟩:=h;exact⟨_,_,_,_,_,h⟩
 | snd a b p=>obtain⟨s,h⟩:=h;exact⟨_,_,_,_,_,h⟩
 | rcv a b p s=>exact⟨_,_,_,_,_,h⟩
theorem fE.app:∀{os z:List (Off UInt8)} {xs G:List Value},fE os xs->fE z G->fE (os++z) (xs++G)
 | [],_,xs,G,h,k=>by cases h;exact k
 | o::os,_,xs,G,⟨cs,zs,H,h2,I⟩,k=>⟨cs,zs++G,by rw [H,KN],h2,I.app k⟩
theorem fE.len:∀{os:List (Off UInt8)} {xs:List Value},fE os xs->xs.length=os.length* 5/\xs.all oneV=true
 | [],xs,h=>by cases h;exact⟨rfl,rfl⟩
 | o::os,xs,⟨cs,zs,z,h2,G⟩=>by
  obtain⟨h4,h5⟩:=G.len;obtain⟨k,a,b,s,q,e⟩:=h2.any;subst z e;exact⟨by simp [fO,h4];omega,by rw [MC,h5];rfl⟩
theorem fE.at:∀{os:List (Off UInt8)} {xs:List Value},fE os xs->∀{i:Nat} (H:i< os.length),∃cs,uy os[i] cs/\∀j,j< 5->xs[i* 5+j]?=cs[j]?
 | o::os,xs,⟨cs,zs,z,h2,I⟩,0,_=>⟨cs,h2,λj J=>by
   obtain⟨k,a,b,s,q,e⟩:=h2.any;have V:cs.length=5:=by rw [e];rfl
   rw [z,List.getElem?_append_left (by omega)];congr 1;omega⟩
 | o::os,xs,⟨cs,zs,z,h2,I⟩,i+1,H=>by
   obtain⟨G,W,Z⟩:=I.at (i:=i) (by simpa using H);refine⟨G,W,λj J=>?_⟩;obtain⟨k,a,b,s,q,e⟩:=h2.any;have V:cs.length=5:=by rw [e];rfl
   rw [z,List.getElem?_append_right (by omega),<-Z j J];congr 1;omega
theorem fE.one {o:Off UInt8}{cs:List Value}(h:uy o cs):fE [o] cs:=⟨cs,[],by simp,h,rfl⟩
abbrev tO:Nat:=166
theorem nM:∀(n:Nat) {t:P},t.size<=n->Ok t->t.smp=true->t.size<=1000000->∀{w:World} {R:Value->World->Prop},(∀v w' xs,Ex w w'->cP tO w.heap.size w' v (offs t).length xs->fE (offs t) xs->R v w')->Calls Tryz.prog 145 #[.string (ab t.text)] w (ax [.v] R):=by
 intro n
 induction n with
 | zero=>intro t h;have :=a8 t;omega
 | succ n ih=>
  intro t hn ok hs ω w R h;refine pH _ w R ?_;refine aK ok ?_;have none_:offs t=[]->R (.slice none 0 0) w:=λe=>by
   have :=h (.slice none 0 0) w [] (Ex.refl w);rw [e]at this;exact this (cP.nil _ _ _) rfl
  cases t with
  | nil=>repeat' first | exact none_ rfl | refine aV (by simp [T.kind]) ?_
  | par p q=>repeat' first | exact none_ rfl | refine aV (by simp [T.kind]) ?_
  | res x p=>repeat' first | exact none_ rfl | refine aV (by simp [T.kind]) ?_
  | mat a b p=>repeat' first | exact none_ rfl | refine aV (by simp [T.kind]) ?_
  | snd a b p=>
   refine dc rfl (dc rfl ⟨λ _=>True,λw5 γ=>⟨trivial,⟨by omega,by simp [T.text];omega⟩,⟨by omega,by simp [T.text];omega⟩,⟨by omega,by simp [T.text];omega⟩,aK ok ⟨trivial,λb8 w9 H z=>⟨trivial,?_⟩⟩⟩⟩);have x5:Ex w w5:=γ▸Ex.drew w;exact h _ w9 _ (Ex.trans x5 (z▸Ex.alloc w5 _)) (cP.one (cs:=fO 33 a b p.text false) rfl x5.size H z) (fE.one ⟨false,rfl⟩)
  | rcv a b p=>
   refine aV (by simp [T.kind]) (dc rfl ⟨λ _=>True,λw5 γ=>⟨trivial,⟨by omega,by simp [T.text];omega⟩,⟨by omega,by simp [T.text];omega⟩,⟨by omega,by simp [T.text];omega⟩,aK ok ⟨trivial,λb8 w9 H z=>⟨trivial,?_⟩⟩⟩⟩);have x5:Ex w w5:=γ▸Ex.drew w;exact h _ w9 _ (Ex.trans x5 (z▸Ex.alloc w5 _)) (cP.one (cs:=fO 63 a b p.text false) rfl x5.size H z) (fE.one rfl)
  | tau p=>
   refine aV (by simp [T.kind]) (aV (by simp [T.kind]) (dc rfl ⟨⟨by omega,by simp [T.text];omega⟩,λb8 w9 H z=>?_⟩));exact h _ w9 _ (z▸Ex.alloc w _) (cP.one (cs:=fO 126 0 0 p.text false) rfl (Kb _) H z) (fE.one ⟨0,0,false,rfl⟩)
  | sum p q=>
   have hs:(p.gp&&q.gp&&(p.smp&&q.smp))=true:=hs;simp only [J3]at hs;have δ:=ok.parts p (by simp [T.parts]);have ξ:=ok.parts q (by simp [T.parts]);have e:(T.sum p q).size=p.size+q.size+1:=by simp only [T.size]
   refine aV (by simp [T.kind]) (aV (by simp [T.kind]) (aV (by simp [T.kind]) (dc rfl (db ok λv1 w1 x1 θ=>⟨λw'=>Ex w1 w',λο α=>⟨α▸Ex.drew w1,?_⟩⟩))));have G:Ex w1 ο:=α▸Ex.drew w1;refine θ.C' (i:=0) (x:=p.text) (by omega) rfl (Q:=λn=>_) (θ.C' (i:=1) (x:=q.text) (by omega) rfl (Q:=λn=>_) ?_);have I:=Ex.trans x1 G;refine ih (by omega) δ hs.2.1 (by omega) λv26 w27 xs J V ι=>⟨Ex.trans G J,ih (by omega) ξ hs.2.2 (by omega) λv28 ς ys W κ β=>⟨Ex.trans G (Ex.trans J W),?_⟩⟩
   have Z:=Ex.trans I (Ex.trans J W);have l1:=fJ p;have l2:=fJ q;refine cP.push ((V.ex W).mono I.size) Z.size (κ.src β.len.2) (by omega) (by omega) λv35 μ ho hg hn=>?_
   have υ:Below w.heap.size ς μ:=Below.grown (NH _ _) hg Z.size λk hk=>by have :=(V.block k hk).1;have :=I.size;omega
   refine⟨LJ (Ex.trans G (Ex.trans J W)) ?_,h _ μ _ (Ex.below Z υ) (by rw [show(offs (T.sum p q)).length=(offs p).length+(offs q).length from J'];exact ho) (ι.app β)⟩;exact Below.grown (NH _ _) hg (Ex.trans G (Ex.trans J W)).size λk hk=>by have :=(V.block k hk).1;have :=G.size;omega
  | rep p=>
   have ε:(p.isR&&p.smp)=true:=hs;simp only [J3]at ε;have δ:=ok.parts p (by simp [T.parts]);refine aV (by simp [T.kind]) (aV (by simp [T.kind]) (aV (by simp [T.kind]) (aV (by simp [T.kind]) (dc rfl ⟨⟨by omega,by simp [T.text];omega⟩,?_⟩))));have e:(T.rep p).size=p.size+1:=by simp only [T.size]
   refine ih (t:=p) (by omega) δ ε.2 (by omega) λv w1 xs x1 ho hm=>?_
   cases p<;>try (simp [T.isR]at ε;done)
   rename_i a b q;obtain⟨cs,ys,rfl,ζ,rfl⟩:=hm;have ζ:cs=fO 63 a b q.text false:=ζ;subst ζ;have φ:(offs (T.rcv a b q)).length=1:=rfl;rw [φ]at ho;rcases ho.cell with⟨_,h0,_⟩ | ⟨g,cap,rfl,hg,hc⟩
   ·cases h0
   have χ:=ho.fr (g:=g) rfl;have ψ:=(ho.block g rfl).1;refine⟨_,_,cap,rfl,λx w'=>(x=0/\w'=w1)\/(x=1/\w'=w1.setCell ⟨g,4,none⟩ (.bool true)),λx _=>(1 - x).toNat,.inl ⟨rfl,rfl⟩,λx w' hI=>⟨λη=>?_,λη=>?_⟩⟩
   ·rcases hI with⟨rfl,rfl⟩ | ⟨rfl,_⟩
    ·have c4:w'.cell? ⟨g,4,none⟩=some (.bool false):=hc 4 _ rfl;refine⟨g,0,_,cap,rfl,by omega,by omega,⟨⟨_,c4⟩,χ 4⟩,λw51 ν=>⟨by unfold aj;omega,.inr ⟨rfl,ν⟩,by show((1:Int) - (0+1)).toNat< ((1:Int) - 0).toNat;decide⟩⟩
    ·simp at η
   ·rcases hI with⟨rfl,_⟩ | ⟨_,rfl⟩
    ·simp at η
    ·exact h _ _ _ (Ex.own x1 ψ _) (ho.set rfl (by simp [fO])) (fE.one rfl)
theorem Ci {u:U}(Z:u.size<=60):(gU u).length<=12960000:=by
 have V:u.ths.length<=60:=by have :=wv u;omega
 have G:∀i (h:i< u.ths.length),(offs u.ths[i]).length<=60:=λi h=>by
  have z:=fJ u.ths[i];have h2:=eE u _ (Kg h);omega
 have I:∀i c d p k,k< u.ths.length->(E2 u i c d p k).length<=60:=λi c d p k W=>by
  unfold E2;split
  ·simp
  ·rw [cN W];have z:=im (f:=E3 u i k c d p) (c:=1) (l:=offs u.ths[k]) λx _=>by
    cases x with
    | rcv e' x q s=>unfold E3;simp only;split<;>simp
    | _=>simp [E3]
   have :=G k W;omega
 have J:∀i o,(E1 u i o).length<=3600:=λi o=>by
  cases o with
  | tau p=>simp [E1]
  | rcv=>simp [E1]
  | snd c d p=>
   have z:=im (f:=E2 u i c d p) (c:=60) (l:=List.range u.ths.length) λx H=>I i c d p x (Lz.1 H)
   rw [Mn]at z;show((List.range u.ths.length).flatMap (E2 u i c d p)).length<=3600;omega
 have z:=im (f:=E0 u) (c:=216000) (l:=List.range u.ths.length) λx H=>by
  rw [Lz]at H;have z:=im (f:=E1 u x) (c:=3600) (l:=offs u.ths[x]) λy _=>J x y
  have :=G x H;unfold E0;rw [cN H];omega
 rw [Mn]at z;unfold gU;omega
theorem rC {s:Tx}{l:List Tx}(h:tF s=some l):l.length<=12960000:=by
 unfold tF at h;split at h
 ·rename_i z;have ok:=z.choose_spec.1;generalize z.choose=t at ok h;have G:=ok.size;have H:=(lA ok.su.ae).2.2;unfold Cy at h;split at h
  ·cases h;have I:=EF (a7 (outs (gU (num t e0 0).1)));have h2:=(aO (outs (gU (num t e0 0).1))).length_eq;have J:=Ci (u:=(num t e0 0).1) (by omega);have h4:(outs (gU (num t e0 0).1)).length=(gU (num t e0 0).1).length:=by unfold outs;simp
   omega
  ·cases h
 ·cases h
structure xj (B b r:Nat)(fs:Tx)(w:World)(all:List Tx)(n:Nat)(mm:Value->Option Value)(L:Nat->Prop):Prop where
 lb:B<=b
 lt:b< w.heap.size
 lr:B<=r
 br:b≠r
 f:∀j,w.frozen? ⟨b,j,none⟩=false
 c0:w.cell? ⟨b,0,none⟩=some (.string (ab fs))
 c2:w.cell? ⟨b,2,none⟩=some (.map (some r))
 mp:IsMap w r .string mm
 ml:∀g,L g->B<=g/\g< w.heap.size/\g≠b/\g≠r
 sl:∃v,w.cell? ⟨b,1,none⟩=some v/\Own B w v all/\∀g,v.ownBlock=some g->g≠b/\g≠r/\¬L g
 nx:∀j (h:j< all.length),j< n->∃v l,mm (.string (ab all[j]))=some v/\tF all[j]=some l/\Strs w v l/\∀g,v.ownBlock=some g->L g
section
variable {B b r n:Nat} {fs:Tx} {w w':World} {all:List Tx} {mm:Value->Option Value} {L:Nat->Prop}
theorem xj.ex (h:xj B b r fs w all n mm L)(x:Ex w w'):xj B b r fs w' all n mm L:=by
 obtain⟨v,G,h2,H⟩:=h.sl;have s:=x.size;refine⟨h.lb,by have :=h.lt;omega,h.lr,h.br,λj=>by rw [Lr x h.lt];exact h.f j,by rw [x.cell (a:=⟨b,0,none⟩) h.lt];exact h.c0,by rw [x.cell (a:=⟨b,2,none⟩) h.lt];exact h.c2,aU h.mp (x.block r (bX h.mp)),λg z=>⟨(h.ml g z).1,by have :=(h.ml g z).2.1;omega,(h.ml g z).2.2⟩,⟨v,by rw [x.cell (a:=⟨b,1,none⟩) h.lt];exact G,h2.ex x,H⟩,λj I J=>?_⟩;obtain⟨v',l,h4,h5,V,W⟩:=h.nx j I J;exact⟨v',l,h4,h5,V.ex x,W⟩
theorem Kp.jI (k:bc w w' r):Kp w w' λg=>g=r:=⟨k.os,k.tape,k.output,Nat.le_of_eq k.size.symm,λg _ z=>k.block g z⟩
theorem tG {v:Value}{g off m cap:Nat}(h:v= .slice (some ⟨g,off,none⟩) m cap):v.ownBlock=some g:=by rw [h];rfl
theorem xj.aF (h:xj B b r fs w all n mm L)(hB:B<=w.heap.size){w1:World}(x:Ex w w1)(hn:n< all.length){v:Value}{l:List Tx}(hl:tF all[n]=some l)(hm:IsMap w' r .string (bK mm (.string (ab all[n])) v))(k:bc w1 w' r)(W:Strs w1 v l)(H:∀g,v.ownBlock=some g->w.heap.size<=g):
  xj B b r fs w' all (n+1) (bK mm (.string (ab all[n])) v) λg=>L g\/v.ownBlock=some g:=by
 have G:=h.ex x;have ζ:=h.lt;have hr:=bX h.mp;have kp:=Kp.jI k;have eb:=k.block b h.br;have α:∀g,v.ownBlock=some g->g< w1.heap.size:=λg z=>by
  rcases W with⟨e,_⟩ | ⟨b',off,cap,e,h2,_⟩
  ·rw [e]at z;cases z
  ·rw [e]at z;cases z;exact h2
 obtain⟨vo,k1,k2,Z⟩:=G.sl;obtain⟨β,γ,δ,η⟩:=h.sl;have ε:vo=β:=by
  have :=x.cell (a:=⟨b,1,none⟩) h.lt;rw [k1,γ]at this;exact KS this
 subst ε;refine⟨h.lb,by have :=k.size;have :=G.lt;omega,h.lr,h.br,λj=>by rw [KC (w:=w1) eb];exact G.f j,by rw [J1 (w:=w1) eb];exact G.c0,by rw [J1 (w:=w1) eb];exact G.c2,hm,λg z=>?_,⟨vo,by rw [J1 (w:=w1) eb];exact k1,k2.kp kp λg z=>(Z g z).2.1,λg z=>⟨(Z g z).1,(Z g z).2.1,λe=>e.elim (Z g z).2.2 λe=>?_⟩⟩,λj hj θ=>?_⟩
 ·rcases z with z | z
  ·have :=G.ml g z;exact⟨this.1,by have :=k.size;omega,this.2.2⟩
  ·have h2:=H g z;have h3:=α g z;exact⟨by omega,by have :=k.size;omega,by omega,by omega⟩
 ·have h2:=H g e;have h3:=δ.block g z;omega
 ·have I:∀{v':Value} {l':List Tx},Strs w1 v' l'->(∀g,v'.ownBlock=some g->g≠r)->Strs w' v' l':=λW H=>W.kp kp λb' off n' cap e J=>H b' (tG e) J
  by_cases e:all[j]=all[n]
  ·refine⟨v,l,by rw [e];unfold bK;simp,by rw [e];exact hl,I W λg z=>by have :=H g z;omega,λg z=> .inr z⟩
  ·have V:j< n:=by
    have:j≠n:=λJ=>e (by subst J;rfl)
    omega
   obtain⟨v',l',h4,h5,h6,h7⟩:=G.nx j hj V;refine⟨v',l',?_,h5,I h6 λg z=>(G.ml g (h7 g z)).2.2.2,λg z=> .inl (h7 g z)⟩;unfold bK;rw [Ko]
   ·exact h4
   ·intro J;exact e (eg (MQ J))
theorem xj.app (h:xj B b r fs w all n mm L)(hn:n<=all.length)(hB:B<=w.heap.size){v:Value}(hv:w.cell? ⟨b,1,none⟩=some v){s:Tx}{w1 w2:World}(x:Ex w w1){v':Value}(ho:Own B w2 v' (all++[s]))(G:w1.grownBy w2 v.ownBlock)(α:∀g,v'.ownBlock=some g->v.ownBlock=some g\/w1.heap.size<=g):
  ((∃u,w2.cell? ⟨b,1,none⟩=some u)/\w2.frozen? ⟨b,1,none⟩=false)/\∀w',w'=w2.setCell ⟨b,1,none⟩ v'->xj B b r fs w' (all++[s]) n mm L/\Below B w w':=by
 have z:=h.ex x;obtain⟨vo,k1,k2,W⟩:=z.sl;have β:vo=v:=by
  have :=x.cell (a:=⟨b,1,none⟩) h.lt;rw [k1,hv]at this;exact KS this
 subst β;have k:Kp w1 w2 λg=>vo.ownBlock=some g:=Kp.aQ G λ _ h=>h
 have s1:=x.size;have γ:=z.lt;have Z:=k.block b γ λe=>(W b e).1 rfl
 have c1:w2.cell? ⟨b,1,none⟩=some vo:=by rw [J1 (w:=w1) Z];exact k1
 have f2:∀j,w2.frozen? ⟨b,j,none⟩=false:=λj=>by rw [KC (w:=w1) Z];exact z.f j
 refine⟨⟨⟨_,c1⟩,f2 1⟩,λw' H=>?_⟩;have kr:Kr b w2 w':=H▸Kr.set w2 1 _;have sk:=k.size;have sr:=kr.size;have δ:=bX z.mp;have I:∀g,v'.ownBlock=some g->g≠b/\g≠r/\¬L g:=λg G=>(α g G).elim (W g) λe=>⟨by omega,by omega,λhL=>by have :=(z.ml g hL).2.1;omega⟩
 have ε:∀{g},g≠b->g< w1.heap.size->vo.ownBlock≠some g->w'.heap[g]?=w1.heap[g]?:=λ{g} h3 h4 h5=>(kr.block g (by omega) h3).trans (k.block g h4 h5)
 refine⟨⟨h.lb,by omega,h.lr,h.br,λj=>by rw [H,Kt];exact f2 j,?_,?_,aU z.mp (ε h.br.symm δ λe=>(W r e).2.1 rfl),λg G=>⟨(z.ml g G).1,by have :=(z.ml g G).2.1;omega,(z.ml g G).2.2⟩,⟨v',by rw [H];exact Kj _ _ _ c1,ho.kp kr λg G=>(I g G).1,I⟩,λj hj ζ=>?_⟩,?_⟩
 ·rw [H,J7 _ _ _ _ (by simp),J1 (w:=w1) Z];exact z.c0
 ·rw [H,J7 _ _ _ _ (by simp),J1 (w:=w1) Z];exact z.c2
 ·have J:j< all.length:=by omega
  rw [MI J];obtain⟨v2,l2,h4,h5,h6,h7⟩:=z.nx j J ζ;have kk:Kp w1 w' λg=>vo.ownBlock=some g\/g=b:=Kp.trans (Kp.mono (λ _ h=> .inl h) k) kr λ _ _ h=> .inr h
  exact⟨v2,l2,h4,h5,h6.kp kk λb' off n' cap e V=>V.elim (λV=>(W b' V).2.2 (h7 b' (tG e))) λV=>(z.ml b' (h7 b' (tG e))).2.2.1 V,h7⟩
 ·have b1:Below B w w1:=M9 x hB;have b2:Below B w1 w2:=Kp.below k (by omega) λg G e=>by have :=(k2.block g e).1;omega
  have b3:Below B w2 w':=Kp.below kr (by omega) λg G e=>by have :=h.lb;omega
  exact LJ (LJ b1 b2) b3
end
def Gr (w0:World)(o0:Value)(w:World)(o:Value):Prop:=Kp w0 w (λg=>o0.ownBlock=some g)/\∀g,o.ownBlock=some g->o0.ownBlock=some g\/w0.heap.size<=g
theorem Gr.refl (w:World)(o:Value):Gr w o w o:=⟨Kp.ah (Ex.refl w) _,λ _ h=> .inl h⟩
theorem Gr.size {w0 w:World}{o0 o:Value}(h:Gr w0 o0 w o):w0.heap.size<=w.heap.size:=h.1.size
theorem Gr.trans {a b c:World}{z G H:Value}(h:Gr a z b G)(k:Gr b G c H):Gr a z c H:=
 ⟨Kp.trans h.1 k.1 λg I e=>(h.2 g e).resolve_right λJ=>by omega,λg I=>(k.2 g I).elim (λe=>h.2 g e) λe=> .inr (K5 h.1.size e)⟩
theorem Gr.ex {w0 w w':World}{o0 o:Value}(h:Gr w0 o0 w o)(x:Ex w w'):Gr w0 o0 w' o:=h.trans ⟨Kp.ah x _,λ _ e=> .inl e⟩
theorem Gr.grown {w0 w w':World}{o0 o z:Value}(h:Gr w0 o0 w o)(G:w.grownBy w' o.ownBlock)(H:∀g,z.ownBlock=some g->o.ownBlock=some g\/w.heap.size<=g):Gr w0 o0 w' z:=
 h.trans ⟨Kp.aQ G λ _ e=>e,H⟩
theorem Gr.nil {w0 w:World}{o0 o:Value}(h:Gr w0 o0 w o)(z:o0.ownBlock=none):Ex w0 w:=by
 obtain⟨k,_⟩:=h;exact⟨k.os,k.tape,k.output,k.size,λg G=>k.block g G (by rw [z];simp)⟩
structure oh (B:Nat)(w0:World)(o0:Value)(fine:Bool)(out:Value)(w:World)(acc:List U):Prop where
 gr:Gr w0 o0 w out
 ow:Own B w out (outs acc)
 fi:fine=jv acc
 hB:B<=w0.heap.size
section
variable {B:Nat} {w0 w w':World} {o0 out:Value} {fine:Bool} {acc:List U}
theorem oh.ex (h:oh B w0 o0 fine out w acc)(x:Ex w w'):oh B w0 o0 fine out w' acc:=⟨h.gr.ex x,h.ow.ex x,h.fi,h.hB⟩
theorem oh.start (h:oh B w0 o0 fine out w acc):oh B w out fine out w acc:=⟨Gr.refl _ _,h.ow,h.fi,K5 h.hB h.gr.size⟩
theorem oh.back {w1:World}{G H:Value}{f2:Bool}{z:List U}(h:oh B w0 o0 fine G w1 acc)(k:oh B w1 G f2 H w z):oh B w0 o0 f2 H w z:=⟨h.gr.trans k.gr,k.ow,k.fi,h.hB⟩
theorem oh.lt (h:oh B w0 o0 fine out w acc):∀g,out.ownBlock=some g->g< w.heap.size:=λg z=>(h.ow.block g z).2
theorem yq (l:List U):(outs l).length=l.length:=by unfold outs;simp
theorem G' (h:oh B w0 o0 fine out w acc)(hl:acc.length<=1000000000){vv:U}{s:ay}{q:Bool}(hs:s=(kC vv).getD [])(hq:q=(kC vv).isSome){K:Bool->Value->World->Prop}(hK:∀fn v' w',oh B w0 o0 fn v' w' (acc++[vv])->K fn v' w'):
  ∃J:Bool->ay->World->Prop,((fine=true->J q s w)/\(fine=false->J false s w))/\∀(fn:Bool) (nx:ay) (I:World),J fn nx I->∀(δ:Nat) (G:World),δ=Array.size (World.heap I)->G=World.alloc I (Obj.cells #[(Value.string (ab nx))] 9)->
   ∃(z Z α:Nat) (β H:List Value),World.ownsRow G z 9 1 out Z β/\z<=Array.size (World.heap G)/\dW G (Value.slice (some ⟨δ,0,none⟩) 1 1) α 1 H/\(Z+α<=maxLen/\(Z+α)* 16<=140737488355328)/\
   ∀(V:Value) (W:World),World.ownsRow W z 9 1 V (Z+α) (β++H)->World.grownBy G W (Value.ownBlock out)->(∀b:Nat,Value.ownBlock V=some b->Value.ownBlock out=some b\/Array.size (World.heap G)<=b)->K fn V W:=by
 have e2:jv (acc++[vv])=(fine&&q):=by
  rw [uB,hq,h.fi];simp [jv]
 refine⟨λfn nx w'=>fn=jv (acc++[vv])/\nx=s/\w'=w,⟨λhf=>⟨by rw [e2,hf,LU],rfl,rfl⟩,λhf=>⟨by rw [e2,hf,NC],rfl,rfl⟩⟩,λfn nx I hJ δ G ζ γ=>?_⟩;obtain⟨η,rfl,rfl⟩:=hJ;have ε:Ex I G:=γ▸Ex.alloc I _;refine Own.push (h.ow.ex ε) (K5 h.hB (K5 h.gr.size ε.size)) (Strs.one ζ γ) (by rw [yq];simp only [J0,Kh];omega) λV W θ ho hg hn=>hK fn V W ⟨(h.gr.ex ε).grown hg hn,?_,η,h.hB⟩
 rw [yS,show outs [vv]=[nx] by rw [hs];rfl];exact ho
end
theorem Di {f:Tx}{z:List P}{v:Value}{w:World}{u:U}(G:Strs w v (z.map T.text))(H:dq (z.map T.text)<=1000000000)(d:ph 0 (resL f (parL z)) σ0 u){R:ay->Bool->World->Prop}
  (h:∀s q w',Ex w w'->s=(kC u).getD []->q=(kC u).isSome->R s q w'):Calls Tryz.prog 151 #[.string (ab f),v] w (ax [.s,.b] R):=
 Dy G H d λw' x=>⟨λs e=>h s true w' x (by rw [e];rfl) (by rw [e];rfl),λe=>h [] false w' x (by rw [e];rfl) (by rw [e];rfl)⟩
theorem Bm {c:Nat}:∀{l:List Tx},(∀s∈l,s.length<=c)->dq l<=l.length* (c+3)
 | [],_=>by simp [dq]
 | s::l,h=>by
  have G:=h s (by simp);have h2:=Bm (c:=c) (l:=l) λx z=>h x (by simp [z])
  rw [dR,J0,Nat.succ_mul];omega
theorem wm {X:Type}(l:List X)(i j:Nat):(wo l i j).length<=l.length:=by
 unfold wo;rw [Kz];exact K5 (Mf _ _) (by simp)
theorem DH {X Y:Type}(f:X->Y)(l:List X)(i j:Nat):wo (l.map f) i j=(wo l i j).map f:=by
 rw [zY,zY,xe]
theorem lens {u:U}(γ:u.size<=60):u.ths.length<=60/\(∀i (h:i< u.ths.length),(offs u.ths[i]).length<=60)/\(∀i k c d p (l:List (Off Nat)),l.length<=60->(l.flatMap (E3 u i k c d p)).length<=60)/\(∀i c d p k,k<=u.ths.length->((List.range k).flatMap (E2 u i c d p)).length<=3600)/\
  (∀i j (h:i< u.ths.length),(((offs u.ths[i]).take j).flatMap (E1 u i)).length<=216000)/\∀i,i<=u.ths.length->((List.range i).flatMap (E0 u)).length<=12960000:=by
 have J:u.ths.length<=60:=by have :=wv u;omega
 have H:∀i (h:i< u.ths.length),(offs u.ths[i]).length<=60:=λi h=>by
  have I:=fJ u.ths[i];have h2:=eE u _ (Kg h);omega
 have V:∀i k c d p (l:List (Off Nat)),l.length<=60->(l.flatMap (E3 u i k c d p)).length<=60:=λi k c d p l hl=>by
  have I:=im (f:=E3 u i k c d p) (c:=1) (l:=l) λx _=>by
   cases x with
   | rcv e' x q s=>unfold E3;simp only;split<;>simp
   | _=>simp [E3]
  omega
 have α:∀i c d p k,k< u.ths.length->(E2 u i c d p k).length<=60:=λi c d p k hk=>by
  unfold E2;split
  ·simp
  ·rw [cN hk];exact V i k c d p _ (H k hk)
 have z:∀i c d p k,k<=u.ths.length->((List.range k).flatMap (E2 u i c d p)).length<=3600:=λi c d p k hk=>by
  have I:=im (f:=E2 u i c d p) (c:=60) (l:=List.range k) λx Z=>α i c d p x (by have :=Lz.1 Z;omega)
  rw [Mn]at I;omega
 have β:∀i o,(E1 u i o).length<=3600:=λi o=>by
  cases o with
  | tau p=>simp [E1]
  | rcv=>simp [E1]
  | snd c d p=>exact z i c d p _ (Kb _)
 have G:∀i j (h:i< u.ths.length),(((offs u.ths[i]).take j).flatMap (E1 u i)).length<=216000:=λi j h=>by
  have I:=im (f:=E1 u i) (c:=3600) (l:=(offs u.ths[i]).take j) λx _=>β i x
  rw [KP]at I;have :=H i h;omega
 refine⟨J,H,V,z,G,λi hi=>?_⟩;have I:=im (f:=E0 u) (c:=216000) (l:=List.range i) λx Z=>by
  have Z:=Lz.1 Z;have W:x< u.ths.length:=by omega
  have :=G x (offs u.ths[x]).length W;rw [KA]at this;unfold E0;rw [cN W];exact this
 rw [Mn]at I;omega
abbrev tS:Nat:=9
def BT (w:World)(v src:Value)(K:Value->World->Prop):Prop:=
 ∃(base n m:Nat) (xs news:List Value),World.ownsRow w base tS 1 v n xs/\base<=Array.size (World.heap w)/\dW w src m 1 news/\(n+m<=maxLen/\(n+m)* 16<=140737488355328)/\
  ∀(v':Value) (w':World),World.ownsRow w' base tS 1 v' (n+m) (xs++news)->World.grownBy w w' (Value.ownBlock v)->(∀b:Nat,Value.ownBlock v'=some b->Value.ownBlock v=some b\/Array.size (World.heap w)<=b)->K v' w'
theorem AP {B:Nat}{w:World}{v x:Value}{l m:List Tx}(h:Own B w v l)(hB:B<=w.heap.size)(z:Strs w x m)(G:l.length+m.length<=1099511627776){K:Value->World->Prop}(H:∀v' w',Below B w w'->Own B w' v' (l++m)->K v' w'):BT w v x K:=
 Own.push h hB z G λv' w' b o _ _=>H v' w' b o
def Gk (w:World)(out:Value)(fine:Bool)(s:ay)(q:Bool)(K:Bool->Value->World->Prop):Prop:=
 ∃J:Bool->ay->World->Prop,((fine=true->J q s w)/\(fine=false->J false s w))/\∀(fn:Bool) (nx:ay) (z:World),J fn nx z->∀(G:Nat) (H:World),G=Array.size (World.heap z)->H=World.alloc z (Obj.cells #[(Value.string (ab nx))] tS)->BT H out (Value.slice (some ⟨G,0,none⟩) 1 1) (K fn)
theorem IQ {z:List P}(h:∀q∈z,q.aH<=300)(G:z.length<=63):dq (z.map T.text)<=1000000000:=by
 have H:=Bm (c:=300) (l:=z.map T.text) λs I=>by
  obtain⟨q,J,rfl⟩:=KQ.1 I;rw [aY];exact h q J
 rw [Kz]at H;have :=Nb G (Kb 303);omega
theorem wZ {t:P}(ok:mA t):t.ths.length<=60/\∀q∈t.ths,q.size<=60/\q.aH<=300:=by
 have H:=ok.size;have G:∀t:P,t.ths.length<=t.size/\∀q∈t.ths,q.size<=t.size:=by
  intro t
  induction t with
  | nil=>simp [T.ths]
  | par p q _ z=>
   refine⟨by have :=z.1;simp only [T.ths,J0,T.size];omega,λr hr=>?_⟩;rcases Ks.1 hr with rfl | hr
   ·simp only [T.size];omega
   ·have :=z.2 r hr;simp only [T.size];omega
  | res x p z=>exact⟨by have :=z.1;simp only [T.ths,T.size];omega,λr hr=>by have :=z.2 r hr;simp only [T.size];omega⟩
  | _=>simp [T.ths,T.size]
 refine⟨by have :=(G t).1;omega,λq I=>?_⟩;have h2:=(G t).2 q I;have J:=dP q;omega
theorem Ee {w w':World}{b:Nat}{x y:Tx}(hb:b=w.heap.size)(h:w'=w.alloc (.cells #[.string (ab x),.string (ab y)] tS)):Strs w' (.slice (some ⟨b,0,none⟩) 2 2) [x,y]:=by
 subst hb h;refine .inr ⟨_,0,2,rfl,by rw [size_alloc];omega,λi z G=>?_⟩;rw [KF];refine aa ?_
 match i,G with
 | 0,G=>simp at G|-;exact G▸rfl
 | 1,G=>simp at G|-;exact G▸rfl
 | i+2,G=>simp at G
section
variable {t:P} {u:U} {w:World} {v5 out:Value} {b1 b2 B:Nat} {fine:Bool} {acc:List U}
theorem Ib (ok:mA t)(su:SU t u){i:Nat}(hi:i< t.ths.length)(hi':i< u.ths.length){p:P}{p':U}(ho:Off.tau p∈offs t.ths[i])(ho':Off.tau p'∈offs u.ths[i])(hae:qM UInt8.toNat (λz=>(asg u.frL t.frL ρ0 z).toNat) (.tau p) (.tau p'))
  (hv:Strs w v5 (t.ths.map T.text)) (hb:b1< w.heap.size) (hc:w.cell? ⟨b1,3,none⟩=some (.string (ab p.text))) (hI:oh B w out fine out w acc) (hl:acc.length<=1000000000) {J:Bool->Value->World->Prop} (hJ:∀fn v' w',oh B w out fn v' w' (acc++[It u i p'])->J fn v' w'):
  ∃G:World->Prop,∀H:World,H=World.drew w->G H/\∃ζ:ay,(∀w',G w'->World.cell? w' ⟨b1,3,none⟩=some (Value.string (ab ζ)))/\
   (Calls Tryz.prog 152 #[v5,(Value.int IntKind.i64 i),(Value.int IntKind.i64 i)] H (ax [.v] fun(v49:Value) (W:World)=>G W/\∀(η:Nat) (α:World),η=Array.size (World.heap W)->α=World.alloc W (Obj.cells #[(Value.string (ab ζ))] tS)->G α/\BT α v49 (Value.slice (some ⟨η,0,none⟩) 1 1) λν θ=>G θ/\Calls Tryz.prog 151 #[(Value.string (ab t.frL)),ν] θ (ax [.s,.b] fun(s60:ay) (q61:Bool) (ξ:World)=>G ξ/\Gk ξ out fine s60 q61 J)))/\
   (∀(ι:Nat) (β:World),ι=Array.size (World.heap H)->β=World.alloc H (Obj.cells #[(Value.string (ab ζ))] tS)->G β/\Calls Tryz.prog 152 #[v5,(Value.int IntKind.i64 i),(Value.int IntKind.i64 i)] β (ax [.v] fun(ο:Value) (κ:World)=>G κ/\BT κ ο (Value.slice (some ⟨ι,0,none⟩) 1 1) λv85 μ=>G μ/\Calls Tryz.prog 151 #[(Value.string (ab t.frL)),v85] μ (ax [.s,.b] fun(s87:ay) (q88:Bool) (ς:World)=>G ς/\Gk ς out fine s87 q88 J))):=by
 obtain⟨hn,υ⟩:=wZ ok;have φ:=Kg hi;have hpl:p.aH<=300:=by
  have h1:=(aZ (su.smpP _ φ) _ ho).1.size;have h2:=(υ _ φ).1;have h3:=dP p;simp only [Off.tm,T.size]at h1;omega
 have hwl:=wm t.ths i i;have hbound:dq ((wo t.ths i i++[p]).map T.text)<=1000000000:=by
  refine IQ (λq hq=>?_) (by rw [J',List.length_singleton];omega);rcases Ke.1 hq with hq | hq
  ·exact(υ _ (lR hq)).2
  ·cases Kf.1 hq;exact hpl
 have den:=(Bk ok su hi hi' ho ho' hae).1;have e:wo (t.ths.map T.text) i i++[p.text]=(wo t.ths i i++[p]).map T.text:=by rw [DH,K3];rfl
 have χ:(wo (t.ths.map T.text) i i).length+[p.text].length<=1099511627776:=by
  have :=wm (t.ths.map T.text) i i;rw [Kz]at this;simp only [J0,Kh];omega
 have mk:∀{v':Value} {w':World},Ex w w'->Strs w' v' ((wo t.ths i i++[p]).map T.text)->Calls Tryz.prog 151 #[(Value.string (ab t.frL)),v'] w' (ax [.s,.b] fun(s:ay) (q:Bool) (w2:World)=>Ex w w2/\Gk w2 out fine s q J):=λx hs=>
  Di hs hbound den λs q w2 x2 h1 h2=>⟨Ex.trans x x2,G' (hI.ex (Ex.trans x x2)) hl h1 h2 hJ⟩
 refine⟨λw'=>Ex w w',λH ψ=>?_⟩;have Z:Ex w H:=ψ▸Ex.drew w;refine⟨Z,p.text,λw' x=>by rw [x.cell (a:=⟨b1,3,none⟩) hb];exact hc,?_,λι β ω δ=>?_⟩
 ·refine lW (hv.ex Z) (by rw [Kz];omega) λv49 W x50 o50=>⟨Ex.trans Z x50,λη α hb51 ε=>?_⟩
  have x52:Ex W α:=ε▸Ex.alloc W _;have I:=Ex.trans x50 x52;refine⟨Ex.trans Z I,AP (o50.ex x52) I.size (Strs.one hb51 ε) χ λν θ b59 o59=>?_⟩;have x59:=Ex.trans Z (Ex.below I b59);exact⟨x59,mk x59 (e▸o59.strs)⟩
 ·have x77:Ex H β:=δ▸Ex.alloc H _;have V:=Ex.trans Z x77;refine⟨V,lW (hv.ex V) (by rw [Kz];omega) λο κ γ o79=>⟨Ex.trans V γ,AP o79 γ.size ((Strs.one ω δ).ex γ) χ λv85 μ b86 o86=>?_⟩⟩;have x86:=Ex.trans V (Ex.below γ b86);exact⟨x86,mk x86 (e▸o86.strs)⟩
theorem E9 (ok:mA t)(su:SU t u){i k:Nat}(hi:i< t.ths.length)(hi':i< u.ths.length)(hk:k< t.ths.length)(φ:k< u.ths.length)(hik:i≠k){a b:UInt8}{p:P}{c d:Nat}{p':U}(ho:Off.snd a b p∈offs t.ths[i])(ho':Off.snd c d p'∈offs u.ths[i])
  (hae:qM UInt8.toNat (λz=>(asg u.frL t.frL ρ0 z).toNat) (.snd a b p) (.snd c d p')) {e x:UInt8} {q:P} {s:Bool} {e' x':Nat} {q':U} {s':Bool} (hr:Off.rcv e x q s∈offs t.ths[k]) (hr':Off.rcv e' x' q' s'∈offs u.ths[k])
  (har:qM UInt8.toNat (λz=>(asg u.frL t.frL ρ0 z).toNat) (.rcv e x q s) (.rcv e' x' q' s'))
  (hv:Strs w v5 (t.ths.map T.text)) (hb:b1< w.heap.size) (hb2:b2< w.heap.size) (hc2:w.cell? ⟨b1,2,none⟩=some (.int .u8 b.toNat)) (hc3:w.cell? ⟨b1,3,none⟩=some (.string (ab p.text))) (hd2:w.cell? ⟨b2,2,none⟩=some (.int .u8 x.toNat)) (hd3:w.cell? ⟨b2,3,none⟩=some (.string (ab q.text))) (hd4:w.cell? ⟨b2,4,none⟩=some (.bool s))
  (hI:oh B w out fine out w acc) (hl:acc.length<=1000000000) {J:Bool->Value->World->Prop} (hJ:∀fn v' w',oh B w out fn v' w' (acc++[Cx u i k p' (q'.map (Ff (NN u) q' x' d)) s'])->J fn v' w'):
  ∃G:World->Prop,∀α:World,α=World.drew w->G α/\∃ψ:ay,(∀w',G w'->World.cell? w' ⟨b1,3,none⟩=some (Value.string (ab ψ)))/\∃ω:ay,(∀w',G w'->World.cell? w' ⟨b2,3,none⟩=some (Value.string (ab ω)))/\∃c151:UInt8,(∀w',G w'->World.cell? w' ⟨b2,2,none⟩=some (Value.int IntKind.u8 (UInt8.toNat c151)))/\∃c152:UInt8,(∀w',G w'->World.cell? w' ⟨b1,2,none⟩=some (Value.int IntKind.u8 (UInt8.toNat c152)))/\
   Calls Tryz.prog 152 #[v5,(Value.int IntKind.i64 i),(Value.int IntKind.i64 k)] α (ax [.v] fun(v153:Value) (θ:World)=>G θ/\Calls Tryz.prog 153 #[(Value.string (ab ω)),(Value.int IntKind.u8 (UInt8.toNat c151)),(Value.int IntKind.u8 (UInt8.toNat c152))] θ (ax [.s] fun(s155:ay) (W:World)=>G W/\∀(ζ:Nat) (Z:World),ζ=Array.size (World.heap W)->Z=World.alloc W (Obj.cells #[(Value.string (ab ψ)),(Value.string (ab s155))] tS)->G Z/\BT Z v153 (Value.slice (some ⟨ζ,0,none⟩) 2 2) λv164 H=>G H/\
    ∃ι:Value->World->Prop,(∃κ:Bool,World.cell? H ⟨b2,4,none⟩=some (Value.bool κ)/\(κ=true->∀(μ:Nat) (η:World),μ=Array.size (World.heap H)->η=World.alloc H (Obj.cells #[(Value.string (ab t.ths[k].text))] tS)->BT η v164 (Value.slice (some ⟨μ,0,none⟩) 1 1) ι)/\(κ=false->ι (v164) H))/\
    ∀(β:Value) (ν:World),ι β ν->Calls Tryz.prog 151 #[(Value.string (ab t.frL)),β] ν (ax [.s,.b] fun(s179:ay) (q180:Bool) (w181:World)=>Gk w181 out fine s179 q180 J))):=by
 obtain⟨hn,χ⟩:=wZ ok;have hmP:=Kg hi;have hmK:=Kg hk;have hmU:=Kg φ;obtain⟨sP,_⟩:=aZ (su.smpP _ hmP) _ ho;obtain⟨sK,_⟩:=aZ (su.smpP _ hmK) _ hr;have hpl:p.aH<=300:=by
  have h1:=sP.size;have h2:=(χ _ hmP).1;have h3:=dP p;simp only [Off.tm,T.size]at h1;omega
 have hqs:q.size<=60:=by
  have h1:=sK.size;have h2:=(χ _ hmK).1;simp only [Off.tm,T.size]at h1;omega
 obtain⟨hq1,hq2,hq3⟩:=IH ok su hk hr;have alb:=(sP.al _ (su.al _ hmP)).2.1;have hwl:=wm t.ths i k;have ew:wo (t.ths.map T.text) i k=(wo t.ths i k).map T.text:=DH _ _ _ _;have uqr:=su.lV φ (aZ (su.smp _ hmU) _ hr').1 (gh _ hr');have hss:s=s':=har.2.2;have umc:Cx u i k p' (q'.map (Ff (NN u) q' x' d)) s'=resL u.frL (parL (bL u.ths i k p' (q'.map (Ff (NN u) q' x' d)) s' u.ths[k])):=by unfold Cx;rw [cN φ]
 refine⟨λw'=>Ex w w',λα hw148=>?_⟩;have I:Ex w α:=hw148▸Ex.drew w;refine⟨I,p.text,λw' x=>by rw [x.cell (a:=⟨b1,3,none⟩) hb];exact hc3,q.text,λw' x=>by rw [x.cell (a:=⟨b2,3,none⟩) hb2];exact hd3,x,λw' x=>by rw [x.cell (a:=⟨b2,2,none⟩) hb2];exact hd2,b,λw' x=>by rw [x.cell (a:=⟨b1,2,none⟩) hb];exact hc2,?_⟩;refine lW (hv.ex I) (by rw [Kz];omega) λv153 θ ξ o154=>⟨Ex.trans I ξ,?_⟩
 refine gQ q.size (Kb _) hq1 hq2 hq3 (iQ alb) (zh alb 0) λr W ο hr2=>⟨Ex.trans (Ex.trans I ξ) ο,λζ Z hb157 ς=>?_⟩
 have x158:Ex W Z:=ς▸Ex.alloc W _;have V:=Ex.trans ξ (Ex.trans ο x158);have x0158:=Ex.trans I V;have hrl:r.aH<=300:=by
  have h1:=(xJ hr2.shp).2.2;have h2:=dP q;omega
 have den:=(yC ok su hi hi' hk φ hik ho ho' hae hr hr' har (zD (NN u) d uqr.lL) su.bound (by unfold NN;omega) hr2).1;rw [<-umc]at den;have hlw:(wo (t.ths.map T.text) i k).length<=60:=by
  have :=wm (t.ths.map T.text) i k;rw [Kz]at this;omega
 have two:Strs Z (.slice (some ⟨ζ,0,none⟩) 2 2) [p.text,r.text]:=Ee hb157 ς;refine⟨x0158,AP (o154.ex (Ex.trans ο x158)) V.size two (by simp only [J0,Kh];omega) λv164 H b165 o165=>?_⟩;have γ:=Ex.below V b165;have ε:=Ex.trans I γ;refine⟨ε,λv' w'=>Ex w w'/\Strs w' v' ((bL t.ths i k p r s t.ths[k]).map T.text),⟨s,by rw [ε.cell (a:=⟨b2,4,none⟩) hb2];exact hd4,λhs μ η hb168 υ=>?_,λhs=>⟨ε,?_⟩⟩,λv177 ν hJ178=>?_⟩
 ·have x169:Ex H η:=υ▸Ex.alloc H _;have δ:=Ex.trans γ x169;refine AP (o165.ex x169) δ.size (Strs.one hb168 υ) (by simp only [J',J0,Kh];omega) λv175 w176 b176 o176=>⟨Ex.trans I (Ex.below δ b176),?_⟩
  have h:=o176.strs;rw [ew]at h;unfold bL;rw [hs];simpa using h
 ·have h:=o165.strs;rw [ew]at h;unfold bL;rw [hs];simpa using h
 ·obtain⟨x178,hs178⟩:=hJ178;refine Di hs178 (IQ (λz hz=>?_) ?_) den λsx qx w2 x2 h1 h2=>G' (hI.ex (Ex.trans x178 x2)) hl h1 h2 hJ
  ·unfold bL at hz;rcases Ke.1 hz with hz | hz
   ·rcases Ke.1 hz with hz | hz
    ·exact(χ _ (lR hz)).2
    ·rcases Ks.1 hz with rfl | hz
     ·exact hpl
     ·cases Kf.1 hz;exact hrl
   ·cases s
    ·cases hz
    ·cases Kf.1 hz;exact(χ _ hmK).2
  ·unfold bL;simp only [J',J0,Kh];split<;>simp only [J0,Kh]<;>omega
end
theorem sA {e B:Nat}{w:World}{v:Value}{os:List (Off UInt8)}{xs:List Value}(z:cP e B w v os.length xs)(hm:fE os xs){j:Nat}(G:j< os.length):∃(g cap:Nat) (cs:List Value),v= .slice (some ⟨g,0,none⟩) os.length cap/\uy os[j] cs/\∀i u,cs[i]?=some u->∀off,off=j* 5+i->i< 5->w.cell? ⟨g,off,none⟩=some u:=by
 obtain⟨cs,H,h2⟩:=hm.at G;rcases z.cell with⟨_,J,_⟩ | ⟨g,cap,rfl,_,hc⟩
 ·omega
 ·refine⟨g,cap,cs,rfl,H,λi u hu off he I=>?_⟩;have :=hc (j* 5+i) u (by rw [h2 i I];exact hu);rw [he];rwa [KF]at this
theorem Ik {w w1:World}{g e:Nat}{cs:List Value}{c0:Array Value}(W:cs.length=5)(Z:c0.size=5)(I:g=w.heap.size)(z:w1=w.alloc (.cells c0 e)):
  (∀j,j< 5->(∃u,w1.cell? ⟨g,0+j,none⟩=some u)/\w1.frozen? ⟨g,0+j,none⟩=false)/\∀w2,w2=World.setCells w1 g 0 cs->Ex w w2/\g< w2.heap.size/\∀j,j< 5->w2.cell? ⟨g,j,none⟩=cs[j]?:=by
 have hc:∀j,j< 5->∃u,w1.cell? ⟨g,0+j,none⟩=some u:=λj G=>by
  rw [z,I];have:∃u,c0[0+j]?=some u:=by
   rw [KF];exact⟨_,Array.getElem?_eq_getElem (by omega)⟩
  obtain⟨u,hu⟩:=this;exact⟨u,aa hu⟩
 refine⟨λj G=>⟨hc j G,by rw [z,I];exact aG _ _ _ _⟩,λw2 H=>?_⟩;obtain⟨k,_,_,J⟩:=aX (b:=g) cs w1 0;rw [<-H]at k J;have V:Ex w w1:=z▸Ex.alloc _ _;have s1:w1.heap.size=w.heap.size+1:=by rw [z,size_alloc]
 have s2:=k.size;refine⟨Ex.below V (Kp.below k V.size λb hb e=>by omega),by omega,λj G=>?_⟩;have :=J j (λi hi=>hc i (by omega)) (by omega)
 rwa [KF]at this
theorem tz {k a b:UInt8}{s:Tx}{q:Bool}:(fO k a b s q).all oneV=true:=rfl
theorem Gr.cell {w0 w:World}{o0 o:Value}(h:Gr w0 o0 w o){a:Addr}(ha:a.block< w0.heap.size)(z:o0.ownBlock≠some a.block):w.cell? a=w0.cell? a:=by
 cases a with
 | mk b i t=>exact J1 (w:=w0) (h.1.block b ha z)
theorem Gr.strs {w0 w:World}{o0 o v:Value}{l:List Tx}(h:Gr w0 o0 w o)(G:Strs w0 v l)(z:∀g,v.ownBlock=some g->o0.ownBlock≠some g):Strs w v l:=
 G.kp h.1 λb off n cap e H=>z b (tG e) H
theorem cP.gr {e B:Nat}{w0 w:World}{o0 o v:Value}{n:Nat}{xs:List Value}(h:cP e B w0 v n xs)(k:Gr w0 o0 w o)(z:∀g,v.ownBlock=some g->o0.ownBlock≠some g):cP e B w v n xs:=
 h.kp k.1 z
theorem cP.slice {e B:Nat}{w:World}{v:Value}{n:Nat}{xs:List Value}(h:cP e B w v n xs):∃a cap,v= .slice a n cap:=by
 rcases h.cell with⟨z,h2,_⟩ | ⟨g,cap,z,_⟩
 ·exact⟨none,0,by rw [z,h2]⟩
 ·exact⟨_,cap,z⟩
set_option maxHeartbeats 1600000 in
theorem DS {t:P}(ok:mA t){w:World}{R:Value->Bool->World->Prop}(hR1:Cy (num t e0 0).1=none->∀w',Ex w w'->R (.slice none 0 0) false w')(hR2:∀l,Cy (num t e0 0).1=some l->∀v w',Ex w w'->Own w.heap.size w' v l->R v true w'):
  Calls Tryz.prog 102 #[.string (ab t.text)] w (ax [.v,.b] R):=by
 have su:=ok.su;have hszt:=ok.size;have hsh:=(lA su.ae).2.2;generalize hu:(num t e0 0).1=u at*;have hsz:u.size<=60:=by omega
 obtain⟨hthl,hol,hE3,hE2s,hE1s,hE0s⟩:=lens hsz;obtain⟨hn,hts⟩:=wZ ok;have hlen:=su.two.len;have okt:Ok t:=Dc ok.al ok.good;have okth:∀q∈t.ths,Ok q:=λq hq=>⟨(su.al q hq).wf,by rw [aY];have :=(hts q hq).2;omega⟩
 refine sX t.text w R ?_;refine qe okt (qP okt ok.nr λv5 w6 x6 o5=>?_);have ω:=o5.strs;obtain⟨a,cap,hv⟩:=ω.slice;rw [Kz]at hv;refine⟨a,_,cap,hv,λfine out x w'=>∃i:Nat,x=i/\i<=t.ths.length/\oh w6.heap.size w6 (.slice none 0 0) fine out w' ((List.range i).flatMap (E0 u)),λ _ _ x _=>(t.ths.length - x).toNat,⟨0,rfl,KT _,⟨Gr.refl _ _,Own.nil _ _,rfl,Kb _⟩⟩,λfine1 out1 x w15 hI=>?_⟩;obtain⟨i,rfl,hi,Z⟩:=hI;have x15:Ex w6 w15:=Z.gr.nil rfl;refine⟨λhlt=>?_,λhge=>?_⟩;rotate_left
 ·have hil:i=u.ths.length:=by simp only [J6]at hge;omega
  rw [hil]at Z;have e:(List.range u.ths.length).flatMap (E0 u)=gU u:=rfl;have hl:=hE0s _ (Kb _);rw [e]at Z hl;refine⟨λhf=>hR1 ?_ w15 (Ex.trans x6 x15),λhf=>Et Z.ow.strs (by rw [yq];omega) λv2 w2 x2 o2=>hR2 _ ?_ v2 w2 (Ex.trans (Ex.trans x6 x15) x2) (o2.mono (Ex.trans x6 x15).size)⟩
  ·unfold Cy;rw [Ko];intro h;rw [<-Z.fi]at h;rw [h]at hf;cases hf
  ·unfold Cy;rw [KG];rw [<-Z.fi];simpa using hf
 have hi':i< t.ths.length:=by simp only [J4]at hlt;omega
 have θ:i< u.ths.length:=by omega
 have hmi:=Kg hi';have two1:=jQ (su.two.get hi' θ);have hlo:=two1.len;have hacc1:=hE0s i (by omega);have ek:(List.range (i+1)).flatMap (E0 u)=(List.range i).flatMap (E0 u)++E0 u i:=by rw [MW,Lf];simp
 have eE0:E0 u i=(offs u.ths[i]).flatMap (E1 u i):=by unfold E0;rw [cN θ]
 refine ω.get x15 (i:=i) (x:=t.ths[i].text) (by omega) (by simp [hi']) (Q:=λn=>_) (nM _ (Kb _) (okth _ hmi) (su.smpP _ hmi) (by have :=(hts _ hmi).1;omega) λv21 w22 xs x22 o21 m21=>?_);have h22:=(Z.ex x22).start;have n21:∀g,v21.ownBlock=some g->out1.ownBlock≠some g:=λg hg e=>by
  have h1:=(o21.block g hg).1;have h2:=Z.lt g e;omega
 obtain⟨a23,cap23,hv21⟩:=o21.slice;have hm1:((t.ths.length:Int) - ((i:Int)+1)).toNat< ((t.ths.length:Int) - i).toNat:=by omega
 generalize hA:(List.range i).flatMap (E0 u)=A at*;have hol1:=hol i θ;have hE1i:=λj=>hE1s i j θ
 refine⟨a23,_,cap23,hv21,λfine out x w'=>∃j:Nat,x=j/\j<=(offs t.ths[i]).length/\oh w6.heap.size w22 out1 fine out w' (A++((offs u.ths[i]).take j).flatMap (E1 u i)),λ _ _ x _=>((offs t.ths[i]).length - x).toNat,⟨0,rfl,KT _,by simpa using h22⟩,λfine2 ι x w31 hI=>?_⟩;obtain⟨j,rfl,hj,κ⟩:=hI;refine⟨λhlt2=>?_,λhge2=>?_⟩;rotate_left
 ·have hjl:j=(offs u.ths[i]).length:=by simp only [J6]at hge2;omega
  rw [hjl,KA,<-eE0,<-ek]at κ;exact⟨by unfold aj;omega,⟨i+1,by omega,by omega,(Z.ex x22).back κ⟩,hm1⟩
 have hjP:j< (offs t.ths[i]).length:=by simp only [J4]at hlt2;omega
 have hjU:j< (offs u.ths[i]).length:=by omega
 have hm2:(((offs t.ths[i]).length:Int) - ((j:Int)+1)).toNat< (((offs t.ths[i]).length:Int) - j).toNat:=by omega
 have hae:=two1.get hjP hjU;have hmP:=Kg hjP;have hmU:=Kg hjU;obtain⟨g,capg,cs,hvg,J,α⟩:=sA (o21.gr κ.gr n21) m21 hjP;obtain⟨kk,ca,cb,cs3,cq,rfl⟩:=J.any;have etk:((offs u.ths[i]).take (j+1)).flatMap (E1 u i)=((offs u.ths[i]).take j).flatMap (E1 u i)++E1 u i (offs u.ths[i])[j]:=by rw [J8 hjU,Lf];simp
 have hacc2:(A++((offs u.ths[i]).take j).flatMap (E1 u i)).length<=13000000+216000:=by
  rw [J'];have :=hE1i j;omega
 rw [hv21]at hvg;refine⟨g,0,_,capg,hv21.trans hvg,by omega,by omega,kk,ca,cb,cs3,cq,⟨α 0 _ rfl _ (by omega) (by omega),α 1 _ rfl _ (by omega) (by omega),α 2 _ rfl _ (by omega) (by omega),α 3 _ rfl _ (by omega) (by omega),α 4 _ rfl _ (by omega) (by omega),trivial⟩,λβ w42 hb41 hw42=>?_⟩;obtain⟨box1,box2⟩:=Ik (cs:=fO kk ca cb cs3 cq) rfl rfl hb41 hw42;refine⟨⟨rfl,tz,box1⟩,λφ hw43=>?_⟩;obtain⟨x43,l43,μ⟩:=box2 φ hw43;have h43:=(κ.ex x43).start;have hnb:ι.ownBlock≠some β:=λe=>by have :=κ.lt _ e;omega
 have x643:Ex w6 φ:=Ex.trans ((Z.gr.ex x22).trans κ.gr |>.nil rfl) x43;have hacc2':=hacc2;generalize hA2:A++((offs u.ths[i]).take j).flatMap (E1 u i)=A2 at*;have ν:∀{fn:Bool} {o:Value} {w':World},oh w6.heap.size φ ι fn o w' (A2++E1 u i (offs u.ths[i])[j])->aj ((j:Int)+1)/\(∃j':Nat,(j:Int)+1=j'/\j'<=(offs t.ths[i]).length/\oh w6.heap.size w22 out1 fn o w' (A++((offs u.ths[i]).take j').flatMap (E1 u i)))/\(((offs t.ths[i]).length:Int) - ((j:Int)+1)).toNat< (((offs t.ths[i]).length:Int) - j).toNat:=λ{fn o w'} h=>by
  refine⟨by unfold aj;omega,⟨j+1,by omega,by omega,(κ.ex x43).back ?_⟩,hm2⟩;rw [etk,<-KN,hA2];exact h
 generalize (offs t.ths[i])[j]=oP at*;generalize (offs u.ths[i])[j]=oU at*;cases oP<;>cases oU<;>try exact hae.elim
 ·
  rename_i p I;obtain⟨_,_,_,J⟩:=J;unfold fO at J;simp only [KW,Ln,L8,MG,Mc]at J;have e1:kk=126:=Ky.1 (by omega);have e2:cs3=p.text:=eg J.2.2.2.1;subst e1 e2;refine⟨λfn o w'=>oh w6.heap.size φ ι fn o w' (A2++[It u i I]),⟨126,μ 0 (by omega),dc rfl ?_⟩,λfn o w' h=>⟨126,?_,λ _=>ν h,(λh=>by cases h)⟩⟩
  ·exact Ib ok su hi' θ hmP hmU hae (ω.ex x643) l43 (μ 3 (by omega)) h43 (by omega) λfn v' w' h=>h
  ·rw [h.gr.cell (a:=⟨β,0,none⟩) l43 hnb];exact μ 0 (by omega)
 ·
  rename_i ca' cb' p c d I;obtain⟨_,J⟩:=J;unfold fO at J;simp only [KW,Ln,L8,MG,Mc]at J;have e1:kk=33:=Ky.1 (by omega);have e2:cs3=p.text:=eg J.2.2.2.1;have e3:ca=ca':=Ky.1 (by omega);have e4:cb=cb':=Ky.1 (by omega);subst e1 e2 e3 e4;refine⟨λfn o w'=>oh w6.heap.size φ ι fn o w' A2,⟨33,μ 0 (by omega),aV (by decide) h43⟩,λfine3 δ ε G=>⟨33,?_,(λh=>by cases h),λ _=>?_⟩⟩
  ·rw [G.gr.cell (a:=⟨β,0,none⟩) l43 hnb];exact μ 0 (by omega)
  have r105:=G.start;have g105:Gr w6 (.slice none 0 0) ε δ:=(((Z.gr.ex x22).trans κ.gr).ex x43).trans G.gr;have s43:=G.gr.size;have hnb3:δ.ownBlock≠some β:=λe=>(G.gr.2 _ e).elim hnb λe=>by omega
  have c105:∀j,j< 5->ε.cell? ⟨β,j,none⟩=(fO 33 ca cb p.text cq)[j]?:=λj hj=>by rw [G.gr.cell (a:=⟨β,j,none⟩) l43 hnb];exact μ j hj
  have hm3:∀k:Nat,k< t.ths.length->((t.ths.length:Int) - ((k:Int)+1)).toNat< ((t.ths.length:Int) - k).toNat:=λk hk=>by omega
  refine⟨a,_,cap,hv,λfine out x w'=>∃k:Nat,x=k/\k<=t.ths.length/\oh w6.heap.size ε δ fine out w' (A2++(List.range k).flatMap (E2 u i c d I)),λ _ _ x _=>(t.ths.length - x).toNat,⟨0,rfl,KT _,by simpa using r105⟩,λfine4 ς x w115 hI=>?_⟩;obtain⟨k,rfl,hk,V⟩:=hI;have g115:=g105.trans V.gr;have x115:=g115.nil rfl;refine⟨λhlt3=>?_,λhge3=>?_⟩;rotate_left
  ·have hkl:k=u.ths.length:=by simp only [J6]at hge3;omega
   rw [hkl]at V;exact ν (G.back V)
  have χ:k< t.ths.length:=by simp only [J4]at hlt3;omega
  have ψ:k< u.ths.length:=by omega
  have ek2:(List.range (k+1)).flatMap (E2 u i c d I)=(List.range k).flatMap (E2 u i c d I)++E2 u i c d I k:=by rw [MW,Lf];simp
  refine ω.get x115 (i:=k) (x:=t.ths[k].text) (by omega) (by simp [χ]) (Q:=λn=>_) ⟨λheq=>?_,λhne=>?_⟩
  ·have heq:i=k:=by simp only [J4]at heq;omega
   refine⟨by unfold aj;omega,⟨k+1,by omega,by omega,?_⟩,hm3 k χ⟩;rw [ek2,show E2 u i c d I k=[] by unfold E2;rw [KG heq],KJ];exact V
  have hik:i≠k:=by simp only [J6]at hne;omega
  have hmk:=Kg χ;have eE2:E2 u i c d I k=(offs u.ths[k]).flatMap (E3 u i k c d I):=by unfold E2;rw [Ko hik,cN ψ]
  have two2:=jQ (su.two.get χ ψ);have hlo2:=two2.len;refine nM _ (Kb _) (okth _ hmk) (su.smpP _ hmk) (by have :=(hts _ hmk).1;omega) λv121 w122 xs2 x122 o121 m121=>?_
  have h122:=(V.ex x122).start;have n121:∀g,v121.ownBlock=some g->ς.ownBlock≠some g:=λg hg e=>by
   have h1:=(o121.block g hg).1;have h2:=V.lt g e;omega
  obtain⟨a123,cap123,ξ⟩:=o121.slice;have hacc3:(A2++(List.range k).flatMap (E2 u i c d I)).length<=13300000:=by
   have :=hE2s i c d I k (by omega);rw [J'];omega
  have hm3k:=hm3 k χ;have hnext3:∀{fn:Bool} {o:Value} {w':World},oh w6.heap.size w122 ς fn o w' ((A2++(List.range k).flatMap (E2 u i c d I))++E2 u i c d I k)->aj ((k:Int)+1)/\(∃k':Nat,(k:Int)+1=k'/\k'<=t.ths.length/\oh w6.heap.size ε δ fn o w' (A2++(List.range k').flatMap (E2 u i c d I)))/\((t.ths.length:Int) - ((k:Int)+1)).toNat< ((t.ths.length:Int) - k).toNat:=λ{fn o w'} h=>by
   refine⟨by unfold aj;omega,⟨k+1,by omega,by omega,(V.ex x122).back ?_⟩,hm3k⟩;rw [ek2,<-KN];exact h
  generalize hA3:A2++(List.range k).flatMap (E2 u i c d I)=A3 at*;refine⟨a123,_,cap123,ξ,λfine out x w'=>∃l:Nat,x=l/\l<=(offs t.ths[k]).length/\oh w6.heap.size w122 ς fine out w' (A3++((offs u.ths[k]).take l).flatMap (E3 u i k c d I)),λ _ _ x _=>((offs t.ths[k]).length - x).toNat,⟨0,rfl,KT _,by simpa using h122⟩,λfine5 out5 x w131 hI=>?_⟩;obtain⟨l,rfl,hl,ζ⟩:=hI;refine⟨λhlt4=>?_,λhge4=>?_⟩;rotate_left
  ·have hll:l=(offs u.ths[k]).length:=by simp only [J6]at hge4;omega
   rw [hll,KA,<-eE2]at ζ;exact hnext3 ζ
  have hlP:l< (offs t.ths[k]).length:=by simp only [J4]at hlt4;omega
  have hlU:l< (offs u.ths[k]).length:=by omega
  have hm4:(((offs t.ths[k]).length:Int) - ((l:Int)+1)).toNat< (((offs t.ths[k]).length:Int) - l).toNat:=by omega
  have har:=two2.get hlP hlU;have hrP:=Kg hlP;have hrU:=Kg hlU;obtain⟨g2,capg2,cs2,hvg2,z,H⟩:=sA (o121.gr ζ.gr n121) m121 hlP;obtain⟨kk2,ce,cx,cs4,cq2,rfl⟩:=z.any;have etk2:((offs u.ths[k]).take (l+1)).flatMap (E3 u i k c d I)=((offs u.ths[k]).take l).flatMap (E3 u i k c d I)++E3 u i k c d I (offs u.ths[k])[l]:=by rw [J8 hlU,Lf];simp
  have hol2:=hol k ψ;have hacc4:(A3++((offs u.ths[k]).take l).flatMap (E3 u i k c d I)).length<=13400000:=by
   have :=hE3 i k c d I ((offs u.ths[k]).take l) (by rw [KP];omega);rw [J'];omega
  rw [ξ]at hvg2;refine⟨g2,0,_,capg2,ξ.trans hvg2,by omega,by omega,kk2,ce,cx,cs4,cq2,⟨H 0 _ rfl _ (by omega) (by omega),H 1 _ rfl _ (by omega) (by omega),H 2 _ rfl _ (by omega) (by omega),H 3 _ rfl _ (by omega) (by omega),H 4 _ rfl _ (by omega) (by omega),trivial⟩,λb141 w142 hb141 hw142=>?_⟩;obtain⟨box3,box4⟩:=Ik (cs:=fO kk2 ce cx cs4 cq2) rfl rfl hb141 hw142;refine⟨⟨rfl,tz,box3⟩,λη hw143=>?_⟩;obtain⟨x143,l143,γ⟩:=box4 η hw143;have υ:=(ζ.ex x143).start;have g143:Gr ε δ η out5:=((V.gr.ex x122).trans ζ.gr).ex x143;have x6143:Ex w6 η:=(g105.trans g143).nil rfl;have ο:∀j,j< 5->η.cell? ⟨β,j,none⟩=(fO 33 ca cb p.text cq)[j]?:=λj hj=>by rw [g143.cell (a:=⟨β,j,none⟩) (by show β< _;omega) hnb3];exact c105 j hj
  have hb143:β< η.heap.size:=by have :=g143.size;omega
  generalize hA4:A3++((offs u.ths[k]).take l).flatMap (E3 u i k c d I)=A4 at*;have W:∀{fn:Bool} {o:Value} {w':World},oh w6.heap.size η out5 fn o w' (A4++E3 u i k c d I (offs u.ths[k])[l])->aj ((l:Int)+1)/\(∃l':Nat,(l:Int)+1=l'/\l'<=(offs t.ths[k]).length/\oh w6.heap.size w122 ς fn o w' (A3++((offs u.ths[k]).take l').flatMap (E3 u i k c d I)))/\(((offs t.ths[k]).length:Int) - ((l:Int)+1)).toNat< (((offs t.ths[k]).length:Int) - l).toNat:=λ{fn o w'} h=>by
   refine⟨by unfold aj;omega,⟨l+1,by omega,by omega,(ζ.ex x143).back ?_⟩,hm4⟩;rw [etk2,<-KN,hA4];exact h
  have frc:∃q∈u.ths,q.Fr c:=⟨_,Kg θ,(aZ (su.smp _ (Kg θ)) _ hmU).1.fr c (.inl rfl)⟩
  generalize (offs t.ths[k])[l]=rP at*;generalize (offs u.ths[k])[l]=rU at*;cases rP<;>cases rU<;>try exact har.elim
  ·obtain⟨_,_,_,z⟩:=z;unfold fO at z;simp only [KW,Ln,L8,MG,Mc]at z;have e1:kk2=126:=Ky.1 (by omega);subst e1;exact⟨126,γ 0 (by omega),(λh=>by cases h),λ _=>W (by simpa [E3]using υ)⟩
  ·obtain⟨_,z⟩:=z;unfold fO at z;simp only [KW,Ln,L8,MG,Mc]at z;have e1:kk2=33:=Ky.1 (by omega);subst e1;exact⟨33,γ 0 (by omega),(λh=>by cases h),λ _=>W (by simpa [E3]using υ)⟩
  ·rename_i e x q s e' x' q' s';unfold uy fO at z;simp only [KW,Ln,L8,Value.bool.injEq,MG,Mc]at z;have e1:kk2=63:=Ky.1 (by omega);have e2:cs4=q.text:=eg z.2.2.2.1;have e3:ce=e:=Ky.1 (by omega);have e4:cx=x:=Ky.1 (by omega);have e5:cq2=s:=z.2.2.2.2;subst e1 e2 e3 e4 e5;have fre:∃q∈u.ths,q.Fr e':=⟨_,Kg ψ,(aZ (su.smp _ (Kg ψ)) _ hrU).1.fr e' (.inl rfl)⟩
   have hae1:ca=asg u.frL t.frL ρ0 c:=Ky.1 hae.1;have har1:ce=asg u.frL t.frL ρ0 e':=Ky.1 har.1;refine⟨63,γ 0 (by omega),λ _=>⟨ce,γ 1 (by omega),ca,ο 1 (by omega),λhne=>W ?_,λheq=>?_⟩,(λh=>by cases h)⟩
   ·have hne:ce≠ca:=by simpa using hne
    have:¬e'=c:=λh=>hne (by rw [har1,hae1,h])
    rw [show E3 u i k c d I (.rcv e' x' q' s')=[] by unfold E3;simp only;rw [Ko this],KJ];exact υ
   ·have heq:ce=ca:=by simpa using heq
    have hec:e'=c:=su.inj fre frc (by rw [<-har1,<-hae1,heq]);refine E9 ok su hi' θ χ ψ hik hmP hmU hae hrP hrU har (ω.ex x6143) hb143 l143 (ο 2 (by omega)) (ο 3 (by omega)) (γ 2 (by omega)) (γ 3 (by omega)) (γ 4 (by omega)) υ (by omega) λfn v' w' h=>W ?_
    rw [show E3 u i k c d I (.rcv e' x' q' s')=[Cx u i k I (q'.map (Ff (NN u) q' x' d)) s'] by unfold E3;simp only;rw [KG hec]];exact h
 ·
  rename_i ca' cb' p s c d I s';unfold uy fO at J;simp only [KW,Ln,L8,MG,Mc]at J;have e1:kk=63:=Ky.1 (by omega);subst e1;refine⟨λfn o w'=>oh w6.heap.size φ ι fn o w' A2,⟨63,μ 0 (by omega),aV (by decide) h43⟩,λfine3 δ ε G=>⟨63,?_,λ _=>ν ?_,(λh=>by cases h)⟩⟩
  ·rw [G.gr.cell (a:=⟨β,0,none⟩) l43 hnb];exact μ 0 (by omega)
  ·simpa [E1]using G
theorem B8 {w:World}{v:Value}{l:List Tx}{x:Tx}(h:Strs w v l)(Z:l.length<=1000000000){R:Int->World->Prop}(J:∀i:Int,(i< 0↔x∉l)->(0<=i->∃h:i.toNat< l.length,l[i.toNat]=x)->R i w):
  Calls Tryz.prog 60 #[v,.string (ab x)] w (ax [.i] R):=by
 refine rm v x w R ?_;obtain⟨a,cap,V⟩:=h.slice;refine⟨a,_,cap,V,λi w'=>w'=w/\∃k:Nat,i=k/\k<=l.length/\x∉l.take k,λi _=>((l.length:Int) - i).toNat,⟨rfl,0,rfl,KT _,by simp⟩,λi w' W=>?_⟩;obtain⟨rfl,k,rfl,hk,hm⟩:=W;refine⟨λH=>?_,λI=>?_⟩
 ·have z:k< l.length:=by simp only [J4]at H;omega
  refine h.get (Ex.refl _) (i:=k) (x:=l[k]) (by omega) (by simp [z]) (Q:=λn=>_) ⟨λhe=>J k ?_ λ _=>⟨z,by simpa using he⟩,λG=>⟨by unfold aj;omega,⟨rfl,k+1,by omega,z,?_⟩,by dsimp only;omega⟩⟩
  ·have he:l[k]=x:=by simpa using he
   exact⟨λh=>by omega,λh=>absurd (he▸Kg z) h⟩
  ·have G:l[k]≠x:=by simpa using G
   rw [J8 z,Ke,Kf];exact λh=>h.elim hm λe=>G e.symm
 ·have:k=l.length:=by simp only [J6]at I;omega
  rw [this,KA]at hm;exact J (-1) ⟨λ _=>hm,λ _=>by omega⟩ λh=>by omega
theorem vJ {B b k:Nat}{w w1 w2:World}{v v':Value}(H:b< w.heap.size)(hb:B<=b)(hB:B<=w.heap.size)(V:∀g,v.ownBlock=some g->B<=g/\g< w.heap.size/\g≠b)(hc:∃u,w.cell? ⟨b,k,none⟩=some u)(W:∀j,w.frozen? ⟨b,j,none⟩=false)(x:Ex w w1)(Z:w1.grownBy w2 v.ownBlock):
  ((∃u,w2.cell? ⟨b,k,none⟩=some u)/\w2.frozen? ⟨b,k,none⟩=false)/\∀w',w'=w2.setCell ⟨b,k,none⟩ v'->w'.cell? ⟨b,k,none⟩=some v'/\(∀j,j≠k->w'.cell? ⟨b,j,none⟩=w.cell? ⟨b,j,none⟩)/\(∀j,w'.frozen? ⟨b,j,none⟩=false)/\Kp w w' (λg=>v.ownBlock=some g\/g=b)/\Below B w w'/\Kp w2 w' (λg=>g=b):=by
 have z:Kp w1 w2 λg=>v.ownBlock=some g:=Kp.aQ Z λ _ h=>h
 have s1:=x.size;have I:=z.block b (by omega) λe=>(V b e).2.2 rfl
 obtain⟨u,hu⟩:=hc;have c2:∀j,w2.cell? ⟨b,j,none⟩=w.cell? ⟨b,j,none⟩:=λj=>by rw [J1 (w:=w1) I,x.cell (a:=⟨b,j,none⟩) H]
 have f2:∀j,w2.frozen? ⟨b,j,none⟩=false:=λj=>by rw [KC (w:=w1) I,Lr x H];exact W j
 have h2:w2.cell? ⟨b,k,none⟩=some u:=(c2 k).trans hu;refine⟨⟨⟨u,h2⟩,f2 k⟩,λw' G=>?_⟩;have kr:Kp w2 w' (λg=>g=b):=G▸Kr.set w2 k v';have sk:=z.size;refine⟨by rw [G];exact Kj _ _ _ h2,λj hj=>?_,λj=>by rw [G,Kt];exact f2 j,?_,?_,kr⟩
 ·rw [G,J7 _ _ _ _ (λe=>by injection e with e1 I;exact hj I.symm)];exact c2 j
 ·exact Kp.trans (Kp.trans (Kp.ah x _) (Kp.mono (λ _ h=> .inl h) z) λ _ _ h=>h) kr λ _ _ h=> .inr h
 ·exact LJ (LJ (M9 x hB) (Kp.below z (by omega) λg J e=>by have :=(V g e).1;omega)) (Kp.below kr (by omega) λg J e=>by omega)
abbrev tX:Nat:=25
abbrev tI:Nat:=3
structure qR (B b:Nat)(w:World)(va vn vx:Value)(all:List Tx)(ns:List Nat)(vs:List Value)(L:Nat->Prop):Prop where
 lb:B<=b
 lt:b< w.heap.size
 f:∀j,w.frozen? ⟨b,j,none⟩=false
 c0:w.cell? ⟨b,0,none⟩=some va
 c1:w.cell? ⟨b,1,none⟩=some vn
 c2:w.cell? ⟨b,2,none⟩=some vx
 a:Own B w va all
 n:aP tI B w vn (ns.map iv)
 x:aP tX B w vx vs
 da:∀g,va.ownBlock=some g->g≠b/\vn.ownBlock≠some g/\vx.ownBlock≠some g/\¬L g
 dn:∀g,vn.ownBlock=some g->g≠b/\vx.ownBlock≠some g/\¬L g
 dx:∀g,vx.ownBlock=some g->g≠b/\¬L g
 ml:∀g,L g->B<=g/\g< w.heap.size/\g≠b
 ls:∀j (h:j< vs.length),∃h':j< all.length,∃l,tF all[j]=some l/\Strs w vs[j] l/\∀g,vs[j].ownBlock=some g->L g
section
variable {B b:Nat} {w w':World} {va vn vx:Value} {all:List Tx} {ns:List Nat} {vs:List Value} {L:Nat->Prop}
theorem aP.ex {e:Nat}{v:Value}{l:List Value}(h:aP e B w v l)(x:Ex w w'):aP e B w' v l:=h.kp (Kp.ah x λ _=>False) λ _ _ h=>h
theorem qR.ex (h:qR B b w va vn vx all ns vs L)(x:Ex w w'):qR B b w' va vn vx all ns vs L:=by
 have s:=x.size;have c:∀j,w'.cell? ⟨b,j,none⟩=w.cell? ⟨b,j,none⟩:=λj=>x.cell (a:=⟨b,j,none⟩) h.lt
 refine⟨h.lb,by have :=h.lt;omega,λj=>by rw [Lr x h.lt];exact h.f j,by rw [c];exact h.c0,by rw [c];exact h.c1,by rw [c];exact h.c2,h.a.ex x,h.n.ex x,h.x.ex x,h.da,h.dn,h.dx,λg z=>⟨(h.ml g z).1,by have :=(h.ml g z).2.1;omega,(h.ml g z).2.2⟩,λj G=>?_⟩;obtain⟨H,l,h2,I,h4⟩:=h.ls j G;exact⟨H,l,h2,I.ex x,h4⟩
theorem Strs.Dx {v:Value}{l:List Tx}{S:Nat->Prop}(h:Strs w v l)(k:Kp w w' S)(z:∀g,v.ownBlock=some g->¬S g):Strs w' v l:=h.kp k λb _ _ _ e=>z b (tG e)
theorem qR.GQ (h:qR B b w va vn vx all ns vs L)(hB:B<=w.heap.size){s:Tx}{w1 w2:World}(x:Ex w w1){v':Value}(Z:Own B w2 v' (all++[s]))(z:w1.grownBy w2 va.ownBlock)(hn:∀g,v'.ownBlock=some g->va.ownBlock=some g\/w1.heap.size<=g):
  ((∃u,w2.cell? ⟨b,0,none⟩=some u)/\w2.frozen? ⟨b,0,none⟩=false)/\∀w',w'=w2.setCell ⟨b,0,none⟩ v'->qR B b w' v' vn vx (all++[s]) ns vs L/\Below B w w':=by
 obtain⟨I,h2⟩:=vJ (v':=v') h.lt h.lb hB (λg z=>⟨(h.a.block g z).1,(h.a.block g z).2,(h.da g z).1⟩) ⟨_,h.c0⟩ h.f x z;refine⟨I,λw' J=>?_⟩;obtain⟨k1,V,k3,H,k5,k6⟩:=h2 w' J;have sx:=x.size;have sk:=H.size;have α:=h.lt;have W:∀g,v'.ownBlock=some g->g≠b/\vn.ownBlock≠some g/\vx.ownBlock≠some g/\¬L g:=λg z=>(hn g z).elim (h.da g) λe=>⟨by omega,λG=>by have :=(h.n.block g G).2;omega,λG=>by have :=(h.x.block g G).2;omega,λG=>by have :=(h.ml g G).2.1;omega⟩
 refine⟨⟨h.lb,by omega,k3,k1,(V 1 (by omega)).trans h.c1,(V 2 (by omega)).trans h.c2,Z.kp k6 λg z=>(W g z).1,h.n.kp H λg z e=>e.elim (λe=>(h.da g e).2.1 z) (h.dn g z).1,h.x.kp H λg z e=>e.elim (λe=>(h.da g e).2.2.1 z) (h.dx g z).1,W,h.dn,h.dx,λg z=>⟨(h.ml g z).1,by have :=(h.ml g z).2.1;omega,(h.ml g z).2.2⟩,λj hj=>?_⟩,k5⟩;obtain⟨I,l,h2,h3,h4⟩:=h.ls j hj;exact⟨by rw [J'];omega,l,by rw [MI I];exact h2,h3.Dx H λg z e=>e.elim (λe=>(h.da g e).2.2.2 (h4 g z)) (h.ml g (h4 g z)).2.2,h4⟩
theorem qR.G0 (h:qR B b w va vn vx all ns vs L)(hB:B<=w.heap.size){m:Nat}{w1 w2:World}(x:Ex w w1){v':Value}(ho:aP tI B w2 v' ((ns++[m]).map iv))(z:w1.grownBy w2 vn.ownBlock)(V:∀g,v'.ownBlock=some g->vn.ownBlock=some g\/w1.heap.size<=g):
  ((∃u,w2.cell? ⟨b,1,none⟩=some u)/\w2.frozen? ⟨b,1,none⟩=false)/\∀w',w'=w2.setCell ⟨b,1,none⟩ v'->qR B b w' va v' vx all (ns++[m]) vs L/\Below B w w':=by
 obtain⟨H,h2⟩:=vJ (v':=v') h.lt h.lb hB (λg z=>⟨(h.n.block g z).1,(h.n.block g z).2,(h.dn g z).1⟩) ⟨_,h.c1⟩ h.f x z;refine⟨H,λw' I=>?_⟩;obtain⟨k1,W,k3,G,k5,k6⟩:=h2 w' I;have sx:=x.size;have sk:=G.size;have α:=h.lt;have Z:∀g,v'.ownBlock=some g->g≠b/\vx.ownBlock≠some g/\¬L g:=λg z=>(V g z).elim (h.dn g) λe=>⟨by omega,λJ=>by have :=(h.x.block g J).2;omega,λJ=>by have :=(h.ml g J).2.1;omega⟩
 refine⟨⟨h.lb,by omega,k3,(W 0 (by omega)).trans h.c0,k1,(W 2 (by omega)).trans h.c2,h.a.kp G λg z e=>e.elim (λe=>(h.da g z).2.1 e) (h.da g z).1,ho.kp k6 λg z=>(Z g z).1,h.x.kp G λg z e=>e.elim (λe=>(h.dn g e).2.1 z) (h.dx g z).1,λg z=>⟨(h.da g z).1,λe=>(V g e).elim (h.da g z).2.1 λe=>by have :=(h.a.block g z).2;omega,(h.da g z).2.2⟩,Z,h.dx,λg z=>⟨(h.ml g z).1,by have :=(h.ml g z).2.1;omega,(h.ml g z).2.2⟩,λj hj=>?_⟩,k5⟩;obtain⟨H,l,h2,h3,h4⟩:=h.ls j hj;exact⟨H,l,h2,h3.Dx G λg z e=>e.elim (λe=>(h.dn g e).2.2 (h4 g z)) (h.ml g (h4 g z)).2.2,h4⟩
theorem qR.IF (h:qR B b w va vn vx all ns vs L)(hB:B<=w.heap.size){w0 w1 w2:World}(x0:Ex w w0)(x:Ex w0 w1){v v':Value}{l:List Tx}(hl:vs.length< all.length)(V:tF all[vs.length]=some l)(hs:Strs w0 v l)(H:∀g,v.ownBlock=some g->w.heap.size<=g/\g< w0.heap.size)(ho:aP tX B w2 v' (vs++[v]))(z:w1.grownBy w2 vx.ownBlock)(W:∀g,v'.ownBlock=some g->vx.ownBlock=some g\/w1.heap.size<=g):
  ((∃u,w2.cell? ⟨b,2,none⟩=some u)/\w2.frozen? ⟨b,2,none⟩=false)/\∀w',w'=w2.setCell ⟨b,2,none⟩ v'->qR B b w' va vn v' all ns (vs++[v]) (λg=>L g\/v.ownBlock=some g)/\Below B w w':=by
 obtain⟨Z,h2⟩:=vJ (v':=v') h.lt h.lb hB (λg z=>⟨(h.x.block g z).1,(h.x.block g z).2,(h.dx g z).1⟩) ⟨_,h.c2⟩ h.f (Ex.trans x0 x) z;refine⟨Z,λw' α=>?_⟩;obtain⟨k1,k2,k3,J,k5,k6⟩:=h2 w' α;have γ:=x0.size;have sx:=x.size;have sk:=J.size;have s2:=z.size;have s6:=k6.size;have δ:=h.lt;have dv:∀g,v'.ownBlock=some g->g≠b/\¬(L g\/v.ownBlock=some g):=λg z=>(W g z).elim (λe=>⟨(h.dx g e).1,λG=>G.elim (h.dx g e).2 λG=>by have :=(H g G).1;have :=(h.x.block g e).2;omega⟩) λe=>⟨by omega,λG=>G.elim (λG=>by have :=(h.ml g G).2.1;omega) λG=>by have :=(H g G).2;omega⟩
 refine⟨⟨h.lb,by omega,k3,(k2 0 (by omega)).trans h.c0,(k2 1 (by omega)).trans h.c1,k1,h.a.kp J λg z e=>e.elim (λe=>(h.da g z).2.2.1 e) (h.da g z).1,h.n.kp J λg z e=>e.elim (λe=>(h.dn g z).2.1 e) (h.dn g z).1,ho.kp k6 λg z=>(dv g z).1,λg z=>⟨(h.da g z).1,(h.da g z).2.1,λe=>(W g e).elim (h.da g z).2.2.1 λe=>by have :=(h.a.block g z).2;omega,λe=>e.elim (h.da g z).2.2.2 λe=>by have :=(H g e).1;have :=(h.a.block g z).2;omega⟩,
  λg z=>⟨(h.dn g z).1,λe=>(W g e).elim (h.dn g z).2.1 λe=>by have :=(h.n.block g z).2;omega,λe=>e.elim (h.dn g z).2.2 λe=>by have :=(H g e).1;have :=(h.n.block g z).2;omega⟩,dv,λg z=>z.elim (λz=>⟨(h.ml g z).1,by have :=(h.ml g z).2.1;omega,(h.ml g z).2.2⟩) λz=>by have :=H g z;exact⟨by omega,by omega,by omega⟩,λj hj=>?_⟩,k5⟩
 rw [J',List.length_singleton]at hj;by_cases I:j< vs.length
 ·obtain⟨Z,l',h2,h3,h4⟩:=h.ls j I;rw [MI I];exact⟨Z,l',h2,h3.Dx J λg z e=>e.elim (λe=>(h.dx g e).2 (h4 g z)) (h.ml g (h4 g z)).2.2,λg z=> .inl (h4 g z)⟩
 ·have:j=vs.length:=by omega
  subst this;rw [List.getElem_append_right (Kb _)];simp only [Nat.sub_self,List.getElem_cons_zero];have β:Kp w0 w' λg=>vx.ownBlock=some g\/g=b:=Kp.trans (Kp.trans (Kp.ah x _) (Kp.mono (λ _ h=> .inl h) (Kp.aQ z λ _ h=>h)) λ _ _ h=>h) k6 λ _ _ h=> .inr h
  refine⟨hl,l,V,hs.Dx β λg z e=>?_,λg z=> .inr z⟩;have h3:=(H g z).1;exact e.elim (λe=>by have :=(h.x.block g e).2;omega) λe=>by omega
end
theorem yJ {w w':World}(x:Ex w w'):w.grownBy w' none:=⟨x.os,x.tape,x.output,x.size,λg z _=>x.block g z⟩
def I0 (w:World)(b2 b4:Nat)(q:Bool)(R:Value->Bool->World->Prop):Prop:=
 ∃v162:Value,∃G:Value,∃v164:Value,(World.cell? w ⟨b4,0,none⟩=some v162/\World.cell? w ⟨b4,1,none⟩=some G/\World.cell? w ⟨b4,2,none⟩=some v164/\True)/\(List.length [v162,G,v164]=3/\List.all [v162,G,v164] oneV=true/\∀j,j< 3->(∃u,World.cell? w ⟨b2,0+j,none⟩=some u)/\World.frozen? w ⟨b2,0+j,none⟩=false)/\
  ∀z:World,z=World.setCells w b2 0 [v162,G,v164]->∃H:Value,∃I:Value,∃J:Value,(World.cell? z ⟨b2,0,none⟩=some H/\World.cell? z ⟨b2,1,none⟩=some I/\World.cell? z ⟨b2,2,none⟩=some J/\True)/\R ((Value.agg #[H,I,J])) q z
section
variable {B b:Nat} {w w':World} {va vn vx:Value} {all:List Tx} {ns:List Nat} {vs:List Value} {L:Nat->Prop}
theorem qR.kp (h:qR B b w va vn vx all ns vs L)(k:Kp w w' λg=>g< B):qR B b w' va vn vx all ns vs L:=by
 have s:=k.size;have hb:=h.lb;have e:=k.block b h.lt (by omega);refine⟨h.lb,by have :=h.lt;omega,λj=>by rw [KC (w:=w) e];exact h.f j,by rw [J1 (w:=w) e];exact h.c0,by rw [J1 (w:=w) e];exact h.c1,by rw [J1 (w:=w) e];exact h.c2,h.a.kp k λg z e=>by have :=(h.a.block g z).1;omega,h.n.kp k λg z e=>by have :=(h.n.block g z).1;omega,h.x.kp k λg z e=>by have :=(h.x.block g z).1;omega,h.da,h.dn,h.dx,λg z=>⟨(h.ml g z).1,by have :=(h.ml g z).2.1;omega,(h.ml g z).2.2⟩,λj G=>?_⟩;obtain⟨H,l,h2,I,h4⟩:=h.ls j G;exact⟨H,l,h2,I.Dx k λg z e=>by have :=(h.ml g (h4 g z)).1;omega,h4⟩
theorem qR.p7 (h:qR B b w va vn vx all ns vs L):oneV va=true/\oneV vn=true/\oneV vx=true:=⟨h.a.iL,h.n.iL,h.x.iL⟩
theorem CL (h:qR B b w va vn vx all ns vs L){b2:Nat}(I:b2< B)(hc:∀j,j< 3->(∃u,w.cell? ⟨b2,j,none⟩=some u)/\w.frozen? ⟨b2,j,none⟩=false){q:Bool}{R:Value->Bool->World->Prop}(J:∀w',Kp w w' (λg=>g=b2)->qR B b w' va vn vx all ns vs L->R (.agg #[va,vn,vx]) q w'):I0 w b2 b q R:=by
 obtain⟨V,W,Z⟩:=h.p7;refine⟨va,vn,vx,⟨h.c0,h.c1,h.c2,trivial⟩,⟨rfl,by simp [V,W,Z],λj G=>by rw [KF];exact hc j G⟩,λw1 H=>?_⟩;obtain⟨k,_,_,z⟩:=aX (b:=b2) [va,vn,vx] w 0;rw [<-H]at k z;have z:=λj (G:j< 3)=>z j (λi hi=>by rw [KF];exact(hc i hi).1) G
 simp only [KF]at z;exact⟨va,vn,vx,⟨z 0 (by omega),z 1 (by omega),z 2 (by omega),trivial⟩,J w1 k (h.kp (Kp.mono (λg e=>by omega) k))⟩
end
def JC (w:World)(v src:Value)(K:Value->World->Prop):Prop:=
 ∃(base n m:Nat) (xs news:List Value),World.ownsRow w base tI 1 v n xs/\base<=Array.size (World.heap w)/\dW w src m 1 news/\(n+m<=maxLen/\(n+m)* 8<=140737488355328)/\
  ∀(v':Value) (w':World),World.ownsRow w' base tI 1 v' (n+m) (xs++news)->World.grownBy w w' (Value.ownBlock v)->(∀b:Nat,Value.ownBlock v'=some b->Value.ownBlock v=some b\/Array.size (World.heap w)<=b)->K v' w'
theorem GM {e B by_:Nat}{w:World}{v:Value}{l:List Value}(h:aP e B w v l)(hB:B<=w.heap.size){x:Value}{m:List Value}(G:dW w x m.length 1 m)(z:by_<=48)(H:l.length+m.length<=1099511627776){K:Value->World->Prop}
  (I:∀v' w',aP e B w' v' (l++m)->w.grownBy w' v.ownBlock->(∀b,v'.ownBlock=some b->v.ownBlock=some b\/w.heap.size<=b)->K v' w'):
  ∃(base n k:Nat) (xs news:List Value),World.ownsRow w base e 1 v n xs/\base<=Array.size (World.heap w)/\dW w x k 1 news/\(n+k<=maxLen/\(n+k)* by_<=140737488355328)/\
   ∀(v':Value) (w':World),World.ownsRow w' base e 1 v' (n+k) (xs++news)->World.grownBy w w' (Value.ownBlock v)->(∀b:Nat,Value.ownBlock v'=some b->Value.ownBlock v=some b\/Array.size (World.heap w)<=b)->K v' w':=by
 refine⟨B,l.length,m.length,l,m,h,hB,G,⟨by unfold maxLen;omega,?_⟩,λv' w' J V hw=>I v' w' ?_ V hw⟩
 ·have:(l.length+m.length)* by_<=1099511627776* 48:=Nb H z;omega
 ·unfold aP;rw [J'];exact J
theorem AG {e:Nat}{w w':World}{b:Nat}{x:Value}(z:oneV x=true)(hb:b=w.heap.size)(h:w'=w.alloc (.cells #[x] e)):dW w' (.slice (some ⟨b,0,none⟩) 1 1) [x].length 1 [x]:=by
 subst hb h;refine⟨rfl,by simp [z],.inr ⟨_,0,1,rfl,λj u hu=>?_⟩⟩;rw [KF];refine aa ?_
 match j,hu with
 | 0,hu=>simpa using hu
 | j+1,hu=>simp at hu
set_option maxHeartbeats 1600000 in
theorem ql {s:Tx}{w:World}{R:Value->Bool->World->Prop}(hR1:bT s=none->∀a b c w',oneV a=true->oneV b=true->oneV c=true->Ex w w'->R (.agg #[a,b,c]) false w')
  (hR2:∀n0 all,cc s=some n0->bT s=some all->(∀x∈all,St x)->all.length<=60->∀B b va vn vx ns vs L w',Ex w w'->w.heap.size<=B->qR B b w' va vn vx all ns vs L->vs.length=all.length->R (.agg #[va,vn,vx]) true w'):
  Calls Tryz.prog 54 #[.string (ab s)] w (ax [.v,.b] R):=by
 refine qW s w R ?_;intro b2 w3 hb2 ω b4 V hb4 hw5;have x3:Ex w w3:=ω▸Ex.alloc w _;have x5:Ex w3 V:=hw5▸Ex.alloc w3 _;have s3:w3.heap.size=w.heap.size+1:=by rw [ω,size_alloc]
 have s5:V.heap.size=w3.heap.size+1:=by rw [hw5,size_alloc]
 have c2:∀j,j< 3->(∃u,V.cell? ⟨b2,j,none⟩=some u)/\V.frozen? ⟨b2,j,none⟩=false:=λj hj=>by
  refine⟨?_,by rw [Lr x5 (show b2< _ by omega),ω,hb2];exact aG _ _ _ _⟩;rw [x5.cell (a:=⟨b2,j,none⟩) (show b2< _ by omega),ω,hb2]
  match j,hj with
  | 0,_=>exact⟨_,aa rfl⟩
  | 1,_=>exact⟨_,aa rfl⟩
  | 2,_=>exact⟨_,aa rfl⟩
 have c4:∀j,j< 3->∃u,V.cell? ⟨b4,0+j,none⟩=some u:=λj hj=>by
  rw [hw5,hb4,KF]
  match j,hj with
  | 0,_=>exact⟨_,aa rfl⟩
  | 1,_=>exact⟨_,aa rfl⟩
  | 2,_=>exact⟨_,aa rfl⟩
 have f4:∀j,V.frozen? ⟨b4,j,none⟩=false:=λj=>by rw [hw5,hb4];exact aG _ _ _ _
 refine⟨⟨rfl,rfl,λj hj=>⟨c4 j hj,by rw [KF];exact f4 j⟩⟩,λw6 hw6=>?_⟩;obtain⟨k6,k6f,_,sc⟩:=aX (b:=b4) [Value.slice none 0 0,.slice none 0 0,.slice none 0 0] V 0;rw [<-hw6]at k6 k6f sc;have sc:=λj (hj:j< 3)=>sc j c4 hj
 simp only [KF]at sc;have s6:=k6.size;have h6:qR b4 b4 w6 (.slice none 0 0) (.slice none 0 0) (.slice none 0 0) [] [] [] λ _=>False:=
  ⟨Kb _,by omega,λj=>by rw [k6f];exact f4 j,sc 0 (by omega),sc 1 (by omega),sc 2 (by omega),Own.nil _ _,aP.nil _ _ _,aP.nil _ _ _,(λg hg=>by cases hg),(λg hg=>by cases hg),(λg hg=>by cases hg),λg hg=>hg.elim,λj hj=>by simp at hj⟩
 have b56:Below b4 V w6:=Kp.below k6 (by omega) λg hg e=>by omega
 have x05:Ex w V:=Ex.trans x3 x5;have cb2:∀{w':World},Below b4 V w'->∀j,j< 3->(∃u,w'.cell? ⟨b2,j,none⟩=some u)/\w'.frozen? ⟨b2,j,none⟩=false:=λ{w'} k j hj=>by
  have e:=k.block b2 (by omega);obtain⟨⟨u,h1⟩,h2⟩:=c2 j hj;exact⟨⟨u,by rw [J1 (w:=V) e];exact h1⟩,by rw [KC (w:=V) e];exact h2⟩
 have toEx:∀{w' w2:World},Below b4 V w'->Kp w' w2 (λg=>g=b2)->Ex w w2:=λ{w' w2} k k2=>by
  have :=k.size;exact Ex.below (Ex.below x05 (M9 k (by omega))) (Kp.below k2 (by omega) λg hg e=>by omega)
 have bad:bT s=none->∀{w':World} {va vn vx:Value} {all:List Tx} {ns:List Nat} {vs:List Value} {L:Nat->Prop},Below b4 V w'->qR b4 b4 w' va vn vx all ns vs L->I0 w' b2 b4 false R:=λhn {w' va vn vx all ns vs L} k h=>
  CL h (by omega) (cb2 k) λw2 k2 h2=>hR1 hn _ _ _ w2 h2.p7.1 h2.p7.2.1 h2.p7.2.2 (toEx k k2)
 refine ve λw9 x9=>⟨λn0 hst=>⟨(λh=>by cases h),λ _=>?_⟩,λhst=>⟨λ _=>bad (by unfold bT;rw [hst];rfl) (LJ b56 (M9 x9 (by omega))) (h6.ex x9),(λh=>by cases h)⟩⟩
 have hg:bT s=bfs 62 [n0] 0:=by unfold bT;rw [hst];rfl
 have hst0:=uS hst;have s9:=x9.size;have h9:=h6.ex x9;have b9:Below b4 V w9:=LJ b56 (M9 x9 (by omega));intro b17 w18 hb17 hw18;have x18:Ex w9 w18:=hw18▸Ex.alloc w9 _;have o18:Own b4 w18 (.slice (some ⟨b17,0,none⟩) 1 1) ([]++[n0]):=Own.one (by omega) hb17 hw18;obtain⟨f18,g18⟩:=h9.GQ (by omega) (Ex.refl w9) o18 (yJ x18) λg hg=> .inr (by have:b17=g:=KS hg;omega)
 refine⟨rfl,f18,λw20 hw20=>?_⟩;obtain⟨h20,b20⟩:=g18 w20 hw20;intro b21 w22 hb21 hw22;have x22:Ex w20 w22:=hw22▸Ex.alloc w20 _;have s20:=b20.size;have o22:aP tI b4 w22 (.slice (some ⟨b21,0,none⟩) 1 1) (([]++[0]).map iv):=aP.one (by omega) hb21 hw22;obtain⟨f22,g22⟩:=h20.G0 (m:=0) (by omega) (Ex.refl w20) o22 (yJ x22) λg hg=> .inr (by have:b21=g:=KS hg;omega)
 refine⟨rfl,f22,λw24 hw24=>?_⟩;obtain⟨h24,b24⟩:=g22 w24 hw24;have bb24:Below b4 V w24:=LJ b9 (LJ b20 b24);rw [hg]at hR1 hR2 bad;refine⟨λx w'=>∃(i:Nat) (all:List Tx) (va vn vx:Value) (ns:List Nat) (vs:List Value) (L:Nat->Prop),x=i/\i<=all.length/\all.length<=60/\(∀y∈all,St y)/\bfs (62 - i) all i=bfs 62 [n0] 0/\Below b4 V w'/\qR b4 b4 w' va vn vx all ns vs L/\ns.length=all.length/\vs.length=i/\∀n∈ns,n<=i,λx _=>(61 - x).toNat,
  ⟨0,[n0],_,_,_,[0],[],_,rfl,by simp,by simp,(λy hy=>by cases Kf.1 hy;exact hst0),rfl,bb24,h24,rfl,rfl,λn hn=>by cases Kf.1 hn;omega⟩,λx w28 hO=>?_⟩
 clear hw24 hw22 hw20 hw18 f22 g22 f18 g18 o22 o18 h24 h20 h9 x22 x18 bb24 b24 b20 b9 s20 s9 b56 sc k6 k6f hw6 h6 hw5 ω;obtain⟨i,all,va,vn,vx,ns,vs,L,rfl,hi,h60,hst',υ,γ,ι,hnl,hvl,hnb⟩:=hO;obtain⟨a30,cap30,hva⟩:=ι.a.strs.slice;have s28:=γ.size;refine⟨va,ι.c0,a30,_,cap30,hva,λhlt=>?_,λhge=>?_⟩;rotate_left
 ·have κ:¬i< all.length:=by simp only [J6]at hge;omega
  have e:=(AB h60 κ hi).symm.trans υ;exact CL ι (by omega) (cb2 γ) λw2 k2 h2=>hR2 _ _ hst e.symm hst' h60 _ _ _ _ _ _ _ _ w2 (toEx γ k2) (by omega) h2 (by omega)
 have κ:i< all.length:=by simp only [J4]at hlt;omega
 refine⟨va,ι.c0,ι.a.strs.get (Ex.refl _) (i:=i) (x:=all[i]) (by omega) (by rw [J9];exact J2 κ) (Q:=λn=>_) ?_⟩;obtain⟨t',y4,et⟩:=hst' _ (Kg κ);have hnq:=Dn y4;rw [et]at hnq;rw [<-et];refine DS y4 (λhn w41 ξ=>⟨λ _=>bad ((yU h60 κ (hnq.trans hn)).symm.trans υ).symm (LJ γ (M9 ξ (by omega))) (ι.ex ξ),(λh=>by cases h)⟩) λl hl ε w41 ξ o39=>⟨(λh=>by cases h),λ _=>?_⟩
 have δ:=hnq.trans hl;have h41:=ι.ex ξ;have bw41:Below b4 V w41:=LJ γ (M9 ξ (by omega));have s41:=ξ.size;refine⟨vx,h41.c2,o39.iL,λb50 w51 hb50 hw51=>?_⟩;have x51:Ex w41 w51:=hw51▸Ex.alloc w41 _;have s51:w51.heap.size=w41.heap.size+1:=by rw [hw51,size_alloc]
 refine GM (by_:=24) ((h41.x).ex x51) (by omega) (AG o39.iL hb50 hw51) (by omega) (by simp only [J0,Kh];omega) λv57 w58 o58 g58 n58=>?_
 obtain⟨f58,q58⟩:=ι.IF (by omega) ξ x51 (by omega) (by subst hvl;exact δ) o39.strs (λg hg=>o39.block g hg) o58 g58 n58;refine⟨o58.iL,f58,λw60 hw60=>?_⟩;obtain⟨h60',b60⟩:=q58 w60 hw60;have bw60:Below b4 V w60:=LJ γ b60;have hll:=rC δ;obtain⟨a61,cap61,hv39⟩:=o39.strs.slice;have hlv:vs.length< (vs++[ε]).length:=by simp
 have hls:∀{w':World} {va vn vx:Value} {cur:List Tx} {ns:List Nat} {L':Nat->Prop},all<+:cur->qR b4 b4 w' va vn vx cur ns (vs++[ε]) L'->Strs w' ε l:=λ{w' va vn vx cur ns L'} hp h=>by
  obtain⟨h1,l',h2,h3,_⟩:=h.ls vs.length hlv;have e1:cur[vs.length]=all[i]:=by subst hvl;exact(hp.getElem κ).symm
  have e2:(vs++[ε])[vs.length]=ε:=by rw [List.getElem_append_right (Kb _)];simp
  rw [e1,δ]at h2;rw [e2]at h3;cases h2;exact h3
 generalize hL':(λg=>L g\/ε.ownBlock=some g)=L' at*;refine⟨a61,_,cap61,hv39,λx w'=>∃(j:Nat) (va vn vx:Value) (ns:List Nat),x=j/\j<=l.length/\Below b4 V w'/\qR b4 b4 w' va vn vx (bC all (l.take j)) ns (vs++[ε]) L'/\ns.length=(bC all (l.take j)).length/\(∀n∈ns,n<=i+1)/\∀h:i< ns.length,ns[i]<=i,λx _=>(l.length - x).toNat,⟨0,va,vn,v57,ns,rfl,KT _,bw60,h60',hnl,λn hn=>by have :=hnb n hn;omega,λh=>hnb _ (Kg h)⟩,λx w67 hI=>?_⟩;obtain⟨j,va2,W,vx2,z,rfl,hj,μ,H,ζ,ο,hni67⟩:=hI;have hcl:=jg (l.take j) all;rw [KP]at hcl;have hpre:all<+:bC all (l.take j):=oD;have hple:=hpre.length_le;have s67:=μ.size;refine⟨λhlt2=>?_,λhge2=>?_⟩;rotate_left
 ·have hjl:j=l.length:=by simp only [J6]at hge2;omega
  subst hjl;rw [KA]at H ζ hpre hple;obtain⟨a78,cap78,hv78⟩:=H.a.strs.slice;refine⟨va2,H.c0,a78,_,cap78,hv78,λI=>?_,λI=>?_⟩
  ·have I:60< (bC all l).length:=by simp only [J4]at I;omega
   exact bad ((Ac h60 κ δ I).symm.trans υ).symm μ H
  ·have I:¬60< (bC all l).length:=by simp only [J6]at I;omega
   refine⟨by unfold aj;omega,⟨i+1,bC all l,va2,W,vx2,z,vs++[ε],L',by omega,by omega,by omega,λs hs=>?_,(xM h60 κ δ I).symm.trans υ,μ,H,ζ,by simp [hvl],ο⟩,by show(61 - ((i:Int)+1)).toNat< (61 - (i:Int)).toNat;omega⟩;exact(dG.1 hs).elim (hst' s) (Dk w δ s)
 have hjl:j< l.length:=by simp only [J4]at hlt2;omega
 have hmeas:((l.length:Int) - ((j:Int)+1)).toNat< ((l.length:Int) - j).toNat:=by omega
 refine(hls hpre H).get (Ex.refl _) (i:=j) (x:=l[j]) (by omega) (by rw [J9];exact J2 hjl) (Q:=λn=>_) ⟨va2,H.c0,B8 H.a.strs (by omega) λn74 hn74 _=>⟨λhq=>?_,λhq=>?_⟩⟩;rotate_left
 ·have hq:l[j]∈bC all (l.take j):=by
   simp only [J6]at hq;exact K1 λh=>hq (hn74.2 h)
  have e:bC all (l.take (j+1))=bC all (l.take j):=by rw [ju hjl];unfold ie;rw [KG hq]
  exact⟨by unfold aj;omega,⟨j+1,va2,W,vx2,z,by omega,by omega,μ,by rw [e];exact H,by rw [e];exact ζ,ο,hni67⟩,hmeas⟩
 have hq:l[j]∉bC all (l.take j):=by
  simp only [J4]at hq;exact hn74.1 hq
 have e:bC all (l.take (j+1))=bC all (l.take j)++[l[j]]:=by rw [ju hjl];unfold ie;rw [Ko hq]
 refine⟨va2,H.c0,λb77 w78 hb77 hw78=>?_⟩;have x78:Ex w67 w78:=hw78▸Ex.alloc w67 _;have s78:=x78.size;refine Own.push (H.a.ex x78) (by omega) (Strs.one hb77 hw78) (by simp only [J0,Kh];omega) λv84 w85 _ o85 g85 n85=>?_
 obtain⟨f85,q85⟩:=H.GQ (by omega) x78 o85 g85 n85;refine⟨o85.iL,f85,λw87 hw87=>⟨λ _=>True,λZ hw89=>⟨trivial,?_⟩⟩⟩;obtain⟨h87,b87⟩:=q85 w87 hw87;have x89:Ex w87 Z:=hw89▸Ex.drew w87;have α:=h87.ex x89;have s87:=b87.size;have s89:=x89.size;have bw89:Below b4 V Z:=LJ μ (LJ b87 (M9 x89 (by omega)));have hin:i< z.length:=by omega
 have hni:=hni67 hin;have hrd:∃χ ψ η,W= .slice (some ⟨χ,ψ,none⟩) z.length η/\Z.cell? ⟨χ,ψ+i,none⟩=some (iv z[i]):=by
  rcases α.n.BN (D:=λ _=>True) λ _ _=>trivial with⟨_,h0⟩ | ⟨b',off,cap',e1,_,_,hc⟩
  ·rw [ML]at h0;rw [h0]at hin;simp at hin
  ·rw [Kz]at e1;exact⟨b',off,cap',e1,hc i _ (by simp [hin])⟩
 obtain⟨χ,ψ,η,e92,hc92⟩:=hrd;have fin:∀(θ:Nat) (β:World),θ=Z.heap.size->β=Z.alloc (.cells #[.int .i64 ((z[i]:Int)+1)] tI)->JC β W (.slice (some ⟨θ,0,none⟩) 1 1) λv104 φ=>True/\oneV v104=true/\((∃u106:Value,World.cell? φ ⟨b4,1,none⟩=some u106)/\World.frozen? φ ⟨b4,1,none⟩=false)/\∀ν:World,ν=World.setCell φ ⟨b4,1,none⟩ v104->True/\aj ((j:Int)+1)/\(∃(j':Nat) (va vn vx:Value) (ns:List Nat),(j:Int)+1=j'/\j'<=l.length/\Below b4 V ν/\qR b4 b4 ν va vn vx (bC all (l.take j')) ns (vs++[ε]) L'/\ns.length=(bC all (l.take j')).length/\(∀n∈ns,n<=i+1)/\∀h:i< ns.length,ns[i]<=i)/\((l.length:Int) - ((j:Int)+1)).toNat< ((l.length:Int) - j).toNat:=λθ β J G=>by
  have x98:Ex Z β:=G▸Ex.alloc Z _;have s98:=x98.size;have ei:Value.int .i64 ((z[i]:Int)+1)=iv (z[i]+1):=rfl;refine GM (by_:=8) (α.n.ex x98) (by omega) (AG rfl J G) (by omega) (by simp only [Kz,J0,Kh];omega) λv104 φ o105 g105 n105=>?_
  rw [ei,show z.map iv++[iv (z[i]+1)]=(z++[z[i]+1]).map iv by simp]at o105;obtain⟨f105,q105⟩:=α.G0 (by omega) x98 o105 g105 n105;refine⟨trivial,o105.iL,f105,λν hw107=>?_⟩;obtain⟨h107,b107⟩:=q105 ν hw107;refine⟨trivial,by unfold aj;omega,⟨j+1,_,_,_,_,by omega,by omega,LJ bw89 b107,by rw [e];exact h107,by rw [e];simp [ζ],λn hn=>?_,λh=>?_⟩,hmeas⟩
  ·rcases Ke.1 hn with hn | hn
   ·exact ο n hn
   ·cases Kf.1 hn;omega
  ·rw [MI hin];exact hni
 have hInR:aj ((z[i]:Int)+1):=by unfold aj;omega
 have ς:Z.cell? ⟨χ,ψ+Int.toNat (i:Int)* 1,none⟩=some (.int .i64 (z[i]:Int)):=by rw [J9,KK];exact hc92
 refine⟨⟨W,α.c1,trivial,W,α.c1,trivial,χ,ψ,_,η,e92,by omega,by omega,_,ς,trivial,hInR,λθ β J G=>⟨trivial,fin θ β J G⟩⟩,W,α.c1,trivial,χ,ψ,_,η,e92,by omega,by omega,⟨W,α.c1,trivial,_,ς,trivial,hInR,λθ β J G=>⟨trivial,fin θ β J G⟩⟩,_,ς,trivial,hInR,⟨W,α.c1,trivial,λθ β J G=>⟨trivial,fin θ β J G⟩⟩,λb139 w140 hb139 hw140=>⟨trivial,W,?_,trivial,fin b139 w140 hb139 hw140⟩⟩;rw [(show Ex Z w140 from hw140▸Ex.alloc Z _).cell (a:=⟨b4,1,none⟩) α.lt];exact α.c1
theorem Dh {H:Off UInt8}{z a b:UInt8}{s:Tx}{q:Bool}{k:UInt8}(J:k≠126)(h:uy H (fO z a b s q)):∀c,H.over k=some c↔z=k/\c=a:=by
 intro c;cases H with
 | tau p=>
  obtain⟨_,_,_,h⟩:=h;unfold fO at h;simp only [KW,Ln,MG,Mc]at h;have G:z=126:=Ky.1 (by omega);exact⟨(λh=>by cases h),λh=>absurd (h.1.symm.trans G) J⟩
 | snd c d p=>
  obtain⟨_,h⟩:=h;unfold fO at h;simp only [KW,Ln,MG,Mc]at h;have G:z=33:=Ky.1 (by omega);have I:a=c:=Ky.1 (by omega);rw [yj,G,I]
 | rcv c d p V=>
  unfold uy fO at h;simp only [KW,Ln,MG,Mc]at h;have G:z=63:=Ky.1 (by omega);have I:a=c:=Ky.1 (by omega);rw [yb,G,I]
def Gs (k:UInt8)(t:P)(l:List (Off UInt8))(c:UInt8):Prop:=∃o∈l,o.over k=some c/\c∉t.frL
theorem Ec {k:UInt8}{t:P}{l m:List (Off UInt8)}{c:UInt8}:Gs k t (l++m) c↔Gs k t l c\/Gs k t m c:=by
 unfold Gs;constructor
 ·rintro⟨o,z,h⟩
  exact(Ke.1 z).imp (λG=>⟨o,G,h⟩) λG=>⟨o,G,h⟩
 ·rintro(⟨o,z,h⟩ | ⟨o,z,h⟩)
  ·exact⟨o,KH _ z,h⟩
  ·exact⟨o,KB _ z,h⟩
theorem xP {s:Tx}{k:UInt8}(hk:k≠126){w:World}{R:ay->Bool->World->Prop}(hR:∀w',Ex w w'->(cc s=none->R [] false w')/\∀n,cc s=some n->R (ji k n) true w'):
  Calls Tryz.prog 96 #[.string (ab s),.int .u8 k.toNat] w (ax [.s,.b] R):=by
 refine sV s k w R ?_;refine ve λw5 x5=>⟨λn V=>⟨(λh=>by cases h),λ _=>?_⟩,λV=>⟨λ _=>(hR w5 x5).1 V,(λh=>by cases h)⟩⟩
 obtain⟨t,ok,rfl⟩:=uS V;have hR:∀w',Ex w w'->R (Cb k t) true w':=λw' x=>by have :=(hR w' x).2 _ V;rwa [vV ok]at this
 have su:=ok.su;obtain⟨hn,δ⟩:=wZ ok;have μ:Ok t:=Dc ok.al ok.good;have ν:∀q∈t.ths,Ok q:=λq hq=>⟨(su.al q hq).wf,by rw [aY];have :=(δ q hq).2;omega⟩
 have hfl:t.frL.length<=1099511627776:=by have :=Bi t;have :=ok.len;omega
 refine qe μ (qP μ ok.nr λv9 w10 x10 o9=>?_);have ξ:=o9.strs;obtain⟨a,cap,hv⟩:=ξ.slice;rw [Kz]at hv;refine⟨a,_,cap,hv,λout x w'=>∃i:Nat,x=i/\i<=t.ths.length/\Ex w10 w'/\ib out/\∀c,c∈out↔Gs k t ((t.ths.take i).flatMap offs) c,λ _ x _=>(t.ths.length - x).toNat,⟨0,rfl,KT _,Ex.refl _,ib.nil,by simp [Gs]⟩,λout x w18 hI=>?_⟩;obtain⟨i,rfl,hi,ε,ο,hm⟩:=hI;refine⟨λhlt=>?_,λhge=>?_⟩;rotate_left
 ·have hil:i=t.ths.length:=by simp only [J6]at hge;omega
  rw [hil,KA]at hm;have:out=Cb k t:=wW ο (Fi k t) λc=>by
   rw [hm,A6 su];constructor
   ·rintro⟨o,W,h1,h2⟩
    obtain⟨q,hq,W⟩:=KU.1 W;exact⟨h2,q,hq,o,W,h1⟩
   ·rintro⟨h2,q,hq,o,W,h1⟩
    exact⟨o,KU.2 ⟨q,hq,W⟩,h1,h2⟩
  rw [this];exact hR w18 (Ex.trans x5 (Ex.trans x10 ε))
 have ζ:i< t.ths.length:=by simp only [J4]at hlt;omega
 have Z:=Kg ζ;have eT:(t.ths.take (i+1)).flatMap offs=(t.ths.take i).flatMap offs++offs t.ths[i]:=by rw [J8 ζ,Lf];simp
 refine ξ.get ε (i:=i) (x:=t.ths[i].text) (by omega) (by simp [ζ]) (Q:=λn=>_) (nM _ (Kb _) (ν _ Z) (su.smpP _ Z) (by have :=(δ _ Z).1;omega) λv24 ς xs x25 υ m24=>?_);obtain⟨a26,η,H⟩:=υ.slice;have hm1:((t.ths.length:Int) - ((i:Int)+1)).toNat< ((t.ths.length:Int) - i).toNat:=by omega
 have hol:(offs t.ths[i]).length<=60:=by have :=fJ t.ths[i];have :=(δ _ Z).1;omega
 generalize hos:offs t.ths[i]=os at*;refine⟨a26,_,η,H,λout x w'=>∃j:Nat,x=j/\j<=os.length/\Ex ς w'/\ib out/\∀c,c∈out↔Gs k t ((t.ths.take i).flatMap offs++os.take j) c,λ _ x _=>(os.length - x).toNat,⟨0,rfl,KT _,Ex.refl _,ο,by simpa using hm⟩,λγ x w33 hI=>?_⟩;obtain⟨j,rfl,hj,θ,I,α⟩:=hI;refine⟨λφ=>?_,λχ=>?_⟩;rotate_left
 ·have β:j=os.length:=by simp only [J6]at χ;omega
  rw [β,KA,<-eT]at α;exact⟨by unfold aj;omega,⟨i+1,by omega,by omega,Ex.trans ε (Ex.trans x25 θ),I,α⟩,hm1⟩
 have β:j< os.length:=by simp only [J4]at φ;omega
 have ψ:((os.length:Int) - ((j:Int)+1)).toNat< ((os.length:Int) - j).toNat:=by omega
 obtain⟨g,ω,cs,hvg,hcs,z⟩:=sA (υ.ex θ) m24 β;obtain⟨kk,ca,cb,cs3,cq,rfl⟩:=hcs.any;rw [H]at hvg;refine⟨g,0,_,ω,H.trans hvg,by omega,by omega,kk,ca,cb,cs3,cq,⟨z 0 _ rfl _ (by omega) (by omega),z 1 _ rfl _ (by omega) (by omega),z 2 _ rfl _ (by omega) (by omega),z 3 _ rfl _ (by omega) (by omega),z 4 _ rfl _ (by omega) (by omega),trivial⟩,λb43 w44 hb43 hw44=>?_⟩;obtain⟨box1,box2⟩:=Ik (cs:=fO kk ca cb cs3 cq) rfl rfl hb43 hw44;refine⟨⟨rfl,tz,box1⟩,λw45 hw45=>?_⟩;obtain⟨x45,l45,ι⟩:=box2 w45 hw45;have J:=Ex.trans θ x45;have κ:=Dh hk hcs;have etk:(t.ths.take i).flatMap offs++os.take (j+1)=((t.ths.take i).flatMap offs++os.take j)++[os[j]]:=by rw [J8 β,KN]
 have skip:∀{w':World},Ex w45 w'->(¬(kk=k/\ca∉t.frL))->aj ((j:Int)+1)/\(∃j':Nat,(j:Int)+1=j'/\j'<=os.length/\Ex ς w'/\ib γ/\∀c,c∈γ↔Gs k t ((t.ths.take i).flatMap offs++os.take j') c)/\((os.length:Int) - ((j:Int)+1)).toNat< ((os.length:Int) - j).toNat:=λ{w'} x h=>by
  refine⟨by unfold aj;omega,⟨j+1,by omega,by omega,Ex.trans J x,I,λc=>?_⟩,ψ⟩;rw [etk,Ec,α];have:¬Gs k t [os[j]] c:=by
   rintro⟨o,W,h1,h2⟩
   cases Kf.1 W;obtain⟨h3,h4⟩:=(κ c).1 h1;exact h ⟨h3,h4▸h2⟩
  simp [this]
 refine⟨kk,ι 0 (by omega),λG=>⟨ca,ι 1 (by omega),eH hfl ⟨λhn=>⟨ca,ι 1 (by omega),?_⟩,λhn=>skip (Ex.refl _) ?_⟩⟩,λG=>skip (Ex.refl _) ?_⟩
 ·have G:kk=k:=by simpa using G
  have hn:ca∉t.frL:=by simpa using hn
  refine fu I λs' w52 x52 hs' hm'=>⟨by unfold aj;omega,⟨j+1,by omega,by omega,Ex.trans J x52,hs',λc=>?_⟩,ψ⟩
  rw [hm',etk,Ec,α];have:Gs k t [os[j]] c↔c=ca:=by
   constructor
   ·rintro⟨o,W,h1,h2⟩
    cases Kf.1 W;exact((κ c).1 h1).2
   ·rintro rfl
    exact⟨_,Kf.2 rfl,(κ _).2 ⟨G,rfl⟩,hn⟩
  rw [this];exact or_comm
 ·have hn:ca∈t.frL:=by simpa using hn
  exact λh=>h.2 hn
 ·have G:kk≠k:=by simpa using G
  exact λh=>G h.1
theorem B0 {s:Tx}(H:St s){w:World}{R:ay->ay->World->Prop}(I:∀w',Ex w w'->R (ji 33 s) (ji 63 s) w'):
  Calls Tryz.prog 103 #[.string (ab s)] w (ax [.s,.s] R):=by
 obtain⟨t,ok,rfl⟩:=H;have z:=BR ok;refine qS _ w R ?_;refine rh _ w _ ?_;refine xP (k:=33) (by decide) λw1 J=>⟨(λh=>by rw [z]at h;cases h),λn G=>?_⟩
 rw [z]at G;cases G;refine nz _ w1 _ ?_;refine xP (k:=63) (by decide) λw2 V=>⟨(λh=>by rw [z]at h;cases h),λn G=>?_⟩
 rw [z]at G;cases G;exact I w2 (Ex.trans J V)
theorem xK (k:UInt8)(s:Tx):(ji k s).length<=26:=by
 have:iO.length=26:=by simp [iO]
 unfold ji;split
 ·exact this▸Mf _ _
 ·simp
theorem DI {w w1:World}{b3 e:Nat}{x y z:Value}(hb:b3=w.heap.size)(h:w1=w.alloc (.cells #[x,y,z] e)):∀{w':World},Ex w1 w'->∀j,j< 3->(∃u,w'.cell? ⟨b3,j,none⟩=some u)/\w'.frozen? ⟨b3,j,none⟩=false:=λ{w'} k j G=>by
 have s1:w1.heap.size=w.heap.size+1:=by rw [h,size_alloc]
 rw [k.cell (a:=⟨b3,j,none⟩) (show b3< _ by omega),Lr k (show b3< _ by omega),h,hb];refine⟨?_,aG _ _ _ _⟩
 match j,G with
 | 0,_=>exact⟨_,aa rfl⟩
 | 1,_=>exact⟨_,aa rfl⟩
 | 2,_=>exact⟨_,aa rfl⟩
def IW (w:World)(b r:Nat)(fs:Tx)(x:Int)(w':World):Prop:=
 ∃(i:Nat) (all:List Tx) (mm:Value->Option Value) (L:Nat->Prop),x=i/\i<=all.length/\all.length<=60/\(∀s∈all,St s)/\bfs (62 - i) all i=bfs 62 [fs] 0/\Ex w w'/\xj w.heap.size b r fs w' all i mm L
def Js (w:World)(b r:Nat)(fs:Tx)(all:List Tx)(n:Nat)(vl:Value)(l:List Tx)(mm:Value->Option Value)(x:Int)(w':World):Prop:=
 ∃(j:Nat) (L:Nat->Prop),x=j/\j<=l.length/\Ex w w'/\Strs w' vl l/\xj w.heap.size b r fs w' (bC all (l.take j)) n mm L
theorem xj.strs {B b r n:Nat}{fs:Tx}{w:World}{all l:List Tx}{mm:Value->Option Value}{L:Nat->Prop}(h:xj B b r fs w all n mm L){j:Nat}(H:j< all.length)(z:j< n){v:Value}(hm:mm (.string (ab all[j]))=some v)(I:tF all[j]=some l):Strs w v l:=by
 obtain⟨v',V,G,h2,J,_⟩:=h.nx j H z;rw [hm]at G;cases G;rw [I]at h2;cases h2;exact J
theorem qw {s:Tx}{w:World}{R:Value->Bool->World->Prop}(hR1:bT s=none->∀w',Ex w w'->R (.pointer none) false w')
  (hR2:∀n0 all,cc s=some n0->bT s=some all->(∀x∈all,St x)->all.length<=60->∀b r mm L w',Ex w w'->xj w.heap.size b r n0 w' all all.length mm L->R (ptr b) true w'):
  Calls Tryz.prog 90 #[.string (ab s)] w (ax [.v,.b] R):=by
 refine qX s w R ?_;refine Cr (λhn w4 x4=>⟨λ _=>hR1 (by unfold bT;rw [hn];rfl) w4 x4,(λh=>by cases h)⟩) λt ok hst b2 w4 x4 hb2 st=>⟨(λh=>by cases h),λ _=>?_⟩
 have hg:bT s=bfs 62 [t.text] 0:=by unfold bT;rw [hst];rfl
 rw [hg]at hR1 hR2;have hb2l:=st.mc.lt;have ctx:∀w',Ex w4 w'->w'.cell? ⟨b2,0+1,none⟩=some (.string (ab t.text)):=λw' x=>by rw [x.cell (a:=⟨b2,0+1,none⟩) hb2l];exact st.tx
 refine⟨λw'=>Ex w4 w',λw6 hw6=>⟨hw6▸Ex.drew w4,b2,0,rfl,t.text,ctx,b2,0,rfl,t.text,ctx,?_,?_⟩⟩;have x6:Ex w4 w6:=hw6▸Ex.drew w4;intro bo V κ G;have H:Ex w6 V:=G▸Ex.alloc w6 _;have μ:V.heap.size=w6.heap.size+1:=by rw [G,size_alloc]
 refine⟨Ex.trans x6 H,?_⟩;intro r W hr I;have J:Ex V W:=I▸Ex.alloc V _;have ν:W.heap.size=V.heap.size+1:=by rw [I,size_alloc]
 refine⟨Ex.trans x6 (Ex.trans H J),rfl,rfl,?_⟩;intro b Z hb z;have δ:Ex W Z:=z▸Ex.alloc W _;have s18:Z.heap.size=W.heap.size+1:=by rw [z,size_alloc]
 have α:=Ex.trans H (Ex.trans J δ);refine⟨Ex.trans x6 α,?_⟩;have s4:=x4.size;have s6:=x6.size;have em:Z.heap[r]?=some (.map #[] 0):=by rw [δ.block r (by omega),I,hr];unfold World.alloc;simp
 have hI:xj w.heap.size b r t.text Z [t.text] 0 (cH []) λ _=>False:=by
  refine⟨by omega,by omega,by omega,by omega,λj=>by rw [z,hb];exact aG _ _ _ _,by rw [z,hb];exact aa rfl,by rw [z,hb];exact aa rfl,⟨#[],0,em,⟨by simp,by simp,by simp⟩,by simp,λq=>rfl⟩,λg hg=>hg.elim,⟨.slice (some ⟨bo,0,none⟩) 1 1,by rw [z,hb];exact aa rfl,(Own.one (by omega) κ G).ex (Ex.trans J δ),λg hg=>?_⟩,λj _ hj=>by omega⟩;have hg:bo=g:=KS hg;exact⟨by omega,by omega,λh=>h⟩
 have ξ:Ex w Z:=Ex.trans x4 (Ex.trans x6 α);clear em z I G s18 ν μ hb hr κ H J δ α x6 s6;refine⟨IW w b r t.text,λx _=>(61 - x).toNat,⟨0,[t.text],_,_,rfl,by simp,by simp,λs hs=>by cases Kf.1 hs;exact⟨t,ok,rfl⟩,rfl,ξ,hI⟩,λx w22 hO=>?_⟩;rotate_left
 have x6:Ex w4 w6:=hw6▸Ex.drew w4;intro r V hr G;have H:Ex w6 V:=G▸Ex.alloc w6 _;have μ:V.heap.size=w6.heap.size+1:=by rw [G,size_alloc]
 refine⟨Ex.trans x6 H,?_⟩;intro bo W κ I;have J:Ex V W:=I▸Ex.alloc V _;have ν:W.heap.size=V.heap.size+1:=by rw [I,size_alloc]
 refine⟨Ex.trans x6 (Ex.trans H J),rfl,rfl,?_⟩;intro b Z hb z;have δ:Ex W Z:=z▸Ex.alloc W _;have s18:Z.heap.size=W.heap.size+1:=by rw [z,size_alloc]
 have α:=Ex.trans H (Ex.trans J δ);refine⟨Ex.trans x6 α,?_⟩;have s4:=x4.size;have s6:=x6.size;have em:Z.heap[r]?=some (.map #[] 0):=by rw [δ.block r (by omega),J.block r (by omega),G,hr];unfold World.alloc;simp
 have hI:xj w.heap.size b r t.text Z [t.text] 0 (cH []) λ _=>False:=by
  refine⟨by omega,by omega,by omega,by omega,λj=>by rw [z,hb];exact aG _ _ _ _,by rw [z,hb];exact aa rfl,by rw [z,hb];exact aa rfl,⟨#[],0,em,⟨by simp,by simp,by simp⟩,by simp,λq=>rfl⟩,λg hg=>hg.elim,⟨.slice (some ⟨bo,0,none⟩) 1 1,by rw [z,hb];exact aa rfl,(Own.one (by omega) κ I).ex δ,λg hg=>?_⟩,λj _ hj=>by omega⟩;have hg:bo=g:=KS hg;exact⟨by omega,by omega,λh=>h⟩
 have ξ:Ex w Z:=Ex.trans x4 (Ex.trans x6 α);clear em z I G s18 ν μ hb hr κ H J δ α x6 s6;refine⟨IW w b r t.text,λx _=>(61 - x).toNat,⟨0,[t.text],_,_,rfl,by simp,by simp,λs hs=>by cases Kf.1 hs;exact⟨t,ok,rfl⟩,rfl,ξ,hI⟩,λx w22 hO=>?_⟩
 all_goals
  obtain⟨i,all,mm,L,rfl,hi,ο,ς,θ,x22,hO⟩:=hO;obtain⟨v,hv1,hv2,hv3⟩:=hO.sl;obtain⟨a,cap,hv⟩:=hv2.strs.slice;refine⟨v,hv1,a,_,cap,hv,λhlt=>?_,λhge=>?_⟩;rotate_left
  ·have β:¬i< all.length:=by simp only [J6]at hge;omega
   have e:=(AB ο β hi).symm.trans θ;have ei:i=all.length:=by omega
   subst ei;exact hR2 _ _ hst e.symm ς ο b r mm L w22 x22 hO
  have β:i< all.length:=by simp only [J4]at hlt;omega
  refine⟨v,hv1,hv2.strs.get (Ex.refl _) (i:=i) (x:=all[i]) (by omega) (by rw [J9];exact J2 β) (Q:=λn=>_) ?_⟩;obtain⟨t',y4,et⟩:=ς _ (Kg β);have hsz':=y4.size;have hlen':=y4.len;have hnq:=Dn y4;have s22:=x22.size;rw [et]at hnq;rw [<-et];refine zP y4.al (by omega) (by omega) λb33 w34 υ hb33 st'=>CW y4 st' (λg hg=>⟨hg.2.1,hg.2.2⟩) (λhn η k37=>⟨λ _=>hR1 ((yU ο β (hnq.trans hn)).symm.trans θ).symm η ?_,(λh=>by cases h)⟩) λl hl v35 η k37 hs35 hv35=>⟨(λh=>by cases h),λ _=>?_⟩
  ·exact Ex.trans x22 (Ex.below υ (Kp.below k37 υ.size λg hg e=>by omega))
  have ι:=hnq.trans hl;have s34:=υ.size;have ε:Ex w22 η:=Ex.below υ (Kp.below k37 υ.size λg hg e=>by omega);obtain⟨bv,ov,capv,hv',hbv,hcv⟩:=hv2.strs.at β;refine⟨λw'=>Ex η w',λw39 hw39=>⟨hw39▸Ex.drew η,.map (some r),λw' x=>(hO.ex (Ex.trans ε x)).c2,v,λw' x=>?_,bv,ov,_,capv,hv',by omega,by omega,all[i],λw' x=>?_,r,mm,rfl,?_⟩⟩
  ·rw [(Ex.trans ε x).cell (a:=⟨b,1,none⟩) hO.lt];exact hv1
  ·rw [(Ex.trans ε x).cell (a:=⟨bv,_,none⟩) hbv,J9,KK];exact hcv
  have x39:Ex η w39:=hw39▸Ex.drew η;have ζ:=Ex.trans ε x39;refine⟨(hO.ex ζ).mp,λw49 hm49 k49=>?_⟩;have hU:=hO.aF s22 ζ β ι hm49 k49 (hs35.ex x39) λg hg=>by have :=hv35 g hg;omega
  have x49:Ex w w49:=Ex.below (Ex.trans x22 ζ) (Kp.below (Kp.jI k49) (by have :=ζ.size;omega) λg hg e=>by have :=hO.lr;omega);generalize hmm':bK mm (.string (ab all[i])) v35=mm' at*;have hkey:mm' (.string (ab all[i]))=some v35:=by rw [<-hmm'];unfold bK;simp
  have φ:∀{w':World} {cur:List Tx} {L':Nat->Prop},all<+:cur->xj w.heap.size b r t.text w' cur (i+1) mm' L'->Strs w' v35 l:=λ{w' cur L'} hp h=>by
   have e:∃h:i< cur.length,cur[i]=all[i]:=⟨Kx β hp.length_le,(hp.getElem β).symm⟩
   obtain⟨h1,h2⟩:=e;exact h.strs h1 (by omega) (by rw [h2];exact hkey) (by rw [h2];exact ι)
  have hll:=rC ι;obtain⟨av,capl,hvl⟩:=hs35.slice;refine⟨av,_,capl,hvl,Js w b r t.text all (i+1) v35 l mm',λx _=>(l.length - x).toNat,⟨0,_,rfl,KT _,x49,φ (No _) hU,hU⟩,λx w56 hI=>?_⟩;obtain⟨j,L1,rfl,hj,χ,hs56,hI⟩:=hI;obtain⟨v62,c62,o62,n62⟩:=hI.sl;have hcl:=jg (l.take j) all;rw [KP]at hcl;have ψ:all<+:bC all (l.take j):=oD;have hple:=ψ.length_le;refine⟨λhlt2=>?_,λhge2=>?_⟩;rotate_left
  ·have ω:j=l.length:=by simp only [J6]at hge2;omega
   subst ω;rw [KA]at hI hple ψ o62;obtain⟨a78,cap78,hv78⟩:=o62.strs.slice;refine⟨v62,c62,a78,_,cap78,hv78,λγ=>?_,λγ=>?_⟩
   ·have γ:60< (bC all l).length:=by simp only [J4]at γ;omega
    exact hR1 ((Ac ο β ι γ).symm.trans θ).symm w56 χ
   ·have γ:¬60< (bC all l).length:=by simp only [J6]at γ;omega
    refine⟨by unfold aj;omega,⟨i+1,bC all l,mm',L1,by omega,by omega,by omega,λs hs=>?_,(xM ο β ι γ).symm.trans θ,χ,hI⟩,by show(61 - ((i:Int)+1)).toNat< (61 - (i:Int)).toNat;omega⟩;exact(dG.1 hs).elim (ς s) (Dk w ι s)
  have ω:j< l.length:=by simp only [J4]at hlt2;omega
  have hmeas:((l.length:Int) - ((j:Int)+1)).toNat< ((l.length:Int) - j).toNat:=by omega
  refine hs56.get (Ex.refl _) (i:=j) (x:=l[j]) (by omega) (by rw [J9];exact J2 ω) (Q:=λn=>_) ⟨v62,c62,A1 o62.strs (by omega) ⟨λhq=>⟨v62,c62,λb66 w67 hb66 hw67=>?_⟩,λhq=>?_⟩⟩
  ·have hq:l[j]∉bC all (l.take j):=by simpa using hq
   have x67:Ex w56 w67:=hw67▸Ex.alloc w56 _;have s56:=χ.size;have s67:=x67.size;refine Own.push (o62.ex x67) (by omega) (Strs.one hb66 hw67) (by simp only [J0,Kh];omega) λv73 w74 _ ho hg hn=>?_
   obtain⟨f1,f2⟩:=hI.app (by omega) s56 c62 x67 ho hg hn;refine⟨ho.iL,f1,λw76 hw76=>?_⟩;obtain⟨h76,b76⟩:=f2 w76 hw76;have e:bC all (l.take (j+1))=bC all (l.take j)++[l[j]]:=by rw [ju ω];unfold ie;rw [Ko hq]
   refine⟨by unfold aj;omega,⟨j+1,L1,by omega,by omega,Ex.below χ b76,φ (ψ.trans (List.prefix_append _ _)) h76,by rw [e];exact h76⟩,hmeas⟩
  ·have hq:l[j]∈bC all (l.take j):=by simpa using hq
   have e:bC all (l.take (j+1))=bC all (l.take j):=by rw [ju ω];unfold ie;rw [KG hq]
   exact⟨by unfold aj;omega,⟨j+1,L1,by omega,by omega,χ,hs56,by rw [e];exact hI⟩,hmeas⟩
theorem zo {a:List Tx}{s:Tx}(h:a.Nodup):(ie a s).Nodup:=by
 unfold ie;split
 ·exact h
 ·rename_i z;exact KL.2 ⟨h,by simp,λx G y H=>by cases Kf.1 H;exact λe=>z (e▸G)⟩
theorem rY:∀{l a:List Tx},a.Nodup->(bC a l).Nodup
 | [],_,h=>h
 | s::l,a,h=>rY (l:=l) (a:=ie a s) (zo h)
structure G1 (all:List Tx)(n:Nat):Prop where
 nd:all.Nodup
 cl:∀(j:Nat) (h:j< all.length),j< n->∃l,tF all[j]=some l/\∀s∈l,s∈all
theorem Bl:∀(f:Nat) (all:List Tx) (i:Nat) (out:List Tx),G1 all i->bfs f all i=some out->G1 out out.length/\all<+:out
 | 0,_,_,_,_,h=>by cases h
 | f+1,all,i,out,c,h=>by
  unfold bfs at h;split at h
  ·rename_i I;split at h
   ·cases h
   ·rename_i l V;split at h
    ·exact absurd h (by simp)
    ·have G:all<+:bC all l:=oD;have c2:G1 (bC all l) (i+1):=⟨rY c.nd,λj J W=>by
      by_cases e:j=i
      ·subst e;exact⟨l,by rw [<-G.getElem I];exact V,λs H=>dG.2 (.inr H)⟩
      ·have z:j< all.length:=by omega
       obtain⟨Z,h3,h4⟩:=c.cl j z (by omega);exact⟨Z,by rw [<-G.getElem z];exact h3,λs H=>dG.2 (.inl (h4 s H))⟩⟩
     obtain⟨h1,h2⟩:=Bl f (bC all l) (i+1) out c2 h;exact⟨h1,G.trans h2⟩
  ·rename_i I;cases h;exact⟨⟨c.nd,λj J _=>c.cl j J (by omega)⟩,No _⟩
theorem nI {s n0:Tx}{all:List Tx}(z:cc s=some n0)(h:bT s=some all):G1 all all.length/\[n0]<+:all:=by
 unfold bT at h;rw [z]at h;exact Bl 62 [n0] 0 all ⟨by simp,λj _ G=>by omega⟩ h
theorem G1.nx {all:List Tx}(c:G1 all all.length){s:Tx}(h:s∈all):∃l,tF s=some l/\∀x∈l,x∈all:=by
 obtain⟨j,z,rfl⟩:=KY.1 h;exact c.cl j z z
noncomputable def D8 (s:Tx):List Tx:=(tF s).getD []
theorem vY {s:Tx}{l:List Tx}(h:tF s=some l):D8 s=l:=by unfold D8;rw [h];rfl
def put (f:Tx->Bool)(s:Tx)(b:Bool):Tx->Bool:=λx=>if x=s then b else f x
def cnt (l:List Tx)(f:Tx->Bool):Nat:=l.countP f
theorem HT {f:Nat}{ca:List Value}{w:World}{v:Value}{l:List Tx}(h:Strs w v l)(hl:l.length<=1099511627776)(hf:List.contains dh f=true)(H:Tx->Prop)
  (hp:∀s∈l,∀(w':World) (Q:Bool->World->Prop),Ex w w'->(∀w2,Ex w' w2->Q (decide (H s)) w2)->Calls Tryz.prog f (List.toArray ([.string (ab s)]++ca)) w' (ax [.b] Q))
  {R:Int->World->Prop} (W:∀w',Ex w w'->(∀(j:Nat) (h:j< l.length),H l[j]->(∀s∈l.take j,¬H s)->R j w')/\((∀s∈l,¬H s)->R (-1) w')):
  Calls Tryz.prog 61 #[v,.func (Fn.func f) #[] ca.toArray] w (ax [.i] R):=by
 refine gL v _ w _ ?_;obtain⟨ao,cap,hv⟩:=h.slice;refine⟨ao,_,cap,hv,λi w'=>∃j:Nat,i=j/\j<=l.length/\Ex w w'/\∀s∈l.take j,¬H s,λi _=>(l.length - i).toNat,⟨0,rfl,KT _,Ex.refl w,by simp⟩,λi w' hI=>?_⟩;obtain⟨j,rfl,hj,x,hm⟩:=hI;refine⟨λJ=>?_,λV=>?_⟩
 ·have z:j< l.length:=by simp only [J4]at J;omega
  refine h.get x (i:=j) (x:=l[j]) (by omega) (by rw [J9];exact J2 z) (Q:=λn=>_) ⟨f,ca,rfl,hf,?_⟩;refine hp _ (Kg z) _ _ x λw2 Z=>⟨λhe=>?_,λG=>?_⟩
  ·exact(W w2 (Ex.trans x Z)).1 j z (by simpa using he) hm
  ·have G:¬H l[j]:=by simpa using G
   refine⟨by unfold aj;omega,⟨j+1,by omega,by omega,Ex.trans x Z,λs I=>?_⟩,by show((l.length:Int) - ((j:Int)+1)).toNat< ((l.length:Int) - j).toNat;omega⟩;rw [J8 z,Ke,Kf]at I;exact I.elim (hm s) λe=>e▸G
 ·have:j=l.length:=by simp only [J6]at V;omega
  rw [this,KA]at hm;exact(W w' x).2 hm
theorem D1 {f:Nat}{ca:List Value}{w:World}{v:Value}{l:List Tx}(h:Strs w v l)(I:l.length<=1099511627776)(J:List.contains dh f=true)(z:Tx->Prop)
  (V:∀s∈l,∀(w':World) (Q:Bool->World->Prop),Ex w w'->(∀w2,Ex w' w2->Q (decide (z s)) w2)->Calls Tryz.prog f (List.toArray ([.string (ab s)]++ca)) w' (ax [.b] Q))
  {R:Bool->World->Prop} (H:∀w',Ex w w'->R (decide (∃s∈l,z s)) w'):
  Calls Tryz.prog 47 #[v,.func (Fn.func f) #[] ca.toArray] w (ax [.b] R):=by
 refine fD v _ w R ?_;refine HT h I J z V λw' x=>⟨λj W G _=>?_,λZ=>?_⟩
 ·show R (decide (0<=(j:Int))) _;rw [Lc (show(0:Int)<=(j:Int) by omega)];have :=H w' x;rw [Lc ⟨_,Kg W,G⟩]at this;exact this
 ·show R (decide ((0:Int)<= -1)) _;rw [Lj (show ¬(0:Int)<= -1 by omega)];have :=H w' x;rw [Lj (fun⟨s,h1,h2⟩=>Z s h1 h2)]at this;exact this
noncomputable def zG (w:World)(r:Nat):Value->Option Value:=match w.heap[r]? with
 | some (.map es _)=>cH es.toList
 | _=>λ _=>none
theorem fp {w:World}{r:Nat}{d:TypeDesc}{m:Value->Option Value}(h:IsMap w r d m):zG w r=m:=by
 obtain⟨es,clock,z,_,_,h2⟩:=h;unfold zG;rw [z];exact funext λq=>(h2 q).symm
structure Ep (w:World)(r c:Nat)(P:Tx->Prop)(f:Tx->Bool)(w':World):Prop where
 ex:Ex w w'
 lr:w.heap.size<=r
 lc:w.heap.size<=c
 ne:c≠r
 lt:c< w'.heap.size
 c0:w'.cell? ⟨c,0,none⟩=some (.map (some r))
 mp:∃m,IsMap w' r .string m/\∀s,P s->m (.string (ab s))=some (.bool (f s))
section
variable {w w1 w2:World} {r c:Nat} {P:Tx->Prop} {f:Tx->Bool}
theorem Ep.to (h:Ep w r c P f w1)(x:Ex w1 w2):Ep w r c P f w2:=by
 obtain⟨m,z,h2⟩:=h.mp;have :=x.size;have :=h.lt;exact⟨Ex.trans h.ex x,h.lr,h.lc,h.ne,by omega,by rw [x.cell (a:=⟨c,0,none⟩) h.lt];exact h.c0,m,aU z (x.block r (bX z)),h2⟩
theorem Ep.aF (h:Ep w r c P f w1){m:Value->Option Value}(hm:IsMap w1 r .string m){s:Tx}{b:Bool}(z:IsMap w2 r .string (bK m (.string (ab s)) (.bool b)))(k:bc w1 w2 r):Ep w r c (λx=>P x\/x=s) (put f s b) w2:=by
 obtain⟨m',G,h2⟩:=h.mp;have e:m'=m:=(fp G).symm.trans (fp hm);subst e;have kp:=Kp.jI k;have s1:=h.ex.size;have I:=h.lt;have l2:=k.size;have J:=h.lr;refine⟨Ex.below h.ex (Kp.below kp s1 λg V e=>by omega),h.lr,h.lc,h.ne,by omega,by rw [J1 (w:=w1) (k.block c h.ne)];exact h.c0,_,z,λx H=>?_⟩;unfold bK put;by_cases e:x=s
 ·rw [KG e,KG (by rw [e])]
 ·rw [Ko e,Ko λh=>e (eg (MQ h))];exact h2 x (H.resolve_right e)
theorem Ep.cnt {all:List Tx}(h:Ep w r c (λs=>s∈all) f w1):Proofs.YtdecokaadekjnaaGreat.cnt all (λs=>decide (zG w1 r (.string (ab s))=some (.bool true)))=Proofs.YtdecokaadekjnaaGreat.cnt all f:=by
 obtain⟨m,z,h2⟩:=h.mp;rw [fp z];unfold Proofs.YtdecokaadekjnaaGreat.cnt;refine List.countP_congr λs G=>?_
 rw [h2 s G];simp
end
theorem Ep.mono {w w1:World}{r c:Nat}{P z:Tx->Prop}{f G:Tx->Bool}(h:Ep w r c P f w1)(H:∀s,z s->P s/\G s=f s):Ep w r c z G w1:=by
 obtain⟨m,J,h2⟩:=h.mp;exact⟨h.ex,h.lr,h.lc,h.ne,h.lt,h.c0,m,J,λs I=>by rw [(H s I).2];exact h2 s (H s I).1⟩
inductive pD:Tx->Tx->Prop
 | refl (s:Tx):pD s s
 | step {s t u:Tx}:pD s t->u∈D8 t->pD s u
theorem pD.trans {s t u:Tx}(h:pD s t)(k:pD t u):pD s u:=by
 induction k with
 | refl=>exact h
 | step _ hu z=>exact .step z hu
theorem pD.front {s t u:Tx}(h:t∈D8 s)(k:pD t u):pD s u:=pD.trans (.step (.refl s) h) k
def Cl (all:List Tx):Prop:=∀s∈all,∃l,tF s=some l/\∀x∈l,x∈all
theorem Cl.D8 {all:List Tx}(c:Cl all){s x:Tx}(G:s∈all)(z:x∈D8 s):x∈all:=by
 obtain⟨l,H,h2⟩:=c s G;rw [vY H]at z;exact h2 x z
theorem Cl.Iq {all:List Tx}(c:Cl all){s t:Tx}(z:s∈all)(h:pD s t):t∈all:=by
 induction h with
 | refl=>exact z
 | step _ hu G=>exact c.D8 G hu
theorem G1.Jo {all:List Tx}(c:G1 all all.length):Cl all:=λ _ z=>c.nx z
theorem Cl.add {a b:List Tx}(ha:Cl a)(hb:Cl b):Cl (bC a b):=λs H=>by
 rcases dG.1 H with h | h
 ·obtain⟨l,z,h2⟩:=ha s h;exact⟨l,z,λx G=>dG.2 (.inl (h2 x G))⟩
 ·obtain⟨l,z,h2⟩:=hb s h;exact⟨l,z,λx G=>dG.2 (.inr (h2 x G))⟩
theorem AA {n0:Tx}:∀(f:Nat) (all:List Tx) (i:Nat) (out:List Tx),(∀x∈all,pD n0 x)->bfs f all i=some out->∀x∈out,pD n0 x
 | 0,_,_,_,_,h=>by cases h
 | f+1,all,i,out,c,h=>by
  unfold bfs at h;split at h
  ·rename_i z;split at h
   ·cases h
   ·rename_i l G;split at h
    ·exact absurd h (by simp)
    ·refine AA f (bC all l) (i+1) out (λx H=>?_) h;rcases dG.1 H with h | h
     ·exact c x h
     ·exact .step (c _ (Kg z)) (by rw [vY G];exact h)
  ·cases h;exact c
theorem y7 {s n0:Tx}{all:List Tx}(G:cc s=some n0)(h:bT s=some all):∀t,t∈all↔pD n0 t:=by
 obtain⟨c,H⟩:=nI G h;have I:n0∈all:=H.subset (by simp);refine λt=>⟨λz=>?_,λz=>c.Jo.Iq I z⟩
 unfold bT at h;rw [G]at h;exact AA 62 [n0] 0 all (λx J=>by cases Kf.1 J;exact .refl _) h t z
def JL (k:UInt8)(s:Tx)(c:UInt8):Prop:=∃t,pD s t/\c∈ji k t
noncomputable def pC (k:UInt8)(s:Tx):Tx:=iO.filter λc=>decide (JL k s c)
theorem xA {k:UInt8}{s:Tx}{c:UInt8}(h:c∈ji k s):c∈iO:=by
 unfold ji at h;split at h
 ·unfold Cb at h;exact(L5.1 h).1
 ·cases h
theorem AH {k:UInt8}{s:Tx}{c:UInt8}:c∈pC k s↔JL k s c:=by
 unfold pC;rw [L5,J4];exact⟨λh=>h.2,λh=>⟨by obtain⟨t,_,z⟩:=h;exact xA z,h⟩⟩
theorem Bb (k:UInt8)(s:Tx):(pC k s).Pairwise (· < ·):=jV.filter _
theorem DY {k:UInt8}{s:Tx}{c:UInt8}(h:c∈pC k s):lt c=true:=mL.1 (L5.1 h).1
def Iw (s t:Tx):Prop:=pC 33 s=pC 33 t/\pC 63 s=pC 63 t
def Hf (A:Tx->Tx->Option Nat)(s t:Tx):Prop:=∀k∈D8 s,∃n,pD t n/\A k n=none
noncomputable def ap:Nat->Tx->Tx->Option Nat
 | 0,s,t=>if Iw s t then none else some 0
 | r+1,s,t=>match ap r s t with
  | some k=>some k
  | none=>if Hf (ap r) s t/\Hf (ap r) t s then none else some (r+1)
theorem vX:∀(r:Nat) (s t:Tx),ap r s t=ap r t s
 | 0,s,t=>by
  unfold ap;have:Iw s t↔Iw t s:=⟨λh=>⟨h.1.symm,h.2.symm⟩,λh=>⟨h.1.symm,h.2.symm⟩⟩
  simp only [this]
 | r+1,s,t=>by
  unfold ap;rw [vX r s t];have:(Hf (ap r) s t/\Hf (ap r) t s)↔(Hf (ap r) t s/\Hf (ap r) s t):=and_comm;simp only [this]
theorem vI {r:Nat}{s t:Tx}{k:Nat}(h:ap r s t=some k):ap (r+1) s t=some k:=by
 unfold ap;rw [h]
theorem mB {r:Nat}{s t:Tx}(h:ap r s t=none):ap (r+1) s t=if Hf (ap r) s t/\Hf (ap r) t s then none else some (r+1):=by
 conv=>lhs;unfold ap
 rw [h]
theorem vN {r:Nat}{s t:Tx}{k:Nat}(h:ap r s t=some k):∀d,ap (r+d) s t=some k
 | 0=>h
 | d+1=>vI (vN h d)
noncomputable def Is (s t:Tx):Option Nat:=if h:∃r,ap r s t≠none then ap h.choose s t else none
theorem E5 {all:List Tx}(c:Cl all){r:Nat}(h:∀s∈all,∀t∈all,ap (r+1) s t=ap r s t):∀s∈all,∀t∈all,Is s t=ap r s t:=by
 have hd:∀d,∀s∈all,∀t∈all,ap (r+d) s t=ap r s t:=by
  intro d
  induction d with
  | zero=>intro s _ t _;rfl
  | succ d W=>
   intro s z t G;have hf:∀s∈all,∀t∈all,Hf (ap (r+d)) s t↔Hf (ap r) s t:=λs z t G=>by
    unfold Hf;constructor
    ·intro H k I;obtain⟨n,J,h2⟩:=H k I;exact⟨n,J,by rw [<-W k (c.D8 z I) n (c.Iq G J)];exact h2⟩
    ·intro H k I;obtain⟨n,J,h2⟩:=H k I;exact⟨n,J,by rw [W k (c.D8 z I) n (c.Iq G J)];exact h2⟩
   cases e:ap r s t with
   | some k=>exact vN e (d+1)
   | none=>
    have e2:ap (r+d) s t=none:=by rw [W s z t G,e]
    have Z:=h s z t G;rw [e,mB e]at Z;show ap (r+d+1) s t=none;rw [mB e2];simp only [hf s z t G,hf t G s z];split at Z
    ·rename_i H;rw [KG H]
    ·cases Z
 intro s z t G;unfold Is;split
 ·rename_i V;have h2:=V.choose_spec;generalize V.choose=m at h2;cases e:ap m s t with
  | none=>exact absurd e h2
  | some k=>
   have h3:=vN e r;rw [Nl,hd m s z t G]at h3;exact h3.symm
 ·rename_i V;cases e:ap r s t with
  | none=>rfl
  | some k=>exact absurd ⟨r,by rw [e];simp⟩ V
noncomputable def jO (p q:Tx):Option (Tx×Tx):=match bT p,bT q with
 | some _,some _=>(cc p).bind λa=>(cc q).map λb=>(a,b)
 | _,_=>none
noncomputable def Ju (p q:Tx):Bool×Bool:=match jO p q with
 | none=>(false,false)
 | some x=>(decide (Is x.1 x.2=none),true)
def kN (k:UInt8)(a b:Tx)(c:UInt8):Prop:=¬(c∈pC k a↔c∈pC k b)
noncomputable def fY (p q:Tx):Tx×Bool:=match jO p q with
 | none=>([],false)
 | some x=>match iO.find? λc=>decide (kN 33 x.1 x.2 c\/kN 63 x.1 x.2 c)with
  | none=>([],false)
  | some c=>(if kN 33 x.1 x.2 c then [33,c]else [63,c],true)
end Go.Proofs.YtdecokaadekjnaaGreat
namespace Go.Proofs.YtdecokaadekjnaaGreat
open Go
set_option maxRecDepth 100000
theorem nQ (r1:Value)(n2:ay)(w:World)(R:Value->World->Prop)(h:aN w (.cells #[(.string (ab n2))] 9) λb3 w4=>jX ((.slice (some ⟨b3,0,none⟩) 1 1)) 0 w4 λI5 m6 Z i8 w9=>bM Z λι=>ai (decide (i8< (ι:Int))) (bO w9 λα β=>az r1 λκ μ=>ct α κ (μ+2) λν=>aJ Z i8 λb18 ξ=>iq α b18 (ξ+i8.toNat* 1) λγ=>∃(δ:Nat) (V:Value->Option Value),ν= .map (some δ)/\IsMap β δ .string V/\∃I:Value,∃ε:Bool,((ε=true/\V (.string (ab γ))=some I)\/(ε=false/\V (.string (ab γ))=none/\I=(.slice none 0 0)))/\bM I λο=>jX Z 0 β λζ J G z H=>ai (decide (z< (ο:Int))) (aJ I z λς υ=>bZ H ς (υ+z.toNat* 1) λη=>ck 63 #[G,(.string (ab η))] H λφ W=>ai (!φ) (aN W (.cells #[(.string (ab η))] 9) λχ ψ=>eu 9 1 16 ψ G (.slice (some ⟨χ,0,none⟩) 1 1) λv49 θ=>aj (z+1)/\ζ v49 (z+1) θ/\J v49 (z+1) θ< J G z H) (aj (z+1)/\ζ G (z+1) W/\J G (z+1) W< J G z H)) (aj (i8+1)/\I5 G (i8+1) H/\m6 G (i8+1) H< m6 Z i8 w9)) (R Z w9)):
  Calls Tryz.prog 106 #[r1,(.string (ab n2))] w (ax [.v] R):=
 bs (bn [(3,[(5,.v),(6,.i)]),(6,[(5,.v),(27,.i)])] [] [5]) [.tmp 4 .v] [.v r1,.s n2] Tryz.func106 (by kernel_rfl) h
theorem nN (r1:Value)(V:ay)(W:UInt8)(w:World)(R:UInt32->World->Prop)(h:cB 106 #[r1,(.string (ab V))] w λv4 w5=>bM v4 λl7=>FY 0 0 w5 λI9 I G z H=>ai (decide (z< (l7:Int))) (aJ v4 z λZ α=>bZ H Z (α+z.toNat* 1) λβ=>cB 92 #[(.string (ab β))] H λγ δ=>bw 93 #[γ,(.int .u8 W.toNat)] δ λε ζ=>y3 91 #[(.string (ab ε))] ζ λJ w24=>aj (z+1)/\I9 (G ||| J:UInt32) (z+1) w24/\I (G ||| J:UInt32) (z+1) w24< I G z H) (R G H)):
  Calls Tryz.prog 58 #[r1,(.string (ab V)),(.int .u8 W.toNat)] w (ax [.w] R):=
 bs (bn [(3,[(7,.w),(14,.i)])] [] []) [.tmp 6 .w] [.v r1,.s V,.c W] Tryz.func58 (by kernel_rfl) h
theorem kF (n1:ay)(I:ay)(c3:Value)(w:World)(R:Bool->World->Prop)(h:az c3 λb4 J=>aS w b4 J λv6=>az v6 λb7 V=>aS w b7 (V+5) λv9=>∃(G:Nat) (z:Value->Option Value),v9= .map (some G)/\IsMap w G (TypeDesc.array 2 9) z/\∃H:Int,∃g13:Bool,((g13=true/\z (.agg #[(.string (ab n1)),(.string (ab I))])=some (.int .i64 H))\/(g13=false/\z (.agg #[(.string (ab n1)),(.string (ab I))])=none/\(Value.int .i64 H)=(.int .i64 0)))/\R g13 w):
  Calls Tryz.prog 156 #[(.string (ab n1)),(.string (ab I)),c3] w (ax [.b] R):=
 bs (bn [] [] []) [.tmp 5 .b] [.s n1,.s I,.v c3] Tryz.func156 (by kernel_rfl) h
theorem jk (G:ay)(c2:Value)(c3:Value)(w:World)(R:Bool->World->Prop)(h:az c2 λb4 J=>aS w b4 J λv6=>az c3 λb7 V=>bZ w b7 V λW=>∃(f10:Nat) (z:List Value),v6= .func (.func f10) #[] (List.toArray z)/\List.contains dh f10=true/\ck f10 (List.toArray ([(.string (ab W)),(.string (ab G))]++z)) w λH I=>R (!H) I):
  Calls Tryz.prog 158 #[(.string (ab G)),c2,c3] w (ax [.b] R):=
 bs (bn [] [] []) [.tmp 4 .b] [.s G,.v c2,.v c3] Tryz.func158 (by kernel_rfl) h
theorem kE (V:ay)(c2:Value)(c3:Value)(c4:Value)(w:World)(R:Bool->World->Prop)(h:aN w (.cells #[(.string (ab V))] 9) λb5 J=>az c2 λb7 o8=>aS J b7 o8 λv9=>az c3 λb10 W=>bZ J b10 W λH=>∃(I:Nat) (z:Value->Option Value),v9= .map (some I)/\IsMap J I .string z/\∃G:Value,∃g16:Bool,((g16=true/\z (.string (ab H))=some G)\/(g16=false/\z (.string (ab H))=none/\G=(.slice none 0 0)))/\ck 47 #[G,(Value.func (Fn.func 158) #[] #[c4,(.pointer (some ⟨b5,0,none⟩))])] J λZ α=>R (!Z) α):
  Calls Tryz.prog 157 #[(.string (ab V)),c2,c3,c4] w (ax [.b] R):=
 bs (bn [] [] []) [.tmp 5 .b] [.s V,.v c2,.v c3,.v c4] Tryz.func157 (by kernel_rfl) h
theorem ni (t1:Value)(w:World)(R:World->Prop)(h:oneV t1=true/\aN w (.cells #[t1] 70) λb2 w3=>aN w3 (Obj.map #[] 0) λb4 w5=>aN w5 (Obj.map #[] 0) λb6 w7=>aN w7 (.cells #[(.map none)] 57) λb8 w9=>oneV (.map (some b6))=true/\bg w9 b8 0 (.map (some b6)) λw11=>aS w11 b2 0 λv12=>az v12 λb13 o14=>aS w11 b13 ((o14+0)+1) λv15=>bM v15 λl17=>eM 0 w11 λI19 m20 ι ς=>ai (decide (ι< (l17:Int))) (aJ v15 ι λb23 o24=>bZ ς b23 (o24+ι.toNat* 1) λφ=>bO ς λS28 w29=>ct S28 b2 0 λv30=>az v30 λb31 o32=>ct S28 b2 0 λv33=>az v33 λb34 o35=>y3 58 #[(.pointer (some ⟨b31,(o32+0),none⟩)),(.string (ab φ)),(.int .u8 (UInt8.toNat 33))] w29 λm36 w37=>S28 w37/\y3 58 #[(.pointer (some ⟨b34,(o35+0),none⟩)),(.string (ab φ)),(.int .u8 (UInt8.toNat 63))] w37 λm38 w39=>S28 w39/\∃(r40:Nat) (m41:Value->Option Value),(Value.map (some b4))= .map (some r40)/\IsMap w39 r40 .string m41/\∀w42:World,IsMap w42 r40 .string (bK m41 (.string (ab φ)) (.agg #[(.int .u32 (UInt32.toNat m36)),(.int .u32 (UInt32.toNat m38))]))->bc w39 w42 r40->bO w42 λS43 w44=>ct S43 b8 0 λv45=>ct S43 b2 0 λv46=>az v46 λb47 o48=>cB 106 #[(.pointer (some ⟨b47,(o48+0),none⟩)),(.string (ab φ))] w44 λv49 w50=>S43 w50/\∃(r51:Nat) (m52:Value->Option Value),v45= .map (some r51)/\IsMap w50 r51 .string m52/\∀w53:World,IsMap w53 r51 .string (bK m52 (.string (ab φ)) v49)->bc w50 w53 r51->aj (ι+1)/\I19 (ι+1) w53/\m20 (ι+1) w53< m20 ι ς) (aS ς b2 0 λv54=>az v54 λb55 o56=>aS ς b55 ((o56+0)+1) λv57=>bM v57 λl59=>eM 0 ς λI61 m62 κ υ=>ai (decide (κ< (l59:Int))) (aJ v57 κ λb65 o66=>bZ υ b65 (o66+κ.toNat* 1) λs69=>aS υ b2 0 λv70=>az v70 λb71 o72=>aS υ b71 ((o72+0)+1) λv73=>bM v73 λl75=>eM 0 υ λI77 m78 J H=>ai (decide (J< (l75:Int))) (aJ v73 J λb81 o82=>bZ H b81 (o82+J.toNat* 1) λs85=>∃(r86:Nat) (m87:Value->Option Value),(Value.map (some b4))= .map (some r86)/\IsMap H r86 .string m87/\∃y88:Value,∃g89:Bool,((g89=true/\m87 (.string (ab s69))=some y88)\/(g89=false/\m87 (.string (ab s69))=none/\y88=(.agg #[(.int .u32 0),(.int .u32 0)])))/\∃(r90:Nat) (m91:Value->Option Value),(Value.map (some b4))= .map (some r90)/\IsMap H r90 .string m91/\∃y92:Value,∃g93:Bool,((g93=true/\m91 (.string (ab s85))=some y92)\/(g93=false/\m91 (.string (ab s85))=none/\y92=(.agg #[(.int .u32 0),(.int .u32 0)])))/\∃(x94 x95 y96 y97:UInt32),y88= .agg #[.int .u32 x94.toNat,.int .u32 x95.toNat]/\y92= .agg #[.int .u32 y96.toNat,.int .u32 y97.toNat]/\ai (!(decide (x94=y96)&&decide (x95=y97))) (aS H b2 0 λv98=>az v98 λb99 o100=>aS H b99 (o100+5) λv101=>∃(μ:Nat) (m103:Value->Option Value),v101= .map (some μ)/\IsMap H μ (TypeDesc.array 2 9) m103/\∀ν:World,IsMap ν μ (TypeDesc.array 2 9) (bK m103 (.agg #[(.string (ab s69)),(.string (ab s85))]) (.int .i64 0))->bc H ν μ->aj (J+1)/\I77 (J+1) ν/\m78 (J+1) ν< m78 J H) (aj (J+1)/\I77 (J+1) H/\m78 (J+1) H< m78 J H)) (aj (κ+1)/\I61 (κ+1) H/\m62 (κ+1) H< m62 κ υ)) (aN υ (.cells #[.nilFunc] 24) λb105 w106=>oneV (Value.func (Fn.func 156) #[] #[(.pointer (some ⟨b2,0,none⟩))])=true/\bg w106 b105 0 (Value.func (Fn.func 156) #[] #[(.pointer (some ⟨b2,0,none⟩))]) λw108=>eM 1 w108 λI109 m110 δ w112=>aN w112 (.cells #[] 87) λb113 χ=>aS χ b2 0 λv115=>az v115 λb116 o117=>aS χ b116 ((o117+0)+1) λv118=>bM v118 λl120=>jX ((.slice (some ⟨b113,0,none⟩) 0 0)) 0 χ λI122 m123 ε V W=>ai (decide (V< (l120:Int))) (aJ v118 V λb127 o128=>bZ W b127 (o128+V.toNat* 1) λζ=>aS W b2 0 λv132=>az v132 λb133 o134=>aS W b133 ((o134+0)+1) λv135=>bM v135 λl137=>jX ε 0 W λψ α G z Z=>ai (decide (z< (l137:Int))) (aJ v135 z λb144 o145=>bZ Z b144 (o145+z.toNat* 1) λs148=>aN Z (.cells #[(.string ⟨#[]⟩)] 9) λη w150=>bg w150 η 0 (.string (ab s148)) λω=>aS ω b105 0 λv153=>bZ ω η 0 λs154=>∃(f155:Nat) (c156:List Value),v153= .func (.func f155) #[] (List.toArray c156)/\List.contains dh f155=true/\ck f155 (List.toArray ([(.string (ab ζ)),(.string (ab s154))]++c156)) ω λq157 β=>ai q157 (aj (z+1)/\ψ G (z+1) β/\α G (z+1) β< α G z Z) (aS β b2 0 λv159=>az v159 λb160 o161=>aS β b160 ((o161+0)+2) λv162=>∃(r163:Nat) (m164:Value->Option Value),v162= .map (some r163)/\IsMap β r163 .string m164/\∃y165:Value,∃g166:Bool,((g166=true/\m164 (.string (ab ζ))=some y165)\/(g166=false/\m164 (.string (ab ζ))=none/\y165=(.slice none 0 0)))/\ck 47 #[y165,(Value.func (Fn.func 157) #[] #[(.pointer (some ⟨b8,0,none⟩)),(.pointer (some ⟨η,0,none⟩)),(.pointer (some ⟨b105,0,none⟩))])] β λq167 θ=>ai q167 (bZ θ η 0 λs169=>bZ θ η 0 λs170=>aN θ (.cells #[(.string (ab ζ)),(.string (ab s169)),(.string (ab s170)),(.string (ab ζ))] 87) λb171 w172=>eu 87 2 32 w172 G (.slice (some ⟨b171,0,none⟩) 2 2) λv178 w179=>aj (z+1)/\ψ v178 (z+1) w179/\α v178 (z+1) w179< α G z Z) (aj (z+1)/\ψ G (z+1) θ/\α G (z+1) θ< α G z Z))) (aj (V+1)/\I122 G (V+1) Z/\m123 G (V+1) Z< m123 ε V W)) (bM ε λl181=>ai (decide ((l181:Int)=0)) (R W) (bM ε λl184=>eM 0 W λI186 m187 I γ=>ai (decide (I< (l184:Int))) (aJ ε I λb190 o191=>∃s194:ay,∃s195:ay,(World.cell? γ ⟨b190,(o191+I.toNat* 2),none⟩=some (.string (ab s194))/\World.cell? γ ⟨b190,((o191+I.toNat* 2)+1),none⟩=some (.string (ab s195))/\True)/\aN γ (.cells #[(.string ⟨#[]⟩),(.string ⟨#[]⟩)] 87) λb196 w197=>xh w197 b196 0 2 [(.string (ab s194)),(.string (ab s195))] λw198=>bO w198 λS199 w200=>ct S199 b2 0 λv201=>az v201 λb202 o203=>ct S199 b202 (o203+5) λv204=>∃s205:ay,∃s206:ay,(∀w',S199 w'->World.cell? w' ⟨b196,0,none⟩=some (.string (ab s205))/\World.cell? w' ⟨b196,1,none⟩=some (.string (ab s206))/\True)/\∃(ξ:Nat) (m208:Value->Option Value),v204= .map (some ξ)/\IsMap w200 ξ (TypeDesc.array 2 9) m208/\∀ο:World,IsMap ο ξ (TypeDesc.array 2 9) (bK m208 (.agg #[(.string (ab s205)),(.string (ab s206))]) (.int .i64 δ))->bc w200 ο ξ->aj (I+1)/\I186 (I+1) ο/\m187 (I+1) ο< m187 I γ) (aj (δ+1)/\I109 (δ+1) γ/\m110 (δ+1) γ< m110 δ w112)))))):
  Calls Tryz.prog 105 #[t1] w (ax [] R):=
 bs (bn [(3,[(27,.i)]),(9,[(58,.i)]),(12,[(68,.i)]),(21,[(11,.i)]),(23,[(12,.v),(98,.i)]),(26,[(12,.v),(108,.i)]),(35,[(141,.i)])] [] [5,6,37]) [] [.v t1] Tryz.func105 (by kernel_rfl) h
theorem xb (p1:ay)(q2:ay)(w:World)(R:Value->Bool->World->Prop)(h:oA 90 #[(.string (ab p1))] w λv3 q4 w5=>oA 90 #[(.string (ab q2))] w5 λv6 q7 w8=>iz (!q4) (ai (!q7) (R (.pointer none) false w8) (bO w8 λS9 w10=>az v3 λb11 o12=>iq S9 b11 (o12+0) λs13=>az v6 λb14 o15=>iq S9 b14 (o15+0) λs16=>aN w10 (Obj.map #[] 0) λb17 w18=>S9 w18/\oneV (.map (some b17))=true/\aN w18 (.cells #[(.string (ab [])),(.slice none 0 0),(.map none),(.string (ab s13)),(.string (ab s16)),(.map (some b17))] 77) λJ w20=>S9 w20/\aN w20 (Obj.map #[] 0) λb21 w22=>oneV (.map (some b21))=true/\bg w22 J 2 (.map (some b21)) λw24=>oneV v3=true/\oneV v6=true/\aN w24 (.cells #[v3,v6] 53) λb25 w26=>bM (.slice (some ⟨b25,0,none⟩) 2 2) λl28=>eM 0 w26 λI30 m31 γ η=>ai (decide (γ< (l28:Int))) (aJ (.slice (some ⟨b25,0,none⟩) 2 2) γ λb34 o35=>aS η b34 (o35+γ.toNat* 1) λv38=>az v38 λb39 o40=>aS η b39 (o40+1) λv41=>bM v41 λl43=>eM 0 η λI45 m46 δ V=>ai (decide (δ< (l43:Int))) (∃θ:World->Prop,(aJ v41 δ λb50 o51=>bZ V b50 (o51+δ.toNat* 1) λz=>aS V J 2 λv55=>∃(r56:Nat) (m57:Value->Option Value),v55= .map (some r56)/\IsMap V r56 .string m57/\∃y58:Value,∃g59:Bool,((g59=true/\m57 (.string (ab z))=some y58)\/(g59=false/\m57 (.string (ab z))=none/\y58=(.slice none 0 0)))/\ai (!g59) (bO V λG φ=>ct G J 2 λε=>ct G J 1 λv63=>az v38 λb64 o65=>ct G b64 (o65+2) λv66=>(aN φ (.cells #[(.string (ab z))] 9) λb67 ι=>G ι/\(eu 9 1 16 ι v63 (.slice (some ⟨b67,0,none⟩) 1 1) λv74 χ=>G χ/\∃(r76:Nat) (m77:Value->Option Value),v66= .map (some r76)/\IsMap χ r76 .string m77/\∃y78:Value,∃g79:Bool,((g79=true/\m77 (.string (ab z))=some y78)\/(g79=false/\m77 (.string (ab z))=none/\y78=(.slice none 0 0)))/\G χ/\oneV v74=true/\bg χ J 1 v74 λw81=>∃(κ:Nat) (m83:Value->Option Value),ε= .map (some κ)/\IsMap w81 κ .string m83/\∀(v84:Value) (s85:Int) (ζ:World),IsMap ζ κ .string (bK m83 (.string (ab z)) v84)->bc w81 ζ κ->nv ζ κ s85 (.string (ab z))->∃(μ:Nat) (d88:TypeDesc) (m89:Value->Option Value) (q90:Value),ε= .map (some μ)/\IsMap ζ μ d88 m89/\nv ζ μ s85 q90/\∀w91:World,IsMap w91 μ d88 (bK m89 q90 y78)->bc ζ w91 μ->θ w91)/\(∃(r92:Nat) (m93:Value->Option Value),v66= .map (some r92)/\IsMap ι r92 .string m93/\∃y94:Value,∃g95:Bool,((g95=true/\m93 (.string (ab z))=some y94)\/(g95=false/\m93 (.string (ab z))=none/\y94=(.slice none 0 0)))/\G ι/\eu 9 1 16 ι v63 (.slice (some ⟨b67,0,none⟩) 1 1) λψ ω=>G ω/\oneV ψ=true/\bg ω J 1 ψ λw104=>∃(W:Nat) (m106:Value->Option Value),ε= .map (some W)/\IsMap w104 W .string m106/\∀(v107:Value) (s108:Int) (H:World),IsMap H W .string (bK m106 (.string (ab z)) v107)->bc w104 H W->nv H W s108 (.string (ab z))->∃(Z:Nat) (d111:TypeDesc) (m112:Value->Option Value) (q113:Value),ε= .map (some Z)/\IsMap H Z d111 m112/\nv H Z s108 q113/\∀ν:World,IsMap ν Z d111 (bK m112 q113 y94)->bc H ν Z->θ ν))/\(∃(r115:Nat) (ξ:Value->Option Value),v66= .map (some r115)/\IsMap φ r115 .string ξ/\∃ο:Value,∃g118:Bool,((g118=true/\ξ (.string (ab z))=some ο)\/(g118=false/\ξ (.string (ab z))=none/\ο=(.slice none 0 0)))/\G φ/\aN φ (.cells #[(.string (ab z))] 9) λb119 w120=>G w120/\eu 9 1 16 w120 v63 (.slice (some ⟨b119,0,none⟩) 1 1) λv126 w127=>G w127/\oneV v126=true/\bg w127 J 1 v126 λw129=>∃(α:Nat) (m131:Value->Option Value),ε= .map (some α)/\IsMap w129 α .string m131/\∀(v132:Value) (s133:Int) (I:World),IsMap I α .string (bK m131 (.string (ab z)) v132)->bc w129 I α->nv I α s133 (.string (ab z))->∃(β:Nat) (d136:TypeDesc) (m137:Value->Option Value) (q138:Value),ε= .map (some β)/\IsMap I β d136 m137/\nv I β s133 q138/\∀ς:World,IsMap ς β d136 (bK m137 q138 ο)->bc I ς β->θ ς)) (θ V))/\∀(υ:World),θ υ->aj (δ+1)/\I45 (δ+1) υ/\m46 (δ+1) υ< m46 δ V) (aj (γ+1)/\I30 (γ+1) V/\m31 (γ+1) V< m31 γ η)) (fC 105 #[(.pointer (some ⟨J,0,none⟩))] η λw141=>R ((.pointer (some ⟨J,0,none⟩))) true w141))) (R (.pointer none) false w8)):
  Calls Tryz.prog 57 #[(.string (ab p1)),(.string (ab q2))] w (ax [.v,.b] R):=
 bs (bn [(8,[(53,.i)]),(11,[(62,.i)])] [(16,[])] [5,15]) [.tmp 4 .v,.tmp 5 .b] [.s p1,.s q2] Tryz.func57 (by kernel_rfl) h
end Go.Proofs.YtdecokaadekjnaaGreat
namespace Go.Proofs.YtdecokaadekjnaaGreat
open Go Go.RowKit T Classical
structure Io (w:World)(b r:Nat)(all:List Tx)(mm:Value->Option Value):Prop where
 c2:w.cell? ⟨b,2,none⟩=some (.map (some r))
 lt:b< w.heap.size
 mp:IsMap w r .string mm
 nx:∀s∈all,∃v l,mm (.string (ab s))=some v/\tF s=some l/\(∀x∈l,x∈all)/\Strs w v l
theorem Io.ex {w w':World}{b r:Nat}{all:List Tx}{mm:Value->Option Value}(h:Io w b r all mm)(x:Ex w w'):Io w' b r all mm:=by
 have :=x.size;have :=h.lt;refine⟨by rw [x.cell (a:=⟨b,2,none⟩) h.lt];exact h.c2,by omega,aU h.mp (x.block r (bX h.mp)),λs z=>?_⟩;obtain⟨v,l,G,h2,H,h4⟩:=h.nx s z;exact⟨v,l,G,h2,H,h4.ex x⟩
theorem Cz {w:World}{b r:Nat}{all:List Tx}{mm:Value->Option Value}(h:Io w b r all mm)(hl:all.length<=120){s:Tx}(hs:s∈all){R:Value->World->Prop}
  (hR:∀v l w',Ex w w'->Own w.heap.size w' v l->(∀t,t∈l↔pD s t)->l.length<=120->R v w'):
  Calls Tryz.prog 106 #[ptr b,.string (ab s)] w (ax [.v] R):=by
 refine nQ _ s w R ?_;intro b3 w4 ν ι;have x4:Ex w w4:=ι▸Ex.alloc w _;have hcl:Cl all:=λs hs=>by obtain⟨v,l,_,h2,h3,_⟩:=h.nx s hs;exact⟨l,h2,h3⟩
 refine⟨λo i w'=>∃(ol:List Tx) (j:Nat),i=j/\j<=ol.length/\Ex w w'/\Own w.heap.size w' o ol/\ol.Nodup/\(∀t∈ol,pD s t)/\s∈ol/\∀k (hk:k< ol.length),k< j->∀m∈D8 ol[k],m∈ol,λ _ i _=>(121 - i).toNat,
  ⟨[s],0,rfl,by simp,x4,Own.one (Kb _) ν ι,by simp,λt J=>by cases Kf.1 J;exact .refl _,by simp,λk _ hk=>by omega⟩,λo i w9 hI=>?_⟩
 clear ι ν;obtain⟨ol,j,rfl,hj,x9,o9,ξ,V,ο,δ⟩:=hI;have ε:∀{l:List Tx},(∀t∈l,pD s t)->∀t∈l,t∈all:=λh t J=>hcl.Iq hs (h t J)
 have ζ:∀{l:List Tx},l.Nodup->(∀t∈l,pD s t)->l.length<=120:=λh1 h2=>by
  have :=h1.length_le_of_subset (ε h2);omega
 have hol:=ζ ξ V;obtain⟨a,cap,hv⟩:=o9.strs.slice;refine⟨a,_,cap,hv,λhlt=>?_,λhge=>?_⟩;rotate_left
 ·have e:j=ol.length:=by simp only [J6]at hge;omega
  refine hR o ol w9 x9 o9 (λt=>⟨V t,λJ=>?_⟩) hol
  induction J with
  | refl=>exact ο
  | step _ hu ih=>
   obtain⟨k,hk,rfl⟩:=KY.1 ih;exact δ k hk (by omega) _ hu
 have κ:j< ol.length:=by simp only [J4]at hlt;omega
 obtain⟨bo,oo,co,e1,e2,e3⟩:=o9.strs.at κ;obtain⟨vn,l,hn1,ς,hn3,υ⟩:=h.nx _ (ε V _ (Kg κ));have φ:=vY ς;have hll:=rC ς;refine⟨λw'=>Ex w9 w',λw14 η=>⟨η▸Ex.drew w9,b,0,rfl,_,λw' x=>((h.ex x9).ex x).c2,bo,oo,_,co,e1,by omega,by omega,ol[j],λw' x=>?_,?_⟩⟩
 ·rw [x.cell (a:=⟨bo,_,none⟩) e2,KK,J9];exact e3
 have χ:Ex w9 w14:=η▸Ex.drew w9;have W:=Ex.trans x9 χ;have n14:=υ.ex W;obtain⟨al,ψ,hvl⟩:=n14.slice;refine⟨r,mm,rfl,(h.ex W).mp,vn,true,.inl ⟨rfl,hn1⟩,al,_,ψ,hvl,λo' x w'=>∃(z:List Tx) (i:Nat),x=i/\i<=l.length/\Ex w w'/\Own w.heap.size w' o' z/\z.Nodup/\(∀t∈z,pD s t)/\ol<+:z/\∀m∈l.take i,m∈z,λ _ x _=>(l.length - x).toNat,
  ⟨ol,0,rfl,KT _,W,o9.ex χ,ξ,V,No _,by simp⟩,λo' x ω hI=>?_⟩
 obtain⟨z,i,rfl,hi,Z,α,H,I,G,β⟩:=hI;have hol':=ζ H I;have hple:=G.length_le;refine⟨λhlt2=>?_,λhge2=>?_⟩;rotate_left
 ·have e:i=l.length:=by simp only [J6]at hge2;omega
  subst e;rw [KA]at β;refine⟨by unfold aj;omega,⟨z,j+1,by omega,by omega,Z,α,H,I,G.subset ο,λk hk hkj m hm=>?_⟩,by show(121 - ((j:Int)+1)).toNat< (121 - (j:Int)).toNat;omega⟩;have hko:k< ol.length:=by omega
  have ek:z[k]=ol[k]:=(G.getElem hko).symm;rw [ek]at hm;by_cases ekj:k=j
  ·subst ekj;exact β m (by rw [<-φ];exact hm)
  ·exact G.subset (δ k hko (by omega) m hm)
 have γ:i< l.length:=by simp only [J4]at hlt2;omega
 have hm2:((l.length:Int) - ((i:Int)+1)).toNat< ((l.length:Int) - i).toNat:=by omega
 have hrl:pD s l[i]:= .step (V _ (Kg κ)) (by rw [φ];exact Kg γ);refine(υ.ex Z).get (Ex.refl _) (i:=i) (x:=l[i]) (by omega) (by rw [J9];exact J2 γ) (Q:=λn=>_) (A1 α.strs (by omega) ⟨λhq b42 w43 hb42 θ=>?_,λhq=>?_⟩)
 ·have hq:l[i]∉z:=by simpa using hq
  have μ:Ex ω w43:=θ▸Ex.alloc ω _;have s34:=Z.size;have s43:=μ.size;refine Own.push (α.ex μ) (by omega) (Strs.one hb42 θ) (by simp only [List.length_singleton];omega) λv' w50 b50 o50 _ _=>⟨by unfold aj;omega,⟨z++[l[i]],i+1,by omega,by omega,Ex.below (Ex.trans Z μ) b50,o50,?_,λt J=>?_,G.trans (List.prefix_append _ _),λm hm=>?_⟩,hm2⟩
  ·exact KL.2 ⟨H,by simp,λx hx y hy=>by cases Kf.1 hy;exact λe=>hq (e▸hx)⟩
  ·rcases Ke.1 J with J | J
   ·exact I t J
   ·rw [Kf.1 J];exact hrl
  ·rw [J8 γ]at hm;rcases Ke.1 hm with hm | hm
   ·exact KH _ (β m hm)
   ·exact KB _ hm
 ·have hq:l[i]∈z:=by simpa using hq
  refine⟨by unfold aj;omega,⟨z,i+1,by omega,by omega,Z,α,H,I,G,λm hm=>?_⟩,hm2⟩;rw [J8 γ]at hm;rcases Ke.1 hm with hm | hm
  ·exact β m hm
  ·rw [Kf.1 hm];exact hq
theorem iX.or {x y:UInt32}{p q:UInt8->Prop}[DecidablePred p][DecidablePred q](h:iX x λc=>decide (p c))(k:iX y λc=>decide (q c)):iX (x ||| y) λc=>decide (p c\/q c):=by
 intro c hc;rw [xI,Mi.2 (AJ _ _),Bool.decide_and,h c hc,k c hc];show(!decide (p c)&& !decide (q c))= !decide (p c\/q c);rw [Bool.decide_or,Bool.not_or]
theorem HQ {x y:UInt32}{f:Tk}(h:iX x f)(k:iX y f)(V:x.toNat< 67108864)(W:y.toNat< 67108864):x=y:=by
 apply Nc.1;apply Nat.eq_of_testBit_eq;intro i;by_cases Z:i< 26
 ·have hc:lt (UInt8.ofNat (97+i))=true:=by
   have:∀i,i< 26->lt (UInt8.ofNat (97+i))=true:=by decide
   exact this i Z
  have e:(UInt8.ofNat (97+i)).toNat - 97=i:=by rw [K2];omega
  have key:∀z:UInt32,(z &&& jc (UInt8.ofNat (97+i))=0)↔z.toNat.testBit i=false:=λz=>by
   rw [<-Nc,UInt32.toNat_and,si hc,e];show z.toNat &&& 2^i=0↔_;constructor
   ·intro H;have :=Lb (λn=>n.testBit i) H;simpa [Nat.testBit_and,Nat.testBit_two_pow_self]using this
   ·intro H;apply Nat.eq_of_testBit_eq;intro j;rw [Nat.testBit_and,Nat.testBit_two_pow];by_cases I:i=j
    ·subst I;simp [H]
    ·simp [I]
  have h2:=Mi.1 ((h _ hc).trans (k _ hc).symm);have J:=(key x).symm.trans (h2.trans (key y));cases e1:x.toNat.testBit i<;>cases e2:y.toNat.testBit i<;>rw [e1,e2]at J<;>first | rfl | (exact absurd J (by decide))
 ·have G:∀z:UInt32,z.toNat< 67108864->z.toNat.testBit i=false:=λz hz=>Nat.testBit_lt_two_pow (Kx hz (show 2^26<=2^i from Nat.pow_le_pow_right (by omega) (by omega)))
  rw [G x V,G y W]
theorem qj {w:World}{b r:Nat}{all:List Tx}{mm:Value->Option Value}(h:Io w b r all mm)(hl:all.length<=120)(W:∀s∈all,St s){s:Tx}(V:s∈all){k:UInt8}(hk:k≠126){R:UInt32->World->Prop}
  (hR:∀x w',Ex w w'->iX x (λc=>decide (c∈pC k s))->x.toNat< 67108864->R x w'):
  Calls Tryz.prog 58 #[ptr b,.string (ab s),.int .u8 k.toNat] w (ax [.w] R):=by
 refine nN _ s k w R ?_;have Z:Cl all:=λs V=>by obtain⟨v,l,_,h2,h3,_⟩:=h.nx s V;exact⟨l,h2,h3⟩
 refine Cz h hl V λv l w5 x5 o5 hm δ=>?_
 obtain⟨a,cap,hv⟩:=o5.strs.slice;refine⟨a,_,cap,hv,λo x w'=>∃j:Nat,x=j/\j<=l.length/\Ex w5 w'/\o.toNat< 67108864/\iX o λc=>decide (∃t∈l.take j,c∈ji k t),λ _ x _=>(l.length - x).toNat,⟨0,rfl,KT _,Ex.refl _,by decide,yY λc ⟨t,ht,_⟩=>by simp at ht⟩,λo x α hI=>?_⟩;obtain⟨j,rfl,hj,G,ho,H⟩:=hI;refine⟨λI=>?_,λβ=>?_⟩;rotate_left
 ·have e:j=l.length:=by simp only [J6]at β;omega
  rw [e,KA]at H;refine hR o α (Ex.trans x5 G) (H.cg λc=>?_) ho;rw [AH];exact⟨fun⟨t,z,h2⟩=>⟨t,(hm t).1 z,h2⟩,fun⟨t,z,h2⟩=>⟨t,(hm t).2 z,h2⟩⟩
 have J:j< l.length:=by simp only [J4]at I;omega
 refine o5.strs.get G (i:=j) (x:=l[j]) (by omega) (by rw [J9];exact J2 J) (Q:=λn=>_) ?_;obtain⟨t,ok,et⟩:=W _ (Z.Iq V ((hm _).1 (Kg J)));rw [<-et];have ζ:=ok.size;have hlen:=ok.len;refine zP ok.al (by omega) (by omega) λb1 w1 x1 hb st=>Fh ok st (λg hg=>hg.2.2) hk λw2 x2=>?_
 have I:∀c∈Cb k t,lt c=true:=λc hc=>Em ok.su ((A6 ok.su).1 hc)
 have ε:(Cb k t).length<=26:=by
  have:iO.length=26:=by simp [iO]
  exact this▸Mf _ _
 refine F5 I (by omega) λy hy γ=>⟨by unfold aj;omega,⟨j+1,by omega,by omega,Ex.trans G (Ex.trans x1 x2),GX ho γ,?_⟩,by show((l.length:Int) - ((j:Int)+1)).toNat< ((l.length:Int) - j).toNat;omega⟩
 refine(H.or hy).cg λc=>?_
 rw [J8 J,<-et];simp only [Ke,Kf];constructor
 ·rintro(⟨u,z,h2⟩ | z)
  ·exact⟨u,.inl z,h2⟩
  ·exact⟨_,.inr rfl,by rw [vV ok];exact z⟩
 ·rintro⟨u,z | rfl,h2⟩
  ·exact .inl ⟨u,z,h2⟩
  ·rw [vV ok]at h2;exact .inr h2
abbrev tP:Nat:=87
abbrev aT:TypeDesc:= .array 2 9
def Cs (s t:Tx):Value:= .agg #[.string (ab s),.string (ab t)]
theorem FM {s t z G:Tx}(h:Cs s t=Cs z G):s=z/\t=G:=by
 unfold Cs at h;simp only [Value.agg.injEq,Array.mk.injEq,KW,L8,MG]at h;exact⟨eg h.1,eg h.2⟩
structure C2 (w:World)(ra b r:Nat)(vo:Value)(all:List Tx)(mm:Value->Option Value):Prop where
 nm:Io w b r all mm
 c1:w.cell? ⟨b,1,none⟩=some vo
 so:Strs w vo all
 c5:w.cell? ⟨b,5,none⟩=some (.map (some ra))
 nb:b≠ra
 nr:r≠ra
 no:∀g,vo.ownBlock=some g->g≠ra
 nn:∀s∈all,∀v,mm (.string (ab s))=some v->∀g,v.ownBlock=some g->g≠ra
theorem C2.kp {w w':World}{ra b r:Nat}{vo:Value}{all:List Tx}{mm:Value->Option Value}(h:C2 w ra b r vo all mm)(k:Kp w w' λg=>g=ra):C2 w' ra b r vo all mm:=by
 have s:=k.size;have lt:=h.nm.lt;have eb:=k.block b lt h.nb;have c:∀j,w'.cell? ⟨b,j,none⟩=w.cell? ⟨b,j,none⟩:=λj=>J1 (w:=w) eb
 refine⟨⟨by rw [c];exact h.nm.c2,by omega,aU h.nm.mp (k.block r (bX h.nm.mp) h.nr),λx z=>?_⟩,by rw [c];exact h.c1,h.so.Dx k h.no,by rw [c];exact h.c5,h.nb,h.nr,h.no,h.nn⟩;obtain⟨v,l,G,h2,H,h4⟩:=h.nm.nx x z;exact⟨v,l,G,h2,H,h4.Dx k (h.nn x z v G)⟩
def sE (w:World)(ra:Nat)(all:List Tx)(P:Tx->Tx->Prop)(A:Tx->Tx->Option Nat):Prop:=
 ∃m,IsMap w ra aT m/\∀s∈all,∀t∈all,m (Cs s t)=if P s t then(A s t).map iv else none
section
variable {w w':World} {ra:Nat} {all:List Tx} {P:Tx->Tx->Prop} {A:Tx->Tx->Option Nat}
theorem sE.ex (h:sE w ra all P A)(x:Ex w w'):sE w' ra all P A:=by
 obtain⟨m,z,h2⟩:=h;exact⟨m,aU z (x.block ra (bX z)),h2⟩
theorem sE.congr {z:Tx->Tx->Prop}{G:Tx->Tx->Option Nat}(h:sE w ra all P A)(e:∀s∈all,∀t∈all,(if P s t then(A s t).map iv else none)=if z s t then(G s t).map iv else none):sE w ra all z G:=by
 obtain⟨m,J,h2⟩:=h;exact⟨m,J,λs H t I=>by rw [h2 s H t I,e s H t I]⟩
theorem sE.set {m:Value->Option Value}(h:sE w ra all P A)(hm:IsMap w ra aT m){s t:Tx}{n:Nat}(z:IsMap w' ra aT (bK m (Cs s t) (.int .i64 n))):sE w' ra all (λa b=>P a b\/a=s/\b=t) (λa b=>if a=s/\b=t then some n else A a b):=by
 obtain⟨m',G,h2⟩:=h;have e:m'=m:=(fp G).symm.trans (fp hm);subst e;refine⟨_,z,λa ha b hb=>?_⟩;unfold bK;by_cases e:a=s/\b=t
 ·obtain⟨rfl,rfl⟩:=e;rw [KG rfl,KG (.inr ⟨rfl,rfl⟩)];simp only [and_self,LN,LR]
 ·rw [Ko λh=>e (FM h),h2 a ha b hb];simp only [e,Mq,ME]
end
theorem Ji {w:World}{b2 b ra:Nat}{m:Value->Option Value}{s t:Tx}{a:Option Nat}(H:w.cell? ⟨b2,0,none⟩=some (ptr b))(h5:w.cell? ⟨b,5,none⟩=some (.map (some ra)))(hm:IsMap w ra aT m)(z:m (Cs s t)=a.map iv){R:Bool->World->Prop}(G:R a.isSome w):
  Calls Tryz.prog 156 #[.string (ab s),.string (ab t),ptr b2] w (ax [.b] R):=by
 refine kF s t _ w R ?_;refine⟨b2,0,rfl,_,H,b,0,rfl,_,by rw [KF];exact h5,ra,m,rfl,hm,?_⟩;cases a with
 | none=>exact⟨0,false,.inr ⟨rfl,z,rfl⟩,G⟩
 | some n=>exact⟨n,true,.inl ⟨rfl,z⟩,G⟩
structure Ha (w:World)(ra b b2 b6 b8 b105:Nat)(all:List Tx)(mf:Value->Option Value)(A:Tx->Tx->Option Nat):Prop where
 h2:w.cell? ⟨b2,0,none⟩=some (ptr b)
 l2:b2< w.heap.size
 h5:w.cell? ⟨b,5,none⟩=some (.map (some ra))
 lb:b< w.heap.size
 ap:sE w ra all (λ _ _=>True) A
 h8:w.cell? ⟨b8,0,none⟩=some (.map (some b6))
 l8:b8< w.heap.size
 mq:IsMap w b6 .string mf
 fr:∀s∈all,∃v l,mf (.string (ab s))=some v/\Strs w v l/\(∀t,t∈l↔pD s t)/\l.length<=120
 hc:w.cell? ⟨b105,0,none⟩=some (.func (.func 156) #[] #[ptr b2])
 lc:b105< w.heap.size
theorem Ha.ex {w w':World}{ra b b2 b6 b8 b105:Nat}{all:List Tx}{mf:Value->Option Value}{A:Tx->Tx->Option Nat}(h:Ha w ra b b2 b6 b8 b105 all mf A)(x:Ex w w'):Ha w' ra b b2 b6 b8 b105 all mf A:=by
 have s:=x.size;have :=h.l2;have :=h.lb;have :=h.l8;have :=h.lc;refine⟨by rw [x.cell (a:=⟨b2,0,none⟩) h.l2];exact h.h2,by omega,by rw [x.cell (a:=⟨b,5,none⟩) h.lb];exact h.h5,by omega,h.ap.ex x,by rw [x.cell (a:=⟨b8,0,none⟩) h.l8];exact h.h8,by omega,aU h.mq (x.block b6 (bX h.mq)),λt z=>?_,by rw [x.cell (a:=⟨b105,0,none⟩) h.lc];exact h.hc,by omega⟩;obtain⟨v,l,G,h2,H⟩:=h.fr t z;exact⟨v,l,G,h2.ex x,H⟩
theorem Ha.is {w:World}{ra b b2 b6 b8 b105:Nat}{all:List Tx}{mf:Value->Option Value}{A:Tx->Tx->Option Nat}(h:Ha w ra b b2 b6 b8 b105 all mf A){s t:Tx}(z:s∈all)(G:t∈all){R:Bool->World->Prop}(H:R (A s t).isSome w):
  Calls Tryz.prog 156 #[.string (ab s),.string (ab t),ptr b2] w (ax [.b] R):=by
 obtain⟨m,I,h2⟩:=h.ap;exact Ji h.h2 h.h5 I (by rw [h2 s z t G,KG trivial]) H
theorem CE {α:Type}{a:Option α}{d:Decidable (a=none)}:@decide (a=none) d= !a.isSome:=by
 cases a
 ·exact Lc rfl
 ·exact Lj (by simp)
theorem Hz {w:World}{ra b b2 b6 b8 b105 z:Nat}{all:List Tx}{mf:Value->Option Value}{A:Tx->Tx->Option Nat}(h:Ha w ra b b2 b6 b8 b105 all mf A){k l:Tx}(H:k∈all)(I:l∈all)(G:w.cell? ⟨z,0,none⟩=some (.string (ab k))){R:Bool->World->Prop}(J:R (!(A k l).isSome) w):
  Calls Tryz.prog 158 #[.string (ab l),ptr b105,ptr z] w (ax [.b] R):=by
 refine jk l _ _ w R ?_;exact⟨b105,0,rfl,_,h.hc,z,0,rfl,k,G,156,[ptr b2],rfl,by kernel_rfl,h.is H I J⟩
theorem dT {p:Prop}{d:Decidable p}(h:p):@decide p d=true:=Lc h
theorem dF {p:Prop}{d:Decidable p}(h:¬p):@decide p d=false:=Lj h
theorem JU {p:Prop}{d:Decidable p}(h:@decide p d=true):p:=Kv h
theorem JY {p:Prop}{d:Decidable p}(h:@decide p d=false):¬p:=Kw h
def IU (A:Tx->Tx->Option Nat)(m k:Tx):Prop:=¬∃n,pD m n/\A k n=none
theorem IS {w:World}{ra b b2 b6 b8 b105 bm:Nat}{all:List Tx}{mf:Value->Option Value}{A:Tx->Tx->Option Nat}(h:Ha w ra b b2 b6 b8 b105 all mf A)(I:Cl all){k m:Tx}(hk:k∈all)(hm:m∈all)(J:w.cell? ⟨bm,0,none⟩=some (.string (ab m)))(V:bm< w.heap.size){R:Bool->World->Prop}(hR:∀w',Ex w w'->R (decide (IU A m k)) w'):
  Calls Tryz.prog 157 #[.string (ab k),ptr b8,ptr bm,ptr b105] w (ax [.b] R):=by
 refine kE k _ _ _ w R ?_;intro b5 W Z G;have x6:Ex w W:=G▸Ex.alloc w _;have z:=h.ex x6;have s6:W.heap.size=w.heap.size+1:=by rw [G,size_alloc]
 have c5:W.cell? ⟨b5,0,none⟩=some (.string (ab k)):=by rw [G,Z];exact aa rfl
 obtain⟨v,l,h1,h2,h3,h4⟩:=z.fr m hm;refine⟨b8,0,rfl,_,z.h8,bm,0,rfl,m,by rw [x6.cell (a:=⟨bm,0,none⟩) V];exact J,b6,mf,rfl,z.mq,v,true,.inl ⟨rfl,h1⟩,?_⟩;refine D1 (ca:=[ptr b105,ptr b5]) h2 (by omega) (by kernel_rfl) (λn=>A k n=none) (λn hn w' Q x hQ=>?_) λw' x=>?_
 ·refine Hz (z.ex x) hk (I.Iq hm ((h3 n).1 hn)) (by rw [x.cell (a:=⟨b5,0,none⟩) (show b5< _ by omega)];exact c5) ?_;have :=hQ w' (Ex.refl _)
  rwa [CE]at this
 ·have :=hR w' (Ex.trans x6 x);have e:(∃s∈l,A k s=none)↔∃n,pD m n/\A k n=none:=⟨fun⟨n,h5,z⟩=>⟨n,(h3 n).1 h5,z⟩,fun⟨n,h5,z⟩=>⟨n,(h3 n).2 h5,z⟩⟩
  by_cases H:∃s∈l,A k s=none
  ·rw [dF (λhn:IU A m k=>hn (e.1 H))]at this;rw [dT H];exact this
  ·rw [dT (show IU A m k from λh=>H (e.2 h))]at this;rw [dF H];exact this
def yZ (L:List (Tx×Tx)):List Value:=L.flatMap λp=>[sv p.1,sv p.2]
theorem Bp (L:List (Tx×Tx)):(yZ L).length=L.length* 2:=by
 unfold yZ
 induction L with
 | nil=>rfl
 | cons p L z=>rw [Ly,J',z,J0];simp only [J0,Kh];omega
theorem Bs:∀{L:List (Tx×Tx)} {i:Nat} (h:i< L.length),(yZ L)[i* 2]?=some (sv L[i].1)/\(yZ L)[i* 2+1]?=some (sv L[i].2)
 | p::L,0,_=>⟨rfl,rfl⟩
 | p::L,i+1,h=>by
  have z:i< L.length:=by simpa using h
  obtain⟨G,h2⟩:=Bs z;have e:yZ (p::L)=sv p.1::sv p.2::yZ L:=rfl;rw [e,show(i+1)* 2=i* 2+1+1 by omega];exact⟨G,h2⟩
def fW (B:Nat)(w:World)(v:Value)(L:List (Tx×Tx)):Prop:=w.ownsRow B tP 2 v L.length (yZ L)
theorem fW.ex {B:Nat}{w w':World}{v:Value}{L:List (Tx×Tx)}(h:fW B w v L)(x:Ex w w'):fW B w' v L:=by
 refine⟨h.1,?_⟩;rcases h.2 with G | ⟨g,cap,cur,rfl,hb,z,rest⟩
 ·exact .inl G
 ·exact .inr ⟨g,cap,cur,rfl,hb,by rw [x.block g (KO.1 z).1];exact z,rest⟩
theorem fW.kp {B:Nat}{w w':World}{S:Nat->Prop}{v:Value}{L:List (Tx×Tx)}(h:fW B w v L)(x:Kp w w' S)(G:∀g,B<=g->¬S g):fW B w' v L:=by
 refine⟨h.1,?_⟩;rcases h.2 with H | ⟨g,cap,cur,rfl,hb,z,rest⟩
 ·exact .inl H
 ·exact .inr ⟨g,cap,cur,rfl,hb,by rw [x.block g (KO.1 z).1 (G g hb)];exact z,rest⟩
theorem fW.slice {B:Nat}{w:World}{v:Value}{L:List (Tx×Tx)}(h:fW B w v L):∃a cap,v= .slice a L.length cap:=by
 rcases h.2 with⟨z,G⟩ | ⟨g,cap,cur,rfl,_⟩
 ·exact⟨_,_,by rw [z,G]⟩
 ·exact⟨_,_,rfl⟩
theorem fW.block {B:Nat}{w:World}{v:Value}{L:List (Tx×Tx)}(h:fW B w v L):∀g,v.ownBlock=some g->B<=g/\g< w.heap.size:=MP h
theorem fW.at {B:Nat}{w:World}{v:Value}{L:List (Tx×Tx)}(h:fW B w v L){i:Nat}(G:i< L.length):∃g cap,v= .slice (some ⟨g,0,none⟩) L.length cap/\w.cell? ⟨g,0+(i:Int).toNat* 2,none⟩=some (sv L[i].1)/\w.cell? ⟨g,0+(i:Int).toNat* 2+1,none⟩=some (sv L[i].2):=by
 rcases h.2 with⟨V,W⟩ | ⟨g,cap,cur,rfl,hb,H,Z,h2,h3,h4⟩
 ·omega
 ·have key:∀j u,(yZ L)[j]?=some u->w.cell? ⟨g,j,none⟩=some u:=λj u hu=>by
   have z:j< (yZ L).length:=(KX.1 hu).1;unfold World.cell?;simp only [H];rw [<-h4,LD (by rw [Bp]at z;exact z),LL]at hu;exact hu
  obtain⟨I,J⟩:=Bs G;refine⟨g,cap,rfl,?_,?_⟩
  ·rw [show 0+(i:Int).toNat* 2=i* 2 by omega];exact key _ _ I
  ·rw [show 0+(i:Int).toNat* 2+1=i* 2+1 by omega];exact key _ _ J
theorem fW.IV {w w':World}{B b:Nat}(hB:B<=w.heap.size)(hb:b=w.heap.size)(h:w'=w.alloc (.cells #[] tP)):fW B w' (.slice (some ⟨b,0,none⟩) 0 0) []:=by
 subst hb h;refine⟨rfl,.inr ⟨_,0,#[],rfl,hB,?_,by simp,by unfold maxLen;omega,rfl,rfl⟩⟩;unfold World.alloc;simp
theorem fW.push {B b:Nat}{w w1:World}{v:Value}{L:List (Tx×Tx)}(h:fW B w v L)(hB:B<=w.heap.size){n m:Tx}(hb:b=w.heap.size)(z:w1=w.alloc (.cells #[sv n,sv m,sv m,sv n] tP))(W:L.length<=1000000000){K:Value->World->Prop}
  (H:∀v' w',fW B w' v' (L++[(n,m),(m,n)])->Below B w1 w'->K v' w'):eu tP 2 32 w1 v (.slice (some ⟨b,0,none⟩) 2 2) K:=by
 have G:Ex w w1:=z▸Ex.alloc w _;have s1:=G.size;refine⟨B,L.length,2,yZ L,yZ [(n,m),(m,n)],h.ex G,by omega,⟨by rw [Bp];rfl,rfl,.inr ⟨b,0,2,rfl,λj u hu=>?_⟩⟩,⟨by unfold maxLen;omega,by omega⟩,λv' w' I J Z=>H v' w' ?_ ?_⟩
 ·rw [KF,z,hb];exact aa (by rw [<-hu];simp [yZ])
 ·have e:yZ (L++[(n,m),(m,n)])=yZ L++yZ [(n,m),(m,n)]:=by unfold yZ;rw [Lf]
  unfold fW;rw [J',e];exact I
 ·exact Kp.below (Kp.aQ J λ _ h=>h) (by omega) λg V e=>by have :=(h.block g e).1;omega
theorem Bc {x y:UInt32}{k:UInt8}{s t:Tx}(h:iX x λc=>decide (c∈pC k s))(z:iX y λc=>decide (c∈pC k t))(G:x.toNat< 67108864)(H:y.toNat< 67108864):x=y↔pC k s=pC k t:=by
 constructor
 ·rintro rfl
  refine wW (Bb _ _) (Bb _ _) λc=>?_
  by_cases hc:lt c=true
  ·have :=(h c hc).symm.trans (z c hc);simpa using this
  ·exact⟨λe=>absurd (DY e) hc,λe=>absurd (DY e) hc⟩
 ·intro e;rw [e]at h;exact HQ h z G H
def Pr (all:List Tx)(j i:Nat)(a b:Tx):Prop:=(a∈all.take j/\b∈all)\/(all[j]?=some a/\b∈all.take i)
theorem rH {all:List Tx}{j:Nat}{a b:Tx}:Pr all j 0 a b↔a∈all.take j/\b∈all:=by unfold Pr;simp
theorem CU {all:List Tx}{j:Nat}(h:j< all.length){a b:Tx}:Pr all j all.length a b↔Pr all (j+1) 0 a b:=by
 rw [rH];unfold Pr;rw [KA,J8 h,J2 h,Ke,Kf];constructor
 ·rintro(⟨z,h2⟩ | ⟨z,h2⟩)
  ·exact⟨.inl z,h2⟩
  ·exact⟨.inr (KS z).symm,h2⟩
 ·rintro⟨z | z,h2⟩
  ·exact .inl ⟨z,h2⟩
  ·exact .inr ⟨by rw [z],h2⟩
theorem rJ {all:List Tx}{j i:Nat}(G:j< all.length)(H:i< all.length){a b:Tx}:Pr all j (i+1) a b↔Pr all j i a b\/a=all[j]/\b=all[i]:=by
 unfold Pr;rw [J8 H,J2 G,Ke,Kf];constructor
 ·rintro(h | ⟨z,h2 | h2⟩)
  ·exact .inl (.inl h)
  ·exact .inl (.inr ⟨z,h2⟩)
  ·exact .inr ⟨(KS z).symm,h2⟩
 ·rintro((h | ⟨z,h2⟩) | ⟨z,h2⟩)
  ·exact .inl h
  ·exact .inr ⟨z,.inl h2⟩
  ·exact .inr ⟨by rw [z],.inr h2⟩
theorem CD {all:List Tx}{a b:Tx}:Pr all all.length 0 a b↔a∈all/\b∈all:=by rw [rH,KA]
def EV (all:List Tx):List (Tx×Tx):=all.flatMap λs=>all.map λt=>(s,t)
theorem AR {all:List Tx}{s t:Tx}:(s,t)∈EV all↔s∈all/\t∈all:=by
 unfold EV;simp [KU]
theorem GH {all:List Tx}(h:all.length<=120):(EV all).length<=14400:=by
 have key:∀l:List Tx,(l.flatMap λs=>all.map λt=>(s,t)).length=l.length* all.length:=by
  intro l
  induction l with
  | nil=>simp
  | cons x l z=>rw [Ly,J',z,Kz,J0,Nat.add_mul,Nat.one_mul,Nl]
 unfold EV;rw [key];have :=Nb h h;omega
noncomputable def BY (all:List Tx)(A:Tx->Tx->Option Nat):Nat:=(EV all).countP λp=>decide (A p.1 p.2=none)
theorem Bt {α:Type}{p q:α->Bool}{l:List α}(h:∀x∈l,p x=true->q x=true){y:α}(G:y∈l)(V:q y=true)(h2:p y=false):l.countP p< l.countP q:=by
 induction l with
 | nil=>cases G
 | cons x l W=>
  have hle:l.countP p<=l.countP q:=List.countP_mono_left λz H=>h z (Ki _ H)
  rcases Ks.1 G with rfl | G
  ·rw [List.countP_cons_of_neg (by rw [h2];simp),MR V];omega
  ·have :=W (λz H=>h z (Ki _ H)) G;by_cases I:p x=true
   ·rw [MR I,MR (h x (by simp) I)];omega
   ·rw [List.countP_cons_of_neg I];by_cases J:q x=true
    ·rw [MR J];omega
    ·rw [List.countP_cons_of_neg J];omega
theorem sE.cnt {w:World}{ra:Nat}{all:List Tx}{A:Tx->Tx->Option Nat}(h:sE w ra all (λ _ _=>True) A):((EV all).countP λp=>decide (zG w ra (Cs p.1 p.2)=none))=BY all A:=by
 obtain⟨m,z,h2⟩:=h;unfold BY;refine List.countP_congr λp G=>?_
 obtain⟨H,I⟩:=AR.1 G;rw [fp z,h2 _ H _ I,KG trivial];cases A p.1 p.2<;>simp
def zt (all:List Tx)(A:Tx->Tx->Option Nat)(P:Tx->Tx->Prop)(L:List (Tx×Tx)):Prop:=
 ∀s t,(s,t)∈L↔∃a b,P a b/\A a b=none/\¬Hf A a b/\((s=a/\t=b)\/(s=b/\t=a))
theorem zt.congr {all:List Tx}{A:Tx->Tx->Option Nat}{P z:Tx->Tx->Prop}{L:List (Tx×Tx)}(h:zt all A P L)(e:∀a b,P a b↔z a b):zt all A z L:=λs t=>by
 rw [h s t];simp only [e]
theorem zt.add {all:List Tx}{A:Tx->Tx->Option Nat}{P:Tx->Tx->Prop}{L:List (Tx×Tx)}(h:zt all A P L){n m:Tx}(I:A n m=none)(h2:¬Hf A n m):zt all A (λa b=>P a b\/a=n/\b=m) (L++[(n,m),(m,n)]):=λs t=>by
 rw [Ke,h s t];constructor
 ·rintro(⟨a,b,z,G⟩ | k)
  ·exact⟨a,b,.inl z,G⟩
  ·simp only [Ks,Prod.mk.injEq,LY,Mq]at k;exact⟨n,m,.inr ⟨rfl,rfl⟩,I,h2,k⟩
 ·rintro⟨a,b,z | ⟨rfl,rfl⟩,G,J,H⟩
  ·exact .inl ⟨a,b,z,G,J,H⟩
  ·right;simp only [Ks,Prod.mk.injEq,LY,Mq];exact H
theorem zt.skip {all:List Tx}{A:Tx->Tx->Option Nat}{P:Tx->Tx->Prop}{L:List (Tx×Tx)}(h:zt all A P L){n m:Tx}(I:¬(A n m=none/\¬Hf A n m)):zt all A (λa b=>P a b\/a=n/\b=m) L:=λs t=>by
 rw [h s t];constructor
 ·rintro⟨a,b,G,z⟩;exact⟨a,b,.inl G,z⟩
 ·rintro⟨a,b,G | ⟨rfl,rfl⟩,z,H,J⟩
  ·exact⟨a,b,G,z,H,J⟩
  ·exact absurd ⟨z,H⟩ I
theorem yA {all:List Tx}{r:Nat}{L:List (Tx×Tx)}(h:zt all (ap r) (λa b=>a∈all/\b∈all) L){s t:Tx}(G:s∈all)(H:t∈all):(if(s,t)∈L then some (r+1)else ap r s t)=ap (r+1) s t:=by
 by_cases hm:(s,t)∈L
 ·rw [KG hm];obtain⟨a,b,_,I,J,V⟩:=(h s t).1 hm;rcases V with⟨rfl,rfl⟩ | ⟨rfl,rfl⟩
  ·rw [mB I,Ko λe=>J e.1]
  ·rw [mB (by rw [vX];exact I),Ko λe=>J e.2]
 ·rw [Ko hm];cases e:ap r s t with
  | some k=>exact(vI e).symm
  | none=>
   rw [mB e,KG];constructor
   ·exact K1 λz=>hm ((h s t).2 ⟨s,t,⟨G,H⟩,e,z,.inl ⟨rfl,rfl⟩⟩)
   ·exact K1 λz=>hm ((h s t).2 ⟨t,s,⟨H,G⟩,by rw [vX];exact e,z,.inr ⟨rfl,rfl⟩⟩)
theorem CF {all:List Tx}{r:Nat}{L:List (Tx×Tx)}(h:zt all (ap r) (λa b=>a∈all/\b∈all) L)(G:L≠[]):BY all (ap (r+1))< BY all (ap r):=by
 obtain⟨⟨s,t⟩,hm⟩:=List.exists_mem_of_ne_nil _ G;obtain⟨a,b,⟨ha,hb⟩,H,I,J⟩:=(h s t).1 hm;refine Bt (y:=(a,b)) (λp _ z=>?_) (AR.2 ⟨ha,hb⟩) (by simpa using H) ?_
 ·have z:ap (r+1) p.1 p.2=none:=by simpa using z
  cases e:ap r p.1 p.2 with
  | none=>simp [e]
  | some k=>rw [vI e]at z;cases z
 ·have:ap (r+1) a b=some (r+1):=by rw [mB H,Ko λe=>I e.1]
  simp [this]
structure R1 (w:World)(ra Q b b2 b4 b6 b8:Nat)(Pb Pq:Tx->Prop)(w':World):Prop where
 kp:Kp w w' λg=>g=ra
 lra:ra< w.heap.size
 l2:w.heap.size<=b2/\b2< Q
 l4:w.heap.size<=b4/\b4< Q
 l6:w.heap.size<=b6/\b6< Q
 l8:w.heap.size<=b8/\b8< Q
 lq:Q<=w'.heap.size
 n24:b2≠b4
 n26:b2≠b6
 n84:b8≠b4
 n86:b8≠b6
 n46:b4≠b6
 c2:w'.cell? ⟨b2,0,none⟩=some (ptr b)
 c8:w'.cell? ⟨b8,0,none⟩=some (.map (some b6))
 mb:∃m,IsMap w' b4 .string m/\∀s,Pb s->∃x y:UInt32,m (.string (ab s))=some (.agg #[.int .u32 x.toNat,.int .u32 y.toNat])/\(iX x λc=>decide (c∈pC 33 s))/\x.toNat< 67108864/\(iX y λc=>decide (c∈pC 63 s))/\y.toNat< 67108864
 mq:∃m,IsMap w' b6 .string m/\∀s,Pq s->∃v l,m (.string (ab s))=some v/\Strs w' v l/\(∀t,t∈l↔pD s t)/\l.length<=120/\∀g,v.ownBlock=some g->Q<=g
section
variable {w w1 w2:World} {ra Q b b2 b4 b6 b8:Nat} {Pb Pq:Tx->Prop}
theorem R1.to (h:R1 w ra Q b b2 b4 b6 b8 Pb Pq w1)(k:Kp w1 w2 λg=>g=ra):R1 w ra Q b b2 b4 b6 b8 Pb Pq w2:=by
 have s:=k.size;have lra:=h.lra;obtain⟨l2,H⟩:=h.l2;obtain⟨l4,I⟩:=h.l4;obtain⟨l6,J⟩:=h.l6;obtain⟨l8,V⟩:=h.l8;have lq:=h.lq;refine⟨Kp.trans h.kp k λ _ _ h=>h,h.lra,h.l2,h.l4,h.l6,h.l8,by omega,h.n24,h.n26,h.n84,h.n86,h.n46,by rw [J1 (w:=w1) (k.block b2 (by omega) (by omega))];exact h.c2,by rw [J1 (w:=w1) (k.block b8 (by omega) (by omega))];exact h.c8,?_,?_⟩
 ·obtain⟨m,z,h2⟩:=h.mb;exact⟨m,aU z (k.block b4 (by omega) (by omega)),h2⟩
 ·obtain⟨m,z,h2⟩:=h.mq;refine⟨m,aU z (k.block b6 (by omega) (by omega)),λt W=>?_⟩;obtain⟨v,l,Z,k2,k3,k4,G⟩:=h2 t W;exact⟨v,l,Z,k2.Dx k λg hg e=>by have :=G g hg;omega,k3,k4,G⟩
theorem R1.ex (h:R1 w ra Q b b2 b4 b6 b8 Pb Pq w1)(x:Ex w1 w2):R1 w ra Q b b2 b4 b6 b8 Pb Pq w2:=h.to (Kp.ah x _)
theorem R1.Jh (h:R1 w ra Q b b2 b4 b6 b8 Pb Pq w1){m:Value->Option Value}(hm:IsMap w1 b4 .string m){s:Tx}{x y:UInt32}(z:IsMap w2 b4 .string (bK m (.string (ab s)) (.agg #[.int .u32 x.toNat,.int .u32 y.toNat])))(k:bc w1 w2 b4)
  (Z:iX x λc=>decide (c∈pC 33 s)) (G:x.toNat< 67108864) (hy:iX y λc=>decide (c∈pC 63 s)) (H:y.toNat< 67108864):R1 w ra Q b b2 b4 b6 b8 (λt=>Pb t\/t=s) Pq w2:=by
 have kp:=Kp.jI k;have s1:=k.size;obtain⟨l4,α⟩:=h.l4;have lq:=h.lq;refine⟨Kp.trans h.kp kp λg V e=>by omega,h.lra,h.l2,h.l4,h.l6,h.l8,by omega,h.n24,h.n26,h.n84,h.n86,h.n46,by rw [J1 (w:=w1) (k.block b2 h.n24)];exact h.c2,by rw [J1 (w:=w1) (k.block b8 h.n84)];exact h.c8,⟨_,z,λt I=>?_⟩,?_⟩
 ·obtain⟨m',J,h2⟩:=h.mb;have e:m'=m:=(fp J).symm.trans (fp hm);subst e;unfold bK;by_cases e:t=s
  ·subst e;exact⟨x,y,by rw [KG rfl],Z,G,hy,H⟩
  ·rw [Ko λh=>e (eg (MQ h))];exact h2 t (I.resolve_right e)
 ·obtain⟨m,J,h2⟩:=h.mq;refine⟨m,aU J (k.block b6 h.n46.symm),λt I=>?_⟩;obtain⟨v,l,k1,k2,k3,k4,W⟩:=h2 t I;exact⟨v,l,k1,k2.Dx kp λg V e=>by have :=W g V;omega,k3,k4,W⟩
theorem R1.Jr (h:R1 w ra Q b b2 b4 b6 b8 Pb Pq w1){m:Value->Option Value}(hm:IsMap w1 b6 .string m){s:Tx}{v:Value}{l:List Tx}(G:IsMap w2 b6 .string (bK m (.string (ab s)) v))(k:bc w1 w2 b6)
  (V:Strs w1 v l) (hr:∀t,t∈l↔pD s t) (W:l.length<=120) (I:∀g,v.ownBlock=some g->Q<=g):R1 w ra Q b b2 b4 b6 b8 Pb (λt=>Pq t\/t=s) w2:=by
 have kp:=Kp.jI k;have s1:=k.size;obtain⟨l6,Z⟩:=h.l6;have lq:=h.lq;refine⟨Kp.trans h.kp kp λg z e=>by omega,h.lra,h.l2,h.l4,h.l6,h.l8,by omega,h.n24,h.n26,h.n84,h.n86,h.n46,by rw [J1 (w:=w1) (k.block b2 h.n26)];exact h.c2,by rw [J1 (w:=w1) (k.block b8 h.n86)];exact h.c8,?_,⟨_,G,λt ht=>?_⟩⟩
 ·obtain⟨m,H,h2⟩:=h.mb;exact⟨m,aU H (k.block b4 h.n46),h2⟩
 ·obtain⟨m',H,h2⟩:=h.mq;have e:m'=m:=(fp H).symm.trans (fp hm);subst e;unfold bK;by_cases e:t=s
  ·subst e;exact⟨v,l,by rw [KG rfl],V.Dx kp λg z e=>by have :=I g z;omega,hr,W,I⟩
  ·rw [Ko λh=>e (eg (MQ h))];obtain⟨v,l,k1,k2,k3,k4,J⟩:=h2 t (ht.resolve_right e);exact⟨v,l,k1,k2.Dx kp λg z e=>by have :=J g z;omega,k3,k4,J⟩
theorem R1.mono {z G:Tx->Prop}(h:R1 w ra Q b b2 b4 b6 b8 Pb Pq w1)(hb:∀s,z s->Pb s)(I:∀s,G s->Pq s):R1 w ra Q b b2 b4 b6 b8 z G w1:=by
 obtain⟨m,J,h2⟩:=h.mb;obtain⟨m',V,h4⟩:=h.mq;exact⟨h.kp,h.lra,h.l2,h.l4,h.l6,h.l8,h.lq,h.n24,h.n26,h.n84,h.n86,h.n46,h.c2,h.c8,⟨m,J,λs H=>h2 s (hb s H)⟩,m',V,λs H=>h4 s (I s H)⟩
end
theorem R1.fn {w w':World}{ra Q b r b2 b4 b6 b8 b105:Nat}{vo:Value}{all:List Tx}{mm:Value->Option Value}{A:Tx->Tx->Option Nat}(h:R1 w ra Q b b2 b4 b6 b8 (λs=>s∈all) (λs=>s∈all) w')(hb:C2 w' ra b r vo all mm)(ha:sE w' ra all (λ _ _=>True) A)(hc:w'.cell? ⟨b105,0,none⟩=some (.func (.func 156) #[] #[ptr b2]))(lc:b105< w'.heap.size):
  ∃mf,Ha w' ra b b2 b6 b8 b105 all mf A:=by
 obtain⟨m,z,h2⟩:=h.mq;have lq:=h.lq;refine⟨m,h.c2,by have :=h.l2;omega,hb.c5,hb.nm.lt,ha,h.c8,by have :=h.l8;omega,z,λs G=>?_,hc,lc⟩;obtain⟨v,l,H,I,J,V,_⟩:=h2 s G;exact⟨v,l,H,I,J,V⟩
structure G8 (w:World)(ra Q b r b2 b4 b6 b8 b105:Nat)(vo:Value)(all:List Tx)(mm:Value->Option Value)(w':World):Prop where
 r1:R1 w ra Q b b2 b4 b6 b8 (λs=>s∈all) (λs=>s∈all) w'
 bo:C2 w' ra b r vo all mm
 hc:w'.cell? ⟨b105,0,none⟩=some (.func (.func 156) #[] #[ptr b2])
 lc:b105< w'.heap.size
 nc:b105≠ra
theorem G8.to {w w1 w2:World}{ra Q b r b2 b4 b6 b8 b105:Nat}{vo:Value}{all:List Tx}{mm:Value->Option Value}(h:G8 w ra Q b r b2 b4 b6 b8 b105 vo all mm w1)(k:Kp w1 w2 λg=>g=ra):G8 w ra Q b r b2 b4 b6 b8 b105 vo all mm w2:=by
 have s:=k.size;have :=h.lc;exact⟨h.r1.to k,h.bo.kp k,by rw [J1 (w:=w1) (k.block b105 h.lc h.nc)];exact h.hc,by omega,h.nc⟩
theorem G8.ex {w w1 w2:World}{ra Q b r b2 b4 b6 b8 b105:Nat}{vo:Value}{all:List Tx}{mm:Value->Option Value}(h:G8 w ra Q b r b2 b4 b6 b8 b105 vo all mm w1)(x:Ex w1 w2):G8 w ra Q b r b2 b4 b6 b8 b105 vo all mm w2:=h.to (Kp.ah x _)
set_option maxHeartbeats 1000000 in
theorem Co {w w108:World}{ra Q b r b2 b4 b6 b8 b105:Nat}{vo:Value}{all:List Tx}{mm:Value->Option Value}(hcl:Cl all)(hl:all.length<=120)(hS:G8 w ra Q b r b2 b4 b6 b8 b105 vo all mm w108)(hA:sE w108 ra all (λ _ _=>True) (ap 0)){R:World->Prop}
  (hR:∀w',Kp w w' (λg=>g=ra)->C2 w' ra b r vo all mm->sE w' ra all (λ _ _=>True) Is->R w'):
  eM 1 w108 λI109 m110 φ z=>aN z (.cells #[] tP) λb113 κ=>aS κ b2 0 λv115=>az v115 λb116 o117=>aS κ b116 ((o117+0)+1) λv118=>bM v118 λl120=>jX ((.slice (some ⟨b113,0,none⟩) 0 0)) 0 κ λI122 m123 χ ε Z=>ai (decide (ε< (l120:Int))) (aJ v118 ε λb127 o128=>bZ Z b127 (o128+ε.toNat* 1) λψ=>aS Z b2 0 λv132=>az v132 λb133 o134=>aS Z b133 ((o134+0)+1) λv135=>bM v135 λl137=>jX χ 0 Z λI139 μ α G V=>ai (decide (G< (l137:Int))) (aJ v135 G λb144 o145=>bZ V b144 (o145+G.toNat* 1) λs148=>aN V (.cells #[(.string ⟨#[]⟩)] 9) λH ζ=>bg ζ H 0 (.string (ab s148)) λγ=>aS γ b105 0 λv153=>bZ γ H 0 λs154=>∃(f155:Nat) (c156:List Value),v153= .func (.func f155) #[] (List.toArray c156)/\List.contains dh f155=true/\ck f155 (List.toArray ([(.string (ab ψ)),(.string (ab s154))]++c156)) γ λq157 ν=>ai q157 (aj (G+1)/\I139 α (G+1) ν/\μ α (G+1) ν< μ α G V) (aS ν b2 0 λv159=>az v159 λb160 o161=>aS ν b160 ((o161+0)+2) λv162=>∃(r163:Nat) (m164:Value->Option Value),v162= .map (some r163)/\IsMap ν r163 .string m164/\∃y165:Value,∃g166:Bool,((g166=true/\m164 (.string (ab ψ))=some y165)\/(g166=false/\m164 (.string (ab ψ))=none/\y165=(.slice none 0 0)))/\ck 47 #[y165,(Value.func (Fn.func 157) #[] #[(.pointer (some ⟨b8,0,none⟩)),(.pointer (some ⟨H,0,none⟩)),(.pointer (some ⟨b105,0,none⟩))])] ν λq167 β=>ai q167 (bZ β H 0 λs169=>bZ β H 0 λs170=>aN β (.cells #[(.string (ab ψ)),(.string (ab s169)),(.string (ab s170)),(.string (ab ψ))] tP) λb171 w172=>eu tP 2 32 w172 α (.slice (some ⟨b171,0,none⟩) 2 2) λv178 w179=>aj (G+1)/\I139 v178 (G+1) w179/\μ v178 (G+1) w179< μ α G V) (aj (G+1)/\I139 α (G+1) β/\μ α (G+1) β< μ α G V))) (aj (ε+1)/\I122 α (ε+1) V/\m123 α (ε+1) V< m123 χ ε Z)) (bM χ λl181=>ai (decide ((l181:Int)=0)) (R Z) (bM χ λl184=>eM 0 Z λI186 m187 δ I=>ai (decide (δ< (l184:Int))) (aJ χ δ λb190 o191=>∃s194:ay,∃s195:ay,(World.cell? I ⟨b190,(o191+δ.toNat* 2),none⟩=some (.string (ab s194))/\World.cell? I ⟨b190,((o191+δ.toNat* 2)+1),none⟩=some (.string (ab s195))/\True)/\aN I (.cells #[(.string ⟨#[]⟩),(.string ⟨#[]⟩)] tP) λW η=>xh η W 0 2 [(.string (ab s194)),(.string (ab s195))] λθ=>bO θ λS199 w200=>ct S199 b2 0 λv201=>az v201 λb202 o203=>ct S199 b202 (o203+5) λv204=>∃s205:ay,∃s206:ay,(∀w',S199 w'->World.cell? w' ⟨W,0,none⟩=some (.string (ab s205))/\World.cell? w' ⟨W,1,none⟩=some (.string (ab s206))/\True)/\∃(r207:Nat) (m208:Value->Option Value),v204= .map (some r207)/\IsMap w200 r207 (TypeDesc.array 2 9) m208/\∀ω:World,IsMap ω r207 (TypeDesc.array 2 9) (bK m208 (.agg #[(.string (ab s205)),(.string (ab s206))]) (.int .i64 φ))->bc w200 ω r207->aj (δ+1)/\I186 (δ+1) ω/\m187 (δ+1) ω< m187 δ I) (aj (φ+1)/\I109 (φ+1) I/\m110 (φ+1) I< m110 φ z))):=by
 have hpl:=GH hl;refine⟨λx w'=>∃n:Nat,x=(n:Int)+1/\n+BY all (ap n)<=14400/\G8 w ra Q b r b2 b4 b6 b8 b105 vo all mm w'/\sE w' ra all (λ _ _=>True) (ap n),λ _ w'=>(EV all).countP λp=>decide (zG w' ra (Cs p.1 p.2)=none),
  ⟨0,rfl,by have:BY all (ap 0)<=(EV all).length:=List.countP_le_length;omega,hS,hA⟩,λx z hI=>?_⟩
 clear hS hA;obtain⟨n,rfl,hn,hS,hA⟩:=hI;intro b113 κ hb113 hw114;have x114:Ex z κ:=hw114▸Ex.alloc z _;have o114:fW z.heap.size κ (.slice (some ⟨b113,0,none⟩) 0 0) []:=fW.IV (Kb _) hb113 hw114;clear hw114 hb113;have hS':=hS.ex x114;obtain⟨a,cap,hv⟩:=hS.bo.so.slice;have hso:∀{w'},Ex z w'->Strs w' vo all:=λ{w'} x=>hS.bo.so.ex x
 refine⟨_,hS'.r1.c2,b,0,rfl,vo,hS'.bo.c1,a,_,cap,hv,λv x w'=>∃(j:Nat) (L:List (Tx×Tx)),x=j/\j<=all.length/\Ex z w'/\fW z.heap.size w' v L/\L.length<=240* j/\zt all (ap n) (Pr all j 0) L,λ _ x _=>(all.length - x).toNat,
  ⟨0,[],rfl,KT _,x114,o114,by simp,λs t=>by simp [rH]⟩,λv x Z hI=>?_⟩
 clear hS' o114 x114;obtain⟨j,L,rfl,hj,ξ,o126,hL,hLs⟩:=hI;have ι:=hS.ex ξ;have s126:=ξ.size;refine⟨λhlt=>?_,λhge=>?_⟩
 ·have hjl:j< all.length:=by simp only [J4]at hlt;omega
  have hjm:=Kg hjl;refine(hso ξ).get (Ex.refl _) (i:=j) (x:=all[j]) (by omega) (by rw [J9];exact J2 hjl) (Q:=λn=>_) ?_;refine⟨_,ι.r1.c2,b,0,rfl,vo,ι.bo.c1,a,_,cap,hv,λv x w'=>∃(i:Nat) (L:List (Tx×Tx)),x=i/\i<=all.length/\Ex z w'/\fW z.heap.size w' v L/\L.length<=240* j+2* i/\zt all (ap n) (Pr all j i) L,λ _ x _=>(all.length - x).toNat,
   ⟨0,L,rfl,KT _,ξ,o126,by omega,hLs⟩,λv' x V hI=>?_⟩
  obtain⟨i,L',rfl,hi,x143,o143,hL',hLs'⟩:=hI;have hS143:=hS.ex x143;have s143:=x143.size;refine⟨λhlt2=>?_,λhge2=>?_⟩;rotate_left
  ·have e:i=all.length:=by simp only [J6]at hge2;omega
   subst e;exact⟨by unfold aj;omega,⟨j+1,L',by omega,by omega,x143,o143,by omega,hLs'.congr λ _ _=>CU hjl⟩,by show((all.length:Int) - ((j:Int)+1)).toNat< ((all.length:Int) - j).toNat;omega⟩
  have hil:i< all.length:=by simp only [J4]at hlt2;omega
  have him:=Kg hil;have hm2:((all.length:Int) - ((i:Int)+1)).toNat< ((all.length:Int) - i).toNat:=by omega
  refine(hso x143).get (Ex.refl _) (i:=i) (x:=all[i]) (by omega) (by rw [J9];exact J2 hil) (Q:=λn=>_) ?_;intro H ζ hb149 ο;have x150:Ex V ζ:=ο▸Ex.alloc V _;have s150:ζ.heap.size=V.heap.size+1:=by rw [ο,size_alloc]
  have c150:ζ.cell? ⟨H,0,none⟩=some (.string ⟨#[]⟩):=by rw [ο,hb149];exact aa rfl
  refine⟨⟨⟨_,c150⟩,by rw [ο,hb149];exact aG _ _ _ _⟩,λγ hw152=>?_⟩;have k152:Kp ζ γ (λg=>g=H):=hw152▸Kr.set ζ 0 _;have x152:Ex V γ:=Ex.below x150 (Kp.below k152 (by omega) λg hg e=>by omega);have c152:γ.cell? ⟨H,0,none⟩=some (.string (ab all[i])):=by rw [hw152];exact Kj _ _ _ c150
  have s152:=k152.size;have ς:=Ex.trans x143 x152;have J:=hS.ex ς;have hA152:=hA.ex ς;obtain⟨mf,fc⟩:=J.r1.fn J.bo hA152 J.hc J.lc;have skip:∀{w':World},Ex γ w'->¬(ap n all[j] all[i]=none/\¬Hf (ap n) all[j] all[i])->aj ((i:Int)+1)/\(∃(i':Nat) (L:List (Tx×Tx)),(i:Int)+1=i'/\i'<=all.length/\Ex z w'/\fW z.heap.size w' v' L/\L.length<=240* j+2* i'/\zt all (ap n) (Pr all j i') L)/\((all.length:Int) - ((i:Int)+1)).toNat< ((all.length:Int) - i).toNat:=λ{w'} x hnn=>
   ⟨by unfold aj;omega,⟨i+1,L',by omega,by omega,Ex.trans ς x,o143.ex (Ex.trans x152 x),by omega,(hLs'.skip hnn).congr λ _ _=>(rJ hjl hil).symm⟩,hm2⟩
  refine⟨_,J.hc,all[i],c152,156,[ptr b2],rfl,by kernel_rfl,fc.is hjm him ⟨λhq=>?_,λhq=>?_⟩⟩
  ·refine skip (Ex.refl _) λh=>?_
   rw [h.1]at hq;cases hq
  have hnone:ap n all[j] all[i]=none:=by
   cases e:ap n all[j] all[i]with
   | none=>rfl
   | some k=>rw [e]at hq;cases hq
  obtain⟨vn,l,hn1,hn2,hn3,hn4⟩:=J.bo.nm.nx _ hjm;have enx:=vY hn2;refine⟨_,J.r1.c2,b,0,rfl,_,J.bo.nm.c2,r,mm,rfl,J.bo.nm.mp,vn,true,.inl ⟨rfl,hn1⟩,?_⟩;refine D1 (ca:=[ptr b8,ptr H,ptr b105]) hn4 (by have :=rC hn2;omega) (by kernel_rfl) (IU (ap n) all[i]) (λk hk w' Q' x hQ=>?_) λβ x168=>⟨λhq=>?_,λhq=>?_⟩
  ·exact IS (fc.ex x) hcl (hn3 k hk) him (by rw [x.cell (a:=⟨H,0,none⟩) (show H< _ by omega)];exact c152) (by have :=x.size;omega) hQ
  ·have hq:∃k∈l,IU (ap n) all[i] k:=JU hq;have hnh:¬Hf (ap n) all[j] all[i]:=λhh=>by
    obtain⟨k,h1,h2⟩:=hq;exact h2 (hh k (by rw [enx];exact h1))
   have c168:β.cell? ⟨H,0,none⟩=some (.string (ab all[i])):=by rw [x168.cell (a:=⟨H,0,none⟩) (show H< _ by omega)];exact c152
   refine⟨_,c168,_,c168,λb171 w172 hb171 hw172=>?_⟩;have s168:=x168.size;have xw168:=Ex.trans ς x168;have x172:Ex β w172:=hw172▸Ex.alloc β _;refine fW.push (o143.ex (Ex.trans x152 x168)) (by omega) (n:=all[j]) (m:=all[i]) hb171 hw172 (by omega) λv'' w179 o179 b179=>⟨by unfold aj;omega,⟨i+1,_,by omega,by omega,Ex.below (Ex.trans xw168 x172) b179,o179,by simp only [J',J0,Kh];omega,(hLs'.add hnone hnh).congr λ _ _=>(rJ hjl hil).symm⟩,hm2⟩
  ·refine skip x168 λh=>JY hq ?_
   exact K1 λhc=>h.2 λk hk=>K1 λhk2=>hc ⟨k,by rw [<-enx];exact hk,hk2⟩
 have e:j=all.length:=by simp only [J6]at hge;omega
 subst e;have hLs2:zt all (ap n) (λa b=>a∈all/\b∈all) L:=hLs.congr λ _ _=>CD
 obtain⟨aL,capL,hvL⟩:=o126.slice;refine⟨aL,_,capL,hvL,λhz=>?_,λhz=>⟨aL,_,capL,hvL,?_⟩⟩
 ·have hz:L=[]:=by simp only [J4]at hz;exact KD (by omega)
  subst hz;refine hR Z ι.r1.kp ι.bo ((hA.ex ξ).congr λs hs t ht=>?_);rw [KG trivial,KG trivial,E5 hcl (r:=n) (λs hs t ht=>?_) s hs t ht];have :=yA hLs2 hs ht;simpa using this.symm
 have hne:L≠[]:=λe=>by subst e;simp at hz
 have hlt:=CF hLs2 hne;refine⟨λx w'=>∃i:Nat,x=i/\i<=L.length/\Kp Z w' (λg=>g=ra)/\sE w' ra all (λ _ _=>True) (λs t=>if(s,t)∈L.take i then some (n+1)else ap n s t),λx _=>(L.length - x).toNat,
  ⟨0,rfl,KT _,Kp.ah (Ex.refl _) _,(hA.ex ξ).congr λs _ t _=>by simp⟩,λx I hI=>?_⟩
 obtain⟨i,rfl,hi,k189,hA189⟩:=hI;have hS189:=ι.to k189;have lra:=hS.r1.lra;have sw:=hS.r1.kp.size;refine⟨λhlt2=>?_,λhge2=>?_⟩;rotate_left
 ·have e:i=L.length:=by simp only [J6]at hge2;omega
  rw [e,KA]at hA189;have hA2:sE I ra all (λ _ _=>True) (ap (n+1)):=hA189.congr λs hs t ht=>by rw [KG trivial,KG trivial,yA hLs2 hs ht]
  refine⟨by unfold aj;omega,⟨n+1,by omega,by omega,hS189,hA2⟩,?_⟩;show((EV all).countP λp=>decide (zG I ra (Cs p.1 p.2)=none))< (EV all).countP λp=>decide (zG z ra (Cs p.1 p.2)=none)
  rw [hA2.cnt,hA.cnt];exact hlt
 have hil:i< L.length:=by simp only [J4]at hlt2;omega
 have o189:fW z.heap.size I v L:=o126.kp k189 λg hg e=>by omega
 obtain⟨g,capg,hvg,k1,k2⟩:=o189.at hil;refine⟨g,0,_,_,hvg,by omega,by omega,L[i].1,L[i].2,⟨k1,k2,trivial⟩,λW η hb196 υ=>?_⟩;have x197:Ex I η:=υ▸Ex.alloc I _;have s197:η.heap.size=I.heap.size+1:=by rw [υ,size_alloc]
 have c197:∀j,j< 2->∃u,η.cell? ⟨W,0+j,none⟩=some u:=λj hj=>by
  rw [KF,υ,hb196]
  match j,hj with
  | 0,_=>exact⟨_,aa rfl⟩
  | 1,_=>exact⟨_,aa rfl⟩
 refine⟨⟨rfl,rfl,λj hj=>⟨c197 j hj,by rw [υ,hb196];exact aG _ _ _ _⟩⟩,λθ hw198=>?_⟩;obtain⟨kr,_,_,sc⟩:=aX (b:=W) [sv L[i].1,sv L[i].2] η 0;rw [show World.setCells η W 0 [sv L[i].1,sv L[i].2]=θ from hw198.symm]at kr sc;have sc:=λj (hj:j< 2)=>sc j c197 hj
 have s198:=kr.size;have x198:Ex I θ:=Ex.below x197 (Kp.below kr (by omega) λg hg e=>by omega);have hS198:=hS189.ex x198;refine⟨λw'=>Ex θ w',λw200 hw200=>⟨hw200▸Ex.drew θ,_,λw' x=>(hS198.ex x).r1.c2,b,0,rfl,_,λw' x=>by rw [KF];exact(hS198.ex x).bo.c5,L[i].1,L[i].2,λw' x=>⟨?_,?_,trivial⟩,?_⟩⟩
 ·rw [x.cell (a:=⟨W,0,none⟩) (show W< _ by omega)];exact sc 0 (by omega)
 ·rw [x.cell (a:=⟨W,1,none⟩) (show W< _ by omega)];exact sc 1 (by omega)
 have x200:Ex I w200:=Ex.trans x198 (hw200▸Ex.drew θ);have hA200:=hA189.ex x200;obtain⟨m,hm,_⟩:=id hA200;refine⟨ra,m,rfl,hm,λω hm209 k209=>⟨by unfold aj;omega,⟨i+1,by omega,by omega,?_,?_⟩,by show((L.length:Int) - ((i:Int)+1)).toNat< ((L.length:Int) - i).toNat;omega⟩⟩
 ·exact Kp.trans (Kp.trans k189 (Kp.ah x200 _) λ _ _ h=>h) (Kp.jI k209) λ _ _ h=>h
 ·refine(hA200.set (n:=n+1) hm hm209).congr λs _ t _=>?_
  simp only [true_or,LN];rw [J8 hil];by_cases e:s=L[i].1/\t=L[i].2
  ·rw [KG e,KG];rw [Ke,Kf];exact .inr (by rw [e.1,e.2])
  ·rw [Ko e];have:(s,t)∈L.take i++[L[i]]↔(s,t)∈L.take i:=by
    rw [Ke,Kf];exact⟨λh=>h.resolve_right λh=>e ⟨by rw [<-h],by rw [<-h]⟩,.inl⟩
   simp only [this]
end Go.Proofs.YtdecokaadekjnaaGreat
