/- Part 5 of a proof of what the last text states; no condition. -/
import Derived.Test.YtdecokaadekjnaaGreatAb4
set_option maxRecDepth 100000
set_option maxHeartbeats 4000000
namespace Go.Proofs.YtdecokaadekjnaaGreat
open Go Go.RowKit T
theorem CO {w w1:World}{g e:Nat}{cs:List Value}(Z:cs.length=5)(J:g=w.heap.size)(G:w1=w.alloc (.cells #[.int .u8 0,.int .i64 0,.int .i64 0,.pointer none,.bool false] e)):
  (∀j,j< 5->(∃u,w1.cell? ⟨g,0+j,none⟩=some u)/\w1.frozen? ⟨g,0+j,none⟩=false)/\∀w2,w2=World.setCells w1 g 0 cs->Ex w w2/\g< w2.heap.size/\∀j,j< 5->w2.cell? ⟨g,j,none⟩=cs[j]?:=by
 have hc:∀j,j< 5->∃u,w1.cell? ⟨g,0+j,none⟩=some u:=λj hj=>by
  rw [G,J];have:∃u,(#[.int .u8 0,.int .i64 0,.int .i64 0,.pointer none,.bool false]:Array Value)[0+j]?=some u:=by
   rw [Ph];exact⟨_,Array.getElem?_eq_getElem (by simpa using hj)⟩
  obtain⟨u,hu⟩:=this;exact⟨u,aa hu⟩
 refine⟨λj hj=>⟨hc j hj,by rw [G,J];exact aG _ _ _ _⟩,λw2 H=>?_⟩;obtain⟨k,_,_,V⟩:=aK (b:=g) cs w1 0;rw [<-H]at k V;have W:Ex w w1:=G▸Ex.alloc _ _;have s1:w1.heap.size=w.heap.size+1:=by rw [G,size_alloc]
 have s2:=k.size;refine⟨Ex.below W (Kp.below k W.size λb hb e=>by omega),by omega,λj hj=>?_⟩;have :=V j (λi hi=>hc i (by omega)) (by omega)
 rwa [Ph]at this
theorem fQ {A:Type}:∀t:T A,(offs t).length<=t.size:=by
 intro t
 induction t with
 | sum p q G H=>simp only [offs,OM,T.size];omega
 | rep p G=>simp only [offs,O8,T.size];omega
 | _=>simp [offs,T.size]
theorem iy {X Y:Type}{f:X->List Y}{c:Nat}:∀{l:List X},(∀x∈l,(f x).length<=c)->(l.flatMap f).length<=l.length* c
 | [],_=>by simp
 | x::l,h=>by
  have H:=h x (by simp);have h2:=iy (f:=f) (c:=c) (l:=l) λy G=>h y (by simp [G])
  simp only [Qh,OM,OF,Nat.succ_mul];omega
theorem lk.any {D:Nat->Prop}{w:World}{o:Off Nat}{cs:List Value}(h:lk D w o cs):∃(k:UInt8) (a b:Nat) (vr:Value) (s:Bool),cs=cX k a b vr s/\ay vr=true:=by
 cases o with
 | tau p=>obtain⟨a,b,vr,s,G,h2⟩:=h;exact⟨126,a,b,vr,s,G,h2.one⟩
 | snd a b p=>obtain⟨vr,s,G,h2⟩:=h;exact⟨33,a,b,vr,s,G,h2.one⟩
 | rcv a b p s=>obtain⟨vr,G,h2⟩:=h;exact⟨63,a,b,vr,s,G,h2.one⟩
theorem uS {k:UInt8}{a b:Nat}{vr:Value}{s:Bool}(h:ay vr=true):(cX k a b vr s).all ay=true:=by simp only [cX,PZ,RD,Ra,h]
theorem xv {D:Nat->Prop}{B:Nat}{w:World}{v:Value}{os:List (Off Nat)}{xs:List Value}(G:cK B w v os.length xs)(hm:OffsM D w os xs){j:Nat}(hj:j< os.length):∃(g cap:Nat) (cs:List Value),v= .slice (some ⟨g,0,none⟩) os.length cap/\lk D w os[j] cs/\∀i u,cs[i]?=some u->∀off,off=j* 5+i->i< 5->w.cell? ⟨g,off,none⟩=some u:=by
 obtain⟨cs,H,h2⟩:=hm.at hj;rcases G.cell with⟨_,J,_⟩ | ⟨g,cap,rfl,_,hc⟩
 ·omega
 ·refine⟨g,cap,cs,rfl,H,λi u hu off he hi=>?_⟩;have :=hc (j* 5+i) u (by rw [h2 i hi];exact hu);rw [he];rwa [Ph]at this
section
variable {t:P} {u:U} {b b2 n0:Nat} {w:World} {D:Nat->Prop}
def Rel (b:Nat)(w1:World)(G:Nat->Prop)(w2:World)(M2:Nat->Prop):Prop:=Kp w1 w2 (λg=>g=b\/G g)/\∀g,M2 g->G g\/w1.heap.size<=g
theorem Rel.refl (b:Nat)(w:World)(M:Nat->Prop):Rel b w M w M:=⟨Kp.af (Ex.refl w) _,λ _ h=> .inl h⟩
theorem Rel.trans {b:Nat}{w1 w2 G:World}{H M2 J:Nat->Prop}(h:Rel b w1 H w2 M2)(k:Rel b w2 M2 G J):Rel b w1 H G J:=
 ⟨Kp.trans h.1 k.1 λg V e=>e.elim .inl λW=>(h.2 g W).elim .inr λh=>by omega,λg V=>(k.2 g V).elim (h.2 g) λh'=> .inr (PN h.1.size h')⟩
theorem Rel.ex {b:Nat}{w1 w2 G:World}{H M2:Nat->Prop}(h:Rel b w1 H w2 M2)(x:Ex w2 G):Rel b w1 H G M2:=h.trans ⟨Kp.af x _,λ _ h=> .inl h⟩
theorem rA.mono {c G:Nat}{w w':World}{acc:List U}{M:Nat->Prop}(h:rA b b2 n0 c w w' acc M)(hc:c<=G):rA b b2 n0 G w w' acc M:=by
 obtain⟨n,H,h2,J⟩:=h.mc;exact⟨h.km,h.rs,⟨n,H,h2,by omega⟩,h.hb⟩
theorem Mm (hu:u=(num t e0 0).1)(hn0:n0=(num t e0 0).2)(ok:mO t)(su:SU t u)(hsz:u.size<=60){bl:Nat}(hcl0:w.cell? ⟨b,2,none⟩=some (ptr bl))(hl0:aC D w (td u) (ptr bl))(hD:∀g,D g->g≠b/\g< w.heap.size){i k:Nat}{e d:Nat}{p:U}(hi:i< u.ths.length)(hk:k< u.ths.length)(ho:Off.snd e d p∈offs u.ths[i])
  {w1:World} {M:Nat->Prop} {acc:List U} (h:rA b b2 n0 (60* acc.length) w w1 acc M) (hacc:acc.length<=20000000) {Z:Nat} {vr:Value} {s0:Bool} (c40:∀j,j< 5->w1.cell? ⟨Z,j,none⟩=(cX 33 e d vr s0)[j]?) (hb40:Z< w1.heap.size) (hMb:¬M Z) (hbb:Z≠b) (hvr:aC D w1 (td p) vr)
  {v89:Value} (h89:ah D w1 (tl [u.ths[k]]) [v89]) {J:Sl} (hJ:∀w3 M',rA b b2 n0 (60* (acc++E2 u i e d p k).length) w w3 (acc++E2 u i e d p k) M'->Rel b w1 M w3 M'->J w3):
  Sm 140 #[v89] w1 (an [.v] fun(v90:Value) (ξ:World)=>∃(a92:Option Addr) (χ cap94:Nat),v90=Value.slice a92 χ cap94/\∃(I95:Int->Sl) (ο:Int->World->Nat),I95 (0) ξ/\∀(H:Int) (β:World),I95 H β->((decide (H< (χ:Int)))=true->∃(b99 κ len101 cap102:Nat),v90=Value.slice (some ⟨b99,κ,none⟩) len101 cap102/\0<=(H:Int)/\(H:Int)< len101/\∃c103:UInt8,∃n104:Int,∃n105:Int,∃v106:Value,∃q107:Bool,(World.cell? β ⟨b99,(κ+Int.toNat H* 5),none⟩=some (Value.int IntKind.u8 (UInt8.toNat c103))/\World.cell? β ⟨b99,((κ+Int.toNat H* 5)+1),none⟩=some (Value.int IntKind.i64 n104)/\World.cell? β ⟨b99,(((κ+Int.toNat H* 5)+1)+1),none⟩=some (Value.int IntKind.i64 n105)/\World.cell? β ⟨b99,((((κ+Int.toNat H* 5)+1)+1)+1),none⟩=some v106/\World.cell? β ⟨b99,(((((κ+Int.toNat H* 5)+1)+1)+1)+1),none⟩=some (Value.bool q107)/\True)/\
   ∀(V:Nat) (ς:World),V=Array.size (World.heap β)->ς=World.alloc β (Obj.cells #[(Value.int IntKind.u8 0),(Value.int IntKind.i64 0),(Value.int IntKind.i64 0),(Value.pointer none),(Value.bool false)] 160)->(List.length [(Value.int IntKind.u8 (UInt8.toNat c103)),(Value.int IntKind.i64 n104),(Value.int IntKind.i64 n105),v106,(Value.bool q107)]=5/\List.all [(Value.int IntKind.u8 (UInt8.toNat c103)),(Value.int IntKind.i64 n104),(Value.int IntKind.i64 n105),v106,(Value.bool q107)] ay=true/\∀j,j< 5->(∃u,World.cell? ς ⟨V,0+j,none⟩=some u)/\World.frozen? ς ⟨V,0+j,none⟩=false)/\
   ∀G:World,G=World.setCells ς V 0 [(Value.int IntKind.u8 (UInt8.toNat c103)),(Value.int IntKind.i64 n104),(Value.int IntKind.i64 n105),v106,(Value.bool q107)]->((decide ((k:Int)=(i:Int)))=false->∃c111:UInt8,World.cell? G ⟨V,0,none⟩=some (Value.int IntKind.u8 (UInt8.toNat c111))/\((!decide (c111=63))=false->∃n112:Int,World.cell? G ⟨V,1,none⟩=some (Value.int IntKind.i64 n112)/\∃n113:Int,World.cell? G ⟨Z,1,none⟩=some (Value.int IntKind.i64 n113)/\((!decide (n112=n113))=true->a7 (H+1)/\I95 ((H+1)) G/\ο ((H+1)) G< ο H β)/\((!decide (n112=n113))=false->∀(α:Nat) (γ:World),α=Array.size (World.heap G)->γ=World.alloc G (Obj.cells #[(Value.int IntKind.i64 (i:Int)),(Value.int IntKind.i64 (k:Int))] 3)->∃J116:Value->Sl,(∃q117:Bool,World.cell? γ ⟨V,4,none⟩=some (Value.bool q117)/\(q117=true->∃(a118:Option Addr) (len119 ε:Nat),(Value.slice (some ⟨α,0,none⟩) 2 2)=Value.slice a118 len119 ε/\0<=(0:Int)/\(0:Int)<=1/\1<=(ε:Int)/\J116 ((Value.slice (if ε=Int.toNat 0 then a118 else Option.map (·.add (Int.toNat 0* 1)) a118) (Int.toNat 1 - Int.toNat 0) (ε - Int.toNat 0))) γ)/\(q117=false->J116 ((Value.slice (some ⟨α,0,none⟩) 2 2)) γ))/\
   ∀(υ:Value) (η:World),J116 υ η->∃δ:Sl,∀w124:World,w124=World.drew η->δ w124/\∃(b125 o126:Nat),ptr b=Value.pointer (some ⟨b125,o126,none⟩)/\∃v127:Value,(∀w',δ w'->World.cell? w' ⟨b125,(o126+2),none⟩=some v127)/\∃(b128 o129:Nat),v127=Value.pointer (some ⟨b128,o129,none⟩)/\∃v130:Value,(∀w',δ w'->World.cell? w' ⟨b128,(o129+0),none⟩=some v130)/\∃v131:Value,(∀w',δ w'->World.cell? w' ⟨Z,3,none⟩=some v131)/\∃c132:UInt8,∃n133:Int,∃n134:Int,∃v135:Value,∃q136:Bool,(∀w',δ w'->World.cell? w' ⟨V,0,none⟩=some (Value.int IntKind.u8 (UInt8.toNat c132))/\World.cell? w' ⟨V,1,none⟩=some (Value.int IntKind.i64 n133)/\World.cell? w' ⟨V,2,none⟩=some (Value.int IntKind.i64 n134)/\World.cell? w' ⟨V,3,none⟩=some v135/\World.cell? w' ⟨V,4,none⟩=some (Value.bool q136)/\True)/\∃n137:Int,(∀w',δ w'->World.cell? w' ⟨Z,2,none⟩=some (Value.int IntKind.i64 n137))/\
   Sm 177 #[ptr b,(Value.agg #[(Value.int IntKind.u8 (UInt8.toNat c132)),(Value.int IntKind.i64 n133),(Value.int IntKind.i64 n134),v135,(Value.bool q136)]),(Value.int IntKind.i64 n137)] w124 (an [.v] fun(v138:Value) (w139:World)=>δ w139/\ay v131=true/\ay v138=true/\∀(b140:Nat) (w141:World),b140=Array.size (World.heap w139)->w141=World.alloc w139 (Obj.cells #[v131,v138] 146)->δ w141/\Sm 176 #[ptr b,υ,v130,(Value.slice (some ⟨b140,0,none⟩) 2 2)] w141 (an [.s,.b] fun(s142:aB) (q143:Bool) (w144:World)=>δ w144/\Sm 99 #[(Value.pointer (some ⟨b2,0,none⟩)),(Value.string (ai s142)),(Value.bool q143)] w144 (an [] fun(w145:World)=>δ w145/\a7 (H+1)/\I95 ((H+1)) w145/\ο ((H+1)) w145< ο H β)))))/\((!decide (c111=63))=true->a7 (H+1)/\I95 ((H+1)) G/\ο ((H+1)) G< ο H β))/\((decide ((k:Int)=(i:Int)))=true->a7 (H+1)/\I95 ((H+1)) G/\ο ((H+1)) G< ο H β))/\((decide (H< (χ:Int)))=false->J β)):=by
 have hthk:=su.th _ (OP hk);have hks:=eO u _ (OP hk);have sw0:=h.km.size;have hDM:∀g,D g->¬(g=b\/M g):=λg hg e=>e.elim (hD g hg).1 λhM=>by have :=(hD g hg).2;have :=(h.rs.mr g hM).1;omega
 have egd:u.ths.getD k .nil=u.ths[k]:=cP hk;generalize hos:offs u.ths[k]=os at*;have hosl:os.length<=60:=by have :=fQ u.ths[k];rw [hos]at this;omega
 have hE3:∀r,((os.take r).flatMap (E3 u i k e d p)).length<=60:=λr=>by
  have h1:=iy (f:=E3 u i k e d p) (c:=1) (l:=os.take r) λx _=>by
   cases x with
   | rcv e' x q s=>unfold E3;simp only;split<;>simp
   | _=>simp [E3]
  rw [Pt]at h1;omega
 refine tK hthk.1 hthk.2.1 hthk.2.2 (su.smp _ (OP hk)) (by omega) (λg hg=>by have :=(hD g hg).2;omega) h89 λv90 ξ xs x91 ho91 hm91=>?_
 rw [hos]at ho91 hm91;have hv90:∃a cap,v90= .slice a os.length cap:=by
  rcases ho91.cell with⟨h1,h2,_⟩ | ⟨g,cap,h1,_⟩
  ·exact⟨none,0,by rw [h1,h2]⟩
  ·exact⟨_,cap,h1⟩
 obtain⟨av,cav,hv90⟩:=hv90;have h91:=h.ex x91;have s91:=x91.size;refine⟨av,_,cav,hv90,λx w'=>∃(r:Nat) (M':Nat->Prop),x=r/\r<=os.length/\rA b b2 n0 (60* (acc++if i=k then []else(os.take r).flatMap (E3 u i k e d p)).length) w w' (acc++if i=k then []else(os.take r).flatMap (E3 u i k e d p)) M'/\Rel b ξ M w' M',λx _=>(os.length - x).toNat,⟨0,M,rfl,Px _,by simpa using h91,Rel.refl b ξ M⟩,λx β hI=>?_⟩;obtain⟨r,M',rfl,hr,ψ,W⟩:=hI;refine⟨λhlt=>?_,λhge=>?_⟩;rotate_left
 ·have hrl:=oE hge (by omega);rw [hrl,Pa]at ψ;have e2:E2 u i e d p k=if i=k then []else os.flatMap (E3 u i k e d p):=by unfold E2;rw [egd,hos]
  rw [<-e2]at ψ;exact hJ β M' ψ (((Rel.refl b w1 M).ex x91).trans W)
 have hrl:=oL hlt;have hMv:∀g,v90.ownBlock=some g->¬(g=b\/M g):=λg hg e=>by
  have h1:=ho91.block g hg;have :=h.hb;exact e.elim (λe=>by omega) λhM=>by have :=(h.rs.mr g hM).2;omega
 have hM91:∀g,g< ξ.heap.size->¬(g=b\/M g)->¬(g=b\/M' g):=λg h1 h2 e=>e.elim (λe=>h2 (.inl e)) λhM=>(W.2 g hM).elim (λhM=>h2 (.inr hM)) λh=>by omega
 have ho98:=ho91.kp W.1 hMv;have hm98:=OffsM.kp W.1 hDM hm91;obtain⟨g,cap,cs,hvg,ω,θ⟩:=xv ho98 hm98 hrl;obtain⟨kk,a1,b1,vq,s1,rfl,hone⟩:=ω.any;have s98:=W.1.size;refine⟨g,0,_,cap,hvg,by omega,by omega,kk,a1,b1,vq,s1,⟨θ 0 _ rfl _ (by omega) (by omega),θ 1 _ rfl _ (by omega) (by omega),θ 2 _ rfl _ (by omega) (by omega),θ 3 _ rfl _ (by omega) (by omega),θ 4 _ rfl _ (by omega) (by omega),trivial⟩,λV ς hb108 hw109=>?_⟩;obtain⟨box1,box2⟩:=CO (cs:=cX kk a1 b1 vq s1) rfl hb108 hw109;refine⟨⟨rfl,uS hone,box1⟩,λG hw110=>?_⟩;obtain⟨μ,l110,c110⟩:=box2 G hw110;have s110:=μ.size;have htk:(os.take (r+1)).flatMap (E3 u i k e d p)=(os.take r).flatMap (E3 u i k e d p)++E3 u i k e d p os[r]:=by rw [OK hrl,P2];simp
 have next:∀w',(E3 u i k e d p os[r]=[]\/i=k)->w'=G->a7 ((r:Int)+1)/\(∃(r2:Nat) (M2:Nat->Prop),(r:Int)+1=r2/\r2<=os.length/\rA b b2 n0 (60* (acc++if i=k then []else(os.take r2).flatMap (E3 u i k e d p)).length) w w' (acc++if i=k then []else(os.take r2).flatMap (E3 u i k e d p)) M2/\Rel b ξ M w' M2)/\((os.length:Int) - ((r:Int)+1)).toNat< ((os.length:Int) - r).toNat:=by
  intro w' he hw';subst hw';refine⟨by omega,⟨r+1,M',by omega,by omega,?_,W.ex μ⟩,by omega⟩;have:(if i=k then []else(os.take (r+1)).flatMap (E3 u i k e d p))=(if i=k then []else(os.take r).flatMap (E3 u i k e d p)):=by
   split
   ·rfl
   ·rename_i hik;rw [htk,he.resolve_right hik,Po]
  rw [this];exact ψ.ex μ
 have r110:=ψ.ex μ;by_cases hik:k=i
 ·exact⟨λh=>absurd (O9 h) (by omega),λ _=>next G (.inr hik.symm) rfl⟩
 refine⟨λ _=>⟨kk,c110 0 (by omega),?_,?_⟩,λh=>absurd (O7 h) (by omega)⟩;rotate_left
 ·intro ν;refine next G (.inl ?_) rfl;have hne:kk≠63:=by simpa using ν
  generalize hor:os[r]=o at*;cases o with
  | tau p=>rfl
  | snd a b p=>rfl
  | rcv a x q s=>obtain⟨vr',e1,_⟩:=ω;simp only [cX,PC,Qb]at e1;exact absurd (Pe.1 (by have :=e1.1.2;have e3:(63:UInt8).toNat=63:=rfl;omega)) hne
 ·intro ν;have ν:kk=63:=by
   cases hd:decide (kk=63)with
   | true=>exact O7 hd
   | false=>rw [hd]at ν;cases ν
  subst ν;obtain⟨x,q,e1,e2⟩:∃x q,os[r]= .rcv a1 x q s1/\x=b1:=by
   generalize hor:os[r]=o at*;cases o with
   | tau p=>obtain⟨_,_,_,_,e1,_⟩:=ω;simp only [cX,PC,Qb]at e1;exact absurd e1.1.2 (by decide)
   | snd a b p=>obtain⟨_,_,e1,_⟩:=ω;simp only [cX,PC,Qb]at e1;exact absurd e1.1.2 (by decide)
   | rcv a x q s=>
    obtain⟨vr',e1,_⟩:=ω;simp only [cX,PC,Qb,Value.bool.injEq,Rp,QS]at e1;exact⟨x,q,by rw [show a1=a by omega,e1.2.2.2],by omega⟩
  subst e2;have hrm:Off.rcv a1 x q s1∈offs u.ths[k]:=by rw [hos,<-e1];exact OP hrl
  rw [e1]at ω;obtain⟨vq',e3,hvq⟩:=ω;have:vq'=vq:=by simp only [cX,PC,Rp,QS]at e3;exact e3.symm
  subst this;have hb40':Z< ξ.heap.size:=by omega
  have hM40:¬(Z=b\/M Z):=λe=>e.elim hbb hMb
  have c40':∀j,j< 5->G.cell? ⟨Z,j,none⟩=(cX 33 e d vr s0)[j]?:=λj hj=>by
   rw [μ.cell (show Z< _ by omega),OG (w:=ξ) (W.1.block Z hb40' hM40),x91.cell (show Z< _ from hb40)];exact c40 j hj
  refine⟨a1,c110 1 (by omega),e,c40' 1 (by omega),λhne=>?_,λheq α γ hb114 ι=>?_⟩
  ·refine next G (.inl ?_) rfl;rw [e1];have hne:(a1:Int)≠e:=by simpa using hne
   exact O1 (by omega)
  ·have heq:a1=e:=by
    have:(a1:Int)=e:=by
     cases hd:decide ((a1:Int)=e)with
     | true=>exact O7 hd
     | false=>rw [hd]at heq;cases heq
    omega
   subst heq;have φ:Ex G γ:=ι▸Ex.alloc _ _;have s115:γ.heap.size=G.heap.size+1:=by rw [ι,size_alloc]
   have xx:=Ex.trans μ φ;have ζ:∀g,β.heap.size<=g->¬(g=b\/M' g):=λg hg e=>e.elim (λe=>by have :=h.hb;have :=ψ.km.size;omega) λhM=>by have :=(ψ.rs.mr g hM).2;omega
   refine⟨λgone w'=>w'=γ/\eP (λg=>g< γ.heap.size/\¬(g=b\/M' g)) γ gone ((if s1 then [i]else [i,k]).map iv),⟨s1,?_,λhs=>⟨_,_,2,rfl,by omega,by omega,by omega,rfl,?_⟩,λhs=>⟨rfl,?_⟩⟩,λgone η hJ2=>?_⟩
   ·rw [φ.cell (show V< _ from l110)];exact c110 4 (by omega)
   ·rw [hs];have:(if(2:Nat)=Int.toNat 0 then(some ⟨α,0,none⟩:Option Addr)else Option.map (λx:Addr=>x.add (Int.toNat 0* 1)) (some ⟨α,0,none⟩))=some ⟨α,0,none⟩:=by
     rw [O1 (by decide),QB,add_plain];rfl
    rw [this];refine .inr ⟨α,0,_,rfl,⟨by omega,ζ α (by omega)⟩,by omega,λi' y hy=>?_⟩;cases i' with
    | zero=>simp only [Qw,Pk,QL,P3,Qf]at hy;subst hy;rw [ι,hb114];exact aa rfl
    | succ i=>simp at hy
   ·rw [hs];refine .inr ⟨α,0,_,rfl,⟨by omega,ζ α (by omega)⟩,by omega,λi' y hy=>?_⟩
    match i',hy with
    | 0,hy=>simp only [Qx,Rm,Pk,QL,P3,Qf]at hy;subst hy;rw [ι,hb114];exact aa rfl
    | 1,hy=>simp only [Qx,Rm,Pk,QL,List.getElem?_cons_succ,P3,Qf]at hy;subst hy;rw [ι,hb114];exact aa rfl
    | i+2,hy=>simp at hy
   obtain⟨rfl,hgone⟩:=hJ2;have r122:=r110.ex φ;rw [O1 (λe=>hik e.symm)]at r122;have hE3r:=hE3 r;have hcl:η.cell? ⟨b,2,none⟩=some (ptr bl):=(r122.km.ce 2 (by omega)).trans hcl0;have hl:aC D η (td u) (ptr bl):=aC.kp hl0 r122.km.kp λg hg=>(hD g hg).1
   have cc40:∀j,j< 5->η.cell? ⟨Z,j,none⟩=(cX 33 a1 d vr s0)[j]?:=λj hj=>by rw [φ.cell (show Z< _ by omega)];exact c40' j hj
   have hvr':aC D η (td p) vr:=aC.ex (aC.kp (aC.ex hvr x91) W.1 hDM) xx;have hM40':=hM91 Z hb40' hM40;refine KC hu hn0 ok su hsz r122 hcl hl hD hi hk (λe=>hik e.symm) ho hrm (cc40 3 (by omega)) (cc40 2 (by omega)) (by omega) (λhM=>hM40' (.inr hM)) hbb hvr' (λj hj=>by rw [φ.cell (show V< _ from l110)];exact c110 j hj) (by omega) (λhM=>ζ V (by omega) (.inr hM)) (λe=>ζ V (by omega) (.inl e)) (aC.ex hvq xx) hgone (by rw [OM];omega) (by
    have hnn:=bW t e0 0;have hts:=ok.size;rw [OM];omega) λw3 M3 r3 k3 hM3=>⟨by omega,⟨r+1,M3,by omega,by omega,?_,(W.ex xx).trans ⟨k3,hM3⟩⟩,tN (by omega)⟩
   rw [O1 (λe=>hik e.symm),htk,e1];have e4:E3 u i k a1 d p (.rcv a1 x q s1)=[Gj u i k p (q.map (Ff (NN u) q x d)) s1]:=Pj rfl;rw [e4,<-Pv];refine r3.mono ?_;simp only [OM,OF,OX];omega
end
theorem GZ {t:P}(ok:mO t){w:World}{b:Nat}{D:Nat->Prop}(st:I7 w D b (num t e0 0).2 t.text (td (num t e0 0).1))(hD:∀g,D g->g≠b/\g< w.heap.size){R:Value->Bool->Sl}
  (hR1:qp (num t e0 0).1=none->∀w',Kr b w w'->R (.slice none 0 0) false w') (hR2:∀l,qp (num t e0 0).1=some l->∀v w',Kr b w w'->Strs w' v l->(∀g,v.ownBlock=some g->w.heap.size<=g)->R v true w'):Sm 136 #[ptr b] w (an [.v,.b] R):=by
 have su:=ok.su;have hszt:=ok.size;have hsh:=(me su.ae).2.2;generalize hu:(num t e0 0).1=u at*;have hsz:u.size<=60:=by omega
 refine iN (ptr b) w R ?_;intro b2 w3 hb2 ν;have x3:Ex w w3:=ν▸Ex.alloc _ _;have s3:w3.heap.size=w.heap.size+1:=by rw [ν,size_alloc]
 have hb:=st.mc.lt;obtain⟨vl,hcl0,hl0⟩:=st.l;obtain⟨bl,vo,vt,ts,rfl,k2,k3,k4,k5,k6,k7,k8,k9⟩:=Ei su hl0;obtain⟨at_,capt,hvt⟩:=k7.slice;have r3:rA b b2 (num t e0 0).2 (60* ([]:List U).length) w w3 [] (λg=>g=b2):=by
  refine⟨Km.ex x3 hb,⟨by omega,rfl,λg e=>by omega,λj=>by rw [ν,hb2];exact aG _ _ _ _,by rw [ν,hb2];exact aa rfl,.slice none 0 0,by rw [ν,hb2];exact aa rfl,Own.nil _ _,λg Z=>by cases Z⟩,⟨_,st.mc.ex x3,OQ _,by simp⟩,hb⟩
 have cb2:∀{w':World},Km b w w'->w'.cell? ⟨b,2,none⟩=some (ptr bl):=λk=>(k.ce 2 (by omega)).trans hcl0
 have cbl:∀{w':World},Km b w w'->∀{j:Nat} {x:Value},w.cell? ⟨bl,j,none⟩=some x->w'.cell? ⟨bl,j,none⟩=some x:=λk j x hx=>by rw [OG (w:=w) (k.kp.block bl k3 (hD bl k2).1)];exact hx
 have hlw:∀{w':World},Km b w w'->aC D w' (td u) (ptr bl):=λk=>aC.kp hl0 k.kp λg Z=>(hD g Z).1
 have ξ:∀{w':World},Km b w w'->∀i (hi:i< ts.length),∃bt ot V,vt= .slice (some ⟨bt,ot,none⟩) ts.length V/\w'.cell? ⟨bt,ot+i,none⟩=some ts[i]:=λk i hi=>by
  rcases k7 with⟨_,h0⟩ | ⟨bt,ot,V,e,hbD,hb',G⟩
  ·rw [h0]at hi;simp at hi
  ·exact⟨bt,ot,V,e,by rw [OG (w:=w) (k.kp.block bt hb' (hD bt hbD).1)];exact G i _ (OH hi)⟩
 have tth:∀{w':World},Km b w w'->∀i (h:i< u.ths.length) (h':i< ts.length),ah D w' (tl [u.ths[i]]) [ts[i]]:=λk i h h'=>ah.kp k.kp (λg Z=>(hD g Z).1) (k9 i h h')
 have hthl:u.ths.length<=60:=by
  have:∀u:U,u.ths.length<=u.size:=by
   intro u
   induction u with
   | par p q _ ih=>simp only [T.ths,OF,T.size];omega
   | res x p ih=>simp only [T.ths,T.size];omega
   | _=>simp [T.ths,T.size]
  have :=this u;omega
 have hol:∀i (h:i< u.ths.length),(offs u.ths[i]).length<=60:=λi h=>by
  have h1:=fQ u.ths[i];have h2:=eO u _ (OP h);omega
 have hE2:∀i c d p k,k< u.ths.length->(E2 u i c d p k).length<=60:=λi c d p k hk=>by
  unfold E2;split
  ·simp
  ·rw [cP hk];have h1:=iy (f:=E3 u i k c d p) (c:=1) (l:=offs u.ths[k]) λx _=>by
    cases x with
    | rcv e' x q s=>unfold E3;simp only;split<;>simp
    | _=>simp [E3]
   have :=hol k hk;omega
 have hE2s:∀i c d p k,k<=u.ths.length->((List.range k).flatMap (E2 u i c d p)).length<=3600:=λi c d p k hk=>by
  have h1:=iy (f:=E2 u i c d p) (c:=60) (l:=List.range k) λx hx=>hE2 i c d p x (by have :=Qc.1 hx;omega)
  rw [QR]at h1;omega
 have hE1:∀i o,(E1 u i o).length<=3600:=λi o=>by
  cases o with
  | tau p=>simp [E1]
  | rcv=>simp [E1]
  | snd c d p=>exact hE2s i c d p _ (OQ _)
 have hE1s:∀i j (h:i< u.ths.length),(((offs u.ths[i]).take j).flatMap (E1 u i)).length<=216000:=λi j h=>by
  have h1:=iy (f:=E1 u i) (c:=3600) (l:=(offs u.ths[i]).take j) λx _=>hE1 i x
  rw [Pt]at h1;have :=hol i h;omega
 have hE0:∀i,i< u.ths.length->(E0 u i).length<=216000:=λi h=>by
  have :=hE1s i (offs u.ths[i]).length h;rw [Pa]at this;unfold E0;rw [cP h];exact this
 have hE0s:∀i,i<=u.ths.length->((List.range i).flatMap (E0 u)).length<=12960000:=λi hi=>by
  have h1:=iy (f:=E0 u) (c:=216000) (l:=List.range i) λx hx=>hE0 x (by have :=Qc.1 hx;omega)
  rw [QR]at h1;omega
 refine⟨b,0,rfl,ptr bl,cb2 r3.km,bl,0,rfl,vt,cbl r3.km k5,at_,_,capt,hvt,λx w'=>∃(i:Nat) (M:Nat->Prop),x=i/\i<=ts.length/\rA b b2 (num t e0 0).2 (60* ((List.range i).flatMap (E0 u)).length) w w' ((List.range i).flatMap (E0 u)) M,λx _=>(ts.length - x).toNat,⟨0,_,rfl,Px _,by simpa using r3⟩,λx w16 hI=>?_⟩;obtain⟨i,M,rfl,hi,H⟩:=hI;refine⟨λhlt=>?_,λhge=>?_⟩;rotate_left
 ·have hil:i=u.ths.length:=by simp only [OV]at hge;omega
  rw [hil]at H;have hlen:=hE0s u.ths.length (OQ _);have e:(List.range u.ths.length).flatMap (E0 u)=gY u:=rfl;rw [e]at H hlen;have hol2:(outs (gY u)).length=(gY u).length:=by unfold outs;simp
  refine Lh H.rs (by omega) (λδ=>hR1 ?_ w16 H.km.kp) λδ v' w' k s hv=>hR2 _ ?_ v' w' ?_ s.strs λg Z=>(H.rs.mr g (hv g Z)).1
  ·unfold qp;rw [O1];intro h;rw [h]at δ;cases δ
  ·unfold qp;rw [Pj];cases h:jl (gY u)with
   | true=>rfl
   | false=>rw [h]at δ;cases δ
  ·exact Kp.trans H.km.kp k λg Z hM=>by have :=(H.rs.mr g hM).1;omega
 have hil:i< ts.length:=by simp only [OW]at hlt;omega
 have α:i< u.ths.length:=by omega
 obtain⟨bt,ot,V,hvt',hct⟩:=ξ H.km i hil;have ο:=su.th _ (OP α);have hsi:=eO u _ (OP α);have s16:=H.km.size;refine⟨bt,ot,_,V,hvt',by omega,by omega,ts[i],by rw [OU,Pn];exact hct,tK ο.1 ο.2.1 ο.2.2 (su.smp _ (OP α)) (by omega) (λg Z=>by have :=(hD g Z).2;omega) (tth H.km i α hil) λv22 w23 xs x23 ς hm23=>?_⟩;have ek:(List.range (i+1)).flatMap (E0 u)=(List.range i).flatMap (E0 u)++E0 u i:=by rw [RH,P2];simp
 have eE0:E0 u i=(offs u.ths[i]).flatMap (E1 u i):=by unfold E0;rw [cP α]
 have holi:=hol i α;have hE1i:=λj=>hE1s i j α
 have hofm:∀o∈offs u.ths[i],o∈offs u.ths[i]:=λ _ h=>h
 generalize hos:offs u.ths[i]=os at*;have υ:∃a cap,v22= .slice a os.length cap:=by
  rcases ς.cell with⟨h1,h2,_⟩ | ⟨g,cap,h1,_⟩
  ·exact⟨none,0,by rw [h1,h2]⟩
  ·exact⟨_,cap,h1⟩
 obtain⟨av,cav,υ⟩:=υ;have r23:=H.ex x23;have s23:=x23.size;have hacci:=hE0s i (by omega);generalize hA:(List.range i).flatMap (E0 u)=A at*;refine⟨av,_,cav,υ,λx w'=>∃(j:Nat) (M':Nat->Prop),x=j/\j<=os.length/\rA b b2 (num t e0 0).2 (60* (A++(os.take j).flatMap (E1 u i)).length) w w' (A++(os.take j).flatMap (E1 u i)) M'/\Rel b w23 M w' M',λx _=>(os.length - x).toNat,⟨0,M,rfl,Px _,by simpa using r23,Rel.refl b w23 M⟩,λx w30 hI=>?_⟩;obtain⟨j,M',rfl,hj,κ,β⟩:=hI;refine⟨λhlt2=>?_,λhge2=>?_⟩;rotate_left
 ·have φ:j=os.length:=by simp only [OV]at hge2;omega
  rw [φ,Pa,<-eE0,<-ek]at κ;exact⟨by omega,⟨i+1,M',by omega,by omega,κ⟩,tN (by omega)⟩
 have φ:j< os.length:=by simp only [OW]at hlt2;omega
 have hDM:∀g,D g->¬(g=b\/M g):=λg Z e=>e.elim (hD g Z).1 λhM=>by have :=(hD g Z).2;have :=(H.rs.mr g hM).1;omega
 have hMv:∀g,v22.ownBlock=some g->¬(g=b\/M g):=λg Z e=>by
  have h1:=ς.block g Z;exact e.elim (λe=>by omega) λhM=>by have :=(H.rs.mr g hM).2;omega
 have ho30:=ς.kp β.1 hMv;have hm30:=OffsM.kp β.1 hDM hm23;obtain⟨g,cap,cs,hvg,W,G⟩:=xv ho30 hm30 φ;obtain⟨kk,a1,b1,vr,s1,rfl,hone⟩:=W.any;have s30:=β.1.size;refine⟨g,0,_,cap,hvg,by omega,by omega,kk,a1,b1,vr,s1,⟨G 0 _ rfl _ (by omega) (by omega),G 1 _ rfl _ (by omega) (by omega),G 2 _ rfl _ (by omega) (by omega),G 3 _ rfl _ (by omega) (by omega),G 4 _ rfl _ (by omega) (by omega),trivial⟩,λb40 w41 hb40 hw41=>?_⟩;obtain⟨box1,box2⟩:=CO (cs:=cX kk a1 b1 vr s1) rfl hb40 hw41;refine⟨⟨rfl,uS hone,box1⟩,λθ hw42=>?_⟩;obtain⟨χ,l42,ε⟩:=box2 θ hw42;have s42:=χ.size;have ι:=κ.ex χ;have htk:(os.take (j+1)).flatMap (E1 u i)=(os.take j).flatMap (E1 u i)++E1 u i os[j]:=by rw [OK φ,P2];simp
 have hE1j:=hE1i j;have nb40:∀g,w30.heap.size<=g->¬(g=b\/M' g):=λg Z e=>e.elim (λe=>by have :=κ.km.size;omega) λhM=>by have :=(κ.rs.mr g hM).2;omega
 have ζ:=nb40 b40 (by omega);have γ:os[j]∈os:=OP φ;have rel42:=β.ex χ;have next:∀w' M2,rA b b2 (num t e0 0).2 (60* (A++(os.take j).flatMap (E1 u i)++E1 u i os[j]).length) w w' (A++(os.take j).flatMap (E1 u i)++E1 u i os[j]) M2->Rel b θ M' w' M2->a7 ((j:Int)+1)/\(∃(j2:Nat) (M3:Nat->Prop),(j:Int)+1=j2/\j2<=os.length/\rA b b2 (num t e0 0).2 (60* (A++(os.take j2).flatMap (E1 u i)).length) w w' (A++(os.take j2).flatMap (E1 u i)) M3/\Rel b w23 M w' M3)/\((os.length:Int) - ((j:Int)+1)).toNat< ((os.length:Int) - j).toNat:=by
  intro w' M2 r rel;refine⟨by omega,⟨j+1,M2,by omega,by omega,?_,rel42.trans rel⟩,by omega⟩;rw [htk,<-Pv];exact r
 have hvr:∀p,(os[j]= .tau p\/(∃c d,os[j]= .snd c d p))->aC D θ (td p) vr:=λp hp=>by
  rcases hp with hp | ⟨c,d,hp⟩
  ·rw [hp]at W;obtain⟨_,_,vr',_,e1,h1⟩:=W;simp only [cX,PC]at e1;rw [e1.2.2.2.1];exact aC.ex h1 χ
  ·rw [hp]at W;obtain⟨vr',_,e1,h1⟩:=W;simp only [cX,PC]at e1;rw [e1.2.2.2.1];exact aC.ex h1 χ
 cases η:os[j]with
 | tau p=>
  have hk:kk=126:=by
   rw [η]at W;obtain⟨_,_,_,_,e1,_⟩:=W;simp only [cX,PC,Qb]at e1;exact Pe.1 (by have e2:=e1.1.2;have e3:(126:UInt8).toNat=126:=rfl;omega)
  subst hk;rw [η]at next γ;refine⟨λw'=>∃M2,rA b b2 (num t e0 0).2 (60* (A++(os.take j).flatMap (E1 u i)++E1 u i (.tau p)).length) w w' (A++(os.take j).flatMap (E1 u i)++E1 u i (.tau p)) M2/\Rel b θ M' w' M2,⟨126,ε 0 (by omega),dc (by decide) ?_⟩,λμ hJ=>?_⟩
  ·refine LJ ok su hsz ι (cb2 ι.km) (hlw ι.km) hD α (by rw [hos];exact γ) (ε 3 (by omega)) l42 (λhM=>ζ (.inr hM)) (hvr p (.inl η)) (by rw [OM];omega) λw3 M3 r3 k3 hM3=>⟨M3,?_,⟨Kp.mono (λ _ h=> .inr h) k3,hM3⟩⟩
   exact r3.mono (by simp only [OM];omega)
  ·obtain⟨M2,r70,ψ⟩:=hJ;refine⟨126,?_,λ _=>next μ M2 r70 ψ,λh=>absurd h (by decide)⟩;rw [OG (w:=θ) (ψ.1.block b40 l42 ζ)];exact ε 0 (by omega)
 | rcv a x q s=>
  have hk:kk=63:=by
   rw [η]at W;obtain⟨_,e1,_⟩:=W;simp only [cX,PC,Qb]at e1;exact Pe.1 (by have e2:=e1.1.2;have e3:(63:UInt8).toNat=63:=rfl;omega)
  subst hk;rw [η]at next;refine⟨λw'=>w'=θ,⟨63,ε 0 (by omega),aW (by decide) rfl⟩,λμ hJ=>?_⟩;subst hJ;refine⟨63,ε 0 (by omega),λ _=>next μ M' ?_ (Rel.refl _ _ _),λh=>absurd h (by decide)⟩;have e:E1 u i (.rcv a x q s)=[]:=rfl;rw [e,Po];exact ι
 | snd c d p=>
  have hk:kk=33/\a1=c/\b1=d:=by
   rw [η]at W;obtain⟨_,_,e1,_⟩:=W;simp only [cX,PC,Qb]at e1;have e3:(33:UInt8).toNat=33:=rfl;exact⟨Pe.1 (by have e2:=e1.1.2;omega),by have :=e1.2.1.2;omega,by have :=e1.2.2.1.2;omega⟩
  obtain⟨rfl,rfl,rfl⟩:=hk;rw [η]at next γ;refine⟨λw'=>w'=θ,⟨33,ε 0 (by omega),aW (by decide) rfl⟩,λμ hJ=>?_⟩;subst hJ;refine⟨33,ε 0 (by omega),λh=>absurd h (by decide),λ _=>?_⟩;refine⟨b,0,rfl,ptr bl,cb2 ι.km,bl,0,rfl,vt,cbl ι.km k5,at_,_,capt,hvt,λx w'=>∃(k:Nat) (M2:Nat->Prop),x=k/\k<=ts.length/\rA b b2 (num t e0 0).2 (60* (A++(os.take j).flatMap (E1 u i)++(List.range k).flatMap (E2 u i a1 b1 p)).length) w w' (A++(os.take j).flatMap (E1 u i)++(List.range k).flatMap (E2 u i a1 b1 p)) M2/\Rel b μ M' w' M2,λx _=>(ts.length - x).toNat,⟨0,M',rfl,Px _,by simpa using ι,Rel.refl _ _ _⟩,λx w84 hI=>?_⟩;obtain⟨k,M2,rfl,hk,ω,J⟩:=hI;refine⟨λhlt3=>?_,λhge3=>?_⟩;rotate_left
  ·have hkl:k=u.ths.length:=by simp only [OV]at hge3;omega
   rw [hkl]at ω;exact next w84 M2 ω J
  have hkl:k< ts.length:=by simp only [OW]at hlt3;omega
  have hku:k< u.ths.length:=by omega
  obtain⟨bt2,ot2,capt2,hvt2,hct2⟩:=ξ ω.km k hkl;have hE2k:=hE2s i a1 b1 p k (by omega);have s84:=J.1.size;have hDM':∀g,D g->¬(g=b\/M' g):=λg Z e=>e.elim (hD g Z).1 λhM=>by have :=(hD g Z).2;have :=(κ.rs.mr g hM).1;omega
  refine⟨bt2,ot2,_,capt2,hvt2,by omega,by omega,ts[k],by rw [OU,Pn];exact hct2,?_⟩;refine Mm (D:=D) hu.symm rfl ok su hsz hcl0 hl0 hD α hku (by rw [hos];exact γ) ω (by simp only [OM];omega) (λjj hjj=>by rw [OG (w:=μ) (J.1.block b40 l42 ζ)];exact ε jj hjj) (by omega) (λhM=>(J.2 b40 hM).elim (λh=>ζ (.inr h)) λh=>by omega) (λe=>ζ (.inl e)) (aC.kp (hvr p (.inr ⟨_,_,η⟩)) J.1 hDM') (tth ω.km k hku hkl) λw3 M3 r3 rel3=>⟨by omega,⟨k+1,M3,by omega,by omega,?_,J.trans rel3⟩,tN (by omega)⟩
  have e5:(List.range (k+1)).flatMap (E2 u i a1 b1 p)=(List.range k).flatMap (E2 u i a1 b1 p)++E2 u i a1 b1 p k:=by rw [RH,P2];simp
  rw [e5,<-Pv];exact r3
end Go.Proofs.YtdecokaadekjnaaGreat
namespace Go.Proofs.YtdecokaadekjnaaGreat
open Go Go.RowKit T Classical
theorem Fu {s:Tx}{w:World}{R:Value->Bool->Sl}(J:bX s=none->∀w',Ex w w'->R (.pointer none) false w')
  (γ:∀t:P,mO t->bX s=some t.text->∀b w',Ex w w'->w.heap.size<=b->I7 w' (λg=>w.heap.size<=g/\g≠b/\g< w'.heap.size) b (num t e0 0).2 t.text (td (num t e0 0).1)->R (ptr b) true w'):
  Sm 135 #[.string (ai s)] w (an [.v,.b] R):=by
 refine rH s w R ?_;dsimp only [go_sem];dsimp only [go_sem,UInt8.reduceOfNat,UInt32.reduceOfNat,Nat.reduceAdd];refine HM λv q w4 x4 h1 h2=>⟨λV=>?_,λV=>?_⟩
 ·have V:q=true:=by simpa using V
  obtain⟨G,t,Z,e,α⟩:=h1 V;have ζ:t.size<=60:=((n7 Z).1 (e▸G)).2;refine HK α.bound (λg G=>G.2) λw6 x6=>⟨λW=>?_,λW=>?_⟩
  ·refine J (iI ?_) w6 (Ex.trans x4 x6)
   rintro⟨t',h4,h5,_,h6⟩
   have :=fT h4.wf Z.wf (h5.trans e);subst this;rw [h6]at W;cases W
  ·have W:t.smp=true:=by simpa using W
   have β:=aM.kp (Kp.af x6 λ _=>False) (λ _ _ h=>h) α.bound;have he:=qI Z (e▸G) W;rw [<-e]at he;refine y8 β (λg G=>by have :=G.2;have :=x6.size;omega) Z (by omega) λw9 x9=>?_
   have H:=Ex.trans x4 (Ex.trans x6 x9);cases hn:kL (num t e0 0).1 with
   | none=>exact⟨(λs h=>by cases h),λ _=>⟨λ _=>J (he.trans hn) w9 H,(λh=>by cases h)⟩⟩
   | some n=>
    refine⟨λs' h=>?_,(λh=>by cases h)⟩;cases h;refine⟨(λh=>by cases h),λ _=>?_⟩;obtain⟨t',ok,rfl⟩:=CY (lP Z) ((uW (lJ Z)).symm.trans W) hn;have ε:=ok.size;have δ:=ok.len;refine Cf ok.al (by omega) (by omega) λb w' x hb st=>γ t' ok (he.trans hn) b w' (Ex.trans H x) (by have :=H.size;omega) ?_
    obtain⟨v,h1,h2⟩:=st.l;exact⟨st.mc,st.tx,v,h1,h2.sub λg _ G=>⟨by have :=H.size;have :=G.1;omega,G.2⟩⟩
 ·have V:q=false:=by simpa using V
  exact J (iI fun⟨t,_,_,G,_⟩=>h2 V G) w4 x4
theorem D6:ke 0 λ _=>false:=λc _=>by simp
theorem Fh {x:UInt32}{tk:Tk}(hx:ke x tk){w:World}{R:aB->Sl}(hR:R (nA.filter tk) w):
  Sm 82 #[.int .u32 x.toNat] w (an [.s] R):=by
 refine rX x w R ?_;dsimp only [go_sem];dsimp only [go_sem,UInt8.reduceOfNat,UInt32.reduceOfNat,Nat.reduceAdd];have hl:nA.length=26:=by simp [nA]
 refine⟨λout c w'=>w'=w/\97<=c.toNat/\c.toNat<=123/\out=nA.filter λd=>tk d&&decide (d< c),λ _ c _=>123 - c.toNat,⟨rfl,by decide,by decide,?_⟩,λout c w' hI=>?_⟩
 ·refine(List.filter_eq_nil_iff.2 λd hd h=>?_).symm;have :=bj (pK.1 hd);simp only [OJ,OW,PA]at h;have h2:d.toNat< 97:=h.2;omega
 ·obtain⟨rfl,G,h4,rfl⟩:=hI;refine⟨λhc=>EE ?_,λhc=>?_⟩
  ·simp only [OW,O6]at hc;have H:c.toNat<=122:=hc;have J:lt c=true:=oR ⟨G,H⟩;have :=hx c J;have e1:(c+1).toNat=c.toNat+1:=by rw [RE];show(c.toNat+1) % 256=_;omega
   have hle:(nA.filter λd=>tk d&&decide (d< c)).length<=26:=hl▸QI _ _;have hd:∀d:UInt8,d< c+1↔d< c\/d=c:=λd=>by
    rw [PA,PA,e1,<-Pe];omega
   refine⟨λhe=>?_,λhe=>?_⟩
   ·have W:tk c=true:=by
     rw [QG]at he;rw [he]at this;simpa using this.symm
    have e2:UInt8.ofNat (Int.toNat (c.toNat:Int))=c:=by rw [OU];exact UInt8.ofNat_toNat
    refine⟨⟨by omega,by omega⟩,by simp only [OF,OX];omega,⟨rfl,by omega,by omega,?_⟩,by show 123 - (c+1).toNat< 123 - c.toNat;omega⟩;rw [e2];refine uD ?_ (jM.filter _) λd=>?_
    ·refine RV.2 ⟨jM.filter _,List.pairwise_singleton _ _,λa ha b hb=>?_⟩;cases OO.1 hb;have :=(QK.1 ha).2;simp only [OJ,OW]at this;exact this.2
    ·simp only [OS,QK,OO,OJ,OW,hd];constructor
     ·rintro(⟨Z,h2,G⟩ | rfl)
      ·exact⟨Z,h2,.inl G⟩
      ·exact⟨pK.2 J,W,.inr rfl⟩
     ·rintro⟨Z,h2,G | G⟩
      ·exact .inl ⟨Z,h2,G⟩
      ·exact .inr G
   ·have W:tk c=false:=by
     have he:decide (x &&& nC c=0)=true:=by
      cases h:decide (x &&& nC c=0)with
      | true=>rfl
      | false=>rw [h]at he;cases he
     rw [he]at this;simpa using this.symm
    refine⟨⟨rfl,by omega,by omega,?_⟩,by show 123 - (c+1).toNat< 123 - c.toNat;omega⟩;refine Q5 λd _=>?_
    by_cases V:d=c
    ·rw [V,W];rfl
    ·have:(d< c+1)↔d< c:=by rw [hd];exact⟨λh=>h.resolve_right V,.inl⟩
     rw [QY.2 this]
  ·simp only [OV,O6]at hc;have H:122< c.toNat:=by have:¬c.toNat<=122:=hc;omega
   rw [show(nA.filter λd=>tk d&&decide (d< c))=nA.filter tk from Q5 λd hd=>by
    have :=bj (pK.1 hd);rw [PL (PA.2 (by omega)),Ra]]
   exact hR
theorem La {x y:UInt32}(h:x.toNat< 67108864)(k:y.toNat< 67108864):(x ||| y).toNat< 67108864:=by
 rw [UInt32.toNat_or];exact Nat.or_lt_two_pow (n:=26) h k
theorem Aa {c:UInt8}(h:lt c=true):(nC c).toNat=2^(c.toNat - 97):=by
 have G:=bj h;have e:(c - 97).toNat=c.toNat - 97:=by
  have :=c.toNat_lt;rw [UInt8.toNat_sub];show(256 - 97+c.toNat) % 256=_;omega
 unfold nC uL;rw [e,QU (by omega),UInt32.toNat_ofNat'];have:2^(c.toNat - 97)< 2^26:=Nat.pow_lt_pow_right (by omega) (by omega);show 1* 2^(c.toNat - 97) % 2^32=_;rw [Nat.one_mul];exact RZ (by omega)
theorem KM {c:UInt8}(h:lt c=true):(nC c).toNat< 67108864:=by
 have G:=bj h;rw [Aa h,show(67108864:Nat)=2^26 from rfl];exact Nat.pow_lt_pow_right (by omega) (by omega)
theorem Jm {s:Tx}(hs:∀c∈s,lt c=true)(hl:s.length<=1099511627776){w:World}{R:UInt32->Sl}(hR:∀x,ke x (λc=>decide (c∈s))->x.toNat< 67108864->R x w):
  Sm 91 #[.string (ai s)] w (an [.w] R):=by
 refine vV s w R ?_;dsimp only [go_sem];dsimp only [go_sem,UInt8.reduceOfNat,UInt32.reduceOfNat,Nat.reduceAdd];refine⟨λx i w'=>w'=w/\∃j:Nat,i=j/\j<=s.length/\x.toNat< 67108864/\ke x λc=>decide (c∈s.take j),λ _ i _=>(s.length - i).toNat,⟨rfl,0,rfl,Px _,by decide,?_⟩,λx i w' hI=>?_⟩
 ·simpa using D6
 obtain⟨rfl,j,rfl,hj,H,J⟩:=hI;refine⟨λV=>?_,λW=>?_⟩
 ·have G:=oL V;refine⟨⟨by omega,by omega⟩,EE ⟨by omega,⟨rfl,j+1,by omega,by omega,La H (KM (hs _ (lV G))),?_⟩,tN (by omega)⟩⟩;rw [OU];have h:=J.add (hs _ (lV G));have e:(cz (λc=>decide (c∈s.take j)) (bt s j))=λc=>decide (c∈s.take (j+1)):=by
   funext c
   unfold cz;rw [OK G,jP];have Z:bt s j=s[j]:=by unfold bt;rw [P9,OH G];rfl
   rw [Z];simp only [OS,OO,Bool.decide_or]
  rw [<-e];exact h
 ·have:j=s.length:=by simp only [OV]at W;omega
  rw [this,Pa]at J;exact hR x J H
def Ga (k:UInt8)(u:U)(l:List (Off Nat))(c:UInt8):Prop:=∃o∈l,∃z,o.over k=some z/\z∉u.frL/\c=ρ0 z
def Gt (k:UInt8)(u:U)(l:List U)(c:UInt8):Prop:=Ga k u (l.flatMap offs) c
theorem Cj {k:UInt8}{u:U}{l m:List (Off Nat)}{c:UInt8}:Ga k u (l++m) c↔Ga k u l c\/Ga k u m c:=by
 unfold Ga;constructor
 ·rintro⟨o,G,h⟩
  exact(OS.1 G).imp (λh'=>⟨o,h',h⟩) λh'=>⟨o,h',h⟩
 ·rintro(⟨o,G,h⟩ | ⟨o,G,h⟩)
  ·exact⟨o,Pm _ G,h⟩
  ·exact⟨o,Pf _ G,h⟩
theorem ke.cg {x:UInt32}{p q:UInt8->Prop}[DecidablePred p][DecidablePred q](h:ke x λc=>decide (p c))(e:∀c,p c↔q c):ke x λc=>decide (q c):=by
 have:(λc=>decide (p c))=λc=>decide (q c):=funext λc=>QY.2 (e c)
 rwa [<-this]
theorem Bv {q:UInt8->Prop}[DecidablePred q](e:∀c,¬q c):ke 0 λc=>decide (q c):=by
 have:(λc=>decide (q c))=λ _=>false:=funext λc=>PX (e c)
 rw [this];exact D6
theorem uZ {k G:UInt8}{a b a' J:Nat}{v v':Value}{s V:Bool}(h:cX k a b v s=cX G a' J v' V):k=G/\a=a':=by
 unfold cX at h
 injection h with H h2
 injection h2 with h2 _
 injection H with _ H
 injection h2 with _ h2
 exact⟨Pe.1 (by omega),by omega⟩
theorem xB:∀u:U,u.ths.length<=u.size:=by
 intro u
 induction u with
 | par p q _ G=>simp only [T.ths,OF,T.size];omega
 | res x p G=>simp only [T.ths,T.size];omega
 | _=>simp [T.ths,T.size]
theorem BU {A:Type}{k:UInt8}{a c:A}{p:T A}{z:A}:(Off.snd a c p).over k=some z↔33=k/\z=a:=by
 show(if k=33 then some a else none)=some z↔_;constructor
 ·intro h;by_cases hc:k=33
  ·exact⟨hc.symm,(pO h).symm⟩
  ·rw [O1 hc]at h;cases h
 ·rintro⟨G,h2⟩;rw [Pj G.symm,h2]
theorem Av {A:Type}{k:UInt8}{a c:A}{p:T A}{s:Bool}{z:A}:(Off.rcv a c p s).over k=some z↔63=k/\z=a:=by
 show(if k=63 then some a else none)=some z↔_;constructor
 ·intro h;by_cases hc:k=63
  ·exact⟨hc.symm,(pO h).symm⟩
  ·rw [O1 hc]at h;cases h
 ·rintro⟨G,h2⟩;rw [Pj G.symm,h2]
theorem HO:∀u:U,u.frL.length<=u.size:=by
 intro u
 induction u with
 | res x p G=>simp only [T.frL,OF,T.size];omega
 | _=>simp [T.frL,T.size]
theorem Ka {z:Nat}(h:z< 26):nC (ρ0 z)=uL 1 z:=by
 unfold nC;rw [ij (Ey h),fw h];unfold σ0;rw [Nat.add_sub_cancel]
theorem ke.more {x:UInt32}{p q:UInt8->Prop}[DecidablePred p][DecidablePred q](h:ke x λc=>decide (p c)){z:Nat}(G:z< 26)(e:∀c,q c↔p c\/c=ρ0 z):ke (x ||| uL 1 z) λc=>decide (q c):=by
 have H:=h.add (Ey G);rw [Ka G]at H;have:(cz (λc=>decide (p c)) (ρ0 z))=λc=>decide (q c):=by
  funext c
  unfold cz;rw [jP,QY.2 (e c),Bool.decide_or]
 rwa [<-this]
theorem Jg {t:P}(ok:mO t){w:World}{b n:Nat}{D:Nat->Prop}(st:I7 w D b n t.text (td (num t e0 0).1))(hD:∀g,D g->g< w.heap.size){k:UInt8}(hk:k≠126){R:aB->Sl}(hR:∀w',Ex w w'->R (Fy k t) w'):
  Sm 93 #[ptr b,.int .u8 k.toNat] w (an [.s] R):=by
 have su:=ok.su;have hszt:=ok.size;have hsh:=(me su.ae).2.2;generalize hu:(num t e0 0).1=u at*;have hsz:u.size<=60:=by omega
 have hthl:=xB u;refine m7 (ptr b) k w R ?_;dsimp only [go_sem];dsimp only [go_sem,UInt8.reduceOfNat,UInt32.reduceOfNat,Nat.reduceAdd];have hb:=st.mc.lt;obtain⟨vl,ο,hl0⟩:=st.l;obtain⟨bl,vo,vt,ts,rfl,k2,k3,k4,k5,k6,k7,k8,k9⟩:=Ei su hl0;obtain⟨at_,capt,hvt⟩:=k7.slice;refine⟨b,0,rfl,ptr bl,ο,bl,0,rfl,vt,k5,at_,_,capt,hvt,λout x w'=>∃i:Nat,x=i/\i<=ts.length/\Ex w w'/\ke out λc=>decide (Gt k u (u.ths.take i) c),λ _ x _=>(ts.length - x).toNat,⟨0,rfl,Px _,Ex.refl w,?_⟩,λout x w16 hI=>?_⟩
 ·exact Bv λc=>by simp [Gt,Ga]
 obtain⟨i,rfl,hi,ζ,η⟩:=hI;refine⟨λhlt=>?_,λhge=>?_⟩;rotate_left
 ·have ε:i=u.ths.length:=by simp only [OV]at hge;omega
  rw [ε,Pa]at η;refine Fh η ?_;have:(nA.filter λc=>decide (Gt k u u.ths c))=Fy k t:=by
   unfold Fy;refine Q5 λc _=>QY.2 ?_
   rw [KV su];constructor
   ·rintro⟨o,ho,z,V,h2,h3⟩
    obtain⟨q,hq,ho⟩:=PE.1 ho;obtain⟨sub,_⟩:=aZ (su.smp _ hq) _ ho;exact⟨z,h2,((su.free z ⟨q,hq,sub.fr z (sQ V)⟩).resolve_left h2).1,h3,q,hq,o,ho,V⟩
   ·rintro⟨z,V,h2,h3,q,hq,o,ho,h4⟩
    exact⟨o,PE.2 ⟨q,hq,ho⟩,z,h4,V,h3⟩
  rw [this];exact hR w16 ζ
 have ε:i< ts.length:=by simp only [OW]at hlt;omega
 have φ:i< u.ths.length:=by omega
 have s16:=ζ.size;have α:=OP φ;have θ:=su.th _ α;have hsi:=eO u _ α;have χ:∃bt ot H,vt= .slice (some ⟨bt,ot,none⟩) ts.length H/\w16.cell? ⟨bt,ot+i,none⟩=some ts[i]:=by
  rcases k7 with⟨_,h0⟩ | ⟨bt,ot,H,e,hbD,hb',G⟩
  ·rw [h0]at ε;simp at ε
  ·exact⟨bt,ot,H,e,by rw [ζ.cell (a:=⟨bt,ot+i,none⟩) hb'];exact G i _ (OH ε)⟩
 obtain⟨bt,ot,H,hvt',χ⟩:=χ;refine⟨bt,ot,_,H,hvt',by omega,by omega,ts[i],by rw [OU,Pn];exact χ,tK θ.1 θ.2.1 θ.2.2 (su.smp _ α) (by omega) (λg hg=>by have :=hD g hg;omega) ((k9 i φ ε).ex ζ) λv22 w23 xs x23 ς hm23=>?_⟩;have hofm:∀o∈offs u.ths[i],∀z,o.over k=some z->z∉u.frL->z< 26:=λo ho z V h2=>by
  obtain⟨sub,_⟩:=aZ (su.smp _ α) _ ho;exact((su.free z ⟨_,α,sub.fr z (sQ V)⟩).resolve_left h2).1
 have eT:(u.ths.take (i+1)).flatMap offs=(u.ths.take i).flatMap offs++offs u.ths[i]:=by rw [OK φ,P2];simp
 have hol:(offs u.ths[i]).length<=60:=by have V:=fQ u.ths[i];omega
 have υ:=Ex.trans ζ x23;generalize hos:offs u.ths[i]=os at*;have ι:∃a cap,v22= .slice a os.length cap:=by
  rcases ς.cell with⟨V,h2,_⟩ | ⟨g,cap,V,_⟩
  ·exact⟨none,0,by rw [V,h2]⟩
  ·exact⟨_,cap,V⟩
 obtain⟨av,cav,ι⟩:=ι;refine⟨av,_,cav,ι,λout x w'=>∃j:Nat,x=j/\j<=os.length/\Ex w23 w'/\ke out λc=>decide (Gt k u (u.ths.take i) c\/Ga k u (os.take j) c),λ _ x _=>(os.length - x).toNat,⟨0,rfl,Px _,Ex.refl _,η.cg λc=>by simp [Ga]⟩,λout2 x w30 hI=>?_⟩;obtain⟨j,rfl,hj,ξ,W⟩:=hI;refine⟨λhlt2=>?_,λhge2=>?_⟩;rotate_left
 ·have κ:j=os.length:=by simp only [OV]at hge2;omega
  rw [κ,Pa]at W;refine⟨by omega,⟨i+1,by omega,by omega,Ex.trans υ ξ,W.cg λc=>?_⟩,tN (by omega)⟩;show Ga k u _ c\/Ga k u os c↔Ga k u _ c;rw [eT,Cj]
 have κ:j< os.length:=by simp only [OW]at hlt2;omega
 have ho30:=ς.ex ξ;have hm30:=OffsM.ex hm23 ξ;obtain⟨g,cap,cs,hvg,γ,G⟩:=xv ho30 hm30 κ;obtain⟨kk,a1,b1,vr,s1,rfl,hone⟩:=γ.any;refine⟨g,0,_,cap,hvg,by omega,by omega,kk,a1,b1,vr,s1,⟨G 0 _ rfl _ (by omega) (by omega),G 1 _ rfl _ (by omega) (by omega),G 2 _ rfl _ (by omega) (by omega),G 3 _ rfl _ (by omega) (by omega),G 4 _ rfl _ (by omega) (by omega),trivial⟩,λb40 w41 hb40 hw41=>?_⟩;obtain⟨box1,box2⟩:=CO (cs:=cX kk a1 b1 vr s1) rfl hb40 hw41;refine⟨⟨rfl,uS hone,box1⟩,λw42 hw42=>?_⟩;obtain⟨x42,l42,ψ⟩:=box2 w42 hw42;have Z:=Ex.trans ξ x42;have μ:=Ex.trans υ Z;have ω:os[j]∈os:=OP κ;have etk:os.take (j+1)=os.take j++[os[j]]:=OK κ;have δ:=@tN os.length j (by omega);have J:∀z,os[j].over k=some z↔kk=k/\z=a1:=by
  intro z;cases ho:os[j]with
  | tau p=>
   rw [ho]at γ;obtain⟨_,_,_,_,V,_⟩:=γ;have this:=(uZ V).1;exact⟨(λh=>by cases h),λh=>absurd (h.1.symm.trans this) hk⟩
  | snd a c p=>
   rw [ho]at γ;obtain⟨_,_,V,_⟩:=γ;obtain⟨e1,e2⟩:=uZ V;subst e1 e2;exact BU
  | rcv a c p s=>
   rw [ho]at γ;obtain⟨_,V,_⟩:=γ;obtain⟨e1,e2⟩:=uZ V;subst e1 e2;exact Av
 have ν:(∀z,os[j].over k=some z->z∈u.frL)->ke out2 λc=>decide (Gt k u (u.ths.take i) c\/Ga k u (os.take (j+1)) c):=λh=>W.cg λc=>by
  rw [etk,Cj];have:¬Ga k u [os[j]] c:=by
   rintro⟨o,ho,z,V,h2,_⟩
   cases OO.1 ho;exact h2 (h z V)
  simp [this]
 refine⟨kk,ψ 0 (by omega),λβ=>?_,λβ=>?_⟩;rotate_left
 ·have β:kk≠k:=by simpa using β
  exact⟨by omega,⟨j+1,by omega,by omega,Z,ν λz h=>absurd ((J z).1 h).1 β⟩,δ⟩
 have β:kk=k:=by simpa using β
 refine⟨a1,ψ 1 (by omega),?_⟩;refine ny (ptr b) a1 w42 _ ?_;dsimp only [go_sem];dsimp only [go_sem,UInt8.reduceOfNat,UInt32.reduceOfNat,Nat.reduceAdd];refine⟨b,0,rfl,ptr bl,?_,bl,0,rfl,vo,?_,D0 (k6.ex μ) ?_ ⟨λhn=>?_,λhn=>?_⟩⟩
 ·rw [μ.cell (a:=⟨b,0+2,none⟩) hb];exact ο
 ·rw [μ.cell (a:=⟨bl,0+0,none⟩) k3];exact k4
 ·have :=HO u;omega
 ·have hn:a1∉u.frL:=by simpa using hn
  have h26:=hofm _ ω a1 ((J a1).2 ⟨β,rfl⟩) hn;refine⟨a1,ψ 1 (by omega),by omega,by omega,⟨j+1,by omega,by omega,Z,?_⟩,δ⟩;rw [OU];refine W.more h26 λc=>?_
  rw [etk,Cj];have:Ga k u [os[j]] c↔c=ρ0 a1:=by
   constructor
   ·rintro⟨o,ho,z,V,h2,h3⟩
    cases OO.1 ho;rw [h3,((J z).1 V).2]
   ·intro h;exact⟨_,OO.2 rfl,a1,(J a1).2 ⟨β,rfl⟩,hn,h⟩
  rw [this];exact RF.symm
 ·have hn:a1∈u.frL:=by simpa using hn
  exact⟨by omega,⟨j+1,by omega,by omega,Z,ν λz h=>((J z).1 h).2▸hn⟩,δ⟩
theorem Gk {f:Tx}{ps:List P}{v:Value}{w:World}{u:U}(hs:Strs w v (ps.map T.text))(hl:dz (ps.map T.text)<=1000000000)(d:pI 0 (resL f (parL ps)) σ0 u){R:aB->Bool->Sl}
  (h:∀w',Ex w w'->(∀s,kL u=some s->R s true w')/\(kL u=none->R [] false w')):Sm 151 #[.string (ai f),v] w (an [.s,.b] R):=by
 refine uY f v w R ?_;dsimp only [go_sem];dsimp only [go_sem,UInt8.reduceOfNat,UInt32.reduceOfNat,Nat.reduceAdd];obtain⟨a,cap,hv⟩:=hs.slice;have J:=d.den.len;have G:=qD (parL ps) f;rw [G,fP]at J;have α:ps≠[]->joinS 38 (ps.map T.text)=(parL ps).text:=λH=>(qc H).symm
 have β:ps=[]->(parL ps).text=[48]:=λe=>by rw [e];rfl
 refine⟨a,_,cap,hv,λhc=>?_,λhc=>?_⟩
 ·have H:ps≠[]:=by
   intro e;simp [e]at hc
  refine tz hs (by simpa using H) (by omega) ?_;rw [α H];revert G J;generalize (parL ps).text=body;intro J G;refine⟨by omega,λs i w'=>w'=w/\∃m:Nat,i=(m:Int) - 1/\m<=f.length/\s=wrap (f.drop m) body,λ _ i _=>(i+1).toNat,⟨rfl,f.length,rfl,OQ _,by rw [QQ];rfl⟩,λs i w' hI=>?_⟩;obtain⟨rfl,m,rfl,hm,rfl⟩:=hI;refine⟨λhc=>?_,λhc=>?_⟩
  ·obtain⟨m,rfl⟩:∃k,m=k+1:=⟨m - 1,by simp at hc;omega⟩
   have V:m< f.length:=by omega
   have e:(((m+1:Nat):Int) - 1)=(m:Int):=by omega
   have W:=qT V body;have Z:=fP (f.drop (m+1)) body;rw [Qq]at Z;rw [e,yj V];refine⟨by omega,⟨by omega,by omega,by omega⟩,by simp,by simp,by simp only [OM,OF,OX];omega,by omega,⟨rfl,m,rfl,by omega,?_⟩,by show((m:Int) - 1+1).toNat< ((m:Int)+1).toNat;omega⟩;rw [W];rfl
  ·have:m=0:=by simp at hc;omega
   subst this;rw [Qz,<-G];exact CQ d h
 ·have H:ps=[]:=by
   cases ps with
   | nil=>rfl
   | cons=>simp at hc
  rw [<-β H];revert G J;generalize (parL ps).text=body;intro J G;refine⟨by omega,λs i w'=>w'=w/\∃m:Nat,i=(m:Int) - 1/\m<=f.length/\s=wrap (f.drop m) body,λ _ i _=>(i+1).toNat,⟨rfl,f.length,rfl,OQ _,by rw [QQ];rfl⟩,λs i w' hI=>?_⟩;obtain⟨rfl,m,rfl,hm,rfl⟩:=hI;refine⟨λhc=>?_,λhc=>?_⟩
  ·obtain⟨m,rfl⟩:∃k,m=k+1:=⟨m - 1,by simp at hc;omega⟩
   have V:m< f.length:=by omega
   have e:(((m+1:Nat):Int) - 1)=(m:Int):=by omega
   have W:=qT V body;have Z:=fP (f.drop (m+1)) body;rw [Qq]at Z;rw [e,yj V];refine⟨by omega,⟨by omega,by omega,by omega⟩,by simp,by simp,by simp only [OM,OF,OX];omega,by omega,⟨rfl,m,rfl,by omega,?_⟩,by show((m:Int) - 1+1).toNat< ((m:Int)+1).toNat;omega⟩;rw [W];rfl
  ·have:m=0:=by simp at hc;omega
   subst this;rw [Qz,<-G];exact CQ d h
def cR (e B:Nat)(w:World)(v:Value)(n:Nat)(xs:List Value):Prop:=w.ownsRow B e 5 v n xs
section
variable {e B:Nat} {w w':World} {v:Value} {n:Nat} {xs:List Value}
theorem cR.nil (e B:Nat)(w:World):cR e B w (.slice none 0 0) 0 []:=World.ownsRow_nil _ _ _ _
theorem cR.block (h:cR e B w v n xs):∀b,v.ownBlock=some b->B<=b/\b< w.heap.size:=Rx h
theorem cR.mono {G:Nat}(h:cR e B w v n xs)(hb:G<=B):cR e G w v n xs:=Sa h hb
theorem cR.kp {S:Nat->Prop}(h:cR e B w v n xs)(k:Kp w w' S)(H:∀g,v.ownBlock=some g->¬S g):cR e B w' v n xs:=by
 refine⟨h.1,?_⟩;rcases h.2 with J | ⟨g,cap,cur,rfl,hb,G,rest⟩
 ·exact .inl J
 ·exact .inr ⟨g,cap,cur,rfl,hb,by rw [k.block g (Ps.1 G).1 (H g rfl)];exact G,rest⟩
theorem cR.ex (h:cR e B w v n xs)(x:Ex w w'):cR e B w' v n xs:=h.kp (Kp.af x λ _=>False) λ _ _ h=>h
theorem cR.cell (h:cR e B w v n xs):(v= .slice none 0 0/\n=0/\xs=[])\/∃g cap,v= .slice (some ⟨g,0,none⟩) n cap/\g< w.heap.size/\∀j u,xs[j]?=some u->w.cell? ⟨g,0+j,none⟩=some u:=by
 have G:=h.1;rcases h.2 with⟨V,H⟩ | ⟨g,cap,cur,rfl,hb,J,W,h2,Z,h4⟩
 ·left;refine⟨V,H,Pg (by rw [G,H])⟩
 ·refine .inr ⟨g,cap,rfl,(Ps.1 J).1,λj u hu=>?_⟩;have hj:j< xs.length:=(PB.1 hu).1;unfold World.cell?;simp only [J,Ph];rw [<-h4,Qm (by rw [<-G];exact hj),Qj]at hu;exact hu
theorem cR.src (h:cR e B w v n xs)(ha:xs.all ay=true):dW w v n 5 xs:=by
 refine⟨h.1,ha,?_⟩;rcases h.cell with⟨rfl,rfl,_⟩ | ⟨g,cap,rfl,_,hc⟩
 ·exact .inl ⟨rfl,rfl⟩
 ·exact .inr ⟨g,0,cap,rfl,hc⟩
theorem cR.one {b:Nat}{cs:List Value}(hc:cs.length=5)(hB:B<=w.heap.size)(hb:b=w.heap.size)(h:w'=w.alloc (.cells cs.toArray e)):cR e B w' (.slice (some ⟨b,0,none⟩) 1 1) 1 cs:=by
 subst hb h;refine⟨by rw [hc],.inr ⟨_,1,cs.toArray,rfl,hB,?_,by simp,by unfold maxLen;omega,by simp [hc],RB (by simp [hc])⟩⟩;unfold World.alloc;simp
theorem cR.push {x:Value}{m by_:Nat}{H:List Value}(h:cR e B w v n xs)(hB:B<=w.heap.size)(V:dW w x m 5 H)(J:by_<=48)(hl:n+m<=1099511627776){K:Value->Sl}
  (W:∀v' w',cR e B w' v' (n+m) (xs++H)->w.grownBy w' v.ownBlock->(∀b,v'.ownBlock=some b->v.ownBlock=some b\/w.heap.size<=b)->K v' w'):
  ∃(base n' m':Nat) (G news:List Value),World.ownsRow w base e 5 v n' G/\base<=Array.size (World.heap w)/\dW w x m' 5 news/\(n'+m'<=maxLen/\(n'+m')* by_<=140737488355328)/\
   ∀(v':Value) (w':World),World.ownsRow w' base e 5 v' (n'+m') (G++news)->World.grownBy w w' (Value.ownBlock v)->(∀b:Nat,Value.ownBlock v'=some b->Value.ownBlock v=some b\/Array.size (World.heap w)<=b)->K v' w':=
 ⟨B,n,m,xs,H,h,hB,V,⟨by unfold maxLen;omega,by have :=RX (OQ (n+m)) J;omega⟩,λv' w' Z hg hw=>W v' w' Z hg hw⟩
theorem cR.set {g cap j:Nat}{x:Value}(h:cR e B w (.slice (some ⟨g,0,none⟩) n cap) n xs)(hw:w'=w.setCell ⟨g,j,none⟩ x)(hj:j< xs.length):cR e B w' (.slice (some ⟨g,0,none⟩) n cap) n (xs.set j x):=by
 subst hw;rcases h.2 with⟨H,_⟩ | ⟨g',G,cur,J,hb,V,W,h2,Z,h4⟩
 ·cases H
 ·cases J;have hl:=h.1;have e:(w.setCell ⟨g,j,none⟩ x).heap[g]?=some (.cells (cur.setIfInBounds j x) e (0,0)):=by
   rw [Sort.setCell_eq];simp [Sort.mapBlock,QH,V,Sort.onCells]
  refine⟨by rw [Qp];exact hl,.inr ⟨g,cap,_,by simp,hb,e,by simpa using W,h2,by simpa using Z,?_⟩⟩;rw [Array.toList_setIfInBounds,List.take_set,h4]
theorem cR.fr (h:cR e B w v n xs){g:Nat}(H:v.ownBlock=some g)(j:Nat):w.frozen? ⟨g,j,none⟩=false:=by
 rcases h.2 with⟨rfl,V⟩ | ⟨J,cap,cur,rfl,hb,G,_⟩
 ·cases H
 ·have e:J=g:=Pz H;subst e;unfold World.frozen?;simp only [G];simp
end
def fS (k a b:UInt8)(s:Tx)(q:Bool):List Value:=[.int .u8 k.toNat,.int .u8 a.toNat,.int .u8 b.toNat,.string (ai s),.bool q]
def wi:Off UInt8->List Value->Prop
 | .tau p,cs=>∃a b s,cs=fS 126 a b p.text s
 | .snd a b p,cs=>∃s,cs=fS 33 a b p.text s
 | .rcv a x q s,cs=>cs=fS 63 a x q.text s
def fL:List (Off UInt8)->List Value->Prop
 | [],xs=>xs=[]
 | o::os,xs=>∃cs G,xs=cs++G/\wi o cs/\fL os G
theorem wi.any {o:Off UInt8}{cs:List Value}(h:wi o cs):∃(k a b:UInt8) (s:Tx) (q:Bool),cs=fS k a b s q:=by
 cases o with
 | tau p=>obtain⟨a,b,s,h⟩:=h;exact⟨_,_,_,_,_,h⟩
 | snd a b p=>obtain⟨s,h⟩:=h;exact⟨_,_,_,_,_,h⟩
 | rcv a b p s=>exact⟨_,_,_,_,_,h⟩
theorem fL.app:∀{os G:List (Off UInt8)} {xs H:List Value},fL os xs->fL G H->fL (os++G) (xs++H)
 | [],_,xs,H,h,k=>by cases h;exact k
 | o::os,_,xs,H,⟨cs,zs,J,h2,V⟩,k=>⟨cs,zs++H,by rw [J,Pv],h2,V.app k⟩
theorem fL.len:∀{os:List (Off UInt8)} {xs:List Value},fL os xs->xs.length=os.length* 5/\xs.all ay=true
 | [],xs,h=>by cases h;exact⟨rfl,rfl⟩
 | o::os,xs,⟨cs,zs,G,h2,H⟩=>by
  obtain⟨h4,h5⟩:=H.len;obtain⟨k,a,b,s,q,e⟩:=h2.any;subst G e;exact⟨by simp [fS,h4];omega,by rw [Rl,h5];rfl⟩
theorem fL.at:∀{os:List (Off UInt8)} {xs:List Value},fL os xs->∀{i:Nat} (hi:i< os.length),∃cs,wi os[i] cs/\∀j,j< 5->xs[i* 5+j]?=cs[j]?
 | o::os,xs,⟨cs,zs,G,h2,J⟩,0,_=>⟨cs,h2,λj hj=>by
   obtain⟨k,a,b,s,q,e⟩:=h2.any;have V:cs.length=5:=by rw [e];rfl
   rw [G,List.getElem?_append_left (by omega)];congr 1;omega⟩
 | o::os,xs,⟨cs,zs,G,h2,J⟩,i+1,hi=>by
   obtain⟨H,W,Z⟩:=J.at (i:=i) (by simpa using hi);refine⟨H,W,λj hj=>?_⟩;obtain⟨k,a,b,s,q,e⟩:=h2.any;have V:cs.length=5:=by rw [e];rfl
   rw [G,List.getElem?_append_right (by omega),<-Z j hj];congr 1;omega
theorem fL.one {o:Off UInt8}{cs:List Value}(h:wi o cs):fL [o] cs:=⟨cs,[],by simp,h,rfl⟩
abbrev tO:Nat:=166
theorem oG:∀(n:Nat) {t:P},t.size<=n->Ok t->t.smp=true->t.size<=1000000->∀{w:World} {R:Value->Sl},(∀v w' xs,Ex w w'->cR tO w.heap.size w' v (offs t).length xs->fL (offs t) xs->R v w')->Sm 145 #[.string (ai t.text)] w (an [.v] R):=by
 intro n
 induction n with
 | zero=>intro t h;have :=a8 t;omega
 | succ n ih=>
  intro t hn ok hs hsz w R h;refine qO _ w R ?_;dsimp only [go_sem];dsimp only [go_sem,UInt8.reduceOfNat,UInt32.reduceOfNat,Nat.reduceAdd];refine aO ok ?_;have none_:offs t=[]->R (.slice none 0 0) w:=λe=>by
   have :=h (.slice none 0 0) w [] (Ex.refl w);rw [e]at this;exact this (cR.nil _ _ _) rfl
  cases t with
  | nil=>repeat' first | exact none_ rfl | refine aW (by simp [T.kind]) ?_
  | par p q=>repeat' first | exact none_ rfl | refine aW (by simp [T.kind]) ?_
  | res x p=>repeat' first | exact none_ rfl | refine aW (by simp [T.kind]) ?_
  | mat a b p=>repeat' first | exact none_ rfl | refine aW (by simp [T.kind]) ?_
  | snd a b p=>
   refine dc rfl (dc rfl ⟨λ _=>True,λw5 ε=>⟨trivial,⟨by omega,by simp [T.text];omega⟩,⟨by omega,by simp [T.text];omega⟩,⟨by omega,by simp [T.text];omega⟩,aO ok ⟨trivial,λb8 w9 J G=>⟨trivial,?_⟩⟩⟩⟩);have x5:Ex w w5:=ε▸Ex.drew w;exact h _ w9 _ (Ex.trans x5 (G▸Ex.alloc w5 _)) (cR.one (cs:=fS 33 a b p.text false) rfl x5.size J G) (fL.one ⟨false,rfl⟩)
  | rcv a b p=>
   refine aW (by simp [T.kind]) (dc rfl ⟨λ _=>True,λw5 ε=>⟨trivial,⟨by omega,by simp [T.text];omega⟩,⟨by omega,by simp [T.text];omega⟩,⟨by omega,by simp [T.text];omega⟩,aO ok ⟨trivial,λb8 w9 J G=>⟨trivial,?_⟩⟩⟩⟩);have x5:Ex w w5:=ε▸Ex.drew w;exact h _ w9 _ (Ex.trans x5 (G▸Ex.alloc w5 _)) (cR.one (cs:=fS 63 a b p.text false) rfl x5.size J G) (fL.one rfl)
  | tau p=>
   refine aW (by simp [T.kind]) (aW (by simp [T.kind]) (dc rfl ⟨⟨by omega,by simp [T.text];omega⟩,λb8 w9 J G=>?_⟩));exact h _ w9 _ (G▸Ex.alloc w _) (cR.one (cs:=fS 126 0 0 p.text false) rfl (OQ _) J G) (fL.one ⟨0,0,false,rfl⟩)
  | sum p q=>
   have hs:(p.gp&&q.gp&&(p.smp&&q.smp))=true:=hs;simp only [OJ]at hs;have ζ:=ok.parts p (by simp [T.parts]);have ς:=ok.parts q (by simp [T.parts]);have e:(T.sum p q).size=p.size+q.size+1:=by simp only [T.size]
   refine aW (by simp [T.kind]) (aW (by simp [T.kind]) (aW (by simp [T.kind]) (dc rfl (de ok λv1 w1 x1 κ=>⟨λw'=>Ex w1 w',λυ γ=>⟨γ▸Ex.drew w1,?_⟩⟩))));have H:Ex w1 υ:=γ▸Ex.drew w1;refine κ.GA (i:=0) (x:=p.text) (by omega) rfl (Q:=λn=>_) (κ.GA (i:=1) (x:=q.text) (by omega) rfl (Q:=λn=>_) ?_);have V:=Ex.trans x1 H;refine ih (by omega) ζ hs.2.1 (by omega) λv26 w27 xs W Z μ=>⟨Ex.trans H W,ih (by omega) ς hs.2.2 (by omega) λv28 φ ys α ν δ=>⟨Ex.trans H (Ex.trans W α),?_⟩⟩
   have β:=Ex.trans V (Ex.trans W α);have l1:=fQ p;have l2:=fQ q;refine cR.push ((Z.ex α).mono V.size) β.size (ν.src δ.len.2) (by omega) (by omega) λv35 ξ ho hg hn=>?_
   have χ:Below w.heap.size φ ξ:=Below.grown (Sj _ _) hg β.size λk hk=>by have :=(Z.block k hk).1;have :=V.size;omega
   refine⟨Qr (Ex.trans H (Ex.trans W α)) ?_,h _ ξ _ (Ex.below β χ) (by rw [show(offs (T.sum p q)).length=(offs p).length+(offs q).length from OM];exact ho) (μ.app δ)⟩;exact Below.grown (Sj _ _) hg (Ex.trans H (Ex.trans W α)).size λk hk=>by have :=(Z.block k hk).1;have :=H.size;omega
  | rep p=>
   have η:(p.isR&&p.smp)=true:=hs;simp only [OJ]at η;have ζ:=ok.parts p (by simp [T.parts]);refine aW (by simp [T.kind]) (aW (by simp [T.kind]) (aW (by simp [T.kind]) (aW (by simp [T.kind]) (dc rfl ⟨⟨by omega,by simp [T.text];omega⟩,?_⟩))));have e:(T.rep p).size=p.size+1:=by simp only [T.size]
   refine ih (t:=p) (by omega) ζ η.2 (by omega) λv w1 xs x1 ho hm=>?_
   cases p<;>try (simp [T.isR]at η;done)
   rename_i a b q;obtain⟨cs,ys,rfl,θ,rfl⟩:=hm;have θ:cs=fS 63 a b q.text false:=θ;subst θ;have ψ:(offs (T.rcv a b q)).length=1:=rfl;rw [ψ]at ho;rcases ho.cell with⟨_,h0,_⟩ | ⟨g,cap,rfl,hg,hc⟩
   ·cases h0
   have ω:=ho.fr (g:=g) rfl;have hgb:=(ho.block g rfl).1;refine⟨_,_,cap,rfl,λx w'=>(x=0/\w'=w1)\/(x=1/\w'=w1.setCell ⟨g,4,none⟩ (.bool true)),λx _=>(1 - x).toNat,.inl ⟨rfl,rfl⟩,λx w' hI=>⟨λι=>?_,λι=>?_⟩⟩
   ·rcases hI with⟨rfl,rfl⟩ | ⟨rfl,_⟩
    ·have c4:w'.cell? ⟨g,4,none⟩=some (.bool false):=hc 4 _ rfl;refine⟨g,0,_,cap,rfl,by omega,by omega,⟨⟨_,c4⟩,ω 4⟩,λw51 ο=>⟨by omega,.inr ⟨rfl,ο⟩,by show((1:Int) - (0+1)).toNat< ((1:Int) - 0).toNat;decide⟩⟩
    ·simp at ι
   ·rcases hI with⟨rfl,_⟩ | ⟨_,rfl⟩
    ·simp at ι
    ·exact h _ _ _ (Ex.own x1 hgb _) (ho.set rfl (by simp [fS])) (fL.one rfl)
theorem Gb {u:U}(α:u.size<=60):(gY u).length<=12960000:=by
 have Z:u.ths.length<=60:=by have :=xB u;omega
 have H:∀i (h:i< u.ths.length),(offs u.ths[i]).length<=60:=λi h=>by
  have G:=fQ u.ths[i];have h2:=eO u _ (OP h);omega
 have V:∀i c d p k,k< u.ths.length->(E2 u i c d p k).length<=60:=λi c d p k hk=>by
  unfold E2;split
  ·simp
  ·rw [cP hk];have G:=iy (f:=E3 u i k c d p) (c:=1) (l:=offs u.ths[k]) λx _=>by
    cases x with
    | rcv e' x q s=>unfold E3;simp only;split<;>simp
    | _=>simp [E3]
   have :=H k hk;omega
 have W:∀i o,(E1 u i o).length<=3600:=λi o=>by
  cases o with
  | tau p=>simp [E1]
  | rcv=>simp [E1]
  | snd c d p=>
   have G:=iy (f:=E2 u i c d p) (c:=60) (l:=List.range u.ths.length) λx J=>V i c d p x (Qc.1 J)
   rw [QR]at G;show((List.range u.ths.length).flatMap (E2 u i c d p)).length<=3600;omega
 have G:=iy (f:=E0 u) (c:=216000) (l:=List.range u.ths.length) λx J=>by
  rw [Qc]at J;have G:=iy (f:=E1 u x) (c:=3600) (l:=offs u.ths[x]) λy _=>W x y
  have :=H x J;unfold E0;rw [cP J];omega
 rw [QR]at G;unfold gY;omega
theorem pg {s:Tx}{l:List Tx}(h:sO s=some l):l.length<=12960000:=by
 unfold sO at h;split at h
 ·rename_i G;have ok:=G.choose_spec.1;generalize G.choose=t at ok h;have H:=ok.size;have J:=(me ok.su.ae).2.2;unfold qp at h;split at h
  ·cases h;have V:=G6 (a6 (outs (gY (num t e0 0).1)));have h2:=(aR (outs (gY (num t e0 0).1))).length_eq;have W:=Gb (u:=(num t e0 0).1) (by omega);have h4:(outs (gY (num t e0 0).1)).length=(gY (num t e0 0).1).length:=by unfold outs;simp
   omega
  ·cases h
 ·cases h
structure zO (B b r:Nat)(fs:Tx)(w:World)(all:List Tx)(n:Nat)(mm:Value->Option Value)(L:Nat->Prop):Prop where
 lb:B<=b
 lt:b< w.heap.size
 lr:B<=r
 br:b≠r
 f:∀j,w.frozen? ⟨b,j,none⟩=false
 c0:w.cell? ⟨b,0,none⟩=some (.string (ai fs))
 c2:w.cell? ⟨b,2,none⟩=some (.map (some r))
 mp:IsMap w r .string mm
 ml:∀g,L g->B<=g/\g< w.heap.size/\g≠b/\g≠r
 sl:∃v,w.cell? ⟨b,1,none⟩=some v/\Own B w v all/\∀g,v.ownBlock=some g->g≠b/\g≠r/\¬L g
 nx:∀j (h:j< all.length),j< n->∃v l,mm (.string (ai all[j]))=some v/\sO all[j]=some l/\Strs w v l/\∀g,v.ownBlock=some g->L g
section
variable {B b r n:Nat} {fs:Tx} {w w':World} {all:List Tx} {mm:Value->Option Value} {L:Nat->Prop}
theorem zO.ex (h:zO B b r fs w all n mm L)(x:Ex w w'):zO B b r fs w' all n mm L:=by
 obtain⟨v,H,h2,J⟩:=h.sl;have s:=x.size;refine⟨h.lb,by have :=h.lt;omega,h.lr,h.br,λj=>by rw [PV x h.lt];exact h.f j,by rw [x.cell (a:=⟨b,0,none⟩) h.lt];exact h.c0,by rw [x.cell (a:=⟨b,2,none⟩) h.lt];exact h.c2,aS h.mp (x.block r (bS h.mp)),λg G=>⟨(h.ml g G).1,by have :=(h.ml g G).2.1;omega,(h.ml g G).2.2⟩,⟨v,by rw [x.cell (a:=⟨b,1,none⟩) h.lt];exact H,h2.ex x,J⟩,λj hj V=>?_⟩;obtain⟨v',l,h4,h5,W,Z⟩:=h.nx j hj V;exact⟨v',l,h4,h5,W.ex x,Z⟩
theorem Kp.jV (k:bw w w' r):Kp w w' λg=>g=r:=⟨k.os,k.tape,k.output,Nat.le_of_eq k.size.symm,λg _ G=>k.block g G⟩
theorem tT {v:Value}{g off m cap:Nat}(h:v= .slice (some ⟨g,off,none⟩) m cap):v.ownBlock=some g:=by rw [h];rfl
theorem zO.aI (h:zO B b r fs w all n mm L)(hB:B<=w.heap.size){w1:World}(x:Ex w w1)(hn:n< all.length){v:Value}{l:List Tx}(hl:sO all[n]=some l)(hm:IsMap w' r .string (bR mm (.string (ai all[n])) v))(k:bw w1 w' r)(hs:Strs w1 v l)(J:∀g,v.ownBlock=some g->w.heap.size<=g):
  zO B b r fs w' all (n+1) (bR mm (.string (ai all[n])) v) λg=>L g\/v.ownBlock=some g:=by
 have H:=h.ex x;have ζ:=h.lt;have hr:=bS h.mp;have kp:=Kp.jV k;have eb:=k.block b h.br;have α:∀g,v.ownBlock=some g->g< w1.heap.size:=λg G=>by
  rcases hs with⟨e,_⟩ | ⟨b',off,cap,e,h2,_⟩
  ·rw [e]at G;cases G
  ·rw [e]at G;cases G;exact h2
 obtain⟨vo,k1,k2,k3⟩:=H.sl;obtain⟨β,γ,δ,η⟩:=h.sl;have ε:vo=β:=by
  have :=x.cell (a:=⟨b,1,none⟩) h.lt;rw [k1,γ]at this;exact Pz this
 subst ε;refine⟨h.lb,by have :=k.size;have :=H.lt;omega,h.lr,h.br,λj=>by rw [Pd (w:=w1) eb];exact H.f j,by rw [OG (w:=w1) eb];exact H.c0,by rw [OG (w:=w1) eb];exact H.c2,hm,λg G=>?_,⟨vo,by rw [OG (w:=w1) eb];exact k1,k2.kp kp λg G=>(k3 g G).2.1,λg G=>⟨(k3 g G).1,(k3 g G).2.1,λe=>e.elim (k3 g G).2.2 λe=>?_⟩⟩,λj hj θ=>?_⟩
 ·rcases G with G | G
  ·have :=H.ml g G;exact⟨this.1,by have :=k.size;omega,this.2.2⟩
  ·have h2:=J g G;have h3:=α g G;exact⟨by omega,by have :=k.size;omega,by omega,by omega⟩
 ·have h2:=J g e;have h3:=δ.block g G;omega
 ·have V:∀{v':Value} {l':List Tx},Strs w1 v' l'->(∀g,v'.ownBlock=some g->g≠r)->Strs w' v' l':=λhs J=>hs.kp kp λb' off n' cap e W=>J b' (tT e) W
  by_cases e:all[j]=all[n]
  ·refine⟨v,l,by rw [e];unfold bR;simp,by rw [e];exact hl,V hs λg G=>by have :=J g G;omega,λg G=> .inr G⟩
  ·have Z:j< n:=by
    have:j≠n:=λW=>e (by subst W;rfl)
    omega
   obtain⟨v',l',h4,h5,h6,h7⟩:=H.nx j hj Z;refine⟨v',l',?_,h5,V h6 λg G=>(H.ml g (h7 g G)).2.2.2,λg G=> .inl (h7 g G)⟩;unfold bR;rw [O1]
   ·exact h4
   ·intro W;exact e (eH (Rz W))
theorem zO.app (h:zO B b r fs w all n mm L)(hn:n<=all.length)(hB:B<=w.heap.size){v:Value}(hv:w.cell? ⟨b,1,none⟩=some v){s:Tx}{w1 w2:World}(x:Ex w w1){v':Value}(ho:Own B w2 v' (all++[s]))(H:w1.grownBy w2 v.ownBlock)(α:∀g,v'.ownBlock=some g->v.ownBlock=some g\/w1.heap.size<=g):
  ((∃u,w2.cell? ⟨b,1,none⟩=some u)/\w2.frozen? ⟨b,1,none⟩=false)/\∀w',w'=w2.setCell ⟨b,1,none⟩ v'->zO B b r fs w' (all++[s]) n mm L/\Below B w w':=by
 have G:=h.ex x;obtain⟨vo,k1,k2,k3⟩:=G.sl;have β:vo=v:=by
  have :=x.cell (a:=⟨b,1,none⟩) h.lt;rw [k1,hv]at this;exact Pz this
 subst β;have k:Kp w1 w2 λg=>vo.ownBlock=some g:=Kp.aJ H λ _ h=>h
 have s1:=x.size;have γ:=G.lt;have e2:=k.block b γ λe=>(k3 b e).1 rfl
 have c1:w2.cell? ⟨b,1,none⟩=some vo:=by rw [OG (w:=w1) e2];exact k1
 have f2:∀j,w2.frozen? ⟨b,j,none⟩=false:=λj=>by rw [Pd (w:=w1) e2];exact G.f j
 refine⟨⟨⟨_,c1⟩,f2 1⟩,λw' J=>?_⟩;have kr:Kr b w2 w':=J▸Kr.set w2 1 _;have sk:=k.size;have sr:=kr.size;have δ:=bS G.mp;have V:∀g,v'.ownBlock=some g->g≠b/\g≠r/\¬L g:=λg H=>(α g H).elim (k3 g) λe=>⟨by omega,by omega,λhL=>by have :=(G.ml g hL).2.1;omega⟩
 have ε:∀{g},g≠b->g< w1.heap.size->vo.ownBlock≠some g->w'.heap[g]?=w1.heap[g]?:=λ{g} h3 h4 h5=>(kr.block g (by omega) h3).trans (k.block g h4 h5)
 refine⟨⟨h.lb,by omega,h.lr,h.br,λj=>by rw [J,O0];exact f2 j,?_,?_,aS G.mp (ε h.br.symm δ λe=>(k3 r e).2.1 rfl),λg H=>⟨(G.ml g H).1,by have :=(G.ml g H).2.1;omega,(G.ml g H).2.2⟩,⟨v',by rw [J];exact OY _ _ _ c1,ho.kp kr λg H=>(V g H).1,V⟩,λj hj ζ=>?_⟩,?_⟩
 ·rw [J,OL _ _ _ _ (by simp),OG (w:=w1) e2];exact G.c0
 ·rw [J,OL _ _ _ _ (by simp),OG (w:=w1) e2];exact G.c2
 ·have W:j< all.length:=by omega
  rw [P8 W];obtain⟨v2,l2,h4,h5,h6,h7⟩:=G.nx j W ζ;have kk:Kp w1 w' λg=>vo.ownBlock=some g\/g=b:=Kp.trans (Kp.mono (λ _ h=> .inl h) k) kr λ _ _ h=> .inr h
  exact⟨v2,l2,h4,h5,h6.kp kk λb' off n' cap e Z=>Z.elim (λZ=>(k3 b' Z).2.2 (h7 b' (tT e))) λZ=>(G.ml b' (h7 b' (tT e))).2.2.1 Z,h7⟩
 ·have b1:Below B w w1:=RC x hB;have b2:Below B w1 w2:=Kp.below k (by omega) λg H e=>by have :=(k2.block g e).1;omega
  have b3:Below B w2 w':=Kp.below kr (by omega) λg H e=>by have :=h.lb;omega
  exact Qr (Qr b1 b2) b3
end
def Gr (w0:World)(o0:Value)(w:World)(o:Value):Prop:=Kp w0 w (λg=>o0.ownBlock=some g)/\∀g,o.ownBlock=some g->o0.ownBlock=some g\/w0.heap.size<=g
theorem Gr.refl (w:World)(o:Value):Gr w o w o:=⟨Kp.af (Ex.refl w) _,λ _ h=> .inl h⟩
theorem Gr.size {w0 w:World}{o0 o:Value}(h:Gr w0 o0 w o):w0.heap.size<=w.heap.size:=h.1.size
theorem Gr.trans {a b c:World}{G H J:Value}(h:Gr a G b H)(k:Gr b H c J):Gr a G c J:=
 ⟨Kp.trans h.1 k.1 λg V e=>(h.2 g e).resolve_right λW=>by omega,λg V=>(k.2 g V).elim (λe=>h.2 g e) λe=> .inr (PN h.1.size e)⟩
theorem Gr.ex {w0 w w':World}{o0 o:Value}(h:Gr w0 o0 w o)(x:Ex w w'):Gr w0 o0 w' o:=h.trans ⟨Kp.af x _,λ _ e=> .inl e⟩
theorem Gr.grown {w0 w w':World}{o0 o G:Value}(h:Gr w0 o0 w o)(H:w.grownBy w' o.ownBlock)(J:∀g,G.ownBlock=some g->o.ownBlock=some g\/w.heap.size<=g):Gr w0 o0 w' G:=
 h.trans ⟨Kp.aJ H λ _ e=>e,J⟩
theorem Gr.nil {w0 w:World}{o0 o:Value}(h:Gr w0 o0 w o)(G:o0.ownBlock=none):Ex w0 w:=by
 obtain⟨k,_⟩:=h;exact⟨k.os,k.tape,k.output,k.size,λg H=>k.block g H (by rw [G];simp)⟩
structure oK (B:Nat)(w0:World)(o0:Value)(fine:Bool)(out:Value)(w:World)(acc:List U):Prop where
 gr:Gr w0 o0 w out
 ow:Own B w out (outs acc)
 fi:fine=jl acc
 hB:B<=w0.heap.size
section
variable {B:Nat} {w0 w w':World} {o0 out:Value} {fine:Bool} {acc:List U}
theorem oK.ex (h:oK B w0 o0 fine out w acc)(x:Ex w w'):oK B w0 o0 fine out w' acc:=⟨h.gr.ex x,h.ow.ex x,h.fi,h.hB⟩
theorem oK.start (h:oK B w0 o0 fine out w acc):oK B w out fine out w acc:=⟨Gr.refl _ _,h.ow,h.fi,PN h.hB h.gr.size⟩
theorem oK.back {w1:World}{H J:Value}{f2:Bool}{G:List U}(h:oK B w0 o0 fine H w1 acc)(k:oK B w1 H f2 J w G):oK B w0 o0 f2 J w G:=⟨h.gr.trans k.gr,k.ow,k.fi,h.hB⟩
theorem oK.lt (h:oK B w0 o0 fine out w acc):∀g,out.ownBlock=some g->g< w.heap.size:=λg G=>(h.ow.block g G).2
theorem zT (l:List U):(outs l).length=l.length:=by unfold outs;simp
theorem KU (h:oK B w0 o0 fine out w acc)(hl:acc.length<=1000000000){vv:U}{s:aB}{q:Bool}(hs:s=(kL vv).getD [])(hq:q=(kL vv).isSome){K:Bool->Value->Sl}(hK:∀fn v' w',oK B w0 o0 fn v' w' (acc++[vv])->K fn v' w'):
  ∃J:Bool->aB->Sl,((fine=true->J q s w)/\(fine=false->J false s w))/\∀(fn:Bool) (nx:aB) (W:World),J fn nx W->∀(ζ:Nat) (H:World),ζ=Array.size (World.heap W)->H=World.alloc W (Obj.cells #[(Value.string (ai nx))] 9)->
   ∃(G β γ:Nat) (δ V:List Value),World.ownsRow H G 9 1 out β δ/\G<=Array.size (World.heap H)/\dW H (Value.slice (some ⟨ζ,0,none⟩) 1 1) γ 1 V/\(β+γ<=maxLen/\(β+γ)* 16<=140737488355328)/\
   ∀(Z:Value) (α:World),World.ownsRow α G 9 1 Z (β+γ) (δ++V)->World.grownBy H α (Value.ownBlock out)->(∀b:Nat,Value.ownBlock Z=some b->Value.ownBlock out=some b\/Array.size (World.heap H)<=b)->K fn Z α:=by
 have e2:jl (acc++[vv])=(fine&&q):=by
  rw [xj,hq,h.fi];simp [jl]
 refine⟨λfn nx w'=>fn=jl (acc++[vv])/\nx=s/\w'=w,⟨λhf=>⟨by rw [e2,hf,QC],rfl,rfl⟩,λhf=>⟨by rw [e2,hf,Sf],rfl,rfl⟩⟩,λfn nx W hJ ζ H θ ε=>?_⟩;obtain⟨ι,rfl,rfl⟩:=hJ;have η:Ex W H:=ε▸Ex.alloc W _;refine Own.push (h.ow.ex η) (PN h.hB (PN h.gr.size η.size)) (Strs.one θ ε) (by rw [zT];simp only [OF,OX];omega) λZ α κ ho hg hn=>hK fn Z α ⟨(h.gr.ex η).grown hg hn,?_,ι,h.hB⟩
 rw [BA,show outs [vv]=[nx] by rw [hs];rfl];exact ho
end
theorem G0 {f:Tx}{ps:List P}{v:Value}{w:World}{u:U}(G:Strs w v (ps.map T.text))(H:dz (ps.map T.text)<=1000000000)(d:pI 0 (resL f (parL ps)) σ0 u){R:aB->Bool->Sl}
  (h:∀s q w',Ex w w'->s=(kL u).getD []->q=(kL u).isSome->R s q w'):Sm 151 #[.string (ai f),v] w (an [.s,.b] R):=
 Gk G H d λw' x=>⟨λs e=>h s true w' x (by rw [e];rfl) (by rw [e];rfl),λe=>h [] false w' x (by rw [e];rfl) (by rw [e];rfl)⟩
theorem Dy {c:Nat}:∀{l:List Tx},(∀s∈l,s.length<=c)->dz l<=l.length* (c+3)
 | [],_=>by simp [dz]
 | s::l,h=>by
  have H:=h s (by simp);have h2:=Dy (c:=c) (l:=l) λx G=>h x (by simp [G])
  rw [dX,OF,Nat.succ_mul];omega
theorem yE {X:Type}(l:List X)(i j:Nat):(wo l i j).length<=l.length:=by
 unfold wo;rw [O8];exact PN (QI _ _) (by simp)
theorem Ii {X Y:Type}(f:X->Y)(l:List X)(i j:Nat):wo (l.map f) i j=(wo l i j).map f:=by
 rw [C6,C6,zu]
theorem lens {u:U}(δ:u.size<=60):u.ths.length<=60/\(∀i (h:i< u.ths.length),(offs u.ths[i]).length<=60)/\(∀i k c d p (l:List (Off Nat)),l.length<=60->(l.flatMap (E3 u i k c d p)).length<=60)/\(∀i c d p k,k<=u.ths.length->((List.range k).flatMap (E2 u i c d p)).length<=3600)/\
  (∀i j (h:i< u.ths.length),(((offs u.ths[i]).take j).flatMap (E1 u i)).length<=216000)/\∀i,i<=u.ths.length->((List.range i).flatMap (E0 u)).length<=12960000:=by
 have W:u.ths.length<=60:=by have :=xB u;omega
 have J:∀i (h:i< u.ths.length),(offs u.ths[i]).length<=60:=λi h=>by
  have V:=fQ u.ths[i];have h2:=eO u _ (OP h);omega
 have Z:∀i k c d p (l:List (Off Nat)),l.length<=60->(l.flatMap (E3 u i k c d p)).length<=60:=λi k c d p l hl=>by
  have V:=iy (f:=E3 u i k c d p) (c:=1) (l:=l) λx _=>by
   cases x with
   | rcv e' x q s=>unfold E3;simp only;split<;>simp
   | _=>simp [E3]
  omega
 have β:∀i c d p k,k< u.ths.length->(E2 u i c d p k).length<=60:=λi c d p k hk=>by
  unfold E2;split
  ·simp
  ·rw [cP hk];exact Z i k c d p _ (J k hk)
 have G:∀i c d p k,k<=u.ths.length->((List.range k).flatMap (E2 u i c d p)).length<=3600:=λi c d p k hk=>by
  have V:=iy (f:=E2 u i c d p) (c:=60) (l:=List.range k) λx hx=>β i c d p x (by have :=Qc.1 hx;omega)
  rw [QR]at V;omega
 have γ:∀i o,(E1 u i o).length<=3600:=λi o=>by
  cases o with
  | tau p=>simp [E1]
  | rcv=>simp [E1]
  | snd c d p=>exact G i c d p _ (OQ _)
 have H:∀i j (h:i< u.ths.length),(((offs u.ths[i]).take j).flatMap (E1 u i)).length<=216000:=λi j h=>by
  have V:=iy (f:=E1 u i) (c:=3600) (l:=(offs u.ths[i]).take j) λx _=>γ i x
  rw [Pt]at V;have :=J i h;omega
 refine⟨W,J,Z,G,H,λi hi=>?_⟩;have V:=iy (f:=E0 u) (c:=216000) (l:=List.range i) λx hx=>by
  have hx:=Qc.1 hx;have α:x< u.ths.length:=by omega
  have :=H x (offs u.ths[x]).length α;rw [Pa]at this;unfold E0;rw [cP α];exact this
 rw [QR]at V;omega
abbrev tS:Nat:=9
def FA (w:World)(v src:Value)(K:Value->Sl):Prop:=
 ∃(base n m:Nat) (xs news:List Value),World.ownsRow w base tS 1 v n xs/\base<=Array.size (World.heap w)/\dW w src m 1 news/\(n+m<=maxLen/\(n+m)* 16<=140737488355328)/\
  ∀(v':Value) (w':World),World.ownsRow w' base tS 1 v' (n+m) (xs++news)->World.grownBy w w' (Value.ownBlock v)->(∀b:Nat,Value.ownBlock v'=some b->Value.ownBlock v=some b\/Array.size (World.heap w)<=b)->K v' w'
theorem EI {B:Nat}{w:World}{v x:Value}{l m:List Tx}(h:Own B w v l)(hB:B<=w.heap.size)(G:Strs w x m)(H:l.length+m.length<=1099511627776){K:Value->Sl}(J:∀v' w',Below B w w'->Own B w' v' (l++m)->K v' w'):FA w v x K:=
 Own.push h hB G H λv' w' b o _ _=>J v' w' b o
def JS (w:World)(out:Value)(fine:Bool)(s:aB)(q:Bool)(K:Bool->Value->Sl):Prop:=
 ∃J:Bool->aB->Sl,((fine=true->J q s w)/\(fine=false->J false s w))/\∀(fn:Bool) (nx:aB) (G:World),J fn nx G->∀(H:Nat) (V:World),H=Array.size (World.heap G)->V=World.alloc G (Obj.cells #[(Value.string (ai nx))] tS)->FA V out (Value.slice (some ⟨H,0,none⟩) 1 1) (K fn)
theorem Nn {ps:List P}(h:∀q∈ps,q.aN<=300)(G:ps.length<=63):dz (ps.map T.text)<=1000000000:=by
 have H:=Dy (c:=300) (l:=ps.map T.text) λs J=>by
  obtain⟨q,V,rfl⟩:=Pw.1 J;rw [aX];exact h q V
 rw [O8]at H;have :=RX G (OQ 303);omega
theorem yI {t:P}(ok:mO t):t.ths.length<=60/\∀q∈t.ths,q.size<=60/\q.aN<=300:=by
 have J:=ok.size;have H:∀t:P,t.ths.length<=t.size/\∀q∈t.ths,q.size<=t.size:=by
  intro t
  induction t with
  | nil=>simp [T.ths]
  | par p q _ G=>
   refine⟨by have :=G.1;simp only [T.ths,OF,T.size];omega,λr hr=>?_⟩;rcases O4.1 hr with rfl | hr
   ·simp only [T.size];omega
   ·have :=G.2 r hr;simp only [T.size];omega
  | res x p G=>exact⟨by have :=G.1;simp only [T.ths,T.size];omega,λr hr=>by have :=G.2 r hr;simp only [T.size];omega⟩
  | _=>simp [T.ths,T.size]
 refine⟨by have :=(H t).1;omega,λq V=>?_⟩;have h2:=(H t).2 q V;have W:=eu q;omega
theorem Iu {w w':World}{b:Nat}{x y:Tx}(hb:b=w.heap.size)(h:w'=w.alloc (.cells #[.string (ai x),.string (ai y)] tS)):Strs w' (.slice (some ⟨b,0,none⟩) 2 2) [x,y]:=by
 subst hb h;refine .inr ⟨_,0,2,rfl,by rw [size_alloc];omega,λi z G=>?_⟩;rw [Ph];refine aa ?_
 match i,G with
 | 0,G=>simp at G|-;exact G▸rfl
 | 1,G=>simp at G|-;exact G▸rfl
 | i+2,G=>simp at G
section
variable {t:P} {u:U} {w:World} {v5 out:Value} {b1 b2 B:Nat} {fine:Bool} {acc:List U}
theorem L5 (ok:mO t)(su:SU t u){i:Nat}(hi:i< t.ths.length)(hi':i< u.ths.length){p:P}{p':U}(ho:Off.tau p∈offs t.ths[i])(ho':Off.tau p'∈offs u.ths[i])(hae:ri UInt8.toNat (λz=>(asg u.frL t.frL ρ0 z).toNat) (.tau p) (.tau p'))
  (hv:Strs w v5 (t.ths.map T.text)) (hb:b1< w.heap.size) (hc:w.cell? ⟨b1,3,none⟩=some (.string (ai p.text))) (hI:oK B w out fine out w acc) (hl:acc.length<=1000000000) {J:Bool->Value->Sl} (hJ:∀fn v' w',oK B w out fn v' w' (acc++[MP u i p'])->J fn v' w'):
  ∃G:Sl,∀H:World,H=World.drew w->G H/\∃η:aB,(∀w',G w'->World.cell? w' ⟨b1,3,none⟩=some (Value.string (ai η)))/\
   (Sm 152 #[v5,(Value.int IntKind.i64 i),(Value.int IntKind.i64 i)] H (an [.v] fun(v49:Value) (Z:World)=>G Z/\∀(θ:Nat) (β:World),θ=Array.size (World.heap Z)->β=World.alloc Z (Obj.cells #[(Value.string (ai η))] tS)->G β/\FA β v49 (Value.slice (some ⟨θ,0,none⟩) 1 1) λξ ι=>G ι/\Sm 151 #[(Value.string (ai t.frL)),ξ] ι (an [.s,.b] fun(s60:aB) (q61:Bool) (ο:World)=>G ο/\JS ο out fine s60 q61 J)))/\
   (∀(κ:Nat) (γ:World),κ=Array.size (World.heap H)->γ=World.alloc H (Obj.cells #[(Value.string (ai η))] tS)->G γ/\Sm 152 #[v5,(Value.int IntKind.i64 i),(Value.int IntKind.i64 i)] γ (an [.v] fun(ς:Value) (μ:World)=>G μ/\FA μ ς (Value.slice (some ⟨κ,0,none⟩) 1 1) λv85 ν=>G ν/\Sm 151 #[(Value.string (ai t.frL)),v85] ν (an [.s,.b] fun(s87:aB) (q88:Bool) (υ:World)=>G υ/\JS υ out fine s87 q88 J))):=by
 obtain⟨hn,φ⟩:=yI ok;have χ:=OP hi;have hpl:p.aN<=300:=by
  have h1:=(aZ (su.smpP _ χ) _ ho).1.size;have h2:=(φ _ χ).1;have h3:=eu p;simp only [Off.tm,T.size]at h1;omega
 have hwl:=yE t.ths i i;have hbound:dz ((wo t.ths i i++[p]).map T.text)<=1000000000:=by
  refine Nn (λq hq=>?_) (by rw [OM,P5];omega);rcases OS.1 hq with hq | hq
  ·exact(φ _ (lO hq)).2
  ·cases OO.1 hq;exact hpl
 have den:=(Et ok su hi hi' ho ho' hae).1;have e:wo (t.ths.map T.text) i i++[p.text]=(wo t.ths i i++[p]).map T.text:=by rw [Ii,PH];rfl
 have ψ:(wo (t.ths.map T.text) i i).length+[p.text].length<=1099511627776:=by
  have :=yE (t.ths.map T.text) i i;rw [O8]at this;simp only [OF,OX];omega
 have mk:∀{v':Value} {w':World},Ex w w'->Strs w' v' ((wo t.ths i i++[p]).map T.text)->Sm 151 #[(Value.string (ai t.frL)),v'] w' (an [.s,.b] fun(s:aB) (q:Bool) (w2:World)=>Ex w w2/\JS w2 out fine s q J):=λx hs=>
  G0 hs hbound den λs q w2 x2 h1 h2=>⟨Ex.trans x x2,KU (hI.ex (Ex.trans x x2)) hl h1 h2 hJ⟩
 refine⟨λw'=>Ex w w',λH ω=>?_⟩;have α:Ex w H:=ω▸Ex.drew w;refine⟨α,p.text,λw' x=>by rw [x.cell (a:=⟨b1,3,none⟩) hb];exact hc,?_,λκ γ hb76 ε=>?_⟩
 ·refine mw (hv.ex α) (by rw [O8];omega) λv49 Z x50 o50=>⟨Ex.trans α x50,λθ β hb51 ζ=>?_⟩
  have x52:Ex Z β:=ζ▸Ex.alloc Z _;have V:=Ex.trans x50 x52;refine⟨Ex.trans α V,EI (o50.ex x52) V.size (Strs.one hb51 ζ) ψ λξ ι b59 o59=>?_⟩;have x59:=Ex.trans α (Ex.below V b59);exact⟨x59,mk x59 (e▸o59.strs)⟩
 ·have x77:Ex H γ:=ε▸Ex.alloc H _;have W:=Ex.trans α x77;refine⟨W,mw (hv.ex W) (by rw [O8];omega) λς μ δ o79=>⟨Ex.trans W δ,EI o79 δ.size ((Strs.one hb76 ε).ex δ) ψ λv85 ν b86 o86=>?_⟩⟩;have x86:=Ex.trans W (Ex.below δ b86);exact⟨x86,mk x86 (e▸o86.strs)⟩
theorem J6 (ok:mO t)(su:SU t u){i k:Nat}(hi:i< t.ths.length)(hi':i< u.ths.length)(hk:k< t.ths.length)(χ:k< u.ths.length)(hik:i≠k){a b:UInt8}{p:P}{c d:Nat}{p':U}(ho:Off.snd a b p∈offs t.ths[i])(ho':Off.snd c d p'∈offs u.ths[i])
  (hae:ri UInt8.toNat (λz=>(asg u.frL t.frL ρ0 z).toNat) (.snd a b p) (.snd c d p')) {e x:UInt8} {q:P} {s:Bool} {e' x':Nat} {q':U} {s':Bool} (hr:Off.rcv e x q s∈offs t.ths[k]) (hr':Off.rcv e' x' q' s'∈offs u.ths[k])
  (har:ri UInt8.toNat (λz=>(asg u.frL t.frL ρ0 z).toNat) (.rcv e x q s) (.rcv e' x' q' s'))
  (hv:Strs w v5 (t.ths.map T.text)) (hb:b1< w.heap.size) (hb2:b2< w.heap.size) (hc2:w.cell? ⟨b1,2,none⟩=some (.int .u8 b.toNat)) (hc3:w.cell? ⟨b1,3,none⟩=some (.string (ai p.text))) (hd2:w.cell? ⟨b2,2,none⟩=some (.int .u8 x.toNat)) (hd3:w.cell? ⟨b2,3,none⟩=some (.string (ai q.text))) (hd4:w.cell? ⟨b2,4,none⟩=some (.bool s))
  (hI:oK B w out fine out w acc) (hl:acc.length<=1000000000) {J:Bool->Value->Sl} (hJ:∀fn v' w',oK B w out fn v' w' (acc++[Gj u i k p' (q'.map (Ff (NN u) q' x' d)) s'])->J fn v' w'):
  ∃G:Sl,∀β:World,β=World.drew w->G β/\∃ω:aB,(∀w',G w'->World.cell? w' ⟨b1,3,none⟩=some (Value.string (ai ω)))/\∃s150:aB,(∀w',G w'->World.cell? w' ⟨b2,3,none⟩=some (Value.string (ai s150)))/\∃c151:UInt8,(∀w',G w'->World.cell? w' ⟨b2,2,none⟩=some (Value.int IntKind.u8 (UInt8.toNat c151)))/\∃c152:UInt8,(∀w',G w'->World.cell? w' ⟨b1,2,none⟩=some (Value.int IntKind.u8 (UInt8.toNat c152)))/\
   Sm 152 #[v5,(Value.int IntKind.i64 i),(Value.int IntKind.i64 k)] β (an [.v] fun(v153:Value) (ι:World)=>G ι/\Sm 153 #[(Value.string (ai s150)),(Value.int IntKind.u8 (UInt8.toNat c151)),(Value.int IntKind.u8 (UInt8.toNat c152))] ι (an [.s] fun(s155:aB) (Z:World)=>G Z/\∀(η:Nat) (α:World),η=Array.size (World.heap Z)->α=World.alloc Z (Obj.cells #[(Value.string (ai ω)),(Value.string (ai s155))] tS)->G α/\FA α v153 (Value.slice (some ⟨η,0,none⟩) 2 2) λv164 H=>G H/\
    ∃κ:Value->Sl,(∃μ:Bool,World.cell? H ⟨b2,4,none⟩=some (Value.bool μ)/\(μ=true->∀(ν:Nat) (θ:World),ν=Array.size (World.heap H)->θ=World.alloc H (Obj.cells #[(Value.string (ai t.ths[k].text))] tS)->FA θ v164 (Value.slice (some ⟨ν,0,none⟩) 1 1) κ)/\(μ=false->κ (v164) H))/\
    ∀(γ:Value) (ξ:World),κ γ ξ->Sm 151 #[(Value.string (ai t.frL)),γ] ξ (an [.s,.b] fun(s179:aB) (q180:Bool) (w181:World)=>JS w181 out fine s179 q180 J))):=by
 obtain⟨hn,ψ⟩:=yI ok;have hmP:=OP hi;have hmK:=OP hk;have hmU:=OP χ;obtain⟨sP,_⟩:=aZ (su.smpP _ hmP) _ ho;obtain⟨sK,_⟩:=aZ (su.smpP _ hmK) _ hr;have hpl:p.aN<=300:=by
  have h1:=sP.size;have h2:=(ψ _ hmP).1;have h3:=eu p;simp only [Off.tm,T.size]at h1;omega
 have hqs:q.size<=60:=by
  have h1:=sK.size;have h2:=(ψ _ hmK).1;simp only [Off.tm,T.size]at h1;omega
 obtain⟨hq1,hq2,hq3⟩:=M5 ok su hk hr;have alb:=(sP.al _ (su.al _ hmP)).2.1;have hwl:=yE t.ths i k;have ew:wo (t.ths.map T.text) i k=(wo t.ths i k).map T.text:=Ii _ _ _ _;have uqr:=su.ly χ (aZ (su.smp _ hmU) _ hr').1 (gH _ hr');have hss:s=s':=har.2.2;have umc:Gj u i k p' (q'.map (Ff (NN u) q' x' d)) s'=resL u.frL (parL (bM u.ths i k p' (q'.map (Ff (NN u) q' x' d)) s' u.ths[k])):=by unfold Gj;rw [cP χ]
 refine⟨λw'=>Ex w w',λβ hw148=>?_⟩;have V:Ex w β:=hw148▸Ex.drew w;refine⟨V,p.text,λw' x=>by rw [x.cell (a:=⟨b1,3,none⟩) hb];exact hc3,q.text,λw' x=>by rw [x.cell (a:=⟨b2,3,none⟩) hb2];exact hd3,x,λw' x=>by rw [x.cell (a:=⟨b2,2,none⟩) hb2];exact hd2,b,λw' x=>by rw [x.cell (a:=⟨b1,2,none⟩) hb];exact hc2,?_⟩;refine mw (hv.ex V) (by rw [O8];omega) λv153 ι ο o154=>⟨Ex.trans V ο,?_⟩
 refine ig q.size (OQ _) hq1 hq2 hq3 (iW alb) (Ci alb 0) λr Z ς hr2=>⟨Ex.trans (Ex.trans V ο) ς,λη α hb157 υ=>?_⟩
 have x158:Ex Z α:=υ▸Ex.alloc Z _;have W:=Ex.trans ο (Ex.trans ς x158);have x0158:=Ex.trans V W;have hrl:r.aN<=300:=by
  have h1:=(Ap hr2.shp).2.2;have h2:=eu q;omega
 have den:=(zX ok su hi hi' hk χ hik ho ho' hae hr hr' har (Dd (NN u) d uqr.lQ) su.bound (by unfold NN;omega) hr2).1;rw [<-umc]at den;have hlw:(wo (t.ths.map T.text) i k).length<=60:=by
  have :=yE (t.ths.map T.text) i k;rw [O8]at this;omega
 have two:Strs α (.slice (some ⟨η,0,none⟩) 2 2) [p.text,r.text]:=Iu hb157 υ;refine⟨x0158,EI (o154.ex (Ex.trans ς x158)) W.size two (by simp only [OF,OX];omega) λv164 H b165 o165=>?_⟩;have δ:=Ex.below W b165;have ζ:=Ex.trans V δ;refine⟨ζ,λv' w'=>Ex w w'/\Strs w' v' ((bM t.ths i k p r s t.ths[k]).map T.text),⟨s,by rw [ζ.cell (a:=⟨b2,4,none⟩) hb2];exact hd4,λhs ν θ hb168 φ=>?_,λhs=>⟨ζ,?_⟩⟩,λv177 ξ hJ178=>?_⟩
 ·have x169:Ex H θ:=φ▸Ex.alloc H _;have ε:=Ex.trans δ x169;refine EI (o165.ex x169) ε.size (Strs.one hb168 φ) (by simp only [OM,OF,OX];omega) λv175 w176 b176 o176=>⟨Ex.trans V (Ex.below ε b176),?_⟩
  have h:=o176.strs;rw [ew]at h;unfold bM;rw [hs];simpa using h
 ·have h:=o165.strs;rw [ew]at h;unfold bM;rw [hs];simpa using h
 ·obtain⟨x178,hs178⟩:=hJ178;refine G0 hs178 (Nn (λz hz=>?_) ?_) den λsx qx w2 x2 h1 h2=>KU (hI.ex (Ex.trans x178 x2)) hl h1 h2 hJ
  ·unfold bM at hz;rcases OS.1 hz with hz | hz
   ·rcases OS.1 hz with hz | hz
    ·exact(ψ _ (lO hz)).2
    ·rcases O4.1 hz with rfl | hz
     ·exact hpl
     ·cases OO.1 hz;exact hrl
   ·cases s
    ·cases hz
    ·cases OO.1 hz;exact(ψ _ hmK).2
  ·unfold bM;simp only [OM,OF,OX];split<;>simp only [OF,OX]<;>omega
end
theorem tu {e B:Nat}{w:World}{v:Value}{os:List (Off UInt8)}{xs:List Value}(G:cR e B w v os.length xs)(hm:fL os xs){j:Nat}(hj:j< os.length):∃(g cap:Nat) (cs:List Value),v= .slice (some ⟨g,0,none⟩) os.length cap/\wi os[j] cs/\∀i u,cs[i]?=some u->∀off,off=j* 5+i->i< 5->w.cell? ⟨g,off,none⟩=some u:=by
 obtain⟨cs,H,h2⟩:=hm.at hj;rcases G.cell with⟨_,J,_⟩ | ⟨g,cap,rfl,_,hc⟩
 ·omega
 ·refine⟨g,cap,cs,rfl,H,λi u hu off he hi=>?_⟩;have :=hc (j* 5+i) u (by rw [h2 i hi];exact hu);rw [he];rwa [Ph]at this
theorem LI {w w1:World}{g e:Nat}{cs:List Value}{c0:Array Value}(Z:cs.length=5)(h0:c0.size=5)(J:g=w.heap.size)(G:w1=w.alloc (.cells c0 e)):
  (∀j,j< 5->(∃u,w1.cell? ⟨g,0+j,none⟩=some u)/\w1.frozen? ⟨g,0+j,none⟩=false)/\∀w2,w2=World.setCells w1 g 0 cs->Ex w w2/\g< w2.heap.size/\∀j,j< 5->w2.cell? ⟨g,j,none⟩=cs[j]?:=by
 have hc:∀j,j< 5->∃u,w1.cell? ⟨g,0+j,none⟩=some u:=λj hj=>by
  rw [G,J];have:∃u,c0[0+j]?=some u:=by
   rw [Ph];exact⟨_,Array.getElem?_eq_getElem (by omega)⟩
  obtain⟨u,hu⟩:=this;exact⟨u,aa hu⟩
 refine⟨λj hj=>⟨hc j hj,by rw [G,J];exact aG _ _ _ _⟩,λw2 H=>?_⟩;obtain⟨k,_,_,V⟩:=aK (b:=g) cs w1 0;rw [<-H]at k V;have W:Ex w w1:=G▸Ex.alloc _ _;have s1:w1.heap.size=w.heap.size+1:=by rw [G,size_alloc]
 have s2:=k.size;refine⟨Ex.below W (Kp.below k W.size λb hb e=>by omega),by omega,λj hj=>?_⟩;have :=V j (λi hi=>hc i (by omega)) (by omega)
 rwa [Ph]at this
theorem tq {k a b:UInt8}{s:Tx}{q:Bool}:(fS k a b s q).all ay=true:=rfl
theorem Gr.cell {w0 w:World}{o0 o:Value}(h:Gr w0 o0 w o){a:Addr}(ha:a.block< w0.heap.size)(G:o0.ownBlock≠some a.block):w.cell? a=w0.cell? a:=by
 cases a with
 | mk b i t=>exact OG (w:=w0) (h.1.block b ha G)
theorem Gr.strs {w0 w:World}{o0 o v:Value}{l:List Tx}(h:Gr w0 o0 w o)(H:Strs w0 v l)(G:∀g,v.ownBlock=some g->o0.ownBlock≠some g):Strs w v l:=
 H.kp h.1 λb off n cap e J=>G b (tT e) J
theorem cR.gr {e B:Nat}{w0 w:World}{o0 o v:Value}{n:Nat}{xs:List Value}(h:cR e B w0 v n xs)(k:Gr w0 o0 w o)(G:∀g,v.ownBlock=some g->o0.ownBlock≠some g):cR e B w v n xs:=
 h.kp k.1 G
theorem cR.slice {e B:Nat}{w:World}{v:Value}{n:Nat}{xs:List Value}(h:cR e B w v n xs):∃a cap,v= .slice a n cap:=by
 rcases h.cell with⟨G,h2,_⟩ | ⟨g,cap,G,_⟩
 ·exact⟨none,0,by rw [G,h2]⟩
 ·exact⟨_,cap,G⟩
theorem AK {t:P}(ok:mO t){w:World}{R:Value->Bool->Sl}(hR1:qp (num t e0 0).1=none->∀w',Ex w w'->R (.slice none 0 0) false w')(hR2:∀l,qp (num t e0 0).1=some l->∀v w',Ex w w'->Own w.heap.size w' v l->R v true w'):
  Sm 102 #[.string (ai t.text)] w (an [.v,.b] R):=by
 have su:=ok.su;have hszt:=ok.size;have hsh:=(me su.ae).2.2;generalize hu:(num t e0 0).1=u at*;have hsz:u.size<=60:=by omega
 obtain⟨hthl,hol,hE3,hE2s,hE1s,hE0s⟩:=lens hsz;obtain⟨hn,hts⟩:=yI ok;have hlen:=su.two.len;have okt:Ok t:=HG ok.al ok.good;have okth:∀q∈t.ths,Ok q:=λq hq=>⟨(su.al q hq).wf,by rw [aX];have :=(hts q hq).2;omega⟩
 refine ta t.text w R ?_;refine qR okt (q9 okt ok.nr λv5 w6 x6 o5=>?_);have hv5:=o5.strs;obtain⟨a,cap,hv⟩:=hv5.slice;rw [O8]at hv;refine⟨a,_,cap,hv,λfine out x w'=>∃i:Nat,x=i/\i<=t.ths.length/\oK w6.heap.size w6 (.slice none 0 0) fine out w' ((List.range i).flatMap (E0 u)),λ _ _ x _=>(t.ths.length - x).toNat,⟨0,rfl,Px _,⟨Gr.refl _ _,Own.nil _ _,rfl,OQ _⟩⟩,λfine1 out1 x w15 hI=>?_⟩;obtain⟨i,rfl,hi,β⟩:=hI;have x15:Ex w6 w15:=β.gr.nil rfl;refine⟨λhlt=>?_,λhge=>?_⟩;rotate_left
 ·have hil:i=u.ths.length:=by simp only [OV]at hge;omega
  rw [hil]at β;have e:(List.range u.ths.length).flatMap (E0 u)=gY u:=rfl;have hl:=hE0s _ (OQ _);rw [e]at β hl;refine⟨λhf=>hR1 ?_ w15 (Ex.trans x6 x15),λhf=>Ip β.ow.strs (by rw [zT];omega) λv2 w2 x2 o2=>hR2 _ ?_ v2 w2 (Ex.trans (Ex.trans x6 x15) x2) (o2.mono (Ex.trans x6 x15).size)⟩
  ·unfold qp;rw [O1];intro h;rw [<-β.fi]at h;rw [h]at hf;cases hf
  ·unfold qp;rw [Pj];rw [<-β.fi];simpa using hf
 have hi':i< t.ths.length:=by simp only [OW]at hlt;omega
 have κ:i< u.ths.length:=by omega
 have hmi:=OP hi';have two1:=jN (su.two.get hi' κ);have hlo:=two1.len;have hacc1:=hE0s i (by omega);have ek:(List.range (i+1)).flatMap (E0 u)=(List.range i).flatMap (E0 u)++E0 u i:=by rw [RH,P2];simp
 have eE0:E0 u i=(offs u.ths[i]).flatMap (E1 u i):=by unfold E0;rw [cP κ]
 refine hv5.get x15 (i:=i) (x:=t.ths[i].text) (by omega) (by simp [hi']) (Q:=λn=>_) (oG _ (OQ _) (okth _ hmi) (su.smpP _ hmi) (by have :=(hts _ hmi).1;omega) λv21 w22 xs x22 o21 m21=>?_);have h22:=(β.ex x22).start;have n21:∀g,v21.ownBlock=some g->out1.ownBlock≠some g:=λg hg e=>by
  have h1:=(o21.block g hg).1;have h2:=β.lt g e;omega
 obtain⟨a23,cap23,hv21⟩:=o21.slice;have hm1:=@tN t.ths.length i (by omega);generalize hA:(List.range i).flatMap (E0 u)=A at*;have hol1:=hol i κ;have hE1i:=λj=>hE1s i j κ
 refine⟨a23,_,cap23,hv21,λfine out x w'=>∃j:Nat,x=j/\j<=(offs t.ths[i]).length/\oK w6.heap.size w22 out1 fine out w' (A++((offs u.ths[i]).take j).flatMap (E1 u i)),λ _ _ x _=>((offs t.ths[i]).length - x).toNat,⟨0,rfl,Px _,by simpa using h22⟩,λfine2 μ x w31 hI=>?_⟩;obtain⟨j,rfl,hj,ν⟩:=hI;refine⟨λhlt2=>?_,λhge2=>?_⟩;rotate_left
 ·have hjl:j=(offs u.ths[i]).length:=by simp only [OV]at hge2;omega
  rw [hjl,Pa,<-eE0,<-ek]at ν;exact⟨by omega,⟨i+1,by omega,by omega,(β.ex x22).back ν⟩,hm1⟩
 have hjP:j< (offs t.ths[i]).length:=by simp only [OW]at hlt2;omega
 have hjU:j< (offs u.ths[i]).length:=by omega
 have hm2:(((offs t.ths[i]).length:Int) - ((j:Int)+1)).toNat< (((offs t.ths[i]).length:Int) - j).toNat:=by omega
 have hae:=two1.get hjP hjU;have hmP:=OP hjP;have hmU:=OP hjU;obtain⟨g,capg,cs,hvg,W,γ⟩:=tu (o21.gr ν.gr n21) m21 hjP;obtain⟨kk,ca,cb,cs3,cq,rfl⟩:=W.any;have etk:((offs u.ths[i]).take (j+1)).flatMap (E1 u i)=((offs u.ths[i]).take j).flatMap (E1 u i)++E1 u i (offs u.ths[i])[j]:=by rw [OK hjU,P2];simp
 have hacc2:(A++((offs u.ths[i]).take j).flatMap (E1 u i)).length<=13000000+216000:=by
  rw [OM];have :=hE1i j;omega
 rw [hv21]at hvg;refine⟨g,0,_,capg,hv21.trans hvg,by omega,by omega,kk,ca,cb,cs3,cq,⟨γ 0 _ rfl _ (by omega) (by omega),γ 1 _ rfl _ (by omega) (by omega),γ 2 _ rfl _ (by omega) (by omega),γ 3 _ rfl _ (by omega) (by omega),γ 4 _ rfl _ (by omega) (by omega),trivial⟩,λδ w42 hb41 hw42=>?_⟩;obtain⟨box1,box2⟩:=LI (cs:=fS kk ca cb cs3 cq) rfl rfl hb41 hw42;refine⟨⟨rfl,tq,box1⟩,λψ hw43=>?_⟩;obtain⟨x43,l43,ξ⟩:=box2 ψ hw43;have h43:=(ν.ex x43).start;have hnb:μ.ownBlock≠some δ:=λe=>by have :=ν.lt _ e;omega
 have x643:Ex w6 ψ:=Ex.trans ((β.gr.ex x22).trans ν.gr |>.nil rfl) x43;have hacc2':=hacc2;generalize hA2:A++((offs u.ths[i]).take j).flatMap (E1 u i)=A2 at*;have ο:∀{fn:Bool} {o:Value} {w':World},oK w6.heap.size ψ μ fn o w' (A2++E1 u i (offs u.ths[i])[j])->a7 ((j:Int)+1)/\(∃j':Nat,(j:Int)+1=j'/\j'<=(offs t.ths[i]).length/\oK w6.heap.size w22 out1 fn o w' (A++((offs u.ths[i]).take j').flatMap (E1 u i)))/\(((offs t.ths[i]).length:Int) - ((j:Int)+1)).toNat< (((offs t.ths[i]).length:Int) - j).toNat:=λ{fn o w'} h=>by
  refine⟨by omega,⟨j+1,by omega,by omega,(ν.ex x43).back ?_⟩,hm2⟩;rw [etk,<-Pv,hA2];exact h
 generalize (offs t.ths[i])[j]=oP at*;generalize (offs u.ths[i])[j]=oU at*;cases oP<;>cases oU<;>try exact hae.elim
 ·
  rename_i p V;obtain⟨_,_,_,W⟩:=W;unfold fS at W;simp only [PC,Qb,QM,Rp,QS]at W;have e1:kk=126:=Pe.1 (by omega);have e2:cs3=p.text:=eH W.2.2.2.1;subst e1 e2;refine⟨λfn o w'=>oK w6.heap.size ψ μ fn o w' (A2++[MP u i V]),⟨126,ξ 0 (by omega),dc rfl ?_⟩,λfn o w' h=>⟨126,?_,λ _=>ο h,(λh=>by cases h)⟩⟩
  ·exact L5 ok su hi' κ hmP hmU hae (hv5.ex x643) l43 (ξ 3 (by omega)) h43 (by omega) λfn v' w' h=>h
  ·rw [h.gr.cell (a:=⟨δ,0,none⟩) l43 hnb];exact ξ 0 (by omega)
 ·
  rename_i ca' cb' p c d V;obtain⟨_,W⟩:=W;unfold fS at W;simp only [PC,Qb,QM,Rp,QS]at W;have e1:kk=33:=Pe.1 (by omega);have e2:cs3=p.text:=eH W.2.2.2.1;have e3:ca=ca':=Pe.1 (by omega);have e4:cb=cb':=Pe.1 (by omega);subst e1 e2 e3 e4;refine⟨λfn o w'=>oK w6.heap.size ψ μ fn o w' A2,⟨33,ξ 0 (by omega),aW (by decide) h43⟩,λfine3 ζ η H=>⟨33,?_,(λh=>by cases h),λ _=>?_⟩⟩
  ·rw [H.gr.cell (a:=⟨δ,0,none⟩) l43 hnb];exact ξ 0 (by omega)
  have r105:=H.start;have g105:Gr w6 (.slice none 0 0) η ζ:=(((β.gr.ex x22).trans ν.gr).ex x43).trans H.gr;have s43:=H.gr.size;have hnb3:ζ.ownBlock≠some δ:=λe=>(H.gr.2 _ e).elim hnb λe=>by omega
  have c105:∀j,j< 5->η.cell? ⟨δ,j,none⟩=(fS 33 ca cb p.text cq)[j]?:=λj hj=>by rw [H.gr.cell (a:=⟨δ,j,none⟩) l43 hnb];exact ξ j hj
  have hm3:∀k:Nat,k< t.ths.length->((t.ths.length:Int) - ((k:Int)+1)).toNat< ((t.ths.length:Int) - k).toNat:=λk hk=>by omega
  refine⟨a,_,cap,hv,λfine out x w'=>∃k:Nat,x=k/\k<=t.ths.length/\oK w6.heap.size η ζ fine out w' (A2++(List.range k).flatMap (E2 u i c d V)),λ _ _ x _=>(t.ths.length - x).toNat,⟨0,rfl,Px _,by simpa using r105⟩,λfine4 φ x w115 hI=>?_⟩;obtain⟨k,rfl,hk,Z⟩:=hI;have g115:=g105.trans Z.gr;have x115:=g115.nil rfl;refine⟨λhlt3=>?_,λhge3=>?_⟩;rotate_left
  ·have hkl:k=u.ths.length:=by simp only [OV]at hge3;omega
   rw [hkl]at Z;exact ο (H.back Z)
  have ω:k< t.ths.length:=by simp only [OW]at hlt3;omega
  have hkU:k< u.ths.length:=by omega
  have ek2:(List.range (k+1)).flatMap (E2 u i c d V)=(List.range k).flatMap (E2 u i c d V)++E2 u i c d V k:=by rw [RH,P2];simp
  refine hv5.get x115 (i:=k) (x:=t.ths[k].text) (by omega) (by simp [ω]) (Q:=λn=>_) ⟨λheq=>?_,λhne=>?_⟩
  ·have heq:i=k:=by simp only [OW]at heq;omega
   refine⟨by omega,⟨k+1,by omega,by omega,?_⟩,hm3 k ω⟩;rw [ek2,show E2 u i c d V k=[] by unfold E2;rw [Pj heq],Po];exact Z
  have hik:i≠k:=by simp only [OV]at hne;omega
  have hmk:=OP ω;have eE2:E2 u i c d V k=(offs u.ths[k]).flatMap (E3 u i k c d V):=by unfold E2;rw [O1 hik,cP hkU]
  have two2:=jN (su.two.get ω hkU);have hlo2:=two2.len;refine oG _ (OQ _) (okth _ hmk) (su.smpP _ hmk) (by have :=(hts _ hmk).1;omega) λv121 w122 xs2 x122 o121 m121=>?_
  have h122:=(Z.ex x122).start;have n121:∀g,v121.ownBlock=some g->φ.ownBlock≠some g:=λg hg e=>by
   have h1:=(o121.block g hg).1;have h2:=Z.lt g e;omega
  obtain⟨a123,cap123,ς⟩:=o121.slice;have hacc3:(A2++(List.range k).flatMap (E2 u i c d V)).length<=13300000:=by
   have :=hE2s i c d V k (by omega);rw [OM];omega
  have hm3k:=hm3 k ω;have hnext3:∀{fn:Bool} {o:Value} {w':World},oK w6.heap.size w122 φ fn o w' ((A2++(List.range k).flatMap (E2 u i c d V))++E2 u i c d V k)->a7 ((k:Int)+1)/\(∃k':Nat,(k:Int)+1=k'/\k'<=t.ths.length/\oK w6.heap.size η ζ fn o w' (A2++(List.range k').flatMap (E2 u i c d V)))/\((t.ths.length:Int) - ((k:Int)+1)).toNat< ((t.ths.length:Int) - k).toNat:=λ{fn o w'} h=>by
   refine⟨by omega,⟨k+1,by omega,by omega,(Z.ex x122).back ?_⟩,hm3k⟩;rw [ek2,<-Pv];exact h
  generalize hA3:A2++(List.range k).flatMap (E2 u i c d V)=A3 at*;refine⟨a123,_,cap123,ς,λfine out x w'=>∃l:Nat,x=l/\l<=(offs t.ths[k]).length/\oK w6.heap.size w122 φ fine out w' (A3++((offs u.ths[k]).take l).flatMap (E3 u i k c d V)),λ _ _ x _=>((offs t.ths[k]).length - x).toNat,⟨0,rfl,Px _,by simpa using h122⟩,λfine5 out5 x w131 hI=>?_⟩;obtain⟨l,rfl,hl,θ⟩:=hI;refine⟨λhlt4=>?_,λhge4=>?_⟩;rotate_left
  ·have hll:l=(offs u.ths[k]).length:=by simp only [OV]at hge4;omega
   rw [hll,Pa,<-eE2]at θ;exact hnext3 θ
  have hlP:l< (offs t.ths[k]).length:=by simp only [OW]at hlt4;omega
  have hlU:l< (offs u.ths[k]).length:=by omega
  have hm4:(((offs t.ths[k]).length:Int) - ((l:Int)+1)).toNat< (((offs t.ths[k]).length:Int) - l).toNat:=by omega
  have har:=two2.get hlP hlU;have hrP:=OP hlP;have hrU:=OP hlU;obtain⟨g2,capg2,cs2,hvg2,G,J⟩:=tu (o121.gr θ.gr n121) m121 hlP;obtain⟨kk2,ce,cx,cs4,cq2,rfl⟩:=G.any;have etk2:((offs u.ths[k]).take (l+1)).flatMap (E3 u i k c d V)=((offs u.ths[k]).take l).flatMap (E3 u i k c d V)++E3 u i k c d V (offs u.ths[k])[l]:=by rw [OK hlU,P2];simp
  have hol2:=hol k hkU;have hacc4:(A3++((offs u.ths[k]).take l).flatMap (E3 u i k c d V)).length<=13400000:=by
   have :=hE3 i k c d V ((offs u.ths[k]).take l) (by rw [Pt];omega);rw [OM];omega
  rw [ς]at hvg2;refine⟨g2,0,_,capg2,ς.trans hvg2,by omega,by omega,kk2,ce,cx,cs4,cq2,⟨J 0 _ rfl _ (by omega) (by omega),J 1 _ rfl _ (by omega) (by omega),J 2 _ rfl _ (by omega) (by omega),J 3 _ rfl _ (by omega) (by omega),J 4 _ rfl _ (by omega) (by omega),trivial⟩,λb141 w142 hb141 hw142=>?_⟩;obtain⟨box3,box4⟩:=LI (cs:=fS kk2 ce cx cs4 cq2) rfl rfl hb141 hw142;refine⟨⟨rfl,tq,box3⟩,λι hw143=>?_⟩;obtain⟨x143,l143,ε⟩:=box4 ι hw143;have χ:=(θ.ex x143).start;have g143:Gr η ζ ι out5:=((Z.gr.ex x122).trans θ.gr).ex x143;have x6143:Ex w6 ι:=(g105.trans g143).nil rfl;have υ:∀j,j< 5->ι.cell? ⟨δ,j,none⟩=(fS 33 ca cb p.text cq)[j]?:=λj hj=>by rw [g143.cell (a:=⟨δ,j,none⟩) (by show δ< _;omega) hnb3];exact c105 j hj
  have hb143:δ< ι.heap.size:=by have :=g143.size;omega
  generalize hA4:A3++((offs u.ths[k]).take l).flatMap (E3 u i k c d V)=A4 at*;have α:∀{fn:Bool} {o:Value} {w':World},oK w6.heap.size ι out5 fn o w' (A4++E3 u i k c d V (offs u.ths[k])[l])->a7 ((l:Int)+1)/\(∃l':Nat,(l:Int)+1=l'/\l'<=(offs t.ths[k]).length/\oK w6.heap.size w122 φ fn o w' (A3++((offs u.ths[k]).take l').flatMap (E3 u i k c d V)))/\(((offs t.ths[k]).length:Int) - ((l:Int)+1)).toNat< (((offs t.ths[k]).length:Int) - l).toNat:=λ{fn o w'} h=>by
   refine⟨by omega,⟨l+1,by omega,by omega,(θ.ex x143).back ?_⟩,hm4⟩;rw [etk2,<-Pv,hA4];exact h
  have frc:∃q∈u.ths,q.Fr c:=⟨_,OP κ,(aZ (su.smp _ (OP κ)) _ hmU).1.fr c (.inl rfl)⟩
  generalize (offs t.ths[k])[l]=rP at*;generalize (offs u.ths[k])[l]=rU at*;cases rP<;>cases rU<;>try exact har.elim
  ·obtain⟨_,_,_,G⟩:=G;unfold fS at G;simp only [PC,Qb,QM,Rp,QS]at G;have e1:kk2=126:=Pe.1 (by omega);subst e1;exact⟨126,ε 0 (by omega),(λh=>by cases h),λ _=>α (by simpa [E3]using χ)⟩
  ·obtain⟨_,G⟩:=G;unfold fS at G;simp only [PC,Qb,QM,Rp,QS]at G;have e1:kk2=33:=Pe.1 (by omega);subst e1;exact⟨33,ε 0 (by omega),(λh=>by cases h),λ _=>α (by simpa [E3]using χ)⟩
  ·rename_i e x q s e' x' q' s';unfold wi fS at G;simp only [PC,Qb,QM,Value.bool.injEq,Rp,QS]at G;have e1:kk2=63:=Pe.1 (by omega);have e2:cs4=q.text:=eH G.2.2.2.1;have e3:ce=e:=Pe.1 (by omega);have e4:cx=x:=Pe.1 (by omega);have e5:cq2=s:=G.2.2.2.2;subst e1 e2 e3 e4 e5;have fre:∃q∈u.ths,q.Fr e':=⟨_,OP hkU,(aZ (su.smp _ (OP hkU)) _ hrU).1.fr e' (.inl rfl)⟩
   have hae1:ca=asg u.frL t.frL ρ0 c:=Pe.1 hae.1;have har1:ce=asg u.frL t.frL ρ0 e':=Pe.1 har.1;refine⟨63,ε 0 (by omega),λ _=>⟨ce,ε 1 (by omega),ca,υ 1 (by omega),λhne=>α ?_,λheq=>?_⟩,(λh=>by cases h)⟩
   ·have hne:ce≠ca:=by simpa using hne
    have:¬e'=c:=λh=>hne (by rw [har1,hae1,h])
    rw [show E3 u i k c d V (.rcv e' x' q' s')=[] by unfold E3;simp only;rw [O1 this],Po];exact χ
   ·have heq:ce=ca:=by simpa using heq
    have hec:e'=c:=su.inj fre frc (by rw [<-har1,<-hae1,heq]);refine J6 ok su hi' κ ω hkU hik hmP hmU hae hrP hrU har (hv5.ex x6143) hb143 l143 (υ 2 (by omega)) (υ 3 (by omega)) (ε 2 (by omega)) (ε 3 (by omega)) (ε 4 (by omega)) χ (by omega) λfn v' w' h=>α ?_
    rw [show E3 u i k c d V (.rcv e' x' q' s')=[Gj u i k V (q'.map (Ff (NN u) q' x' d)) s'] by unfold E3;simp only;rw [Pj hec]];exact h
 ·
  rename_i ca' cb' p s c d V s';unfold wi fS at W;simp only [PC,Qb,QM,Rp,QS]at W;have e1:kk=63:=Pe.1 (by omega);subst e1;refine⟨λfn o w'=>oK w6.heap.size ψ μ fn o w' A2,⟨63,ξ 0 (by omega),aW (by decide) h43⟩,λfine3 ζ η H=>⟨63,?_,λ _=>ο ?_,(λh=>by cases h)⟩⟩
  ·rw [H.gr.cell (a:=⟨δ,0,none⟩) l43 hnb];exact ξ 0 (by omega)
  ·simpa [E1]using H
theorem jD {w:World}{v:Value}{l:List Tx}{x:Tx}(h:Strs w v l)(hl:l.length<=1000000000){R:Int->Sl}(hR:∀i:Int,(i< 0↔x∉l)->(0<=i->∃h:i.toNat< l.length,l[i.toNat]=x)->R i w):
  Sm 60 #[v,.string (ai x)] w (an [.i] R):=by
 refine sf v x w R ?_;dsimp only [go_sem];dsimp only [go_sem,UInt8.reduceOfNat,UInt32.reduceOfNat,Nat.reduceAdd];obtain⟨a,cap,W⟩:=h.slice;refine⟨a,_,cap,W,λi w'=>w'=w/\∃k:Nat,i=k/\k<=l.length/\x∉l.take k,λi _=>((l.length:Int) - i).toNat,⟨rfl,0,rfl,Px _,by simp⟩,λi w' Z=>?_⟩;obtain⟨rfl,k,rfl,hk,hm⟩:=Z;refine⟨λJ=>?_,λV=>?_⟩
 ·have G:=oL J;refine h.get (Ex.refl _) (i:=k) (x:=l[k]) (by omega) (by simp [G]) (Q:=λn=>_) ⟨λhe=>hR k ?_ λ _=>⟨G,by simpa using he⟩,λH=>⟨by omega,⟨rfl,k+1,by omega,G,?_⟩,by dsimp only;omega⟩⟩
  ·have he:l[k]=x:=by simpa using he
   exact⟨λh=>by omega,λh=>absurd (he▸OP G) h⟩
  ·have H:l[k]≠x:=by simpa using H
   rw [OK G,OS,OO];exact λh=>h.elim hm λe=>H e.symm
 ·have:k=l.length:=by simp only [OV]at V;omega
  rw [this,Pa]at hm;exact hR (-1) ⟨λ _=>hm,λ _=>by omega⟩ λh=>by omega
theorem wq {B b k:Nat}{w w1 w2:World}{v v':Value}(J:b< w.heap.size)(hb:B<=b)(hB:B<=w.heap.size)(Z:∀g,v.ownBlock=some g->B<=g/\g< w.heap.size/\g≠b)(hc:∃u,w.cell? ⟨b,k,none⟩=some u)(hf:∀j,w.frozen? ⟨b,j,none⟩=false)(x:Ex w w1)(hg:w1.grownBy w2 v.ownBlock):
  ((∃u,w2.cell? ⟨b,k,none⟩=some u)/\w2.frozen? ⟨b,k,none⟩=false)/\∀w',w'=w2.setCell ⟨b,k,none⟩ v'->w'.cell? ⟨b,k,none⟩=some v'/\(∀j,j≠k->w'.cell? ⟨b,j,none⟩=w.cell? ⟨b,j,none⟩)/\(∀j,w'.frozen? ⟨b,j,none⟩=false)/\Kp w w' (λg=>v.ownBlock=some g\/g=b)/\Below B w w'/\Kp w2 w' (λg=>g=b):=by
 have G:Kp w1 w2 λg=>v.ownBlock=some g:=Kp.aJ hg λ _ h=>h
 have s1:=x.size;have V:=G.block b (by omega) λe=>(Z b e).2.2 rfl
 obtain⟨u,hu⟩:=hc;have c2:∀j,w2.cell? ⟨b,j,none⟩=w.cell? ⟨b,j,none⟩:=λj=>by rw [OG (w:=w1) V,x.cell (a:=⟨b,j,none⟩) J]
 have f2:∀j,w2.frozen? ⟨b,j,none⟩=false:=λj=>by rw [Pd (w:=w1) V,PV x J];exact hf j
 have h2:w2.cell? ⟨b,k,none⟩=some u:=(c2 k).trans hu;refine⟨⟨⟨u,h2⟩,f2 k⟩,λw' H=>?_⟩;have kr:Kp w2 w' (λg=>g=b):=H▸Kr.set w2 k v';have sk:=G.size;refine⟨by rw [H];exact OY _ _ _ h2,λj hj=>?_,λj=>by rw [H,O0];exact f2 j,?_,?_,kr⟩
 ·rw [H,OL _ _ _ _ (λe=>by injection e with e1 V;exact hj V.symm)];exact c2 j
 ·exact Kp.trans (Kp.trans (Kp.af x _) (Kp.mono (λ _ h=> .inl h) G) λ _ _ h=>h) kr λ _ _ h=> .inr h
 ·exact Qr (Qr (RC x hB) (Kp.below G (by omega) λg W e=>by have :=(Z g e).1;omega)) (Kp.below kr (by omega) λg W e=>by omega)
abbrev tX:Nat:=25
abbrev tI:Nat:=3
structure rm (B b:Nat)(w:World)(va vn vx:Value)(all:List Tx)(ns:List Nat)(vs:List Value)(L:Nat->Prop):Prop where
 lb:B<=b
 lt:b< w.heap.size
 f:∀j,w.frozen? ⟨b,j,none⟩=false
 c0:w.cell? ⟨b,0,none⟩=some va
 c1:w.cell? ⟨b,1,none⟩=some vn
 c2:w.cell? ⟨b,2,none⟩=some vx
 a:Own B w va all
 n:aF tI B w vn (ns.map iv)
 x:aF tX B w vx vs
 da:∀g,va.ownBlock=some g->g≠b/\vn.ownBlock≠some g/\vx.ownBlock≠some g/\¬L g
 dn:∀g,vn.ownBlock=some g->g≠b/\vx.ownBlock≠some g/\¬L g
 dx:∀g,vx.ownBlock=some g->g≠b/\¬L g
 ml:∀g,L g->B<=g/\g< w.heap.size/\g≠b
 ls:∀j (h:j< vs.length),∃h':j< all.length,∃l,sO all[j]=some l/\Strs w vs[j] l/\∀g,vs[j].ownBlock=some g->L g
section
variable {B b:Nat} {w w':World} {va vn vx:Value} {all:List Tx} {ns:List Nat} {vs:List Value} {L:Nat->Prop}
theorem aF.ex {e:Nat}{v:Value}{l:List Value}(h:aF e B w v l)(x:Ex w w'):aF e B w' v l:=h.kp (Kp.af x λ _=>False) λ _ _ h=>h
theorem rm.ex (h:rm B b w va vn vx all ns vs L)(x:Ex w w'):rm B b w' va vn vx all ns vs L:=by
 have s:=x.size;have c:∀j,w'.cell? ⟨b,j,none⟩=w.cell? ⟨b,j,none⟩:=λj=>x.cell (a:=⟨b,j,none⟩) h.lt
 refine⟨h.lb,by have :=h.lt;omega,λj=>by rw [PV x h.lt];exact h.f j,by rw [c];exact h.c0,by rw [c];exact h.c1,by rw [c];exact h.c2,h.a.ex x,h.n.ex x,h.x.ex x,h.da,h.dn,h.dx,λg G=>⟨(h.ml g G).1,by have :=(h.ml g G).2.1;omega,(h.ml g G).2.2⟩,λj hj=>?_⟩;obtain⟨H,l,h2,J,h4⟩:=h.ls j hj;exact⟨H,l,h2,J.ex x,h4⟩
theorem Strs.zK {v:Value}{l:List Tx}{S:Nat->Prop}(h:Strs w v l)(k:Kp w w' S)(G:∀g,v.ownBlock=some g->¬S g):Strs w' v l:=h.kp k λb _ _ _ e=>G b (tT e)
theorem rm.KO (h:rm B b w va vn vx all ns vs L)(hB:B<=w.heap.size){s:Tx}{w1 w2:World}(x:Ex w w1){v':Value}(ho:Own B w2 v' (all++[s]))(G:w1.grownBy w2 va.ownBlock)(hn:∀g,v'.ownBlock=some g->va.ownBlock=some g\/w1.heap.size<=g):
  ((∃u,w2.cell? ⟨b,0,none⟩=some u)/\w2.frozen? ⟨b,0,none⟩=false)/\∀w',w'=w2.setCell ⟨b,0,none⟩ v'->rm B b w' v' vn vx (all++[s]) ns vs L/\Below B w w':=by
 obtain⟨V,h2⟩:=wq (v':=v') h.lt h.lb hB (λg G=>⟨(h.a.block g G).1,(h.a.block g G).2,(h.da g G).1⟩) ⟨_,h.c0⟩ h.f x G;refine⟨V,λw' W=>?_⟩;obtain⟨k1,Z,k3,J,k5,k6⟩:=h2 w' W;have sx:=x.size;have sk:=J.size;have α:=h.lt;have dv:∀g,v'.ownBlock=some g->g≠b/\vn.ownBlock≠some g/\vx.ownBlock≠some g/\¬L g:=λg G=>(hn g G).elim (h.da g) λe=>⟨by omega,λH=>by have :=(h.n.block g H).2;omega,λH=>by have :=(h.x.block g H).2;omega,λH=>by have :=(h.ml g H).2.1;omega⟩
 refine⟨⟨h.lb,by omega,k3,k1,(Z 1 (by omega)).trans h.c1,(Z 2 (by omega)).trans h.c2,ho.kp k6 λg G=>(dv g G).1,h.n.kp J λg G e=>e.elim (λe=>(h.da g e).2.1 G) (h.dn g G).1,h.x.kp J λg G e=>e.elim (λe=>(h.da g e).2.2.1 G) (h.dx g G).1,dv,h.dn,h.dx,λg G=>⟨(h.ml g G).1,by have :=(h.ml g G).2.1;omega,(h.ml g G).2.2⟩,λj hj=>?_⟩,k5⟩;obtain⟨V,l,h2,h3,h4⟩:=h.ls j hj;exact⟨by rw [OM];omega,l,by rw [P8 V];exact h2,h3.zK J λg G e=>e.elim (λe=>(h.da g e).2.2.2 (h4 g G)) (h.ml g (h4 g G)).2.2,h4⟩
theorem rm.Ld (h:rm B b w va vn vx all ns vs L)(hB:B<=w.heap.size){m:Nat}{w1 w2:World}(x:Ex w w1){v':Value}(ho:aF tI B w2 v' ((ns++[m]).map iv))(G:w1.grownBy w2 vn.ownBlock)(Z:∀g,v'.ownBlock=some g->vn.ownBlock=some g\/w1.heap.size<=g):
  ((∃u,w2.cell? ⟨b,1,none⟩=some u)/\w2.frozen? ⟨b,1,none⟩=false)/\∀w',w'=w2.setCell ⟨b,1,none⟩ v'->rm B b w' va v' vx all (ns++[m]) vs L/\Below B w w':=by
 obtain⟨J,h2⟩:=wq (v':=v') h.lt h.lb hB (λg G=>⟨(h.n.block g G).1,(h.n.block g G).2,(h.dn g G).1⟩) ⟨_,h.c1⟩ h.f x G;refine⟨J,λw' V=>?_⟩;obtain⟨k1,k2,k3,H,k5,k6⟩:=h2 w' V;have sx:=x.size;have sk:=H.size;have α:=h.lt;have dv:∀g,v'.ownBlock=some g->g≠b/\vx.ownBlock≠some g/\¬L g:=λg G=>(Z g G).elim (h.dn g) λe=>⟨by omega,λW=>by have :=(h.x.block g W).2;omega,λW=>by have :=(h.ml g W).2.1;omega⟩
 refine⟨⟨h.lb,by omega,k3,(k2 0 (by omega)).trans h.c0,k1,(k2 2 (by omega)).trans h.c2,h.a.kp H λg G e=>e.elim (λe=>(h.da g G).2.1 e) (h.da g G).1,ho.kp k6 λg G=>(dv g G).1,h.x.kp H λg G e=>e.elim (λe=>(h.dn g e).2.1 G) (h.dx g G).1,λg G=>⟨(h.da g G).1,λe=>(Z g e).elim (h.da g G).2.1 λe=>by have :=(h.a.block g G).2;omega,(h.da g G).2.2⟩,dv,h.dx,λg G=>⟨(h.ml g G).1,by have :=(h.ml g G).2.1;omega,(h.ml g G).2.2⟩,λj hj=>?_⟩,k5⟩;obtain⟨J,l,h2,h3,h4⟩:=h.ls j hj;exact⟨J,l,h2,h3.zK H λg G e=>e.elim (λe=>(h.dn g e).2.2 (h4 g G)) (h.ml g (h4 g G)).2.2,h4⟩
theorem rm.Nl (h:rm B b w va vn vx all ns vs L)(hB:B<=w.heap.size){w0 w1 w2:World}(x0:Ex w w0)(x:Ex w0 w1){v v':Value}{l:List Tx}(hl:vs.length< all.length)(Z:sO all[vs.length]=some l)(hs:Strs w0 v l)(J:∀g,v.ownBlock=some g->w.heap.size<=g/\g< w0.heap.size)(ho:aF tX B w2 v' (vs++[v]))(G:w1.grownBy w2 vx.ownBlock)(hn:∀g,v'.ownBlock=some g->vx.ownBlock=some g\/w1.heap.size<=g):
  ((∃u,w2.cell? ⟨b,2,none⟩=some u)/\w2.frozen? ⟨b,2,none⟩=false)/\∀w',w'=w2.setCell ⟨b,2,none⟩ v'->rm B b w' va vn v' all ns (vs++[v]) (λg=>L g\/v.ownBlock=some g)/\Below B w w':=by
 obtain⟨h1,h2⟩:=wq (v':=v') h.lt h.lb hB (λg G=>⟨(h.x.block g G).1,(h.x.block g G).2,(h.dx g G).1⟩) ⟨_,h.c2⟩ h.f (Ex.trans x0 x) G;refine⟨h1,λw' α=>?_⟩;obtain⟨k1,k2,k3,W,k5,k6⟩:=h2 w' α;have γ:=x0.size;have sx:=x.size;have sk:=W.size;have s2:=G.size;have s6:=k6.size;have δ:=h.lt;have dv:∀g,v'.ownBlock=some g->g≠b/\¬(L g\/v.ownBlock=some g):=λg G=>(hn g G).elim (λe=>⟨(h.dx g e).1,λH=>H.elim (h.dx g e).2 λH=>by have :=(J g H).1;have :=(h.x.block g e).2;omega⟩) λe=>⟨by omega,λH=>H.elim (λH=>by have :=(h.ml g H).2.1;omega) λH=>by have :=(J g H).2;omega⟩
 refine⟨⟨h.lb,by omega,k3,(k2 0 (by omega)).trans h.c0,(k2 1 (by omega)).trans h.c1,k1,h.a.kp W λg G e=>e.elim (λe=>(h.da g G).2.2.1 e) (h.da g G).1,h.n.kp W λg G e=>e.elim (λe=>(h.dn g G).2.1 e) (h.dn g G).1,ho.kp k6 λg G=>(dv g G).1,λg G=>⟨(h.da g G).1,(h.da g G).2.1,λe=>(hn g e).elim (h.da g G).2.2.1 λe=>by have :=(h.a.block g G).2;omega,λe=>e.elim (h.da g G).2.2.2 λe=>by have :=(J g e).1;have :=(h.a.block g G).2;omega⟩,
  λg G=>⟨(h.dn g G).1,λe=>(hn g e).elim (h.dn g G).2.1 λe=>by have :=(h.n.block g G).2;omega,λe=>e.elim (h.dn g G).2.2 λe=>by have :=(J g e).1;have :=(h.n.block g G).2;omega⟩,dv,λg G=>G.elim (λG=>⟨(h.ml g G).1,by have :=(h.ml g G).2.1;omega,(h.ml g G).2.2⟩) λG=>by have :=J g G;exact⟨by omega,by omega,by omega⟩,λj hj=>?_⟩,k5⟩
 rw [OM,P5]at hj;by_cases V:j< vs.length
 ·obtain⟨h1,l',h2,h3,h4⟩:=h.ls j V;rw [P8 V];exact⟨h1,l',h2,h3.zK W λg G e=>e.elim (λe=>(h.dx g e).2 (h4 g G)) (h.ml g (h4 g G)).2.2,λg G=> .inl (h4 g G)⟩
 ·have:j=vs.length:=by omega
  subst this;rw [QF (OQ _)];simp only [Si,QT];have β:Kp w0 w' λg=>vx.ownBlock=some g\/g=b:=Kp.trans (Kp.trans (Kp.af x _) (Kp.mono (λ _ h=> .inl h) (Kp.aJ G λ _ h=>h)) λ _ _ h=>h) k6 λ _ _ h=> .inr h
  refine⟨hl,l,Z,hs.zK β λg G e=>?_,λg G=> .inr G⟩;have h3:=(J g G).1;exact e.elim (λe=>by have :=(h.x.block g e).2;omega) λe=>by omega
end
theorem AT {w w':World}(x:Ex w w'):w.grownBy w' none:=⟨x.os,x.tape,x.output,x.size,λg G _=>x.block g G⟩
def Nh (w:World)(b2 b4:Nat)(q:Bool)(R:Value->Bool->Sl):Prop:=
 ∃v162:Value,∃H:Value,∃v164:Value,(World.cell? w ⟨b4,0,none⟩=some v162/\World.cell? w ⟨b4,1,none⟩=some H/\World.cell? w ⟨b4,2,none⟩=some v164/\True)/\(List.length [v162,H,v164]=3/\List.all [v162,H,v164] ay=true/\∀j,j< 3->(∃u,World.cell? w ⟨b2,0+j,none⟩=some u)/\World.frozen? w ⟨b2,0+j,none⟩=false)/\
  ∀G:World,G=World.setCells w b2 0 [v162,H,v164]->∃J:Value,∃V:Value,∃W:Value,(World.cell? G ⟨b2,0,none⟩=some J/\World.cell? G ⟨b2,1,none⟩=some V/\World.cell? G ⟨b2,2,none⟩=some W/\True)/\R ((Value.agg #[J,V,W])) q G
section
variable {B b:Nat} {w w':World} {va vn vx:Value} {all:List Tx} {ns:List Nat} {vs:List Value} {L:Nat->Prop}
theorem rm.kp (h:rm B b w va vn vx all ns vs L)(k:Kp w w' λg=>g< B):rm B b w' va vn vx all ns vs L:=by
 have s:=k.size;have hb:=h.lb;have e:=k.block b h.lt (by omega);refine⟨h.lb,by have :=h.lt;omega,λj=>by rw [Pd (w:=w) e];exact h.f j,by rw [OG (w:=w) e];exact h.c0,by rw [OG (w:=w) e];exact h.c1,by rw [OG (w:=w) e];exact h.c2,h.a.kp k λg G e=>by have :=(h.a.block g G).1;omega,h.n.kp k λg G e=>by have :=(h.n.block g G).1;omega,h.x.kp k λg G e=>by have :=(h.x.block g G).1;omega,h.da,h.dn,h.dx,λg G=>⟨(h.ml g G).1,by have :=(h.ml g G).2.1;omega,(h.ml g G).2.2⟩,λj hj=>?_⟩;obtain⟨H,l,h2,J,h4⟩:=h.ls j hj;exact⟨H,l,h2,J.zK k λg G e=>by have :=(h.ml g (h4 g G)).1;omega,h4⟩
theorem rm.Cx (h:rm B b w va vn vx all ns vs L):ay va=true/\ay vn=true/\ay vx=true:=⟨h.a.df,h.n.df,h.x.df⟩
theorem G' (h:rm B b w va vn vx all ns vs L){b2:Nat}(J:b2< B)(hc:∀j,j< 3->(∃u,w.cell? ⟨b2,j,none⟩=some u)/\w.frozen? ⟨b2,j,none⟩=false){q:Bool}{R:Value->Bool->Sl}(hR:∀w',Kp w w' (λg=>g=b2)->rm B b w' va vn vx all ns vs L->R (.agg #[va,vn,vx]) q w'):Nh w b2 b q R:=by
 obtain⟨V,W,Z⟩:=h.Cx;refine⟨va,vn,vx,⟨h.c0,h.c1,h.c2,trivial⟩,⟨rfl,by simp [V,W,Z],λj hj=>by rw [Ph];exact hc j hj⟩,λw1 H=>?_⟩;obtain⟨k,_,_,G⟩:=aK (b:=b2) [va,vn,vx] w 0;rw [<-H]at k G;have G:=λj (hj:j< 3)=>G j (λi hi=>by rw [Ph];exact(hc i hi).1) hj
 simp only [Ph]at G;exact⟨va,vn,vx,⟨G 0 (by omega),G 1 (by omega),G 2 (by omega),trivial⟩,hR w1 k (h.kp (Kp.mono (λg e=>by omega) k))⟩
end
def N0 (w:World)(v src:Value)(K:Value->Sl):Prop:=
 ∃(base n m:Nat) (xs news:List Value),World.ownsRow w base tI 1 v n xs/\base<=Array.size (World.heap w)/\dW w src m 1 news/\(n+m<=maxLen/\(n+m)* 8<=140737488355328)/\
  ∀(v':Value) (w':World),World.ownsRow w' base tI 1 v' (n+m) (xs++news)->World.grownBy w w' (Value.ownBlock v)->(∀b:Nat,Value.ownBlock v'=some b->Value.ownBlock v=some b\/Array.size (World.heap w)<=b)->K v' w'
theorem K6 {e B by_:Nat}{w:World}{v:Value}{l:List Value}(h:aF e B w v l)(hB:B<=w.heap.size){x:Value}{m:List Value}(H:dW w x m.length 1 m)(G:by_<=48)(J:l.length+m.length<=1099511627776){K:Value->Sl}
  (V:∀v' w',aF e B w' v' (l++m)->w.grownBy w' v.ownBlock->(∀b,v'.ownBlock=some b->v.ownBlock=some b\/w.heap.size<=b)->K v' w'):
  ∃(base n k:Nat) (xs news:List Value),World.ownsRow w base e 1 v n xs/\base<=Array.size (World.heap w)/\dW w x k 1 news/\(n+k<=maxLen/\(n+k)* by_<=140737488355328)/\
   ∀(v':Value) (w':World),World.ownsRow w' base e 1 v' (n+k) (xs++news)->World.grownBy w w' (Value.ownBlock v)->(∀b:Nat,Value.ownBlock v'=some b->Value.ownBlock v=some b\/Array.size (World.heap w)<=b)->K v' w':=by
 refine⟨B,l.length,m.length,l,m,h,hB,H,⟨by unfold maxLen;omega,?_⟩,λv' w' W Z hw=>V v' w' ?_ Z hw⟩
 ·have:(l.length+m.length)* by_<=1099511627776* 48:=RX J G;omega
 ·unfold aF;rw [OM];exact W
theorem EG {e:Nat}{w w':World}{b:Nat}{x:Value}(G:ay x=true)(hb:b=w.heap.size)(h:w'=w.alloc (.cells #[x] e)):dW w' (.slice (some ⟨b,0,none⟩) 1 1) [x].length 1 [x]:=by
 subst hb h;refine⟨rfl,by simp [G],.inr ⟨_,0,1,rfl,λj u hu=>?_⟩⟩;rw [Ph];refine aa ?_
 match j,hu with
 | 0,hu=>simpa using hu
 | j+1,hu=>simp at hu
theorem Fp {s:Tx}{w:World}{R:Value->Bool->Sl}(hR1:aV s=none->∀a b c w',ay a=true->ay b=true->ay c=true->Ex w w'->R (.agg #[a,b,c]) false w')
  (hR2:∀n0 all,bX s=some n0->aV s=some all->(∀x∈all,St x)->all.length<=60->∀B b va vn vx ns vs L w',Ex w w'->w.heap.size<=B->rm B b w' va vn vx all ns vs L->vs.length=all.length->R (.agg #[va,vn,vx]) true w'):
  Sm 54 #[.string (ai s)] w (an [.v,.b] R):=by
 refine rY s w R ?_;intro b2 w3 hb2 hw3 b4 Z hb4 hw5;have x3:Ex w w3:=hw3▸Ex.alloc w _;have x5:Ex w3 Z:=hw5▸Ex.alloc w3 _;have s3:w3.heap.size=w.heap.size+1:=by rw [hw3,size_alloc]
 have s5:Z.heap.size=w3.heap.size+1:=by rw [hw5,size_alloc]
 have c2:∀j,j< 3->(∃u,Z.cell? ⟨b2,j,none⟩=some u)/\Z.frozen? ⟨b2,j,none⟩=false:=λj hj=>by
  refine⟨?_,by rw [PV x5 (show b2< _ by omega),hw3,hb2];exact aG _ _ _ _⟩;rw [x5.cell (a:=⟨b2,j,none⟩) (show b2< _ by omega),hw3,hb2]
  match j,hj with
  | 0,_=>exact⟨_,aa rfl⟩
  | 1,_=>exact⟨_,aa rfl⟩
  | 2,_=>exact⟨_,aa rfl⟩
 have c4:∀j,j< 3->∃u,Z.cell? ⟨b4,0+j,none⟩=some u:=λj hj=>by
  rw [hw5,hb4,Ph]
  match j,hj with
  | 0,_=>exact⟨_,aa rfl⟩
  | 1,_=>exact⟨_,aa rfl⟩
  | 2,_=>exact⟨_,aa rfl⟩
 have f4:∀j,Z.frozen? ⟨b4,j,none⟩=false:=λj=>by rw [hw5,hb4];exact aG _ _ _ _
 refine⟨⟨rfl,rfl,λj hj=>⟨c4 j hj,by rw [Ph];exact f4 j⟩⟩,λw6 hw6=>?_⟩;obtain⟨k6,k6f,_,sc⟩:=aK (b:=b4) [Value.slice none 0 0,.slice none 0 0,.slice none 0 0] Z 0;rw [<-hw6]at k6 k6f sc;have sc:=λj (hj:j< 3)=>sc j c4 hj
 simp only [Ph]at sc;have s6:=k6.size;have h6:rm b4 b4 w6 (.slice none 0 0) (.slice none 0 0) (.slice none 0 0) [] [] [] λ _=>False:=
  ⟨OQ _,by omega,λj=>by rw [k6f];exact f4 j,sc 0 (by omega),sc 1 (by omega),sc 2 (by omega),Own.nil _ _,aF.nil _ _ _,aF.nil _ _ _,(λg hg=>by cases hg),(λg hg=>by cases hg),(λg hg=>by cases hg),λg hg=>hg.elim,λj hj=>by simp at hj⟩
 have b56:Below b4 Z w6:=Kp.below k6 (by omega) λg hg e=>by omega
 have x05:Ex w Z:=Ex.trans x3 x5;have cb2:∀{w':World},Below b4 Z w'->∀j,j< 3->(∃u,w'.cell? ⟨b2,j,none⟩=some u)/\w'.frozen? ⟨b2,j,none⟩=false:=λ{w'} k j hj=>by
  have e:=k.block b2 (by omega);obtain⟨⟨u,h1⟩,h2⟩:=c2 j hj;exact⟨⟨u,by rw [OG (w:=Z) e];exact h1⟩,by rw [Pd (w:=Z) e];exact h2⟩
 have toEx:∀{w' w2:World},Below b4 Z w'->Kp w' w2 (λg=>g=b2)->Ex w w2:=λ{w' w2} k k2=>by
  have :=k.size;exact Ex.below (Ex.below x05 (RC k (by omega))) (Kp.below k2 (by omega) λg hg e=>by omega)
 have bad:aV s=none->∀{w':World} {va vn vx:Value} {all:List Tx} {ns:List Nat} {vs:List Value} {L:Nat->Prop},Below b4 Z w'->rm b4 b4 w' va vn vx all ns vs L->Nh w' b2 b4 false R:=λhn {w' va vn vx all ns vs L} k h=>
  G' h (by omega) (cb2 k) λw2 k2 h2=>hR1 hn _ _ _ w2 h2.Cx.1 h2.Cx.2.1 h2.Cx.2.2 (toEx k k2)
 refine jg λw9 x9=>⟨λn0 hst=>⟨(λh=>by cases h),λ _=>?_⟩,λhst=>⟨λ _=>bad (by unfold aV;rw [hst];rfl) (Qr b56 (RC x9 (by omega))) (h6.ex x9),(λh=>by cases h)⟩⟩
 have hg:aV s=bfs 62 [n0] 0:=by unfold aV;rw [hst];rfl
 have hst0:=js hst;have s9:=x9.size;have h9:=h6.ex x9;have b9:Below b4 Z w9:=Qr b56 (RC x9 (by omega));intro b17 w18 hb17 hw18;have x18:Ex w9 w18:=hw18▸Ex.alloc w9 _;have o18:Own b4 w18 (.slice (some ⟨b17,0,none⟩) 1 1) ([]++[n0]):=Own.one (by omega) hb17 hw18;obtain⟨f18,g18⟩:=h9.KO (by omega) (Ex.refl w9) o18 (AT x18) λg hg=> .inr (by have:b17=g:=Pz hg;omega)
 refine⟨rfl,f18,λw20 hw20=>?_⟩;obtain⟨h20,b20⟩:=g18 w20 hw20;intro b21 w22 hb21 hw22;have x22:Ex w20 w22:=hw22▸Ex.alloc w20 _;have s20:=b20.size;have o22:aF tI b4 w22 (.slice (some ⟨b21,0,none⟩) 1 1) (([]++[0]).map iv):=aF.one (by omega) hb21 hw22;obtain⟨f22,g22⟩:=h20.Ld (m:=0) (by omega) (Ex.refl w20) o22 (AT x22) λg hg=> .inr (by have:b21=g:=Pz hg;omega)
 refine⟨rfl,f22,λw24 hw24=>?_⟩;obtain⟨h24,b24⟩:=g22 w24 hw24;have bb24:Below b4 Z w24:=Qr b9 (Qr b20 b24);rw [hg]at hR1 hR2 bad;refine⟨λx w'=>∃(i:Nat) (all:List Tx) (va vn vx:Value) (ns:List Nat) (vs:List Value) (L:Nat->Prop),x=i/\i<=all.length/\all.length<=60/\(∀y∈all,St y)/\bfs (62 - i) all i=bfs 62 [n0] 0/\Below b4 Z w'/\rm b4 b4 w' va vn vx all ns vs L/\ns.length=all.length/\vs.length=i/\∀n∈ns,n<=i,λx _=>(61 - x).toNat,
  ⟨0,[n0],_,_,_,[0],[],_,rfl,by simp,by simp,(λy hy=>by cases OO.1 hy;exact hst0),rfl,bb24,h24,rfl,rfl,λn hn=>by cases OO.1 hn;omega⟩,λx w28 hO=>?_⟩
 clear hw24 hw22 hw20 hw18 f22 g22 f18 g18 o22 o18 h24 h20 h9 x22 x18 bb24 b24 b20 b9 s20 s9 b56 sc k6 k6f hw6 h6 hw5 hw3;obtain⟨i,all,va,vn,vx,ns,vs,L,rfl,hi,h60,hst',χ,ε,μ,hnl,hvl,hnb⟩:=hO;obtain⟨a30,cap30,hva⟩:=μ.a.strs.slice;have s28:=ε.size;refine⟨va,μ.c0,a30,_,cap30,hva,λhlt=>?_,λhge=>?_⟩;rotate_left
 ·have ν:¬i< all.length:=by simp only [OV]at hge;omega
  have e:=(Ev h60 ν hi).symm.trans χ;exact G' μ (by omega) (cb2 ε) λw2 k2 h2=>hR2 _ _ hst e.symm hst' h60 _ _ _ _ _ _ _ _ w2 (toEx ε k2) (by omega) h2 (by omega)
 have ν:=oL hlt;refine⟨va,μ.c0,μ.a.strs.get (Ex.refl _) (PU i) (gE ν) (Q:=λn=>_) ?_⟩;obtain⟨t',B6,et⟩:=hst' _ (OP ν);have hnq:=Dh B6;rw [et]at hnq;rw [<-et];refine AK B6 (λhn w41 ς=>⟨λ _=>bad ((Au h60 ν (hnq.trans hn)).symm.trans χ).symm (Qr ε (RC ς (by omega))) (μ.ex ς),(λh=>by cases h)⟩) λl hl η w41 ς o39=>⟨(λh=>by cases h),λ _=>?_⟩
 have ζ:=hnq.trans hl;have h41:=μ.ex ς;have bw41:Below b4 Z w41:=Qr ε (RC ς (by omega));have s41:=ς.size;refine⟨vx,h41.c2,o39.df,λb50 w51 hb50 hw51=>?_⟩;have x51:Ex w41 w51:=hw51▸Ex.alloc w41 _;have s51:w51.heap.size=w41.heap.size+1:=by rw [hw51,size_alloc]
 refine K6 (by_:=24) ((h41.x).ex x51) (by omega) (EG o39.df hb50 hw51) (by omega) (by simp only [OF,OX];omega) λv57 w58 o58 g58 n58=>?_
 obtain⟨f58,q58⟩:=μ.Nl (by omega) ς x51 (by omega) (by subst hvl;exact ζ) o39.strs (λg hg=>o39.block g hg) o58 g58 n58;refine⟨o58.df,f58,λw60 hw60=>?_⟩;obtain⟨h60',b60⟩:=q58 w60 hw60;have bw60:Below b4 Z w60:=Qr ε b60;have hll:=pg ζ;obtain⟨a61,cap61,hv39⟩:=o39.strs.slice;have hlv:vs.length< (vs++[η]).length:=by simp
 have hls:∀{w':World} {va vn vx:Value} {cur:List Tx} {ns:List Nat} {L':Nat->Prop},all<+:cur->rm b4 b4 w' va vn vx cur ns (vs++[η]) L'->Strs w' η l:=λ{w' va vn vx cur ns L'} hp h=>by
  obtain⟨h1,l',h2,h3,_⟩:=h.ls vs.length hlv;have e1:cur[vs.length]=all[i]:=by subst hvl;exact(hp.getElem ν).symm
  have e2:(vs++[η])[vs.length]=η:=by rw [QF (OQ _)];simp
  rw [e1,ζ]at h2;rw [e2]at h3;cases h2;exact h3
 generalize hL':(λg=>L g\/η.ownBlock=some g)=L' at*;refine⟨a61,_,cap61,hv39,λx w'=>∃(j:Nat) (va vn vx:Value) (ns:List Nat),x=j/\j<=l.length/\Below b4 Z w'/\rm b4 b4 w' va vn vx (bc all (l.take j)) ns (vs++[η]) L'/\ns.length=(bc all (l.take j)).length/\(∀n∈ns,n<=i+1)/\∀h:i< ns.length,ns[i]<=i,λx _=>(l.length - x).toNat,⟨0,va,vn,v57,ns,rfl,Px _,bw60,h60',hnl,λn hn=>by have :=hnb n hn;omega,λh=>hnb _ (OP h)⟩,λx w67 hI=>?_⟩;obtain⟨j,va2,α,vx2,G,rfl,hj,ξ,J,θ,υ,hni67⟩:=hI;have hcl:=ic (l.take j) all;rw [Pt]at hcl;have hpre:all<+:bc all (l.take j):=pz;have hple:=hpre.length_le;have s67:=ξ.size;refine⟨λhlt2=>?_,λhge2=>?_⟩;rotate_left
 ·have hjl:=oE hge2 (by omega);subst hjl;rw [Pa]at J θ hpre hple;obtain⟨a78,cap78,hv78⟩:=J.a.strs.slice;refine⟨va2,J.c0,a78,_,cap78,hv78,λV=>?_,λV=>?_⟩
  ·have V:60< (bc all l).length:=by simp only [OW]at V;omega
   exact bad ((EV h60 ν ζ V).symm.trans χ).symm ξ J
  ·have V:¬60< (bc all l).length:=by simp only [OV]at V;omega
   refine⟨by omega,⟨i+1,bc all l,va2,α,vx2,G,vs++[η],L',by omega,by omega,by omega,λs hs=>?_,(zP h60 ν ζ V).symm.trans χ,ξ,J,θ,by simp [hvl],υ⟩,by show(61 - ((i:Int)+1)).toNat< (61 - (i:Int)).toNat;omega⟩;exact(cY.1 hs).elim (hst' s) (Hv w ζ s)
 have hjl:=oL hlt2;have hmeas:=@tN l.length j (by omega);refine(hls hpre J).get (Ex.refl _) (PU j) (gE hjl) (Q:=λn=>_) ⟨va2,J.c0,jD J.a.strs (by omega) λn74 hn74 _=>⟨λhq=>?_,λhq=>?_⟩⟩;rotate_left
 ·have hq:l[j]∈bc all (l.take j):=by
   simp only [OV]at hq;exact PJ λh=>hq (hn74.2 h)
  have e:bc all (l.take (j+1))=bc all (l.take j):=by rw [ft hjl];unfold iu;rw [Pj hq]
  exact⟨by omega,⟨j+1,va2,α,vx2,G,by omega,by omega,ξ,by rw [e];exact J,by rw [e];exact θ,υ,hni67⟩,hmeas⟩
 have hq:l[j]∉bc all (l.take j):=by
  simp only [OW]at hq;exact hn74.1 hq
 have e:bc all (l.take (j+1))=bc all (l.take j)++[l[j]]:=by rw [ft hjl];unfold iu;rw [O1 hq]
 refine⟨va2,J.c0,λb77 w78 hb77 hw78=>?_⟩;have x78:Ex w67 w78:=hw78▸Ex.alloc w67 _;have s78:=x78.size;refine Own.push (J.a.ex x78) (by omega) (Strs.one hb77 hw78) (by simp only [OF,OX];omega) λv84 w85 _ o85 g85 n85=>?_
 obtain⟨f85,q85⟩:=J.KO (by omega) x78 o85 g85 n85;refine⟨o85.df,f85,λw87 hw87=>⟨λ _=>True,λβ hw89=>⟨trivial,?_⟩⟩⟩;obtain⟨h87,b87⟩:=q85 w87 hw87;have x89:Ex w87 β:=hw89▸Ex.drew w87;have γ:=h87.ex x89;have s87:=b87.size;have s89:=x89.size;have bw89:Below b4 Z β:=Qr ξ (Qr b87 (RC x89 (by omega)));have hin:i< G.length:=by omega
 have hni:=hni67 hin;have hrd:∃ω o93 ι,α= .slice (some ⟨ω,o93,none⟩) G.length ι/\β.cell? ⟨ω,o93+i,none⟩=some (iv G[i]):=by
  rcases γ.n.E4 (D:=λ _=>True) λ _ _=>trivial with⟨_,h0⟩ | ⟨b',off,cap',e1,_,_,hc⟩
  ·rw [Ru]at h0;rw [h0]at hin;simp at hin
  ·rw [O8]at e1;exact⟨b',off,cap',e1,hc i _ (by simp [hin])⟩
 obtain⟨ω,o93,ι,e92,hc92⟩:=hrd;have fin:∀(κ:Nat) (δ:World),κ=β.heap.size->δ=β.alloc (.cells #[.int .i64 ((G[i]:Int)+1)] tI)->N0 δ α (.slice (some ⟨κ,0,none⟩) 1 1) λv104 ψ=>True/\ay v104=true/\((∃u106:Value,World.cell? ψ ⟨b4,1,none⟩=some u106)/\World.frozen? ψ ⟨b4,1,none⟩=false)/\∀ο:World,ο=World.setCell ψ ⟨b4,1,none⟩ v104->True/\a7 ((j:Int)+1)/\(∃(j':Nat) (va vn vx:Value) (ns:List Nat),(j:Int)+1=j'/\j'<=l.length/\Below b4 Z ο/\rm b4 b4 ο va vn vx (bc all (l.take j')) ns (vs++[η]) L'/\ns.length=(bc all (l.take j')).length/\(∀n∈ns,n<=i+1)/\∀h:i< ns.length,ns[i]<=i)/\((l.length:Int) - ((j:Int)+1)).toNat< ((l.length:Int) - j).toNat:=λκ δ W H=>by
  have x98:Ex β δ:=H▸Ex.alloc β _;have s98:=x98.size;have ei:Value.int .i64 ((G[i]:Int)+1)=iv (G[i]+1):=rfl;refine K6 (by_:=8) (γ.n.ex x98) (by omega) (EG rfl W H) (by omega) (by simp only [O8,OF,OX];omega) λv104 ψ o105 g105 n105=>?_
  rw [ei,show G.map iv++[iv (G[i]+1)]=(G++[G[i]+1]).map iv by simp]at o105;obtain⟨f105,q105⟩:=γ.Ld (by omega) x98 o105 g105 n105;refine⟨trivial,o105.df,f105,λο hw107=>?_⟩;obtain⟨h107,b107⟩:=q105 ο hw107;refine⟨trivial,by omega,⟨j+1,_,_,_,_,by omega,by omega,Qr bw89 b107,by rw [e];exact h107,by rw [e];simp [θ],λn hn=>?_,λh=>?_⟩,hmeas⟩
  ·rcases OS.1 hn with hn | hn
   ·exact υ n hn
   ·cases OO.1 hn;omega
  ·rw [P8 hin];exact hni
 have hInR:a7 ((G[i]:Int)+1):=by omega
 have φ:β.cell? ⟨ω,o93+Int.toNat (i:Int)* 1,none⟩=some (.int .i64 (G[i]:Int)):=by rw [OU,Pn];exact hc92
 refine⟨⟨α,γ.c1,trivial,α,γ.c1,trivial,ω,o93,_,ι,e92,by omega,by omega,_,φ,trivial,hInR,λκ δ W H=>⟨trivial,fin κ δ W H⟩⟩,α,γ.c1,trivial,ω,o93,_,ι,e92,by omega,by omega,⟨α,γ.c1,trivial,_,φ,trivial,hInR,λκ δ W H=>⟨trivial,fin κ δ W H⟩⟩,_,φ,trivial,hInR,⟨α,γ.c1,trivial,λκ δ W H=>⟨trivial,fin κ δ W H⟩⟩,λb139 w140 hb139 hw140=>⟨trivial,α,?_,trivial,fin b139 w140 hb139 hw140⟩⟩;rw [(show Ex β w140 from hw140▸Ex.alloc β _).cell (a:=⟨b4,1,none⟩) γ.lt];exact γ.c1
theorem HF {J:Off UInt8}{G a b:UInt8}{s:Tx}{q:Bool}{k:UInt8}(W:k≠126)(h:wi J (fS G a b s q)):∀c,J.over k=some c↔G=k/\c=a:=by
 intro c;cases J with
 | tau p=>
  obtain⟨_,_,_,h⟩:=h;unfold fS at h;simp only [PC,Qb,Rp,QS]at h;have H:G=126:=Pe.1 (by omega);exact⟨(λh=>by cases h),λh=>absurd (h.1.symm.trans H) W⟩
 | snd c d p=>
  obtain⟨_,h⟩:=h;unfold fS at h;simp only [PC,Qb,Rp,QS]at h;have H:G=33:=Pe.1 (by omega);have V:a=c:=Pe.1 (by omega);rw [BU,H,V]
 | rcv c d p Z=>
  unfold wi fS at h;simp only [PC,Qb,Rp,QS]at h;have H:G=63:=Pe.1 (by omega);have V:a=c:=Pe.1 (by omega);rw [Av,H,V]
def Gs (k:UInt8)(t:P)(l:List (Off UInt8))(c:UInt8):Prop:=∃o∈l,o.over k=some c/\c∉t.frL
theorem HH {k:UInt8}{t:P}{l m:List (Off UInt8)}{c:UInt8}:Gs k t (l++m) c↔Gs k t l c\/Gs k t m c:=by
 unfold Gs;constructor
 ·rintro⟨o,G,h⟩
  exact(OS.1 G).imp (λh'=>⟨o,h',h⟩) λh'=>⟨o,h',h⟩
 ·rintro(⟨o,G,h⟩ | ⟨o,G,h⟩)
  ·exact⟨o,Pm _ G,h⟩
  ·exact⟨o,Pf _ G,h⟩
theorem zY {s:Tx}{k:UInt8}(hk:k≠126){w:World}{R:aB->Bool->Sl}(hR:∀w',Ex w w'->(bX s=none->R [] false w')/\∀n,bX s=some n->R (lR k n) true w'):
  Sm 96 #[.string (ai s),.int .u8 k.toNat] w (an [.s,.b] R):=by
 refine sX s k w R ?_;dsimp only [go_sem];dsimp only [go_sem,UInt8.reduceOfNat,UInt32.reduceOfNat,Nat.reduceAdd];refine jg λw5 x5=>⟨λn Z=>⟨(λh=>by cases h),λ _=>?_⟩,λZ=>⟨λ _=>(hR w5 x5).1 Z,(λh=>by cases h)⟩⟩
 obtain⟨t,ok,rfl⟩:=js Z;have hR:∀w',Ex w w'->R (Fy k t) true w':=λw' x=>by have :=(hR w' x).2 _ Z;rwa [y7 ok]at this
 have su:=ok.su;obtain⟨hn,ε⟩:=yI ok;have ν:Ok t:=HG ok.al ok.good;have ξ:∀q∈t.ths,Ok q:=λq hq=>⟨(su.al q hq).wf,by rw [aX];have :=(ε q hq).2;omega⟩
 have hfl:t.frL.length<=1099511627776:=by have :=DM t;have :=ok.len;omega
 refine qR ν (q9 ν ok.nr λv9 w10 x10 o9=>?_);have ο:=o9.strs;obtain⟨a,cap,hv⟩:=ο.slice;rw [O8]at hv;refine⟨a,_,cap,hv,λout x w'=>∃i:Nat,x=i/\i<=t.ths.length/\Ex w10 w'/\jb out/\∀c,c∈out↔Gs k t ((t.ths.take i).flatMap offs) c,λ _ x _=>(t.ths.length - x).toNat,⟨0,rfl,Px _,Ex.refl _,jb.nil,by simp [Gs]⟩,λout x w18 hI=>?_⟩;obtain⟨i,rfl,hi,ζ,ς,hm⟩:=hI;refine⟨λhlt=>?_,λhge=>?_⟩;rotate_left
 ·have hil:=oE hge (by omega);rw [hil,Pa]at hm;have:out=Fy k t:=uD ς (Jx k t) λc=>by
   rw [hm,EF su];constructor
   ·rintro⟨o,ho,h1,h2⟩
    obtain⟨q,hq,ho⟩:=PE.1 ho;exact⟨h2,q,hq,o,ho,h1⟩
   ·rintro⟨h2,q,hq,o,ho,h1⟩
    exact⟨o,PE.2 ⟨q,hq,ho⟩,h1,h2⟩
  rw [this];exact hR w18 (Ex.trans x5 (Ex.trans x10 ζ))
 have η:=oL hlt;have α:=OP η;have eT:(t.ths.take (i+1)).flatMap offs=(t.ths.take i).flatMap offs++offs t.ths[i]:=by rw [OK η,P2];simp
 refine ο.get ζ (i:=i) (x:=t.ths[i].text) (by omega) (by simp [η]) (Q:=λn=>_) (oG _ (OQ _) (ξ _ α) (su.smpP _ α) (by have :=(ε _ α).1;omega) λv24 υ xs x25 φ m24=>?_);obtain⟨a26,θ,J⟩:=φ.slice;have hm1:=@tN t.ths.length i (by omega);have hol:(offs t.ths[i]).length<=60:=by have :=fQ t.ths[i];have :=(ε _ α).1;omega
 generalize hos:offs t.ths[i]=os at*;refine⟨a26,_,θ,J,λout x w'=>∃j:Nat,x=j/\j<=os.length/\Ex υ w'/\jb out/\∀c,c∈out↔Gs k t ((t.ths.take i).flatMap offs++os.take j) c,λ _ x _=>(os.length - x).toNat,⟨0,rfl,Px _,Ex.refl _,ς,by simpa using hm⟩,λδ x w33 hI=>?_⟩;obtain⟨j,rfl,hj,ι,V,β⟩:=hI;refine⟨λχ=>?_,λψ=>?_⟩;rotate_left
 ·have γ:=oE ψ (by omega);rw [γ,Pa,<-eT]at β;exact⟨by omega,⟨i+1,by omega,by omega,Ex.trans ζ (Ex.trans x25 ι),V,β⟩,hm1⟩
 have γ:=oL χ;have ω:=@tN os.length j (by omega);obtain⟨g,capg,cs,hvg,hcs,G⟩:=tu (φ.ex ι) m24 γ;obtain⟨kk,ca,cb,cs3,cq,rfl⟩:=hcs.any;rw [J]at hvg;refine⟨g,0,_,capg,J.trans hvg,by omega,by omega,kk,ca,cb,cs3,cq,⟨G 0 _ rfl _ (by omega) (by omega),G 1 _ rfl _ (by omega) (by omega),G 2 _ rfl _ (by omega) (by omega),G 3 _ rfl _ (by omega) (by omega),G 4 _ rfl _ (by omega) (by omega),trivial⟩,λb43 w44 hb43 hw44=>?_⟩;obtain⟨box1,box2⟩:=LI (cs:=fS kk ca cb cs3 cq) rfl rfl hb43 hw44;refine⟨⟨rfl,tq,box1⟩,λw45 hw45=>?_⟩;obtain⟨x45,l45,κ⟩:=box2 w45 hw45;have W:=Ex.trans ι x45;have μ:=HF hk hcs;have etk:(t.ths.take i).flatMap offs++os.take (j+1)=((t.ths.take i).flatMap offs++os.take j)++[os[j]]:=by rw [OK γ,Pv]
 have skip:∀{w':World},Ex w45 w'->(¬(kk=k/\ca∉t.frL))->a7 ((j:Int)+1)/\(∃j':Nat,(j:Int)+1=j'/\j'<=os.length/\Ex υ w'/\jb δ/\∀c,c∈δ↔Gs k t ((t.ths.take i).flatMap offs++os.take j') c)/\((os.length:Int) - ((j:Int)+1)).toNat< ((os.length:Int) - j).toNat:=λ{w'} x h=>by
  refine⟨by omega,⟨j+1,by omega,by omega,Ex.trans W x,V,λc=>?_⟩,ω⟩;rw [etk,HH,β];have:¬Gs k t [os[j]] c:=by
   rintro⟨o,ho,h1,h2⟩
   cases OO.1 ho;obtain⟨h3,h4⟩:=(μ c).1 h1;exact h ⟨h3,h4▸h2⟩
  simp [this]
 refine⟨kk,κ 0 (by omega),λH=>⟨ca,κ 1 (by omega),iR hfl ⟨λhn=>⟨ca,κ 1 (by omega),?_⟩,λhn=>skip (Ex.refl _) ?_⟩⟩,λH=>skip (Ex.refl _) ?_⟩
 ·have H:kk=k:=by simpa using H
  have hn:ca∉t.frL:=by simpa using hn
  refine fD V λs' w52 x52 hs' hm'=>⟨by omega,⟨j+1,by omega,by omega,Ex.trans W x52,hs',λc=>?_⟩,ω⟩
  rw [hm',etk,HH,β];have:Gs k t [os[j]] c↔c=ca:=by
   constructor
   ·rintro⟨o,ho,h1,h2⟩
    cases OO.1 ho;exact((μ c).1 h1).2
   ·rintro rfl
    exact⟨_,OO.2 rfl,(μ _).2 ⟨H,rfl⟩,hn⟩
  rw [this];exact or_comm
 ·have hn:ca∈t.frL:=by simpa using hn
  exact λh=>h.2 hn
 ·have H:kk≠k:=by simpa using H
  exact λh=>H h.1
theorem F0 {s:Tx}(J:St s){w:World}{R:aB->aB->Sl}(hR:∀w',Ex w w'->R (lR 33 s) (lR 63 s) w'):
  Sm 103 #[.string (ai s)] w (an [.s,.s] R):=by
 obtain⟨t,ok,rfl⟩:=J;have G:=qV ok;refine rO _ w R ?_;dsimp only [go_sem];dsimp only [go_sem,UInt8.reduceOfNat,UInt32.reduceOfNat,Nat.reduceAdd];refine rZ _ w _ ?_;dsimp only [go_sem];dsimp only [go_sem,UInt8.reduceOfNat,UInt32.reduceOfNat,Nat.reduceAdd];refine zY (k:=33) (by decide) λw1 V=>⟨(λh=>by rw [G]at h;cases h),λn H=>?_⟩
 rw [G]at H;cases H;refine nQ _ w1 _ ?_;dsimp only [go_sem];dsimp only [go_sem,UInt8.reduceOfNat,UInt32.reduceOfNat,Nat.reduceAdd];refine zY (k:=63) (by decide) λw2 W=>⟨(λh=>by rw [G]at h;cases h),λn H=>?_⟩
 rw [G]at H;cases H;exact hR w2 (Ex.trans V W)
theorem Ah (k:UInt8)(s:Tx):(lR k s).length<=26:=by
 have:nA.length=26:=by simp [nA]
 unfold lR;split
 ·exact this▸QI _ _
 ·simp
theorem HC {w w1:World}{b3 e:Nat}{x y z:Value}(hb:b3=w.heap.size)(h:w1=w.alloc (.cells #[x,y,z] e)):∀{w':World},Ex w1 w'->∀j,j< 3->(∃u,w'.cell? ⟨b3,j,none⟩=some u)/\w'.frozen? ⟨b3,j,none⟩=false:=λ{w'} k j hj=>by
 have s1:w1.heap.size=w.heap.size+1:=by rw [h,size_alloc]
 rw [k.cell (a:=⟨b3,j,none⟩) (show b3< _ by omega),PV k (show b3< _ by omega),h,hb];refine⟨?_,aG _ _ _ _⟩
 match j,hj with
 | 0,_=>exact⟨_,aa rfl⟩
 | 1,_=>exact⟨_,aa rfl⟩
 | 2,_=>exact⟨_,aa rfl⟩
def MR (w:World)(b r:Nat)(fs:Tx)(x:Int)(w':World):Prop:=
 ∃(i:Nat) (all:List Tx) (mm:Value->Option Value) (L:Nat->Prop),x=i/\i<=all.length/\all.length<=60/\(∀s∈all,St s)/\bfs (62 - i) all i=bfs 62 [fs] 0/\Ex w w'/\zO w.heap.size b r fs w' all i mm L
def N2 (w:World)(b r:Nat)(fs:Tx)(all:List Tx)(n:Nat)(vl:Value)(l:List Tx)(mm:Value->Option Value)(x:Int)(w':World):Prop:=
 ∃(j:Nat) (L:Nat->Prop),x=j/\j<=l.length/\Ex w w'/\Strs w' vl l/\zO w.heap.size b r fs w' (bc all (l.take j)) n mm L
theorem zO.strs {B b r n:Nat}{fs:Tx}{w:World}{all l:List Tx}{mm:Value->Option Value}{L:Nat->Prop}(h:zO B b r fs w all n mm L){j:Nat}(hj:j< all.length)(G:j< n){v:Value}(hm:mm (.string (ai all[j]))=some v)(J:sO all[j]=some l):Strs w v l:=by
 obtain⟨v',W,H,h2,V,_⟩:=h.nx j hj G;rw [hm]at H;cases H;rw [J]at h2;cases h2;exact V
theorem qL {s:Tx}{w:World}{R:Value->Bool->Sl}(hR1:aV s=none->∀w',Ex w w'->R (.pointer none) false w')
  (hR2:∀n0 all,bX s=some n0->aV s=some all->(∀x∈all,St x)->all.length<=60->∀b r mm L w',Ex w w'->zO w.heap.size b r n0 w' all all.length mm L->R (ptr b) true w'):
  Sm 90 #[.string (ai s)] w (an [.v,.b] R):=by
 refine rN s w R ?_;refine Fu (λhn w4 x4=>⟨λ _=>hR1 (by unfold aV;rw [hn];rfl) w4 x4,(λh=>by cases h)⟩) λt ok hst b2 w4 x4 hb2 st=>⟨(λh=>by cases h),λ _=>?_⟩
 have hg:aV s=bfs 62 [t.text] 0:=by unfold aV;rw [hst];rfl
 rw [hg]at hR1 hR2;have hb2l:=st.mc.lt;have ctx:∀w',Ex w4 w'->w'.cell? ⟨b2,0+1,none⟩=some (.string (ai t.text)):=λw' x=>by rw [x.cell (a:=⟨b2,0+1,none⟩) hb2l];exact st.tx
 refine⟨λw'=>Ex w4 w',λw6 hw6=>⟨hw6▸Ex.drew w4,b2,0,rfl,t.text,ctx,b2,0,rfl,t.text,ctx,?_,?_⟩⟩;have x6:Ex w4 w6:=hw6▸Ex.drew w4;intro bo Z ν H;have J:Ex w6 Z:=H▸Ex.alloc w6 _;have ξ:Z.heap.size=w6.heap.size+1:=by rw [H,size_alloc]
 refine⟨Ex.trans x6 J,?_⟩;intro r α hr V;have W:Ex Z α:=V▸Ex.alloc Z _;have ο:α.heap.size=Z.heap.size+1:=by rw [V,size_alloc]
 refine⟨Ex.trans x6 (Ex.trans J W),rfl,rfl,?_⟩;intro b β hb G;have ζ:Ex α β:=G▸Ex.alloc α _;have s18:β.heap.size=α.heap.size+1:=by rw [G,size_alloc]
 have γ:=Ex.trans J (Ex.trans W ζ);refine⟨Ex.trans x6 γ,?_⟩;have s4:=x4.size;have s6:=x6.size;have em:β.heap[r]?=some (.map #[] 0):=by rw [ζ.block r (by omega),V,hr];unfold World.alloc;simp
 have hI:zO w.heap.size b r t.text β [t.text] 0 (cB []) λ _=>False:=by
  refine⟨by omega,by omega,by omega,by omega,λj=>by rw [G,hb];exact aG _ _ _ _,by rw [G,hb];exact aa rfl,by rw [G,hb];exact aa rfl,⟨#[],0,em,⟨by simp,by simp,by simp⟩,by simp,λq=>rfl⟩,λg hg=>hg.elim,⟨.slice (some ⟨bo,0,none⟩) 1 1,by rw [G,hb];exact aa rfl,(Own.one (by omega) ν H).ex (Ex.trans W ζ),λg hg=>?_⟩,λj _ hj=>by omega⟩;have hg:bo=g:=Pz hg;exact⟨by omega,by omega,λh=>h⟩
 have ς:Ex w β:=Ex.trans x4 (Ex.trans x6 γ);clear em G V H s18 ο ξ hb hr ν J W ζ γ x6 s6;refine⟨MR w b r t.text,λx _=>(61 - x).toNat,⟨0,[t.text],_,_,rfl,by simp,by simp,λs hs=>by cases OO.1 hs;exact⟨t,ok,rfl⟩,rfl,ς,hI⟩,λx w22 hO=>?_⟩;rotate_left
 have x6:Ex w4 w6:=hw6▸Ex.drew w4;intro r Z hr H;have J:Ex w6 Z:=H▸Ex.alloc w6 _;have ξ:Z.heap.size=w6.heap.size+1:=by rw [H,size_alloc]
 refine⟨Ex.trans x6 J,?_⟩;intro bo α ν V;have W:Ex Z α:=V▸Ex.alloc Z _;have ο:α.heap.size=Z.heap.size+1:=by rw [V,size_alloc]
 refine⟨Ex.trans x6 (Ex.trans J W),rfl,rfl,?_⟩;intro b β hb G;have ζ:Ex α β:=G▸Ex.alloc α _;have s18:β.heap.size=α.heap.size+1:=by rw [G,size_alloc]
 have γ:=Ex.trans J (Ex.trans W ζ);refine⟨Ex.trans x6 γ,?_⟩;have s4:=x4.size;have s6:=x6.size;have em:β.heap[r]?=some (.map #[] 0):=by rw [ζ.block r (by omega),W.block r (by omega),H,hr];unfold World.alloc;simp
 have hI:zO w.heap.size b r t.text β [t.text] 0 (cB []) λ _=>False:=by
  refine⟨by omega,by omega,by omega,by omega,λj=>by rw [G,hb];exact aG _ _ _ _,by rw [G,hb];exact aa rfl,by rw [G,hb];exact aa rfl,⟨#[],0,em,⟨by simp,by simp,by simp⟩,by simp,λq=>rfl⟩,λg hg=>hg.elim,⟨.slice (some ⟨bo,0,none⟩) 1 1,by rw [G,hb];exact aa rfl,(Own.one (by omega) ν V).ex ζ,λg hg=>?_⟩,λj _ hj=>by omega⟩;have hg:bo=g:=Pz hg;exact⟨by omega,by omega,λh=>h⟩
 have ς:Ex w β:=Ex.trans x4 (Ex.trans x6 γ);clear em G V H s18 ο ξ hb hr ν J W ζ γ x6 s6;refine⟨MR w b r t.text,λx _=>(61 - x).toNat,⟨0,[t.text],_,_,rfl,by simp,by simp,λs hs=>by cases OO.1 hs;exact⟨t,ok,rfl⟩,rfl,ς,hI⟩,λx w22 hO=>?_⟩
 all_goals
  obtain⟨i,all,mm,L,rfl,hi,υ,φ,κ,x22,hO⟩:=hO;obtain⟨v,hv1,hv2,hv3⟩:=hO.sl;obtain⟨a,cap,hv⟩:=hv2.strs.slice;refine⟨v,hv1,a,_,cap,hv,λhlt=>?_,λhge=>?_⟩;rotate_left
  ·have δ:¬i< all.length:=by simp only [OV]at hge;omega
   have e:=(Ev υ δ hi).symm.trans κ;have ei:i=all.length:=by omega
   subst ei;exact hR2 _ _ hst e.symm φ υ b r mm L w22 x22 hO
  have δ:=oL hlt;refine⟨v,hv1,hv2.strs.get (Ex.refl _) (PU i) (gE δ) (Q:=λn=>_) ?_⟩;obtain⟨t',B6,et⟩:=φ _ (OP δ);have hsz':=B6.size;have hlen':=B6.len;have hnq:=Dh B6;have s22:=x22.size;rw [et]at hnq;rw [<-et];refine Cf B6.al (by omega) (by omega) λb33 w34 χ hb33 st'=>GZ B6 st' (λg hg=>⟨hg.2.1,hg.2.2⟩) (λhn ι k37=>⟨λ _=>hR1 ((Au υ δ (hnq.trans hn)).symm.trans κ).symm ι ?_,(λh=>by cases h)⟩) λl hl v35 ι k37 hs35 hv35=>⟨(λh=>by cases h),λ _=>?_⟩
  ·exact Ex.trans x22 (Ex.below χ (Kp.below k37 χ.size λg hg e=>by omega))
  have μ:=hnq.trans hl;have s34:=χ.size;have η:Ex w22 ι:=Ex.below χ (Kp.below k37 χ.size λg hg e=>by omega);obtain⟨bv,ov,capv,hv',hbv,hcv⟩:=hv2.strs.at δ;refine⟨λw'=>Ex ι w',λw39 hw39=>⟨hw39▸Ex.drew ι,.map (some r),λw' x=>(hO.ex (Ex.trans η x)).c2,v,λw' x=>?_,bv,ov,_,capv,hv',by omega,by omega,all[i],λw' x=>?_,r,mm,rfl,?_⟩⟩
  ·rw [(Ex.trans η x).cell (a:=⟨b,1,none⟩) hO.lt];exact hv1
  ·rw [(Ex.trans η x).cell (a:=⟨bv,_,none⟩) hbv,OU,Pn];exact hcv
  have x39:Ex ι w39:=hw39▸Ex.drew ι;have θ:=Ex.trans η x39;refine⟨(hO.ex θ).mp,λw49 hm49 k49=>?_⟩;have hU:=hO.aI s22 θ δ μ hm49 k49 (hs35.ex x39) λg hg=>by have :=hv35 g hg;omega
  have x49:Ex w w49:=Ex.below (Ex.trans x22 θ) (Kp.below (Kp.jV k49) (by have :=θ.size;omega) λg hg e=>by have :=hO.lr;omega);generalize hmm':bR mm (.string (ai all[i])) v35=mm' at*;have hkey:mm' (.string (ai all[i]))=some v35:=by rw [<-hmm'];unfold bR;simp
  have ψ:∀{w':World} {cur:List Tx} {L':Nat->Prop},all<+:cur->zO w.heap.size b r t.text w' cur (i+1) mm' L'->Strs w' v35 l:=λ{w' cur L'} hp h=>by
   have e:∃h:i< cur.length,cur[i]=all[i]:=⟨O' δ hp.length_le,(hp.getElem δ).symm⟩
   obtain⟨h1,h2⟩:=e;exact h.strs h1 (by omega) (by rw [h2];exact hkey) (by rw [h2];exact μ)
  have hll:=pg μ;obtain⟨av,capl,hvl⟩:=hs35.slice;refine⟨av,_,capl,hvl,N2 w b r t.text all (i+1) v35 l mm',λx _=>(l.length - x).toNat,⟨0,_,rfl,Px _,x49,ψ (Ry _) hU,hU⟩,λx w56 hI=>?_⟩;obtain⟨j,L1,rfl,hj,ω,hs56,hI⟩:=hI;obtain⟨v62,c62,o62,n62⟩:=hI.sl;have hcl:=ic (l.take j) all;rw [Pt]at hcl;have hpre:all<+:bc all (l.take j):=pz;have hple:=hpre.length_le;refine⟨λhlt2=>?_,λhge2=>?_⟩;rotate_left
  ·have hjl:=oE hge2 (by omega);subst hjl;rw [Pa]at hI hple hpre o62;obtain⟨a78,cap78,hv78⟩:=o62.strs.slice;refine⟨v62,c62,a78,_,cap78,hv78,λε=>?_,λε=>?_⟩
   ·have ε:60< (bc all l).length:=by simp only [OW]at ε;omega
    exact hR1 ((EV υ δ μ ε).symm.trans κ).symm w56 ω
   ·have ε:¬60< (bc all l).length:=by simp only [OV]at ε;omega
    refine⟨by omega,⟨i+1,bc all l,mm',L1,by omega,by omega,by omega,λs hs=>?_,(zP υ δ μ ε).symm.trans κ,ω,hI⟩,by show(61 - ((i:Int)+1)).toNat< (61 - (i:Int)).toNat;omega⟩;exact(cY.1 hs).elim (φ s) (Hv w μ s)
  have hjl:=oL hlt2;have hmeas:=@tN l.length j (by omega);refine hs56.get (Ex.refl _) (PU j) (gE hjl) (Q:=λn=>_) ⟨v62,c62,Eg o62.strs (by omega) ⟨λhq=>⟨v62,c62,λb66 w67 hb66 hw67=>?_⟩,λhq=>?_⟩⟩
  ·have hq:l[j]∉bc all (l.take j):=by simpa using hq
   have x67:Ex w56 w67:=hw67▸Ex.alloc w56 _;have s56:=ω.size;have s67:=x67.size;refine Own.push (o62.ex x67) (by omega) (Strs.one hb66 hw67) (by simp only [OF,OX];omega) λv73 w74 _ ho hg hn=>?_
   obtain⟨f1,f2⟩:=hI.app (by omega) s56 c62 x67 ho hg hn;refine⟨ho.df,f1,λw76 hw76=>?_⟩;obtain⟨h76,b76⟩:=f2 w76 hw76;have e:bc all (l.take (j+1))=bc all (l.take j)++[l[j]]:=by rw [ft hjl];unfold iu;rw [O1 hq]
   refine⟨by omega,⟨j+1,L1,by omega,by omega,Ex.below ω b76,ψ (hpre.trans (Sb _ _)) h76,by rw [e];exact h76⟩,hmeas⟩
  ·have hq:l[j]∈bc all (l.take j):=by simpa using hq
   have e:bc all (l.take (j+1))=bc all (l.take j):=by rw [ft hjl];unfold iu;rw [Pj hq]
   exact⟨by omega,⟨j+1,L1,by omega,by omega,ω,hs56,by rw [e];exact hI⟩,hmeas⟩
theorem Cn {a:List Tx}{s:Tx}(h:a.Nodup):(iu a s).Nodup:=by
 unfold iu;split
 ·exact h
 ·rename_i G;exact Pp.2 ⟨h,by simp,λx H y J=>by cases OO.1 J;exact λe=>G (e▸H)⟩
theorem tQ:∀{l a:List Tx},a.Nodup->(bc a l).Nodup
 | [],_,h=>h
 | s::l,a,h=>tQ (l:=l) (a:=iu a s) (Cn h)
structure K8 (all:List Tx)(n:Nat):Prop where
 nd:all.Nodup
 cl:∀(j:Nat) (h:j< all.length),j< n->∃l,sO all[j]=some l/\∀s∈l,s∈all
theorem DI:∀(f:Nat) (all:List Tx) (i:Nat) (out:List Tx),K8 all i->bfs f all i=some out->K8 out out.length/\all<+:out
 | 0,_,_,_,_,h=>by cases h
 | f+1,all,i,out,c,h=>by
  unfold bfs at h;split at h
  ·rename_i hi;split at h
   ·cases h
   ·rename_i l V;split at h
    ·exact absurd h (by simp)
    ·have H:all<+:bc all l:=pz;have c2:K8 (bc all l) (i+1):=⟨tQ c.nd,λj hj W=>by
      by_cases e:j=i
      ·subst e;exact⟨l,by rw [<-H.getElem hi];exact V,λs J=>cY.2 (.inr J)⟩
      ·have G:j< all.length:=by omega
       obtain⟨Z,h3,h4⟩:=c.cl j G (by omega);exact⟨Z,by rw [<-H.getElem G];exact h3,λs J=>cY.2 (.inl (h4 s J))⟩⟩
     obtain⟨h1,h2⟩:=DI f (bc all l) (i+1) out c2 h;exact⟨h1,H.trans h2⟩
  ·rename_i hi;cases h;exact⟨⟨c.nd,λj hj _=>c.cl j hj (by omega)⟩,Ry _⟩
theorem nY {s n0:Tx}{all:List Tx}(G:bX s=some n0)(h:aV s=some all):K8 all all.length/\[n0]<+:all:=by
 unfold aV at h;rw [G]at h;exact DI 62 [n0] 0 all ⟨by simp,λj _ hj=>by omega⟩ h
theorem K8.nx {all:List Tx}(c:K8 all all.length){s:Tx}(h:s∈all):∃l,sO s=some l/\∀x∈l,x∈all:=by
 obtain⟨j,hj,rfl⟩:=PD.1 h;exact c.cl j hj hj
noncomputable def B3 (s:Tx):List Tx:=(sO s).getD []
theorem zx {s:Tx}{l:List Tx}(h:sO s=some l):B3 s=l:=by unfold B3;rw [h];rfl
def put (f:Tx->Bool)(s:Tx)(b:Bool):Tx->Bool:=λx=>if x=s then b else f x
def cnt (l:List Tx)(f:Tx->Bool):Nat:=l.countP f
end Go.Proofs.YtdecokaadekjnaaGreat
namespace Go.Proofs.YtdecokaadekjnaaGreat
open Go
attribute [go_sem] Tryz.f15
attribute [go_sem] Tryz.f94
attribute [go_sem] Tryz.f50
attribute [go_sem] Tryz.f16
attribute [go_sem] Tryz.f4
end Go.Proofs.YtdecokaadekjnaaGreat
namespace Go.Proofs.YtdecokaadekjnaaGreat
open Go Go.RowKit T Classical
theorem LH {f:Nat}{ca:List Value}{w:World}{v:Value}{l:List Tx}(h:Strs w v l)(hl:l.length<=1099511627776)(hf:hasR gj f=true)(J:Tx->Prop)
  (hp:∀s∈l,∀(w':World) (Q:Bool->Sl),Ex w w'->(∀w2,Ex w' w2->Q (decide (J s)) w2)->Sm f (List.toArray ([.string (ai s)]++ca)) w' (an [.b] Q))
  {R:Int->Sl} (hR:∀w',Ex w w'->(∀(j:Nat) (h:j< l.length),J l[j]->(∀s∈l.take j,¬J s)->R j w')/\((∀s∈l,¬J s)->R (-1) w')):
  Sm 61 #[v,.func (Fn.func f) #[] ca.toArray] w (an [.i] R):=by
 refine ia v _ w _ ?_;dsimp only [go_sem];dsimp only [go_sem,UInt8.reduceOfNat,UInt32.reduceOfNat,Nat.reduceAdd];obtain⟨ao,cap,hv⟩:=h.slice;refine⟨ao,_,cap,hv,λi w'=>∃j:Nat,i=j/\j<=l.length/\Ex w w'/\∀s∈l.take j,¬J s,λi _=>(l.length - i).toNat,⟨0,rfl,Px _,Ex.refl w,by simp⟩,λi w' hI=>?_⟩;obtain⟨j,rfl,hj,x,hm⟩:=hI;refine⟨λW=>?_,λZ=>?_⟩
 ·have G:=oL W;refine h.get x (PU j) (gE G) (Q:=λn=>_) ⟨f,ca,rfl,hf,?_⟩;refine hp _ (OP G) _ _ x λw2 x2=>⟨λhe=>?_,λH=>?_⟩
  ·exact(hR w2 (Ex.trans x x2)).1 j G (by simpa using he) hm
  ·have H:¬J l[j]:=by simpa using H
   refine⟨by omega,⟨j+1,by omega,by omega,Ex.trans x x2,λs V=>?_⟩,tN (by omega)⟩;rw [OK G,OS,OO]at V;exact V.elim (hm s) λe=>e▸H
 ·have:j=l.length:=by simp only [OV]at Z;omega
  rw [this,Pa]at hm;exact(hR w' x).2 hm
theorem Iz {f:Nat}{ca:List Value}{w:World}{v:Value}{l:List Tx}(h:Strs w v l)(J:l.length<=1099511627776)(V:hasR gj f=true)(G:Tx->Prop)
  (W:∀s∈l,∀(w':World) (Q:Bool->Sl),Ex w w'->(∀w2,Ex w' w2->Q (decide (G s)) w2)->Sm f (List.toArray ([.string (ai s)]++ca)) w' (an [.b] Q))
  {R:Bool->Sl} (hR:∀w',Ex w w'->R (decide (∃s∈l,G s)) w'):
  Sm 47 #[v,.func (Fn.func f) #[] ca.toArray] w (an [.b] R):=by
 refine fV v _ w R ?_;dsimp only [go_sem];dsimp only [go_sem,UInt8.reduceOfNat,UInt32.reduceOfNat,Nat.reduceAdd];refine LH h J V G W λw' x=>⟨λj hj H _=>?_,λZ=>?_⟩
 ·show R (decide (0<=(j:Int))) _;rw [PL (show(0:Int)<=(j:Int) by omega)];have :=hR w' x;rw [PL ⟨_,OP hj,H⟩]at this;exact this
 ·show R (decide ((0:Int)<= -1)) _;rw [PX (show ¬(0:Int)<= -1 by omega)];have :=hR w' x;rw [PX (fun⟨s,h1,h2⟩=>Z s h1 h2)]at this;exact this
noncomputable def Cu (w:World)(r:Nat):Value->Option Value:=match w.heap[r]? with
 | some (.map es _)=>cB es.toList
 | _=>λ _=>none
theorem fI {w:World}{r:Nat}{d:TypeDesc}{m:Value->Option Value}(h:IsMap w r d m):Cu w r=m:=by
 obtain⟨es,clock,G,_,_,h2⟩:=h;unfold Cu;rw [G];exact funext λq=>(h2 q).symm
structure IA (w:World)(r c:Nat)(P:Tx->Prop)(f:Tx->Bool)(w':World):Prop where
 ex:Ex w w'
 lr:w.heap.size<=r
 lc:w.heap.size<=c
 ne:c≠r
 lt:c< w'.heap.size
 c0:w'.cell? ⟨c,0,none⟩=some (.map (some r))
 mp:∃m,IsMap w' r .string m/\∀s,P s->m (.string (ai s))=some (.bool (f s))
section
variable {w w1 w2:World} {r c:Nat} {P:Tx->Prop} {f:Tx->Bool}
theorem IA.to (h:IA w r c P f w1)(x:Ex w1 w2):IA w r c P f w2:=by
 obtain⟨m,G,h2⟩:=h.mp;have :=x.size;have :=h.lt;exact⟨Ex.trans h.ex x,h.lr,h.lc,h.ne,by omega,by rw [x.cell (a:=⟨c,0,none⟩) h.lt];exact h.c0,m,aS G (x.block r (bS G)),h2⟩
theorem IA.aI (h:IA w r c P f w1){m:Value->Option Value}(hm:IsMap w1 r .string m){s:Tx}{b:Bool}(G:IsMap w2 r .string (bR m (.string (ai s)) (.bool b)))(k:bw w1 w2 r):IA w r c (λx=>P x\/x=s) (put f s b) w2:=by
 obtain⟨m',H,h2⟩:=h.mp;have e:m'=m:=(fI H).symm.trans (fI hm);subst e;have kp:=Kp.jV k;have s1:=h.ex.size;have V:=h.lt;have l2:=k.size;have W:=h.lr;refine⟨Ex.below h.ex (Kp.below kp s1 λg Z e=>by omega),h.lr,h.lc,h.ne,by omega,by rw [OG (w:=w1) (k.block c h.ne)];exact h.c0,_,G,λx J=>?_⟩;unfold bR put;by_cases e:x=s
 ·rw [Pj e,Pj (by rw [e])]
 ·rw [O1 e,O1 λh=>e (eH (Rz h))];exact h2 x (J.resolve_right e)
theorem IA.cnt {all:List Tx}(h:IA w r c (λs=>s∈all) f w1):Proofs.YtdecokaadekjnaaGreat.cnt all (λs=>decide (Cu w1 r (.string (ai s))=some (.bool true)))=Proofs.YtdecokaadekjnaaGreat.cnt all f:=by
 obtain⟨m,G,h2⟩:=h.mp;rw [fI G];unfold Proofs.YtdecokaadekjnaaGreat.cnt;refine List.countP_congr λs H=>?_
 rw [h2 s H];simp
end
theorem IA.mono {w w1:World}{r c:Nat}{P G:Tx->Prop}{f H:Tx->Bool}(h:IA w r c P f w1)(J:∀s,G s->P s/\H s=f s):IA w r c G H w1:=by
 obtain⟨m,W,h2⟩:=h.mp;exact⟨h.ex,h.lr,h.lc,h.ne,h.lt,h.c0,m,W,λs V=>by rw [(J s V).2];exact h2 s (J s V).1⟩
inductive n9:Tx->Tx->Prop
 | refl (s:Tx):n9 s s
 | step {s t u:Tx}:n9 s t->u∈B3 t->n9 s u
theorem n9.trans {s t u:Tx}(h:n9 s t)(k:n9 t u):n9 s u:=by
 induction k with
 | refl=>exact h
 | step _ hu G=>exact .step G hu
theorem n9.front {s t u:Tx}(h:t∈B3 s)(k:n9 t u):n9 s u:=n9.trans (.step (.refl s) h) k
def Cl (all:List Tx):Prop:=∀s∈all,∃l,sO s=some l/\∀x∈l,x∈all
theorem Cl.B3 {all:List Tx}(c:Cl all){s x:Tx}(H:s∈all)(G:x∈B3 s):x∈all:=by
 obtain⟨l,J,h2⟩:=c s H;rw [zx J]at G;exact h2 x G
theorem Cl.MV {all:List Tx}(c:Cl all){s t:Tx}(G:s∈all)(h:n9 s t):t∈all:=by
 induction h with
 | refl=>exact G
 | step _ hu H=>exact c.B3 H hu
theorem K8.Oa {all:List Tx}(c:K8 all all.length):Cl all:=λ _ G=>c.nx G
theorem Cl.add {a b:List Tx}(ha:Cl a)(hb:Cl b):Cl (bc a b):=λs J=>by
 rcases cY.1 J with h | h
 ·obtain⟨l,G,h2⟩:=ha s h;exact⟨l,G,λx H=>cY.2 (.inl (h2 x H))⟩
 ·obtain⟨l,G,h2⟩:=hb s h;exact⟨l,G,λx H=>cY.2 (.inr (h2 x H))⟩
def Oj (k:UInt8)(s:Tx)(c:UInt8):Prop:=∃t,n9 s t/\c∈lR k t
noncomputable def pV (k:UInt8)(s:Tx):Tx:=nA.filter λc=>decide (Oj k s c)
theorem GD {k:UInt8}{s:Tx}{c:UInt8}(h:c∈lR k s):c∈nA:=by
 unfold lR at h;split at h
 ·unfold Fy at h;exact(QK.1 h).1
 ·cases h
theorem Ek {k:UInt8}{s:Tx}{c:UInt8}:c∈pV k s↔Oj k s c:=by
 unfold pV;rw [QK,OW];exact⟨λh=>h.2,λh=>⟨by obtain⟨t,_,G⟩:=h;exact GD G,h⟩⟩
theorem ym (k:UInt8)(s:Tx):(pV k s).Pairwise (· < ·):=jM.filter _
theorem CW {k:UInt8}{s:Tx}{c:UInt8}(h:c∈pV k s):lt c=true:=pK.1 (QK.1 h).1
theorem DN (k:UInt8)(s:Tx):(pV k s).length<=26:=by
 have:nA.length=26:=by simp [nA]
 unfold pV;exact this▸QI _ _
def Jv (s t:Tx):Prop:=pV 33 s=pV 33 t/\pV 63 s=pV 63 t
theorem zR {s t:Tx}:(pV 33 s++[47]++pV 63 s=pV 33 t++[47]++pV 63 t)↔Jv s t:=by
 constructor
 ·intro h;have no:∀(k:UInt8) (s:Tx),(47:UInt8)∉pV k s:=λk s hm=>absurd (CW hm) (by decide)
  have key:∀{a b c d:Tx},(47:UInt8)∉a->(47:UInt8)∉c->a++[47]++b=c++[47]++d->a=c/\b=d:=by
   intro a
   induction a with
   | nil=>
    intro b c d _ hc e;cases c with
    | nil=>exact⟨rfl,by simpa using e⟩
    | cons y c=>
     simp only [PG,PI,PC]at e;exact absurd (O4.2 (.inl e.1)) hc
   | cons x a H=>
    intro b c d ha hc e;cases c with
    | nil=>
     simp only [PG,PI,PC]at e;exact absurd (O4.2 (.inl e.1.symm)) ha
    | cons y c=>
     simp only [PI,PC]at e;obtain⟨G,h2⟩:=H (λh=>ha (OZ _ h)) (λh=>hc (OZ _ h)) e.2;exact⟨by rw [e.1,G],h2⟩
  exact key (no _ _) (no _ _) h
 ·rintro⟨G,h2⟩
  rw [G,h2]
def Hf (A:Tx->Tx->Option Nat)(s t:Tx):Prop:=∀k∈B3 s,∃n,n9 t n/\A k n=none
noncomputable def ap:Nat->Tx->Tx->Option Nat
 | 0,s,t=>if Jv s t then none else some 0
 | r+1,s,t=>match ap r s t with
  | some k=>some k
  | none=>if Hf (ap r) s t/\Hf (ap r) t s then none else some (r+1)
theorem xM:∀(r:Nat) (s t:Tx),ap r s t=ap r t s
 | 0,s,t=>by
  unfold ap;have:Jv s t↔Jv t s:=⟨λh=>⟨h.1.symm,h.2.symm⟩,λh=>⟨h.1.symm,h.2.symm⟩⟩
  simp only [this]
 | r+1,s,t=>by
  unfold ap;rw [xM r s t];have:(Hf (ap r) s t/\Hf (ap r) t s)↔(Hf (ap r) t s/\Hf (ap r) s t):=and_comm;simp only [this]
theorem kv {r:Nat}{s t:Tx}{k:Nat}(h:ap r s t=some k):ap (r+1) s t=some k:=by
 unfold ap;rw [h]
theorem fB {r:Nat}{s t:Tx}(h:ap r s t=none):ap (r+1) s t=if Hf (ap r) s t/\Hf (ap r) t s then none else some (r+1):=by
 conv=>lhs;unfold ap
 rw [h]
theorem xG {r:Nat}{s t:Tx}{k:Nat}(h:ap r s t=some k):∀d,ap (r+d) s t=some k
 | 0=>h
 | d+1=>kv (xG h d)
theorem GQ:∀{r:Nat} {s t:Tx} {k:Nat},ap r s t=some k->k<=r
 | 0,s,t,k,h=>by
  unfold ap at h;split at h<;>cases h
  exact OQ _
 | r+1,s,t,k,h=>by
  cases e:ap r s t with
  | some G=>
   rw [kv e]at h;cases h;have :=GQ e;omega
  | none=>
   rw [fB e]at h;split at h<;>cases h
   exact OQ _
noncomputable def sI (s t:Tx):Option Nat:=if h:∃r,ap r s t≠none then ap h.choose s t else none
theorem DP {all:List Tx}(c:Cl all){r:Nat}(h:∀s∈all,∀t∈all,ap (r+1) s t=ap r s t):∀s∈all,∀t∈all,sI s t=ap r s t:=by
 have hd:∀d,∀s∈all,∀t∈all,ap (r+d) s t=ap r s t:=by
  intro d
  induction d with
  | zero=>intro s _ t _;rfl
  | succ d ih=>
   intro s G t H;have hf:∀s∈all,∀t∈all,Hf (ap (r+d)) s t↔Hf (ap r) s t:=λs G t H=>by
    unfold Hf;constructor
    ·intro J k V;obtain⟨n,W,h2⟩:=J k V;exact⟨n,W,by rw [<-ih k (c.B3 G V) n (c.MV H W)];exact h2⟩
    ·intro J k V;obtain⟨n,W,h2⟩:=J k V;exact⟨n,W,by rw [ih k (c.B3 G V) n (c.MV H W)];exact h2⟩
   cases e:ap r s t with
   | some k=>exact xG e (d+1)
   | none=>
    have e2:ap (r+d) s t=none:=by rw [ih s G t H,e]
    have e3:=h s G t H;rw [e,fB e]at e3;show ap (r+d+1) s t=none;rw [fB e2];simp only [hf s G t H,hf t H s G];split at e3
    ·rename_i J;rw [Pj J]
    ·cases e3
 intro s G t H;unfold sI;split
 ·rename_i Z;have h2:=Z.choose_spec;generalize Z.choose=m at h2;cases e:ap m s t with
  | none=>exact absurd e h2
  | some k=>
   have h3:=xG e r;rw [R4,hd m s G t H]at h3;exact h3.symm
 ·rename_i Z;cases e:ap r s t with
  | none=>rfl
  | some k=>exact absurd ⟨r,by rw [e];simp⟩ Z
noncomputable def tolT (p q:Tx):Option (Tx×Tx):=match aV p,aV q with
 | some _,some _=>(bX p).bind λa=>(bX q).map λb=>(a,b)
 | _,_=>none
noncomputable def qv (p q:Tx):Bool×Bool:=match tolT p q with
 | none=>(false,false)
 | some x=>(decide (sI x.1 x.2=none),true)
noncomputable def lL (p q:Tx):Nat×Bool:=match tolT p q with
 | none=>(0,false)
 | some x=>((sI x.1 x.2).getD 0,(sI x.1 x.2).isSome)
end Go.Proofs.YtdecokaadekjnaaGreat
namespace Go.Proofs.YtdecokaadekjnaaGreat
open Go
attribute [go_sem] Tryz.f106
theorem og (r1:Value)(G:aB)(w:World)(R:Value->Sl)(h:vc az (bf [(3,[(5,.v),(6,.i)]),(6,[(5,.v),(27,.i)])] [] [(5,true,.lt 0 (.lt 1 (.lt 2 (.lt 3 (.lt 4 (.lt 5 (.lt 6 (.lt 7 (.lt 10 (.one .n 8 (.lt 9 .done)))))))))))]) (ab Tryz.f106) (aj 0 [.v r1,.s G]) w (fin az [.tmp 4 .v] R)):
  Sm 106 #[r1,(.string (ai G))] w (an [.v] R):=
 bD Tryz.func106 (by kernel_rfl) h
attribute [go_sem] Tryz.f58
theorem nZ (r1:Value)(G:aB)(H:UInt8)(w:World)(R:UInt32->Sl)(h:vc az (bf [(3,[(7,.w),(14,.i)])] [] []) (ab Tryz.f58) (aj 0 [.v r1,.s G,.c H]) w (fin az [.tmp 6 .w] R)):
  Sm 58 #[r1,(.string (ai G)),(.int .u8 H.toNat)] w (an [.w] R):=
 bD Tryz.func58 (by kernel_rfl) h
attribute [go_sem] Tryz.f156
theorem kU (n1:aB)(G:aB)(c3:Value)(w:World)(R:Bool->Sl)(h:vc az (bf [] [] []) (ab Tryz.f156) (aj 0 [.s n1,.s G,.v c3]) w (fin az [.tmp 5 .b] R)):
  Sm 156 #[(.string (ai n1)),(.string (ai G)),c3] w (an [.b] R):=
 bD Tryz.func156 (by kernel_rfl) h
attribute [go_sem] Tryz.f158
theorem jq (G:aB)(c2:Value)(c3:Value)(w:World)(R:Bool->Sl)(h:vc az (bf [] [] []) (ab Tryz.f158) (aj 0 [.s G,.v c2,.v c3]) w (fin az [.tmp 4 .b] R)):
  Sm 158 #[(.string (ai G)),c2,c3] w (an [.b] R):=
 bD Tryz.func158 (by kernel_rfl) h
attribute [go_sem] Tryz.f157
theorem kV (G:aB)(c2:Value)(c3:Value)(c4:Value)(w:World)(R:Bool->Sl)(h:vc az (bf [] [] []) (ab Tryz.f157) (aj 0 [.s G,.v c2,.v c3,.v c4]) w (fin az [.tmp 5 .b] R)):
  Sm 157 #[(.string (ai G)),c2,c3,c4] w (an [.b] R):=
 bD Tryz.func157 (by kernel_rfl) h
theorem ng (t1:Value)(w:World)(R:Sl)(h:ay t1=true/\cc w (.cells #[t1] 70) λb2 w3=>cc w3 (Obj.map #[] 0) λb4 w5=>cc w5 (Obj.map #[] 0) λb6 w7=>cc w7 (.cells #[(.map none)] 57) λb8 w9=>ay (.map (some b6))=true/\fH w9 b8 0 (.map (some b6)) λw11=>bz w11 b2 0 λv12=>bH v12 λb13 o14=>bz w11 b13 ((o14+0)+1) λv15=>dO v15 λl17=>kH 0 w11 λI19 m20 μ φ=>bC (decide (μ< (l17:Int))) (cJ v15 μ λb23 o24=>qb φ b23 (o24+μ.toNat* 1) λψ=>ja φ λS28 w29=>dC S28 b2 0 λv30=>bH v30 λb31 o32=>dC S28 b2 0 λv33=>bH v33 λb34 o35=>Of 58 #[(.pointer (some ⟨b31,(o32+0),none⟩)),(.string (ai ψ)),(.int .u8 (UInt8.toNat 33))] w29 λm36 w37=>S28 w37/\Of 58 #[(.pointer (some ⟨b34,(o35+0),none⟩)),(.string (ai ψ)),(.int .u8 (UInt8.toNat 63))] w37 λm38 w39=>S28 w39/\∃(r40:Nat) (m41:Value->Option Value),(Value.map (some b4))= .map (some r40)/\IsMap w39 r40 .string m41/\∀w42:World,IsMap w42 r40 .string (bR m41 (.string (ai ψ)) (.agg #[(.int .u32 (UInt32.toNat m36)),(.int .u32 (UInt32.toNat m38))]))->bw w39 w42 r40->ja w42 λS43 w44=>dC S43 b8 0 λv45=>dC S43 b2 0 λv46=>bH v46 λb47 o48=>wQ 106 #[(.pointer (some ⟨b47,(o48+0),none⟩)),(.string (ai ψ))] w44 λv49 w50=>S43 w50/\∃(r51:Nat) (m52:Value->Option Value),v45= .map (some r51)/\IsMap w50 r51 .string m52/\∀w53:World,IsMap w53 r51 .string (bR m52 (.string (ai ψ)) v49)->bw w50 w53 r51->a7 (μ+1)/\I19 (μ+1) w53/\m20 (μ+1) w53< m20 μ φ) (bz φ b2 0 λv54=>bH v54 λb55 o56=>bz φ b55 ((o56+0)+1) λv57=>dO v57 λl59=>kH 0 φ λI61 m62 ν χ=>bC (decide (ν< (l59:Int))) (cJ v57 ν λb65 o66=>qb χ b65 (o66+ν.toNat* 1) λs69=>bz χ b2 0 λv70=>bH v70 λb71 o72=>bz χ b71 ((o72+0)+1) λv73=>dO v73 λl75=>kH 0 χ λI77 m78 W J=>bC (decide (W< (l75:Int))) (cJ v73 W λb81 o82=>qb J b81 (o82+W.toNat* 1) λs85=>∃(r86:Nat) (m87:Value->Option Value),(Value.map (some b4))= .map (some r86)/\IsMap J r86 .string m87/\∃y88:Value,∃g89:Bool,((g89=true/\m87 (.string (ai s69))=some y88)\/(g89=false/\m87 (.string (ai s69))=none/\y88=(.agg #[(.int .u32 0),(.int .u32 0)])))/\∃(r90:Nat) (m91:Value->Option Value),(Value.map (some b4))= .map (some r90)/\IsMap J r90 .string m91/\∃y92:Value,∃g93:Bool,((g93=true/\m91 (.string (ai s85))=some y92)\/(g93=false/\m91 (.string (ai s85))=none/\y92=(.agg #[(.int .u32 0),(.int .u32 0)])))/\∃(x94 x95 y96 y97:UInt32),y88= .agg #[.int .u32 x94.toNat,.int .u32 x95.toNat]/\y92= .agg #[.int .u32 y96.toNat,.int .u32 y97.toNat]/\bC (!(decide (x94=y96)&&decide (x95=y97))) (bz J b2 0 λv98=>bH v98 λb99 o100=>bz J b99 (o100+5) λv101=>∃(ξ:Nat) (m103:Value->Option Value),v101= .map (some ξ)/\IsMap J ξ (TypeDesc.array 2 9) m103/\∀ο:World,IsMap ο ξ (TypeDesc.array 2 9) (bR m103 (.agg #[(.string (ai s69)),(.string (ai s85))]) (.int .i64 0))->bw J ο ξ->a7 (W+1)/\I77 (W+1) ο/\m78 (W+1) ο< m78 W J) (a7 (W+1)/\I77 (W+1) J/\m78 (W+1) J< m78 W J)) (a7 (ν+1)/\I61 (ν+1) J/\m62 (ν+1) J< m62 ν χ)) (cc χ (.cells #[.nilFunc] 24) λb105 w106=>ay (Value.func (Fn.func 156) #[] #[(.pointer (some ⟨b2,0,none⟩))])=true/\fH w106 b105 0 (Value.func (Fn.func 156) #[] #[(.pointer (some ⟨b2,0,none⟩))]) λw108=>kH 1 w108 λI109 m110 ζ w112=>cc w112 (.cells #[] 87) λb113 ω=>bz ω b2 0 λv115=>bH v115 λb116 o117=>bz ω b116 ((o117+0)+1) λv118=>dO v118 λl120=>vQ ((.slice (some ⟨b113,0,none⟩) 0 0)) 0 ω λI122 m123 η Z α=>bC (decide (Z< (l120:Int))) (cJ v118 Z λb127 o128=>qb α b127 (o128+Z.toNat* 1) λθ=>bz α b2 0 λv132=>bH v132 λb133 o134=>bz α b133 ((o134+0)+1) λv135=>dO v135 λl137=>vQ η 0 α λI139 γ H G β=>bC (decide (G< (l137:Int))) (cJ v135 G λb144 o145=>qb β b144 (o145+G.toNat* 1) λs148=>cc β (.cells #[(.string ⟨#[]⟩)] 9) λι w150=>fH w150 ι 0 (.string (ai s148)) λw152=>bz w152 b105 0 λv153=>qb w152 ι 0 λs154=>∃(f155:Nat) (c156:List Value),v153= .func (.func f155) #[] (List.toArray c156)/\hasR gj f155=true/\Db f155 (List.toArray ([(.string (ai θ)),(.string (ai s154))]++c156)) w152 λq157 δ=>bC q157 (a7 (G+1)/\I139 H (G+1) δ/\γ H (G+1) δ< γ H G β) (bz δ b2 0 λv159=>bH v159 λb160 o161=>bz δ b160 ((o161+0)+2) λv162=>∃(r163:Nat) (m164:Value->Option Value),v162= .map (some r163)/\IsMap δ r163 .string m164/\∃y165:Value,∃g166:Bool,((g166=true/\m164 (.string (ai θ))=some y165)\/(g166=false/\m164 (.string (ai θ))=none/\y165=(.slice none 0 0)))/\Db 47 #[y165,(Value.func (Fn.func 157) #[] #[(.pointer (some ⟨b8,0,none⟩)),(.pointer (some ⟨ι,0,none⟩)),(.pointer (some ⟨b105,0,none⟩))])] δ λq167 κ=>bC q167 (qb κ ι 0 λs169=>qb κ ι 0 λs170=>cc κ (.cells #[(.string (ai θ)),(.string (ai s169)),(.string (ai s170)),(.string (ai θ))] 87) λb171 w172=>iS 87 2 32 w172 H (.slice (some ⟨b171,0,none⟩) 2 2) λv178 w179=>a7 (G+1)/\I139 v178 (G+1) w179/\γ v178 (G+1) w179< γ H G β) (a7 (G+1)/\I139 H (G+1) κ/\γ H (G+1) κ< γ H G β))) (a7 (Z+1)/\I122 H (Z+1) β/\m123 H (Z+1) β< m123 η Z α)) (dO η λl181=>bC (decide ((l181:Int)=0)) (R α) (dO η λl184=>kH 0 α λI186 m187 V ε=>bC (decide (V< (l184:Int))) (cJ η V λb190 o191=>∃s194:aB,∃s195:aB,(World.cell? ε ⟨b190,(o191+V.toNat* 2),none⟩=some (.string (ai s194))/\World.cell? ε ⟨b190,((o191+V.toNat* 2)+1),none⟩=some (.string (ai s195))/\True)/\cc ε (.cells #[(.string ⟨#[]⟩),(.string ⟨#[]⟩)] 87) λb196 w197=>zC w197 b196 0 2 [(.string (ai s194)),(.string (ai s195))] λw198=>ja w198 λS199 w200=>dC S199 b2 0 λv201=>bH v201 λb202 o203=>dC S199 b202 (o203+5) λv204=>∃s205:aB,∃s206:aB,(∀w',S199 w'->World.cell? w' ⟨b196,0,none⟩=some (.string (ai s205))/\World.cell? w' ⟨b196,1,none⟩=some (.string (ai s206))/\True)/\∃(ς:Nat) (m208:Value->Option Value),v204= .map (some ς)/\IsMap w200 ς (TypeDesc.array 2 9) m208/\∀υ:World,IsMap υ ς (TypeDesc.array 2 9) (bR m208 (.agg #[(.string (ai s205)),(.string (ai s206))]) (.int .i64 ζ))->bw w200 υ ς->a7 (V+1)/\I186 (V+1) υ/\m187 (V+1) υ< m187 V ε) (a7 (ζ+1)/\I109 (ζ+1) ε/\m110 (ζ+1) ε< m110 ζ w112)))))):
  Sm 105 #[t1] w (an [] R):=
 D5 (bf [(3,[(27,.i)]),(9,[(58,.i)]),(12,[(68,.i)]),(21,[(11,.i)]),(23,[(12,.v),(98,.i)]),(26,[(12,.v),(108,.i)]),(35,[(141,.i)])] [] [(5,true,.lt 0 (.lt 1 (.lt 2 (.lt 3 (.lt 4 (.lt 5 (.lt 7 (.lt 8 (.lt 9 (.lt 10 (.one .g 6 (.one .g 11 (.lt 12 (.one .n 13 .done)))))))))))))),(6,true,.lt 0 (.lt 1 (.lt 2 (.lt 3 (.lt 4 (.lt 5 (.one .g 6 (.one .n 7 .done)))))))),(37,true,.lt 0 (.lt 1 (.lt 2 (.lt 3 (.lt 4 (.lt 5 (.one .n 6 .done)))))))]) [] [.v t1] Tryz.func105 (by kernel_rfl) h
theorem xY (p1:aB)(q2:aB)(w:World)(R:Value->Bool->Sl)(h:yg 90 #[(.string (ai p1))] w λv3 q4 w5=>yg 90 #[(.string (ai q2))] w5 λv6 q7 w8=>G2 (!q4) (bC (!q7) (R (.pointer none) false w8) (ja w8 λS9 w10=>bH v3 λb11 o12=>Gd S9 b11 (o12+0) λs13=>bH v6 λb14 o15=>Gd S9 b14 (o15+0) λs16=>cc w10 (Obj.map #[] 0) λb17 w18=>S9 w18/\ay (.map (some b17))=true/\cc w18 (.cells #[(.string (ai [])),(.slice none 0 0),(.map none),(.string (ai s13)),(.string (ai s16)),(.map (some b17))] 77) λW w20=>S9 w20/\cc w20 (Obj.map #[] 0) λb21 w22=>ay (.map (some b21))=true/\fH w22 W 2 (.map (some b21)) λw24=>ay v3=true/\ay v6=true/\cc w24 (.cells #[v3,v6] 53) λb25 w26=>dO (.slice (some ⟨b25,0,none⟩) 2 2) λl28=>kH 0 w26 λI30 m31 ε ι=>bC (decide (ε< (l28:Int))) (cJ (.slice (some ⟨b25,0,none⟩) 2 2) ε λb34 o35=>bz ι b34 (o35+ε.toNat* 1) λv38=>bH v38 λb39 o40=>bz ι b39 (o40+1) λv41=>dO v41 λl43=>kH 0 ι λI45 m46 ζ Z=>bC (decide (ζ< (l43:Int))) (∃κ:Sl,(cJ v41 ζ λb50 o51=>qb Z b50 (o51+ζ.toNat* 1) λG=>bz Z W 2 λv55=>∃(r56:Nat) (m57:Value->Option Value),v55= .map (some r56)/\IsMap Z r56 .string m57/\∃y58:Value,∃g59:Bool,((g59=true/\m57 (.string (ai G))=some y58)\/(g59=false/\m57 (.string (ai G))=none/\y58=(.slice none 0 0)))/\bC (!g59) (ja Z λH ψ=>dC H W 2 λη=>dC H W 1 λv63=>bH v38 λb64 o65=>dC H b64 (o65+2) λv66=>(cc ψ (.cells #[(.string (ai G))] 9) λb67 μ=>H μ/\(iS 9 1 16 μ v63 (.slice (some ⟨b67,0,none⟩) 1 1) λv74 ω=>H ω/\∃(r76:Nat) (m77:Value->Option Value),v66= .map (some r76)/\IsMap ω r76 .string m77/\∃y78:Value,∃g79:Bool,((g79=true/\m77 (.string (ai G))=some y78)\/(g79=false/\m77 (.string (ai G))=none/\y78=(.slice none 0 0)))/\H ω/\ay v74=true/\fH ω W 1 v74 λw81=>∃(ν:Nat) (m83:Value->Option Value),η= .map (some ν)/\IsMap w81 ν .string m83/\∀(v84:Value) (s85:Int) (θ:World),IsMap θ ν .string (bR m83 (.string (ai G)) v84)->bw w81 θ ν->nI θ ν s85 (.string (ai G))->∃(ξ:Nat) (d88:TypeDesc) (m89:Value->Option Value) (q90:Value),η= .map (some ξ)/\IsMap θ ξ d88 m89/\nI θ ξ s85 q90/\∀w91:World,IsMap w91 ξ d88 (bR m89 q90 y78)->bw θ w91 ξ->κ w91)/\(∃(r92:Nat) (m93:Value->Option Value),v66= .map (some r92)/\IsMap μ r92 .string m93/\∃y94:Value,∃g95:Bool,((g95=true/\m93 (.string (ai G))=some y94)\/(g95=false/\m93 (.string (ai G))=none/\y94=(.slice none 0 0)))/\H μ/\iS 9 1 16 μ v63 (.slice (some ⟨b67,0,none⟩) 1 1) λv101 w102=>H w102/\ay v101=true/\fH w102 W 1 v101 λw104=>∃(α:Nat) (m106:Value->Option Value),η= .map (some α)/\IsMap w104 α .string m106/\∀(v107:Value) (s108:Int) (J:World),IsMap J α .string (bR m106 (.string (ai G)) v107)->bw w104 J α->nI J α s108 (.string (ai G))->∃(β:Nat) (d111:TypeDesc) (m112:Value->Option Value) (q113:Value),η= .map (some β)/\IsMap J β d111 m112/\nI J β s108 q113/\∀ο:World,IsMap ο β d111 (bR m112 q113 y94)->bw J ο β->κ ο))/\(∃(r115:Nat) (ς:Value->Option Value),v66= .map (some r115)/\IsMap ψ r115 .string ς/\∃υ:Value,∃g118:Bool,((g118=true/\ς (.string (ai G))=some υ)\/(g118=false/\ς (.string (ai G))=none/\υ=(.slice none 0 0)))/\H ψ/\cc ψ (.cells #[(.string (ai G))] 9) λb119 w120=>H w120/\iS 9 1 16 w120 v63 (.slice (some ⟨b119,0,none⟩) 1 1) λv126 w127=>H w127/\ay v126=true/\fH w127 W 1 v126 λw129=>∃(γ:Nat) (m131:Value->Option Value),η= .map (some γ)/\IsMap w129 γ .string m131/\∀(v132:Value) (s133:Int) (V:World),IsMap V γ .string (bR m131 (.string (ai G)) v132)->bw w129 V γ->nI V γ s133 (.string (ai G))->∃(δ:Nat) (d136:TypeDesc) (m137:Value->Option Value) (q138:Value),η= .map (some δ)/\IsMap V δ d136 m137/\nI V δ s133 q138/\∀φ:World,IsMap φ δ d136 (bR m137 q138 υ)->bw V φ δ->κ φ)) (κ Z))/\∀(χ:World),κ χ->a7 (ζ+1)/\I45 (ζ+1) χ/\m46 (ζ+1) χ< m46 ζ Z) (a7 (ε+1)/\I30 (ε+1) Z/\m31 (ε+1) Z< m31 ε ι)) (fC 105 #[(.pointer (some ⟨W,0,none⟩))] ι λw141=>R ((.pointer (some ⟨W,0,none⟩))) true w141))) (R (.pointer none) false w8)):
  Sm 57 #[(.string (ai p1)),(.string (ai q2))] w (an [.v,.b] R):=
 D5 (bf [(8,[(53,.i)]),(11,[(62,.i)])] [(16,[])] [(5,true,.lt 0 (.lt 1 (.lt 2 (.lt 3 (.lt 4 (.lt 5 (.lt 6 (.lt 7 (.one .g 8 (.lt 9 (.one .g 10 (.lt 11 .done)))))))))))),(15,true,.lt 0 (.lt 1 (.lt 2 (.lt 3 (.lt 4 (.lt 5 (.lt 6 (.lt 7 (.lt 8 (.lt 9 (.lt 10 (.lt 11 (.lt 12 (.lt 15 (.lt 16 (.lt 17 (.lt 18 (.lt 19 (.br .g 13 (.br .g 14 (.one .g 20 (.lt 21 (.lt 22 (.lt 23 (.one .n 24 (.one .n 25 (.lt 26 (.one .n 27 .done)))))))) (.one .g 20 (.one .g 14 (.lt 21 (.lt 22 (.lt 23 (.one .n 24 (.one .n 25 (.lt 26 (.one .n 27 .done)))))))))) (.one .g 20 (.one .g 13 (.one .g 14 (.lt 21 (.lt 22 (.lt 23 (.one .n 24 (.one .n 25 (.lt 26 (.one .n 27 .done)))))))))))))))))))))))))))))]) [.tmp 4 .v,.tmp 5 .b] [.s p1,.s q2] Tryz.func57 (by kernel_rfl) h
end Go.Proofs.YtdecokaadekjnaaGreat
namespace Go.Proofs.YtdecokaadekjnaaGreat
open Go Go.RowKit T Classical
structure MM (w:World)(b r:Nat)(all:List Tx)(mm:Value->Option Value):Prop where
 c2:w.cell? ⟨b,2,none⟩=some (.map (some r))
 lt:b< w.heap.size
 mp:IsMap w r .string mm
 nx:∀s∈all,∃v l,mm (.string (ai s))=some v/\sO s=some l/\(∀x∈l,x∈all)/\Strs w v l
theorem MM.ex {w w':World}{b r:Nat}{all:List Tx}{mm:Value->Option Value}(h:MM w b r all mm)(x:Ex w w'):MM w' b r all mm:=by
 have :=x.size;have :=h.lt;refine⟨by rw [x.cell (a:=⟨b,2,none⟩) h.lt];exact h.c2,by omega,aS h.mp (x.block r (bS h.mp)),λs G=>?_⟩;obtain⟨v,l,H,h2,J,h4⟩:=h.nx s G;exact⟨v,l,H,h2,J,h4.ex x⟩
theorem Hn {w:World}{b r:Nat}{all:List Tx}{mm:Value->Option Value}(h:MM w b r all mm)(hl:all.length<=120){s:Tx}(hs:s∈all){R:Value->Sl}
  (hR:∀v l w',Ex w w'->Own w.heap.size w' v l->(∀t,t∈l↔n9 s t)->l.length<=120->R v w'):
  Sm 106 #[ptr b,.string (ai s)] w (an [.v] R):=by
 refine og _ s w R ?_;dsimp only [go_sem];dsimp only [go_sem,UInt8.reduceOfNat,UInt32.reduceOfNat,Nat.reduceAdd];intro b3 w4 ο μ;have x4:Ex w w4:=μ▸Ex.alloc w _;have hcl:Cl all:=λs hs=>by obtain⟨v,l,_,h2,h3,_⟩:=h.nx s hs;exact⟨l,h2,h3⟩
 refine⟨λo i w'=>∃(ol:List Tx) (j:Nat),i=j/\j<=ol.length/\Ex w w'/\Own w.heap.size w' o ol/\ol.Nodup/\(∀t∈ol,n9 s t)/\s∈ol/\∀k (hk:k< ol.length),k< j->∀m∈B3 ol[k],m∈ol,λ _ i _=>(121 - i).toNat,
  ⟨[s],0,rfl,by simp,x4,Own.one (OQ _) ο μ,by simp,λt W=>by cases OO.1 W;exact .refl _,by simp,λk _ hk=>by omega⟩,λo i w9 hI=>?_⟩
 clear μ ο;obtain⟨ol,j,rfl,hj,x9,o9,ς,Z,υ,ζ⟩:=hI;have η:∀{l:List Tx},(∀t∈l,n9 s t)->∀t∈l,t∈all:=λh t W=>hcl.MV hs (h t W)
 have θ:∀{l:List Tx},l.Nodup->(∀t∈l,n9 s t)->l.length<=120:=λh1 h2=>by
  have :=h1.length_le_of_subset (η h2);omega
 have hol:=θ ς Z;obtain⟨a,cap,hv⟩:=o9.strs.slice;refine⟨a,_,cap,hv,λhlt=>?_,λhge=>?_⟩;rotate_left
 ·have e:=oE hge (by omega);refine hR o ol w9 x9 o9 (λt=>⟨Z t,λW=>?_⟩) hol
  induction W with
  | refl=>exact υ
  | step _ hu ih=>
   obtain⟨k,hk,rfl⟩:=PD.1 ih;exact ζ k hk (by omega) _ hu
 have ν:=oL hlt;obtain⟨bo,oo,co,e1,e2,e3⟩:=o9.strs.at ν;obtain⟨vn,l,hn1,φ,hn3,χ⟩:=h.nx _ (η Z _ (OP ν));have ψ:=zx φ;have hll:=pg φ;refine⟨λw'=>Ex w9 w',λw14 ι=>⟨ι▸Ex.drew w9,b,0,rfl,_,λw' x=>((h.ex x9).ex x).c2,bo,oo,_,co,e1,by omega,by omega,ol[j],λw' x=>?_,?_⟩⟩
 ·rw [x.cell (a:=⟨bo,_,none⟩) e2,Pn,OU];exact e3
 have ω:Ex w9 w14:=ι▸Ex.drew w9;have α:=Ex.trans x9 ω;have n14:=χ.ex α;obtain⟨al,capl,hvl⟩:=n14.slice;refine⟨r,mm,rfl,(h.ex α).mp,vn,true,.inl ⟨rfl,hn1⟩,al,_,capl,hvl,λo' x w'=>∃(G:List Tx) (i:Nat),x=i/\i<=l.length/\Ex w w'/\Own w.heap.size w' o' G/\G.Nodup/\(∀t∈G,n9 s t)/\ol<+:G/\∀m∈l.take i,m∈G,λ _ x _=>(l.length - x).toNat,
  ⟨ol,0,rfl,Px _,α,o9.ex ω,ς,Z,Ry _,by simp⟩,λo' x w34 hI=>?_⟩
 obtain⟨G,i,rfl,hi,β,γ,J,V,H,δ⟩:=hI;have hol':=θ J V;have hple:=H.length_le;refine⟨λhlt2=>?_,λhge2=>?_⟩;rotate_left
 ·have e:=oE hge2 (by omega);subst e;rw [Pa]at δ;refine⟨by omega,⟨G,j+1,by omega,by omega,β,γ,J,V,H.subset υ,λk hk hkj m hm=>?_⟩,by show(121 - ((j:Int)+1)).toNat< (121 - (j:Int)).toNat;omega⟩;have hko:k< ol.length:=by omega
  have ek:G[k]=ol[k]:=(H.getElem hko).symm;rw [ek]at hm;by_cases ekj:k=j
  ·subst ekj;exact δ m (by rw [<-ψ];exact hm)
  ·exact H.subset (ζ k hko (by omega) m hm)
 have ε:=oL hlt2;have hm2:=@tN l.length i (by omega);have hrl:n9 s l[i]:= .step (Z _ (OP ν)) (by rw [ψ];exact OP ε);refine(χ.ex β).get (Ex.refl _) (PU i) (gE ε) (Q:=λn=>_) (Eg γ.strs (by omega) ⟨λhq b42 w43 hb42 κ=>?_,λhq=>?_⟩)
 ·have hq:l[i]∉G:=by simpa using hq
  have ξ:Ex w34 w43:=κ▸Ex.alloc w34 _;have s34:=β.size;have s43:=ξ.size;refine Own.push (γ.ex ξ) (by omega) (Strs.one hb42 κ) (by simp only [P5];omega) λv' w50 b50 o50 _ _=>⟨by omega,⟨G++[l[i]],i+1,by omega,by omega,Ex.below (Ex.trans β ξ) b50,o50,?_,λt W=>?_,H.trans (Sb _ _),λm hm=>?_⟩,hm2⟩
  ·exact Pp.2 ⟨J,by simp,λx hx y hy=>by cases OO.1 hy;exact λe=>hq (e▸hx)⟩
  ·rcases OS.1 W with W | W
   ·exact V t W
   ·rw [OO.1 W];exact hrl
  ·rw [OK ε]at hm;rcases OS.1 hm with hm | hm
   ·exact Pm _ (δ m hm)
   ·exact Pf _ hm
 ·have hq:l[i]∈G:=by simpa using hq
  refine⟨by omega,⟨G,i+1,by omega,by omega,β,γ,J,V,H,λm hm=>?_⟩,hm2⟩;rw [OK ε]at hm;rcases OS.1 hm with hm | hm
  ·exact δ m hm
  ·rw [OO.1 hm];exact hq
theorem ke.or {x y:UInt32}{p q:UInt8->Prop}[DecidablePred p][DecidablePred q](h:ke x λc=>decide (p c))(k:ke y λc=>decide (q c)):ke (x ||| y) λc=>decide (p c\/q c):=by
 intro c hc;rw [Bo,QY.2 (DR _ _),Bool.decide_and,h c hc,k c hc];show(!decide (p c)&& !decide (q c))= !decide (p c\/q c);rw [Bool.decide_or,Bool.not_or]
theorem LB {x y:UInt32}{f:Tk}(h:ke x f)(k:ke y f)(W:x.toNat< 67108864)(Z:y.toNat< 67108864):x=y:=by
 apply UInt32.toNat_inj.1;apply Nat.eq_of_testBit_eq;intro i;by_cases hi:i< 26
 ·have hc:lt (UInt8.ofNat (97+i))=true:=by
   have:∀i,i< 26->lt (UInt8.ofNat (97+i))=true:=by decide
   exact this i hi
  have e:(UInt8.ofNat (97+i)).toNat - 97=i:=by rw [PT];omega
  have key:∀z:UInt32,(z &&& nC (UInt8.ofNat (97+i))=0)↔z.toNat.testBit i=false:=λz=>by
   rw [<-UInt32.toNat_inj,UInt32.toNat_and,Aa hc,e];show z.toNat &&& 2^i=0↔_;constructor
   ·intro H;have :=PS (λn=>n.testBit i) H;simpa [Nat.testBit_and,Nat.testBit_two_pow_self]using this
   ·intro H;apply Nat.eq_of_testBit_eq;intro j;rw [Nat.testBit_and,Nat.testBit_two_pow];by_cases J:i=j
    ·subst J;simp [H]
    ·simp [J]
  have h2:=QY.1 ((h _ hc).trans (k _ hc).symm);have V:=(key x).symm.trans (h2.trans (key y));cases e1:x.toNat.testBit i<;>cases e2:y.toNat.testBit i<;>rw [e1,e2]at V<;>first | rfl | (exact absurd V (by decide))
 ·have G:∀z:UInt32,z.toNat< 67108864->z.toNat.testBit i=false:=λz hz=>Nat.testBit_lt_two_pow (O' hz (show 2^26<=2^i from Nat.pow_le_pow_right (by omega) (by omega)))
  rw [G x W,G y Z]
theorem H3 {w:World}{b r:Nat}{all:List Tx}{mm:Value->Option Value}(h:MM w b r all mm)(hl:all.length<=120)(α:∀s∈all,St s){s:Tx}(Z:s∈all){k:UInt8}(hk:k≠126){R:UInt32->Sl}
  (hR:∀x w',Ex w w'->ke x (λc=>decide (c∈pV k s))->x.toNat< 67108864->R x w'):
  Sm 58 #[ptr b,.string (ai s),.int .u8 k.toNat] w (an [.w] R):=by
 refine nZ _ s k w R ?_;dsimp only [go_sem];dsimp only [go_sem,UInt8.reduceOfNat,UInt32.reduceOfNat,Nat.reduceAdd];have β:Cl all:=λs Z=>by obtain⟨v,l,_,h2,h3,_⟩:=h.nx s Z;exact⟨l,h2,h3⟩
 refine Hn h hl Z λv l w5 x5 o5 hm ζ=>?_
 obtain⟨a,cap,hv⟩:=o5.strs.slice;refine⟨a,_,cap,hv,λo x w'=>∃j:Nat,x=j/\j<=l.length/\Ex w5 w'/\o.toNat< 67108864/\ke o λc=>decide (∃t∈l.take j,c∈lR k t),λ _ x _=>(l.length - x).toNat,⟨0,rfl,Px _,Ex.refl _,by decide,Bv λc ⟨t,ht,_⟩=>by simp at ht⟩,λo x γ hI=>?_⟩;obtain⟨j,rfl,hj,H,ho,J⟩:=hI;refine⟨λV=>?_,λδ=>?_⟩;rotate_left
 ·have e:=oE δ (by omega);rw [e,Pa]at J;refine hR o γ (Ex.trans x5 H) (J.cg λc=>?_) ho;rw [Ek];exact⟨fun⟨t,G,h2⟩=>⟨t,(hm t).1 G,h2⟩,fun⟨t,G,h2⟩=>⟨t,(hm t).2 G,h2⟩⟩
 have W:=oL V;refine o5.strs.get H (PU j) (gE W) (Q:=λn=>_) ?_;obtain⟨t,ok,et⟩:=α _ (β.MV Z ((hm _).1 (OP W)));rw [<-et];have θ:=ok.size;have hlen:=ok.len;refine Cf ok.al (by omega) (by omega) λb1 w1 x1 hb st=>Jg ok st (λg hg=>hg.2.2) hk λw2 x2=>?_
 have V:∀c∈Fy k t,lt c=true:=λc hc=>HS ok.su ((EF ok.su).1 hc)
 have η:(Fy k t).length<=26:=by
  have:nA.length=26:=by simp [nA]
  exact this▸QI _ _
 refine Jm V (by omega) λy hy ε=>⟨by omega,⟨j+1,by omega,by omega,Ex.trans H (Ex.trans x1 x2),La ho ε,?_⟩,tN (by omega)⟩
 refine(J.or hy).cg λc=>?_
 rw [OK W,<-et];simp only [OS,OO];constructor
 ·rintro(⟨u,G,h2⟩ | G)
  ·exact⟨u,.inl G,h2⟩
  ·exact⟨_,.inr rfl,by rw [y7 ok];exact G⟩
 ·rintro⟨u,G | rfl,h2⟩
  ·exact .inl ⟨u,G,h2⟩
  ·rw [y7 ok]at h2;exact .inr h2
abbrev tP:Nat:=87
abbrev aT:TypeDesc:= .array 2 9
def DV (s t:Tx):Value:= .agg #[.string (ai s),.string (ai t)]
theorem Kg {s t G H:Tx}(h:DV s t=DV G H):s=G/\t=H:=by
 unfold DV at h;simp only [Value.agg.injEq,Array.mk.injEq,PC,QM,Rp]at h;exact⟨eH h.1,eH h.2⟩
structure G3 (w:World)(ra b r:Nat)(vo:Value)(all:List Tx)(mm:Value->Option Value):Prop where
 nm:MM w b r all mm
 c1:w.cell? ⟨b,1,none⟩=some vo
 so:Strs w vo all
 c5:w.cell? ⟨b,5,none⟩=some (.map (some ra))
 nb:b≠ra
 nr:r≠ra
 no:∀g,vo.ownBlock=some g->g≠ra
 nn:∀s∈all,∀v,mm (.string (ai s))=some v->∀g,v.ownBlock=some g->g≠ra
theorem G3.kp {w w':World}{ra b r:Nat}{vo:Value}{all:List Tx}{mm:Value->Option Value}(h:G3 w ra b r vo all mm)(k:Kp w w' λg=>g=ra):G3 w' ra b r vo all mm:=by
 have s:=k.size;have lt:=h.nm.lt;have eb:=k.block b lt h.nb;have c:∀j,w'.cell? ⟨b,j,none⟩=w.cell? ⟨b,j,none⟩:=λj=>OG (w:=w) eb
 refine⟨⟨by rw [c];exact h.nm.c2,by omega,aS h.nm.mp (k.block r (bS h.nm.mp) h.nr),λx G=>?_⟩,by rw [c];exact h.c1,h.so.zK k h.no,by rw [c];exact h.c5,h.nb,h.nr,h.no,h.nn⟩;obtain⟨v,l,H,h2,J,h4⟩:=h.nm.nx x G;exact⟨v,l,H,h2,J,h4.zK k (h.nn x G v H)⟩
def uz (w:World)(ra:Nat)(all:List Tx)(P:Tx->Tx->Prop)(A:Tx->Tx->Option Nat):Prop:=
 ∃m,IsMap w ra aT m/\∀s∈all,∀t∈all,m (DV s t)=if P s t then(A s t).map iv else none
section
variable {w w':World} {ra:Nat} {all:List Tx} {P:Tx->Tx->Prop} {A:Tx->Tx->Option Nat}
theorem uz.ex (h:uz w ra all P A)(x:Ex w w'):uz w' ra all P A:=by
 obtain⟨m,G,h2⟩:=h;exact⟨m,aS G (x.block ra (bS G)),h2⟩
theorem uz.congr {G:Tx->Tx->Prop}{H:Tx->Tx->Option Nat}(h:uz w ra all P A)(e:∀s∈all,∀t∈all,(if P s t then(A s t).map iv else none)=if G s t then(H s t).map iv else none):uz w ra all G H:=by
 obtain⟨m,W,h2⟩:=h;exact⟨m,W,λs J t V=>by rw [h2 s J t V,e s J t V]⟩
theorem uz.set {m:Value->Option Value}(h:uz w ra all P A)(hm:IsMap w ra aT m){s t:Tx}{n:Nat}(G:IsMap w' ra aT (bR m (DV s t) (.int .i64 n))):uz w' ra all (λa b=>P a b\/a=s/\b=t) (λa b=>if a=s/\b=t then some n else A a b):=by
 obtain⟨m',H,h2⟩:=h;have e:m'=m:=(fI H).symm.trans (fI hm);subst e;refine⟨_,G,λa ha b hb=>?_⟩;unfold bR;by_cases e:a=s/\b=t
 ·obtain⟨rfl,rfl⟩:=e;rw [Pj rfl,Pj (.inr ⟨rfl,rfl⟩)];simp only [and_self,Qw,QB]
 ·rw [O1 λh=>e (Kg h),h2 a ha b hb];simp only [e,Q6,Rm]
end
theorem N8 {w:World}{b2 b ra:Nat}{m:Value->Option Value}{s t:Tx}{a:Option Nat}(H:w.cell? ⟨b2,0,none⟩=some (ptr b))(h5:w.cell? ⟨b,5,none⟩=some (.map (some ra)))(hm:IsMap w ra aT m)(G:m (DV s t)=a.map iv){R:Bool->Sl}(hR:R a.isSome w):
  Sm 156 #[.string (ai s),.string (ai t),ptr b2] w (an [.b] R):=by
 refine kU s t _ w R ?_;dsimp only [go_sem];dsimp only [go_sem,UInt8.reduceOfNat,UInt32.reduceOfNat,Nat.reduceAdd];refine⟨b2,0,rfl,_,H,b,0,rfl,_,by rw [Ph];exact h5,ra,m,rfl,hm,?_⟩;cases a with
 | none=>exact⟨0,false,.inr ⟨rfl,G,rfl⟩,hR⟩
 | some n=>exact⟨n,true,.inl ⟨rfl,G⟩,hR⟩
structure KP (w:World)(ra b b2 b6 b8 b105:Nat)(all:List Tx)(mf:Value->Option Value)(A:Tx->Tx->Option Nat):Prop where
 h2:w.cell? ⟨b2,0,none⟩=some (ptr b)
 l2:b2< w.heap.size
 h5:w.cell? ⟨b,5,none⟩=some (.map (some ra))
 lb:b< w.heap.size
 ap:uz w ra all (λ _ _=>True) A
 h8:w.cell? ⟨b8,0,none⟩=some (.map (some b6))
 l8:b8< w.heap.size
 mq:IsMap w b6 .string mf
 fr:∀s∈all,∃v l,mf (.string (ai s))=some v/\Strs w v l/\(∀t,t∈l↔n9 s t)/\l.length<=120
 hc:w.cell? ⟨b105,0,none⟩=some (.func (.func 156) #[] #[ptr b2])
 lc:b105< w.heap.size
theorem KP.ex {w w':World}{ra b b2 b6 b8 b105:Nat}{all:List Tx}{mf:Value->Option Value}{A:Tx->Tx->Option Nat}(h:KP w ra b b2 b6 b8 b105 all mf A)(x:Ex w w'):KP w' ra b b2 b6 b8 b105 all mf A:=by
 have s:=x.size;have :=h.l2;have :=h.lb;have :=h.l8;have :=h.lc;refine⟨by rw [x.cell (a:=⟨b2,0,none⟩) h.l2];exact h.h2,by omega,by rw [x.cell (a:=⟨b,5,none⟩) h.lb];exact h.h5,by omega,h.ap.ex x,by rw [x.cell (a:=⟨b8,0,none⟩) h.l8];exact h.h8,by omega,aS h.mq (x.block b6 (bS h.mq)),λt G=>?_,by rw [x.cell (a:=⟨b105,0,none⟩) h.lc];exact h.hc,by omega⟩;obtain⟨v,l,H,h2,J⟩:=h.fr t G;exact⟨v,l,H,h2.ex x,J⟩
theorem KP.is {w:World}{ra b b2 b6 b8 b105:Nat}{all:List Tx}{mf:Value->Option Value}{A:Tx->Tx->Option Nat}(h:KP w ra b b2 b6 b8 b105 all mf A){s t:Tx}(G:s∈all)(H:t∈all){R:Bool->Sl}(hR:R (A s t).isSome w):
  Sm 156 #[.string (ai s),.string (ai t),ptr b2] w (an [.b] R):=by
 obtain⟨m,J,h2⟩:=h.ap;exact N8 h.h2 h.h5 J (by rw [h2 s G t H,Pj trivial]) hR
theorem Iw {α:Type}{a:Option α}{d:Decidable (a=none)}:@decide (a=none) d= !a.isSome:=by
 cases a
 ·exact PL rfl
 ·exact PX (by simp)
theorem MC {w:World}{ra b b2 b6 b8 b105 G:Nat}{all:List Tx}{mf:Value->Option Value}{A:Tx->Tx->Option Nat}(h:KP w ra b b2 b6 b8 b105 all mf A){k l:Tx}(J:k∈all)(V:l∈all)(H:w.cell? ⟨G,0,none⟩=some (.string (ai k))){R:Bool->Sl}(hR:R (!(A k l).isSome) w):
  Sm 158 #[.string (ai l),ptr b105,ptr G] w (an [.b] R):=by
 refine jq l _ _ w R ?_;dsimp only [go_sem];dsimp only [go_sem,UInt8.reduceOfNat,UInt32.reduceOfNat,Nat.reduceAdd];exact⟨b105,0,rfl,_,h.hc,G,0,rfl,k,H,156,[ptr b2],rfl,by kernel_rfl,h.is J V hR⟩
theorem dT {p:Prop}{d:Decidable p}(h:p):@decide p d=true:=PL h
theorem dF {p:Prop}{d:Decidable p}(h:¬p):@decide p d=false:=PX h
theorem OE {p:Prop}{d:Decidable p}(h:@decide p d=true):p:=O7 h
theorem OC {p:Prop}{d:Decidable p}(h:@decide p d=false):¬p:=O9 h
def MZ (A:Tx->Tx->Option Nat)(m k:Tx):Prop:=¬∃n,n9 m n/\A k n=none
theorem Nj {w:World}{ra b b2 b6 b8 b105 bm:Nat}{all:List Tx}{mf:Value->Option Value}{A:Tx->Tx->Option Nat}(h:KP w ra b b2 b6 b8 b105 all mf A)(V:Cl all){k m:Tx}(hk:k∈all)(hm:m∈all)(W:w.cell? ⟨bm,0,none⟩=some (.string (ai m)))(Z:bm< w.heap.size){R:Bool->Sl}(hR:∀w',Ex w w'->R (decide (MZ A m k)) w'):
  Sm 157 #[.string (ai k),ptr b8,ptr bm,ptr b105] w (an [.b] R):=by
 refine kV k _ _ _ w R ?_;dsimp only [go_sem];dsimp only [go_sem,UInt8.reduceOfNat,UInt32.reduceOfNat,Nat.reduceAdd];intro b5 w6 α H;have x6:Ex w w6:=H▸Ex.alloc w _;have G:=h.ex x6;have s6:w6.heap.size=w.heap.size+1:=by rw [H,size_alloc]
 have c5:w6.cell? ⟨b5,0,none⟩=some (.string (ai k)):=by rw [H,α];exact aa rfl
 obtain⟨v,l,h1,h2,h3,h4⟩:=G.fr m hm;refine⟨b8,0,rfl,_,G.h8,bm,0,rfl,m,by rw [x6.cell (a:=⟨bm,0,none⟩) Z];exact W,b6,mf,rfl,G.mq,v,true,.inl ⟨rfl,h1⟩,?_⟩;refine Iz (ca:=[ptr b105,ptr b5]) h2 (by omega) (by kernel_rfl) (λn=>A k n=none) (λn hn w' Q x hQ=>?_) λw' x=>?_
 ·refine MC (G.ex x) hk (V.MV hm ((h3 n).1 hn)) (by rw [x.cell (a:=⟨b5,0,none⟩) (show b5< _ by omega)];exact c5) ?_;have :=hQ w' (Ex.refl _)
  rwa [Iw]at this
 ·have :=hR w' (Ex.trans x6 x);have e:(∃s∈l,A k s=none)↔∃n,n9 m n/\A k n=none:=⟨fun⟨n,h5,G⟩=>⟨n,(h3 n).1 h5,G⟩,fun⟨n,h5,G⟩=>⟨n,(h3 n).2 h5,G⟩⟩
  by_cases J:∃s∈l,A k s=none
  ·rw [dF (λhn:MZ A m k=>hn (e.1 J))]at this;rw [dT J];exact this
  ·rw [dT (show MZ A m k from λh=>J (e.2 h))]at this;rw [dF J];exact this
def B4 (L:List (Tx×Tx)):List Value:=L.flatMap λp=>[sv p.1,sv p.2]
theorem DC (L:List (Tx×Tx)):(B4 L).length=L.length* 2:=by
 unfold B4
 induction L with
 | nil=>rfl
 | cons p L G=>rw [Qh,OM,G,OF];simp only [OF,OX];omega
theorem ER:∀{L:List (Tx×Tx)} {i:Nat} (h:i< L.length),(B4 L)[i* 2]?=some (sv L[i].1)/\(B4 L)[i* 2+1]?=some (sv L[i].2)
 | p::L,0,_=>⟨rfl,rfl⟩
 | p::L,i+1,h=>by
  have h':i< L.length:=by simpa using h
  obtain⟨G,h2⟩:=ER h';have e:B4 (p::L)=sv p.1::sv p.2::B4 L:=rfl;rw [e,show(i+1)* 2=i* 2+1+1 by omega];exact⟨G,h2⟩
def gn (B:Nat)(w:World)(v:Value)(L:List (Tx×Tx)):Prop:=w.ownsRow B tP 2 v L.length (B4 L)
theorem gn.ex {B:Nat}{w w':World}{v:Value}{L:List (Tx×Tx)}(h:gn B w v L)(x:Ex w w'):gn B w' v L:=by
 refine⟨h.1,?_⟩;rcases h.2 with H | ⟨g,cap,cur,rfl,hb,G,rest⟩
 ·exact .inl H
 ·exact .inr ⟨g,cap,cur,rfl,hb,by rw [x.block g (Ps.1 G).1];exact G,rest⟩
theorem gn.kp {B:Nat}{w w':World}{S:Nat->Prop}{v:Value}{L:List (Tx×Tx)}(h:gn B w v L)(x:Kp w w' S)(H:∀g,B<=g->¬S g):gn B w' v L:=by
 refine⟨h.1,?_⟩;rcases h.2 with J | ⟨g,cap,cur,rfl,hb,G,rest⟩
 ·exact .inl J
 ·exact .inr ⟨g,cap,cur,rfl,hb,by rw [x.block g (Ps.1 G).1 (H g hb)];exact G,rest⟩
theorem gn.slice {B:Nat}{w:World}{v:Value}{L:List (Tx×Tx)}(h:gn B w v L):∃a cap,v= .slice a L.length cap:=by
 rcases h.2 with⟨G,H⟩ | ⟨g,cap,cur,rfl,_⟩
 ·exact⟨_,_,by rw [G,H]⟩
 ·exact⟨_,_,rfl⟩
theorem gn.block {B:Nat}{w:World}{v:Value}{L:List (Tx×Tx)}(h:gn B w v L):∀g,v.ownBlock=some g->B<=g/\g< w.heap.size:=Rx h
theorem gn.at {B:Nat}{w:World}{v:Value}{L:List (Tx×Tx)}(h:gn B w v L){i:Nat}(hi:i< L.length):∃g cap,v= .slice (some ⟨g,0,none⟩) L.length cap/\w.cell? ⟨g,0+(i:Int).toNat* 2,none⟩=some (sv L[i].1)/\w.cell? ⟨g,0+(i:Int).toNat* 2+1,none⟩=some (sv L[i].2):=by
 rcases h.2 with⟨V,W⟩ | ⟨g,cap,cur,rfl,hb,G,Z,h2,h3,h4⟩
 ·omega
 ·have key:∀j u,(B4 L)[j]?=some u->w.cell? ⟨g,j,none⟩=some u:=λj u hu=>by
   have hj:j< (B4 L).length:=(PB.1 hu).1;unfold World.cell?;simp only [G];rw [<-h4,Qm (by rw [DC]at hj;exact hj),Qj]at hu;exact hu
  obtain⟨H,J⟩:=ER hi;refine⟨g,cap,rfl,?_,?_⟩
  ·rw [show 0+(i:Int).toNat* 2=i* 2 by omega];exact key _ _ H
  ·rw [show 0+(i:Int).toNat* 2+1=i* 2+1 by omega];exact key _ _ J
theorem gn.Nc {w w':World}{B b:Nat}(hB:B<=w.heap.size)(hb:b=w.heap.size)(h:w'=w.alloc (.cells #[] tP)):gn B w' (.slice (some ⟨b,0,none⟩) 0 0) []:=by
 subst hb h;refine⟨rfl,.inr ⟨_,0,#[],rfl,hB,?_,by simp,by unfold maxLen;omega,rfl,rfl⟩⟩;unfold World.alloc;simp
theorem gn.push {B b:Nat}{w w1:World}{v:Value}{L:List (Tx×Tx)}(h:gn B w v L)(hB:B<=w.heap.size){n m:Tx}(hb:b=w.heap.size)(G:w1=w.alloc (.cells #[sv n,sv m,sv m,sv n] tP))(hl:L.length<=1000000000){K:Value->Sl}
  (J:∀v' w',gn B w' v' (L++[(n,m),(m,n)])->Below B w1 w'->K v' w'):iS tP 2 32 w1 v (.slice (some ⟨b,0,none⟩) 2 2) K:=by
 have H:Ex w w1:=G▸Ex.alloc w _;have s1:=H.size;refine⟨B,L.length,2,B4 L,B4 [(n,m),(m,n)],h.ex H,by omega,⟨by rw [DC];rfl,rfl,.inr ⟨b,0,2,rfl,λj u hu=>?_⟩⟩,⟨by unfold maxLen;omega,by omega⟩,λv' w' V W hn=>J v' w' ?_ ?_⟩
 ·rw [Ph,G,hb];exact aa (by rw [<-hu];simp [B4])
 ·have e:B4 (L++[(n,m),(m,n)])=B4 L++B4 [(n,m),(m,n)]:=by unfold B4;rw [P2]
  unfold gn;rw [OM,e];exact V
 ·exact Kp.below (Kp.aJ W λ _ h=>h) (by omega) λg Z e=>by have :=(h.block g e).1;omega
theorem EH {x y:UInt32}{k:UInt8}{s t:Tx}(h:ke x λc=>decide (c∈pV k s))(h':ke y λc=>decide (c∈pV k t))(G:x.toNat< 67108864)(H:y.toNat< 67108864):x=y↔pV k s=pV k t:=by
 constructor
 ·rintro rfl
  refine uD (ym _ _) (ym _ _) λc=>?_
  by_cases hc:lt c=true
  ·have :=(h c hc).symm.trans (h' c hc);simpa using this
  ·exact⟨λe=>absurd (CW e) hc,λe=>absurd (CW e) hc⟩
 ·intro e;rw [e]at h;exact LB h h' G H
def Pr (all:List Tx)(j i:Nat)(a b:Tx):Prop:=(a∈all.take j/\b∈all)\/(all[j]?=some a/\b∈all.take i)
theorem sJ {all:List Tx}{j:Nat}{a b:Tx}:Pr all j 0 a b↔a∈all.take j/\b∈all:=by unfold Pr;simp
theorem Hz {all:List Tx}{j:Nat}(h:j< all.length){a b:Tx}:Pr all j all.length a b↔Pr all (j+1) 0 a b:=by
 rw [sJ];unfold Pr;rw [Pa,OK h,OH h,OS,OO];constructor
 ·rintro(⟨G,h2⟩ | ⟨G,h2⟩)
  ·exact⟨.inl G,h2⟩
  ·exact⟨.inr (Pz G).symm,h2⟩
 ·rintro⟨G | G,h2⟩
  ·exact .inl ⟨G,h2⟩
  ·exact .inr ⟨by rw [G],h2⟩
theorem sR {all:List Tx}{j i:Nat}(hj:j< all.length)(hi:i< all.length){a b:Tx}:Pr all j (i+1) a b↔Pr all j i a b\/a=all[j]/\b=all[i]:=by
 unfold Pr;rw [OK hi,OH hj,OS,OO];constructor
 ·rintro(h | ⟨G,h2 | h2⟩)
  ·exact .inl (.inl h)
  ·exact .inl (.inr ⟨G,h2⟩)
  ·exact .inr ⟨(Pz G).symm,h2⟩
 ·rintro((h | ⟨G,h2⟩) | ⟨G,h2⟩)
  ·exact .inl h
  ·exact .inr ⟨G,.inl h2⟩
  ·exact .inr ⟨by rw [G],.inr h2⟩
theorem Ij {all:List Tx}{a b:Tx}:Pr all all.length 0 a b↔a∈all/\b∈all:=by rw [sJ,Pa]
def IM (all:List Tx):List (Tx×Tx):=all.flatMap λs=>all.map λt=>(s,t)
theorem y3 {all:List Tx}{s t:Tx}:(s,t)∈IM all↔s∈all/\t∈all:=by
 unfold IM;simp [PE]
theorem Ed {all:List Tx}(h:all.length<=120):(IM all).length<=14400:=by
 have key:∀l:List Tx,(l.flatMap λs=>all.map λt=>(s,t)).length=l.length* all.length:=by
  intro l
  induction l with
  | nil=>simp
  | cons x l G=>rw [Qh,OM,G,O8,OF,Nat.add_mul,Nat.one_mul,R4]
 unfold IM;rw [key];have :=RX h h;omega
noncomputable def uo (all:List Tx)(A:Tx->Tx->Option Nat):Nat:=(IM all).countP λp=>decide (A p.1 p.2=none)
theorem wC {α:Type}{p q:α->Bool}{l:List α}(h:∀x∈l,p x=true->q x=true){y:α}(G:y∈l)(W:q y=true)(h2:p y=false):l.countP p< l.countP q:=by
 induction l with
 | nil=>cases G
 | cons x l Z=>
  have hle:l.countP p<=l.countP q:=List.countP_mono_left λz H=>h z (OZ _ H)
  rcases O4.1 G with rfl | G
  ·rw [List.countP_cons_of_neg (by rw [h2];simp),RA W];omega
  ·have :=Z (λz H=>h z (OZ _ H)) G;by_cases J:p x=true
   ·rw [RA J,RA (h x (by simp) J)];omega
   ·rw [List.countP_cons_of_neg J];by_cases V:q x=true
    ·rw [RA V];omega
    ·rw [List.countP_cons_of_neg V];omega
theorem uz.cnt {w:World}{ra:Nat}{all:List Tx}{A:Tx->Tx->Option Nat}(h:uz w ra all (λ _ _=>True) A):((IM all).countP λp=>decide (Cu w ra (DV p.1 p.2)=none))=uo all A:=by
 obtain⟨m,G,h2⟩:=h;unfold uo;refine List.countP_congr λp H=>?_
 obtain⟨J,V⟩:=y3.1 H;rw [fI G,h2 _ J _ V,Pj trivial];cases A p.1 p.2<;>simp
def Cz (all:List Tx)(A:Tx->Tx->Option Nat)(P:Tx->Tx->Prop)(L:List (Tx×Tx)):Prop:=
 ∀s t,(s,t)∈L↔∃a b,P a b/\A a b=none/\¬Hf A a b/\((s=a/\t=b)\/(s=b/\t=a))
theorem Cz.congr {all:List Tx}{A:Tx->Tx->Option Nat}{P G:Tx->Tx->Prop}{L:List (Tx×Tx)}(h:Cz all A P L)(e:∀a b,P a b↔G a b):Cz all A G L:=λs t=>by
 rw [h s t];simp only [e]
theorem Cz.add {all:List Tx}{A:Tx->Tx->Option Nat}{P:Tx->Tx->Prop}{L:List (Tx×Tx)}(h:Cz all A P L){n m:Tx}(V:A n m=none)(h2:¬Hf A n m):Cz all A (λa b=>P a b\/a=n/\b=m) (L++[(n,m),(m,n)]):=λs t=>by
 rw [OS,h s t];constructor
 ·rintro(⟨a,b,G,H⟩ | k)
  ·exact⟨a,b,.inl G,H⟩
  ·simp only [O4,Prod.mk.injEq,QE,Q6]at k;exact⟨n,m,.inr ⟨rfl,rfl⟩,V,h2,k⟩
 ·rintro⟨a,b,G | ⟨rfl,rfl⟩,H,W,J⟩
  ·exact .inl ⟨a,b,G,H,W,J⟩
  ·right;simp only [O4,Prod.mk.injEq,QE,Q6];exact J
theorem Cz.skip {all:List Tx}{A:Tx->Tx->Option Nat}{P:Tx->Tx->Prop}{L:List (Tx×Tx)}(h:Cz all A P L){n m:Tx}(V:¬(A n m=none/\¬Hf A n m)):Cz all A (λa b=>P a b\/a=n/\b=m) L:=λs t=>by
 rw [h s t];constructor
 ·rintro⟨a,b,H,G⟩;exact⟨a,b,.inl H,G⟩
 ·rintro⟨a,b,H | ⟨rfl,rfl⟩,G,J,W⟩
  ·exact⟨a,b,H,G,J,W⟩
  ·exact absurd ⟨G,J⟩ V
theorem BY {all:List Tx}{r:Nat}{L:List (Tx×Tx)}(h:Cz all (ap r) (λa b=>a∈all/\b∈all) L){s t:Tx}(H:s∈all)(J:t∈all):(if(s,t)∈L then some (r+1)else ap r s t)=ap (r+1) s t:=by
 by_cases hm:(s,t)∈L
 ·rw [Pj hm];obtain⟨a,b,_,V,W,Z⟩:=(h s t).1 hm;rcases Z with⟨rfl,rfl⟩ | ⟨rfl,rfl⟩
  ·rw [fB V,O1 λe=>W e.1]
  ·rw [fB (by rw [xM];exact V),O1 λe=>W e.2]
 ·rw [O1 hm];cases e:ap r s t with
  | some k=>exact(kv e).symm
  | none=>
   rw [fB e,Pj];constructor
   ·exact PJ λG=>hm ((h s t).2 ⟨s,t,⟨H,J⟩,e,G,.inl ⟨rfl,rfl⟩⟩)
   ·exact PJ λG=>hm ((h s t).2 ⟨t,s,⟨J,H⟩,by rw [xM];exact e,G,.inr ⟨rfl,rfl⟩⟩)
theorem IB {all:List Tx}{r:Nat}{L:List (Tx×Tx)}(h:Cz all (ap r) (λa b=>a∈all/\b∈all) L)(H:L≠[]):uo all (ap (r+1))< uo all (ap r):=by
 obtain⟨⟨s,t⟩,hm⟩:=List.exists_mem_of_ne_nil _ H;obtain⟨a,b,⟨ha,hb⟩,J,V,W⟩:=(h s t).1 hm;refine wC (y:=(a,b)) (λp _ G=>?_) (y3.2 ⟨ha,hb⟩) (by simpa using J) ?_
 ·have G:ap (r+1) p.1 p.2=none:=by simpa using G
  cases e:ap r p.1 p.2 with
  | none=>simp [e]
  | some k=>rw [kv e]at G;cases G
 ·have:ap (r+1) a b=some (r+1):=by rw [fB J,O1 λe=>V e.1]
  simp [this]
structure R1 (w:World)(ra Q b b2 b4 b6 b8:Nat)(Pb Pq:Tx->Prop)(w':World):Prop where
 kp:Kp w w' λg=>g=ra
 lra:ra< w.heap.size
 l2:w.heap.size<=b2/\b2< Q
 l4:w.heap.size<=b4/\b4< Q
 l6:w.heap.size<=b6/\b6< Q
 l8:w.heap.size<=b8/\b8< Q
 lq:Q<=w'.heap.size
 n24:b2≠b4
 n26:b2≠b6
 n84:b8≠b4
 n86:b8≠b6
 n46:b4≠b6
 c2:w'.cell? ⟨b2,0,none⟩=some (ptr b)
 c8:w'.cell? ⟨b8,0,none⟩=some (.map (some b6))
 mb:∃m,IsMap w' b4 .string m/\∀s,Pb s->∃x y:UInt32,m (.string (ai s))=some (.agg #[.int .u32 x.toNat,.int .u32 y.toNat])/\(ke x λc=>decide (c∈pV 33 s))/\x.toNat< 67108864/\(ke y λc=>decide (c∈pV 63 s))/\y.toNat< 67108864
 mq:∃m,IsMap w' b6 .string m/\∀s,Pq s->∃v l,m (.string (ai s))=some v/\Strs w' v l/\(∀t,t∈l↔n9 s t)/\l.length<=120/\∀g,v.ownBlock=some g->Q<=g
section
variable {w w1 w2:World} {ra Q b b2 b4 b6 b8:Nat} {Pb Pq:Tx->Prop}
theorem R1.to (h:R1 w ra Q b b2 b4 b6 b8 Pb Pq w1)(k:Kp w1 w2 λg=>g=ra):R1 w ra Q b b2 b4 b6 b8 Pb Pq w2:=by
 have s:=k.size;have lra:=h.lra;obtain⟨l2,J⟩:=h.l2;obtain⟨l4,V⟩:=h.l4;obtain⟨l6,W⟩:=h.l6;obtain⟨l8,Z⟩:=h.l8;have lq:=h.lq;refine⟨Kp.trans h.kp k λ _ _ h=>h,h.lra,h.l2,h.l4,h.l6,h.l8,by omega,h.n24,h.n26,h.n84,h.n86,h.n46,by rw [OG (w:=w1) (k.block b2 (by omega) (by omega))];exact h.c2,by rw [OG (w:=w1) (k.block b8 (by omega) (by omega))];exact h.c8,?_,?_⟩
 ·obtain⟨m,G,h2⟩:=h.mb;exact⟨m,aS G (k.block b4 (by omega) (by omega)),h2⟩
 ·obtain⟨m,G,h2⟩:=h.mq;refine⟨m,aS G (k.block b6 (by omega) (by omega)),λt ht=>?_⟩;obtain⟨v,l,k1,k2,k3,k4,H⟩:=h2 t ht;exact⟨v,l,k1,k2.zK k λg hg e=>by have :=H g hg;omega,k3,k4,H⟩
theorem R1.ex (h:R1 w ra Q b b2 b4 b6 b8 Pb Pq w1)(x:Ex w1 w2):R1 w ra Q b b2 b4 b6 b8 Pb Pq w2:=h.to (Kp.af x _)
theorem R1.NL (h:R1 w ra Q b b2 b4 b6 b8 Pb Pq w1){m:Value->Option Value}(hm:IsMap w1 b4 .string m){s:Tx}{x y:UInt32}(G:IsMap w2 b4 .string (bR m (.string (ai s)) (.agg #[.int .u32 x.toNat,.int .u32 y.toNat])))(k:bw w1 w2 b4)
  (hx:ke x λc=>decide (c∈pV 33 s)) (H:x.toNat< 67108864) (hy:ke y λc=>decide (c∈pV 63 s)) (J:y.toNat< 67108864):R1 w ra Q b b2 b4 b6 b8 (λt=>Pb t\/t=s) Pq w2:=by
 have kp:=Kp.jV k;have s1:=k.size;obtain⟨l4,α⟩:=h.l4;have lq:=h.lq;refine⟨Kp.trans h.kp kp λg Z e=>by omega,h.lra,h.l2,h.l4,h.l6,h.l8,by omega,h.n24,h.n26,h.n84,h.n86,h.n46,by rw [OG (w:=w1) (k.block b2 h.n24)];exact h.c2,by rw [OG (w:=w1) (k.block b8 h.n84)];exact h.c8,⟨_,G,λt V=>?_⟩,?_⟩
 ·obtain⟨m',W,h2⟩:=h.mb;have e:m'=m:=(fI W).symm.trans (fI hm);subst e;unfold bR;by_cases e:t=s
  ·subst e;exact⟨x,y,by rw [Pj rfl],hx,H,hy,J⟩
  ·rw [O1 λh=>e (eH (Rz h))];exact h2 t (V.resolve_right e)
 ·obtain⟨m,W,h2⟩:=h.mq;refine⟨m,aS W (k.block b6 h.n46.symm),λt V=>?_⟩;obtain⟨v,l,k1,k2,k3,k4,k5⟩:=h2 t V;exact⟨v,l,k1,k2.zK kp λg Z e=>by have :=k5 g Z;omega,k3,k4,k5⟩
theorem R1.NR (h:R1 w ra Q b b2 b4 b6 b8 Pb Pq w1){m:Value->Option Value}(hm:IsMap w1 b6 .string m){s:Tx}{v:Value}{l:List Tx}(H:IsMap w2 b6 .string (bR m (.string (ai s)) v))(k:bw w1 w2 b6)
  (Z:Strs w1 v l) (hr:∀t,t∈l↔n9 s t) (hl:l.length<=120) (V:∀g,v.ownBlock=some g->Q<=g):R1 w ra Q b b2 b4 b6 b8 Pb (λt=>Pq t\/t=s) w2:=by
 have kp:=Kp.jV k;have s1:=k.size;obtain⟨l6,α⟩:=h.l6;have lq:=h.lq;refine⟨Kp.trans h.kp kp λg G e=>by omega,h.lra,h.l2,h.l4,h.l6,h.l8,by omega,h.n24,h.n26,h.n84,h.n86,h.n46,by rw [OG (w:=w1) (k.block b2 h.n26)];exact h.c2,by rw [OG (w:=w1) (k.block b8 h.n86)];exact h.c8,?_,⟨_,H,λt ht=>?_⟩⟩
 ·obtain⟨m,J,h2⟩:=h.mb;exact⟨m,aS J (k.block b4 h.n46),h2⟩
 ·obtain⟨m',J,h2⟩:=h.mq;have e:m'=m:=(fI J).symm.trans (fI hm);subst e;unfold bR;by_cases e:t=s
  ·subst e;exact⟨v,l,by rw [Pj rfl],Z.zK kp λg G e=>by have :=V g G;omega,hr,hl,V⟩
  ·rw [O1 λh=>e (eH (Rz h))];obtain⟨v,l,k1,k2,k3,k4,W⟩:=h2 t (ht.resolve_right e);exact⟨v,l,k1,k2.zK kp λg G e=>by have :=W g G;omega,k3,k4,W⟩
theorem R1.mono {G H:Tx->Prop}(h:R1 w ra Q b b2 b4 b6 b8 Pb Pq w1)(hb:∀s,G s->Pb s)(V:∀s,H s->Pq s):R1 w ra Q b b2 b4 b6 b8 G H w1:=by
 obtain⟨m,W,h2⟩:=h.mb;obtain⟨m',Z,h4⟩:=h.mq;exact⟨h.kp,h.lra,h.l2,h.l4,h.l6,h.l8,h.lq,h.n24,h.n26,h.n84,h.n86,h.n46,h.c2,h.c8,⟨m,W,λs J=>h2 s (hb s J)⟩,m',Z,λs J=>h4 s (V s J)⟩
end
theorem R1.fn {w w':World}{ra Q b r b2 b4 b6 b8 b105:Nat}{vo:Value}{all:List Tx}{mm:Value->Option Value}{A:Tx->Tx->Option Nat}(h:R1 w ra Q b b2 b4 b6 b8 (λs=>s∈all) (λs=>s∈all) w')(hb:G3 w' ra b r vo all mm)(ha:uz w' ra all (λ _ _=>True) A)(hc:w'.cell? ⟨b105,0,none⟩=some (.func (.func 156) #[] #[ptr b2]))(lc:b105< w'.heap.size):
  ∃mf,KP w' ra b b2 b6 b8 b105 all mf A:=by
 obtain⟨m,G,h2⟩:=h.mq;have lq:=h.lq;refine⟨m,h.c2,by have :=h.l2;omega,hb.c5,hb.nm.lt,ha,h.c8,by have :=h.l8;omega,G,λs H=>?_,hc,lc⟩;obtain⟨v,l,J,V,W,Z,_⟩:=h2 s H;exact⟨v,l,J,V,W,Z⟩
structure K0 (w:World)(ra Q b r b2 b4 b6 b8 b105:Nat)(vo:Value)(all:List Tx)(mm:Value->Option Value)(w':World):Prop where
 r1:R1 w ra Q b b2 b4 b6 b8 (λs=>s∈all) (λs=>s∈all) w'
 bo:G3 w' ra b r vo all mm
 hc:w'.cell? ⟨b105,0,none⟩=some (.func (.func 156) #[] #[ptr b2])
 lc:b105< w'.heap.size
 nc:b105≠ra
theorem K0.to {w w1 w2:World}{ra Q b r b2 b4 b6 b8 b105:Nat}{vo:Value}{all:List Tx}{mm:Value->Option Value}(h:K0 w ra Q b r b2 b4 b6 b8 b105 vo all mm w1)(k:Kp w1 w2 λg=>g=ra):K0 w ra Q b r b2 b4 b6 b8 b105 vo all mm w2:=by
 have s:=k.size;have :=h.lc;exact⟨h.r1.to k,h.bo.kp k,by rw [OG (w:=w1) (k.block b105 h.lc h.nc)];exact h.hc,by omega,h.nc⟩
theorem K0.ex {w w1 w2:World}{ra Q b r b2 b4 b6 b8 b105:Nat}{vo:Value}{all:List Tx}{mm:Value->Option Value}(h:K0 w ra Q b r b2 b4 b6 b8 b105 vo all mm w1)(x:Ex w1 w2):K0 w ra Q b r b2 b4 b6 b8 b105 vo all mm w2:=h.to (Kp.af x _)
theorem FQ {w w108:World}{ra Q b r b2 b4 b6 b8 b105:Nat}{vo:Value}{all:List Tx}{mm:Value->Option Value}(hcl:Cl all)(hl:all.length<=120)(hS:K0 w ra Q b r b2 b4 b6 b8 b105 vo all mm w108)(hA:uz w108 ra all (λ _ _=>True) (ap 0)){R:Sl}
  (hR:∀w',Kp w w' (λg=>g=ra)->G3 w' ra b r vo all mm->uz w' ra all (λ _ _=>True) sI->R w'):
  kH 1 w108 λI109 m110 ψ G=>cc G (.cells #[] tP) λb113 ν=>bz ν b2 0 λv115=>bH v115 λb116 o117=>bz ν b116 ((o117+0)+1) λv118=>dO v118 λl120=>vQ ((.slice (some ⟨b113,0,none⟩) 0 0)) 0 ν λI122 m123 ω η β=>bC (decide (η< (l120:Int))) (cJ v118 η λb127 o128=>qb β b127 (o128+η.toNat* 1) λs131=>bz β b2 0 λv132=>bH v132 λb133 o134=>bz β b133 ((o134+0)+1) λv135=>dO v135 λl137=>vQ ω 0 β λI139 ξ γ H Z=>bC (decide (H< (l137:Int))) (cJ v135 H λb144 o145=>qb Z b144 (o145+H.toNat* 1) λs148=>cc Z (.cells #[(.string ⟨#[]⟩)] 9) λJ θ=>fH θ J 0 (.string (ai s148)) λε=>bz ε b105 0 λv153=>qb ε J 0 λs154=>∃(f155:Nat) (c156:List Value),v153= .func (.func f155) #[] (List.toArray c156)/\hasR gj f155=true/\Db f155 (List.toArray ([(.string (ai s131)),(.string (ai s154))]++c156)) ε λq157 ο=>bC q157 (a7 (H+1)/\I139 γ (H+1) ο/\ξ γ (H+1) ο< ξ γ H Z) (bz ο b2 0 λv159=>bH v159 λb160 o161=>bz ο b160 ((o161+0)+2) λv162=>∃(r163:Nat) (m164:Value->Option Value),v162= .map (some r163)/\IsMap ο r163 .string m164/\∃y165:Value,∃g166:Bool,((g166=true/\m164 (.string (ai s131))=some y165)\/(g166=false/\m164 (.string (ai s131))=none/\y165=(.slice none 0 0)))/\Db 47 #[y165,(Value.func (Fn.func 157) #[] #[(.pointer (some ⟨b8,0,none⟩)),(.pointer (some ⟨J,0,none⟩)),(.pointer (some ⟨b105,0,none⟩))])] ο λq167 δ=>bC q167 (qb δ J 0 λs169=>qb δ J 0 λs170=>cc δ (.cells #[(.string (ai s131)),(.string (ai s169)),(.string (ai s170)),(.string (ai s131))] tP) λb171 w172=>iS tP 2 32 w172 γ (.slice (some ⟨b171,0,none⟩) 2 2) λv178 w179=>a7 (H+1)/\I139 v178 (H+1) w179/\ξ v178 (H+1) w179< ξ γ H Z) (a7 (H+1)/\I139 γ (H+1) δ/\ξ γ (H+1) δ< ξ γ H Z))) (a7 (η+1)/\I122 γ (η+1) Z/\m123 γ (η+1) Z< m123 ω η β)) (dO ω λl181=>bC (decide ((l181:Int)=0)) (R β) (dO ω λl184=>kH 0 β λI186 m187 ζ V=>bC (decide (ζ< (l184:Int))) (cJ ω ζ λb190 o191=>∃s194:aB,∃s195:aB,(World.cell? V ⟨b190,(o191+ζ.toNat* 2),none⟩=some (.string (ai s194))/\World.cell? V ⟨b190,((o191+ζ.toNat* 2)+1),none⟩=some (.string (ai s195))/\True)/\cc V (.cells #[(.string ⟨#[]⟩),(.string ⟨#[]⟩)] tP) λα ι=>zC ι α 0 2 [(.string (ai s194)),(.string (ai s195))] λκ=>ja κ λS199 w200=>dC S199 b2 0 λv201=>bH v201 λb202 o203=>dC S199 b202 (o203+5) λv204=>∃s205:aB,∃s206:aB,(∀w',S199 w'->World.cell? w' ⟨α,0,none⟩=some (.string (ai s205))/\World.cell? w' ⟨α,1,none⟩=some (.string (ai s206))/\True)/\∃(r207:Nat) (m208:Value->Option Value),v204= .map (some r207)/\IsMap w200 r207 (TypeDesc.array 2 9) m208/\∀w209:World,IsMap w209 r207 (TypeDesc.array 2 9) (bR m208 (.agg #[(.string (ai s205)),(.string (ai s206))]) (.int .i64 ψ))->bw w200 w209 r207->a7 (ζ+1)/\I186 (ζ+1) w209/\m187 (ζ+1) w209< m187 ζ V) (a7 (ψ+1)/\I109 (ψ+1) V/\m110 (ψ+1) V< m110 ψ G))):=by
 have hpl:=Ed hl;refine⟨λx w'=>∃n:Nat,x=(n:Int)+1/\n+uo all (ap n)<=14400/\K0 w ra Q b r b2 b4 b6 b8 b105 vo all mm w'/\uz w' ra all (λ _ _=>True) (ap n),λ _ w'=>(IM all).countP λp=>decide (Cu w' ra (DV p.1 p.2)=none),
  ⟨0,rfl,by have:uo all (ap 0)<=(IM all).length:=List.countP_le_length;omega,hS,hA⟩,λx G hI=>?_⟩
 clear hS hA;obtain⟨n,rfl,hn,hS,hA⟩:=hI;intro b113 ν hb113 hw114;have x114:Ex G ν:=hw114▸Ex.alloc G _;have o114:gn G.heap.size ν (.slice (some ⟨b113,0,none⟩) 0 0) []:=gn.Nc (OQ _) hb113 hw114;clear hw114 hb113;have hS':=hS.ex x114;obtain⟨a,cap,hv⟩:=hS.bo.so.slice;have hso:∀{w'},Ex G w'->Strs w' vo all:=λ{w'} x=>hS.bo.so.ex x
 refine⟨_,hS'.r1.c2,b,0,rfl,vo,hS'.bo.c1,a,_,cap,hv,λv x w'=>∃(j:Nat) (L:List (Tx×Tx)),x=j/\j<=all.length/\Ex G w'/\gn G.heap.size w' v L/\L.length<=240* j/\Cz all (ap n) (Pr all j 0) L,λ _ x _=>(all.length - x).toNat,
  ⟨0,[],rfl,Px _,x114,o114,by simp,λs t=>by simp [sJ]⟩,λv x β hI=>?_⟩
 clear hS' o114 x114;obtain⟨j,L,rfl,hj,ς,o126,hL,hLs⟩:=hI;have μ:=hS.ex ς;have s126:=ς.size;refine⟨λhlt=>?_,λhge=>?_⟩
 ·have hjl:=oL hlt;have hjm:=OP hjl;refine(hso ς).get (Ex.refl _) (PU j) (gE hjl) (Q:=λn=>_) ?_;refine⟨_,μ.r1.c2,b,0,rfl,vo,μ.bo.c1,a,_,cap,hv,λv x w'=>∃(i:Nat) (L:List (Tx×Tx)),x=i/\i<=all.length/\Ex G w'/\gn G.heap.size w' v L/\L.length<=240* j+2* i/\Cz all (ap n) (Pr all j i) L,λ _ x _=>(all.length - x).toNat,
   ⟨0,L,rfl,Px _,ς,o126,by omega,hLs⟩,λv' x Z hI=>?_⟩
  obtain⟨i,L',rfl,hi,x143,o143,hL',hLs'⟩:=hI;have hS143:=hS.ex x143;have s143:=x143.size;refine⟨λhlt2=>?_,λhge2=>?_⟩;rotate_left
  ·have e:=oE hge2 (by omega);subst e;exact⟨by omega,⟨j+1,L',by omega,by omega,x143,o143,by omega,hLs'.congr λ _ _=>Hz hjl⟩,tN (by omega)⟩
  have hil:=oL hlt2;have him:=OP hil;have hm2:=@tN all.length i (by omega);refine(hso x143).get (Ex.refl _) (PU i) (gE hil) (Q:=λn=>_) ?_;intro J θ hb149 υ;have x150:Ex Z θ:=υ▸Ex.alloc Z _;have s150:θ.heap.size=Z.heap.size+1:=by rw [υ,size_alloc]
  have c150:θ.cell? ⟨J,0,none⟩=some (.string ⟨#[]⟩):=by rw [υ,hb149];exact aa rfl
  refine⟨⟨⟨_,c150⟩,by rw [υ,hb149];exact aG _ _ _ _⟩,λε hw152=>?_⟩;have k152:Kp θ ε (λg=>g=J):=hw152▸Kr.set θ 0 _;have x152:Ex Z ε:=Ex.below x150 (Kp.below k152 (by omega) λg hg e=>by omega);have c152:ε.cell? ⟨J,0,none⟩=some (.string (ai all[i])):=by rw [hw152];exact OY _ _ _ c150
  have s152:=k152.size;have φ:=Ex.trans x143 x152;have W:=hS.ex φ;have hA152:=hA.ex φ;obtain⟨mf,fc⟩:=W.r1.fn W.bo hA152 W.hc W.lc;have skip:∀{w':World},Ex ε w'->¬(ap n all[j] all[i]=none/\¬Hf (ap n) all[j] all[i])->a7 ((i:Int)+1)/\(∃(i':Nat) (L:List (Tx×Tx)),(i:Int)+1=i'/\i'<=all.length/\Ex G w'/\gn G.heap.size w' v' L/\L.length<=240* j+2* i'/\Cz all (ap n) (Pr all j i') L)/\((all.length:Int) - ((i:Int)+1)).toNat< ((all.length:Int) - i).toNat:=λ{w'} x hnn=>
   ⟨by omega,⟨i+1,L',by omega,by omega,Ex.trans φ x,o143.ex (Ex.trans x152 x),by omega,(hLs'.skip hnn).congr λ _ _=>(sR hjl hil).symm⟩,hm2⟩
  refine⟨_,W.hc,all[i],c152,156,[ptr b2],rfl,by kernel_rfl,fc.is hjm him ⟨λhq=>?_,λhq=>?_⟩⟩
  ·refine skip (Ex.refl _) λh=>?_
   rw [h.1]at hq;cases hq
  have hnone:ap n all[j] all[i]=none:=by
   cases e:ap n all[j] all[i]with
   | none=>rfl
   | some k=>rw [e]at hq;cases hq
  obtain⟨vn,l,hn1,hn2,hn3,hn4⟩:=W.bo.nm.nx _ hjm;have enx:=zx hn2;refine⟨_,W.r1.c2,b,0,rfl,_,W.bo.nm.c2,r,mm,rfl,W.bo.nm.mp,vn,true,.inl ⟨rfl,hn1⟩,?_⟩;refine Iz (ca:=[ptr b8,ptr J,ptr b105]) hn4 (by have :=pg hn2;omega) (by kernel_rfl) (MZ (ap n) all[i]) (λk hk w' Q' x hQ=>?_) λδ x168=>⟨λhq=>?_,λhq=>?_⟩
  ·exact Nj (fc.ex x) hcl (hn3 k hk) him (by rw [x.cell (a:=⟨J,0,none⟩) (show J< _ by omega)];exact c152) (by have :=x.size;omega) hQ
  ·have hq:∃k∈l,MZ (ap n) all[i] k:=OE hq;have hnh:¬Hf (ap n) all[j] all[i]:=λhh=>by
    obtain⟨k,h1,h2⟩:=hq;exact h2 (hh k (by rw [enx];exact h1))
   have c168:δ.cell? ⟨J,0,none⟩=some (.string (ai all[i])):=by rw [x168.cell (a:=⟨J,0,none⟩) (show J< _ by omega)];exact c152
   refine⟨_,c168,_,c168,λb171 w172 hb171 hw172=>?_⟩;have s168:=x168.size;have xw168:=Ex.trans φ x168;have x172:Ex δ w172:=hw172▸Ex.alloc δ _;refine gn.push (o143.ex (Ex.trans x152 x168)) (by omega) (n:=all[j]) (m:=all[i]) hb171 hw172 (by omega) λv'' w179 o179 b179=>⟨by omega,⟨i+1,_,by omega,by omega,Ex.below (Ex.trans xw168 x172) b179,o179,by simp only [OM,OF,OX];omega,(hLs'.add hnone hnh).congr λ _ _=>(sR hjl hil).symm⟩,hm2⟩
  ·refine skip x168 λh=>OC hq ?_
   exact PJ λhc=>h.2 λk hk=>PJ λhk2=>hc ⟨k,by rw [<-enx];exact hk,hk2⟩
 have e:=oE hge (by omega);subst e;have hLs2:Cz all (ap n) (λa b=>a∈all/\b∈all) L:=hLs.congr λ _ _=>Ij
 obtain⟨aL,capL,hvL⟩:=o126.slice;refine⟨aL,_,capL,hvL,λhz=>?_,λhz=>⟨aL,_,capL,hvL,?_⟩⟩
 ·have hz:L=[]:=by simp only [OW]at hz;exact Pg (by omega)
  subst hz;refine hR β μ.r1.kp μ.bo ((hA.ex ς).congr λs hs t ht=>?_);rw [Pj trivial,Pj trivial,DP hcl (r:=n) (λs hs t ht=>?_) s hs t ht];have :=BY hLs2 hs ht;simpa using this.symm
 have hne:L≠[]:=λe=>by subst e;simp at hz
 have hlt:=IB hLs2 hne;refine⟨λx w'=>∃i:Nat,x=i/\i<=L.length/\Kp β w' (λg=>g=ra)/\uz w' ra all (λ _ _=>True) (λs t=>if(s,t)∈L.take i then some (n+1)else ap n s t),λx _=>(L.length - x).toNat,
  ⟨0,rfl,Px _,Kp.af (Ex.refl _) _,(hA.ex ς).congr λs _ t _=>by simp⟩,λx V hI=>?_⟩
 obtain⟨i,rfl,hi,k189,hA189⟩:=hI;have hS189:=μ.to k189;have lra:=hS.r1.lra;have sw:=hS.r1.kp.size;refine⟨λhlt2=>?_,λhge2=>?_⟩;rotate_left
 ·have e:=oE hge2 (by omega);rw [e,Pa]at hA189;have hA2:uz V ra all (λ _ _=>True) (ap (n+1)):=hA189.congr λs hs t ht=>by rw [Pj trivial,Pj trivial,BY hLs2 hs ht]
  refine⟨by omega,⟨n+1,by omega,by omega,hS189,hA2⟩,?_⟩;show((IM all).countP λp=>decide (Cu V ra (DV p.1 p.2)=none))< (IM all).countP λp=>decide (Cu G ra (DV p.1 p.2)=none)
  rw [hA2.cnt,hA.cnt];exact hlt
 have hil:=oL hlt2;have o189:gn G.heap.size V v L:=o126.kp k189 λg hg e=>by omega
 obtain⟨g,capg,hvg,k1,k2⟩:=o189.at hil;refine⟨g,0,_,_,hvg,by omega,by omega,L[i].1,L[i].2,⟨k1,k2,trivial⟩,λα ι hb196 χ=>?_⟩;have x197:Ex V ι:=χ▸Ex.alloc V _;have s197:ι.heap.size=V.heap.size+1:=by rw [χ,size_alloc]
 have c197:∀j,j< 2->∃u,ι.cell? ⟨α,0+j,none⟩=some u:=λj hj=>by
  rw [Ph,χ,hb196]
  match j,hj with
  | 0,_=>exact⟨_,aa rfl⟩
  | 1,_=>exact⟨_,aa rfl⟩
 refine⟨⟨rfl,rfl,λj hj=>⟨c197 j hj,by rw [χ,hb196];exact aG _ _ _ _⟩⟩,λκ hw198=>?_⟩;obtain⟨kr,_,_,sc⟩:=aK (b:=α) [sv L[i].1,sv L[i].2] ι 0;rw [show World.setCells ι α 0 [sv L[i].1,sv L[i].2]=κ from hw198.symm]at kr sc;have sc:=λj (hj:j< 2)=>sc j c197 hj
 have s198:=kr.size;have x198:Ex V κ:=Ex.below x197 (Kp.below kr (by omega) λg hg e=>by omega);have hS198:=hS189.ex x198;refine⟨λw'=>Ex κ w',λw200 hw200=>⟨hw200▸Ex.drew κ,_,λw' x=>(hS198.ex x).r1.c2,b,0,rfl,_,λw' x=>by rw [Ph];exact(hS198.ex x).bo.c5,L[i].1,L[i].2,λw' x=>⟨?_,?_,trivial⟩,?_⟩⟩
 ·rw [x.cell (a:=⟨α,0,none⟩) (show α< _ by omega)];exact sc 0 (by omega)
 ·rw [x.cell (a:=⟨α,1,none⟩) (show α< _ by omega)];exact sc 1 (by omega)
 have x200:Ex V w200:=Ex.trans x198 (hw200▸Ex.drew κ);have hA200:=hA189.ex x200;obtain⟨m,hm,_⟩:=id hA200;refine⟨ra,m,rfl,hm,λw209 hm209 k209=>⟨by omega,⟨i+1,by omega,by omega,?_,?_⟩,tN (by omega)⟩⟩
 ·exact Kp.trans (Kp.trans k189 (Kp.af x200 _) λ _ _ h=>h) (Kp.jV k209) λ _ _ h=>h
 ·refine(hA200.set (n:=n+1) hm hm209).congr λs _ t _=>?_
  simp only [true_or,Qw];rw [OK hil];by_cases e:s=L[i].1/\t=L[i].2
  ·rw [Pj e,Pj];rw [OS,OO];exact .inr (by rw [e.1,e.2])
  ·rw [O1 e];have:(s,t)∈L.take i++[L[i]]↔(s,t)∈L.take i:=by
    rw [OS,OO];exact⟨λh=>h.resolve_right λh=>e ⟨by rw [<-h],by rw [<-h]⟩,.inl⟩
   simp only [this]
theorem HW {w:World}{ra b r:Nat}{vo:Value}{all:List Tx}{mm:Value->Option Value}(h:G3 w ra b r vo all mm)(hl:all.length<=120)(hst:∀s∈all,St s)(ha:∃m0,IsMap w ra aT m0/\∀s t,m0 (DV s t)=none){R:Sl}
  (hR:∀w',Kp w w' (λg=>g=ra)->G3 w' ra b r vo all mm->uz w' ra all (λ _ _=>True) sI->R w'):Sm 105 #[ptr b] w (an [] R):=by
 refine ng _ w R ?_;have hcl:Cl all:=λs hs=>by obtain⟨v,l,_,h2,h3,_⟩:=h.nm.nx s hs;exact⟨l,h2,h3⟩
 obtain⟨m0,Z,V⟩:=ha;have lra:=bS Z;refine⟨rfl,λb2 w3 hb2 ο b4 w5 hb4 ς b6 w7 hb6 υ b8 w9 hb8 ζ=>?_⟩;have x3:Ex w w3:=ο▸Ex.alloc w _;have x5:Ex w3 w5:=ς▸Ex.alloc w3 _;have x7:Ex w5 w7:=υ▸Ex.alloc w5 _;have x9:Ex w7 w9:=ζ▸Ex.alloc w7 _;have s3:w3.heap.size=w.heap.size+1:=by rw [ο,size_alloc]
 have s5:w5.heap.size=w3.heap.size+1:=by rw [ς,size_alloc]
 have s7:w7.heap.size=w5.heap.size+1:=by rw [υ,size_alloc]
 have s9:w9.heap.size=w7.heap.size+1:=by rw [ζ,size_alloc]
 have c9:w9.cell? ⟨b8,0,none⟩=some (.map none):=by rw [ζ,hb8];exact aa rfl
 refine⟨rfl,⟨⟨_,c9⟩,by rw [ζ,hb8];exact aG _ _ _ _⟩,λH η=>?_⟩;have δ:Kp w9 H (λg=>g=b8):=η▸Kr.set w9 0 _;have s11:=δ.size;have x39:=Ex.trans x5 (Ex.trans x7 x9);have x11:Ex w H:=Ex.below (Ex.trans x3 x39) (Kp.below δ (by omega) λg hg e=>by omega);have c2:H.cell? ⟨b2,0,none⟩=some (ptr b):=by
  rw [OG (w:=w3) ((δ.block b2 (by omega) (by omega)).trans (x39.block b2 (by omega))),ο,hb2];exact aa rfl
 have em4:H.heap[b4]?=some (.map #[] 0):=by rw [δ.block b4 (by omega) (by omega),(Ex.trans x7 x9).block b4 (by omega),ς,hb4];unfold World.alloc;simp
 have em6:H.heap[b6]?=some (.map #[] 0):=by rw [δ.block b6 (by omega) (by omega),x9.block b6 (by omega),υ,hb6];unfold World.alloc;simp
 have i11:R1 w ra H.heap.size b b2 b4 b6 b8 (λs=>s∈all.take 0) (λs=>s∈all.take 0) H:=⟨Kp.af x11 _,lra,⟨by omega,by omega⟩,⟨by omega,by omega⟩,⟨by omega,by omega⟩,⟨by omega,by omega⟩,OQ _,by omega,by omega,by omega,by omega,by omega,c2,by rw [η];exact OY _ _ _ c9,⟨cB [],⟨#[],0,em4,⟨by simp,by simp,by simp⟩,by simp,λq=>rfl⟩,λs hs=>by simp at hs⟩,cB [],⟨#[],0,em6,⟨by simp,by simp,by simp⟩,by simp,λq=>rfl⟩,λs hs=>by simp at hs⟩
 have ha11:∃m0,IsMap H ra aT m0/\∀s t,m0 (DV s t)=none:=⟨m0,aS Z (x11.block ra lra),V⟩
 clear em4 em6 c2 δ c9 η ζ υ ς ο x39 x9 x7 x5 x3 s9 s7 s5 s3 hb2 hb4 hb6 hb8 Z V;generalize hQ:H.heap.size=Q at i11;obtain⟨a,cap,hv⟩:=h.so.slice;have hB:∀{w'},Kp w w' (λg=>g=ra)->G3 w' ra b r vo all mm:=λ{w'} k=>h.kp k
 refine⟨_,i11.c2,b,0,rfl,vo,(hB i11.kp).c1,a,_,cap,hv,λx w'=>∃j:Nat,x=j/\j<=all.length/\R1 w ra Q b b2 b4 b6 b8 (λs=>s∈all.take j) (λs=>s∈all.take j) w'/\∃m0,IsMap w' ra aT m0/\∀s t,m0 (DV s t)=none,λx _=>(all.length - x).toNat,
  ⟨0,rfl,Px _,i11,ha11⟩,λx ε hI=>?_⟩
 clear i11 ha11 x11 s11 hQ;obtain⟨j,rfl,hj,i22,m0,Z,V⟩:=hI;have φ:=hB i22.kp;refine⟨λhlt=>?_,λχ=>?_⟩
 ·have G:=oL hlt;have θ:=OP G;have hm1:=@tN all.length j (by omega);refine φ.so.get (Ex.refl _) (PU j) (gE G) (Q:=λn=>_) ?_;refine⟨λw'=>Ex ε w',λw29 hw29=>⟨hw29▸Ex.drew ε,_,λw' x=>(i22.ex x).c2,b,0,rfl,_,λw' x=>(i22.ex x).c2,b,0,rfl,?_⟩⟩;have ψ:Ex ε w29:=hw29▸Ex.drew ε;refine H3 (φ.nm.ex ψ) hl hst θ (k:=33) (by decide) λx w37 x37 hx hx2=>⟨Ex.trans ψ x37,H3 (φ.nm.ex (Ex.trans ψ x37)) hl hst θ (k:=63) (by decide) λy w39 x39 hy hy2=>?_⟩
  have α:=Ex.trans ψ (Ex.trans x37 x39);have i39:=i22.ex α;obtain⟨mb,ι,_⟩:=i39.mb;refine⟨α,b4,mb,rfl,ι,λκ hm42 k42=>?_⟩;have i42:=i39.NL ι hm42 k42 hx hx2 hy hy2;have a42:IsMap κ ra aT m0:=aS (aS Z (α.block ra (bS Z))) (k42.block ra (by have :=i22.l4;have :=i22.lra;omega));have h42:=hB i42.kp;refine⟨λw'=>Ex κ w',λw44 hw44=>⟨hw44▸Ex.drew κ,_,λw' x=>(i42.ex x).c8,_,λw' x=>(i42.ex x).c2,b,0,rfl,?_⟩⟩;have x44:Ex κ w44:=hw44▸Ex.drew κ;refine Hn (h42.nm.ex x44) hl θ λv l w50 x50 o50 hr h120=>?_
  have β:=Ex.trans x44 x50;have i50:=i42.ex β;obtain⟨mq,hmq,_⟩:=i50.mq;refine⟨β,b6,mq,rfl,hmq,λw53 hm53 k53=>⟨by omega,⟨j+1,by omega,by omega,?_,m0,?_,V⟩,hm1⟩⟩
  ·have i53:=i50.NR hmq hm53 k53 o50.strs hr h120 λg hg=>by have :=(o50.block g hg).1;have :=i42.lq;have :=x44.size;omega
   refine i53.mono (λs hs=>?_) λs hs=>?_
   ·rw [OK G,OS,OO]at hs;exact hs
   ·rw [OK G,OS,OO]at hs;exact hs
  ·exact aS (aS a42 (β.block ra (bS a42))) (k53.block ra (by have :=i22.l6;have :=i22.lra;omega))
 have e:=oE χ (by omega);subst e;rw [Pa]at i22;refine⟨_,i22.c2,b,0,rfl,vo,φ.c1,a,_,cap,hv,λx w'=>∃j:Nat,x=j/\j<=all.length/\Kp ε w' (λg=>g=ra)/\uz w' ra all (Pr all j 0) (ap 0),λx _=>(all.length - x).toNat,
  ⟨0,rfl,Px _,Kp.af (Ex.refl _) _,m0,Z,λs _ t _=>by rw [V,O1];simp [sJ]⟩,λx μ hI=>?_⟩
 clear hj χ;obtain⟨j,rfl,hj,k64,hA64⟩:=hI;have i64:=i22.to k64;have h64:=hB i64.kp;refine⟨λhlt=>?_,λχ=>?_⟩
 ·have G:=oL hlt;have θ:=OP G;refine h64.so.get (Ex.refl _) (PU j) (gE G) (Q:=λn=>_) ?_;refine⟨_,i64.c2,b,0,rfl,vo,h64.c1,a,_,cap,hv,λx w'=>∃i:Nat,x=i/\i<=all.length/\Kp ε w' (λg=>g=ra)/\uz w' ra all (Pr all j i) (ap 0),λx _=>(all.length - x).toNat,
   ⟨0,rfl,Px _,k64,hA64⟩,λx w80 hI=>?_⟩
  obtain⟨i,rfl,hi,ω,γ⟩:=hI;have i80:=i22.to ω;have h80:=hB i80.kp;refine⟨λhlt2=>?_,λhge2=>?_⟩;rotate_left
  ·have e:=oE hge2 (by omega);subst e;exact⟨by omega,⟨j+1,by omega,by omega,ω,γ.congr λs _ t _=>by simp only [Hz G]⟩,tN (by omega)⟩
  have hil:=oL hlt2;have him:=OP hil;have hm2:=@tN all.length i (by omega);refine h80.so.get (Ex.refl _) (PU i) (gE hil) (Q:=λn=>_) ?_;obtain⟨mb,ι,hmbs⟩:=i80.mb;obtain⟨x1,y1,e1,p1,q1,r1,t1⟩:=hmbs _ θ;obtain⟨x2,y2,e2,p2,q2,r2,t2⟩:=hmbs _ him;refine⟨b4,mb,rfl,ι,_,true,.inl ⟨rfl,e1⟩,b4,mb,rfl,ι,_,true,.inl ⟨rfl,e2⟩,x1,y1,x2,y2,rfl,rfl,?_⟩;have hbar:(x1=x2/\y1=y2)↔Jv all[j] all[i]:=and_congr (EH p1 p2 q1 q2) (EH r1 r2 t1 t2);refine⟨λhq=>?_,λhq=>?_⟩
  ·have hnb:¬Jv all[j] all[i]:=λhb=>by
    obtain⟨rfl,rfl⟩:=hbar.2 hb;simp at hq
   have e0:ap 0 all[j] all[i]=some 0:=by unfold ap;rw [O1 hnb]
   obtain⟨m,hm,_⟩:=id γ;refine⟨_,i80.c2,b,0,rfl,_,by rw [Ph];exact h80.c5,ra,m,rfl,hm,λw104 hm104 k104=>⟨by omega,⟨i+1,by omega,by omega,?_,?_⟩,hm2⟩⟩
   ·exact Kp.trans ω (Kp.jV k104) λ _ _ h=>h
   ·refine(γ.set (n:=0) hm hm104).congr λs _ t _=>?_
    simp only [sR G hil];by_cases e:s=all[j]/\t=all[i]
    ·obtain⟨rfl,rfl⟩:=e;simp [e0]
    ·simp only [e,Q6,Rm]
  ·have hb:Jv all[j] all[i]:=hbar.1 (by simpa using hq);have e0:ap 0 all[j] all[i]=none:=by unfold ap;rw [Pj hb]
   refine⟨by omega,⟨i+1,by omega,by omega,ω,γ.congr λs _ t _=>?_⟩,hm2⟩;simp only [sR G hil];by_cases e:s=all[j]/\t=all[i]
   ·obtain⟨rfl,rfl⟩:=e;simp [e0]
   ·simp only [e,Q6]
 have e:=oE χ (by omega);subst e;have hA:uz μ ra all (λ _ _=>True) (ap 0):=hA64.congr λs hs t ht=>by rw [Pj (Ij.2 ⟨hs,ht⟩),Pj trivial]
 intro b105 W ν J;have x106:Ex μ W:=J▸Ex.alloc μ _;have s106:W.heap.size=μ.heap.size+1:=by rw [J,size_alloc]
 have c106:W.cell? ⟨b105,0,none⟩=some .nilFunc:=by rw [J,ν];exact aa rfl
 refine⟨rfl,⟨⟨_,c106⟩,by rw [J,ν];exact aG _ _ _ _⟩,λw108 ξ=>?_⟩;have k108:Kp W w108 (λg=>g=b105):=ξ▸Kr.set W 0 _;have x108:Ex μ w108:=Ex.below x106 (Kp.below k108 (by omega) λg hg e=>by omega);have i108:=i64.ex x108;have s108:=k108.size;have s64:=i64.kp.size;exact FQ hcl hl ⟨i108,hB i108.kp,by rw [ξ];exact OY _ _ _ c106,by omega,by omega⟩ (hA.ex x108) hR
structure IZ (w8 wb:World)(b r ra:Nat)(E:Nat->Prop)(a0 b0:Tx)(vo:Value)(all:List Tx)(mm:Value->Option Value)(w:World):Prop where
 ex:Ex w8 w
 lb:w8.heap.size<=b
 lt:b< w.heap.size
 lr:w8.heap.size<=r
 br:b≠r
 f:∀j,w.frozen? ⟨b,j,none⟩=false
 c1:w.cell? ⟨b,1,none⟩=some vo
 c2:w.cell? ⟨b,2,none⟩=some (.map (some r))
 c3:w.cell? ⟨b,3,none⟩=some (.string (ai a0))
 c4:w.cell? ⟨b,4,none⟩=some (.string (ai b0))
 c5:w.cell? ⟨b,5,none⟩=some (.map (some ra))
 mp:IsMap w r .string mm
 pv:∀g,E g->g< w.heap.size/\w.heap[g]?=wb.heap[g]?
 en:∀g,E g->g≠b/\g≠r
 sl:Own w8.heap.size w vo all
 so:∀g,vo.ownBlock=some g->g≠b/\g≠r/\¬E g
 nx:∀s∈all,∃v l,mm (.string (ai s))=some v/\sO s=some l/\Strs w8 v l
 nn:∀s,s∉all->mm (.string (ai s))=none
section
variable {w8 wb w:World} {b r ra:Nat} {E:Nat->Prop} {a0 b0:Tx} {vo:Value} {all:List Tx} {mm:Value->Option Value}
theorem IZ.to (h:IZ w8 wb b r ra E a0 b0 vo all mm w){w':World}(x:Ex w w'):IZ w8 wb b r ra E a0 b0 vo all mm w':=by
 have s:=x.size;have lt:=h.lt;have c:∀j,w'.cell? ⟨b,j,none⟩=w.cell? ⟨b,j,none⟩:=λj=>x.cell (a:=⟨b,j,none⟩) lt
 exact⟨Ex.trans h.ex x,h.lb,by omega,h.lr,h.br,λj=>by rw [PV x lt];exact h.f j,by rw [c];exact h.c1,by rw [c];exact h.c2,by rw [c];exact h.c3,by rw [c];exact h.c4,by rw [c];exact h.c5,aS h.mp (x.block r (bS h.mp)),λg G=>⟨by have :=(h.pv g G).1;omega,by rw [x.block g (h.pv g G).1];exact(h.pv g G).2⟩,h.en,h.sl.ex x,h.so,h.nx,h.nn⟩
theorem IZ.add (h:IZ w8 wb b r ra E a0 b0 vo all mm w){s:Tx}(hs:s∉all){v:Value}{l:List Tx}(hl:sO s=some l)(hv:Strs w8 v l){V w2:World}(x:Ex w V){v':Value}(ho:Own w8.heap.size w2 v' (all++[s]))(G:V.grownBy w2 vo.ownBlock)(hn:∀g,v'.ownBlock=some g->vo.ownBlock=some g\/V.heap.size<=g):
  (Ex w8 w2/\w2.cell? ⟨b,1,none⟩=some vo/\w2.cell? ⟨b,2,none⟩=some (.map (some r))/\IsMap w2 r .string mm)/\
  (((∃u,w2.cell? ⟨b,1,none⟩=some u)/\w2.frozen? ⟨b,1,none⟩=false)/\∀w',w'=w2.setCell ⟨b,1,none⟩ v'->IsMap w' r .string mm/\
   ∀(u:Value) (w3:World),bw w' w3 r->∀J,IsMap J r .string (bR (bR mm (.string (ai s)) u) (.string (ai s)) v)->bw w3 J r->IZ w8 wb b r ra E a0 b0 v' (all++[s]) (bR (bR mm (.string (ai s)) u) (.string (ai s)) v) J):=by
 have se:=h.ex.size;have lt:=h.lt;have lr:=h.lr;obtain⟨f1,f2⟩:=wq (v':=v') lt h.lb se (λg G=>⟨(h.sl.block g G).1,(h.sl.block g G).2,(h.so g G).1⟩) ⟨_,h.c1⟩ h.f x G;have H:Kp V w2 λg=>vo.ownBlock=some g:=Kp.aJ G λ _ h=>h
 have ha:=h.to x;have sx:=x.size;have γ:=H.size;have eb:=H.block b ha.lt λe=>(h.so b e).1 rfl
 have mr:=bS h.mp;have er:=H.block r (by omega) λe=>(h.so r e).2.1 rfl
 have W:IsMap w2 r .string mm:=aS ha.mp er;refine⟨⟨Ex.below ha.ex (Kp.below H (by omega) λg G e=>by have :=(h.sl.block g e).1;omega),by rw [OG (w:=V) eb];exact ha.c1,by rw [OG (w:=V) eb];exact ha.c2,W⟩,f1,λw' α=>?_⟩;obtain⟨k1,Z,k3,k4,k5,k6⟩:=f2 w' α;refine⟨aS W (k6.block r (by omega) λe=>h.br e.symm),λu w3 g3 J β g4=>?_⟩;have q3:Kp w' J λg=>g=r:=Kp.trans (Kp.jV g3) (Kp.jV g4) λ _ _ h=>h
 have e4:=(g4.block b h.br).trans (g3.block b h.br);have c:∀j,J.cell? ⟨b,j,none⟩=w'.cell? ⟨b,j,none⟩:=λj=>OG (w:=w') e4
 have s4:=k4.size;have s5:=q3.size;have δ:=k6.size;have dv:∀g,v'.ownBlock=some g->g≠b/\g≠r/\¬E g:=λg G=>(hn g G).elim (h.so g) λe=>⟨by omega,by omega,λe'=>by have :=(h.pv g e').1;omega⟩
 have kk:Kp w J λg=>(vo.ownBlock=some g\/g=b)\/g=r:=Kp.trans (Kp.mono (λ _ h=> .inl h) k4) q3 λ _ _ h=> .inr h
 refine⟨?_,h.lb,by omega,h.lr,h.br,λj=>by rw [Pd (w:=w') e4];exact k3 j,by rw [c];exact k1,by rw [c];exact(Z 2 (by omega)).trans h.c2,by rw [c];exact(Z 3 (by omega)).trans h.c3,by rw [c];exact(Z 4 (by omega)).trans h.c4,by rw [c];exact(Z 5 (by omega)).trans h.c5,β,λg G=>?_,h.en,?_,dv,λt ht=>?_,λt ht=>?_⟩
 ·exact Ex.below (Ex.below h.ex k5) (Kp.below q3 (by omega) λg G e=>by omega)
 ·have hp:=h.pv g G;refine⟨by omega,(kk.block g hp.1 λe=>?_).trans hp.2⟩;rcases e with(e | e) | e
  ·exact(h.so g e).2.2 G
  ·exact(h.en g G).1 e
  ·exact(h.en g G).2 e
 ·exact ho.kp (Kp.trans (Kp.mono (T:=λg=>g=b\/g=r) (λ _ h=> .inl h) k6) q3 λ _ _ h=> .inr h) λg G e=>e.elim (dv g G).1 (dv g G).2.1
 ·by_cases e:t=s
  ·subst e;exact⟨v,l,by unfold bR;simp,hl,hv⟩
  ·obtain⟨v1,l1,h1,h2,h3⟩:=h.nx t ((OS.1 ht).resolve_right λh=>e (OO.1 h));have ne:¬((Value.string (ai t))= .string (ai s)):=λh=>e (eH (Rz h))
   exact⟨v1,l1,by unfold bR;rw [O1 ne,O1 ne];exact h1,h2,h3⟩
 ·have e:t≠s:=λe=>ht (OS.2 (.inr (OO.2 e)))
  have ne:¬((Value.string (ai t))= .string (ai s)):=λh=>e (eH (Rz h))
  unfold bR;rw [O1 ne,O1 ne];exact h.nn t λh=>ht (Pm _ h)
end
theorem wS {p q a0 b0:Tx}{la lb:List Tx}(ha:bX p=some a0)(hb:bX q=some b0)(G:aV p=some la)(H:aV q=some lb):tolT p q=some (a0,b0):=by
 unfold tolT;rw [G,H,ha,hb];rfl
theorem GC:Cl []:=λ _ h=>by cases h
theorem LZ {p q:Tx}{w:World}{R:Value->Bool->Sl}(hR1:tolT p q=none->∀w',Ex w w'->R (.pointer none) false w')
  (hR2:∀a0 b0 all,tolT p q=some (a0,b0)->a0∈all->b0∈all->(∀s∈all,St s)->all.length<=120->∀ra b r vo mm w',Ex w w'->G3 w' ra b r vo all mm->uz w' ra all (λ _ _=>True) sI->w'.cell? ⟨b,3,none⟩=some (.string (ai a0))->w'.cell? ⟨b,4,none⟩=some (.string (ai b0))->R (ptr b) true w'):
  Sm 57 #[.string (ai p),.string (ai q)] w (an [.v,.b] R):=by
 refine xY p q w R ?_;have ζ:aV p=none->tolT p q=none:=λh=>by unfold tolT;rw [h]
 have ο:aV q=none->tolT p q=none:=λh=>by unfold tolT;rw [h];cases aV p<;>rfl
 refine qL (λhn w5 x5=>?_) λa0 la ha ga sa na bp rp mp Lp w5 x5 hp=>?_
 ·exact qL (λ _ w8 x8=>⟨(λh=>by cases h),λ _=>hR1 (ζ hn) w8 (Ex.trans x5 x8)⟩) λb0 lb hb gb sb nb bq rq mq Lq w8 x8 hq=>⟨(λh=>by cases h),λ _=>hR1 (ζ hn) w8 (Ex.trans x5 x8)⟩
 refine qL (λhn w8 x8=>⟨λ _=>⟨λ _=>hR1 (ο hn) w8 (Ex.trans x5 x8),(λh=>by cases h)⟩,(λh=>by cases h)⟩) λb0 lb hb gb sb nb bq rq mq Lq w8 x8 hq=>⟨λ _=>⟨(λh=>by cases h),λ _=>?_⟩,(λh=>by cases h)⟩
 have hp:=hp.ex x8;have x08:=Ex.trans x5 x8;have htol:=wS ha hb ga gb;clear hR1 ζ ο x5 x8;refine⟨λw'=>Ex w8 w',λw10 ς=>⟨ς▸Ex.drew w8,bp,0,rfl,a0,λw' x=>(hp.ex x).c0,bq,0,rfl,b0,λw' x=>(hq.ex x).c0,λra υ hra κ=>?_⟩⟩;have φ:Ex w8 w10:=ς▸Ex.drew w8;have x18:Ex w10 υ:=κ▸Ex.alloc w10 _;have s18:υ.heap.size=w10.heap.size+1:=by rw [κ,size_alloc]
 refine⟨Ex.trans φ x18,rfl,λb η μ V=>?_⟩;have x20:Ex υ η:=V▸Ex.alloc υ _;have s20:η.heap.size=υ.heap.size+1:=by rw [V,size_alloc]
 refine⟨Ex.trans φ (Ex.trans x18 x20),λr θ hr ν=>⟨rfl,?_⟩⟩;have χ:Ex η θ:=ν▸Ex.alloc η _;have s22:θ.heap.size=η.heap.size+1:=by rw [ν,size_alloc]
 have c20:∀j,θ.cell? ⟨b,j,none⟩=η.cell? ⟨b,j,none⟩:=λj=>χ.cell (a:=⟨b,j,none⟩) (show b< _ by omega)
 have c22:θ.cell? ⟨b,2,none⟩=some (.map none):=by rw [c20,V,μ];exact aa rfl
 have f22:∀j,θ.frozen? ⟨b,j,none⟩=false:=λj=>by rw [PV χ (show b< _ by omega),V,μ];exact aG _ _ _ _
 refine⟨⟨⟨_,c22⟩,f22 2⟩,λw24 Z=>⟨rfl,rfl,λe G he α=>?_⟩⟩;have ψ:Kp θ w24 (λg=>g=b):=Z▸Kr.set θ 2 _;have s24:=ψ.size;have ι:Ex w24 G:=α▸Ex.alloc w24 _;have s26:G.heap.size=w24.heap.size+1:=by rw [α,size_alloc]
 have s10:=φ.size;have x826:Ex w8 G:=Ex.trans (Ex.below (Ex.trans φ (Ex.trans x18 (Ex.trans x20 χ))) (Kp.below ψ (by omega) λg hg e=>by omega)) ι;have c26:∀j,j≠2->G.cell? ⟨b,j,none⟩=η.cell? ⟨b,j,none⟩:=λj hj=>by rw [ι.cell (a:=⟨b,j,none⟩) (show b< _ by omega),Z,OL _ _ _ _ (λe=>by injection e with e1 e2;exact hj e2.symm),c20]
 have d26:G.cell? ⟨b,2,none⟩=some (.map (some r)):=by rw [ι.cell (a:=⟨b,2,none⟩) (show b< _ by omega),Z];exact OY _ _ _ c22
 have er:G.heap[r]?=some (.map #[] 0):=by rw [ι.block r (by omega),ψ.block r (by omega) (by omega),ν,hr];unfold World.alloc;simp
 have ea:G.heap[ra]?=some (.map #[] 0):=by rw [ι.block ra (by omega),ψ.block ra (by omega) (by omega),χ.block ra (by omega),x20.block ra (by omega),κ,hra];unfold World.alloc;simp
 have e0:G.cell? ⟨e,0,none⟩=some (ptr bp):=by rw [α,he];exact aa rfl
 have e1:G.cell? ⟨e,1,none⟩=some (ptr bq):=by rw [α,he];exact aa rfl
 have i26:IZ w8 G b r ra (λg=>g=ra\/g=e) a0 b0 (.slice none 0 0) [] (cB []) G:=by
  refine⟨x826,by omega,by omega,by omega,by omega,λj=>by rw [PV ι (show b< _ by omega),Z,O0];exact f22 j,?_,d26,?_,?_,?_,⟨#[],0,er,⟨by simp,by simp,by simp⟩,by simp,λq=>rfl⟩,λg hg=>⟨by omega,rfl⟩,λg hg=>by omega,Own.nil _ _,(λg hg=>by cases hg),(λs hs=>by cases hs),λs _=>rfl⟩
  all_goals (rw [c26 _ (by omega),V,μ];exact aa rfl)
 have lra:w8.heap.size<=ra:=by omega
 clear ς κ V ν Z α c20 c22 f22 c26 d26 er φ x18 x20 χ ψ ι s10 s18 s20 s22 s24 s26 hra μ hr he x826;have hla:=nY ha ga;have hlb:=nY hb gb
 let un:Nat->List Tx:=λj=>match j with | 0=>[] | 1=>bc [] la | _=>bc (bc [] la) lb
 have hul:∀j,(un j).length<=120:=λj=>by
  have h1:=ic la [];have h2:=ic lb (bc [] la);simp only [OX]at h1
  match j with
  | 0=>exact Px _
  | 1=>show(bc [] la).length<=120;omega
  | j+2=>show(bc (bc [] la) lb).length<=120;omega
 refine⟨_,2,2,rfl,λx w'=>∃(j:Nat) (vo:Value) (mm:Value->Option Value),x=j/\j<=2/\IZ w8 G b r ra (λg=>g=ra\/g=e) a0 b0 vo (un j) mm w',λx _=>(2 - x).toNat,⟨0,_,_,rfl,Px _,i26⟩,λx w33 hI=>?_⟩;clear i26;obtain⟨j,vo,mm,rfl,hj,i33⟩:=hI;have s33:=i33.ex.size;refine⟨λhlt=>?_,λhge=>?_⟩;rotate_left
 ·have ej:j=2:=by simp only [OV]at hge;omega
  subst ej;have hcl:Cl (un 2):=Cl.add (Cl.add GC hla.1.Oa) hlb.1.Oa;have ω:∀s,s∈un 2↔s∈la\/s∈lb:=λs=>by
   show s∈bc (bc [] la) lb↔_;simp only [cY,QE,Sc]
  have hn:=i33.en ra (.inl rfl);have hval:∀s∈un 2,∀v,mm (.string (ai s))=some v->∀g,v.ownBlock=some g->g≠ra:=λs hs v hv g hg=>by
   obtain⟨v1,l1,h1,_,h3⟩:=i33.nx s hs;rw [hv]at h1;cases h1;rcases h3 with⟨rfl,_⟩ | ⟨b',off,cap,rfl,h2,_⟩
   ·cases hg
   ·cases hg;show b'≠ra;omega
  have hB:G3 w33 ra b r vo (un 2) mm:=⟨⟨i33.c2,i33.lt,i33.mp,λs hs=>by
   obtain⟨v,l,h1,h2,h3⟩:=i33.nx s hs;obtain⟨l',h4,h5⟩:=hcl s hs;rw [h2]at h4;cases h4;exact⟨v,l,h1,h2,h5,h3.ex i33.ex⟩⟩,i33.c1,i33.sl.strs,i33.c5,hn.1.symm,hn.2.symm,λg hg e=>(i33.so g hg).2.2 (.inl e),hval⟩
  have hst:∀s∈un 2,St s:=λs hs=>((ω s).1 hs).elim (sa s) (sb s)
  refine HW hB (hul 2) hst ⟨cB [],⟨#[],0,(i33.pv ra (.inl rfl)).2.trans ea,⟨by simp,by simp,by simp⟩,by simp,λq=>rfl⟩,λ _ _=>rfl⟩ λw141 k141 h141 hA=>?_
  have eb:=k141.block b i33.lt hn.1.symm;refine hR2 a0 b0 (un 2) htol ((ω a0).2 (.inl (hla.2.subset (by simp)))) ((ω b0).2 (.inr (hlb.2.subset (by simp)))) hst (hul 2) ra b r vo mm w141 ?_ h141 hA ?_ ?_
  ·have :=x08.size;exact Ex.below (Ex.trans x08 i33.ex) (Kp.below k141 (by omega) λg hg e=>by omega)
  ·rw [OG (w:=w33) eb];exact i33.c3
  ·rw [OG (w:=w33) eb];exact i33.c4
 have hj2:j< 2:=by simp only [OW]at hlt;omega
 have ee:=(i33.pv e (.inr rfl)).2;have hx:∃(bx rx Bx:Nat) (n0:Tx) (l:List Tx) (mx:Value->Option Value) (Lx:Nat->Prop),zO Bx bx rx n0 w8 l l.length mx Lx/\l.length<=60/\w33.cell? ⟨e,0+(j:Int).toNat* 1,none⟩=some (ptr bx)/\un (j+1)=bc (un j) l:=by
  match j,hj2 with
  | 0,_=>exact⟨_,_,_,_,la,_,_,hp,na,by rw [OG (w:=G) ee];exact e0,rfl⟩
  | 1,_=>exact⟨_,_,_,_,lb,_,_,hq,nb,by rw [OG (w:=G) ee];exact e1,rfl⟩
 obtain⟨bx,rx,Bx,n0,l,mx,Lx,hx,hl,hc,hun⟩:=hx;obtain⟨vl,v1,v2,_⟩:=hx.sl;obtain⟨a,cap,hv⟩:=v2.strs.slice;refine⟨e,0,2,2,rfl,by omega,by omega,ptr bx,hc,bx,0,rfl,vl,by rw [i33.ex.cell (a:=⟨bx,0+1,none⟩) hx.lt];exact v1,a,_,cap,hv,λx w'=>∃(i:Nat) (vo:Value) (mm:Value->Option Value),x=i/\i<=l.length/\IZ w8 G b r ra (λg=>g=ra\/g=e) a0 b0 vo (bc (un j) (l.take i)) mm w',λx _=>(l.length - x).toNat,⟨0,vo,mm,rfl,Px _,i33⟩,λx β hI=>?_⟩;clear i33 ee hc;obtain⟨i,vo,mm,rfl,hi,i48⟩:=hI;refine⟨λhlt2=>?_,λhge2=>?_⟩;rotate_left
 ·have ei:=oE hge2 (by omega);subst ei;rw [Pa,<-hun]at i48;exact⟨by omega,⟨j+1,vo,mm,by omega,by omega,i48⟩,by show(2 - ((j:Int)+1)).toNat< (2 - (j:Int)).toNat;omega⟩
 have hil:=oL hlt2;have hcl:=ic (l.take i) (un j);rw [Pt]at hcl;have hu:=hul j;have et:bc (un j) (l.take (i+1))=iu (bc (un j) (l.take i)) l[i]:=ft hil;refine⟨λw'=>∃(vo:Value) (mm:Value->Option Value),IZ w8 G b r ra (λg=>g=ra\/g=e) a0 b0 vo (iu (bc (un j) (l.take i)) l[i]) mm w',v2.strs.get i48.ex (PU i) (gE hil) (Q:=λn=>_) ⟨_,i48.c2,r,mm,rfl,i48.mp,?_⟩,λw140 h=>?_⟩;rotate_left
 ·obtain⟨vo',mm',h⟩:=h;exact⟨by omega,⟨i+1,vo',mm',by omega,by omega,by rw [et];exact h⟩,tN (by omega)⟩
 generalize bc (un j) (l.take i)=cur at*;by_cases hs:l[i]∈cur
 ·obtain⟨y,l1,y1,_⟩:=i48.nx _ hs;exact⟨y,true,.inl ⟨rfl,y1⟩,(λh=>by cases h),λ _=>⟨vo,mm,by unfold iu;rw [Pj hs];exact i48⟩⟩
 refine⟨_,false,.inr ⟨rfl,i48.nn _ hs,rfl⟩,λ _=>?_,(λh=>by cases h)⟩;obtain⟨vn,ln,n1,n2,n3,_⟩:=hx.nx i hil hil;have ea:iu cur l[i]=cur++[l[i]]:=O1 hs;rw [ea];have s48:=i48.ex.size;have S:∀{w':World},Ex β w'->Ex w8 w'/\w'.cell? ⟨b,1,none⟩=some vo/\w'.cell? ⟨b,2,none⟩=some (.map (some r)):=λx=>⟨(i48.to x).ex,(i48.to x).c1,(i48.to x).c2⟩
 refine⟨λw'=>Ex w8 w'/\w'.cell? ⟨b,1,none⟩=some vo/\w'.cell? ⟨b,2,none⟩=some (.map (some r)),λw61 hw61=>⟨S (hw61▸Ex.drew β),_,λw' h=>h.2.2,_,λw' h=>h.2.1,bx,0,rfl,_,λw' h=>(hx.ex h.1).c2,λb67 w68 ξ W=>?_,?_⟩⟩
 ·have x61:Ex β w61:=hw61▸Ex.drew β;have H:Ex β w68:=Ex.trans x61 (W▸Ex.alloc w61 _);have s68:=H.size;refine⟨S H,?_,rx,mx,rfl,(hx.ex (i48.to H).ex).mp,vn,true,.inl ⟨rfl,n1⟩,S H,?_⟩
  ·refine Own.push (i48.to H).sl (by omega) (Strs.one ξ W) (by simp only [OF,OX];omega) λv' w75 _ ho hg hn=>?_
   obtain⟨⟨q1,q2,q3,q4⟩,f1,f2⟩:=i48.add hs n2 n3 H ho hg hn;exact⟨⟨q1,q2,q3⟩,rx,mx,rfl,(hx.ex q1).mp,vn,true,.inl ⟨rfl,n1⟩,⟨q1,q2,q3⟩,ho.df,f1,λγ J=>⟨r,mm,rfl,(f2 γ J).1,λu s w86 δ g86 en=>⟨r,.string,_,_,rfl,δ,en,λw91 ε g91=>⟨v',_,(f2 γ J).2 u w86 g86 w91 ε g91⟩⟩⟩⟩
  ·refine Own.push (i48.to H).sl (by omega) (Strs.one ξ W) (by simp only [OF,OX];omega) λv' w75 _ ho hg hn=>?_
   obtain⟨⟨q1,q2,q3,q4⟩,f1,f2⟩:=i48.add hs n2 n3 H ho hg hn;exact⟨⟨q1,q2,q3⟩,ho.df,f1,λγ J=>⟨r,mm,rfl,(f2 γ J).1,λu s w86 δ g86 en=>⟨r,.string,_,_,rfl,δ,en,λw91 ε g91=>⟨v',_,(f2 γ J).2 u w86 g86 w91 ε g91⟩⟩⟩⟩
 ·have x61:Ex β w61:=hw61▸Ex.drew β;refine⟨rx,mx,rfl,(hx.ex (i48.to x61).ex).mp,vn,true,.inl ⟨rfl,n1⟩,S x61,λb67 w68 ξ W=>?_⟩;have H:Ex β w68:=Ex.trans x61 (W▸Ex.alloc w61 _);have s68:=H.size;refine⟨S H,?_⟩;refine Own.push (i48.to H).sl (by omega) (Strs.one ξ W) (by simp only [OF,OX];omega) λv' w75 _ ho hg hn=>?_
  obtain⟨⟨q1,q2,q3,q4⟩,f1,f2⟩:=i48.add hs n2 n3 H ho hg hn;exact⟨⟨q1,q2,q3⟩,ho.df,f1,λγ J=>⟨r,mm,rfl,(f2 γ J).1,λu s w86 δ g86 en=>⟨r,.string,_,_,rfl,δ,en,λw91 ε g91=>⟨v',_,(f2 γ J).2 u w86 g86 w91 ε g91⟩⟩⟩⟩
end Go.Proofs.YtdecokaadekjnaaGreat
namespace Go.Proofs.YtdecokaadekjnaaGreat
open Go
attribute [go_sem] Tryz.f27
attribute [go_sem] Tryz.f29
theorem pN (G:aB)(H:aB)(w:World)(R:Int->Bool->Sl)(h:vc az (bf [] [] [(4,true,.lt 0 (.lt 1 (.lt 2 (.lt 3 (.lt 4 (.lt 5 (.lt 6 (.lt 7 (.lt 8 (.lt 9 (.lt 10 (.lt 11 (.lt 12 (.one .g 13 (.lt 14 (.lt 15 (.lt 16 (.lt 17 (.lt 18 .done)))))))))))))))))))]) (ab Tryz.f29) (aj 0 [.s G,.s H]) w (fin az [.tmp 4 .i,.tmp 5 .b] R)):
  Sm 29 #[(.string (ai G)),(.string (ai H))] w (an [.i,.b] R):=
 bD Tryz.func29 (by kernel_rfl) h
attribute [go_sem] Tryz.f23
attribute [go_sem] Tryz.f26
theorem kh (G:aB)(H:aB)(w:World)(R:Bool->Bool->Sl)(h:vc az (bf [] [] []) (ab Tryz.f26) (aj 0 [.s G,.s H]) w (fin az [.tmp 4 .b,.tmp 5 .b] R)):
  Sm 26 #[(.string (ai G)),(.string (ai H))] w (an [.b,.b] R):=
 bD Tryz.func26 (by kernel_rfl) h
attribute [go_sem] Tryz.f28
theorem ph (G:aB)(H:aB)(w:World)(R:Int->Bool->Sl)(h:vc az (bf [] [] []) (ab Tryz.f28) (aj 0 [.s G,.s H]) w (fin az [.tmp 4 .i,.tmp 5 .b] R)):
  Sm 28 #[(.string (ai G)),(.string (ai H))] w (an [.i,.b] R):=
 bD Tryz.func28 (by kernel_rfl) h
attribute [go_sem] Tryz.f22
attribute [go_sem] Tryz.f8
attribute [go_sem] Tryz.f9
theorem iU (G:aB)(a2:aB)(w:World)(R:Bool->Sl)(h:vc az (bf [] [] []) (ab Tryz.f9) (aj 0 [.s G,.s a2]) w (fin az [.tmp 4 .b] R)):
  Sm 9 #[(.string (ai G)),(.string (ai a2))] w (an [.b] R):=
 bD Tryz.func9 (by kernel_rfl) h
attribute [go_sem] Tryz.f6
end Go.Proofs.YtdecokaadekjnaaGreat
namespace Go.Proofs.YtdecokaadekjnaaGreat
open Go Go.RowKit T Classical
section
variable {p q a b:Tx} {c:UInt8}
end
end Go.Proofs.YtdecokaadekjnaaGreat
namespace Go.Proofs.YtdecokaadekjnaaGreat
open Go
attribute [go_sem] Tryz.f55
attribute [go_sem] Tryz.f159
theorem wk (G:Value)(H:Int)(w:World)(R:Bool->Sl)(h:vc az (bf [(2,[(9,.i)])] [] []) (ab Tryz.f159) (aj 0 [.v G,.i H]) w (fin az [.tmp 4 .b] R)):
  Sm 159 #[G,(.int .i64 H)] w (an [.b] R):=
 bD Tryz.func159 (by kernel_rfl) h
attribute [go_sem] Tryz.f194
theorem j8 (w1:Value)(i2:Int)(w:World)(R:aB->Sl)(h:vc az (bf [(3,[(5,.s),(6,.s),(19,.i)])] [] []) (ab Tryz.f194) (aj 0 [.v w1,.i i2]) w (fin az [.tmp 4 .s] R)):
  Sm 194 #[w1,(.int .i64 i2)] w (an [.s] R):=
 bD Tryz.func194 (by kernel_rfl) h
theorem kW (w1:Value)(i2:Int)(j3:Int)(r4:Int)(w:World)(R:Bool->Sl)(h:bH w1 λb5 o6=>bz w b5 (o6+1) λv7=>cJ v7 i2 λb8 o9=>bz w b8 (o9+i2.toNat* 1) λv12=>dO v12 λδ=>kH 0 w λε α H J=>bC (decide (H< (δ:Int))) (cJ v12 H λζ η=>B5 J ζ (η+H.toNat* 1) λn24=>bH w1 λθ ι=>bz J θ (ι+2) λκ=>cJ κ j3 λμ ν=>bz J μ (ν+j3.toNat* 1) λβ=>dO β λξ=>Kw false 0 J λZ V f38 x39 G=>bC (decide (x39< (ξ:Int))) (cJ β x39 λο ς=>B5 G ο (ς+x39.toNat* 1) λW=>G2 f38 (bH w1 λυ φ=>bz G υ (φ+3) λχ=>cJ χ n24 λψ ω=>bz G ψ (ω+n24.toNat* 1) λv53=>cJ v53 W λb54 o55=>B5 G b54 (o55+W.toNat* 1) λn58=>G2 (decide (n58< 0)) (bH w1 λb59 o60=>bz G b59 (o60+3) λv61=>cJ v61 n24 λb62 o63=>bz G b62 (o63+n24.toNat* 1) λv66=>cJ v66 W λb67 o68=>B5 G b67 (o68+W.toNat* 1) λγ=>a7 (x39+1)/\Z ((decide (r4<=γ))) (x39+1) G/\V ((decide (r4<=γ))) (x39+1) G< V f38 x39 G) (a7 (x39+1)/\Z true (x39+1) G/\V true (x39+1) G< V f38 x39 G)) (a7 (x39+1)/\Z true (x39+1) G/\V true (x39+1) G< V f38 x39 G)) (bC (!f38) (R false G) (a7 (H+1)/\ε (H+1) G/\α (H+1) G< α H J))) (R true J)):
  Sm 195 #[w1,(.int .i64 i2),(.int .i64 j3),(.int .i64 r4)] w (an [.b] R):=
 D5 (bf [(2,[(22,.i)]),(6,[(11,.b),(34,.i)])] [] []) [.tmp 8 .b] [.v w1,.i i2,.i j3,.i r4] Tryz.func195 (by kernel_rfl) h
theorem kZ (w1:Value)(w:World)(R:Sl)(h:bH w1 λb2 o3=>bz w b2 (o3+0) λv4=>dO v4 λl6=>kH 0 w λI8 m9 ε θ=>bC (decide (ε< (l6:Int))) (bH w1 λb12 o13=>bz θ b12 (o13+0) λv14=>dO v14 λH=>(0<=((H:Int):Int)/\((H:Int):Int)=(H:Int)/\(H:Int)<=1099511627776)/\cc θ (.cells (List.toArray (List.replicate (Int.toNat (H:Int)) (.int .i64 0))) 3) λb18 w19=>dO (.slice (some ⟨b18,0,none⟩) (Int.toNat (H:Int)) (Int.toNat (H:Int))) λl21=>kH 0 w19 λυ ι J ζ=>bC (decide (J< (l21:Int))) (cJ (.slice (some ⟨b18,0,none⟩) (Int.toNat (H:Int)) (Int.toNat (H:Int))) J λb27 o28=>fH ζ b27 (o28+J.toNat* 1) (.int .i64 (-1)) λyX=>NT 194 #[w1,(.int .i64 ε)] yX λs33 w34=>NT 194 #[w1,(.int .i64 J)] w34 λs35 ς=>bC (!decide (s33=s35)) (cJ (.slice (some ⟨b18,0,none⟩) (Int.toNat (H:Int)) (Int.toNat (H:Int))) J λb37 o38=>fH ς b37 (o38+J.toNat* 1) (.int .i64 0) λφ=>a7 (J+1)/\υ (J+1) φ/\ι (J+1) φ< ι J ζ) (a7 (J+1)/\υ (J+1) ς/\ι (J+1) ς< ι J ζ)) (bH w1 λb43 o44=>bz ζ b43 (o44+3) λv45=>ay (.slice (some ⟨b18,0,none⟩) (Int.toNat (H:Int)) (Int.toNat (H:Int)))=true/\cc ζ (.cells #[(.slice (some ⟨b18,0,none⟩) (Int.toNat (H:Int)) (Int.toNat (H:Int)))] 36) λb46 w47=>iS 36 1 24 w47 v45 (.slice (some ⟨b46,0,none⟩) 1 1) λv53 w54=>bH w1 λb55 o56=>ay v53=true/\fH w54 b55 (o56+3) v53 λχ=>a7 (ε+1)/\I8 (ε+1) χ/\m9 (ε+1) χ< m9 ε θ)) (Kw true 1 θ λI59 ψ ω α κ=>bC ω (bH w1 λb64 o65=>bz κ b64 (o65+0) λv66=>dO v66 λl68=>Kw false 0 κ λI70 m71 μ V η=>bC (decide (V< (l68:Int))) (bH w1 λb75 o76=>bz η b75 (o76+0) λv77=>dO v77 λl79=>Kw μ 0 η λν β Z G W=>bC (decide (G< (l79:Int))) (bH w1 λb86 o87=>bz W b86 (o87+3) λv88=>cJ v88 V λb89 o90=>bz W b89 (o90+V.toNat* 1) λv93=>cJ v93 G λb94 o95=>B5 W b94 (o95+G.toNat* 1) λn98=>bC (decide (n98< 0)) (Db 195 #[w1,(.int .i64 V),(.int .i64 G),(.int .i64 α)] W λq99 δ=>G2 (!q99) (Db 195 #[w1,(.int .i64 G),(.int .i64 V),(.int .i64 α)] δ λq101 γ=>bC (!q101) (bH w1 λb103 o104=>bz γ b103 (o104+3) λv105=>cJ v105 V λb106 o107=>bz γ b106 (o107+V.toNat* 1) λv110=>cJ v110 G λb111 o112=>fH γ b111 (o112+G.toNat* 1) (.int .i64 α) λξ=>a7 (G+1)/\ν true (G+1) ξ/\β true (G+1) ξ< β Z G W) (a7 (G+1)/\ν Z (G+1) γ/\β Z (G+1) γ< β Z G W)) (bH w1 λb117 o118=>bz δ b117 (o118+3) λv119=>cJ v119 V λb120 o121=>bz δ b120 (o121+V.toNat* 1) λv124=>cJ v124 G λb125 o126=>fH δ b125 (o126+G.toNat* 1) (.int .i64 α) λο=>a7 (G+1)/\ν true (G+1) ο/\β true (G+1) ο< β Z G W)) (a7 (G+1)/\ν Z (G+1) W/\β Z (G+1) W< β Z G W)) (a7 (V+1)/\I70 Z (V+1) W/\m71 Z (V+1) W< m71 μ V η)) (a7 (α+1)/\I59 μ (α+1) η/\ψ μ (α+1) η< ψ ω α κ)) (R κ))):
  Sm 160 #[w1] w (an [] R):=
 D5 (bf [(1,[(14,.i)]),(5,[(25,.i)]),(15,[(5,.b),(6,.i)]),(19,[(5,.b),(61,.i)]),(22,[(5,.b),(69,.i)])] [] []) [] [.v w1] Tryz.func160 (by kernel_rfl) h
theorem qa (p1:aB)(q2:aB)(w:World)(R:Value->Bool->Sl)(h:cc w (.cells #[(.slice none 0 0),(.slice none 0 0),(.slice none 0 0),(.slice none 0 0)] 84) λb3 w4=>cc w4 (.cells #[(.slice none 0 0),(.slice none 0 0),(.slice none 0 0),(.slice none 0 0)] 84) λb5 w6=>zC w6 b5 0 4 [(.slice none 0 0),(.slice none 0 0),(.slice none 0 0),(.slice none 0 0)] λw7=>cc w7 (.cells #[(.string (ai p1)),(.string (ai q2))] 9) λb8 w9=>dO (.slice (some ⟨b8,0,none⟩) 2 2) λl11=>kH 0 w9 λI13 m14 δ ν=>bC (decide (δ< (l11:Int))) (cJ (.slice (some ⟨b8,0,none⟩) 2 2) δ λb17 o18=>qb ν b17 (o18+δ.toNat* 1) λs21=>yg 54 #[(.string (ai s21))] ν λv22 q23 w24=>cc w24 (.cells #[(.slice none 0 0),(.slice none 0 0),(.slice none 0 0)] 49) λb25 w26=>∃c27:List Value,v22= .agg (List.toArray c27)/\zC w26 b25 0 3 c27 λε=>bC (!q23) (∃v29:Value,∃v30:Value,∃v31:Value,∃v32:Value,(World.cell? ε ⟨b5,0,none⟩=some v29/\World.cell? ε ⟨b5,1,none⟩=some v30/\World.cell? ε ⟨b5,2,none⟩=some v31/\World.cell? ε ⟨b5,3,none⟩=some v32/\True)/\zC ε b3 0 4 [v29,v30,v31,v32] λξ=>∃r34:Value,∃r35:Value,∃r36:Value,∃r37:Value,(World.cell? ξ ⟨b3,0,none⟩=some r34/\World.cell? ξ ⟨b3,1,none⟩=some r35/\World.cell? ξ ⟨b3,2,none⟩=some r36/\World.cell? ξ ⟨b3,3,none⟩=some r37/\True)/\R (.agg #[r34,r35,r36,r37]) false ξ) (bz ε b25 0 λv38=>dO v38 λl40=>kH 0 ε λI42 χ J ζ=>bC (decide (J< (l40:Int))) (cJ v38 J λb46 o47=>qb ζ b46 (o47+J.toNat* 1) λs50=>bz ζ b5 0 λv51=>I6 60 #[v51,(.string (ai s50))] ζ λn52 ψ=>bC (decide (n52< 0)) (bz ψ b5 0 λv54=>cc ψ (.cells #[(.string (ai s50))] 9) λb55 w56=>iS 9 1 16 w56 v54 (.slice (some ⟨b55,0,none⟩) 1 1) λv62 w63=>ay v62=true/\fH w63 b5 0 v62 λw65=>a7 (J+1)/\I42 (J+1) w65/\χ (J+1) w65< χ J ζ) (a7 (J+1)/\I42 (J+1) ψ/\χ (J+1) ψ< χ J ζ)) (a7 (δ+1)/\I13 (δ+1) ζ/\m14 (δ+1) ζ< m14 δ ν))) (bz ν b5 0 λv66=>dO v66 λl68=>kH 0 ν λI70 m71 η ο=>bC (decide (η< (l68:Int))) (cJ v66 η λb74 o75=>qb ο b74 (o75+η.toNat* 1) λs78=>yg 102 #[(.string (ai s78))] ο λv79 q80 w81=>dO v79 λl83=>vQ (.slice none 0 0) 0 w81 λI85 m86 ω θ μ=>bC (decide (θ< (l83:Int))) (cJ v79 θ λb90 o91=>qb μ b90 (o91+θ.toNat* 1) λs94=>bz μ b5 0 λv95=>I6 60 #[v95,(.string (ai s94))] μ λn96 w97=>cc w97 (.cells #[(.int .i64 n96)] 3) λb98 w99=>iS 3 1 8 w99 ω (.slice (some ⟨b98,0,none⟩) 1 1) λv105 w106=>a7 (θ+1)/\I85 v105 (θ+1) w106/\m86 v105 (θ+1) w106< m86 ω θ μ) (bz μ b5 1 λv107=>ay ω=true/\cc μ (.cells #[ω] 36) λb108 w109=>iS 36 1 24 w109 v107 (.slice (some ⟨b108,0,none⟩) 1 1) λv115 w116=>ay v115=true/\fH w116 b5 1 v115 λw118=>a7 (η+1)/\I70 (η+1) w118/\m71 (η+1) w118< m71 η ο)) (bz ο b5 0 λv119=>dO v119 λl121=>kH 0 ο λI123 m124 W ς=>bC (decide (W< (l121:Int))) (cc ς (.cells #[(.int .i64 W)] 3) λb127 w128=>vQ ((.slice (some ⟨b127,0,none⟩) 1 1)) 0 w128 λI129 m130 Z V ι=>dO Z λl135=>bC (decide (V< (l135:Int))) (ja ι λυ w138=>dC υ b5 1 λv139=>cJ Z V λb140 o141=>wF υ b140 (o141+V.toNat* 1) λn144=>cJ v139 n144 λb145 o146=>dC υ b145 (o146+n144.toNat* 1) λv149=>dO v149 λl151=>vQ Z 0 w138 λI153 κ H G α=>bC (decide (G< (l151:Int))) (cJ v149 G λb158 o159=>B5 α b158 (o159+G.toNat* 1) λn162=>Db 159 #[H,(.int .i64 n162)] α λq163 φ=>bC (!q163) (cc φ (.cells #[(.int .i64 n162)] 3) λb165 w166=>iS 3 1 8 w166 H (.slice (some ⟨b165,0,none⟩) 1 1) λv172 w173=>a7 (G+1)/\I153 v172 (G+1) w173/\κ v172 (G+1) w173< κ H G α) (a7 (G+1)/\I153 H (G+1) φ/\κ H (G+1) φ< κ H G α)) (a7 (V+1)/\I129 H (V+1) α/\m130 H (V+1) α< m130 Z V ι)) (bz ι b5 2 λv174=>ay Z=true/\cc ι (.cells #[Z] 36) λb175 w176=>iS 36 1 24 w176 v174 (.slice (some ⟨b175,0,none⟩) 1 1) λv182 w183=>ay v182=true/\fH w183 b5 2 v182 λw185=>a7 (W+1)/\I123 (W+1) w185/\m124 (W+1) w185< m124 W ς)) (fC 160 #[(.pointer (some ⟨b5,0,none⟩))] ς λβ=>∃v187:Value,∃v188:Value,∃v189:Value,∃v190:Value,(World.cell? β ⟨b5,0,none⟩=some v187/\World.cell? β ⟨b5,1,none⟩=some v188/\World.cell? β ⟨b5,2,none⟩=some v189/\World.cell? β ⟨b5,3,none⟩=some v190/\True)/\zC β b3 0 4 [v187,v188,v189,v190] λγ=>∃r192:Value,∃r193:Value,∃r194:Value,∃r195:Value,(World.cell? γ ⟨b3,0,none⟩=some r192/\World.cell? γ ⟨b3,1,none⟩=some r193/\World.cell? γ ⟨b3,2,none⟩=some r194/\World.cell? γ ⟨b3,3,none⟩=some r195/\True)/\R (.agg #[r192,r193,r194,r195]) true γ)))):
  Sm 108 #[(.string (ai p1)),(.string (ai q2))] w (an [.v,.b] R):=
 D5 (bf [(3,[(30,.i)]),(9,[(45,.i)]),(16,[(65,.i)]),(21,[(17,.v),(76,.i)]),(28,[(98,.i)]),(32,[(21,.v),(22,.i)]),(35,[(21,.v),(118,.i)])] [] [(34,false,.lt 0 (.lt 1 (.lt 2 (.lt 3 (.lt 4 (.lt 5 (.lt 6 (.lt 7 (.lt 8 (.lt 9 .done))))))))))]) [.agg 4 84,.tmp 5 .b] [.s p1,.s q2] Tryz.func108 (by kernel_rfl) h
attribute [go_sem] Tryz.f64
theorem vw (G:aB)(H:aB)(w:World)(R:Value->Int->Int->Bool->Sl)(h:vc az (bf [] [] [(6,true,.lt 0 (.lt 1 (.lt 2 (.lt 3 (.lt 5 (.lt 6 (.lt 7 (.lt 9 (.one .g 4 (.one .g 8 (.one .g 10 (.lt 11 (.lt 12 (.lt 13 .done))))))))))))))]) (ab Tryz.f64) (aj 0 [.s G,.s H]) w (fin az [.agg 4 84,.tmp 5 .i,.tmp 6 .i,.tmp 7 .b] R)):
  Sm 64 #[(.string (ai G)),(.string (ai H))] w (an [.v,.i,.i,.b] R):=
 bD Tryz.func64 (by kernel_rfl) h
end Go.Proofs.YtdecokaadekjnaaGreat
namespace Go.Proofs.YtdecokaadekjnaaGreat
open Go Go.RowKit T Classical
theorem IP {w:World}{e:Nat}{x y z:Value}(W:ay x=true)(Z:ay y=true)(hz:ay z=true){K:Nat->Sl}(hK:∀b w',Ex w w'->(∀w2,Ex w' w2->World.cell? w2 ⟨b,0,none⟩=some x/\World.cell? w2 ⟨b,1,none⟩=some y/\World.cell? w2 ⟨b,2,none⟩=some z/\True)->K b w'):
  cc w (.cells #[.slice none 0 0,.slice none 0 0,.slice none 0 0] e) λb w2=>∃c:List Value,(.agg #[x,y,z]:Value)= .agg (List.toArray c)/\zC w2 b 0 3 c λJ=>K b J:=by
 intro b w2 hb G;have x2:Ex w w2:=G▸Ex.alloc w _;have s2:w2.heap.size=w.heap.size+1:=by rw [G,size_alloc]
 refine⟨[x,y,z],rfl,⟨rfl,by simp [W,Z,hz],λj hj=>by rw [Ph];exact HC hb G (Ex.refl _) j hj⟩,λJ V=>?_⟩;obtain⟨k,_,_,H⟩:=aK (b:=b) [x,y,z] w2 0;rw [show World.setCells w2 b 0 [x,y,z]=J from V.symm]at k H;have H:=λj (hj:j< 3)=>H j (λi hi=>by rw [Ph];exact(HC hb G (Ex.refl _) i hi).1) hj
 simp only [Ph]at H;have s3:=k.size;have x3:Ex w J:=Ex.below x2 (Kp.below k (by omega) λg hg e=>by omega);refine hK b J x3 λw4 x4=>?_
 have c:∀j,w4.cell? ⟨b,j,none⟩=J.cell? ⟨b,j,none⟩:=λj=>x4.cell (a:=⟨b,j,none⟩) (show b< _ by omega)
 exact⟨(c 0).trans (H 0 (by omega)),(c 1).trans (H 1 (by omega)),(c 2).trans (H 2 (by omega)),trivial⟩
theorem aF.cell {e B:Nat}{w:World}{v:Value}{l:List Value}(h:aF e B w v l):(v= .slice none 0 0/\l=[])\/∃g cap,v= .slice (some ⟨g,0,none⟩) l.length cap/\g< w.heap.size/\∀j u,l[j]?=some u->w.cell? ⟨g,j,none⟩=some u:=by
 have V:=h.1;rcases h.2 with⟨H,J⟩ | ⟨g,cap,cur,rfl,hb,G,W,h2,Z,h4⟩
 ·left;exact⟨H,Pg J⟩
 ·refine .inr ⟨g,cap,rfl,(Ps.1 G).1,λj u hu=>?_⟩;have hj:j< l.length:=(PB.1 hu).1;unfold World.cell?;simp only [G];rw [<-h4,Qm (by omega),Qj]at hu;exact hu
structure Gv (w:World)(va vx:Value)(all:List Tx):Prop where
 a:Strs w va all
 x:∀j (h:j< all.length),∃g cap v l,vx= .slice (some ⟨g,0,none⟩) all.length cap/\w.cell? ⟨g,0+(j:Int).toNat* 1,none⟩=some v/\g< w.heap.size/\sO all[j]=some l/\Strs w v l
theorem Gv.ex {w w':World}{va vx:Value}{all:List Tx}(h:Gv w va vx all)(x:Ex w w'):Gv w' va vx all:=by
 refine⟨h.a.ex x,λj hj=>?_⟩;obtain⟨g,cap,v,l,G,h2,H,h4,h5⟩:=h.x j hj;have :=x.size;exact⟨g,cap,v,l,G,by rw [x.cell (a:=⟨g,_,none⟩) H];exact h2,by omega,h4,h5.ex x⟩
structure Gq (w:World)(b:Nat)(all:List Tx)(P:Nat->Prop)(f:Tx->Bool)(w':World):Prop where
 ex:Ex w w'
 lb:w.heap.size<=b
 lt:b< w'.heap.size
 fr:∀j,w'.frozen? ⟨b,j,none⟩=false
 ce:∀j,j< all.length->∃u,w'.cell? ⟨b,j,none⟩=some u
 ok:∀j (h:j< all.length),P j->w'.cell? ⟨b,j,none⟩=some (.bool (f all[j]))
section
variable {w w1 w2:World} {b:Nat} {all:List Tx} {P:Nat->Prop} {f:Tx->Bool}
theorem Gq.to (h:Gq w b all P f w1)(x:Ex w1 w2):Gq w b all P f w2:=by
 have :=x.size;have G:=h.lt;exact⟨Ex.trans h.ex x,h.lb,by omega,λj=>by rw [PV x G];exact h.fr j,λj hj=>by rw [x.cell (a:=⟨b,j,none⟩) G];exact h.ce j hj,λj hj H=>by rw [x.cell (a:=⟨b,j,none⟩) G];exact h.ok j hj H⟩
theorem Gq.set (h:Gq w b all P f w1)(nd:all.Nodup){j off:Nat}(hj:j< all.length)(G:off=j){q:Bool}(hw:w2=w1.setCell ⟨b,off,none⟩ (.bool q)):Gq w b all (λi=>P i\/i=j) (put f all[j] q) w2:=by
 subst G;have k:Kp w1 w2 (λg=>g=b):=hw▸Kr.set w1 off _;have W:=h.lt;have l2:=k.size;have lb:=h.lb;obtain⟨u,hu⟩:=h.ce off hj;have same:w2.cell? ⟨b,off,none⟩=some (.bool q):=by rw [hw];exact OY _ _ _ hu
 have other:∀i,i≠off->w2.cell? ⟨b,i,none⟩=w1.cell? ⟨b,i,none⟩:=λi hi=>by rw [hw];exact OL _ _ _ _ λe=>by injection e with Z H;exact hi H.symm
 refine⟨Ex.below h.ex (Kp.below k h.ex.size λg hg e=>by omega),lb,by omega,λi=>by rw [hw,O0];exact h.fr i,λi hi=>?_,λi hi J=>?_⟩
 ·by_cases e:i=off
  ·exact⟨_,e▸same⟩
  ·rw [other i e];exact h.ce i hi
 ·unfold put;by_cases e:i=off
  ·subst e;rw [Pj rfl];exact same
  ·rw [O1 λV=>e ((List.getElem_inj nd).1 V),other i e];exact h.ok i hi (J.resolve_right e)
theorem Gq.mono {H:Nat->Prop}{J:Tx->Bool}(h:Gq w b all P f w1)(V:∀j (hj:j< all.length),H j->P j/\J all[j]=f all[j]):Gq w b all H J w1:=
 ⟨h.ex,h.lb,h.lt,h.fr,h.ce,λj hj G=>by rw [(V j hj G).2];exact h.ok j hj (V j hj G).1⟩
theorem Gq.cnt (h:Gq w b all (λ _=>True) f w1):Proofs.YtdecokaadekjnaaGreat.cnt all (λs=>decide (∃j,∃h:j< all.length,all[j]=s/\w1.cell? ⟨b,j,none⟩=some (.bool true)))=Proofs.YtdecokaadekjnaaGreat.cnt all f:=by
 unfold Proofs.YtdecokaadekjnaaGreat.cnt;refine List.countP_congr λs G=>?_
 rw [OW];constructor
 ·rintro⟨j,hj,rfl,e⟩
  rw [h.ok j hj trivial]at e;simpa using e
 ·intro e;obtain⟨j,hj,rfl⟩:=PD.1 G;exact⟨j,hj,rfl,by rw [h.ok j hj trivial,e]⟩
end
abbrev tR:Nat:=36
def M8 (P:Nat->Value->Sl):Prop:=∀j v (w w':World) (S:Nat->Prop),P j v w->Kp w w' S->(∀g,v.ownBlock=some g->¬S g)->P j v w'
structure B7 (w0:World)(b k:Nat)(P:Nat->Value->Sl)(v:Value)(rs:List Value)(w:World):Prop where
 kp:Kp w0 w λg=>g=b
 lt:b< w0.heap.size
 fr:∀j,w.frozen? ⟨b,j,none⟩=false
 ce:w.cell? ⟨b,k,none⟩=some v
 ot:∀j,j≠k->w.cell? ⟨b,j,none⟩=w0.cell? ⟨b,j,none⟩
 ow:aF tR w0.heap.size w v rs
 rw:∀j (h:j< rs.length),P j rs[j] w
 dj:∀j (h:j< rs.length) g,rs[j].ownBlock=some g->w0.heap.size<=g/\g< w.heap.size/\v.ownBlock≠some g
 di:∀i (hi:i< rs.length) j (hj:j< rs.length) g,rs[i].ownBlock=some g->rs[j].ownBlock=some g->i=j
section
variable {w0 w:World} {b k:Nat} {P:Nat->Value->Sl} {v:Value} {rs:List Value}
theorem B7.to (h:B7 w0 b k P v rs w)(st:M8 P){w':World}(x:Ex w w'):B7 w0 b k P v rs w':=by
 have s:=x.size;have H:=h.kp.size;have lt:=h.lt;have c:∀j,w'.cell? ⟨b,j,none⟩=w.cell? ⟨b,j,none⟩:=λj=>x.cell (a:=⟨b,j,none⟩) (show b< _ by omega)
 exact⟨Kp.trans h.kp (Kp.af x _) λ _ _ h=>h,lt,λj=>by rw [PV x (show b< _ by omega)];exact h.fr j,by rw [c];exact h.ce,λj hj=>by rw [c];exact h.ot j hj,h.ow.ex x,λj hj=>st j _ w w' (λ _=>False) (h.rw j hj) (Kp.af x _) λ _ _ h=>h,λj hj g G=>by have :=h.dj j hj g G;exact⟨this.1,by omega,this.2.2⟩,h.di⟩
theorem B7.push (h:B7 w0 b k P v rs w)(st:M8 P){r:Value}(hr:P rs.length r w)(hb:∀g,r.ownBlock=some g->w0.heap.size<=g/\g< w.heap.size/\v.ownBlock≠some g/\∀j (hj:j< rs.length),rs[j].ownBlock≠some g)(o1:ay r=true)(hl:rs.length<=1000000000){K:Value->Sl}
  (hK:∀v' w2,ay v'=true->(((∃u,w2.cell? ⟨b,k,none⟩=some u)/\w2.frozen? ⟨b,k,none⟩=false)/\∀w3,w3=w2.setCell ⟨b,k,none⟩ v'->B7 w0 b k P v' (rs++[r]) w3)->K v' w2):
  cc w (.cells #[r] tR) λb1 w1=>iS tR 1 24 w1 v (.slice (some ⟨b1,0,none⟩) 1 1) K:=by
 intro b1 w1 α W;have x1:Ex w w1:=W▸Ex.alloc w _;have s1:w1.heap.size=w.heap.size+1:=by rw [W,size_alloc]
 have s0:=h.kp.size;have lt:=h.lt;refine⟨w0.heap.size,rs.length,1,rs,[r],h.ow.ex x1,by omega,⟨rfl,by simp [o1],.inr ⟨b1,0,1,rfl,λj u hu=>?_⟩⟩,⟨by unfold maxLen;omega,by omega⟩,λv' w2 ho G hn=>?_⟩
 ·match j,hu with
  | 0,hu=>
   cases hu;rw [W,α];exact aa rfl
 have ho:aF tR w0.heap.size w2 v' (rs++[r]):=by unfold aF;rw [OM];exact ho
 have Z:Kp w1 w2 λg=>v.ownBlock=some g:=Kp.aJ G λ _ h=>h
 have s2:=Z.size;have vb:=h.ow.block;have e2:=Z.block b (by omega) λe=>by have :=vb b e;omega
 have c2:∀j,w2.cell? ⟨b,j,none⟩=w.cell? ⟨b,j,none⟩:=λj=>by rw [OG (w:=w1) e2,x1.cell (a:=⟨b,j,none⟩) (show b< _ by omega)]
 have f2:∀j,w2.frozen? ⟨b,j,none⟩=false:=λj=>by rw [Pd (w:=w1) e2,PV x1 (show b< _ by omega)];exact h.fr j
 have h2:w2.cell? ⟨b,k,none⟩=some v:=(c2 k).trans h.ce;refine hK v' w2 ho.df ⟨⟨⟨v,h2⟩,f2 k⟩,λw3 V=>?_⟩;have k3:Kp w2 w3 (λg=>g=b):=V▸Kr.set w2 k v';have s3:=k3.size;have kk:Kp w w3 λg=>v.ownBlock=some g\/g=b:=Kp.trans (Kp.trans (Kp.af x1 _) (Kp.mono (λ _ h=> .inl h) Z) λ _ _ h=>h) k3 λ _ _ h=> .inr h
 have dv:∀g,g< w.heap.size->v.ownBlock≠some g->v'.ownBlock≠some g:=λg G hv e=>(hn g e).elim hv λh=>by omega
 refine⟨Kp.trans h.kp kk λg G e=>e.elim (λe=>by have :=vb g e;omega) id,lt,λj=>by rw [V,O0];exact f2 j,by rw [V];exact OY _ _ _ h2,λj hj=>?_,ho.kp k3 λg G e=>by have :=ho.block g G;omega,λj hj=>?_,λj hj g G=>?_,λi hi j hj g G H=>?_⟩
 ·rw [V,OL _ _ _ _ (λe=>by injection e with e1 e2;exact hj e2.symm),c2];exact h.ot j hj
 ·rw [OM,P5]at hj;by_cases e:j< rs.length
  ·rw [P8 e];exact st _ _ _ _ _ (h.rw j e) kk λg G J=>by
    have :=h.dj j e g G;exact J.elim this.2.2 λJ=>by omega
  ·have e:j=rs.length:=by omega
   subst e;rw [QF (OQ _)];simp only [Si,QT];exact st _ _ _ _ _ hr kk λg G J=>by
    have :=hb g G;exact J.elim this.2.2.1 λJ=>by omega
 ·rw [OM,P5]at hj;by_cases e:j< rs.length
  ·rw [P8 e]at G;have :=h.dj j e g G;exact⟨this.1,by omega,dv g this.2.1 this.2.2⟩
  ·have e:j=rs.length:=by omega
   subst e;rw [QF (OQ _)]at G;simp only [Si,QT]at G;have :=hb g G;exact⟨this.1,by omega,dv g this.2.1 this.2.2.1⟩
 ·rw [OM,P5]at hi hj;by_cases e:i< rs.length<;>by_cases J:j< rs.length
  ·rw [P8 e]at G;rw [P8 J]at H;exact h.di i e j J g G H
  ·have J:j=rs.length:=by omega
   subst J;rw [P8 e]at G;rw [QF (OQ _)]at H;simp only [Si,QT]at H;exact absurd G ((hb g H).2.2.2 i e)
  ·have e:i=rs.length:=by omega
   subst e;rw [P8 J]at H;rw [QF (OQ _)]at G;simp only [Si,QT]at G;exact absurd H ((hb g G).2.2.2 j J)
  ·omega
end
def Ns (w:World)(v:Value)(l:List Nat):Prop:=∃B,aF tI B w v (l.map iv)
theorem Ns.slice {w:World}{v:Value}{l:List Nat}(h:Ns w v l):∃a cap,v= .slice a l.length cap:=by
 obtain⟨B,h⟩:=h;rcases h.cell with⟨rfl,e⟩ | ⟨g,cap,e,_⟩
 ·have:l=[]:=by simpa using e
  subst this;exact⟨_,_,rfl⟩
 ·rw [O8]at e;exact⟨_,_,e⟩
theorem Ns.get {w:World}{v:Value}{l:List Nat}(h:Ns w v l){i:Nat}(hi:i< l.length){K:Int->Prop}(G:K l[i]):cJ v i λb o=>B5 w b (o+(i:Int).toNat* 1) K:=by
 obtain⟨B,h⟩:=h;rcases h.cell with⟨rfl,e⟩ | ⟨g,cap,e,_,hc⟩
 ·have:l=[]:=by simpa using e
  subst this;simp at hi
 ·rw [O8]at e;refine⟨g,0,_,cap,e,by omega,by omega,(l[i]:Int),?_,G⟩;rw [show 0+(i:Int).toNat* 1=i by omega];exact hc i _ (by rw [Qu,OH hi];rfl)
theorem Ns.kp {w w':World}{S:Nat->Prop}{v:Value}{l:List Nat}(h:Ns w v l)(k:Kp w w' S)(G:∀g,v.ownBlock=some g->¬S g):Ns w' v l:=by
 obtain⟨B,h⟩:=h;exact⟨B,h.kp k G⟩
theorem Ns.ex {w w':World}{v:Value}{l:List Nat}(h:Ns w v l)(x:Ex w w'):Ns w' v l:=h.kp (Kp.af x λ _=>False) λ _ _ h=>h
theorem jd {B:Nat}{w:World}{v:Value}{rs:List Value}(h:aF tR B w v rs){i:Nat}(hi:i< rs.length){K:Value->Prop}(G:K rs[i]):cJ v i λb o=>bz w b (o+(i:Int).toNat* 1) K:=by
 rcases h.cell with⟨rfl,e⟩ | ⟨g,cap,e,_,hc⟩
 ·subst e;simp at hi
 ·refine⟨g,0,_,cap,e,by omega,by omega,_,?_,G⟩;rw [show 0+(i:Int).toNat* 1=i by omega];exact hc i _ (OH hi)
def MO (all:List Tx)(ns:List Nat)(P:Tx->Prop):Prop:=(∀n∈ns,∃h:n< all.length,P all[n])/\∀t,P t->∃n∈ns,∃h:n< all.length,all[n]=t
theorem KN {w:World}{v:Value}{l:List Nat}(h:Ns w v l)(hl:l.length<=1000000000){n:Nat}{R:Bool->Sl}(hR:R (decide (n∈l)) w):
  Sm 159 #[v,iv n] w (an [.b] R):=by
 refine wk v n w R ?_;dsimp only [go_sem];dsimp only [go_sem,UInt8.reduceOfNat,UInt32.reduceOfNat,Nat.reduceAdd];obtain⟨a,cap,W⟩:=h.slice;refine⟨a,_,cap,W,λx w'=>w'=w/\∃j:Nat,x=j/\j<=l.length/\n∉l.take j,λx _=>(l.length - x).toNat,⟨rfl,0,rfl,Px _,by simp⟩,λx w' Z=>?_⟩;obtain⟨rfl,j,rfl,hj,H⟩:=Z;refine⟨λJ=>?_,λV=>?_⟩
 ·have G:=oL J;refine h.get G ⟨λhe=>?_,λhe=>⟨by omega,⟨rfl,j+1,by omega,by omega,λhm=>?_⟩,tN (by omega)⟩⟩
  ·have he:l[j]=n:=by simp only [OW]at he;omega
   rw [PL (he▸OP G)]at hR;exact hR
  ·have he:l[j]≠n:=by simp only [OV]at he;omega
   rw [OK G,OS,OO]at hm;exact hm.elim H λe=>he e.symm
 ·have e:=oE V (by omega);rw [e,Pa]at H;rw [PX H]at hR;exact hR
structure I4 (w:World)(b:Nat)(all:List Tx)(va vn vr:Value)(ns rs:List Value):Prop where
 lt:b< w.heap.size
 c0:w.cell? ⟨b,0,none⟩=some va
 c1:w.cell? ⟨b,1,none⟩=some vn
 c2:w.cell? ⟨b,2,none⟩=some vr
 a:Strs w va all
 n:∃B,aF tR B w vn ns
 r:∃B,aF tR B w vr rs
 nl:ns.length=all.length
 rl:rs.length=all.length
 nr:∀j (h:j< all.length) (h':j< ns.length),∃l,Ns w ns[j] l/\MO all l (·∈B3 all[j])/\l.length<=12960000
 rr:∀j (h:j< all.length) (h':j< rs.length),∃l,Ns w rs[j] l/\MO all l (n9 all[j])/\l.length<=120
 da:va.ownBlock≠some b
 dn:vn.ownBlock≠some b
 dr:vr.ownBlock≠some b
 dns:∀j (h:j< ns.length),ns[j].ownBlock≠some b
 drs:∀j (h:j< rs.length),rs[j].ownBlock≠some b
section
variable {w w':World} {b:Nat} {all:List Tx} {va vn vr:Value} {ns rs:List Value}
theorem I4.kp (h:I4 w b all va vn vr ns rs)(k:Kp w w' λg=>g=b)(c:∀j,j≠3->w'.cell? ⟨b,j,none⟩=w.cell? ⟨b,j,none⟩):I4 w' b all va vn vr ns rs:=by
 have s:=k.size;have lt:=h.lt;obtain⟨B,V⟩:=h.n;obtain⟨W,hr⟩:=h.r;have nb:∀{v:Value},v.ownBlock≠some b->∀g,v.ownBlock=some g->¬g=b:=λZ g hg e=>Z (e▸hg)
 refine⟨by omega,by rw [c 0 (by omega)];exact h.c0,by rw [c 1 (by omega)];exact h.c1,by rw [c 2 (by omega)];exact h.c2,h.a.zK k (nb h.da),⟨B,V.kp k (nb h.dn)⟩,⟨W,hr.kp k (nb h.dr)⟩,h.nl,h.rl,λj hj G=>?_,λj hj G=>?_,h.da,h.dn,h.dr,h.dns,h.drs⟩
 ·obtain⟨l,H,h2,J⟩:=h.nr j hj G;exact⟨l,H.kp k (nb (h.dns j G)),h2,J⟩
 ·obtain⟨l,H,h2,J⟩:=h.rr j hj G;exact⟨l,H.kp k (nb (h.drs j G)),h2,J⟩
theorem I4.ex (h:I4 w b all va vn vr ns rs)(x:Ex w w'):I4 w' b all va vn vr ns rs:=h.kp (Kp.af x _) λj _=>x.cell (a:=⟨b,j,none⟩) h.lt
theorem Bm (h:I4 w b all va vn vr ns rs)(α:∀s∈all,St s)(hl:all.length<=120){i:Nat}(hi:i< all.length){R:aB->Sl}(hR:∀w',Ex w w'->R (pV 33 all[i]++[47]++pV 63 all[i]) w'):
  Sm 194 #[ptr b,iv i] w (an [.s] R):=by
 refine j8 _ i w R ?_;dsimp only [go_sem];dsimp only [go_sem,UInt8.reduceOfNat,UInt32.reduceOfNat,Nat.reduceAdd];obtain⟨B,hr⟩:=h.r;have W:i< rs.length:=by rw [h.rl];exact hi
 obtain⟨l,l1,l2,l3⟩:=h.rr i hi W;obtain⟨a,cap,hv⟩:=l1.slice;refine⟨b,0,rfl,vr,h.c2,jd hr W (K:=λv=>_) ⟨a,_,cap,hv,λs r x w'=>∃j:Nat,x=j/\j<=l.length/\Ex w w'/\jb s/\jb r/\(∀c,c∈s↔∃n∈l.take j,c∈lR 33 (all.getD n []))/\(∀c,c∈r↔∃n∈l.take j,c∈lR 63 (all.getD n [])),λ _ _ x _=>(l.length - x).toNat,⟨0,rfl,Px _,Ex.refl _,List.Pairwise.nil,List.Pairwise.nil,by simp,by simp⟩,λs r x w' hI=>?_⟩⟩;obtain⟨j,rfl,hj,x,s1,r1,H,J⟩:=hI;have Z:∀{n:Nat} (h:n< all.length),all.getD n []=all[n]:=λh=>by rw [P9,OH h];rfl
 refine⟨λβ=>?_,λγ=>?_⟩;rotate_left
 ·have e:=oE γ (by omega);rw [e,Pa]at H J;have key:∀{k:UInt8} {s:Tx},jb s->(∀c,c∈s↔∃n∈l,c∈lR k (all.getD n []))->s=pV k all[i]:=λ{k s} h1 h2=>uD h1 (ym _ _) λc=>by
   rw [h2,Ek];constructor
   ·rintro⟨n,G,h4⟩
    obtain⟨h5,h6⟩:=l2.1 n G;exact⟨_,h6,by rw [Z h5]at h4;exact h4⟩
   ·rintro⟨t,G,h4⟩
    obtain⟨n,h5,h6,rfl⟩:=l2.2 t G;exact⟨n,h5,by rw [Z h6];exact h4⟩
  have w1:=DN 33 all[i];have w2:=DN 63 all[i];rw [key s1 H,key r1 J];refine⟨by simp only [P5];omega,by rw [OM,P5];omega,hR w' x⟩
 have V:=oL β;obtain⟨hn,_⟩:=l2.1 _ (OP V);have h':=h.ex x;refine(l1.ex x).get V (K:=λn=>_) ⟨b,0,rfl,va,h'.c0,h'.a.get (Ex.refl _) (i:=l[j]) (x:=all[l[j]]) (by omega) (by rw [OU];exact OH hn) (Q:=λn=>_) ?_⟩;have b1:=Ah 33 all[l[j]];have b2:=Ah 63 all[l[j]];have mem:∀{k:UInt8} {s s':Tx},(∀c,c∈s↔∃t∈l.take j,c∈lR k (all.getD t []))->(∀c,c∈s'↔c∈s\/c∈lR k all[l[j]])->∀c,c∈s'↔∃t∈l.take (j+1),c∈lR k (all.getD t []):=λ{k s s'} h1 h2 c=>by
  rw [h2,h1,OK V];simp only [OS,OO];constructor
  ·rintro(⟨t,G,h4⟩ | G)
   ·exact⟨t,.inl G,h4⟩
   ·exact⟨_,.inr rfl,by rw [Z hn];exact G⟩
  ·rintro⟨t,G | rfl,h4⟩
   ·exact .inl ⟨t,G,h4⟩
   ·rw [Z hn]at h4;exact .inr h4
 refine F0 (α _ (OP hn)) λw1 x1=>fX s1 (by omega) λs' w2 x2 s2 δ=>fX r1 (by omega) λr' w3 x3 r2 ε=>?_
 exact⟨by omega,⟨j+1,by omega,by omega,Ex.trans x (Ex.trans x1 (Ex.trans x2 x3)),s2,r2,mem H δ,mem J ε⟩,tN (by omega)⟩
structure I1 (w:World)(b:Nat)(N:Nat)(vx:Value)(xs:List Value)(A:Nat->Nat->Int):Prop where
 c3:w.cell? ⟨b,3,none⟩=some vx
 x:∃B,aF tR B w vx xs
 xl:xs.length=N
 xr:∀i (h:i< xs.length),∃g cap,xs[i]= .slice (some ⟨g,0,none⟩) N cap/\g< w.heap.size/\(∀j,w.frozen? ⟨g,j,none⟩=false)/\∀j,j< N->w.cell? ⟨g,j,none⟩=some (.int .i64 (A i j))
theorem I1.get {N:Nat}{vx:Value}{xs:List Value}{A:Nat->Nat->Int}(h:I1 w b N vx xs A){i j:Nat}(hi:i< N)(hj:j< N){K:Int->Prop}(H:K (A i j)):
  bH (ptr b) λb2 o=>bz w b2 (o+3) λv=>cJ v i λb3 J=>bz w b3 (J+(i:Int).toNat* 1) λv4=>cJ v4 j λb5 V=>B5 w b5 (V+(j:Int).toNat* 1) K:=by
 obtain⟨B,W⟩:=h.x;have G:i< xs.length:=by rw [h.xl];exact hi
 obtain⟨g,cap,e,_,_,hc⟩:=h.xr i G;refine⟨b,0,rfl,vx,h.c3,jd W G (K:=λv=>_) ⟨g,0,_,cap,e,by omega,by omega,_,?_,H⟩⟩;rw [show 0+(j:Int).toNat* 1=j by omega];exact hc j hj
theorem G5 (h:I4 w b all va vn vr ns rs){vx:Value}{xs:List Value}{A:Nat->Nat->Int}(ha:I1 w b all.length vx xs A){r:Nat}{F:Tx->Tx->Option Nat}(hA:∀k n (H:k< all.length) (hn:n< all.length),(A k n< 0\/(r:Int)<=A k n)↔F all[k] all[n]=none){i j:Nat}(hi:i< all.length)(hj:j< all.length){R:Bool->Sl}(hR:R (decide (Hf F all[i] all[j])) w):
  Sm 195 #[ptr b,iv i,iv j,iv r] w (an [.b] R):=by
 refine kW _ i j r w R ?_;obtain⟨Bn,hn⟩:=h.n;obtain⟨Br,hr⟩:=h.r;have β:i< ns.length:=by rw [h.nl];exact hi
 have γ:j< rs.length:=by rw [h.rl];exact hj
 obtain⟨l,l1,l2,l3⟩:=h.nr i hi β;obtain⟨m,m1,m2,m3⟩:=h.rr j hj γ;obtain⟨a,cap,hv⟩:=l1.slice;obtain⟨a',δ,η⟩:=m1.slice;refine⟨b,0,rfl,vn,h.c1,jd hn β (K:=λv=>_) ⟨a,_,cap,hv,λx w'=>w'=w/\∃c:Nat,x=c/\c<=l.length/\∀k∈l.take c,∃n∈m,A k n< 0\/(r:Int)<=A k n,λx _=>(l.length - x).toNat,⟨rfl,0,rfl,Px _,by simp⟩,λx w' hI=>?_⟩⟩;obtain⟨rfl,c,rfl,hc,hI⟩:=hI;refine⟨λθ=>?_,λι=>?_⟩;rotate_left
 ·have e:=oE ι (by omega);rw [e,Pa]at hI;rw [PL (show Hf F all[i] all[j]from λk H=>?_)]at hR
  ·exact hR
  ·obtain⟨n,V,h2,rfl⟩:=l2.2 k H;obtain⟨o,h3,h4⟩:=hI n V;obtain⟨h5,h6⟩:=m2.1 o h3;exact⟨_,h6,(hA n o h2 h5).1 h4⟩
 have W:=oL θ;obtain⟨H,κ⟩:=l2.1 _ (OP W);refine l1.get W (K:=λn=>_) ⟨b,0,rfl,vr,h.c2,jd hr γ (K:=λv=>_) ⟨a',_,δ,η,λf x w2=>w2=w'/\∃d:Nat,x=d/\d<=m.length/\(f=true↔∃n∈m.take d,A l[c] n< 0\/(r:Int)<=A l[c] n),λ _ x _=>(m.length - x).toNat,⟨rfl,0,rfl,Px _,by simp⟩,λf x w2 G=>?_⟩⟩;obtain⟨rfl,d,rfl,hd,G⟩:=G;refine⟨λε=>?_,λζ=>?_⟩;rotate_left
 ·have e:=oE ζ (by omega);rw [e,Pa]at G;refine⟨λJ=>?_,λJ=>⟨by omega,⟨rfl,c+1,by omega,by omega,λk H=>?_⟩,tN (by omega)⟩⟩
  ·rw [PX (show ¬Hf F all[i] all[j]from λhh=>?_)]at hR
   ·exact hR
   ·obtain⟨t,V,h2⟩:=hh _ κ;obtain⟨n,h3,h4,rfl⟩:=m2.2 t V;have:f=true:=G.2 ⟨n,h3,(hA _ n H h4).2 h2⟩;rw [this]at J;cases J
  ·rw [OK W,OS,OO]at H;rcases H with H | rfl
   ·exact hI k H
   ·exact G.1 (by simpa using J)
 have Z:=oL ε;obtain⟨hn,_⟩:=m2.1 _ (OP Z);have α:=@tN m.length d (by omega);have up:(∃n∈m.take (d+1),A l[c] n< 0\/(r:Int)<=A l[c] n)↔(∃n∈m.take d,A l[c] n< 0\/(r:Int)<=A l[c] n)\/(A l[c] m[d]< 0\/(r:Int)<=A l[c] m[d]):=by
  rw [OK Z];simp only [OS,OO];constructor
  ·rintro⟨n,V | rfl,h2⟩
   ·exact .inl ⟨n,V,h2⟩
   ·exact .inr h2
  ·rintro(⟨n,V,h2⟩ | h2)
   ·exact⟨n,.inl V,h2⟩
   ·exact⟨_,.inr rfl,h2⟩
 refine m1.get Z (K:=λn=>_) ⟨λJ=>ha.get H hn (K:=λn=>_) ⟨λhq=>ha.get H hn (K:=λn=>_) ?_,λhq=>?_⟩,λJ=>?_⟩
 ·refine⟨by omega,⟨rfl,d+1,by omega,by omega,?_⟩,α⟩;have hq:¬A l[c] m[d]< 0:=by simpa using hq
  rw [up,<-G,J,decide_eq_true_iff];simp only [Qx,Sc,hq]
 ·refine⟨by omega,⟨rfl,d+1,by omega,by omega,?_⟩,α⟩;have hq:A l[c] m[d]< 0:=by simpa using hq
  rw [up];simp only [hq,true_or,or_true]
 ·refine⟨by omega,⟨rfl,d+1,by omega,by omega,?_⟩,α⟩;rw [up,<-G,J];simp only [true_or]
end
def Row (N:Nat)(A:Nat->Nat->Int)(j:Nat)(v:Value)(w:World):Prop:=
 ∃g cap,v= .slice (some ⟨g,0,none⟩) N cap/\g< w.heap.size/\(∀i,w.frozen? ⟨g,i,none⟩=false)/\∀i,i< N->w.cell? ⟨g,i,none⟩=some (.int .i64 (A j i))
theorem pA (N:Nat)(A:Nat->Nat->Int):M8 (Row N A):=by
 rintro j v w w' S ⟨g,cap,rfl,G,h2,H⟩ k J
 have e:=k.block g G (J g rfl);have :=k.size;exact⟨g,cap,rfl,by omega,λi=>by rw [Pd (w:=w) e];exact h2 i,λi hi=>by rw [OG (w:=w) e];exact H i hi⟩
structure zM (w:World)(b N:Nat)(vx:Value)(xs:List Value)(A:Nat->Nat->Int)(w':World):Prop where
 kp:Kp w w' λg=>g=b
 ot:∀j,j≠3->w'.cell? ⟨b,j,none⟩=w.cell? ⟨b,j,none⟩
 ap:I1 w' b N vx xs A
 lt:b< w.heap.size
 vb:∀g,vx.ownBlock=some g->w.heap.size<=g
 xb:∀j (h:j< xs.length) g,xs[j].ownBlock=some g->w.heap.size<=g/\vx.ownBlock≠some g
 xd:∀i (hi:i< xs.length) j (hj:j< xs.length) g,xs[i].ownBlock=some g->xs[j].ownBlock=some g->i=j
theorem zM.of {w w':World}{b N:Nat}{vx:Value}{xs:List Value}{A:Nat->Nat->Int}(h:B7 w b 3 (Row N A) vx xs w')(H:xs.length=N):zM w b N vx xs A w':=
 ⟨h.kp,h.ot,⟨h.ce,⟨_,h.ow⟩,H,λi hi=>h.rw i hi⟩,h.lt,λg G=>(h.ow.block g G).1,λj hj g G=>⟨(h.dj j hj g G).1,(h.dj j hj g G).2.2⟩,h.di⟩
section
variable {w w':World} {b N:Nat} {vx:Value} {xs:List Value} {A:Nat->Nat->Int}
theorem zM.congr (h:zM w b N vx xs A w'){G:Nat->Nat->Int}(e:∀i j,i< N->j< N->A i j=G i j):zM w b N vx xs G w':=by
 refine⟨h.kp,h.ot,⟨h.ap.c3,h.ap.x,h.ap.xl,λi hi=>?_⟩,h.lt,h.vb,h.xb,h.xd⟩;obtain⟨g,cap,H,h2,J,h4⟩:=h.ap.xr i hi;exact⟨g,cap,H,h2,J,λj hj=>by rw [<-e i j (by have :=h.ap.xl;omega) hj];exact h4 j hj⟩
theorem zM.ex (h:zM w b N vx xs A w'){w2:World}(x:Ex w' w2):zM w b N vx xs A w2:=by
 obtain⟨B,G⟩:=h.ap.x;have s:=x.size;have H:=h.kp.size;have lt:=h.lt;refine⟨Kp.trans h.kp (Kp.af x _) λ _ _ h=>h,λj hj=>by rw [x.cell (a:=⟨b,j,none⟩) (show b< _ by omega)];exact h.ot j hj,⟨by rw [x.cell (a:=⟨b,3,none⟩) (show b< _ by omega)];exact h.ap.c3,⟨B,G.ex x⟩,h.ap.xl,λi hi=>?_⟩,lt,h.vb,h.xb,h.xd⟩;exact pA N A i _ w' w2 (λ _=>False) (h.ap.xr i hi) (Kp.af x _) λ _ _ h=>h
theorem zM.set (h:zM w b N vx xs A w'){i j:Nat}(hi:i< N)(hj:j< N){r:Int}{K:Sl}(hK:∀w2,zM w b N vx xs (λa c=>if a=i/\c=j then r else A a c) w2->K w2):
  bH (ptr b) λb2 o=>bz w' b2 (o+3) λv=>cJ v i λb3 o3=>bz w' b3 (o3+(i:Int).toNat* 1) λv4=>cJ v4 j λb5 o5=>fH w' b5 (o5+(j:Int).toNat* 1) (.int .i64 r) K:=by
 obtain⟨B,hx⟩:=h.ap.x;have H:i< xs.length:=by rw [h.ap.xl];exact hi
 obtain⟨g,cap,e,hg,hf,hc⟩:=h.ap.xr i H;have eo:xs[i].ownBlock=some g:=by rw [e];rfl
 obtain⟨x1,x2⟩:=h.xb i H g eo;have lt:=h.lt;have s0:=h.kp.size;refine⟨b,0,rfl,vx,h.ap.c3,jd hx H (K:=λv=>_) ⟨g,0,_,cap,e,by omega,by omega,?_⟩⟩;have ej:0+(j:Int).toNat* 1=j:=by omega
 refine⟨⟨⟨_,by rw [ej];exact hc j hj⟩,by rw [ej];exact hf j⟩,λw2 G=>hK w2 ?_⟩;rw [ej]at G;have k:Kp w' w2 (λJ=>J=g):=G▸Kr.set w' j _;have s:=k.size;have eb:=k.block b (by omega) (by omega);have cb:∀j,w2.cell? ⟨b,j,none⟩=w'.cell? ⟨b,j,none⟩:=λj=>OG (w:=w') eb
 refine⟨Kp.trans h.kp k λJ W e=>by omega,λj hj=>by rw [cb];exact h.ot j hj,⟨by rw [cb];exact h.ap.c3,⟨B,hx.kp k λJ h1 h2=>x2 (h2▸h1)⟩,h.ap.xl,λa ha=>?_⟩,lt,h.vb,h.xb,h.xd⟩;obtain⟨J,Z,e',W,α,β⟩:=h.ap.xr a ha;by_cases ea:a=i
 ·subst ea;rw [e]at e';cases e';refine⟨g,cap,e,by omega,λj=>by rw [G,O0];exact hf j,λc V=>?_⟩;by_cases ec:c=j
  ·subst ec;rw [Pj ⟨rfl,rfl⟩,G];exact OY _ _ _ (hc c hj)
  ·rw [O1 λh=>ec h.2,G,OL _ _ _ _ λe=>by injection e with e1 e2;exact ec e2.symm];exact hc c V
 ·have ne:J≠g:=λeg=>ea (h.xd a ha i H g (by rw [e',eg];rfl) eo)
  have e2:=k.block J W ne;refine⟨J,Z,e',by omega,λj=>by rw [Pd (w:=w') e2];exact α j,λc V=>?_⟩;rw [O1 λh=>ea h.1,OG (w:=w') e2];exact β c V
end
def azN (o:Option Nat):Int:=match o with
 | none=> -1
 | some k=>k
noncomputable def Az (all:List Tx)(F:Tx->Tx->Option Nat)(i j:Nat):Int:=azN (F (all.getD i []) (all.getD j []))
theorem jo {all:List Tx}{F:Tx->Tx->Option Nat}{i j:Nat}(hi:i< all.length)(hj:j< all.length):Az all F i j=azN (F all[i] all[j]):=by
 unfold Az;rw [P9,OH hi,P9,OH hj];rfl
noncomputable def Am (all:List Tx)(n i0 j0 i j:Nat):Int:=if i< i0\/(i=i0/\j< j0)then Az all (ap (n+1)) i j else Az all (ap n) i j
theorem Lf {n:Nat}{s t:Tx}:(azN (ap n s t)< 0\/((n+1:Nat):Int)<=azN (ap n s t))↔ap n s t=none:=by
 cases e:ap n s t with
 | none=>simp [azN]
 | some k=>
  have :=GQ e;simp only [azN,reduceCtorEq,iff_false];omega
theorem L3 {n:Nat}{s t:Tx}:(azN (ap (n+1) s t)< 0\/((n+1:Nat):Int)<=azN (ap (n+1) s t))↔ap n s t=none:=by
 cases e:ap n s t with
 | some k=>
  have :=GQ e;rw [kv e];simp only [azN,reduceCtorEq,iff_false];omega
 | none=>
  rw [fB e];split<;>simp [azN]
theorem yT {all:List Tx}{n i0 j0 i j:Nat}(hi:i< all.length)(hj:j< all.length):(Am all n i0 j0 i j< 0\/((n+1:Nat):Int)<=Am all n i0 j0 i j)↔ap n all[i] all[j]=none:=by
 unfold Am;split
 ·rw [jo hi hj];exact L3
 ·rw [jo hi hj];exact Lf
theorem JF {all:List Tx}{n i j:Nat}:Am all n 0 0 i j=Az all (ap n) i j:=by unfold Am;rw [O1 (by omega)]
theorem Ls {all:List Tx}{n i0 i j:Nat}(hj:j< all.length):Am all n i0 all.length i j=Am all n (i0+1) 0 i j:=by
 unfold Am;have:(i< i0\/i=i0/\j< all.length)↔(i< i0+1\/i=i0+1/\j< 0):=by omega
 simp only [this]
theorem LD {all:List Tx}{n i j:Nat}(hi:i< all.length):Am all n all.length 0 i j=Az all (ap (n+1)) i j:=by unfold Am;rw [Pj (.inl hi)]
theorem KX {all:List Tx}{n i0 j0:Nat}:Am all n i0 j0 i0 j0=Az all (ap n) i0 j0:=by unfold Am;rw [O1 (by omega)]
theorem EP {all:List Tx}{n i0 j0 i j:Nat}:Am all n i0 (j0+1) i j=if i=i0/\j=j0 then Az all (ap (n+1)) i j else Am all n i0 j0 i j:=by
 unfold Am;by_cases e:i=i0/\j=j0
 ·rw [Pj (by omega),Pj e]
 ·rw [O1 e];have:(i< i0\/i=i0/\j< j0+1)↔(i< i0\/i=i0/\j< j0):=by omega
  simp only [this]
def I3 (all:List Tx)(n i0 j0:Nat)(c:Bool):Prop:=(c=false->∀i j,(i< i0\/i=i0/\j< j0)->∀(hi:i< all.length) (hj:j< all.length),ap (n+1) all[i] all[j]=ap n all[i] all[j])/\(c=true->∃s∈all,∃t∈all,ap n s t=none/\ap (n+1) s t≠none)
theorem I3.skip {all:List Tx}{n i0 j0:Nat}{c:Bool}(h:I3 all n i0 j0 c)(hi:i0< all.length)(hj:j0< all.length)(e:ap (n+1) all[i0] all[j0]=ap n all[i0] all[j0]):I3 all n i0 (j0+1) c:=by
 refine⟨λhc i j G hi hj=>?_,h.2⟩;by_cases H:i=i0/\j=j0
 ·obtain⟨rfl,rfl⟩:=H;exact e
 ·exact h.1 hc i j (by omega) hi hj
theorem I3.row {all:List Tx}{n i0:Nat}{c:Bool}(h:I3 all n i0 all.length c):I3 all n (i0+1) 0 c:=⟨λhc i j G hi hj=>h.1 hc i j (by omega) hi hj,h.2⟩
theorem I' {all:List Tx}{n:Nat}{s t:Tx}(H:s∈all)(J:t∈all)(V:ap n s t=none)(h2:ap (n+1) s t≠none):uo all (ap (n+1))< uo all (ap n):=by
 unfold uo;refine wC (λp _ G=>?_) (y3.2 ⟨H,J⟩) (PL V) (PX h2);have G:ap (n+1) p.1 p.2=none:=O7 G;refine PL ?_;cases e:ap n p.1 p.2 with
 | none=>rfl
 | some k=>rw [kv e]at G;cases G
structure Gg (w:World)(g N:Nat)(f:Nat->Option Int)(w':World):Prop where
 kp:Kp w w' λq=>q=g
 lt:g< w.heap.size
 fr:∀k,w'.frozen? ⟨g,k,none⟩=false
 ce:∀k,k< N->∃u,w'.cell? ⟨g,k,none⟩=some u
 ok:∀k n,f k=some n->w'.cell? ⟨g,k,none⟩=some (.int .i64 n)
section
variable {w w' w2:World} {g N:Nat} {f:Nat->Option Int}
theorem Gg.ex (h:Gg w g N f w')(x:Ex w' w2):Gg w g N f w2:=by
 have s:=h.kp.size;have lt:=h.lt;have c:∀k,w2.cell? ⟨g,k,none⟩=w'.cell? ⟨g,k,none⟩:=λk=>x.cell (a:=⟨g,k,none⟩) (show g< _ by omega)
 exact⟨Kp.trans h.kp (Kp.af x _) λ _ _ h=>h,lt,λk=>by rw [PV x (show g< _ by omega)];exact h.fr k,λk G=>by rw [c];exact h.ce k G,λk n H=>by rw [c];exact h.ok k n H⟩
theorem Gg.set (h:Gg w g N f w'){j:Nat}(hj:j< N){n:Int}(hw:w2=w'.setCell ⟨g,j,none⟩ (.int .i64 n)){G:Nat->Option Int}(H:∀k m,G k=some m->(k=j/\m=n)\/(k≠j/\f k=some m)):Gg w g N G w2:=by
 obtain⟨u,hu⟩:=h.ce j hj;have k:Kp w' w2 (λq=>q=g):=hw▸Kr.set w' j _;have same:w2.cell? ⟨g,j,none⟩=some (.int .i64 n):=by rw [hw];exact OY _ _ _ hu
 have other:∀i,i≠j->w2.cell? ⟨g,i,none⟩=w'.cell? ⟨g,i,none⟩:=λi hi=>by rw [hw];exact OL _ _ _ _ λe=>by injection e with V J;exact hi J.symm
 refine⟨Kp.trans h.kp k λ _ _ h=>h,h.lt,λi=>by rw [hw,O0];exact h.fr i,λi hi=>?_,λi m hm=>?_⟩
 ·by_cases e:i=j
  ·exact⟨_,e▸same⟩
  ·rw [other i e];exact h.ce i hi
 ·rcases H i m hm with⟨rfl,rfl⟩ | ⟨e,h2⟩
  ·exact same
  ·rw [other i e];exact h.ok i m h2
end
theorem L4 {w:World}{b:Nat}{all:List Tx}{va vn vr:Value}{ns rs:List Value}(h:I4 w b all va vn vr ns rs)(χ:∀s∈all,St s)(hl:all.length<=120)(hcl:Cl all)(h3:w.cell? ⟨b,3,none⟩=some (.slice none 0 0))(hf:∀j,w.frozen? ⟨b,j,none⟩=false){R:Sl}
  (hR:∀w' vx xs,Kp w w' (λg=>g=b)->(∀j,j≠3->w'.cell? ⟨b,j,none⟩=w.cell? ⟨b,j,none⟩)->I1 w' b all.length vx xs (Az all sI)->(∀g,vx.ownBlock=some g->w.heap.size<=g)->(∀j (h:j< xs.length) g,xs[j].ownBlock=some g->w.heap.size<=g)->R w'):
  Sm 160 #[ptr b] w (an [] R):=by
 refine kZ _ w R ?_;obtain⟨a,cap,hv⟩:=h.a.slice;have i0:B7 w b 3 (Row all.length (Az all (ap 0))) (.slice none 0 0) [] w:=⟨Kp.af (Ex.refl _) _,h.lt,hf,h3,λ _ _=>rfl,aF.nil _ _ _,(λj hj=>by simp at hj),(λj hj=>by simp at hj),λj hj=>by simp at hj⟩
 refine⟨b,0,rfl,va,h.c0,a,_,cap,hv,λx w'=>∃(i:Nat) (vx:Value) (xs:List Value),x=i/\i<=all.length/\xs.length=i/\B7 w b 3 (Row all.length (Az all (ap 0))) vx xs w',λx _=>(all.length - x).toNat,⟨0,_,[],rfl,Px _,rfl,i0⟩,λx δ hI=>?_⟩;clear i0;obtain⟨i,vx,xs,rfl,hi,ς,γ⟩:=hI;have hP:=h.kp γ.kp γ.ot;have s11:=γ.kp.size;have lt:=h.lt;refine⟨λυ=>?_,λθ=>?_⟩
 ·have H:=oL υ;refine⟨b,0,rfl,va,hP.c0,a,_,cap,hv,⟨by omega,rfl,by omega⟩,?_⟩;rw [OU];intro g J hg α;have ψ:Ex δ J:=α▸Ex.alloc δ _;have s19:J.heap.size=δ.heap.size+1:=by rw [α,size_alloc]
  have i19:Gg J g all.length (λ _=>none) J:=⟨Kp.af (Ex.refl _) _,by omega,λk=>by rw [α,hg];exact aG _ _ _ _,λk hk=>⟨.int .i64 0,by rw [α,hg];exact aa (by rw [Ri,List.getElem?_replicate,Pj hk])⟩,λk n hn=>by cases hn⟩
  clear α;refine⟨some ⟨g,0,none⟩,all.length,all.length,rfl,λx w'=>∃j:Nat,x=j/\j<=all.length/\Gg J g all.length (λk=>if k< j then some (Az all (ap 0) i k)else none) w',λx _=>(all.length - x).toNat,⟨0,rfl,Px _,⟨i19.kp,i19.lt,i19.fr,i19.ce,λk n hn=>by rw [O1 (by omega)]at hn;cases hn⟩⟩,λx w26 hI=>?_⟩;clear i19;obtain⟨j,rfl,hj,i26⟩:=hI;have x26:Ex δ w26:=Ex.below ψ (Kp.below i26.kp (by omega) λq Z e=>by omega);have s26:=i26.kp.size;refine⟨λε=>?_,λζ=>?_⟩
  ·have G:=oL ε;have ej:0+(j:Int).toNat* 1=j:=by omega
   have η:=@tN all.length j (by omega);refine⟨g,0,_,_,rfl,by omega,by omega,⟨by rw [ej];exact i26.ce j G,by rw [ej];exact i26.fr j⟩,λyX κ=>?_⟩;rw [ej]at κ;have up:∀{n:Int} {w' w2:World} {f:Nat->Option Int},Gg J g all.length f w'->(∀k,k< j->f k=some (Az all (ap 0) i k))->w2=w'.setCell ⟨g,j,none⟩ (.int .i64 n)->Gg J g all.length (λk=>if k=j then some n else if k< j then some (Az all (ap 0) i k)else none) w2:=λ{n w' w2 f} h hf hw=>h.set G hw λk m hm=>by
    by_cases e:k=j
    ·rw [Pj e]at hm;exact .inl ⟨e,(Pz hm).symm⟩
    ·rw [O1 e]at hm;split at hm
     ·rename_i hk;exact .inr ⟨e,by rw [hf k hk];exact hm⟩
     ·cases hm
   have i32:=up i26 (λk hk=>Pj hk) κ;have ω:Ex δ yX:=Ex.below ψ (Kp.below i32.kp (by omega) λq Z e=>by omega);have fin:∀{n:Int} {w':World},Gg J g all.length (λk=>if k=j then some n else if k< j then some (Az all (ap 0) i k)else none) w'->n=Az all (ap 0) i j->Gg J g all.length (λk=>if k< j+1 then some (Az all (ap 0) i k)else none) w':=λ{n w'} h hn=>⟨h.kp,h.lt,h.fr,h.ce,λk m hm=>h.ok k m (by
    split at hm
    ·rename_i hk;by_cases e:k=j
     ·subst e;rw [Pj rfl,hn];exact hm
     ·rw [O1 e,Pj (by omega)];exact hm
    ·cases hm)⟩
   refine Bm (hP.ex ω) χ hl H λw34 x34=>Bm (hP.ex (Ex.trans ω x34)) χ hl G λw36 x36=>?_
   have i36:=i32.ex (Ex.trans x34 x36);refine⟨λZ=>⟨g,0,_,_,rfl,by omega,by omega,⟨by rw [ej];exact i36.ce j G,by rw [ej];exact i36.fr j⟩,λw42 μ=>?_⟩,λZ=>?_⟩
   ·rw [ej]at μ;have hb:¬Jv all[i] all[j]:=λhb=>by rw [PL (zR.2 hb)]at Z;cases Z
    refine⟨by omega,⟨j+1,by omega,by omega,fin (up i36 (λk hk=>by rw [O1 (by omega),Pj hk]) μ) ?_⟩,η⟩;rw [jo H G,ap,O1 hb];rfl
   ·have hb:Jv all[i] all[j]:=zR.1 (by simpa using Z);refine⟨by omega,⟨j+1,by omega,by omega,fin i36 ?_⟩,η⟩;rw [jo H G,ap,Pj hb];rfl
  ·have e:=oE ζ (by omega);have t26:=γ.to (pA _ _) x26;have vb:=γ.ow.block;refine⟨b,0,rfl,vx,t26.ce,rfl,B7.push t26 (pA _ _) ⟨g,_,rfl,by have :=i26.lt;omega,i26.fr,λk hk=>i26.ok k _ (by rw [Pj (by omega),ς])⟩ (λq Z=>?_) rfl (by omega) λv' w54 o1 ν=>⟨b,0,rfl,o1,ν.1,λw58 hw58=>⟨by omega,⟨i+1,v',xs++[_],by omega,by omega,by rw [OM,P5,ς],ν.2 w58 hw58⟩,tN (by omega)⟩⟩⟩;have Z:g=q:=Pz Z;subst Z;refine⟨by omega,by have :=i26.lt;omega,λe=>by have :=(vb g e).2;omega,λk hk e=>by have :=(γ.dj k hk g e).2.1;omega⟩
 have ei:=oE θ (by omega);subst ei;have m11:=zM.of γ ς;have hpl:=Ed hl;refine⟨λc r w'=>∃n:Nat,r=((n+1:Nat):Int)/\n<=14401/\zM w b all.length vx xs (Az all (ap n)) w'/\(c=true->n+uo all (ap n)<=14400)/\(c=false->∀s∈all,∀t∈all,sI s t=ap n s t),λ _ r _=>(14403 - r).toNat,⟨0,rfl,by omega,m11,λ _=>?_,(λh=>by cases h)⟩,λc r w63 hI=>?_⟩
 ·have:uo all (ap 0)<=(IM all).length:=List.countP_le_length;omega
 clear m11 θ hi;obtain⟨n,rfl,hn,β,hc1,hc0⟩:=hI;refine⟨λhc=>?_,λhc=>?_⟩;rotate_left
 ·exact hR w63 vx xs β.kp β.ot (β.congr λi j hi hj=>by rw [jo hi hj,jo hi hj,hc0 hc _ (OP hi) _ (OP hj)]).ap β.vb λj hj g hg=>(β.xb j hj g hg).1
 have hcn:=hc1 hc;have hP63:=h.kp β.kp β.ot;refine⟨b,0,rfl,va,hP63.c0,a,_,cap,hv,λc x w'=>∃i:Nat,x=i/\i<=all.length/\zM w b all.length vx xs (Am all n i 0) w'/\I3 all n i 0 c,λ _ x _=>(all.length - x).toNat,⟨0,rfl,Px _,β.congr λi j _ _=>JF.symm,(λ _ i j hij=>by omega),(λh=>by cases h)⟩,λc' x w74 hI=>?_⟩;obtain⟨i,rfl,hi,ι,ch⟩:=hI;have hP74:=h.kp ι.kp ι.ot;refine⟨λυ=>?_,λθ=>?_⟩;rotate_left
 ·have ei:=oE θ (by omega);subst ei;refine⟨by omega,⟨n+1,by omega,by omega,ι.congr λi j hi _=>LD hi,λφ=>?_,λφ s hs t ht=>?_⟩,by show(14403 - (((n+1:Nat):Int)+1)).toNat< (14403 - ((n+1:Nat):Int)).toNat;omega⟩
  ·obtain⟨s,hs,t,ht,h1,h2⟩:=ch.2 φ;have :=I' hs ht h1 h2;omega
  ·have fix:∀s∈all,∀t∈all,ap (n+1) s t=ap n s t:=λs hs t ht=>by
    obtain⟨i,hi,rfl⟩:=PD.1 hs;obtain⟨j,hj,rfl⟩:=PD.1 ht;exact ch.1 φ i j (.inl hi) hi hj
   rw [DP hcl fix s hs t ht,fix s hs t ht]
 have H:=oL υ;refine⟨b,0,rfl,va,hP74.c0,a,_,cap,hv,λc x w'=>∃j:Nat,x=j/\j<=all.length/\zM w b all.length vx xs (Am all n i j) w'/\I3 all n i j c,λ _ x _=>(all.length - x).toNat,⟨0,rfl,Px _,ι,ch⟩,λc2 x w85 hI=>?_⟩;obtain⟨j,rfl,hj,V,ch⟩:=hI;refine⟨λε=>?_,λζ=>?_⟩;rotate_left
 ·have ej:=oE ζ (by omega);subst ej;exact⟨by omega,⟨i+1,by omega,by omega,V.congr λa c _ hc=>Ls hc,ch.row⟩,tN (by omega)⟩
 have G:=oL ε;have η:=@tN all.length j (by omega);have ξ:=h.kp V.kp V.ot;have skip:ap (n+1) all[i] all[j]=ap n all[i] all[j]->a7 ((j:Int)+1)/\(∃j':Nat,(j:Int)+1=j'/\j'<=all.length/\zM w b all.length vx xs (Am all n i j') w85/\I3 all n i j' c2)/\((all.length:Int) - ((j:Int)+1)).toNat< ((all.length:Int) - j).toNat:=λe=>
  ⟨by omega,⟨j+1,by omega,by omega,V.congr λa c ha hc=>by
   rw [EP];split
   ·rename_i e2;obtain⟨rfl,rfl⟩:=e2;rw [KX,jo H G,jo H G,e]
   ·rfl,ch.skip H G e⟩,η⟩
 refine V.ap.get H G (K:=λn=>_) ⟨λZ=>?_,λZ=>?_⟩;rotate_left
 ·have Z:¬Am all n i j i j< 0:=by simpa using Z
  rw [KX,jo H G]at Z;refine skip ?_;cases e:ap n all[i] all[j]with
  | none=>rw [e]at Z;exact absurd (show(-1:Int)< 0 by omega) Z
  | some k=>exact kv e
 have W:ap n all[i] all[j]=none:=(yT (i0:=i) (j0:=j) H G).1 (.inl (by simpa using Z));have ο:¬(Hf (ap n) all[i] all[j]/\Hf (ap n) all[j] all[i])->∀w2,zM w b all.length vx xs (λa c=>if a=i/\c=j then((n+1:Nat):Int)else Am all n i j a c) w2->a7 ((j:Int)+1)/\(∃j':Nat,(j:Int)+1=j'/\j'<=all.length/\zM w b all.length vx xs (Am all n i j') w2/\I3 all n i j' true)/\((all.length:Int) - ((j:Int)+1)).toNat< ((all.length:Int) - j).toNat:=λhh w2 m2=>by
  have e:ap (n+1) all[i] all[j]=some (n+1):=by rw [fB W,O1 hh]
  refine⟨by omega,⟨j+1,by omega,by omega,m2.congr λa c ha hc=>?_,(λh=>by cases h),λ _=>⟨_,OP H,_,OP G,W,by rw [e];simp⟩⟩,η⟩;rw [EP];split
  ·rename_i e2;obtain⟨rfl,rfl⟩:=e2;rw [jo H G,e];rfl
  ·rfl
 refine G5 ξ V.ap (r:=n+1) (F:=ap n) (λk m hk hm=>yT hk hm) H G ⟨λh1=>G5 ξ V.ap (r:=n+1) (F:=ap n) (λk m hk hm=>yT hk hm) G H ⟨λh2=>?_,λh2=>?_⟩,λh1=>?_⟩
 ·exact V.set H G (ο λhh=>by rw [PL hh.2]at h2;cases h2)
 ·refine skip ?_;have h1:Hf (ap n) all[i] all[j]:=by simpa using h1
  have h2:Hf (ap n) all[j] all[i]:=by simpa using h2
  rw [fB W,Pj ⟨h1,h2⟩,W]
 ·exact V.set H G (ο λhh=>by rw [PL hh.1]at h1;cases h1)
structure J2 (w:World)(b:Nat)(va:Value)(all:List Tx)(w':World):Prop where
 kp:Kp w w' λg=>g=b
 lt:b< w.heap.size
 fr:∀j,w'.frozen? ⟨b,j,none⟩=false
 c0:w'.cell? ⟨b,0,none⟩=some va
 ot:∀j,j≠0->w'.cell? ⟨b,j,none⟩=w.cell? ⟨b,j,none⟩
 ow:Own w.heap.size w' va all
section
variable {w w':World} {b:Nat} {va:Value} {all:List Tx}
theorem J2.ex (h:J2 w b va all w'){w2:World}(x:Ex w' w2):J2 w b va all w2:=by
 have G:=h.kp.size;have lt:=h.lt;have c:∀j,w2.cell? ⟨b,j,none⟩=w'.cell? ⟨b,j,none⟩:=λj=>x.cell (a:=⟨b,j,none⟩) (show b< _ by omega)
 exact⟨Kp.trans h.kp (Kp.af x _) λ _ _ h=>h,lt,λj=>by rw [PV x (show b< _ by omega)];exact h.fr j,by rw [c];exact h.c0,λj hj=>by rw [c];exact h.ot j hj,h.ow.ex x⟩
theorem J2.push (h:J2 w b va all w'){w1 w2:World}(x:Ex w' w1){s:Tx}{v':Value}(V:Own w.heap.size w2 v' (all++[s]))(G:w1.grownBy w2 va.ownBlock):
  ((∃u,w2.cell? ⟨b,0,none⟩=some u)/\w2.frozen? ⟨b,0,none⟩=false)/\∀H,H=w2.setCell ⟨b,0,none⟩ v'->J2 w b v' (all++[s]) H:=by
 have s0:=h.kp.size;have lt:=h.lt;obtain⟨f1,f2⟩:=wq (v':=v') (B:=b) (k:=0) (w:=w') (by omega) (OQ _) (by omega) (λg G=>by have :=h.ow.block g G;omega) ⟨_,h.c0⟩ h.fr x G;refine⟨f1,λH J=>?_⟩;obtain⟨W,Z,k3,k4,k5,k6⟩:=f2 H J;exact⟨Kp.trans h.kp k4 λg G e=>e.elim (λe=>by have :=(h.ow.block g e).1;omega) id,lt,k3,W,λj hj=>(Z j hj).trans (h.ot j hj),V.kp k6 λg G e=>by have :=(V.block g G).1;omega⟩
end
theorem yW {w:World}{b3:Nat}{x y z u:Value}(hx:ay x=true)(hy:ay y=true)(hz:ay z=true)(hu:ay u=true)(hc:∀j,j< 4->(∃u,w.cell? ⟨b3,j,none⟩=some u)/\w.frozen? ⟨b3,j,none⟩=false){R:Value->Sl}(hR:∀w',Kp w w' (λg=>g=b3)->R (.agg #[x,y,z,u]) w'):
  zC w b3 0 4 [x,y,z,u] λG=>∃J:Value,∃V:Value,∃W:Value,∃Z:Value,(World.cell? G ⟨b3,0,none⟩=some J/\World.cell? G ⟨b3,1,none⟩=some V/\World.cell? G ⟨b3,2,none⟩=some W/\World.cell? G ⟨b3,3,none⟩=some Z/\True)/\R (.agg #[J,V,W,Z]) G:=by
 refine⟨⟨rfl,by simp [hx,hy,hz,hu],λj hj=>by rw [Ph];exact hc j hj⟩,λw1 α=>?_⟩;obtain⟨k,_,_,H⟩:=aK (b:=b3) [x,y,z,u] w 0;rw [show World.setCells w b3 0 [x,y,z,u]=w1 from α.symm]at k H;have H:=λj (hj:j< 4)=>H j (λi hi=>by rw [Ph];exact(hc i hi).1) hj
 simp only [Ph]at H;exact⟨x,y,z,u,⟨H 0 (by omega),H 1 (by omega),H 2 (by omega),H 3 (by omega),trivial⟩,hR w1 k⟩
theorem tU {w w1:World}{b3 e:Nat}{x y z u:Value}(hb:b3=w.heap.size)(h:w1=w.alloc (.cells #[x,y,z,u] e)):∀{w':World},Ex w1 w'->∀j,j< 4->(∃u,w'.cell? ⟨b3,j,none⟩=some u)/\w'.frozen? ⟨b3,j,none⟩=false:=λ{w'} k j hj=>by
 have s1:w1.heap.size=w.heap.size+1:=by rw [h,size_alloc]
 rw [k.cell (a:=⟨b3,j,none⟩) (show b3< _ by omega),PV k (show b3< _ by omega),h,hb];refine⟨?_,aG _ _ _ _⟩
 match j,hj with
 | 0,_=>exact⟨_,aa rfl⟩
 | 1,_=>exact⟨_,aa rfl⟩
 | 2,_=>exact⟨_,aa rfl⟩
 | 3,_=>exact⟨_,aa rfl⟩
theorem EA {B:Nat}{w:World}{v:Value}{l:List Nat}(h:aF tI B w v (l.map iv))(hB:B<=w.heap.size)(hl:l.length<=1000000000){n:Nat}{K:Value->Sl}
  (W:∀v' w',aF tI B w' v' ((l++[n]).map iv)->Below B w w'->K v' w'):
  cc w (.cells #[.int .i64 n] tI) λb1 w1=>iS tI 1 8 w1 v (.slice (some ⟨b1,0,none⟩) 1 1) K:=by
 intro b1 w1 H G;have V:Ex w w1:=G▸Ex.alloc w _;have s1:w1.heap.size=w.heap.size+1:=by rw [G,size_alloc]
 refine⟨B,l.length,1,l.map iv,[iv n],?_,by omega,⟨rfl,rfl,.inr ⟨b1,0,1,rfl,λj u hu=>?_⟩⟩,⟨by unfold maxLen;omega,by omega⟩,λv' w2 Z hg hn=>W v' w2 ?_ ?_⟩
 ·have :=h.ex V;unfold aF at this;rw [O8]at this;exact this
 ·match j,hu with
  | 0,hu=>
   cases hu;rw [G,H];exact aa rfl
 ·unfold aF;rw [PH,OM,O8];exact Z
 ·have J:Kp w1 w2 λg=>v.ownBlock=some g:=Kp.aJ hg λ _ h=>h
  exact Qr (RC V hB) (Kp.below J (by omega) λg α e=>by have :=(h.block g e).1;omega)
def NB (all:List Tx)(j:Nat)(v:Value)(w:World):Prop:=∀h:j< all.length,∃l,Ns w v l/\MO all l (·∈B3 all[j])/\l.length<=12960000
def NQ (all:List Tx)(j:Nat)(v:Value)(w:World):Prop:=∀h:j< all.length,∃l,Ns w v l/\MO all l (n9 all[j])/\l.length<=120
theorem yV (all:List Tx):M8 (NB all):=λj v w w' S h k G hj=>by
 obtain⟨l,H,h2⟩:=h hj;exact⟨l,H.kp k G,h2⟩
theorem DT (all:List Tx):M8 (NQ all):=λj v w w' S h k G hj=>by
 obtain⟨l,H,h2⟩:=h hj;exact⟨l,H.kp k G,h2⟩
theorem Jp {all l:List Tx}{ns:List Nat}(h:ns.map (λn=>all[n]?)=l.map some):MO all ns (·∈l):=by
 constructor
 ·intro n J;have G:all[n]?∈l.map some:=h▸Pw.2 ⟨n,J,rfl⟩;obtain⟨t,h2,H⟩:=Pw.1 G;obtain⟨h4,h5⟩:=PB.1 H.symm;exact⟨h4,h5▸h2⟩
 ·intro t V;have G:some t∈ns.map (λn=>all[n]?):=h▸Pw.2 ⟨t,V,rfl⟩;obtain⟨n,h2,H⟩:=Pw.1 G;obtain⟨h4,h5⟩:=PB.1 H;exact⟨n,h2,h4,h5⟩
theorem Kv {all:List Tx}{ns:List Nat}{i:Nat}(hi:i< all.length)(G:∀n∈ns,∃h:n< all.length,n9 all[i] all[n])(h2:i∈ns)(H:∀n∈ns,∀m∈B3 (all.getD n []),∃k∈ns,all[k]?=some m):MO all ns (n9 all[i]):=by
 refine⟨G,λt J=>?_⟩
 induction J with
 | refl=>exact⟨i,h2,hi,rfl⟩
 | step _ hu V=>
  obtain⟨n,h4,h5,rfl⟩:=V;obtain⟨k,W,Z⟩:=H n h4 _ (by rw [P9,OH h5];exact hu);obtain⟨h8,h9⟩:=PB.1 Z;exact⟨k,W,h8,h9⟩
theorem ET {all:List Tx}{ns:List Nat}(G:ns.Nodup)(h:∀n∈ns,n< all.length):ns.length<=all.length:=by
 have :=G.length_le_of_subset (l₂:=List.range all.length) λn H=>Qc.2 (h n H)
 rwa [QR]at this
structure OB (B:Nat)(w:World)(va vx:Value)(all:List Tx):Prop where
 a:Strs w va all
 x:∀w2 c,Kp w w2 (λg=>g< B)->w2.cell? ⟨c,3,none⟩=some vx->∃xs,I1 w2 c all.length vx xs (Az all sI)
end Go.Proofs.YtdecokaadekjnaaGreat
